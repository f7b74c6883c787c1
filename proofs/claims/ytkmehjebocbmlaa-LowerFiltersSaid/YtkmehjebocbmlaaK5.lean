/- Part 5 of the abstract machine and of the functions' walks. Conditions: with each theorem. -/
import Derived.Test.YtkmehjebocbmlaaK4
set_option maxHeartbeats 4000000
set_option linter.unusedSectionVars false
set_option linter.unusedSimpArgs false
set_option linter.unusedVariables false
set_option linter.unnecessarySimpa false
set_option linter.defProp false
section
namespace Go.Kc
variable [Cur]
variable {P:Program} {n:Nat} {C:qW} {d:Bool} {Q:Tr AV->Hp->Prop} {t:Tr AV} {h:Hp} {k:AV->Hp->Prop}

def evA(v:AV)(k:AV->Prop):Prop:=k v
omit [Cur] in
@[congr] theorem qm9 {v v':AV} {k:AV->Prop} {mk:Prop} (_:zw=mk) (h:v=v'):evA v k=evA v' k:=by rw[h]
theorem qiK{v:AV}{k:AV->Prop}:evA v k↔k v:=Iff.rfl
def evL(v:List AV)(k:List AV->Prop):Prop:=k v
omit [Cur] in
@[congr] theorem qnb {v v':List AV} {k:List AV->Prop} {mk:Prop} (_:zw=mk) (h:v=v'):evL v k=evL v' k:=by rw[h]
theorem qiL{v:List AV}{k:List AV->Prop}:evL v k↔k v:=Iff.rfl
def evN(v:Nat)(k:Nat->Prop):Prop:=k v
omit [Cur] in
@[congr] theorem qnc {v v':Nat} {k:Nat->Prop} {mk:Prop} (_:zw=mk) (h:v=v'):evN v k=evN v' k:=by rw[h]
theorem qiM{v:Nat}{k:Nat->Prop}:evN v k↔k v:=Iff.rfl
def evT(v:Bool)(k:Bool->Prop):Prop:=k v
omit [Cur] in
@[congr] theorem qne {v v':Bool} {k:Bool->Prop} {mk:Prop} (_:zw=mk) (h:v=v'):evT v k=evT v' k:=by rw[h]
theorem qiN{v:Bool}{k:Bool->Prop}:evT v k↔k v:=Iff.rfl
def evB(o:Option Blk)(k:Blk->Prop):Prop:=∃v,o=some v∧k v
omit [Cur] in
@[congr] theorem qna {o o':Option Blk} {k:Blk->Prop} {mk:Prop} (_:zw=mk) (h:o=o'):evB o k=evB o' k:=by rw[h]
theorem qgd{v:Blk}{k:Blk->Prop}:evB (some v) k↔k v:=by simp[evB]
def ifK(c:Prop)(p:Prop):Prop:=c∧p
omit [Cur] in
@[congr] theorem qnf {c c' p:Prop} {mk:Prop} (_:zw=mk) (h:c=c'):ifK c p=ifK c' p:=by rw[h]
theorem qcI{p:Prop}:ifK True p↔p:=by simp[ifK]
omit [Cur] in
theorem qi4{c c' p:Prop}:ifK (c∧c') p↔ifK c (ifK c' p):=by simp[ifK,and_assoc]
omit [Cur] in
theorem qef{x:Bool}{p:Prop}:qi x p↔ifK (x=true) p:=qa _ _
omit [Cur] in
theorem zL{n:Nat}{k:Nat->Prop}:qn n k↔evN n k:=by rw[qq];exact Iff.rfl
omit [Cur] in
theorem Q1{n:Bool}{k:Bool->Prop}:qD n k↔evT n k:=by rw[qw];exact Iff.rfl
@[congr] theorem qiO {n:Bool} {k:Bool->Prop} {mk:Prop} (_:zw=mk):qD n k=qD n k:=rfl
@[congr] theorem qkH {n:Bool} {k:Prop} {mk:Prop} (_:zw=mk):qi n k=qi n k:=rfl
theorem qoM{x:Bool}{k:Bool->Prop}:unB (.b x) k↔k x:=Iff.rfl
omit [Cur] in
theorem qkg{b o:Nat}{k:Nat->Nat->Prop}:unP (.ptr b o) k↔k b o:=Iff.rfl
omit [Cur] in
theorem qoN{q:IntKind}{z:Int}{k:IntKind->Int->Prop}:unI (.i q z) k↔k q z:=Iff.rfl
omit [Cur] in
theorem qoO{q:IntKind}{z:Int}{k:Nat->Prop}:unN (.i q z) k↔ifK (0<=z) (evN z.toNat k):=by
 cases z with
 | ofNat m=>exact⟨fun h=>⟨Int.natCast_nonneg m,h⟩,fun h=>h.2⟩
 | negSucc m=>exact⟨fun h=>h.elim,fun h=>absurd h.1 (by omega)⟩
omit [Cur] in
@[congr] theorem qns {x:AV} {k:Bool->Prop} {mk:Prop} (_:zw=mk):unB x k=unB x k:=rfl
@[congr] theorem qnv {x:AV} {k:Nat->Nat->Prop} {mk:Prop} (_:zw=mk):unP x k=unP x k:=rfl
@[congr] theorem qnt {x:AV} {k:IntKind->Int->Prop} {mk:Prop} (_:zw=mk):unI x k=unI x k:=rfl
@[congr] theorem qnu {x:AV} {k:Nat->Prop} {mk:Prop} (_:zw=mk):unN x k=unN x k:=rfl

section
variable {q q':IntKind} {n m:Int} {a c:List UInt8} {k:AV->Prop}
omit [Cur] in
theorem qcy{z:Int}:zJ (QT q z) (fun r=>k (.i q r))↔evA (.i q (q.wrap z)) k:=by
 rw[qU,w7];exact Iff.rfl
omit [Cur] in
theorem qie:zB qx .lss (.i q n) (.i q m) k↔evA (.b (decide (n<m))) k:=by simp[zB,zy,qa,wz,evA]
omit [Cur] in
theorem qic:zB qx .gtr (.i q n) (.i q m) k↔evA (.b (decide (m<n))) k:=by simp[zB,zy,qa,wz,evA]
omit [Cur] in
theorem qib:zB qx .geq (.i q n) (.i q m) k↔evA (.b (decide (m<=n))) k:=by
 simp only[zB,zy,qa,wz,qw,decide_true,true_and,evA];rw[← decide_not];simp
omit [Cur] in
theorem qid:zB qx .leq (.i q n) (.i q m) k↔evA (.b (decide (n<=m))) k:=by
 simp only[zB,zy,qa,wz,qw,decide_true,true_and,evA];rw[← decide_not];simp
omit [Cur] in
theorem qia:zB qx .eql (.i q n) (.i q m) k↔evA (.b (decide (n=m))) k:=by
 simp only[zB,zy,qa,k9,qw,decide_true,true_and,evA];rw[show (n==m)=decide (n=m) from by rw[Bool.eq_iff_iff];simp]
omit [Cur] in
theorem qig:zB qx .neq (.i q n) (.i q m) k↔evA (.b (!decide (n=m))) k:=by
 simp only[zB,zy,qa,k9,qw,decide_true,true_and,evA];rw[show (n==m)=decide (n=m) from by rw[Bool.eq_iff_iff];simp]
omit [Cur] in
theorem qh7:zB qx .add (.i q n) (.i q m) k↔evA (.i q (q.wrap (n+m))) k:=by
 simp only[zB,zy,qa,w7,qU,decide_true,true_and];exact Iff.rfl
omit [Cur] in
theorem qij:zB qx .sub (.i q n) (.i q m) k↔evA (.i q (q.wrap (n-m))) k:=by
 simp only[zB,zy,qa,w7,qU,decide_true,true_and];exact Iff.rfl
omit [Cur] in
theorem qif:zB qx .mul (.i q n) (.i q m) k↔evA (.i q (q.wrap (n*m))) k:=by
 simp only[zB,zy,qa,w7,qU,decide_true,true_and];exact Iff.rfl
def orI(q:IntKind)(x y:Int):Int:=q.wrap (BitVec.ofInt q.bits x ||| BitVec.ofInt q.bits y).toNat
def w9(q:IntKind)(x y:Int):Int:=q.wrap (BitVec.ofInt q.bits x &&& BitVec.ofInt q.bits y).toNat
def qoT(q:IntKind)(x y:Int):Int:=q.wrap (BitVec.ofInt q.bits x ^^^ BitVec.ofInt q.bits y).toNat
def qbH(q:IntKind)(x y:Int):Int:=q.wrap (BitVec.ofInt q.bits x &&& ~~~ (BitVec.ofInt q.bits y)).toNat
omit [Cur] in
theorem qk3:zB qx .or (.i q n) (.i q m) k↔evA (.i q (orI q n m)) k:=by
 simp only[zB,zy,qa,qU,decide_true,true_and,orI,evA]
omit [Cur] in
theorem qh8:zB qx .and (.i q n) (.i q m) k↔evA (.i q (w9 q n m)) k:=by
 simp only[zB,zy,qa,qU,decide_true,true_and,w9,evA]
omit [Cur] in
theorem qik:zB qx .xor (.i q n) (.i q m) k↔evA (.i q (qoT q n m)) k:=by
 simp only[zB,zy,qa,qU,decide_true,true_and,qoT,evA]
omit [Cur] in
theorem qh9:zB qx .andNot (.i q n) (.i q m) k↔evA (.i q (qbH q n m)) k:=by
 simp only[zB,zy,qa,qU,decide_true,true_and,qbH,evA]
def qpJ(q:IntKind)(x m:Int):Int:=x.fdiv (2 ^ min m.toNat q.bits)
def qpI(q:IntKind)(x m:Int):Int:=q.wrap (x*2 ^ min m.toNat q.bits)
omit [Cur] in
theorem qii{q2:IntKind}:zB qx .shr (.i q n) (.i q2 m) k↔ifK (0<=m) (evA (.i q (qpJ q n m)) k):=by
 cases m with
 | ofNat m =>
  show qn (min m q.bits) (fun a=>zJ (n.fdiv (p2 a)) (fun r=>k (.i q r)))↔_
  rw[qq,qU,qd2];exact⟨fun h=>⟨Int.natCast_nonneg m,h⟩,fun h=>h.2⟩
 | negSucc m=>exact⟨fun h=>h.elim,fun h=>absurd h.1 (by omega)⟩
omit [Cur] in
theorem qih{q2:IntKind}:zB qx .shl (.i q n) (.i q2 m) k↔ifK (0<=m) (evA (.i q (qpI q n m)) k):=by
 cases m with
 | ofNat m =>
  show qn (min m q.bits) (fun a=>zJ (q.wrap (n*p2 a)) (fun r=>k (.i q r)))↔_
  rw[qq,qU,qd2];exact⟨fun h=>⟨Int.natCast_nonneg m,h⟩,fun h=>h.2⟩
 | negSucc m=>exact⟨fun h=>h.elim,fun h=>absurd h.1 (by omega)⟩
omit [Cur] in
theorem qav(x y:Int):eqI x y=decide (x=y):=by rw[k9,Bool.eq_iff_iff];simp
omit [Cur] in
theorem jw(h:m≠0):zB qx .quo (.i q n) (.i q m) k↔evA (.i q (q.wrap (n.tdiv m))) k:=by
 simp only[zB,zy,qa,w7,qU,decide_true,true_and,qav,decide_eq_false h];exact Iff.rfl
omit [Cur] in
theorem vb(h:m≠0):zB qx .rem (.i q n) (.i q m) k↔evA (.i q (n.tmod m)) k:=by
 simp only[zB,zy,qa,qU,decide_true,true_and,qav,decide_eq_false h];exact Iff.rfl
omit [Cur] in
theorem qfE:zB qx .eql (.s a) (.s c) k↔evA (.b (decide (a=c))) k:=by
 simp only[zB,jR,jz,qw,evA];rw[show (a==c)=decide (a=c) from by rw[Bool.eq_iff_iff];simp]
omit [Cur] in
theorem qfJ:zB qx .neq (.s a) (.s c) k↔evA (.b (!decide (a=c))) k:=by
 simp only[zB,jR,jz,qw,evA];rw[show (a==c)=decide (a=c) from by rw[Bool.eq_iff_iff];simp]
omit [Cur] in
theorem qfD:zB qx .add (.s a) (.s c) k↔ifK (a.length+c.length<=9223372036854775807) (evA (.s (a++c)) k):=by
 show (Bool.rec (motive:=fun _=>Prop) False (k (.s (a++c))) (Nat.ble (a.length+c.length) 9223372036854775807):Prop)↔_
 rw[show (a.length+c.length<=9223372036854775807)=(Nat.ble (a.length+c.length) 9223372036854775807=true) from propext ⟨Nat.ble_eq_true_of_le,Nat.le_of_ble_eq_true⟩]
 cases Nat.ble (a.length+c.length) 9223372036854775807
 ·exact⟨False.elim,fun h=>by cases h.1⟩
 ·exact⟨fun h=>⟨rfl,h⟩,fun h=>h.2⟩
omit [Cur] in
theorem qfI:zB qx .lss (.s a) (.s c) k↔evA (.b (ltS a c)) k:=by simp only[zB,jR,qw,evA]
omit [Cur] in
theorem qfF:zB qx .geq (.s a) (.s c) k↔evA (.b (!ltS a c)) k:=by simp only[zB,jR,qw,evA]
omit [Cur] in
theorem qfH:zB qx .leq (.s a) (.s c) k↔evA (.b (ltS a c||decide (a=c))) k:=by
 simp only[zB,jR,jz,qw,evA];rw[show (a==c)=decide (a=c) from by rw[Bool.eq_iff_iff];simp]
omit [Cur] in
theorem qfG:zB qx .gtr (.s a) (.s c) k↔evA (.b (!(ltS a c||decide (a=c)))) k:=by
 simp only[zB,jR,jz,qw,evA];rw[show (a==c)=decide (a=c) from by rw[Bool.eq_iff_iff];simp]
omit [Cur] in
theorem qm4{x:Bool}:vm .not (.b x) k↔evA (.b (!x)) k:=by simp only[vm,qw,evA]
omit [Cur] in
theorem qm3:vm .neg (.i q n) k↔evA (.i q (q.wrap (0-n))) k:=by simp only[vm,qU,evA]
omit [Cur] in
theorem qz{x:Int}(h1:-9223372036854775808<=x)(h2:x<=9223372036854775807):IntKind.wrap .i64 x=x:=by
 simp[IntKind.wrap,IntKind.bits,IntKind.signed];omega
omit [Cur] in
theorem vn{x:Int}(h1:0<=x)(h2:x<=18446744073709551615):IntKind.wrap .u64 x=x:=by
 simp[IntKind.wrap,IntKind.bits,IntKind.signed];omega
omit [Cur] in
theorem qb7{x:Int}(h1:0<=x)(h2:x<=4294967295):IntKind.wrap .u32 x=x:=by
 simp[IntKind.wrap,IntKind.bits,IntKind.signed];omega
omit [Cur] in
theorem qo4:cvK qx q (.i q' n) k↔evA (.i q (q.wrap n)) k:=by
 show zJ (QT q n) (fun r=>k (.i q r))↔_
 exact qcy
end

theorem ql5{s f:Nat}{tr:Tr Blk}{x:Blk}{k:Nat->Hp->Prop}:zT ⟨s,f,tr⟩ x k↔evN (s+1) (fun s'=>k s ⟨s',f,tr.set s x⟩):=by
 rw[zg];exact Iff.rfl
omit [Cur] in
theorem qmF{s f b:Nat}{tr:Tr Blk}{x:Blk}{k:Hp->Prop}:xN ⟨s,f,tr⟩ b x k↔ifK (f<=b) (k ⟨s,f,tr.set b x⟩):=xq _ _ _ _
omit [Cur] in
theorem qkG{s f:Nat}{tr:Tr Blk}:Hp.up ⟨s,f,tr⟩=⟨s,s,tr⟩:=rfl
omit [Cur] in
theorem qdM{s f f':Nat}{tr:Tr Blk}:Hp.down ⟨s,f,tr⟩ f'=⟨s,f',tr⟩:=rfl
def xY(x:Blk)(k:Nat->Bool->Bool->List AV->Prop):Prop:=match x with | .cells e w a cs=>k e w a cs|_=>False
omit [Cur] in
@[congr] theorem qis {x x':Blk} {k:Nat->Bool->Bool->List AV->Prop} {mk:Prop} (_:zw=mk) (h:x=x'):xY x k=xY x' k:=by rw[h]
theorem qbE{e:Nat}{w a:Bool}{cs:List AV}{k:Nat->Bool->Bool->List AV->Prop}:xY (.cells e w a cs) k↔k e w a cs:=Iff.rfl
omit [Cur] in
theorem yy{b:Nat}{k:Nat->Bool->Bool->List AV->Prop}:xE h b k↔evB (h.tr.get b) (fun x=>xY x k):=by
 rw[qK];constructor
 ·rintro⟨e,w,a,cs,h1,h2⟩;exact⟨_,h1,h2⟩
 ·rintro⟨x,h1,h2⟩;cases x with
  | cells e w a cs=>exact⟨e,w,a,cs,h1,h2⟩
  | dead=>exact h2.elim
  | map es=>exact h2.elim
def k7(cs:List AV)(o n:Nat)(k:List AV->Prop):Prop:=o<=cs.length∧n<=(cs.drop o).length∧k ((cs.drop o).take n)
theorem qiF{cs:List AV}{o n:Nat}{k:List AV->Prop}:k7 cs o n k↔ifK (o+n<=cs.length) (evL ((cs.drop o).take n) k):=by
 unfold k7 ifK;rw[List.length_drop];exact⟨fun⟨h1,h2,h3⟩=>⟨by omega,h3⟩,fun⟨h1,h2⟩=>⟨by omega,by omega,h2⟩⟩
omit [Cur] in
theorem drop_take{cs:List AV}{o n:Nat}{k:List AV->Prop}:wc o cs (fun l=>jr n l k)↔k7 cs o n k:=by
 rw[qX,qM];exact Iff.rfl
omit [Cur] in
theorem qgD{b o:Nat}{k:AV->Prop}:ldV h (.ptr b o) k↔evB (h.tr.get b) (fun x=>xY x (fun _ _ _ cs=>evO cs[o]? k)):=by
 show xE h b (fun _ _ _ cs=>Qk cs o k)↔_
 rw[yy]
 have:(fun (_:Nat) (_ _:Bool) (cs:List AV)=>Qk cs o k)=fun _ _ _ cs=>evO cs[o]? k:=by
  funext _ _ _ cs;exact propext (zH _ _ _)
 rw[this]
omit [Cur] in
theorem qoi{cs:List AV}{o:Nat}{k:AV->Prop}:ldV h (.pf cs o) k↔evO cs[o]? k:=zH _ _ _
omit [Cur] in
theorem qog{b o:Nat}{k:AV->Prop}:ldK h b o k↔evB (h.tr.get b) (fun x=>xY x (fun _ _ _ cs=>evO cs[o]? k)):=qgD
omit [Cur] in
theorem qgE{b o n:Nat}{k:List AV->Prop}:jT h b o n k↔evB (h.tr.get b) (fun x=>xY x (fun _ _ _ cs=>k7 cs o n k)):=by
 show xE h b (fun _ _ _ cs=>wc o cs (fun l=>jr n l k))↔_
 rw[yy];simp only[drop_take]
omit [Cur] in
theorem qje{b o n:Nat}{k:List AV->Prop}:Zt h (.ptr b o) n k↔evB (h.tr.get b) (fun x=>xY x (fun _ _ _ cs=>k7 cs o n k)):=qgE
omit [Cur] in
theorem qlO{cs:List AV}{o n:Nat}{k:List AV->Prop}:Zt h (.pf cs o) n k↔k7 cs o n k:=drop_take
omit [Cur] in
theorem qjp{b o n:Nat}{k:AV->Prop}:Qj (.ptr b o) n k↔evN (o+n) (fun o'=>k (.ptr b o')):=zL (n:=o+n) (k:=fun o'=>k (.ptr b o'))
omit [Cur] in
theorem ql2{cs:List AV}{o n:Nat}{k:AV->Prop}:Qj (.pf cs o) n k↔evN (o+n) (fun o'=>k (.pf cs o')):=zL (n:=o+n) (k:=fun o'=>k (.pf cs o'))
omit [Cur] in
@[congr] theorem ql1 {p:AV} {n:Nat} {k:AV->Prop} {mk:Prop} (_:zw=mk):Qj p n k=Qj p n k:=rfl
theorem qpK{b o:Nat}{vs:List AV}{k:Hp->Prop}:stK h b o vs k↔evB (h.tr.get b) (fun x=>xY x (fun e w a cs=>ifK (w=true∧qA vs=true∧o+vs.length<=cs.length) (evL (cs.take o++(vs++cs.drop (o+vs.length))) (fun cs'=>xN h b (.cells e true a cs') k)))):=by
 show xE h b _↔_;rw[yy]
 have:(fun (e:Nat) (w a:Bool) (cs:List AV)=>(Bool.rec (motive:=fun _=>Prop) False (Bool.rec (motive:=fun _=>Prop) False (zW vs o cs (fun cs'=>xN h b (.cells e w a cs') k)) (qA vs)) w:Prop)) =
   fun e w a cs=>ifK (w=true∧qA vs=true∧o+vs.length<=cs.length) (evL (cs.take o++(vs++cs.drop (o+vs.length))) (fun cs'=>xN h b (.cells e true a cs') k)):=by
  funext e w a cs;refine propext ?_;cases w with
  | false=>exact⟨False.elim,fun hh=>by have:=hh.1.1;cases this⟩
  | true =>
   cases hc:qA vs with
   | false=>exact⟨False.elim,fun hh=>by have:=hh.1.2.1;cases this⟩
   | true=>exact (zX _ _ _ _).trans ⟨fun⟨h1,h2⟩=>⟨⟨rfl,rfl,h1⟩,h2⟩,fun⟨⟨_,_,h1⟩,h2⟩=>⟨h1,h2⟩⟩
 rw[this]
def stV(h:Hp)(b o:Nat)(v:AV)(n:Nat)(k:Hp->Prop):Prop:=qi (k8 v) (yN (cellsOf v) (fun m=>qi (Nat.beq m n) (stK h b o (cellsOf v) k)))
theorem kq{x y:Nat}:Nat.beq x y=true↔x=y:=⟨Nat.eq_of_beq_eq_true,fun h=>h ▸ Nat.beq_refl x⟩
theorem qkd{b o:Nat}{v:AV}{n:Nat}{k:Hp->Prop}:stV h b o v n k↔ifK (k8 v=true) (evL (cellsOf v) (fun cs=>ifK (cs.length=n) (stK h b o cs k))):=by
 unfold stV;rw[qa,xj,qa,kq];exact Iff.rfl
omit [Cur] in
theorem zV{x y:Nat}:Nat.ble x y=true↔x<=y:=⟨Nat.le_of_ble_eq_true,Nat.ble_eq_true_of_le⟩

theorem qmz{x:O}:opK qx (.mov x) t h k↔evK t x (fun v=>k v h):=Iff.rfl
omit [Cur] in
theorem vz{b:Bool}{p q:Prop}:(Bool.rec (motive:=fun _=>Prop) q p b:Prop)↔if b=true then p else q:=by cases b<;>simp
omit [Cur] in
theorem qjJ{c x y:O}:opK qx (.pick c x y) t h k↔evK t c (fun c=>unB c (fun c=>if c=true then evK t x (fun v=>k v h) else evK t y (fun v=>k v h))):=by
 show evK t c (fun c=>unB c (fun c=>Bool.rec (motive:=fun _=>Prop) (evK t y (fun v=>k v h)) (evK t x (fun v=>k v h)) c))↔_
 simp only[vz]
omit [Cur] in
theorem qhf{z:List AV}:opK qx (.alloc z) t h k↔zT h (.cells 0 true false z) (fun b h'=>k (.ptr b 0) h'):=Iff.rfl
omit [Cur] in
theorem qmm{x:O}:opK qx (.box x) t h k↔evK t x (fun v=>qi (k8 v) (evL (cellsOf v) (fun cs=>zT h (.cells 0 true false cs) (fun b h'=>k (.ptr b 0) h')))):=Iff.rfl
omit [Cur] in
theorem qhg{z:List AV}{ps:List (Nat×Nat×O)}:opK qx (.build z ps) t h k↔xB t ps z (fun cs=>k (.agg cs) h):=Iff.rfl
omit [Cur] in
theorem qe1{n:Nat}{z:List AV}{ps:List (Nat×Nat×O)}:opK qx (.buildS n z ps) t h k↔evL (List.replicate n z).flatten (fun cs=>xB t ps cs (fun cs=>zT h (.cells 0 true false cs) (fun b h'=>k (.sl b 0 n n false) h'))):=by
 show QN z n _↔_;rw[xr];exact Iff.rfl
omit [Cur] in
theorem qhl{x:O}:opK qx (.load1 x) t h k↔evK t x (fun p=>ldV h p (fun v=>k v h)):=Iff.rfl
omit [Cur] in
theorem qhm{n:Nat}{x:O}:opK qx (.loadN n x) t h k↔evK t x (fun p=>Zt h p n (fun cs=>k (.agg cs) h)):=Iff.rfl
omit [Cur] in
theorem qhp{n:Nat}{x v:O}:opK qx (.store n x v) t h k↔evK t x (fun p=>unP p (fun b o=>evK t v (fun v=>stV h b o v n (fun h'=>k .undef h')))):=Iff.rfl
def qbn(v:AV)(k:AV->Prop):Prop:=match v with | .ptr b o=>k (.ptr b o) | .fn f a c=>k (.fn f a c) | .map r=>k (.map r) | .pf cs o=>k (.pf cs o) | .yl b=>k (.yl b)|_=>False
theorem qe4{x:O}:opK qx (.nilChk x) t h k↔evK t x (fun v=>qbn v (fun v=>k v h)):=by
 show evK t x (fun v=>_)↔_
 refine iff_of_eq (congrArg _ (funext fun v=>?_))
 cases v<;>rfl
omit [Cur] in
theorem qml{op:BinOp}{x y:O}:opK qx (.bin op x y) t h k↔evK t x (fun x=>evK t y (fun y=>zB qx op x y (fun v=>k v h))):=Iff.rfl
omit [Cur] in
theorem qmp{neg:Bool}{x y:O}:opK qx (.eqB neg x y) t h k↔evK t x (fun x=>evK t y (fun y=>unB x (fun x=>unB y (fun y=>evT (xor neg (x==y)) (fun r=>k (.b r) h))))):=by
 show evK t x (fun x=>evK t y (fun y=>unB x (fun x=>unB y (fun y=>qD _ _))))↔_
 simp only[Q1]
omit [Cur] in
theorem qmq{neg:Bool}{q:NK}{x:O}:opK qx (.eqN neg q x) t h k↔evK t x (fun x=>xb q x (fun r=>evT (xor neg r) (fun r=>k (.b r) h))):=by
 show evK t x (fun x=>xb q x (fun r=>qD _ _))↔_
 simp only[Q1]
omit [Cur] in
theorem qmo{neg:Bool}{ks:List PK}{x y:O}:opK qx (.eqA neg ks x y) t h k↔evK t x (fun x=>evK t y (fun y=>match x with | .agg a=>(match y with | .agg c=>xh ks a c (fun r=>qD (xor neg r) (fun r=>k (.b r) h))|_=>False)|_=>False)):=Iff.rfl
omit [Cur] in
theorem qoC{op:UnOp}{x:O}:opK qx (.un op x) t h k↔evK t x (fun x=>vm op x (fun v=>k v h)):=Iff.rfl
omit [Cur] in
theorem qhi{q:IntKind}{x:O}:opK qx (.cvInt q x) t h k↔evK t x (fun x=>cvK qx q x (fun v=>k v h)):=Iff.rfl
theorem qhj{x:O}:opK qx (.cvStr x) t h k↔evK t x (fun x=>match x with | .s a=>k (.s a) h|_=>False):=Iff.rfl
omit [Cur] in
theorem qmA{x:O}:opK qx (.s2b x) t h k↔evK t x (fun x=>match x with | .s a=>zT h (.cells 1 true true (a.map fun c=>.i .u8 (Int.ofNat c.toNat))) (fun b h'=>k (.own b a.length) h')|_=>False):=by
 show evK t x (fun x=>_)↔_
 refine iff_of_eq (congrArg _ (funext fun v=>?_))
 cases v<;>first|rfl|exact qq _ _
omit [Cur] in
theorem qmk{x:O}:opK qx (.b2s x) t h k↔evK t x (fun x=>match x with
  | .nils=>k (.s []) h
  | .sl b o n _ _=>jT h b o n (fun cs=>zC cs (fun l=>k (.s l) h))
  | .fz n cs=>k7 cs 0 n (fun cs=>zC cs (fun l=>k (.s l) h))
  | .e0=>k (.s []) h
  | .own b n=>jT h b 0 n (fun cs=>zC cs (fun l=>k (.s l) h))
  | _=>False):=by
 show evK t x (fun x=>_)↔_
 refine iff_of_eq (congrArg _ (funext fun v=>?_))
 cases v<;>first|rfl|exact propext ((qM _ _ _).trans ⟨fun hh=>⟨Nat.zero_le _,by simpa using hh⟩,fun hh=>by simpa using hh.2⟩)
omit [Cur] in
theorem qhk{off:Nat}{x:O}:opK qx (.fAddr off x) t h k↔evK t x (fun p=>Qj p off (fun v=>k v h)):=Iff.rfl
def qlw(off:Nat)(n:Option Nat)(x:AV)(k:AV->Prop):Prop:=match x with
 | .agg cs=>(match n with|none=>evO cs[off]? k|some n=>k7 cs off n (fun l=>k (.agg l)))
 | _=>False
theorem qgl{off:Nat}{cs:List AV}{k:AV->Prop}:qlw off none (.agg cs) k↔evO cs[off]? k:=Iff.rfl
omit [Cur] in
theorem qgm{off n:Nat}{cs:List AV}{k:AV->Prop}:qlw off (some n) (.agg cs) k↔k7 cs off n (fun l=>k (.agg l)):=Iff.rfl
omit [Cur] in
theorem qms{off:Nat}{n:Option Nat}{x:O}:opK qx (.fld off n x) t h k↔evK t x (fun x=>qlw off n x (fun v=>k v h)):=by
 show evK t x (fun x=>_)↔_
 refine iff_of_eq (congrArg _ (funext fun v=>?_))
 cases v<;>first|rfl|skip
 cases n with
 | none=>exact propext (zH _ _ _)
 | some n=>exact propext drop_take
omit [Cur] in
theorem qe2{len esz:Nat}{x i:O}:opK qx (.iAddrA len esz x i) t h k↔evK t x (fun p=>evK t i (fun i=>unN i (fun i=>ifK (i<len) (evN (i*esz) (fun o=>Qj p o (fun v=>k v h)))))):=by
 show evK t x (fun p=>evK t i (fun i=>unN i (fun i=>qi (Nat.ble (Nat.succ i) len) _)))↔_
 simp only[qa,zV];exact Iff.rfl
def ixK(esz:Nat)(x:AV)(i:Nat)(k:AV->Prop):Prop:=match x with
 | .sl b o len _ _=>ifK (i<len) (evN (o+i*esz) (fun o'=>k (.ptr b o')))
 | .fz len cs=>ifK (i<len) (evN (i*esz) (fun o'=>k (.pf cs o')))
 | .own b len=>ifK (i<len) (evN (i*esz) (fun o'=>k (.ptr b o')))
 | _=>False
theorem qod{esz i b o len cap:Nat}{l:Bool}{k:AV->Prop}:ixK esz (.sl b o len cap l) i k↔ifK (i<len) (evN (o+i*esz) (fun o'=>k (.ptr b o'))):=Iff.rfl
omit [Cur] in
theorem qoc{esz i len:Nat}{cs:List AV}{k:AV->Prop}:ixK esz (.fz len cs) i k↔ifK (i<len) (evN (i*esz) (fun o'=>k (.pf cs o'))):=Iff.rfl
omit [Cur] in
theorem qlH{esz i b len:Nat}{k:AV->Prop}:ixK esz (.own b len) i k↔ifK (i<len) (evN (i*esz) (fun o'=>k (.ptr b o'))):=Iff.rfl
def qbf(x:AV)(p:Prop):Prop:=match x with | .sl _ _ _ _ _=>p | .fz _ _=>p | .own _ _=>p|_=>False
omit [Cur] in
@[congr] theorem qkt {x:AV} {p:Prop} {mk:Prop} (_:zw=mk):qbf x p=qbf x p:=rfl
theorem qgA{b o len cap:Nat}{l:Bool}{p:Prop}:qbf (.sl b o len cap l) p↔p:=Iff.rfl
omit [Cur] in
theorem qgz{len:Nat}{cs:List AV}{p:Prop}:qbf (.fz len cs) p↔p:=Iff.rfl
omit [Cur] in
theorem qeN{b len:Nat}{p:Prop}:qbf (.own b len) p↔p:=Iff.rfl
omit [Cur] in
theorem qe3{esz:Nat}{x i:O}:opK qx (.iAddrS esz x i) t h k↔evK t x (fun x=>qbf x (evK t i (fun i=>unN i (fun i=>ixK esz x i (fun v=>k v h))))):=by
 show evK t x (fun x=>_)↔_
 refine iff_of_eq (congrArg _ (funext fun v=>?_))
 cases v<;>first|rfl|(simp only[qa,zV,zL];rfl)
omit [Cur] in
theorem qjH{len esz:Nat}{agg:Bool}{x i:O}:opK qx (.idxA len esz agg x i) t h k↔evK t x (fun x=>match x with
  | .agg cs=>evK t i (fun i=>unN i (fun i=>ifK (i<len) (evN (i*esz) (fun o=>if agg=true then k7 cs o esz (fun l=>k (.agg l) h) else evO cs[o]? (fun v=>k v h)))))
  | _=>False):=by
 show evK t x (fun x=>_)↔_
 refine iff_of_eq (congrArg _ (funext fun v=>?_))
 cases v<;>first|rfl|skip
 simp only[qa,zV,zL,vz,drop_take];have:∀(cs:List AV) (o:Nat),Qk cs o (fun v=>k v h)=evO cs[o]? (fun v=>k v h):=fun cs o=>propext (zH _ _ _)
 simp only[this];rfl
def evC(o:Option UInt8)(k:UInt8->Prop):Prop:=∃v,o=some v∧k v
theorem qcu{v:UInt8}{k:UInt8->Prop}:evC (some v) k↔k v:=by simp[evC]
theorem qjI{x i:O}:opK qx (.idxS x i) t h k↔evK t x (fun x=>match x with
  | .s a=>evK t i (fun i=>unN i (fun i=>evC a[i]? (fun c=>k (.i .u8 (c.toNat:Int)) h)))
  | _=>False):=by
 show evK t x (fun x=>_)↔_
 refine iff_of_eq (congrArg _ (funext fun v=>?_))
 cases v<;>first|rfl|skip
 rename_i a
 have e:∀(j:Nat),(Option.rec (motive:=fun _=>Prop) False (fun c=>k (.i .u8 (Int.ofNat c.toNat)) h) (a[j]?):Prop)=evC a[j]? (fun c=>k (.i .u8 (c.toNat:Int)) h):=by
  intro j;cases ha:a[j]? with
  | none=>exact propext ⟨False.elim,fun⟨_,h1,_⟩=>by cases h1⟩
  | some c=>exact (propext (qcu (k:=fun c=>k (.i .u8 (c.toNat:Int)) h) (v:=c))).symm
 simp only[e]
def bdK(x:Option AV)(dflt top:Nat)(k:Nat->Prop):Prop:=yL x dflt top k
theorem qh4{a b:Nat}{k:Nat->Prop}:bdK none a b k↔k a:=Iff.rfl
omit [Cur] in
theorem qh5{v:AV}{a b:Nat}{k:Nat->Prop}:bdK (some v) a b k↔unN v (fun n=>ifK (n<=b) (k n)):=by
 show unN v (fun n=>qi (Nat.ble n b) (qn n k))↔_
 simp only[qa,zV,qq];exact Iff.rfl
omit [Cur] in
theorem qin{len cap:Nat}{lo:Option AV}{k:Nat->Nat->Nat->Prop}:zk len cap lo none none k↔ifK (len<=cap) (bdK lo 0 len (fun l=>k l len cap)):=by
 show qi (Nat.ble len cap) (yL lo 0 len (fun l=>k l len cap))↔_
 rw[qa,zV];exact Iff.rfl
omit [Cur] in
theorem qim{len cap:Nat}{lo:Option AV}{hi:AV}{k:Nat->Nat->Nat->Prop}:zk len cap lo (some hi) none k↔unN hi (fun u=>ifK (u<=cap) (bdK lo 0 u (fun l=>k l u cap))):=by
 show unN hi (fun u=>qi (Nat.ble u cap) (qn u (fun u=>yL lo 0 u (fun l=>k l u cap))))↔_
 simp only[qa,zV,qq];exact Iff.rfl
omit [Cur] in
theorem qio{len cap:Nat}{lo:Option AV}{hi mx:AV}{k:Nat->Nat->Nat->Prop}:zk len cap lo (some hi) (some mx) k↔unN mx (fun m=>ifK (m<=cap) (unN hi (fun u=>ifK (u<=m) (bdK lo 0 u (fun l=>k l u m))))):=by
 show unN mx (fun m=>qi (Nat.ble m cap) (qn m (fun m=>unN hi (fun u=>qi (Nat.ble u m) (qn u (fun u=>yL lo 0 u (fun l=>k l u m)))))))↔_
 simp only[qa,zV,qq];exact Iff.rfl
def slK(esz:Nat)(lo hi mx:Option AV)(x:AV)(h:Hp)(k:AV->Prop):Prop:=match x with
 | .nils=>zk 0 0 lo hi mx (fun _ _ _=>k .nils)
 | .e0=>zk 0 0 lo hi mx (fun _ _ _=>k .e0)
 | .fz n cs=>zk n n lo hi mx (fun l h' m=>if (mx.isSome&&Nat.beq m l)=true then k .e0 else evN (l*esz) (fun o=>evN (h'-l) (fun len'=>evN (len'*esz) (fun z=>k7 cs o z (fun l2=>k (.fz len' l2))))))
 | .sl b o len cap loose=>zk len cap lo hi mx (fun l h' m=>evN (if (loose&&mx.isNone)=false∧m=l then o else o+l*esz) (fun o'=>evN (h'-l) (fun len'=>evN (m-l) (fun cap'=>Zr h b esz (loose&&mx.isNone) (k (.sl b o' len' cap' (loose&&mx.isNone)))))))
 | .own b n=>match mx with
  | none=>if n=0 then zk 0 0 lo hi none (fun _ _ _=>k (.own b 0)) else zk n n lo hi none (fun l h' m=>evN (l*esz) (fun o'=>evN (h'-l) (fun len'=>evN (m-l) (fun cap'=>Zr h b esz true (k (.sl b o' len' cap' true))))))
  | some u=>if n=0 then zk 0 0 lo hi (some u) (fun _ _ _=>k (.own b 0)) else zk n n lo hi (some u) (fun l h' m=>evN (if m=l then 0 else l*esz) (fun o'=>evN (h'-l) (fun len'=>evN (m-l) (fun cap'=>k (.sl b o' len' cap' false)))))
 | _=>False
@[congr] theorem qlo {b esz:Nat} {c:Bool} {p:Prop} {mk:Prop} (_:zw=mk):Zr h b esz c p=Zr h b esz c p:=rfl
theorem qeD{b esz:Nat}{p:Prop}:Zr h b esz false p↔p:=Iff.rfl
theorem qgc{b esz:Nat}{p:Prop}:Zr h b esz true p↔evB (h.tr.get b) (fun x=>xY x (fun e _ _ _=>ifK (e=esz) p)):=by
 show xE h b (fun e _ _ _=>qi (Nat.beq e esz) p)↔_
 rw[yy];simp only[qa,kq];exact Iff.rfl
omit [Cur] in
theorem qj9{esz:Nat}{lo hi mx:Option AV}{k:AV->Prop}:slK esz lo hi mx .nils h k↔zk 0 0 lo hi mx (fun _ _ _=>k .nils):=Iff.rfl
omit [Cur] in
theorem qoG{esz:Nat}{lo hi mx:Option AV}{k:AV->Prop}:slK esz lo hi mx .e0 h k↔zk 0 0 lo hi mx (fun _ _ _=>k .e0):=Iff.rfl
omit [Cur] in
theorem qoH{esz n:Nat}{cs:List AV}{lo hi:Option AV}{k:AV->Prop}:slK esz lo hi none (.fz n cs) h k↔zk n n lo hi none (fun l h' _=>evN (l*esz) (fun o=>evN (h'-l) (fun len'=>evN (len'*esz) (fun z=>k7 cs o z (fun l2=>k (.fz len' l2)))))):=by
 simp only[slK,Option.isSome_none,Bool.false_and,Bool.false_eq_true,if_false]
omit [Cur] in
theorem qmU{esz b o len cap:Nat}{lo hi mx:Option AV}{k:AV->Prop}:slK esz lo hi mx (.sl b o len cap false) h k↔zk len cap lo hi mx (fun l1 h' m=>evN (if m=l1 then o else o+l1*esz) (fun o'=>evN (h'-l1) (fun len'=>evN (m-l1) (fun cap'=>k (.sl b o' len' cap' false))))):=by
 simp only[slK,Bool.false_and,true_and];exact Iff.rfl
omit [Cur] in
theorem qmV{esz b o len cap:Nat}{lo hi:Option AV}{k:AV->Prop}:slK esz lo hi none (.sl b o len cap true) h k↔zk len cap lo hi none (fun l1 h' m=>evN (o+l1*esz) (fun o'=>evN (h'-l1) (fun len'=>evN (m-l1) (fun cap'=>Zr h b esz true (k (.sl b o' len' cap' true)))))):=by
 simp only[slK,Option.isNone_none,Bool.and_self,Bool.true_eq_false,false_and,if_false]
omit [Cur] in
theorem qmT{esz b n:Nat}{lo hi:Option AV}{k:AV->Prop}:slK esz lo hi none (.own b n) h k↔if n=0 then zk 0 0 lo hi none (fun _ _ _=>k (.own b 0)) else zk n n lo hi none (fun l h' m=>evN (l*esz) (fun o'=>evN (h'-l) (fun len'=>evN (m-l) (fun cap'=>Zr h b esz true (k (.sl b o' len' cap' true)))))):=by
 exact Iff.rfl
omit [Cur] in
theorem qjL{esz:Nat}{x:O}{lo hi mx:Option O}:opK qx (.slcS esz x lo hi mx) t h k↔evK t x (fun x=>jd t lo (fun lo=>jd t hi (fun hi=>jd t mx (fun mx=>slK esz lo hi mx x h (fun v=>k v h))))):=by
 show evK t x (fun x=>_)↔_
 refine iff_of_eq (congrArg _ (funext fun v=>congrArg _ (funext fun lo=>congrArg _ (funext fun hi=>congrArg _ (funext fun mx=>?_)))))
 cases v<;>first|rfl|skip
 ·simp only[slK,zL];rfl
 ·have e:∀(cs:List AV) (o m:Nat),wc o cs (fun l1=>evN m (fun len'=>jr (Nat.mul len' esz) l1 (fun l2=>k (.fz len' l2) h)))=evN m (fun len'=>evN (len'*esz) (fun z=>k7 cs o z (fun l2=>k (.fz len' l2) h))):=by
   intro cs o m;refine propext ⟨fun hh=>?_,fun hh=>?_⟩
   ·obtain⟨h1,h2⟩:=(qX _ _ _).1 hh;obtain⟨h3,h4⟩:=(qM _ _ _).1 h2;exact⟨h1,h3,h4⟩
   ·obtain⟨h1,h3,h4⟩:=hh;exact (qX _ _ _).2 ⟨h1,(qM _ _ _).2 ⟨h3,h4⟩⟩
  simp only[slK,zL,vz,e];rfl
 ·rename_i b n;cases mx with
  | some m =>
   cases n with
   | zero=>simp only[slK,if_true];rfl
   | succ n=>simp only[slK,Nat.succ_ne_zero,if_false,zL];rfl
  | none =>
   cases n with
   | zero=>simp only[slK,if_true];rfl
   | succ n=>simp only[slK,Nat.succ_ne_zero,if_false,zL];rfl
omit [Cur] in
theorem qe6{x:O}{lo hi:Option O}:opK qx (.slcStr x lo hi) t h k↔evK t x (fun x=>jd t lo (fun lo=>jd t hi (fun hi=>match x with
  | .s a=>zk a.length a.length lo hi none (fun l h' _=>evA (.s ((a.take h').drop l)) (fun v=>k v h))
  | _=>False))):=Iff.rfl
omit [Cur] in
theorem qjK{len esz:Nat}{x:O}{lo hi mx:Option O}:opK qx (.slcA len esz x lo hi mx) t h k↔evK t x (fun p=>unP p (fun b o=>jd t lo (fun lo=>jd t hi (fun hi=>jd t mx (fun mx =>
   zk len len lo hi mx (fun l h' m=>evN (if m=l then o else o+l*esz) (fun o'=>evN (h'-l) (fun len'=>evN (m-l) (fun cap'=>k (.sl b o' len' cap' false) h))))))))):=by
 show evK t x (fun p=>unP p (fun b o=>jd t lo (fun lo=>jd t hi (fun hi=>jd t mx (fun mx=>zk len len lo hi mx (fun l h' m=>qn (if m=l then o else Nat.add o (Nat.mul l esz)) _))))))↔_
 simp only[zL];exact Iff.rfl
theorem qmr{x:O}{i:Nat}:opK qx (.ext x i) t h k↔evK t x (fun x=>match x with | .tup cs=>evO cs[i]? (fun v=>k v h)|_=>False):=by
 show evK t x (fun x=>_)↔_
 refine iff_of_eq (congrArg _ (funext fun v=>?_))
 cases v<;>first|rfl|exact propext (zH _ _ _)
omit [Cur] in
theorem qmw{f:Nat}{a c:List O}:opK qx (.mkF f a c) t h k↔xD t a (fun a=>xD t c (fun c=>k (.fn f a c) h)):=Iff.rfl
omit [Cur] in
theorem qmy{e bytes:Nat}{z:List AV}{len cap:O}:opK qx (.mkS e bytes z len cap) t h k↔evK t len (fun len=>evK t cap (fun cap=>unN len (fun l=>unN cap (fun c=>ifK (l<=c) (ifK (c<=qd) (ifK (bytes*c<=qd) (evL (List.replicate c z).flatten (fun cs=>zT h (.cells 0 true false cs) (fun b h'=>k (.sl b 0 l c false) h'))))))))):=by
 show evK t len (fun len=>evK t cap (fun cap=>unN len (fun l=>unN cap (fun c=>qi (Nat.ble l c) (qi (Nat.ble c qd) (qi (Nat.ble (Nat.mul bytes c) qd) (QN z c _)))))))↔_
 simp only[qa,zV,xr];exact Iff.rfl
def lnK(str:Bool)(x:AV)(k:AV->Prop):Prop:=match x,str with
 | .nils,false=>k (.i .i64 0)
 | .e0,false=>k (.i .i64 0)
 | .nz,false=>k (.i .i64 0)
 | .fz n _,false=>evA (.i .i64 (n:Int)) k
 | .own _ n,false=>evA (.i .i64 (n:Int)) k
 | .sl _ _ n _ _,false=>evA (.i .i64 (n:Int)) k
 | .s a,true=>evA (.i .i64 (a.length:Int)) k
 | _,_=>False
theorem qmt{str:Bool}{x:O}:opK qx (.len str x) t h k↔evK t x (fun x=>lnK str x (fun v=>k v h)):=by
 show evK t x (fun x=>_)↔_
 refine iff_of_eq (congrArg _ (funext fun v=>?_))
 cases v<;>cases str<;>first|rfl|exact qq _ _
omit [Cur] in
theorem qjh{k:AV->Prop}:lnK false .nils k↔k (.i .i64 0):=Iff.rfl
omit [Cur] in
theorem qol{k:AV->Prop}:lnK false .nz k↔k (.i .i64 0):=Iff.rfl
omit [Cur] in
theorem qoj{k:AV->Prop}:lnK false .e0 k↔k (.i .i64 0):=Iff.rfl
omit [Cur] in
theorem qok{n:Nat}{cs:List AV}{k:AV->Prop}:lnK false (.fz n cs) k↔evA (.i .i64 (n:Int)) k:=Iff.rfl
omit [Cur] in
theorem qlT{b n:Nat}{k:AV->Prop}:lnK false (.own b n) k↔evA (.i .i64 (n:Int)) k:=Iff.rfl
omit [Cur] in
theorem qom{b o n c:Nat}{l:Bool}{k:AV->Prop}:lnK false (.sl b o n c l) k↔evA (.i .i64 (n:Int)) k:=Iff.rfl
omit [Cur] in
theorem qpe{a:List UInt8}{k:AV->Prop}:lnK true (.s a) k↔evA (.i .i64 (a.length:Int)) k:=Iff.rfl
omit [Cur] in
theorem qmj{esz bytes:Nat}{c:Bool}{s x:O}:opK qx (.app esz bytes c s x) t h k↔evK t s (fun s=>evK t x (fun x=>kR h esz bytes c s x k)):=Iff.rfl
omit [Cur] in
theorem qjE{esz bytes:Nat}{s x:O}:opK qx (.appF esz bytes s x) t h k↔evK t s (fun s=>evK t x (fun x=>kR h esz bytes true s x k)):=Iff.rfl
def qfz(esz bytes:Nat)(z:List AV)(h:Hp)(s:AV)(n:Nat)(k:AV->Hp->Prop):Prop:=match s with
  | .sl b o len cap false=>evN (len+n) (fun need=>ifK (cap<need) (ifK (need<=qd) (ifK (need*bytes<=qd) (evN (len*esz) (fun m=>jT h b o m (fun old=>evL (old++(List.replicate n z).flatten) (fun cs=>zT h (.cells esz true true cs) (fun b' h'=>k (.own b' need) h'))))))))
  | .nils=>ifK (1<=n) (ifK (n<=qd) (ifK (n*bytes<=qd) (evL ((List.replicate n z).flatten) (fun cs=>zT h (.cells esz true true cs) (fun b' h'=>k (.own b' n) h')))))
  | _=>False
theorem qkX{esz bytes b o len cap n:Nat}{z:List AV}:qfz esz bytes z h (.sl b o len cap false) n k↔evN (len+n) (fun need=>ifK (cap<need) (ifK (need<=qd) (ifK (need*bytes<=qd) (evN (len*esz) (fun m=>jT h b o m (fun old=>evL (old++(List.replicate n z).flatten) (fun cs=>zT h (.cells esz true true cs) (fun b' h'=>k (.own b' need) h')))))))):=Iff.rfl
omit [Cur] in
theorem qfA{esz bytes n:Nat}{z:List AV}:qfz esz bytes z h .nils n k↔ifK (1<=n) (ifK (n<=qd) (ifK (n*bytes<=qd) (evL ((List.replicate n z).flatten) (fun cs=>zT h (.cells esz true true cs) (fun b' h'=>k (.own b' n) h'))))):=Iff.rfl
omit [Cur] in
theorem qjF{esz bytes:Nat}{z:List AV}{s x:O}:opK qx (.appZ esz bytes z s x) t h k↔evK t s (fun s=>evK t x (fun x=>unN x (fun n=>qfz esz bytes z h s n k))):=by
 show evK t s (fun s=>evK t x (fun x=>unN x (fun n=>_)))↔_
 refine iff_of_eq (congrArg _ (funext fun v=>congrArg _ (funext fun x=>congrArg _ (funext fun n=>propext ?_))))
 cases v<;>first|exact Iff.rfl|skip
 ·simp only[qfz,qa,zV,xr,ifK,evL];rfl
 rename_i b o len cap loose;cases loose with
 | true=>exact⟨fun hh=>absurd ((qa (!true) _).1 hh).1 (by simp),False.elim⟩
 | false =>
  simp only[qfz,qa,zV,xr,xg,Bool.not_false,true_and,evN,ifK,evL];rfl
omit [Cur] in
theorem qjG{esz:Nat}{s x:O}:opK qx (.copy esz s x) t h k↔evK t s (fun s=>evK t x (fun x=>Zh h esz s x k)):=Iff.rfl
omit [Cur] in
theorem qeA{esz:Nat}{s:AV}:Zh h esz .nils s k↔jQ h esz s (fun _ _=>k (.i .i64 0) h):=Iff.rfl
omit [Cur] in
theorem qiD{esz b o len c:Nat}{l:Bool}{s:AV}:Zh h esz (.sl b o len c l) s k↔jQ h esz s (fun n new=>evN (min n len) (fun m=>evN (m*esz) (fun z=>k7 new 0 z (fun cs=>stK h b o cs (fun h'=>evA (.i .i64 (m:Int)) (fun v=>k v h')))))):=by
 show jQ h esz s (fun n new=>qn (min n len) (fun m=>jr (Nat.mul m esz) new (fun cs=>stK h b o cs (fun h'=>k (.i .i64 (Int.ofNat m)) h'))))↔_
 simp only[zL];refine iff_of_eq (congrArg _ (funext fun n=>funext fun new=>congrArg _ (funext fun m=>propext ?_)))
 exact (qM _ _ _).trans ⟨fun hh=>⟨Nat.zero_le _,by simpa[evA] using hh⟩,fun hh=>by simpa[evN,k7,evA] using hh⟩
omit [Cur] in
theorem qmv{x y:O}:opK qx (.min x y) t h k↔evK t x (fun x=>evK t y (fun y=>unI x (fun q n=>unI y (fun _ m=>evA (.i q (if m<n then m else n)) (fun v=>k v h))))):=by
 have e:∀(q:IntKind) (n m:Int),(Bool.rec (motive:=fun _=>Prop) (k (.i q n) h) (k (.i q m) h) (ltI m n):Prop)=evA (.i q (if m<n then m else n)) (fun v=>k v h):=by
  intro q n m;rw[wz]
  by_cases hlt:m<n
  ·rw[decide_eq_true hlt,if_pos hlt];rfl
  ·rw[decide_eq_false hlt,if_neg hlt];rfl
 show evK t x (fun x=>evK t y (fun y=>unI x (fun q n=>unI y (fun _ m=>Bool.rec (motive:=fun _=>Prop) (k (.i q n) h) (k (.i q m) h) (ltI m n)))))↔_
 simp only[e]
omit [Cur] in
theorem qmu{x y:O}:opK qx (.max x y) t h k↔evK t x (fun x=>evK t y (fun y=>unI x (fun q n=>unI y (fun _ m=>evA (.i q (if n<m then m else n)) (fun v=>k v h))))):=by
 have e:∀(q:IntKind) (n m:Int),(Bool.rec (motive:=fun _=>Prop) (k (.i q n) h) (k (.i q m) h) (ltI n m):Prop)=evA (.i q (if n<m then m else n)) (fun v=>k v h):=by
  intro q n m;rw[wz]
  by_cases hlt:n<m
  ·rw[decide_eq_true hlt,if_pos hlt];rfl
  ·rw[decide_eq_false hlt,if_neg hlt];rfl
 show evK t x (fun x=>evK t y (fun y=>unI x (fun q n=>unI y (fun _ m=>Bool.rec (motive:=fun _=>Prop) (k (.i q n) h) (k (.i q m) h) (ltI n m)))))↔_
 simp only[e]
def qf0(z:List AV)(x:AV)(h:Hp)(k:AV->Hp->Prop):Prop:=match x with
  | .nils=>k (.tup []) h
  | .sl b o n _ _=>if n=0 then k (.tup []) h else evL (List.replicate n z).flatten (fun cs=>stK h b o cs (fun h'=>k (.tup []) h'))
  | _=>False
theorem qf1{z:List AV}:qf0 z .nils h k↔k (.tup []) h:=Iff.rfl
omit [Cur] in
theorem qlg{z:List AV}{b o n c:Nat}{l:Bool}:qf0 z (.sl b o n c l) h k↔if n=0 then k (.tup []) h else evL (List.replicate n z).flatten (fun cs=>stK h b o cs (fun h'=>k (.tup []) h')):=Iff.rfl
omit [Cur] in
theorem qhh{z:List AV}{x:O}:opK qx (.clear z x) t h k↔evK t x (fun x=>qf0 z x h k):=by
 show evK t x (fun x=>_)↔_
 refine iff_of_eq (congrArg _ (funext fun v=>?_))
 cases v<;>first|rfl|skip
 rename_i b o n c l;cases n with
 | zero=>simp only[qf0,if_true];rfl
 | succ n=>simp only[qf0,xr];rfl
omit [Cur] in
theorem qmx:opK qx .mkM t h k↔zT h (.map []) (fun b h'=>k (.map b) h'):=Iff.rfl
omit [Cur] in
theorem qe7{n:Nat}{x v:O}{ps:List Nat}:opK qx (.storeD n x v ps) t h k↔evK t x (fun p=>unP p (fun b o=>zY t b ps (evK t v (fun v=>stV h b o v n (fun h'=>k .undef h'))))):=Iff.rfl
omit [Cur] in
theorem qjD{esz bytes:Nat}{s x:O}{ps:List Nat}:opK qx (.appD esz bytes s x ps) t h k↔evK t s (fun s=>evK t x (fun x=>j7 t ps s (kR h esz bytes true s x k))):=Iff.rfl
theorem qj7{ps:List Nat}{b m:Nat}{p:Prop}:j7 t ps (.own b m) p↔zY t b ps p:=Iff.rfl
omit [Cur] in
theorem qmS{ps:List Nat}{b o m c:Nat}{l:Bool}{p:Prop}:j7 t ps (.sl b o m c l) p↔zY t b ps p:=Iff.rfl
omit [Cur] in
theorem qmR{ps:List Nat}{m:Nat}{cs:List AV}{p:Prop}:j7 t ps (.fz m cs) p↔p:=Iff.rfl
omit [Cur] in
theorem qhJ{ps:List Nat}{p:Prop}:j7 t ps .nils p↔p:=Iff.rfl
omit [Cur] in
theorem qmQ{ps:List Nat}{p:Prop}:j7 t ps .e0 p↔p:=Iff.rfl
theorem qen{b:Nat}{p:Prop}:zY t b [] p↔p:=Iff.rfl
def neK(b:Nat)(y:AV)(p:Prop):Prop:=match y with | .ptr b' _=>ifK (¬b'=b) p | .pf _ _=>p|_=>False
theorem ql3{b b' o:Nat}{p:Prop}:neK b (.ptr b' o) p↔ifK (¬b'=b) p:=Iff.rfl
omit [Cur] in
theorem qoq{b o:Nat}{cs:List AV}{p:Prop}:neK b (.pf cs o) p↔p:=Iff.rfl
theorem qdb{b q:Nat}{ps:List Nat}{p:Prop}:zY t b (q::ps) p↔evO (t.get q) (fun y=>neK b y (zY t b ps p)):=by
 refine (Tr.getK_iff _ _ _).trans (iff_of_eq (congrArg _ (funext fun v=>?_)))
 refine congrArg _ ?_;cases v<;>first|rfl|skip
 rename_i b' o;refine propext ((qa _ _).trans ?_);show _∧_↔_∧_
 have:(!Nat.beq b' b)=true↔¬b'=b:=by
  rw[Bool.not_eq_true',← Bool.not_eq_true,kq]
 rw[this];exact Iff.rfl
def cpK(x:AV)(k:AV->Prop):Prop:=match x with
  | .nils=>k (.i .i64 0)
  | .e0=>k (.i .i64 0)
  | .sl _ _ _ c false=>evA (.i .i64 (c:Int)) k
  | _=>False
theorem qmn{x:O}:opK qx (.cap x) t h k↔evK t x (fun x=>cpK x (fun v=>k v h)):=by
 show evK t x (fun x=>_)↔_
 refine iff_of_eq (congrArg _ (funext fun v=>?_))
 cases v<;>first|rfl|skip
 rename_i l;cases l<;>rfl
omit [Cur] in
theorem qiE{k:AV->Prop}:cpK .nils k↔k (.i .i64 0):=Iff.rfl
omit [Cur] in
theorem qnY{k:AV->Prop}:cpK .e0 k↔k (.i .i64 0):=Iff.rfl
omit [Cur] in
theorem qnZ{b o n c:Nat}{k:AV->Prop}:cpK (.sl b o n c false) k↔evA (.i .i64 (c:Int)) k:=Iff.rfl
theorem qgh{l:List AV}{k:List AV->Prop}:xB t [] l k↔k l:=Iff.rfl
theorem qeG{off m:Nat}{x:O}{ps:List (Nat×Nat×O)}{l:List AV}{k:List AV->Prop}:xB t ((off,m,x)::ps) l k↔evK t x (fun v=>ifK (k8 v=true) (evL (cellsOf v) (fun cs=>ifK (cs.length=m∧off+cs.length<=l.length) (evL (l.take off++(cs++l.drop (off+cs.length))) (fun l=>xB t ps l k))))):=by
 show evK t x (fun v=>qi (k8 v) (qn off (fun off=>yN (cellsOf v) (fun n=>qi (Nat.beq n m) (zW (cellsOf v) off l (fun l'=>xB t ps l' k))))))↔_
 simp only[qa,qq,xj,zX,kq,ifK,evL,and_assoc]
theorem qhN{esz:Nat}{k:Nat->List AV->Prop}:jQ h esz .nils k↔k 0 []:=Iff.rfl
omit [Cur] in
theorem qm0{esz:Nat}{k:Nat->List AV->Prop}:jQ h esz .nz k↔k 0 []:=Iff.rfl
omit [Cur] in
theorem qmY{esz:Nat}{k:Nat->List AV->Prop}:jQ h esz .e0 k↔k 0 []:=Iff.rfl
omit [Cur] in
theorem qm1{esz b o n c:Nat}{l:Bool}{k:Nat->List AV->Prop}:jQ h esz (.sl b o n c l) k↔evN (n*esz) (fun m=>jT h b o m (fun cs=>k n cs)):=Iff.rfl
omit [Cur] in
theorem qkc{esz b n:Nat}{k:Nat->List AV->Prop}:jQ h esz (.own b n) k↔evN (n*esz) (fun m=>jT h b 0 m (fun cs=>k n cs)):=Iff.rfl
omit [Cur] in
theorem qmZ{esz n:Nat}{cs:List AV}{k:Nat->List AV->Prop}:jQ h esz (.fz n cs) k↔evN (n*esz) (fun m=>k7 cs 0 m (fun cs=>k n cs)):=by
 refine (qM _ _ _).trans ⟨fun hh=>⟨Nat.zero_le _,by simpa using hh⟩,fun hh=>by simpa[evN,k7] using hh⟩
theorem qoK{esz:Nat}{a:List UInt8}{k:Nat->List AV->Prop}:jQ h esz (.s a) k↔ifK (esz=1) (k a.length (a.map fun c=>.i .u8 (Int.ofNat c.toNat))):=by
 show qi (Nat.beq esz 1) (qn a.length _)↔_;rw[qa,kq,qq];exact Iff.rfl
omit [Cur] in
theorem qfy{esz bytes:Nat}{c:Bool}{x:AV}:kR h esz bytes c .nils x k↔jQ h esz x (fun n new=>ifK (n<=qd) (ifK (n*bytes<=qd) (zT h (.cells esz true true new) (fun b h'=>k (.own b n) h')))):=by
 show jQ h esz x (fun n new=>qi (Nat.ble n qd) (qi (Nat.ble (Nat.mul n bytes) qd) _))↔_
 simp only[qa,zV];exact Iff.rfl
omit [Cur] in
theorem qkU{esz bytes:Nat}{c:Bool}{x:AV}:kR h esz bytes c .e0 x k↔jQ h esz x (fun n new=>ifK (n<=qd) (ifK (n*bytes<=qd) (zT h (.cells esz true true new) (fun b h'=>k (.own b n) h')))):=by
 show jQ h esz x (fun n new=>qi (Nat.ble n qd) (qi (Nat.ble (Nat.mul n bytes) qd) _))↔_
 simp only[qa,zV];exact Iff.rfl
theorem qh3{esz bytes b m:Nat}{x:AV}:kR h esz bytes true (.own b m) x k↔jQ h esz x (fun n new=>evN (m+n) (fun need=>ifK (need<=qd) (ifK (need*bytes<=qd) (evB (h.tr.get b) (fun y=>xY y (fun e w a ys =>
  ifK (qA new=true∧w=true∧a=true∧e=esz∧ys.length=m*esz) (evL (ys++new) (fun cs'=>xN h b .dead (fun h1=>zT h1 (.cells esz true true cs') (fun b' h'=>k (.own b' need) h')))))))))):=by
 show jQ h esz x (fun n new=>qn (Nat.add m n) (fun need=>qi (Nat.ble need qd) (qi (Nat.ble (Nat.mul need bytes) qd) (xE h b (fun e w a ys=>_)))))↔_
 simp only[zL,qa,zV,kq,yy,xj,xg];refine iff_of_eq (congrArg _ (funext fun n=>funext fun new=>?_))
 simp only[ifK,evN,evL,and_assoc];rfl
omit [Cur] in
theorem qkW{esz bytes b o len cap:Nat}{c:Bool}{x:AV}:kR h esz bytes c (.sl b o len cap false) x k↔jQ h esz x (fun n new=>evN (len+n) (fun need=>if need<=cap then
  (if n=0 then k (.sl b o need cap false) h else evN (o+len*esz) (fun at_=>stK h b at_ new (fun h'=>k (.sl b o need cap false) h')))
  else ifK (need<=qd) (ifK (need*bytes<=qd) (evN (len*esz) (fun m=>jT h b o m (fun old=>evL (old++new) (fun cs=>zT h (.cells esz true true cs) (fun b' h'=>k (.own b' need) h')))))))):=by
 have e:∀(n:Nat) (p q:Prop),(Nat.rec (motive:=fun _=>Prop) p (fun _ _=>q) n:Prop)↔if n=0 then p else q:=by
  intro n p q;cases n with
  | zero=>rw[if_pos rfl];exact Iff.rfl
  | succ n=>rw[if_neg (Nat.succ_ne_zero n)]
 unfold kR;dsimp only;simp only[Bool.not_false,zL,qef,zV,vz,xg,e,qcI];exact Iff.rfl
omit [Cur] in
theorem qkV{esz bytes m:Nat}{c:Bool}{cs:List AV}{x:AV}:kR h esz bytes c (.fz m cs) x k↔jQ h esz x (fun n _=>ifK (n=0) (k (.fz m cs) h)):=by
 show jQ h esz x (fun n _=>Nat.rec (motive:=fun _=>Prop) (k (.fz m cs) h) (fun _ _=>False) n)↔_
 refine iff_of_eq (congrArg _ (funext fun n=>funext fun new=>?_))
 cases n<;>simp[ifK];rfl
theorem qg7{k:Bool->Prop}:xb .ptr .nilp k↔k true:=Iff.rfl
omit [Cur] in
theorem qjs{b o:Nat}{k:Bool->Prop}:xb .ptr (.ptr b o) k↔k false:=Iff.rfl
omit [Cur] in
theorem ql9{cs:List AV}{o:Nat}{k:Bool->Prop}:xb .ptr (.pf cs o) k↔k false:=Iff.rfl
omit [Cur] in
theorem ql8{k:Bool->Prop}:xb .slice .nz k↔k false:=Iff.rfl
omit [Cur] in
theorem qg8{k:Bool->Prop}:xb .slice .nils k↔k true:=Iff.rfl
omit [Cur] in
theorem qma{b o n c:Nat}{l:Bool}{k:Bool->Prop}:xb .slice (.sl b o n c l) k↔k false:=Iff.rfl
omit [Cur] in
theorem ql7{n:Nat}{cs:List AV}{k:Bool->Prop}:xb .slice (.fz n cs) k↔ifK (1<=n) (k false):=by
 show qi (Nat.ble 1 n) (k false)↔_;rw[qa,zV];exact Iff.rfl
omit [Cur] in
theorem qjr{b n:Nat}{k:Bool->Prop}:xb .slice (.own b n) k↔ifK (1<=n) (k false):=by
 show qi (Nat.ble 1 n) (k false)↔_;rw[qa,zV];exact Iff.rfl
omit [Cur] in
theorem qg5{k:Bool->Prop}:xb .func .nilf k↔k true:=Iff.rfl
omit [Cur] in
theorem ql6{f:Nat}{a c:List AV}{k:Bool->Prop}:xb .func (.fn f a c) k↔k false:=Iff.rfl
omit [Cur] in
theorem qg6{k:Bool->Prop}:xb .iface .nili k↔k true:=Iff.rfl
omit [Cur] in
theorem qjq{t:Nat}{v:AV}{k:Bool->Prop}:xb .iface (.ifc t v) k↔k false:=Iff.rfl
theorem qiH{x y:List AV}{k:Bool->Prop}:xh [] x y k↔k true:=Iff.rfl
omit [Cur] in
theorem qga{q:PK}{qs:List PK}{u v:AV}{us vs:List AV}{k:Bool->Prop}:xh (q::qs) (u::us) (v::vs) k↔xQ q u v (fun e=>if e=true then xh qs us vs k else k false):=by
 show xQ q u v (fun e=>Bool.rec (motive:=fun _=>Prop) (k false) (xh qs us vs k) e)↔_
 simp only[vz]
theorem qo6{q:IntKind}{n m:Int}{k:Bool->Prop}:xQ .i (.i q n) (.i q m) k↔evT (decide (n=m)) k:=by
 show qi (decide (q=q)) (qD (eqI n m) k)↔_;rw[qa,qav,qw];simp[evT]
omit [Cur] in
theorem qo7{a c:List UInt8}{k:Bool->Prop}:xQ .s (.s a) (.s c) k↔evT (decide (a=c)) k:=by
 show qD (eqS a c) k↔_;rw[qw,jz,show (a==c)=decide (a=c) from by rw[Bool.eq_iff_iff];simp];exact Iff.rfl
omit [Cur] in
theorem qo5{a c:Bool}{k:Bool->Prop}:xQ .b (.b a) (.b c) k↔evT (a==c) k:=by
 show qD (a==c) k↔_;rw[qw];exact Iff.rfl
theorem qf6{rs:List RV}{k:AV->Hp->Prop}:js rs k .ret t h↔jt t h rs (fun vs=>k (xX vs) h):=Iff.rfl
omit [Cur] in
theorem qct{rs:List RV}{k:AV->Hp->Prop}:js rs k .normal t h↔jt t h rs (fun vs=>k (xX vs) h):=Iff.rfl
theorem qjW{k:List AV->Prop}:jt t h [] k↔k []:=Iff.rfl
omit [Cur] in
theorem qjX{n:Nat}{rs:List RV}{k:List AV->Prop}:jt t h (.tmp n::rs) k↔evO (t.get n) (fun v=>jt t h rs (fun vs=>k (v::vs))):=Tr.getK_iff _ _ _
omit [Cur] in
theorem qhD{n size:Nat}{agg:Bool}{rs:List RV}{k:List AV->Prop}:jt t h (.cell n size agg::rs) k↔evO (t.get n) (fun v=>unP v (fun b o=>if agg=true then jT h b o size (fun cs=>jt t h rs (fun vs=>k (.agg cs::vs))) else ldK h b o (fun v=>jt t h rs (fun vs=>k (v::vs))))):=by
 refine (Tr.getK_iff _ _ _).trans (iff_of_eq (congrArg _ (funext fun v=>congrArg _ ?_)))
 cases v<;>first|rfl|skip
 cases agg<;>rfl
end Go.Kc
end
section
namespace Go.Kc
variable [Cur]
variable {P:Program} {n:Nat} {t:Tr AV} {h:Hp} {k:AV->Hp->Prop}

section
variable {r:Nat->Nat} {m:Nat} {v v':AV} {vs vs':List AV}
omit [Cur] in
theorem qhb:NV r m v .undef↔True:=iff_true_intro (.undef _)
omit [Cur] in
theorem qpg{x y:Bool}:NV r m (.b x) (.b y)↔x=y:=⟨fun h=>by cases h;rfl,fun h=>by subst h;exact .clo _ rfl⟩
omit [Cur] in
theorem qph{q q':IntKind}{x y:Int}:NV r m (.i q x) (.i q' y)↔q=q'∧x=y:=⟨fun h=>by cases h;exact⟨rfl,rfl⟩,fun⟨h,h'⟩=>by subst h h';exact .clo _ rfl⟩
omit [Cur] in
theorem qpi{x y:List UInt8}:NV r m (.s x) (.s y)↔x=y:=⟨fun h=>by cases h;rfl,fun h=>by subst h;exact .clo _ rfl⟩
omit [Cur] in
theorem qjy:NV r m .nilp .nilp↔True:=iff_true_intro (.clo _ rfl)
omit [Cur] in
theorem qjz:NV r m .nils .nils↔True:=iff_true_intro (.clo _ rfl)
omit [Cur] in
theorem qjv:NV r m .nilf .nilf↔True:=iff_true_intro (.clo _ rfl)
omit [Cur] in
theorem qjw:NV r m .nili .nili↔True:=iff_true_intro (.clo _ rfl)
omit [Cur] in
theorem qjx:NV r m .nilm .nilm↔True:=iff_true_intro (.clo _ rfl)
omit [Cur] in
theorem qot:NV r m .e0 .e0↔True:=iff_true_intro (.clo _ rfl)
omit [Cur] in
theorem qow:NV r m .nz .nz↔True:=iff_true_intro (.clo _ rfl)
omit [Cur] in
theorem qmc{x:Nat}{cs:List AV}:NV r m .e0 (.fz x cs)↔x=0∧cs=[]:=⟨fun h=>by cases h;exact⟨rfl,rfl⟩,fun⟨h,h'⟩=>by subst h h';exact .e0z⟩
omit [Cur] in
theorem qha{b' x':Nat}:NV r m .e0 (.own b' x')↔b'<m∧x'=0:=⟨fun h=>by
  cases h with
  | e0own _ h1=>exact⟨h1,rfl⟩,fun⟨h1,h2⟩=>by subst h2;exact .e0own _ h1⟩
omit [Cur] in
theorem qmh{b b' o x c x':Nat}{l:Bool}:NV r m (.sl b o x c l) (.own b' x')↔b'<m∧x=0∧c=0∧l=false∧x'=0:=⟨fun h=>by
  cases h with
  | slz _ _ _ h1=>exact⟨h1,rfl,rfl,rfl,rfl⟩,fun⟨h1,h2,h3,h4,h5⟩=>by subst h2 h3 h4 h5;exact .slz _ _ _ h1⟩
omit [Cur] in
theorem qov{x y:Nat}{cs ds:List AV}:NV r m (.fz x cs) (.fz y ds)↔x=y∧cs=ds:=⟨fun h=>by cases h;exact⟨rfl,rfl⟩,fun⟨h,h'⟩=>by subst h h';exact .clo _ rfl⟩
omit [Cur] in
theorem qox{x y:Nat}{cs ds:List AV}:NV r m (.pf cs x) (.pf ds y)↔cs=ds∧x=y:=⟨fun h=>by cases h;exact⟨rfl,rfl⟩,fun⟨h,h'⟩=>by subst h h';exact .clo _ rfl⟩
omit [Cur] in
theorem qjA{x:Nat}{cs:List AV}:NV r m .nils (.fz x cs)↔x=0∧cs=[]:=⟨fun h=>by cases h;exact⟨rfl,rfl⟩,fun⟨h,h'⟩=>by subst h h';exact .nilz⟩
omit [Cur] in
theorem qmg{b b' o o':Nat}:NV r m (.ptr b o) (.ptr b' o')↔r b'=b∧b'<m∧o=o':=⟨fun h=>by
  cases h with
  | clo _ hc=>cases hc
  | ptr _ _ _ h1 h2=>exact⟨h1,h2,rfl⟩,fun⟨h1,h2,h3⟩=>by subst h3;exact .ptr _ _ _ h1 h2⟩
omit [Cur] in
theorem qoy{b b' o o' x x' c c':Nat}{l l':Bool}:NV r m (.sl b o x c l) (.sl b' o' x' c' l')↔r b'=b∧b'<m∧o=o'∧x=x'∧c=c'∧l=l':=⟨fun h=>by
  cases h with
  | clo _ hc=>cases hc
  | sl _ _ _ _ _ _ h1 h2=>exact⟨h1,h2,rfl,rfl,rfl,rfl⟩,fun⟨h1,h2,h3,h4,h5,h6⟩=>by subst h3 h4 h5 h6;exact .sl _ _ _ _ _ _ h1 h2⟩
omit [Cur] in
theorem qmf{b b' x x':Nat}:NV r m (.own b x) (.own b' x')↔r b'=b∧b'<m∧x=x':=⟨fun h=>by
  cases h with
  | clo _ hc=>cases hc
  | own _ _ _ h1 h2=>exact⟨h1,h2,rfl⟩,fun⟨h1,h2,h3⟩=>by subst h3;exact .own _ _ _ h1 h2⟩
omit [Cur] in
theorem qe0{b' x':Nat}:NV r m .nils (.own b' x')↔b'<m∧x'=0:=⟨fun h=>by
  cases h with
  | nilown _ h1=>exact⟨h1,rfl⟩,fun⟨h1,h2⟩=>by subst h2;exact .nilown _ h1⟩
omit [Cur] in
theorem qme{b b':Nat}:NV r m (.map b) (.map b')↔r b'=b∧b'<m:=⟨fun h=>by
  cases h with
  | clo _ hc=>cases hc
  | map _ _ h1 h2=>exact⟨h1,h2⟩,fun⟨h1,h2⟩=>.map _ _ h1 h2⟩
omit [Cur] in
theorem qoz{b b':Nat}:NV r m (.yl b) (.yl b')↔r b'=b∧b'<m:=⟨fun h=>by
  cases h with
  | clo _ hc=>cases hc
  | yl _ _ h1 h2=>exact⟨h1,h2⟩,fun⟨h1,h2⟩=>.yl _ _ h1 h2⟩
omit [Cur] in
theorem qjB:NVs r m [] []↔True:=iff_true_intro .nil
omit [Cur] in
theorem qhc:NVs r m (v::vs) (v'::vs')↔NV r m v v'∧NVs r m vs vs':=⟨fun h=>by
  cases h with
  | cons _ _ _ _ h1 h2=>exact⟨h1,h2⟩,fun h=>.cons _ _ _ _ h.1 h.2⟩
omit [Cur] in
theorem qmb{cs cs':List AV}:NV r m (.agg cs) (.agg cs')↔NVs r m cs cs':=⟨fun h=>by
  cases h with
  | clo _ hc=>exact NVs.refl (by simpa[clo] using hc)
  | agg _ _ h1=>exact h1,fun h=>.agg _ _ h⟩
omit [Cur] in
theorem qmi{cs cs':List AV}:NV r m (.tup cs) (.tup cs')↔NVs r m cs cs':=⟨fun h=>by
  cases h with
  | clo _ hc=>exact NVs.refl (by simpa[clo] using hc)
  | tup _ _ h1=>exact h1,fun h=>.tup _ _ h⟩
omit [Cur] in
theorem qou{f f':Nat}{a a' c c':List AV}:NV r m (.fn f a c) (.fn f' a' c')↔f=f'∧NVs r m a a'∧NVs r m c c':=⟨fun h=>by
  cases h with
  | clo _ hc =>
   simp only[clo,Bool.and_eq_true] at hc;exact⟨rfl,NVs.refl hc.1,NVs.refl hc.2⟩
  | fn _ _ _ _ _ h1 h2=>exact⟨rfl,h1,h2⟩,fun⟨h1,h2,h3⟩=>by subst h1;exact .fn _ _ _ _ _ h2 h3⟩
omit [Cur] in
theorem qmd{f f':Nat}:NV r m (.ifc f v) (.ifc f' v')↔f=f'∧NV r m v v':=⟨fun h=>by
  cases h with
  | clo _ hc=>exact⟨rfl,.clo _ (by simpa[clo] using hc)⟩
  | ifc _ _ _ h1=>exact⟨rfl,h1⟩,fun⟨h1,h2⟩=>by subst h1;exact .ifc _ _ _ h2⟩
omit [Cur] in
theorem qkf:TWs t r m []↔True:=Iff.rfl
omit [Cur] in
theorem qhR{p:Nat×AV}{l:List (Nat×AV)}:TWs t r m (p::l)↔evO (t.get p.1) (fun v=>NV r m v p.2)∧TWs t r m l:=Iff.rfl
omit [Cur] in
theorem qiq:BWs h r m [] []↔True:=Iff.rfl
omit [Cur] in
theorem qfL{b:Nat}{x:Blk}{bs:List Nat}{xs:List Blk}:BWs h r m (b::bs) (x::xs)↔BW h r m b x∧BWs h r m bs xs:=Iff.rfl
omit [Cur] in
theorem qk6{b:Nat}{x:Blk}(hb:h.sz<=b):BW h r m b x↔True:=iff_true_intro (.inl hb)
omit [Cur] in
theorem qip{b:Nat}:BW h r m b .dead↔True:=iff_true_intro (.inr (.inl rfl))
omit [Cur] in
theorem qk7{b e:Nat}{w a:Bool}{cs':List AV}(hb:b<h.sz):BW h r m b (.cells e w a cs')↔evB (h.tr.get b) (fun x=>xY x (fun e0 w0 a0 cs=>e0=e∧(w=true->w0=true)∧(a=true->a0=true)∧NVs r m cs cs')):=by
 constructor
 ·rintro (h1|h1|⟨e',w0,a0,cs,w',a',cs'',h1,h2,h3,h4,h5⟩|⟨es,es',h1,h2,h3⟩)
  ·omega
  ·cases h1
  ·cases h2;exact⟨_,h1,rfl,h3,h4,h5⟩
  ·cases h2
 ·rintro⟨x,h1,h2⟩;cases x with
  | cells e0 w0 a0 cs =>
   obtain⟨rfl,h3,h4,h5⟩:=h2;exact .inr (.inr (.inl ⟨_,w0,a0,cs,w,a,cs',h1,rfl,h3,h4,h5⟩))
  | dead=>exact h2.elim
  | map es=>exact h2.elim
end
omit [Cur] in
theorem yt{b d:Nat}{l:List Nat}:rl (b::l) d 0=b:=rfl
omit [Cur] in
theorem qpD{b d i:Nat}{l:List Nat}:rl (b::l) d (i+1)=rl l d i:=rfl

section
variable {v v':AV} {vs vs':List AV}
omit [Cur] in
theorem qgp:Frz h v .undef↔True:=iff_true_intro (.undef _)
omit [Cur] in
theorem qo9{x y:Bool}:Frz h (.b x) (.b y)↔x=y:=⟨fun h=>by cases h;rfl,fun h=>by subst h;exact .b _⟩
omit [Cur] in
theorem qpa{q q':IntKind}{x y:Int}:Frz h (.i q x) (.i q' y)↔q=q'∧x=y:=⟨fun h=>by cases h;exact⟨rfl,rfl⟩,fun⟨h,h'⟩=>by subst h h';exact .i _ _⟩
omit [Cur] in
theorem qpb{x y:List UInt8}:Frz h (.s x) (.s y)↔x=y:=⟨fun h=>by cases h;rfl,fun h=>by subst h;exact .s _⟩
omit [Cur] in
theorem qiS:Frz h .nilp .nilp↔True:=iff_true_intro .nilp
omit [Cur] in
theorem qiT:Frz h .nils .nils↔True:=iff_true_intro .nils
omit [Cur] in
theorem qiP:Frz h .nilf .nilf↔True:=iff_true_intro .nilf
omit [Cur] in
theorem qiQ:Frz h .nili .nili↔True:=iff_true_intro .nili
omit [Cur] in
theorem qiR:Frz h .nilm .nilm↔True:=iff_true_intro .nilm
omit [Cur] in
theorem qn4:Frz h .e0 .e0↔True:=iff_true_intro .e0
omit [Cur] in
theorem qn6:Frz h .nz .nz↔True:=iff_true_intro .nz
omit [Cur] in
theorem qlz{x:Nat}{cs:List AV}:Frz h .e0 (.fz x cs)↔x=0∧cs=[]:=⟨fun h=>by cases h;exact⟨rfl,rfl⟩,fun⟨h,h'⟩=>by subst h h';exact .e0z⟩
omit [Cur] in
theorem qn5{x y:Nat}{cs ds:List AV}:Frz h (.fz x cs) (.fz y ds)↔x=y∧cs=ds:=⟨fun h=>by cases h;exact⟨rfl,rfl⟩,fun⟨h,h'⟩=>by subst h h';exact .fz _ _⟩
omit [Cur] in
theorem qn7{x y:Nat}{cs ds:List AV}:Frz h (.pf cs x) (.pf ds y)↔cs=ds∧x=y:=⟨fun h=>by cases h;exact⟨rfl,rfl⟩,fun⟨h,h'⟩=>by subst h h';exact .pf _ _⟩
omit [Cur] in
theorem qiU{x:Nat}{cs:List AV}:Frz h .nils (.fz x cs)↔x=0∧cs=[]:=⟨fun h=>by cases h;exact⟨rfl,rfl⟩,fun⟨h,h'⟩=>by subst h h';exact .nilz⟩
omit [Cur] in
theorem qiV:Frzs h [] []↔True:=iff_true_intro .nil
omit [Cur] in
theorem qgs:Frzs h (v::vs) (v'::vs')↔Frz h v v'∧Frzs h vs vs':=⟨fun h=>by
  cases h with
  | cons _ _ _ _ h1 h2=>exact⟨h1,h2⟩,fun h=>.cons _ _ _ _ h.1 h.2⟩
omit [Cur] in
theorem qly{cs cs':List AV}:Frz h (.agg cs) (.agg cs')↔Frzs h cs cs':=⟨fun h=>by cases h;assumption,fun h=>.agg _ _ h⟩
omit [Cur] in
theorem qlD{cs cs':List AV}:Frz h (.tup cs) (.tup cs')↔Frzs h cs cs':=⟨fun h=>by cases h;assumption,fun h=>.tup _ _ h⟩
omit [Cur] in
theorem qlE{f f':Nat}{a a' c c':List AV}:Frz h (.fn f a c) (.fn f' a' c')↔f=f'∧Frzs h a a'∧Frzs h c c':=⟨fun h=>by
  cases h with
  | fn _ _ _ _ _ h1 h2=>exact⟨rfl,h1,h2⟩,fun⟨h1,h2,h3⟩=>by subst h1;exact .fn _ _ _ _ _ h2 h3⟩
omit [Cur] in
theorem qlA{f f':Nat}:Frz h (.ifc f v) (.ifc f' v')↔f=f'∧Frz h v v':=⟨fun h=>by
  cases h with
  | ifc _ _ _ h1=>exact⟨rfl,h1⟩,fun⟨h1,h2⟩=>by subst h1;exact .ifc _ _ _ h2⟩
omit [Cur] in
theorem qlB{b x y:Nat}{cs':List AV}:Frz h (.own b x) (.fz y cs')↔x=y∧evB (h.tr.get b) (fun z=>xY z (fun _ w _ ys=>w=true∧(x=0->ys=[])∧Frzs h ys cs')):=by
 constructor
 ·intro hh;cases hh with
  | own _ _ e af ys _ hb h0 h1=>exact⟨rfl,_,hb,rfl,h0,h1⟩
 ·rintro⟨rfl,z,h1,h2⟩;cases z with
  | cells e w af ys =>
   obtain⟨rfl,h3,h4⟩:=h2;exact .own _ _ e af ys _ h1 h3 h4
  | dead=>exact h2.elim
  | map es=>exact h2.elim
omit [Cur] in
theorem qlC{b x y:Nat}{cs':List AV}:Frz h (.ptr b x) (.pf cs' y)↔x=y∧evB (h.tr.get b) (fun z=>xY z (fun _ w _ ys=>w=true∧Frzs h ys cs')):=by
 constructor
 ·intro hh;cases hh with
  | ptr _ _ e af ys _ hb h1=>exact⟨rfl,_,hb,rfl,h1⟩
 ·rintro⟨rfl,z,h1,h2⟩;cases z with
  | cells e w af ys =>
   obtain⟨rfl,h4⟩:=h2;exact .ptr _ _ e af ys _ h1 h4
  | dead=>exact h2.elim
  | map es=>exact h2.elim
omit [Cur] in
theorem Frz.cut{b o x c:Nat}{l:Bool}{y:Nat}{cs':List AV}(esz:Nat)(hx:x=y)(hc:x<=c)(hg:evB (h.tr.get b) (fun z=>xY z (fun _ w _ cs=>w=true∧o+x*esz<=cs.length∧Frzs h ((cs.drop o).take (x*esz)) cs'))):Frz h (.sl b o x c l) (.fz y cs'):=by
 subst hx;obtain⟨z,h1,h2⟩:=hg;cases z with
 | cells e w af cs =>
  obtain⟨rfl,h3,h4⟩:=h2;exact .sl _ _ _ _ _ e af cs (x*esz) _ h1 hc h3 (fun hh=>by rw[hh] at hc;simp[Nat.le_zero.1 hc]) h4
 | dead=>exact h2.elim
 | map es=>exact h2.elim
end
mutual
theorem Frz.self:∀{v:AV},clo v=true->Frz h v v
 | .undef,_=>.undef _
 | .b _,_=>.b _
 | .i _ _,_=>.i _ _
 | .s _,_=>.s _
 | .nilp,_=>.nilp
 | .ptr _ _,hc=>by simp[clo] at hc
 | .nils,_=>.nils
 | .sl _ _ _ _ _,hc=>by simp[clo] at hc
 | .nilf,_=>.nilf
 | .fn _ _ _,hc=>by
  simp only[clo,Bool.and_eq_true] at hc;exact .fn _ _ _ _ _ (Frzs.self hc.1) (Frzs.self hc.2)
 | .nili,_=>.nili
 | .ifc _ _,hc=>.ifc _ _ _ (Frz.self (by simpa[clo] using hc))
 | .agg _,hc=>.agg _ _ (Frzs.self (by simpa[clo] using hc))
 | .tup _,hc=>.tup _ _ (Frzs.self (by simpa[clo] using hc))
 | .nilm,_=>.nilm
 | .map _,hc=>by simp[clo] at hc
 | .fz _ _,_=>.fz _ _
 | .pf _ _,_=>.pf _ _
 | .e0,_=>.e0
 | .nz,_=>.nz
 | .own _ _,hc=>by simp[clo] at hc
 | .sym _,hc=>by simp[clo] at hc
 | .yl _,hc=>by simp[clo] at hc
 | .lp _,hc=>by simp[clo] at hc
theorem Frzs.self:∀{vs:List AV},qR vs=true->Frzs h vs vs
 | [],_=>.nil
 | v::vs,hc=>by
  simp only[qR,Bool.and_eq_true] at hc;exact .cons _ _ _ _ (Frz.self hc.1) (Frzs.self hc.2)
end

@[congr] theorem qlI {kd:Option IntKind} {i:AV} {p:Prop} {mk:Prop} (_:zw=mk):Zs qx kd i p=Zs qx kd i p:=rfl
@[congr] theorem qlW {b:Nat} {k:List (AV×AV)->Prop} {mk:Prop} (_:zw=mk):QI h b k=QI h b k:=rfl
@[congr] theorem qi6 {es:List (AV×AV)} {p:Prop} {mk:Prop} (_:zw=mk):kw es p=kw es p:=rfl
theorem qof{a:List UInt8}{p:Prop}:Zs qx none (.s a) p↔p:=Iff.rfl
omit [Cur] in
theorem qoe{q:IntKind}{z:Int}{p:Prop}:Zs qx (some q) (.i q z) p↔p:=by
 show qi (decide (q=q)) p↔p;rw[qa];simp
omit [Cur] in
theorem qeO{p:Prop}:kw [] p↔p:=Iff.rfl
omit [Cur] in
theorem qi9{a:List UInt8}{v:AV}{es:List (AV×AV)}{p:Prop}:kw ((.s a,v)::es) p↔p:=Iff.rfl
omit [Cur] in
theorem qi8{q:IntKind}{z:Int}{v:AV}{es:List (AV×AV)}{p:Prop}:kw ((.i q z,v)::es) p↔p:=Iff.rfl
def qgP(x:Blk)(k:List (AV×AV)->Prop):Prop:=match x with | .map es=>k es|_=>False
theorem qbk{es:List (AV×AV)}{k:List (AV×AV)->Prop}:qgP (.map es) k↔k es:=Iff.rfl
omit [Cur] in
theorem qon{b:Nat}{k:List (AV×AV)->Prop}:QI h b k↔evB (h.tr.get b) (fun x=>qgP x (fun es=>kw es (k es))):=by
 unfold QI;refine (Tr.getK_iff _ _ _).trans (iff_of_eq (congrArg _ (funext fun x=>congrArg _ ?_)))
 cases x<;>rfl
omit [Cur] in
theorem qgi{i:AV}{k:Option AV->Prop}:wC qx i [] k↔k none:=Iff.rfl
omit [Cur] in
theorem qlu{i a:List UInt8}{v:AV}{es:List (AV×AV)}{k:Option AV->Prop}:wC qx (.s i) ((.s a,v)::es) k↔if i=a then k (some v) else wC qx (.s i) es k:=by
 show qD (eqS i a) (fun r=>Bool.rec (motive:=fun _=>Prop) (wC qx (.s i) es k) (k (some v)) r)↔_
 rw[qw,vz,jz];simp
omit [Cur] in
theorem qlt{q:IntKind}{i a:Int}{v:AV}{es:List (AV×AV)}{k:Option AV->Prop}:wC qx (.i q i) ((.i q a,v)::es) k↔if i=a then k (some v) else wC qx (.i q i) es k:=by
 show qi (decide (q=q)) (qD (eqI i a) (fun r=>Bool.rec (motive:=fun _=>Prop) (wC qx (.i q i) es k) (k (some v)) r))↔_
 rw[qa,qw,vz,qav];simp
omit [Cur] in
theorem qkh{i v:AV}{k:List (AV×AV)->Prop}:yQ qx i v [] k↔k [(i,v)]:=Iff.rfl
omit [Cur] in
theorem qoR{i a:List UInt8}{u v:AV}{es:List (AV×AV)}{k:List (AV×AV)->Prop}:yQ qx (.s i) u ((.s a,v)::es) k↔if i=a then k ((.s i,u)::es) else yQ qx (.s i) u es (fun l=>k ((.s a,v)::l)):=by
 show qD (eqS i a) (fun r=>Bool.rec (motive:=fun _=>Prop) (yQ qx (.s i) u es (fun l=>k ((.s a,v)::l))) (k ((.s i,u)::es)) r)↔_
 rw[qw,vz,jz];simp
omit [Cur] in
theorem qoQ{q:IntKind}{i a:Int}{u v:AV}{es:List (AV×AV)}{k:List (AV×AV)->Prop}:yQ qx (.i q i) u ((.i q a,v)::es) k↔if i=a then k ((.i q i,u)::es) else yQ qx (.i q i) u es (fun l=>k ((.i q a,v)::l)):=by
 show qi (decide (q=q)) (qD (eqI i a) (fun r=>Bool.rec (motive:=fun _=>Prop) (yQ qx (.i q i) u es (fun l=>k ((.i q a,v)::l))) (k ((.i q i,u)::es)) r))↔_
 rw[qa,qw,vz,qav];simp
theorem qfw{z:AV}{k:AV->Prop}:QV false z none k↔k z:=Iff.rfl
omit [Cur] in
theorem qel{z:AV}{k:AV->Prop}:QV true z none k↔k (.tup [z,.b false]):=Iff.rfl
omit [Cur] in
theorem qfx{z v:AV}{k:AV->Prop}:QV false z (some v) k↔k v:=Iff.rfl
omit [Cur] in
theorem qem{z v:AV}{k:AV->Prop}:QV true z (some v) k↔k (.tup [v,.b true]):=Iff.rfl
def lkK(h:Hp)(ok:Bool)(zero x i:AV)(k:AV->Prop):Prop:=match x with
  | .nilm=>QV ok zero none k
  | .map r=>QI h r (fun es=>wC qx i es (fun v=>QV ok zero v k))
  | _=>False
theorem qlS{ok:Bool}{z i:AV}{k:AV->Prop}:lkK h ok z .nilm i k↔QV ok z none k:=Iff.rfl
omit [Cur] in
theorem qlR{ok:Bool}{z i:AV}{r:Nat}{k:AV->Prop}:lkK h ok z (.map r) i k↔QI h r (fun es=>wC qx i es (fun v=>QV ok z v k)):=Iff.rfl
omit [Cur] in
theorem qhn{kd:Option IntKind}{ok:Bool}{z:AV}{x i:O}:opK qx (.lookM kd ok z x i) t h k↔evK t x (fun x=>evK t i (fun i=>Zs qx kd i (lkK h ok z x i (fun v=>k v h)))):=Iff.rfl
def upK(h:Hp)(x i v:AV)(k:Hp->Prop):Prop:=match x with
  | .map r=>QI h r (fun es=>yQ qx i v es (fun es'=>xN h r (.map es') k))
  | _=>False
theorem qm5{i v:AV}{r:Nat}{k:Hp->Prop}:upK h (.map r) i v k↔QI h r (fun es=>yQ qx i v es (fun es'=>xN h r (.map es') k)):=Iff.rfl
omit [Cur] in
theorem qjM{kd:Option IntKind}{x i v:O}:opK qx (.updM kd x i v) t h k↔evK t x (fun x=>evK t i (fun i=>evK t v (fun v=>Zs qx kd i (upK h x i v (fun h'=>k .undef h'))))):=Iff.rfl

theorem qba:qA []=true:=rfl
omit [Cur] in
theorem y8{v:AV}{vs:List AV}:qA (v::vs)=(zi v&&qA vs):=by
 show (Bool.rec (motive:=fun _=>Bool) false (qA vs) (zi v):Bool)=_
 cases zi v<;>rfl
omit [Cur] in
theorem qlb{x:Bool}:zi (.b x)=true:=rfl
omit [Cur] in
theorem qlc{q:IntKind}{x:Int}:zi (.i q x)=true:=rfl
omit [Cur] in
theorem qld{x:List UInt8}:zi (.s x)=true:=rfl
omit [Cur] in
theorem qew:zi .nilp=true:=rfl
omit [Cur] in
theorem qfV{b o:Nat}:zi (.ptr b o)=true:=rfl
omit [Cur] in
theorem qex:zi .nils=true:=rfl
omit [Cur] in
theorem qiz{b o x c:Nat}{l:Bool}:zi (.sl b o x c l)=true:=rfl
omit [Cur] in
theorem qet:zi .nilf=true:=rfl
omit [Cur] in
theorem qiu{f:Nat}{a c:List AV}:zi (.fn f a c)=true:=rfl
omit [Cur] in
theorem qeu:zi .nili=true:=rfl
omit [Cur] in
theorem qfS{f:Nat}{v:AV}:zi (.ifc f v)=true:=rfl
omit [Cur] in
theorem qev:zi .nilm=true:=rfl
omit [Cur] in
theorem qfT{b:Nat}:zi (.map b)=true:=rfl
omit [Cur] in
theorem qiv{n:Nat}{cs:List AV}:zi (.fz n cs)=true:=rfl
omit [Cur] in
theorem qiy{n:Nat}{cs:List AV}:zi (.pf cs n)=true:=rfl
omit [Cur] in
theorem qit:zi .e0=true:=rfl
omit [Cur] in
theorem qix:zi .nz=true:=rfl
omit [Cur] in
theorem qfU{b n:Nat}:zi (.own b n)=true:=rfl
omit [Cur] in
theorem qbF{a b:List AV}:qA (a++b)=(qA a&&qA b):=by
 induction a with
 | nil=>simp[qba]
 | cons v a ih=>simp[y8,ih,Bool.and_assoc]
omit [Cur] in
theorem qey{α:Type}{f:α->AV}{xs:List α}(h:∀x,zi (f x)=true):qA (xs.map f)=true:=by
 induction xs with
 | nil=>rfl
 | cons v a ih=>simp[y8,ih,h]
omit [Cur] in
theorem qat{α:Type}{f:α->List AV}{xs:List α}(h:∀x,qA (f x)=true):qA (xs.flatMap f)=true:=by
 induction xs with
 | nil=>rfl
 | cons v a ih=>simp[List.flatMap_cons,qbF,ih,h]
omit [Cur] in
theorem qcr{a b:List AV}:qR (a++b)=(qR a&&qR b):=by
 induction a with
 | nil=>simp[qR]
 | cons v a ih=>simp[qR,ih,Bool.and_assoc]
omit [Cur] in
theorem qcs{α:Type}{f:α->AV}{xs:List α}(h:∀x,clo (f x)=true):qR (xs.map f)=true:=by
 induction xs with
 | nil=>rfl
 | cons v a ih=>simp[qR,ih,h]
omit [Cur] in
theorem yA{α:Type}{f:α->List AV}{xs:List α}(h:∀x,qR (f x)=true):qR (xs.flatMap f)=true:=by
 induction xs with
 | nil=>rfl
 | cons v a ih=>simp[List.flatMap_cons,qcr,ih,h]
omit [Cur] in
theorem xG{α:Type}{f:α->List AV}{m:Nat}(h:∀x,(f x).length=m)(xs:List α):(xs.flatMap f).length=xs.length*m:=by
 induction xs with
 | nil=>simp
 | cons v a ih=>simp[ih,h,Nat.add_mul,Nat.add_comm]
omit [Cur] in
theorem Q0{α:Type}{f:α->List AV}{m:Nat}(h:∀x,(f x).length=m):∀(xs:List α) (j:Nat),(xs.flatMap f).drop (j*m)=(xs.drop j).flatMap f
 | [],j=>by simp
 | x::xs,0=>by simp
 | x::xs,j+1=>by
  simp only[List.flatMap_cons,List.drop_succ_cons];rw[Nat.add_mul,Nat.one_mul,Nat.add_comm,← List.drop_drop,List.drop_left' (h x)];exact Q0 h xs j
omit [Cur] in
theorem jB{α:Type}{f:α->List AV}{m:Nat}(h:∀x,(f x).length=m){xs:List α}{j:Nat}{x:α}(hx:xs[j]?=some x){i:Nat}(hi:i<m):(xs.flatMap f)[j*m+i]?=(f x)[i]?:=by
 rw[← List.getElem?_drop,Q0 h];obtain⟨hj,rfl⟩:=zzS.1 hx;rw[List.drop_eq_getElem_cons hj,List.flatMap_cons,List.getElem?_append_left (by rw[h];exact hi)]
omit [Cur] in
theorem jh{α:Type}{f:α->List AV}{m:Nat}(h:∀x,(f x).length=m){xs:List α}{j:Nat}{x:α}(hx:xs[j]?=some x):((xs.flatMap f).drop (j*m)).take m=f x:=by
 rw[Q0 h];obtain⟨hj,rfl⟩:=zzS.1 hx;rw[List.drop_eq_getElem_cons hj,List.flatMap_cons,List.take_left' (h _)]

theorem SL.loop{α:Type}{x:ICode}{Q:X->Tr AV->Hp->Prop}(T:α->List (Nat×AV))(B:α->List Blk)(I:α->Prop)(μ:α->Nat)(a0:α)(src:List Nat)
  (hT:TWs t (rl src h.sz) (B a0).length (T a0)) (hB:BWs h (rl src h.sz) (B a0).length src (B a0)) (hI:(src.filter fun b=>decide (b<h.sz)).Nodup) (hfl:h.fl=0) (h0:I a0)
  (step:∀a,I a->∀G:Tr AV->Hp->Prop,(∀b,I b->μ b<μ a->∀t' h',Wk 0 t' h' (mkT (T b)) (mkH 0 (B b))->G t' h')->
   V P 0 x (fun e t h=>onX e (G t h) (fun id=>Q (.exit id) t h) (Q .ret t h)) (mkT (T a)) (mkH 0 (B a))):SL P 0 x Q t h:=by
 have main:∀m a,μ a=m->I a->SL P 0 x Q (mkT (T a)) (mkH 0 (B a)):=by
  intro m
  induction m using Nat.strongRecOn with
  | ind m ih =>
   intro a ha hi;exact jv (step a hi (fun t h=>SL P 0 x Q t h) fun b hb hlt t' h' hw=>SL.weak hw (ih (μ b) (ha ▸ hlt) b rfl hb))
 exact SL.weak (Wk.mk (T a0) (B a0) src hT hB hI hfl) (main _ a0 rfl h0)

omit [Cur] in
theorem qo3{b:Bool}:(b==true)=b:=by cases b<;>rfl
omit [Cur] in
theorem qo2{b:Bool}:(b==false) = !b:=by cases b<;>rfl
def vA:=And.intro @qfq (And.intro @qnM (And.intro @qnP (And.intro @qkS (And.intro @qnO (And.intro @qkP (And.intro @qkO (And.intro @qnL (And.intro @qkQ (And.intro @qnN (And.intro @qkR (And.intro @qkL (And.intro @qnK (And.intro @qfn (And.intro @qfo (And.intro @qfp (And.intro @qeg (And.intro @qnJ
 (And.intro @qlk (And.intro @qlh (And.intro @qdt (And.intro @qhd (And.intro @qjC (And.intro @qf6 (And.intro @qct (And.intro @qjW (And.intro @qjX @qhD))))))))))))))))))))))))))
def vR:=And.intro @qei (And.intro @qda @qkM)
def vE:=And.intro @qn3 (And.intro @qn2 (And.intro @qgf (And.intro @qeE (And.intro @qe8 (And.intro @qfa (And.intro @qgv (And.intro @qeB (And.intro @qeC (And.intro @qoM (And.intro @qkg (And.intro @qoN (And.intro @qoO (And.intro @qef (And.intro @zL (And.intro @Q1
 (And.intro @ql5 (And.intro @qmF (And.intro @qgD (And.intro @qoi (And.intro @qje (And.intro @qlO (And.intro @qog (And.intro @qgE (And.intro @qjp (And.intro @ql2 (And.intro @qpK (And.intro @qkd (And.intro @qiF (And.intro @yy (And.intro @qi4 @zV))))))))))))))))))))))))))))))
def vO:=And.intro @qmz (And.intro @qjJ (And.intro @qhf (And.intro @qmm (And.intro @qhg (And.intro @qe1 (And.intro @qhl (And.intro @qhm (And.intro @qhp (And.intro @qe4 (And.intro @qml (And.intro @qmp (And.intro @qmq (And.intro @qmo (And.intro @qoC (And.intro @qhi (And.intro @qhj (And.intro @qmA (And.intro @qmk
 (And.intro @qhk (And.intro @qms (And.intro @qe2 (And.intro @qe3 (And.intro @qjH (And.intro @qjI (And.intro @qjL (And.intro @qe6 (And.intro @qjK (And.intro @qmr (And.intro @qmw (And.intro @qmy (And.intro @qmt (And.intro @qmj (And.intro @qjE (And.intro @qjG (And.intro @qmv (And.intro @qmu (And.intro @qhh (And.intro @qmx
 (And.intro @qe7 (And.intro @qjD (And.intro @qj7 (And.intro @qmS (And.intro @qmR (And.intro @qhJ (And.intro @qmQ (And.intro @qmn (And.intro @qjF (And.intro @qfA (And.intro @qhn @qjM)))))))))))))))))))))))))))))))))))))))))))))))))
def vB:=And.intro @qii (And.intro @qih (And.intro @qie (And.intro @qic (And.intro @qib (And.intro @qid (And.intro @qia (And.intro @qig (And.intro @qh7 (And.intro @qij (And.intro @qif (And.intro @qk3 (And.intro @qh8 (And.intro @qik (And.intro @qh9 (And.intro @qfE (And.intro @qfJ (And.intro @qfD (And.intro @qfI (And.intro @qfF (And.intro @qfH (And.intro @qfG (And.intro @qm4 (And.intro @qm3 @qo4)))))))))))))))))))))))
def vF:=And.intro @qgl (And.intro @qgm (And.intro @qod (And.intro @qoc (And.intro @qlH (And.intro @qgA (And.intro @qgz (And.intro @qeN (And.intro @qh4 (And.intro @qh5 (And.intro @qin (And.intro @qim (And.intro @qio (And.intro @qj9 (And.intro @qoG (And.intro @qoH (And.intro @qmU (And.intro @qmV (And.intro @qmT (And.intro @qkX (And.intro @qeD (And.intro @qgc (And.intro @qjh (And.intro @qoj (And.intro @qol (And.intro @qok (And.intro @qlT (And.intro @qom (And.intro @qpe
 (And.intro @qf1 (And.intro @qlg (And.intro @qen (And.intro @qdb (And.intro @ql3 (And.intro @qoq (And.intro @qiE (And.intro @qnY (And.intro @qnZ (And.intro @qgh (And.intro @qeG (And.intro @qeA (And.intro @qiD (And.intro @qhN (And.intro @qmY (And.intro @qm0 (And.intro @qm1 (And.intro @qkc (And.intro @qmZ (And.intro @qoK (And.intro @qfy (And.intro @qkU (And.intro @qh3 (And.intro @qkW (And.intro @qkV
 (And.intro @qg7 (And.intro @qjs (And.intro @ql9 (And.intro @qg8 (And.intro @ql8 (And.intro @qma (And.intro @ql7 (And.intro @qjr (And.intro @qg5 (And.intro @ql6 (And.intro @qg6 (And.intro @qjq (And.intro @qiH (And.intro @qga (And.intro @qo6 (And.intro @qo7 @qo5)))))))))))))))))))))))))))))))))))))))))))))))))))))))))))))))))))))
def vM:=And.intro @qof (And.intro @qoe (And.intro @qeO (And.intro @qi9 (And.intro @qi8 (And.intro @qbk (And.intro @qon (And.intro @qgi (And.intro @qlu (And.intro @qlt (And.intro @qkh (And.intro @qoR (And.intro @qoQ (And.intro @qfw (And.intro @qel (And.intro @qfx (And.intro @qem (And.intro @qlS (And.intro @qlR @qm5))))))))))))))))))
def vC:=And.intro @qba (And.intro @y8 (And.intro @qlb (And.intro @qlc (And.intro @qld (And.intro @qew (And.intro @qfV (And.intro @qex (And.intro @qiz (And.intro @qet (And.intro @qiu (And.intro @qeu (And.intro @qfS (And.intro @qev (And.intro @qfT (And.intro @qiv (And.intro @qiy (And.intro @qit (And.intro @qix @qfU))))))))))))))))))
def vP:=And.intro @qeU (And.intro @qge (And.intro @qiK (And.intro @qiL (And.intro @qiM (And.intro @qiN (And.intro @qgd (And.intro @qcu (And.intro @qcI (And.intro @qbE (And.intro @qkG (And.intro @qdM (And.intro @qo3 (And.intro @qo2 @vz)))))))))))))
def vW:=And.intro @qoz (And.intro @qhb (And.intro @qpg (And.intro @qph (And.intro @qpi (And.intro @qjy (And.intro @qjz (And.intro @qjv (And.intro @qjw (And.intro @qjx (And.intro @qot (And.intro @qow (And.intro @qmc (And.intro @qha (And.intro @qmh (And.intro @qov (And.intro @qox (And.intro @qjA (And.intro @qmg (And.intro @qoy (And.intro @qmf (And.intro @qe0 (And.intro @qme (And.intro @qjB (And.intro @qhc (And.intro @qmb (And.intro @qmi (And.intro @qou (And.intro @qmd
 (And.intro @qkf (And.intro @qhR (And.intro @qiq (And.intro @qfL (And.intro @qk6 (And.intro @qip (And.intro @qk7 (And.intro @yt @qpD))))))))))))))))))))))))))))))))))))
def vZ:=And.intro @qgp (And.intro @qo9 (And.intro @qpa (And.intro @qpb (And.intro @qiS (And.intro @qiT (And.intro @qiP (And.intro @qiQ (And.intro @qiR (And.intro @qn4 (And.intro @qn6 (And.intro @qlz (And.intro @qn5 (And.intro @qn7 (And.intro @qiU (And.intro @qiV (And.intro @qgs (And.intro @qly (And.intro @qlD (And.intro @qlE (And.intro @qlC (And.intro @qlA @qlB)))))))))))))))))))))
end Go.Kc
end
section
namespace Go.Kc
variable [Cur]
variable {P:Program}

mutual
def flat:AV->Bool
 | .ptr _ _=>false
 | .sl _ _ _ _ _=>false
 | .map _=>false
 | .own _ _=>false
 | .fz _ _=>false
 | .pf _ _=>false
 | .sym _=>false
 | .fn _ a c=>qaB a&&qaB c
 | .ifc _ v=>flat v
 | .agg cs=>qaB cs
 | .tup cs=>qaB cs
 | .undef=>true | .b _=>true | .i _ _=>true | .s _=>true | .nilp=>true | .nils=>true | .nilf=>true | .nili=>true | .nilm=>true | .e0=>true | .nz=>true | .yl _=>false | .lp _=>true
def qaB:List AV->Bool
 | []=>true
 | v::vs=>flat v&&qaB vs
end
mutual
theorem VR.flat{ρ ρ':Ren}:∀{a:AV} {v:Value},VR σ0 ρ a v->Kc.flat a=true->VR σ0 ρ' a v
 | _,_,.undef v,_=>.undef v
 | _,_,.b x,_=>.b x
 | _,_,.i k n,_=>.i k n
 | _,_,.s x,_=>.s x
 | _,_,.nilp,_=>.nilp
 | _,_,.ptr b o L h,hc=>by simp[Kc.flat] at hc
 | _,_,.nils,_=>.nils
 | _,_,.sl b o len cap c loose L h hc,hh=>by simp[Kc.flat] at hh
 | _,_,.slz b o x l L h,hh=>by simp[Kc.flat] at hh
 | _,_,.nilf,_=>.nilf
 | _,_,.fn f first cap first' cap' h1 h2,hc=>by
  simp only[Kc.flat,Bool.and_eq_true] at hc;exact .fn _ _ _ _ _ (h1.flat hc.1) (h2.flat hc.2)
 | _,_,.nili,_=>.nili
 | _,_,.ifc t v v' h,hc=>by simp only[Kc.flat] at hc;exact .ifc _ _ _ (h.flat hc)
 | _,_,.agg cs cs' h,hc=>by simp only[Kc.flat] at hc;exact .agg _ _ (h.flat hc)
 | _,_,.tup cs cs' h,hc=>by simp only[Kc.flat] at hc;exact .tup _ _ (h.flat hc)
 | _,_,.nilm,_=>.nilm
 | _,_,.map b L h h0,hc=>by simp[Kc.flat] at hc
 | _,_,.sym j,hc=>by simp[Kc.flat] at hc
 | _,_,.fz n off c cs k arr hn h hs _,hc=>by simp[Kc.flat] at hc
 | _,_,.fz0 a,hc=>by simp[Kc.flat] at hc
 | _,_,.pf off base cs k arr h hs _,hc=>by simp[Kc.flat] at hc
 | _,_,.e0 a,_=>.e0 a
 | _,_,.nz a c,_=>.nz a c
 | _,_,.own0 b a hb,hc=>by simp[Kc.flat] at hc
 | _,_,.own b n c L h hn hc',hc=>by simp[Kc.flat] at hc
 | _,_,.yl b L h,hc=>by simp[Kc.flat] at hc
theorem VRs.flat{ρ ρ':Ren}:∀{a:List AV} {v:List Value},VRs σ0 ρ a v->qaB a=true->VRs σ0 ρ' a v
 | _,_,.nil,_=>.nil
 | _,_,.cons v vs v' vs' h hs,hc=>by
  simp only[qaB,Bool.and_eq_true] at hc;exact .cons _ _ _ _ (h.flat hc.1) (hs.flat hc.2)
end
theorem Rel.bare{ρ:Ren}{B:Nat->Prop}{h:Hp}{w:World}(r:Rel σ0 ρ B h w):Rel σ0 ⟨fun _=>none,xV ρ h w,0⟩ (low w.heap.size) H0 w :=
 ⟨(fun _ _ hb=>by cases hb),(fun _ _ _ _ _ _ hb=>by cases hb),(fun _ _ _ hb=>by cases hb),(fun _ _ _ _ _ hb=>by cases hb),(fun _ _ _ hb=>by cases hb),(fun _ _ _ _ _ hb=>by cases hb),(fun _ _ hb=>by cases hb),(fun _ h=>h),
  (fun k arr hk=>⟨r.frzRow hk,fun _ _ _ hb=>by cases hb⟩),⟨Nat.le_refl _,fun _ _ hb=>by cases hb⟩⟩
theorem qe.lend{f:Nat}{vs vs':List AV}{v:AV}{h:Hp}{k:AV->Hp->Prop}(hp:qe P f vs' v)(hf:Frzs h vs vs')(hv:flat v=true)(hk:k v h):SC P f vs h k:=by
 have hp0:=hp H0 (fun v' h'=>v'=v∧h'=H0) ⟨rfl,rfl⟩
 refine⟨hp0.1,fun ρ B w args r ha=>?_⟩
 have hcr:=hf.ok r ha;refine wP.mono (hp0.2 ⟨fun _=>none,xV ρ h w,0⟩ (low w.heap.size) w args r.bare (CRs.vr (ρ:=⟨fun _=>none,xV ρ h w,0⟩) hcr)) ?_
 rintro e w' ⟨v0,v',h',ρ',rfl,⟨rfl,rfl⟩,g2,g3,g4⟩;refine⟨v0,v',h,ρ,rfl,hk,g2.flat hv,?_,⟨fun _ _=>rfl,Nat.le_refl _,rfl,fun _ _ _=>rfl,fun k hk=>g4.pres k (r.base _ hk),g4.wle,g4.io,fun _ _ h=>h,fun _ _ h=>.inl h,Nat.le_refl _⟩⟩
 have:=r.frz' (φ:=ρ.frz) g4.pres g4.wle (fun _ _ h=>h) (fun _ _ h=>.inl h) (fun k a hk=>by
  obtain⟨ty,fz,h1,h2⟩:=(r.frz k a hk).1;refine⟨ty,fz,?_,h2⟩;rw[g4.pres k (Array.getElem?_eq_some_iff.1 h1).1];exact h1)
 exact this
mutual
def shv(m:Nat):AV->AV
 | .ptr b o=>.ptr (b+m) o
 | .sl b o n c l=>.sl (b+m) o n c l
 | .map b=>.map (b+m)
 | .own b n=>.own (b+m) n
 | .yl b=>.yl (b+m)
 | .fn f a c=>.fn f (kl m a) (kl m c)
 | .ifc t v=>.ifc t (shv m v)
 | .agg cs=>.agg (kl m cs)
 | .tup cs=>.tup (kl m cs)
 | v=>v
def kl(m:Nat):List AV->List AV
 | []=>[]
 | v::vs=>shv m v::kl m vs
end
omit [Cur] in
theorem qaY{m:Nat}:∀{vs:List AV} {j:Nat},(kl m vs)[j]?=(vs[j]?).map (shv m)
 | [],j=>by simp[kl]
 | v::vs,0=>by simp[kl]
 | v::vs,j+1=>by simpa[kl] using qaY (vs:=vs) (j:=j)
omit [Cur] in
theorem wq{m:Nat}:∀{vs:List AV},(kl m vs).length=vs.length
 | []=>rfl
 | v::vs=>by simp[kl,wq (vs:=vs)]
mutual
theorem qd9{m:Nat}:∀{v:AV},clo v=true->shv m v=v
 | .ptr _ _,h=>by simp[clo] at h
 | .sl _ _ _ _ _,h=>by simp[clo] at h
 | .map _,h=>by simp[clo] at h
 | .own _ _,h=>by simp[clo] at h
 | .fn f a c,h=>by
  simp only[clo,Bool.and_eq_true] at h;simp only[shv,jP h.1,jP h.2]
 | .ifc t v,h=>by
  simp only[clo] at h;simp only[shv,qd9 h]
 | .agg cs,h=>by
  simp only[clo] at h;simp only[shv,jP h]
 | .tup cs,h=>by
  simp only[clo] at h;simp only[shv,jP h]
 | .undef,_=>rfl
 | .b _,_=>rfl
 | .i _ _,_=>rfl
 | .s _,_=>rfl
 | .nilp,_=>rfl
 | .nils,_=>rfl
 | .nilf,_=>rfl
 | .nili,_=>rfl
 | .nilm,_=>rfl
 | .sym _,h=>by simp[clo] at h
 | .fz _ _,_=>rfl
 | .pf _ _,_=>rfl
 | .e0,_=>rfl
 | .nz,_=>rfl
 | .yl _,h=>by simp[clo] at h
 | .lp _,_=>rfl
theorem jP{m:Nat}:∀{vs:List AV},qR vs=true->kl m vs=vs
 | [],_=>rfl
 | v::vs,h=>by
  simp only[qR,Bool.and_eq_true] at h;simp only[kl,qd9 h.1,jP h.2]
end
def she(m:Nat)(es:List (AV×AV)):List (AV×AV):=es.map fun e=>(shv m e.1,shv m e.2)
omit [Cur] in
theorem qd8{m:Nat}:she m []=[]:=rfl
omit [Cur] in
theorem qc2{m:Nat}{a b:AV}{es:List (AV×AV)}:she m ((a,b)::es)=(shv m a,shv m b)::she m es:=rfl
def shb(m:Nat):Blk->Blk
 | .cells e w a cs=>.cells e w a (kl m cs)
 | .dead=>.dead
 | .map es=>.map (she m es)
noncomputable def xd(h:Hp):List Blk->Hp
 | []=>h
 | x::xs=>xd (h.push x) xs
omit [Cur] in
theorem wo:∀{bs:List Blk} {h:Hp},(xd h bs).sz=h.sz+bs.length
 | [],_=>rfl
 | x::xs,h=>by
  show (xd (h.push x) xs).sz=_;rw[wo];simp[Hp.push];omega
omit [Cur] in
theorem kh:∀{bs:List Blk} {h:Hp},(xd h bs).fl=h.fl
 | [],_=>rfl
 | x::xs,h=>by
  show (xd (h.push x) xs).fl=_;rw[kh];rfl
omit [Cur] in
theorem xt:∀{bs:List Blk} {h:Hp} {b:Nat},(xd h bs).tr.get b=if b<h.sz then h.tr.get b else if b<h.sz+bs.length then bs[b-h.sz]? else h.tr.get b
 | [],h,b=>by simp[xd];intro h1 h2;omega
 | x::xs,h,b=>by
  show (xd (h.push x) xs).tr.get b=_;rw[xt];simp only[Hp.push,Tr.get_set,List.length_cons]
  by_cases h1:b<h.sz
  ·rw[if_pos (by omega),if_neg (by omega),if_pos h1]
  ·rw[if_neg h1]
   by_cases h2:b=h.sz
   ·subst h2;rw[if_pos (by omega),if_pos rfl,if_pos (by omega)];simp
   ·rw[if_neg (by omega)]
    by_cases h3:b<h.sz+(xs.length+1)
    ·rw[if_pos (by omega),if_pos h3];rw[show b-h.sz=(b-(h.sz+1))+1 from by omega];simp
    ·rw[if_neg (by omega),if_neg h3,if_neg h2]
def Ren.join(ρ ρ2:Ren)(m l:Nat):Ren:=⟨fun b=>if b<m then ρ b else ρ2 (b-m),ρ2.frz,m+l⟩
theorem qah{ρ ρ2:Ren}{m l b:Nat}(h:b<m):ρ.join ρ2 m l b=ρ b:=by simp only[Ren.join];rw[if_pos h]
theorem ky{ρ ρ2:Ren}{m l b:Nat}:ρ.join ρ2 m l (b+m)=ρ2 b:=by simp only[Ren.join];rw[if_neg (by omega),Nat.add_sub_cancel]
mutual
theorem VR.sh{ρ ρ2:Ren}{m l:Nat}(hl:ρ2.n<=l):∀{v:AV} {x:Value},VR σ0 ρ2 v x->VR σ0 (ρ.join ρ2 m l) (shv m v) x
 | _,_,.undef v=>.undef v
 | _,_,.b x=>.b x
 | _,_,.i k n=>.i k n
 | _,_,.s x=>.s x
 | _,_,.nilp=>.nilp
 | _,_,.ptr b o L h=>.ptr _ _ L (by rw[ky];exact h)
 | _,_,.nils=>.nils
 | _,_,.sl b o len cap c loose L h hc=>.sl _ _ _ _ _ _ L (by rw[ky];exact h) hc
 | _,_,.slz b o x l' L h=>.slz _ _ _ _ L (by rw[ky];exact h)
 | _,_,.nilf=>.nilf
 | _,_,.fn f first cap first' cap' h1 h2=>.fn _ _ _ _ _ (VRs.sh hl h1) (VRs.sh hl h2)
 | _,_,.nili=>.nili
 | _,_,.ifc t v v' h=>.ifc _ _ _ (VR.sh hl h)
 | _,_,.agg cs cs' h=>.agg _ _ (VRs.sh hl h)
 | _,_,.tup cs cs' h=>.tup _ _ (VRs.sh hl h)
 | _,_,.nilm=>.nilm
 | _,_,.map b L h h0=>.map _ L (by rw[ky];exact h) h0
 | _,_,.sym j=>.sym j
 | _,_,.fz n off c cs k arr hn h hs ho=>.fz n off c cs k arr hn h hs ho
 | _,_,.fz0 a=>.fz0 a
 | _,_,.pf off base cs k arr h hs ho=>.pf off base cs k arr h hs ho
 | _,_,.e0 a=>.e0 a
 | _,_,.nz a c=>.nz a c
 | _,_,.own0 b a hb=>.own0 _ _ (by show b+m<m+l;omega)
 | _,_,.own b n c L h hn hc'=>.own _ _ _ L (by rw[ky];exact h) hn hc'
 | _,_,.yl b L h=>.yl _ L (by rw[ky];exact h)
theorem VRs.sh{ρ ρ2:Ren}{m l:Nat}(hl:ρ2.n<=l):∀{v:List AV} {x:List Value},VRs σ0 ρ2 v x->VRs σ0 (ρ.join ρ2 m l) (kl m v) x
 | _,_,.nil=>.nil
 | _,_,.cons v vs v' vs' h hs=>.cons _ _ _ _ (VR.sh hl h) (VRs.sh hl hs)
end
omit [Cur] in
theorem qj8{m:Nat}{r:Loop}{ts:List (Nat×AV)}:she m (ki r ts)=ki r (ts.map fun p=>(p.1,shv m p.2)):=by simp[she,ki,shv]
theorem kV.sh{ρ ρ2:Ren}{m l:Nat}(hl:ρ2.n<=l){es:List (AV×AV)}{o:Obj}(h:kV σ0 ρ2 es o):kV σ0 (ρ.join ρ2 m l) (she m es) o:=by
 rcases h with⟨h0,vs,clk,h1,h2,h3⟩|⟨a,n,rfl,h2⟩|⟨r,rq,ts,rfl,h2,hk2,h3⟩
 ·refine .inl ⟨fun e he=>?_,vs,clk,h1,by simp[she,h2],fun j e he=>?_⟩
  ·cases es with
   | nil=>simp[she] at he
   | cons e0 es =>
    simp[she] at he;subst he;have:=h0 e0 rfl;cases e0 with
    | mk k v=>cases k<;>first|(simp[shv];done)|exact absurd rfl this.1|exact absurd rfl (this.2 _)
  ·simp only[she,List.getElem?_map] at he;cases hj:es[j]? with
   | none=>rw[hj] at he;simp at he
   | some e0 =>
    rw[hj] at he;simp at he;subst he;obtain⟨v,g1,g2,g3⟩:=h3 j e0 hj;exact⟨v,g1,VR.sh hl g2,VR.sh hl g3⟩
 ·exact .inr (.inl ⟨a,n,rfl,h2⟩)
 ·refine .inr (.inr ⟨r,rq,_,qj8,h2,hk2,fun p hp=>?_⟩)
  obtain⟨q,hq,rfl⟩:=List.mem_map.1 hp;exact⟨(h3 q hq).1,VR.sh hl (h3 q hq).2⟩
theorem Rel.joinH{ρ ρ2:Ren}{B:Nat->Prop}{h:Hp}{w w1:World}{bs:List Blk}(r:Rel σ0 ρ B h w)(r2:Rel σ0 ρ2 (low w.heap.size) (mkH 0 bs) w1)(hp:∀k,k<w.heap.size->w1.heap[k]?=w.heap[k]?)(hw:w.heap.size<=w1.heap.size)
  (f1:∀k a,ρ.frz k=some a->ρ2.frz k=some a) (f2:∀k a,ρ2.frz k=some a->ρ.frz k=some a∨w.heap.size<=k) :
  Rel σ0 (ρ.join ρ2 h.sz bs.length) B (xd h (bs.map (shb h.sz))) w1:=by
 have r1:Rel σ0 ⟨ρ.loc,ρ2.frz,ρ.n⟩ B h w1:=r.frz' hp hw f1 f2 (fun k a hk=>(r2.frz k a hk).1)
 have n2:ρ2.n<=bs.length:=r2.dn.1
 have le1:Ren.le ⟨ρ.loc,ρ2.frz,ρ.n⟩ (ρ.join ρ2 h.sz bs.length) :=
  ⟨fun b L hb=>by rw[qah (r.dom b L hb)];exact hb,fun _ _ h=>h,Nat.le_trans r.dn.1 (Nat.le_add_right _ _)⟩
 -- a block: old,or new
 have split:∀b L,ρ.join ρ2 h.sz bs.length b=some L->(b<h.sz∧ρ b=some L∧(xd h (bs.map (shb h.sz))).tr.get b=h.tr.get b) ∨
   ∃c,b=c+h.sz∧ρ2 c=some L∧(xd h (bs.map (shb h.sz))).tr.get b=((mkH 0 bs).tr.get c).map (shb h.sz)∧w.heap.size<=L.blk:=by
  intro b L hb
  by_cases hlt:b<h.sz
  ·rw[qah hlt] at hb;refine .inl ⟨hlt,hb,?_⟩;rw[xt,if_pos hlt]
  ·obtain⟨c,rfl⟩:∃c,b=c+h.sz:=⟨b-h.sz,by omega⟩
   rw[ky] at hb;have hc:c<bs.length:=r2.dom c L hb;refine .inr ⟨c,rfl,hb,?_,Nat.not_lt.1 (r2.flr c L hb (Nat.zero_le _))⟩;rw[xt,if_neg hlt,if_pos (by simp;omega),xp,Nat.add_sub_cancel,List.getElem?_map]
 have oldlt:∀b L x,ρ b=some L->h.tr.get b=some x->x≠.dead->L.blk<w.heap.size:=fun b L x h1 h2 h3=>r.blk_lt b L h1 x h2 h3
 have shd:∀{x y:Blk},(some x).map (shb h.sz)=some y->y≠.dead->x≠.dead:=by
  intro x y h1 h2 h3;subst h3;simp[shb] at h1;exact h2 h1.symm
 have shc:∀{o:Option Blk} {e:Nat} {w a:Bool} {cs:List AV},o.map (shb h.sz)=some (.cells e w a cs)->∃cs0,o=some (.cells e w a cs0)∧cs=kl h.sz cs0:=by
  intro o e w a cs ho;cases o with
  | none=>simp at ho
  | some x =>
   cases x with
   | cells e' w' a' cs'=>simp[shb] at ho;obtain⟨rfl,rfl,rfl,rfl⟩:=ho;exact⟨_,rfl,rfl⟩
   | dead=>simp[shb] at ho
   | map es=>simp[shb] at ho
 have shm:∀{o:Option Blk} {es:List (AV×AV)},o.map (shb h.sz)=some (.map es)->∃es0,o=some (.map es0)∧es=she h.sz es0:=by
  intro o es ho;cases o with
  | none=>simp at ho
  | some x =>
   cases x with
   | cells e' w' a' cs'=>simp[shb] at ho
   | dead=>simp[shb] at ho
   | map es'=>simp[shb] at ho;exact⟨es',rfl,ho.symm⟩
 have shn:∀{o:Option Blk} {y:Blk},o.map (shb h.sz)=some y->y≠.dead->∃x,o=some x∧x≠.dead:=by
  intro o y ho hy;cases o with
  | none=>simp at ho
  | some x=>exact⟨x,rfl,shd ho hy⟩
 refine⟨fun b L hb=>?_,?_,?_,?_,?_,?_,?_,kp r.base hw,?_,?_⟩
 ·rw[wo,List.length_map];rcases split b L hb with⟨h1,_⟩|⟨c,rfl,h1,_⟩
  ·omega
  ·have:c<bs.length:=r2.dom c L h1;omega
 ·intro b L e wf af cs hb hg;rcases split b L hb with⟨h1,h2,h3⟩|⟨c,rfl,h2,h3,_⟩
  ·rw[h3] at hg;obtain⟨q1,c,ty,fz,q2,q3,q4,q5,q6⟩:=r1.cells b L e wf af cs h2 hg;exact⟨q1,c,ty,fz,q2,q3,q4,fun j v hv=>let ⟨v',g7,g8⟩:=q5 j v hv;⟨v',g7,g8.mono le1⟩,q6⟩
  ·rw[h3] at hg;obtain⟨cs0,g1,rfl⟩:=shc hg;obtain⟨q1,c',ty,fz,q2,q3,q4,q5,q6⟩:=r2.cells c L e wf af cs0 h2 g1;refine⟨q1,c',ty,fz,q2,q3,by rw[wq];exact q4,fun j v hv=>?_,q6⟩
   rw[qaY] at hv;cases hj:cs0[j]? with
   | none=>rw[hj] at hv;simp at hv
   | some v0 =>
    rw[hj] at hv;simp at hv;subst hv;obtain⟨v',g7,g8⟩:=q5 j v0 hj;exact⟨v',g7,g8.sh n2⟩
 ·intro b L es hb hg;rcases split b L hb with⟨h1,h2,h3⟩|⟨c,rfl,h2,h3,_⟩
  ·rw[h3] at hg;obtain⟨q1,o,q2,q3⟩:=r1.maps b L es h2 hg;exact⟨q1,o,q2,q3.mono le1⟩
  ·rw[h3] at hg;obtain⟨es0,g1,rfl⟩:=shm hg;obtain⟨q1,o,q2,q3⟩:=r2.maps c L es0 h2 g1;exact⟨q1,o,q2,q3.sh n2⟩
 ·intro b L e af cs hb hg b' L' x hb' hx hd he;rcases split b L hb with⟨h1,h2,h3⟩|⟨c,rfl,h2,h3,h4⟩<;>rcases split b' L' hb' with⟨i1,i2,i3⟩|⟨c',rfl,i2,i3,i4⟩
  ·rw[h3] at hg;rw[i3] at hx;exact r.excl b L e af cs h2 hg b' L' x i2 hx hd he
  ·rw[h3] at hg;have:=oldlt b L _ h2 hg (by simp);omega
  ·rw[i3] at hx;have:=oldlt b' L' _ i2 hx hd;omega
  ·rw[h3] at hg;rw[i3] at hx;obtain⟨cs0,g1,rfl⟩:=shc hg;obtain⟨x0,g2,g3⟩:=shn hx hd;rw[r2.excl c L e af cs0 h2 g1 c' L' x0 i2 g2 g3 he]
 ·intro b L es hb hg b' L' x hb' hx hd he;rcases split b L hb with⟨h1,h2,h3⟩|⟨c,rfl,h2,h3,h4⟩
  ·rw[h3] at hg;rcases split b' L' hb' with⟨i1,i2,i3⟩|⟨c',rfl,i2,i3,i4⟩
   ·rw[i3] at hx;exact r.exclm b L es h2 hg b' L' x i2 hx hd he
   ·have:=oldlt b L _ h2 hg (by simp);omega
  ·rw[h3] at hg;obtain⟨es0,g1,rfl⟩:=shm hg;rcases split b' L' hb' with⟨i1,i2,i3⟩|⟨c',rfl,i2,i3,i4⟩
   ·rw[i3] at hx;have:=oldlt b' L' _ i2 hx hd;omega
   ·rw[i3] at hx;obtain⟨x0,g2,g3⟩:=shn hx hd;rw[r2.exclm c L es0 h2 g1 c' L' x0 i2 g2 g3 he]
 ·intro b L e wf cs hb hg b' L' e' wf' af' cs' hb' hx he;rcases split b L hb with⟨h1,h2,h3⟩|⟨c,rfl,h2,h3,h4⟩<;>rcases split b' L' hb' with⟨i1,i2,i3⟩|⟨c',rfl,i2,i3,i4⟩
  ·rw[h3] at hg;rw[i3] at hx;exact r.app b L e wf cs h2 hg b' L' e' wf' af' cs' i2 hx he
  ·rw[h3] at hg;have:=oldlt b L _ h2 hg (by simp);omega
  ·rw[i3] at hx;have:=oldlt b' L' _ i2 hx (by simp);omega
  ·rw[h3] at hg;rw[i3] at hx;obtain⟨cs0,g1,rfl⟩:=shc hg;obtain⟨cs1,g2,rfl⟩:=shc hx;have q:=r2.app c L e wf cs0 h2 g1 c' L' e' wf' af' cs1 i2 g2 he;rw[wq,wq];exact⟨q.1,fun hh=>by rw[q.2 hh]⟩
 ·intro b L hb hf;rw[kh] at hf;rcases split b L hb with⟨h1,h2,h3⟩|⟨c,rfl,h2,h3,h4⟩
  ·exact r.flr b L h2 hf
  ·exact jM r.base h4
 ·intro k arr hk;refine⟨(r2.frz k arr hk).1,fun b L x hb hx hd=>?_⟩
  rcases split b L hb with⟨h1,h2,h3⟩|⟨c,rfl,h2,h3,h4⟩
  ·rw[h3] at hx;exact (r1.frz k arr hk).2 b L x h2 hx hd
  ·rw[h3] at hx;obtain⟨x0,g2,g3⟩:=shn hx hd;exact (r2.frz k arr hk).2 c L x0 h2 g2 g3
 ·refine⟨?_,fun b L hb=>?_⟩
  ·show h.sz+bs.length<=_;rw[wo,List.length_map];exact Nat.le_refl _
  ·rcases split b L hb with⟨_,h2,_⟩|⟨c,rfl,h2,_,_⟩
   ·exact Nat.lt_of_lt_of_le (r.dn.2 b L h2) hw
   ·exact r2.dn.2 c L h2
def Own(P:Program)(f:Nat)(vs:List AV)(v:AV)(bs:List Blk):Prop :=
 ∀(h:Hp) (k:AV->Hp->Prop),k (shv h.sz v) (xd h (bs.map (shb h.sz)))->SC P f vs h k
def qnx(v:AV)(bs:List Blk)(v':AV)(h':Hp):Prop:=h'.fl=0->∃src:List Nat,NV (rl src h'.sz) bs.length v' v∧BWs h' (rl src h'.sz) bs.length src bs∧(src.filter fun b=>decide (b<h'.sz)).Nodup
theorem Own.of_SC{f:Nat}{vs:List AV}{v:AV}{bs:List Blk}(hcl:qR vs=true)(hs:SC P f vs H0 (qnx v bs)):Own P f vs v bs:=by
 intro h k hk;refine⟨hs.1,fun ρ B w args r ha=>?_⟩
 have hcr:=ha.crs hcl;refine wP.mono (hs.2 ⟨fun _=>none,ρ.frz,0⟩ (low w.heap.size) w args r.empty (CRs.vr (ρ:=⟨fun _=>none,ρ.frz,0⟩) hcr)) ?_
 rintro e w1 ⟨v0,v',h1,ρ1,rfl,g1,g2,g3,g4⟩;obtain⟨src,s1,s2,s3⟩:=g1 g4.fl;have hw:Wk 0 (mkT [(0,v0)]) h1 (mkT [(0,v)]) (mkH 0 bs):=Wk.mk [(0,v)] bs src ⟨⟨v0,by simp[mkT,Tr.get_set],s1⟩,trivial⟩ s2 s3 g4.fl
 obtain⟨ρ2,t2,r2,k2⟩:=hw ρ1 (low w.heap.size) w1 #[v'] (fun j x hj=>by
  have:=yD hj;simp at this;obtain⟨rfl,rfl⟩:=this;exact⟨by simp,by simpa using g2⟩) g3
 have hv2:VR σ0 ρ2 v v':=by
  have:=(t2 0 v (by simp[mkT,Tr.get_set])).2;simpa using this
 have f1:∀k a,ρ.frz k=some a->ρ2.frz k=some a:=fun k a hk=>k2.frz k a (g4.frz k a hk)
 have f2:∀k a,ρ2.frz k=some a->ρ.frz k=some a∨w.heap.size<=k:=fun k a hk=>(k2.fnew k a hk).elim (fun hk=>(g4.fnew k a hk).imp id Nat.not_lt.1) (fun hk=>.inr (Nat.not_lt.1 hk))
 refine⟨_,v',_,ρ.join ρ2 h.sz bs.length,rfl,hk,hv2.sh r2.dn.1,Rel.joinH r r2 g4.pres g4.wle f1 f2,?_⟩;refine⟨fun b hb=>qah hb,by rw[wo];omega,kh,fun b _ hb=>by rw[xt,if_pos hb],fun k hk=>g4.pres k (r.base _ hk),g4.wle,g4.io,f1,fun k a hk=>(f2 k a hk).imp id (jM r.base),?_⟩
 exact Nat.le_trans r.dn.1 (Nat.le_add_right _ _)
theorem Own.mk{f:Nat}{i:IFn}{vs:List AV}{v:AV}{bs:List Blk}(hc:qv P f i=true)(hcl:qR vs=true)(hV:V P 0 i.body (js i.res (qnx v bs)) (yT vs 0 .leaf) H0):Own P f vs v bs :=
 Own.of_SC hcl (SC.mk hc (qJ hV))
def PC(P:Program)(f:Nat)(vs:List AV)(h:Hp)(k:AV->Hp->Prop):Prop:=∃v h',(∀k':AV->Hp->Prop,k' v h'->SC P f vs h k')∧k v h'
def PY(P:Program)(b:Nat)(vs:List AV)(h:Hp)(k:AV->Hp->Prop):Prop:=∃v h',(∀k':AV->Hp->Prop,k' v h'->CC P 0 (.yl b::vs) h k')∧k v h'
@[congr] theorem qny {f:Nat} {vs vs':List AV} {h:Hp} {k:AV->Hp->Prop} {mk:Prop} (_:zw=mk) (h':vs=vs'):PC P f vs h k=PC P f vs' h k:=by rw[h']
@[congr] theorem qnz {b:Nat} {vs vs':List AV} {h:Hp} {k:AV->Hp->Prop} {mk:Prop} (_:zw=mk) (h':vs=vs'):PY P b vs h k=PY P b vs' h k:=by rw[h']
def PCC(P:Program):qW:=fun f vs h k=>∃v h',(∀k':AV->Hp->Prop,k' v h'->CC P f vs h k')∧k v h'
theorem qo0:LC (PCC P):=fun _ _ _ _ ⟨v,h',h1,h2⟩=>⟨v,h',h2,fun _ h3=>⟨v,h',h1,h3⟩⟩
theorem qfm:wv P σ0 (PCC P):=⟨fun f vs h _ ⟨_,_,h1,h2⟩=>(qan P).1 f vs h _ (h1 _ h2),fun b vs h _ ⟨_,_,h1,h2⟩=>(qan P).2 b vs h _ (h1 _ h2)⟩
theorem qlj{b:Nat}{vs:List AV}{h:Hp}{k:AV->Hp->Prop}:cvF (PCC P) (.yl b) vs h k↔PY P b vs h k:=Iff.rfl
theorem qli{f:Nat}{a c vs:List AV}{h:Hp}{k:AV->Hp->Prop}:cvF (PCC P) (.fn f a c) vs h k↔PC P f (a++(vs++c)) h k:=Iff.rfl
theorem qhq{dst:Option Nat}{f:Nat}{args:List O}{ops:List ROp}{Q:Tr AV->Hp->Prop}{t:Tr AV}{s fl:Nat}{tr:Tr Blk}:VR' (PCC P) (⟨dst,.callF f args,none⟩::ops) Q t ⟨s,fl,tr⟩↔xD t args (fun vs=>PC P f vs ⟨s,s,tr⟩ (fun v h'=>xu t dst v (fun t'=>VR' (PCC P) ops Q t' (h'.down fl)))):=qeh
theorem qhr{dst:Option Nat}{f:Nat}{args:List O}{ops:List ROp}{Q:Tr AV->Hp->Prop}{t:Tr AV}{h:Hp}:VR' (PCC P) (⟨dst,.callW f args,none⟩::ops) Q t h↔xD t args (fun vs=>PC P f vs h (fun v h'=>xu t dst v (fun t'=>VR' (PCC P) ops Q t' h'))):=qej
theorem xy{ops:List ROp}{Q:Tr AV->Hp->Prop}{t:Tr AV}{h:Hp}(hr:VR' (PCC P) ops Q t h):VD P ops Q t h:=qnH qo0 qfm hr
theorem qe.pc{f:Nat}{vs:List AV}{v:AV}{h:Hp}{k:AV->Hp->Prop}(hp:qe P f vs v)(hk:k v h):PC P f vs h k:=⟨v,h,fun k' h'=>hp h k' h',hk⟩
theorem qe.lendp{f:Nat}{vs vs':List AV}{v:AV}{h:Hp}{k:AV->Hp->Prop}(hp:qe P f vs' v)(hf:Frzs h vs vs')(hv:flat v=true)(hk:k v h):PC P f vs h k:=⟨v,h,fun _ h'=>qe.lend hp hf hv h',hk⟩
theorem Own.sc{f:Nat}{vs:List AV}{v:AV}{bs:List Blk}{h:Hp}{k:AV->Hp->Prop}(hp:Own P f vs v bs)(hk:k (shv h.sz v) (xd h (bs.map (shb h.sz)))):SC P f vs h k:=hp h k hk
omit [Cur] in
theorem qaj{s f:Nat}{tr:Tr Blk}{x:Blk}:Hp.push ⟨s,f,tr⟩ x=⟨s+1,f,tr.set s x⟩:=rfl
omit [Cur] in
theorem yF{h:Hp}:xd h []=h:=rfl
omit [Cur] in
theorem kC{h:Hp}{x:Blk}{xs:List Blk}:xd h (x::xs)=xd (h.push x) xs:=rfl

abbrev qal:=ICode->(X->Tr AV->Hp->Prop)->Tr AV->Hp->Prop
noncomputable def qbB(env:Tr IFn)(ih:qal)(f:Nat)(args:List AV)(h:Hp)(k:AV->Hp->Prop):Prop :=
 env.getK f (fun fn=>IFn.rec (motive:=fun _=>Prop) (fun res body=>qcg args 0 .leaf (fun t0=>ih body (fun e t h' =>
  X.rec (motive:=fun _=>Prop) (jt t h' res (fun vs=>k (xX vs) h')) (fun _=>False) (jt t h' res (fun vs=>k (xX vs) h')) e) t0 h)) fn)
abbrev QU:=Nat->List AV->Option AV
def qam(P:Program)(ho:QU):Prop:=∀f vs v,ho f vs=some v->qe P f vs v
noncomputable def yW(env:Tr IFn)(ho:QU)(ih:qal)(f:Nat)(args:List AV)(h:Hp)(k:AV->Hp->Prop):Prop :=
 Option.rec (motive:=fun _=>Prop) (qbB env ih f args h k) (fun v=>k v h) (ho f args)
noncomputable def qfR(env:Tr IFn)(ho:QU)(ih:qal):qW:=fun f args h k=>Nat.rec (motive:=fun _=>Prop) False (fun f _=>yW env ho ih f args h k) f
noncomputable def fv(env:Tr IFn)(ho:QU)(n:Nat):qal :=
 Nat.rec (motive:=fun _=>qal) (fun _ _ _ _=>False) (fun _ ih c Q t h=>match c with
  | .skip=>Q .normal t h
  | .reg draw ops=>QM qx draw (qfR env ho ih) ops (fun t h=>Q .normal t h) t h
  | .rangeF _ _ _ _ _=>False
  | .seq x y=>ih x (fun e t h=>X.rec (motive:=fun _=>Prop) (ih y Q t h) (fun id=>Q (.exit id) t h) (Q .ret t h) e) t h
  | .cond c x y=>evK t c (fun v=>unB v (fun b=>Bool.rec (motive:=fun _=>Prop) (ih y Q t h) (ih x Q t h) b))
  | .blk id x=>ih x (fun e t h=>X.rec (motive:=fun _=>Prop) (Q .normal t h) (fun id'=>Bool.rec (motive:=fun _=>Prop) (Q (.exit id') t h) (Q .normal t h) (Nat.beq id' id)) (Q .ret t h) e) t h
  | .loop x=>ih x (fun e t h=>X.rec (motive:=fun _=>Prop) (ih (.loop x) Q t h) (fun id=>Q (.exit id) t h) (Q .ret t h) e) t h
  | .exit id=>Q (.exit id) t h
  | .ret=>Q .ret t h
  | .no=>False
  | .cut x=>ih x Q t h) n
def LB(ih:qal):Prop:=∀c Q t h,ih c Q t h->∃e t' h',Q e t' h'∧∀Q',Q' e t' h'->ih c Q' t h
omit [Cur] in
theorem qfQ(env:Tr IFn){ih:qal}(hi:LB ih):LC (qbB env ih):=by
 intro f vs h k hk;obtain⟨fn,g1,g2⟩:=(Tr.getK_iff _ _ _).1 hk;cases fn with
 | mk res body =>
  obtain⟨t0,g3,g4⟩:=qdJ vs 0 .leaf _ g2;obtain⟨e,t',h',h1,h2⟩:=hi _ _ _ _ g3
  have back:∀k',(X.rec (motive:=fun _=>Prop) (jt t' h' res (fun vs=>k' (xX vs) h')) (fun _=>False) (jt t' h' res (fun vs=>k' (xX vs) h')) e:Prop)->qbB env ih f vs h k':=fun k' hk' =>
   (Tr.getK_iff _ _ _).2 ⟨⟨res,body⟩,g1,g4 (fun t0=>ih body (fun e t h'=>X.rec (motive:=fun _=>Prop) (jt t h' res (fun vs=>k' (xX vs) h')) (fun _=>False) (jt t h' res (fun vs=>k' (xX vs) h')) e) t0 h) (h2 (fun e t h'=>X.rec (motive:=fun _=>Prop) (jt t h' res (fun vs=>k' (xX vs) h')) (fun _=>False) (jt t h' res (fun vs=>k' (xX vs) h')) e) hk')⟩
  cases e with
  | exit id=>exact h1.elim
  | normal =>
   obtain⟨vs,h3,h4⟩:=qaV t' h' res _ h1;exact⟨_,_,h3,fun k' hk'=>back k' (h4 (fun vs=>k' (xX vs) h') hk')⟩
  | ret =>
   obtain⟨vs,h3,h4⟩:=qaV t' h' res _ h1;exact⟨_,_,h3,fun k' hk'=>back k' (h4 (fun vs=>k' (xX vs) h') hk')⟩
omit [Cur] in
theorem qir(env:Tr IFn)(ho:QU){ih:qal}(hi:LB ih):LC (yW env ho ih):=by
 intro f vs h k hk;unfold yW at hk;cases hv:ho f vs with
 | none =>
  rw[hv] at hk;obtain⟨v,h',h1,h2⟩:=qfQ env hi f vs h k hk;exact⟨v,h',h1,fun k' hk'=>by unfold yW;rw[hv];exact h2 k' hk'⟩
 | some v =>
  rw[hv] at hk;exact⟨v,h,hk,fun k' hk'=>by unfold yW;rw[hv];exact hk'⟩
omit [Cur] in
theorem qcm(env:Tr IFn)(ho:QU){ih:qal}(hi:LB ih):LC (qfR env ho ih):=by
 intro f vs h k hk;cases f with
 | zero=>exact hk.elim
 | succ f=>exact qir env ho hi f vs h k hk
omit [Cur] in
theorem qn8(env:Tr IFn)(ho:QU):∀n,LB (fv env ho n)
 | 0=>fun _ _ _ _ h=>h.elim
 | n+1=>fun c Q t h hk=>by
  have ih:=qn8 env ho n;cases c with
  | no=>exact hk.elim
  | rangeF=>exact hk.elim
  | cut x=>exact ih _ _ _ _ hk
  | skip=>exact⟨_,_,_,hk,fun _ h=>h⟩
  | exit id=>exact⟨_,_,_,hk,fun _ h=>h⟩
  | ret=>exact⟨_,_,_,hk,fun _ h=>h⟩
  | reg draw ops =>
   obtain⟨t',h',h1,h2⟩:=qdy qx draw (qcm env ho ih) ops t h _ hk;exact⟨_,_,_,h1,fun Q' hQ=>h2 (fun t h=>Q' .normal t h) hQ⟩
  | seq x y =>
   obtain⟨e,t1,h1,g1,g2⟩:=ih _ _ _ _ hk;cases e with
   | normal =>
    obtain⟨e2,t2,h2,g3,g4⟩:=ih _ _ _ _ g1;exact⟨e2,t2,h2,g3,fun Q' hQ=>g2 (fun e t h=>X.rec (motive:=fun _=>Prop) (fv env ho n y Q' t h) (fun id=>Q' (.exit id) t h) (Q' .ret t h) e) (g4 _ hQ)⟩
   | exit id=>exact⟨_,t1,h1,g1,fun Q' hQ=>g2 (fun e t h=>X.rec (motive:=fun _=>Prop) (fv env ho n y Q' t h) (fun id=>Q' (.exit id) t h) (Q' .ret t h) e) hQ⟩
   | ret=>exact⟨_,t1,h1,g1,fun Q' hQ=>g2 (fun e t h=>X.rec (motive:=fun _=>Prop) (fv env ho n y Q' t h) (fun id=>Q' (.exit id) t h) (Q' .ret t h) e) hQ⟩
  | cond c x y =>
   obtain⟨v,g1,g2⟩:=qp t c _ hk;obtain⟨b,g3,g4⟩:=QR v _ g1;cases b with
   | true =>
    obtain⟨e,t1,h1,g5,g6⟩:=ih _ _ _ _ g3;exact⟨e,t1,h1,g5,fun Q' hQ=>g2 (fun v=>unB v (fun b=>Bool.rec (motive:=fun _=>Prop) (fv env ho n y Q' t h) (fv env ho n x Q' t h) b)) (g4 (fun b=>Bool.rec (motive:=fun _=>Prop) (fv env ho n y Q' t h) (fv env ho n x Q' t h) b) (g6 _ hQ))⟩
   | false =>
    obtain⟨e,t1,h1,g5,g6⟩:=ih _ _ _ _ g3;exact⟨e,t1,h1,g5,fun Q' hQ=>g2 (fun v=>unB v (fun b=>Bool.rec (motive:=fun _=>Prop) (fv env ho n y Q' t h) (fv env ho n x Q' t h) b)) (g4 (fun b=>Bool.rec (motive:=fun _=>Prop) (fv env ho n y Q' t h) (fv env ho n x Q' t h) b) (g6 _ hQ))⟩
  | blk id x =>
   obtain⟨e,t1,h1,g1,g2⟩:=ih _ _ _ _ hk;cases e with
   | normal=>exact⟨_,t1,h1,g1,fun Q' hQ=>g2 (fun e t h=>X.rec (motive:=fun _=>Prop) (Q' .normal t h) (fun id'=>Bool.rec (motive:=fun _=>Prop) (Q' (.exit id') t h) (Q' .normal t h) (Nat.beq id' id)) (Q' .ret t h) e) hQ⟩
   | ret=>exact⟨_,t1,h1,g1,fun Q' hQ=>g2 (fun e t h=>X.rec (motive:=fun _=>Prop) (Q' .normal t h) (fun id'=>Bool.rec (motive:=fun _=>Prop) (Q' (.exit id') t h) (Q' .normal t h) (Nat.beq id' id)) (Q' .ret t h) e) hQ⟩
   | exit id' =>
    have g1':(Bool.rec (motive:=fun _=>Prop) (Q (.exit id') t1 h1) (Q .normal t1 h1) (Nat.beq id' id):Prop):=g1
    cases hb:Nat.beq id' id with
    | true =>
     rw[hb] at g1';refine⟨_,t1,h1,g1',fun Q' hQ=>g2 (fun e t h=>X.rec (motive:=fun _=>Prop) (Q' .normal t h) (fun id'=>Bool.rec (motive:=fun _=>Prop) (Q' (.exit id') t h) (Q' .normal t h) (Nat.beq id' id)) (Q' .ret t h) e) ?_⟩
     show (Bool.rec (motive:=fun _=>Prop) (Q' (.exit id') t1 h1) (Q' .normal t1 h1) (Nat.beq id' id):Prop)
     rw[hb];exact hQ
    | false =>
     rw[hb] at g1';refine⟨_,t1,h1,g1',fun Q' hQ=>g2 (fun e t h=>X.rec (motive:=fun _=>Prop) (Q' .normal t h) (fun id'=>Bool.rec (motive:=fun _=>Prop) (Q' (.exit id') t h) (Q' .normal t h) (Nat.beq id' id)) (Q' .ret t h) e) ?_⟩
     show (Bool.rec (motive:=fun _=>Prop) (Q' (.exit id') t1 h1) (Q' .normal t1 h1) (Nat.beq id' id):Prop)
     rw[hb];exact hQ
  | loop x =>
   obtain⟨e,t1,h1,g1,g2⟩:=ih _ _ _ _ hk;cases e with
   | normal =>
    obtain⟨e2,t2,h2,g3,g4⟩:=ih _ _ _ _ g1;exact⟨e2,t2,h2,g3,fun Q' hQ=>g2 (fun e t h=>X.rec (motive:=fun _=>Prop) (fv env ho n (.loop x) Q' t h) (fun id=>Q' (.exit id) t h) (Q' .ret t h) e) (g4 _ hQ)⟩
   | exit id=>exact⟨_,t1,h1,g1,fun Q' hQ=>g2 (fun e t h=>X.rec (motive:=fun _=>Prop) (fv env ho n (.loop x) Q' t h) (fun id=>Q' (.exit id) t h) (Q' .ret t h) e) hQ⟩
   | ret=>exact⟨_,t1,h1,g1,fun Q' hQ=>g2 (fun e t h=>X.rec (motive:=fun _=>Prop) (fv env ho n (.loop x) Q' t h) (fun id=>Q' (.exit id) t h) (Q' .ret t h) e) hQ⟩

theorem S.mono{n:Nat}{c:ICode}{Q Q':X->Tr AV->Hp->Prop}{t:Tr AV}{h:Hp}(hs:S P n c Q t h)(hq:∀e t h,Q e t h->Q' e t h):S P n c Q' t h:=by
 intro nt code hc hn ro hro ρ B w a ht hsz r;refine wpIn_mono (hs nt code hc hn ro hro ρ B w a ht hsz r) ?_;rintro e a1 w1 ⟨x1,t1,h1,ρ1,rs,hx,hq1,rest⟩;exact⟨x1,t1,h1,ρ1,rs,hx,hq _ _ _ hq1,rest⟩
theorem S.reg{n:Nat}{d:Bool}{rs:List ROp}{C:qW}(hl:LC C)(hC:wv P σ0 C){Q:X->Tr AV->Hp->Prop}{t:Tr AV}{h:Hp}(hv:QM qx d C rs (fun t h=>Q .normal t h) t h):S P n (.reg d rs) Q t h:=by
 intro nt code hc hn ro hro ρ B w a ht hsz r;cases code<;>first|(simp[qI] at hc;done)|skip
 rename_i id ops d';simp only[qI,Bool.and_eq_true] at hc;obtain⟨⟨h1,h2⟩,h3⟩:=hc;obtain rfl:=eq_of_beq h1;cases d' with
 | false =>
  refine wpIn_region ?_
  have:=qbX (ops:=ops) (nt:=nt) (ro:=ro) (K:=wu σ0 Q nt n ρ B h w a.defers) (ρ0:=ρ) (h0:=h) (w0:=w) (ds:=a.defers) (qai P) hC (fun a' w' t' h' ρ' g1 g2 g3 g4 g5 g6=>wu.of .normal g1 g2 g3 g4 g5 (g6.kep hn))
   ops.toList rs 0 h2 rfl t h ρ w a hv ht hsz rfl r (Kept.refl _ _ _ _)
  rw[List.range_eq_range'];simpa using this
 | true =>
  simp only[Bool.not_true,Bool.false_or,Bool.and_eq_true] at h3;exact qdN (qai P) hl hC h2 h3.1 h3.2 hv ht hsz r (fun a' w' t' h' ρ' g1 g2 g3 g4 g5 g6=>wu.of .normal g1 g2 g3 g4 g5 (g6.kep hn))
theorem S.seq{n:Nat}{x y:ICode}{Q:X->Tr AV->Hp->Prop}{t:Tr AV}{h:Hp}(hv:S P n x (fun e t h=>onX e (S P n y Q t h) (fun id=>Q (.exit id) t h) (Q .ret t h)) t h):S P n (.seq x y) Q t h:=by
 intro nt code hc hn ro hro ρ B w a ht hsz r;cases code<;>first|(simp[qI] at hc;done)|skip
 rename_i cx cy;simp only[qI,Bool.and_eq_true] at hc;refine wpIn_seq (wpIn_mono (hv nt cx hc.1 hn ro (nr1 hro) ρ B w a ht hsz r) ?_);rintro e a1 w1 ⟨x1,t1,h1,ρ1,rs,hx,hq,ht1,hs1,hd1,hm,r1,k1⟩;cases hx with
 | normal=>exact wpIn_mono (hq nt cy hc.2 k1.szle ro (nr2 hro) ρ1 _ w1 a1 ht1 hs1 r1) (fun e a2 w2 hp=>wu.trans k1 hm hd1 hm.lt hp)
 | exit id=>exact⟨_,t1,h1,ρ1,rs,.exit id,hq,ht1,hs1,hd1,hm,r1,k1⟩
 | ret=>exact⟨_,t1,h1,ρ1,rs,.ret,hq,ht1,hs1,hd1,hm,r1,k1⟩
theorem S.cond{n:Nat}{c:O}{x y:ICode}{Q:X->Tr AV->Hp->Prop}{t:Tr AV}{h:Hp}(hv:evK t c (fun v=>unB v (fun b=>if b=true then S P n x Q t h else S P n y Q t h))):S P n (.cond c x y) Q t h:=by
 intro nt code hc hn ro hro ρ B w a ht hsz r;cases code<;>first|(simp[qI] at hc;done)|skip
 rename_i cc cx cy;simp only[qI,Bool.and_eq_true] at hc;obtain⟨⟨h1,h2⟩,h3⟩:=hc;obtain⟨v,h4,h5⟩:=qC ht h1 hv;obtain⟨b,h6,h7⟩:=qa0 h5 h4;cases b with
 | true=>exact wpIn_cond_true h6 (h7 nt cx h2 hn ro (nr1 hro) ρ B w a ht hsz r)
 | false=>exact wpIn_cond_false h6 (h7 nt cy h3 hn ro (nr2 hro) ρ B w a ht hsz r)
theorem S.blk{n id:Nat}{x:ICode}{Q:X->Tr AV->Hp->Prop}{t:Tr AV}{h:Hp}(hv:S P n x (fun e t h=>onX e (Q .normal t h) (fun i=>if i=id then Q .normal t h else Q (.exit i) t h) (Q .ret t h)) t h):S P n (.blk id x) Q t h:=by
 intro nt code hc hn ro hro ρ B w a ht hsz r;cases code<;>first|(simp[qI] at hc;done)|skip
 rename_i id' cx;simp only[qI,Bool.and_eq_true] at hc;obtain rfl:=eq_of_beq hc.1;refine wpIn_block (wpIn_mono (hv nt cx hc.2 hn ro hro ρ B w a ht hsz r) ?_);rintro e a1 w1 ⟨x1,t1,h1,ρ1,rs,hx,hq,ht1,hs1,hd1,hm,r1,k1⟩;cases hx with
 | normal=>exact⟨_,t1,h1,ρ1,rs,.normal,hq,ht1,hs1,hd1,hm,r1,k1⟩
 | ret=>exact⟨_,t1,h1,ρ1,rs,.ret,hq,ht1,hs1,hd1,hm,r1,k1⟩
 | exit id2 =>
  show (if id2=id' then _ else _)
  have hq':(if id2=id' then Q .normal t1 h1 else Q (.exit id2) t1 h1):=hq
  by_cases he:id2=id'
  ·rw[if_pos he] at hq' ⊢;exact⟨_,t1,h1,ρ1,rs,.normal,hq',ht1,hs1,hd1,hm,r1,k1⟩
  ·rw[if_neg he] at hq' ⊢;exact⟨_,t1,h1,ρ1,rs,.exit id2,hq',ht1,hs1,hd1,hm,r1,k1⟩
theorem S.loop{n:Nat}{x:ICode}{Q:X->Tr AV->Hp->Prop}{t:Tr AV}{h:Hp}(hv:SL P n x Q t h):S P n (.loop x) Q t h:=by
 intro nt code hc hn ro hro ρ B w a ht hsz r;cases code<;>first|(simp[qI] at hc;done)|skip
 rename_i cx;exact qbi (hv nt cx (by simpa[qI] using hc) hn ro hro ρ B w a ht hsz r)
theorem SL.of_S{n:Nat}{x:ICode}{Q:X->Tr AV->Hp->Prop}{t:Tr AV}{h:Hp}(hv:S P n x (fun e t h=>onX e (SL P n x Q t h) (fun id=>Q (.exit id) t h) (Q .ret t h)) t h):SL P n x Q t h:=by
 intro nt cx hc hn ro hro ρ B w a ht hsz r;refine Zp (wpIn_mono (hv nt cx hc hn ro hro ρ B w a ht hsz r) ?_);rintro e a1 w1 ⟨x1,t1,h1,ρ1,rs,hx,hq,ht1,hs1,hd1,hm,r1,k1⟩;cases hx with
 | normal=>exact vo.mono (hq nt cx hc k1.szle ro hro ρ1 _ w1 a1 ht1 hs1 r1) (fun e a2 w2 hp=>wu.trans k1 hm hd1 hm.lt hp)
 | exit id=>exact⟨_,t1,h1,ρ1,rs,.exit id,hq,ht1,hs1,hd1,hm,r1,k1⟩
 | ret=>exact⟨_,t1,h1,ρ1,rs,.ret,hq,ht1,hs1,hd1,hm,r1,k1⟩
def Zd(P:Program)(env:Tr IFn):Prop:=∀f i,env.get f=some i->qv P f i=true
omit [Cur] in
theorem qa7:∀{l:List AV} {n:Nat} {t:Tr AV} {k:Tr AV->Prop},qcg l n t k↔k (yT l n t)
 | [],_,_,_=>Iff.rfl
 | v::l,n,t,k=>by
  show t.setK n v (fun t'=>qn (Nat.succ n) (fun n'=>qcg l n' t' k))↔_
  rw[Tr.setK_iff,qq,qa7];exact Iff.rfl
theorem qbC{env:Tr IFn}(he:Zd P env){ih:qal}(hi:∀c Q t h,ih c Q t h->∀n,S P n c Q t h){f:Nat}{vs:List AV}{h:Hp}{k:AV->Hp->Prop}(hk:qbB env ih f vs h k):SC P f vs h k:=by
 obtain⟨fn,g1,g2⟩:=(Tr.getK_iff _ _ _).1 hk;cases fn with
 | mk res body =>
  have g3:=qa7.1 g2;exact SC.mk (he f _ g1) (hi _ _ _ _ g3 h.sz)
theorem Zf{env:Tr IFn}{ho:QU}(he:Zd P env)(hh:qam P ho){ih:qal}(hi:∀c Q t h,ih c Q t h->∀n,S P n c Q t h){f:Nat}{vs:List AV}{h:Hp}{k:AV->Hp->Prop}(hk:yW env ho ih f vs h k):SC P f vs h k:=by
 unfold yW at hk;cases hv:ho f vs with
 | none=>rw[hv] at hk;exact qbC he hi hk
 | some v=>rw[hv] at hk;exact hh f vs v hv h k hk
theorem qcA{env:Tr IFn}{ho:QU}(he:Zd P env)(hh:qam P ho):∀m,(∀c Q t h,fv env ho m c Q t h->∀n,S P n c Q t h)∧(∀x Q t h,fv env ho m (.loop x) Q t h->∀n,SL P n x Q t h)
 | 0=>⟨fun _ _ _ _ h=>h.elim,fun _ _ _ _ h=>h.elim⟩
 | m+1=>by
  obtain⟨ih,ihl⟩:=qcA he hh m
  have loop:∀x Q t h,fv env ho (m+1) (.loop x) Q t h->∀n,SL P n x Q t h:=by
   intro x Q t h hv n;have hv':fv env ho m x (fun e t h=>onX e (fv env ho m (.loop x) Q t h) (fun id=>Q (.exit id) t h) (Q .ret t h)) t h:=hv
   refine SL.of_S ((ih _ _ _ _ hv' n).mono ?_);intro e t h hq;cases e with
   | normal=>exact ihl x Q t h hq n
   | exit id=>exact hq
   | ret=>exact hq
  refine⟨fun c Q t h hv n=>?_,loop⟩
  cases c with
  | no=>exact hv.elim
  | rangeF=>exact hv.elim
  | cut x=>exact qJ (c:=.cut x) (ih _ _ _ _ hv n)
  | skip=>exact qJ (c:=.skip) hv
  | exit id=>exact qJ (c:=.exit id) hv
  | ret=>exact qJ (c:=.ret) hv
  | reg d ops=>exact S.reg (qcm env ho (qn8 env ho m)) ⟨fun f vs h k hk=>Zf he hh ih hk,fun _ _ _ _ hk=>hk.elim⟩ hv
  | seq x y =>
   have hv':fv env ho m x (fun e t h=>onX e (fv env ho m y Q t h) (fun id=>Q (.exit id) t h) (Q .ret t h)) t h:=hv
   refine S.seq ((ih _ _ _ _ hv' n).mono ?_);intro e t h hq;cases e with
   | normal=>exact ih y Q t h hq n
   | exit id=>exact hq
   | ret=>exact hq
  | cond c x y =>
   obtain⟨v,g1,g2⟩:=qp t c _ hv;refine S.cond (g2 _ ?_);obtain⟨b,g3,g4⟩:=QR v _ g1;refine g4 _ ?_;cases b with
   | true=>exact ih _ _ _ _ g3 n
   | false=>exact ih _ _ _ _ g3 n
  | blk id x =>
   have hv':fv env ho m x (fun e t h=>X.rec (motive:=fun _=>Prop) (Q .normal t h) (fun id'=>Bool.rec (motive:=fun _=>Prop) (Q (.exit id') t h) (Q .normal t h) (Nat.beq id' id)) (Q .ret t h) e) t h:=hv
   refine S.blk ((ih _ _ _ _ hv' n).mono ?_);intro e t h hq;cases e with
   | normal=>exact hq
   | ret=>exact hq
   | exit i =>
    have hq':(Bool.rec (motive:=fun _=>Prop) (Q (.exit i) t h) (Q .normal t h) (Nat.beq i id):Prop):=hq
    show (if i=id then _ else _)
    by_cases hi:i=id
    ·subst hi;rw[Nat.beq_refl] at hq';rw[if_pos rfl];exact hq'
    ·rw[if_neg hi];cases hb:Nat.beq i id with
     | true=>exact absurd (Nat.eq_of_beq_eq_true hb) hi
     | false=>rw[hb] at hq';exact hq'
  | loop x=>exact S.loop (loop x Q t h hv n)
theorem SC.run{env:Tr IFn}{ho:QU}(he:Zd P env)(hh:qam P ho)(m:Nat){f:Nat}{vs:List AV}{h:Hp}{k:AV->Hp->Prop}(hk:yW env ho (fv env ho m) f vs h k):SC P f vs h k:=Zf he hh (qcA he hh m).1 hk
theorem qe.run{env:Tr IFn}{ho:QU}(he:Zd P env)(hh:qam P ho)(m:Nat){f:Nat}{vs:List AV}{v:AV}(hcl:qR vs=true)(hk:yW env ho (fv env ho m) f vs H0 (fun v' h'=>Frz h' v' v)):qe P f vs v:=qe.of_SC hcl (SC.run he hh m hk)
end Go.Kc
end
section
namespace Go.Kc
variable [Cur]
variable {P:Program} {t:Tr AV} {h:Hp} {k:AV->Hp->Prop}

def qaX(l:List UInt8)(i:Nat):Nat×Nat:=Utf8.decode ⟨l.toArray⟩ i
omit [Cur] in
theorem qe5{x:O}:opK qx (.rangeS x) t h k↔evK t x (fun x=>match x with | .s a=>zT h (.map (zG a 0)) (fun b h'=>k (.ptr b 0) h')|_=>False):=Iff.rfl
def qob(x:Blk)(k:List UInt8->Nat->Prop):Prop:=∃a n,x = .map (zG a n)∧k a n
theorem qeP{a a':List UInt8}{n n':Nat}(e:zG a n=zG a' n'):a=a'∧n=n':=by
 simp only[zG,List.cons.injEq,Prod.mk.injEq,AV.s.injEq,AV.i.injEq,true_and,and_true] at e;exact⟨e.1,Int.ofNat.inj e.2⟩
theorem qja{a:List UInt8}{n:Nat}{k:List UInt8->Nat->Prop}:qob (.map (zG a n)) k↔k a n:=by
 constructor
 ·rintro⟨a',n',h1,h2⟩;obtain⟨rfl,rfl⟩:=qeP (Blk.map.inj h1);exact h2
 ·intro h1;exact⟨a,n,rfl,h1⟩
theorem qho{x:O}:opK qx (.nextS x) t h k↔evK t x (fun x=>unP x (fun b o=>ifK (o=0) (evB (h.tr.get b) (fun y=>qob y (fun a n=>if n<a.length then evN (n+(qaX a n).2) (fun m=>xN h b (.map (zG a m)) (fun h'=>evA (.i .i32 ((qaX a n).1:Int)) (fun c=>k (.tup [.b true,.i .i64 (n:Int),c]) h'))) else k (.tup [.b false]) h))))):=by
 show evK t x (fun x=>unP x (fun b o=>qi (Nat.beq o 0) (qbg h b _)))↔_
 refine iff_of_eq (congrArg _ (funext fun v=>congrArg _ (funext fun b=>funext fun o=>?_)))
 rw[show (qi (Nat.beq o 0)=fun p=>ifK (o=0) p) from by funext p;exact propext ((qa _ _).trans (by rw[kq];exact Iff.rfl))]
 refine congrArg _ (propext (yC.trans ?_))
 have body:∀a n,(match a[n]? with
  | some c=>(Bool.rec (motive:=fun _=>Prop)
    (xN h b (.map (zG a (Nat.add n (Utf8.decode ⟨a.toArray⟩ n).2))) (fun h'=>k (.tup [.b true,.i .i64 (Int.ofNat n),.i .i32 (Int.ofNat (Utf8.decode ⟨a.toArray⟩ n).1)]) h'))
    (qn (Nat.succ n) (fun m=>xN h b (.map (zG a m)) (fun h'=>k (.tup [.b true,.i .i64 (Int.ofNat n),.i .i32 (Int.ofNat c.toNat)]) h')))
    (Nat.ble (Nat.succ c.toNat) 128):Prop)
  | none=>k (.tup [.b false]) h)↔if n<a.length then evN (n+(qaX a n).2) (fun m=>xN h b (.map (zG a m)) (fun h'=>evA (.i .i32 ((qaX a n).1:Int)) (fun c=>k (.tup [.b true,.i .i64 (n:Int),c]) h'))) else k (.tup [.b false]) h:=by
  intro a n
  by_cases hi:n<a.length
  ·rw[if_pos hi,zzE hi];dsimp only;cases hc:Nat.ble (Nat.succ a[n].toNat) 128 with
   | false=>exact Iff.rfl
   | true =>
    have hlt:=Nat.le_of_ble_eq_true hc;have hd:qaX a n=(a[n].toNat,1):=QB (zzE hi) (by omega);show qn _ _↔_;rw[qq,hd];exact Iff.rfl
  ·rw[if_neg hi,List.getElem?_eq_none (by omega)]
 constructor
 ·rintro⟨a,n,h1,h2⟩;exact⟨_,h1,a,n,rfl,(body a n).1 h2⟩
 ·rintro⟨_,h1,a,n,rfl,h2⟩;exact⟨a,n,h1,(body a n).2 h2⟩
def kz(es:List (AV×AV)):Prop:=∀e ∈ es,clo e.1=true∧clo e.2=true
omit [Cur] in
theorem qk5{r:Nat->Nat}{m b:Nat}{es:List (AV×AV)}(hb:b<h.sz):BW h r m b (.map es)↔evB (h.tr.get b) (fun x=>qgP x (fun es'=>EsW r m es' es)):=by
 constructor
 ·rintro (h1|h1|⟨e',w0,a0,cs,w',a',cs'',h1,h2,h3,h4,h5⟩|⟨es',es2,h1,h2,h3⟩)
  ·omega
  ·cases h1
  ·cases h2
  ·cases h2;exact⟨_,h1,h3⟩
 ·rintro⟨x,h1,h2⟩;cases x with
  | map es'=>exact .inr (.inr (.inr ⟨_,_,h1,rfl,h2⟩))
  | dead=>exact h2.elim
  | cells e0 w0 a0 cs=>exact h2.elim
omit [Cur] in
theorem qbK{r:Nat->Nat}{m:Nat}{es es':List (AV×AV)}(hn:∀lr ts,es'≠ki lr ts):EsW r m es es'↔es=es'∧kz es' :=
 ⟨fun h=>by
  rcases h with⟨rfl,h⟩|⟨lr,ts,ts',_,h,_⟩
  ·exact⟨rfl,h⟩
  ·exact absurd h (hn _ _),fun⟨h1,h2⟩=>by subst h1;exact .inl ⟨rfl,h2⟩⟩
omit [Cur] in
theorem qiI{r:Nat->Nat}{m:Nat}{es:List (AV×AV)}:EsW r m es []↔es=[]:=(qbK (by simp[ki])).trans ⟨And.left,fun h=>⟨h,by intro e he;cases he⟩⟩
omit [Cur] in
theorem qn1{r:Nat->Nat}{m:Nat}{es es':List (AV×AV)}{a:List UInt8}{v:AV}:EsW r m es ((.s a,v)::es')↔es=(.s a,v)::es'∧kz ((.s a,v)::es'):=qbK (by simp[ki])
omit [Cur] in
theorem qn0{r:Nat->Nat}{m:Nat}{es es':List (AV×AV)}{q:IntKind}{a:Int}{v:AV}:EsW r m es ((.i q a,v)::es')↔es=(.i q a,v)::es'∧kz ((.i q a,v)::es'):=qbK (by simp[ki])
omit [Cur] in
theorem qln{r:Nat->Nat}{m:Nat}{es:List (AV×AV)}{a:List UInt8}{n:Nat}:EsW r m es (zG a n)↔es=zG a n∧kz (zG a n):=qbK (by simp[zG,ki])
omit [Cur] in
theorem qiJ{r:Nat->Nat}{m:Nat}{lr lr':Loop}{ts ts':List (Nat×AV)}:EsW r m (ki lr ts) (ki lr' ts')↔lr=lr'∧TsW r m ts ts' :=
 ⟨fun h=>by
  rcases h with⟨h1,h⟩|⟨l,t1,t2,h1,h2,h3⟩
  ·exact absurd (h (.lp lr,.undef) (by simp[ki])).1 (by simp[clo])
  ·obtain⟨rfl,rfl⟩:=qaT h1;obtain⟨rfl,rfl⟩:=qaT h2;exact⟨rfl,h3⟩,fun⟨h1,h2⟩=>by subst h1;exact .inr ⟨_,_,_,rfl,rfl,h2⟩⟩
omit [Cur] in
theorem qke{r:Nat->Nat}{m:Nat}{ts:List (Nat×AV)}:TsW r m ts []↔True:=iff_true_intro (by intro p hp;cases hp)
omit [Cur] in
theorem qhQ{r:Nat->Nat}{m:Nat}{ts ts':List (Nat×AV)}{p:Nat×AV}:TsW r m ts (p::ts')↔evO (Zm ts p.1) (fun v=>NV r m v p.2)∧TsW r m ts ts':=by
 simp only[TsW,List.mem_cons,forall_eq_or_imp];exact Iff.rfl
omit [Cur] in
theorem qdq{p:Nat×AV}{l:List (Nat×AV)}{j:Nat}:Zm (p::l) j=if p.1=j then some p.2 else Zm l j:=rfl
omit [Cur] in
theorem qeT{a:List UInt8}{n:Nat}:kz (zG a n)↔True:=by
 refine iff_true_intro ?_;intro e he;simp only[zG,List.mem_cons,List.mem_nil_iff,or_false] at he;rcases he with rfl|rfl<;>exact⟨rfl,rfl⟩
omit [Cur] in
theorem qdr:kz []↔True:=iff_true_intro (by intro e he;cases he)
omit [Cur] in
theorem qcT{e:AV×AV}{es:List (AV×AV)}:kz (e::es)↔(clo e.1=true∧clo e.2=true)∧kz es:=by simp[kz]
theorem SC.nil0{f:Nat}{k:AV->Hp->Prop}(h1:SC P f [.nils] h k)(h2:SC P f [.nz] h k):SC P f [.fz 0 []] h k:=by
 refine⟨h1.1,fun ρ B w args r ha=>?_⟩
 generalize hl:args.toList=xs at ha;cases ha with
 | cons _ _ x xs hx hxs =>
  cases hx with
  | fz _ off c _ k' arr hn hk hs=>exact h2.2 ρ B w args r (by rw[hl];exact .cons _ _ _ _ (.nz _ _) hxs)
  | fz0 a =>
   cases a with
   | none=>exact h1.2 ρ B w args r (by rw[hl];exact .cons _ _ _ _ .nils hxs)
   | some a=>exact h2.2 ρ B w args r (by rw[hl];exact .cons _ _ _ _ (.nz _ _) hxs)
omit [Cur] in
theorem qk{r:Nat->Nat}{m:Nat}{vs:List AV}(hc:qR vs=true):NVs r m vs vs↔True:=iff_true_intro (NVs.refl hc)
theorem j0{vs:List AV}(hc:qR vs=true):Frzs h vs vs↔True:=iff_true_intro (Frzs.self hc)
theorem Wk.mkn{n:Nat}{t:Tr AV}(ts:List (Nat×AV))(bl:List Blk)(src:List Nat)(hT:TWs t (rl src h.sz) bl.length ts)(hB:BWs h (rl src h.sz) bl.length src bl)
  (hI:((src.filter fun b=>decide (b<h.sz)).Nodup)) (hfl:h.fl=0) (hn:n<=bl.length) (hlow:∀b,b<n->rl src h.sz b=b):Wk n t h (mkT ts) (mkH 0 bl):=by
 obtain⟨hlen,hget⟩:=hB.get;refine Wk.of (r:=rl src h.sz) ⟨hfl.symm,fun b' x' hb hg=>?_,fun b1 b2 h1 h2 _ _ he hl=>?_,fun b' _ _ _=>by rw[hfl];exact Nat.zero_le _,hlow,hn,fun b _ hb=>by rw[hfl] at hb;exact absurd hb (Nat.not_lt_zero _),fun j v' hj=>?_⟩
 ·rw[xp] at hg;obtain⟨b,q1,q2⟩:=hget b' x' hg;have:rl src h.sz b'=b:=by simp[rl,List.getD_eq_getElem?_getD,q1]
  rw[this];exact q2
 ·have h1:b1<src.length:=by rw[hlen];exact h1
  have h2:b2<src.length:=by rw[hlen];exact h2
  simp only[rl,List.getD_eq_getElem?_getD,zzE h1,zzE h2,Option.getD_some] at he hl;exact Wk.mk.nodup_filter_inj hI h1 h2 he (by simpa using hl)
 ·exact hT.get _ (yD hj)
end Go.Kc
end
section
namespace Go.Kc
variable [Cur]
variable {P:Program}

mutual
def rnv(g:Nat->Nat):AV->AV
 | .ptr b o=>.ptr (g b) o
 | .sl b o n c l=>.sl (g b) o n c l
 | .map b=>.map (g b)
 | .own b n=>.own (g b) n
 | .yl b=>.yl (g b)
 | .fn f a c=>.fn f (ju g a) (ju g c)
 | .ifc t v=>.ifc t (rnv g v)
 | .agg cs=>.agg (ju g cs)
 | .tup cs=>.tup (ju g cs)
 | v=>v
def ju(g:Nat->Nat):List AV->List AV
 | []=>[]
 | v::vs=>rnv g v::ju g vs
end
mutual
def bnd(m:Nat):AV->Bool
 | .ptr b _=>decide (b<m)
 | .sl b _ _ _ _=>decide (b<m)
 | .map b=>decide (b<m)
 | .own b _=>decide (b<m)
 | .yl b=>decide (b<m)
 | .fn _ a c=>x5 m a&&x5 m c
 | .ifc _ v=>bnd m v
 | .agg cs=>x5 m cs
 | .tup cs=>x5 m cs
 | _=>true
def x5(m:Nat):List AV->Bool
 | []=>true
 | v::vs=>bnd m v&&x5 m vs
end
omit [Cur] in
theorem qaW{g:Nat->Nat}:∀{vs:List AV} {j:Nat},(ju g vs)[j]?=(vs[j]?).map (rnv g)
 | [],j=>by simp[ju]
 | v::vs,0=>by simp[ju]
 | v::vs,j+1=>by simpa[ju] using qaW (vs:=vs) (j:=j)
omit [Cur] in
theorem xP{g:Nat->Nat}:∀{vs:List AV},(ju g vs).length=vs.length
 | []=>rfl
 | v::vs=>by simp[ju,xP (vs:=vs)]
omit [Cur] in
theorem qcj{m:Nat}:∀{vs:List AV} {j:Nat} {v:AV},x5 m vs=true->vs[j]?=some v->bnd m v=true
 | [],_,_,_,h=>by simp at h
 | x::xs,0,_,hb,h=>by
  simp only[x5,Bool.and_eq_true] at hb;simp at h;subst h;exact hb.1
 | x::xs,j+1,_,hb,h=>by
  simp only[x5,Bool.and_eq_true] at hb;exact qcj (vs:=xs) (j:=j) hb.2 (by simpa using h)
mutual
theorem VR.rn{ρ2 ρ3:Ren}{g:Nat->Nat}(h1:∀b L,ρ2 b=some L->ρ3 (g b)=some L)(h2:∀k a,ρ2.frz k=some a->ρ3.frz k=some a)(h3:∀b,b<ρ2.n->g b<ρ3.n):∀{v:AV} {x:Value},VR σ0 ρ2 v x->VR σ0 ρ3 (rnv g v) x
 | _,_,.undef v=>.undef v
 | _,_,.b x=>.b x
 | _,_,.i k n=>.i k n
 | _,_,.s x=>.s x
 | _,_,.nilp=>.nilp
 | _,_,.ptr b o L h=>.ptr _ _ L (h1 _ _ h)
 | _,_,.nils=>.nils
 | _,_,.sl b o len cap c loose L h hc=>.sl _ _ _ _ _ _ L (h1 _ _ h) hc
 | _,_,.slz b o x l' L h=>.slz _ _ _ _ L (h1 _ _ h)
 | _,_,.nilf=>.nilf
 | _,_,.fn f first cap first' cap' q1 q2=>.fn _ _ _ _ _ (VRs.rn h1 h2 h3 q1) (VRs.rn h1 h2 h3 q2)
 | _,_,.nili=>.nili
 | _,_,.ifc t v v' h=>.ifc _ _ _ (VR.rn h1 h2 h3 h)
 | _,_,.agg cs cs' h=>.agg _ _ (VRs.rn h1 h2 h3 h)
 | _,_,.tup cs cs' h=>.tup _ _ (VRs.rn h1 h2 h3 h)
 | _,_,.nilm=>.nilm
 | _,_,.map b L h h0=>.map _ L (h1 _ _ h) h0
 | _,_,.sym j=>.sym j
 | _,_,.fz n off c cs k arr hn h hs ho=>.fz n off c cs k arr hn (h2 _ _ h) (hs.mono h2) ho
 | _,_,.fz0 a=>.fz0 a
 | _,_,.pf off base cs k arr h hs ho=>.pf off base cs k arr (h2 _ _ h) (hs.mono h2) ho
 | _,_,.e0 a=>.e0 a
 | _,_,.nz a c=>.nz a c
 | _,_,.own0 b a hb=>.own0 _ _ (h3 _ hb)
 | _,_,.own b n c L h hn hc'=>.own _ _ _ L (h1 _ _ h) hn hc'
 | _,_,.yl b L h=>.yl _ L (h1 _ _ h)
theorem VRs.rn{ρ2 ρ3:Ren}{g:Nat->Nat}(h1:∀b L,ρ2 b=some L->ρ3 (g b)=some L)(h2:∀k a,ρ2.frz k=some a->ρ3.frz k=some a)(h3:∀b,b<ρ2.n->g b<ρ3.n):∀{v:List AV} {x:List Value},VRs σ0 ρ2 v x->VRs σ0 ρ3 (ju g v) x
 | _,_,.nil=>.nil
 | _,_,.cons v vs v' vs' h hs=>.cons _ _ _ _ (VR.rn h1 h2 h3 h) (VRs.rn h1 h2 h3 hs)
end
mutual
theorem VR.nr{ρ ρs:Ren}{g:Nat->Nat}{m:Nat}(h1:∀b L,b<m->ρ (g b)=some L->ρs b=some L)(h2:ρs.frz=ρ.frz)(h3:ρs.n=m):∀{v:AV} {x:Value},bnd m v=true->VR σ0 ρ (rnv g v) x->VR σ0 ρs v x
 | .undef,_,_,h=>by cases h;exact .undef _
 | .b _,_,_,h=>by cases h;exact .b _
 | .i _ _,_,_,h=>by cases h;exact .i _ _
 | .s _,_,_,h=>by cases h;exact .s _
 | .nilp,_,_,h=>by cases h;exact .nilp
 | .ptr b o,_,hb,h=>by
  simp only[bnd,decide_eq_true_eq] at hb;cases h with
  | ptr _ _ L q=>exact .ptr _ _ L (h1 _ _ hb q)
 | .nils,_,_,h=>by cases h;exact .nils
 | .sl b o n c l,_,hb,h=>by
  simp only[bnd,decide_eq_true_eq] at hb;cases h with
  | sl _ _ _ _ _ _ L q hc=>exact .sl _ _ _ _ _ _ L (h1 _ _ hb q) hc
  | slz _ _ _ _ L q=>exact .slz _ _ _ _ L (h1 _ _ hb q)
 | .nilf,_,_,h=>by cases h;exact .nilf
 | .fn f a c,_,hb,h=>by
  simp only[bnd,Bool.and_eq_true] at hb;cases h with
  | fn _ _ _ _ _ q1 q2=>exact .fn _ _ _ _ _ (VRs.nr h1 h2 h3 hb.1 q1) (VRs.nr h1 h2 h3 hb.2 q2)
 | .nili,_,_,h=>by cases h;exact .nili
 | .ifc t v,_,hb,h=>by
  simp only[bnd] at hb;cases h with
  | ifc _ _ _ q=>exact .ifc _ _ _ (VR.nr h1 h2 h3 hb q)
 | .agg cs,_,hb,h=>by
  simp only[bnd] at hb;cases h with
  | agg _ _ q=>exact .agg _ _ (VRs.nr h1 h2 h3 hb q)
 | .tup cs,_,hb,h=>by
  simp only[bnd] at hb;cases h with
  | tup _ _ q=>exact .tup _ _ (VRs.nr h1 h2 h3 hb q)
 | .nilm,_,_,h=>by cases h;exact .nilm
 | .map b,_,hb,h=>by
  simp only[bnd,decide_eq_true_eq] at hb;cases h with
  | map _ L q h0=>exact .map _ L (h1 _ _ hb q) h0
 | .sym j,_,_,h=>by cases h;exact .sym _
 | .fz n cs,_,_,h=>by
  cases h with
  | fz _ off c _ k arr hn q hs ho=>exact .fz _ off c _ k arr hn (by rw[h2];exact q) (by rw[h2];exact hs) ho
  | fz0 a=>exact .fz0 a
 | .pf cs o,_,_,h=>by
  cases h with
  | pf off base _ k arr q hs ho=>exact .pf _ base _ k arr (by rw[h2];exact q) (by rw[h2];exact hs) ho
 | .e0,_,_,h=>by cases h;exact .e0 _
 | .nz,_,_,h=>by cases h;exact .nz _ _
 | .own b n,_,hb,h=>by
  simp only[bnd,decide_eq_true_eq] at hb;cases h with
  | own0 _ a q=>exact .own0 _ _ (by rw[h3];exact hb)
  | own _ _ c L q hn hc=>exact .own _ _ c L (h1 _ _ hb q) hn hc
 | .yl b,_,hb,h=>by
  simp only[bnd,decide_eq_true_eq] at hb;cases h with
  | yl _ L q=>exact .yl _ L (h1 _ _ hb q)
 | .lp _,_,_,h=>by cases h
theorem VRs.nr{ρ ρs:Ren}{g:Nat->Nat}{m:Nat}(h1:∀b L,b<m->ρ (g b)=some L->ρs b=some L)(h2:ρs.frz=ρ.frz)(h3:ρs.n=m):∀{v:List AV} {x:List Value},x5 m v=true->VRs σ0 ρ (ju g v) x->VRs σ0 ρs v x
 | [],_,_,h=>by cases h;exact .nil
 | v::vs,_,hb,h=>by
  simp only[x5,Bool.and_eq_true] at hb;cases h with
  | cons _ _ _ _ q1 q2=>exact .cons _ _ _ _ (VR.nr h1 h2 h3 hb.1 q1) (VRs.nr h1 h2 h3 hb.2 q2)
end

def gAt(at':List Nat)(d:Nat):Nat->Nat:=fun b=>if b<at'.length then at'.getD b 0 else d+(b-at'.length)
omit [Cur] in
theorem vq{at':List Nat}{d b:Nat}(h:b<at'.length):gAt at' d b=at'[b]:=by
 simp[gAt,h]
omit [Cur] in
theorem qaD{at':List Nat}{d b:Nat}(h:at'.length<=b):gAt at' d b=d+(b-at'.length):=by
 simp only[gAt];rw[if_neg (by omega)]
structure Lent (h:Hp) (at':List Nat) (bs:List Blk):Prop where
 len:at'.length=bs.length
 nd:at'.Nodup
 blk:∀i x,bs[i]?=some x->∃e a cs,x = .cells e true a cs∧x5 bs.length cs=true∧h.tr.get (gAt at' h.sz i)=some (.cells e true a (ju (gAt at' h.sz) cs))∧h.fl<=gAt at' h.sz i∧gAt at' h.sz i<h.sz
def Ren.small(ρ:Ren)(at':List Nat)(d:Nat):Ren:=⟨fun i=>if i<at'.length then ρ (gAt at' d i) else none,ρ.frz,at'.length⟩
theorem w5{ρ:Ren}{at':List Nat}{d i:Nat}{L:Loc}(h:ρ.small at' d i=some L):i<at'.length∧ρ (gAt at' d i)=some L:=by
 simp only[Ren.small] at h;split at h
 ·exact⟨by assumption,h⟩
 ·cases h
def Bar(ρ:Ren)(B:Nat->Prop)(h:Hp)(at':List Nat):Nat->Prop:=fun k=>B k∨∃b L x,ρ b=some L∧b ∉ at'∧h.tr.get b=some x∧x≠.dead∧L.blk=k
omit [Cur] in
theorem Lent.inj{h:Hp}{at':List Nat}{bs:List Blk}(l:Lent h at' bs){i j:Nat}(hi:i<at'.length)(hj:j<at'.length)(he:gAt at' h.sz i=gAt at' h.sz j):i=j:=by
 rw[vq hi,vq hj] at he;exact (List.getElem_inj l.nd).1 he
omit [Cur] in
theorem Lent.mem{h:Hp}{at':List Nat}{i:Nat}(hi:i<at'.length):gAt at' h.sz i ∈ at':=by
 rw[vq hi];exact List.getElem_mem _
theorem Rel.small{ρ:Ren}{B:Nat->Prop}{h:Hp}{w:World}{at':List Nat}{bs:List Blk}(r:Rel σ0 ρ B h w)(l:Lent h at' bs):Rel σ0 (ρ.small at' h.sz) (Bar ρ B h at') (mkH 0 bs) w:=by
 have get:∀i L x,ρ.small at' h.sz i=some L->(mkH 0 bs).tr.get i=some x->i<at'.length∧ρ (gAt at' h.sz i)=some L∧∃e a cs,x = .cells e true a cs∧x5 bs.length cs=true∧h.tr.get (gAt at' h.sz i)=some (.cells e true a (ju (gAt at' h.sz) cs))∧h.fl<=gAt at' h.sz i:=by
  intro i L x h1 h2;obtain⟨h3,h4⟩:=w5 h1;rw[xp] at h2;obtain⟨e,a,cs,h5,h6,h7,h8,_⟩:=l.blk i x h2;exact⟨h3,h4,e,a,cs,h5,h6,h7,h8⟩
 refine⟨fun i L hb=>?_,?_,?_,?_,?_,?_,?_,?_,?_,?_⟩
 ·have:=(w5 hb).1;rw[l.len] at this;exact this
 ·intro i L e wf af cs hb hg;obtain⟨h1,h2,e',a,cs',h3,h4,h5,h6⟩:=get i L _ hb hg;cases h3;obtain⟨q1,c,ty,fz,q2,q3,q4,q5,q6⟩:=r.cells _ L _ _ _ _ h2 h5;rw[xP] at q4;refine⟨q1,c,ty,fz,q2,q3,q4,fun j v hv=>?_,q6⟩
  obtain⟨v',p1,p2⟩:=q5 j (rnv (gAt at' h.sz) v) (by rw[qaW,hv];rfl)
  exact⟨v',p1,VR.nr (ρ:=ρ) (ρs:=ρ.small at' h.sz) (g:=gAt at' h.sz) (m:=bs.length) (fun b L hbm hbL=>by
   show (if b<at'.length then ρ (gAt at' h.sz b) else none)=some L
   rw[if_pos (by rw[l.len];exact hbm)];exact hbL) rfl l.len (qcj h4 hv) p2⟩
 ·intro i L es hb hg;obtain⟨_,_,e',a,cs',h3,_⟩:=get i L _ hb hg;cases h3
 ·intro b L e af cs hb hg b' L' x hb' hx hd he;obtain⟨h1,h2,e',a,cs',h3,h4,h5,h6⟩:=get b L _ hb hg;obtain⟨i1,i2,e2,a2,cs2,i3,i4,i5,i6⟩:=get b' L' _ hb' hx;exact l.inj i1 h1 (r.excl _ L _ _ _ h2 h5 _ L' _ i2 i5 (by simp) he)
 ·intro b L es hb hg;obtain⟨_,_,e',a,cs',h3,_⟩:=get b L _ hb hg;cases h3
 ·intro b L e wf cs hb hg b' L' e' wf' af' cs' hb' hx he;obtain⟨h1,h2,e1,a1,cs1,h3,h4,h5,h6⟩:=get b L _ hb hg;obtain⟨i1,i2,e2,a2,cs2,i3,i4,i5,i6⟩:=get b' L' _ hb' hx;cases h3;cases i3;have q:=r.app _ L _ _ _ h2 h5 _ L' _ _ _ _ i2 i5 he;rw[xP,xP] at q;exact⟨q.1,fun hh=>l.inj i1 h1 (q.2 hh)⟩
 ·intro i L hb _ hbar;have hi:=(w5 hb).1;have hi':i<bs.length:=by rw[← l.len];exact hi
  obtain⟨h1,h2,e',a,cs',h3,h4,h5,h6⟩:=get i L bs[i] hb (by rw[xp,zzE hi']);rcases hbar with hB|⟨b,L',x,g1,g2,g3,g4,g5⟩
  ·exact r.flr _ L h2 h6 hB
  ·have:=r.excl _ L _ _ _ h2 h5 b L' x g1 g3 g4 g5;exact g2 (this ▸ Lent.mem hi)
 ·rintro k (hB|⟨b,L',x,g1,g2,g3,g4,rfl⟩)
  ·exact r.base k hB
  ·exact r.blk_lt b L' g1 x g3 g4
 ·intro k arr hk;refine⟨(r.frz k arr hk).1,fun b L x hb hx hd=>?_⟩
  obtain⟨h1,h2,e',a,cs',h3,h4,h5,h6⟩:=get b L _ hb hx;exact (r.frz k arr hk).2 _ L _ h2 h5 (by simp)
 ·refine⟨?_,fun b L h=>r.dn.2 _ L (w5 h).2⟩
  show at'.length<=bs.length;rw[l.len];exact Nat.le_refl _

def rnb(g:Nat->Nat):Blk->Blk
 | .cells e w a cs=>.cells e w a (ju g cs)
 | .dead=>.dead
 | .map _=>.dead
noncomputable def vy:Hp->List Nat->List Blk->Hp
 | h,b::at',x::xs=>vy (h.put b x) at' xs
 | h,_,_=>h
omit [Cur] in
theorem QJ:∀{at':List Nat} {xs:List Blk} {h:Hp},(vy h at' xs).sz=h.sz
 | [],_,_=>by simp[vy]
 | _::_,[],_=>by simp[vy]
 | b::at',x::xs,h=>by
  show (vy (h.put b x) at' xs).sz=_;rw[QJ];rfl
omit [Cur] in
theorem qd3:∀{at':List Nat} {xs:List Blk} {h:Hp},(vy h at' xs).fl=h.fl
 | [],_,_=>by simp[vy]
 | _::_,[],_=>by simp[vy]
 | b::at',x::xs,h=>by
  show (vy (h.put b x) at' xs).fl=_;rw[qd3];rfl
omit [Cur] in
theorem qaS:∀{at':List Nat} {xs:List Blk} {h:Hp} {b:Nat},b ∉ at'->(vy h at' xs).tr.get b=h.tr.get b
 | [],_,_,_,_=>by simp[vy]
 | _::_,[],_,_,_=>by simp[vy]
 | c::at',x::xs,h,b,hb=>by
  show (vy (h.put c x) at' xs).tr.get b=_;rw[qaS (fun hh=>hb (List.mem_cons_of_mem _ hh))]
  simp only[Hp.put,Tr.get_set];rw[if_neg (fun hh=>hb (by simp[hh]))]
omit [Cur] in
theorem qd4:∀{at':List Nat} {xs:List Blk} {h:Hp} {i b:Nat},at'.Nodup->at'.length=xs.length->at'[i]?=some b->(vy h at' xs).tr.get b=xs[i]?
 | [],_,_,_,_,_,_,hi=>by simp at hi
 | _::_,[],_,_,_,_,hl,_=>by simp at hl
 | c::at',x::xs,h,0,b,hn,hl,hi=>by
  simp at hi;subst hi;show (vy (h.put c x) at' xs).tr.get c=_;rw[qaS (List.nodup_cons.1 hn).1];simp[Hp.put,Tr.get_set]
 | c::at',x::xs,h,i+1,b,hn,hl,hi=>by
  show (vy (h.put c x) at' xs).tr.get b=_;rw[qd4 (List.nodup_cons.1 hn).2 (by simpa using hl) (by simpa using hi)];simp
noncomputable def wA(h:Hp)(at':List Nat)(bs2:List Blk):Hp:=xd (vy h at' ((bs2.take at'.length).map (rnb (gAt at' h.sz)))) ((bs2.drop at'.length).map (rnb (gAt at' h.sz)))
def Ren.back(ρ ρ2:Ren)(at':List Nat)(d l:Nat):Ren:=⟨fun b=>if b<d then ρ b else ρ2 (b-d+at'.length),ρ2.frz,d+(l-at'.length)⟩
omit [Cur] in
theorem qao{h:Hp}{at':List Nat}{bs2:List Blk}:(wA h at' bs2).sz=h.sz+(bs2.length-at'.length):=by
 unfold wA;rw[wo,QJ];simp
omit [Cur] in
theorem qch{h:Hp}{at':List Nat}{bs2:List Blk}:(wA h at' bs2).fl=h.fl:=by
 unfold wA;rw[kh,qd3]
omit [Cur] in
theorem qa9{h:Hp}{at':List Nat}{bs2:List Blk}{b:Nat}(hb:b<h.sz)(hm:b ∉ at'):(wA h at' bs2).tr.get b=h.tr.get b:=by
 unfold wA;rw[xt,QJ,if_pos hb,qaS hm]
omit [Cur] in
theorem qfB{h:Hp}{at':List Nat}{bs2:List Blk}(hn:at'.Nodup)(hl:at'.length<=bs2.length)(hlt:∀b ∈ at',b<h.sz){i:Nat}(hi:i<at'.length):(wA h at' bs2).tr.get (gAt at' h.sz i)=(bs2[i]?).map (rnb (gAt at' h.sz)):=by
 have hm:gAt at' h.sz i ∈ at':=Lent.mem hi;unfold wA;rw[xt,QJ,if_pos (hlt _ hm),qd4 (i:=i) hn (by simp;omega) (by rw[vq hi];exact zzE hi),List.getElem?_map,List.getElem?_take_of_lt hi]
omit [Cur] in
theorem qep{h:Hp}{at':List Nat}{bs2:List Blk}{i:Nat}(hi:at'.length<=i)(hi2:i<bs2.length):(wA h at' bs2).tr.get (gAt at' h.sz i)=(bs2[i]?).map (rnb (gAt at' h.sz)):=by
 unfold wA;rw[qaD hi,xt,QJ,if_neg (by omega),if_pos (by simp;omega),List.getElem?_map,List.getElem?_drop];rw[show at'.length+(h.sz+(i-at'.length)-h.sz)=i from by omega]
theorem Rel.back{ρ ρ2:Ren}{B:Nat->Prop}{h:Hp}{w w1:World}{at':List Nat}{bs bs2:List Blk}(r:Rel σ0 ρ B h w)(l:Lent h at' bs)(r2:Rel σ0 ρ2 (Bar ρ B h at') (mkH 0 bs2) w1)(hl:at'.length<=bs2.length)
  (he:∀i,i<at'.length->ρ2 i=ρ.small at' h.sz i) (hp:∀k,Bar ρ B h at' k->w1.heap[k]?=w.heap[k]?) (hw:w.heap.size<=w1.heap.size)
  (f1:∀k a,ρ.frz k=some a->ρ2.frz k=some a) (f2:∀k a,ρ2.frz k=some a->ρ.frz k=some a∨¬Bar ρ B h at' k):(∀b L,ρ2 b=some L->ρ.back ρ2 at' h.sz bs2.length (gAt at' h.sz b)=some L)∧Rel σ0 (ρ.back ρ2 at' h.sz bs2.length) B (wA h at' bs2) w1:=by
 have hlt:∀b ∈ at',b<h.sz:=by
  intro b hb;obtain⟨i,hi,rfl⟩:=List.getElem_of_mem hb;have hi':i<bs.length:=by rw[← l.len];exact hi
  obtain⟨_,_,_,_,_,_,_,h6⟩:=l.blk i bs[i] (zzE hi');rwa [vq hi] at h6
 have up:∀b L,ρ2 b=some L->ρ.back ρ2 at' h.sz bs2.length (gAt at' h.sz b)=some L:=by
  intro b L hb;show (if gAt at' h.sz b<h.sz then ρ (gAt at' h.sz b) else ρ2 (gAt at' h.sz b-h.sz+at'.length))=some L
  by_cases hbm:b<at'.length
  ·rw[if_pos (hlt _ (Lent.mem hbm))];rw[he b hbm] at hb;exact (w5 hb).2
  ·rw[qaD (by omega),if_neg (by omega),show h.sz+(b-at'.length)-h.sz+at'.length=b from by omega]
   exact hb
 refine⟨up,?_⟩
 have nle:∀b,b<ρ2.n->gAt at' h.sz b<h.sz+(bs2.length-at'.length):=by
  intro b hb;have hb2:b<bs2.length:=Nat.lt_of_lt_of_le hb r2.dn.1
  by_cases hbm:b<at'.length
  ·have:=hlt _ (Lent.mem (h:=h) hbm);omega
  ·rw[qaD (by omega)];omega
 have le1:∀b L,ρ b=some L->ρ.back ρ2 at' h.sz bs2.length b=some L:=by
  intro b L hb;show (if b<h.sz then ρ b else _)=some L
  rw[if_pos (r.dom b L hb)];exact hb
 have le2:ρ.le (ρ.back ρ2 at' h.sz bs2.length):=⟨le1,f1,Nat.le_trans r.dn.1 (Nat.le_add_right _ _)⟩
 -- a block: an old one that stayed,or one of the small heap
 have split:∀b L,ρ.back ρ2 at' h.sz bs2.length b=some L->(b ∉ at'∧ρ b=some L∧(wA h at' bs2).tr.get b=h.tr.get b) ∨
   ∃c,b=gAt at' h.sz c∧ρ2 c=some L∧(wA h at' bs2).tr.get b=((mkH 0 bs2).tr.get c).map (rnb (gAt at' h.sz)):=by
  intro b L hb;have hb':(if b<h.sz then ρ b else ρ2 (b-h.sz+at'.length))=some L:=hb
  by_cases hbs:b<h.sz
  ·rw[if_pos hbs] at hb'
   by_cases hm:b ∈ at'
   ·obtain⟨i,hi,rfl⟩:=List.getElem_of_mem hm;refine .inr ⟨i,(vq hi).symm,?_,?_⟩
    ·rw[he i hi];show (if i<at'.length then ρ (gAt at' h.sz i) else none)=some L
     rw[if_pos hi,vq hi];exact hb'
    ·have:=qfB (bs2:=bs2) l.nd hl hlt hi;rw[vq hi] at this;rw[this,xp]
   ·exact .inl ⟨hm,hb',qa9 hbs hm⟩
  ·rw[if_neg hbs] at hb';have hc:b-h.sz+at'.length<bs2.length:=r2.dom _ L hb';have e:gAt at' h.sz (b-h.sz+at'.length)=b:=by rw[qaD (by omega)];omega
   refine .inr ⟨b-h.sz+at'.length,e.symm,hb',?_⟩;have:=qep (h:=h) (at':=at') (bs2:=bs2) (i:=b-h.sz+at'.length) (by omega) hc;rw[e] at this;rw[this,xp]
 have apart:∀b L x c L2,b ∉ at'->ρ b=some L->h.tr.get b=some x->x≠.dead->ρ2 c=some L2->L2.blk≠L.blk:=by
  intro b L x c L2 h1 h2 h3 h4 h5 h6;exact r2.flr c L2 h5 (Nat.zero_le _) (.inr ⟨b,L,x,h2,h1,h3,h4,h6.symm⟩)
 have shc:∀{o:Option Blk} {e:Nat} {w a:Bool} {cs:List AV},o.map (rnb (gAt at' h.sz))=some (.cells e w a cs)->∃cs0,o=some (.cells e w a cs0)∧cs=ju (gAt at' h.sz) cs0:=by
  intro o e w a cs ho;cases o with
  | none=>simp at ho
  | some x =>
   cases x with
   | cells e' w' a' cs'=>simp[rnb] at ho;obtain⟨rfl,rfl,rfl,rfl⟩:=ho;exact⟨_,rfl,rfl⟩
   | dead=>simp[rnb] at ho
   | map es=>simp[rnb] at ho
 have shn:∀{o:Option Blk} {y:Blk},o.map (rnb (gAt at' h.sz))=some y->y≠.dead->∃x,o=some x∧x≠.dead:=by
  intro o y ho hy;cases o with
  | none=>simp at ho
  | some x =>
   refine⟨x,rfl,fun hx=>?_⟩
   subst hx;simp[rnb] at ho;exact hy ho.symm
 have shm:∀{o:Option Blk} {es:List (AV×AV)},o.map (rnb (gAt at' h.sz))=some (.map es)->False:=by
  intro o es ho;cases o with
  | none=>simp at ho
  | some x=>cases x<;>simp[rnb] at ho
 refine⟨fun b L hb=>?_,?_,?_,?_,?_,?_,?_,kp r.base hw,?_,?_⟩
 ·rw[qao];have hb':(if b<h.sz then ρ b else ρ2 (b-h.sz+at'.length))=some L:=hb
  by_cases hbs:b<h.sz
  ·omega
  ·rw[if_neg hbs] at hb';have hc:b-h.sz+at'.length<bs2.length:=r2.dom _ L hb';omega
 ·intro b L e wf af cs hb hg;rcases split b L hb with⟨h1,h2,h3⟩|⟨c,rfl,h2,h3⟩
  ·rw[h3] at hg;obtain⟨q1,c,ty,fz,q2,q3,q4,q5,q6⟩:=r.cells b L e wf af cs h2 hg;exact⟨q1,c,ty,fz,by rw[hp _ (.inr ⟨b,L,_,h2,h1,hg,by simp,rfl⟩)];exact q2,q3,q4,fun j v hv=>let ⟨v',g7,g8⟩:=q5 j v hv;⟨v',g7,g8.mono le2⟩,q6⟩
  ·rw[h3] at hg;obtain⟨cs0,g1,rfl⟩:=shc hg;obtain⟨q1,c',ty,fz,q2,q3,q4,q5,q6⟩:=r2.cells c L e wf af cs0 h2 g1;refine⟨q1,c',ty,fz,q2,q3,by rw[xP];exact q4,fun j v hv=>?_,q6⟩
   rw[qaW] at hv;cases hj:cs0[j]? with
   | none=>rw[hj] at hv;simp at hv
   | some v0 =>
    rw[hj] at hv;simp at hv;subst hv;obtain⟨v',g7,g8⟩:=q5 j v0 hj;exact⟨v',g7,VR.rn (ρ3:=ρ.back ρ2 at' h.sz bs2.length) up (fun _ _ h=>h) nle g8⟩
 ·intro b L es hb hg;rcases split b L hb with⟨h1,h2,h3⟩|⟨c,rfl,h2,h3⟩
  ·rw[h3] at hg;obtain⟨q1,o,q2,q3⟩:=r.maps b L es h2 hg;exact⟨q1,o,by rw[hp _ (.inr ⟨b,L,_,h2,h1,hg,by simp,rfl⟩)];exact q2,q3.mono le2⟩
  ·rw[h3] at hg;exact (shm hg).elim
 ·intro b L e af cs hb hg b' L' x hb' hx hd hee;rcases split b L hb with⟨h1,h2,h3⟩|⟨c,rfl,h2,h3⟩<;>rcases split b' L' hb' with⟨i1,i2,i3⟩|⟨c',rfl,i2,i3⟩
  ·rw[h3] at hg;rw[i3] at hx;exact r.excl b L e af cs h2 hg b' L' x i2 hx hd hee
  ·rw[h3] at hg;exact absurd hee (apart b L _ c' L' h1 h2 hg (by simp) i2)
  ·rw[i3] at hx;exact absurd hee.symm (apart b' L' _ c L i1 i2 hx hd h2)
  ·rw[h3] at hg;rw[i3] at hx;obtain⟨cs0,g1,rfl⟩:=shc hg;obtain⟨x0,g2,g3⟩:=shn hx hd;rw[r2.excl c L e af cs0 h2 g1 c' L' x0 i2 g2 g3 hee]
 ·intro b L es hb hg b' L' x hb' hx hd hee;rcases split b L hb with⟨h1,h2,h3⟩|⟨c,rfl,h2,h3⟩
  ·rw[h3] at hg;rcases split b' L' hb' with⟨i1,i2,i3⟩|⟨c',rfl,i2,i3⟩
   ·rw[i3] at hx;exact r.exclm b L es h2 hg b' L' x i2 hx hd hee
   ·exact absurd hee (apart b L _ c' L' h1 h2 hg (by simp) i2)
  ·rw[h3] at hg;exact (shm hg).elim
 ·intro b L e wf cs hb hg b' L' e' wf' af' cs' hb' hx hee;rcases split b L hb with⟨h1,h2,h3⟩|⟨c,rfl,h2,h3⟩<;>rcases split b' L' hb' with⟨i1,i2,i3⟩|⟨c',rfl,i2,i3⟩
  ·rw[h3] at hg;rw[i3] at hx;exact r.app b L e wf cs h2 hg b' L' e' wf' af' cs' i2 hx hee
  ·rw[h3] at hg;exact absurd hee (apart b L _ c' L' h1 h2 hg (by simp) i2)
  ·rw[i3] at hx;exact absurd hee.symm (apart b' L' _ c L i1 i2 hx (by simp) h2)
  ·rw[h3] at hg;rw[i3] at hx;obtain⟨cs0,g1,rfl⟩:=shc hg;obtain⟨cs1,g2,rfl⟩:=shc hx;have q:=r2.app c L e wf cs0 h2 g1 c' L' e' wf' af' cs1 i2 g2 hee;rw[xP,xP];exact⟨q.1,fun hh=>by rw[q.2 hh]⟩
 ·intro b L hb hf hB;rw[qch] at hf;rcases split b L hb with⟨h1,h2,h3⟩|⟨c,rfl,h2,h3⟩
  ·exact r.flr b L h2 hf hB
  ·exact r2.flr c L h2 (Nat.zero_le _) (.inl hB)
 ·intro k arr hk;refine⟨(r2.frz k arr hk).1,fun b L x hb hx hd=>?_⟩
  rcases split b L hb with⟨h1,h2,h3⟩|⟨c,rfl,h2,h3⟩
  ·rw[h3] at hx;rcases f2 k arr hk with g|g
   ·exact (r.frz k arr g).2 b L x h2 hx hd
   ·exact fun hh=>g (.inr ⟨b,L,x,h2,h1,hx,hd,hh⟩)
  ·rw[h3] at hx;obtain⟨x0,g2,g3⟩:=shn hx hd;exact (r2.frz k arr hk).2 c L x0 h2 g2 g3
 ·refine⟨?_,fun b L hb=>?_⟩
  ·show h.sz+(bs2.length-at'.length)<=_;rw[qao];exact Nat.le_refl _
  ·rcases split b L hb with⟨_,h2,_⟩|⟨c,rfl,h2,_⟩
   ·exact Nat.lt_of_lt_of_le (r.dn.2 b L h2) hw
   ·exact r2.dn.2 c L h2
def qnF(m:Nat)(v:AV)(bs2:List Blk)(v':AV)(h':Hp):Prop:=h'.fl=0->∃src:List Nat,NV (rl src h'.sz) bs2.length v' v∧BWs h' (rl src h'.sz) bs2.length src bs2∧(src.filter fun b=>decide (b<h'.sz)).Nodup∧∀b,b<m->rl src h'.sz b=b
def qh0(m:Nat)(v:AV)(bs2:List Blk)(v':AV)(h':Hp):Prop:=h'.fl=0->Wk m (mkT [(0,v')]) h' (mkT [(0,v)]) (mkH 0 bs2)
theorem qnF.w{m:Nat}{v:AV}{bs2:List Blk}{v':AV}{h':Hp}(hz:qnF m v bs2 v' h')(hle:m<=bs2.length):qh0 m v bs2 v' h':=by
 intro hfl;obtain⟨src,s1,s2,s3,s4⟩:=hz hfl;exact Wk.mkn [(0,v)] bs2 src ⟨⟨v',by simp[mkT,Tr.get_set],s1⟩,trivial⟩ s2 s3 hfl hle s4
def Upd(P:Program)(f:Nat)(vs:List AV)(bs:List Blk)(v:AV)(bs2:List Blk):Prop :=
 x5 bs.length vs=true∧bs.length<=bs2.length∧SC P f vs (mkH 0 bs) (qh0 bs.length v bs2)
theorem Upd.sc{f:Nat}{vs:List AV}{bs bs2:List Blk}{v:AV}{h:Hp}{k:AV->Hp->Prop}(at':List Nat)(hu:Upd P f vs bs v bs2)(l:Lent h at' bs)(hk:k (rnv (gAt at' h.sz) v) (wA h at' bs2)):SC P f (ju (gAt at' h.sz) vs) h k:=by
 obtain⟨hb,hle,hu⟩:=hu;refine⟨hu.1,fun ρ B w args r ha=>?_⟩
 have hle':at'.length<=bs2.length:=by rw[l.len];exact hle
 have ha':VRs σ0 (ρ.small at' h.sz) vs args.toList:=VRs.nr (ρ:=ρ) (ρs:=ρ.small at' h.sz) (g:=gAt at' h.sz) (m:=bs.length) (fun b L hbm hbL=>by
  show (if b<at'.length then ρ (gAt at' h.sz b) else none)=some L
  rw[if_pos (by rw[l.len];exact hbm)];exact hbL) rfl l.len hb ha
 refine wP.mono (hu.2 (ρ.small at' h.sz) (Bar ρ B h at') w args (r.small l) ha') ?_;rintro e w1 ⟨v0,v',h1,ρ1,rfl,g1,g2,g3,g4⟩;have hw:Wk bs.length (mkT [(0,v0)]) h1 (mkT [(0,v)]) (mkH 0 bs2):=g1 g4.fl
 obtain⟨ρ2,t2,r2,k2⟩:=hw ρ1 (Bar ρ B h at') w1 #[v'] (fun j x hj=>by
  have:=yD hj;simp at this;obtain⟨rfl,rfl⟩:=this;exact⟨by simp,by simpa using g2⟩) g3
 have hv2:VR σ0 ρ2 v v':=by
  have:=(t2 0 v (by simp[mkT,Tr.get_set])).2;simpa using this
 have he:∀i,i<at'.length->ρ2 i=ρ.small at' h.sz i:=fun i hi=>(k2.ext i (by rw[← l.len];exact hi)).trans (g4.ext i (by rw[qgX,← l.len];exact hi))
 have f1:∀k a,ρ.frz k=some a->ρ2.frz k=some a:=fun k a hk=>k2.frz k a (g4.frz k a hk)
 have f2:∀k a,ρ2.frz k=some a->ρ.frz k=some a∨¬Bar ρ B h at' k:=fun k a hk=>(k2.fnew k a hk).elim (g4.fnew k a) .inr
 obtain⟨up,big⟩:=Rel.back r l r2 hle' he g4.pres g4.wle f1 f2
 have nle:∀b,b<ρ2.n->gAt at' h.sz b<(ρ.back ρ2 at' h.sz bs2.length).n:=by
  intro b hb;have hb2:b<bs2.length:=Nat.lt_of_lt_of_le hb r2.dn.1;show _<h.sz+(bs2.length-at'.length)
  by_cases hbm:b<at'.length
  ·have hbm':b<bs.length:=by rw[← l.len];exact hbm
   obtain⟨_,_,_,_,_,_,_,h6⟩:=l.blk b bs[b] (zzE hbm');omega
  ·rw[qaD (by omega)];omega
 refine⟨_,v',_,ρ.back ρ2 at' h.sz bs2.length,rfl,hk,VR.rn up (fun _ _ h=>h) nle hv2,big,?_⟩
 refine⟨fun b hb=>?_,by rw[qao];omega,qch,fun b hf hb=>qa9 hb (fun hm=>?_),fun k hk=>g4.pres k (.inl hk),g4.wle,g4.io,f1,fun k a hk=>(f2 k a hk).imp id (fun hh hB=>hh (.inl hB)),Nat.le_trans r.dn.1 (Nat.le_add_right _ _)⟩
 ·show (if b<h.sz then ρ b else _)=ρ b
  rw[if_pos hb]
 ·obtain⟨i,hi,rfl⟩:=List.getElem_of_mem hm;have hi':i<bs.length:=by rw[← l.len];exact hi
  obtain⟨_,_,_,_,_,_,h5,_⟩:=l.blk i bs[i] (zzE hi');rw[vq hi] at h5;omega
end Go.Kc
end
