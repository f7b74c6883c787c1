/- Part 5 of the abstract machine and of the functions' walks. Conditions: with each theorem. -/
import Derived.Test.YtpgbjeabmkbmbaaGreatEK4
set_option maxHeartbeats 4000000
set_option linter.unusedSectionVars false
set_option linter.unusedSimpArgs false
set_option linter.unusedVariables false
set_option linter.unnecessarySimpa false
set_option linter.defProp false
section
namespace Go.Kc
variable [Cur]
variable {P:Program} {n:Nat} {C:qO} {d:Bool} {Q:Tr AV->Hp->Prop} {t:Tr AV} {h:Hp} {k:AV->Hp->Prop}

def evA(v:AV)(k:AV->Prop):Prop:=k v
omit [Cur] in
@[congr] theorem qoQ {v v':AV} {k:AV->Prop} {mk:Prop} (_:zc=mk) (h:v=v'):evA v k=evA v' k:=by rw[h]
theorem qjV{v:AV}{k:AV->Prop}:evA v k↔k v:=Iff.rfl
def evL(v:List AV)(k:List AV->Prop):Prop:=k v
omit [Cur] in
@[congr] theorem qoS {v v':List AV} {k:List AV->Prop} {mk:Prop} (_:zc=mk) (h:v=v'):evL v k=evL v' k:=by rw[h]
theorem qjW{v:List AV}{k:List AV->Prop}:evL v k↔k v:=Iff.rfl
def evN(v:Nat)(k:Nat->Prop):Prop:=k v
omit [Cur] in
@[congr] theorem qoT {v v':Nat} {k:Nat->Prop} {mk:Prop} (_:zc=mk) (h:v=v'):evN v k=evN v' k:=by rw[h]
theorem qjX{v:Nat}{k:Nat->Prop}:evN v k↔k v:=Iff.rfl
def evT(v:Bool)(k:Bool->Prop):Prop:=k v
omit [Cur] in
@[congr] theorem qoV {v v':Bool} {k:Bool->Prop} {mk:Prop} (_:zc=mk) (h:v=v'):evT v k=evT v' k:=by rw[h]
theorem qjY{v:Bool}{k:Bool->Prop}:evT v k↔k v:=Iff.rfl
def evB(o:Option Blk)(k:Blk->Prop):Prop:=∃v,o=some v∧k v
omit [Cur] in
@[congr] theorem qoR {o o':Option Blk} {k:Blk->Prop} {mk:Prop} (_:zc=mk) (h:o=o'):evB o k=evB o' k:=by rw[h]
theorem qhv{v:Blk}{k:Blk->Prop}:evB (some v) k↔k v:=by simp[evB]
def ifK(c:Prop)(p:Prop):Prop:=c∧p
omit [Cur] in
@[congr] theorem qoW {c c' p:Prop} {mk:Prop} (_:zc=mk) (h:c=c'):ifK c p=ifK c' p:=by rw[h]
theorem qdm{p:Prop}:ifK True p↔p:=by simp[ifK]
omit [Cur] in
theorem qke{c c' p:Prop}:ifK (c∧c') p↔ifK c (ifK c' p):=by simp[ifK,and_assoc]
omit [Cur] in
theorem qfm{x:Bool}{p:Prop}:qd x p↔ifK (x=true) p:=qa _ _
omit [Cur] in
theorem zB{n:Nat}{k:Nat->Prop}:qf n k↔evN n k:=by rw[qj];exact Iff.rfl
omit [Cur] in
theorem ZG{n:Bool}{k:Bool->Prop}:qz n k↔evT n k:=by rw[qq];exact Iff.rfl
@[congr] theorem qj0 {n:Bool} {k:Bool->Prop} {mk:Prop} (_:zc=mk):qz n k=qz n k:=rfl
@[congr] theorem qlP {n:Bool} {k:Prop} {mk:Prop} (_:zc=mk):qd n k=qd n k:=rfl
theorem qqD{x:Bool}{k:Bool->Prop}:unB (.b x) k↔k x:=Iff.rfl
omit [Cur] in
theorem qle{b o:Nat}{k:Nat->Nat->Prop}:unP (.ptr b o) k↔k b o:=Iff.rfl
omit [Cur] in
theorem qqE{q:IntKind}{z:Int}{k:IntKind->Int->Prop}:unI (.i q z) k↔k q z:=Iff.rfl
omit [Cur] in
theorem qqF{q:IntKind}{z:Int}{k:Nat->Prop}:unN (.i q z) k↔ifK (0<=z) (evN z.toNat k):=by
 cases z with
 | ofNat m=>exact⟨fun h=>⟨Int.natCast_nonneg m,h⟩,fun h=>h.2⟩
 | negSucc m=>exact⟨fun h=>h.elim,fun h=>absurd h.1 (by omega)⟩
omit [Cur] in
@[congr] theorem qo8 {x:AV} {k:Bool->Prop} {mk:Prop} (_:zc=mk):unB x k=unB x k:=rfl
@[congr] theorem qpb {x:AV} {k:Nat->Nat->Prop} {mk:Prop} (_:zc=mk):unP x k=unP x k:=rfl
@[congr] theorem qo9 {x:AV} {k:IntKind->Int->Prop} {mk:Prop} (_:zc=mk):unI x k=unI x k:=rfl
@[congr] theorem qpa {x:AV} {k:Nat->Prop} {mk:Prop} (_:zc=mk):unN x k=unN x k:=rfl

section
variable {q q':IntKind} {n m:Int} {a c:List UInt8} {k:AV->Prop}
omit [Cur] in
theorem qdc{z:Int}:zy (ZA q z) (fun r=>k (.i q r))↔evA (.i q (q.wrap z)) k:=by
 rw[qN,wZ];exact Iff.rfl
omit [Cur] in
theorem qjp:zq qp .lss (.i q n) (.i q m) k↔evA (.b (decide (n<m))) k:=by simp[zq,zo,qa,wb,evA]
omit [Cur] in
theorem qjn:zq qp .gtr (.i q n) (.i q m) k↔evA (.b (decide (m<n))) k:=by simp[zq,zo,qa,wb,evA]
omit [Cur] in
theorem qjm:zq qp .geq (.i q n) (.i q m) k↔evA (.b (decide (m<=n))) k:=by
 simp only[zq,zo,qa,wb,qq,decide_true,true_and,evA];rw[← decide_not];simp
omit [Cur] in
theorem qjo:zq qp .leq (.i q n) (.i q m) k↔evA (.b (decide (n<=m))) k:=by
 simp only[zq,zo,qa,wb,qq,decide_true,true_and,evA];rw[← decide_not];simp
omit [Cur] in
theorem qjl:zq qp .eql (.i q n) (.i q m) k↔evA (.b (decide (n=m))) k:=by
 simp only[zq,zo,qa,yf,qq,decide_true,true_and,evA];rw[show (n==m)=decide (n=m) from by rw[Bool.eq_iff_iff];simp]
omit [Cur] in
theorem qjr:zq qp .neq (.i q n) (.i q m) k↔evA (.b (!decide (n=m))) k:=by
 simp only[zq,zo,qa,yf,qq,decide_true,true_and,evA];rw[show (n==m)=decide (n=m) from by rw[Bool.eq_iff_iff];simp]
omit [Cur] in
theorem qji:zq qp .add (.i q n) (.i q m) k↔evA (.i q (q.wrap (n+m))) k:=by
 simp only[zq,zo,qa,wZ,qN,decide_true,true_and];exact Iff.rfl
omit [Cur] in
theorem qju:zq qp .sub (.i q n) (.i q m) k↔evA (.i q (q.wrap (n-m))) k:=by
 simp only[zq,zo,qa,wZ,qN,decide_true,true_and];exact Iff.rfl
omit [Cur] in
theorem qjq:zq qp .mul (.i q n) (.i q m) k↔evA (.i q (q.wrap (n*m))) k:=by
 simp only[zq,zo,qa,wZ,qN,decide_true,true_and];exact Iff.rfl
def orI(q:IntKind)(x y:Int):Int:=q.wrap (BitVec.ofInt q.bits x ||| BitVec.ofInt q.bits y).toNat
def Z9(q:IntKind)(x y:Int):Int:=q.wrap (BitVec.ofInt q.bits x &&& BitVec.ofInt q.bits y).toNat
def qoM(q:IntKind)(x y:Int):Int:=q.wrap (BitVec.ofInt q.bits x ^^^ BitVec.ofInt q.bits y).toNat
def qbs(q:IntKind)(x y:Int):Int:=q.wrap (BitVec.ofInt q.bits x &&& ~~~ (BitVec.ofInt q.bits y)).toNat
omit [Cur] in
theorem qmk:zq qp .or (.i q n) (.i q m) k↔evA (.i q (orI q n m)) k:=by
 simp only[zq,zo,qa,qN,decide_true,true_and,orI,evA]
omit [Cur] in
theorem qjj:zq qp .and (.i q n) (.i q m) k↔evA (.i q (Z9 q n m)) k:=by
 simp only[zq,zo,qa,qN,decide_true,true_and,Z9,evA]
omit [Cur] in
theorem qjv:zq qp .xor (.i q n) (.i q m) k↔evA (.i q (qoM q n m)) k:=by
 simp only[zq,zo,qa,qN,decide_true,true_and,qoM,evA]
omit [Cur] in
theorem qjk:zq qp .andNot (.i q n) (.i q m) k↔evA (.i q (qbs q n m)) k:=by
 simp only[zq,zo,qa,qN,decide_true,true_and,qbs,evA]
def qbh(q:IntKind)(x m:Int):Int:=x.fdiv (2 ^ min m.toNat q.bits)
def qdM(q:IntKind)(x m:Int):Int:=q.wrap (x*2 ^ min m.toNat q.bits)
omit [Cur] in
theorem qjt{q2:IntKind}:zq qp .shr (.i q n) (.i q2 m) k↔ifK (0<=m) (evA (.i q (qbh q n m)) k):=by
 cases m with
 | ofNat m =>
  show qf (min m q.bits) (fun a=>zy (n.fdiv (p2 a)) (fun r=>k (.i q r)))↔_
  rw[qj,qN,qe7];exact⟨fun h=>⟨Int.natCast_nonneg m,h⟩,fun h=>h.2⟩
 | negSucc m=>exact⟨fun h=>h.elim,fun h=>absurd h.1 (by omega)⟩
omit [Cur] in
theorem qjs{q2:IntKind}:zq qp .shl (.i q n) (.i q2 m) k↔ifK (0<=m) (evA (.i q (qdM q n m)) k):=by
 cases m with
 | ofNat m =>
  show qf (min m q.bits) (fun a=>zy (q.wrap (n*p2 a)) (fun r=>k (.i q r)))↔_
  rw[qj,qN,qe7];exact⟨fun h=>⟨Int.natCast_nonneg m,h⟩,fun h=>h.2⟩
 | negSucc m=>exact⟨fun h=>h.elim,fun h=>absurd h.1 (by omega)⟩
omit [Cur] in
theorem qaE(x y:Int):eqI x y=decide (x=y):=by rw[yf,Bool.eq_iff_iff];simp
omit [Cur] in
theorem qeD(h:m≠0):zq qp .quo (.i q n) (.i q m) k↔evA (.i q (q.wrap (n.tdiv m))) k:=by
 simp only[zq,zo,qa,wZ,qN,decide_true,true_and,qaE,decide_eq_false h];exact Iff.rfl
omit [Cur] in
theorem jJ(h:m≠0):zq qp .rem (.i q n) (.i q m) k↔evA (.i q (n.tmod m)) k:=by
 simp only[zq,zo,qa,qN,decide_true,true_and,qaE,decide_eq_false h];exact Iff.rfl
omit [Cur] in
theorem qgP:zq qp .eql (.s a) (.s c) k↔evA (.b (decide (a=c))) k:=by
 simp only[zq,ju,je,qq,evA];rw[show (a==c)=decide (a=c) from by rw[Bool.eq_iff_iff];simp]
omit [Cur] in
theorem qgU:zq qp .neq (.s a) (.s c) k↔evA (.b (!decide (a=c))) k:=by
 simp only[zq,ju,je,qq,evA];rw[show (a==c)=decide (a=c) from by rw[Bool.eq_iff_iff];simp]
omit [Cur] in
theorem qgO:zq qp .add (.s a) (.s c) k↔ifK (a.length+c.length<=9223372036854775807) (evA (.s (a++c)) k):=by
 show (Bool.rec (motive:=fun _=>Prop) False (k (.s (a++c))) (Nat.ble (a.length+c.length) 9223372036854775807):Prop)↔_
 rw[show (a.length+c.length<=9223372036854775807)=(Nat.ble (a.length+c.length) 9223372036854775807=true) from propext ⟨Nat.ble_eq_true_of_le,Nat.le_of_ble_eq_true⟩]
 cases Nat.ble (a.length+c.length) 9223372036854775807
 ·exact⟨False.elim,fun h=>by cases h.1⟩
 ·exact⟨fun h=>⟨rfl,h⟩,fun h=>h.2⟩
omit [Cur] in
theorem qgT:zq qp .lss (.s a) (.s c) k↔evA (.b (ltS a c)) k:=by simp only[zq,ju,qq,evA]
omit [Cur] in
theorem qgQ:zq qp .geq (.s a) (.s c) k↔evA (.b (!ltS a c)) k:=by simp only[zq,ju,qq,evA]
omit [Cur] in
theorem qgS:zq qp .leq (.s a) (.s c) k↔evA (.b (ltS a c||decide (a=c))) k:=by
 simp only[zq,ju,je,qq,evA];rw[show (a==c)=decide (a=c) from by rw[Bool.eq_iff_iff];simp]
omit [Cur] in
theorem qgR:zq qp .gtr (.s a) (.s c) k↔evA (.b (!(ltS a c||decide (a=c)))) k:=by
 simp only[zq,ju,je,qq,evA];rw[show (a==c)=decide (a=c) from by rw[Bool.eq_iff_iff];simp]
omit [Cur] in
theorem qoG{x:Bool}:vq .not (.b x) k↔evA (.b (!x)) k:=by simp only[vq,qq,evA]
omit [Cur] in
theorem qoF:vq .neg (.i q n) k↔evA (.i q (q.wrap (0-n))) k:=by simp only[vq,qN,evA]
omit [Cur] in
theorem qv{x:Int}(h1:-9223372036854775808<=x)(h2:x<=9223372036854775807):IntKind.wrap .i64 x=x:=by
 simp[IntKind.wrap,IntKind.bits,IntKind.signed];omega
omit [Cur] in
theorem qq9:cvK qp q (.i q' n) k↔evA (.i q (q.wrap n)) k:=by
 show zy (ZA q n) (fun r=>k (.i q r))↔_
 exact qdc
end

omit [Cur] in
theorem qnz{s f:Nat}{tr:Tr Blk}{x:Blk}{k:Nat->Hp->Prop}:zJ ⟨s,f,tr⟩ x k↔evN (s+1) (fun s'=>k s ⟨s',f,tr.set s x⟩):=by
 rw[qS];exact Iff.rfl
omit [Cur] in
theorem qod{s f b:Nat}{tr:Tr Blk}{x:Blk}{k:Hp->Prop}:xa ⟨s,f,tr⟩ b x k↔ifK (f<=b) (k ⟨s,f,tr.set b x⟩):=zf _ _ _ _
omit [Cur] in
theorem qlO{s f:Nat}{tr:Tr Blk}:Hp.up ⟨s,f,tr⟩=⟨s,s,tr⟩:=rfl
omit [Cur] in
theorem qeI{s f f':Nat}{tr:Tr Blk}:Hp.down ⟨s,f,tr⟩ f'=⟨s,f',tr⟩:=rfl
def xW(x:Blk)(k:Nat->Bool->Bool->List AV->Prop):Prop:=match x with | .cells e w a cs=>k e w a cs|_=>False
omit [Cur] in
@[congr] theorem qjC {x x':Blk} {k:Nat->Bool->Bool->List AV->Prop} {mk:Prop} (_:zc=mk) (h:x=x'):xW x k=xW x' k:=by rw[h]
theorem qb9{e:Nat}{w a:Bool}{cs:List AV}{k:Nat->Bool->Bool->List AV->Prop}:xW (.cells e w a cs) k↔k e w a cs:=Iff.rfl
omit [Cur] in
theorem yW{b:Nat}{k:Nat->Bool->Bool->List AV->Prop}:xA h b k↔evB (h.tr.get b) (fun x=>xW x k):=by
 rw[qI];constructor
 ·rintro⟨e,w,a,cs,h1,h2⟩;exact⟨_,h1,h2⟩
 ·rintro⟨x,h1,h2⟩;cases x with
  | cells e w a cs=>exact⟨e,w,a,cs,h1,h2⟩
  | dead=>exact h2.elim
  | map es=>exact h2.elim
def yc(cs:List AV)(o n:Nat)(k:List AV->Prop):Prop:=o<=cs.length∧n<=(cs.drop o).length∧k ((cs.drop o).take n)
theorem qjP{cs:List AV}{o n:Nat}{k:List AV->Prop}:yc cs o n k↔ifK (o+n<=cs.length) (evL ((cs.drop o).take n) k):=by
 unfold yc ifK;rw[List.length_drop];exact⟨fun⟨h1,h2,h3⟩=>⟨by omega,h3⟩,fun⟨h1,h2⟩=>⟨by omega,by omega,h2⟩⟩
omit [Cur] in
theorem drop_take{cs:List AV}{o n:Nat}{k:List AV->Prop}:jR o cs (fun l=>x6 n l k)↔yc cs o n k:=by
 rw[qQ,qJ];exact Iff.rfl
omit [Cur] in
theorem qhY{b o:Nat}{k:AV->Prop}:ldV h (.ptr b o) k↔evB (h.tr.get b) (fun x=>xW x (fun _ _ _ cs=>evO cs[o]? k)):=by
 show xA h b (fun _ _ _ cs=>QU cs o k)↔_
 rw[yW]
 have:(fun (_:Nat) (_ _:Bool) (cs:List AV)=>QU cs o k)=fun _ _ _ cs=>evO cs[o]? k:=by
  funext _ _ _ cs;exact propext (zw _ _ _)
 rw[this]
omit [Cur] in
theorem qqa{cs:List AV}{o:Nat}{k:AV->Prop}:ldV h (.pf cs o) k↔evO cs[o]? k:=zw _ _ _
omit [Cur] in
theorem qp8{b o:Nat}{k:AV->Prop}:ldK h b o k↔evB (h.tr.get b) (fun x=>xW x (fun _ _ _ cs=>evO cs[o]? k)):=qhY
omit [Cur] in
theorem qhZ{b o n:Nat}{k:List AV->Prop}:jw h b o n k↔evB (h.tr.get b) (fun x=>xW x (fun _ _ _ cs=>yc cs o n k)):=by
 show xA h b (fun _ _ _ cs=>jR o cs (fun l=>x6 n l k))↔_
 rw[yW];simp only[drop_take]
omit [Cur] in
theorem qkm{b o n:Nat}{k:List AV->Prop}:Xe h (.ptr b o) n k↔evB (h.tr.get b) (fun x=>xW x (fun _ _ _ cs=>yc cs o n k)):=qhZ
omit [Cur] in
theorem qnf{cs:List AV}{o n:Nat}{k:List AV->Prop}:Xe h (.pf cs o) n k↔yc cs o n k:=drop_take
omit [Cur] in
theorem qks{b o n:Nat}{k:AV->Prop}:QT (.ptr b o) n k↔evN (o+n) (fun o'=>k (.ptr b o')):=zB (n:=o+n) (k:=fun o'=>k (.ptr b o'))
omit [Cur] in
theorem qnv{cs:List AV}{o n:Nat}{k:AV->Prop}:QT (.pf cs o) n k↔evN (o+n) (fun o'=>k (.pf cs o')):=zB (n:=o+n) (k:=fun o'=>k (.pf cs o'))
omit [Cur] in
@[congr] theorem qnu {p:AV} {n:Nat} {k:AV->Prop} {mk:Prop} (_:zc=mk):QT p n k=QT p n k:=rfl
theorem qrS{b o:Nat}{vs:List AV}{k:Hp->Prop}:stK h b o vs k↔evB (h.tr.get b) (fun x=>xW x (fun e w a cs=>ifK (w=true∧qF vs=true∧o+vs.length<=cs.length) (evL (cs.take o++(vs++cs.drop (o+vs.length))) (fun cs'=>xa h b (.cells e true a cs') k)))):=by
 show xA h b _↔_;rw[yW]
 have:(fun (e:Nat) (w a:Bool) (cs:List AV)=>(Bool.rec (motive:=fun _=>Prop) False (Bool.rec (motive:=fun _=>Prop) False (zU vs o cs (fun cs'=>xa h b (.cells e w a cs') k)) (qF vs)) w:Prop)) =
   fun e w a cs=>ifK (w=true∧qF vs=true∧o+vs.length<=cs.length) (evL (cs.take o++(vs++cs.drop (o+vs.length))) (fun cs'=>xa h b (.cells e true a cs') k)):=by
  funext e w a cs;refine propext ?_;cases w with
  | false=>exact⟨False.elim,fun hh=>by have:=hh.1.1;cases this⟩
  | true =>
   cases hc:qF vs with
   | false=>exact⟨False.elim,fun hh=>by have:=hh.1.2.1;cases this⟩
   | true=>exact (zV _ _ _ _).trans ⟨fun⟨h1,h2⟩=>⟨⟨rfl,rfl,h1⟩,h2⟩,fun⟨⟨_,_,h1⟩,h2⟩=>⟨h1,h2⟩⟩
 rw[this]
def stV(h:Hp)(b o:Nat)(v:AV)(n:Nat)(k:Hp->Prop):Prop:=qd (yd v) (Qd (cellsOf v) (fun m=>qd (Nat.beq m n) (stK h b o (cellsOf v) k)))
theorem kt{x y:Nat}:Nat.beq x y=true↔x=y:=⟨Nat.eq_of_beq_eq_true,fun h=>h ▸ Nat.beq_refl x⟩
theorem qk9{b o:Nat}{v:AV}{n:Nat}{k:Hp->Prop}:stV h b o v n k↔ifK (yd v=true) (evL (cellsOf v) (fun cs=>ifK (cs.length=n) (stK h b o cs k))):=by
 unfold stV;rw[qa,z9,qa,kt];exact Iff.rfl
omit [Cur] in
theorem zR{x y:Nat}:Nat.ble x y=true↔x<=y:=⟨Nat.le_of_ble_eq_true,Nat.ble_eq_true_of_le⟩

omit [Cur] in
theorem qn5{x:O}:opK qp (.mov x) t h k↔evK t x (fun v=>k v h):=Iff.rfl
omit [Cur] in
theorem v3{b:Bool}{p q:Prop}:(Bool.rec (motive:=fun _=>Prop) q p b:Prop)↔if b=true then p else q:=by cases b<;>simp
omit [Cur] in
theorem qkK{c x y:O}:opK qp (.pick c x y) t h k↔evK t c (fun c=>unB c (fun c=>if c=true then evK t x (fun v=>k v h) else evK t y (fun v=>k v h))):=by
 show evK t c (fun c=>unB c (fun c=>Bool.rec (motive:=fun _=>Prop) (evK t y (fun v=>k v h)) (evK t x (fun v=>k v h)) c))↔_
 simp only[v3]
omit [Cur] in
theorem qir{z:List AV}:opK qp (.alloc z) t h k↔zJ h (.cells 0 true false z) (fun b h'=>k (.ptr b 0) h'):=Iff.rfl
omit [Cur] in
theorem qnS{x:O}:opK qp (.box x) t h k↔evK t x (fun v=>qd (yd v) (evL (cellsOf v) (fun cs=>zJ h (.cells 0 true false cs) (fun b h'=>k (.ptr b 0) h')))):=Iff.rfl
omit [Cur] in
theorem qis{z:List AV}{ps:List (Nat×Nat×O)}:opK qp (.build z ps) t h k↔xt t ps z (fun cs=>k (.agg cs) h):=Iff.rfl
omit [Cur] in
theorem qgb{n:Nat}{z:List AV}{ps:List (Nat×Nat×O)}:opK qp (.buildS n z ps) t h k↔evL (List.replicate n z).flatten (fun cs=>xt t ps cs (fun cs=>zJ h (.cells 0 true false cs) (fun b h'=>k (.sl b 0 n n false) h'))):=by
 show Zu z n _↔_;rw[xl];exact Iff.rfl
omit [Cur] in
theorem qix{x:O}:opK qp (.load1 x) t h k↔evK t x (fun p=>ldV h p (fun v=>k v h)):=Iff.rfl
omit [Cur] in
theorem qiy{n:Nat}{x:O}:opK qp (.loadN n x) t h k↔evK t x (fun p=>Xe h p n (fun cs=>k (.agg cs) h)):=Iff.rfl
omit [Cur] in
theorem qiB{n:Nat}{x v:O}:opK qp (.store n x v) t h k↔evK t x (fun p=>unP p (fun b o=>evK t v (fun v=>stV h b o v n (fun h'=>k .undef h')))):=Iff.rfl
def Z7(v:AV)(k:AV->Prop):Prop:=match v with | .ptr b o=>k (.ptr b o) | .fn f a c=>k (.fn f a c) | .map r=>k (.map r) | .pf cs o=>k (.pf cs o) | .yl b=>k (.yl b)|_=>False
omit [Cur] in
@[congr] theorem qlF {v:AV} {k:AV->Prop} {mk:Prop} (_:zc=mk):Z7 v k=Z7 v k:=rfl
theorem qge{x:O}:opK qp (.nilChk x) t h k↔evK t x (fun v=>Z7 v (fun v=>k v h)):=by
 show evK t x (fun v=>_)↔_
 refine iff_of_eq (congrArg _ (funext fun v=>?_))
 cases v<;>rfl
omit [Cur] in
theorem qnR{op:BinOp}{x y:O}:opK qp (.bin op x y) t h k↔evK t x (fun x=>evK t y (fun y=>zq qp op x y (fun v=>k v h))):=Iff.rfl
omit [Cur] in
theorem qnV{neg:Bool}{x y:O}:opK qp (.eqB neg x y) t h k↔evK t x (fun x=>evK t y (fun y=>unB x (fun x=>unB y (fun y=>evT (xor neg (x==y)) (fun r=>k (.b r) h))))):=by
 show evK t x (fun x=>evK t y (fun y=>unB x (fun x=>unB y (fun y=>qz _ _))))↔_
 simp only[ZG]
omit [Cur] in
theorem qnW{neg:Bool}{q:NK}{x:O}:opK qp (.eqN neg q x) t h k↔evK t x (fun x=>zN q x (fun r=>evT (xor neg r) (fun r=>k (.b r) h))):=by
 show evK t x (fun x=>zN q x (fun r=>qz _ _))↔_
 simp only[ZG]
omit [Cur] in
theorem qnU{neg:Bool}{ks:List PK}{x y:O}:opK qp (.eqA neg ks x y) t h k↔evK t x (fun x=>evK t y (fun y=>match x with | .agg a=>(match y with | .agg c=>z8 ks a c (fun r=>qz (xor neg r) (fun r=>k (.b r) h))|_=>False)|_=>False)):=Iff.rfl
omit [Cur] in
theorem qqt{op:UnOp}{x:O}:opK qp (.un op x) t h k↔evK t x (fun x=>vq op x (fun v=>k v h)):=Iff.rfl
omit [Cur] in
theorem qiu{q:IntKind}{x:O}:opK qp (.cvInt q x) t h k↔evK t x (fun x=>cvK qp q x (fun v=>k v h)):=Iff.rfl
theorem qiv{x:O}:opK qp (.cvStr x) t h k↔evK t x (fun x=>match x with | .s a=>k (.s a) h|_=>False):=Iff.rfl
omit [Cur] in
theorem qn6{x:O}:opK qp (.s2b x) t h k↔evK t x (fun x=>match x with | .s a=>zJ h (.cells 1 true true (a.map fun c=>.i .u8 (Int.ofNat c.toNat))) (fun b h'=>k (.own b a.length) h')|_=>False):=by
 show evK t x (fun x=>_)↔_
 refine iff_of_eq (congrArg _ (funext fun v=>?_))
 cases v<;>first|rfl|exact qj _ _
omit [Cur] in
theorem qnQ{x:O}:opK qp (.b2s x) t h k↔evK t x (fun x=>match x with
  | .nils=>k (.s []) h
  | .sl b o n _ _=>jw h b o n (fun cs=>zg cs (fun l=>k (.s l) h))
  | .fz n cs=>yc cs 0 n (fun cs=>zg cs (fun l=>k (.s l) h))
  | .e0=>k (.s []) h
  | .own b n=>jw h b 0 n (fun cs=>zg cs (fun l=>k (.s l) h))
  | _=>False):=by
 show evK t x (fun x=>_)↔_
 refine iff_of_eq (congrArg _ (funext fun v=>?_))
 cases v<;>first|rfl|exact propext ((qJ _ _ _).trans ⟨fun hh=>⟨Nat.zero_le _,by simpa using hh⟩,fun hh=>by simpa using hh.2⟩)
omit [Cur] in
theorem qiw{off:Nat}{x:O}:opK qp (.fAddr off x) t h k↔evK t x (fun p=>QT p off (fun v=>k v h)):=Iff.rfl
def qhC(off:Nat)(n:Option Nat)(x:AV)(k:AV->Prop):Prop:=match x with
 | .agg cs=>(match n with|none=>evO cs[off]? k|some n=>yc cs off n (fun l=>k (.agg l)))
 | _=>False
omit [Cur] in
@[congr] theorem qmS {off:Nat} {n:Option Nat} {x:AV} {k:AV->Prop} {mk:Prop} (_:zc=mk):qhC off n x k=qhC off n x k:=rfl
theorem qhD{off:Nat}{cs:List AV}{k:AV->Prop}:qhC off none (.agg cs) k↔evO cs[off]? k:=Iff.rfl
omit [Cur] in
theorem qhE{off n:Nat}{cs:List AV}{k:AV->Prop}:qhC off (some n) (.agg cs) k↔yc cs off n (fun l=>k (.agg l)):=Iff.rfl
omit [Cur] in
theorem qnY{off:Nat}{n:Option Nat}{x:O}:opK qp (.fld off n x) t h k↔evK t x (fun x=>qhC off n x (fun v=>k v h)):=by
 show evK t x (fun x=>_)↔_
 refine iff_of_eq (congrArg _ (funext fun v=>?_))
 cases v<;>first|rfl|skip
 cases n with
 | none=>exact propext (zw _ _ _)
 | some n=>exact propext drop_take
omit [Cur] in
theorem qgc{len esz:Nat}{x i:O}:opK qp (.iAddrA len esz x i) t h k↔evK t x (fun p=>evK t i (fun i=>unN i (fun i=>ifK (i<len) (evN (i*esz) (fun o=>QT p o (fun v=>k v h)))))):=by
 show evK t x (fun p=>evK t i (fun i=>unN i (fun i=>qd (Nat.ble (Nat.succ i) len) _)))↔_
 simp only[qa,zR];exact Iff.rfl
def ixK(esz:Nat)(x:AV)(i:Nat)(k:AV->Prop):Prop:=match x with
 | .sl b o len _ _=>ifK (i<len) (evN (o+i*esz) (fun o'=>k (.ptr b o')))
 | .fz len cs=>ifK (i<len) (evN (i*esz) (fun o'=>k (.pf cs o')))
 | .own b len=>ifK (i<len) (evN (i*esz) (fun o'=>k (.ptr b o')))
 | _=>False
theorem qp5{esz i b o len cap:Nat}{l:Bool}{k:AV->Prop}:ixK esz (.sl b o len cap l) i k↔ifK (i<len) (evN (o+i*esz) (fun o'=>k (.ptr b o'))):=Iff.rfl
omit [Cur] in
theorem qp4{esz i len:Nat}{cs:List AV}{k:AV->Prop}:ixK esz (.fz len cs) i k↔ifK (i<len) (evN (i*esz) (fun o'=>k (.pf cs o'))):=Iff.rfl
omit [Cur] in
theorem qm8{esz i b len:Nat}{k:AV->Prop}:ixK esz (.own b len) i k↔ifK (i<len) (evN (i*esz) (fun o'=>k (.ptr b o'))):=Iff.rfl
def qbJ(x:AV)(p:Prop):Prop:=match x with | .sl _ _ _ _ _=>p | .fz _ _=>p | .own _ _=>p|_=>False
omit [Cur] in
@[congr] theorem qlA {x:AV} {p:Prop} {mk:Prop} (_:zc=mk):qbJ x p=qbJ x p:=rfl
theorem qhU{b o len cap:Nat}{l:Bool}{p:Prop}:qbJ (.sl b o len cap l) p↔p:=Iff.rfl
omit [Cur] in
theorem qhT{len:Nat}{cs:List AV}{p:Prop}:qbJ (.fz len cs) p↔p:=Iff.rfl
omit [Cur] in
theorem qfZ{b len:Nat}{p:Prop}:qbJ (.own b len) p↔p:=Iff.rfl
omit [Cur] in
theorem qgd{esz:Nat}{x i:O}:opK qp (.iAddrS esz x i) t h k↔evK t x (fun x=>qbJ x (evK t i (fun i=>unN i (fun i=>ixK esz x i (fun v=>k v h))))):=by
 show evK t x (fun x=>_)↔_
 refine iff_of_eq (congrArg _ (funext fun v=>?_))
 cases v<;>first|rfl|(simp only[qa,zR,zB];rfl)
omit [Cur] in
theorem qkI{len esz:Nat}{agg:Bool}{x i:O}:opK qp (.idxA len esz agg x i) t h k↔evK t x (fun x=>match x with
  | .agg cs=>evK t i (fun i=>unN i (fun i=>ifK (i<len) (evN (i*esz) (fun o=>if agg=true then yc cs o esz (fun l=>k (.agg l) h) else evO cs[o]? (fun v=>k v h)))))
  | _=>False):=by
 show evK t x (fun x=>_)↔_
 refine iff_of_eq (congrArg _ (funext fun v=>?_))
 cases v<;>first|rfl|skip
 simp only[qa,zR,zB,v3,drop_take];have:∀(cs:List AV) (o:Nat),QU cs o (fun v=>k v h)=evO cs[o]? (fun v=>k v h):=fun cs o=>propext (zw _ _ _)
 simp only[this];rfl
def evC(o:Option UInt8)(k:UInt8->Prop):Prop:=∃v,o=some v∧k v
theorem qc8{v:UInt8}{k:UInt8->Prop}:evC (some v) k↔k v:=by simp[evC]
theorem qkJ{x i:O}:opK qp (.idxS x i) t h k↔evK t x (fun x=>match x with
  | .s a=>evK t i (fun i=>unN i (fun i=>evC a[i]? (fun c=>k (.i .u8 (c.toNat:Int)) h)))
  | _=>False):=by
 show evK t x (fun x=>_)↔_
 refine iff_of_eq (congrArg _ (funext fun v=>?_))
 cases v<;>first|rfl|skip
 rename_i a
 have e:∀(j:Nat),(Option.rec (motive:=fun _=>Prop) False (fun c=>k (.i .u8 (Int.ofNat c.toNat)) h) (a[j]?):Prop)=evC a[j]? (fun c=>k (.i .u8 (c.toNat:Int)) h):=by
  intro j;cases ha:a[j]? with
  | none=>exact propext ⟨False.elim,fun⟨_,h1,_⟩=>by cases h1⟩
  | some c=>exact (propext (qc8 (k:=fun c=>k (.i .u8 (c.toNat:Int)) h) (v:=c))).symm
 simp only[e]
def bdK(x:Option AV)(dflt top:Nat)(k:Nat->Prop):Prop:=Qc x dflt top k
theorem qjg{a b:Nat}{k:Nat->Prop}:bdK none a b k↔k a:=Iff.rfl
omit [Cur] in
theorem qeC{v:AV}{a b:Nat}{k:Nat->Prop}:bdK (some v) a b k↔unN v (fun n=>ifK (n<=b) (k n)):=by
 show unN v (fun n=>qd (Nat.ble n b) (qf n k))↔_
 simp only[qa,zR,qj];exact Iff.rfl
omit [Cur] in
theorem qjy{len cap:Nat}{lo:Option AV}{k:Nat->Nat->Nat->Prop}:zd len cap lo none none k↔ifK (len<=cap) (bdK lo 0 len (fun l=>k l len cap)):=by
 show qd (Nat.ble len cap) (Qc lo 0 len (fun l=>k l len cap))↔_
 rw[qa,zR];exact Iff.rfl
omit [Cur] in
theorem qjx{len cap:Nat}{lo:Option AV}{hi:AV}{k:Nat->Nat->Nat->Prop}:zd len cap lo (some hi) none k↔unN hi (fun u=>ifK (u<=cap) (bdK lo 0 u (fun l=>k l u cap))):=by
 show unN hi (fun u=>qd (Nat.ble u cap) (qf u (fun u=>Qc lo 0 u (fun l=>k l u cap))))↔_
 simp only[qa,zR,qj];exact Iff.rfl
omit [Cur] in
theorem qeE{len cap:Nat}{lo:Option AV}{hi mx:AV}{k:Nat->Nat->Nat->Prop}:zd len cap lo (some hi) (some mx) k↔unN mx (fun m=>ifK (m<=cap) (unN hi (fun u=>ifK (u<=m) (bdK lo 0 u (fun l=>k l u m))))):=by
 show unN mx (fun m=>qd (Nat.ble m cap) (qf m (fun m=>unN hi (fun u=>qd (Nat.ble u m) (qf u (fun u=>Qc lo 0 u (fun l=>k l u m)))))))↔_
 simp only[qa,zR,qj];exact Iff.rfl
def slK(esz:Nat)(lo hi mx:Option AV)(x:AV)(h:Hp)(k:AV->Prop):Prop:=match x with
 | .nils=>zd 0 0 lo hi mx (fun _ _ _=>k .nils)
 | .e0=>zd 0 0 lo hi mx (fun _ _ _=>k .e0)
 | .fz n cs=>zd n n lo hi mx (fun l h' m=>if (mx.isSome&&Nat.beq m l)=true then k .e0 else evN (l*esz) (fun o=>evN (h'-l) (fun len'=>evN (len'*esz) (fun z=>yc cs o z (fun l2=>k (.fz len' l2))))))
 | .sl b o len cap loose=>zd len cap lo hi mx (fun l h' m=>evN (if (loose&&mx.isNone)=false∧m=l then o else o+l*esz) (fun o'=>evN (h'-l) (fun len'=>evN (m-l) (fun cap'=>Xb h b esz (loose&&mx.isNone) (k (.sl b o' len' cap' (loose&&mx.isNone)))))))
 | .own b n=>match mx with
  | none=>if n=0 then zd 0 0 lo hi none (fun _ _ _=>k (.own b 0)) else zd n n lo hi none (fun l h' m=>evN (l*esz) (fun o'=>evN (h'-l) (fun len'=>evN (m-l) (fun cap'=>Xb h b esz true (k (.sl b o' len' cap' true))))))
  | some u=>if n=0 then zd 0 0 lo hi (some u) (fun _ _ _=>k (.own b 0)) else zd n n lo hi (some u) (fun l h' m=>evN (if m=l then 0 else l*esz) (fun o'=>evN (h'-l) (fun len'=>evN (m-l) (fun cap'=>k (.sl b o' len' cap' false)))))
 | _=>False
omit [Cur] in
@[congr] theorem qo6 {esz:Nat} {lo hi mx:Option AV} {x:AV} {k:AV->Prop} {mk:Prop} (_:zc=mk):slK esz lo hi mx x h k=slK esz lo hi mx x h k:=rfl
@[congr] theorem qmL {b esz:Nat} {c:Bool} {p:Prop} {mk:Prop} (_:zc=mk):Xb h b esz c p=Xb h b esz c p:=rfl
theorem qfQ{b esz:Nat}{p:Prop}:Xb h b esz false p↔p:=Iff.rfl
theorem qhu{b esz:Nat}{p:Prop}:Xb h b esz true p↔evB (h.tr.get b) (fun x=>xW x (fun e _ _ _=>ifK (e=esz) p)):=by
 show xA h b (fun e _ _ _=>qd (Nat.beq e esz) p)↔_
 rw[yW];simp only[qa,kt];exact Iff.rfl
omit [Cur] in
theorem qk5{esz:Nat}{lo hi mx:Option AV}{k:AV->Prop}:slK esz lo hi mx .nils h k↔zd 0 0 lo hi mx (fun _ _ _=>k .nils):=Iff.rfl
omit [Cur] in
theorem qqz{esz:Nat}{lo hi mx:Option AV}{k:AV->Prop}:slK esz lo hi mx .e0 h k↔zd 0 0 lo hi mx (fun _ _ _=>k .e0):=Iff.rfl
omit [Cur] in
theorem qqA{esz n:Nat}{cs:List AV}{lo hi:Option AV}{k:AV->Prop}:slK esz lo hi none (.fz n cs) h k↔zd n n lo hi none (fun l h' _=>evN (l*esz) (fun o=>evN (h'-l) (fun len'=>evN (len'*esz) (fun z=>yc cs o z (fun l2=>k (.fz len' l2)))))):=by
 simp only[slK,Option.isSome_none,Bool.false_and,Bool.false_eq_true,if_false]
omit [Cur] in
theorem qov{esz b o len cap:Nat}{lo hi mx:Option AV}{k:AV->Prop}:slK esz lo hi mx (.sl b o len cap false) h k↔zd len cap lo hi mx (fun l1 h' m=>evN (if m=l1 then o else o+l1*esz) (fun o'=>evN (h'-l1) (fun len'=>evN (m-l1) (fun cap'=>k (.sl b o' len' cap' false))))):=by
 simp only[slK,Bool.false_and,true_and];exact Iff.rfl
omit [Cur] in
theorem qow{esz b o len cap:Nat}{lo hi:Option AV}{k:AV->Prop}:slK esz lo hi none (.sl b o len cap true) h k↔zd len cap lo hi none (fun l1 h' m=>evN (o+l1*esz) (fun o'=>evN (h'-l1) (fun len'=>evN (m-l1) (fun cap'=>Xb h b esz true (k (.sl b o' len' cap' true)))))):=by
 simp only[slK,Option.isNone_none,Bool.and_self,Bool.true_eq_false,false_and,if_false]
omit [Cur] in
theorem qou{esz b n:Nat}{lo hi:Option AV}{k:AV->Prop}:slK esz lo hi none (.own b n) h k↔if n=0 then zd 0 0 lo hi none (fun _ _ _=>k (.own b 0)) else zd n n lo hi none (fun l h' m=>evN (l*esz) (fun o'=>evN (h'-l) (fun len'=>evN (m-l) (fun cap'=>Xb h b esz true (k (.sl b o' len' cap' true)))))):=by
 exact Iff.rfl
omit [Cur] in
theorem qkM{esz:Nat}{x:O}{lo hi mx:Option O}:opK qp (.slcS esz x lo hi mx) t h k↔evK t x (fun x=>xR t lo (fun lo=>xR t hi (fun hi=>xR t mx (fun mx=>slK esz lo hi mx x h (fun v=>k v h))))):=by
 show evK t x (fun x=>_)↔_
 refine iff_of_eq (congrArg _ (funext fun v=>congrArg _ (funext fun lo=>congrArg _ (funext fun hi=>congrArg _ (funext fun mx=>?_)))))
 cases v<;>first|rfl|skip
 ·simp only[slK,zB];rfl
 ·have e:∀(cs:List AV) (o m:Nat),jR o cs (fun l1=>evN m (fun len'=>x6 (Nat.mul len' esz) l1 (fun l2=>k (.fz len' l2) h)))=evN m (fun len'=>evN (len'*esz) (fun z=>yc cs o z (fun l2=>k (.fz len' l2) h))):=by
   intro cs o m;refine propext ⟨fun hh=>?_,fun hh=>?_⟩
   ·obtain⟨h1,h2⟩:=(qQ _ _ _).1 hh;obtain⟨h3,h4⟩:=(qJ _ _ _).1 h2;exact⟨h1,h3,h4⟩
   ·obtain⟨h1,h3,h4⟩:=hh;exact (qQ _ _ _).2 ⟨h1,(qJ _ _ _).2 ⟨h3,h4⟩⟩
  simp only[slK,zB,v3,e];rfl
 ·rename_i b n;cases mx with
  | some m =>
   cases n with
   | zero=>simp only[slK,if_true];rfl
   | succ n=>simp only[slK,Nat.succ_ne_zero,if_false,zB];rfl
  | none =>
   cases n with
   | zero=>simp only[slK,if_true];rfl
   | succ n=>simp only[slK,Nat.succ_ne_zero,if_false,zB];rfl
omit [Cur] in
theorem qgg{x:O}{lo hi:Option O}:opK qp (.slcStr x lo hi) t h k↔evK t x (fun x=>xR t lo (fun lo=>xR t hi (fun hi=>match x with
  | .s a=>zd a.length a.length lo hi none (fun l h' _=>evA (.s ((a.take h').drop l)) (fun v=>k v h))
  | _=>False))):=Iff.rfl
omit [Cur] in
theorem qkL{len esz:Nat}{x:O}{lo hi mx:Option O}:opK qp (.slcA len esz x lo hi mx) t h k↔evK t x (fun p=>unP p (fun b o=>xR t lo (fun lo=>xR t hi (fun hi=>xR t mx (fun mx =>
   zd len len lo hi mx (fun l h' m=>evN (if m=l then o else o+l*esz) (fun o'=>evN (h'-l) (fun len'=>evN (m-l) (fun cap'=>k (.sl b o' len' cap' false) h))))))))):=by
 show evK t x (fun p=>unP p (fun b o=>xR t lo (fun lo=>xR t hi (fun hi=>xR t mx (fun mx=>zd len len lo hi mx (fun l h' m=>qf (if m=l then o else Nat.add o (Nat.mul l esz)) _))))))↔_
 simp only[zB];exact Iff.rfl
omit [Cur] in
theorem qnX{x:O}{i:Nat}:opK qp (.ext x i) t h k↔evK t x (fun x=>match x with | .tup cs=>evO cs[i]? (fun v=>k v h)|_=>False):=by
 show evK t x (fun x=>_)↔_
 refine iff_of_eq (congrArg _ (funext fun v=>?_))
 cases v<;>first|rfl|exact propext (zw _ _ _)
omit [Cur] in
theorem qn2{f:Nat}{a c:List O}:opK qp (.mkF f a c) t h k↔xh t a (fun a=>xh t c (fun c=>k (.fn f a c) h)):=Iff.rfl
omit [Cur] in
theorem qn4{e bytes:Nat}{z:List AV}{len cap:O}:opK qp (.mkS e bytes z len cap) t h k↔evK t len (fun len=>evK t cap (fun cap=>unN len (fun l=>unN cap (fun c=>ifK (l<=c) (ifK (c<=qe) (ifK (bytes*c<=qe) (evL (List.replicate c z).flatten (fun cs=>zJ h (.cells 0 true false cs) (fun b h'=>k (.sl b 0 l c false) h'))))))))):=by
 show evK t len (fun len=>evK t cap (fun cap=>unN len (fun l=>unN cap (fun c=>qd (Nat.ble l c) (qd (Nat.ble c qe) (qd (Nat.ble (Nat.mul bytes c) qe) (Zu z c _)))))))↔_
 simp only[qa,zR,xl];exact Iff.rfl
def lnK(str:Bool)(x:AV)(k:AV->Prop):Prop:=match x,str with
 | .nils,false=>k (.i .i64 0)
 | .e0,false=>k (.i .i64 0)
 | .nz,false=>k (.i .i64 0)
 | .fz n _,false=>evA (.i .i64 (n:Int)) k
 | .own _ n,false=>evA (.i .i64 (n:Int)) k
 | .sl _ _ n _ _,false=>evA (.i .i64 (n:Int)) k
 | .s a,true=>evA (.i .i64 (a.length:Int)) k
 | _,_=>False
omit [Cur] in
@[congr] theorem qo2 {b:Bool} {x:AV} {k:AV->Prop} {mk:Prop} (_:zc=mk):lnK b x k=lnK b x k:=rfl
theorem qnZ{str:Bool}{x:O}:opK qp (.len str x) t h k↔evK t x (fun x=>lnK str x (fun v=>k v h)):=by
 show evK t x (fun x=>_)↔_
 refine iff_of_eq (congrArg _ (funext fun v=>?_))
 cases v<;>cases str<;>first|rfl|exact qj _ _
omit [Cur] in
theorem qkp{k:AV->Prop}:lnK false .nils k↔k (.i .i64 0):=Iff.rfl
omit [Cur] in
theorem qqd{k:AV->Prop}:lnK false .nz k↔k (.i .i64 0):=Iff.rfl
omit [Cur] in
theorem qqb{k:AV->Prop}:lnK false .e0 k↔k (.i .i64 0):=Iff.rfl
omit [Cur] in
theorem qqc{n:Nat}{cs:List AV}{k:AV->Prop}:lnK false (.fz n cs) k↔evA (.i .i64 (n:Int)) k:=Iff.rfl
omit [Cur] in
theorem qnk{b n:Nat}{k:AV->Prop}:lnK false (.own b n) k↔evA (.i .i64 (n:Int)) k:=Iff.rfl
omit [Cur] in
theorem qqe{b o n c:Nat}{l:Bool}{k:AV->Prop}:lnK false (.sl b o n c l) k↔evA (.i .i64 (n:Int)) k:=Iff.rfl
omit [Cur] in
theorem qrm{a:List UInt8}{k:AV->Prop}:lnK true (.s a) k↔evA (.i .i64 (a.length:Int)) k:=Iff.rfl
omit [Cur] in
theorem qnP{esz bytes:Nat}{c:Bool}{s x:O}:opK qp (.app esz bytes c s x) t h k↔evK t s (fun s=>evK t x (fun x=>kS h esz bytes c s x k)):=Iff.rfl
omit [Cur] in
theorem qkF{esz bytes:Nat}{s x:O}:opK qp (.appF esz bytes s x) t h k↔evK t s (fun s=>evK t x (fun x=>kS h esz bytes true s x k)):=Iff.rfl
def qgJ(esz bytes:Nat)(z:List AV)(h:Hp)(s:AV)(n:Nat)(k:AV->Hp->Prop):Prop:=match s with
  | .sl b o len cap false=>evN (len+n) (fun need=>ifK (cap<need) (ifK (need<=qe) (ifK (need*bytes<=qe) (evN (len*esz) (fun m=>jw h b o m (fun old=>evL (old++(List.replicate n z).flatten) (fun cs=>zJ h (.cells esz true true cs) (fun b' h'=>k (.own b' need) h'))))))))
  | .nils=>ifK (1<=n) (ifK (n<=qe) (ifK (n*bytes<=qe) (evL ((List.replicate n z).flatten) (fun cs=>zJ h (.cells esz true true cs) (fun b' h'=>k (.own b' n) h')))))
  | _=>False
theorem qmc{esz bytes b o len cap n:Nat}{z:List AV}:qgJ esz bytes z h (.sl b o len cap false) n k↔evN (len+n) (fun need=>ifK (cap<need) (ifK (need<=qe) (ifK (need*bytes<=qe) (evN (len*esz) (fun m=>jw h b o m (fun old=>evL (old++(List.replicate n z).flatten) (fun cs=>zJ h (.cells esz true true cs) (fun b' h'=>k (.own b' need) h')))))))):=Iff.rfl
omit [Cur] in
theorem qgK{esz bytes n:Nat}{z:List AV}:qgJ esz bytes z h .nils n k↔ifK (1<=n) (ifK (n<=qe) (ifK (n*bytes<=qe) (evL ((List.replicate n z).flatten) (fun cs=>zJ h (.cells esz true true cs) (fun b' h'=>k (.own b' n) h'))))):=Iff.rfl
omit [Cur] in
theorem qkG{esz bytes:Nat}{z:List AV}{s x:O}:opK qp (.appZ esz bytes z s x) t h k↔evK t s (fun s=>evK t x (fun x=>unN x (fun n=>qgJ esz bytes z h s n k))):=by
 show evK t s (fun s=>evK t x (fun x=>unN x (fun n=>_)))↔_
 refine iff_of_eq (congrArg _ (funext fun v=>congrArg _ (funext fun x=>congrArg _ (funext fun n=>propext ?_))))
 cases v<;>first|exact Iff.rfl|skip
 ·simp only[qgJ,qa,zR,xl,ifK,evL];rfl
 rename_i b o len cap loose;cases loose with
 | true=>exact⟨fun hh=>absurd ((qa (!true) _).1 hh).1 (by simp),False.elim⟩
 | false =>
  simp only[qgJ,qa,zR,xl,z7,Bool.not_false,true_and,evN,ifK,evL];rfl
omit [Cur] in
theorem qkH{esz:Nat}{s x:O}:opK qp (.copy esz s x) t h k↔evK t s (fun s=>evK t x (fun x=>ZU h esz s x k)):=Iff.rfl
omit [Cur] in
theorem qfL{esz:Nat}{s:AV}:ZU h esz .nils s k↔js h esz s (fun _ _=>k (.i .i64 0) h):=Iff.rfl
omit [Cur] in
theorem qjN{esz b o len c:Nat}{l:Bool}{s:AV}:ZU h esz (.sl b o len c l) s k↔js h esz s (fun n new=>evN (min n len) (fun m=>evN (m*esz) (fun z=>yc new 0 z (fun cs=>stK h b o cs (fun h'=>evA (.i .i64 (m:Int)) (fun v=>k v h')))))):=by
 show js h esz s (fun n new=>qf (min n len) (fun m=>x6 (Nat.mul m esz) new (fun cs=>stK h b o cs (fun h'=>k (.i .i64 (Int.ofNat m)) h'))))↔_
 simp only[zB];refine iff_of_eq (congrArg _ (funext fun n=>funext fun new=>congrArg _ (funext fun m=>propext ?_)))
 exact (qJ _ _ _).trans ⟨fun hh=>⟨Nat.zero_le _,by simpa[evA] using hh⟩,fun hh=>by simpa[evN,yc,evA] using hh⟩
omit [Cur] in
theorem qn1{x y:O}:opK qp (.min x y) t h k↔evK t x (fun x=>evK t y (fun y=>unI x (fun q n=>unI y (fun _ m=>evA (.i q (if m<n then m else n)) (fun v=>k v h))))):=by
 have e:∀(q:IntKind) (n m:Int),(Bool.rec (motive:=fun _=>Prop) (k (.i q n) h) (k (.i q m) h) (ltI m n):Prop)=evA (.i q (if m<n then m else n)) (fun v=>k v h):=by
  intro q n m;rw[wb]
  by_cases hlt:m<n
  ·rw[decide_eq_true hlt,if_pos hlt];rfl
  ·rw[decide_eq_false hlt,if_neg hlt];rfl
 show evK t x (fun x=>evK t y (fun y=>unI x (fun q n=>unI y (fun _ m=>Bool.rec (motive:=fun _=>Prop) (k (.i q n) h) (k (.i q m) h) (ltI m n)))))↔_
 simp only[e]
omit [Cur] in
theorem qn0{x y:O}:opK qp (.max x y) t h k↔evK t x (fun x=>evK t y (fun y=>unI x (fun q n=>unI y (fun _ m=>evA (.i q (if n<m then m else n)) (fun v=>k v h))))):=by
 have e:∀(q:IntKind) (n m:Int),(Bool.rec (motive:=fun _=>Prop) (k (.i q n) h) (k (.i q m) h) (ltI n m):Prop)=evA (.i q (if n<m then m else n)) (fun v=>k v h):=by
  intro q n m;rw[wb]
  by_cases hlt:n<m
  ·rw[decide_eq_true hlt,if_pos hlt];rfl
  ·rw[decide_eq_false hlt,if_neg hlt];rfl
 show evK t x (fun x=>evK t y (fun y=>unI x (fun q n=>unI y (fun _ m=>Bool.rec (motive:=fun _=>Prop) (k (.i q n) h) (k (.i q m) h) (ltI n m)))))↔_
 simp only[e]
def qhe(z:List AV)(x:AV)(h:Hp)(k:AV->Hp->Prop):Prop:=match x with
  | .nils=>k (.tup []) h
  | .sl b o n _ _=>if n=0 then k (.tup []) h else evL (List.replicate n z).flatten (fun cs=>stK h b o cs (fun h'=>k (.tup []) h'))
  | _=>False
theorem qhf{z:List AV}:qhe z .nils h k↔k (.tup []) h:=Iff.rfl
omit [Cur] in
theorem qmB{z:List AV}{b o n c:Nat}{l:Bool}:qhe z (.sl b o n c l) h k↔if n=0 then k (.tup []) h else evL (List.replicate n z).flatten (fun cs=>stK h b o cs (fun h'=>k (.tup []) h')):=Iff.rfl
omit [Cur] in
theorem qit{z:List AV}{x:O}:opK qp (.clear z x) t h k↔evK t x (fun x=>qhe z x h k):=by
 show evK t x (fun x=>_)↔_
 refine iff_of_eq (congrArg _ (funext fun v=>?_))
 cases v<;>first|rfl|skip
 rename_i b o n c l;cases n with
 | zero=>simp only[qhe,if_true];rfl
 | succ n=>simp only[qhe,xl];rfl
omit [Cur] in
theorem qn3:opK qp .mkM t h k↔zJ h (.map []) (fun b h'=>k (.map b) h'):=Iff.rfl
omit [Cur] in
theorem qgh{n:Nat}{x v:O}{ps:List Nat}:opK qp (.storeD n x v ps) t h k↔evK t x (fun p=>unP p (fun b o=>zW t b ps (evK t v (fun v=>stV h b o v n (fun h'=>k .undef h'))))):=Iff.rfl
omit [Cur] in
theorem qkE{esz bytes:Nat}{s x:O}{ps:List Nat}:opK qp (.appD esz bytes s x ps) t h k↔evK t s (fun s=>evK t x (fun x=>jI t ps s (kS h esz bytes true s x k))):=Iff.rfl
theorem qk3{ps:List Nat}{b m:Nat}{p:Prop}:jI t ps (.own b m) p↔zW t b ps p:=Iff.rfl
omit [Cur] in
theorem qos{ps:List Nat}{b o m c:Nat}{l:Bool}{p:Prop}:jI t ps (.sl b o m c l) p↔zW t b ps p:=Iff.rfl
omit [Cur] in
theorem qor{ps:List Nat}{m:Nat}{cs:List AV}{p:Prop}:jI t ps (.fz m cs) p↔p:=Iff.rfl
omit [Cur] in
theorem qiP{ps:List Nat}{p:Prop}:jI t ps .nils p↔p:=Iff.rfl
omit [Cur] in
theorem qoq{ps:List Nat}{p:Prop}:jI t ps .e0 p↔p:=Iff.rfl
theorem qfu{b:Nat}{p:Prop}:zW t b [] p↔p:=Iff.rfl
def neK(b:Nat)(y:AV)(p:Prop):Prop:=match y with | .ptr b' _=>ifK (¬b'=b) p | .pf _ _=>p|_=>False
theorem qnw{b b' o:Nat}{p:Prop}:neK b (.ptr b' o) p↔ifK (¬b'=b) p:=Iff.rfl
omit [Cur] in
theorem qqh{b o:Nat}{cs:List AV}{p:Prop}:neK b (.pf cs o) p↔p:=Iff.rfl
theorem qdY{b q:Nat}{ps:List Nat}{p:Prop}:zW t b (q::ps) p↔evO (t.get q) (fun y=>neK b y (zW t b ps p)):=by
 refine (Tr.getK_iff _ _ _).trans (iff_of_eq (congrArg _ (funext fun v=>?_)))
 refine congrArg _ ?_;cases v<;>first|rfl|skip
 rename_i b' o;refine propext ((qa _ _).trans ?_);show _∧_↔_∧_
 have:(!Nat.beq b' b)=true↔¬b'=b:=by
  rw[Bool.not_eq_true',← Bool.not_eq_true,kt]
 rw[this];exact Iff.rfl
def cpK(x:AV)(k:AV->Prop):Prop:=match x with
  | .nils=>k (.i .i64 0)
  | .e0=>k (.i .i64 0)
  | .sl _ _ _ c false=>evA (.i .i64 (c:Int)) k
  | _=>False
theorem qnT{x:O}:opK qp (.cap x) t h k↔evK t x (fun x=>cpK x (fun v=>k v h)):=by
 show evK t x (fun x=>_)↔_
 refine iff_of_eq (congrArg _ (funext fun v=>?_))
 cases v<;>first|rfl|skip
 rename_i l;cases l<;>rfl
omit [Cur] in
theorem qjO{k:AV->Prop}:cpK .nils k↔k (.i .i64 0):=Iff.rfl
omit [Cur] in
theorem qpM{k:AV->Prop}:cpK .e0 k↔k (.i .i64 0):=Iff.rfl
omit [Cur] in
theorem qpN{b o n c:Nat}{k:AV->Prop}:cpK (.sl b o n c false) k↔evA (.i .i64 (c:Int)) k:=Iff.rfl
omit [Cur] in
theorem qhA{l:List AV}{k:List AV->Prop}:xt t [] l k↔k l:=Iff.rfl
theorem qfT{off m:Nat}{x:O}{ps:List (Nat×Nat×O)}{l:List AV}{k:List AV->Prop}:xt t ((off,m,x)::ps) l k↔evK t x (fun v=>ifK (yd v=true) (evL (cellsOf v) (fun cs=>ifK (cs.length=m∧off+cs.length<=l.length) (evL (l.take off++(cs++l.drop (off+cs.length))) (fun l=>xt t ps l k))))):=by
 show evK t x (fun v=>qd (yd v) (qf off (fun off=>Qd (cellsOf v) (fun n=>qd (Nat.beq n m) (zU (cellsOf v) off l (fun l'=>xt t ps l' k))))))↔_
 simp only[qa,qj,z9,zV,kt,ifK,evL,and_assoc]
omit [Cur] in
theorem qiW{esz:Nat}{k:Nat->List AV->Prop}:js h esz .nils k↔k 0 []:=Iff.rfl
omit [Cur] in
theorem qoA{esz:Nat}{k:Nat->List AV->Prop}:js h esz .nz k↔k 0 []:=Iff.rfl
omit [Cur] in
theorem qoy{esz:Nat}{k:Nat->List AV->Prop}:js h esz .e0 k↔k 0 []:=Iff.rfl
omit [Cur] in
theorem qoB{esz b o n c:Nat}{l:Bool}{k:Nat->List AV->Prop}:js h esz (.sl b o n c l) k↔evN (n*esz) (fun m=>jw h b o m (fun cs=>k n cs)):=Iff.rfl
omit [Cur] in
theorem qk8{esz b n:Nat}{k:Nat->List AV->Prop}:js h esz (.own b n) k↔evN (n*esz) (fun m=>jw h b 0 m (fun cs=>k n cs)):=Iff.rfl
omit [Cur] in
theorem qoz{esz n:Nat}{cs:List AV}{k:Nat->List AV->Prop}:js h esz (.fz n cs) k↔evN (n*esz) (fun m=>yc cs 0 m (fun cs=>k n cs)):=by
 refine (qJ _ _ _).trans ⟨fun hh=>⟨Nat.zero_le _,by simpa using hh⟩,fun hh=>by simpa[evN,yc] using hh⟩
theorem qqB{esz:Nat}{a:List UInt8}{k:Nat->List AV->Prop}:js h esz (.s a) k↔ifK (esz=1) (k a.length (a.map fun c=>.i .u8 (Int.ofNat c.toNat))):=by
 show qd (Nat.beq esz 1) (qf a.length _)↔_;rw[qa,kt,qj];exact Iff.rfl
omit [Cur] in
theorem qgI{esz bytes:Nat}{c:Bool}{x:AV}:kS h esz bytes c .nils x k↔js h esz x (fun n new=>ifK (n<=qe) (ifK (n*bytes<=qe) (zJ h (.cells esz true true new) (fun b h'=>k (.own b n) h')))):=by
 show js h esz x (fun n new=>qd (Nat.ble n qe) (qd (Nat.ble (Nat.mul n bytes) qe) _))↔_
 simp only[qa,zR];exact Iff.rfl
omit [Cur] in
theorem ql9{esz bytes:Nat}{c:Bool}{x:AV}:kS h esz bytes c .e0 x k↔js h esz x (fun n new=>ifK (n<=qe) (ifK (n*bytes<=qe) (zJ h (.cells esz true true new) (fun b h'=>k (.own b n) h')))):=by
 show js h esz x (fun n new=>qd (Nat.ble n qe) (qd (Nat.ble (Nat.mul n bytes) qe) _))↔_
 simp only[qa,zR];exact Iff.rfl
theorem qje{esz bytes b m:Nat}{x:AV}:kS h esz bytes true (.own b m) x k↔js h esz x (fun n new=>evN (m+n) (fun need=>ifK (need<=qe) (ifK (need*bytes<=qe) (evB (h.tr.get b) (fun y=>xW y (fun e w a ys =>
  ifK (qF new=true∧w=true∧a=true∧e=esz∧ys.length=m*esz) (evL (ys++new) (fun cs'=>xa h b .dead (fun h1=>zJ h1 (.cells esz true true cs') (fun b' h'=>k (.own b' need) h')))))))))):=by
 show js h esz x (fun n new=>qf (Nat.add m n) (fun need=>qd (Nat.ble need qe) (qd (Nat.ble (Nat.mul need bytes) qe) (xA h b (fun e w a ys=>_)))))↔_
 simp only[zB,qa,zR,kt,yW,z9,z7];refine iff_of_eq (congrArg _ (funext fun n=>funext fun new=>?_))
 simp only[ifK,evN,evL,and_assoc];rfl
omit [Cur] in
theorem qmb{esz bytes b o len cap:Nat}{c:Bool}{x:AV}:kS h esz bytes c (.sl b o len cap false) x k↔js h esz x (fun n new=>evN (len+n) (fun need=>if need<=cap then
  (if n=0 then k (.sl b o need cap false) h else evN (o+len*esz) (fun at_=>stK h b at_ new (fun h'=>k (.sl b o need cap false) h')))
  else ifK (need<=qe) (ifK (need*bytes<=qe) (evN (len*esz) (fun m=>jw h b o m (fun old=>evL (old++new) (fun cs=>zJ h (.cells esz true true cs) (fun b' h'=>k (.own b' need) h')))))))):=by
 have e:∀(n:Nat) (p q:Prop),(Nat.rec (motive:=fun _=>Prop) p (fun _ _=>q) n:Prop)↔if n=0 then p else q:=by
  intro n p q;cases n with
  | zero=>rw[if_pos rfl];exact Iff.rfl
  | succ n=>rw[if_neg (Nat.succ_ne_zero n)]
 unfold kS;dsimp only;simp only[Bool.not_false,zB,qfm,zR,v3,z7,e,qdm];exact Iff.rfl
omit [Cur] in
theorem qma{esz bytes m:Nat}{c:Bool}{cs:List AV}{x:AV}:kS h esz bytes c (.fz m cs) x k↔js h esz x (fun n _=>ifK (n=0) (k (.fz m cs) h)):=by
 show js h esz x (fun n _=>Nat.rec (motive:=fun _=>Prop) (k (.fz m cs) h) (fun _ _=>False) n)↔_
 refine iff_of_eq (congrArg _ (funext fun n=>funext fun new=>?_))
 cases n<;>simp[ifK];rfl
omit [Cur] in
theorem qik{k:Bool->Prop}:zN .ptr .nilp k↔k true:=Iff.rfl
omit [Cur] in
theorem qkv{b o:Nat}{k:Bool->Prop}:zN .ptr (.ptr b o) k↔k false:=Iff.rfl
omit [Cur] in
theorem qnD{cs:List AV}{o:Nat}{k:Bool->Prop}:zN .ptr (.pf cs o) k↔k false:=Iff.rfl
omit [Cur] in
theorem qnC{k:Bool->Prop}:zN .slice .nz k↔k false:=Iff.rfl
omit [Cur] in
theorem qil{k:Bool->Prop}:zN .slice .nils k↔k true:=Iff.rfl
omit [Cur] in
theorem qnE{b o n c:Nat}{l:Bool}{k:Bool->Prop}:zN .slice (.sl b o n c l) k↔k false:=Iff.rfl
omit [Cur] in
theorem qnB{n:Nat}{cs:List AV}{k:Bool->Prop}:zN .slice (.fz n cs) k↔ifK (1<=n) (k false):=by
 show qd (Nat.ble 1 n) (k false)↔_;rw[qa,zR];exact Iff.rfl
omit [Cur] in
theorem qku{b n:Nat}{k:Bool->Prop}:zN .slice (.own b n) k↔ifK (1<=n) (k false):=by
 show qd (Nat.ble 1 n) (k false)↔_;rw[qa,zR];exact Iff.rfl
omit [Cur] in
theorem qii{k:Bool->Prop}:zN .func .nilf k↔k true:=Iff.rfl
omit [Cur] in
theorem qnA{f:Nat}{a c:List AV}{k:Bool->Prop}:zN .func (.fn f a c) k↔k false:=Iff.rfl
omit [Cur] in
theorem qij{k:Bool->Prop}:zN .iface .nili k↔k true:=Iff.rfl
omit [Cur] in
theorem qkt{t:Nat}{v:AV}{k:Bool->Prop}:zN .iface (.ifc t v) k↔k false:=Iff.rfl
omit [Cur] in
theorem qjT{x y:List AV}{k:Bool->Prop}:z8 [] x y k↔k true:=Iff.rfl
omit [Cur] in
theorem qhs{q:PK}{qs:List PK}{u v:AV}{us vs:List AV}{k:Bool->Prop}:z8 (q::qs) (u::us) (v::vs) k↔xI q u v (fun e=>if e=true then z8 qs us vs k else k false):=by
 show xI q u v (fun e=>Bool.rec (motive:=fun _=>Prop) (k false) (z8 qs us vs k) e)↔_
 simp only[v3]
theorem qrd{q:IntKind}{n m:Int}{k:Bool->Prop}:xI .i (.i q n) (.i q m) k↔evT (decide (n=m)) k:=by
 show qd (decide (q=q)) (qz (eqI n m) k)↔_;rw[qa,qaE,qq];simp[evT]
omit [Cur] in
theorem qre{a c:List UInt8}{k:Bool->Prop}:xI .s (.s a) (.s c) k↔evT (decide (a=c)) k:=by
 show qz (eqS a c) k↔_;rw[qq,je,show (a==c)=decide (a=c) from by rw[Bool.eq_iff_iff];simp];exact Iff.rfl
omit [Cur] in
theorem qrc{a c:Bool}{k:Bool->Prop}:xI .b (.b a) (.b c) k↔evT (a==c) k:=by
 show qz (a==c) k↔_;rw[qq];exact Iff.rfl
omit [Cur] in
theorem qho{rs:List RV}{k:AV->Hp->Prop}:jd rs k .ret t h↔xS t h rs (fun vs=>k (xw vs) h):=Iff.rfl
omit [Cur] in
theorem qc7{rs:List RV}{k:AV->Hp->Prop}:jd rs k .normal t h↔xS t h rs (fun vs=>k (xw vs) h):=Iff.rfl
theorem qkZ{k:List AV->Prop}:xS t h [] k↔k []:=Iff.rfl
omit [Cur] in
theorem qk0{n:Nat}{rs:List RV}{k:List AV->Prop}:xS t h (.tmp n::rs) k↔evO (t.get n) (fun v=>xS t h rs (fun vs=>k (v::vs))):=Tr.getK_iff _ _ _
omit [Cur] in
theorem qiM{n size:Nat}{agg:Bool}{rs:List RV}{k:List AV->Prop}:xS t h (.cell n size agg::rs) k↔evO (t.get n) (fun v=>unP v (fun b o=>if agg=true then jw h b o size (fun cs=>xS t h rs (fun vs=>k (.agg cs::vs))) else ldK h b o (fun v=>xS t h rs (fun vs=>k (v::vs))))):=by
 refine (Tr.getK_iff _ _ _).trans (iff_of_eq (congrArg _ (funext fun v=>congrArg _ ?_)))
 cases v<;>first|rfl|skip
 cases agg<;>rfl
end Go.Kc
end
section
namespace Go.Kc
variable [Cur]
variable {P:Program} {n:Nat} {t:Tr AV} {h:Hp} {k:AV->Hp->Prop}

section
variable {r:Nat->Nat} {m:Nat} {v v':AV} {vs vs':List AV}
omit [Cur] in
theorem qin:NV r m v .undef↔True:=iff_true_intro (.undef _)
omit [Cur] in
theorem qrn{x y:Bool}:NV r m (.b x) (.b y)↔x=y:=⟨fun h=>by cases h;rfl,fun h=>by subst h;exact .clo _ rfl⟩
omit [Cur] in
theorem qro{q q':IntKind}{x y:Int}:NV r m (.i q x) (.i q' y)↔q=q'∧x=y:=⟨fun h=>by cases h;exact⟨rfl,rfl⟩,fun⟨h,h'⟩=>by subst h h';exact .clo _ rfl⟩
omit [Cur] in
theorem qrp{x y:List UInt8}:NV r m (.s x) (.s y)↔x=y:=⟨fun h=>by cases h;rfl,fun h=>by subst h;exact .clo _ rfl⟩
omit [Cur] in
theorem qkz:NV r m .nilp .nilp↔True:=iff_true_intro (.clo _ rfl)
omit [Cur] in
theorem qkA:NV r m .nils .nils↔True:=iff_true_intro (.clo _ rfl)
omit [Cur] in
theorem qkw:NV r m .nilf .nilf↔True:=iff_true_intro (.clo _ rfl)
omit [Cur] in
theorem qkx:NV r m .nili .nili↔True:=iff_true_intro (.clo _ rfl)
omit [Cur] in
theorem qky:NV r m .nilm .nilm↔True:=iff_true_intro (.clo _ rfl)
omit [Cur] in
theorem qqj:NV r m .e0 .e0↔True:=iff_true_intro (.clo _ rfl)
omit [Cur] in
theorem qqm:NV r m .nz .nz↔True:=iff_true_intro (.clo _ rfl)
omit [Cur] in
theorem qnH{x:Nat}{cs:List AV}:NV r m .e0 (.fz x cs)↔x=0∧cs=[]:=⟨fun h=>by cases h;exact⟨rfl,rfl⟩,fun⟨h,h'⟩=>by subst h h';exact .e0z⟩
omit [Cur] in
theorem qim{b' x':Nat}:NV r m .e0 (.own b' x')↔b'<m∧x'=0:=⟨fun h=>by
  cases h with
  | e0own _ h1=>exact⟨h1,rfl⟩,fun⟨h1,h2⟩=>by subst h2;exact .e0own _ h1⟩
omit [Cur] in
theorem qnM{b b' o x c x':Nat}{l:Bool}:NV r m (.sl b o x c l) (.own b' x')↔b'<m∧x=0∧c=0∧l=false∧x'=0:=⟨fun h=>by
  cases h with
  | slz _ _ _ h1=>exact⟨h1,rfl,rfl,rfl,rfl⟩,fun⟨h1,h2,h3,h4,h5⟩=>by subst h2 h3 h4 h5;exact .slz _ _ _ h1⟩
omit [Cur] in
theorem qql{x y:Nat}{cs ds:List AV}:NV r m (.fz x cs) (.fz y ds)↔x=y∧cs=ds:=⟨fun h=>by cases h;exact⟨rfl,rfl⟩,fun⟨h,h'⟩=>by subst h h';exact .clo _ rfl⟩
omit [Cur] in
theorem qqn{x y:Nat}{cs ds:List AV}:NV r m (.pf cs x) (.pf ds y)↔cs=ds∧x=y:=⟨fun h=>by cases h;exact⟨rfl,rfl⟩,fun⟨h,h'⟩=>by subst h h';exact .clo _ rfl⟩
omit [Cur] in
theorem qkB{x:Nat}{cs:List AV}:NV r m .nils (.fz x cs)↔x=0∧cs=[]:=⟨fun h=>by cases h;exact⟨rfl,rfl⟩,fun⟨h,h'⟩=>by subst h h';exact .nilz⟩
omit [Cur] in
theorem qnL{b b' o o':Nat}:NV r m (.ptr b o) (.ptr b' o')↔r b'=b∧b'<m∧o=o':=⟨fun h=>by
  cases h with
  | clo _ hc=>cases hc
  | ptr _ _ _ h1 h2=>exact⟨h1,h2,rfl⟩,fun⟨h1,h2,h3⟩=>by subst h3;exact .ptr _ _ _ h1 h2⟩
omit [Cur] in
theorem qqo{b b' o o' x x' c c':Nat}{l l':Bool}:NV r m (.sl b o x c l) (.sl b' o' x' c' l')↔r b'=b∧b'<m∧o=o'∧x=x'∧c=c'∧l=l':=⟨fun h=>by
  cases h with
  | clo _ hc=>cases hc
  | sl _ _ _ _ _ _ h1 h2=>exact⟨h1,h2,rfl,rfl,rfl,rfl⟩,fun⟨h1,h2,h3,h4,h5,h6⟩=>by subst h3 h4 h5 h6;exact .sl _ _ _ _ _ _ h1 h2⟩
omit [Cur] in
theorem qnK{b b' x x':Nat}:NV r m (.own b x) (.own b' x')↔r b'=b∧b'<m∧x=x':=⟨fun h=>by
  cases h with
  | clo _ hc=>cases hc
  | own _ _ _ h1 h2=>exact⟨h1,h2,rfl⟩,fun⟨h1,h2,h3⟩=>by subst h3;exact .own _ _ _ h1 h2⟩
omit [Cur] in
theorem qga{b' x':Nat}:NV r m .nils (.own b' x')↔b'<m∧x'=0:=⟨fun h=>by
  cases h with
  | nilown _ h1=>exact⟨h1,rfl⟩,fun⟨h1,h2⟩=>by subst h2;exact .nilown _ h1⟩
omit [Cur] in
theorem qnJ{b b':Nat}:NV r m (.map b) (.map b')↔r b'=b∧b'<m:=⟨fun h=>by
  cases h with
  | clo _ hc=>cases hc
  | map _ _ h1 h2=>exact⟨h1,h2⟩,fun⟨h1,h2⟩=>.map _ _ h1 h2⟩
omit [Cur] in
theorem qqp{b b':Nat}:NV r m (.yl b) (.yl b')↔r b'=b∧b'<m:=⟨fun h=>by
  cases h with
  | clo _ hc=>cases hc
  | yl _ _ h1 h2=>exact⟨h1,h2⟩,fun⟨h1,h2⟩=>.yl _ _ h1 h2⟩
omit [Cur] in
theorem qkC:NVs r m [] []↔True:=iff_true_intro .nil
omit [Cur] in
theorem qio:NVs r m (v::vs) (v'::vs')↔NV r m v v'∧NVs r m vs vs':=⟨fun h=>by
  cases h with
  | cons _ _ _ _ h1 h2=>exact⟨h1,h2⟩,fun h=>.cons _ _ _ _ h.1 h.2⟩
omit [Cur] in
theorem qnG{cs cs':List AV}:NV r m (.agg cs) (.agg cs')↔NVs r m cs cs':=⟨fun h=>by
  cases h with
  | clo _ hc=>exact NVs.refl (by simpa[clo] using hc)
  | agg _ _ h1=>exact h1,fun h=>.agg _ _ h⟩
omit [Cur] in
theorem qnN{cs cs':List AV}:NV r m (.tup cs) (.tup cs')↔NVs r m cs cs':=⟨fun h=>by
  cases h with
  | clo _ hc=>exact NVs.refl (by simpa[clo] using hc)
  | tup _ _ h1=>exact h1,fun h=>.tup _ _ h⟩
omit [Cur] in
theorem qqk{f f':Nat}{a a' c c':List AV}:NV r m (.fn f a c) (.fn f' a' c')↔f=f'∧NVs r m a a'∧NVs r m c c':=⟨fun h=>by
  cases h with
  | clo _ hc =>
   simp only[clo,Bool.and_eq_true] at hc;exact⟨rfl,NVs.refl hc.1,NVs.refl hc.2⟩
  | fn _ _ _ _ _ h1 h2=>exact⟨rfl,h1,h2⟩,fun⟨h1,h2,h3⟩=>by subst h1;exact .fn _ _ _ _ _ h2 h3⟩
omit [Cur] in
theorem qnI{f f':Nat}:NV r m (.ifc f v) (.ifc f' v')↔f=f'∧NV r m v v':=⟨fun h=>by
  cases h with
  | clo _ hc=>exact⟨rfl,.clo _ (by simpa[clo] using hc)⟩
  | ifc _ _ _ h1=>exact⟨rfl,h1⟩,fun⟨h1,h2⟩=>by subst h1;exact .ifc _ _ _ h2⟩
omit [Cur] in
theorem qld:TWs t r m []↔True:=Iff.rfl
omit [Cur] in
theorem qi1{p:Nat×AV}{l:List (Nat×AV)}:TWs t r m (p::l)↔evO (t.get p.1) (fun v=>NV r m v p.2)∧TWs t r m l:=Iff.rfl
omit [Cur] in
theorem qjA:BWs h r m [] []↔True:=Iff.rfl
omit [Cur] in
theorem qgW{b:Nat}{x:Blk}{bs:List Nat}{xs:List Blk}:BWs h r m (b::bs) (x::xs)↔BW h r m b x∧BWs h r m bs xs:=Iff.rfl
omit [Cur] in
theorem qmn{b:Nat}{x:Blk}(hb:h.sz<=b):BW h r m b x↔True:=iff_true_intro (.inl hb)
omit [Cur] in
theorem qjz{b:Nat}:BW h r m b .dead↔True:=iff_true_intro (.inr (.inl rfl))
omit [Cur] in
theorem qmo{b e:Nat}{w a:Bool}{cs':List AV}(hb:b<h.sz):BW h r m b (.cells e w a cs')↔evB (h.tr.get b) (fun x=>xW x (fun e0 w0 a0 cs=>e0=e∧(w=true->w0=true)∧(a=true->a0=true)∧NVs r m cs cs')):=by
 constructor
 ·rintro (h1|h1|⟨e',w0,a0,cs,w',a',cs'',h1,h2,h3,h4,h5⟩|⟨es,es',h1,h2,h3⟩)
  ·omega
  ·cases h1
  ·cases h2;exact⟨_,h1,rfl,h3,h4,h5⟩
  ·cases h2
 ·rintro⟨x,h1,h2⟩;cases x with
  | cells e0 w0 a0 cs =>
   obtain⟨rfl,h3,h4,h5⟩:=h2;exact .inr (.inr (.inl ⟨_,w0,a0,cs,w,a,cs',h1,rfl,h3,h4,h5⟩))
  | dead=>exact h2.elim
  | map es=>exact h2.elim
end
omit [Cur] in
theorem qrO{b d:Nat}{l:List Nat}:rl (b::l) d 0=b:=rfl
omit [Cur] in
theorem qrP{b d i:Nat}{l:List Nat}:rl (b::l) d (i+1)=rl l d i:=rfl

section
variable {v v':AV} {vs vs':List AV}
omit [Cur] in
theorem qhG:Frz h v .undef↔True:=iff_true_intro (.undef _)
omit [Cur] in
theorem qrf{x y:Bool}:Frz h (.b x) (.b y)↔x=y:=⟨fun h=>by cases h;rfl,fun h=>by subst h;exact .b _⟩
omit [Cur] in
theorem qrh{q q':IntKind}{x y:Int}:Frz h (.i q x) (.i q' y)↔q=q'∧x=y:=⟨fun h=>by cases h;exact⟨rfl,rfl⟩,fun⟨h,h'⟩=>by subst h h';exact .i _ _⟩
omit [Cur] in
theorem qri{x y:List UInt8}:Frz h (.s x) (.s y)↔x=y:=⟨fun h=>by cases h;rfl,fun h=>by subst h;exact .s _⟩
omit [Cur] in
theorem qj4:Frz h .nilp .nilp↔True:=iff_true_intro .nilp
omit [Cur] in
theorem qj5:Frz h .nils .nils↔True:=iff_true_intro .nils
omit [Cur] in
theorem qj1:Frz h .nilf .nilf↔True:=iff_true_intro .nilf
omit [Cur] in
theorem qj2:Frz h .nili .nili↔True:=iff_true_intro .nili
omit [Cur] in
theorem qj3:Frz h .nilm .nilm↔True:=iff_true_intro .nilm
omit [Cur] in
theorem qpX:Frz h .e0 .e0↔True:=iff_true_intro .e0
omit [Cur] in
theorem qpZ:Frz h .nz .nz↔True:=iff_true_intro .nz
omit [Cur] in
theorem qmV{x:Nat}{cs:List AV}:Frz h .e0 (.fz x cs)↔x=0∧cs=[]:=⟨fun h=>by cases h;exact⟨rfl,rfl⟩,fun⟨h,h'⟩=>by subst h h';exact .e0z⟩
omit [Cur] in
theorem qpY{x y:Nat}{cs ds:List AV}:Frz h (.fz x cs) (.fz y ds)↔x=y∧cs=ds:=⟨fun h=>by cases h;exact⟨rfl,rfl⟩,fun⟨h,h'⟩=>by subst h h';exact .fz _ _⟩
omit [Cur] in
theorem qp0{x y:Nat}{cs ds:List AV}:Frz h (.pf cs x) (.pf ds y)↔cs=ds∧x=y:=⟨fun h=>by cases h;exact⟨rfl,rfl⟩,fun⟨h,h'⟩=>by subst h h';exact .pf _ _⟩
omit [Cur] in
theorem qj6{x:Nat}{cs:List AV}:Frz h .nils (.fz x cs)↔x=0∧cs=[]:=⟨fun h=>by cases h;exact⟨rfl,rfl⟩,fun⟨h,h'⟩=>by subst h h';exact .nilz⟩
omit [Cur] in
theorem qj7:Frzs h [] []↔True:=iff_true_intro .nil
omit [Cur] in
theorem qhH:Frzs h (v::vs) (v'::vs')↔Frz h v v'∧Frzs h vs vs':=⟨fun h=>by
  cases h with
  | cons _ _ _ _ h1 h2=>exact⟨h1,h2⟩,fun h=>.cons _ _ _ _ h.1 h.2⟩
omit [Cur] in
theorem qmU{cs cs':List AV}:Frz h (.agg cs) (.agg cs')↔Frzs h cs cs':=⟨fun h=>by cases h;assumption,fun h=>.agg _ _ h⟩
omit [Cur] in
theorem qmZ{cs cs':List AV}:Frz h (.tup cs) (.tup cs')↔Frzs h cs cs':=⟨fun h=>by cases h;assumption,fun h=>.tup _ _ h⟩
omit [Cur] in
theorem qm0{f f':Nat}{a a' c c':List AV}:Frz h (.fn f a c) (.fn f' a' c')↔f=f'∧Frzs h a a'∧Frzs h c c':=⟨fun h=>by
  cases h with
  | fn _ _ _ _ _ h1 h2=>exact⟨rfl,h1,h2⟩,fun⟨h1,h2,h3⟩=>by subst h1;exact .fn _ _ _ _ _ h2 h3⟩
omit [Cur] in
theorem qmW{f f':Nat}:Frz h (.ifc f v) (.ifc f' v')↔f=f'∧Frz h v v':=⟨fun h=>by
  cases h with
  | ifc _ _ _ h1=>exact⟨rfl,h1⟩,fun⟨h1,h2⟩=>by subst h1;exact .ifc _ _ _ h2⟩
omit [Cur] in
theorem qmX{b x y:Nat}{cs':List AV}:Frz h (.own b x) (.fz y cs')↔x=y∧evB (h.tr.get b) (fun z=>xW z (fun _ w _ ys=>w=true∧(x=0->ys=[])∧Frzs h ys cs')):=by
 constructor
 ·intro hh;cases hh with
  | own _ _ e af ys _ hb h0 h1=>exact⟨rfl,_,hb,rfl,h0,h1⟩
 ·rintro⟨rfl,z,h1,h2⟩;cases z with
  | cells e w af ys =>
   obtain⟨rfl,h3,h4⟩:=h2;exact .own _ _ e af ys _ h1 h3 h4
  | dead=>exact h2.elim
  | map es=>exact h2.elim
omit [Cur] in
theorem qmY{b x y:Nat}{cs':List AV}:Frz h (.ptr b x) (.pf cs' y)↔x=y∧evB (h.tr.get b) (fun z=>xW z (fun _ w _ ys=>w=true∧Frzs h ys cs')):=by
 constructor
 ·intro hh;cases hh with
  | ptr _ _ e af ys _ hb h1=>exact⟨rfl,_,hb,rfl,h1⟩
 ·rintro⟨rfl,z,h1,h2⟩;cases z with
  | cells e w af ys =>
   obtain⟨rfl,h4⟩:=h2;exact .ptr _ _ e af ys _ h1 h4
  | dead=>exact h2.elim
  | map es=>exact h2.elim
omit [Cur] in
theorem Frz.cut{b o x c:Nat}{l:Bool}{y:Nat}{cs':List AV}(esz:Nat)(hx:x=y)(hc:x<=c)(hg:evB (h.tr.get b) (fun z=>xW z (fun _ w _ cs=>w=true∧o+x*esz<=cs.length∧Frzs h ((cs.drop o).take (x*esz)) cs'))):Frz h (.sl b o x c l) (.fz y cs'):=by
 subst hx;obtain⟨z,h1,h2⟩:=hg;cases z with
 | cells e w af cs =>
  obtain⟨rfl,h3,h4⟩:=h2;exact .sl _ _ _ _ _ e af cs (x*esz) _ h1 hc h3 (fun hh=>by rw[hh] at hc;simp[Nat.le_zero.1 hc]) h4
 | dead=>exact h2.elim
 | map es=>exact h2.elim
end
mutual
theorem Frz.self:∀{v:AV},clo v=true->Frz h v v
 | .undef,_=>.undef _
 | .b _,_=>.b _
 | .i _ _,_=>.i _ _
 | .s _,_=>.s _
 | .nilp,_=>.nilp
 | .ptr _ _,hc=>by simp[clo] at hc
 | .nils,_=>.nils
 | .sl _ _ _ _ _,hc=>by simp[clo] at hc
 | .nilf,_=>.nilf
 | .fn _ _ _,hc=>by
  simp only[clo,Bool.and_eq_true] at hc;exact .fn _ _ _ _ _ (Frzs.self hc.1) (Frzs.self hc.2)
 | .nili,_=>.nili
 | .ifc _ _,hc=>.ifc _ _ _ (Frz.self (by simpa[clo] using hc))
 | .agg _,hc=>.agg _ _ (Frzs.self (by simpa[clo] using hc))
 | .tup _,hc=>.tup _ _ (Frzs.self (by simpa[clo] using hc))
 | .nilm,_=>.nilm
 | .map _,hc=>by simp[clo] at hc
 | .fz _ _,_=>.fz _ _
 | .pf _ _,_=>.pf _ _
 | .e0,_=>.e0
 | .nz,_=>.nz
 | .own _ _,hc=>by simp[clo] at hc
 | .sym _,hc=>by simp[clo] at hc
 | .yl _,hc=>by simp[clo] at hc
 | .lp _,hc=>by simp[clo] at hc
theorem Frzs.self:∀{vs:List AV},qx vs=true->Frzs h vs vs
 | [],_=>.nil
 | v::vs,hc=>by
  simp only[qx,Bool.and_eq_true] at hc;exact .cons _ _ _ _ (Frz.self hc.1) (Frzs.self hc.2)
end

omit [Cur] in
@[congr] theorem qm9 {kd:Option IntKind} {i:AV} {p:Prop} {mk:Prop} (_:zc=mk):Xd qp kd i p=Xd qp kd i p:=rfl
@[congr] theorem qnm {b:Nat} {k:List (AV×AV)->Prop} {mk:Prop} (_:zc=mk):Zp h b k=Zp h b k:=rfl
@[congr] theorem qkf {es:List (AV×AV)} {p:Prop} {mk:Prop} (_:zc=mk):kA es p=kA es p:=rfl
theorem qp7{a:List UInt8}{p:Prop}:Xd qp none (.s a) p↔p:=Iff.rfl
omit [Cur] in
theorem qp6{q:IntKind}{z:Int}{p:Prop}:Xd qp (some q) (.i q z) p↔p:=by
 show qd (decide (q=q)) p↔p;rw[qa];simp
omit [Cur] in
theorem qf0{p:Prop}:kA [] p↔p:=Iff.rfl
omit [Cur] in
theorem qki{a:List UInt8}{v:AV}{es:List (AV×AV)}{p:Prop}:kA ((.s a,v)::es) p↔p:=Iff.rfl
omit [Cur] in
theorem qkh{q:IntKind}{z:Int}{v:AV}{es:List (AV×AV)}{p:Prop}:kA ((.i q z,v)::es) p↔p:=Iff.rfl
def qdw(x:Blk)(k:List (AV×AV)->Prop):Prop:=match x with | .map es=>k es|_=>False
omit [Cur] in
@[congr] theorem qlD {x x':Blk} {k:List (AV×AV)->Prop} {mk:Prop} (_:zc=mk) (h:x=x'):qdw x k=qdw x' k:=by rw[h]
theorem qbP{es:List (AV×AV)}{k:List (AV×AV)->Prop}:qdw (.map es) k↔k es:=Iff.rfl
omit [Cur] in
theorem qqf{b:Nat}{k:List (AV×AV)->Prop}:Zp h b k↔evB (h.tr.get b) (fun x=>qdw x (fun es=>kA es (k es))):=by
 unfold Zp;refine (Tr.getK_iff _ _ _).trans (iff_of_eq (congrArg _ (funext fun x=>congrArg _ ?_)))
 cases x<;>rfl
omit [Cur] in
theorem qhB{i:AV}{k:Option AV->Prop}:wi qp i [] k↔k none:=Iff.rfl
omit [Cur] in
theorem qmR{i a:List UInt8}{v:AV}{es:List (AV×AV)}{k:Option AV->Prop}:wi qp (.s i) ((.s a,v)::es) k↔if i=a then k (some v) else wi qp (.s i) es k:=by
 show qz (eqS i a) (fun r=>Bool.rec (motive:=fun _=>Prop) (wi qp (.s i) es k) (k (some v)) r)↔_
 rw[qq,v3,je];simp
omit [Cur] in
theorem qmQ{q:IntKind}{i a:Int}{v:AV}{es:List (AV×AV)}{k:Option AV->Prop}:wi qp (.i q i) ((.i q a,v)::es) k↔if i=a then k (some v) else wi qp (.i q i) es k:=by
 show qd (decide (q=q)) (qz (eqI i a) (fun r=>Bool.rec (motive:=fun _=>Prop) (wi qp (.i q i) es k) (k (some v)) r))↔_
 rw[qa,qq,v3,qaE];simp
omit [Cur] in
theorem qlf{i v:AV}{k:List (AV×AV)->Prop}:Qh qp i v [] k↔k [(i,v)]:=Iff.rfl
omit [Cur] in
theorem qqI{i a:List UInt8}{u v:AV}{es:List (AV×AV)}{k:List (AV×AV)->Prop}:Qh qp (.s i) u ((.s a,v)::es) k↔if i=a then k ((.s i,u)::es) else Qh qp (.s i) u es (fun l=>k ((.s a,v)::l)):=by
 show qz (eqS i a) (fun r=>Bool.rec (motive:=fun _=>Prop) (Qh qp (.s i) u es (fun l=>k ((.s a,v)::l))) (k ((.s i,u)::es)) r)↔_
 rw[qq,v3,je];simp
omit [Cur] in
theorem qqH{q:IntKind}{i a:Int}{u v:AV}{es:List (AV×AV)}{k:List (AV×AV)->Prop}:Qh qp (.i q i) u ((.i q a,v)::es) k↔if i=a then k ((.i q i,u)::es) else Qh qp (.i q i) u es (fun l=>k ((.i q a,v)::l)):=by
 show qd (decide (q=q)) (qz (eqI i a) (fun r=>Bool.rec (motive:=fun _=>Prop) (Qh qp (.i q i) u es (fun l=>k ((.i q a,v)::l))) (k ((.i q i,u)::es)) r))↔_
 rw[qa,qq,v3,qaE];simp
theorem qgG{z:AV}{k:AV->Prop}:ZC false z none k↔k z:=Iff.rfl
omit [Cur] in
theorem qfs{z:AV}{k:AV->Prop}:ZC true z none k↔k (.tup [z,.b false]):=Iff.rfl
omit [Cur] in
theorem qgH{z v:AV}{k:AV->Prop}:ZC false z (some v) k↔k v:=Iff.rfl
omit [Cur] in
theorem qft{z v:AV}{k:AV->Prop}:ZC true z (some v) k↔k (.tup [v,.b true]):=Iff.rfl
def lkK(h:Hp)(ok:Bool)(zero x i:AV)(k:AV->Prop):Prop:=match x with
  | .nilm=>ZC ok zero none k
  | .map r=>Zp h r (fun es=>wi qp i es (fun v=>ZC ok zero v k))
  | _=>False
theorem qnj{ok:Bool}{z i:AV}{k:AV->Prop}:lkK h ok z .nilm i k↔ZC ok z none k:=Iff.rfl
omit [Cur] in
theorem qni{ok:Bool}{z i:AV}{r:Nat}{k:AV->Prop}:lkK h ok z (.map r) i k↔Zp h r (fun es=>wi qp i es (fun v=>ZC ok z v k)):=Iff.rfl
omit [Cur] in
theorem qiz{kd:Option IntKind}{ok:Bool}{z:AV}{x i:O}:opK qp (.lookM kd ok z x i) t h k↔evK t x (fun x=>evK t i (fun i=>Xd qp kd i (lkK h ok z x i (fun v=>k v h)))):=Iff.rfl
def upK(h:Hp)(x i v:AV)(k:Hp->Prop):Prop:=match x with
  | .map r=>Zp h r (fun es=>Qh qp i v es (fun es'=>xa h r (.map es') k))
  | _=>False
theorem qoH{i v:AV}{r:Nat}{k:Hp->Prop}:upK h (.map r) i v k↔Zp h r (fun es=>Qh qp i v es (fun es'=>xa h r (.map es') k)):=Iff.rfl
omit [Cur] in
theorem qkN{kd:Option IntKind}{x i v:O}:opK qp (.updM kd x i v) t h k↔evK t x (fun x=>evK t i (fun i=>evK t v (fun v=>Xd qp kd i (upK h x i v (fun h'=>k .undef h'))))):=Iff.rfl

omit [Cur] in
theorem qfH:qF []=true:=rfl
omit [Cur] in
theorem qaB{v:AV}{vs:List AV}:qF (v::vs)=(qW v&&qF vs):=by
 show (Bool.rec (motive:=fun _=>Bool) false (qF vs) (qW v):Bool)=_
 cases qW v<;>rfl
omit [Cur] in
theorem qmw{x:Bool}:qW (.b x)=true:=rfl
omit [Cur] in
theorem qmx{q:IntKind}{x:Int}:qW (.i q x)=true:=rfl
omit [Cur] in
theorem qmy{x:List UInt8}:qW (.s x)=true:=rfl
omit [Cur] in
theorem qfE:qW .nilp=true:=rfl
omit [Cur] in
theorem qg9{b o:Nat}:qW (.ptr b o)=true:=rfl
omit [Cur] in
theorem qfF:qW .nils=true:=rfl
omit [Cur] in
theorem qjJ{b o x c:Nat}{l:Bool}:qW (.sl b o x c l)=true:=rfl
omit [Cur] in
theorem qfB:qW .nilf=true:=rfl
omit [Cur] in
theorem qjE{f:Nat}{a c:List AV}:qW (.fn f a c)=true:=rfl
omit [Cur] in
theorem qfC:qW .nili=true:=rfl
omit [Cur] in
theorem qg6{f:Nat}{v:AV}:qW (.ifc f v)=true:=rfl
omit [Cur] in
theorem qfD:qW .nilm=true:=rfl
omit [Cur] in
theorem qg7{b:Nat}:qW (.map b)=true:=rfl
omit [Cur] in
theorem qjF{n:Nat}{cs:List AV}:qW (.fz n cs)=true:=rfl
omit [Cur] in
theorem qjI{n:Nat}{cs:List AV}:qW (.pf cs n)=true:=rfl
omit [Cur] in
theorem qjD:qW .e0=true:=rfl
omit [Cur] in
theorem qjH:qW .nz=true:=rfl
omit [Cur] in
theorem qg8{b n:Nat}:qW (.own b n)=true:=rfl
omit [Cur] in
theorem qfG{α:Type}{f:α->AV}{xs:List α}(h:∀x,qW (f x)=true):qF (xs.map f)=true:=by
 induction xs with
 | nil=>rfl
 | cons v a ih=>simp[qaB,ih,h]
omit [Cur] in
theorem zA{a b:List AV}:qx (a++b)=(qx a&&qx b):=by
 induction a with
 | nil=>simp[qx]
 | cons v a ih=>simp[qx,ih,Bool.and_assoc]
omit [Cur] in
theorem k9{α:Type}{f:α->AV}{xs:List α}(h:∀x,clo (f x)=true):qx (xs.map f)=true:=by
 induction xs with
 | nil=>rfl
 | cons v a ih=>simp[qx,ih,h]
omit [Cur] in
theorem yY{α:Type}{f:α->List AV}{xs:List α}(h:∀x,qx (f x)=true):qx (xs.flatMap f)=true:=by
 induction xs with
 | nil=>rfl
 | cons v a ih=>simp[List.flatMap_cons,zA,ih,h]
omit [Cur] in
theorem xY{α:Type}{f:α->List AV}{m:Nat}(h:∀x,(f x).length=m)(xs:List α):(xs.flatMap f).length=xs.length*m:=by
 induction xs with
 | nil=>simp
 | cons v a ih=>simp[ih,h,Nat.add_mul,Nat.add_comm]
omit [Cur] in
theorem ZF{α:Type}{f:α->List AV}{m:Nat}(h:∀x,(f x).length=m):∀(xs:List α) (j:Nat),(xs.flatMap f).drop (j*m)=(xs.drop j).flatMap f
 | [],j=>by simp
 | x::xs,0=>by simp
 | x::xs,j+1=>by
  simp only[List.flatMap_cons,List.drop_succ_cons];rw[Nat.add_mul,Nat.one_mul,Nat.add_comm,← List.drop_drop,List.drop_left' (h x)];exact ZF h xs j
omit [Cur] in
theorem qaJ{α:Type}{f:α->List AV}{m:Nat}(h:∀x,(f x).length=m){xs:List α}{j:Nat}{x:α}(hx:xs[j]?=some x){i:Nat}(hi:i<m):(xs.flatMap f)[j*m+i]?=(f x)[i]?:=by
 rw[← List.getElem?_drop,ZF h];obtain⟨hj,rfl⟩:=zzS.1 hx;rw[List.drop_eq_getElem_cons hj,List.flatMap_cons,List.getElem?_append_left (by rw[h];exact hi)]
omit [Cur] in
theorem zP{α:Type}{f:α->List AV}{m:Nat}(h:∀x,(f x).length=m){xs:List α}{j:Nat}{x:α}(hx:xs[j]?=some x):((xs.flatMap f).drop (j*m)).take m=f x:=by
 rw[ZF h];obtain⟨hj,rfl⟩:=zzS.1 hx;rw[List.drop_eq_getElem_cons hj,List.flatMap_cons,List.take_left' (h _)]

theorem SL.loop{α:Type}{x:ICode}{Q:X->Tr AV->Hp->Prop}(T:α->List (Nat×AV))(B:α->List Blk)(I:α->Prop)(μ:α->Nat)(a0:α)(src:List Nat)
  (hT:TWs t (rl src h.sz) (B a0).length (T a0)) (hB:BWs h (rl src h.sz) (B a0).length src (B a0)) (hI:(src.filter fun b=>decide (b<h.sz)).Nodup) (hfl:h.fl=0) (h0:I a0)
  (step:∀a,I a->∀G:Tr AV->Hp->Prop,(∀b,I b->μ b<μ a->∀t' h',Wk 0 t' h' (mkT (T b)) (mkH 0 (B b))->G t' h')->
   V P 0 x (fun e t h=>onX e (G t h) (fun id=>Q (.exit id) t h) (Q .ret t h)) (mkT (T a)) (mkH 0 (B a))):SL P 0 x Q t h:=by
 have main:∀m a,μ a=m->I a->SL P 0 x Q (mkT (T a)) (mkH 0 (B a)):=by
  intro m
  induction m using Nat.strongRecOn with
  | ind m ih =>
   intro a ha hi;exact qez (step a hi (fun t h=>SL P 0 x Q t h) fun b hb hlt t' h' hw=>SL.weak hw (ih (μ b) (ha ▸ hlt) b rfl hb))
 exact SL.weak (Wk.mk (T a0) (B a0) src hT hB hI hfl) (main _ a0 rfl h0)

omit [Cur] in
theorem qq3{b:Bool}:(b==true)=b:=by cases b<;>rfl
omit [Cur] in
theorem qq2{b:Bool}:(b==false) = !b:=by cases b<;>rfl
def vA:=And.intro @qgC (And.intro @qpr (And.intro @qpu (And.intro @ql5 (And.intro @qpt (And.intro @ql2 (And.intro @ql1 (And.intro @qpq (And.intro @ql3 (And.intro @qps (And.intro @ql4 (And.intro @qlY (And.intro @qpp (And.intro @qgz (And.intro @qgA (And.intro @qgB (And.intro @qfo (And.intro @qpo
 (And.intro @qmF (And.intro @qmC (And.intro @QW (And.intro @qip (And.intro @qkD (And.intro @qho (And.intro @qc7 (And.intro @qkZ (And.intro @qk0 @qiM))))))))))))))))))))))))))
def vR:=And.intro @qfq (And.intro @qdW @qlZ)
def vE:=And.intro @qc9 (And.intro @qpV (And.intro @qhx (And.intro @qfR (And.intro @qgi (And.intro @qgk (And.intro @qhJ (And.intro @qfN (And.intro @qfO (And.intro @qqD (And.intro @qle (And.intro @qqE (And.intro @qqF (And.intro @qfm (And.intro @zB (And.intro @ZG
 (And.intro @qnz (And.intro @qod (And.intro @qhY (And.intro @qqa (And.intro @qkm (And.intro @qnf (And.intro @qp8 (And.intro @qhZ (And.intro @qks (And.intro @qnv (And.intro @qrS (And.intro @qk9 (And.intro @qjP (And.intro @yW (And.intro @qke @zR))))))))))))))))))))))))))))))
def vO:=And.intro @qn5 (And.intro @qkK (And.intro @qir (And.intro @qnS (And.intro @qis (And.intro @qgb (And.intro @qix (And.intro @qiy (And.intro @qiB (And.intro @qge (And.intro @qnR (And.intro @qnV (And.intro @qnW (And.intro @qnU (And.intro @qqt (And.intro @qiu (And.intro @qiv (And.intro @qn6 (And.intro @qnQ
 (And.intro @qiw (And.intro @qnY (And.intro @qgc (And.intro @qgd (And.intro @qkI (And.intro @qkJ (And.intro @qkM (And.intro @qgg (And.intro @qkL (And.intro @qnX (And.intro @qn2 (And.intro @qn4 (And.intro @qnZ (And.intro @qnP (And.intro @qkF (And.intro @qkH (And.intro @qn1 (And.intro @qn0 (And.intro @qit (And.intro @qn3
 (And.intro @qgh (And.intro @qkE (And.intro @qk3 (And.intro @qos (And.intro @qor (And.intro @qiP (And.intro @qoq (And.intro @qnT (And.intro @qkG (And.intro @qgK (And.intro @qiz @qkN)))))))))))))))))))))))))))))))))))))))))))))))))
def vB:=And.intro @qjt (And.intro @qjs (And.intro @qjp (And.intro @qjn (And.intro @qjm (And.intro @qjo (And.intro @qjl (And.intro @qjr (And.intro @qji (And.intro @qju (And.intro @qjq (And.intro @qmk (And.intro @qjj (And.intro @qjv (And.intro @qjk (And.intro @qgP (And.intro @qgU (And.intro @qgO (And.intro @qgT (And.intro @qgQ (And.intro @qgS (And.intro @qgR (And.intro @qoG (And.intro @qoF @qq9)))))))))))))))))))))))
def vF:=And.intro @qhD (And.intro @qhE (And.intro @qp5 (And.intro @qp4 (And.intro @qm8 (And.intro @qhU (And.intro @qhT (And.intro @qfZ (And.intro @qjg (And.intro @qeC (And.intro @qjy (And.intro @qjx (And.intro @qeE (And.intro @qk5 (And.intro @qqz (And.intro @qqA (And.intro @qov (And.intro @qow (And.intro @qou (And.intro @qmc (And.intro @qfQ (And.intro @qhu (And.intro @qkp (And.intro @qqb (And.intro @qqd (And.intro @qqc (And.intro @qnk (And.intro @qqe (And.intro @qrm
 (And.intro @qhf (And.intro @qmB (And.intro @qfu (And.intro @qdY (And.intro @qnw (And.intro @qqh (And.intro @qjO (And.intro @qpM (And.intro @qpN (And.intro @qhA (And.intro @qfT (And.intro @qfL (And.intro @qjN (And.intro @qiW (And.intro @qoy (And.intro @qoA (And.intro @qoB (And.intro @qk8 (And.intro @qoz (And.intro @qqB (And.intro @qgI (And.intro @ql9 (And.intro @qje (And.intro @qmb (And.intro @qma
 (And.intro @qik (And.intro @qkv (And.intro @qnD (And.intro @qil (And.intro @qnC (And.intro @qnE (And.intro @qnB (And.intro @qku (And.intro @qii (And.intro @qnA (And.intro @qij (And.intro @qkt (And.intro @qjT (And.intro @qhs (And.intro @qrd (And.intro @qre @qrc)))))))))))))))))))))))))))))))))))))))))))))))))))))))))))))))))))))
def vM:=And.intro @qp7 (And.intro @qp6 (And.intro @qf0 (And.intro @qki (And.intro @qkh (And.intro @qbP (And.intro @qqf (And.intro @qhB (And.intro @qmR (And.intro @qmQ (And.intro @qlf (And.intro @qqI (And.intro @qqH (And.intro @qgG (And.intro @qfs (And.intro @qgH (And.intro @qft (And.intro @qnj (And.intro @qni @qoH))))))))))))))))))
def vC:=And.intro @qfH (And.intro @qaB (And.intro @qmw (And.intro @qmx (And.intro @qmy (And.intro @qfE (And.intro @qg9 (And.intro @qfF (And.intro @qjJ (And.intro @qfB (And.intro @qjE (And.intro @qfC (And.intro @qg6 (And.intro @qfD (And.intro @qg7 (And.intro @qjF (And.intro @qjI (And.intro @qjD (And.intro @qjH @qg8))))))))))))))))))
def vP:=And.intro @qf5 (And.intro @qhw (And.intro @qjV (And.intro @qjW (And.intro @qjX (And.intro @qjY (And.intro @qhv (And.intro @qc8 (And.intro @qdm (And.intro @qb9 (And.intro @qlO (And.intro @qeI (And.intro @qq3 (And.intro @qq2 @v3)))))))))))))
def vW:=And.intro @qqp (And.intro @qin (And.intro @qrn (And.intro @qro (And.intro @qrp (And.intro @qkz (And.intro @qkA (And.intro @qkw (And.intro @qkx (And.intro @qky (And.intro @qqj (And.intro @qqm (And.intro @qnH (And.intro @qim (And.intro @qnM (And.intro @qql (And.intro @qqn (And.intro @qkB (And.intro @qnL (And.intro @qqo (And.intro @qnK (And.intro @qga (And.intro @qnJ (And.intro @qkC (And.intro @qio (And.intro @qnG (And.intro @qnN (And.intro @qqk (And.intro @qnI
 (And.intro @qld (And.intro @qi1 (And.intro @qjA (And.intro @qgW (And.intro @qmn (And.intro @qjz (And.intro @qmo (And.intro @qrO @qrP))))))))))))))))))))))))))))))))))))
def vZ:=And.intro @qhG (And.intro @qrf (And.intro @qrh (And.intro @qri (And.intro @qj4 (And.intro @qj5 (And.intro @qj1 (And.intro @qj2 (And.intro @qj3 (And.intro @qpX (And.intro @qpZ (And.intro @qmV (And.intro @qpY (And.intro @qp0 (And.intro @qj6 (And.intro @qj7 (And.intro @qhH (And.intro @qmU (And.intro @qmZ (And.intro @qm0 (And.intro @qmY (And.intro @qmW @qmX)))))))))))))))))))))
end Go.Kc
end
section
namespace Go.Kc
variable [Cur]
variable {P:Program}

mutual
def flat:AV->Bool
 | .ptr _ _=>false
 | .sl _ _ _ _ _=>false
 | .map _=>false
 | .own _ _=>false
 | .fz _ _=>false
 | .pf _ _=>false
 | .sym _=>false
 | .fn _ a c=>qaK a&&qaK c
 | .ifc _ v=>flat v
 | .agg cs=>qaK cs
 | .tup cs=>qaK cs
 | .undef=>true | .b _=>true | .i _ _=>true | .s _=>true | .nilp=>true | .nils=>true | .nilf=>true | .nili=>true | .nilm=>true | .e0=>true | .nz=>true | .yl _=>false | .lp _=>true
def qaK:List AV->Bool
 | []=>true
 | v::vs=>flat v&&qaK vs
end
mutual
theorem VR.flat{ρ ρ':Ren}:∀{a:AV} {v:Value},VR σ0 ρ a v->Kc.flat a=true->VR σ0 ρ' a v
 | _,_,.undef v,_=>.undef v
 | _,_,.b x,_=>.b x
 | _,_,.i k n,_=>.i k n
 | _,_,.s x,_=>.s x
 | _,_,.nilp,_=>.nilp
 | _,_,.ptr b o L h,hc=>by simp[Kc.flat] at hc
 | _,_,.nils,_=>.nils
 | _,_,.sl b o len cap c loose L h hc,hh=>by simp[Kc.flat] at hh
 | _,_,.slz b o x l L h,hh=>by simp[Kc.flat] at hh
 | _,_,.nilf,_=>.nilf
 | _,_,.fn f first cap first' cap' h1 h2,hc=>by
  simp only[Kc.flat,Bool.and_eq_true] at hc;exact .fn _ _ _ _ _ (h1.flat hc.1) (h2.flat hc.2)
 | _,_,.nili,_=>.nili
 | _,_,.ifc t v v' h,hc=>by simp only[Kc.flat] at hc;exact .ifc _ _ _ (h.flat hc)
 | _,_,.agg cs cs' h,hc=>by simp only[Kc.flat] at hc;exact .agg _ _ (h.flat hc)
 | _,_,.tup cs cs' h,hc=>by simp only[Kc.flat] at hc;exact .tup _ _ (h.flat hc)
 | _,_,.nilm,_=>.nilm
 | _,_,.map b L h h0,hc=>by simp[Kc.flat] at hc
 | _,_,.sym j,hc=>by simp[Kc.flat] at hc
 | _,_,.fz n off c cs k arr hn h hs,hc=>by simp[Kc.flat] at hc
 | _,_,.fz0 a,hc=>by simp[Kc.flat] at hc
 | _,_,.pf off base cs k arr h hs,hc=>by simp[Kc.flat] at hc
 | _,_,.e0 a,_=>.e0 a
 | _,_,.nz a c,_=>.nz a c
 | _,_,.own0 b a hb,hc=>by simp[Kc.flat] at hc
 | _,_,.own b n c L h hn hc',hc=>by simp[Kc.flat] at hc
 | _,_,.yl b L h,hc=>by simp[Kc.flat] at hc
theorem VRs.flat{ρ ρ':Ren}:∀{a:List AV} {v:List Value},VRs σ0 ρ a v->qaK a=true->VRs σ0 ρ' a v
 | _,_,.nil,_=>.nil
 | _,_,.cons v vs v' vs' h hs,hc=>by
  simp only[qaK,Bool.and_eq_true] at hc;exact .cons _ _ _ _ (h.flat hc.1) (hs.flat hc.2)
end
theorem Rel.bare{ρ:Ren}{B:Nat->Prop}{h:Hp}{w:World}(r:Rel σ0 ρ B h w):Rel σ0 ⟨fun _=>none,zM ρ h w,0⟩ (low w.heap.size) H0 w :=
 ⟨(fun _ _ hb=>by cases hb),(fun _ _ _ _ _ _ hb=>by cases hb),(fun _ _ _ hb=>by cases hb),(fun _ _ _ _ _ hb=>by cases hb),(fun _ _ _ hb=>by cases hb),(fun _ _ _ _ _ hb=>by cases hb),(fun _ _ hb=>by cases hb),(fun _ h=>h),
  (fun k arr hk=>⟨by
    rcases wM hk with hk|⟨hk,_⟩
    ·exact (r.frz k arr hk).1
    ·exact hk,fun _ _ _ hb=>by cases hb⟩),⟨Nat.le_refl _,fun _ _ hb=>by cases hb⟩⟩
theorem qb.lend{f:Nat}{vs vs':List AV}{v:AV}{h:Hp}{k:AV->Hp->Prop}(hp:qb P f vs' v)(hf:Frzs h vs vs')(hv:flat v=true)(hk:k v h):SC P f vs h k:=by
 have hp0:=hp H0 (fun v' h'=>v'=v∧h'=H0) ⟨rfl,rfl⟩
 refine⟨hp0.1,fun ρ B w args r ha=>?_⟩
 have hcr:=hf.ok r ha;refine jA.mono (hp0.2 ⟨fun _=>none,zM ρ h w,0⟩ (low w.heap.size) w args r.bare (CRs.vr (ρ:=⟨fun _=>none,zM ρ h w,0⟩) hcr)) ?_
 rintro e w' ⟨v0,v',h',ρ',rfl,⟨rfl,rfl⟩,g2,g3,g4⟩;refine⟨v0,v',h,ρ,rfl,hk,g2.flat hv,?_,⟨fun _ _=>rfl,Nat.le_refl _,rfl,fun _ _ _=>rfl,fun k hk=>g4.pres k (r.base _ hk),g4.wle,g4.io,fun _ _ h=>h,fun _ _ h=>.inl h,Nat.le_refl _⟩⟩
 have:=r.frz' (φ:=ρ.frz) g4.pres g4.wle (fun _ _ h=>h) (fun _ _ h=>.inl h) (fun k a hk=>by
  obtain⟨ty,fz,h1⟩:=(r.frz k a hk).1;refine⟨ty,fz,?_⟩;rw[g4.pres k (Array.getElem?_eq_some_iff.1 h1).1];exact h1)
 exact this
mutual
def shv(m:Nat):AV->AV
 | .ptr b o=>.ptr (b+m) o
 | .sl b o n c l=>.sl (b+m) o n c l
 | .map b=>.map (b+m)
 | .own b n=>.own (b+m) n
 | .yl b=>.yl (b+m)
 | .fn f a c=>.fn f (kV m a) (kV m c)
 | .ifc t v=>.ifc t (shv m v)
 | .agg cs=>.agg (kV m cs)
 | .tup cs=>.tup (kV m cs)
 | v=>v
def kV(m:Nat):List AV->List AV
 | []=>[]
 | v::vs=>shv m v::kV m vs
end
omit [Cur] in
theorem qdN{m:Nat}:∀{vs:List AV} {j:Nat},(kV m vs)[j]?=(vs[j]?).map (shv m)
 | [],j=>by simp[kV]
 | v::vs,0=>by simp[kV]
 | v::vs,j+1=>by simpa[kV] using qdN (vs:=vs) (j:=j)
omit [Cur] in
theorem vp{m:Nat}:∀{vs:List AV},(kV m vs).length=vs.length
 | []=>rfl
 | v::vs=>by simp[kV,vp (vs:=vs)]
mutual
theorem qff{m:Nat}:∀{v:AV},clo v=true->shv m v=v
 | .ptr _ _,h=>by simp[clo] at h
 | .sl _ _ _ _ _,h=>by simp[clo] at h
 | .map _,h=>by simp[clo] at h
 | .own _ _,h=>by simp[clo] at h
 | .fn f a c,h=>by
  simp only[clo,Bool.and_eq_true] at h;simp only[shv,jZ h.1,jZ h.2]
 | .ifc t v,h=>by
  simp only[clo] at h;simp only[shv,qff h]
 | .agg cs,h=>by
  simp only[clo] at h;simp only[shv,jZ h]
 | .tup cs,h=>by
  simp only[clo] at h;simp only[shv,jZ h]
 | .undef,_=>rfl
 | .b _,_=>rfl
 | .i _ _,_=>rfl
 | .s _,_=>rfl
 | .nilp,_=>rfl
 | .nils,_=>rfl
 | .nilf,_=>rfl
 | .nili,_=>rfl
 | .nilm,_=>rfl
 | .sym _,h=>by simp[clo] at h
 | .fz _ _,_=>rfl
 | .pf _ _,_=>rfl
 | .e0,_=>rfl
 | .nz,_=>rfl
 | .yl _,h=>by simp[clo] at h
 | .lp _,_=>rfl
theorem jZ{m:Nat}:∀{vs:List AV},qx vs=true->kV m vs=vs
 | [],_=>rfl
 | v::vs,h=>by
  simp only[qx,Bool.and_eq_true] at h;simp only[kV,qff h.1,jZ h.2]
end
def she(m:Nat)(es:List (AV×AV)):List (AV×AV):=es.map fun e=>(shv m e.1,shv m e.2)
omit [Cur] in
theorem qfe{m:Nat}:she m []=[]:=rfl
omit [Cur] in
theorem qdL{m:Nat}{a b:AV}{es:List (AV×AV)}:she m ((a,b)::es)=(shv m a,shv m b)::she m es:=rfl
def shb(m:Nat):Blk->Blk
 | .cells e w a cs=>.cells e w a (kV m cs)
 | .dead=>.dead
 | .map es=>.map (she m es)
noncomputable def jq(h:Hp):List Blk->Hp
 | []=>h
 | x::xs=>jq (h.push x) xs
omit [Cur] in
theorem km:∀{bs:List Blk} {h:Hp},(jq h bs).sz=h.sz+bs.length
 | [],_=>rfl
 | x::xs,h=>by
  show (jq (h.push x) xs).sz=_;rw[km];simp[Hp.push];omega
omit [Cur] in
theorem yL:∀{bs:List Blk} {h:Hp},(jq h bs).fl=h.fl
 | [],_=>rfl
 | x::xs,h=>by
  show (jq (h.push x) xs).fl=_;rw[yL];rfl
omit [Cur] in
theorem x5:∀{bs:List Blk} {h:Hp} {b:Nat},(jq h bs).tr.get b=if b<h.sz then h.tr.get b else if b<h.sz+bs.length then bs[b-h.sz]? else h.tr.get b
 | [],h,b=>by simp[jq];intro h1 h2;omega
 | x::xs,h,b=>by
  show (jq (h.push x) xs).tr.get b=_;rw[x5];simp only[Hp.push,Tr.get_set,List.length_cons]
  by_cases h1:b<h.sz
  ·rw[if_pos (by omega),if_neg (by omega),if_pos h1]
  ·rw[if_neg h1]
   by_cases h2:b=h.sz
   ·subst h2;rw[if_pos (by omega),if_pos rfl,if_pos (by omega)];simp
   ·rw[if_neg (by omega)]
    by_cases h3:b<h.sz+(xs.length+1)
    ·rw[if_pos (by omega),if_pos h3];rw[show b-h.sz=(b-(h.sz+1))+1 from by omega];simp
    ·rw[if_neg (by omega),if_neg h3,if_neg h2]
def Ren.join(ρ ρ2:Ren)(m l:Nat):Ren:=⟨fun b=>if b<m then ρ b else ρ2 (b-m),ρ2.frz,m+l⟩
omit [Cur] in
theorem qai{ρ ρ2:Ren}{m l b:Nat}(h:b<m):ρ.join ρ2 m l b=ρ b:=by simp only[Ren.join];rw[if_pos h]
omit [Cur] in
theorem kB{ρ ρ2:Ren}{m l b:Nat}:ρ.join ρ2 m l (b+m)=ρ2 b:=by simp only[Ren.join];rw[if_neg (by omega),Nat.add_sub_cancel]
mutual
theorem VR.sh{ρ ρ2:Ren}{m l:Nat}(hl:ρ2.n<=l):∀{v:AV} {x:Value},VR σ0 ρ2 v x->VR σ0 (ρ.join ρ2 m l) (shv m v) x
 | _,_,.undef v=>.undef v
 | _,_,.b x=>.b x
 | _,_,.i k n=>.i k n
 | _,_,.s x=>.s x
 | _,_,.nilp=>.nilp
 | _,_,.ptr b o L h=>.ptr _ _ L (by rw[kB];exact h)
 | _,_,.nils=>.nils
 | _,_,.sl b o len cap c loose L h hc=>.sl _ _ _ _ _ _ L (by rw[kB];exact h) hc
 | _,_,.slz b o x l' L h=>.slz _ _ _ _ L (by rw[kB];exact h)
 | _,_,.nilf=>.nilf
 | _,_,.fn f first cap first' cap' h1 h2=>.fn _ _ _ _ _ (VRs.sh hl h1) (VRs.sh hl h2)
 | _,_,.nili=>.nili
 | _,_,.ifc t v v' h=>.ifc _ _ _ (VR.sh hl h)
 | _,_,.agg cs cs' h=>.agg _ _ (VRs.sh hl h)
 | _,_,.tup cs cs' h=>.tup _ _ (VRs.sh hl h)
 | _,_,.nilm=>.nilm
 | _,_,.map b L h h0=>.map _ L (by rw[kB];exact h) h0
 | _,_,.sym j=>.sym j
 | _,_,.fz n off c cs k arr hn h hs=>.fz n off c cs k arr hn h hs
 | _,_,.fz0 a=>.fz0 a
 | _,_,.pf off base cs k arr h hs=>.pf off base cs k arr h hs
 | _,_,.e0 a=>.e0 a
 | _,_,.nz a c=>.nz a c
 | _,_,.own0 b a hb=>.own0 _ _ (by show b+m<m+l;omega)
 | _,_,.own b n c L h hn hc'=>.own _ _ _ L (by rw[kB];exact h) hn hc'
 | _,_,.yl b L h=>.yl _ L (by rw[kB];exact h)
theorem VRs.sh{ρ ρ2:Ren}{m l:Nat}(hl:ρ2.n<=l):∀{v:List AV} {x:List Value},VRs σ0 ρ2 v x->VRs σ0 (ρ.join ρ2 m l) (kV m v) x
 | _,_,.nil=>.nil
 | _,_,.cons v vs v' vs' h hs=>.cons _ _ _ _ (VR.sh hl h) (VRs.sh hl hs)
end
omit [Cur] in
theorem qk4{m:Nat}{r:Loop}{ts:List (Nat×AV)}:she m (qZ r ts)=qZ r (ts.map fun p=>(p.1,shv m p.2)):=by simp[she,qZ,shv]
theorem kY.sh{ρ ρ2:Ren}{m l:Nat}(hl:ρ2.n<=l){es:List (AV×AV)}{o:Obj}(h:kY σ0 ρ2 es o):kY σ0 (ρ.join ρ2 m l) (she m es) o:=by
 rcases h with⟨h0,vs,clk,h1,h2,h3⟩|⟨a,n,rfl,h2⟩|⟨r,rq,ts,rfl,h2,hk2,h3⟩
 ·refine .inl ⟨fun e he=>?_,vs,clk,h1,by simp[she,h2],fun j e he=>?_⟩
  ·cases es with
   | nil=>simp[she] at he
   | cons e0 es =>
    simp[she] at he;subst he;have:=h0 e0 rfl;cases e0 with
    | mk k v=>cases k<;>first|(simp[shv];done)|exact absurd rfl this.1|exact absurd rfl (this.2 _)
  ·simp only[she,List.getElem?_map] at he;cases hj:es[j]? with
   | none=>rw[hj] at he;simp at he
   | some e0 =>
    rw[hj] at he;simp at he;subst he;obtain⟨v,g1,g2,g3⟩:=h3 j e0 hj;exact⟨v,g1,VR.sh hl g2,VR.sh hl g3⟩
 ·exact .inr (.inl ⟨a,n,rfl,h2⟩)
 ·refine .inr (.inr ⟨r,rq,_,qk4,h2,hk2,fun p hp=>?_⟩)
  obtain⟨q,hq,rfl⟩:=List.mem_map.1 hp;exact⟨(h3 q hq).1,VR.sh hl (h3 q hq).2⟩
theorem Rel.joinH{ρ ρ2:Ren}{B:Nat->Prop}{h:Hp}{w w1:World}{bs:List Blk}(r:Rel σ0 ρ B h w)(r2:Rel σ0 ρ2 (low w.heap.size) (mkH 0 bs) w1)(hp:∀k,k<w.heap.size->w1.heap[k]?=w.heap[k]?)(hw:w.heap.size<=w1.heap.size)
  (f1:∀k a,ρ.frz k=some a->ρ2.frz k=some a) (f2:∀k a,ρ2.frz k=some a->ρ.frz k=some a∨w.heap.size<=k) :
  Rel σ0 (ρ.join ρ2 h.sz bs.length) B (jq h (bs.map (shb h.sz))) w1:=by
 have r1:Rel σ0 ⟨ρ.loc,ρ2.frz,ρ.n⟩ B h w1:=r.frz' hp hw f1 f2 (fun k a hk=>(r2.frz k a hk).1)
 have n2:ρ2.n<=bs.length:=r2.dn.1
 have le1:Ren.le ⟨ρ.loc,ρ2.frz,ρ.n⟩ (ρ.join ρ2 h.sz bs.length) :=
  ⟨fun b L hb=>by rw[qai (r.dom b L hb)];exact hb,fun _ _ h=>h,Nat.le_trans r.dn.1 (Nat.le_add_right _ _)⟩
 -- a block: old,or new
 have split:∀b L,ρ.join ρ2 h.sz bs.length b=some L->(b<h.sz∧ρ b=some L∧(jq h (bs.map (shb h.sz))).tr.get b=h.tr.get b) ∨
   ∃c,b=c+h.sz∧ρ2 c=some L∧(jq h (bs.map (shb h.sz))).tr.get b=((mkH 0 bs).tr.get c).map (shb h.sz)∧w.heap.size<=L.blk:=by
  intro b L hb
  by_cases hlt:b<h.sz
  ·rw[qai hlt] at hb;refine .inl ⟨hlt,hb,?_⟩;rw[x5,if_pos hlt]
  ·obtain⟨c,rfl⟩:∃c,b=c+h.sz:=⟨b-h.sz,by omega⟩
   rw[kB] at hb;have hc:c<bs.length:=r2.dom c L hb;refine .inr ⟨c,rfl,hb,?_,Nat.not_lt.1 (r2.flr c L hb (Nat.zero_le _))⟩;rw[x5,if_neg hlt,if_pos (by simp;omega),zZ,Nat.add_sub_cancel,List.getElem?_map]
 have oldlt:∀b L x,ρ b=some L->h.tr.get b=some x->x≠.dead->L.blk<w.heap.size:=fun b L x h1 h2 h3=>r.blk_lt b L h1 x h2 h3
 have shd:∀{x y:Blk},(some x).map (shb h.sz)=some y->y≠.dead->x≠.dead:=by
  intro x y h1 h2 h3;subst h3;simp[shb] at h1;exact h2 h1.symm
 have shc:∀{o:Option Blk} {e:Nat} {w a:Bool} {cs:List AV},o.map (shb h.sz)=some (.cells e w a cs)->∃cs0,o=some (.cells e w a cs0)∧cs=kV h.sz cs0:=by
  intro o e w a cs ho;cases o with
  | none=>simp at ho
  | some x =>
   cases x with
   | cells e' w' a' cs'=>simp[shb] at ho;obtain⟨rfl,rfl,rfl,rfl⟩:=ho;exact⟨_,rfl,rfl⟩
   | dead=>simp[shb] at ho
   | map es=>simp[shb] at ho
 have shm:∀{o:Option Blk} {es:List (AV×AV)},o.map (shb h.sz)=some (.map es)->∃es0,o=some (.map es0)∧es=she h.sz es0:=by
  intro o es ho;cases o with
  | none=>simp at ho
  | some x =>
   cases x with
   | cells e' w' a' cs'=>simp[shb] at ho
   | dead=>simp[shb] at ho
   | map es'=>simp[shb] at ho;exact⟨es',rfl,ho.symm⟩
 have shn:∀{o:Option Blk} {y:Blk},o.map (shb h.sz)=some y->y≠.dead->∃x,o=some x∧x≠.dead:=by
  intro o y ho hy;cases o with
  | none=>simp at ho
  | some x=>exact⟨x,rfl,shd ho hy⟩
 refine⟨fun b L hb=>?_,?_,?_,?_,?_,?_,?_,kr r.base hw,?_,?_⟩
 ·rw[km,List.length_map];rcases split b L hb with⟨h1,_⟩|⟨c,rfl,h1,_⟩
  ·omega
  ·have:c<bs.length:=r2.dom c L h1;omega
 ·intro b L e wf af cs hb hg;rcases split b L hb with⟨h1,h2,h3⟩|⟨c,rfl,h2,h3,_⟩
  ·rw[h3] at hg;obtain⟨q1,c,ty,fz,q2,q3,q4,q5,q6⟩:=r1.cells b L e wf af cs h2 hg;exact⟨q1,c,ty,fz,q2,q3,q4,fun j v hv=>let ⟨v',g7,g8⟩:=q5 j v hv;⟨v',g7,g8.mono le1⟩,q6⟩
  ·rw[h3] at hg;obtain⟨cs0,g1,rfl⟩:=shc hg;obtain⟨q1,c',ty,fz,q2,q3,q4,q5,q6⟩:=r2.cells c L e wf af cs0 h2 g1;refine⟨q1,c',ty,fz,q2,q3,by rw[vp];exact q4,fun j v hv=>?_,q6⟩
   rw[qdN] at hv;cases hj:cs0[j]? with
   | none=>rw[hj] at hv;simp at hv
   | some v0 =>
    rw[hj] at hv;simp at hv;subst hv;obtain⟨v',g7,g8⟩:=q5 j v0 hj;exact⟨v',g7,g8.sh n2⟩
 ·intro b L es hb hg;rcases split b L hb with⟨h1,h2,h3⟩|⟨c,rfl,h2,h3,_⟩
  ·rw[h3] at hg;obtain⟨q1,o,q2,q3⟩:=r1.maps b L es h2 hg;exact⟨q1,o,q2,q3.mono le1⟩
  ·rw[h3] at hg;obtain⟨es0,g1,rfl⟩:=shm hg;obtain⟨q1,o,q2,q3⟩:=r2.maps c L es0 h2 g1;exact⟨q1,o,q2,q3.sh n2⟩
 ·intro b L e af cs hb hg b' L' x hb' hx hd he;rcases split b L hb with⟨h1,h2,h3⟩|⟨c,rfl,h2,h3,h4⟩<;>rcases split b' L' hb' with⟨i1,i2,i3⟩|⟨c',rfl,i2,i3,i4⟩
  ·rw[h3] at hg;rw[i3] at hx;exact r.excl b L e af cs h2 hg b' L' x i2 hx hd he
  ·rw[h3] at hg;have:=oldlt b L _ h2 hg (by simp);omega
  ·rw[i3] at hx;have:=oldlt b' L' _ i2 hx hd;omega
  ·rw[h3] at hg;rw[i3] at hx;obtain⟨cs0,g1,rfl⟩:=shc hg;obtain⟨x0,g2,g3⟩:=shn hx hd;rw[r2.excl c L e af cs0 h2 g1 c' L' x0 i2 g2 g3 he]
 ·intro b L es hb hg b' L' x hb' hx hd he;rcases split b L hb with⟨h1,h2,h3⟩|⟨c,rfl,h2,h3,h4⟩
  ·rw[h3] at hg;rcases split b' L' hb' with⟨i1,i2,i3⟩|⟨c',rfl,i2,i3,i4⟩
   ·rw[i3] at hx;exact r.exclm b L es h2 hg b' L' x i2 hx hd he
   ·have:=oldlt b L _ h2 hg (by simp);omega
  ·rw[h3] at hg;obtain⟨es0,g1,rfl⟩:=shm hg;rcases split b' L' hb' with⟨i1,i2,i3⟩|⟨c',rfl,i2,i3,i4⟩
   ·rw[i3] at hx;have:=oldlt b' L' _ i2 hx hd;omega
   ·rw[i3] at hx;obtain⟨x0,g2,g3⟩:=shn hx hd;rw[r2.exclm c L es0 h2 g1 c' L' x0 i2 g2 g3 he]
 ·intro b L e wf cs hb hg b' L' e' wf' af' cs' hb' hx he;rcases split b L hb with⟨h1,h2,h3⟩|⟨c,rfl,h2,h3,h4⟩<;>rcases split b' L' hb' with⟨i1,i2,i3⟩|⟨c',rfl,i2,i3,i4⟩
  ·rw[h3] at hg;rw[i3] at hx;exact r.app b L e wf cs h2 hg b' L' e' wf' af' cs' i2 hx he
  ·rw[h3] at hg;have:=oldlt b L _ h2 hg (by simp);omega
  ·rw[i3] at hx;have:=oldlt b' L' _ i2 hx (by simp);omega
  ·rw[h3] at hg;rw[i3] at hx;obtain⟨cs0,g1,rfl⟩:=shc hg;obtain⟨cs1,g2,rfl⟩:=shc hx;have q:=r2.app c L e wf cs0 h2 g1 c' L' e' wf' af' cs1 i2 g2 he;rw[vp,vp];exact⟨q.1,fun hh=>by rw[q.2 hh]⟩
 ·intro b L hb hf;rw[yL] at hf;rcases split b L hb with⟨h1,h2,h3⟩|⟨c,rfl,h2,h3,h4⟩
  ·exact r.flr b L h2 hf
  ·exact xG r.base h4
 ·intro k arr hk;refine⟨(r2.frz k arr hk).1,fun b L x hb hx hd=>?_⟩
  rcases split b L hb with⟨h1,h2,h3⟩|⟨c,rfl,h2,h3,h4⟩
  ·rw[h3] at hx;exact (r1.frz k arr hk).2 b L x h2 hx hd
  ·rw[h3] at hx;obtain⟨x0,g2,g3⟩:=shn hx hd;exact (r2.frz k arr hk).2 c L x0 h2 g2 g3
 ·refine⟨?_,fun b L hb=>?_⟩
  ·show h.sz+bs.length<=_;rw[km,List.length_map];exact Nat.le_refl _
  ·rcases split b L hb with⟨_,h2,_⟩|⟨c,rfl,h2,_,_⟩
   ·exact Nat.lt_of_lt_of_le (r.dn.2 b L h2) hw
   ·exact r2.dn.2 c L h2
def Own(P:Program)(f:Nat)(vs:List AV)(v:AV)(bs:List Blk):Prop :=
 ∀(h:Hp) (k:AV->Hp->Prop),k (shv h.sz v) (jq h (bs.map (shb h.sz)))->SC P f vs h k
def qgx(v:AV)(bs:List Blk)(v':AV)(h':Hp):Prop:=h'.fl=0->∃src:List Nat,NV (rl src h'.sz) bs.length v' v∧BWs h' (rl src h'.sz) bs.length src bs∧(src.filter fun b=>decide (b<h'.sz)).Nodup
theorem Own.of_SC{f:Nat}{vs:List AV}{v:AV}{bs:List Blk}(hcl:qx vs=true)(hs:SC P f vs H0 (qgx v bs)):Own P f vs v bs:=by
 intro h k hk;refine⟨hs.1,fun ρ B w args r ha=>?_⟩
 have hcr:=ha.crs hcl;refine jA.mono (hs.2 ⟨fun _=>none,ρ.frz,0⟩ (low w.heap.size) w args r.empty (CRs.vr (ρ:=⟨fun _=>none,ρ.frz,0⟩) hcr)) ?_
 rintro e w1 ⟨v0,v',h1,ρ1,rfl,g1,g2,g3,g4⟩;obtain⟨src,s1,s2,s3⟩:=g1 g4.fl;have hw:Wk 0 (mkT [(0,v0)]) h1 (mkT [(0,v)]) (mkH 0 bs):=Wk.mk [(0,v)] bs src ⟨⟨v0,by simp[mkT,Tr.get_set],s1⟩,trivial⟩ s2 s3 g4.fl
 obtain⟨ρ2,t2,r2,k2⟩:=hw ρ1 (low w.heap.size) w1 #[v'] (fun j x hj=>by
  have:=kD hj;simp at this;obtain⟨rfl,rfl⟩:=this;exact⟨by simp,by simpa using g2⟩) g3
 have hv2:VR σ0 ρ2 v v':=by
  have:=(t2 0 v (by simp[mkT,Tr.get_set])).2;simpa using this
 have f1:∀k a,ρ.frz k=some a->ρ2.frz k=some a:=fun k a hk=>k2.frz k a (g4.frz k a hk)
 have f2:∀k a,ρ2.frz k=some a->ρ.frz k=some a∨w.heap.size<=k:=fun k a hk=>(k2.fnew k a hk).elim (fun hk=>(g4.fnew k a hk).imp id Nat.not_lt.1) (fun hk=>.inr (Nat.not_lt.1 hk))
 refine⟨_,v',_,ρ.join ρ2 h.sz bs.length,rfl,hk,hv2.sh r2.dn.1,Rel.joinH r r2 g4.pres g4.wle f1 f2,?_⟩;refine⟨fun b hb=>qai hb,by rw[km];omega,yL,fun b _ hb=>by rw[x5,if_pos hb],fun k hk=>g4.pres k (r.base _ hk),g4.wle,g4.io,f1,fun k a hk=>(f2 k a hk).imp id (xG r.base),?_⟩
 exact Nat.le_trans r.dn.1 (Nat.le_add_right _ _)
theorem Own.mk{f:Nat}{i:IFn}{vs:List AV}{v:AV}{bs:List Blk}(hc:qh P f i=true)(hcl:qx vs=true)(hV:V P 0 i.body (jd i.res (qgx v bs)) (xz vs 0 .leaf) H0):Own P f vs v bs :=
 Own.of_SC hcl (SC.mk hc (qr hV))
def qbr(P:Program)(f:Nat)(vs':List AV)(v:AV)(bs:List Blk):Prop :=
 ∀(h:Hp) (vs:List AV) (k:AV->Hp->Prop),Frzs h vs vs'->k (shv h.sz v) (jq h (bs.map (shb h.sz)))->SC P f vs h k
def PC(P:Program)(f:Nat)(vs:List AV)(h:Hp)(k:AV->Hp->Prop):Prop:=∃v h',(∀k':AV->Hp->Prop,k' v h'->SC P f vs h k')∧k v h'
def PY(P:Program)(b:Nat)(vs:List AV)(h:Hp)(k:AV->Hp->Prop):Prop:=∃v h',(∀k':AV->Hp->Prop,k' v h'->CC P 0 (.yl b::vs) h k')∧k v h'
@[congr] theorem qpe {f:Nat} {vs vs':List AV} {h:Hp} {k:AV->Hp->Prop} {mk:Prop} (_:zc=mk) (h':vs=vs'):PC P f vs h k=PC P f vs' h k:=by rw[h']
@[congr] theorem qpf {b:Nat} {vs vs':List AV} {h:Hp} {k:AV->Hp->Prop} {mk:Prop} (_:zc=mk) (h':vs=vs'):PY P b vs h k=PY P b vs' h k:=by rw[h']
def PCC(P:Program):qO:=fun f vs h k=>∃v h',(∀k':AV->Hp->Prop,k' v h'->CC P f vs h k')∧k v h'
theorem qq0:LC (PCC P):=fun _ _ _ _ ⟨v,h',h1,h2⟩=>⟨v,h',h2,fun _ h3=>⟨v,h',h1,h3⟩⟩
theorem qgy:x8 P σ0 (PCC P):=⟨fun f vs h _ ⟨_,_,h1,h2⟩=>(v7 P).1 f vs h _ (h1 _ h2),fun b vs h _ ⟨_,_,h1,h2⟩=>(v7 P).2 b vs h _ (h1 _ h2)⟩
theorem qmE{b:Nat}{vs:List AV}{h:Hp}{k:AV->Hp->Prop}:cvF (PCC P) (.yl b) vs h k↔PY P b vs h k:=Iff.rfl
theorem qmD{f:Nat}{a c vs:List AV}{h:Hp}{k:AV->Hp->Prop}:cvF (PCC P) (.fn f a c) vs h k↔PC P f (a++(vs++c)) h k:=Iff.rfl
theorem qiD{dst:Option Nat}{f:Nat}{args:List O}{ops:List ROp}{Q:Tr AV->Hp->Prop}{t:Tr AV}{s fl:Nat}{tr:Tr Blk}:VR' (PCC P) (⟨dst,.callF f args,none⟩::ops) Q t ⟨s,fl,tr⟩↔xh t args (fun vs=>PC P f vs ⟨s,s,tr⟩ (fun v h'=>xc t dst v (fun t'=>VR' (PCC P) ops Q t' (h'.down fl)))):=qfp
theorem qiE{dst:Option Nat}{f:Nat}{args:List O}{ops:List ROp}{Q:Tr AV->Hp->Prop}{t:Tr AV}{h:Hp}:VR' (PCC P) (⟨dst,.callW f args,none⟩::ops) Q t h↔xh t args (fun vs=>PC P f vs h (fun v h'=>xc t dst v (fun t'=>VR' (PCC P) ops Q t' h'))):=qfr
theorem xK{ops:List ROp}{Q:Tr AV->Hp->Prop}{t:Tr AV}{h:Hp}(hr:VR' (PCC P) ops Q t h):VD P ops Q t h:=qpm qq0 qgy hr
theorem qb.pc{f:Nat}{vs:List AV}{v:AV}{h:Hp}{k:AV->Hp->Prop}(hp:qb P f vs v)(hk:k v h):PC P f vs h k:=⟨v,h,fun k' h'=>hp h k' h',hk⟩
theorem qb.lendp{f:Nat}{vs vs':List AV}{v:AV}{h:Hp}{k:AV->Hp->Prop}(hp:qb P f vs' v)(hf:Frzs h vs vs')(hv:flat v=true)(hk:k v h):PC P f vs h k:=⟨v,h,fun _ h'=>qb.lend hp hf hv h',hk⟩
theorem qbr.pc{f:Nat}{vs vs':List AV}{v:AV}{bs:List Blk}{h:Hp}{k:AV->Hp->Prop}(hp:qbr P f vs' v bs)(hf:Frzs h vs vs')(hk:k (shv h.sz v) (jq h (bs.map (shb h.sz)))):PC P f vs h k:=⟨_,_,fun k' h'=>hp h vs k' hf h',hk⟩
theorem Own.sc{f:Nat}{vs:List AV}{v:AV}{bs:List Blk}{h:Hp}{k:AV->Hp->Prop}(hp:Own P f vs v bs)(hk:k (shv h.sz v) (jq h (bs.map (shb h.sz)))):SC P f vs h k:=hp h k hk
omit [Cur] in
theorem qaj{s f:Nat}{tr:Tr Blk}{x:Blk}:Hp.push ⟨s,f,tr⟩ x=⟨s+1,f,tr.set s x⟩:=rfl
omit [Cur] in
theorem y7{h:Hp}:jq h []=h:=rfl
omit [Cur] in
theorem kG{h:Hp}{x:Blk}{xs:List Blk}:jq h (x::xs)=jq (h.push x) xs:=rfl

abbrev kW:=ICode->(X->Tr AV->Hp->Prop)->Tr AV->Hp->Prop
noncomputable def qaw(env:Tr IFn)(ih:kW)(f:Nat)(args:List AV)(h:Hp)(k:AV->Hp->Prop):Prop :=
 env.getK f (fun fn=>IFn.rec (motive:=fun _=>Prop) (fun res body=>qcF args 0 .leaf (fun t0=>ih body (fun e t h' =>
  X.rec (motive:=fun _=>Prop) (xS t h' res (fun vs=>k (xw vs) h')) (fun _=>False) (xS t h' res (fun vs=>k (xw vs) h')) e) t0 h)) fn)
abbrev Qb:=Nat->List AV->Option AV
def QG(P:Program)(ho:Qb):Prop:=∀f vs v,ho f vs=some v->qb P f vs v
noncomputable def qav(env:Tr IFn)(ho:Qb)(ih:kW)(f:Nat)(args:List AV)(h:Hp)(k:AV->Hp->Prop):Prop :=
 Option.rec (motive:=fun _=>Prop) (qaw env ih f args h k) (fun v=>k v h) (ho f args)
def LB(ih:kW):Prop:=∀c Q t h,ih c Q t h->∃e t' h',Q e t' h'∧∀Q',Q' e t' h'->ih c Q' t h
omit [Cur] in
theorem qcW(env:Tr IFn){ih:kW}(hi:LB ih):LC (qaw env ih):=by
 intro f vs h k hk;obtain⟨fn,g1,g2⟩:=(Tr.getK_iff _ _ _).1 hk;cases fn with
 | mk res body =>
  obtain⟨t0,g3,g4⟩:=qeA vs 0 .leaf _ g2;obtain⟨e,t',h',h1,h2⟩:=hi _ _ _ _ g3
  have back:∀k',(X.rec (motive:=fun _=>Prop) (xS t' h' res (fun vs=>k' (xw vs) h')) (fun _=>False) (xS t' h' res (fun vs=>k' (xw vs) h')) e:Prop)->qaw env ih f vs h k':=fun k' hk' =>
   (Tr.getK_iff _ _ _).2 ⟨⟨res,body⟩,g1,g4 (fun t0=>ih body (fun e t h'=>X.rec (motive:=fun _=>Prop) (xS t h' res (fun vs=>k' (xw vs) h')) (fun _=>False) (xS t h' res (fun vs=>k' (xw vs) h')) e) t0 h) (h2 (fun e t h'=>X.rec (motive:=fun _=>Prop) (xS t h' res (fun vs=>k' (xw vs) h')) (fun _=>False) (xS t h' res (fun vs=>k' (xw vs) h')) e) hk')⟩
  cases e with
  | exit id=>exact h1.elim
  | normal =>
   obtain⟨vs,h3,h4⟩:=qbc t' h' res _ h1;exact⟨_,_,h3,fun k' hk'=>back k' (h4 (fun vs=>k' (xw vs) h') hk')⟩
  | ret =>
   obtain⟨vs,h3,h4⟩:=qbc t' h' res _ h1;exact⟨_,_,h3,fun k' hk'=>back k' (h4 (fun vs=>k' (xw vs) h') hk')⟩
omit [Cur] in
theorem qjB(env:Tr IFn)(ho:Qb){ih:kW}(hi:LB ih):LC (qav env ho ih):=by
 intro f vs h k hk;unfold qav at hk;cases hv:ho f vs with
 | none =>
  rw[hv] at hk;obtain⟨v,h',h1,h2⟩:=qcW env hi f vs h k hk;exact⟨v,h',h1,fun k' hk'=>by unfold qav;rw[hv];exact h2 k' hk'⟩
 | some v =>
  rw[hv] at hk;exact⟨v,h,hk,fun k' hk'=>by unfold qav;rw[hv];exact hk'⟩
theorem S.mono{n:Nat}{c:ICode}{Q Q':X->Tr AV->Hp->Prop}{t:Tr AV}{h:Hp}(hs:S P n c Q t h)(hq:∀e t h,Q e t h->Q' e t h):S P n c Q' t h:=by
 intro nt code hc hn ro hro ρ B w a ht hsz r;refine wpIn_mono (hs nt code hc hn ro hro ρ B w a ht hsz r) ?_;rintro e a1 w1 ⟨x1,t1,h1,ρ1,rs,hx,hq1,rest⟩;exact⟨x1,t1,h1,ρ1,rs,hx,hq _ _ _ hq1,rest⟩
theorem S.reg{n:Nat}{d:Bool}{rs:List ROp}{C:qO}(hl:LC C)(hC:x8 P σ0 C){Q:X->Tr AV->Hp->Prop}{t:Tr AV}{h:Hp}(hv:v4 qp d C rs (fun t h=>Q .normal t h) t h):S P n (.reg d rs) Q t h:=by
 intro nt code hc hn ro hro ρ B w a ht hsz r;cases code<;>first|(simp[qw] at hc;done)|skip
 rename_i id ops d';simp only[qw,Bool.and_eq_true] at hc;obtain⟨⟨h1,h2⟩,h3⟩:=hc;obtain rfl:=eq_of_beq h1;cases d' with
 | false =>
  refine wpIn_region ?_
  have:=yO (ops:=ops) (nt:=nt) (ro:=ro) (K:=jO σ0 Q nt n ρ B h w a.defers) (ρ0:=ρ) (h0:=h) (w0:=w) (ds:=a.defers) (jL P) hC (fun a' w' t' h' ρ' g1 g2 g3 g4 g5 g6=>jO.of .normal g1 g2 g3 g4 g5 (g6.kep hn))
   ops.toList rs 0 h2 rfl t h ρ w a hv ht hsz rfl r (Kept.refl _ _ _ _)
  rw[List.range_eq_range'];simpa using this
 | true =>
  simp only[Bool.not_true,Bool.false_or,Bool.and_eq_true] at h3;exact qeJ (jL P) hl hC h2 h3.1 h3.2 hv ht hsz r (fun a' w' t' h' ρ' g1 g2 g3 g4 g5 g6=>jO.of .normal g1 g2 g3 g4 g5 (g6.kep hn))
theorem S.seq{n:Nat}{x y:ICode}{Q:X->Tr AV->Hp->Prop}{t:Tr AV}{h:Hp}(hv:S P n x (fun e t h=>onX e (S P n y Q t h) (fun id=>Q (.exit id) t h) (Q .ret t h)) t h):S P n (.seq x y) Q t h:=by
 intro nt code hc hn ro hro ρ B w a ht hsz r;cases code<;>first|(simp[qw] at hc;done)|skip
 rename_i cx cy;simp only[qw,Bool.and_eq_true] at hc;refine wpIn_seq (wpIn_mono (hv nt cx hc.1 hn ro (nr1 hro) ρ B w a ht hsz r) ?_);rintro e a1 w1 ⟨x1,t1,h1,ρ1,rs,hx,hq,ht1,hs1,hd1,hm,r1,k1⟩;cases hx with
 | normal=>exact wpIn_mono (hq nt cy hc.2 k1.szle ro (nr2 hro) ρ1 _ w1 a1 ht1 hs1 r1) (fun e a2 w2 hp=>jO.trans k1 hm hd1 hm.lt hp)
 | exit id=>exact⟨_,t1,h1,ρ1,rs,.exit id,hq,ht1,hs1,hd1,hm,r1,k1⟩
 | ret=>exact⟨_,t1,h1,ρ1,rs,.ret,hq,ht1,hs1,hd1,hm,r1,k1⟩
theorem S.cond{n:Nat}{c:O}{x y:ICode}{Q:X->Tr AV->Hp->Prop}{t:Tr AV}{h:Hp}(hv:evK t c (fun v=>unB v (fun b=>if b=true then S P n x Q t h else S P n y Q t h))):S P n (.cond c x y) Q t h:=by
 intro nt code hc hn ro hro ρ B w a ht hsz r;cases code<;>first|(simp[qw] at hc;done)|skip
 rename_i cc cx cy;simp only[qw,Bool.and_eq_true] at hc;obtain⟨⟨h1,h2⟩,h3⟩:=hc;obtain⟨v,h4,h5⟩:=qy ht h1 hv;obtain⟨b,h6,h7⟩:=qbl h5 h4;cases b with
 | true=>exact wpIn_cond_true h6 (h7 nt cx h2 hn ro (nr1 hro) ρ B w a ht hsz r)
 | false=>exact wpIn_cond_false h6 (h7 nt cy h3 hn ro (nr2 hro) ρ B w a ht hsz r)
theorem S.blk{n id:Nat}{x:ICode}{Q:X->Tr AV->Hp->Prop}{t:Tr AV}{h:Hp}(hv:S P n x (fun e t h=>onX e (Q .normal t h) (fun i=>if i=id then Q .normal t h else Q (.exit i) t h) (Q .ret t h)) t h):S P n (.blk id x) Q t h:=by
 intro nt code hc hn ro hro ρ B w a ht hsz r;cases code<;>first|(simp[qw] at hc;done)|skip
 rename_i id' cx;simp only[qw,Bool.and_eq_true] at hc;obtain rfl:=eq_of_beq hc.1;refine wpIn_block (wpIn_mono (hv nt cx hc.2 hn ro hro ρ B w a ht hsz r) ?_);rintro e a1 w1 ⟨x1,t1,h1,ρ1,rs,hx,hq,ht1,hs1,hd1,hm,r1,k1⟩;cases hx with
 | normal=>exact⟨_,t1,h1,ρ1,rs,.normal,hq,ht1,hs1,hd1,hm,r1,k1⟩
 | ret=>exact⟨_,t1,h1,ρ1,rs,.ret,hq,ht1,hs1,hd1,hm,r1,k1⟩
 | exit id2 =>
  show (if id2=id' then _ else _)
  have hq':(if id2=id' then Q .normal t1 h1 else Q (.exit id2) t1 h1):=hq
  by_cases he:id2=id'
  ·rw[if_pos he] at hq' ⊢;exact⟨_,t1,h1,ρ1,rs,.normal,hq',ht1,hs1,hd1,hm,r1,k1⟩
  ·rw[if_neg he] at hq' ⊢;exact⟨_,t1,h1,ρ1,rs,.exit id2,hq',ht1,hs1,hd1,hm,r1,k1⟩
theorem S.loop{n:Nat}{x:ICode}{Q:X->Tr AV->Hp->Prop}{t:Tr AV}{h:Hp}(hv:SL P n x Q t h):S P n (.loop x) Q t h:=by
 intro nt code hc hn ro hro ρ B w a ht hsz r;cases code<;>first|(simp[qw] at hc;done)|skip
 rename_i cx;exact qbM (hv nt cx (by simpa[qw] using hc) hn ro hro ρ B w a ht hsz r)
theorem SL.of_S{n:Nat}{x:ICode}{Q:X->Tr AV->Hp->Prop}{t:Tr AV}{h:Hp}(hv:S P n x (fun e t h=>onX e (SL P n x Q t h) (fun id=>Q (.exit id) t h) (Q .ret t h)) t h):SL P n x Q t h:=by
 intro nt cx hc hn ro hro ρ B w a ht hsz r;refine Z5 (wpIn_mono (hv nt cx hc hn ro hro ρ B w a ht hsz r) ?_);rintro e a1 w1 ⟨x1,t1,h1,ρ1,rs,hx,hq,ht1,hs1,hd1,hm,r1,k1⟩;cases hx with
 | normal=>exact vt.mono (hq nt cx hc k1.szle ro hro ρ1 _ w1 a1 ht1 hs1 r1) (fun e a2 w2 hp=>jO.trans k1 hm hd1 hm.lt hp)
 | exit id=>exact⟨_,t1,h1,ρ1,rs,.exit id,hq,ht1,hs1,hd1,hm,r1,k1⟩
 | ret=>exact⟨_,t1,h1,ρ1,rs,.ret,hq,ht1,hs1,hd1,hm,r1,k1⟩
omit [Cur] in
theorem qbv:∀{l:List AV} {n:Nat} {t:Tr AV} {k:Tr AV->Prop},qcF l n t k↔k (xz l n t)
 | [],_,_,_=>Iff.rfl
 | v::l,n,t,k=>by
  show t.setK n v (fun t'=>qf (Nat.succ n) (fun n'=>qcF l n' t' k))↔_
  rw[Tr.setK_iff,qj,qbv];exact Iff.rfl
end Go.Kc
end
section
namespace Go.Kc
variable [Cur]
variable {P:Program} {t:Tr AV} {h:Hp} {k:AV->Hp->Prop}

def qbg(l:List UInt8)(i:Nat):Nat×Nat:=Utf8.decode ⟨l.toArray⟩ i
omit [Cur] in
theorem qgf{x:O}:opK qp (.rangeS x) t h k↔evK t x (fun x=>match x with | .s a=>zJ h (.map (zu a 0)) (fun b h'=>k (.ptr b 0) h')|_=>False):=Iff.rfl
def qp3(x:Blk)(k:List UInt8->Nat->Prop):Prop:=∃a n,x = .map (zu a n)∧k a n
theorem qf1{a a':List UInt8}{n n':Nat}(e:zu a n=zu a' n'):a=a'∧n=n':=by
 simp only[zu,List.cons.injEq,Prod.mk.injEq,AV.s.injEq,AV.i.injEq,true_and,and_true] at e;exact⟨e.1,Int.ofNat.inj e.2⟩
theorem qkj{a:List UInt8}{n:Nat}{k:List UInt8->Nat->Prop}:qp3 (.map (zu a n)) k↔k a n:=by
 constructor
 ·rintro⟨a',n',h1,h2⟩;obtain⟨rfl,rfl⟩:=qf1 (Blk.map.inj h1);exact h2
 ·intro h1;exact⟨a,n,rfl,h1⟩
theorem qiA{x:O}:opK qp (.nextS x) t h k↔evK t x (fun x=>unP x (fun b o=>ifK (o=0) (evB (h.tr.get b) (fun y=>qp3 y (fun a n=>if n<a.length then evN (n+(qbg a n).2) (fun m=>xa h b (.map (zu a m)) (fun h'=>evA (.i .i32 ((qbg a n).1:Int)) (fun c=>k (.tup [.b true,.i .i64 (n:Int),c]) h'))) else k (.tup [.b false]) h))))):=by
 show evK t x (fun x=>unP x (fun b o=>qd (Nat.beq o 0) (qbK h b _)))↔_
 refine iff_of_eq (congrArg _ (funext fun v=>congrArg _ (funext fun b=>funext fun o=>?_)))
 rw[show (qd (Nat.beq o 0)=fun p=>ifK (o=0) p) from by funext p;exact propext ((qa _ _).trans (by rw[kt];exact Iff.rfl))]
 refine congrArg _ (propext (y1.trans ?_))
 have body:∀a n,(match a[n]? with
  | some c=>(Bool.rec (motive:=fun _=>Prop)
    (xa h b (.map (zu a (Nat.add n (Utf8.decode ⟨a.toArray⟩ n).2))) (fun h'=>k (.tup [.b true,.i .i64 (Int.ofNat n),.i .i32 (Int.ofNat (Utf8.decode ⟨a.toArray⟩ n).1)]) h'))
    (qf (Nat.succ n) (fun m=>xa h b (.map (zu a m)) (fun h'=>k (.tup [.b true,.i .i64 (Int.ofNat n),.i .i32 (Int.ofNat c.toNat)]) h')))
    (Nat.ble (Nat.succ c.toNat) 128):Prop)
  | none=>k (.tup [.b false]) h)↔if n<a.length then evN (n+(qbg a n).2) (fun m=>xa h b (.map (zu a m)) (fun h'=>evA (.i .i32 ((qbg a n).1:Int)) (fun c=>k (.tup [.b true,.i .i64 (n:Int),c]) h'))) else k (.tup [.b false]) h:=by
  intro a n
  by_cases hi:n<a.length
  ·rw[if_pos hi,zzE hi];dsimp only;cases hc:Nat.ble (Nat.succ a[n].toNat) 128 with
   | false=>exact Iff.rfl
   | true =>
    have hlt:=Nat.le_of_ble_eq_true hc;have hd:qbg a n=(a[n].toNat,1):=Zb (zzE hi) (by omega);show qf _ _↔_;rw[qj,hd];exact Iff.rfl
  ·rw[if_neg hi,List.getElem?_eq_none (by omega)]
 constructor
 ·rintro⟨a,n,h1,h2⟩;exact⟨_,h1,a,n,rfl,(body a n).1 h2⟩
 ·rintro⟨_,h1,a,n,rfl,h2⟩;exact⟨a,n,h1,(body a n).2 h2⟩
def kC(es:List (AV×AV)):Prop:=∀e ∈ es,clo e.1=true∧clo e.2=true
omit [Cur] in
theorem qmm{r:Nat->Nat}{m b:Nat}{es:List (AV×AV)}(hb:b<h.sz):BW h r m b (.map es)↔evB (h.tr.get b) (fun x=>qdw x (fun es'=>EsW r m es' es)):=by
 constructor
 ·rintro (h1|h1|⟨e',w0,a0,cs,w',a',cs'',h1,h2,h3,h4,h5⟩|⟨es',es2,h1,h2,h3⟩)
  ·omega
  ·cases h1
  ·cases h2
  ·cases h2;exact⟨_,h1,h3⟩
 ·rintro⟨x,h1,h2⟩;cases x with
  | map es'=>exact .inr (.inr (.inr ⟨_,_,h1,rfl,h2⟩))
  | dead=>exact h2.elim
  | cells e0 w0 a0 cs=>exact h2.elim
omit [Cur] in
theorem qcf{r:Nat->Nat}{m:Nat}{es es':List (AV×AV)}(hn:∀lr ts,es'≠qZ lr ts):EsW r m es es'↔es=es'∧kC es' :=
 ⟨fun h=>by
  rcases h with⟨rfl,h⟩|⟨lr,ts,ts',_,h,_⟩
  ·exact⟨rfl,h⟩
  ·exact absurd h (hn _ _),fun⟨h1,h2⟩=>by subst h1;exact .inl ⟨rfl,h2⟩⟩
omit [Cur] in
theorem qjU{r:Nat->Nat}{m:Nat}{es:List (AV×AV)}:EsW r m es []↔es=[]:=(qcf (by simp[qZ])).trans ⟨And.left,fun h=>⟨h,by intro e he;cases he⟩⟩
omit [Cur] in
theorem qpU{r:Nat->Nat}{m:Nat}{es es':List (AV×AV)}{a:List UInt8}{v:AV}:EsW r m es ((.s a,v)::es')↔es=(.s a,v)::es'∧kC ((.s a,v)::es'):=qcf (by simp[qZ])
omit [Cur] in
theorem qpT{r:Nat->Nat}{m:Nat}{es es':List (AV×AV)}{q:IntKind}{a:Int}{v:AV}:EsW r m es ((.i q a,v)::es')↔es=(.i q a,v)::es'∧kC ((.i q a,v)::es'):=qcf (by simp[qZ])
omit [Cur] in
theorem qmK{r:Nat->Nat}{m:Nat}{es:List (AV×AV)}{a:List UInt8}{n:Nat}:EsW r m es (zu a n)↔es=zu a n∧kC (zu a n):=qcf (by simp[zu,qZ])
omit [Cur] in
theorem xd{r:Nat->Nat}{m:Nat}{lr lr':Loop}{ts ts':List (Nat×AV)}:EsW r m (qZ lr ts) (qZ lr' ts')↔lr=lr'∧TsW r m ts ts' :=
 ⟨fun h=>by
  rcases h with⟨h1,h⟩|⟨l,t1,t2,h1,h2,h3⟩
  ·exact absurd (h (.lp lr,.undef) (by simp[qZ])).1 (by simp[clo])
  ·obtain⟨rfl,rfl⟩:=qba h1;obtain⟨rfl,rfl⟩:=qba h2;exact⟨rfl,h3⟩,fun⟨h1,h2⟩=>by subst h1;exact .inr ⟨_,_,_,rfl,rfl,h2⟩⟩
omit [Cur] in
theorem xg{r:Nat->Nat}{m:Nat}{ts:List (Nat×AV)}:TsW r m ts []↔True:=iff_true_intro (by intro p hp;cases hp)
omit [Cur] in
theorem zK{r:Nat->Nat}{m:Nat}{ts ts':List (Nat×AV)}{p:Nat×AV}:TsW r m ts (p::ts')↔evO (Z2 ts p.1) (fun v=>NV r m v p.2)∧TsW r m ts ts':=by
 simp only[TsW,List.mem_cons,forall_eq_or_imp];exact Iff.rfl
omit [Cur] in
theorem za{p:Nat×AV}{l:List (Nat×AV)}{j:Nat}:Z2 (p::l) j=if p.1=j then some p.2 else Z2 l j:=rfl
omit [Cur] in
theorem qf4{a:List UInt8}{n:Nat}:kC (zu a n)↔True:=by
 refine iff_true_intro ?_;intro e he;simp only[zu,List.mem_cons,List.mem_nil_iff,or_false] at he;rcases he with rfl|rfl<;>exact⟨rfl,rfl⟩
omit [Cur] in
theorem qeg:kC []↔True:=iff_true_intro (by intro e he;cases he)
omit [Cur] in
theorem qdx{e:AV×AV}{es:List (AV×AV)}:kC (e::es)↔(clo e.1=true∧clo e.2=true)∧kC es:=by simp[kC]
omit [Cur] in
theorem qc{r:Nat->Nat}{m:Nat}{vs:List AV}(hc:qx vs=true):NVs r m vs vs↔True:=iff_true_intro (NVs.refl hc)
theorem zC{vs:List AV}(hc:qx vs=true):Frzs h vs vs↔True:=iff_true_intro (Frzs.self hc)
theorem Wk.mkn{n:Nat}{t:Tr AV}(ts:List (Nat×AV))(bl:List Blk)(src:List Nat)(hT:TWs t (rl src h.sz) bl.length ts)(hB:BWs h (rl src h.sz) bl.length src bl)
  (hI:((src.filter fun b=>decide (b<h.sz)).Nodup)) (hfl:h.fl=0) (hn:n<=bl.length) (hlow:∀b,b<n->rl src h.sz b=b):Wk n t h (mkT ts) (mkH 0 bl):=by
 obtain⟨hlen,hget⟩:=hB.get;refine Wk.of (r:=rl src h.sz) ⟨hfl.symm,fun b' x' hb hg=>?_,fun b1 b2 h1 h2 _ _ he hl=>?_,fun b' _ _ _=>by rw[hfl];exact Nat.zero_le _,hlow,hn,fun b _ hb=>by rw[hfl] at hb;exact absurd hb (Nat.not_lt_zero _),fun j v' hj=>?_⟩
 ·rw[zZ] at hg;obtain⟨b,q1,q2⟩:=hget b' x' hg;have:rl src h.sz b'=b:=by simp[rl,List.getD_eq_getElem?_getD,q1]
  rw[this];exact q2
 ·have h1:b1<src.length:=by rw[hlen];exact h1
  have h2:b2<src.length:=by rw[hlen];exact h2
  simp only[rl,List.getD_eq_getElem?_getD,zzE h1,zzE h2,Option.getD_some] at he hl;exact Wk.mk.nodup_filter_inj hI h1 h2 he (by simpa using hl)
 ·exact hT.get _ (kD hj)
theorem SL.loopn{n:Nat}{α:Type}{x:ICode}{Q:X->Tr AV->Hp->Prop}(T:α->List (Nat×AV))(B:α->List Blk)(I:α->Prop)(μ:α->Nat)(a0:α)(src:List Nat)
  (hT:TWs t (rl src h.sz) (B a0).length (T a0)) (hB:BWs h (rl src h.sz) (B a0).length src (B a0)) (hI:(src.filter fun b=>decide (b<h.sz)).Nodup) (hfl:h.fl=0) (hn:n<=(B a0).length) (hlow:∀b,b<n->rl src h.sz b=b) (h0:I a0)
  (step:∀a,I a->∀G:Tr AV->Hp->Prop,(∀b,I b->μ b<μ a->∀t' h',Wk n t' h' (mkT (T b)) (mkH 0 (B b))->G t' h')->
   V P n x (fun e t h=>onX e (G t h) (fun id=>Q (.exit id) t h) (Q .ret t h)) (mkT (T a)) (mkH 0 (B a))):SL P n x Q t h:=by
 have main:∀m a,μ a=m->I a->SL P n x Q (mkT (T a)) (mkH 0 (B a)):=by
  intro m
  induction m using Nat.strongRecOn with
  | ind m ih =>
   intro a ha hi;exact qez (step a hi (fun t h=>SL P n x Q t h) fun b hb hlt t' h' hw=>SL.weak hw (ih (μ b) (ha ▸ hlt) b rfl hb))
 exact SL.weak (Wk.mkn (T a0) (B a0) src hT hB hI hfl hn hlow) (main _ a0 rfl h0)
end Go.Kc
end
section
namespace Go.Kc
variable [Cur]
variable {P:Program}

mutual
def rnv(g:Nat->Nat):AV->AV
 | .ptr b o=>.ptr (g b) o
 | .sl b o n c l=>.sl (g b) o n c l
 | .map b=>.map (g b)
 | .own b n=>.own (g b) n
 | .yl b=>.yl (g b)
 | .fn f a c=>.fn f (xT g a) (xT g c)
 | .ifc t v=>.ifc t (rnv g v)
 | .agg cs=>.agg (xT g cs)
 | .tup cs=>.tup (xT g cs)
 | v=>v
def xT(g:Nat->Nat):List AV->List AV
 | []=>[]
 | v::vs=>rnv g v::xT g vs
end
mutual
def bnd(m:Nat):AV->Bool
 | .ptr b _=>decide (b<m)
 | .sl b _ _ _ _=>decide (b<m)
 | .map b=>decide (b<m)
 | .own b _=>decide (b<m)
 | .yl b=>decide (b<m)
 | .fn _ a c=>xo m a&&xo m c
 | .ifc _ v=>bnd m v
 | .agg cs=>xo m cs
 | .tup cs=>xo m cs
 | _=>true
def xo(m:Nat):List AV->Bool
 | []=>true
 | v::vs=>bnd m v&&xo m vs
end
omit [Cur] in
theorem qbe{g:Nat->Nat}:∀{vs:List AV} {j:Nat},(xT g vs)[j]?=(vs[j]?).map (rnv g)
 | [],j=>by simp[xT]
 | v::vs,0=>by simp[xT]
 | v::vs,j+1=>by simpa[xT] using qbe (vs:=vs) (j:=j)
omit [Cur] in
theorem xH{g:Nat->Nat}:∀{vs:List AV},(xT g vs).length=vs.length
 | []=>rfl
 | v::vs=>by simp[xT,xH (vs:=vs)]
omit [Cur] in
theorem qcO{m:Nat}:∀{vs:List AV} {j:Nat} {v:AV},xo m vs=true->vs[j]?=some v->bnd m v=true
 | [],_,_,_,h=>by simp at h
 | x::xs,0,_,hb,h=>by
  simp only[xo,Bool.and_eq_true] at hb;simp at h;subst h;exact hb.1
 | x::xs,j+1,_,hb,h=>by
  simp only[xo,Bool.and_eq_true] at hb;exact qcO (vs:=xs) (j:=j) hb.2 (by simpa using h)
mutual
theorem VR.rn{ρ2 ρ3:Ren}{g:Nat->Nat}(h1:∀b L,ρ2 b=some L->ρ3 (g b)=some L)(h2:∀k a,ρ2.frz k=some a->ρ3.frz k=some a)(h3:∀b,b<ρ2.n->g b<ρ3.n):∀{v:AV} {x:Value},VR σ0 ρ2 v x->VR σ0 ρ3 (rnv g v) x
 | _,_,.undef v=>.undef v
 | _,_,.b x=>.b x
 | _,_,.i k n=>.i k n
 | _,_,.s x=>.s x
 | _,_,.nilp=>.nilp
 | _,_,.ptr b o L h=>.ptr _ _ L (h1 _ _ h)
 | _,_,.nils=>.nils
 | _,_,.sl b o len cap c loose L h hc=>.sl _ _ _ _ _ _ L (h1 _ _ h) hc
 | _,_,.slz b o x l' L h=>.slz _ _ _ _ L (h1 _ _ h)
 | _,_,.nilf=>.nilf
 | _,_,.fn f first cap first' cap' q1 q2=>.fn _ _ _ _ _ (VRs.rn h1 h2 h3 q1) (VRs.rn h1 h2 h3 q2)
 | _,_,.nili=>.nili
 | _,_,.ifc t v v' h=>.ifc _ _ _ (VR.rn h1 h2 h3 h)
 | _,_,.agg cs cs' h=>.agg _ _ (VRs.rn h1 h2 h3 h)
 | _,_,.tup cs cs' h=>.tup _ _ (VRs.rn h1 h2 h3 h)
 | _,_,.nilm=>.nilm
 | _,_,.map b L h h0=>.map _ L (h1 _ _ h) h0
 | _,_,.sym j=>.sym j
 | _,_,.fz n off c cs k arr hn h hs=>.fz n off c cs k arr hn (h2 _ _ h) (hs.mono h2)
 | _,_,.fz0 a=>.fz0 a
 | _,_,.pf off base cs k arr h hs=>.pf off base cs k arr (h2 _ _ h) (hs.mono h2)
 | _,_,.e0 a=>.e0 a
 | _,_,.nz a c=>.nz a c
 | _,_,.own0 b a hb=>.own0 _ _ (h3 _ hb)
 | _,_,.own b n c L h hn hc'=>.own _ _ _ L (h1 _ _ h) hn hc'
 | _,_,.yl b L h=>.yl _ L (h1 _ _ h)
theorem VRs.rn{ρ2 ρ3:Ren}{g:Nat->Nat}(h1:∀b L,ρ2 b=some L->ρ3 (g b)=some L)(h2:∀k a,ρ2.frz k=some a->ρ3.frz k=some a)(h3:∀b,b<ρ2.n->g b<ρ3.n):∀{v:List AV} {x:List Value},VRs σ0 ρ2 v x->VRs σ0 ρ3 (xT g v) x
 | _,_,.nil=>.nil
 | _,_,.cons v vs v' vs' h hs=>.cons _ _ _ _ (VR.rn h1 h2 h3 h) (VRs.rn h1 h2 h3 hs)
end
mutual
theorem VR.nr{ρ ρs:Ren}{g:Nat->Nat}{m:Nat}(h1:∀b L,b<m->ρ (g b)=some L->ρs b=some L)(h2:ρs.frz=ρ.frz)(h3:ρs.n=m):∀{v:AV} {x:Value},bnd m v=true->VR σ0 ρ (rnv g v) x->VR σ0 ρs v x
 | .undef,_,_,h=>by cases h;exact .undef _
 | .b _,_,_,h=>by cases h;exact .b _
 | .i _ _,_,_,h=>by cases h;exact .i _ _
 | .s _,_,_,h=>by cases h;exact .s _
 | .nilp,_,_,h=>by cases h;exact .nilp
 | .ptr b o,_,hb,h=>by
  simp only[bnd,decide_eq_true_eq] at hb;cases h with
  | ptr _ _ L q=>exact .ptr _ _ L (h1 _ _ hb q)
 | .nils,_,_,h=>by cases h;exact .nils
 | .sl b o n c l,_,hb,h=>by
  simp only[bnd,decide_eq_true_eq] at hb;cases h with
  | sl _ _ _ _ _ _ L q hc=>exact .sl _ _ _ _ _ _ L (h1 _ _ hb q) hc
  | slz _ _ _ _ L q=>exact .slz _ _ _ _ L (h1 _ _ hb q)
 | .nilf,_,_,h=>by cases h;exact .nilf
 | .fn f a c,_,hb,h=>by
  simp only[bnd,Bool.and_eq_true] at hb;cases h with
  | fn _ _ _ _ _ q1 q2=>exact .fn _ _ _ _ _ (VRs.nr h1 h2 h3 hb.1 q1) (VRs.nr h1 h2 h3 hb.2 q2)
 | .nili,_,_,h=>by cases h;exact .nili
 | .ifc t v,_,hb,h=>by
  simp only[bnd] at hb;cases h with
  | ifc _ _ _ q=>exact .ifc _ _ _ (VR.nr h1 h2 h3 hb q)
 | .agg cs,_,hb,h=>by
  simp only[bnd] at hb;cases h with
  | agg _ _ q=>exact .agg _ _ (VRs.nr h1 h2 h3 hb q)
 | .tup cs,_,hb,h=>by
  simp only[bnd] at hb;cases h with
  | tup _ _ q=>exact .tup _ _ (VRs.nr h1 h2 h3 hb q)
 | .nilm,_,_,h=>by cases h;exact .nilm
 | .map b,_,hb,h=>by
  simp only[bnd,decide_eq_true_eq] at hb;cases h with
  | map _ L q h0=>exact .map _ L (h1 _ _ hb q) h0
 | .sym j,_,_,h=>by cases h;exact .sym _
 | .fz n cs,_,_,h=>by
  cases h with
  | fz _ off c _ k arr hn q hs=>exact .fz _ off c _ k arr hn (by rw[h2];exact q) (by rw[h2];exact hs)
  | fz0 a=>exact .fz0 a
 | .pf cs o,_,_,h=>by
  cases h with
  | pf off base _ k arr q hs=>exact .pf _ base _ k arr (by rw[h2];exact q) (by rw[h2];exact hs)
 | .e0,_,_,h=>by cases h;exact .e0 _
 | .nz,_,_,h=>by cases h;exact .nz _ _
 | .own b n,_,hb,h=>by
  simp only[bnd,decide_eq_true_eq] at hb;cases h with
  | own0 _ a q=>exact .own0 _ _ (by rw[h3];exact hb)
  | own _ _ c L q hn hc=>exact .own _ _ c L (h1 _ _ hb q) hn hc
 | .yl b,_,hb,h=>by
  simp only[bnd,decide_eq_true_eq] at hb;cases h with
  | yl _ L q=>exact .yl _ L (h1 _ _ hb q)
 | .lp _,_,_,h=>by cases h
theorem VRs.nr{ρ ρs:Ren}{g:Nat->Nat}{m:Nat}(h1:∀b L,b<m->ρ (g b)=some L->ρs b=some L)(h2:ρs.frz=ρ.frz)(h3:ρs.n=m):∀{v:List AV} {x:List Value},xo m v=true->VRs σ0 ρ (xT g v) x->VRs σ0 ρs v x
 | [],_,_,h=>by cases h;exact .nil
 | v::vs,_,hb,h=>by
  simp only[xo,Bool.and_eq_true] at hb;cases h with
  | cons _ _ _ _ q1 q2=>exact .cons _ _ _ _ (VR.nr h1 h2 h3 hb.1 q1) (VRs.nr h1 h2 h3 hb.2 q2)
end

def gAt(at':List Nat)(d:Nat):Nat->Nat:=fun b=>if b<at'.length then at'.getD b 0 else d+(b-at'.length)
omit [Cur] in
theorem vx{at':List Nat}{d b:Nat}(h:b<at'.length):gAt at' d b=at'[b]:=by
 simp[gAt,h]
omit [Cur] in
theorem qaL{at':List Nat}{d b:Nat}(h:at'.length<=b):gAt at' d b=d+(b-at'.length):=by
 simp only[gAt];rw[if_neg (by omega)]
structure Lent (h:Hp) (at':List Nat) (bs:List Blk):Prop where
 len:at'.length=bs.length
 nd:at'.Nodup
 blk:∀i x,bs[i]?=some x->∃e a cs,x = .cells e true a cs∧xo bs.length cs=true∧h.tr.get (gAt at' h.sz i)=some (.cells e true a (xT (gAt at' h.sz) cs))∧h.fl<=gAt at' h.sz i∧gAt at' h.sz i<h.sz
def Ren.small(ρ:Ren)(at':List Nat)(d:Nat):Ren:=⟨fun i=>if i<at'.length then ρ (gAt at' d i) else none,ρ.frz,at'.length⟩
omit [Cur] in
theorem wW{ρ:Ren}{at':List Nat}{d i:Nat}{L:Loc}(h:ρ.small at' d i=some L):i<at'.length∧ρ (gAt at' d i)=some L:=by
 simp only[Ren.small] at h;split at h
 ·exact⟨by assumption,h⟩
 ·cases h
def Bar(ρ:Ren)(B:Nat->Prop)(h:Hp)(at':List Nat):Nat->Prop:=fun k=>B k∨∃b L x,ρ b=some L∧b ∉ at'∧h.tr.get b=some x∧x≠.dead∧L.blk=k
omit [Cur] in
theorem Lent.inj{h:Hp}{at':List Nat}{bs:List Blk}(l:Lent h at' bs){i j:Nat}(hi:i<at'.length)(hj:j<at'.length)(he:gAt at' h.sz i=gAt at' h.sz j):i=j:=by
 rw[vx hi,vx hj] at he;exact (List.getElem_inj l.nd).1 he
omit [Cur] in
theorem Lent.mem{h:Hp}{at':List Nat}{i:Nat}(hi:i<at'.length):gAt at' h.sz i ∈ at':=by
 rw[vx hi];exact List.getElem_mem _
theorem Rel.small{ρ:Ren}{B:Nat->Prop}{h:Hp}{w:World}{at':List Nat}{bs:List Blk}(r:Rel σ0 ρ B h w)(l:Lent h at' bs):Rel σ0 (ρ.small at' h.sz) (Bar ρ B h at') (mkH 0 bs) w:=by
 have get:∀i L x,ρ.small at' h.sz i=some L->(mkH 0 bs).tr.get i=some x->i<at'.length∧ρ (gAt at' h.sz i)=some L∧∃e a cs,x = .cells e true a cs∧xo bs.length cs=true∧h.tr.get (gAt at' h.sz i)=some (.cells e true a (xT (gAt at' h.sz) cs))∧h.fl<=gAt at' h.sz i:=by
  intro i L x h1 h2;obtain⟨h3,h4⟩:=wW h1;rw[zZ] at h2;obtain⟨e,a,cs,h5,h6,h7,h8,_⟩:=l.blk i x h2;exact⟨h3,h4,e,a,cs,h5,h6,h7,h8⟩
 refine⟨fun i L hb=>?_,?_,?_,?_,?_,?_,?_,?_,?_,?_⟩
 ·have:=(wW hb).1;rw[l.len] at this;exact this
 ·intro i L e wf af cs hb hg;obtain⟨h1,h2,e',a,cs',h3,h4,h5,h6⟩:=get i L _ hb hg;cases h3;obtain⟨q1,c,ty,fz,q2,q3,q4,q5,q6⟩:=r.cells _ L _ _ _ _ h2 h5;rw[xH] at q4;refine⟨q1,c,ty,fz,q2,q3,q4,fun j v hv=>?_,q6⟩
  obtain⟨v',p1,p2⟩:=q5 j (rnv (gAt at' h.sz) v) (by rw[qbe,hv];rfl)
  exact⟨v',p1,VR.nr (ρ:=ρ) (ρs:=ρ.small at' h.sz) (g:=gAt at' h.sz) (m:=bs.length) (fun b L hbm hbL=>by
   show (if b<at'.length then ρ (gAt at' h.sz b) else none)=some L
   rw[if_pos (by rw[l.len];exact hbm)];exact hbL) rfl l.len (qcO h4 hv) p2⟩
 ·intro i L es hb hg;obtain⟨_,_,e',a,cs',h3,_⟩:=get i L _ hb hg;cases h3
 ·intro b L e af cs hb hg b' L' x hb' hx hd he;obtain⟨h1,h2,e',a,cs',h3,h4,h5,h6⟩:=get b L _ hb hg;obtain⟨i1,i2,e2,a2,cs2,i3,i4,i5,i6⟩:=get b' L' _ hb' hx;exact l.inj i1 h1 (r.excl _ L _ _ _ h2 h5 _ L' _ i2 i5 (by simp) he)
 ·intro b L es hb hg;obtain⟨_,_,e',a,cs',h3,_⟩:=get b L _ hb hg;cases h3
 ·intro b L e wf cs hb hg b' L' e' wf' af' cs' hb' hx he;obtain⟨h1,h2,e1,a1,cs1,h3,h4,h5,h6⟩:=get b L _ hb hg;obtain⟨i1,i2,e2,a2,cs2,i3,i4,i5,i6⟩:=get b' L' _ hb' hx;cases h3;cases i3;have q:=r.app _ L _ _ _ h2 h5 _ L' _ _ _ _ i2 i5 he;rw[xH,xH] at q;exact⟨q.1,fun hh=>l.inj i1 h1 (q.2 hh)⟩
 ·intro i L hb _ hbar;have hi:=(wW hb).1;have hi':i<bs.length:=by rw[← l.len];exact hi
  obtain⟨h1,h2,e',a,cs',h3,h4,h5,h6⟩:=get i L bs[i] hb (by rw[zZ,zzE hi']);rcases hbar with hB|⟨b,L',x,g1,g2,g3,g4,g5⟩
  ·exact r.flr _ L h2 h6 hB
  ·have:=r.excl _ L _ _ _ h2 h5 b L' x g1 g3 g4 g5;exact g2 (this ▸ Lent.mem hi)
 ·rintro k (hB|⟨b,L',x,g1,g2,g3,g4,rfl⟩)
  ·exact r.base k hB
  ·exact r.blk_lt b L' g1 x g3 g4
 ·intro k arr hk;refine⟨(r.frz k arr hk).1,fun b L x hb hx hd=>?_⟩
  obtain⟨h1,h2,e',a,cs',h3,h4,h5,h6⟩:=get b L _ hb hx;exact (r.frz k arr hk).2 _ L _ h2 h5 (by simp)
 ·refine⟨?_,fun b L h=>r.dn.2 _ L (wW h).2⟩
  show at'.length<=bs.length;rw[l.len];exact Nat.le_refl _

def rnb(g:Nat->Nat):Blk->Blk
 | .cells e w a cs=>.cells e w a (xT g cs)
 | .dead=>.dead
 | .map _=>.dead
noncomputable def vV:Hp->List Nat->List Blk->Hp
 | h,b::at',x::xs=>vV (h.put b x) at' xs
 | h,_,_=>h
omit [Cur] in
theorem Zs:∀{at':List Nat} {xs:List Blk} {h:Hp},(vV h at' xs).sz=h.sz
 | [],_,_=>by simp[vV]
 | _::_,[],_=>by simp[vV]
 | b::at',x::xs,h=>by
  show (vV (h.put b x) at' xs).sz=_;rw[Zs];rfl
omit [Cur] in
theorem qe9:∀{at':List Nat} {xs:List Blk} {h:Hp},(vV h at' xs).fl=h.fl
 | [],_,_=>by simp[vV]
 | _::_,[],_=>by simp[vV]
 | b::at',x::xs,h=>by
  show (vV (h.put b x) at' xs).fl=_;rw[qe9];rfl
omit [Cur] in
theorem qa4:∀{at':List Nat} {xs:List Blk} {h:Hp} {b:Nat},b ∉ at'->(vV h at' xs).tr.get b=h.tr.get b
 | [],_,_,_,_=>by simp[vV]
 | _::_,[],_,_,_=>by simp[vV]
 | c::at',x::xs,h,b,hb=>by
  show (vV (h.put c x) at' xs).tr.get b=_;rw[qa4 (fun hh=>hb (List.mem_cons_of_mem _ hh))]
  simp only[Hp.put,Tr.get_set];rw[if_neg (fun hh=>hb (by simp[hh]))]
omit [Cur] in
theorem qfa:∀{at':List Nat} {xs:List Blk} {h:Hp} {i b:Nat},at'.Nodup->at'.length=xs.length->at'[i]?=some b->(vV h at' xs).tr.get b=xs[i]?
 | [],_,_,_,_,_,_,hi=>by simp at hi
 | _::_,[],_,_,_,_,hl,_=>by simp at hl
 | c::at',x::xs,h,0,b,hn,hl,hi=>by
  simp at hi;subst hi;show (vV (h.put c x) at' xs).tr.get c=_;rw[qa4 (List.nodup_cons.1 hn).1];simp[Hp.put,Tr.get_set]
 | c::at',x::xs,h,i+1,b,hn,hl,hi=>by
  show (vV (h.put c x) at' xs).tr.get b=_;rw[qfa (List.nodup_cons.1 hn).2 (by simpa using hl) (by simpa using hi)];simp
noncomputable def wg(h:Hp)(at':List Nat)(bs2:List Blk):Hp:=jq (vV h at' ((bs2.take at'.length).map (rnb (gAt at' h.sz)))) ((bs2.drop at'.length).map (rnb (gAt at' h.sz)))
def Ren.back(ρ ρ2:Ren)(at':List Nat)(d l:Nat):Ren:=⟨fun b=>if b<d then ρ b else ρ2 (b-d+at'.length),ρ2.frz,d+(l-at'.length)⟩
omit [Cur] in
theorem qaq{h:Hp}{at':List Nat}{bs2:List Blk}:(wg h at' bs2).sz=h.sz+(bs2.length-at'.length):=by
 unfold wg;rw[km,Zs];simp
omit [Cur] in
theorem qcG{h:Hp}{at':List Nat}{bs2:List Blk}:(wg h at' bs2).fl=h.fl:=by
 unfold wg;rw[yL,qe9]
omit [Cur] in
theorem qbw{h:Hp}{at':List Nat}{bs2:List Blk}{b:Nat}(hb:b<h.sz)(hm:b ∉ at'):(wg h at' bs2).tr.get b=h.tr.get b:=by
 unfold wg;rw[x5,Zs,if_pos hb,qa4 hm]
omit [Cur] in
theorem qgM{h:Hp}{at':List Nat}{bs2:List Blk}(hn:at'.Nodup)(hl:at'.length<=bs2.length)(hlt:∀b ∈ at',b<h.sz){i:Nat}(hi:i<at'.length):(wg h at' bs2).tr.get (gAt at' h.sz i)=(bs2[i]?).map (rnb (gAt at' h.sz)):=by
 have hm:gAt at' h.sz i ∈ at':=Lent.mem hi;unfold wg;rw[x5,Zs,if_pos (hlt _ hm),qfa (i:=i) hn (by simp;omega) (by rw[vx hi];exact zzE hi),List.getElem?_map,List.getElem?_take_of_lt hi]
omit [Cur] in
theorem qfw{h:Hp}{at':List Nat}{bs2:List Blk}{i:Nat}(hi:at'.length<=i)(hi2:i<bs2.length):(wg h at' bs2).tr.get (gAt at' h.sz i)=(bs2[i]?).map (rnb (gAt at' h.sz)):=by
 unfold wg;rw[qaL hi,x5,Zs,if_neg (by omega),if_pos (by simp;omega),List.getElem?_map,List.getElem?_drop];rw[show at'.length+(h.sz+(i-at'.length)-h.sz)=i from by omega]
theorem Rel.back{ρ ρ2:Ren}{B:Nat->Prop}{h:Hp}{w w1:World}{at':List Nat}{bs bs2:List Blk}(r:Rel σ0 ρ B h w)(l:Lent h at' bs)(r2:Rel σ0 ρ2 (Bar ρ B h at') (mkH 0 bs2) w1)(hl:at'.length<=bs2.length)
  (he:∀i,i<at'.length->ρ2 i=ρ.small at' h.sz i) (hp:∀k,Bar ρ B h at' k->w1.heap[k]?=w.heap[k]?) (hw:w.heap.size<=w1.heap.size)
  (f1:∀k a,ρ.frz k=some a->ρ2.frz k=some a) (f2:∀k a,ρ2.frz k=some a->ρ.frz k=some a∨¬Bar ρ B h at' k):(∀b L,ρ2 b=some L->ρ.back ρ2 at' h.sz bs2.length (gAt at' h.sz b)=some L)∧Rel σ0 (ρ.back ρ2 at' h.sz bs2.length) B (wg h at' bs2) w1:=by
 have hlt:∀b ∈ at',b<h.sz:=by
  intro b hb;obtain⟨i,hi,rfl⟩:=List.getElem_of_mem hb;have hi':i<bs.length:=by rw[← l.len];exact hi
  obtain⟨_,_,_,_,_,_,_,h6⟩:=l.blk i bs[i] (zzE hi');rwa [vx hi] at h6
 have up:∀b L,ρ2 b=some L->ρ.back ρ2 at' h.sz bs2.length (gAt at' h.sz b)=some L:=by
  intro b L hb;show (if gAt at' h.sz b<h.sz then ρ (gAt at' h.sz b) else ρ2 (gAt at' h.sz b-h.sz+at'.length))=some L
  by_cases hbm:b<at'.length
  ·rw[if_pos (hlt _ (Lent.mem hbm))];rw[he b hbm] at hb;exact (wW hb).2
  ·rw[qaL (by omega),if_neg (by omega),show h.sz+(b-at'.length)-h.sz+at'.length=b from by omega]
   exact hb
 refine⟨up,?_⟩
 have nle:∀b,b<ρ2.n->gAt at' h.sz b<h.sz+(bs2.length-at'.length):=by
  intro b hb;have hb2:b<bs2.length:=Nat.lt_of_lt_of_le hb r2.dn.1
  by_cases hbm:b<at'.length
  ·have:=hlt _ (Lent.mem (h:=h) hbm);omega
  ·rw[qaL (by omega)];omega
 have le1:∀b L,ρ b=some L->ρ.back ρ2 at' h.sz bs2.length b=some L:=by
  intro b L hb;show (if b<h.sz then ρ b else _)=some L
  rw[if_pos (r.dom b L hb)];exact hb
 have le2:ρ.le (ρ.back ρ2 at' h.sz bs2.length):=⟨le1,f1,Nat.le_trans r.dn.1 (Nat.le_add_right _ _)⟩
 -- a block: an old one that stayed,or one of the small heap
 have split:∀b L,ρ.back ρ2 at' h.sz bs2.length b=some L->(b ∉ at'∧ρ b=some L∧(wg h at' bs2).tr.get b=h.tr.get b) ∨
   ∃c,b=gAt at' h.sz c∧ρ2 c=some L∧(wg h at' bs2).tr.get b=((mkH 0 bs2).tr.get c).map (rnb (gAt at' h.sz)):=by
  intro b L hb;have hb':(if b<h.sz then ρ b else ρ2 (b-h.sz+at'.length))=some L:=hb
  by_cases hbs:b<h.sz
  ·rw[if_pos hbs] at hb'
   by_cases hm:b ∈ at'
   ·obtain⟨i,hi,rfl⟩:=List.getElem_of_mem hm;refine .inr ⟨i,(vx hi).symm,?_,?_⟩
    ·rw[he i hi];show (if i<at'.length then ρ (gAt at' h.sz i) else none)=some L
     rw[if_pos hi,vx hi];exact hb'
    ·have:=qgM (bs2:=bs2) l.nd hl hlt hi;rw[vx hi] at this;rw[this,zZ]
   ·exact .inl ⟨hm,hb',qbw hbs hm⟩
  ·rw[if_neg hbs] at hb';have hc:b-h.sz+at'.length<bs2.length:=r2.dom _ L hb';have e:gAt at' h.sz (b-h.sz+at'.length)=b:=by rw[qaL (by omega)];omega
   refine .inr ⟨b-h.sz+at'.length,e.symm,hb',?_⟩;have:=qfw (h:=h) (at':=at') (bs2:=bs2) (i:=b-h.sz+at'.length) (by omega) hc;rw[e] at this;rw[this,zZ]
 have apart:∀b L x c L2,b ∉ at'->ρ b=some L->h.tr.get b=some x->x≠.dead->ρ2 c=some L2->L2.blk≠L.blk:=by
  intro b L x c L2 h1 h2 h3 h4 h5 h6;exact r2.flr c L2 h5 (Nat.zero_le _) (.inr ⟨b,L,x,h2,h1,h3,h4,h6.symm⟩)
 have shc:∀{o:Option Blk} {e:Nat} {w a:Bool} {cs:List AV},o.map (rnb (gAt at' h.sz))=some (.cells e w a cs)->∃cs0,o=some (.cells e w a cs0)∧cs=xT (gAt at' h.sz) cs0:=by
  intro o e w a cs ho;cases o with
  | none=>simp at ho
  | some x =>
   cases x with
   | cells e' w' a' cs'=>simp[rnb] at ho;obtain⟨rfl,rfl,rfl,rfl⟩:=ho;exact⟨_,rfl,rfl⟩
   | dead=>simp[rnb] at ho
   | map es=>simp[rnb] at ho
 have shn:∀{o:Option Blk} {y:Blk},o.map (rnb (gAt at' h.sz))=some y->y≠.dead->∃x,o=some x∧x≠.dead:=by
  intro o y ho hy;cases o with
  | none=>simp at ho
  | some x =>
   refine⟨x,rfl,fun hx=>?_⟩
   subst hx;simp[rnb] at ho;exact hy ho.symm
 have shm:∀{o:Option Blk} {es:List (AV×AV)},o.map (rnb (gAt at' h.sz))=some (.map es)->False:=by
  intro o es ho;cases o with
  | none=>simp at ho
  | some x=>cases x<;>simp[rnb] at ho
 refine⟨fun b L hb=>?_,?_,?_,?_,?_,?_,?_,kr r.base hw,?_,?_⟩
 ·rw[qaq];have hb':(if b<h.sz then ρ b else ρ2 (b-h.sz+at'.length))=some L:=hb
  by_cases hbs:b<h.sz
  ·omega
  ·rw[if_neg hbs] at hb';have hc:b-h.sz+at'.length<bs2.length:=r2.dom _ L hb';omega
 ·intro b L e wf af cs hb hg;rcases split b L hb with⟨h1,h2,h3⟩|⟨c,rfl,h2,h3⟩
  ·rw[h3] at hg;obtain⟨q1,c,ty,fz,q2,q3,q4,q5,q6⟩:=r.cells b L e wf af cs h2 hg;exact⟨q1,c,ty,fz,by rw[hp _ (.inr ⟨b,L,_,h2,h1,hg,by simp,rfl⟩)];exact q2,q3,q4,fun j v hv=>let ⟨v',g7,g8⟩:=q5 j v hv;⟨v',g7,g8.mono le2⟩,q6⟩
  ·rw[h3] at hg;obtain⟨cs0,g1,rfl⟩:=shc hg;obtain⟨q1,c',ty,fz,q2,q3,q4,q5,q6⟩:=r2.cells c L e wf af cs0 h2 g1;refine⟨q1,c',ty,fz,q2,q3,by rw[xH];exact q4,fun j v hv=>?_,q6⟩
   rw[qbe] at hv;cases hj:cs0[j]? with
   | none=>rw[hj] at hv;simp at hv
   | some v0 =>
    rw[hj] at hv;simp at hv;subst hv;obtain⟨v',g7,g8⟩:=q5 j v0 hj;exact⟨v',g7,VR.rn (ρ3:=ρ.back ρ2 at' h.sz bs2.length) up (fun _ _ h=>h) nle g8⟩
 ·intro b L es hb hg;rcases split b L hb with⟨h1,h2,h3⟩|⟨c,rfl,h2,h3⟩
  ·rw[h3] at hg;obtain⟨q1,o,q2,q3⟩:=r.maps b L es h2 hg;exact⟨q1,o,by rw[hp _ (.inr ⟨b,L,_,h2,h1,hg,by simp,rfl⟩)];exact q2,q3.mono le2⟩
  ·rw[h3] at hg;exact (shm hg).elim
 ·intro b L e af cs hb hg b' L' x hb' hx hd hee;rcases split b L hb with⟨h1,h2,h3⟩|⟨c,rfl,h2,h3⟩<;>rcases split b' L' hb' with⟨i1,i2,i3⟩|⟨c',rfl,i2,i3⟩
  ·rw[h3] at hg;rw[i3] at hx;exact r.excl b L e af cs h2 hg b' L' x i2 hx hd hee
  ·rw[h3] at hg;exact absurd hee (apart b L _ c' L' h1 h2 hg (by simp) i2)
  ·rw[i3] at hx;exact absurd hee.symm (apart b' L' _ c L i1 i2 hx hd h2)
  ·rw[h3] at hg;rw[i3] at hx;obtain⟨cs0,g1,rfl⟩:=shc hg;obtain⟨x0,g2,g3⟩:=shn hx hd;rw[r2.excl c L e af cs0 h2 g1 c' L' x0 i2 g2 g3 hee]
 ·intro b L es hb hg b' L' x hb' hx hd hee;rcases split b L hb with⟨h1,h2,h3⟩|⟨c,rfl,h2,h3⟩
  ·rw[h3] at hg;rcases split b' L' hb' with⟨i1,i2,i3⟩|⟨c',rfl,i2,i3⟩
   ·rw[i3] at hx;exact r.exclm b L es h2 hg b' L' x i2 hx hd hee
   ·exact absurd hee (apart b L _ c' L' h1 h2 hg (by simp) i2)
  ·rw[h3] at hg;exact (shm hg).elim
 ·intro b L e wf cs hb hg b' L' e' wf' af' cs' hb' hx hee;rcases split b L hb with⟨h1,h2,h3⟩|⟨c,rfl,h2,h3⟩<;>rcases split b' L' hb' with⟨i1,i2,i3⟩|⟨c',rfl,i2,i3⟩
  ·rw[h3] at hg;rw[i3] at hx;exact r.app b L e wf cs h2 hg b' L' e' wf' af' cs' i2 hx hee
  ·rw[h3] at hg;exact absurd hee (apart b L _ c' L' h1 h2 hg (by simp) i2)
  ·rw[i3] at hx;exact absurd hee.symm (apart b' L' _ c L i1 i2 hx (by simp) h2)
  ·rw[h3] at hg;rw[i3] at hx;obtain⟨cs0,g1,rfl⟩:=shc hg;obtain⟨cs1,g2,rfl⟩:=shc hx;have q:=r2.app c L e wf cs0 h2 g1 c' L' e' wf' af' cs1 i2 g2 hee;rw[xH,xH];exact⟨q.1,fun hh=>by rw[q.2 hh]⟩
 ·intro b L hb hf hB;rw[qcG] at hf;rcases split b L hb with⟨h1,h2,h3⟩|⟨c,rfl,h2,h3⟩
  ·exact r.flr b L h2 hf hB
  ·exact r2.flr c L h2 (Nat.zero_le _) (.inl hB)
 ·intro k arr hk;refine⟨(r2.frz k arr hk).1,fun b L x hb hx hd=>?_⟩
  rcases split b L hb with⟨h1,h2,h3⟩|⟨c,rfl,h2,h3⟩
  ·rw[h3] at hx;rcases f2 k arr hk with g|g
   ·exact (r.frz k arr g).2 b L x h2 hx hd
   ·exact fun hh=>g (.inr ⟨b,L,x,h2,h1,hx,hd,hh⟩)
  ·rw[h3] at hx;obtain⟨x0,g2,g3⟩:=shn hx hd;exact (r2.frz k arr hk).2 c L x0 h2 g2 g3
 ·refine⟨?_,fun b L hb=>?_⟩
  ·show h.sz+(bs2.length-at'.length)<=_;rw[qaq];exact Nat.le_refl _
  ·rcases split b L hb with⟨_,h2,_⟩|⟨c,rfl,h2,_⟩
   ·exact Nat.lt_of_lt_of_le (r.dn.2 b L h2) hw
   ·exact r2.dn.2 c L h2
def qlX(m:Nat)(v:AV)(bs2:List Blk)(v':AV)(h':Hp):Prop:=h'.fl=0->∃src:List Nat,NV (rl src h'.sz) bs2.length v' v∧BWs h' (rl src h'.sz) bs2.length src bs2∧(src.filter fun b=>decide (b<h'.sz)).Nodup∧∀b,b<m->rl src h'.sz b=b
def qjb(m:Nat)(v:AV)(bs2:List Blk)(v':AV)(h':Hp):Prop:=h'.fl=0->Wk m (mkT [(0,v')]) h' (mkT [(0,v)]) (mkH 0 bs2)
theorem qlX.w{m:Nat}{v:AV}{bs2:List Blk}{v':AV}{h':Hp}(hz:qlX m v bs2 v' h')(hle:m<=bs2.length):qjb m v bs2 v' h':=by
 intro hfl;obtain⟨src,s1,s2,s3,s4⟩:=hz hfl;exact Wk.mkn [(0,v)] bs2 src ⟨⟨v',by simp[mkT,Tr.get_set],s1⟩,trivial⟩ s2 s3 hfl hle s4
def Upd(P:Program)(f:Nat)(vs:List AV)(bs:List Blk)(v:AV)(bs2:List Blk):Prop :=
 xo bs.length vs=true∧bs.length<=bs2.length∧SC P f vs (mkH 0 bs) (qjb bs.length v bs2)
theorem Upd.mkS{f:Nat}{i:IFn}{vs:List AV}{v:AV}{bs bs2:List Blk}(hc:qh P f i=true)(hb:xo bs.length vs=true)(hl:bs.length<=bs2.length)(hV:S P bs.length i.body (jd i.res (qjb bs.length v bs2)) (xz vs 0 .leaf) (mkH 0 bs)):Upd P f vs bs v bs2 :=
 ⟨hb,hl,SC.mk hc hV⟩
theorem Upd.mk{f:Nat}{i:IFn}{vs:List AV}{v:AV}{bs bs2:List Blk}(hc:qh P f i=true)(hb:xo bs.length vs=true)(hl:bs.length<=bs2.length)(hV:V P bs.length i.body (jd i.res (qlX bs.length v bs2)) (xz vs 0 .leaf) (mkH 0 bs)):Upd P f vs bs v bs2 :=
 ⟨hb,hl,(SC.mk hc (qr hV)).mono fun _ _ hz=>hz.w hl⟩
theorem Upd.sc{f:Nat}{vs:List AV}{bs bs2:List Blk}{v:AV}{h:Hp}{k:AV->Hp->Prop}(at':List Nat)(hu:Upd P f vs bs v bs2)(l:Lent h at' bs)(hk:k (rnv (gAt at' h.sz) v) (wg h at' bs2)):SC P f (xT (gAt at' h.sz) vs) h k:=by
 obtain⟨hb,hle,hu⟩:=hu;refine⟨hu.1,fun ρ B w args r ha=>?_⟩
 have hle':at'.length<=bs2.length:=by rw[l.len];exact hle
 have ha':VRs σ0 (ρ.small at' h.sz) vs args.toList:=VRs.nr (ρ:=ρ) (ρs:=ρ.small at' h.sz) (g:=gAt at' h.sz) (m:=bs.length) (fun b L hbm hbL=>by
  show (if b<at'.length then ρ (gAt at' h.sz b) else none)=some L
  rw[if_pos (by rw[l.len];exact hbm)];exact hbL) rfl l.len hb ha
 refine jA.mono (hu.2 (ρ.small at' h.sz) (Bar ρ B h at') w args (r.small l) ha') ?_;rintro e w1 ⟨v0,v',h1,ρ1,rfl,g1,g2,g3,g4⟩;have hw:Wk bs.length (mkT [(0,v0)]) h1 (mkT [(0,v)]) (mkH 0 bs2):=g1 g4.fl
 obtain⟨ρ2,t2,r2,k2⟩:=hw ρ1 (Bar ρ B h at') w1 #[v'] (fun j x hj=>by
  have:=kD hj;simp at this;obtain⟨rfl,rfl⟩:=this;exact⟨by simp,by simpa using g2⟩) g3
 have hv2:VR σ0 ρ2 v v':=by
  have:=(t2 0 v (by simp[mkT,Tr.get_set])).2;simpa using this
 have he:∀i,i<at'.length->ρ2 i=ρ.small at' h.sz i:=fun i hi=>(k2.ext i (by rw[← l.len];exact hi)).trans (g4.ext i (by rw[qia,← l.len];exact hi))
 have f1:∀k a,ρ.frz k=some a->ρ2.frz k=some a:=fun k a hk=>k2.frz k a (g4.frz k a hk)
 have f2:∀k a,ρ2.frz k=some a->ρ.frz k=some a∨¬Bar ρ B h at' k:=fun k a hk=>(k2.fnew k a hk).elim (g4.fnew k a) .inr
 obtain⟨up,big⟩:=Rel.back r l r2 hle' he g4.pres g4.wle f1 f2
 have nle:∀b,b<ρ2.n->gAt at' h.sz b<(ρ.back ρ2 at' h.sz bs2.length).n:=by
  intro b hb;have hb2:b<bs2.length:=Nat.lt_of_lt_of_le hb r2.dn.1;show _<h.sz+(bs2.length-at'.length)
  by_cases hbm:b<at'.length
  ·have hbm':b<bs.length:=by rw[← l.len];exact hbm
   obtain⟨_,_,_,_,_,_,_,h6⟩:=l.blk b bs[b] (zzE hbm');omega
  ·rw[qaL (by omega)];omega
 refine⟨_,v',_,ρ.back ρ2 at' h.sz bs2.length,rfl,hk,VR.rn up (fun _ _ h=>h) nle hv2,big,?_⟩
 refine⟨fun b hb=>?_,by rw[qaq];omega,qcG,fun b hf hb=>qbw hb (fun hm=>?_),fun k hk=>g4.pres k (.inl hk),g4.wle,g4.io,f1,fun k a hk=>(f2 k a hk).imp id (fun hh hB=>hh (.inl hB)),Nat.le_trans r.dn.1 (Nat.le_add_right _ _)⟩
 ·show (if b<h.sz then ρ b else _)=ρ b
  rw[if_pos hb]
 ·obtain⟨i,hi,rfl⟩:=List.getElem_of_mem hm;have hi':i<bs.length:=by rw[← l.len];exact hi
  obtain⟨_,_,_,_,_,_,h5,_⟩:=l.blk i bs[i] (zzE hi');rw[vx hi] at h5;omega
end Go.Kc
end
section
namespace Go.Kc
variable [Cur]
variable {P:Program} {h:Hp}

def ki(h:Hp)(g:Nat->Nat)(m:Nat):List Nat->List Blk->Prop
 | [],[]=>True
 | b::at',.cells e true a cs::xs=>(xo m cs=true∧evB (h.tr.get b) (fun y=>y=Blk.cells e true a (xT g cs))∧h.fl<=b∧b<h.sz)∧ki h g m at' xs
 | _,_=>False
omit [Cur] in
theorem ki.get{g:Nat->Nat}{m:Nat}:∀{at':List Nat} {bs:List Blk},ki h g m at' bs->at'.length=bs.length∧∀(i:Nat) (x:Blk),bs[i]?=some x->∃b e a cs,at'[i]?=some b∧x = .cells e true a cs∧xo m cs=true∧h.tr.get b=some (.cells e true a (xT g cs))∧h.fl<=b∧b<h.sz
 | [],[],_=>⟨rfl,by simp⟩
 | [],_::_,hh=>by simp[ki] at hh
 | _::_,[],hh=>by simp[ki] at hh
 | b::at',.dead::xs,hh=>by simp[ki] at hh
 | b::at',.map _::xs,hh=>by simp[ki] at hh
 | b::at',.cells e false a cs::xs,hh=>by simp[ki] at hh
 | b::at',.cells e true a cs::xs,hh=>by
  obtain⟨⟨h1,⟨y,h2,h3⟩,h4,h5⟩,h6⟩:=hh;subst h3;obtain⟨h7,h8⟩:=ki.get h6;refine⟨by simp[h7],fun i x hx=>?_⟩
  cases i with
  | zero=>simp at hx;subst hx;exact⟨b,e,a,cs,rfl,rfl,h1,h2,h4,h5⟩
  | succ i=>simpa using h8 i x (by simpa using hx)
omit [Cur] in
theorem Lent.of{at':List Nat}{bs:List Blk}(hn:at'.Nodup)(hl:ki h (gAt at' h.sz) bs.length at' bs):Lent h at' bs:=by
 obtain⟨h1,h2⟩:=hl.get;refine⟨h1,hn,fun i x hx=>?_⟩
 obtain⟨b,e,a,cs,q1,q2,q3,q4,q5,q6⟩:=h2 i x hx;have hi:i<at'.length:=(zzS.1 q1).1
 have e1:gAt at' h.sz i=b:=by
  rw[vx hi];exact (zzS.1 q1).2
 exact⟨e,a,cs,q2,q3,by rw[e1];exact q4,by rw[e1];exact q5,by rw[e1];exact q6⟩
omit [Cur] in
theorem qh1{g:Nat->Nat}{m:Nat}:ki h g m [] []↔True:=Iff.rfl
omit [Cur] in
theorem qf3{g:Nat->Nat}{m b e:Nat}{at':List Nat}{a:Bool}{cs:List AV}{xs:List Blk}:ki h g m (b::at') (.cells e true a cs::xs)↔(xo m cs=true∧evB (h.tr.get b) (fun y=>y=Blk.cells e true a (xT g cs))∧h.fl<=b∧b<h.sz)∧ki h g m at' xs:=Iff.rfl
omit [Cur] in
theorem zj{s f b:Nat}{tr:Tr Blk}{x:Blk}:Hp.put ⟨s,f,tr⟩ b x=⟨s,f,tr.set b x⟩:=rfl
omit [Cur] in
theorem qdD{xs:List Blk}:vV h [] xs=h:=by simp[vV]
omit [Cur] in
theorem qbU{b:Nat}{at':List Nat}{x:Blk}{xs:List Blk}:vV h (b::at') (x::xs)=vV (h.put b x) at' xs:=rfl
omit [Cur] in
theorem qk2{g:Nat->Nat}{v:AV}(hv:clo v=true):rnv g v=v:=by
 have key:(∀v:AV,clo v=true->rnv g v=v):=fun v=>by
  refine AV.rec (motive_1:=fun v=>clo v=true->rnv g v=v) (motive_2:=fun vs=>qx vs=true->xT g vs=vs) ?_ ?_ ?_ ?_ ?_ ?_ ?_ ?_ ?_ ?_ ?_ ?_ ?_ ?_ ?_ ?_ ?_ ?_ ?_ ?_ ?_ ?_ ?_ ?_ ?_ ?_ v
  all_goals first
   | (intros;rfl)
   | (intros;rename_i hh;simp[clo] at hh;done)
   | skip
  ·intro f a c h1 h2 hh;simp only[clo,Bool.and_eq_true] at hh;simp only[rnv,h1 hh.1,h2 hh.2]
  ·intro t v h1 hh;simp only[clo] at hh;simp only[rnv,h1 hh]
  ·intro cs h1 hh;simp only[clo] at hh;simp only[rnv,h1 hh]
  ·intro cs h1 hh;simp only[clo] at hh;simp only[rnv,h1 hh]
  ·intro v vs h1 h2 hh;simp only[qx,Bool.and_eq_true] at hh;simp only[xT,h1 hh.1,h2 hh.2]
 exact key v hv
omit [Cur] in
theorem qB{g:Nat->Nat}:∀{vs:List AV},qx vs=true->xT g vs=vs
 | [],_=>rfl
 | v::vs,h=>by
  simp only[qx,Bool.and_eq_true] at h;simp only[xT,qk2 h.1,qB h.2]
def yI:Blk->Bool
 | .dead=>false
 | _=>true
omit [Cur] in
theorem qbS{α β:Type}{f:α->β}{p:α->Bool}:∀{l:List α},((l.filter p).map f).Nodup->∀{i j:Nat} {x y:α},l[i]?=some x->l[j]?=some y->p x=true->p y=true->f x=f y->i=j
 | [],_,i,j,x,y,hi,_,_,_,_=>by simp at hi
 | a::l,hn,i,j,x,y,hi,hj,hx,hy,he=>by
  have tail:((l.filter p).map f).Nodup:=by
   rw[List.filter_cons] at hn;split at hn
   ·exact (List.nodup_cons.1 hn).2
   ·exact hn
  have no:∀{z:α} {m:Nat},l[m]?=some z->p z=true->p a=true->f a=f z->False:=by
   intro z m hz hpz hpa hfz;rw[List.filter_cons,if_pos hpa] at hn;exact (List.nodup_cons.1 hn).1 (hfz ▸ List.mem_map_of_mem (List.mem_filter.2 ⟨zzM hz,hpz⟩))
  cases i with
  | zero =>
   simp at hi;subst hi;cases j with
   | zero=>rfl
   | succ j=>exact (no (by simpa using hj) hy hx he).elim
  | succ i =>
   cases j with
   | zero=>simp at hj;subst hj;exact (no (by simpa using hi) hx hy he.symm).elim
   | succ j =>
    have hij:i=j:=qbS tail (i:=i) (j:=j) (by simpa using hi) (by simpa using hj) hx hy he;rw[hij]
theorem Wk.mkd{n:Nat}{t:Tr AV}(ts:List (Nat×AV))(bl:List Blk)(src:List Nat)(hT:TWs t (rl src h.sz) bl.length ts)(hB:BWs h (rl src h.sz) bl.length src bl)
  (hI:(((src.zip bl).filter fun p=>decide (p.1<h.sz)&&yI p.2).map Prod.fst).Nodup) (hfl:h.fl=0) (hn:n<=bl.length) (hlow:∀b,b<n->rl src h.sz b=b):Wk n t h (mkT ts) (mkH 0 bl):=by
 obtain⟨hlen,hget⟩:=hB.get;refine Wk.of (r:=rl src h.sz) ⟨hfl.symm,fun b' x' hb hg=>?_,fun b1 b2 h1 h2 l1 l2 he hl=>?_,fun b' _ _ _=>by rw[hfl];exact Nat.zero_le _,hlow,hn,fun b _ hb=>by rw[hfl] at hb;exact absurd hb (Nat.not_lt_zero _),fun j v' hj=>?_⟩
 ·rw[zZ] at hg;obtain⟨b,q1,q2⟩:=hget b' x' hg;have:rl src h.sz b'=b:=by simp[rl,List.getD_eq_getElem?_getD,q1]
  rw[this];exact q2
 ·obtain⟨x1,g1,d1⟩:=l1;obtain⟨x2,g2,d2⟩:=l2;rw[zZ] at g1 g2;obtain⟨c1,q1,_⟩:=hget b1 x1 g1;obtain⟨c2,q2,_⟩:=hget b2 x2 g2;have e1:rl src h.sz b1=c1:=by simp[rl,List.getD_eq_getElem?_getD,q1]
  have e2:rl src h.sz b2=c2:=by simp[rl,List.getD_eq_getElem?_getD,q2]
  rw[e1,e2] at he;rw[e1] at hl;have v1:yI x1=true:=by cases x1<;>first|rfl|exact absurd rfl d1
  have v2:yI x2=true:=by cases x2<;>first|rfl|exact absurd rfl d2
  refine qbS hI (i:=b1) (j:=b2) (x:=(c1,x1)) (y:=(c2,x2)) ?_ ?_ ?_ ?_ he
  ·rw[List.getElem?_zip_eq_some];exact⟨q1,g1⟩
  ·rw[List.getElem?_zip_eq_some];exact⟨q2,g2⟩
  ·simp[hl,v1]
  ·simp[← he,hl,v2]
 ·exact hT.get _ (kD hj)
omit [Cur] in
theorem qf7{b o:Nat}{k:AV->Prop}:Z7 (.ptr b o) k↔k (.ptr b o):=Iff.rfl
omit [Cur] in
theorem qig{cs:List AV}{o:Nat}{k:AV->Prop}:Z7 (.pf cs o) k↔k (.pf cs o):=Iff.rfl
omit [Cur] in
theorem qf6{b:Nat}{k:AV->Prop}:Z7 (.map b) k↔k (.map b):=Iff.rfl
omit [Cur] in
theorem qih{b:Nat}{k:AV->Prop}:Z7 (.yl b) k↔k (.yl b):=Iff.rfl
omit [Cur] in
theorem qif{f:Nat}{a c:List AV}{k:AV->Prop}:Z7 (.fn f a c) k↔k (.fn f a c):=Iff.rfl
omit [Cur] in
theorem qlg{C:qO}{ops:List ROp}{Q:Tr AV->Hp->Prop}{t:Tr AV}{s f f':Nat}{tr:Tr Blk}:VR' C ops Q t (Hp.down ⟨s,f,tr⟩ f')↔VR' C ops Q t ⟨s,f',tr⟩:=Iff.rfl
omit [Cur] in
theorem qqK{C:qO}{ops:List ROp}{Q:Tr AV->Hp->Prop}{t:Tr AV}{s f:Nat}{tr:Tr Blk}{dst:Option Nat}{o:IOp}:VR' C (⟨dst,.op o,none⟩::ops) Q t ⟨s,f,tr⟩ ↔
  if wr (.op o)=true then opK qp o t ⟨s,f,tr⟩ (fun v h'=>xc t dst v (fun t'=>VR' C ops Q t' h')) else opK qp o t ⟨s,s,tr⟩ (fun v h'=>xc t dst v (fun t'=>VR' C ops Q t' (h'.down f))):=ql0
omit [Cur] in
theorem qoJ{C:qO}{Q:Tr AV->Hp->Prop}{t:Tr AV}{s f:Nat}{tr:Tr Blk}:VR' C [] Q t ⟨s,f,tr⟩↔Q t ⟨s,f,tr⟩:=Iff.rfl
omit [Cur] in
theorem qjw{m:Nat}:∀{v:AV},clo v=true->bnd m v=true:=by
 intro v;refine AV.rec (motive_1:=fun v=>clo v=true->bnd m v=true) (motive_2:=fun vs=>qx vs=true->xo m vs=true) ?_ ?_ ?_ ?_ ?_ ?_ ?_ ?_ ?_ ?_ ?_ ?_ ?_ ?_ ?_ ?_ ?_ ?_ ?_ ?_ ?_ ?_ ?_ ?_ ?_ ?_ v
 all_goals first
  | (intros;rfl)
  | (intros;rename_i hh;simp[clo] at hh;done)
  | skip
 ·intro f a c h1 h2 hh;simp only[clo,Bool.and_eq_true] at hh;simp only[bnd,h1 hh.1,h2 hh.2,Bool.and_self]
 ·intro t v h1 hh;simp only[clo] at hh;simp only[bnd,h1 hh]
 ·intro cs h1 hh;simp only[clo] at hh;simp only[bnd,h1 hh]
 ·intro cs h1 hh;simp only[clo] at hh;simp only[bnd,h1 hh]
 ·intro v vs h1 h2 hh;simp only[qx,Bool.and_eq_true] at hh;simp only[xo,h1 hh.1,h2 hh.2,Bool.and_self]
omit [Cur] in
theorem ze{m:Nat}:∀{vs:List AV},qx vs=true->xo m vs=true
 | [],_=>rfl
 | v::vs,h=>by
  simp only[qx,Bool.and_eq_true] at h;simp only[xo,qjw h.1,ze h.2,Bool.and_self]
end Go.Kc
end
