/- Part 5 of the abstract machine and of the functions' walks. Conditions: with each theorem. -/
import Derived.Test.YtoekfdofbagoiaaGreatDoorK4
import Derived.Laws.Externs
import Derived.Lib.Overlaps
set_option maxHeartbeats 4000000
set_option linter.unusedSectionVars false
set_option linter.unusedSimpArgs false
set_option linter.unusedVariables false
set_option linter.unnecessarySimpa false
set_option linter.defProp false
section
namespace Go.Kc
variable [Cur]
variable {P:Program} {n:Nat} {C:qx} {d:Bool} {Q:Tr AV->Hp->Prop} {t:Tr AV} {h:Hp} {k:AV->Hp->Prop}

def evA(v:AV)(k:AV->Prop):Prop:=k v
omit [Cur] in
@[congr] theorem qmC {v v':AV} {k:AV->Prop} {mk:Prop} (_:qR=mk) (h:v=v'):evA v k=evA v' k:=by rw[h]
theorem qiO{v:AV}{k:AV->Prop}:evA v k↔k v:=Iff.rfl
def evL(v:List AV)(k:List AV->Prop):Prop:=k v
omit [Cur] in
@[congr] theorem qmE {v v':List AV} {k:List AV->Prop} {mk:Prop} (_:qR=mk) (h:v=v'):evL v k=evL v' k:=by rw[h]
theorem qiP{v:List AV}{k:List AV->Prop}:evL v k↔k v:=Iff.rfl
def evN(v:Nat)(k:Nat->Prop):Prop:=k v
omit [Cur] in
@[congr] theorem qmF {v v':Nat} {k:Nat->Prop} {mk:Prop} (_:qR=mk) (h:v=v'):evN v k=evN v' k:=by rw[h]
theorem qiQ{v:Nat}{k:Nat->Prop}:evN v k↔k v:=Iff.rfl
def evT(v:Bool)(k:Bool->Prop):Prop:=k v
omit [Cur] in
@[congr] theorem qmH {v v':Bool} {k:Bool->Prop} {mk:Prop} (_:qR=mk) (h:v=v'):evT v k=evT v' k:=by rw[h]
theorem qiR{v:Bool}{k:Bool->Prop}:evT v k↔k v:=Iff.rfl
def evB(o:Option Blk)(k:Blk->Prop):Prop:=∃v,o=some v∧k v
omit [Cur] in
@[congr] theorem qmD {o o':Option Blk} {k:Blk->Prop} {mk:Prop} (_:qR=mk) (h:o=o'):evB o k=evB o' k:=by rw[h]
theorem qgv{v:Blk}{k:Blk->Prop}:evB (some v) k↔k v:=by simp[evB]
def ifK(c:Prop)(p:Prop):Prop:=c∧p
omit [Cur] in
@[congr] theorem qmJ {c c' p:Prop} {mk:Prop} (_:qR=mk) (h:c=c'):ifK c p=ifK c' p:=by rw[h]
theorem qdh{p:Prop}:ifK True p↔p:=by simp[ifK]
omit [Cur] in
theorem qi8{c c' p:Prop}:ifK (c∧c') p↔ifK c (ifK c' p):=by simp[ifK,and_assoc]
omit [Cur] in
theorem qeE{x:Bool}{p:Prop}:qb x p↔ifK (x=true) p:=qa _ _
omit [Cur] in
theorem qU{n:Nat}{k:Nat->Prop}:qd n k↔evN n k:=by rw[qg];exact Iff.rfl
omit [Cur] in
theorem qaI{n:Bool}{k:Bool->Prop}:qn n k↔evT n k:=by rw[qk];exact Iff.rfl
@[congr] theorem qiS {n:Bool} {k:Bool->Prop} {mk:Prop} (_:qR=mk):qn n k=qn n k:=rfl
@[congr] theorem qki {n:Bool} {k:Prop} {mk:Prop} (_:qR=mk):qb n k=qb n k:=rfl
theorem qn4{x:Bool}{k:Bool->Prop}:unB (.b x) k↔k x:=Iff.rfl
omit [Cur] in
theorem qj1{b o:Nat}{k:Nat->Nat->Prop}:unP (.ptr b o) k↔k b o:=Iff.rfl
omit [Cur] in
theorem qn5{q:IntKind}{z:Int}{k:IntKind->Int->Prop}:unI (.i q z) k↔k q z:=Iff.rfl
omit [Cur] in
theorem qn6{q:IntKind}{z:Int}{k:Nat->Prop}:unN (.i q z) k↔ifK (0<=z) (evN z.toNat k):=by
 cases z with
 | ofNat m=>exact⟨fun h=>⟨by simp_all,h⟩,fun h=>h.2⟩
 | negSucc m=>exact⟨fun h=>h.elim,fun h=>absurd h.1 (by omega)⟩
@[congr] theorem qmX {x:AV} {k:Nat->Nat->Prop} {mk:Prop} (_:qR=mk):unP x k=unP x k:=rfl
@[congr] theorem qmV {x:AV} {k:IntKind->Int->Prop} {mk:Prop} (_:qR=mk):unI x k=unI x k:=rfl
@[congr] theorem qmW {x:AV} {k:Nat->Prop} {mk:Prop} (_:qR=mk):unN x k=unN x k:=rfl

section
variable {q q':IntKind} {n m:Int} {a c:List UInt8} {k:AV->Prop}
omit [Cur] in
theorem qda{z:Int}:qT (qaD q z) (fun r=>k (.i q r))↔evA (.i q (q.wrap z)) k:=by
 rw[qy,xT];exact Iff.rfl
omit [Cur] in
theorem qig:qP qi .lss (.i q n) (.i q m) k↔evA (.b (decide (n<m))) k:=by simp[qP,qM,qa,xz,evA]
omit [Cur] in
theorem qie:qP qi .gtr (.i q n) (.i q m) k↔evA (.b (decide (m<n))) k:=by simp[qP,qM,qa,xz,evA]
omit [Cur] in
theorem qid:qP qi .geq (.i q n) (.i q m) k↔evA (.b (decide (m<=n))) k:=by
 simp only[qP,qM,qa,xz,qk,decide_true,true_and,evA];rw[← decide_not];simp
omit [Cur] in
theorem qif:qP qi .leq (.i q n) (.i q m) k↔evA (.b (decide (n<=m))) k:=by
 simp only[qP,qM,qa,xz,qk,decide_true,true_and,evA];rw[← decide_not];simp
omit [Cur] in
theorem qic:qP qi .eql (.i q n) (.i q m) k↔evA (.b (decide (n=m))) k:=by
 simp only[qP,qM,qa,jU,qk,decide_true,true_and,evA];rw[show (n==m)=decide (n=m) from by rw[Bool.eq_iff_iff];simp]
omit [Cur] in
theorem qii:qP qi .neq (.i q n) (.i q m) k↔evA (.b (!decide (n=m))) k:=by
 simp only[qP,qM,qa,jU,qk,decide_true,true_and,evA];rw[show (n==m)=decide (n=m) from by rw[Bool.eq_iff_iff];simp]
omit [Cur] in
theorem qh9:qP qi .add (.i q n) (.i q m) k↔evA (.i q (q.wrap (n+m))) k:=by
 simp only[qP,qM,qa,xT,qy,decide_true,true_and];exact Iff.rfl
omit [Cur] in
theorem qim:qP qi .sub (.i q n) (.i q m) k↔evA (.i q (q.wrap (n-m))) k:=by
 simp only[qP,qM,qa,xT,qy,decide_true,true_and];exact Iff.rfl
omit [Cur] in
theorem qih:qP qi .mul (.i q n) (.i q m) k↔evA (.i q (q.wrap (n*m))) k:=by
 simp only[qP,qM,qa,xT,qy,decide_true,true_and];exact Iff.rfl
def orI(q:IntKind)(x y:Int):Int:=q.wrap (BitVec.ofInt q.bits x ||| BitVec.ofInt q.bits y).toNat
def qni(q:IntKind)(x y:Int):Int:=q.wrap (BitVec.ofInt q.bits x &&& BitVec.ofInt q.bits y).toNat
def qob(q:IntKind)(x y:Int):Int:=q.wrap (BitVec.ofInt q.bits x ^^^ BitVec.ofInt q.bits y).toNat
def qnl(q:IntKind)(x y:Int):Int:=q.wrap (BitVec.ofInt q.bits x &&& ~~~ (BitVec.ofInt q.bits y)).toNat
omit [Cur] in
theorem qkF:qP qi .or (.i q n) (.i q m) k↔evA (.i q (orI q n m)) k:=by
 simp only[qP,qM,qa,qy,decide_true,true_and,orI,evA]
omit [Cur] in
theorem qia:qP qi .and (.i q n) (.i q m) k↔evA (.i q (qni q n m)) k:=by
 simp only[qP,qM,qa,qy,decide_true,true_and,qni,evA]
omit [Cur] in
theorem qin:qP qi .xor (.i q n) (.i q m) k↔evA (.i q (qob q n m)) k:=by
 simp only[qP,qM,qa,qy,decide_true,true_and,qob,evA]
omit [Cur] in
theorem qib:qP qi .andNot (.i q n) (.i q m) k↔evA (.i q (qnl q n m)) k:=by
 simp only[qP,qM,qa,qy,decide_true,true_and,qnl,evA]
def qoS(q:IntKind)(x m:Int):Int:=x.fdiv (2 ^ min m.toNat q.bits)
def qoR(q:IntKind)(x m:Int):Int:=q.wrap (x*2 ^ min m.toNat q.bits)
omit [Cur] in
theorem qil{q2:IntKind}:qP qi .shr (.i q n) (.i q2 m) k↔ifK (0<=m) (evA (.i q (qoS q n m)) k):=by
 cases m with
 | ofNat m =>
  show qd (min m q.bits) (fun a=>qT (n.fdiv (p2 a)) (fun r=>k (.i q r)))↔_
  rw[qg,qy,qes];exact⟨fun h=>⟨by simp_all,h⟩,fun h=>h.2⟩
 | negSucc m=>exact⟨fun h=>h.elim,fun h=>absurd h.1 (by omega)⟩
omit [Cur] in
theorem qik{q2:IntKind}:qP qi .shl (.i q n) (.i q2 m) k↔ifK (0<=m) (evA (.i q (qoR q n m)) k):=by
 cases m with
 | ofNat m =>
  show qd (min m q.bits) (fun a=>qT (q.wrap (n*p2 a)) (fun r=>k (.i q r)))↔_
  rw[qg,qy,qes];exact⟨fun h=>⟨by simp_all,h⟩,fun h=>h.2⟩
 | negSucc m=>exact⟨fun h=>h.elim,fun h=>absurd h.1 (by omega)⟩
omit [Cur] in
theorem qbs(x y:Int):eqI x y=decide (x=y):=by rw[jU,Bool.eq_iff_iff];simp
omit [Cur] in
theorem qij(h:m≠0):qP qi .quo (.i q n) (.i q m) k↔evA (.i q (q.wrap (n.tdiv m))) k:=by
 simp only[qP,qM,qa,xT,qy,decide_true,true_and,qbs,decide_eq_false h];exact Iff.rfl
omit [Cur] in
theorem qd8(h:m≠0):qP qi .rem (.i q n) (.i q m) k↔evA (.i q (n.tmod m)) k:=by
 simp only[qP,qM,qa,qy,decide_true,true_and,qbs,decide_eq_false h];exact Iff.rfl
omit [Cur] in
theorem qf3:qP qi .eql (.s a) (.s c) k↔evA (.b (decide (a=c))) k:=by
 simp only[qP,xc,zZ,qk,evA];rw[show (a==c)=decide (a=c) from by rw[Bool.eq_iff_iff];simp]
omit [Cur] in
theorem qf8:qP qi .neq (.s a) (.s c) k↔evA (.b (!decide (a=c))) k:=by
 simp only[qP,xc,zZ,qk,evA];rw[show (a==c)=decide (a=c) from by rw[Bool.eq_iff_iff];simp]
omit [Cur] in
theorem qf2:qP qi .add (.s a) (.s c) k↔ifK (a.length+c.length<=9223372036854775807) (evA (.s (a++c)) k):=by
 show (Bool.rec (motive:=fun _=>Prop) False (k (.s (a++c))) (Nat.ble (a.length+c.length) 9223372036854775807):Prop)↔_
 rw[show (a.length+c.length<=9223372036854775807)=(Nat.ble (a.length+c.length) 9223372036854775807=true) from by simp_all]
 cases Nat.ble (a.length+c.length) 9223372036854775807
 ·exact⟨False.elim,fun h=>by cases h.1⟩
 ·exact⟨fun h=>⟨rfl,h⟩,fun h=>h.2⟩
omit [Cur] in
theorem qf7:qP qi .lss (.s a) (.s c) k↔evA (.b (ltS a c)) k:=by simp only[qP,xc,qk,evA]
omit [Cur] in
theorem qf4:qP qi .geq (.s a) (.s c) k↔evA (.b (!ltS a c)) k:=by simp only[qP,xc,qk,evA]
omit [Cur] in
theorem qf6:qP qi .leq (.s a) (.s c) k↔evA (.b (ltS a c||decide (a=c))) k:=by
 simp only[qP,xc,zZ,qk,evA];rw[show (a==c)=decide (a=c) from by rw[Bool.eq_iff_iff];simp]
omit [Cur] in
theorem qf5:qP qi .gtr (.s a) (.s c) k↔evA (.b (!(ltS a c||decide (a=c)))) k:=by
 simp only[qP,xc,zZ,qk,evA];rw[show (a==c)=decide (a=c) from by rw[Bool.eq_iff_iff];simp]
omit [Cur] in
theorem qmx{x:Bool}:x7 .not (.b x) k↔evA (.b (!x)) k:=by simp only[x7,qk,evA]
omit [Cur] in
theorem qmw:x7 .neg (.i q n) k↔evA (.i q (q.wrap (0-n))) k:=by simp only[x7,qy,evA]
omit [Cur] in
theorem qad{x:Int}(h1:-9223372036854775808<=x)(h2:x<=9223372036854775807):IntKind.wrap .i64 x=x:=by
 simp[IntKind.wrap,IntKind.bits,IntKind.signed];omega
omit [Cur] in
theorem qoV{x:Int}(h1:0<=x)(h2:x<=255):IntKind.wrap .u8 x=x:=by
 simp[IntKind.wrap,IntKind.bits,IntKind.signed];omega
omit [Cur] in
theorem qoj:cvK qi q (.i q' n) k↔evA (.i q (q.wrap n)) k:=by
 show qT (qaD q n) (fun r=>k (.i q r))↔_
 exact qda
end

omit [Cur] in
theorem qlK{s f:Nat}{tr:Tr Blk}{x:Blk}{k:Nat->Hp->Prop}:qV ⟨s,f,tr⟩ x k↔evN (s+1) (fun s'=>k s ⟨s',f,tr.set s x⟩):=by
 rw[qw];exact Iff.rfl
omit [Cur] in
theorem qmj{s f b:Nat}{tr:Tr Blk}{x:Blk}{k:Hp->Prop}:zj ⟨s,f,tr⟩ b x k↔ifK (f<=b) (k ⟨s,f,tr.set b x⟩):=qF _ _ _ _
omit [Cur] in
theorem qkh{s f:Nat}{tr:Tr Blk}:Hp.up ⟨s,f,tr⟩=⟨s,s,tr⟩:=rfl
omit [Cur] in
theorem qec{s f f':Nat}{tr:Tr Blk}:Hp.down ⟨s,f,tr⟩ f'=⟨s,f',tr⟩:=rfl
def zY(x:Blk)(k:Nat->Bool->Bool->List AV->Prop):Prop:=match x with | .cells e w a cs=>k e w a cs|_=>False
omit [Cur] in
@[congr] theorem qiv {x x':Blk} {k:Nat->Bool->Bool->List AV->Prop} {mk:Prop} (_:qR=mk) (h:x=x'):zY x k=zY x' k:=by rw[h]
theorem qcq{e:Nat}{w a:Bool}{cs:List AV}{k:Nat->Bool->Bool->List AV->Prop}:zY (.cells e w a cs) k↔k e w a cs:=Iff.rfl
omit [Cur] in
theorem wm{b:Nat}{k:Nat->Bool->Bool->List AV->Prop}:zB h b k↔evB (h.tr.get b) (fun x=>zY x k):=by
 rw[qq];constructor
 ·rintro⟨e,w,a,cs,h1,h2⟩;exact⟨_,h1,h2⟩
 ·rintro⟨x,h1,h2⟩;cases x with
  | cells e w a cs=>exact⟨e,w,a,cs,h1,h2⟩
  | dead=>exact h2.elim
  | map es=>exact h2.elim
def jS(cs:List AV)(o n:Nat)(k:List AV->Prop):Prop:=o<=cs.length∧n<=(cs.drop o).length∧k ((cs.drop o).take n)
theorem qiJ{cs:List AV}{o n:Nat}{k:List AV->Prop}:jS cs o n k↔ifK (o+n<=cs.length) (evL ((cs.drop o).take n) k):=by
 unfold jS ifK;rw[List.length_drop];exact⟨fun⟨h1,h2,h3⟩=>⟨by omega,h3⟩,fun⟨h1,h2⟩=>⟨by omega,by omega,h2⟩⟩
omit [Cur] in
theorem drop_take{cs:List AV}{o n:Nat}{k:List AV->Prop}:xr o cs (fun l=>zT n l k)↔jS cs o n k:=by
 rw[qC,qu];exact Iff.rfl
omit [Cur] in
theorem qgW{b o:Nat}{k:AV->Prop}:ldV h (.ptr b o) k↔evB (h.tr.get b) (fun x=>zY x (fun _ _ _ cs=>evO cs[o]? k)):=by
 show zB h b (fun _ _ _ cs=>wN cs o k)↔_
 rw[wm]
 have:(fun (_:Nat) (_ _:Bool) (cs:List AV)=>wN cs o k)=fun _ _ _ cs=>evO cs[o]? k:=by
  funext _ _ _ cs;exact propext (zd _ _ _)
 rw[this]
omit [Cur] in
theorem qnG{cs:List AV}{o:Nat}{k:AV->Prop}:ldV h (.pf cs o) k↔evO cs[o]? k:=zd _ _ _
omit [Cur] in
theorem qnE{b o:Nat}{k:AV->Prop}:ldK h b o k↔evB (h.tr.get b) (fun x=>zY x (fun _ _ _ cs=>evO cs[o]? k)):=qgW
omit [Cur] in
theorem qgX{b o n:Nat}{k:List AV->Prop}:xe h b o n k↔evB (h.tr.get b) (fun x=>zY x (fun _ _ _ cs=>jS cs o n k)):=by
 show zB h b (fun _ _ _ cs=>xr o cs (fun l=>zT n l k))↔_
 rw[wm]
 grind[drop_take]
omit [Cur] in
theorem qjg{b o n:Nat}{k:List AV->Prop}:qa9 h (.ptr b o) n k↔evB (h.tr.get b) (fun x=>zY x (fun _ _ _ cs=>jS cs o n k)):=qgX
omit [Cur] in
theorem qlt{cs:List AV}{o n:Nat}{k:List AV->Prop}:qa9 h (.pf cs o) n k↔jS cs o n k:=drop_take
omit [Cur] in
theorem qjm{b o n:Nat}{k:AV->Prop}:qaO (.ptr b o) n k↔evN (o+n) (fun o'=>k (.ptr b o')):=qU (n:=o+n) (k:=fun o'=>k (.ptr b o'))
omit [Cur] in
theorem qlG{cs:List AV}{o n:Nat}{k:AV->Prop}:qaO (.pf cs o) n k↔evN (o+n) (fun o'=>k (.pf cs o')):=qU (n:=o+n) (k:=fun o'=>k (.pf cs o'))
theorem qoT{b o:Nat}{vs:List AV}{k:Hp->Prop}:stK h b o vs k↔evB (h.tr.get b) (fun x=>zY x (fun e w a cs=>ifK (w=true∧qt vs=true∧o+vs.length<=cs.length) (evL (cs.take o++(vs++cs.drop (o+vs.length))) (fun cs'=>zj h b (.cells e true a cs') k)))):=by
 show zB h b _↔_;rw[wm]
 have:(fun (e:Nat) (w a:Bool) (cs:List AV)=>(Bool.rec (motive:=fun _=>Prop) False (Bool.rec (motive:=fun _=>Prop) False (zh vs o cs (fun cs'=>zj h b (.cells e w a cs') k)) (qt vs)) w:Prop)) =
   fun e w a cs=>ifK (w=true∧qt vs=true∧o+vs.length<=cs.length) (evL (cs.take o++(vs++cs.drop (o+vs.length))) (fun cs'=>zj h b (.cells e true a cs') k)):=by
  funext e w a cs;refine propext ?_;cases w with
  | false=>exact⟨False.elim,fun hh=>by have:=hh.1.1;grind⟩
  | true =>
   cases hc:qt vs with
   | false=>exact⟨False.elim,fun hh=>by have:=hh.1.2.1;grind⟩
   | true=>exact (zo _ _ _ _).trans ⟨fun⟨h1,h2⟩=>⟨⟨rfl,rfl,h1⟩,h2⟩,fun⟨⟨_,_,h1⟩,h2⟩=>⟨h1,h2⟩⟩
 rw[this]
def stV(h:Hp)(b o:Nat)(v:AV)(n:Nat)(k:Hp->Prop):Prop:=qb (jT v) (wz (cellsOf v) (fun m=>qb (Nat.beq m n) (stK h b o (cellsOf v) k)))
theorem ju{x y:Nat}:Nat.beq x y=true↔x=y:=(by simp_all)
theorem qjX{b o:Nat}{v:AV}{n:Nat}{k:Hp->Prop}:stV h b o v n k↔ifK (jT v=true) (evL (cellsOf v) (fun cs=>ifK (cs.length=n) (stK h b o cs k))):=by
 unfold stV;rw[qa,zw,qa,ju];exact Iff.rfl
omit [Cur] in
theorem zg{x y:Nat}:Nat.ble x y=true↔x<=y:=by simp_all

omit [Cur] in
theorem qme{x:O}:opK qi (.mov x) t h k↔evK t x (fun v=>k v h):=Iff.rfl
omit [Cur] in
theorem jg{b:Bool}{p q:Prop}:(Bool.rec (motive:=fun _=>Prop) q p b:Prop)↔if b=true then p else q:=by cases b<;>simp
omit [Cur] in
theorem qjF{c x y:O}:opK qi (.pick c x y) t h k↔evK t c (fun c=>unB c (fun c=>if c=true then evK t x (fun v=>k v h) else evK t y (fun v=>k v h))):=by
 show evK t c (fun c=>unB c (fun c=>Bool.rec (motive:=fun _=>Prop) (evK t y (fun v=>k v h)) (evK t x (fun v=>k v h)) c))↔_
 simp only[jg]
omit [Cur] in
theorem qhm{z:List AV}:opK qi (.alloc z) t h k↔qV h (.cells 0 true false z) (fun b h'=>k (.ptr b 0) h'):=Iff.rfl
omit [Cur] in
theorem ql1{x:O}:opK qi (.box x) t h k↔evK t x (fun v=>qb (jT v) (evL (cellsOf v) (fun cs=>qV h (.cells 0 true false cs) (fun b h'=>k (.ptr b 0) h')))):=Iff.rfl
omit [Cur] in
theorem qhn{z:List AV}{ps:List (Nat×Nat×O)}:opK qi (.build z ps) t h k↔zA t ps z (fun cs=>k (.agg cs) h):=Iff.rfl
omit [Cur] in
theorem qfo{n:Nat}{z:List AV}{ps:List (Nat×Nat×O)}:opK qi (.buildS n z ps) t h k↔evL (List.replicate n z).flatten (fun cs=>zA t ps cs (fun cs=>qV h (.cells 0 true false cs) (fun b h'=>k (.sl b 0 n n false) h'))):=by
 show qay z n _↔_;rw[zI];exact Iff.rfl
omit [Cur] in
theorem qhs{x:O}:opK qi (.load1 x) t h k↔evK t x (fun p=>ldV h p (fun v=>k v h)):=Iff.rfl
omit [Cur] in
theorem qht{n:Nat}{x:O}:opK qi (.loadN n x) t h k↔evK t x (fun p=>qa9 h p n (fun cs=>k (.agg cs) h)):=Iff.rfl
omit [Cur] in
theorem qhw{n:Nat}{x v:O}:opK qi (.store n x v) t h k↔evK t x (fun p=>unP p (fun b o=>evK t v (fun v=>stV h b o v n (fun h'=>k .undef h')))):=Iff.rfl
def qcg(v:AV)(k:AV->Prop):Prop:=match v with | .ptr b o=>k (.ptr b o) | .fn f a c=>k (.fn f a c) | .map r=>k (.map r) | .pf cs o=>k (.pf cs o) | .yl b=>k (.yl b)|_=>False
theorem qfr{x:O}:opK qi (.nilChk x) t h k↔evK t x (fun v=>qcg v (fun v=>k v h)):=by
 show evK t x (fun v=>_)↔_
 refine iff_of_eq (congrArg _ (funext fun v=>?_))
 cases v<;>rfl
omit [Cur] in
theorem ql0{op:BinOp}{x y:O}:opK qi (.bin op x y) t h k↔evK t x (fun x=>evK t y (fun y=>qP qi op x y (fun v=>k v h))):=Iff.rfl
omit [Cur] in
theorem ql4{neg:Bool}{x y:O}:opK qi (.eqB neg x y) t h k↔evK t x (fun x=>evK t y (fun y=>unB x (fun x=>unB y (fun y=>evT (xor neg (x==y)) (fun r=>k (.b r) h))))):=by
 show evK t x (fun x=>evK t y (fun y=>unB x (fun x=>unB y (fun y=>qn _ _))))↔_
 simp only[qaI]
omit [Cur] in
theorem ql5{neg:Bool}{q:NK}{x:O}:opK qi (.eqN neg q x) t h k↔evK t x (fun x=>ze q x (fun r=>evT (xor neg r) (fun r=>k (.b r) h))):=by
 show evK t x (fun x=>ze q x (fun r=>qn _ _))↔_
 grind[qaI]
omit [Cur] in
theorem ql3{neg:Bool}{ks:List PK}{x y:O}:opK qi (.eqA neg ks x y) t h k↔evK t x (fun x=>evK t y (fun y=>match x with | .agg a=>(match y with | .agg c=>zl ks a c (fun r=>qn (xor neg r) (fun r=>k (.b r) h))|_=>False)|_=>False)):=Iff.rfl
omit [Cur] in
theorem qnX{op:UnOp}{x:O}:opK qi (.un op x) t h k↔evK t x (fun x=>x7 op x (fun v=>k v h)):=Iff.rfl
omit [Cur] in
theorem qhp{q:IntKind}{x:O}:opK qi (.cvInt q x) t h k↔evK t x (fun x=>cvK qi q x (fun v=>k v h)):=Iff.rfl
theorem qhq{x:O}:opK qi (.cvStr x) t h k↔evK t x (fun x=>match x with | .s a=>k (.s a) h|_=>False):=Iff.rfl
omit [Cur] in
theorem qmf{x:O}:opK qi (.s2b x) t h k↔evK t x (fun x=>match x with | .s a=>qV h (.cells 1 true true (a.map fun c=>.i .u8 (Int.ofNat c.toNat))) (fun b h'=>k (.own b a.length) h')|_=>False):=by
 show evK t x (fun x=>_)↔_
 refine iff_of_eq (congrArg _ (funext fun v=>?_))
 cases v<;>first|rfl|exact qg _ _
omit [Cur] in
theorem qlZ{x:O}:opK qi (.b2s x) t h k↔evK t x (fun x=>match x with
  | .nils=>k (.s []) h
  | .sl b o n _ _=>xe h b o n (fun cs=>qK cs (fun l=>k (.s l) h))
  | .fz n cs=>jS cs 0 n (fun cs=>qK cs (fun l=>k (.s l) h))
  | .e0=>k (.s []) h
  | .own b n=>xe h b 0 n (fun cs=>qK cs (fun l=>k (.s l) h))
  | _=>False):=by
 show evK t x (fun x=>_)↔_
 refine iff_of_eq (congrArg _ (funext fun v=>?_))
 cases v<;>first|rfl|exact propext ((qu _ _ _).trans ⟨fun hh=>⟨Nat.zero_le _,by simpa using hh⟩,fun hh=>by simpa using hh.2⟩)
omit [Cur] in
theorem qhr{off:Nat}{x:O}:opK qi (.fAddr off x) t h k↔evK t x (fun p=>qaO p off (fun v=>k v h)):=Iff.rfl
def qk6(off:Nat)(n:Option Nat)(x:AV)(k:AV->Prop):Prop:=match x with
 | .agg cs=>(match n with|none=>evO cs[off]? k|some n=>jS cs off n (fun l=>k (.agg l)))
 | _=>False
theorem qgC{off:Nat}{cs:List AV}{k:AV->Prop}:qk6 off none (.agg cs) k↔evO cs[off]? k:=Iff.rfl
omit [Cur] in
theorem qgD{off n:Nat}{cs:List AV}{k:AV->Prop}:qk6 off (some n) (.agg cs) k↔jS cs off n (fun l=>k (.agg l)):=Iff.rfl
omit [Cur] in
theorem ql7{off:Nat}{n:Option Nat}{x:O}:opK qi (.fld off n x) t h k↔evK t x (fun x=>qk6 off n x (fun v=>k v h)):=by
 show evK t x (fun x=>_)↔_
 refine iff_of_eq (congrArg _ (funext fun v=>?_))
 cases v<;>first|rfl|skip
 cases n with
 | none=>exact propext (zd _ _ _)
 | some n=>exact propext drop_take
omit [Cur] in
theorem qfp{len esz:Nat}{x i:O}:opK qi (.iAddrA len esz x i) t h k↔evK t x (fun p=>evK t i (fun i=>unN i (fun i=>ifK (i<len) (evN (i*esz) (fun o=>qaO p o (fun v=>k v h)))))):=by
 show evK t x (fun p=>evK t i (fun i=>unN i (fun i=>qb (Nat.ble (Nat.succ i) len) _)))↔_
 simp only[qa,zg];exact Iff.rfl
def ixK(esz:Nat)(x:AV)(i:Nat)(k:AV->Prop):Prop:=match x with
 | .sl b o len _ _=>ifK (i<len) (evN (o+i*esz) (fun o'=>k (.ptr b o')))
 | .fz len cs=>ifK (i<len) (evN (i*esz) (fun o'=>k (.pf cs o')))
 | .own b len=>ifK (i<len) (evN (i*esz) (fun o'=>k (.ptr b o')))
 | _=>False
theorem qnB{esz i b o len cap:Nat}{l:Bool}{k:AV->Prop}:ixK esz (.sl b o len cap l) i k↔ifK (i<len) (evN (o+i*esz) (fun o'=>k (.ptr b o'))):=Iff.rfl
omit [Cur] in
theorem qnA{esz i len:Nat}{cs:List AV}{k:AV->Prop}:ixK esz (.fz len cs) i k↔ifK (i<len) (evN (i*esz) (fun o'=>k (.pf cs o'))):=Iff.rfl
omit [Cur] in
theorem qll{esz i b len:Nat}{k:AV->Prop}:ixK esz (.own b len) i k↔ifK (i<len) (evN (i*esz) (fun o'=>k (.ptr b o'))):=Iff.rfl
def qen(x:AV)(p:Prop):Prop:=match x with | .sl _ _ _ _ _=>p | .fz _ _=>p | .own _ _=>p|_=>False
theorem qgS{b o len cap:Nat}{l:Bool}{p:Prop}:qen (.sl b o len cap l) p↔p:=Iff.rfl
omit [Cur] in
theorem qgR{len:Nat}{cs:List AV}{p:Prop}:qen (.fz len cs) p↔p:=Iff.rfl
omit [Cur] in
theorem qfd{b len:Nat}{p:Prop}:qen (.own b len) p↔p:=Iff.rfl
omit [Cur] in
theorem qfq{esz:Nat}{x i:O}:opK qi (.iAddrS esz x i) t h k↔evK t x (fun x=>qen x (evK t i (fun i=>unN i (fun i=>ixK esz x i (fun v=>k v h))))):=by
 show evK t x (fun x=>_)↔_
 refine iff_of_eq (congrArg _ (funext fun v=>?_))
 cases v<;>first|rfl|(simp only[qa,zg,qU];rfl)
omit [Cur] in
theorem qjD{len esz:Nat}{agg:Bool}{x i:O}:opK qi (.idxA len esz agg x i) t h k↔evK t x (fun x=>match x with
  | .agg cs=>evK t i (fun i=>unN i (fun i=>ifK (i<len) (evN (i*esz) (fun o=>if agg=true then jS cs o esz (fun l=>k (.agg l) h) else evO cs[o]? (fun v=>k v h)))))
  | _=>False):=by
 show evK t x (fun x=>_)↔_
 refine iff_of_eq (congrArg _ (funext fun v=>?_))
 cases v<;>first|rfl|skip
 simp only[qa,zg,qU,jg,drop_take];have:∀(cs:List AV) (o:Nat),wN cs o (fun v=>k v h)=evO cs[o]? (fun v=>k v h):=fun cs o=>propext (zd _ _ _)
 simp only[this];rfl
def evC(o:Option UInt8)(k:UInt8->Prop):Prop:=∃v,o=some v∧k v
theorem qc6{v:UInt8}{k:UInt8->Prop}:evC (some v) k↔k v:=by simp[evC]
theorem qjE{x i:O}:opK qi (.idxS x i) t h k↔evK t x (fun x=>match x with
  | .s a=>evK t i (fun i=>unN i (fun i=>evC a[i]? (fun c=>k (.i .u8 (c.toNat:Int)) h)))
  | _=>False):=by
 show evK t x (fun x=>_)↔_
 refine iff_of_eq (congrArg _ (funext fun v=>?_))
 cases v<;>first|rfl|skip
 rename_i a
 have e:∀(j:Nat),(Option.rec (motive:=fun _=>Prop) False (fun c=>k (.i .u8 (Int.ofNat c.toNat)) h) (a[j]?):Prop)=evC a[j]? (fun c=>k (.i .u8 (c.toNat:Int)) h):=by
  intro j;cases ha:a[j]? with
  | none=>exact propext ⟨False.elim,fun⟨_,h1,_⟩=>by cases h1⟩
  | some c=>exact (propext (qc6 (k:=fun c=>k (.i .u8 (c.toNat:Int)) h) (v:=c))).symm
 simp_all
def bdK(x:Option AV)(dflt top:Nat)(k:Nat->Prop):Prop:=qak x dflt top k
theorem qh6{a b:Nat}{k:Nat->Prop}:bdK none a b k↔k a:=Iff.rfl
omit [Cur] in
theorem qh7{v:AV}{a b:Nat}{k:Nat->Prop}:bdK (some v) a b k↔unN v (fun n=>ifK (n<=b) (k n)):=by
 show unN v (fun n=>qb (Nat.ble n b) (qd n k))↔_
 simp only[qa,zg,qg];exact Iff.rfl
omit [Cur] in
theorem qip{len cap:Nat}{lo:Option AV}{k:Nat->Nat->Nat->Prop}:qH len cap lo none none k↔ifK (len<=cap) (bdK lo 0 len (fun l=>k l len cap)):=by
 show qb (Nat.ble len cap) (qak lo 0 len (fun l=>k l len cap))↔_
 rw[qa,zg];exact Iff.rfl
omit [Cur] in
theorem qio{len cap:Nat}{lo:Option AV}{hi:AV}{k:Nat->Nat->Nat->Prop}:qH len cap lo (some hi) none k↔unN hi (fun u=>ifK (u<=cap) (bdK lo 0 u (fun l=>k l u cap))):=by
 show unN hi (fun u=>qb (Nat.ble u cap) (qd u (fun u=>qak lo 0 u (fun l=>k l u cap))))↔_
 simp only[qa,zg,qg];exact Iff.rfl
omit [Cur] in
theorem qiq{len cap:Nat}{lo:Option AV}{hi mx:AV}{k:Nat->Nat->Nat->Prop}:qH len cap lo (some hi) (some mx) k↔unN mx (fun m=>ifK (m<=cap) (unN hi (fun u=>ifK (u<=m) (bdK lo 0 u (fun l=>k l u m))))):=by
 show unN mx (fun m=>qb (Nat.ble m cap) (qd m (fun m=>unN hi (fun u=>qb (Nat.ble u m) (qd u (fun u=>qak lo 0 u (fun l=>k l u m)))))))↔_
 simp only[qa,zg,qg];exact Iff.rfl
def slK(esz:Nat)(lo hi mx:Option AV)(x:AV)(h:Hp)(k:AV->Prop):Prop:=match x with
 | .nils=>qH 0 0 lo hi mx (fun _ _ _=>k .nils)
 | .e0=>qH 0 0 lo hi mx (fun _ _ _=>k .e0)
 | .fz n cs=>qH n n lo hi mx (fun l h' m=>if (mx.isSome&&Nat.beq m l)=true then k .e0 else evN (l*esz) (fun o=>evN (h'-l) (fun len'=>evN (len'*esz) (fun z=>jS cs o z (fun l2=>k (.fz len' l2))))))
 | .sl b o len cap loose=>qH len cap lo hi mx (fun l h' m=>evN (if (loose&&mx.isNone)=false∧m=l then o else o+l*esz) (fun o'=>evN (h'-l) (fun len'=>evN (m-l) (fun cap'=>qa7 h b esz (loose&&mx.isNone) (k (.sl b o' len' cap' (loose&&mx.isNone)))))))
 | .own b n=>match mx with
  | none=>if n=0 then qH 0 0 lo hi none (fun _ _ _=>k (.own b 0)) else qH n n lo hi none (fun l h' m=>evN (l*esz) (fun o'=>evN (h'-l) (fun len'=>evN (m-l) (fun cap'=>qa7 h b esz true (k (.sl b o' len' cap' true))))))
  | some u=>if n=0 then qH 0 0 lo hi (some u) (fun _ _ _=>k (.own b 0)) else qH n n lo hi (some u) (fun l h' m=>evN (if m=l then 0 else l*esz) (fun o'=>evN (h'-l) (fun len'=>evN (m-l) (fun cap'=>k (.sl b o' len' cap' false)))))
 | _=>False
@[congr] theorem qk0 {b esz:Nat} {c:Bool} {p:Prop} {mk:Prop} (_:qR=mk):qa7 h b esz c p=qa7 h b esz c p:=rfl
theorem qe5{b esz:Nat}{p:Prop}:qa7 h b esz false p↔p:=Iff.rfl
theorem qgu{b esz:Nat}{p:Prop}:qa7 h b esz true p↔evB (h.tr.get b) (fun x=>zY x (fun e _ _ _=>ifK (e=esz) p)):=by
 show zB h b (fun e _ _ _=>qb (Nat.beq e esz) p)↔_
 rw[wm];simp only[qa,ju];exact Iff.rfl
omit [Cur] in
theorem qjT{esz:Nat}{lo hi mx:Option AV}{k:AV->Prop}:slK esz lo hi mx .nils h k↔qH 0 0 lo hi mx (fun _ _ _=>k .nils):=Iff.rfl
omit [Cur] in
theorem qn0{esz:Nat}{lo hi mx:Option AV}{k:AV->Prop}:slK esz lo hi mx .e0 h k↔qH 0 0 lo hi mx (fun _ _ _=>k .e0):=Iff.rfl
omit [Cur] in
theorem qn1{esz n:Nat}{cs:List AV}{lo hi:Option AV}{k:AV->Prop}:slK esz lo hi none (.fz n cs) h k↔qH n n lo hi none (fun l h' _=>evN (l*esz) (fun o=>evN (h'-l) (fun len'=>evN (len'*esz) (fun z=>jS cs o z (fun l2=>k (.fz len' l2)))))):=by
 simp only[slK,Option.isSome_none,Bool.false_and,Bool.false_eq_true,if_false]
omit [Cur] in
theorem qmp{esz b o len cap:Nat}{lo hi mx:Option AV}{k:AV->Prop}:slK esz lo hi mx (.sl b o len cap false) h k↔qH len cap lo hi mx (fun l1 h' m=>evN (if m=l1 then o else o+l1*esz) (fun o'=>evN (h'-l1) (fun len'=>evN (m-l1) (fun cap'=>k (.sl b o' len' cap' false))))):=by
 simp only[slK,Bool.false_and,true_and];exact Iff.rfl
omit [Cur] in
theorem qmq{esz b o len cap:Nat}{lo hi:Option AV}{k:AV->Prop}:slK esz lo hi none (.sl b o len cap true) h k↔qH len cap lo hi none (fun l1 h' m=>evN (o+l1*esz) (fun o'=>evN (h'-l1) (fun len'=>evN (m-l1) (fun cap'=>qa7 h b esz true (k (.sl b o' len' cap' true)))))):=by
 simp only[slK,Option.isNone_none,Bool.and_self,Bool.true_eq_false,false_and,if_false]
omit [Cur] in
theorem qmo{esz b n:Nat}{lo hi:Option AV}{k:AV->Prop}:slK esz lo hi none (.own b n) h k↔if n=0 then qH 0 0 lo hi none (fun _ _ _=>k (.own b 0)) else qH n n lo hi none (fun l h' m=>evN (l*esz) (fun o'=>evN (h'-l) (fun len'=>evN (m-l) (fun cap'=>qa7 h b esz true (k (.sl b o' len' cap' true)))))):=by
 exact Iff.rfl
omit [Cur] in
theorem qjH{esz:Nat}{x:O}{lo hi mx:Option O}:opK qi (.slcS esz x lo hi mx) t h k↔evK t x (fun x=>zO t lo (fun lo=>zO t hi (fun hi=>zO t mx (fun mx=>slK esz lo hi mx x h (fun v=>k v h))))):=by
 show evK t x (fun x=>_)↔_
 refine iff_of_eq (congrArg _ (funext fun v=>congrArg _ (funext fun lo=>congrArg _ (funext fun hi=>congrArg _ (funext fun mx=>?_)))))
 cases v<;>first|rfl|skip
 ·simp only[slK,qU];rfl
 ·have e:∀(cs:List AV) (o m:Nat),xr o cs (fun l1=>evN m (fun len'=>zT (Nat.mul len' esz) l1 (fun l2=>k (.fz len' l2) h)))=evN m (fun len'=>evN (len'*esz) (fun z=>jS cs o z (fun l2=>k (.fz len' l2) h))):=by
   intro cs o m;refine propext ⟨fun hh=>?_,fun hh=>?_⟩
   ·obtain⟨h1,h2⟩:=(qC _ _ _).1 hh;obtain⟨h3,h4⟩:=(qu _ _ _).1 h2;exact⟨h1,h3,h4⟩
   ·obtain⟨h1,h3,h4⟩:=hh;exact (qC _ _ _).2 ⟨h1,(qu _ _ _).2 ⟨h3,h4⟩⟩
  simp only[slK,qU,jg,e];rfl
 ·rename_i b n;cases mx with
  | some m =>
   cases n with
   | zero=>simp only[slK,if_true];rfl
   | succ n=>simp only[slK,Nat.succ_ne_zero,if_false,qU];rfl
  | none =>
   cases n with
   | zero=>simp only[slK,if_true];rfl
   | succ n=>simp only[slK,Nat.succ_ne_zero,if_false,qU];rfl
omit [Cur] in
theorem qft{x:O}{lo hi:Option O}:opK qi (.slcStr x lo hi) t h k↔evK t x (fun x=>zO t lo (fun lo=>zO t hi (fun hi=>match x with
  | .s a=>qH a.length a.length lo hi none (fun l h' _=>evA (.s ((a.take h').drop l)) (fun v=>k v h))
  | _=>False))):=Iff.rfl
omit [Cur] in
theorem qjG{len esz:Nat}{x:O}{lo hi mx:Option O}:opK qi (.slcA len esz x lo hi mx) t h k↔evK t x (fun p=>unP p (fun b o=>zO t lo (fun lo=>zO t hi (fun hi=>zO t mx (fun mx =>
   qH len len lo hi mx (fun l h' m=>evN (if m=l then o else o+l*esz) (fun o'=>evN (h'-l) (fun len'=>evN (m-l) (fun cap'=>k (.sl b o' len' cap' false) h))))))))):=by
 show evK t x (fun p=>unP p (fun b o=>zO t lo (fun lo=>zO t hi (fun hi=>zO t mx (fun mx=>qH len len lo hi mx (fun l h' m=>qd (if m=l then o else Nat.add o (Nat.mul l esz)) _))))))↔_
 simp only[qU];simp_all
omit [Cur] in
theorem ql6{x:O}{i:Nat}:opK qi (.ext x i) t h k↔evK t x (fun x=>match x with | .tup cs=>evO cs[i]? (fun v=>k v h)|_=>False):=by
 show evK t x (fun x=>_)↔_
 refine iff_of_eq (congrArg _ (funext fun v=>?_))
 cases v<;>first|rfl|exact propext (zd _ _ _)
omit [Cur] in
theorem qmb{f:Nat}{a c:List O}:opK qi (.mkF f a c) t h k↔zu t a (fun a=>zu t c (fun c=>k (.fn f a c) h)):=Iff.rfl
omit [Cur] in
theorem qmd{e bytes:Nat}{z:List AV}{len cap:O}:opK qi (.mkS e bytes z len cap) t h k↔evK t len (fun len=>evK t cap (fun cap=>unN len (fun l=>unN cap (fun c=>ifK (l<=c) (ifK (c<=qj) (ifK (bytes*c<=qj) (evL (List.replicate c z).flatten (fun cs=>qV h (.cells 0 true false cs) (fun b h'=>k (.sl b 0 l c false) h'))))))))):=by
 show evK t len (fun len=>evK t cap (fun cap=>unN len (fun l=>unN cap (fun c=>qb (Nat.ble l c) (qb (Nat.ble c qj) (qb (Nat.ble (Nat.mul bytes c) qj) (qay z c _)))))))↔_
 simp only[qa,zg,zI];exact Iff.rfl
def lnK(str:Bool)(x:AV)(k:AV->Prop):Prop:=match x,str with
 | .nils,false=>k (.i .i64 0)
 | .e0,false=>k (.i .i64 0)
 | .nz,false=>k (.i .i64 0)
 | .fz n _,false=>evA (.i .i64 (n:Int)) k
 | .own _ n,false=>evA (.i .i64 (n:Int)) k
 | .sl _ _ n _ _,false=>evA (.i .i64 (n:Int)) k
 | .s a,true=>evA (.i .i64 (a.length:Int)) k
 | _,_=>False
theorem ql8{str:Bool}{x:O}:opK qi (.len str x) t h k↔evK t x (fun x=>lnK str x (fun v=>k v h)):=by
 show evK t x (fun x=>_)↔_
 refine iff_of_eq (congrArg _ (funext fun v=>?_))
 cases v<;>cases str<;>first|rfl|exact qg _ _
omit [Cur] in
theorem qjj{k:AV->Prop}:lnK false .nils k↔k (.i .i64 0):=Iff.rfl
omit [Cur] in
theorem qnJ{k:AV->Prop}:lnK false .nz k↔k (.i .i64 0):=Iff.rfl
omit [Cur] in
theorem qnH{k:AV->Prop}:lnK false .e0 k↔k (.i .i64 0):=Iff.rfl
omit [Cur] in
theorem qnI{n:Nat}{cs:List AV}{k:AV->Prop}:lnK false (.fz n cs) k↔evA (.i .i64 (n:Int)) k:=Iff.rfl
omit [Cur] in
theorem qly{b n:Nat}{k:AV->Prop}:lnK false (.own b n) k↔evA (.i .i64 (n:Int)) k:=Iff.rfl
omit [Cur] in
theorem qnK{b o n c:Nat}{l:Bool}{k:AV->Prop}:lnK false (.sl b o n c l) k↔evA (.i .i64 (n:Int)) k:=Iff.rfl
omit [Cur] in
theorem qot{a:List UInt8}{k:AV->Prop}:lnK true (.s a) k↔evA (.i .i64 (a.length:Int)) k:=Iff.rfl
omit [Cur] in
theorem qlY{esz bytes:Nat}{c:Bool}{s x:O}:opK qi (.app esz bytes c s x) t h k↔evK t s (fun s=>evK t x (fun x=>jK h esz bytes c s x k)):=Iff.rfl
omit [Cur] in
theorem qjA{esz bytes:Nat}{s x:O}:opK qi (.appF esz bytes s x) t h k↔evK t s (fun s=>evK t x (fun x=>jK h esz bytes true s x k)):=Iff.rfl
def qfY(esz bytes:Nat)(z:List AV)(h:Hp)(s:AV)(n:Nat)(k:AV->Hp->Prop):Prop:=match s with
  | .sl b o len cap false=>evN (len+n) (fun need=>ifK (cap<need) (ifK (need<=qj) (ifK (need*bytes<=qj) (evN (len*esz) (fun m=>xe h b o m (fun old=>evL (old++(List.replicate n z).flatten) (fun cs=>qV h (.cells esz true true cs) (fun b' h'=>k (.own b' need) h'))))))))
  | .nils=>ifK (1<=n) (ifK (n<=qj) (ifK (n*bytes<=qj) (evL ((List.replicate n z).flatten) (fun cs=>qV h (.cells esz true true cs) (fun b' h'=>k (.own b' n) h')))))
  | _=>False
theorem qkA{esz bytes b o len cap n:Nat}{z:List AV}:qfY esz bytes z h (.sl b o len cap false) n k↔evN (len+n) (fun need=>ifK (cap<need) (ifK (need<=qj) (ifK (need*bytes<=qj) (evN (len*esz) (fun m=>xe h b o m (fun old=>evL (old++(List.replicate n z).flatten) (fun cs=>qV h (.cells esz true true cs) (fun b' h'=>k (.own b' need) h')))))))):=Iff.rfl
omit [Cur] in
theorem qfZ{esz bytes n:Nat}{z:List AV}:qfY esz bytes z h .nils n k↔ifK (1<=n) (ifK (n<=qj) (ifK (n*bytes<=qj) (evL ((List.replicate n z).flatten) (fun cs=>qV h (.cells esz true true cs) (fun b' h'=>k (.own b' n) h'))))):=Iff.rfl
omit [Cur] in
theorem qjB{esz bytes:Nat}{z:List AV}{s x:O}:opK qi (.appZ esz bytes z s x) t h k↔evK t s (fun s=>evK t x (fun x=>unN x (fun n=>qfY esz bytes z h s n k))):=by
 show evK t s (fun s=>evK t x (fun x=>unN x (fun n=>_)))↔_
 refine iff_of_eq (congrArg _ (funext fun v=>congrArg _ (funext fun x=>congrArg _ (funext fun n=>propext ?_))))
 cases v<;>first|exact Iff.rfl|skip
 ·simp only[qfY,qa,zg,zI,ifK,evL];rfl
 rename_i b o len cap loose;cases loose with
 | true=>exact⟨fun hh=>absurd ((qa (!true) _).1 hh).1 (by simp),False.elim⟩
 | false =>
  simp only[qfY,qa,zg,zI,zr,Bool.not_false,true_and,evN,ifK,evL];rfl
omit [Cur] in
theorem qjC{esz:Nat}{s x:O}:opK qi (.copy esz s x) t h k↔evK t s (fun s=>evK t x (fun x=>qaV h esz s x k)):=Iff.rfl
omit [Cur] in
theorem qe0{esz:Nat}{s:AV}:qaV h esz .nils s k↔xb h esz s (fun _ _=>k (.i .i64 0) h):=Iff.rfl
omit [Cur] in
theorem qiH{esz b o len c:Nat}{l:Bool}{s:AV}:qaV h esz (.sl b o len c l) s k↔xb h esz s (fun n new=>evN (min n len) (fun m=>evN (m*esz) (fun z=>jS new 0 z (fun cs=>stK h b o cs (fun h'=>evA (.i .i64 (m:Int)) (fun v=>k v h')))))):=by
 show xb h esz s (fun n new=>qd (min n len) (fun m=>zT (Nat.mul m esz) new (fun cs=>stK h b o cs (fun h'=>k (.i .i64 (Int.ofNat m)) h'))))↔_
 simp only[qU];refine iff_of_eq (congrArg _ (funext fun n=>funext fun new=>congrArg _ (funext fun m=>propext ?_)))
 exact (qu _ _ _).trans ⟨fun hh=>⟨Nat.zero_le _,by simpa[evA] using hh⟩,fun hh=>by simpa[evN,jS,evA] using hh⟩
omit [Cur] in
theorem qma{x y:O}:opK qi (.min x y) t h k↔evK t x (fun x=>evK t y (fun y=>unI x (fun q n=>unI y (fun _ m=>evA (.i q (if m<n then m else n)) (fun v=>k v h))))):=by
 have e:∀(q:IntKind) (n m:Int),(Bool.rec (motive:=fun _=>Prop) (k (.i q n) h) (k (.i q m) h) (ltI m n):Prop)=evA (.i q (if m<n then m else n)) (fun v=>k v h):=by
  intro q n m;rw[xz]
  by_cases hlt:m<n
  ·rw[decide_eq_true hlt,if_pos hlt];rfl
  ·rw[decide_eq_false hlt,if_neg hlt];rfl
 show evK t x (fun x=>evK t y (fun y=>unI x (fun q n=>unI y (fun _ m=>Bool.rec (motive:=fun _=>Prop) (k (.i q n) h) (k (.i q m) h) (ltI m n)))))↔_
 simp_all
omit [Cur] in
theorem ql9{x y:O}:opK qi (.max x y) t h k↔evK t x (fun x=>evK t y (fun y=>unI x (fun q n=>unI y (fun _ m=>evA (.i q (if n<m then m else n)) (fun v=>k v h))))):=by
 have e:∀(q:IntKind) (n m:Int),(Bool.rec (motive:=fun _=>Prop) (k (.i q n) h) (k (.i q m) h) (ltI n m):Prop)=evA (.i q (if n<m then m else n)) (fun v=>k v h):=by
  intro q n m;rw[xz]
  by_cases hlt:n<m
  ·rw[decide_eq_true hlt,if_pos hlt];rfl
  ·rw[decide_eq_false hlt,if_neg hlt];rfl
 show evK t x (fun x=>evK t y (fun y=>unI x (fun q n=>unI y (fun _ m=>Bool.rec (motive:=fun _=>Prop) (k (.i q n) h) (k (.i q m) h) (ltI n m)))))↔_
 simp_all
def qgj(z:List AV)(x:AV)(h:Hp)(k:AV->Hp->Prop):Prop:=match x with
  | .nils=>k (.tup []) h
  | .sl b o n _ _=>if n=0 then k (.tup []) h else evL (List.replicate n z).flatten (fun cs=>stK h b o cs (fun h'=>k (.tup []) h'))
  | _=>False
theorem qgk{z:List AV}:qgj z .nils h k↔k (.tup []) h:=Iff.rfl
omit [Cur] in
theorem qkQ{z:List AV}{b o n c:Nat}{l:Bool}:qgj z (.sl b o n c l) h k↔if n=0 then k (.tup []) h else evL (List.replicate n z).flatten (fun cs=>stK h b o cs (fun h'=>k (.tup []) h')):=Iff.rfl
omit [Cur] in
theorem qho{z:List AV}{x:O}:opK qi (.clear z x) t h k↔evK t x (fun x=>qgj z x h k):=by
 show evK t x (fun x=>_)↔_
 refine iff_of_eq (congrArg _ (funext fun v=>?_))
 cases v<;>first|rfl|skip
 rename_i b o n c l;cases n with
 | zero=>simp only[qgj,if_true];rfl
 | succ n=>simp only[qgj,zI];rfl
omit [Cur] in
theorem qmc:opK qi .mkM t h k↔qV h (.map []) (fun b h'=>k (.map b) h'):=Iff.rfl
omit [Cur] in
theorem qfu{n:Nat}{x v:O}{ps:List Nat}:opK qi (.storeD n x v ps) t h k↔evK t x (fun p=>unP p (fun b o=>zi t b ps (evK t v (fun v=>stV h b o v n (fun h'=>k .undef h'))))):=Iff.rfl
omit [Cur] in
theorem qjz{esz bytes:Nat}{s x:O}{ps:List Nat}:opK qi (.appD esz bytes s x ps) t h k↔evK t s (fun s=>evK t x (fun x=>xm t ps s (jK h esz bytes true s x k))):=Iff.rfl
theorem qjR{ps:List Nat}{b m:Nat}{p:Prop}:xm t ps (.own b m) p↔zi t b ps p:=Iff.rfl
omit [Cur] in
theorem qmn{ps:List Nat}{b o m c:Nat}{l:Bool}{p:Prop}:xm t ps (.sl b o m c l) p↔zi t b ps p:=Iff.rfl
omit [Cur] in
theorem qmm{ps:List Nat}{m:Nat}{cs:List AV}{p:Prop}:xm t ps (.fz m cs) p↔p:=Iff.rfl
omit [Cur] in
theorem qhO{ps:List Nat}{p:Prop}:xm t ps .nils p↔p:=Iff.rfl
omit [Cur] in
theorem qml{ps:List Nat}{p:Prop}:xm t ps .e0 p↔p:=Iff.rfl
theorem qeL{b:Nat}{p:Prop}:zi t b [] p↔p:=Iff.rfl
def neK(b:Nat)(y:AV)(p:Prop):Prop:=match y with | .ptr b' _=>ifK (¬b'=b) p | .pf _ _=>p|_=>False
theorem qlH{b b' o:Nat}{p:Prop}:neK b (.ptr b' o) p↔ifK (¬b'=b) p:=Iff.rfl
omit [Cur] in
theorem qnM{b o:Nat}{cs:List AV}{p:Prop}:neK b (.pf cs o) p↔p:=Iff.rfl
theorem qdC{b q:Nat}{ps:List Nat}{p:Prop}:zi t b (q::ps) p↔evO (t.get q) (fun y=>neK b y (zi t b ps p)):=by
 refine (Tr.getK_iff _ _ _).trans (iff_of_eq (congrArg _ (funext fun v=>?_)))
 refine congrArg _ ?_;cases v<;>first|rfl|skip
 rename_i b' o;refine propext ((qa _ _).trans ?_);show _∧_↔_∧_
 have:(!Nat.beq b' b)=true↔¬b'=b:=by
  rw[Bool.not_eq_true',← Bool.not_eq_true,ju]
 rw[this];exact Iff.rfl
def cpK(x:AV)(k:AV->Prop):Prop:=match x with
  | .nils=>k (.i .i64 0)
  | .e0=>k (.i .i64 0)
  | .sl _ _ _ c false=>evA (.i .i64 (c:Int)) k
  | _=>False
theorem ql2{x:O}:opK qi (.cap x) t h k↔evK t x (fun x=>cpK x (fun v=>k v h)):=by
 show evK t x (fun x=>_)↔_
 refine iff_of_eq (congrArg _ (funext fun v=>?_))
 cases v<;>first|rfl|skip
 rename_i l;cases l<;>rfl
omit [Cur] in
theorem qiI{k:AV->Prop}:cpK .nils k↔k (.i .i64 0):=Iff.rfl
omit [Cur] in
theorem qnm{k:AV->Prop}:cpK .e0 k↔k (.i .i64 0):=Iff.rfl
omit [Cur] in
theorem qnn{b o n c:Nat}{k:AV->Prop}:cpK (.sl b o n c false) k↔evA (.i .i64 (c:Int)) k:=Iff.rfl
omit [Cur] in
theorem qgA{l:List AV}{k:List AV->Prop}:zA t [] l k↔k l:=Iff.rfl
theorem qe7{off m:Nat}{x:O}{ps:List (Nat×Nat×O)}{l:List AV}{k:List AV->Prop}:zA t ((off,m,x)::ps) l k↔evK t x (fun v=>ifK (jT v=true) (evL (cellsOf v) (fun cs=>ifK (cs.length=m∧off+cs.length<=l.length) (evL (l.take off++(cs++l.drop (off+cs.length))) (fun l=>zA t ps l k))))):=by
 show evK t x (fun v=>qb (jT v) (qd off (fun off=>wz (cellsOf v) (fun n=>qb (Nat.beq n m) (zh (cellsOf v) off l (fun l'=>zA t ps l' k))))))↔_
 simp only[qa,qg,zw,zo,ju,ifK,evL,and_assoc]
omit [Cur] in
theorem qhS{esz:Nat}{k:Nat->List AV->Prop}:xb h esz .nils k↔k 0 []:=Iff.rfl
omit [Cur] in
theorem qmu{esz:Nat}{k:Nat->List AV->Prop}:xb h esz .nz k↔k 0 []:=Iff.rfl
omit [Cur] in
theorem qms{esz:Nat}{k:Nat->List AV->Prop}:xb h esz .e0 k↔k 0 []:=Iff.rfl
omit [Cur] in
theorem qmv{esz b o n c:Nat}{l:Bool}{k:Nat->List AV->Prop}:xb h esz (.sl b o n c l) k↔evN (n*esz) (fun m=>xe h b o m (fun cs=>k n cs)):=Iff.rfl
omit [Cur] in
theorem qjW{esz b n:Nat}{k:Nat->List AV->Prop}:xb h esz (.own b n) k↔evN (n*esz) (fun m=>xe h b 0 m (fun cs=>k n cs)):=Iff.rfl
omit [Cur] in
theorem qmt{esz n:Nat}{cs:List AV}{k:Nat->List AV->Prop}:xb h esz (.fz n cs) k↔evN (n*esz) (fun m=>jS cs 0 m (fun cs=>k n cs)):=by
 refine (qu _ _ _).trans ⟨fun hh=>⟨Nat.zero_le _,by simp_all⟩,fun hh=>by simpa[evN,jS] using hh⟩
theorem qn2{esz:Nat}{a:List UInt8}{k:Nat->List AV->Prop}:xb h esz (.s a) k↔ifK (esz=1) (k a.length (a.map fun c=>.i .u8 (Int.ofNat c.toNat))):=by
 show qb (Nat.beq esz 1) (qd a.length _)↔_;rw[qa,ju,qg];exact Iff.rfl
omit [Cur] in
theorem qfX{esz bytes:Nat}{c:Bool}{x:AV}:jK h esz bytes c .nils x k↔xb h esz x (fun n new=>ifK (n<=qj) (ifK (n*bytes<=qj) (qV h (.cells esz true true new) (fun b h'=>k (.own b n) h')))):=by
 show xb h esz x (fun n new=>qb (Nat.ble n qj) (qb (Nat.ble (Nat.mul n bytes) qj) _))↔_
 simp only[qa,zg];exact Iff.rfl
omit [Cur] in
theorem qkx{esz bytes:Nat}{c:Bool}{x:AV}:jK h esz bytes c .e0 x k↔xb h esz x (fun n new=>ifK (n<=qj) (ifK (n*bytes<=qj) (qV h (.cells esz true true new) (fun b h'=>k (.own b n) h')))):=by
 show xb h esz x (fun n new=>qb (Nat.ble n qj) (qb (Nat.ble (Nat.mul n bytes) qj) _))↔_
 simp only[qa,zg];exact Iff.rfl
theorem qh5{esz bytes b m:Nat}{x:AV}:jK h esz bytes true (.own b m) x k↔xb h esz x (fun n new=>evN (m+n) (fun need=>ifK (need<=qj) (ifK (need*bytes<=qj) (evB (h.tr.get b) (fun y=>zY y (fun e w a ys =>
  ifK (qt new=true∧w=true∧a=true∧e=esz∧ys.length=m*esz) (evL (ys++new) (fun cs'=>zj h b .dead (fun h1=>qV h1 (.cells esz true true cs') (fun b' h'=>k (.own b' need) h')))))))))):=by
 show xb h esz x (fun n new=>qd (Nat.add m n) (fun need=>qb (Nat.ble need qj) (qb (Nat.ble (Nat.mul need bytes) qj) (zB h b (fun e w a ys=>_)))))↔_
 simp only[qU,qa,zg,ju,wm,zw,zr];refine iff_of_eq (congrArg _ (funext fun n=>funext fun new=>?_))
 simp only[ifK,evN,evL,and_assoc];rfl
omit [Cur] in
theorem qkz{esz bytes b o len cap:Nat}{c:Bool}{x:AV}:jK h esz bytes c (.sl b o len cap false) x k↔xb h esz x (fun n new=>evN (len+n) (fun need=>if need<=cap then
  (if n=0 then k (.sl b o need cap false) h else evN (o+len*esz) (fun at_=>stK h b at_ new (fun h'=>k (.sl b o need cap false) h')))
  else ifK (need<=qj) (ifK (need*bytes<=qj) (evN (len*esz) (fun m=>xe h b o m (fun old=>evL (old++new) (fun cs=>qV h (.cells esz true true cs) (fun b' h'=>k (.own b' need) h')))))))):=by
 have e:∀(n:Nat) (p q:Prop),(Nat.rec (motive:=fun _=>Prop) p (fun _ _=>q) n:Prop)↔if n=0 then p else q:=by
  intro n p q;cases n with
  | zero=>rw[if_pos rfl];exact Iff.rfl
  | succ n=>rw[if_neg (by omega)]
 unfold jK;dsimp only;simp only[Bool.not_false,qU,qeE,zg,jg,zr,e,qdh];exact Iff.rfl
omit [Cur] in
theorem qky{esz bytes m:Nat}{c:Bool}{cs:List AV}{x:AV}:jK h esz bytes c (.fz m cs) x k↔xb h esz x (fun n _=>ifK (n=0) (k (.fz m cs) h)):=by
 show xb h esz x (fun n _=>Nat.rec (motive:=fun _=>Prop) (k (.fz m cs) h) (fun _ _=>False) n)↔_
 refine iff_of_eq (congrArg _ (funext fun n=>funext fun new=>?_))
 cases n<;>simp[ifK];rfl
omit [Cur] in
theorem qhf{k:Bool->Prop}:ze .ptr .nilp k↔k true:=Iff.rfl
omit [Cur] in
theorem qjp{b o:Nat}{k:Bool->Prop}:ze .ptr (.ptr b o) k↔k false:=Iff.rfl
omit [Cur] in
theorem qlO{cs:List AV}{o:Nat}{k:Bool->Prop}:ze .ptr (.pf cs o) k↔k false:=Iff.rfl
omit [Cur] in
theorem qlN{k:Bool->Prop}:ze .slice .nz k↔k false:=Iff.rfl
omit [Cur] in
theorem qhg{k:Bool->Prop}:ze .slice .nils k↔k true:=Iff.rfl
omit [Cur] in
theorem qlP{b o n c:Nat}{l:Bool}{k:Bool->Prop}:ze .slice (.sl b o n c l) k↔k false:=Iff.rfl
omit [Cur] in
theorem qlM{n:Nat}{cs:List AV}{k:Bool->Prop}:ze .slice (.fz n cs) k↔ifK (1<=n) (k false):=by
 show qb (Nat.ble 1 n) (k false)↔_;rw[qa,zg];exact Iff.rfl
omit [Cur] in
theorem qjo{b n:Nat}{k:Bool->Prop}:ze .slice (.own b n) k↔ifK (1<=n) (k false):=by
 show qb (Nat.ble 1 n) (k false)↔_;rw[qa,zg];exact Iff.rfl
omit [Cur] in
theorem qhd{k:Bool->Prop}:ze .func .nilf k↔k true:=Iff.rfl
omit [Cur] in
theorem qlL{f:Nat}{a c:List AV}{k:Bool->Prop}:ze .func (.fn f a c) k↔k false:=Iff.rfl
omit [Cur] in
theorem qhe{k:Bool->Prop}:ze .iface .nili k↔k true:=Iff.rfl
omit [Cur] in
theorem qjn{t:Nat}{v:AV}{k:Bool->Prop}:ze .iface (.ifc t v) k↔k false:=Iff.rfl
omit [Cur] in
theorem qiL{x y:List AV}{k:Bool->Prop}:zl [] x y k↔k true:=Iff.rfl
omit [Cur] in
theorem qgs{q:PK}{qs:List PK}{u v:AV}{us vs:List AV}{k:Bool->Prop}:zl (q::qs) (u::us) (v::vs) k↔zJ q u v (fun e=>if e=true then zl qs us vs k else k false):=by
 show zJ q u v (fun e=>Bool.rec (motive:=fun _=>Prop) (k false) (zl qs us vs k) e)↔_
 simp only[jg]
theorem qom{q:IntKind}{n m:Int}{k:Bool->Prop}:zJ .i (.i q n) (.i q m) k↔evT (decide (n=m)) k:=by
 show qb (decide (q=q)) (qn (eqI n m) k)↔_;rw[qa,qbs,qk];simp[evT]
omit [Cur] in
theorem qon{a c:List UInt8}{k:Bool->Prop}:zJ .s (.s a) (.s c) k↔evT (decide (a=c)) k:=by
 show qn (eqS a c) k↔_;rw[qk,zZ,show (a==c)=decide (a=c) from by rw[Bool.eq_iff_iff];simp];exact Iff.rfl
omit [Cur] in
theorem qol{a c:Bool}{k:Bool->Prop}:zJ .b (.b a) (.b c) k↔evT (a==c) k:=by
 show qn (a==c) k↔_;rw[qk];exact Iff.rfl
omit [Cur] in
theorem qgo{rs:List RV}{k:AV->Hp->Prop}:qbr rs k .ret t h↔zR t h rs (fun vs=>k (zF vs) h):=Iff.rfl
omit [Cur] in
theorem qc5{rs:List RV}{k:AV->Hp->Prop}:qbr rs k .normal t h↔zR t h rs (fun vs=>k (zF vs) h):=Iff.rfl
theorem qjN{k:List AV->Prop}:zR t h [] k↔k []:=Iff.rfl
omit [Cur] in
theorem qjO{n:Nat}{rs:List RV}{k:List AV->Prop}:zR t h (.tmp n::rs) k↔evO (t.get n) (fun v=>zR t h rs (fun vs=>k (v::vs))):=Tr.getK_iff _ _ _
omit [Cur] in
theorem qhK{n size:Nat}{agg:Bool}{rs:List RV}{k:List AV->Prop}:zR t h (.cell n size agg::rs) k↔evO (t.get n) (fun v=>unP v (fun b o=>if agg=true then xe h b o size (fun cs=>zR t h rs (fun vs=>k (.agg cs::vs))) else ldK h b o (fun v=>zR t h rs (fun vs=>k (v::vs))))):=by
 refine (Tr.getK_iff _ _ _).trans (iff_of_eq (congrArg _ (funext fun v=>congrArg _ ?_)))
 cases v<;>first|rfl|skip
 cases agg<;>rfl
end Go.Kc
end
section
namespace Go.Kc
variable [Cur]
variable {P:Program} {n:Nat} {t:Tr AV} {h:Hp} {k:AV->Hp->Prop}

section
variable {r:Nat->Nat} {m:Nat} {v v':AV} {vs vs':List AV}
omit [Cur] in
theorem qhi:NV r m v .undef↔True:=iff_true_intro (.undef _)
omit [Cur] in
theorem qou{x y:Bool}:NV r m (.b x) (.b y)↔x=y:=⟨fun h=>by cases h;rfl,fun h=>by subst h;exact .clo _ rfl⟩
omit [Cur] in
theorem qov{q q':IntKind}{x y:Int}:NV r m (.i q x) (.i q' y)↔q=q'∧x=y:=⟨fun h=>by cases h<;>simp_all,fun⟨h,h'⟩=>by subst h h';exact .clo _ rfl⟩
omit [Cur] in
theorem qow{x y:List UInt8}:NV r m (.s x) (.s y)↔x=y:=⟨fun h=>by cases h;rfl,fun h=>by subst h;exact .clo _ rfl⟩
omit [Cur] in
theorem qjt:NV r m .nilp .nilp↔True:=iff_true_intro (.clo _ rfl)
omit [Cur] in
theorem qju:NV r m .nils .nils↔True:=iff_true_intro (.clo _ rfl)
omit [Cur] in
theorem qjq:NV r m .nilf .nilf↔True:=iff_true_intro (.clo _ rfl)
omit [Cur] in
theorem qjr:NV r m .nili .nili↔True:=iff_true_intro (.clo _ rfl)
omit [Cur] in
theorem qjs:NV r m .nilm .nilm↔True:=iff_true_intro (.clo _ rfl)
omit [Cur] in
theorem qnO:NV r m .e0 .e0↔True:=iff_true_intro (.clo _ rfl)
omit [Cur] in
theorem qnR:NV r m .nz .nz↔True:=iff_true_intro (.clo _ rfl)
omit [Cur] in
theorem qlR{x:Nat}{cs:List AV}:NV r m .e0 (.fz x cs)↔x=0∧cs=[]:=⟨fun h=>by cases h<;>simp_all,fun⟨h,h'⟩=>by subst h h';exact .e0z⟩
omit [Cur] in
theorem qhh{b' x':Nat}:NV r m .e0 (.own b' x')↔b'<m∧x'=0:=⟨fun h=>by
  cases h<;>simp_all,fun⟨h1,h2⟩=>by subst h2;exact .e0own _ h1⟩
omit [Cur] in
theorem qlW{b b' o x c x':Nat}{l:Bool}:NV r m (.sl b o x c l) (.own b' x')↔b'<m∧x=0∧c=0∧l=false∧x'=0:=⟨fun h=>by
  cases h<;>simp_all,fun⟨h1,h2,h3,h4,h5⟩=>by subst h2 h3 h4 h5;exact .slz _ _ _ h1⟩
omit [Cur] in
theorem qnQ{x y:Nat}{cs ds:List AV}:NV r m (.fz x cs) (.fz y ds)↔x=y∧cs=ds:=⟨fun h=>by cases h<;>simp_all,fun⟨h,h'⟩=>by subst h h';exact .clo _ rfl⟩
omit [Cur] in
theorem qnS{x y:Nat}{cs ds:List AV}:NV r m (.pf cs x) (.pf ds y)↔cs=ds∧x=y:=⟨fun h=>by cases h<;>simp_all,fun⟨h,h'⟩=>by subst h h';exact .clo _ rfl⟩
omit [Cur] in
theorem qjv{x:Nat}{cs:List AV}:NV r m .nils (.fz x cs)↔x=0∧cs=[]:=⟨fun h=>by cases h<;>simp_all,fun⟨h,h'⟩=>by subst h h';exact .nilz⟩
omit [Cur] in
theorem qlV{b b' o o':Nat}:NV r m (.ptr b o) (.ptr b' o')↔r b'=b∧b'<m∧o=o':=⟨fun h=>by
  cases h with
  | clo _ hc=>cases hc
  | ptr _ _ _ h1 h2=>omega,fun⟨h1,h2,h3⟩=>by subst h3;exact .ptr _ _ _ h1 h2⟩
omit [Cur] in
theorem qnT{b b' o o' x x' c c':Nat}{l l':Bool}:NV r m (.sl b o x c l) (.sl b' o' x' c' l')↔r b'=b∧b'<m∧o=o'∧x=x'∧c=c'∧l=l':=⟨fun h=>by
  cases h with
  | clo _ hc=>cases hc
  | sl _ _ _ _ _ _ h1 h2=>simp_all,fun⟨h1,h2,h3,h4,h5,h6⟩=>by subst h3 h4 h5 h6;exact .sl _ _ _ _ _ _ h1 h2⟩
omit [Cur] in
theorem qlU{b b' x x':Nat}:NV r m (.own b x) (.own b' x')↔r b'=b∧b'<m∧x=x':=⟨fun h=>by
  cases h with
  | clo _ hc=>cases hc
  | own _ _ _ h1 h2=>omega,fun⟨h1,h2,h3⟩=>by subst h3;exact .own _ _ _ h1 h2⟩
omit [Cur] in
theorem qfn{b' x':Nat}:NV r m .nils (.own b' x')↔b'<m∧x'=0:=⟨fun h=>by
  cases h<;>simp_all,fun⟨h1,h2⟩=>by subst h2;exact .nilown _ h1⟩
omit [Cur] in
theorem qlT{b b':Nat}:NV r m (.map b) (.map b')↔r b'=b∧b'<m:=⟨fun h=>by
  cases h with
  | clo _ hc=>cases hc
  | map _ _ h1 h2=>omega,fun⟨h1,h2⟩=>.map _ _ h1 h2⟩
omit [Cur] in
theorem qnU{b b':Nat}:NV r m (.yl b) (.yl b')↔r b'=b∧b'<m:=⟨fun h=>by
  cases h with
  | clo _ hc=>cases hc
  | yl _ _ h1 h2=>omega,fun⟨h1,h2⟩=>.yl _ _ h1 h2⟩
omit [Cur] in
theorem qjw:NVs r m [] []↔True:=iff_true_intro .nil
omit [Cur] in
theorem qhj:NVs r m (v::vs) (v'::vs')↔NV r m v v'∧NVs r m vs vs':=⟨fun h=>by
  cases h<;>simp_all,fun h=>.cons _ _ _ _ h.1 h.2⟩
omit [Cur] in
theorem qlQ{cs cs':List AV}:NV r m (.agg cs) (.agg cs')↔NVs r m cs cs':=⟨fun h=>by
  cases h with
  | clo _ hc=>exact NVs.refl (by simpa[clo] using hc)
  | agg _ _ h1=>exact h1,fun h=>.agg _ _ h⟩
omit [Cur] in
theorem qlX{cs cs':List AV}:NV r m (.tup cs) (.tup cs')↔NVs r m cs cs':=⟨fun h=>by
  cases h with
  | clo _ hc=>exact NVs.refl (by simpa[clo] using hc)
  | tup _ _ h1=>exact h1,fun h=>.tup _ _ h⟩
omit [Cur] in
theorem qnP{f f':Nat}{a a' c c':List AV}:NV r m (.fn f a c) (.fn f' a' c')↔f=f'∧NVs r m a a'∧NVs r m c c':=⟨fun h=>by
  cases h with
  | clo _ hc =>
   simp only[clo,Bool.and_eq_true] at hc
   simp_all[NVs.refl]
  | fn _ _ _ _ _ h1 h2=>simp_all,fun⟨h1,h2,h3⟩=>by subst h1;exact .fn _ _ _ _ _ h2 h3⟩
omit [Cur] in
theorem qlS{f f':Nat}:NV r m (.ifc f v) (.ifc f' v')↔f=f'∧NV r m v v':=⟨fun h=>by
  cases h with
  | clo _ hc=>exact⟨rfl,.clo _ (by simpa[clo] using hc)⟩
  | ifc _ _ _ h1=>simp_all,fun⟨h1,h2⟩=>by subst h1;exact .ifc _ _ _ h2⟩
omit [Cur] in
theorem qj0:TWs t r m []↔True:=Iff.rfl
omit [Cur] in
theorem qhV{p:Nat×AV}{l:List (Nat×AV)}:TWs t r m (p::l)↔evO (t.get p.1) (fun v=>NV r m v p.2)∧TWs t r m l:=Iff.rfl
omit [Cur] in
theorem qis:BWs h r m [] []↔True:=Iff.rfl
omit [Cur] in
theorem qga{b:Nat}{x:Blk}{bs:List Nat}{xs:List Blk}:BWs h r m (b::bs) (x::xs)↔BW h r m b x∧BWs h r m bs xs:=Iff.rfl
omit [Cur] in
theorem qkI{b:Nat}{x:Blk}(hb:h.sz<=b):BW h r m b x↔True:=iff_true_intro (.inl hb)
omit [Cur] in
theorem qir{b:Nat}:BW h r m b .dead↔True:=iff_true_intro (.inr (.inl rfl))
omit [Cur] in
theorem qkJ{b e:Nat}{w a:Bool}{cs':List AV}(hb:b<h.sz):BW h r m b (.cells e w a cs')↔evB (h.tr.get b) (fun x=>zY x (fun e0 w0 a0 cs=>e0=e∧(w=true->w0=true)∧(a=true->a0=true)∧NVs r m cs cs')):=by
 constructor
 ·rintro (h1|h1|⟨e',w0,a0,cs,w',a',cs'',h1,h2,h3,h4,h5⟩|⟨es,es',h1,h2,h3⟩)
  ·omega
  ·cases h1
  ·cases h2;exact⟨_,h1,rfl,h3,h4,h5⟩
  simp_all
 ·rintro⟨x,h1,h2⟩;cases x with
  | cells e0 w0 a0 cs =>
   obtain⟨rfl,h3,h4,h5⟩:=h2;exact .inr (by grind)
  | dead=>exact h2.elim
  | map es=>exact h2.elim
end
omit [Cur] in
theorem qoP{b d:Nat}{l:List Nat}:rl (b::l) d 0=b:=rfl
omit [Cur] in
theorem qoQ{b d i:Nat}{l:List Nat}:rl (b::l) d (i+1)=rl l d i:=rfl

section
variable {v v':AV} {vs vs':List AV}
omit [Cur] in
theorem qgF:Frz h v .undef↔True:=iff_true_intro (.undef _)
omit [Cur] in
theorem qoo{x y:Bool}:Frz h (.b x) (.b y)↔x=y:=⟨fun h=>by cases h;rfl,fun h=>by subst h;exact .b _⟩
omit [Cur] in
theorem qoq{q q':IntKind}{x y:Int}:Frz h (.i q x) (.i q' y)↔q=q'∧x=y:=⟨fun h=>by cases h<;>simp_all,fun⟨h,h'⟩=>by subst h h';exact .i _ _⟩
omit [Cur] in
theorem qor{x y:List UInt8}:Frz h (.s x) (.s y)↔x=y:=⟨fun h=>by cases h;rfl,fun h=>by subst h;exact .s _⟩
omit [Cur] in
theorem qiW:Frz h .nilp .nilp↔True:=iff_true_intro .nilp
omit [Cur] in
theorem qiX:Frz h .nils .nils↔True:=iff_true_intro .nils
omit [Cur] in
theorem qiT:Frz h .nilf .nilf↔True:=iff_true_intro .nilf
omit [Cur] in
theorem qiU:Frz h .nili .nili↔True:=iff_true_intro .nili
omit [Cur] in
theorem qiV:Frz h .nilm .nilm↔True:=iff_true_intro .nilm
omit [Cur] in
theorem qnv:Frz h .e0 .e0↔True:=iff_true_intro .e0
omit [Cur] in
theorem qnx:Frz h .nz .nz↔True:=iff_true_intro .nz
omit [Cur] in
theorem qk9{x:Nat}{cs:List AV}:Frz h .e0 (.fz x cs)↔x=0∧cs=[]:=⟨fun h=>by cases h<;>simp_all,fun⟨h,h'⟩=>by subst h h';exact .e0z⟩
omit [Cur] in
theorem qnw{x y:Nat}{cs ds:List AV}:Frz h (.fz x cs) (.fz y ds)↔x=y∧cs=ds:=⟨fun h=>by cases h<;>simp_all,fun⟨h,h'⟩=>by subst h h';exact .fz _ _⟩
omit [Cur] in
theorem qny{x y:Nat}{cs ds:List AV}:Frz h (.pf cs x) (.pf ds y)↔cs=ds∧x=y:=⟨fun h=>by cases h<;>simp_all,fun⟨h,h'⟩=>by subst h h';exact .pf _ _⟩
omit [Cur] in
theorem qiY{x:Nat}{cs:List AV}:Frz h .nils (.fz x cs)↔x=0∧cs=[]:=⟨fun h=>by cases h<;>simp_all,fun⟨h,h'⟩=>by subst h h';exact .nilz⟩
omit [Cur] in
theorem qiZ:Frzs h [] []↔True:=iff_true_intro .nil
omit [Cur] in
theorem qgG:Frzs h (v::vs) (v'::vs')↔Frz h v v'∧Frzs h vs vs':=⟨fun h=>by
  cases h<;>simp_all,fun h=>.cons _ _ _ _ h.1 h.2⟩
omit [Cur] in
theorem qk8{cs cs':List AV}:Frz h (.agg cs) (.agg cs')↔Frzs h cs cs':=⟨fun h=>by cases h<;>grind,fun h=>.agg _ _ h⟩
omit [Cur] in
theorem qld{cs cs':List AV}:Frz h (.tup cs) (.tup cs')↔Frzs h cs cs':=⟨fun h=>by cases h<;>grind,fun h=>.tup _ _ h⟩
omit [Cur] in
theorem qle{f f':Nat}{a a' c c':List AV}:Frz h (.fn f a c) (.fn f' a' c')↔f=f'∧Frzs h a a'∧Frzs h c c':=⟨fun h=>by
  cases h<;>simp_all,fun⟨h1,h2,h3⟩=>by subst h1;exact .fn _ _ _ _ _ h2 h3⟩
omit [Cur] in
theorem qla{f f':Nat}:Frz h (.ifc f v) (.ifc f' v')↔f=f'∧Frz h v v':=⟨fun h=>by
  cases h<;>simp_all,fun⟨h1,h2⟩=>by subst h1;exact .ifc _ _ _ h2⟩
omit [Cur] in
theorem qlb{b x y:Nat}{cs':List AV}:Frz h (.own b x) (.fz y cs')↔x=y∧evB (h.tr.get b) (fun z=>zY z (fun _ w _ ys=>w=true∧(x=0->ys=[])∧Frzs h ys cs')):=by
 constructor
 ·intro hh;cases hh with
  | own _ _ e af ys _ hb h0 h1=>exact⟨rfl,_,hb,rfl,h0,h1⟩
 ·rintro⟨rfl,z,h1,h2⟩;cases z with
  | cells e w af ys =>
   obtain⟨rfl,h3,h4⟩:=h2;exact .own _ _ e af ys _ h1 h3 h4
  | dead=>exact h2.elim
  | map es=>exact h2.elim
omit [Cur] in
theorem qlc{b x y:Nat}{cs':List AV}:Frz h (.ptr b x) (.pf cs' y)↔x=y∧evB (h.tr.get b) (fun z=>zY z (fun _ w _ ys=>w=true∧Frzs h ys cs')):=by
 constructor
 ·intro hh;cases hh with
  | ptr _ _ e af ys _ hb h1=>exact⟨rfl,_,hb,rfl,h1⟩
 ·rintro⟨rfl,z,h1,h2⟩;cases z with
  | cells e w af ys =>
   obtain⟨rfl,h4⟩:=h2;exact .ptr _ _ e af ys _ h1 h4
  | dead=>exact h2.elim
  | map es=>exact h2.elim
end
mutual
theorem Frz.self:∀{v:AV},clo v=true->Frz h v v
 | .undef,_=>.undef _
 | .b _,_=>.b _
 | .i _ _,_=>.i _ _
 | .s _,_=>.s _
 | .nilp,_=>.nilp
 | .ptr _ _,hc=>by simp[clo] at hc
 | .nils,_=>.nils
 | .sl _ _ _ _ _,hc=>by simp[clo] at hc
 | .nilf,_=>.nilf
 | .fn _ _ _,hc=>by
  simp only[clo,Bool.and_eq_true] at hc;exact .fn _ _ _ _ _ (Frzs.self hc.1) (Frzs.self hc.2)
 | .nili,_=>.nili
 | .ifc _ _,hc=>.ifc _ _ _ (Frz.self (by simpa[clo] using hc))
 | .agg _,hc=>.agg _ _ (Frzs.self (by simpa[clo] using hc))
 | .tup _,hc=>.tup _ _ (Frzs.self (by simpa[clo] using hc))
 | .nilm,_=>.nilm
 | .map _,hc=>by simp[clo] at hc
 | .fz _ _,_=>.fz _ _
 | .pf _ _,_=>.pf _ _
 | .e0,_=>.e0
 | .nz,_=>.nz
 | .own _ _,hc=>by simp[clo] at hc
 | .sym _,hc=>by simp[clo] at hc
 | .yl _,hc=>by simp[clo] at hc
 | .lp _,hc=>by simp[clo] at hc
theorem Frzs.self:∀{vs:List AV},zq vs=true->Frzs h vs vs
 | [],_=>.nil
 | v::vs,hc=>by
  simp only[zq,Bool.and_eq_true] at hc;exact .cons _ _ _ _ (Frz.self hc.1) (Frzs.self hc.2)
end

omit [Cur] in
@[congr] theorem qlm {kd:Option IntKind} {i:AV} {p:Prop} {mk:Prop} (_:qR=mk):qa8 qi kd i p=qa8 qi kd i p:=rfl
@[congr] theorem qlz {b:Nat} {k:List (AV×AV)->Prop} {mk:Prop} (_:qR=mk):jW h b k=jW h b k:=rfl
@[congr] theorem qi9 {es:List (AV×AV)} {p:Prop} {mk:Prop} (_:qR=mk):jA es p=jA es p:=rfl
theorem qnD{a:List UInt8}{p:Prop}:qa8 qi none (.s a) p↔p:=Iff.rfl
omit [Cur] in
theorem qnC{q:IntKind}{z:Int}{p:Prop}:qa8 qi (some q) (.i q z) p↔p:=by
 show qb (decide (q=q)) p↔p;rw[qa];simp
omit [Cur] in
theorem qfe{p:Prop}:jA [] p↔p:=Iff.rfl
omit [Cur] in
theorem qjc{a:List UInt8}{v:AV}{es:List (AV×AV)}{p:Prop}:jA ((.s a,v)::es) p↔p:=Iff.rfl
omit [Cur] in
theorem qjb{q:IntKind}{z:Int}{v:AV}{es:List (AV×AV)}{p:Prop}:jA ((.i q z,v)::es) p↔p:=Iff.rfl
def qg3(x:Blk)(k:List (AV×AV)->Prop):Prop:=match x with | .map es=>k es|_=>False
theorem qcd{es:List (AV×AV)}{k:List (AV×AV)->Prop}:qg3 (.map es) k↔k es:=Iff.rfl
omit [Cur] in
theorem qnL{b:Nat}{k:List (AV×AV)->Prop}:jW h b k↔evB (h.tr.get b) (fun x=>qg3 x (fun es=>jA es (k es))):=by
 unfold jW;refine (Tr.getK_iff _ _ _).trans (iff_of_eq (congrArg _ (funext fun x=>congrArg _ ?_)))
 cases x<;>rfl
omit [Cur] in
theorem qgB{i:AV}{k:Option AV->Prop}:xB qi i [] k↔k none:=Iff.rfl
omit [Cur] in
theorem qk5{i a:List UInt8}{v:AV}{es:List (AV×AV)}{k:Option AV->Prop}:xB qi (.s i) ((.s a,v)::es) k↔if i=a then k (some v) else xB qi (.s i) es k:=by
 show qn (eqS i a) (fun r=>Bool.rec (motive:=fun _=>Prop) (xB qi (.s i) es k) (k (some v)) r)↔_
 rw[qk,jg,zZ];simp
omit [Cur] in
theorem qk4{q:IntKind}{i a:Int}{v:AV}{es:List (AV×AV)}{k:Option AV->Prop}:xB qi (.i q i) ((.i q a,v)::es) k↔if i=a then k (some v) else xB qi (.i q i) es k:=by
 show qb (decide (q=q)) (qn (eqI i a) (fun r=>Bool.rec (motive:=fun _=>Prop) (xB qi (.i q i) es k) (k (some v)) r))↔_
 rw[qa,qk,jg,qbs];simp
omit [Cur] in
theorem qj2{i v:AV}{k:List (AV×AV)->Prop}:wA qi i v [] k↔k [(i,v)]:=Iff.rfl
omit [Cur] in
theorem qn9{i a:List UInt8}{u v:AV}{es:List (AV×AV)}{k:List (AV×AV)->Prop}:wA qi (.s i) u ((.s a,v)::es) k↔if i=a then k ((.s i,u)::es) else wA qi (.s i) u es (fun l=>k ((.s a,v)::l)):=by
 show qn (eqS i a) (fun r=>Bool.rec (motive:=fun _=>Prop) (wA qi (.s i) u es (fun l=>k ((.s a,v)::l))) (k ((.s i,u)::es)) r)↔_
 rw[qk,jg,zZ];simp
omit [Cur] in
theorem qn8{q:IntKind}{i a:Int}{u v:AV}{es:List (AV×AV)}{k:List (AV×AV)->Prop}:wA qi (.i q i) u ((.i q a,v)::es) k↔if i=a then k ((.i q i,u)::es) else wA qi (.i q i) u es (fun l=>k ((.i q a,v)::l)):=by
 show qb (decide (q=q)) (qn (eqI i a) (fun r=>Bool.rec (motive:=fun _=>Prop) (wA qi (.i q i) u es (fun l=>k ((.i q a,v)::l))) (k ((.i q i,u)::es)) r))↔_
 rw[qa,qk,jg,qbs];simp
theorem qfV{z:AV}{k:AV->Prop}:qaE false z none k↔k z:=Iff.rfl
omit [Cur] in
theorem qeJ{z:AV}{k:AV->Prop}:qaE true z none k↔k (.tup [z,.b false]):=Iff.rfl
omit [Cur] in
theorem qfW{z v:AV}{k:AV->Prop}:qaE false z (some v) k↔k v:=Iff.rfl
omit [Cur] in
theorem qeK{z v:AV}{k:AV->Prop}:qaE true z (some v) k↔k (.tup [v,.b true]):=Iff.rfl
def lkK(h:Hp)(ok:Bool)(zero x i:AV)(k:AV->Prop):Prop:=match x with
  | .nilm=>qaE ok zero none k
  | .map r=>jW h r (fun es=>xB qi i es (fun v=>qaE ok zero v k))
  | _=>False
theorem qlx{ok:Bool}{z i:AV}{k:AV->Prop}:lkK h ok z .nilm i k↔qaE ok z none k:=Iff.rfl
omit [Cur] in
theorem qlw{ok:Bool}{z i:AV}{r:Nat}{k:AV->Prop}:lkK h ok z (.map r) i k↔jW h r (fun es=>xB qi i es (fun v=>qaE ok z v k)):=Iff.rfl
omit [Cur] in
theorem qhu{kd:Option IntKind}{ok:Bool}{z:AV}{x i:O}:opK qi (.lookM kd ok z x i) t h k↔evK t x (fun x=>evK t i (fun i=>qa8 qi kd i (lkK h ok z x i (fun v=>k v h)))):=Iff.rfl
def upK(h:Hp)(x i v:AV)(k:Hp->Prop):Prop:=match x with
  | .map r=>jW h r (fun es=>wA qi i v es (fun es'=>zj h r (.map es') k))
  | _=>False
theorem qmy{i v:AV}{r:Nat}{k:Hp->Prop}:upK h (.map r) i v k↔jW h r (fun es=>wA qi i v es (fun es'=>zj h r (.map es') k)):=Iff.rfl
omit [Cur] in
theorem qjI{kd:Option IntKind}{x i v:O}:opK qi (.updM kd x i v) t h k↔evK t x (fun x=>evK t i (fun i=>evK t v (fun v=>qa8 qi kd i (upK h x i v (fun h'=>k .undef h'))))):=Iff.rfl

omit [Cur] in
theorem qeX:qt []=true:=rfl
omit [Cur] in
theorem qbo{v:AV}{vs:List AV}:qt (v::vs)=(qI v&&qt vs):=by
 show (Bool.rec (motive:=fun _=>Bool) false (qt vs) (qI v):Bool)=_
 cases qI v<;>rfl
omit [Cur] in
theorem qkN{x:Bool}:qI (.b x)=true:=rfl
omit [Cur] in
theorem qkO{q:IntKind}{x:Int}:qI (.i q x)=true:=rfl
omit [Cur] in
theorem qkP{x:List UInt8}:qI (.s x)=true:=rfl
omit [Cur] in
theorem qeU:qI .nilp=true:=rfl
omit [Cur] in
theorem qge{b o:Nat}:qI (.ptr b o)=true:=rfl
omit [Cur] in
theorem qeV:qI .nils=true:=rfl
omit [Cur] in
theorem qiC{b o x c:Nat}{l:Bool}:qI (.sl b o x c l)=true:=rfl
omit [Cur] in
theorem qeR:qI .nilf=true:=rfl
omit [Cur] in
theorem qix{f:Nat}{a c:List AV}:qI (.fn f a c)=true:=rfl
omit [Cur] in
theorem qeS:qI .nili=true:=rfl
omit [Cur] in
theorem qgb{f:Nat}{v:AV}:qI (.ifc f v)=true:=rfl
omit [Cur] in
theorem qeT:qI .nilm=true:=rfl
omit [Cur] in
theorem qgc{b:Nat}:qI (.map b)=true:=rfl
omit [Cur] in
theorem qiy{n:Nat}{cs:List AV}:qI (.fz n cs)=true:=rfl
omit [Cur] in
theorem qiB{n:Nat}{cs:List AV}:qI (.pf cs n)=true:=rfl
omit [Cur] in
theorem qiw:qI .e0=true:=rfl
omit [Cur] in
theorem qiA:qI .nz=true:=rfl
omit [Cur] in
theorem qgd{b n:Nat}:qI (.own b n)=true:=rfl
omit [Cur] in
theorem qeW{α:Type}{f:α->AV}{xs:List α}(h:∀x,qI (f x)=true):qt (xs.map f)=true:=by
 induction xs with
 | nil=>rfl
 | cons v a ih=>simp_all[qbo]
omit [Cur] in
theorem qc2{a b:List AV}:zq (a++b)=(zq a&&zq b):=by
 induction a with
 | nil=>simp[zq]
 | cons v a ih=>simp[zq,ih,Bool.and_assoc]
omit [Cur] in
theorem qc3{α:Type}{f:α->AV}{xs:List α}(h:∀x,clo (f x)=true):zq (xs.map f)=true:=by
 induction xs with
 | nil=>rfl
 | cons v a ih=>simp[zq,ih,h]
theorem SL.loop{α:Type}{x:ICode}{Q:X->Tr AV->Hp->Prop}(T:α->List (Nat×AV))(B:α->List Blk)(I:α->Prop)(μ:α->Nat)(a0:α)(src:List Nat)
  (hT:TWs t (rl src h.sz) (B a0).length (T a0)) (hB:BWs h (rl src h.sz) (B a0).length src (B a0)) (hI:(src.filter fun b=>decide (b<h.sz)).Nodup) (hfl:h.fl=0) (h0:I a0)
  (step:∀a,I a->∀G:Tr AV->Hp->Prop,(∀b,I b->μ b<μ a->∀t' h',Wk 0 t' h' (mkT (T b)) (mkH 0 (B b))->G t' h')->
   V P 0 x (fun e t h=>onX e (G t h) (fun id=>Q (.exit id) t h) (Q .ret t h)) (mkT (T a)) (mkH 0 (B a))):SL P 0 x Q t h:=by
 have main:∀m a,μ a=m->I a->SL P 0 x Q (mkT (T a)) (mkH 0 (B a)):=by
  intro m
  induction m using Nat.strongRecOn with
  | ind m ih =>
   intro a ha hi;exact qh2 (step a hi (fun t h=>SL P 0 x Q t h) fun b hb hlt t' h' hw=>SL.weak hw (ih (μ b) (ha ▸ hlt) b rfl hb))
 exact SL.weak (by grind[Wk.mk]) (main _ a0 rfl h0)

omit [Cur] in
theorem qoi{b:Bool}:(b==true)=b:=by cases b<;>rfl
omit [Cur] in
theorem qoh{b:Bool}:(b==false) = !b:=by cases b<;>rfl
def vA:=And.intro @qfQ (And.intro @qne (And.intro @qnh (And.intro @qkt (And.intro @qng (And.intro @qkq (And.intro @qkp (And.intro @qnd (And.intro @qkr (And.intro @qnf (And.intro @qks (And.intro @qkm (And.intro @qnc (And.intro @qfN (And.intro @qfO (And.intro @qfP (And.intro @qeF (And.intro @qnb
 (And.intro @qkU (And.intro @qkR (And.intro @qdU (And.intro @qhk (And.intro @qjy (And.intro @qgo (And.intro @qc5 (And.intro @qjN (And.intro @qjO @qhK))))))))))))))))))))))))))
def vR:=And.intro @qeH (And.intro @qdA @qkn)
def vE:=And.intro @qnu (And.intro @qnt (And.intro @qgx (And.intro @qe6 (And.intro @qfv (And.intro @qfx (And.intro @qgH (And.intro @qe2 (And.intro @qe3 (And.intro @qn4 (And.intro @qj1 (And.intro @qn5 (And.intro @qn6 (And.intro @qeE (And.intro @qU (And.intro @qaI
 (And.intro @qlK (And.intro @qmj (And.intro @qgW (And.intro @qnG (And.intro @qjg (And.intro @qlt (And.intro @qnE (And.intro @qgX (And.intro @qjm (And.intro @qlG (And.intro @qoT (And.intro @qjX (And.intro @qiJ (And.intro @wm (And.intro @qi8 @zg))))))))))))))))))))))))))))))
def vO:=And.intro @qme (And.intro @qjF (And.intro @qhm (And.intro @ql1 (And.intro @qhn (And.intro @qfo (And.intro @qhs (And.intro @qht (And.intro @qhw (And.intro @qfr (And.intro @ql0 (And.intro @ql4 (And.intro @ql5 (And.intro @ql3 (And.intro @qnX (And.intro @qhp (And.intro @qhq (And.intro @qmf (And.intro @qlZ
 (And.intro @qhr (And.intro @ql7 (And.intro @qfp (And.intro @qfq (And.intro @qjD (And.intro @qjE (And.intro @qjH (And.intro @qft (And.intro @qjG (And.intro @ql6 (And.intro @qmb (And.intro @qmd (And.intro @ql8 (And.intro @qlY (And.intro @qjA (And.intro @qjC (And.intro @qma (And.intro @ql9 (And.intro @qho (And.intro @qmc
 (And.intro @qfu (And.intro @qjz (And.intro @qjR (And.intro @qmn (And.intro @qmm (And.intro @qhO (And.intro @qml (And.intro @ql2 (And.intro @qjB (And.intro @qfZ (And.intro @qhu @qjI)))))))))))))))))))))))))))))))))))))))))))))))))
def vB:=And.intro @qil (And.intro @qik (And.intro @qig (And.intro @qie (And.intro @qid (And.intro @qif (And.intro @qic (And.intro @qii (And.intro @qh9 (And.intro @qim (And.intro @qih (And.intro @qkF (And.intro @qia (And.intro @qin (And.intro @qib (And.intro @qf3 (And.intro @qf8 (And.intro @qf2 (And.intro @qf7 (And.intro @qf4 (And.intro @qf6 (And.intro @qf5 (And.intro @qmx (And.intro @qmw @qoj)))))))))))))))))))))))
def vF:=And.intro @qgC (And.intro @qgD (And.intro @qnB (And.intro @qnA (And.intro @qll (And.intro @qgS (And.intro @qgR (And.intro @qfd (And.intro @qh6 (And.intro @qh7 (And.intro @qip (And.intro @qio (And.intro @qiq (And.intro @qjT (And.intro @qn0 (And.intro @qn1 (And.intro @qmp (And.intro @qmq (And.intro @qmo (And.intro @qkA (And.intro @qe5 (And.intro @qgu (And.intro @qjj (And.intro @qnH (And.intro @qnJ (And.intro @qnI (And.intro @qly (And.intro @qnK (And.intro @qot
 (And.intro @qgk (And.intro @qkQ (And.intro @qeL (And.intro @qdC (And.intro @qlH (And.intro @qnM (And.intro @qiI (And.intro @qnm (And.intro @qnn (And.intro @qgA (And.intro @qe7 (And.intro @qe0 (And.intro @qiH (And.intro @qhS (And.intro @qms (And.intro @qmu (And.intro @qmv (And.intro @qjW (And.intro @qmt (And.intro @qn2 (And.intro @qfX (And.intro @qkx (And.intro @qh5 (And.intro @qkz (And.intro @qky
 (And.intro @qhf (And.intro @qjp (And.intro @qlO (And.intro @qhg (And.intro @qlN (And.intro @qlP (And.intro @qlM (And.intro @qjo (And.intro @qhd (And.intro @qlL (And.intro @qhe (And.intro @qjn (And.intro @qiL (And.intro @qgs (And.intro @qom (And.intro @qon @qol)))))))))))))))))))))))))))))))))))))))))))))))))))))))))))))))))))))
def vM:=And.intro @qnD (And.intro @qnC (And.intro @qfe (And.intro @qjc (And.intro @qjb (And.intro @qcd (And.intro @qnL (And.intro @qgB (And.intro @qk5 (And.intro @qk4 (And.intro @qj2 (And.intro @qn9 (And.intro @qn8 (And.intro @qfV (And.intro @qeJ (And.intro @qfW (And.intro @qeK (And.intro @qlx (And.intro @qlw @qmy))))))))))))))))))
def vC:=And.intro @qeX (And.intro @qbo (And.intro @qkN (And.intro @qkO (And.intro @qkP (And.intro @qeU (And.intro @qge (And.intro @qeV (And.intro @qiC (And.intro @qeR (And.intro @qix (And.intro @qeS (And.intro @qgb (And.intro @qeT (And.intro @qgc (And.intro @qiy (And.intro @qiB (And.intro @qiw (And.intro @qiA @qgd))))))))))))))))))
def vP:=And.intro @qfi (And.intro @qgw (And.intro @qiO (And.intro @qiP (And.intro @qiQ (And.intro @qiR (And.intro @qgv (And.intro @qc6 (And.intro @qdh (And.intro @qcq (And.intro @qkh (And.intro @qec (And.intro @qoi (And.intro @qoh @jg)))))))))))))
def vW:=And.intro @qnU (And.intro @qhi (And.intro @qou (And.intro @qov (And.intro @qow (And.intro @qjt (And.intro @qju (And.intro @qjq (And.intro @qjr (And.intro @qjs (And.intro @qnO (And.intro @qnR (And.intro @qlR (And.intro @qhh (And.intro @qlW (And.intro @qnQ (And.intro @qnS (And.intro @qjv (And.intro @qlV (And.intro @qnT (And.intro @qlU (And.intro @qfn (And.intro @qlT (And.intro @qjw (And.intro @qhj (And.intro @qlQ (And.intro @qlX (And.intro @qnP (And.intro @qlS
 (And.intro @qj0 (And.intro @qhV (And.intro @qis (And.intro @qga (And.intro @qkI (And.intro @qir (And.intro @qkJ (And.intro @qoP @qoQ))))))))))))))))))))))))))))))))))))
def vZ:=And.intro @qgF (And.intro @qoo (And.intro @qoq (And.intro @qor (And.intro @qiW (And.intro @qiX (And.intro @qiT (And.intro @qiU (And.intro @qiV (And.intro @qnv (And.intro @qnx (And.intro @qk9 (And.intro @qnw (And.intro @qny (And.intro @qiY (And.intro @qiZ (And.intro @qgG (And.intro @qk8 (And.intro @qld (And.intro @qle (And.intro @qlc (And.intro @qla @qlb)))))))))))))))))))))
end Go.Kc
end
section
namespace Go.Kc
variable [Cur]
variable {P:Program}

mutual
def flat:AV->Bool
 | .ptr _ _=>false
 | .sl _ _ _ _ _=>false
 | .map _=>false
 | .own _ _=>false
 | .fz _ _=>false
 | .pf _ _=>false
 | .sym _=>false
 | .fn _ a c=>qc8 a&&qc8 c
 | .ifc _ v=>flat v
 | .agg cs=>qc8 cs
 | .tup cs=>qc8 cs
 | .undef=>true | .b _=>true | .i _ _=>true | .s _=>true | .nilp=>true | .nils=>true | .nilf=>true | .nili=>true | .nilm=>true | .e0=>true | .nz=>true | .yl _=>false | .lp _=>true
def qc8:List AV->Bool
 | []=>true
 | v::vs=>flat v&&qc8 vs
end
mutual
def shv(m:Nat):AV->AV
 | .ptr b o=>.ptr (b+m) o
 | .sl b o n c l=>.sl (b+m) o n c l
 | .map b=>.map (b+m)
 | .own b n=>.own (b+m) n
 | .yl b=>.yl (b+m)
 | .fn f a c=>.fn f (jL m a) (jL m c)
 | .ifc t v=>.ifc t (shv m v)
 | .agg cs=>.agg (jL m cs)
 | .tup cs=>.tup (jL m cs)
 | v=>v
def jL(m:Nat):List AV->List AV
 | []=>[]
 | v::vs=>shv m v::jL m vs
end
omit [Cur] in
theorem qdv{m:Nat}:∀{vs:List AV} {j:Nat},(jL m vs)[j]?=(vs[j]?).map (shv m)
 | [],j=>by simp[jL]
 | v::vs,0=>by simp[jL]
 | v::vs,j+1=>by simpa[jL] using qdv (vs:=vs) (j:=j)
omit [Cur] in
theorem x6{m:Nat}:∀{vs:List AV},(jL m vs).length=vs.length
 | []=>rfl
 | v::vs=>by simp[jL,x6 (vs:=vs)]
mutual
theorem qey{m:Nat}:∀{v:AV},clo v=true->shv m v=v
 | .ptr _ _,h=>by simp[clo] at h
 | .sl _ _ _ _ _,h=>by simp[clo] at h
 | .map _,h=>by simp[clo] at h
 | .own _ _,h=>by simp[clo] at h
 | .fn f a c,h=>by
  simp only[clo,Bool.and_eq_true] at h;simp only[shv,xR h.1,xR h.2]
 | .ifc t v,h=>by
  simp only[clo] at h;simp only[shv,qey h]
 | .agg cs,h=>by
  simp only[clo] at h;simp only[shv,xR h]
 | .tup cs,h=>by
  simp only[clo] at h;simp only[shv,xR h]
 | .undef,_=>rfl
 | .b _,_=>rfl
 | .i _ _,_=>rfl
 | .s _,_=>rfl
 | .nilp,_=>rfl
 | .nils,_=>rfl
 | .nilf,_=>rfl
 | .nili,_=>rfl
 | .nilm,_=>rfl
 | .sym _,h=>by simp[clo] at h
 | .fz _ _,_=>rfl
 | .pf _ _,_=>rfl
 | .e0,_=>rfl
 | .nz,_=>rfl
 | .yl _,h=>by simp[clo] at h
 | .lp _,_=>rfl
theorem xR{m:Nat}:∀{vs:List AV},zq vs=true->jL m vs=vs
 | [],_=>rfl
 | v::vs,h=>by
  simp only[zq,Bool.and_eq_true] at h;simp only[jL,qey h.1,xR h.2]
end
def she(m:Nat)(es:List (AV×AV)):List (AV×AV):=es.map fun e=>(shv m e.1,shv m e.2)
omit [Cur] in
theorem qex{m:Nat}:she m []=[]:=rfl
omit [Cur] in
theorem qdu{m:Nat}{a b:AV}{es:List (AV×AV)}:she m ((a,b)::es)=(shv m a,shv m b)::she m es:=rfl
def shb(m:Nat):Blk->Blk
 | .cells e w a cs=>.cells e w a (jL m cs)
 | .dead=>.dead
 | .map es=>.map (she m es)
noncomputable def xv(h:Hp):List Blk->Hp
 | []=>h
 | x::xs=>xv (h.push x) xs
omit [Cur] in
theorem qaw:∀{bs:List Blk} {h:Hp},(xv h bs).sz=h.sz+bs.length
 | [],_=>rfl
 | x::xs,h=>by
  show (xv (h.push x) xs).sz=_;rw[qaw];simp[Hp.push];omega
omit [Cur] in
theorem qbN:∀{bs:List Blk} {h:Hp},(xv h bs).fl=h.fl
 | [],_=>rfl
 | x::xs,h=>by
  show (xv (h.push x) xs).fl=_;rw[qbN];rfl
omit [Cur] in
theorem ww:∀{bs:List Blk} {h:Hp} {b:Nat},(xv h bs).tr.get b=if b<h.sz then h.tr.get b else if b<h.sz+bs.length then bs[b-h.sz]? else h.tr.get b
 | [],h,b=>by simp[xv];omega
 | x::xs,h,b=>by
  show (xv (h.push x) xs).tr.get b=_;rw[ww];simp only[Hp.push,Tr.get_set,List.length_cons]
  grind
def Ren.join(ρ ρ2:Ren)(m l:Nat):Ren:=⟨fun b=>if b<m then ρ b else ρ2 (b-m),ρ2.frz,m+l⟩
omit [Cur] in
theorem qcx{ρ ρ2:Ren}{m l b:Nat}(h:b<m):ρ.join ρ2 m l b=ρ b:=by simp only[Ren.join];rw[if_pos h]
omit [Cur] in
theorem jB{ρ ρ2:Ren}{m l b:Nat}:ρ.join ρ2 m l (b+m)=ρ2 b:=by simp only[Ren.join];rw[if_neg (by omega),Nat.add_sub_cancel]
mutual
theorem VR.sh{ρ ρ2:Ren}{m l:Nat}(hl:ρ2.n<=l):∀{v:AV} {x:Value},VR σ0 ρ2 v x->VR σ0 (ρ.join ρ2 m l) (shv m v) x
 | _,_,.undef v=>.undef v
 | _,_,.b x=>.b x
 | _,_,.i k n=>.i k n
 | _,_,.s x=>.s x
 | _,_,.nilp=>.nilp
 | _,_,.ptr b o L h=>.ptr _ _ L (by rw[jB];exact h)
 | _,_,.nils=>.nils
 | _,_,.sl b o len cap c loose L h hc=>.sl _ _ _ _ _ _ L (by rw[jB];exact h) hc
 | _,_,.slz b o x l' L h=>.slz _ _ _ _ L (by rw[jB];exact h)
 | _,_,.nilf=>.nilf
 | _,_,.fn f first cap first' cap' h1 h2=>.fn _ _ _ _ _ (VRs.sh hl h1) (VRs.sh hl h2)
 | _,_,.nili=>.nili
 | _,_,.ifc t v v' h=>.ifc _ _ _ (VR.sh hl h)
 | _,_,.agg cs cs' h=>.agg _ _ (VRs.sh hl h)
 | _,_,.tup cs cs' h=>.tup _ _ (VRs.sh hl h)
 | _,_,.nilm=>.nilm
 | _,_,.map b L h h0=>.map _ L (by rw[jB];exact h) h0
 | _,_,.sym j=>.sym j
 | _,_,.fz n off c cs k arr hn h hs=>.fz n off c cs k arr hn h hs
 | _,_,.fz0 a=>.fz0 a
 | _,_,.pf off base cs k arr h hs=>.pf off base cs k arr h hs
 | _,_,.e0 a=>.e0 a
 | _,_,.nz a c=>.nz a c
 | _,_,.own0 b a hb=>.own0 _ _ (by show b+m<m+l;omega)
 | _,_,.own b n c L h hn hc'=>.own _ _ _ L (by rw[jB];exact h) hn hc'
 | _,_,.yl b L h=>.yl _ L (by rw[jB];exact h)
theorem VRs.sh{ρ ρ2:Ren}{m l:Nat}(hl:ρ2.n<=l):∀{v:List AV} {x:List Value},VRs σ0 ρ2 v x->VRs σ0 (ρ.join ρ2 m l) (jL m v) x
 | _,_,.nil=>.nil
 | _,_,.cons v vs v' vs' h hs=>.cons _ _ _ _ (VR.sh hl h) (VRs.sh hl hs)
end
omit [Cur] in
theorem qjS{m:Nat}{r:Loop}{ts:List (Nat×AV)}:she m (qW r ts)=qW r (ts.map fun p=>(p.1,shv m p.2)):=by simp[she,qW,shv]
theorem zL.sh{ρ ρ2:Ren}{m l:Nat}(hl:ρ2.n<=l){es:List (AV×AV)}{o:Obj}(h:zL σ0 ρ2 es o):zL σ0 (ρ.join ρ2 m l) (she m es) o:=by
 rcases h with⟨h0,vs,clk,h1,h2,h3⟩|⟨a,n,rfl,h2⟩|⟨r,rq,ts,rfl,h2,hk2,h3⟩|⟨r,q,s,l,rfl,h2,h3⟩
 rotate_left 3
 ·exact .inr (.inr (.inr ⟨_,q,s,l,rfl,VR.sh hl h2,h3⟩))
 ·refine .inl ⟨fun e he=>?_,vs,clk,h1,by simp[she,h2],fun j e he=>?_⟩
  ·cases es with
   | nil=>simp[she] at he
   | cons e0 es =>
    simp[she] at he;subst he;have:=h0 e0 rfl;cases e0 with
    | mk k v=>cases k<;>first|(simp[shv];done)|exact absurd rfl this.1|simp_all
  ·simp only[she,List.getElem?_map] at he
   grind[VR.sh]
 ·exact .inr (.inl ⟨a,n,rfl,h2⟩)
 ·refine .inr (.inr (.inl ⟨r,rq,_,qjS,h2,hk2,fun p hp=>?_⟩))
  obtain⟨q,hq,rfl⟩:=List.mem_map.1 hp;exact⟨(h3 q hq).1,VR.sh hl (h3 q hq).2⟩
theorem Rel.joinH{ρ ρ2:Ren}{B:Nat->Prop}{h:Hp}{w w1:World}{bs:List Blk}(r:Rel σ0 ρ B h w)(r2:Rel σ0 ρ2 (low w.heap.size) (mkH 0 bs) w1)(hp:∀k,k<w.heap.size->w1.heap[k]?=w.heap[k]?)(hw:w.heap.size<=w1.heap.size)
  (f1:∀k a,ρ.frz k=some a->ρ2.frz k=some a) (f2:∀k a,ρ2.frz k=some a->ρ.frz k=some a∨w.heap.size<=k) :
  Rel σ0 (ρ.join ρ2 h.sz bs.length) B (xv h (bs.map (shb h.sz))) w1:=by
 have r1:Rel σ0 ⟨ρ.loc,ρ2.frz,ρ.n⟩ B h w1:=(by grind[Rel.frz',Rel.frz]);have n2:ρ2.n<=bs.length:=r2.dn.1
 have le1:Ren.le ⟨ρ.loc,ρ2.frz,ρ.n⟩ (ρ.join ρ2 h.sz bs.length) :=
  ⟨by grind[qcx,Rel.dom],fun _ _ h=>h,Nat.le_trans r.dn.1 (Nat.le_add_right _ _)⟩
 -- a block: old,or new
 have split:∀b L,ρ.join ρ2 h.sz bs.length b=some L->(b<h.sz∧ρ b=some L∧(xv h (bs.map (shb h.sz))).tr.get b=h.tr.get b) ∨
   ∃c,b=c+h.sz∧ρ2 c=some L∧(xv h (bs.map (shb h.sz))).tr.get b=((mkH 0 bs).tr.get c).map (shb h.sz)∧w.heap.size<=L.blk:=by
  intro b L hb
  by_cases hlt:b<h.sz
  ·rw[qcx hlt] at hb
   simp_all[ww]
  ·obtain⟨c,rfl⟩:∃c,b=c+h.sz:=⟨b-h.sz,by omega⟩
   rw[jB] at hb;have hc:c<bs.length:=r2.dom c L hb;refine .inr ⟨c,rfl,hb,?_,Nat.not_lt.1 (r2.flr c L hb (Nat.zero_le _))⟩;rw[ww,if_neg hlt,if_pos (by grind),z8,Nat.add_sub_cancel,List.getElem?_map]
 have oldlt:∀b L x,ρ b=some L->h.tr.get b=some x->x≠.dead->L.blk<w.heap.size:=fun b L x h1 h2 h3=>r.blk_lt b L h1 x h2 h3
 have shd:∀{x y:Blk},(some x).map (shb h.sz)=some y->y≠.dead->x≠.dead:=by
  intro x y h1 h2 h3;subst h3;simp[shb] at h1;simp_all
 have shc:∀{o:Option Blk} {e:Nat} {w a:Bool} {cs:List AV},o.map (shb h.sz)=some (.cells e w a cs)->∃cs0,o=some (.cells e w a cs0)∧cs=jL h.sz cs0:=by
  intro o e w a cs ho;cases o with
  | none=>grind
  | some x =>
   cases x with
   | cells e' w' a' cs'=>simp[shb] at ho;simp_all
   | dead=>grind
   | map es=>simp[shb] at ho
 have shm:∀{o:Option Blk} {es:List (AV×AV)},o.map (shb h.sz)=some (.map es)->∃es0,o=some (.map es0)∧es=she h.sz es0:=by
  intro o es ho;cases o with
  | none=>grind
  | some x =>
   cases x with
   | cells e' w' a' cs'=>simp[shb] at ho
   | dead=>grind
   | map es'=>simp[shb] at ho;grind
 have shn:∀{o:Option Blk} {y:Blk},o.map (shb h.sz)=some y->y≠.dead->∃x,o=some x∧x≠.dead:=by
  intro o y ho hy;cases o<;>grind
 refine⟨fun b L hb=>?_,?_,?_,?_,?_,?_,?_,wl r.base hw,?_,?_⟩
 ·rw[qaw,List.length_map];rcases split b L hb with⟨h1,_⟩|⟨c,rfl,h1,_⟩
  ·omega
  ·have:c<bs.length:=r2.dom c L h1;omega
 ·intro b L e wf af cs hb hg;rcases split b L hb with⟨h1,h2,h3⟩|⟨c,rfl,h2,h3,_⟩
  ·rw[h3] at hg;obtain⟨q1,c,ty,fz,q2,q3,q4,q5,q6⟩:=r1.cells b L e wf af cs h2 hg
   grind[VR.mono]
  ·rw[h3] at hg;obtain⟨cs0,g1,rfl⟩:=shc hg;obtain⟨q1,c',ty,fz,q2,q3,q4,q5,q6⟩:=r2.cells c L e wf af cs0 h2 g1
   grind[x6,qdv,VR.sh]
 ·intro b L es hb hg;rcases split b L hb with⟨h1,h2,h3⟩|⟨c,rfl,h2,h3,_⟩
  ·rw[h3] at hg;obtain⟨q1,o,q2,q3⟩:=r1.maps b L es h2 hg;exact by grind[zL.mono]
  grind[Rel.maps,zL.sh]
 ·intro b L e af cs hb hg b' L' x hb' hx hd he;rcases split b L hb with⟨h1,h2,h3⟩|⟨c,rfl,h2,h3,h4⟩<;>rcases split b' L' hb' with⟨i1,i2,i3⟩|⟨c',rfl,i2,i3,i4⟩
  ·rw[h3] at hg;rw[i3] at hx
   grind[Rel.excl]
  ·rw[h3] at hg;have:=oldlt b L _ h2 hg (by simp);omega
  ·rw[i3] at hx;have:=oldlt b' L' _ i2 hx hd;omega
  ·rw[h3] at hg;rw[i3] at hx;obtain⟨cs0,g1,rfl⟩:=shc hg;obtain⟨x0,g2,g3⟩:=shn hx hd;rw[r2.excl c L e af cs0 h2 g1 c' L' x0 i2 g2 g3 he]
 ·intro b L es hb hg b' L' x hb' hx hd he;rcases split b L hb with⟨h1,h2,h3⟩|⟨c,rfl,h2,h3,h4⟩
  ·rw[h3] at hg
   grind[Rel.exclm]
  ·rw[h3] at hg;obtain⟨es0,g1,rfl⟩:=shm hg;rcases split b' L' hb' with⟨i1,i2,i3⟩|⟨c',rfl,i2,i3,i4⟩
   ·rw[i3] at hx;have:=oldlt b' L' _ i2 hx hd;omega
   ·rw[i3] at hx;obtain⟨x0,g2,g3⟩:=shn hx hd;rw[r2.exclm c L es0 h2 g1 c' L' x0 i2 g2 g3 he]
 ·intro b L e wf cs hb hg b' L' e' wf' af' cs' hb' hx he;rcases split b L hb with⟨h1,h2,h3⟩|⟨c,rfl,h2,h3,h4⟩<;>rcases split b' L' hb' with⟨i1,i2,i3⟩|⟨c',rfl,i2,i3,i4⟩
  ·rw[h3] at hg;rw[i3] at hx;exact r.app b L e wf cs h2 hg b' L' e' wf' af' cs' i2 hx he
  ·rw[h3] at hg;have:=oldlt b L _ h2 hg (by simp);omega
  ·rw[i3] at hx;have:=oldlt b' L' _ i2 hx (by simp);omega
  ·rw[h3] at hg;rw[i3] at hx;obtain⟨cs0,g1,rfl⟩:=shc hg;obtain⟨cs1,g2,rfl⟩:=shc hx;have q:=r2.app c L e wf cs0 h2 g1 c' L' e' wf' af' cs1 i2 g2 he;rw[x6,x6]
   grind
 ·intro b L hb hf;rw[qbN] at hf;rcases split b L hb with⟨h1,h2,h3⟩|⟨c,rfl,h2,h3,h4⟩
  ·grind[Rel.flr]
  ·exact zN r.base h4
 ·intro k arr hk;refine⟨(r2.frz k arr hk).1,fun b L x hb hx hd=>?_⟩
  rcases split b L hb with⟨h1,h2,h3⟩|⟨c,rfl,h2,h3,h4⟩
  ·rw[h3] at hx;exact (r1.frz k arr hk).2 b L x h2 hx hd
  ·rw[h3] at hx;obtain⟨x0,g2,g3⟩:=shn hx hd;exact (r2.frz k arr hk).2 c L x0 h2 g2 g3
 ·refine⟨?_,fun b L hb=>?_⟩
  ·show h.sz+bs.length<=_;rw[qaw,List.length_map];omega
  ·rcases split b L hb with⟨_,h2,_⟩|⟨c,rfl,h2,_,_⟩
   ·exact Nat.lt_of_lt_of_le (r.dn.2 b L h2) hw
   ·exact r2.dn.2 c L h2
def Own(P:Program)(f:Nat)(vs:List AV)(v:AV)(bs:List Blk):Prop :=
 ∀(h:Hp) (k:AV->Hp->Prop),k (shv h.sz v) (xv h (bs.map (shb h.sz)))->SC P f vs h k
def qmZ(v:AV)(bs:List Blk)(v':AV)(h':Hp):Prop:=h'.fl=0->∃src:List Nat,NV (rl src h'.sz) bs.length v' v∧BWs h' (rl src h'.sz) bs.length src bs∧(src.filter fun b=>decide (b<h'.sz)).Nodup
theorem Own.of_SC{f:Nat}{vs:List AV}{v:AV}{bs:List Blk}(hcl:zq vs=true)(hs:SC P f vs H0 (qmZ v bs)):Own P f vs v bs:=by
 intro h k hk;refine⟨hs.1,fun ρ B w args r ha=>?_⟩
 have hcr:=ha.crs hcl;refine jN.mono (hs.2 ⟨fun _=>none,ρ.frz,0⟩ (low w.heap.size) w args r.empty (by grind[CRs.vr])) ?_
 rintro e w1 ⟨v0,v',h1,ρ1,rfl,g1,g2,g3,g4⟩;obtain⟨src,s1,s2,s3⟩:=g1 g4.fl;have hw:Wk 0 (mkT [(0,v0)]) h1 (mkT [(0,v)]) (mkH 0 bs):=Wk.mk [(0,v)] bs src ⟨⟨v0,by simp[mkT,Tr.get_set],s1⟩,trivial⟩ s2 s3 g4.fl
 obtain⟨ρ2,t2,r2,k2⟩:=hw ρ1 (low w.heap.size) w1 #[v'] (fun j x hj=>by
  have:=qav hj
  simp_all) g3
 have hv2:VR σ0 ρ2 v v':=by
  have:=(t2 0 v (by simp[mkT,Tr.get_set])).2
  simp_all
 have f1:∀k a,ρ.frz k=some a->ρ2.frz k=some a:=by grind[Kep.frz,Kept.frz]
 have f2:∀k a,ρ2.frz k=some a->ρ.frz k=some a∨w.heap.size<=k:=fun k a hk=>(k2.fnew k a hk).elim (fun hk=>(g4.fnew k a hk).imp id Nat.not_lt.1) (by omega)
 refine⟨_,v',_,ρ.join ρ2 h.sz bs.length,rfl,hk,hv2.sh r2.dn.1,Rel.joinH r r2 g4.pres g4.wle f1 f2,?_⟩;refine⟨by grind[qcx],by rw[qaw];omega,qbN,by grind[ww],by grind[Kept.pres,Rel.base],g4.wle,g4.io,f1,fun k a hk=>(f2 k a hk).imp id (zN r.base),?_⟩
 exact Nat.le_trans r.dn.1 (Nat.le_add_right _ _)
theorem Own.mk{f:Nat}{i:IFn}{vs:List AV}{v:AV}{bs:List Blk}(hc:xA P f i=true)(hcl:zq vs=true)(hV:V P 0 i.body (qbr i.res (qmZ v bs)) (jF vs 0 .leaf) H0):Own P f vs v bs :=
 Own.of_SC hcl (SC.mk hc (zy hV))
def qmY(P:Program)(f:Nat)(vs':List AV)(v:AV)(bs:List Blk):Prop :=
 ∀(h:Hp) (vs:List AV) (k:AV->Hp->Prop),Frzs h vs vs'->k (shv h.sz v) (xv h (bs.map (shb h.sz)))->SC P f vs h k
def PC(P:Program)(f:Nat)(vs:List AV)(h:Hp)(k:AV->Hp->Prop):Prop:=∃v h',(∀k':AV->Hp->Prop,k' v h'->SC P f vs h k')∧k v h'
def PY(P:Program)(b:Nat)(vs:List AV)(h:Hp)(k:AV->Hp->Prop):Prop:=∃v h',(∀k':AV->Hp->Prop,k' v h'->CC P 0 (.yl b::vs) h k')∧k v h'
@[congr] theorem qm0 {f:Nat} {vs vs':List AV} {h:Hp} {k:AV->Hp->Prop} {mk:Prop} (_:qR=mk) (h':vs=vs'):PC P f vs h k=PC P f vs' h k:=by rw[h']
@[congr] theorem qm1 {b:Nat} {vs vs':List AV} {h:Hp} {k:AV->Hp->Prop} {mk:Prop} (_:qR=mk) (h':vs=vs'):PY P b vs h k=PY P b vs' h k:=by rw[h']
def PCC(P:Program):qx:=fun f vs h k=>∃v h',(∀k':AV->Hp->Prop,k' v h'->CC P f vs h k')∧k v h'
theorem qog:LC (PCC P):=fun _ _ _ _ ⟨v,h',h1,h2⟩=>⟨v,h',h2,fun _ h3=>⟨v,h',h1,h3⟩⟩
theorem qfM:zU P σ0 (PCC P):=⟨fun f vs h _ ⟨_,_,h1,h2⟩=>(qbj P).1 f vs h _ (h1 _ h2),fun b vs h _ ⟨_,_,h1,h2⟩=>(qbj P).2 b vs h _ (h1 _ h2)⟩
theorem qkT{b:Nat}{vs:List AV}{h:Hp}{k:AV->Hp->Prop}:cvF (PCC P) (.yl b) vs h k↔PY P b vs h k:=Iff.rfl
theorem qkS{f:Nat}{a c vs:List AV}{h:Hp}{k:AV->Hp->Prop}:cvF (PCC P) (.fn f a c) vs h k↔PC P f (a++(vs++c)) h k:=Iff.rfl
theorem qhx{dst:Option Nat}{f:Nat}{args:List O}{ops:List ROp}{Q:Tr AV->Hp->Prop}{t:Tr AV}{s fl:Nat}{tr:Tr Blk}:VR' (PCC P) (⟨dst,.callF f args,none⟩::ops) Q t ⟨s,fl,tr⟩↔zu t args (fun vs=>PC P f vs ⟨s,s,tr⟩ (fun v h'=>zt t dst v (fun t'=>VR' (PCC P) ops Q t' (h'.down fl)))):=qeG
theorem qhy{dst:Option Nat}{f:Nat}{args:List O}{ops:List ROp}{Q:Tr AV->Hp->Prop}{t:Tr AV}{h:Hp}:VR' (PCC P) (⟨dst,.callW f args,none⟩::ops) Q t h↔zu t args (fun vs=>PC P f vs h (fun v h'=>zt t dst v (fun t'=>VR' (PCC P) ops Q t' h'))):=qeI
theorem qbk{ops:List ROp}{Q:Tr AV->Hp->Prop}{t:Tr AV}{h:Hp}(hr:VR' (PCC P) ops Q t h):VD P ops Q t h:=qm9 qog qfM hr
theorem qX.pc{f:Nat}{vs:List AV}{v:AV}{h:Hp}{k:AV->Hp->Prop}(hp:qX P f vs v)(hk:k v h):PC P f vs h k:=⟨v,h,fun k' h'=>hp h k' h',hk⟩
theorem Own.sc{f:Nat}{vs:List AV}{v:AV}{bs:List Blk}{h:Hp}{k:AV->Hp->Prop}(hp:Own P f vs v bs)(hk:k (shv h.sz v) (xv h (bs.map (shb h.sz)))):SC P f vs h k:=hp h k hk
omit [Cur] in
theorem qet{s f:Nat}{tr:Tr Blk}{x:Blk}:Hp.push ⟨s,f,tr⟩ x=⟨s+1,f,tr.set s x⟩:=rfl
omit [Cur] in
theorem qci{h:Hp}:xv h []=h:=rfl
omit [Cur] in
theorem qbM{h:Hp}{x:Blk}{xs:List Blk}:xv h (x::xs)=xv (h.push x) xs:=rfl

abbrev jM:=ICode->(X->Tr AV->Hp->Prop)->Tr AV->Hp->Prop
noncomputable def qaG(env:Tr IFn)(ih:jM)(f:Nat)(args:List AV)(h:Hp)(k:AV->Hp->Prop):Prop :=
 env.getK f (fun fn=>IFn.rec (motive:=fun _=>Prop) (fun res body=>qcU args 0 .leaf (fun t0=>ih body (fun e t h' =>
  X.rec (motive:=fun _=>Prop) (zR t h' res (fun vs=>k (zF vs) h')) (fun _=>False) (zR t h' res (fun vs=>k (zF vs) h')) e) t0 h)) fn)
abbrev qcP:=Nat->List AV->Option AV
def qbi(P:Program)(ho:qcP):Prop:=∀f vs v,ho f vs=some v->qX P f vs v
def LB(ih:jM):Prop:=∀c Q t h,ih c Q t h->∃e t' h',Q e t' h'∧∀Q',Q' e t' h'->ih c Q' t h
omit [Cur] in
theorem qcX(env:Tr IFn){ih:jM}(hi:LB ih):LC (qaG env ih):=by
 intro f vs h k hk;obtain⟨fn,g1,g2⟩:=(Tr.getK_iff _ _ _).1 hk;cases fn with
 | mk res body =>
  obtain⟨t0,g3,g4⟩:=qd7 vs 0 .leaf _ g2;obtain⟨e,t',h',h1,h2⟩:=hi _ _ _ _ g3
  have back:∀k',(X.rec (motive:=fun _=>Prop) (zR t' h' res (fun vs=>k' (zF vs) h')) (fun _=>False) (zR t' h' res (fun vs=>k' (zF vs) h')) e:Prop)->qaG env ih f vs h k':=fun k' hk' =>
   (Tr.getK_iff _ _ _).2 ⟨⟨res,body⟩,g1,g4 (fun t0=>ih body (fun e t h'=>X.rec (motive:=fun _=>Prop) (zR t h' res (fun vs=>k' (zF vs) h')) (fun _=>False) (zR t h' res (fun vs=>k' (zF vs) h')) e) t0 h) (h2 (fun e t h'=>X.rec (motive:=fun _=>Prop) (zR t h' res (fun vs=>k' (zF vs) h')) (fun _=>False) (zR t h' res (fun vs=>k' (zF vs) h')) e) hk')⟩
  cases e with
  | exit id=>exact h1.elim
  | normal =>
   obtain⟨vs,h3,h4⟩:=qbP t' h' res _ h1;exact⟨_,_,h3,fun k' hk'=>back k' (h4 (fun vs=>k' (zF vs) h') hk')⟩
  | ret =>
   obtain⟨vs,h3,h4⟩:=qbP t' h' res _ h1;exact⟨_,_,h3,fun k' hk'=>back k' (h4 (fun vs=>k' (zF vs) h') hk')⟩
theorem S.mono{n:Nat}{c:ICode}{Q Q':X->Tr AV->Hp->Prop}{t:Tr AV}{h:Hp}(hs:S P n c Q t h)(hq:∀e t h,Q e t h->Q' e t h):S P n c Q' t h:=by
 intro nt code hc hn ro hro ρ B w a ht hsz r;refine wpIn_mono (hs nt code hc hn ro hro ρ B w a ht hsz r) ?_;rintro e a1 w1 ⟨x1,t1,h1,ρ1,rs,hx,hq1,rest⟩;exact⟨x1,t1,h1,ρ1,rs,hx,hq _ _ _ hq1,rest⟩
theorem S.reg{n:Nat}{d:Bool}{rs:List ROp}{C:qx}(hl:LC C)(hC:zU P σ0 C){Q:X->Tr AV->Hp->Prop}{t:Tr AV}{h:Hp}(hv:jh qi d C rs (fun t h=>Q .normal t h) t h):S P n (.reg d rs) Q t h:=by
 intro nt code hc hn ro hro ρ B w a ht hsz r;cases code<;>first|(simp[qm] at hc;done)|skip
 rename_i id ops d';simp only[qm,Bool.and_eq_true] at hc;obtain⟨⟨h1,h2⟩,h3⟩:=hc;obtain rfl:=eq_of_beq h1;cases d' with
 | false =>
  refine wpIn_region ?_
  have:=qaP (ops:=ops) (nt:=nt) (ro:=ro) (K:=xp σ0 Q nt n ρ B h w a.defers) (ρ0:=ρ) (h0:=h) (w0:=w) (ds:=a.defers) (jE P) hC (fun a' w' t' h' ρ' g1 g2 g3 g4 g5 g6=>xp.of .normal g1 g2 g3 g4 g5 (g6.kep hn))
   ops.toList rs 0 h2 rfl t h ρ w a hv ht hsz rfl r (Kept.refl _ _ _ _)
  rw[List.range_eq_range'];simpa using this
 | true =>
  simp only[Bool.not_true,Bool.false_or,Bool.and_eq_true] at h3;exact qed (jE P) hl hC h2 h3.1 h3.2 hv ht hsz r (fun a' w' t' h' ρ' g1 g2 g3 g4 g5 g6=>xp.of .normal g1 g2 g3 g4 g5 (g6.kep hn))
theorem S.seq{n:Nat}{x y:ICode}{Q:X->Tr AV->Hp->Prop}{t:Tr AV}{h:Hp}(hv:S P n x (fun e t h=>onX e (S P n y Q t h) (fun id=>Q (.exit id) t h) (Q .ret t h)) t h):S P n (.seq x y) Q t h:=by
 intro nt code hc hn ro hro ρ B w a ht hsz r;cases code<;>first|(simp[qm] at hc;done)|skip
 rename_i cx cy;simp only[qm,Bool.and_eq_true] at hc;refine wpIn_seq (wpIn_mono (hv nt cx hc.1 hn ro (nr1 hro) ρ B w a ht hsz r) ?_);rintro e a1 w1 ⟨x1,t1,h1,ρ1,rs,hx,hq,ht1,hs1,hd1,hm,r1,k1⟩;cases hx with
 | normal=>exact wpIn_mono (hq nt cy hc.2 k1.szle ro (nr2 hro) ρ1 _ w1 a1 ht1 hs1 r1) (fun e a2 w2 hp=>xp.trans k1 hm hd1 hm.lt hp)
 | exit id=>exact⟨_,t1,h1,ρ1,rs,.exit id,hq,ht1,hs1,hd1,hm,r1,k1⟩
 | ret=>exact⟨_,t1,h1,ρ1,rs,.ret,hq,ht1,hs1,hd1,hm,r1,k1⟩
theorem S.cond{n:Nat}{c:O}{x y:ICode}{Q:X->Tr AV->Hp->Prop}{t:Tr AV}{h:Hp}(hv:evK t c (fun v=>unB v (fun b=>if b=true then S P n x Q t h else S P n y Q t h))):S P n (.cond c x y) Q t h:=by
 intro nt code hc hn ro hro ρ B w a ht hsz r;cases code<;>first|(simp[qm] at hc;done)|skip
 rename_i cc cx cy;simp only[qm,Bool.and_eq_true] at hc;obtain⟨⟨h1,h2⟩,h3⟩:=hc;obtain⟨v,h4,h5⟩:=ql ht h1 hv;obtain⟨b,h6,h7⟩:=qbU h5 h4;cases b with
 | true=>exact wpIn_cond_true h6 (h7 nt cx h2 hn ro (nr1 hro) ρ B w a ht hsz r)
 | false=>exact wpIn_cond_false h6 (h7 nt cy h3 hn ro (nr2 hro) ρ B w a ht hsz r)
theorem S.blk{n id:Nat}{x:ICode}{Q:X->Tr AV->Hp->Prop}{t:Tr AV}{h:Hp}(hv:S P n x (fun e t h=>onX e (Q .normal t h) (fun i=>if i=id then Q .normal t h else Q (.exit i) t h) (Q .ret t h)) t h):S P n (.blk id x) Q t h:=by
 intro nt code hc hn ro hro ρ B w a ht hsz r;cases code<;>first|(simp[qm] at hc;done)|skip
 rename_i id' cx;simp only[qm,Bool.and_eq_true] at hc;obtain rfl:=eq_of_beq hc.1;refine wpIn_block (wpIn_mono (hv nt cx hc.2 hn ro hro ρ B w a ht hsz r) ?_);rintro e a1 w1 ⟨x1,t1,h1,ρ1,rs,hx,hq,ht1,hs1,hd1,hm,r1,k1⟩;cases hx with
 | normal=>exact⟨_,t1,h1,ρ1,rs,.normal,hq,ht1,hs1,hd1,hm,r1,k1⟩
 | ret=>exact⟨_,t1,h1,ρ1,rs,.ret,hq,ht1,hs1,hd1,hm,r1,k1⟩
 | exit id2 =>
  show (if id2=id' then _ else _)
  have hq':(if id2=id' then Q .normal t1 h1 else Q (.exit id2) t1 h1):=hq
  by_cases he:id2=id'
  ·rw[if_pos he] at hq' ⊢;exact⟨_,t1,h1,ρ1,rs,.normal,hq',ht1,hs1,hd1,hm,r1,k1⟩
  ·rw[if_neg he] at hq' ⊢;exact⟨_,t1,h1,ρ1,rs,.exit id2,hq',ht1,hs1,hd1,hm,r1,k1⟩
theorem S.loop{n:Nat}{x:ICode}{Q:X->Tr AV->Hp->Prop}{t:Tr AV}{h:Hp}(hv:SL P n x Q t h):S P n (.loop x) Q t h:=by
 intro nt code hc hn ro hro ρ B w a ht hsz r;cases code<;>first|(simp[qm] at hc;done)|skip
 rename_i cx;exact qcb (hv nt cx (by simpa[qm] using hc) hn ro hro ρ B w a ht hsz r)
theorem SL.of_S{n:Nat}{x:ICode}{Q:X->Tr AV->Hp->Prop}{t:Tr AV}{h:Hp}(hv:S P n x (fun e t h=>onX e (SL P n x Q t h) (fun id=>Q (.exit id) t h) (Q .ret t h)) t h):SL P n x Q t h:=by
 intro nt cx hc hn ro hro ρ B w a ht hsz r;refine qa3 (wpIn_mono (hv nt cx hc hn ro hro ρ B w a ht hsz r) ?_);rintro e a1 w1 ⟨x1,t1,h1,ρ1,rs,hx,hq,ht1,hs1,hd1,hm,r1,k1⟩;cases hx with
 | normal=>exact x8.mono (hq nt cx hc k1.szle ro hro ρ1 _ w1 a1 ht1 hs1 r1) (fun e a2 w2 hp=>xp.trans k1 hm hd1 hm.lt hp)
 | exit id=>exact⟨_,t1,h1,ρ1,rs,.exit id,hq,ht1,hs1,hd1,hm,r1,k1⟩
 | ret=>exact⟨_,t1,h1,ρ1,rs,.ret,hq,ht1,hs1,hd1,hm,r1,k1⟩
omit [Cur] in
theorem qb1:∀{l:List AV} {n:Nat} {t:Tr AV} {k:Tr AV->Prop},qcU l n t k↔k (jF l n t)
 | [],_,_,_=>Iff.rfl
 | v::l,n,t,k=>by
  show t.setK n v (fun t'=>qd (Nat.succ n) (fun n'=>qcU l n' t' k))↔_
  rw[Tr.setK_iff,qg,qb1];exact Iff.rfl
end Go.Kc
end
section
namespace Go.Kc
variable [Cur]
variable {P:Program} {t:Tr AV} {h:Hp} {k:AV->Hp->Prop}

def qbS(l:List UInt8)(i:Nat):Nat×Nat:=Utf8.decode ⟨l.toArray⟩ i
omit [Cur] in
theorem qfs{x:O}:opK qi (.rangeS x) t h k↔evK t x (fun x=>match x with | .s a=>qV h (.map (qQ a 0)) (fun b h'=>k (.ptr b 0) h')|_=>False):=Iff.rfl
def qnz(x:Blk)(k:List UInt8->Nat->Prop):Prop:=∃a n,x = .map (qQ a n)∧k a n
theorem qff{a a':List UInt8}{n n':Nat}(e:qQ a n=qQ a' n'):a=a'∧n=n':=by
 simp only[qQ,List.cons.injEq,Prod.mk.injEq,AV.s.injEq,AV.i.injEq,true_and,and_true] at e
 grind
theorem qjd{a:List UInt8}{n:Nat}{k:List UInt8->Nat->Prop}:qnz (.map (qQ a n)) k↔k a n:=by
 constructor
 ·rintro⟨a',n',h1,h2⟩
  grind[qff]
 ·intro h1;exact⟨a,n,rfl,h1⟩
theorem qhv{x:O}:opK qi (.nextS x) t h k↔evK t x (fun x=>unP x (fun b o=>ifK (o=0) (evB (h.tr.get b) (fun y=>qnz y (fun a n=>if n<a.length then evN (n+(qbS a n).2) (fun m=>zj h b (.map (qQ a m)) (fun h'=>evA (.i .i32 ((qbS a n).1:Int)) (fun c=>k (.tup [.b true,.i .i64 (n:Int),c]) h'))) else k (.tup [.b false]) h))))):=by
 show evK t x (fun x=>unP x (fun b o=>qb (Nat.beq o 0) (qb8 h b _)))↔_
 refine iff_of_eq (congrArg _ (funext fun v=>congrArg _ (funext fun b=>funext fun o=>?_)))
 rw[show (qb (Nat.beq o 0)=fun p=>ifK (o=0) p) from by funext p;exact propext ((qa _ _).trans (by rw[ju];exact Iff.rfl))]
 refine congrArg _ (propext (ws.trans ?_))
 have body:∀a n,(match a[n]? with
  | some c=>(Bool.rec (motive:=fun _=>Prop)
    (zj h b (.map (qQ a (Nat.add n (Utf8.decode ⟨a.toArray⟩ n).2))) (fun h'=>k (.tup [.b true,.i .i64 (Int.ofNat n),.i .i32 (Int.ofNat (Utf8.decode ⟨a.toArray⟩ n).1)]) h'))
    (qd (Nat.succ n) (fun m=>zj h b (.map (qQ a m)) (fun h'=>k (.tup [.b true,.i .i64 (Int.ofNat n),.i .i32 (Int.ofNat c.toNat)]) h')))
    (Nat.ble (Nat.succ c.toNat) 128):Prop)
  | none=>k (.tup [.b false]) h)↔if n<a.length then evN (n+(qbS a n).2) (fun m=>zj h b (.map (qQ a m)) (fun h'=>evA (.i .i32 ((qbS a n).1:Int)) (fun c=>k (.tup [.b true,.i .i64 (n:Int),c]) h'))) else k (.tup [.b false]) h:=by
  intro a n
  by_cases hi:n<a.length
  ·rw[if_pos hi,zzE hi];dsimp only;cases hc:Nat.ble (Nat.succ a[n].toNat) 128 with
   | false=>exact Iff.rfl
   | true =>
    have hlt:=Nat.le_of_ble_eq_true hc;have hd:qbS a n=(a[n].toNat,1):=qap (zzE hi) (by omega);show qd _ _↔_;rw[qg,hd];exact Iff.rfl
  ·rw[if_neg hi,List.getElem?_eq_none (by omega)]
 constructor
 ·rintro⟨a,n,h1,h2⟩;exact⟨_,h1,a,n,rfl,(body a n).1 h2⟩
 ·rintro⟨_,h1,a,n,rfl,h2⟩;exact⟨a,n,h1,(body a n).2 h2⟩
def xO(es:List (AV×AV)):Prop:=∀e ∈ es,clo e.1=true∧clo e.2=true
omit [Cur] in
theorem qkH{r:Nat->Nat}{m b:Nat}{es:List (AV×AV)}(hb:b<h.sz):BW h r m b (.map es)↔evB (h.tr.get b) (fun x=>qg3 x (fun es'=>EsW r m es' es)):=by
 constructor
 ·rintro (h1|h1|⟨e',w0,a0,cs,w',a',cs'',h1,h2,h3,h4,h5⟩|⟨es',es2,h1,h2,h3⟩)
  ·omega
  ·cases h1
  ·cases h2
  ·cases h2;exact⟨_,h1,h3⟩
 ·rintro⟨x,h1,h2⟩;cases x with
  | map es'=>exact .inr (.inr (.inr ⟨_,_,h1,rfl,h2⟩))
  | dead=>exact h2.elim
  | cells e0 w0 a0 cs=>exact h2.elim
omit [Cur] in
theorem qcv{r:Nat->Nat}{m:Nat}{es es':List (AV×AV)}(hn:∀lr ts,es'≠qW lr ts):EsW r m es es'↔es=es'∧xO es' :=
 ⟨fun h=>by
  rcases h with⟨rfl,h⟩|⟨lr,ts,ts',_,h,_⟩
  ·exact⟨rfl,h⟩
  grind,fun⟨h1,h2⟩=>by subst h1;exact .inl ⟨rfl,h2⟩⟩
omit [Cur] in
theorem qiM{r:Nat->Nat}{m:Nat}{es:List (AV×AV)}:EsW r m es []↔es=[]:=(qcv (by simp[qW])).trans ⟨And.left,fun h=>⟨h,by intro e he;cases he⟩⟩
omit [Cur] in
theorem qns{r:Nat->Nat}{m:Nat}{es es':List (AV×AV)}{a:List UInt8}{v:AV}:EsW r m es ((.s a,v)::es')↔es=(.s a,v)::es'∧xO ((.s a,v)::es'):=qcv (by simp[qW])
omit [Cur] in
theorem qnr{r:Nat->Nat}{m:Nat}{es es':List (AV×AV)}{q:IntKind}{a:Int}{v:AV}:EsW r m es ((.i q a,v)::es')↔es=(.i q a,v)::es'∧xO ((.i q a,v)::es'):=qcv (by simp[qW])
omit [Cur] in
theorem qkZ{r:Nat->Nat}{m:Nat}{es:List (AV×AV)}{a:List UInt8}{n:Nat}:EsW r m es (qQ a n)↔es=qQ a n∧xO (qQ a n):=qcv (by simp[qQ,qW])
omit [Cur] in
theorem qiN{r:Nat->Nat}{m:Nat}{lr lr':Loop}{ts ts':List (Nat×AV)}:EsW r m (qW lr ts) (qW lr' ts')↔lr=lr'∧TsW r m ts ts' :=
 ⟨fun h=>by
  rcases h with⟨h1,h⟩|⟨l,t1,t2,h1,h2,h3⟩
  ·exact absurd (h (.lp lr,.undef) (by simp[qW])).1 (by simp[clo])
  grind[qdq],fun⟨h1,h2⟩=>by subst h1;exact .inr (by grind)⟩
omit [Cur] in
theorem qjZ{r:Nat->Nat}{m:Nat}{ts:List (Nat×AV)}:TsW r m ts []↔True:=iff_true_intro (by intro p hp;cases hp)
omit [Cur] in
theorem qhU{r:Nat->Nat}{m:Nat}{ts ts':List (Nat×AV)}{p:Nat×AV}:TsW r m ts (p::ts')↔evO (qa0 ts p.1) (fun v=>NV r m v p.2)∧TsW r m ts ts':=by
 simp only[TsW,List.mem_cons,forall_eq_or_imp];exact Iff.rfl
omit [Cur] in
theorem qdS{p:Nat×AV}{l:List (Nat×AV)}{j:Nat}:qa0 (p::l) j=if p.1=j then some p.2 else qa0 l j:=rfl
omit [Cur] in
theorem qfh{a:List UInt8}{n:Nat}:xO (qQ a n)↔True:=by
 refine iff_true_intro ?_;intro e he;simp only[qQ,List.mem_cons,List.mem_nil_iff,or_false] at he;rcases he with rfl|rfl<;>exact⟨rfl,rfl⟩
omit [Cur] in
theorem qdT:xO []↔True:=iff_true_intro (by intro e he;cases he)
omit [Cur] in
theorem qa4{e:AV×AV}{es:List (AV×AV)}:xO (e::es)↔(clo e.1=true∧clo e.2=true)∧xO es:=by simp[xO]
omit [Cur] in
theorem qv{r:Nat->Nat}{m:Nat}{vs:List AV}(hc:zq vs=true):NVs r m vs vs↔True:=by grind[NVs.refl]
theorem Wk.mkn{n:Nat}{t:Tr AV}(ts:List (Nat×AV))(bl:List Blk)(src:List Nat)(hT:TWs t (rl src h.sz) bl.length ts)(hB:BWs h (rl src h.sz) bl.length src bl)
  (hI:((src.filter fun b=>decide (b<h.sz)).Nodup)) (hfl:h.fl=0) (hn:n<=bl.length) (hlow:∀b,b<n->rl src h.sz b=b):Wk n t h (mkT ts) (mkH 0 bl):=by
 obtain⟨hlen,hget⟩:=hB.get;refine Wk.of (r:=rl src h.sz) ⟨hfl.symm,fun b' x' hb hg=>?_,fun b1 b2 h1 h2 _ _ he hl=>?_,fun b' _ _ _=>by rw[hfl];omega,hlow,hn,fun b _ hb=>by rw[hfl] at hb;omega,fun j v' hj=>?_⟩
 ·rw[z8] at hg;obtain⟨b,q1,q2⟩:=hget b' x' hg;have:rl src h.sz b'=b:=by simp[rl,List.getD_eq_getElem?_getD,q1]
  rw[this];exact q2
 ·have h1:b1<src.length:=by rw[hlen];exact h1
  have h2:b2<src.length:=by rw[hlen];exact h2
  simp only[rl,List.getD_eq_getElem?_getD,zzE h1,zzE h2,Option.getD_some] at he hl
  grind[Wk.mk.nodup_filter_inj]
 ·exact hT.get _ (qav hj)
end Go.Kc
end
section
namespace Go.Kc
variable [Cur]
variable {P:Program}

mutual
def rnv(g:Nat->Nat):AV->AV
 | .ptr b o=>.ptr (g b) o
 | .sl b o n c l=>.sl (g b) o n c l
 | .map b=>.map (g b)
 | .own b n=>.own (g b) n
 | .yl b=>.yl (g b)
 | .fn f a c=>.fn f (qds g a) (qds g c)
 | .ifc t v=>.ifc t (rnv g v)
 | .agg cs=>.agg (qds g cs)
 | .tup cs=>.tup (qds g cs)
 | v=>v
def qds(g:Nat->Nat):List AV->List AV
 | []=>[]
 | v::vs=>rnv g v::qds g vs
end
mutual
def bnd(m:Nat):AV->Bool
 | .ptr b _=>decide (b<m)
 | .sl b _ _ _ _=>decide (b<m)
 | .map b=>decide (b<m)
 | .own b _=>decide (b<m)
 | .yl b=>decide (b<m)
 | .fn _ a c=>qbX m a&&qbX m c
 | .ifc _ v=>bnd m v
 | .agg cs=>qbX m cs
 | .tup cs=>qbX m cs
 | _=>true
def qbX(m:Nat):List AV->Bool
 | []=>true
 | v::vs=>bnd m v&&qbX m vs
end

def gAt(at':List Nat)(d:Nat):Nat->Nat:=fun b=>if b<at'.length then at'.getD b 0 else d+(b-at'.length)
omit [Cur] in
theorem qdO{at':List Nat}{d b:Nat}(h:b<at'.length):gAt at' d b=at'[b]:=by
 simp[gAt,h]
structure Lent (h:Hp) (at':List Nat) (bs:List Blk):Prop where
 len:at'.length=bs.length
 nd:at'.Nodup
 blk:∀i x,bs[i]?=some x->∃e a cs,x = .cells e true a cs∧qbX bs.length cs=true∧h.tr.get (gAt at' h.sz i)=some (.cells e true a (qds (gAt at' h.sz) cs))∧h.fl<=gAt at' h.sz i∧gAt at' h.sz i<h.sz
omit [Cur] in
theorem Lent.inj{h:Hp}{at':List Nat}{bs:List Blk}(l:Lent h at' bs){i j:Nat}(hi:i<at'.length)(hj:j<at'.length)(he:gAt at' h.sz i=gAt at' h.sz j):i=j:=by
 rw[qdO hi,qdO hj] at he
 grind[List.getElem_inj,Lent.nd]
noncomputable def qhA:Hp->List Nat->List Blk->Hp
 | h,b::at',x::xs=>qhA (h.put b x) at' xs
 | h,_,_=>h
def qm7(m:Nat)(v:AV)(bs2:List Blk)(v':AV)(h':Hp):Prop:=h'.fl=0->∃src:List Nat,NV (rl src h'.sz) bs2.length v' v∧BWs h' (rl src h'.sz) bs2.length src bs2∧(src.filter fun b=>decide (b<h'.sz)).Nodup∧∀b,b<m->rl src h'.sz b=b
def qh3(m:Nat)(v:AV)(bs2:List Blk)(v':AV)(h':Hp):Prop:=h'.fl=0->Wk m (mkT [(0,v')]) h' (mkT [(0,v)]) (mkH 0 bs2)
theorem qm7.w{m:Nat}{v:AV}{bs2:List Blk}{v':AV}{h':Hp}(hz:qm7 m v bs2 v' h')(hle:m<=bs2.length):qh3 m v bs2 v' h':=by
 intro hfl;obtain⟨src,s1,s2,s3,s4⟩:=hz hfl;exact Wk.mkn [(0,v)] bs2 src ⟨⟨v',by simp[mkT,Tr.get_set],s1⟩,trivial⟩ s2 s3 hfl hle s4
def Upd(P:Program)(f:Nat)(vs:List AV)(bs:List Blk)(v:AV)(bs2:List Blk):Prop :=
 qbX bs.length vs=true∧bs.length<=bs2.length∧SC P f vs (mkH 0 bs) (qh3 bs.length v bs2)
theorem Upd.mkS{f:Nat}{i:IFn}{vs:List AV}{v:AV}{bs bs2:List Blk}(hc:xA P f i=true)(hb:qbX bs.length vs=true)(hl:bs.length<=bs2.length)(hV:S P bs.length i.body (qbr i.res (qh3 bs.length v bs2)) (jF vs 0 .leaf) (mkH 0 bs)):Upd P f vs bs v bs2 :=
 ⟨hb,hl,SC.mk hc hV⟩
end Go.Kc
end
section
namespace Go.Kc
variable [Cur]
variable {P:Program} {h:Hp}

def wE(h:Hp)(g:Nat->Nat)(m:Nat):List Nat->List Blk->Prop
 | [],[]=>True
 | b::at',.cells e true a cs::xs=>(qbX m cs=true∧evB (h.tr.get b) (fun y=>y=Blk.cells e true a (qds g cs))∧h.fl<=b∧b<h.sz)∧wE h g m at' xs
 | _,_=>False
omit [Cur] in
theorem wE.get{g:Nat->Nat}{m:Nat}:∀{at':List Nat} {bs:List Blk},wE h g m at' bs->at'.length=bs.length∧∀(i:Nat) (x:Blk),bs[i]?=some x->∃b e a cs,at'[i]?=some b∧x = .cells e true a cs∧qbX m cs=true∧h.tr.get b=some (.cells e true a (qds g cs))∧h.fl<=b∧b<h.sz
 | [],[],_=>⟨rfl,by simp⟩
 | [],_::_,hh=>by simp[wE] at hh
 | _::_,[],hh=>by simp[wE] at hh
 | b::at',.dead::xs,hh=>by simp[wE] at hh
 | b::at',.map _::xs,hh=>by simp[wE] at hh
 | b::at',.cells e false a cs::xs,hh=>by simp[wE] at hh
 | b::at',.cells e true a cs::xs,hh=>by
  obtain⟨⟨h1,⟨y,h2,h3⟩,h4,h5⟩,h6⟩:=hh;subst h3;obtain⟨h7,h8⟩:=wE.get h6
  grind
omit [Cur] in
theorem Lent.of{at':List Nat}{bs:List Blk}(hn:at'.Nodup)(hl:wE h (gAt at' h.sz) bs.length at' bs):Lent h at' bs:=by
 obtain⟨h1,h2⟩:=hl.get;refine⟨h1,hn,fun i x hx=>?_⟩
 grind[qdO]
omit [Cur] in
theorem qi3{s f b:Nat}{tr:Tr Blk}{x:Blk}:Hp.put ⟨s,f,tr⟩ b x=⟨s,f,tr.set b x⟩:=rfl
omit [Cur] in
theorem qhB{xs:List Blk}:qhA h [] xs=h:=by simp[qhA]
omit [Cur] in
theorem qfA{b:Nat}{at':List Nat}{x:Blk}{xs:List Blk}:qhA h (b::at') (x::xs)=qhA (h.put b x) at' xs:=rfl
def xl:Blk->Bool
 | .dead=>false
 | _=>true
omit [Cur] in
theorem qch{α β:Type}{f:α->β}{p:α->Bool}:∀{l:List α},((l.filter p).map f).Nodup->∀{i j:Nat} {x y:α},l[i]?=some x->l[j]?=some y->p x=true->p y=true->f x=f y->i=j
 | [],_,i,j,x,y,hi,_,_,_,_=>by grind
 | a::l,hn,i,j,x,y,hi,hj,hx,hy,he=>by
  have tail:((l.filter p).map f).Nodup:=by
   rw[List.filter_cons] at hn
   grind
  have no:∀{z:α} {m:Nat},l[m]?=some z->p z=true->p a=true->f a=f z->False:=by
   grind
  cases i with
  | zero =>
   grind
  | succ i =>
   cases j with
   | zero=>grind
   | succ j =>
    have hij:i=j:=qch tail (i:=i) (j:=j) (by simp_all) (by simp_all) hx hy he;rw[hij]
theorem Wk.mkd{n:Nat}{t:Tr AV}(ts:List (Nat×AV))(bl:List Blk)(src:List Nat)(hT:TWs t (rl src h.sz) bl.length ts)(hB:BWs h (rl src h.sz) bl.length src bl)
  (hI:(((src.zip bl).filter fun p=>decide (p.1<h.sz)&&xl p.2).map Prod.fst).Nodup) (hfl:h.fl=0) (hn:n<=bl.length) (hlow:∀b,b<n->rl src h.sz b=b):Wk n t h (mkT ts) (mkH 0 bl):=by
 obtain⟨hlen,hget⟩:=hB.get;refine Wk.of (r:=rl src h.sz) ⟨hfl.symm,fun b' x' hb hg=>?_,fun b1 b2 h1 h2 l1 l2 he hl=>?_,fun b' _ _ _=>by rw[hfl];omega,hlow,hn,fun b _ hb=>by rw[hfl] at hb;omega,fun j v' hj=>?_⟩
 ·rw[z8] at hg;obtain⟨b,q1,q2⟩:=hget b' x' hg;have:rl src h.sz b'=b:=by simp[rl,List.getD_eq_getElem?_getD,q1]
  rw[this];exact q2
 ·obtain⟨x1,g1,d1⟩:=l1;obtain⟨x2,g2,d2⟩:=l2;rw[z8] at g1 g2;obtain⟨c1,q1,_⟩:=hget b1 x1 g1;obtain⟨c2,q2,_⟩:=hget b2 x2 g2;have e1:rl src h.sz b1=c1:=by simp[rl,List.getD_eq_getElem?_getD,q1]
  have e2:rl src h.sz b2=c2:=by simp[rl,List.getD_eq_getElem?_getD,q2]
  rw[e1,e2] at he;rw[e1] at hl;have v1:xl x1=true:=by cases x1<;>first|rfl|exact absurd rfl d1
  have v2:xl x2=true:=by cases x2<;>first|rfl|exact absurd rfl d2
  refine qch hI (i:=b1) (j:=b2) (x:=(c1,x1)) (y:=(c2,x2)) ?_ ?_ ?_ ?_ he
  all_goals grind
 ·exact hT.get _ (qav hj)
omit [Cur] in
theorem qfk{b o:Nat}{k:AV->Prop}:qcg (.ptr b o) k↔k (.ptr b o):=Iff.rfl
omit [Cur] in
theorem qhb{cs:List AV}{o:Nat}{k:AV->Prop}:qcg (.pf cs o) k↔k (.pf cs o):=Iff.rfl
omit [Cur] in
theorem qfj{b:Nat}{k:AV->Prop}:qcg (.map b) k↔k (.map b):=Iff.rfl
omit [Cur] in
theorem qhc{b:Nat}{k:AV->Prop}:qcg (.yl b) k↔k (.yl b):=Iff.rfl
omit [Cur] in
theorem qha{f:Nat}{a c:List AV}{k:AV->Prop}:qcg (.fn f a c) k↔k (.fn f a c):=Iff.rfl
omit [Cur] in
theorem qj3{C:qx}{ops:List ROp}{Q:Tr AV->Hp->Prop}{t:Tr AV}{s f f':Nat}{tr:Tr Blk}:VR' C ops Q t (Hp.down ⟨s,f,tr⟩ f')↔VR' C ops Q t ⟨s,f',tr⟩:=Iff.rfl
omit [Cur] in
theorem qoa{C:qx}{ops:List ROp}{Q:Tr AV->Hp->Prop}{t:Tr AV}{s f:Nat}{tr:Tr Blk}{dst:Option Nat}{o:IOp}:VR' C (⟨dst,.op o,none⟩::ops) Q t ⟨s,f,tr⟩ ↔
  if wr (.op o)=true then opK qi o t ⟨s,f,tr⟩ (fun v h'=>zt t dst v (fun t'=>VR' C ops Q t' h')) else opK qi o t ⟨s,s,tr⟩ (fun v h'=>zt t dst v (fun t'=>VR' C ops Q t' (h'.down f))):=qko
omit [Cur] in
theorem qmA{C:qx}{Q:Tr AV->Hp->Prop}{t:Tr AV}{s f:Nat}{tr:Tr Blk}:VR' C [] Q t ⟨s,f,tr⟩↔Q t ⟨s,f,tr⟩:=Iff.rfl
end Go.Kc
end
section
namespace Go.Kc
variable [Cur]
def vQ:=And.intro @List.map_cons.{0,0} (And.intro @List.map_nil.{0,0} (And.intro @Bool.and_true (And.intro @Bool.true_and (And.intro @Bool.and_self (And.intro @and_self (And.intro @Tr.get_set (And.intro @decide_eq_true_eq (And.intro @Bool.false_eq_true (And.intro @true_and (And.intro @and_true (And.intro @List.getElem?_cons_zero.{0} (And.intro @List.getElem?_cons_succ.{0} (And.intro @List.length_cons.{0} (And.intro @List.length_nil.{0} (And.intro @List.take_zero.{0} (And.intro @List.take_succ_cons.{0} (And.intro @List.drop_zero.{0} (And.intro @List.drop_succ_cons.{0} (And.intro @List.drop_nil.{0} (And.intro @List.take_nil.{0} (And.intro @List.nil_append.{0} (And.intro @List.cons_append.{0} (And.intro @List.append_nil.{0} (And.intro @Nat.zero_add (And.intro @Nat.add_zero (And.intro @Nat.le_refl (And.intro @Nat.zero_le (And.intro @Int.toNat_natCast (And.intro @Int.natCast_nonneg (And.intro @Int.ofNat_lt (And.intro @Bool.not_true (And.intro @Bool.not_false (And.intro @decide_true (And.intro @decide_false (And.intro @Bool.xor_false (And.intro @Bool.xor_true (And.intro @Bool.false_xor (And.intro @Bool.true_xor (And.intro @Nat.lt_irrefl (And.intro @List.replicate_succ.{0} (And.intro @List.replicate_zero.{0} (And.intro @List.flatten_cons.{0} (And.intro @List.flatten_nil.{0} (And.intro @Nat.succ_eq_add_one (And.intro @Option.isNone_none.{0} (And.intro @Option.isSome_none.{0} (And.intro @Bool.false_and (And.intro @Bool.and_false (And.intro @Nat.sub_zero (And.intro @qhB (And.intro @qfA (And.intro @qi3 (And.intro @qjd (And.intro @qet (And.intro @qci (And.intro @qbM @List.append_assoc.{0}))))))))))))))))))))))))))))))))))))))))))))))))))))))))
def vX:=And.intro @qj3 (And.intro @qoa (And.intro @qmA (And.intro @qhx (And.intro @qhy (And.intro @qfs (And.intro @qhv (And.intro @qfk (And.intro @qhb (And.intro @qfj (And.intro @qhc @qha))))))))))
def vU:=And.intro @shb.eq_1 (And.intro @shb.eq_2 (And.intro @shb.eq_3 (And.intro @shv.eq_1 (And.intro @shv.eq_2 (And.intro @shv.eq_3 (And.intro @shv.eq_4 (And.intro @shv.eq_5 (And.intro @shv.eq_6 (And.intro @shv.eq_7 (And.intro @shv.eq_8 (And.intro @shv.eq_9 (And.intro @shv.eq_10 (And.intro @jL.eq_1 @jL.eq_2)))))))))))))
def vY:=And.intro vU (And.intro @jT.eq_1 (And.intro @jT.eq_2 (And.intro @cellsOf.eq_1 (And.intro @cellsOf.eq_2 (And.intro @wr.eq_1 (And.intro @wr.eq_2 (And.intro @wr.eq_3 (And.intro @wr.eq_4 (And.intro @wr.eq_5 (And.intro @wr.eq_6 (And.intro @wr.eq_7 (And.intro @wr.eq_8 (And.intro @wr.eq_9 (And.intro @wr.eq_10 (And.intro @wr.eq_11 (And.intro @zF.eq_1 @zF.eq_2))))))))))))))))
def vS:=And.intro vA (And.intro vE (And.intro vO (And.intro vB (And.intro vF (And.intro vM (And.intro vR vX))))))
def vT:=And.intro vY (And.intro @qkS (And.intro @qkT (And.intro vP (And.intro vC (And.intro vQ (And.intro @qex (And.intro @qdu (And.intro not_false_eq_true (And.intro @eq_self.{1} @Int.cast_ofNat_Int)))))))))
def vw:=And.intro vW (And.intro @qiM (And.intro @qns (And.intro @qnr (And.intro @qkZ (And.intro @qiN (And.intro @qjZ (And.intro @qhU (And.intro @qdS (And.intro @qkH (And.intro @qcd (And.intro @qfh (And.intro @qdT (And.intro @qa4 (And.intro vP (And.intro vZ @Tr.get_set)))))))))))))))
def vJ:=And.intro vU (And.intro @qbM (And.intro @qci (And.intro @qet (And.intro @qex (And.intro @qdu (And.intro @List.map_cons.{0,0} (And.intro @List.map_nil.{0,0} (And.intro @qkh (And.intro @qec Nat.zero_add)))))))))
def ROp.q(n:Nat)(o:IOp):ROp:=⟨some n,.op o,none⟩
def ROp.m(n:Nat)(x:O):ROp:=⟨some n,.op (.mov x),none⟩
def ROp.g(n:Nat)(o:IOp)(c:Nat)(b:Bool):ROp:=⟨some n,.op o,some (c,b)⟩
def ROp.l(n f:Nat)(xs:List O):ROp:=⟨some n,.callF f xs,none⟩
def ROp.u(o:IOp):ROp:=⟨none,.op o,none⟩
def ICode.r(ops:List ROp):ICode:=.reg false ops
def O.k(n:Int):O:=.c (.i .i64 n)
def ROp.n(n a:Nat):ROp:=⟨some n,.op (.mov (.t a)),none⟩
def ROp.d(n a:Nat):ROp:=⟨some n,.op (.load1 (.t a)),none⟩
def ROp.v(n k a:Nat):ROp:=⟨some n,.op (.loadN k (.t a)),none⟩
def ROp.f(n k a:Nat):ROp:=⟨some n,.op (.fAddr k (.t a)),none⟩
def ROp.i(n k a b:Nat):ROp:=⟨some n,.op (.iAddrS k (.t a) (.t b)),none⟩
def ROp.a(n a:Nat)(k:Int):ROp:=⟨some n,.op (.bin .add (.t a) (.c (.i .i64 k))),none⟩
def ROp.b(n:Nat)(o:BinOp)(a b:Nat):ROp:=⟨some n,.op (.bin o (.t a) (.t b)),none⟩
def ROp.w(n:Nat)(o:BinOp)(a:Nat)(k:Int):ROp:=⟨some n,.op (.bin o (.t a) (.c (.i .i64 k))),none⟩
def ROp.e(n a:Nat):ROp:=⟨some n,.op (.len false (.t a)),none⟩
def ROp.x(n a k:Nat):ROp:=⟨some n,.op (.ext (.t a) k),none⟩
def ROp.s(n a b:Nat):ROp:=⟨some n,.op (.bin .lss (.t a) (.t b)),none⟩
def ROp.p(n a b:Nat):ROp:=⟨some n,.op (.pick (.t a) (.t b) (.c (.b false))),none⟩
def ROp.o(n a b:Nat):ROp:=⟨some n,.op (.pick (.t a) (.c (.b true)) (.t b)),none⟩
def ROp.y(n a c:Nat):ROp:=⟨some n,.op (.mov (.t a)),some (c,true)⟩
def ROp.z(n a c:Nat):ROp:=⟨some n,.op (.mov (.t a)),some (c,false)⟩
def ROp.j(n a c:Nat)(b:Bool):ROp:=⟨some n,.op (.load1 (.t a)),some (c,b)⟩
def ROp.h(n k a c:Nat)(b:Bool):ROp:=⟨some n,.op (.fAddr k (.t a)),some (c,b)⟩
def O.F:O:=.c (.b false)
def O.T:O:=.c (.b true)
def O.N:O:=.c .nils
omit [Cur] in
theorem q_q{n:Nat}{o:IOp}:ROp.q n o=⟨some n,.op o,none⟩:=rfl
omit [Cur] in
theorem q_m{n:Nat}{x:O}:ROp.m n x=⟨some n,.op (.mov x),none⟩:=rfl
omit [Cur] in
theorem q_g{n:Nat}{o:IOp}{c:Nat}{b:Bool}:ROp.g n o c b=⟨some n,.op o,some (c,b)⟩:=rfl
omit [Cur] in
theorem q_l{n f:Nat}{xs:List O}:ROp.l n f xs=⟨some n,.callF f xs,none⟩:=rfl
omit [Cur] in
theorem q_u{o:IOp}:ROp.u o=⟨none,.op o,none⟩:=rfl
omit [Cur] in
theorem q_r{ops:List ROp}:ICode.r ops = .reg false ops:=rfl
omit [Cur] in
theorem q_k{n:Int}:O.k n = .c (.i .i64 n):=rfl
omit [Cur] in
theorem qoF{n a:Nat}:ROp.n n a=⟨some n,.op (.mov (.t a)),none⟩:=rfl
omit [Cur] in
theorem qoz{n a:Nat}:ROp.d n a=⟨some n,.op (.load1 (.t a)),none⟩:=rfl
omit [Cur] in
theorem qoJ{n k a:Nat}:ROp.v n k a=⟨some n,.op (.loadN k (.t a)),none⟩:=rfl
omit [Cur] in
theorem qoB{n k a:Nat}:ROp.f n k a=⟨some n,.op (.fAddr k (.t a)),none⟩:=rfl
omit [Cur] in
theorem qoD{n k a b:Nat}:ROp.i n k a b=⟨some n,.op (.iAddrS k (.t a) (.t b)),none⟩:=rfl
omit [Cur] in
theorem qox{n a:Nat}{k:Int}:ROp.a n a k=⟨some n,.op (.bin .add (.t a) (.c (.i .i64 k))),none⟩:=rfl
omit [Cur] in
theorem qoy{n:Nat}{o:BinOp}{a b:Nat}:ROp.b n o a b=⟨some n,.op (.bin o (.t a) (.t b)),none⟩:=rfl
omit [Cur] in
theorem qoK{n:Nat}{o:BinOp}{a:Nat}{k:Int}:ROp.w n o a k=⟨some n,.op (.bin o (.t a) (.c (.i .i64 k))),none⟩:=rfl
omit [Cur] in
theorem qoA{n a:Nat}:ROp.e n a=⟨some n,.op (.len false (.t a)),none⟩:=rfl
omit [Cur] in
theorem qoL{n a k:Nat}:ROp.x n a k=⟨some n,.op (.ext (.t a) k),none⟩:=rfl
omit [Cur] in
theorem qoI{n a b:Nat}:ROp.s n a b=⟨some n,.op (.bin .lss (.t a) (.t b)),none⟩:=rfl
omit [Cur] in
theorem qoH{n a b:Nat}:ROp.p n a b=⟨some n,.op (.pick (.t a) (.t b) (.c (.b false))),none⟩:=rfl
omit [Cur] in
theorem qoG{n a b:Nat}:ROp.o n a b=⟨some n,.op (.pick (.t a) (.c (.b true)) (.t b)),none⟩:=rfl
omit [Cur] in
theorem qoM{n a c:Nat}:ROp.y n a c=⟨some n,.op (.mov (.t a)),some (c,true)⟩:=rfl
omit [Cur] in
theorem qoN{n a c:Nat}:ROp.z n a c=⟨some n,.op (.mov (.t a)),some (c,false)⟩:=rfl
omit [Cur] in
theorem qoE{n a c:Nat}{b:Bool}:ROp.j n a c b=⟨some n,.op (.load1 (.t a)),some (c,b)⟩:=rfl
omit [Cur] in
theorem qoC{n k a c:Nat}{b:Bool}:ROp.h n k a c b=⟨some n,.op (.fAddr k (.t a)),some (c,b)⟩:=rfl
omit [Cur] in
theorem q_F:O.F = .c (.b false):=rfl
omit [Cur] in
theorem q_T:O.T = .c (.b true):=rfl
omit [Cur] in
theorem q_N:O.N = .c .nils:=rfl
def vI:=And.intro (And.intro @qoF (And.intro @qoz (And.intro @qoJ (And.intro @qoB (And.intro @qoD (And.intro @qox (And.intro @qoy (And.intro @qoK (And.intro @qoA (And.intro @qoL (And.intro @qoI (And.intro @qoH (And.intro @qoG (And.intro @qoM (And.intro @qoN (And.intro @qoE (And.intro @qoC (And.intro q_F (And.intro q_T q_N))))))))))))))))))) (And.intro (And.intro @jF.eq_1 (And.intro @jF.eq_2 (And.intro @H0.eq_1 (And.intro @mkT.eq_1 (And.intro @mkT.eq_2 (And.intro @mkH.eq_1 (And.intro @trL.eq_1 @trL.eq_2))))))) (And.intro @List.length_cons.{0} (And.intro @List.length_nil.{0} (And.intro Nat.zero_add (And.intro @q_q (And.intro @q_m (And.intro @q_g (And.intro @q_l (And.intro @q_u (And.intro @q_r @q_k))))))))))
end Go.Kc
end
section
namespace Go.Kc
variable [Cur]
variable {P:Program}

mutual
def fzv(b e:Nat)(cs:List AV):AV->AV
 | .own b' n=>if b'=b then .fz n (if n=0 then [] else cs) else .own b' n
 | .ptr b' o=>if b'=b then .pf cs o else .ptr b' o
 | .sl b' o n c l=>if b'=b then (if n<=c then .fz n ((cs.drop o).take (n*e)) else .undef) else .sl b' o n c l
 | .map b'=>if b'=b then .undef else .map b'
 | .yl b'=>if b'=b then .undef else .yl b'
 | .fn f x c=>.fn f (jo b e cs x) (jo b e cs c)
 | .ifc t v=>.ifc t (fzv b e cs v)
 | .agg l=>.agg (jo b e cs l)
 | .tup l=>.tup (jo b e cs l)
 | v=>v
def jo(b e:Nat)(cs:List AV):List AV->List AV
 | []=>[]
 | v::vs=>fzv b e cs v::jo b e cs vs
end
def fzE(b e:Nat)(cs:List AV)(es:List (AV×AV)):List (AV×AV):=es.map fun p=>(p.1,fzv b e cs p.2)
def fzB(b e:Nat)(cs:List AV):Blk->Blk
 | .cells k w a l=>.cells k w a (jo b e cs l)
 | .dead=>.dead
 | .map es=>.map (fzE b e cs es)
omit [Cur] in
theorem qbw{b e:Nat}{cs:List AV}:∀{vs:List AV} {j:Nat},(jo b e cs vs)[j]?=(vs[j]?).map (fzv b e cs)
 | [],j=>by simp[jo]
 | v::vs,0=>by simp[jo]
 | v::vs,j+1=>by simpa[jo] using qbw (vs:=vs) (j:=j)
omit [Cur] in
theorem zD{b e:Nat}{cs:List AV}:∀{vs:List AV},(jo b e cs vs).length=vs.length
 | []=>rfl
 | v::vs=>by simp[jo,zD (vs:=vs)]
omit [Cur] in
theorem qel{b e:Nat}{cs:List AV}{v:AV}(hv:clo v=true):fzv b e cs v=v:=by
 refine AV.rec (motive_1:=fun v=>clo v=true->fzv b e cs v=v) (motive_2:=fun vs=>zq vs=true->jo b e cs vs=vs) ?_ ?_ ?_ ?_ ?_ ?_ ?_ ?_ ?_ ?_ ?_ ?_ ?_ ?_ ?_ ?_ ?_ ?_ ?_ ?_ ?_ ?_ ?_ ?_ ?_ ?_ v hv
 all_goals first
  | (intros;rfl)
  | (intros;rename_i hh;simp[clo] at hh;done)
  | skip
 ·intro f a c h1 h2 hh;simp only[clo,Bool.and_eq_true] at hh;simp only[fzv,h1 hh.1,h2 hh.2]
 ·intro t v h1 hh;simp only[clo] at hh;simp only[fzv,h1 hh]
 ·intro cs h1 hh;simp only[clo] at hh;simp only[fzv,h1 hh]
 ·intro cs h1 hh;simp only[clo] at hh;simp only[fzv,h1 hh]
 ·intro v vs h1 h2 hh;simp only[zq,Bool.and_eq_true] at hh;simp only[jo,h1 hh.1,h2 hh.2]
omit [Cur] in
theorem CRs.cut{φ:Nat->Option (Array Value)}:∀{cs:List AV} {vs:List Value} (o m:Nat),CRs σ0 φ cs (vs.take cs.length)->CRs σ0 φ ((cs.drop o).take m) ((vs.drop o).take ((cs.drop o).take m).length)
 | [],vs,o,m,h=>by simp;exact .nil
 | c::cs,[],o,m,h=>by simp at h;cases h
 | c::cs,v::vs,0,0,h=>by simp;exact .nil
 | c::cs,v::vs,0,m+1,h=>by
  simp only[List.length_cons,List.take_succ_cons] at h;cases h with
  | cons _ _ _ _ h1 h2 =>
   have:=CRs.cut 0 m h2;simp only[List.drop_zero] at this;simp only[List.drop_zero,List.take_succ_cons,List.length_cons];exact .cons _ _ _ _ h1 this
 | c::cs,v::vs,o+1,m,h=>by
  simp only[List.length_cons,List.take_succ_cons] at h;cases h with
  | cons _ _ _ _ h1 h2=>simpa using CRs.cut o m h2
def Ren.iced(ρ:Ren)(b k:Nat)(arr:Array Value):Ren:=⟨fun b'=>if b'=b then none else ρ b',⟨fun k'=>if k'=k then some ((tab k).getD arr) else ρ.frz k',fun k' a h=>by
 split
 ·subst k';rw[h];rfl
 ·exact ρ.frz.ok k' a h⟩,ρ.n⟩
mutual
theorem VR.iced{ρ:Ren}{b e:Nat}{cs:List AV}{L:Loc}{arr:Array Value}(hz:tab L.blk=none)(hL:∀L',ρ b=some L'->L'=L)(hf:∀k a,ρ.frz k=some a->(ρ.iced b L.blk arr).frz k=some a)
  (hs:CRs σ0 (ρ.iced b L.blk arr).frz cs ((arr.toList.drop L.off).take cs.length)):∀{v:AV} {x:Value},VR σ0 ρ v x->VR σ0 (ρ.iced b L.blk arr) (fzv b e cs v) x
 | _,_,.undef v=>.undef v
 | _,_,.b x=>.b x
 | _,_,.i k n=>.i k n
 | _,_,.s x=>.s x
 | _,_,.nilp=>.nilp
 | _,_,.ptr b' o L' h=>by
  simp only[fzv];split
  ·rename_i hb;subst hb;obtain rfl:=hL _ h;refine .pf o L'.off cs L'.blk arr (by simp[Ren.iced,hz]) hs
  ·rename_i hb;exact .ptr _ _ L' (by simp only[Ren.iced];rw[if_neg hb];exact h)
 | _,_,.nils=>.nils
 | _,_,.sl b' o n cap c l L' h hc=>by
  simp only[fzv];split
  ·rename_i hb;subst hb;obtain rfl:=hL _ h;split
   ·rename_i hn;refine .fz n (L'.off+o) c _ L'.blk arr (by omega) (by simp[Ren.iced,hz]) ?_;have:=CRs.cut o (n*e) hs;rw[List.drop_drop] at this;exact this
   ·exact .undef _
  ·rename_i hb;exact .sl _ _ _ _ _ _ L' (by simp only[Ren.iced];rw[if_neg hb];exact h) hc
 | _,_,.slz b' o x l L' h=>by
  simp only[fzv];split
  ·simp;exact .fz0 _
  ·rename_i hb;exact .slz _ _ _ _ L' (by simp only[Ren.iced];rw[if_neg hb];exact h)
 | _,_,.nilf=>.nilf
 | _,_,.fn f first cap first' cap' h1 h2=>.fn _ _ _ _ _ (VRs.iced hz hL hf hs h1) (VRs.iced hz hL hf hs h2)
 | _,_,.nili=>.nili
 | _,_,.ifc t v v' h=>.ifc _ _ _ (VR.iced hz hL hf hs h)
 | _,_,.agg l l' h=>.agg _ _ (VRs.iced hz hL hf hs h)
 | _,_,.tup l l' h=>.tup _ _ (VRs.iced hz hL hf hs h)
 | _,_,.nilm=>.nilm
 | _,_,.map b' L' h h0=>by
  simp only[fzv];split
  ·exact .undef _
  ·rename_i hb;exact .map _ L' (by simp only[Ren.iced];rw[if_neg hb];exact h) h0
 | _,_,.sym j=>.sym j
 | _,_,.fz n off c l k a hn h h2=>.fz n off c l k a hn (hf _ _ h) (h2.mono hf)
 | _,_,.fz0 a=>.fz0 a
 | _,_,.pf off base l k a h h2=>.pf off base l k a (hf _ _ h) (h2.mono hf)
 | _,_,.e0 a=>.e0 a
 | _,_,.nz a c=>.nz a c
 | _,_,.own0 b' a hb=>by
  simp only[fzv];split
  ·simp;exact .fz0 _
  ·exact .own0 _ _ hb
 | _,_,.yl b' L' h=>by
  simp only[fzv];split
  ·exact .undef _
  ·rename_i hb;exact .yl _ L' (by simp only[Ren.iced];rw[if_neg hb];exact h)
 | _,_,.own b' n c L' h hn hc=>by
  simp only[fzv];split
  ·rename_i hb;subst hb;obtain rfl:=hL _ h;split
   ·rename_i h0;subst h0;exact .fz 0 L'.off c [] L'.blk arr (by omega) (by simp[Ren.iced,hz]) (by simp;exact .nil)
   ·exact .fz n L'.off c cs L'.blk arr hn (by simp[Ren.iced,hz]) hs
  ·rename_i hb;exact .own _ _ _ L' (by simp only[Ren.iced];rw[if_neg hb];exact h) hn hc
theorem VRs.iced{ρ:Ren}{b e:Nat}{cs:List AV}{L:Loc}{arr:Array Value}(hz:tab L.blk=none)(hL:∀L',ρ b=some L'->L'=L)(hf:∀k a,ρ.frz k=some a->(ρ.iced b L.blk arr).frz k=some a)
  (hs:CRs σ0 (ρ.iced b L.blk arr).frz cs ((arr.toList.drop L.off).take cs.length)):∀{v:List AV} {x:List Value},VRs σ0 ρ v x->VRs σ0 (ρ.iced b L.blk arr) (jo b e cs v) x
 | _,_,.nil=>.nil
 | _,_,.cons v vs v' vs' h h2=>.cons _ _ _ _ (VR.iced hz hL hf hs h) (VRs.iced hz hL hf hs h2)
end
mutual
theorem VR.iced0{ρ:Ren}{b e:Nat}{cs:List AV}(hL:ρ b=none):∀{v:AV} {x:Value},VR σ0 ρ v x->VR σ0 ρ (fzv b e cs v) x
 | _,_,.undef v=>.undef v
 | _,_,.b x=>.b x
 | _,_,.i k n=>.i k n
 | _,_,.s x=>.s x
 | _,_,.nilp=>.nilp
 | _,_,.ptr b' o L' h=>by
  simp only[fzv];split
  ·rename_i hb;subst hb;rw[hL] at h;cases h
  ·exact .ptr _ _ L' h
 | _,_,.nils=>.nils
 | _,_,.sl b' o n cap c l L' h hc=>by
  simp only[fzv];split
  ·rename_i hb;subst hb;rw[hL] at h;cases h
  ·exact .sl _ _ _ _ _ _ L' h hc
 | _,_,.slz b' o x l L' h=>by
  simp only[fzv];split
  ·simp;exact .fz0 _
  ·exact .slz _ _ _ _ L' h
 | _,_,.nilf=>.nilf
 | _,_,.fn f first cap first' cap' h1 h2=>.fn _ _ _ _ _ (VRs.iced0 hL h1) (VRs.iced0 hL h2)
 | _,_,.nili=>.nili
 | _,_,.ifc t v v' h=>.ifc _ _ _ (VR.iced0 hL h)
 | _,_,.agg l l' h=>.agg _ _ (VRs.iced0 hL h)
 | _,_,.tup l l' h=>.tup _ _ (VRs.iced0 hL h)
 | _,_,.nilm=>.nilm
 | _,_,.map b' L' h h0=>by
  simp only[fzv];split
  ·exact .undef _
  ·exact .map _ L' h h0
 | _,_,.sym j=>.sym j
 | _,_,.fz n off c l k a hn h h2=>.fz n off c l k a hn h h2
 | _,_,.fz0 a=>.fz0 a
 | _,_,.pf off base l k a h h2=>.pf off base l k a h h2
 | _,_,.e0 a=>.e0 a
 | _,_,.nz a c=>.nz a c
 | _,_,.own0 b' a hb=>by
  simp only[fzv];split
  ·simp;exact .fz0 _
  ·exact .own0 _ _ hb
 | _,_,.yl b' L' h=>by
  simp only[fzv];split
  ·exact .undef _
  ·exact .yl _ L' h
 | _,_,.own b' n c L' h hn hc=>by
  simp only[fzv];split
  ·rename_i hb;subst hb;rw[hL] at h;cases h
  ·exact .own _ _ _ L' h hn hc
theorem VRs.iced0{ρ:Ren}{b e:Nat}{cs:List AV}(hL:ρ b=none):∀{v:List AV} {x:List Value},VRs σ0 ρ v x->VRs σ0 ρ (jo b e cs v) x
 | _,_,.nil=>.nil
 | _,_,.cons v vs v' vs' h h2=>.cons _ _ _ _ (VR.iced0 hL h) (VRs.iced0 hL h2)
end
def qkd(es:List (AV×AV)):Prop:=xO es∨∃r ts,es=qW r ts
omit [Cur] in
theorem qek{b e:Nat}{cs:List AV}:∀{es:List (AV×AV)},xO es->fzE b e cs es=es
 | [],_=>rfl
 | p::es,h=>by
  have h2:=qa4.1 h;show (p.1,fzv b e cs p.2)::fzE b e cs es=_;rw[qek h2.2,qel h2.1.2]
omit [Cur] in
theorem qi0{b e:Nat}{cs:List AV}{r:Loop}{ts:List (Nat×AV)}:fzE b e cs (qW r ts)=qW r (ts.map fun p=>(p.1,fzv b e cs p.2)):=by simp[fzE,qW,fzv]
theorem zL.ice{ρ ρ':Ren}{b e:Nat}{cs:List AV}(hv:∀{v:AV} {x:Value},VR σ0 ρ v x->VR σ0 ρ' (fzv b e cs v) x){es:List (AV×AV)}{o:Obj}(hm:qkd es)(h:zL σ0 ρ es o):zL σ0 ρ' (fzE b e cs es) o:=by
 rcases hm with hm|⟨r,ts,rfl⟩
 ·rw[qek hm];have hv':∀{v:AV} {x:Value},clo v=true->VR σ0 ρ v x->VR σ0 ρ' v x:=fun hc h=>by have:=hv h;rwa [qel hc] at this
  rcases h with⟨p1,vs,clk,p2,p3,p4⟩|p3|⟨r,_,ts,rfl,p2,_,p3⟩|⟨r,_,_,_,rfl,_⟩
  rotate_left 3
  ·exact absurd (hm (.undef,.map r) (by simp[itM])).2 (by simp[clo])
  ·exact .inl ⟨p1,vs,clk,p2,p3,fun j e0 he=>let ⟨v,a1,a2,a3⟩:=p4 j e0 he
    ⟨v,a1,hv' (hm e0 (zzM he)).1 a2,hv' (hm e0 (zzM he)).2 a3⟩⟩
  ·exact .inr (.inl p3)
  ·exact absurd (hm (.lp r,.undef) (by simp[qW])).1 (by simp[clo])
 ·obtain⟨rq,p2,pk,p3⟩:=h.rec';rw[qi0];refine .inr (.inr (.inl ⟨r,rq,_,rfl,p2,pk,fun p hp=>?_⟩))
  obtain⟨q,hq,rfl⟩:=List.mem_map.1 hp;exact⟨(p3 q hq).1,hv (p3 q hq).2⟩
theorem Wk.freeze{n:Nat}{ts:List (Nat×AV)}{bl:List Blk}(b e e':Nat){a:Bool}{cs:List AV}(hb:bl[b]?=some (.cells e' true a cs))(hc:zq cs=true)(hn:n<=b)(hm:∀es,Blk.map es ∈ bl->qkd es) :
  Wk n (mkT ts) (mkH 0 bl) (mkT (ts.map fun p=>(p.1,fzv b e cs p.2))) (mkH 0 ((bl.map (fzB b e cs)).set b .dead)):=by
 intro ρ B w tm ht r;have hlt:b<bl.length:=(zzS.1 hb).1;have hgb:(mkH 0 bl).tr.get b=some (.cells e' true a cs):=by rw[z8];exact hb
 have tget:∀(ts:List (Nat×AV)) (j:Nat),(mkT (ts.map fun p=>(p.1,fzv b e cs p.2))).get j=((mkT ts).get j).map (fzv b e cs):=by
  intro ts j
  induction ts with
  | nil=>simp[mkT]
  | cons p l ih =>
   simp only[List.map_cons,mkT,Tr.get_set];split
   ·rfl
   ·exact ih
 have hget:∀b',b'≠b->(mkH 0 ((bl.map (fzB b e cs)).set b .dead)).tr.get b'=((mkH 0 bl).tr.get b').map (fzB b e cs):=by
  intro b' hne;rw[z8,z8,List.getElem?_set_ne (Ne.symm hne),List.getElem?_map]
 have hgd:(mkH 0 ((bl.map (fzB b e cs)).set b .dead)).tr.get b=some .dead:=by
  rw[z8,List.getElem?_set_self (by simpa using hlt)]
 -- a live block of the new heap comes from one of the old
 have xl:∀b' x,(mkH 0 ((bl.map (fzB b e cs)).set b .dead)).tr.get b'=some x->x≠.dead->b'≠b∧∃y,(mkH 0 bl).tr.get b'=some y∧x=fzB b e cs y∧y≠.dead:=by
  intro b' x hx hd
  have hne:b'≠b:=by
   rintro rfl;rw[hgd] at hx;cases hx;exact hd rfl
  rw[hget b' hne] at hx;cases hy:(mkH 0 bl).tr.get b' with
  | none=>rw[hy] at hx;simp at hx
  | some y =>
   rw[hy] at hx;simp at hx;exact⟨hne,y,rfl,hx.symm,by rintro rfl;subst hx;exact hd rfl⟩
 have hsz:(mkH 0 ((bl.map (fzB b e cs)).set b .dead)).sz=bl.length:=by simp[qlD]
 cases hρ:ρ b with
 | none =>
  refine⟨ρ,fun j v hj=>?_,⟨?_,?_,?_,?_,?_,?_,?_,r.base,?_,?_⟩,⟨fun _ _=>rfl,by rw[hsz];omega,rfl,fun b' hb'=>by simp[qg6] at hb',fun _ _=>rfl,Nat.le_refl _,⟨rfl,rfl⟩,fun _ _ h=>h,fun _ _ h=>.inl h,fun _ _ h=>h⟩⟩
  ·rw[tget] at hj;cases hv:(mkT ts).get j with
   | none=>rw[hv] at hj;simp at hj
   | some v0 =>
    rw[hv] at hj;simp at hj;subst hj;exact⟨(ht j v0 hv).1,VR.iced0 hρ (ht j v0 hv).2⟩
  ·intro b' L h1;rw[hsz];exact r.dom b' L h1
  ·intro b' L e1 wf af cs' h1 h2;obtain⟨h3,y,h4,h5,h6⟩:=xl b' _ h2 (by simp);cases y with
   | cells k w0 a0 l =>
    simp only[fzB,Blk.cells.injEq] at h5;obtain⟨rfl,rfl,rfl,rfl⟩:=h5;obtain⟨q1,c,ty,fz,q2,q3,q4,q5,q6⟩:=r.cells b' L _ _ _ l h1 h4;refine⟨q1,c,ty,fz,q2,q3,by rw[zD];exact q4,fun j v hv=>?_,q6⟩
    rw[qbw] at hv;cases hj:l[j]? with
    | none=>rw[hj] at hv;simp at hv
    | some v0 =>
     rw[hj] at hv;simp at hv;subst hv;obtain⟨v',g1,g2⟩:=q5 j v0 hj;exact⟨v',g1,VR.iced0 hρ g2⟩
   | dead=>simp[fzB] at h5
   | map es=>simp[fzB] at h5
  ·intro b' L es h1 h2;obtain⟨h3,y,h4,h5,h6⟩:=xl b' _ h2 (by simp);cases y with
   | cells k w0 a0 l=>simp[fzB] at h5
   | dead=>simp[fzB] at h5
   | map es' =>
    simp only[fzB,Blk.map.injEq] at h5;subst h5;obtain⟨p1,o,p2,p3⟩:=r.maps b' L _ h1 h4;exact⟨p1,o,p2,p3.ice (fun h=>VR.iced0 hρ h) (hm es' (by rw[z8] at h4;exact zzM h4))⟩
  ·intro b1 L1 e1 af1 cs1 h1 h2 b2 L2 x h3 h4 h5 h6;obtain⟨g1,y,g2,g3,g4⟩:=xl b1 _ h2 (by simp);obtain⟨i1,y2,i2,i3,i4⟩:=xl b2 _ h4 h5;cases y with
   | cells k w0 a0 l =>
    simp only[fzB,Blk.cells.injEq] at g3;obtain⟨rfl,rfl,rfl,rfl⟩:=g3;exact r.excl b1 L1 _ _ l h1 g2 b2 L2 y2 h3 i2 i4 h6
   | dead=>simp[fzB] at g3
   | map es=>simp[fzB] at g3
  ·intro b1 L1 es h1 h2 b2 L2 x h3 h4 h5 h6;obtain⟨g1,y,g2,g3,g4⟩:=xl b1 _ h2 (by simp);obtain⟨i1,y2,i2,i3,i4⟩:=xl b2 _ h4 h5;cases y with
   | cells k w0 a0 l=>simp[fzB] at g3
   | dead=>simp[fzB] at g3
   | map es'=>simp only[fzB,Blk.map.injEq] at g3;subst g3;exact r.exclm b1 L1 _ h1 g2 b2 L2 y2 h3 i2 i4 h6
  ·intro b1 L1 e1 wf1 cs1 h1 h2 b2 L2 e2 wf2 af2 cs2 h3 h4 h6;obtain⟨g1,y,g2,g3,g4⟩:=xl b1 _ h2 (by simp);obtain⟨i1,y2,i2,i3,i4⟩:=xl b2 _ h4 (by simp);cases y<;>simp only[fzB,Blk.cells.injEq,reduceCtorEq] at g3;cases y2<;>simp only[fzB,Blk.cells.injEq,reduceCtorEq] at i3;obtain⟨rfl,rfl,rfl,rfl⟩:=g3;obtain⟨rfl,rfl,rfl,rfl⟩:=i3;rw[zD,zD];exact r.app b1 L1 _ _ _ h1 g2 b2 L2 _ _ _ _ h3 i2 h6
  ·intro b' L h1 h2;exact r.flr b' L h1 (Nat.zero_le _)
  ·intro k arr hk;refine⟨(r.frz k arr hk).1,fun b' L x h1 h2 h3=>?_⟩
   obtain⟨g1,y,g2,g3,g4⟩:=xl b' _ h2 h3;exact (r.frz k arr hk).2 b' L y h1 g2 g4
  ·exact⟨by rw[hsz];exact r.dn.1,r.dn.2⟩
 | some L =>
  obtain⟨q1,c,ty,fz,q2,q3,q4,q5,q6⟩:=r.cells b L _ _ _ cs hρ hgb
  have hz:tab L.blk=none:=by
   cases h:tab L.blk with
   | none=>rfl
   | some a=>exact absurd rfl ((r.frz _ _ (ρ.frz.ok _ _ h)).2 b L _ hρ hgb (by simp))
  have hf:∀k a,ρ.frz k=some a->(ρ.iced b L.blk c).frz k=some a:=by
   intro k a' hk;simp only[Ren.iced];rw[if_neg (fun hh=>(r.frz k a' hk).2 b L _ hρ hgb (by simp) hh.symm)]
   exact hk
  have hLs:∀L',ρ b=some L'->L'=L:=by intro L' h;rw[hρ] at h;cases h;rfl
  have hcr:∀(l:List AV) (j:Nat),(∀i v,l[i]?=some v->∃v',c.toList[j+i]?=some v'∧VR σ0 ρ v v')->zq l=true->CRs σ0 (ρ.iced b L.blk c).frz l ((c.toList.drop j).take l.length):=by
   intro l
   induction l with
   | nil=>intro j _ _;simp;exact .nil
   | cons v l ih =>
    intro j hh hcl;simp only[zq,Bool.and_eq_true] at hcl;obtain⟨v',g1,g2⟩:=hh 0 v rfl;simp only[Nat.add_zero] at g1;obtain⟨hj,rfl⟩:=zzS.1 g1;rw[List.drop_eq_getElem_cons hj,List.length_cons,List.take_succ_cons];refine .cons _ _ _ _ ((g2.cr hcl.1).mono hf) (ih (j+1) (fun i v hi=>?_) hcl.2)
    obtain⟨v',k1,k2⟩:=hh (i+1) v (by simpa using hi);exact⟨v',by rw[show j+1+i=j+(i+1) from by omega];exact k1,k2⟩
  have hs:CRs σ0 (ρ.iced b L.blk c).frz cs ((c.toList.drop L.off).take cs.length):=hcr cs L.off (fun i v hi=>by
   obtain⟨v',g1,g2⟩:=q5 i v hi;exact⟨v',by simpa using g1,g2⟩) hc
  have old:∀b' L',(ρ.iced b L.blk c) b'=some L'->b'≠b∧ρ b'=some L':=by
   intro b' L' h
   by_cases hbb:b'=b
   ·subst hbb;simp[Ren.iced] at h
   ·refine⟨hbb,?_⟩;simp only[Ren.iced] at h;rw[if_neg hbb] at h;exact h
  refine⟨ρ.iced b L.blk c,fun j v hj=>?_,⟨?_,?_,?_,?_,?_,?_,?_,r.base,?_,?_⟩,⟨fun b' hb'=>by simp only[Ren.iced];rw[if_neg (by omega)],by rw[hsz];omega,rfl,fun b' hb'=>by simp[qg6] at hb',fun _ _=>rfl,Nat.le_refl _,⟨rfl,rfl⟩,hf,fun k a' hk=>?_,fun _ _ h=>h⟩⟩
  ·rw[tget] at hj;cases hv:(mkT ts).get j with
   | none=>rw[hv] at hj;simp at hj
   | some v0 =>
    rw[hv] at hj;simp at hj;subst hj;exact⟨(ht j v0 hv).1,VR.iced hz hLs hf hs (ht j v0 hv).2⟩
  ·intro b' L' h1;rw[hsz];exact r.dom b' L' (old _ _ h1).2
  ·intro b' L' e1 wf af cs' h1 h2;obtain⟨h3,y,h4,h5,h6⟩:=xl b' _ h2 (by simp);cases y with
   | cells k w0 a0 l =>
    simp only[fzB,Blk.cells.injEq] at h5;obtain⟨rfl,rfl,rfl,rfl⟩:=h5;obtain⟨p1,c',ty',fz',p2,p3,p4,p5,p6⟩:=r.cells b' L' _ _ _ l (old _ _ h1).2 h4;refine⟨p1,c',ty',fz',p2,p3,by rw[zD];exact p4,fun j v hv=>?_,p6⟩
    rw[qbw] at hv;cases hj:l[j]? with
    | none=>rw[hj] at hv;simp at hv
    | some v0 =>
     rw[hj] at hv;simp at hv;subst hv;obtain⟨v',g1,g2⟩:=p5 j v0 hj;exact⟨v',g1,VR.iced hz hLs hf hs g2⟩
   | dead=>simp[fzB] at h5
   | map es=>simp[fzB] at h5
  ·intro b' L' es h1 h2;obtain⟨h3,y,h4,h5,h6⟩:=xl b' _ h2 (by simp);cases y with
   | cells k w0 a0 l=>simp[fzB] at h5
   | dead=>simp[fzB] at h5
   | map es' =>
    simp only[fzB,Blk.map.injEq] at h5;subst h5;obtain⟨p1,o,p2,p3⟩:=r.maps b' L' _ (old _ _ h1).2 h4;exact⟨p1,o,p2,p3.ice (fun h=>VR.iced hz hLs hf hs h) (hm es' (by rw[z8] at h4;exact zzM h4))⟩
  ·intro b1 L1 e1 af1 cs1 h1 h2 b2 L2 x h3 h4 h5 h6;obtain⟨g1,y,g2,g3,g4⟩:=xl b1 _ h2 (by simp);obtain⟨i1,y2,i2,i3,i4⟩:=xl b2 _ h4 h5;cases y<;>simp only[fzB,Blk.cells.injEq,reduceCtorEq] at g3;obtain⟨rfl,rfl,rfl,rfl⟩:=g3;exact r.excl b1 L1 _ _ _ (old _ _ h1).2 g2 b2 L2 y2 (old _ _ h3).2 i2 i4 h6
  ·intro b1 L1 es h1 h2 b2 L2 x h3 h4 h5 h6;obtain⟨g1,y,g2,g3,g4⟩:=xl b1 _ h2 (by simp);obtain⟨i1,y2,i2,i3,i4⟩:=xl b2 _ h4 h5;cases y<;>simp only[fzB,Blk.map.injEq,reduceCtorEq] at g3;subst g3;exact r.exclm b1 L1 _ (old _ _ h1).2 g2 b2 L2 y2 (old _ _ h3).2 i2 i4 h6
  ·intro b1 L1 e1 wf1 cs1 h1 h2 b2 L2 e2 wf2 af2 cs2 h3 h4 h6;obtain⟨g1,y,g2,g3,g4⟩:=xl b1 _ h2 (by simp);obtain⟨i1,y2,i2,i3,i4⟩:=xl b2 _ h4 (by simp);cases y<;>simp only[fzB,Blk.cells.injEq,reduceCtorEq] at g3;cases y2<;>simp only[fzB,Blk.cells.injEq,reduceCtorEq] at i3;obtain⟨rfl,rfl,rfl,rfl⟩:=g3;obtain⟨rfl,rfl,rfl,rfl⟩:=i3;rw[zD,zD];exact r.app b1 L1 _ _ _ (old _ _ h1).2 g2 b2 L2 _ _ _ _ (old _ _ h3).2 i2 h6
  ·intro b' L' h1 h2;exact r.flr b' L' (old _ _ h1).2 (Nat.zero_le _)
  ·intro k arr hk
   by_cases hkk:k=L.blk
   ·subst hkk;simp[Ren.iced,hz] at hk;subst hk;refine⟨⟨ty,fz,q2⟩,fun b' L' x h1 h2 h3 h6=>?_⟩
    obtain⟨g1,y,g2,g3,g4⟩:=xl b' _ h2 h3;exact g1 (r.excl b L _ _ _ hρ hgb b' L' y (old _ _ h1).2 g2 g4 h6)
   ·simp only[Ren.iced] at hk;rw[if_neg hkk] at hk;refine⟨(r.frz k arr hk).1,fun b' L' x h1 h2 h3=>?_⟩
    obtain⟨g1,y,g2,g3,g4⟩:=xl b' _ h2 h3;exact (r.frz k arr hk).2 b' L' y (old _ _ h1).2 g2 g4
  ·exact⟨by rw[hsz];exact r.dn.1,fun b' L' h=>r.dn.2 b' L' (old _ _ h).2⟩
  ·simp only[Ren.iced] at hk;split at hk
   ·rename_i hkk;subst hkk;exact .inr (r.flr b L hρ (Nat.zero_le _))
   ·exact .inl hk

end Go.Kc
end
section
namespace Go.Kc
variable [Cur]
variable {P:Program} {n:Nat} {t:Tr AV} {h:Hp}

theorem Wk.trans{t1 t2:Tr AV}{h1 h2:Hp}(a:Wk n t h t1 h1)(b:Wk n t1 h1 t2 h2):Wk n t h t2 h2:=by
 intro ρ B w tm ht r;obtain⟨ρ1,g1,g2,g3⟩:=a ρ B w tm ht r;obtain⟨ρ2,k1,k2,k3⟩:=b ρ1 B w tm g1 g2;exact⟨ρ2,k1,k2,g3.trans k3⟩
end Go.Kc
end
section
namespace Go.Kc
variable [Cur]
variable {P:Program} {f:Nat}

def qb7(P:Program)(f:Nat)(e:Array Value->Sem Value):Prop:=∀args w,(callFunc f args).run P w=((e args).run P w).andThen fun v w'=>.ok (.value v) w'
omit [Cur] in
theorem qb7.of{fn:Func}{e:Array Value->Sem Value}(hf:P.funcs[f]?=some fn)(hname:(fn.name == "runtime.NumGoroutine")=false)(hb:fn.body.isNone=true)(hn:Extern.findNext fn=none)(he:Extern.find fn=some e):qb7 P f e :=
 fun args w=>run_callFunc_extern hf hname hb hn he args w
theorem qb7.pure{e:Array Value->Sem Value}{vs:List AV}{v:AV}(h:qb7 P f e)(hr:∀ρ (args:Array Value) w,VRs σ0 ρ vs args.toList->∃v',(e args).run P w = .ok v' w∧VR σ0 ρ v v'):qX P f vs v:=by
 intro hp k hk;refine⟨trivial,fun ρ B w args r ha=>?_⟩
 obtain⟨v',h1,h2⟩:=hr ρ args w ha;exact .inr ⟨v',w,by rw[h,h1];rfl,v,v',hp,ρ,rfl,hk,h2,r,Kept.refl _ _ _ _⟩

def qdP(c:UInt8):List UInt8->Nat->Int
 | [],_=>-1
 | x::xs,j=>if x=c then (j:Int) else qdP c xs (j+1)
omit [Cur] in
theorem qbZ(a:List UInt8)(c:UInt8):firstIdx ⟨a.toArray⟩ c=qdP c a 0:=by
 have key:∀(l:List UInt8) (j:Nat),a.drop j=l->j<=a.length->(match (List.range' j l.length).find? (fun i=>(⟨a.toArray⟩:ByteArray)[i]! == c) with|some i=>(i:Int)|none=>-1)=qdP c l j:=by
  intro l
  induction l with
  | nil=>intro j _ _;simp[qdP]
  | cons x xs ih =>
   intro j hd hj
   have hlt:j<a.length:=by
    have:=congrArg List.length hd;simp at this;omega
   have hx:a[j]=x:=by
    have:=List.drop_eq_getElem_cons hlt;rw[hd] at this;exact (List.cons.inj this).1.symm
   have hget:(⟨a.toArray⟩:ByteArray)[j]! = x:=by
    have:j<(⟨a.toArray⟩:ByteArray).size:=by simpa[ByteArray.size] using hlt
    rw[getElem!_pos (⟨a.toArray⟩:ByteArray) j this];show a.toArray[j]=x;simpa using hx
   rw[List.length_cons,List.range'_succ,List.find?_cons,hget]
   by_cases he:x=c
   ·subst he;simp[qdP]
   ·have:(x==c)=false:=by simpa using he
    rw[this,qdP,if_neg he];exact ih (j+1) (by rw[← List.drop_drop,hd];rfl) (by omega)
 have:=key a 0 rfl (Nat.zero_le _);rw[← this];unfold firstIdx;rw[List.range_eq_range'];have:(⟨a.toArray⟩:ByteArray).size=a.length:=by simp[ByteArray.size]
 rw[this];split<;>rename_i h1<;>split<;>rename_i h2<;>simp_all
theorem qh0(h:qb7 P f Extern.BytealgIndexByte.indexByte)(a:List UInt8)(c:UInt8):qX P f [.s a,.i .u8 (c.toNat:Int)] (.i .i64 (qdP c a 0)):=by
 refine h.pure ?_;intro ρ args w ha;generalize hl:args.toList=l at ha;cases ha with
 | cons _ _ x xs hx hxs =>
  cases hxs with
  | cons _ _ y ys hy hys =>
   cases hys;cases hx;cases hy;obtain rfl:args = #[.string ⟨a.toArray⟩,.int .u8 (c.toNat:Int)]:=by cases args;simp_all
   refine⟨_,run_indexByte_string _ _ _,?_⟩;have:(c.toNat:Int).toNat.toUInt8=c:=by simp
   rw[this,qbZ];exact .i _ _

noncomputable def qbY(a b:List UInt8):Int:=if a=b then 0 else if ltS a b=true then -1 else 1
omit [Cur] in
theorem qjk{y:List UInt8}:ltS [] y = !y.isEmpty:=by cases y<;>rfl
omit [Cur] in
theorem qg2{c:UInt8}{x:List UInt8}:ltS (c::x) []=false:=rfl
omit [Cur] in
theorem qbH{c d:UInt8}{x y:List UInt8}:ltS (c::x) (d::y)=if c<d then true else if c=d then ltS x y else false:=by
 rw[qaL,qaL];simp only[Op.bytesLess]
 by_cases h1:c<d
 ·simp[h1]
 ·by_cases h2:c=d
  ·simp[h2]
  ·simp[h1,h2]
omit [Cur] in
theorem qiE(a b:List UInt8):Extern.BytealgCompare.cmp ⟨a.toArray⟩ ⟨b.toArray⟩=qbY a b:=by
 have hs:∀l:List UInt8,(⟨l.toArray⟩:ByteArray).size=l.length:=fun l=>by simp[ByteArray.size]
 have hg:∀(l:List UInt8) (j:Nat) (hj:j<l.length),(⟨l.toArray⟩:ByteArray)[j]! = l[j]:=by
  intro l j hj;have:j<(⟨l.toArray⟩:ByteArray).size:=by rw[hs];exact hj
  rw[getElem!_pos (⟨l.toArray⟩:ByteArray) j this];show l.toArray[j]=l[j];simp
 have key:∀(n:Nat) (x y:List UInt8) (j:Nat),a.drop j=x->b.drop j=y->j<=a.length->j<=b.length->min x.length y.length=n->
   (match (List.range' j n).find? (fun i=>(⟨a.toArray⟩:ByteArray)[i]! != (⟨b.toArray⟩:ByteArray)[i]!) with
    | some i=>if (⟨a.toArray⟩:ByteArray)[i]! < (⟨b.toArray⟩:ByteArray)[i]! then (-1:Int) else 1
    | none=>if a.length<b.length then -1 else if a.length > b.length then 1 else 0)=qbY x y:=by
  intro n
  induction n with
  | zero =>
   intro x y j hx hy ha hb hm;have la:x.length=a.length-j:=by rw[← hx];simp
   have lb:y.length=b.length-j:=by rw[← hy];simp
   cases x with
   | nil =>
    cases y with
    | nil =>
     simp at la lb;have:a.length=b.length:=by omega
     simp[qbY,this]
    | cons d ds =>
     simp at la lb;have:a.length<b.length:=by omega
     simp[qbY,this,qjk]
   | cons c cs =>
    cases y with
    | nil =>
     simp at la lb;have h1:¬a.length<b.length:=by omega
     have h2:b.length<a.length:=by omega
     simp[qbY,h1,h2,qg2]
    | cons d ds=>simp at hm
  | succ n ih =>
   intro x y j hx hy ha hb hm;cases x with
   | nil=>simp at hm
   | cons c cs =>
    cases y with
    | nil=>simp at hm
    | cons d ds =>
     have la:j<a.length:=by have:=congrArg List.length hx;simp at this;omega
     have lb:j<b.length:=by have:=congrArg List.length hy;simp at this;omega
     have ec:a[j]=c:=by have:=List.drop_eq_getElem_cons la;rw[hx] at this;exact (List.cons.inj this).1.symm
     have ed:b[j]=d:=by have:=List.drop_eq_getElem_cons lb;rw[hy] at this;exact (List.cons.inj this).1.symm
     rw[List.range'_succ,List.find?_cons,hg a j la,hg b j lb,ec,ed]
     by_cases he:c=d
     ·subst he;simp only[bne_self_eq_false];refine (ih cs ds (j+1) (by rw[← List.drop_drop,hx];rfl) (by rw[← List.drop_drop,hy];rfl) (by omega) (by omega) (by simp at hm;omega)).trans ?_;simp[qbY,qbH]
     ·have h1:(c != d)=true:=by simpa using he
      simp only[h1];rw[hg a j la,hg b j lb,ec,ed]
      by_cases hlt:c<d
      ·simp[qbY,qbH,hlt,he]
      ·simp[qbY,qbH,hlt,he]
 have:=key (min a.length b.length) a b 0 rfl rfl (Nat.zero_le _) (Nat.zero_le _) rfl;rw[← this];unfold Extern.BytealgCompare.cmp;rw[List.range_eq_range',hs,hs];rfl
theorem qhZ(h:qb7 P f Extern.BytealgCompare.compare)(a b:List UInt8):qX P f [.s a,.s b] (.i .i64 (qbY a b)):=by
 refine h.pure ?_;intro ρ args w ha;generalize hl:args.toList=l at ha;cases ha with
 | cons _ _ x xs hx hxs =>
  cases hxs with
  | cons _ _ y ys hy hys =>
   cases hys;cases hx;cases hy;obtain rfl:args = #[.string ⟨a.toArray⟩,.string ⟨b.toArray⟩]:=by cases args;simp_all
   refine⟨.int .i64 (qbY a b),?_,.i _ _⟩
   change Sem.run P (do
    let x ← Extern.Bytes.bytesOf (.string ⟨a.toArray⟩)
    let y ← Extern.Bytes.bytesOf (.string ⟨b.toArray⟩)
    pure (goInt (Extern.BytealgCompare.cmp x y))) w=_
   simp[Extern.Bytes.bytesOf,qiE,goInt]

end Go.Kc
end
section
namespace Go.Kc
variable [Cur]
variable {P:Program}
end Go.Kc
end
section
namespace Go.Kc
variable [Cur]
variable {P:Program} {h:Hp}

noncomputable def trP:List (Nat×Blk)->Tr Blk
 | []=>.leaf
 | p::l=>(trP l).set p.1 p.2
omit [Cur] in
theorem qcM:∀{l:List (Nat×Blk)} {b:Nat} {x:Blk},(trP l).get b=some x->(b,x) ∈ l
 | [],b,x,h=>by simp[trP] at h
 | p::l,b,x,h=>by
  simp only[trP,Tr.get_set] at h;split at h
  ·grind
  ·exact List.mem_cons_of_mem _ (qcM h)
noncomputable def qaK(h:Hp):List (Nat×Blk)->Hp
 | []=>h
 | p::l=>qaK (h.put p.1 .dead) l
omit [Cur] in
theorem qcC:∀{l:List (Nat×Blk)} {h:Hp},(qaK h l).sz=h.sz
 | [],_=>rfl
 | _::l,h=>(qcC (l:=l)).trans rfl
omit [Cur] in
theorem qcB:∀{l:List (Nat×Blk)} {h:Hp},(qaK h l).fl=h.fl
 | [],_=>rfl
 | _::l,h=>(qcB (l:=l)).trans rfl
omit [Cur] in
theorem qbC:∀{l:List (Nat×Blk)} {h:Hp} {b:Nat},(qaK h l).tr.get b=if b ∈ l.map Prod.fst then some .dead else h.tr.get b
 | [],_,_=>by simp[qaK]
 | p::l,h,b=>by
  simp only[qaK];rw[qbC]
  by_cases h1:b ∈ l.map Prod.fst
  ·rw[if_pos h1,if_pos (by simp_all)]
  ·rw[if_neg h1];show (h.tr.set p.1 .dead).get b=_;rw[Tr.get_set]
   simp_all
theorem Rel.sub{ρ:Ren}{B:Nat->Prop}{h h':Hp}{w:World}(r:Rel σ0 ρ B h w)(hs:h'.sz=h.sz)(hf:h'.fl=h.fl)(hg:∀b x,h'.tr.get b=some x->x≠.dead->h.tr.get b=some x):Rel σ0 ρ B h' w :=
 ⟨fun b L hb=>by rw[hs];exact r.dom b L hb,by grind[Rel.cells],by grind[Rel.maps],
  by grind[Rel.excl],by grind[Rel.exclm],
  fun b L e wf cs hb hx b' L' e' wf' af' cs' hb' hx'=>r.app b L e wf cs hb (by simp_all) b' L' e' wf' af' cs' hb' (by simp_all),fun b L hb hf'=>r.flr b L hb (by rw[← hf];omega),r.base,
  by grind[Rel.frz],by rw[hs];exact r.dn⟩
end Go.Kc
end
