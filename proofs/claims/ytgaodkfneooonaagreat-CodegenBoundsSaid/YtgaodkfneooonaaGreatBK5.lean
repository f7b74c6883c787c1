/- Part 5 of the abstract machine and of the functions' walks. Conditions: with each theorem. -/
import Derived.Test.YtgaodkfneooonaaGreatBK4
set_option maxHeartbeats 4000000
set_option linter.unusedSectionVars false
set_option linter.unusedSimpArgs false
set_option linter.unusedVariables false
set_option linter.unnecessarySimpa false
set_option linter.defProp false
section
namespace Go.Kc
variable {P:Program} {n:Nat} {C:zx} {d:Bool} {Q:Tr AV->Hp->Prop} {t:Tr AV} {h:Hp} {k:AV->Hp->Prop}

def evA(v:AV)(k:AV->Prop):Prop:=k v
@[congr] theorem qBv {v v':AV} {k:AV->Prop} {mk:Prop} (_:zc=mk) (h:v=v'):evA v k=evA v' k:=by rw[h]
theorem qvy{v:AV}{k:AV->Prop}:evA v k↔k v:=Iff.rfl
def evL(v:List AV)(k:List AV->Prop):Prop:=k v
@[congr] theorem qBz {v v':List AV} {k:List AV->Prop} {mk:Prop} (_:zc=mk) (h:v=v'):evL v k=evL v' k:=by rw[h]
theorem qvz{v:List AV}{k:List AV->Prop}:evL v k↔k v:=Iff.rfl
def evN(v:Nat)(k:Nat->Prop):Prop:=k v
@[congr] theorem qBA {v v':Nat} {k:Nat->Prop} {mk:Prop} (_:zc=mk) (h:v=v'):evN v k=evN v' k:=by rw[h]
theorem qvA{v:Nat}{k:Nat->Prop}:evN v k↔k v:=Iff.rfl
def evT(v:Bool)(k:Bool->Prop):Prop:=k v
@[congr] theorem qBC {v v':Bool} {k:Bool->Prop} {mk:Prop} (_:zc=mk) (h:v=v'):evT v k=evT v' k:=by rw[h]
theorem qvB{v:Bool}{k:Bool->Prop}:evT v k↔k v:=Iff.rfl
def evB(o:Option Blk)(k:Blk->Prop):Prop:=∃v,o=some v∧k v
@[congr] theorem qBw {o o':Option Blk} {k:Blk->Prop} {mk:Prop} (_:zc=mk) (h:o=o'):evB o k=evB o' k:=by rw[h]
theorem qsd{v:Blk}{k:Blk->Prop}:evB (some v) k↔k v:=by simp[evB]
def ifK(c:Prop)(p:Prop):Prop:=c∧p
@[congr] theorem qBD {c c' p:Prop} {mk:Prop} (_:zc=mk) (h:c=c'):ifK c p=ifK c' p:=by rw[h]
theorem qm1{p:Prop}:ifK True p↔p:=by simp[ifK]
theorem qvU{c c' p:Prop}:ifK (c∧c') p↔ifK c (ifK c' p):=by simp[ifK,and_assoc]
theorem qpw{x:Bool}{p:Prop}:qk x p↔ifK (x=true) p:=qa _ _
theorem xw{n:Nat}{k:Nat->Prop}:qo n k↔evN n k:=by rw[qt];exact Iff.rfl
theorem qh9{n:Bool}{k:Bool->Prop}:qL n k↔evT n k:=by rw[qz];exact Iff.rfl
@[congr] theorem qvD {n:Nat} {k:Nat->Prop} {mk:Prop} (_:zc=mk):qo n k=qo n k:=rfl
@[congr] theorem qvC {n:Bool} {k:Bool->Prop} {mk:Prop} (_:zc=mk):qL n k=qL n k:=rfl
@[congr] theorem qx4 {n:Bool} {k:Prop} {mk:Prop} (_:zc=mk):qk n k=qk n k:=rfl
theorem qDG{x:Bool}{k:Bool->Prop}:unB (.b x) k↔k x:=Iff.rfl
theorem qxl{b o:Nat}{k:Nat->Nat->Prop}:unP (.ptr b o) k↔k b o:=Iff.rfl
theorem qDH{q:IntKind}{z:Int}{k:IntKind->Int->Prop}:unI (.i q z) k↔k q z:=Iff.rfl
theorem qDI{q:IntKind}{z:Int}{k:Nat->Prop}:unN (.i q z) k↔ifK (0<=z) (evN z.toNat k):=by
 cases z with
 | ofNat m=>exact⟨fun h=>⟨Int.natCast_nonneg m,h⟩,fun h=>h.2⟩
 | negSucc m=>exact⟨fun h=>h.elim,fun h=>absurd h.1 (by omega)⟩
@[congr] theorem qBW {x:AV} {k:Bool->Prop} {mk:Prop} (_:zc=mk):unB x k=unB x k:=rfl
@[congr] theorem qBZ {x:AV} {k:Nat->Nat->Prop} {mk:Prop} (_:zc=mk):unP x k=unP x k:=rfl
@[congr] theorem qBX {x:AV} {k:IntKind->Int->Prop} {mk:Prop} (_:zc=mk):unI x k=unI x k:=rfl
@[congr] theorem qBY {x:AV} {k:Nat->Prop} {mk:Prop} (_:zc=mk):unN x k=unN x k:=rfl

section
variable {q q':IntKind} {n m:Int} {a c:List UInt8} {k:AV->Prop}
theorem qmN{z:Int}:xp (qh0 q z) (fun r=>k (.i q r))↔evA (.i q (q.wrap z)) k:=by
 rw[zk,qdf];exact Iff.rfl
theorem quX:xb qy .lss (.i q n) (.i q m) k↔evA (.b (decide (n<m))) k:=by simp[xb,z8,qa,qcn,evA]
theorem quV:xb qy .gtr (.i q n) (.i q m) k↔evA (.b (decide (m<n))) k:=by simp[xb,z8,qa,qcn,evA]
theorem quU:xb qy .geq (.i q n) (.i q m) k↔evA (.b (decide (m<=n))) k:=by
 simp only[xb,z8,qa,qcn,qz,decide_true,true_and,evA];rw[← decide_not];simp
theorem quW:xb qy .leq (.i q n) (.i q m) k↔evA (.b (decide (n<=m))) k:=by
 simp only[xb,z8,qa,qcn,qz,decide_true,true_and,evA];rw[← decide_not];simp
theorem quT:xb qy .eql (.i q n) (.i q m) k↔evA (.b (decide (n=m))) k:=by
 simp only[xb,z8,qa,qfl,qz,decide_true,true_and,evA];rw[show (n==m)=decide (n=m) from by rw[Bool.eq_iff_iff];simp]
theorem quZ:xb qy .neq (.i q n) (.i q m) k↔evA (.b (!decide (n=m))) k:=by
 simp only[xb,z8,qa,qfl,qz,decide_true,true_and,evA];rw[show (n==m)=decide (n=m) from by rw[Bool.eq_iff_iff];simp]
theorem quQ:xb qy .add (.i q n) (.i q m) k↔evA (.i q (q.wrap (n+m))) k:=by
 simp only[xb,z8,qa,qdf,zk,decide_true,true_and];exact Iff.rfl
theorem qu2:xb qy .sub (.i q n) (.i q m) k↔evA (.i q (q.wrap (n-m))) k:=by
 simp only[xb,z8,qa,qdf,zk,decide_true,true_and];exact Iff.rfl
theorem quY:xb qy .mul (.i q n) (.i q m) k↔evA (.i q (q.wrap (n*m))) k:=by
 simp only[xb,z8,qa,qdf,zk,decide_true,true_and];exact Iff.rfl
def orI(q:IntKind)(x y:Int):Int:=q.wrap (BitVec.ofInt q.bits x ||| BitVec.ofInt q.bits y).toNat
def xT(q:IntKind)(x y:Int):Int:=q.wrap (BitVec.ofInt q.bits x &&& BitVec.ofInt q.bits y).toNat
def qBj(q:IntKind)(x y:Int):Int:=q.wrap (BitVec.ofInt q.bits x ^^^ BitVec.ofInt q.bits y).toNat
def qff(q:IntKind)(x y:Int):Int:=q.wrap (BitVec.ofInt q.bits x &&& ~~~ (BitVec.ofInt q.bits y)).toNat
theorem qyC:xb qy .or (.i q n) (.i q m) k↔evA (.i q (orI q n m)) k:=by
 simp only[xb,z8,qa,zk,decide_true,true_and,orI,evA]
theorem quR:xb qy .and (.i q n) (.i q m) k↔evA (.i q (xT q n m)) k:=by
 simp only[xb,z8,qa,zk,decide_true,true_and,xT,evA]
theorem qu3:xb qy .xor (.i q n) (.i q m) k↔evA (.i q (qBj q n m)) k:=by
 simp only[xb,z8,qa,zk,decide_true,true_and,qBj,evA]
theorem quS:xb qy .andNot (.i q n) (.i q m) k↔evA (.i q (qff q n m)) k:=by
 simp only[xb,z8,qa,zk,decide_true,true_and,qff,evA]
def qug(q:IntKind)(x m:Int):Int:=x.fdiv (2 ^ min m.toNat q.bits)
def quf(q:IntKind)(x m:Int):Int:=q.wrap (x*2 ^ min m.toNat q.bits)
theorem qu1{q2:IntKind}:xb qy .shr (.i q n) (.i q2 m) k↔ifK (0<=m) (evA (.i q (qug q n m)) k):=by
 cases m with
 | ofNat m =>
  show qo (min m q.bits) (fun a=>xp (n.fdiv (p2 a)) (fun r=>k (.i q r)))↔_
  rw[qt,zk,qo4];exact⟨fun h=>⟨Int.natCast_nonneg m,h⟩,fun h=>h.2⟩
 | negSucc m=>exact⟨fun h=>h.elim,fun h=>absurd h.1 (by omega)⟩
theorem qu0{q2:IntKind}:xb qy .shl (.i q n) (.i q2 m) k↔ifK (0<=m) (evA (.i q (quf q n m)) k):=by
 cases m with
 | ofNat m =>
  show qo (min m q.bits) (fun a=>xp (q.wrap (n*p2 a)) (fun r=>k (.i q r)))↔_
  rw[qt,zk,qo4];exact⟨fun h=>⟨Int.natCast_nonneg m,h⟩,fun h=>h.2⟩
 | negSucc m=>exact⟨fun h=>h.elim,fun h=>absurd h.1 (by omega)⟩
theorem qjA(x y:Int):eqI x y=decide (x=y):=by rw[qfl,Bool.eq_iff_iff];simp
theorem qi0(h:m≠0):xb qy .quo (.i q n) (.i q m) k↔evA (.i q (q.wrap (n.tdiv m))) k:=by
 simp only[xb,z8,qa,qdf,zk,decide_true,true_and,qjA,decide_eq_false h];exact Iff.rfl
theorem qbT(h:m≠0):xb qy .rem (.i q n) (.i q m) k↔evA (.i q (n.tmod m)) k:=by
 simp only[xb,z8,qa,zk,decide_true,true_and,qjA,decide_eq_false h];exact Iff.rfl
theorem qrn:xb qy .eql (.s a) (.s c) k↔evA (.b (decide (a=c))) k:=by
 simp only[xb,qby,qbG,qz,evA];rw[show (a==c)=decide (a=c) from by rw[Bool.eq_iff_iff];simp]
theorem qrs:xb qy .neq (.s a) (.s c) k↔evA (.b (!decide (a=c))) k:=by
 simp only[xb,qby,qbG,qz,evA];rw[show (a==c)=decide (a=c) from by rw[Bool.eq_iff_iff];simp]
theorem qrm:xb qy .add (.s a) (.s c) k↔ifK (a.length+c.length<=9223372036854775807) (evA (.s (a++c)) k):=by
 show (Bool.rec (motive:=fun _=>Prop) False (k (.s (a++c))) (Nat.ble (a.length+c.length) 9223372036854775807):Prop)↔_
 rw[show (a.length+c.length<=9223372036854775807)=(Nat.ble (a.length+c.length) 9223372036854775807=true) from propext ⟨Nat.ble_eq_true_of_le,Nat.le_of_ble_eq_true⟩]
 cases Nat.ble (a.length+c.length) 9223372036854775807
 ·exact⟨False.elim,fun h=>by cases h.1⟩
 ·exact⟨fun h=>⟨rfl,h⟩,fun h=>h.2⟩
theorem qrr:xb qy .lss (.s a) (.s c) k↔evA (.b (ltS a c)) k:=by simp only[xb,qby,qz,evA]
theorem qro:xb qy .geq (.s a) (.s c) k↔evA (.b (!ltS a c)) k:=by simp only[xb,qby,qz,evA]
theorem qrq:xb qy .leq (.s a) (.s c) k↔evA (.b (ltS a c||decide (a=c))) k:=by
 simp only[xb,qby,qbG,qz,evA];rw[show (a==c)=decide (a=c) from by rw[Bool.eq_iff_iff];simp]
theorem qrp:xb qy .gtr (.s a) (.s c) k↔evA (.b (!(ltS a c||decide (a=c)))) k:=by
 simp only[xb,qby,qbG,qz,evA];rw[show (a==c)=decide (a=c) from by rw[Bool.eq_iff_iff];simp]
theorem qBc{x:Bool}:qdA .not (.b x) k↔evA (.b (!x)) k:=by simp only[qdA,qz,evA]
theorem qBb:qdA .neg (.i q n) k↔evA (.i q (q.wrap (0-n))) k:=by simp only[qdA,zk,evA]
theorem qq{x:Int}(h1:-9223372036854775808<=x)(h2:x<=9223372036854775807):IntKind.wrap .i64 x=x:=by
 simp[IntKind.wrap,IntKind.bits,IntKind.signed];omega
theorem qdB{x:Int}(h1:0<=x)(h2:x<=18446744073709551615):IntKind.wrap .u64 x=x:=by
 simp[IntKind.wrap,IntKind.bits,IntKind.signed];omega
theorem qcD{x:Int}(h1:0<=x)(h2:x<=4294967295):IntKind.wrap .u32 x=x:=by
 simp[IntKind.wrap,IntKind.bits,IntKind.signed];omega
theorem quD{x:Int}(h1:0<=x)(h2:x<=255):IntKind.wrap .u8 x=x:=by
 simp[IntKind.wrap,IntKind.bits,IntKind.signed];omega
theorem qEh:cvK qy q (.i q' n) k↔evA (.i q (q.wrap n)) k:=by
 show xp (qh0 q n) (fun r=>k (.i q r))↔_
 exact qmN
end

theorem qzR{s f:Nat}{tr:Tr Blk}{x:Blk}{k:Nat->Hp->Prop}:xJ ⟨s,f,tr⟩ x k↔evN (s+1) (fun s'=>k s ⟨s',f,tr.set s x⟩):=by
 rw[zM];exact Iff.rfl
theorem qAC{s f b:Nat}{tr:Tr Blk}{x:Blk}{k:Hp->Prop}:qav ⟨s,f,tr⟩ b x k↔ifK (f<=b) (k ⟨s,f,tr.set b x⟩):=jB _ _ _ _
theorem qx1{s f:Nat}{tr:Tr Blk}:Hp.up ⟨s,f,tr⟩=⟨s,s,tr⟩:=rfl
theorem qoF{s f f':Nat}{tr:Tr Blk}:Hp.down ⟨s,f,tr⟩ f'=⟨s,f',tr⟩:=rfl
def qaW(x:Blk)(k:Nat->Bool->Bool->List AV->Prop):Prop:=match x with | .cells e w a cs=>k e w a cs|_=>False
@[congr] theorem qvc {x x':Blk} {k:Nat->Bool->Bool->List AV->Prop} {mk:Prop} (_:zc=mk) (h:x=x'):qaW x k=qaW x' k:=by rw[h]
theorem qlt{e:Nat}{w a:Bool}{cs:List AV}{k:Nat->Bool->Bool->List AV->Prop}:qaW (.cells e w a cs) k↔k e w a cs:=Iff.rfl
theorem qfT{b:Nat}{k:Nat->Bool->Bool->List AV->Prop}:qao h b k↔evB (h.tr.get b) (fun x=>qaW x k):=by
 rw[qW];constructor
 ·rintro⟨e,w,a,cs,h1,h2⟩;exact⟨_,h1,h2⟩
 ·rintro⟨x,h1,h2⟩;cases x with
  | cells e w a cs=>exact⟨e,w,a,cs,h1,h2⟩
  | dead=>exact h2.elim
  | map es=>exact h2.elim
def qew(cs:List AV)(o n:Nat)(k:List AV->Prop):Prop:=o<=cs.length∧n<=(cs.drop o).length∧k ((cs.drop o).take n)
@[congr] theorem qyW {cs:List AV} {o n:Nat} {k:List AV->Prop} {mk:Prop} (_:zc=mk):qew cs o n k=qew cs o n k:=rfl
theorem qvr{cs:List AV}{o n:Nat}{k:List AV->Prop}:qew cs o n k↔ifK (o+n<=cs.length) (evL ((cs.drop o).take n) k):=by
 unfold qew ifK;rw[List.length_drop];exact⟨fun⟨h1,h2,h3⟩=>⟨by omega,h3⟩,fun⟨h1,h2⟩=>⟨by omega,by omega,h2⟩⟩
theorem drop_take{cs:List AV}{o n:Nat}{k:List AV->Prop}:qbY o cs (fun l=>qbg n l k)↔qew cs o n k:=by
 rw[zo,qY];exact Iff.rfl
theorem qsU{b o:Nat}{k:AV->Prop}:ldV h (.ptr b o) k↔evB (h.tr.get b) (fun x=>qaW x (fun _ _ _ cs=>evO cs[o]? k)):=by
 show qao h b (fun _ _ _ cs=>qgW cs o k)↔_
 rw[qfT]
 have:(fun (_:Nat) (_ _:Bool) (cs:List AV)=>qgW cs o k)=fun _ _ _ cs=>evO cs[o]? k:=by
  funext _ _ _ cs;exact propext (xn _ _ _)
 rw[this]
theorem qC6{cs:List AV}{o:Nat}{k:AV->Prop}:ldV h (.pf cs o) k↔evO cs[o]? k:=xn _ _ _
theorem qC4{b o:Nat}{k:AV->Prop}:ldK h b o k↔evB (h.tr.get b) (fun x=>qaW x (fun _ _ _ cs=>evO cs[o]? k)):=qsU
theorem qsV{b o n:Nat}{k:List AV->Prop}:qbP h b o n k↔evB (h.tr.get b) (fun x=>qaW x (fun _ _ _ cs=>qew cs o n k)):=by
 show qao h b (fun _ _ _ cs=>qbY o cs (fun l=>qbg n l k))↔_
 rw[qfT];simp only[drop_take]
theorem qv3{b o n:Nat}{k:List AV->Prop}:qiS h (.ptr b o) n k↔evB (h.tr.get b) (fun x=>qaW x (fun _ _ _ cs=>qew cs o n k)):=qsV
theorem qzA{cs:List AV}{o n:Nat}{k:List AV->Prop}:qiS h (.pf cs o) n k↔qew cs o n k:=drop_take
theorem qwb{b o n:Nat}{k:AV->Prop}:qgU (.ptr b o) n k↔evN (o+n) (fun o'=>k (.ptr b o')):=xw (n:=o+n) (k:=fun o'=>k (.ptr b o'))
theorem qzN{cs:List AV}{o n:Nat}{k:AV->Prop}:qgU (.pf cs o) n k↔evN (o+n) (fun o'=>k (.pf cs o')):=xw (n:=o+n) (k:=fun o'=>k (.pf cs o'))
@[congr] theorem qzM {p:AV} {n:Nat} {k:AV->Prop} {mk:Prop} (_:zc=mk):qgU p n k=qgU p n k:=rfl
theorem qE1{b o:Nat}{vs:List AV}{k:Hp->Prop}:stK h b o vs k↔evB (h.tr.get b) (fun x=>qaW x (fun e w a cs=>ifK (w=true∧qE vs=true∧o+vs.length<=cs.length) (evL (cs.take o++(vs++cs.drop (o+vs.length))) (fun cs'=>qav h b (.cells e true a cs') k)))):=by
 show qao h b _↔_;rw[qfT]
 have:(fun (e:Nat) (w a:Bool) (cs:List AV)=>(Bool.rec (motive:=fun _=>Prop) False (Bool.rec (motive:=fun _=>Prop) False (xR vs o cs (fun cs'=>qav h b (.cells e w a cs') k)) (qE vs)) w:Prop)) =
   fun e w a cs=>ifK (w=true∧qE vs=true∧o+vs.length<=cs.length) (evL (cs.take o++(vs++cs.drop (o+vs.length))) (fun cs'=>qav h b (.cells e true a cs') k)):=by
  funext e w a cs;refine propext ?_;cases w with
  | false=>exact⟨False.elim,fun hh=>by have:=hh.1.1;cases this⟩
  | true =>
   cases hc:qE vs with
   | false=>exact⟨False.elim,fun hh=>by have:=hh.1.2.1;cases this⟩
   | true=>exact (xS _ _ _ _).trans ⟨fun⟨h1,h2⟩=>⟨⟨rfl,rfl,h1⟩,h2⟩,fun⟨⟨_,_,h1⟩,h2⟩=>⟨h1,h2⟩⟩
 rw[this]
def stV(h:Hp)(b o:Nat)(v:AV)(n:Nat)(k:Hp->Prop):Prop:=qk (qcg v) (qgb (cellsOf v) (fun m=>qk (Nat.beq m n) (stK h b o (cellsOf v) k)))
@[congr] theorem qBU {b o:Nat} {v:AV} {n:Nat} {k:Hp->Prop} {mk:Prop} (_:zc=mk):stV h b o v n k=stV h b o v n k:=rfl
theorem qeu{x y:Nat}:Nat.beq x y=true↔x=y:=⟨Nat.eq_of_beq_eq_true,fun h=>h ▸ Nat.beq_refl x⟩
theorem qw9{b o:Nat}{v:AV}{n:Nat}{k:Hp->Prop}:stV h b o v n k↔ifK (qcg v=true) (evL (cellsOf v) (fun cs=>ifK (cs.length=n) (stK h b o cs k))):=by
 unfold stV;rw[qa,jg,qa,qeu];exact Iff.rfl
theorem xP{x y:Nat}:Nat.ble x y=true↔x<=y:=⟨Nat.le_of_ble_eq_true,Nat.ble_eq_true_of_le⟩

theorem qAr{x:O}:opK qy (.mov x) t h k↔evK t x (fun v=>k v h):=Iff.rfl
theorem qdT{b:Bool}{p q:Prop}:(Bool.rec (motive:=fun _=>Prop) q p b:Prop)↔if b=true then p else q:=by cases b<;>simp
theorem qwv{c x y:O}:opK qy (.pick c x y) t h k↔evK t c (fun c=>unB c (fun c=>if c=true then evK t x (fun v=>k v h) else evK t y (fun v=>k v h))):=by
 show evK t c (fun c=>unB c (fun c=>Bool.rec (motive:=fun _=>Prop) (evK t y (fun v=>k v h)) (evK t x (fun v=>k v h)) c))↔_
 simp only[qdT]
theorem qtx{z:List AV}:opK qy (.alloc z) t h k↔xJ h (.cells 0 true false z) (fun b h'=>k (.ptr b 0) h'):=Iff.rfl
theorem qAe{x:O}:opK qy (.box x) t h k↔evK t x (fun v=>qk (qcg v) (evL (cellsOf v) (fun cs=>xJ h (.cells 0 true false cs) (fun b h'=>k (.ptr b 0) h')))):=Iff.rfl
theorem qty{z:List AV}{ps:List (Nat×Nat×O)}:opK qy (.build z ps) t h k↔qai t ps z (fun cs=>k (.agg cs) h):=Iff.rfl
theorem qqB{n:Nat}{z:List AV}{ps:List (Nat×Nat×O)}:opK qy (.buildS n z ps) t h k↔evL (List.replicate n z).flatten (fun cs=>qai t ps cs (fun cs=>xJ h (.cells 0 true false cs) (fun b h'=>k (.sl b 0 n n false) h'))):=by
 show qhR z n _↔_;rw[jC];exact Iff.rfl
theorem qtD{x:O}:opK qy (.load1 x) t h k↔evK t x (fun p=>ldV h p (fun v=>k v h)):=Iff.rfl
theorem qtE{n:Nat}{x:O}:opK qy (.loadN n x) t h k↔evK t x (fun p=>qiS h p n (fun cs=>k (.agg cs) h)):=Iff.rfl
theorem qtH{n:Nat}{x v:O}:opK qy (.store n x v) t h k↔evK t x (fun p=>unP p (fun b o=>evK t v (fun v=>stV h b o v n (fun h'=>k .undef h')))):=Iff.rfl
def qiM(v:AV)(k:AV->Prop):Prop:=match v with | .ptr b o=>k (.ptr b o) | .fn f a c=>k (.fn f a c) | .map r=>k (.map r) | .pf cs o=>k (.pf cs o) | .yl b=>k (.yl b)|_=>False
@[congr] theorem qxQ {v:AV} {k:AV->Prop} {mk:Prop} (_:zc=mk):qiM v k=qiM v k:=rfl
theorem qqE{x:O}:opK qy (.nilChk x) t h k↔evK t x (fun v=>qiM v (fun v=>k v h)):=by
 show evK t x (fun v=>_)↔_
 refine iff_of_eq (congrArg _ (funext fun v=>?_))
 cases v<;>rfl
theorem qAd{op:BinOp}{x y:O}:opK qy (.bin op x y) t h k↔evK t x (fun x=>evK t y (fun y=>xb qy op x y (fun v=>k v h))):=Iff.rfl
theorem qAh{neg:Bool}{x y:O}:opK qy (.eqB neg x y) t h k↔evK t x (fun x=>evK t y (fun y=>unB x (fun x=>unB y (fun y=>evT (xor neg (x==y)) (fun r=>k (.b r) h))))):=by
 show evK t x (fun x=>evK t y (fun y=>unB x (fun x=>unB y (fun y=>qL _ _))))↔_
 simp only[qh9]
theorem qAi{neg:Bool}{q:NK}{x:O}:opK qy (.eqN neg q x) t h k↔evK t x (fun x=>xM q x (fun r=>evT (xor neg r) (fun r=>k (.b r) h))):=by
 show evK t x (fun x=>xM q x (fun r=>qL _ _))↔_
 simp only[qh9]
theorem qAg{neg:Bool}{ks:List PK}{x y:O}:opK qy (.eqA neg ks x y) t h k↔evK t x (fun x=>evK t y (fun y=>match x with | .agg a=>(match y with | .agg c=>x8 ks a c (fun r=>qL (xor neg r) (fun r=>k (.b r) h))|_=>False)|_=>False)):=Iff.rfl
theorem qDs{op:UnOp}{x:O}:opK qy (.un op x) t h k↔evK t x (fun x=>qdA op x (fun v=>k v h)):=Iff.rfl
theorem qtA{q:IntKind}{x:O}:opK qy (.cvInt q x) t h k↔evK t x (fun x=>cvK qy q x (fun v=>k v h)):=Iff.rfl
@[congr] theorem qBt {q:IntKind} {x:AV} {k:AV->Prop} {mk:Prop} (_:zc=mk):cvK qy q x k=cvK qy q x k:=rfl
theorem qtB{x:O}:opK qy (.cvStr x) t h k↔evK t x (fun x=>match x with | .s a=>k (.s a) h|_=>False):=Iff.rfl
theorem qAs{x:O}:opK qy (.s2b x) t h k↔evK t x (fun x=>match x with | .s a=>xJ h (.cells 1 true true (a.map fun c=>.i .u8 (Int.ofNat c.toNat))) (fun b h'=>k (.own b a.length) h')|_=>False):=by
 show evK t x (fun x=>_)↔_
 refine iff_of_eq (congrArg _ (funext fun v=>?_))
 cases v<;>first|rfl|exact qt _ _
theorem qAc{x:O}:opK qy (.b2s x) t h k↔evK t x (fun x=>match x with
  | .nils=>k (.s []) h
  | .sl b o n _ _=>qbP h b o n (fun cs=>xc cs (fun l=>k (.s l) h))
  | .fz n cs=>qew cs 0 n (fun cs=>xc cs (fun l=>k (.s l) h))
  | .e0=>k (.s []) h
  | .own b n=>qbP h b 0 n (fun cs=>xc cs (fun l=>k (.s l) h))
  | _=>False):=by
 show evK t x (fun x=>_)↔_
 refine iff_of_eq (congrArg _ (funext fun v=>?_))
 cases v<;>first|rfl|exact propext ((qY _ _ _).trans ⟨fun hh=>⟨Nat.zero_le _,by simpa using hh⟩,fun hh=>by simpa using hh.2⟩)
theorem qtC{off:Nat}{x:O}:opK qy (.fAddr off x) t h k↔evK t x (fun p=>qgU p off (fun v=>k v h)):=Iff.rfl
def qsm(off:Nat)(n:Option Nat)(x:AV)(k:AV->Prop):Prop:=match x with
 | .agg cs=>(match n with|none=>evO cs[off]? k|some n=>qew cs off n (fun l=>k (.agg l)))
 | _=>False
@[congr] theorem qze {off:Nat} {n:Option Nat} {x:AV} {k:AV->Prop} {mk:Prop} (_:zc=mk):qsm off n x k=qsm off n x k:=rfl
theorem qsn{off:Nat}{cs:List AV}{k:AV->Prop}:qsm off none (.agg cs) k↔evO cs[off]? k:=Iff.rfl
theorem qso{off n:Nat}{cs:List AV}{k:AV->Prop}:qsm off (some n) (.agg cs) k↔qew cs off n (fun l=>k (.agg l)):=Iff.rfl
theorem qAk{off:Nat}{n:Option Nat}{x:O}:opK qy (.fld off n x) t h k↔evK t x (fun x=>qsm off n x (fun v=>k v h)):=by
 show evK t x (fun x=>_)↔_
 refine iff_of_eq (congrArg _ (funext fun v=>?_))
 cases v<;>first|rfl|skip
 cases n with
 | none=>exact propext (xn _ _ _)
 | some n=>exact propext drop_take
theorem qqC{len esz:Nat}{x i:O}:opK qy (.iAddrA len esz x i) t h k↔evK t x (fun p=>evK t i (fun i=>unN i (fun i=>ifK (i<len) (evN (i*esz) (fun o=>qgU p o (fun v=>k v h)))))):=by
 show evK t x (fun p=>evK t i (fun i=>unN i (fun i=>qk (Nat.ble (Nat.succ i) len) _)))↔_
 simp only[qa,xP];exact Iff.rfl
def ixK(esz:Nat)(x:AV)(i:Nat)(k:AV->Prop):Prop:=match x with
 | .sl b o len _ _=>ifK (i<len) (evN (o+i*esz) (fun o'=>k (.ptr b o')))
 | .fz len cs=>ifK (i<len) (evN (i*esz) (fun o'=>k (.pf cs o')))
 | .own b len=>ifK (i<len) (evN (i*esz) (fun o'=>k (.ptr b o')))
 | _=>False
@[congr] theorem qBG {esz i:Nat} {x:AV} {k:AV->Prop} {mk:Prop} (_:zc=mk):ixK esz x i k=ixK esz x i k:=rfl
theorem qCZ{esz i b o len cap:Nat}{l:Bool}{k:AV->Prop}:ixK esz (.sl b o len cap l) i k↔ifK (i<len) (evN (o+i*esz) (fun o'=>k (.ptr b o'))):=Iff.rfl
theorem qCY{esz i len:Nat}{cs:List AV}{k:AV->Prop}:ixK esz (.fz len cs) i k↔ifK (i<len) (evN (i*esz) (fun o'=>k (.pf cs o'))):=Iff.rfl
theorem qzu{esz i b len:Nat}{k:AV->Prop}:ixK esz (.own b len) i k↔ifK (i<len) (evN (i*esz) (fun o'=>k (.ptr b o'))):=Iff.rfl
def qkW(x:AV)(p:Prop):Prop:=match x with | .sl _ _ _ _ _=>p | .fz _ _=>p | .own _ _=>p|_=>False
@[congr] theorem qxL {x:AV} {p:Prop} {mk:Prop} (_:zc=mk):qkW x p=qkW x p:=rfl
theorem qsO{b o len cap:Nat}{l:Bool}{p:Prop}:qkW (.sl b o len cap l) p↔p:=Iff.rfl
theorem qsN{len:Nat}{cs:List AV}{p:Prop}:qkW (.fz len cs) p↔p:=Iff.rfl
theorem qqg{b len:Nat}{p:Prop}:qkW (.own b len) p↔p:=Iff.rfl
theorem qqD{esz:Nat}{x i:O}:opK qy (.iAddrS esz x i) t h k↔evK t x (fun x=>qkW x (evK t i (fun i=>unN i (fun i=>ixK esz x i (fun v=>k v h))))):=by
 show evK t x (fun x=>_)↔_
 refine iff_of_eq (congrArg _ (funext fun v=>?_))
 cases v<;>first|rfl|(simp only[qa,xP,xw];rfl)
theorem qwt{len esz:Nat}{agg:Bool}{x i:O}:opK qy (.idxA len esz agg x i) t h k↔evK t x (fun x=>match x with
  | .agg cs=>evK t i (fun i=>unN i (fun i=>ifK (i<len) (evN (i*esz) (fun o=>if agg=true then qew cs o esz (fun l=>k (.agg l) h) else evO cs[o]? (fun v=>k v h)))))
  | _=>False):=by
 show evK t x (fun x=>_)↔_
 refine iff_of_eq (congrArg _ (funext fun v=>?_))
 cases v<;>first|rfl|skip
 simp only[qa,xP,xw,qdT,drop_take];have:∀(cs:List AV) (o:Nat),qgW cs o (fun v=>k v h)=evO cs[o]? (fun v=>k v h):=fun cs o=>propext (xn _ _ _)
 simp only[this];rfl
def evC(o:Option UInt8)(k:UInt8->Prop):Prop:=∃v,o=some v∧k v
@[congr] theorem qBx {o o':Option UInt8} {k:UInt8->Prop} {mk:Prop} (_:zc=mk) (h:o=o'):evC o k=evC o' k:=by rw[h]
theorem qmH{v:UInt8}{k:UInt8->Prop}:evC (some v) k↔k v:=by simp[evC]
theorem qwu{x i:O}:opK qy (.idxS x i) t h k↔evK t x (fun x=>match x with
  | .s a=>evK t i (fun i=>unN i (fun i=>evC a[i]? (fun c=>k (.i .u8 (c.toNat:Int)) h)))
  | _=>False):=by
 show evK t x (fun x=>_)↔_
 refine iff_of_eq (congrArg _ (funext fun v=>?_))
 cases v<;>first|rfl|skip
 rename_i a
 have e:∀(j:Nat),(Option.rec (motive:=fun _=>Prop) False (fun c=>k (.i .u8 (Int.ofNat c.toNat)) h) (a[j]?):Prop)=evC a[j]? (fun c=>k (.i .u8 (c.toNat:Int)) h):=by
  intro j;cases ha:a[j]? with
  | none=>exact propext ⟨False.elim,fun⟨_,h1,_⟩=>by cases h1⟩
  | some c=>exact (propext (qmH (k:=fun c=>k (.i .u8 (c.toNat:Int)) h) (v:=c))).symm
 simp only[e]
def bdK(x:Option AV)(dflt top:Nat)(k:Nat->Prop):Prop:=qga x dflt top k
@[congr] theorem qBn {x:Option AV} {a b:Nat} {k:Nat->Prop} {mk:Prop} (_:zc=mk):bdK x a b k=bdK x a b k:=rfl
theorem qiZ{a b:Nat}{k:Nat->Prop}:bdK none a b k↔k a:=Iff.rfl
theorem qox{v:AV}{a b:Nat}{k:Nat->Prop}:bdK (some v) a b k↔unN v (fun n=>ifK (n<=b) (k n)):=by
 show unN v (fun n=>qk (Nat.ble n b) (qo n k))↔_
 simp only[qa,xP,qt];exact Iff.rfl
theorem qu5{len cap:Nat}{lo:Option AV}{k:Nat->Nat->Nat->Prop}:zO len cap lo none none k↔ifK (len<=cap) (bdK lo 0 len (fun l=>k l len cap)):=by
 show qk (Nat.ble len cap) (qga lo 0 len (fun l=>k l len cap))↔_
 rw[qa,xP];exact Iff.rfl
theorem qoy{len cap:Nat}{lo:Option AV}{hi:AV}{k:Nat->Nat->Nat->Prop}:zO len cap lo (some hi) none k↔unN hi (fun u=>ifK (u<=cap) (bdK lo 0 u (fun l=>k l u cap))):=by
 show unN hi (fun u=>qk (Nat.ble u cap) (qo u (fun u=>qga lo 0 u (fun l=>k l u cap))))↔_
 simp only[qa,xP,qt];exact Iff.rfl
theorem qi2{len cap:Nat}{lo:Option AV}{hi mx:AV}{k:Nat->Nat->Nat->Prop}:zO len cap lo (some hi) (some mx) k↔unN mx (fun m=>ifK (m<=cap) (unN hi (fun u=>ifK (u<=m) (bdK lo 0 u (fun l=>k l u m))))):=by
 show unN mx (fun m=>qk (Nat.ble m cap) (qo m (fun m=>unN hi (fun u=>qk (Nat.ble u m) (qo u (fun u=>qga lo 0 u (fun l=>k l u m)))))))↔_
 simp only[qa,xP,qt];exact Iff.rfl
def slK(esz:Nat)(lo hi mx:Option AV)(x:AV)(h:Hp)(k:AV->Prop):Prop:=match x with
 | .nils=>zO 0 0 lo hi mx (fun _ _ _=>k .nils)
 | .e0=>zO 0 0 lo hi mx (fun _ _ _=>k .e0)
 | .fz n cs=>zO n n lo hi mx (fun l h' m=>if (mx.isSome&&Nat.beq m l)=true then k .e0 else evN (l*esz) (fun o=>evN (h'-l) (fun len'=>evN (len'*esz) (fun z=>qew cs o z (fun l2=>k (.fz len' l2))))))
 | .sl b o len cap loose=>zO len cap lo hi mx (fun l h' m=>evN (if (loose&&mx.isNone)=false∧m=l then o else o+l*esz) (fun o'=>evN (h'-l) (fun len'=>evN (m-l) (fun cap'=>qiQ h b esz (loose&&mx.isNone) (k (.sl b o' len' cap' (loose&&mx.isNone)))))))
 | .own b n=>match mx with
  | none=>if n=0 then zO 0 0 lo hi none (fun _ _ _=>k (.own b 0)) else zO n n lo hi none (fun l h' m=>evN (l*esz) (fun o'=>evN (h'-l) (fun len'=>evN (m-l) (fun cap'=>qiQ h b esz true (k (.sl b o' len' cap' true))))))
  | some u=>if n=0 then zO 0 0 lo hi (some u) (fun _ _ _=>k (.own b 0)) else zO n n lo hi (some u) (fun l h' m=>evN (if m=l then 0 else l*esz) (fun o'=>evN (h'-l) (fun len'=>evN (m-l) (fun cap'=>k (.sl b o' len' cap' false)))))
 | _=>False
@[congr] theorem qBS {esz:Nat} {lo hi mx:Option AV} {x:AV} {k:AV->Prop} {mk:Prop} (_:zc=mk):slK esz lo hi mx x h k=slK esz lo hi mx x h k:=rfl
@[congr] theorem qy7 {b esz:Nat} {c:Bool} {p:Prop} {mk:Prop} (_:zc=mk):qiQ h b esz c p=qiQ h b esz c p:=rfl
theorem qp5{b esz:Nat}{p:Prop}:qiQ h b esz false p↔p:=Iff.rfl
theorem qsc{b esz:Nat}{p:Prop}:qiQ h b esz true p↔evB (h.tr.get b) (fun x=>qaW x (fun e _ _ _=>ifK (e=esz) p)):=by
 show qao h b (fun e _ _ _=>qk (Nat.beq e esz) p)↔_
 rw[qfT];simp only[qa,qeu];exact Iff.rfl
theorem qw5{esz:Nat}{lo hi mx:Option AV}{k:AV->Prop}:slK esz lo hi mx .nils h k↔zO 0 0 lo hi mx (fun _ _ _=>k .nils):=Iff.rfl
theorem qDA{esz:Nat}{lo hi mx:Option AV}{k:AV->Prop}:slK esz lo hi mx .e0 h k↔zO 0 0 lo hi mx (fun _ _ _=>k .e0):=Iff.rfl
theorem qDB{esz n:Nat}{cs:List AV}{lo hi:Option AV}{k:AV->Prop}:slK esz lo hi none (.fz n cs) h k↔zO n n lo hi none (fun l h' _=>evN (l*esz) (fun o=>evN (h'-l) (fun len'=>evN (len'*esz) (fun z=>qew cs o z (fun l2=>k (.fz len' l2)))))):=by
 simp only[slK,Option.isSome_none,Bool.false_and,Bool.false_eq_true,if_false]
theorem qAW{esz b o len cap:Nat}{lo hi mx:Option AV}{k:AV->Prop}:slK esz lo hi mx (.sl b o len cap false) h k↔zO len cap lo hi mx (fun l1 h' m=>evN (if m=l1 then o else o+l1*esz) (fun o'=>evN (h'-l1) (fun len'=>evN (m-l1) (fun cap'=>k (.sl b o' len' cap' false))))):=by
 simp only[slK,Bool.false_and,true_and];exact Iff.rfl
theorem qAX{esz b o len cap:Nat}{lo hi:Option AV}{k:AV->Prop}:slK esz lo hi none (.sl b o len cap true) h k↔zO len cap lo hi none (fun l1 h' m=>evN (o+l1*esz) (fun o'=>evN (h'-l1) (fun len'=>evN (m-l1) (fun cap'=>qiQ h b esz true (k (.sl b o' len' cap' true)))))):=by
 simp only[slK,Option.isNone_none,Bool.and_self,Bool.true_eq_false,false_and,if_false]
theorem qAV{esz b n:Nat}{lo hi:Option AV}{k:AV->Prop}:slK esz lo hi none (.own b n) h k↔if n=0 then zO 0 0 lo hi none (fun _ _ _=>k (.own b 0)) else zO n n lo hi none (fun l h' m=>evN (l*esz) (fun o'=>evN (h'-l) (fun len'=>evN (m-l) (fun cap'=>qiQ h b esz true (k (.sl b o' len' cap' true)))))):=by
 exact Iff.rfl
theorem qwx{esz:Nat}{x:O}{lo hi mx:Option O}:opK qy (.slcS esz x lo hi mx) t h k↔evK t x (fun x=>qaQ t lo (fun lo=>qaQ t hi (fun hi=>qaQ t mx (fun mx=>slK esz lo hi mx x h (fun v=>k v h))))):=by
 show evK t x (fun x=>_)↔_
 refine iff_of_eq (congrArg _ (funext fun v=>congrArg _ (funext fun lo=>congrArg _ (funext fun hi=>congrArg _ (funext fun mx=>?_)))))
 cases v<;>first|rfl|skip
 ·simp only[slK,xw];rfl
 ·have e:∀(cs:List AV) (o m:Nat),qbY o cs (fun l1=>evN m (fun len'=>qbg (Nat.mul len' esz) l1 (fun l2=>k (.fz len' l2) h)))=evN m (fun len'=>evN (len'*esz) (fun z=>qew cs o z (fun l2=>k (.fz len' l2) h))):=by
   intro cs o m;refine propext ⟨fun hh=>?_,fun hh=>?_⟩
   ·obtain⟨h1,h2⟩:=(zo _ _ _).1 hh;obtain⟨h3,h4⟩:=(qY _ _ _).1 h2;exact⟨h1,h3,h4⟩
   ·obtain⟨h1,h3,h4⟩:=hh;exact (zo _ _ _).2 ⟨h1,(qY _ _ _).2 ⟨h3,h4⟩⟩
  simp only[slK,xw,qdT,e];rfl
 ·rename_i b n;cases mx with
  | some m =>
   cases n with
   | zero=>simp only[slK,if_true];rfl
   | succ n=>simp only[slK,Nat.succ_ne_zero,if_false,xw];rfl
  | none =>
   cases n with
   | zero=>simp only[slK,if_true];rfl
   | succ n=>simp only[slK,Nat.succ_ne_zero,if_false,xw];rfl
theorem qqG{x:O}{lo hi:Option O}:opK qy (.slcStr x lo hi) t h k↔evK t x (fun x=>qaQ t lo (fun lo=>qaQ t hi (fun hi=>match x with
  | .s a=>zO a.length a.length lo hi none (fun l h' _=>evA (.s ((a.take h').drop l)) (fun v=>k v h))
  | _=>False))):=Iff.rfl
theorem qww{len esz:Nat}{x:O}{lo hi mx:Option O}:opK qy (.slcA len esz x lo hi mx) t h k↔evK t x (fun p=>unP p (fun b o=>qaQ t lo (fun lo=>qaQ t hi (fun hi=>qaQ t mx (fun mx =>
   zO len len lo hi mx (fun l h' m=>evN (if m=l then o else o+l*esz) (fun o'=>evN (h'-l) (fun len'=>evN (m-l) (fun cap'=>k (.sl b o' len' cap' false) h))))))))):=by
 show evK t x (fun p=>unP p (fun b o=>qaQ t lo (fun lo=>qaQ t hi (fun hi=>qaQ t mx (fun mx=>zO len len lo hi mx (fun l h' m=>qo (if m=l then o else Nat.add o (Nat.mul l esz)) _))))))↔_
 simp only[xw];exact Iff.rfl
theorem qAj{x:O}{i:Nat}:opK qy (.ext x i) t h k↔evK t x (fun x=>match x with | .tup cs=>evO cs[i]? (fun v=>k v h)|_=>False):=by
 show evK t x (fun x=>_)↔_
 refine iff_of_eq (congrArg _ (funext fun v=>?_))
 cases v<;>first|rfl|exact propext (xn _ _ _)
theorem qAo{f:Nat}{a c:List O}:opK qy (.mkF f a c) t h k↔qan t a (fun a=>qan t c (fun c=>k (.fn f a c) h)):=Iff.rfl
theorem qAq{e bytes:Nat}{z:List AV}{len cap:O}:opK qy (.mkS e bytes z len cap) t h k↔evK t len (fun len=>evK t cap (fun cap=>unN len (fun l=>unN cap (fun c=>ifK (l<=c) (ifK (c<=qg) (ifK (bytes*c<=qg) (evL (List.replicate c z).flatten (fun cs=>xJ h (.cells 0 true false cs) (fun b h'=>k (.sl b 0 l c false) h'))))))))):=by
 show evK t len (fun len=>evK t cap (fun cap=>unN len (fun l=>unN cap (fun c=>qk (Nat.ble l c) (qk (Nat.ble c qg) (qk (Nat.ble (Nat.mul bytes c) qg) (qhR z c _)))))))↔_
 simp only[qa,xP,jC];exact Iff.rfl
def lnK(str:Bool)(x:AV)(k:AV->Prop):Prop:=match x,str with
 | .nils,false=>k (.i .i64 0)
 | .e0,false=>k (.i .i64 0)
 | .nz,false=>k (.i .i64 0)
 | .fz n _,false=>evA (.i .i64 (n:Int)) k
 | .own _ n,false=>evA (.i .i64 (n:Int)) k
 | .sl _ _ n _ _,false=>evA (.i .i64 (n:Int)) k
 | .s a,true=>evA (.i .i64 (a.length:Int)) k
 | _,_=>False
@[congr] theorem qBK {b:Bool} {x:AV} {k:AV->Prop} {mk:Prop} (_:zc=mk):lnK b x k=lnK b x k:=rfl
theorem qAl{str:Bool}{x:O}:opK qy (.len str x) t h k↔evK t x (fun x=>lnK str x (fun v=>k v h)):=by
 show evK t x (fun x=>_)↔_
 refine iff_of_eq (congrArg _ (funext fun v=>?_))
 cases v<;>cases str<;>first|rfl|exact qt _ _
theorem qv8{k:AV->Prop}:lnK false .nils k↔k (.i .i64 0):=Iff.rfl
theorem qC9{k:AV->Prop}:lnK false .nz k↔k (.i .i64 0):=Iff.rfl
theorem qC7{k:AV->Prop}:lnK false .e0 k↔k (.i .i64 0):=Iff.rfl
theorem qC8{n:Nat}{cs:List AV}{k:AV->Prop}:lnK false (.fz n cs) k↔evA (.i .i64 (n:Int)) k:=Iff.rfl
theorem qzF{b n:Nat}{k:AV->Prop}:lnK false (.own b n) k↔evA (.i .i64 (n:Int)) k:=Iff.rfl
theorem qDa{b o n c:Nat}{l:Bool}{k:AV->Prop}:lnK false (.sl b o n c l) k↔evA (.i .i64 (n:Int)) k:=Iff.rfl
theorem qEu{a:List UInt8}{k:AV->Prop}:lnK true (.s a) k↔evA (.i .i64 (a.length:Int)) k:=Iff.rfl
theorem qAb{esz bytes:Nat}{c:Bool}{s x:O}:opK qy (.app esz bytes c s x) t h k↔evK t s (fun s=>evK t x (fun x=>qe5 h esz bytes c s x k)):=Iff.rfl
theorem qwq{esz bytes:Nat}{s x:O}:opK qy (.appF esz bytes s x) t h k↔evK t s (fun s=>evK t x (fun x=>qe5 h esz bytes true s x k)):=Iff.rfl
def qnR(esz bytes:Nat)(z:List AV)(h:Hp)(s:AV)(n:Nat)(k:AV->Hp->Prop):Prop:=match s with
  | .sl b o len cap false=>evN (len+n) (fun need=>ifK (cap<need) (ifK (need<=qg) (ifK (need*bytes<=qg) (evN (len*esz) (fun m=>qbP h b o m (fun old=>evL (old++(List.replicate n z).flatten) (fun cs=>xJ h (.cells esz true true cs) (fun b' h'=>k (.own b' need) h'))))))))
  | .nils=>ifK (1<=n) (ifK (n<=qg) (ifK (n*bytes<=qg) (evL ((List.replicate n z).flatten) (fun cs=>xJ h (.cells esz true true cs) (fun b' h'=>k (.own b' n) h')))))
  | _=>False
@[congr] theorem qyt {esz bytes n:Nat} {z:List AV} {s:AV} {mk:Prop} (_:zc=mk):qnR esz bytes z h s n k=qnR esz bytes z h s n k:=rfl
theorem qyu{esz bytes b o len cap n:Nat}{z:List AV}:qnR esz bytes z h (.sl b o len cap false) n k↔evN (len+n) (fun need=>ifK (cap<need) (ifK (need<=qg) (ifK (need*bytes<=qg) (evN (len*esz) (fun m=>qbP h b o m (fun old=>evL (old++(List.replicate n z).flatten) (fun cs=>xJ h (.cells esz true true cs) (fun b' h'=>k (.own b' need) h')))))))):=Iff.rfl
theorem qrg{esz bytes n:Nat}{z:List AV}:qnR esz bytes z h .nils n k↔ifK (1<=n) (ifK (n<=qg) (ifK (n*bytes<=qg) (evL ((List.replicate n z).flatten) (fun cs=>xJ h (.cells esz true true cs) (fun b' h'=>k (.own b' n) h'))))):=Iff.rfl
theorem qwr{esz bytes:Nat}{z:List AV}{s x:O}:opK qy (.appZ esz bytes z s x) t h k↔evK t s (fun s=>evK t x (fun x=>unN x (fun n=>qnR esz bytes z h s n k))):=by
 show evK t s (fun s=>evK t x (fun x=>unN x (fun n=>_)))↔_
 refine iff_of_eq (congrArg _ (funext fun v=>congrArg _ (funext fun x=>congrArg _ (funext fun n=>propext ?_))))
 cases v<;>first|exact Iff.rfl|skip
 ·simp only[qnR,qa,xP,jC,ifK,evL];rfl
 rename_i b o len cap loose;cases loose with
 | true=>exact⟨fun hh=>absurd ((qa (!true) _).1 hh).1 (by simp),False.elim⟩
 | false =>
  simp only[qnR,qa,xP,jC,x7,Bool.not_false,true_and,evN,ifK,evL];rfl
theorem qws{esz:Nat}{s x:O}:opK qy (.copy esz s x) t h k↔evK t s (fun s=>evK t x (fun x=>qiw h esz s x k)):=Iff.rfl
theorem qpZ{esz:Nat}{s:AV}:qiw h esz .nils s k↔qbx h esz s (fun _ _=>k (.i .i64 0) h):=Iff.rfl
theorem qvp{esz b o len c:Nat}{l:Bool}{s:AV}:qiw h esz (.sl b o len c l) s k↔qbx h esz s (fun n new=>evN (min n len) (fun m=>evN (m*esz) (fun z=>qew new 0 z (fun cs=>stK h b o cs (fun h'=>evA (.i .i64 (m:Int)) (fun v=>k v h')))))):=by
 show qbx h esz s (fun n new=>qo (min n len) (fun m=>qbg (Nat.mul m esz) new (fun cs=>stK h b o cs (fun h'=>k (.i .i64 (Int.ofNat m)) h'))))↔_
 simp only[xw];refine iff_of_eq (congrArg _ (funext fun n=>funext fun new=>congrArg _ (funext fun m=>propext ?_)))
 exact (qY _ _ _).trans ⟨fun hh=>⟨Nat.zero_le _,by simpa[evA] using hh⟩,fun hh=>by simpa[evN,qew,evA] using hh⟩
theorem qAn{x y:O}:opK qy (.min x y) t h k↔evK t x (fun x=>evK t y (fun y=>unI x (fun q n=>unI y (fun _ m=>evA (.i q (if m<n then m else n)) (fun v=>k v h))))):=by
 have e:∀(q:IntKind) (n m:Int),(Bool.rec (motive:=fun _=>Prop) (k (.i q n) h) (k (.i q m) h) (ltI m n):Prop)=evA (.i q (if m<n then m else n)) (fun v=>k v h):=by
  intro q n m;rw[qcn]
  by_cases hlt:m<n
  ·rw[decide_eq_true hlt,if_pos hlt];rfl
  ·rw[decide_eq_false hlt,if_neg hlt];rfl
 show evK t x (fun x=>evK t y (fun y=>unI x (fun q n=>unI y (fun _ m=>Bool.rec (motive:=fun _=>Prop) (k (.i q n) h) (k (.i q m) h) (ltI m n)))))↔_
 simp only[e]
theorem qAm{x y:O}:opK qy (.max x y) t h k↔evK t x (fun x=>evK t y (fun y=>unI x (fun q n=>unI y (fun _ m=>evA (.i q (if n<m then m else n)) (fun v=>k v h))))):=by
 have e:∀(q:IntKind) (n m:Int),(Bool.rec (motive:=fun _=>Prop) (k (.i q n) h) (k (.i q m) h) (ltI n m):Prop)=evA (.i q (if n<m then m else n)) (fun v=>k v h):=by
  intro q n m;rw[qcn]
  by_cases hlt:n<m
  ·rw[decide_eq_true hlt,if_pos hlt];rfl
  ·rw[decide_eq_false hlt,if_neg hlt];rfl
 show evK t x (fun x=>evK t y (fun y=>unI x (fun q n=>unI y (fun _ m=>Bool.rec (motive:=fun _=>Prop) (k (.i q n) h) (k (.i q m) h) (ltI n m)))))↔_
 simp only[e]
def qnZ(z:List AV)(x:AV)(h:Hp)(k:AV->Hp->Prop):Prop:=match x with
  | .nils=>k (.tup []) h
  | .sl b o n _ _=>if n=0 then k (.tup []) h else evL (List.replicate n z).flatten (fun cs=>stK h b o cs (fun h'=>k (.tup []) h'))
  | _=>False
@[congr] theorem qyT {z:List AV} {x:AV} {mk:Prop} (_:zc=mk):qnZ z x h k=qnZ z x h k:=rfl
theorem qrT{z:List AV}:qnZ z .nils h k↔k (.tup []) h:=Iff.rfl
theorem qyU{z:List AV}{b o n c:Nat}{l:Bool}:qnZ z (.sl b o n c l) h k↔if n=0 then k (.tup []) h else evL (List.replicate n z).flatten (fun cs=>stK h b o cs (fun h'=>k (.tup []) h')):=Iff.rfl
theorem qtz{z:List AV}{x:O}:opK qy (.clear z x) t h k↔evK t x (fun x=>qnZ z x h k):=by
 show evK t x (fun x=>_)↔_
 refine iff_of_eq (congrArg _ (funext fun v=>?_))
 cases v<;>first|rfl|skip
 rename_i b o n c l;cases n with
 | zero=>simp only[qnZ,if_true];rfl
 | succ n=>simp only[qnZ,jC];rfl
theorem qAp:opK qy .mkM t h k↔xJ h (.map []) (fun b h'=>k (.map b) h'):=Iff.rfl
theorem qqH{n:Nat}{x v:O}{ps:List Nat}:opK qy (.storeD n x v ps) t h k↔evK t x (fun p=>unP p (fun b o=>xA t b ps (evK t v (fun v=>stV h b o v n (fun h'=>k .undef h'))))):=Iff.rfl
theorem qwp{esz bytes:Nat}{s x:O}{ps:List Nat}:opK qy (.appD esz bytes s x ps) t h k↔evK t s (fun s=>evK t x (fun x=>qa6 t ps s (qe5 h esz bytes true s x k))):=Iff.rfl
@[congr] theorem qwY {ps:List Nat} {s s':AV} {p:Prop} {mk:Prop} (_:zc=mk) (h':s=s'):qa6 t ps s p=qa6 t ps s' p:=by rw[h']
theorem qwZ{ps:List Nat}{b m:Nat}{p:Prop}:qa6 t ps (.own b m) p↔xA t b ps p:=Iff.rfl
theorem qAR{ps:List Nat}{b o m c:Nat}{l:Bool}{p:Prop}:qa6 t ps (.sl b o m c l) p↔xA t b ps p:=Iff.rfl
theorem qAQ{ps:List Nat}{m:Nat}{cs:List AV}{p:Prop}:qa6 t ps (.fz m cs) p↔p:=Iff.rfl
theorem qub{ps:List Nat}{p:Prop}:qa6 t ps .nils p↔p:=Iff.rfl
theorem qAP{ps:List Nat}{p:Prop}:qa6 t ps .e0 p↔p:=Iff.rfl
@[congr] theorem quL {b:Nat} {ps:List Nat} {p:Prop} {mk:Prop} (_:zc=mk):xA t b ps p=xA t b ps p:=rfl
theorem qpG{b:Nat}{p:Prop}:xA t b [] p↔p:=Iff.rfl
def neK(b:Nat)(y:AV)(p:Prop):Prop:=match y with | .ptr b' _=>ifK (¬b'=b) p | .pf _ _=>p|_=>False
@[congr] theorem qBO {b:Nat} {y:AV} {p:Prop} {mk:Prop} (_:zc=mk):neK b y p=neK b y p:=rfl
theorem qzO{b b' o:Nat}{p:Prop}:neK b (.ptr b' o) p↔ifK (¬b'=b) p:=Iff.rfl
theorem qDd{b o:Nat}{cs:List AV}{p:Prop}:neK b (.pf cs o) p↔p:=Iff.rfl
theorem qnN{b q:Nat}{ps:List Nat}{p:Prop}:xA t b (q::ps) p↔evO (t.get q) (fun y=>neK b y (xA t b ps p)):=by
 refine (Tr.getK_iff _ _ _).trans (iff_of_eq (congrArg _ (funext fun v=>?_)))
 refine congrArg _ ?_;cases v<;>first|rfl|skip
 rename_i b' o;refine propext ((qa _ _).trans ?_);show _∧_↔_∧_
 have:(!Nat.beq b' b)=true↔¬b'=b:=by
  rw[Bool.not_eq_true',← Bool.not_eq_true,qeu]
 rw[this];exact Iff.rfl
def cpK(x:AV)(k:AV->Prop):Prop:=match x with
  | .nils=>k (.i .i64 0)
  | .e0=>k (.i .i64 0)
  | .sl _ _ _ c false=>evA (.i .i64 (c:Int)) k
  | _=>False
@[congr] theorem qBr {x:AV} {k:AV->Prop} {mk:Prop} (_:zc=mk):cpK x k=cpK x k:=rfl
theorem qAf{x:O}:opK qy (.cap x) t h k↔evK t x (fun x=>cpK x (fun v=>k v h)):=by
 show evK t x (fun x=>_)↔_
 refine iff_of_eq (congrArg _ (funext fun v=>?_))
 cases v<;>first|rfl|skip
 rename_i l;cases l<;>rfl
theorem qvq{k:AV->Prop}:cpK .nils k↔k (.i .i64 0):=Iff.rfl
theorem qCF{k:AV->Prop}:cpK .e0 k↔k (.i .i64 0):=Iff.rfl
theorem qCG{b o n c:Nat}{k:AV->Prop}:cpK (.sl b o n c false) k↔evA (.i .i64 (c:Int)) k:=Iff.rfl
theorem qsi{l:List AV}{k:List AV->Prop}:qai t [] l k↔k l:=Iff.rfl
theorem qp8{off m:Nat}{x:O}{ps:List (Nat×Nat×O)}{l:List AV}{k:List AV->Prop}:qai t ((off,m,x)::ps) l k↔evK t x (fun v=>ifK (qcg v=true) (evL (cellsOf v) (fun cs=>ifK (cs.length=m∧off+cs.length<=l.length) (evL (l.take off++(cs++l.drop (off+cs.length))) (fun l=>qai t ps l k))))):=by
 show evK t x (fun v=>qk (qcg v) (qo off (fun off=>qgb (cellsOf v) (fun n=>qk (Nat.beq n m) (xR (cellsOf v) off l (fun l'=>qai t ps l' k))))))↔_
 simp only[qa,qt,jg,xS,qeu,ifK,evL,and_assoc]
theorem quh{esz:Nat}{k:Nat->List AV->Prop}:qbx h esz .nils k↔k 0 []:=Iff.rfl
theorem qA2{esz:Nat}{k:Nat->List AV->Prop}:qbx h esz .nz k↔k 0 []:=Iff.rfl
theorem qA0{esz:Nat}{k:Nat->List AV->Prop}:qbx h esz .e0 k↔k 0 []:=Iff.rfl
theorem qA3{esz b o n c:Nat}{l:Bool}{k:Nat->List AV->Prop}:qbx h esz (.sl b o n c l) k↔evN (n*esz) (fun m=>qbP h b o m (fun cs=>k n cs)):=Iff.rfl
theorem qw8{esz b n:Nat}{k:Nat->List AV->Prop}:qbx h esz (.own b n) k↔evN (n*esz) (fun m=>qbP h b 0 m (fun cs=>k n cs)):=Iff.rfl
theorem qA1{esz n:Nat}{cs:List AV}{k:Nat->List AV->Prop}:qbx h esz (.fz n cs) k↔evN (n*esz) (fun m=>qew cs 0 m (fun cs=>k n cs)):=by
 refine (qY _ _ _).trans ⟨fun hh=>⟨Nat.zero_le _,by simpa using hh⟩,fun hh=>by simpa[evN,qew] using hh⟩
theorem qDC{esz:Nat}{a:List UInt8}{k:Nat->List AV->Prop}:qbx h esz (.s a) k↔ifK (esz=1) (k a.length (a.map fun c=>.i .u8 (Int.ofNat c.toNat))):=by
 show qk (Nat.beq esz 1) (qo a.length _)↔_;rw[qa,qeu,qt];exact Iff.rfl
theorem qrf{esz bytes:Nat}{c:Bool}{x:AV}:qe5 h esz bytes c .nils x k↔qbx h esz x (fun n new=>ifK (n<=qg) (ifK (n*bytes<=qg) (xJ h (.cells esz true true new) (fun b h'=>k (.own b n) h')))):=by
 show qbx h esz x (fun n new=>qk (Nat.ble n qg) (qk (Nat.ble (Nat.mul n bytes) qg) _))↔_
 simp only[qa,xP];exact Iff.rfl
theorem qyq{esz bytes:Nat}{c:Bool}{x:AV}:qe5 h esz bytes c .e0 x k↔qbx h esz x (fun n new=>ifK (n<=qg) (ifK (n*bytes<=qg) (xJ h (.cells esz true true new) (fun b h'=>k (.own b n) h')))):=by
 show qbx h esz x (fun n new=>qk (Nat.ble n qg) (qk (Nat.ble (Nat.mul n bytes) qg) _))↔_
 simp only[qa,xP];exact Iff.rfl
theorem quN{esz bytes b m:Nat}{x:AV}:qe5 h esz bytes true (.own b m) x k↔qbx h esz x (fun n new=>evN (m+n) (fun need=>ifK (need<=qg) (ifK (need*bytes<=qg) (evB (h.tr.get b) (fun y=>qaW y (fun e w a ys =>
  ifK (qE new=true∧w=true∧a=true∧e=esz∧ys.length=m*esz) (evL (ys++new) (fun cs'=>qav h b .dead (fun h1=>xJ h1 (.cells esz true true cs') (fun b' h'=>k (.own b' need) h')))))))))):=by
 show qbx h esz x (fun n new=>qo (Nat.add m n) (fun need=>qk (Nat.ble need qg) (qk (Nat.ble (Nat.mul need bytes) qg) (qao h b (fun e w a ys=>_)))))↔_
 simp only[xw,qa,xP,qeu,qfT,jg,x7];refine iff_of_eq (congrArg _ (funext fun n=>funext fun new=>?_))
 simp only[ifK,evN,evL,and_assoc];rfl
theorem qys{esz bytes b o len cap:Nat}{c:Bool}{x:AV}:qe5 h esz bytes c (.sl b o len cap false) x k↔qbx h esz x (fun n new=>evN (len+n) (fun need=>if need<=cap then
  (if n=0 then k (.sl b o need cap false) h else evN (o+len*esz) (fun at_=>stK h b at_ new (fun h'=>k (.sl b o need cap false) h')))
  else ifK (need<=qg) (ifK (need*bytes<=qg) (evN (len*esz) (fun m=>qbP h b o m (fun old=>evL (old++new) (fun cs=>xJ h (.cells esz true true cs) (fun b' h'=>k (.own b' need) h')))))))):=by
 have e:∀(n:Nat) (p q:Prop),(Nat.rec (motive:=fun _=>Prop) p (fun _ _=>q) n:Prop)↔if n=0 then p else q:=by
  intro n p q;cases n with
  | zero=>rw[if_pos rfl];exact Iff.rfl
  | succ n=>rw[if_neg (Nat.succ_ne_zero n)]
 unfold qe5;dsimp only;simp only[Bool.not_false,xw,qpw,xP,qdT,x7,e,qm1];exact Iff.rfl
theorem qyr{esz bytes m:Nat}{c:Bool}{cs:List AV}{x:AV}:qe5 h esz bytes c (.fz m cs) x k↔qbx h esz x (fun n _=>ifK (n=0) (k (.fz m cs) h)):=by
 show qbx h esz x (fun n _=>Nat.rec (motive:=fun _=>Prop) (k (.fz m cs) h) (fun _ _=>False) n)↔_
 refine iff_of_eq (congrArg _ (funext fun n=>funext fun new=>?_))
 cases n<;>simp[ifK];rfl
theorem qto{k:Bool->Prop}:xM .ptr .nilp k↔k true:=Iff.rfl
theorem qwe{b o:Nat}{k:Bool->Prop}:xM .ptr (.ptr b o) k↔k false:=Iff.rfl
theorem qzV{cs:List AV}{o:Nat}{k:Bool->Prop}:xM .ptr (.pf cs o) k↔k false:=Iff.rfl
theorem qzU{k:Bool->Prop}:xM .slice .nz k↔k false:=Iff.rfl
theorem qtp{k:Bool->Prop}:xM .slice .nils k↔k true:=Iff.rfl
theorem qzW{b o n c:Nat}{l:Bool}{k:Bool->Prop}:xM .slice (.sl b o n c l) k↔k false:=Iff.rfl
theorem qzT{n:Nat}{cs:List AV}{k:Bool->Prop}:xM .slice (.fz n cs) k↔ifK (1<=n) (k false):=by
 show qk (Nat.ble 1 n) (k false)↔_;rw[qa,xP];exact Iff.rfl
theorem qwd{b n:Nat}{k:Bool->Prop}:xM .slice (.own b n) k↔ifK (1<=n) (k false):=by
 show qk (Nat.ble 1 n) (k false)↔_;rw[qa,xP];exact Iff.rfl
theorem qtm{k:Bool->Prop}:xM .func .nilf k↔k true:=Iff.rfl
theorem qzS{f:Nat}{a c:List AV}{k:Bool->Prop}:xM .func (.fn f a c) k↔k false:=Iff.rfl
theorem qtn{k:Bool->Prop}:xM .iface .nili k↔k true:=Iff.rfl
theorem qwc{t:Nat}{v:AV}{k:Bool->Prop}:xM .iface (.ifc t v) k↔k false:=Iff.rfl
theorem qvw{x y:List AV}{k:Bool->Prop}:x8 [] x y k↔k true:=Iff.rfl
theorem qsa{q:PK}{qs:List PK}{u v:AV}{us vs:List AV}{k:Bool->Prop}:x8 (q::qs) (u::us) (v::vs) k↔jl q u v (fun e=>if e=true then x8 qs us vs k else k false):=by
 show jl q u v (fun e=>Bool.rec (motive:=fun _=>Prop) (k false) (x8 qs us vs k) e)↔_
 simp only[qdT]
@[congr] theorem quE {q:PK} {x y:AV} {k:Bool->Prop} {mk:Prop} (_:zc=mk):jl q x y k=jl q x y k:=rfl
theorem qEl{q:IntKind}{n m:Int}{k:Bool->Prop}:jl .i (.i q n) (.i q m) k↔evT (decide (n=m)) k:=by
 show qk (decide (q=q)) (qL (eqI n m) k)↔_;rw[qa,qjA,qz];simp[evT]
theorem qEm{a c:List UInt8}{k:Bool->Prop}:jl .s (.s a) (.s c) k↔evT (decide (a=c)) k:=by
 show qL (eqS a c) k↔_;rw[qz,qbG,show (a==c)=decide (a=c) from by rw[Bool.eq_iff_iff];simp];exact Iff.rfl
theorem qEk{a c:Bool}{k:Bool->Prop}:jl .b (.b a) (.b c) k↔evT (a==c) k:=by
 show qL (a==c) k↔_;rw[qz];exact Iff.rfl
theorem qr6{rs:List RV}{k:AV->Hp->Prop}:qac rs k .ret t h↔qdU t h rs (fun vs=>k (qeg vs) h):=Iff.rfl
theorem qmG{rs:List RV}{k:AV->Hp->Prop}:qac rs k .normal t h↔qdU t h rs (fun vs=>k (qeg vs) h):=Iff.rfl
@[congr] theorem qAK {rs:List RV} {k:List AV->Prop} {mk:Prop} (_:zc=mk):qdU t h rs k=qdU t h rs k:=rfl
theorem qwV{k:List AV->Prop}:qdU t h [] k↔k []:=Iff.rfl
theorem qwW{n:Nat}{rs:List RV}{k:List AV->Prop}:qdU t h (.tmp n::rs) k↔evO (t.get n) (fun v=>qdU t h rs (fun vs=>k (v::vs))):=Tr.getK_iff _ _ _
theorem qt4{n size:Nat}{agg:Bool}{rs:List RV}{k:List AV->Prop}:qdU t h (.cell n size agg::rs) k↔evO (t.get n) (fun v=>unP v (fun b o=>if agg=true then qbP h b o size (fun cs=>qdU t h rs (fun vs=>k (.agg cs::vs))) else ldK h b o (fun v=>qdU t h rs (fun vs=>k (v::vs))))):=by
 refine (Tr.getK_iff _ _ _).trans (iff_of_eq (congrArg _ (funext fun v=>congrArg _ ?_)))
 cases v<;>first|rfl|skip
 cases agg<;>rfl
end Go.Kc
end
section
namespace Go.Kc
variable {P:Program} {n:Nat} {t:Tr AV} {h:Hp} {k:AV->Hp->Prop}

section
variable {r:Nat->Nat} {m:Nat} {v v':AV} {vs vs':List AV}
theorem qtt:NV r m v .undef↔True:=iff_true_intro (.undef _)
theorem qEx{x y:Bool}:NV r m (.b x) (.b y)↔x=y:=⟨fun h=>by cases h;rfl,fun h=>by subst h;exact .clo _ rfl⟩
theorem qEy{q q':IntKind}{x y:Int}:NV r m (.i q x) (.i q' y)↔q=q'∧x=y:=⟨fun h=>by cases h;exact⟨rfl,rfl⟩,fun⟨h,h'⟩=>by subst h h';exact .clo _ rfl⟩
theorem qEz{x y:List UInt8}:NV r m (.s x) (.s y)↔x=y:=⟨fun h=>by cases h;rfl,fun h=>by subst h;exact .clo _ rfl⟩
theorem qwj:NV r m .nilp .nilp↔True:=iff_true_intro (.clo _ rfl)
theorem qwk:NV r m .nils .nils↔True:=iff_true_intro (.clo _ rfl)
theorem qwg:NV r m .nilf .nilf↔True:=iff_true_intro (.clo _ rfl)
theorem qwh:NV r m .nili .nili↔True:=iff_true_intro (.clo _ rfl)
theorem qwi:NV r m .nilm .nilm↔True:=iff_true_intro (.clo _ rfl)
theorem qDh:NV r m .e0 .e0↔True:=iff_true_intro (.clo _ rfl)
theorem qDk:NV r m .nz .nz↔True:=iff_true_intro (.clo _ rfl)
theorem qz1{x:Nat}{cs:List AV}:NV r m .e0 (.fz x cs)↔x=0∧cs=[]:=⟨fun h=>by cases h;exact⟨rfl,rfl⟩,fun⟨h,h'⟩=>by subst h h';exact .e0z⟩
theorem qts{b' x':Nat}:NV r m .e0 (.own b' x')↔b'<m∧x'=0:=⟨fun h=>by
  cases h with
  | e0own _ h1=>exact⟨h1,rfl⟩,fun⟨h1,h2⟩=>by subst h2;exact .e0own _ h1⟩
theorem qz6{b b' o x c x':Nat}{l:Bool}:NV r m (.sl b o x c l) (.own b' x')↔b'<m∧x=0∧c=0∧l=false∧x'=0:=⟨fun h=>by
  cases h with
  | slz _ _ _ h1=>exact⟨h1,rfl,rfl,rfl,rfl⟩,fun⟨h1,h2,h3,h4,h5⟩=>by subst h2 h3 h4 h5;exact .slz _ _ _ h1⟩
theorem qDj{x y:Nat}{cs ds:List AV}:NV r m (.fz x cs) (.fz y ds)↔x=y∧cs=ds:=⟨fun h=>by cases h;exact⟨rfl,rfl⟩,fun⟨h,h'⟩=>by subst h h';exact .clo _ rfl⟩
theorem qDl{x y:Nat}{cs ds:List AV}:NV r m (.pf cs x) (.pf ds y)↔cs=ds∧x=y:=⟨fun h=>by cases h;exact⟨rfl,rfl⟩,fun⟨h,h'⟩=>by subst h h';exact .clo _ rfl⟩
theorem qwl{x:Nat}{cs:List AV}:NV r m .nils (.fz x cs)↔x=0∧cs=[]:=⟨fun h=>by cases h;exact⟨rfl,rfl⟩,fun⟨h,h'⟩=>by subst h h';exact .nilz⟩
theorem qz5{b b' o o':Nat}:NV r m (.ptr b o) (.ptr b' o')↔r b'=b∧b'<m∧o=o':=⟨fun h=>by
  cases h with
  | clo _ hc=>cases hc
  | ptr _ _ _ h1 h2=>exact⟨h1,h2,rfl⟩,fun⟨h1,h2,h3⟩=>by subst h3;exact .ptr _ _ _ h1 h2⟩
theorem qDm{b b' o o' x x' c c':Nat}{l l':Bool}:NV r m (.sl b o x c l) (.sl b' o' x' c' l')↔r b'=b∧b'<m∧o=o'∧x=x'∧c=c'∧l=l':=⟨fun h=>by
  cases h with
  | clo _ hc=>cases hc
  | sl _ _ _ _ _ _ h1 h2=>exact⟨h1,h2,rfl,rfl,rfl,rfl⟩,fun⟨h1,h2,h3,h4,h5,h6⟩=>by subst h3 h4 h5 h6;exact .sl _ _ _ _ _ _ h1 h2⟩
theorem qz4{b b' x x':Nat}:NV r m (.own b x) (.own b' x')↔r b'=b∧b'<m∧x=x':=⟨fun h=>by
  cases h with
  | clo _ hc=>cases hc
  | own _ _ _ h1 h2=>exact⟨h1,h2,rfl⟩,fun⟨h1,h2,h3⟩=>by subst h3;exact .own _ _ _ h1 h2⟩
theorem qqA{b' x':Nat}:NV r m .nils (.own b' x')↔b'<m∧x'=0:=⟨fun h=>by
  cases h with
  | nilown _ h1=>exact⟨h1,rfl⟩,fun⟨h1,h2⟩=>by subst h2;exact .nilown _ h1⟩
theorem qz3{b b':Nat}:NV r m (.map b) (.map b')↔r b'=b∧b'<m:=⟨fun h=>by
  cases h with
  | clo _ hc=>cases hc
  | map _ _ h1 h2=>exact⟨h1,h2⟩,fun⟨h1,h2⟩=>.map _ _ h1 h2⟩
theorem qDn{b b':Nat}:NV r m (.yl b) (.yl b')↔r b'=b∧b'<m:=⟨fun h=>by
  cases h with
  | clo _ hc=>cases hc
  | yl _ _ h1 h2=>exact⟨h1,h2⟩,fun⟨h1,h2⟩=>.yl _ _ h1 h2⟩
theorem qwm:NVs r m [] []↔True:=iff_true_intro .nil
theorem qtu:NVs r m (v::vs) (v'::vs')↔NV r m v v'∧NVs r m vs vs':=⟨fun h=>by
  cases h with
  | cons _ _ _ _ h1 h2=>exact⟨h1,h2⟩,fun h=>.cons _ _ _ _ h.1 h.2⟩
theorem qz0{cs cs':List AV}:NV r m (.agg cs) (.agg cs')↔NVs r m cs cs':=⟨fun h=>by
  cases h with
  | clo _ hc=>exact NVs.refl (by simpa[clo] using hc)
  | agg _ _ h1=>exact h1,fun h=>.agg _ _ h⟩
theorem qz7{cs cs':List AV}:NV r m (.tup cs) (.tup cs')↔NVs r m cs cs':=⟨fun h=>by
  cases h with
  | clo _ hc=>exact NVs.refl (by simpa[clo] using hc)
  | tup _ _ h1=>exact h1,fun h=>.tup _ _ h⟩
theorem qDi{f f':Nat}{a a' c c':List AV}:NV r m (.fn f a c) (.fn f' a' c')↔f=f'∧NVs r m a a'∧NVs r m c c':=⟨fun h=>by
  cases h with
  | clo _ hc =>
   simp only[clo,Bool.and_eq_true] at hc;exact⟨rfl,NVs.refl hc.1,NVs.refl hc.2⟩
  | fn _ _ _ _ _ h1 h2=>exact⟨rfl,h1,h2⟩,fun⟨h1,h2,h3⟩=>by subst h1;exact .fn _ _ _ _ _ h2 h3⟩
theorem qz2{f f':Nat}:NV r m (.ifc f v) (.ifc f' v')↔f=f'∧NV r m v v':=⟨fun h=>by
  cases h with
  | clo _ hc=>exact⟨rfl,.clo _ (by simpa[clo] using hc)⟩
  | ifc _ _ _ h1=>exact⟨rfl,h1⟩,fun⟨h1,h2⟩=>by subst h1;exact .ifc _ _ _ h2⟩
theorem qxk:TWs t r m []↔True:=Iff.rfl
theorem quv{p:Nat×AV}{l:List (Nat×AV)}:TWs t r m (p::l)↔evO (t.get p.1) (fun v=>NV r m v p.2)∧TWs t r m l:=Iff.rfl
theorem qu8:BWs h r m [] []↔True:=Iff.rfl
theorem qrz{b:Nat}{x:Blk}{bs:List Nat}{xs:List Blk}:BWs h r m (b::bs) (x::xs)↔BW h r m b x∧BWs h r m bs xs:=Iff.rfl
theorem qyF{b:Nat}{x:Blk}(hb:h.sz<=b):BW h r m b x↔True:=iff_true_intro (.inl hb)
theorem qu7{b:Nat}:BW h r m b .dead↔True:=iff_true_intro (.inr (.inl rfl))
theorem qyG{b e:Nat}{w a:Bool}{cs':List AV}(hb:b<h.sz):BW h r m b (.cells e w a cs')↔evB (h.tr.get b) (fun x=>qaW x (fun e0 w0 a0 cs=>e0=e∧(w=true->w0=true)∧(a=true->a0=true)∧NVs r m cs cs')):=by
 constructor
 ·rintro (h1|h1|⟨e',w0,a0,cs,w',a',cs'',h1,h2,h3,h4,h5⟩|⟨es,es',h1,h2,h3⟩)
  ·omega
  ·cases h1
  ·cases h2;exact⟨_,h1,rfl,h3,h4,h5⟩
  ·cases h2
 ·rintro⟨x,h1,h2⟩;cases x with
  | cells e0 w0 a0 cs =>
   obtain⟨rfl,h3,h4,h5⟩:=h2;exact .inr (.inr (.inl ⟨_,w0,a0,cs,w,a,cs',h1,rfl,h3,h4,h5⟩))
  | dead=>exact h2.elim
  | map es=>exact h2.elim
end
theorem qEY{b d:Nat}{l:List Nat}:rl (b::l) d 0=b:=rfl
theorem qEZ{b d i:Nat}{l:List Nat}:rl (b::l) d (i+1)=rl l d i:=rfl

section
variable {v v':AV} {vs vs':List AV}
theorem qss:Frz h v .undef↔True:=iff_true_intro (.undef _)
theorem qEq{x y:Bool}:Frz h (.b x) (.b y)↔x=y:=⟨fun h=>by cases h;rfl,fun h=>by subst h;exact .b _⟩
theorem qCR{q q':IntKind}{x y:Int}:Frz h (.i q x) (.i q' y)↔q=q'∧x=y:=⟨fun h=>by cases h;exact⟨rfl,rfl⟩,fun⟨h,h'⟩=>by subst h h';exact .i _ _⟩
theorem qEr{x y:List UInt8}:Frz h (.s x) (.s y)↔x=y:=⟨fun h=>by cases h;rfl,fun h=>by subst h;exact .s _⟩
theorem qvH:Frz h .nilp .nilp↔True:=iff_true_intro .nilp
theorem qvI:Frz h .nils .nils↔True:=iff_true_intro .nils
theorem qvE:Frz h .nilf .nilf↔True:=iff_true_intro .nilf
theorem qvF:Frz h .nili .nili↔True:=iff_true_intro .nili
theorem qvG:Frz h .nilm .nilm↔True:=iff_true_intro .nilm
theorem qCP:Frz h .e0 .e0↔True:=iff_true_intro .e0
theorem qCS:Frz h .nz .nz↔True:=iff_true_intro .nz
theorem qzh{x:Nat}{cs:List AV}:Frz h .e0 (.fz x cs)↔x=0∧cs=[]:=⟨fun h=>by cases h;exact⟨rfl,rfl⟩,fun⟨h,h'⟩=>by subst h h';exact .e0z⟩
theorem qCQ{x y:Nat}{cs ds:List AV}:Frz h (.fz x cs) (.fz y ds)↔x=y∧cs=ds:=⟨fun h=>by cases h;exact⟨rfl,rfl⟩,fun⟨h,h'⟩=>by subst h h';exact .fz _ _⟩
theorem qCT{x y:Nat}{cs ds:List AV}:Frz h (.pf cs x) (.pf ds y)↔cs=ds∧x=y:=⟨fun h=>by cases h;exact⟨rfl,rfl⟩,fun⟨h,h'⟩=>by subst h h';exact .pf _ _⟩
theorem qvJ{x:Nat}{cs:List AV}:Frz h .nils (.fz x cs)↔x=0∧cs=[]:=⟨fun h=>by cases h;exact⟨rfl,rfl⟩,fun⟨h,h'⟩=>by subst h h';exact .nilz⟩
theorem qeA:Frzs h [] []↔True:=iff_true_intro .nil
theorem qaP:Frzs h (v::vs) (v'::vs')↔Frz h v v'∧Frzs h vs vs':=⟨fun h=>by
  cases h with
  | cons _ _ _ _ h1 h2=>exact⟨h1,h2⟩,fun h=>.cons _ _ _ _ h.1 h.2⟩
theorem qzg{cs cs':List AV}:Frz h (.agg cs) (.agg cs')↔Frzs h cs cs':=⟨fun h=>by cases h;assumption,fun h=>.agg _ _ h⟩
theorem qzj{cs cs':List AV}:Frz h (.tup cs) (.tup cs')↔Frzs h cs cs':=⟨fun h=>by cases h;assumption,fun h=>.tup _ _ h⟩
theorem qst{f f':Nat}{a a' c c':List AV}:Frz h (.fn f a c) (.fn f' a' c')↔f=f'∧Frzs h a a'∧Frzs h c c':=⟨fun h=>by
  cases h with
  | fn _ _ _ _ _ h1 h2=>exact⟨rfl,h1,h2⟩,fun⟨h1,h2,h3⟩=>by subst h1;exact .fn _ _ _ _ _ h2 h3⟩
theorem qzi{f f':Nat}:Frz h (.ifc f v) (.ifc f' v')↔f=f'∧Frz h v v':=⟨fun h=>by
  cases h with
  | ifc _ _ _ h1=>exact⟨rfl,h1⟩,fun⟨h1,h2⟩=>by subst h1;exact .ifc _ _ _ h2⟩
theorem qsq{b x y:Nat}{cs':List AV}:Frz h (.own b x) (.fz y cs')↔x=y∧evB (h.tr.get b) (fun z=>qaW z (fun _ w _ ys=>w=true∧(x=0->ys=[])∧Frzs h ys cs')):=by
 constructor
 ·intro hh;cases hh with
  | own _ _ e af ys _ hb h0 h1=>exact⟨rfl,_,hb,rfl,h0,h1⟩
 ·rintro⟨rfl,z,h1,h2⟩;cases z with
  | cells e w af ys =>
   obtain⟨rfl,h3,h4⟩:=h2;exact .own _ _ e af ys _ h1 h3 h4
  | dead=>exact h2.elim
  | map es=>exact h2.elim
theorem qsr{b x y:Nat}{cs':List AV}:Frz h (.ptr b x) (.pf cs' y)↔x=y∧evB (h.tr.get b) (fun z=>qaW z (fun _ w _ ys=>w=true∧Frzs h ys cs')):=by
 constructor
 ·intro hh;cases hh with
  | ptr _ _ e af ys _ hb h1=>exact⟨rfl,_,hb,rfl,h1⟩
 ·rintro⟨rfl,z,h1,h2⟩;cases z with
  | cells e w af ys =>
   obtain⟨rfl,h4⟩:=h2;exact .ptr _ _ e af ys _ h1 h4
  | dead=>exact h2.elim
  | map es=>exact h2.elim
theorem Frz.cut{b o x c:Nat}{l:Bool}{y:Nat}{cs':List AV}(esz:Nat)(hx:x=y)(hc:x<=c)(hg:evB (h.tr.get b) (fun z=>qaW z (fun _ w _ cs=>w=true∧o+x*esz<=cs.length∧Frzs h ((cs.drop o).take (x*esz)) cs'))):Frz h (.sl b o x c l) (.fz y cs'):=by
 subst hx;obtain⟨z,h1,h2⟩:=hg;cases z with
 | cells e w af cs =>
  obtain⟨rfl,h3,h4⟩:=h2;exact .sl _ _ _ _ _ e af cs (x*esz) _ h1 hc h3 (fun hh=>by rw[hh] at hc;simp[Nat.le_zero.1 hc]) h4
 | dead=>exact h2.elim
 | map es=>exact h2.elim
end
mutual
theorem Frz.self:∀{v:AV},clo v=true->Frz h v v
 | .undef,_=>.undef _
 | .b _,_=>.b _
 | .i _ _,_=>.i _ _
 | .s _,_=>.s _
 | .nilp,_=>.nilp
 | .ptr _ _,hc=>by simp[clo] at hc
 | .nils,_=>.nils
 | .sl _ _ _ _ _,hc=>by simp[clo] at hc
 | .nilf,_=>.nilf
 | .fn _ _ _,hc=>by
  simp only[clo,Bool.and_eq_true] at hc;exact .fn _ _ _ _ _ (Frzs.self hc.1) (Frzs.self hc.2)
 | .nili,_=>.nili
 | .ifc _ _,hc=>.ifc _ _ _ (Frz.self (by simpa[clo] using hc))
 | .agg _,hc=>.agg _ _ (Frzs.self (by simpa[clo] using hc))
 | .tup _,hc=>.tup _ _ (Frzs.self (by simpa[clo] using hc))
 | .nilm,_=>.nilm
 | .map _,hc=>by simp[clo] at hc
 | .fz _ _,_=>.fz _ _
 | .pf _ _,_=>.pf _ _
 | .e0,_=>.e0
 | .nz,_=>.nz
 | .own _ _,hc=>by simp[clo] at hc
 | .sym _,hc=>by simp[clo] at hc
 | .yl _,hc=>by simp[clo] at hc
 | .lp _,hc=>by simp[clo] at hc
theorem Frzs.self:∀{vs:List AV},qu vs=true->Frzs h vs vs
 | [],_=>.nil
 | v::vs,hc=>by
  simp only[qu,Bool.and_eq_true] at hc;exact .cons _ _ _ _ (Frz.self hc.1) (Frzs.self hc.2)
end

@[congr] theorem qzv {kd:Option IntKind} {i:AV} {p:Prop} {mk:Prop} (_:zc=mk):qiR qy kd i p=qiR qy kd i p:=rfl
@[congr] theorem qzG {b:Nat} {k:List (AV×AV)->Prop} {mk:Prop} (_:zc=mk):qhG h b k=qhG h b k:=rfl
@[congr] theorem qvV {es:List (AV×AV)} {p:Prop} {mk:Prop} (_:zc=mk):qdL es p=qdL es p:=rfl
theorem qC1{a:List UInt8}{p:Prop}:qiR qy none (.s a) p↔p:=Iff.rfl
theorem qC0{q:IntKind}{z:Int}{p:Prop}:qiR qy (some q) (.i q z) p↔p:=by
 show qk (decide (q=q)) p↔p;rw[qa];simp
theorem qqh{p:Prop}:qdL [] p↔p:=Iff.rfl
theorem qvY{a:List UInt8}{v:AV}{es:List (AV×AV)}{p:Prop}:qdL ((.s a,v)::es) p↔p:=Iff.rfl
theorem qvX{q:IntKind}{z:Int}{v:AV}{es:List (AV×AV)}{p:Prop}:qdL ((.i q z,v)::es) p↔p:=Iff.rfl
def qne(x:Blk)(k:List (AV×AV)->Prop):Prop:=match x with | .map es=>k es|_=>False
@[congr] theorem qxO {x x':Blk} {k:List (AV×AV)->Prop} {mk:Prop} (_:zc=mk) (h:x=x'):qne x k=qne x' k:=by rw[h]
theorem qk0{es:List (AV×AV)}{k:List (AV×AV)->Prop}:qne (.map es) k↔k es:=Iff.rfl
theorem qDc{b:Nat}{k:List (AV×AV)->Prop}:qhG h b k↔evB (h.tr.get b) (fun x=>qne x (fun es=>qdL es (k es))):=by
 unfold qhG;refine (Tr.getK_iff _ _ _).trans (iff_of_eq (congrArg _ (funext fun x=>congrArg _ ?_)))
 cases x<;>rfl
theorem qmI{i:AV}{k:Option AV->Prop}:qb1 qy i [] k↔k none:=Iff.rfl
theorem qzb{i a:List UInt8}{v:AV}{es:List (AV×AV)}{k:Option AV->Prop}:qb1 qy (.s i) ((.s a,v)::es) k↔if i=a then k (some v) else qb1 qy (.s i) es k:=by
 show qL (eqS i a) (fun r=>Bool.rec (motive:=fun _=>Prop) (qb1 qy (.s i) es k) (k (some v)) r)↔_
 rw[qz,qdT,qbG];simp
theorem qsk{q:IntKind}{i a:Int}{v:AV}{es:List (AV×AV)}{k:Option AV->Prop}:qb1 qy (.i q i) ((.i q a,v)::es) k↔if i=a then k (some v) else qb1 qy (.i q i) es k:=by
 show qk (decide (q=q)) (qL (eqI i a) (fun r=>Bool.rec (motive:=fun _=>Prop) (qb1 qy (.i q i) es k) (k (some v)) r))↔_
 rw[qa,qz,qdT,qjA];simp
theorem qpv{i v:AV}{k:List (AV×AV)->Prop}:qfM qy i v [] k↔k [(i,v)]:=Iff.rfl
theorem qDL{i a:List UInt8}{u v:AV}{es:List (AV×AV)}{k:List (AV×AV)->Prop}:qfM qy (.s i) u ((.s a,v)::es) k↔if i=a then k ((.s i,u)::es) else qfM qy (.s i) u es (fun l=>k ((.s a,v)::l)):=by
 show qL (eqS i a) (fun r=>Bool.rec (motive:=fun _=>Prop) (qfM qy (.s i) u es (fun l=>k ((.s a,v)::l))) (k ((.s i,u)::es)) r)↔_
 rw[qz,qdT,qbG];simp
theorem qx3{q:IntKind}{i a:Int}{u v:AV}{es:List (AV×AV)}{k:List (AV×AV)->Prop}:qfM qy (.i q i) u ((.i q a,v)::es) k↔if i=a then k ((.i q i,u)::es) else qfM qy (.i q i) u es (fun l=>k ((.i q a,v)::l)):=by
 show qk (decide (q=q)) (qL (eqI i a) (fun r=>Bool.rec (motive:=fun _=>Prop) (qfM qy (.i q i) u es (fun l=>k ((.i q a,v)::l))) (k ((.i q i,u)::es)) r))↔_
 rw[qa,qz,qdT,qjA];simp
@[congr] theorem qyn {ok:Bool} {z:AV} {v v':Option AV} {k:AV->Prop} {mk:Prop} (_:zc=mk) (h:v=v'):qf8 ok z v k=qf8 ok z v' k:=by rw[h]
theorem qre{z:AV}{k:AV->Prop}:qf8 false z none k↔k z:=Iff.rfl
theorem qpE{z:AV}{k:AV->Prop}:qf8 true z none k↔k (.tup [z,.b false]):=Iff.rfl
theorem qmj{z v:AV}{k:AV->Prop}:qf8 false z (some v) k↔k v:=Iff.rfl
theorem qpF{z v:AV}{k:AV->Prop}:qf8 true z (some v) k↔k (.tup [v,.b true]):=Iff.rfl
def lkK(h:Hp)(ok:Bool)(zero x i:AV)(k:AV->Prop):Prop:=match x with
  | .nilm=>qf8 ok zero none k
  | .map r=>qhG h r (fun es=>qb1 qy i es (fun v=>qf8 ok zero v k))
  | _=>False
@[congr] theorem qBJ {ok:Bool} {z x i:AV} {k:AV->Prop} {mk:Prop} (_:zc=mk):lkK h ok z x i k=lkK h ok z x i k:=rfl
theorem qzE{ok:Bool}{z i:AV}{k:AV->Prop}:lkK h ok z .nilm i k↔qf8 ok z none k:=Iff.rfl
theorem qzD{ok:Bool}{z i:AV}{r:Nat}{k:AV->Prop}:lkK h ok z (.map r) i k↔qhG h r (fun es=>qb1 qy i es (fun v=>qf8 ok z v k)):=Iff.rfl
theorem qtF{kd:Option IntKind}{ok:Bool}{z:AV}{x i:O}:opK qy (.lookM kd ok z x i) t h k↔evK t x (fun x=>evK t i (fun i=>qiR qy kd i (lkK h ok z x i (fun v=>k v h)))):=Iff.rfl
def upK(h:Hp)(x i v:AV)(k:Hp->Prop):Prop:=match x with
  | .map r=>qhG h r (fun es=>qfM qy i v es (fun es'=>qav h r (.map es') k))
  | _=>False
@[congr] theorem qB0 {x i v:AV} {k:Hp->Prop} {mk:Prop} (_:zc=mk):upK h x i v k=upK h x i v k:=rfl
theorem qBd{i v:AV}{r:Nat}{k:Hp->Prop}:upK h (.map r) i v k↔qhG h r (fun es=>qfM qy i v es (fun es'=>qav h r (.map es') k)):=Iff.rfl
theorem qwy{kd:Option IntKind}{x i v:O}:opK qy (.updM kd x i v) t h k↔evK t x (fun x=>evK t i (fun i=>evK t v (fun v=>qiR qy kd i (upK h x i v (fun h'=>k .undef h'))))):=Iff.rfl

theorem qkK:qE []=true:=rfl
theorem qgI{v:AV}{vs:List AV}:qE (v::vs)=(zg v&&qE vs):=by
 show (Bool.rec (motive:=fun _=>Bool) false (qE vs) (zg v):Bool)=_
 cases zg v<;>rfl
theorem qyN{x:Bool}:zg (.b x)=true:=rfl
theorem qyO{q:IntKind}{x:Int}:zg (.i q x)=true:=rfl
theorem qyP{x:List UInt8}:zg (.s x)=true:=rfl
theorem qpU:zg .nilp=true:=rfl
theorem qrO{b o:Nat}:zg (.ptr b o)=true:=rfl
theorem qpV:zg .nils=true:=rfl
theorem qvi{b o x c:Nat}{l:Bool}:zg (.sl b o x c l)=true:=rfl
theorem qpR:zg .nilf=true:=rfl
theorem qve{f:Nat}{a c:List AV}:zg (.fn f a c)=true:=rfl
theorem qpS:zg .nili=true:=rfl
theorem qrL{f:Nat}{v:AV}:zg (.ifc f v)=true:=rfl
theorem qpT:zg .nilm=true:=rfl
theorem qrM{b:Nat}:zg (.map b)=true:=rfl
theorem qvf{n:Nat}{cs:List AV}:zg (.fz n cs)=true:=rfl
theorem qvh{n:Nat}{cs:List AV}:zg (.pf cs n)=true:=rfl
theorem qvd:zg .e0=true:=rfl
theorem qvg:zg .nz=true:=rfl
theorem qrN{b n:Nat}:zg (.own b n)=true:=rfl
theorem qlu{a b:List AV}:qE (a++b)=(qE a&&qE b):=by
 induction a with
 | nil=>simp[qkK]
 | cons v a ih=>simp[qgI,ih,Bool.and_assoc]
theorem qpW{α:Type}{f:α->AV}{xs:List α}(h:∀x,zg (f x)=true):qE (xs.map f)=true:=by
 induction xs with
 | nil=>rfl
 | cons v a ih=>simp[qgI,ih,h]
theorem qjw{α:Type}{f:α->List AV}{xs:List α}(h:∀x,qE (f x)=true):qE (xs.flatMap f)=true:=by
 induction xs with
 | nil=>rfl
 | cons v a ih=>simp[List.flatMap_cons,qlu,ih,h]
theorem xr{a b:List AV}:qu (a++b)=(qu a&&qu b):=by
 induction a with
 | nil=>simp[qu]
 | cons v a ih=>simp[qu,ih,Bool.and_assoc]
theorem qcX{α:Type}{f:α->AV}{xs:List α}(h:∀x,clo (f x)=true):qu (xs.map f)=true:=by
 induction xs with
 | nil=>rfl
 | cons v a ih=>simp[qu,ih,h]
theorem x9{α:Type}{f:α->List AV}{xs:List α}(h:∀x,qu (f x)=true):qu (xs.flatMap f)=true:=by
 induction xs with
 | nil=>rfl
 | cons v a ih=>simp[List.flatMap_cons,xr,ih,h]
theorem zl{α:Type}{f:α->List AV}{m:Nat}(h:∀x,(f x).length=m)(xs:List α):(xs.flatMap f).length=xs.length*m:=by
 induction xs with
 | nil=>simp
 | cons v a ih=>simp[ih,h,Nat.add_mul,Nat.add_comm]
theorem qd9{α:Type}{f:α->List AV}{m:Nat}(h:∀x,(f x).length=m):∀(xs:List α) (j:Nat),(xs.flatMap f).drop (j*m)=(xs.drop j).flatMap f
 | [],j=>by simp
 | x::xs,0=>by simp
 | x::xs,j+1=>by
  simp only[List.flatMap_cons,List.drop_succ_cons];rw[Nat.add_mul,Nat.one_mul,Nat.add_comm,← List.drop_drop,List.drop_left' (h x)];exact qd9 h xs j
theorem qfW{α:Type}{f:α->List AV}{m:Nat}(h:∀x,(f x).length=m):∀(xs:List α) (j:Nat),(xs.flatMap f).take (j*m)=(xs.take j).flatMap f
 | [],j=>by simp
 | x::xs,0=>by simp
 | x::xs,j+1=>by
  simp only[List.flatMap_cons,List.take_succ_cons];rw[Nat.add_mul,Nat.one_mul,Nat.add_comm (j*m),← h x,List.take_length_add_append,h x,qfW h xs j]
theorem qb2{α:Type}{f:α->List AV}{m:Nat}(h:∀x,(f x).length=m){xs:List α}{j:Nat}{x:α}(hx:xs[j]?=some x){i:Nat}(hi:i<m):(xs.flatMap f)[j*m+i]?=(f x)[i]?:=by
 rw[← List.getElem?_drop,qd9 h];obtain⟨hj,rfl⟩:=zzS.1 hx;rw[List.drop_eq_getElem_cons hj,List.flatMap_cons,List.getElem?_append_left (by rw[h];exact hi)]
theorem zj{α:Type}{f:α->List AV}{m:Nat}(h:∀x,(f x).length=m){xs:List α}{j:Nat}{x:α}(hx:xs[j]?=some x):((xs.flatMap f).drop (j*m)).take m=f x:=by
 rw[qd9 h];obtain⟨hj,rfl⟩:=zzS.1 hx;rw[List.drop_eq_getElem_cons hj,List.flatMap_cons,List.take_left' (h _)]

theorem SL.loop{α:Type}{x:ICode}{Q:X->Tr AV->Hp->Prop}(T:α->List (Nat×AV))(B:α->List Blk)(I:α->Prop)(μ:α->Nat)(a0:α)(src:List Nat)
  (hT:TWs t (rl src h.sz) (B a0).length (T a0)) (hB:BWs h (rl src h.sz) (B a0).length src (B a0)) (hI:(src.filter fun b=>decide (b<h.sz)).Nodup) (hfl:h.fl=0) (h0:I a0)
  (step:∀a,I a->∀G:Tr AV->Hp->Prop,(∀b,I b->μ b<μ a->∀t' h',Wk 0 t' h' (mkT (T b)) (mkH 0 (B b))->G t' h')->
   V P 0 x (fun e t h=>onX e (G t h) (fun id=>Q (.exit id) t h) (Q .ret t h)) (mkT (T a)) (mkH 0 (B a))):SL P 0 x Q t h:=by
 have main:∀m a,μ a=m->I a->SL P 0 x Q (mkT (T a)) (mkH 0 (B a)):=by
  intro m
  induction m using Nat.strongRecOn with
  | ind m ih =>
   intro a ha hi;exact qiX (step a hi (fun t h=>SL P 0 x Q t h) fun b hb hlt t' h' hw=>SL.weak hw (ih (μ b) (ha ▸ hlt) b rfl hb))
 exact SL.weak (Wk.mk (T a0) (B a0) src hT hB hI hfl) (main _ a0 rfl h0)

theorem qEd{b:Bool}:(b==true)=b:=by cases b<;>rfl
theorem qEc{b:Bool}:(b==false) = !b:=by cases b<;>rfl
def vA:=And.intro @qq7 (And.intro @qCg (And.intro @qCj (And.intro @qym (And.intro @qCi (And.intro @qyj (And.intro @qyi (And.intro @qCf (And.intro @qyk (And.intro @qCh (And.intro @qyl (And.intro @qyf (And.intro @qCe (And.intro @qq4 (And.intro @qq5 (And.intro @qq6 (And.intro @qpx (And.intro @qCd
 (And.intro @qy0 (And.intro @qyX (And.intro @qgY (And.intro @qtv (And.intro @qwo (And.intro @qr6 (And.intro @qmG (And.intro @qwV (And.intro @qwW @qt4))))))))))))))))))))))))))
def vR:=And.intro @qpz (And.intro @qnJ @qyg)
def vE:=And.intro @qkN (And.intro @qCO (And.intro @qsf (And.intro @qp6 (And.intro @qqI (And.intro @qqK (And.intro @qsz (And.intro @qp2 (And.intro @qp3 (And.intro @qDG (And.intro @qxl (And.intro @qDH (And.intro @qDI (And.intro @qpw (And.intro @xw (And.intro @qh9
 (And.intro @qzR (And.intro @qAC (And.intro @qsU (And.intro @qC6 (And.intro @qv3 (And.intro @qzA (And.intro @qC4 (And.intro @qsV (And.intro @qwb (And.intro @qzN (And.intro @qE1 (And.intro @qw9 (And.intro @qvr (And.intro @qfT (And.intro @qvU @xP))))))))))))))))))))))))))))))
def vO:=And.intro @qAr (And.intro @qwv (And.intro @qtx (And.intro @qAe (And.intro @qty (And.intro @qqB (And.intro @qtD (And.intro @qtE (And.intro @qtH (And.intro @qqE (And.intro @qAd (And.intro @qAh (And.intro @qAi (And.intro @qAg (And.intro @qDs (And.intro @qtA (And.intro @qtB (And.intro @qAs (And.intro @qAc
 (And.intro @qtC (And.intro @qAk (And.intro @qqC (And.intro @qqD (And.intro @qwt (And.intro @qwu (And.intro @qwx (And.intro @qqG (And.intro @qww (And.intro @qAj (And.intro @qAo (And.intro @qAq (And.intro @qAl (And.intro @qAb (And.intro @qwq (And.intro @qws (And.intro @qAn (And.intro @qAm (And.intro @qtz (And.intro @qAp
 (And.intro @qqH (And.intro @qwp (And.intro @qwZ (And.intro @qAR (And.intro @qAQ (And.intro @qub (And.intro @qAP (And.intro @qAf (And.intro @qwr (And.intro @qrg (And.intro @qtF @qwy)))))))))))))))))))))))))))))))))))))))))))))))))
def vB:=And.intro @qu1 (And.intro @qu0 (And.intro @quX (And.intro @quV (And.intro @quU (And.intro @quW (And.intro @quT (And.intro @quZ (And.intro @quQ (And.intro @qu2 (And.intro @quY (And.intro @qyC (And.intro @quR (And.intro @qu3 (And.intro @quS (And.intro @qrn (And.intro @qrs (And.intro @qrm (And.intro @qrr (And.intro @qro (And.intro @qrq (And.intro @qrp (And.intro @qBc (And.intro @qBb @qEh)))))))))))))))))))))))
def vF:=And.intro @qsn (And.intro @qso (And.intro @qCZ (And.intro @qCY (And.intro @qzu (And.intro @qsO (And.intro @qsN (And.intro @qqg (And.intro @qiZ (And.intro @qox (And.intro @qu5 (And.intro @qoy (And.intro @qi2 (And.intro @qw5 (And.intro @qDA (And.intro @qDB (And.intro @qAW (And.intro @qAX (And.intro @qAV (And.intro @qyu (And.intro @qp5 (And.intro @qsc (And.intro @qv8 (And.intro @qC7 (And.intro @qC9 (And.intro @qC8 (And.intro @qzF (And.intro @qDa (And.intro @qEu
 (And.intro @qrT (And.intro @qyU (And.intro @qpG (And.intro @qnN (And.intro @qzO (And.intro @qDd (And.intro @qvq (And.intro @qCF (And.intro @qCG (And.intro @qsi (And.intro @qp8 (And.intro @qpZ (And.intro @qvp (And.intro @quh (And.intro @qA0 (And.intro @qA2 (And.intro @qA3 (And.intro @qw8 (And.intro @qA1 (And.intro @qDC (And.intro @qrf (And.intro @qyq (And.intro @quN (And.intro @qys (And.intro @qyr
 (And.intro @qto (And.intro @qwe (And.intro @qzV (And.intro @qtp (And.intro @qzU (And.intro @qzW (And.intro @qzT (And.intro @qwd (And.intro @qtm (And.intro @qzS (And.intro @qtn (And.intro @qwc (And.intro @qvw (And.intro @qsa (And.intro @qEl (And.intro @qEm @qEk)))))))))))))))))))))))))))))))))))))))))))))))))))))))))))))))))))))
def vM:=And.intro @qC1 (And.intro @qC0 (And.intro @qqh (And.intro @qvY (And.intro @qvX (And.intro @qk0 (And.intro @qDc (And.intro @qmI (And.intro @qzb (And.intro @qsk (And.intro @qpv (And.intro @qDL (And.intro @qx3 (And.intro @qre (And.intro @qpE (And.intro @qmj (And.intro @qpF (And.intro @qzE (And.intro @qzD @qBd))))))))))))))))))
def vC:=And.intro @qkK (And.intro @qgI (And.intro @qyN (And.intro @qyO (And.intro @qyP (And.intro @qpU (And.intro @qrO (And.intro @qpV (And.intro @qvi (And.intro @qpR (And.intro @qve (And.intro @qpS (And.intro @qrL (And.intro @qpT (And.intro @qrM (And.intro @qvf (And.intro @qvh (And.intro @qvd (And.intro @qvg @qrN))))))))))))))))))
def vP:=And.intro @qqu (And.intro @qse (And.intro @qvy (And.intro @qvz (And.intro @qvA (And.intro @qvB (And.intro @qsd (And.intro @qmH (And.intro @qm1 (And.intro @qlt (And.intro @qx1 (And.intro @qoF (And.intro @qEd (And.intro @qEc @qdT)))))))))))))
def vW:=And.intro @qDn (And.intro @qtt (And.intro @qEx (And.intro @qEy (And.intro @qEz (And.intro @qwj (And.intro @qwk (And.intro @qwg (And.intro @qwh (And.intro @qwi (And.intro @qDh (And.intro @qDk (And.intro @qz1 (And.intro @qts (And.intro @qz6 (And.intro @qDj (And.intro @qDl (And.intro @qwl (And.intro @qz5 (And.intro @qDm (And.intro @qz4 (And.intro @qqA (And.intro @qz3 (And.intro @qwm (And.intro @qtu (And.intro @qz0 (And.intro @qz7 (And.intro @qDi (And.intro @qz2
 (And.intro @qxk (And.intro @quv (And.intro @qu8 (And.intro @qrz (And.intro @qyF (And.intro @qu7 (And.intro @qyG (And.intro @qEY @qEZ))))))))))))))))))))))))))))))))))))
def vZ:=And.intro @qss (And.intro @qEq (And.intro @qCR (And.intro @qEr (And.intro @qvH (And.intro @qvI (And.intro @qvE (And.intro @qvF (And.intro @qvG (And.intro @qCP (And.intro @qCS (And.intro @qzh (And.intro @qCQ (And.intro @qCT (And.intro @qvJ (And.intro @qeA (And.intro @qaP (And.intro @qzg (And.intro @qzj (And.intro @qst (And.intro @qsr (And.intro @qzi @qsq)))))))))))))))))))))
end Go.Kc
end
section
namespace Go.Kc
variable {P:Program}

mutual
def flat:AV->Bool
 | .ptr _ _=>false
 | .sl _ _ _ _ _=>false
 | .map _=>false
 | .own _ _=>false
 | .fz _ _=>false
 | .pf _ _=>false
 | .sym _=>false
 | .fn _ a c=>qjF a&&qjF c
 | .ifc _ v=>flat v
 | .agg cs=>qjF cs
 | .tup cs=>qjF cs
 | .undef=>true | .b _=>true | .i _ _=>true | .s _=>true | .nilp=>true | .nils=>true | .nilf=>true | .nili=>true | .nilm=>true | .e0=>true | .nz=>true | .yl _=>false | .lp _=>true
def qjF:List AV->Bool
 | []=>true
 | v::vs=>flat v&&qjF vs
end
mutual
theorem VR.flat{ρ ρ':Ren}:∀{a:AV} {v:Value},VR σ0 ρ a v->Kc.flat a=true->VR σ0 ρ' a v
 | _,_,.undef v,_=>.undef v
 | _,_,.b x,_=>.b x
 | _,_,.i k n,_=>.i k n
 | _,_,.s x,_=>.s x
 | _,_,.nilp,_=>.nilp
 | _,_,.ptr b o L h,hc=>by simp[Kc.flat] at hc
 | _,_,.nils,_=>.nils
 | _,_,.sl b o len cap c loose L h hc,hh=>by simp[Kc.flat] at hh
 | _,_,.slz b o x l L h,hh=>by simp[Kc.flat] at hh
 | _,_,.nilf,_=>.nilf
 | _,_,.fn f first cap first' cap' h1 h2,hc=>by
  simp only[Kc.flat,Bool.and_eq_true] at hc;exact .fn _ _ _ _ _ (h1.flat hc.1) (h2.flat hc.2)
 | _,_,.nili,_=>.nili
 | _,_,.ifc t v v' h,hc=>by simp only[Kc.flat] at hc;exact .ifc _ _ _ (h.flat hc)
 | _,_,.agg cs cs' h,hc=>by simp only[Kc.flat] at hc;exact .agg _ _ (h.flat hc)
 | _,_,.tup cs cs' h,hc=>by simp only[Kc.flat] at hc;exact .tup _ _ (h.flat hc)
 | _,_,.nilm,_=>.nilm
 | _,_,.map b L h h0,hc=>by simp[Kc.flat] at hc
 | _,_,.sym j,hc=>by simp[Kc.flat] at hc
 | _,_,.fz n off c cs k arr hn h hs,hc=>by simp[Kc.flat] at hc
 | _,_,.fz0 a,hc=>by simp[Kc.flat] at hc
 | _,_,.pf off base cs k arr h hs,hc=>by simp[Kc.flat] at hc
 | _,_,.e0 a,_=>.e0 a
 | _,_,.nz a c,_=>.nz a c
 | _,_,.own0 b a hb,hc=>by simp[Kc.flat] at hc
 | _,_,.own b n c L h hn hc',hc=>by simp[Kc.flat] at hc
 | _,_,.yl b L h,hc=>by simp[Kc.flat] at hc
theorem VRs.flat{ρ ρ':Ren}:∀{a:List AV} {v:List Value},VRs σ0 ρ a v->qjF a=true->VRs σ0 ρ' a v
 | _,_,.nil,_=>.nil
 | _,_,.cons v vs v' vs' h hs,hc=>by
  simp only[qjF,Bool.and_eq_true] at hc;exact .cons _ _ _ _ (h.flat hc.1) (hs.flat hc.2)
end
theorem Rel.bare{ρ:Ren}{B:Nat->Prop}{h:Hp}{w:World}(r:Rel σ0 ρ B h w):Rel σ0 ⟨fun _=>none,qaq ρ h w,0⟩ (low w.heap.size) H0 w :=
 ⟨(fun _ _ hb=>by cases hb),(fun _ _ _ _ _ _ hb=>by cases hb),(fun _ _ _ hb=>by cases hb),(fun _ _ _ _ _ hb=>by cases hb),(fun _ _ _ hb=>by cases hb),(fun _ _ _ _ _ hb=>by cases hb),(fun _ _ hb=>by cases hb),(fun _ h=>h),
  (fun k arr hk=>⟨by
    rcases qeB hk with hk|⟨hk,_⟩
    ·exact (r.frz k arr hk).1
    ·exact hk,fun _ _ _ hb=>by cases hb⟩),⟨Nat.le_refl _,fun _ _ hb=>by cases hb⟩⟩
theorem qd.lend{f:Nat}{vs vs':List AV}{v:AV}{h:Hp}{k:AV->Hp->Prop}(hp:qd P f vs' v)(hf:Frzs h vs vs')(hv:flat v=true)(hk:k v h):SC P f vs h k:=by
 have hp0:=hp H0 (fun v' h'=>v'=v∧h'=H0) ⟨rfl,rfl⟩
 refine⟨hp0.1,fun ρ B w args r ha=>?_⟩
 have hcr:=hf.ok r ha;refine qce.mono (hp0.2 ⟨fun _=>none,qaq ρ h w,0⟩ (low w.heap.size) w args r.bare (CRs.vr (ρ:=⟨fun _=>none,qaq ρ h w,0⟩) hcr)) ?_
 rintro e w' ⟨v0,v',h',ρ',rfl,⟨rfl,rfl⟩,g2,g3,g4⟩;refine⟨v0,v',h,ρ,rfl,hk,g2.flat hv,?_,⟨fun _ _=>rfl,Nat.le_refl _,rfl,fun _ _ _=>rfl,fun k hk=>g4.pres k (r.base _ hk),g4.wle,g4.io,fun _ _ h=>h,fun _ _ h=>.inl h,Nat.le_refl _⟩⟩
 have:=r.frz' (φ:=ρ.frz) g4.pres g4.wle (fun _ _ h=>h) (fun _ _ h=>.inl h) (fun k a hk=>by
  obtain⟨ty,fz,h1⟩:=(r.frz k a hk).1;refine⟨ty,fz,?_⟩;rw[g4.pres k (Array.getElem?_eq_some_iff.1 h1).1];exact h1)
 exact this
mutual
def shv(m:Nat):AV->AV
 | .ptr b o=>.ptr (b+m) o
 | .sl b o n c l=>.sl (b+m) o n c l
 | .map b=>.map (b+m)
 | .own b n=>.own (b+m) n
 | .yl b=>.yl (b+m)
 | .fn f a c=>.fn f (qe9 m a) (qe9 m c)
 | .ifc t v=>.ifc t (shv m v)
 | .agg cs=>.agg (qe9 m cs)
 | .tup cs=>.tup (qe9 m cs)
 | v=>v
def qe9(m:Nat):List AV->List AV
 | []=>[]
 | v::vs=>shv m v::qe9 m vs
end
theorem qny{m:Nat}:∀{vs:List AV} {j:Nat},(qe9 m vs)[j]?=(vs[j]?).map (shv m)
 | [],j=>by simp[qe9]
 | v::vs,0=>by simp[qe9]
 | v::vs,j+1=>by simpa[qe9] using qny (vs:=vs) (j:=j)
theorem qdz{m:Nat}:∀{vs:List AV},(qe9 m vs).length=vs.length
 | []=>rfl
 | v::vs=>by simp[qe9,qdz (vs:=vs)]
mutual
theorem qpn{m:Nat}:∀{v:AV},clo v=true->shv m v=v
 | .ptr _ _,h=>by simp[clo] at h
 | .sl _ _ _ _ _,h=>by simp[clo] at h
 | .map _,h=>by simp[clo] at h
 | .own _ _,h=>by simp[clo] at h
 | .fn f a c,h=>by
  simp only[clo,Bool.and_eq_true] at h;simp only[shv,jh h.1,jh h.2]
 | .ifc t v,h=>by
  simp only[clo] at h;simp only[shv,qpn h]
 | .agg cs,h=>by
  simp only[clo] at h;simp only[shv,jh h]
 | .tup cs,h=>by
  simp only[clo] at h;simp only[shv,jh h]
 | .undef,_=>rfl
 | .b _,_=>rfl
 | .i _ _,_=>rfl
 | .s _,_=>rfl
 | .nilp,_=>rfl
 | .nils,_=>rfl
 | .nilf,_=>rfl
 | .nili,_=>rfl
 | .nilm,_=>rfl
 | .sym _,h=>by simp[clo] at h
 | .fz _ _,_=>rfl
 | .pf _ _,_=>rfl
 | .e0,_=>rfl
 | .nz,_=>rfl
 | .yl _,h=>by simp[clo] at h
 | .lp _,_=>rfl
theorem jh{m:Nat}:∀{vs:List AV},qu vs=true->qe9 m vs=vs
 | [],_=>rfl
 | v::vs,h=>by
  simp only[qu,Bool.and_eq_true] at h;simp only[qe9,qpn h.1,jh h.2]
end
def she(m:Nat)(es:List (AV×AV)):List (AV×AV):=es.map fun e=>(shv m e.1,shv m e.2)
theorem qpm{m:Nat}:she m []=[]:=rfl
theorem qnx{m:Nat}{a b:AV}{es:List (AV×AV)}:she m ((a,b)::es)=(shv m a,shv m b)::she m es:=rfl
def shb(m:Nat):Blk->Blk
 | .cells e w a cs=>.cells e w a (qe9 m cs)
 | .dead=>.dead
 | .map es=>.map (she m es)
noncomputable def qaR(h:Hp):List Blk->Hp
 | []=>h
 | x::xs=>qaR (h.push x) xs
theorem qek:∀{bs:List Blk} {h:Hp},(qaR h bs).sz=h.sz+bs.length
 | [],_=>rfl
 | x::xs,h=>by
  show (qaR (h.push x) xs).sz=_;rw[qek];simp[Hp.push];omega
theorem qfG:∀{bs:List Blk} {h:Hp},(qaR h bs).fl=h.fl
 | [],_=>rfl
 | x::xs,h=>by
  show (qaR (h.push x) xs).fl=_;rw[qfG];rfl
theorem qbe:∀{bs:List Blk} {h:Hp} {b:Nat},(qaR h bs).tr.get b=if b<h.sz then h.tr.get b else if b<h.sz+bs.length then bs[b-h.sz]? else h.tr.get b
 | [],h,b=>by simp[qaR];intro h1 h2;omega
 | x::xs,h,b=>by
  show (qaR (h.push x) xs).tr.get b=_;rw[qbe];simp only[Hp.push,Tr.get_set,List.length_cons]
  by_cases h1:b<h.sz
  ·rw[if_pos (by omega),if_neg (by omega),if_pos h1]
  ·rw[if_neg h1]
   by_cases h2:b=h.sz
   ·subst h2;rw[if_pos (by omega),if_pos rfl,if_pos (by omega)];simp
   ·rw[if_neg (by omega)]
    by_cases h3:b<h.sz+(xs.length+1)
    ·rw[if_pos (by omega),if_pos h3];rw[show b-h.sz=(b-(h.sz+1))+1 from by omega];simp
    ·rw[if_neg (by omega),if_neg h3,if_neg h2]
def Ren.join(ρ ρ2:Ren)(m l:Nat):Ren:=⟨fun b=>if b<m then ρ b else ρ2 (b-m),ρ2.frz,m+l⟩
theorem qjb{ρ ρ2:Ren}{m l b:Nat}(h:b<m):ρ.join ρ2 m l b=ρ b:=by simp only[Ren.join];rw[if_pos h]
theorem qeG{ρ ρ2:Ren}{m l b:Nat}:ρ.join ρ2 m l (b+m)=ρ2 b:=by simp only[Ren.join];rw[if_neg (by omega),Nat.add_sub_cancel]
mutual
theorem VR.sh{ρ ρ2:Ren}{m l:Nat}(hl:ρ2.n<=l):∀{v:AV} {x:Value},VR σ0 ρ2 v x->VR σ0 (ρ.join ρ2 m l) (shv m v) x
 | _,_,.undef v=>.undef v
 | _,_,.b x=>.b x
 | _,_,.i k n=>.i k n
 | _,_,.s x=>.s x
 | _,_,.nilp=>.nilp
 | _,_,.ptr b o L h=>.ptr _ _ L (by rw[qeG];exact h)
 | _,_,.nils=>.nils
 | _,_,.sl b o len cap c loose L h hc=>.sl _ _ _ _ _ _ L (by rw[qeG];exact h) hc
 | _,_,.slz b o x l' L h=>.slz _ _ _ _ L (by rw[qeG];exact h)
 | _,_,.nilf=>.nilf
 | _,_,.fn f first cap first' cap' h1 h2=>.fn _ _ _ _ _ (VRs.sh hl h1) (VRs.sh hl h2)
 | _,_,.nili=>.nili
 | _,_,.ifc t v v' h=>.ifc _ _ _ (VR.sh hl h)
 | _,_,.agg cs cs' h=>.agg _ _ (VRs.sh hl h)
 | _,_,.tup cs cs' h=>.tup _ _ (VRs.sh hl h)
 | _,_,.nilm=>.nilm
 | _,_,.map b L h h0=>.map _ L (by rw[qeG];exact h) h0
 | _,_,.sym j=>.sym j
 | _,_,.fz n off c cs k arr hn h hs=>.fz n off c cs k arr hn h hs
 | _,_,.fz0 a=>.fz0 a
 | _,_,.pf off base cs k arr h hs=>.pf off base cs k arr h hs
 | _,_,.e0 a=>.e0 a
 | _,_,.nz a c=>.nz a c
 | _,_,.own0 b a hb=>.own0 _ _ (by show b+m<m+l;omega)
 | _,_,.own b n c L h hn hc'=>.own _ _ _ L (by rw[qeG];exact h) hn hc'
 | _,_,.yl b L h=>.yl _ L (by rw[qeG];exact h)
theorem VRs.sh{ρ ρ2:Ren}{m l:Nat}(hl:ρ2.n<=l):∀{v:List AV} {x:List Value},VRs σ0 ρ2 v x->VRs σ0 (ρ.join ρ2 m l) (qe9 m v) x
 | _,_,.nil=>.nil
 | _,_,.cons v vs v' vs' h hs=>.cons _ _ _ _ (VR.sh hl h) (VRs.sh hl hs)
end
theorem qw1{m:Nat}{r:Loop}{ts:List (Nat×AV)}:she m (zn r ts)=zn r (ts.map fun p=>(p.1,shv m p.2)):=by simp[she,zn,shv]
theorem qdY.sh{ρ ρ2:Ren}{m l:Nat}(hl:ρ2.n<=l){es:List (AV×AV)}{o:Obj}(h:qdY σ0 ρ2 es o):qdY σ0 (ρ.join ρ2 m l) (she m es) o:=by
 rcases h with⟨h0,vs,clk,h1,h2,h3⟩|⟨a,n,rfl,h2⟩|⟨r,rq,ts,rfl,h2,hk2,h3⟩
 ·refine .inl ⟨fun e he=>?_,vs,clk,h1,by simp[she,h2],fun j e he=>?_⟩
  ·cases es with
   | nil=>simp[she] at he
   | cons e0 es =>
    simp[she] at he;subst he;have:=h0 e0 rfl;cases e0 with
    | mk k v=>cases k<;>first|(simp[shv];done)|exact absurd rfl this.1|exact absurd rfl (this.2 _)
  ·simp only[she,List.getElem?_map] at he;cases hj:es[j]? with
   | none=>rw[hj] at he;simp at he
   | some e0 =>
    rw[hj] at he;simp at he;subst he;obtain⟨v,g1,g2,g3⟩:=h3 j e0 hj;exact⟨v,g1,VR.sh hl g2,VR.sh hl g3⟩
 ·exact .inr (.inl ⟨a,n,rfl,h2⟩)
 ·refine .inr (.inr ⟨r,rq,_,qw1,h2,hk2,fun p hp=>?_⟩)
  obtain⟨q,hq,rfl⟩:=List.mem_map.1 hp;exact⟨(h3 q hq).1,VR.sh hl (h3 q hq).2⟩
theorem Rel.joinH{ρ ρ2:Ren}{B:Nat->Prop}{h:Hp}{w w1:World}{bs:List Blk}(r:Rel σ0 ρ B h w)(r2:Rel σ0 ρ2 (low w.heap.size) (mkH 0 bs) w1)(hp:∀k,k<w.heap.size->w1.heap[k]?=w.heap[k]?)(hw:w.heap.size<=w1.heap.size)
  (f1:∀k a,ρ.frz k=some a->ρ2.frz k=some a) (f2:∀k a,ρ2.frz k=some a->ρ.frz k=some a∨w.heap.size<=k) :
  Rel σ0 (ρ.join ρ2 h.sz bs.length) B (qaR h (bs.map (shb h.sz))) w1:=by
 have r1:Rel σ0 ⟨ρ.loc,ρ2.frz,ρ.n⟩ B h w1:=r.frz' hp hw f1 f2 (fun k a hk=>(r2.frz k a hk).1)
 have n2:ρ2.n<=bs.length:=r2.dn.1
 have le1:Ren.le ⟨ρ.loc,ρ2.frz,ρ.n⟩ (ρ.join ρ2 h.sz bs.length) :=
  ⟨fun b L hb=>by rw[qjb (r.dom b L hb)];exact hb,fun _ _ h=>h,Nat.le_trans r.dn.1 (Nat.le_add_right _ _)⟩
 -- a block: old,or new
 have split:∀b L,ρ.join ρ2 h.sz bs.length b=some L->(b<h.sz∧ρ b=some L∧(qaR h (bs.map (shb h.sz))).tr.get b=h.tr.get b) ∨
   ∃c,b=c+h.sz∧ρ2 c=some L∧(qaR h (bs.map (shb h.sz))).tr.get b=((mkH 0 bs).tr.get c).map (shb h.sz)∧w.heap.size<=L.blk:=by
  intro b L hb
  by_cases hlt:b<h.sz
  ·rw[qjb hlt] at hb;refine .inl ⟨hlt,hb,?_⟩;rw[qbe,if_pos hlt]
  ·obtain⟨c,rfl⟩:∃c,b=c+h.sz:=⟨b-h.sz,by omega⟩
   rw[qeG] at hb;have hc:c<bs.length:=r2.dom c L hb;refine .inr ⟨c,rfl,hb,?_,Nat.not_lt.1 (r2.flr c L hb (Nat.zero_le _))⟩;rw[qbe,if_neg hlt,if_pos (by simp;omega),xI,Nat.add_sub_cancel,List.getElem?_map]
 have oldlt:∀b L x,ρ b=some L->h.tr.get b=some x->x≠.dead->L.blk<w.heap.size:=fun b L x h1 h2 h3=>r.blk_lt b L h1 x h2 h3
 have shd:∀{x y:Blk},(some x).map (shb h.sz)=some y->y≠.dead->x≠.dead:=by
  intro x y h1 h2 h3;subst h3;simp[shb] at h1;exact h2 h1.symm
 have shc:∀{o:Option Blk} {e:Nat} {w a:Bool} {cs:List AV},o.map (shb h.sz)=some (.cells e w a cs)->∃cs0,o=some (.cells e w a cs0)∧cs=qe9 h.sz cs0:=by
  intro o e w a cs ho;cases o with
  | none=>simp at ho
  | some x =>
   cases x with
   | cells e' w' a' cs'=>simp[shb] at ho;obtain⟨rfl,rfl,rfl,rfl⟩:=ho;exact⟨_,rfl,rfl⟩
   | dead=>simp[shb] at ho
   | map es=>simp[shb] at ho
 have shm:∀{o:Option Blk} {es:List (AV×AV)},o.map (shb h.sz)=some (.map es)->∃es0,o=some (.map es0)∧es=she h.sz es0:=by
  intro o es ho;cases o with
  | none=>simp at ho
  | some x =>
   cases x with
   | cells e' w' a' cs'=>simp[shb] at ho
   | dead=>simp[shb] at ho
   | map es'=>simp[shb] at ho;exact⟨es',rfl,ho.symm⟩
 have shn:∀{o:Option Blk} {y:Blk},o.map (shb h.sz)=some y->y≠.dead->∃x,o=some x∧x≠.dead:=by
  intro o y ho hy;cases o with
  | none=>simp at ho
  | some x=>exact⟨x,rfl,shd ho hy⟩
 refine⟨fun b L hb=>?_,?_,?_,?_,?_,?_,?_,qet r.base hw,?_,?_⟩
 ·rw[qek,List.length_map];rcases split b L hb with⟨h1,_⟩|⟨c,rfl,h1,_⟩
  ·omega
  ·have:c<bs.length:=r2.dom c L h1;omega
 ·intro b L e wf af cs hb hg;rcases split b L hb with⟨h1,h2,h3⟩|⟨c,rfl,h2,h3,_⟩
  ·rw[h3] at hg;obtain⟨q1,c,ty,fz,q2,q3,q4,q5,q6⟩:=r1.cells b L e wf af cs h2 hg;exact⟨q1,c,ty,fz,q2,q3,q4,fun j v hv=>let ⟨v',g7,g8⟩:=q5 j v hv;⟨v',g7,g8.mono le1⟩,q6⟩
  ·rw[h3] at hg;obtain⟨cs0,g1,rfl⟩:=shc hg;obtain⟨q1,c',ty,fz,q2,q3,q4,q5,q6⟩:=r2.cells c L e wf af cs0 h2 g1;refine⟨q1,c',ty,fz,q2,q3,by rw[qdz];exact q4,fun j v hv=>?_,q6⟩
   rw[qny] at hv;cases hj:cs0[j]? with
   | none=>rw[hj] at hv;simp at hv
   | some v0 =>
    rw[hj] at hv;simp at hv;subst hv;obtain⟨v',g7,g8⟩:=q5 j v0 hj;exact⟨v',g7,g8.sh n2⟩
 ·intro b L es hb hg;rcases split b L hb with⟨h1,h2,h3⟩|⟨c,rfl,h2,h3,_⟩
  ·rw[h3] at hg;obtain⟨q1,o,q2,q3⟩:=r1.maps b L es h2 hg;exact⟨q1,o,q2,q3.mono le1⟩
  ·rw[h3] at hg;obtain⟨es0,g1,rfl⟩:=shm hg;obtain⟨q1,o,q2,q3⟩:=r2.maps c L es0 h2 g1;exact⟨q1,o,q2,q3.sh n2⟩
 ·intro b L e af cs hb hg b' L' x hb' hx hd he;rcases split b L hb with⟨h1,h2,h3⟩|⟨c,rfl,h2,h3,h4⟩<;>rcases split b' L' hb' with⟨i1,i2,i3⟩|⟨c',rfl,i2,i3,i4⟩
  ·rw[h3] at hg;rw[i3] at hx;exact r.excl b L e af cs h2 hg b' L' x i2 hx hd he
  ·rw[h3] at hg;have:=oldlt b L _ h2 hg (by simp);omega
  ·rw[i3] at hx;have:=oldlt b' L' _ i2 hx hd;omega
  ·rw[h3] at hg;rw[i3] at hx;obtain⟨cs0,g1,rfl⟩:=shc hg;obtain⟨x0,g2,g3⟩:=shn hx hd;rw[r2.excl c L e af cs0 h2 g1 c' L' x0 i2 g2 g3 he]
 ·intro b L es hb hg b' L' x hb' hx hd he;rcases split b L hb with⟨h1,h2,h3⟩|⟨c,rfl,h2,h3,h4⟩
  ·rw[h3] at hg;rcases split b' L' hb' with⟨i1,i2,i3⟩|⟨c',rfl,i2,i3,i4⟩
   ·rw[i3] at hx;exact r.exclm b L es h2 hg b' L' x i2 hx hd he
   ·have:=oldlt b L _ h2 hg (by simp);omega
  ·rw[h3] at hg;obtain⟨es0,g1,rfl⟩:=shm hg;rcases split b' L' hb' with⟨i1,i2,i3⟩|⟨c',rfl,i2,i3,i4⟩
   ·rw[i3] at hx;have:=oldlt b' L' _ i2 hx hd;omega
   ·rw[i3] at hx;obtain⟨x0,g2,g3⟩:=shn hx hd;rw[r2.exclm c L es0 h2 g1 c' L' x0 i2 g2 g3 he]
 ·intro b L e wf cs hb hg b' L' e' wf' af' cs' hb' hx he;rcases split b L hb with⟨h1,h2,h3⟩|⟨c,rfl,h2,h3,h4⟩<;>rcases split b' L' hb' with⟨i1,i2,i3⟩|⟨c',rfl,i2,i3,i4⟩
  ·rw[h3] at hg;rw[i3] at hx;exact r.app b L e wf cs h2 hg b' L' e' wf' af' cs' i2 hx he
  ·rw[h3] at hg;have:=oldlt b L _ h2 hg (by simp);omega
  ·rw[i3] at hx;have:=oldlt b' L' _ i2 hx (by simp);omega
  ·rw[h3] at hg;rw[i3] at hx;obtain⟨cs0,g1,rfl⟩:=shc hg;obtain⟨cs1,g2,rfl⟩:=shc hx;have q:=r2.app c L e wf cs0 h2 g1 c' L' e' wf' af' cs1 i2 g2 he;rw[qdz,qdz];exact⟨q.1,fun hh=>by rw[q.2 hh]⟩
 ·intro b L hb hf;rw[qfG] at hf;rcases split b L hb with⟨h1,h2,h3⟩|⟨c,rfl,h2,h3,h4⟩
  ·exact r.flr b L h2 hf
  ·exact qau r.base h4
 ·intro k arr hk;refine⟨(r2.frz k arr hk).1,fun b L x hb hx hd=>?_⟩
  rcases split b L hb with⟨h1,h2,h3⟩|⟨c,rfl,h2,h3,h4⟩
  ·rw[h3] at hx;exact (r1.frz k arr hk).2 b L x h2 hx hd
  ·rw[h3] at hx;obtain⟨x0,g2,g3⟩:=shn hx hd;exact (r2.frz k arr hk).2 c L x0 h2 g2 g3
 ·refine⟨?_,fun b L hb=>?_⟩
  ·show h.sz+bs.length<=_;rw[qek,List.length_map];exact Nat.le_refl _
  ·rcases split b L hb with⟨_,h2,_⟩|⟨c,rfl,h2,_,_⟩
   ·exact Nat.lt_of_lt_of_le (r.dn.2 b L h2) hw
   ·exact r2.dn.2 c L h2
def Own(P:Program)(f:Nat)(vs:List AV)(v:AV)(bs:List Blk):Prop :=
 ∀(h:Hp) (k:AV->Hp->Prop),k (shv h.sz v) (qaR h (bs.map (shb h.sz)))->SC P f vs h k
def quI(v:AV)(bs:List Blk)(v':AV)(h':Hp):Prop:=h'.fl=0->∃src:List Nat,NV (rl src h'.sz) bs.length v' v∧BWs h' (rl src h'.sz) bs.length src bs∧(src.filter fun b=>decide (b<h'.sz)).Nodup
theorem Own.of_SC{f:Nat}{vs:List AV}{v:AV}{bs:List Blk}(hcl:qu vs=true)(hs:SC P f vs H0 (quI v bs)):Own P f vs v bs:=by
 intro h k hk;refine⟨hs.1,fun ρ B w args r ha=>?_⟩
 have hcr:=ha.crs hcl;refine qce.mono (hs.2 ⟨fun _=>none,ρ.frz,0⟩ (low w.heap.size) w args r.empty (CRs.vr (ρ:=⟨fun _=>none,ρ.frz,0⟩) hcr)) ?_
 rintro e w1 ⟨v0,v',h1,ρ1,rfl,g1,g2,g3,g4⟩;obtain⟨src,s1,s2,s3⟩:=g1 g4.fl;have hw:Wk 0 (mkT [(0,v0)]) h1 (mkT [(0,v)]) (mkH 0 bs):=Wk.mk [(0,v)] bs src ⟨⟨v0,by simp[mkT,Tr.get_set],s1⟩,trivial⟩ s2 s3 g4.fl
 obtain⟨ρ2,t2,r2,k2⟩:=hw ρ1 (low w.heap.size) w1 #[v'] (fun j x hj=>by
  have:=qdv hj;simp at this;obtain⟨rfl,rfl⟩:=this;exact⟨by simp,by simpa using g2⟩) g3
 have hv2:VR σ0 ρ2 v v':=by
  have:=(t2 0 v (by simp[mkT,Tr.get_set])).2;simpa using this
 have f1:∀k a,ρ.frz k=some a->ρ2.frz k=some a:=fun k a hk=>k2.frz k a (g4.frz k a hk)
 have f2:∀k a,ρ2.frz k=some a->ρ.frz k=some a∨w.heap.size<=k:=fun k a hk=>(k2.fnew k a hk).elim (fun hk=>(g4.fnew k a hk).imp id Nat.not_lt.1) (fun hk=>.inr (Nat.not_lt.1 hk))
 refine⟨_,v',_,ρ.join ρ2 h.sz bs.length,rfl,hk,hv2.sh r2.dn.1,Rel.joinH r r2 g4.pres g4.wle f1 f2,?_⟩;refine⟨fun b hb=>qjb hb,by rw[qek];omega,qfG,fun b _ hb=>by rw[qbe,if_pos hb],fun k hk=>g4.pres k (r.base _ hk),g4.wle,g4.io,f1,fun k a hk=>(f2 k a hk).imp id (qau r.base),?_⟩
 exact Nat.le_trans r.dn.1 (Nat.le_add_right _ _)
def qg6(P:Program)(f:Nat)(vs':List AV)(v:AV)(bs:List Blk):Prop :=
 ∀(h:Hp) (vs:List AV) (k:AV->Hp->Prop),Frzs h vs vs'->k (shv h.sz v) (qaR h (bs.map (shb h.sz)))->SC P f vs h k
def PC(P:Program)(f:Nat)(vs:List AV)(h:Hp)(k:AV->Hp->Prop):Prop:=∃v h',(∀k':AV->Hp->Prop,k' v h'->SC P f vs h k')∧k v h'
def PY(P:Program)(b:Nat)(vs:List AV)(h:Hp)(k:AV->Hp->Prop):Prop:=∃v h',(∀k':AV->Hp->Prop,k' v h'->CC P 0 (.yl b::vs) h k')∧k v h'
@[congr] theorem qB3 {f:Nat} {vs vs':List AV} {h:Hp} {k:AV->Hp->Prop} {mk:Prop} (_:zc=mk) (h':vs=vs'):PC P f vs h k=PC P f vs' h k:=by rw[h']
@[congr] theorem qB4 {b:Nat} {vs vs':List AV} {h:Hp} {k:AV->Hp->Prop} {mk:Prop} (_:zc=mk) (h':vs=vs'):PY P b vs h k=PY P b vs' h k:=by rw[h']
def PCC(P:Program):zx:=fun f vs h k=>∃v h',(∀k':AV->Hp->Prop,k' v h'->CC P f vs h k')∧k v h'
theorem qD7:LC (PCC P):=fun _ _ _ _ ⟨v,h',h1,h2⟩=>⟨v,h',h2,fun _ h3=>⟨v,h',h1,h3⟩⟩
theorem qq3:qcP P σ0 (PCC P):=⟨fun f vs h _ ⟨_,_,h1,h2⟩=>(qdZ P).1 f vs h _ (h1 _ h2),fun b vs h _ ⟨_,_,h1,h2⟩=>(qdZ P).2 b vs h _ (h1 _ h2)⟩
theorem qyZ{b:Nat}{vs:List AV}{h:Hp}{k:AV->Hp->Prop}:cvF (PCC P) (.yl b) vs h k↔PY P b vs h k:=Iff.rfl
theorem qyY{f:Nat}{a c vs:List AV}{h:Hp}{k:AV->Hp->Prop}:cvF (PCC P) (.fn f a c) vs h k↔PC P f (a++(vs++c)) h k:=Iff.rfl
theorem qtK{dst:Option Nat}{f:Nat}{args:List O}{ops:List ROp}{Q:Tr AV->Hp->Prop}{t:Tr AV}{s fl:Nat}{tr:Tr Blk}:VR' (PCC P) (⟨dst,.callF f args,none⟩::ops) Q t ⟨s,fl,tr⟩↔qan t args (fun vs=>PC P f vs ⟨s,s,tr⟩ (fun v h'=>qab t dst v (fun t'=>VR' (PCC P) ops Q t' (h'.down fl)))):=qpy
theorem qtL{dst:Option Nat}{f:Nat}{args:List O}{ops:List ROp}{Q:Tr AV->Hp->Prop}{t:Tr AV}{h:Hp}:VR' (PCC P) (⟨dst,.callW f args,none⟩::ops) Q t h↔qan t args (fun vs=>PC P f vs h (fun v h'=>qab t dst v (fun t'=>VR' (PCC P) ops Q t' h'))):=qpA
theorem zD{ops:List ROp}{Q:Tr AV->Hp->Prop}{t:Tr AV}{h:Hp}(hr:VR' (PCC P) ops Q t h):VD P ops Q t h:=qCb qD7 qq3 hr
theorem qd.pc{f:Nat}{vs:List AV}{v:AV}{h:Hp}{k:AV->Hp->Prop}(hp:qd P f vs v)(hk:k v h):PC P f vs h k:=⟨v,h,fun k' h'=>hp h k' h',hk⟩
theorem qg6.pc{f:Nat}{vs vs':List AV}{v:AV}{bs:List Blk}{h:Hp}{k:AV->Hp->Prop}(hp:qg6 P f vs' v bs)(hf:Frzs h vs vs')(hk:k (shv h.sz v) (qaR h (bs.map (shb h.sz)))):PC P f vs h k:=⟨_,_,fun k' h'=>hp h vs k' hf h',hk⟩
theorem Own.sc{f:Nat}{vs:List AV}{v:AV}{bs:List Blk}{h:Hp}{k:AV->Hp->Prop}(hp:Own P f vs v bs)(hk:k (shv h.sz v) (qaR h (bs.map (shb h.sz)))):SC P f vs h k:=hp h k hk
theorem qjd{s f:Nat}{tr:Tr Blk}{x:Blk}:Hp.push ⟨s,f,tr⟩ x=⟨s+1,f,tr.set s x⟩:=rfl
theorem qf5{h:Hp}:qaR h []=h:=rfl
theorem qeJ{h:Hp}{x:Blk}{xs:List Blk}:qaR h (x::xs)=qaR (h.push x) xs:=rfl

abbrev qyb:=Nat->List AV->Option AV
def qD6(P:Program)(ho:qyb):Prop:=∀f vs v,ho f vs=some v->qd P f vs v
theorem S.mono{n:Nat}{c:ICode}{Q Q':X->Tr AV->Hp->Prop}{t:Tr AV}{h:Hp}(hs:S P n c Q t h)(hq:∀e t h,Q e t h->Q' e t h):S P n c Q' t h:=by
 intro nt code hc hn ro hro ρ B w a ht hsz r;refine wpIn_mono (hs nt code hc hn ro hro ρ B w a ht hsz r) ?_;rintro e a1 w1 ⟨x1,t1,h1,ρ1,rs,hx,hq1,rest⟩;exact⟨x1,t1,h1,ρ1,rs,hx,hq _ _ _ hq1,rest⟩
end Go.Kc
end
section
namespace Go.Kc
variable {P:Program} {t:Tr AV} {h:Hp} {k:AV->Hp->Prop}

def qkd(l:List UInt8)(i:Nat):Nat×Nat:=Utf8.decode ⟨l.toArray⟩ i
theorem qqF{x:O}:opK qy (.rangeS x) t h k↔evK t x (fun x=>match x with | .s a=>xJ h (.map (xm a 0)) (fun b h'=>k (.ptr b 0) h')|_=>False):=Iff.rfl
def qvZ(x:Blk)(k:List UInt8->Nat->Prop):Prop:=∃a n,x = .map (xm a n)∧k a n
@[congr] theorem qzt {x x':Blk} {k:List UInt8->Nat->Prop} {mk:Prop} (_:zc=mk) (h:x=x'):qvZ x k=qvZ x' k:=by rw[h]
theorem qqi{a a':List UInt8}{n n':Nat}(e:xm a n=xm a' n'):a=a'∧n=n':=by
 simp only[xm,List.cons.injEq,Prod.mk.injEq,AV.s.injEq,AV.i.injEq,true_and,and_true] at e;exact⟨e.1,Int.ofNat.inj e.2⟩
theorem qv0{a:List UInt8}{n:Nat}{k:List UInt8->Nat->Prop}:qvZ (.map (xm a n)) k↔k a n:=by
 constructor
 ·rintro⟨a',n',h1,h2⟩;obtain⟨rfl,rfl⟩:=qqi (Blk.map.inj h1);exact h2
 ·intro h1;exact⟨a,n,rfl,h1⟩
theorem qtG{x:O}:opK qy (.nextS x) t h k↔evK t x (fun x=>unP x (fun b o=>ifK (o=0) (evB (h.tr.get b) (fun y=>qvZ y (fun a n=>if n<a.length then evN (n+(qkd a n).2) (fun m=>qav h b (.map (xm a m)) (fun h'=>evA (.i .i32 ((qkd a n).1:Int)) (fun c=>k (.tup [.b true,.i .i64 (n:Int),c]) h'))) else k (.tup [.b false]) h))))):=by
 show evK t x (fun x=>unP x (fun b o=>qk (Nat.beq o 0) (qkX h b _)))↔_
 refine iff_of_eq (congrArg _ (funext fun v=>congrArg _ (funext fun b=>funext fun o=>?_)))
 rw[show (qk (Nat.beq o 0)=fun p=>ifK (o=0) p) from by funext p;exact propext ((qa _ _).trans (by rw[qeu];exact Iff.rfl))]
 refine congrArg _ (propext (qfZ.trans ?_))
 have body:∀a n,(match a[n]? with
  | some c=>(Bool.rec (motive:=fun _=>Prop)
    (qav h b (.map (xm a (Nat.add n (Utf8.decode ⟨a.toArray⟩ n).2))) (fun h'=>k (.tup [.b true,.i .i64 (Int.ofNat n),.i .i32 (Int.ofNat (Utf8.decode ⟨a.toArray⟩ n).1)]) h'))
    (qo (Nat.succ n) (fun m=>qav h b (.map (xm a m)) (fun h'=>k (.tup [.b true,.i .i64 (Int.ofNat n),.i .i32 (Int.ofNat c.toNat)]) h')))
    (Nat.ble (Nat.succ c.toNat) 128):Prop)
  | none=>k (.tup [.b false]) h)↔if n<a.length then evN (n+(qkd a n).2) (fun m=>qav h b (.map (xm a m)) (fun h'=>evA (.i .i32 ((qkd a n).1:Int)) (fun c=>k (.tup [.b true,.i .i64 (n:Int),c]) h'))) else k (.tup [.b false]) h:=by
  intro a n
  by_cases hi:n<a.length
  ·rw[if_pos hi,zzE hi];dsimp only;cases hc:Nat.ble (Nat.succ a[n].toNat) 128 with
   | false=>exact Iff.rfl
   | true =>
    have hlt:=Nat.le_of_ble_eq_true hc;have hd:qkd a n=(a[n].toNat,1):=qhk (zzE hi) (by omega);show qo _ _↔_;rw[qt,hd];exact Iff.rfl
  ·rw[if_neg hi,List.getElem?_eq_none (by omega)]
 constructor
 ·rintro⟨a,n,h1,h2⟩;exact⟨_,h1,a,n,rfl,(body a n).1 h2⟩
 ·rintro⟨_,h1,a,n,rfl,h2⟩;exact⟨a,n,h1,(body a n).2 h2⟩
def qc8(es:List (AV×AV)):Prop:=∀e ∈ es,clo e.1=true∧clo e.2=true
theorem qyE{r:Nat->Nat}{m b:Nat}{es:List (AV×AV)}(hb:b<h.sz):BW h r m b (.map es)↔evB (h.tr.get b) (fun x=>qne x (fun es'=>EsW r m es' es)):=by
 constructor
 ·rintro (h1|h1|⟨e',w0,a0,cs,w',a',cs'',h1,h2,h3,h4,h5⟩|⟨es',es2,h1,h2,h3⟩)
  ·omega
  ·cases h1
  ·cases h2
  ·cases h2;exact⟨_,h1,h3⟩
 ·rintro⟨x,h1,h2⟩;cases x with
  | map es'=>exact .inr (.inr (.inr ⟨_,_,h1,rfl,h2⟩))
  | dead=>exact h2.elim
  | cells e0 w0 a0 cs=>exact h2.elim
theorem qlC{r:Nat->Nat}{m:Nat}{es es':List (AV×AV)}(hn:∀lr ts,es'≠zn lr ts):EsW r m es es'↔es=es'∧qc8 es' :=
 ⟨fun h=>by
  rcases h with⟨rfl,h⟩|⟨lr,ts,ts',_,h,_⟩
  ·exact⟨rfl,h⟩
  ·exact absurd h (hn _ _),fun⟨h1,h2⟩=>by subst h1;exact .inl ⟨rfl,h2⟩⟩
theorem qvx{r:Nat->Nat}{m:Nat}{es:List (AV×AV)}:EsW r m es []↔es=[]:=(qlC (by simp[zn])).trans ⟨And.left,fun h=>⟨h,by intro e he;cases he⟩⟩
theorem qCN{r:Nat->Nat}{m:Nat}{es es':List (AV×AV)}{a:List UInt8}{v:AV}:EsW r m es ((.s a,v)::es')↔es=(.s a,v)::es'∧qc8 ((.s a,v)::es'):=qlC (by simp[zn])
theorem qCM{r:Nat->Nat}{m:Nat}{es es':List (AV×AV)}{q:IntKind}{a:Int}{v:AV}:EsW r m es ((.i q a,v)::es')↔es=(.i q a,v)::es'∧qc8 ((.i q a,v)::es'):=qlC (by simp[zn])
theorem qy6{r:Nat->Nat}{m:Nat}{es:List (AV×AV)}{a:List UInt8}{n:Nat}:EsW r m es (xm a n)↔es=xm a n∧qc8 (xm a n):=qlC (by simp[xm,zn])
theorem qcv{r:Nat->Nat}{m:Nat}{lr lr':Loop}{ts ts':List (Nat×AV)}:EsW r m (zn lr ts) (zn lr' ts')↔lr=lr'∧TsW r m ts ts' :=
 ⟨fun h=>by
  rcases h with⟨h1,h⟩|⟨l,t1,t2,h1,h2,h3⟩
  ·exact absurd (h (.lp lr,.undef) (by simp[zn])).1 (by simp[clo])
  ·obtain⟨rfl,rfl⟩:=qj2 h1;obtain⟨rfl,rfl⟩:=qj2 h2;exact⟨rfl,h3⟩,fun⟨h1,h2⟩=>by subst h1;exact .inr ⟨_,_,_,rfl,rfl,h2⟩⟩
theorem qcC{r:Nat->Nat}{m:Nat}{ts:List (Nat×AV)}:TsW r m ts []↔True:=iff_true_intro (by intro p hp;cases hp)
theorem qbA{r:Nat->Nat}{m:Nat}{ts ts':List (Nat×AV)}{p:Nat×AV}:TsW r m ts (p::ts')↔evO (qiH ts p.1) (fun v=>NV r m v p.2)∧TsW r m ts ts':=by
 simp only[TsW,List.mem_cons,forall_eq_or_imp];exact Iff.rfl
theorem jq{p:Nat×AV}{l:List (Nat×AV)}{j:Nat}:qiH (p::l) j=if p.1=j then some p.2 else qiH l j:=rfl
theorem qqt{a:List UInt8}{n:Nat}:qc8 (xm a n)↔True:=by
 refine iff_true_intro ?_;intro e he;simp only[xm,List.mem_cons,List.mem_nil_iff,or_false] at he;rcases he with rfl|rfl<;>exact⟨rfl,rfl⟩
theorem qn9:qc8 []↔True:=iff_true_intro (by intro e he;cases he)
theorem qiK{e:AV×AV}{es:List (AV×AV)}:qc8 (e::es)↔(clo e.1=true∧clo e.2=true)∧qc8 es:=by simp[qc8]
theorem SC.nil0{f:Nat}{k:AV->Hp->Prop}(h1:SC P f [.nils] h k)(h2:SC P f [.nz] h k):SC P f [.fz 0 []] h k:=by
 refine⟨h1.1,fun ρ B w args r ha=>?_⟩
 generalize hl:args.toList=xs at ha;cases ha with
 | cons _ _ x xs hx hxs =>
  cases hx with
  | fz _ off c _ k' arr hn hk hs=>exact h2.2 ρ B w args r (by rw[hl];exact .cons _ _ _ _ (.nz _ _) hxs)
  | fz0 a =>
   cases a with
   | none=>exact h1.2 ρ B w args r (by rw[hl];exact .cons _ _ _ _ .nils hxs)
   | some a=>exact h2.2 ρ B w args r (by rw[hl];exact .cons _ _ _ _ (.nz _ _) hxs)
theorem qh{r:Nat->Nat}{m:Nat}{vs:List AV}(hc:qu vs=true):NVs r m vs vs↔True:=iff_true_intro (NVs.refl hc)
theorem zp{vs:List AV}(hc:qu vs=true):Frzs h vs vs↔True:=iff_true_intro (Frzs.self hc)
theorem Wk.mkn{n:Nat}{t:Tr AV}(ts:List (Nat×AV))(bl:List Blk)(src:List Nat)(hT:TWs t (rl src h.sz) bl.length ts)(hB:BWs h (rl src h.sz) bl.length src bl)
  (hI:((src.filter fun b=>decide (b<h.sz)).Nodup)) (hfl:h.fl=0) (hn:n<=bl.length) (hlow:∀b,b<n->rl src h.sz b=b):Wk n t h (mkT ts) (mkH 0 bl):=by
 obtain⟨hlen,hget⟩:=hB.get;refine Wk.of (r:=rl src h.sz) ⟨hfl.symm,fun b' x' hb hg=>?_,fun b1 b2 h1 h2 _ _ he hl=>?_,fun b' _ _ _=>by rw[hfl];exact Nat.zero_le _,hlow,hn,fun b _ hb=>by rw[hfl] at hb;exact absurd hb (Nat.not_lt_zero _),fun j v' hj=>?_⟩
 ·rw[xI] at hg;obtain⟨b,q1,q2⟩:=hget b' x' hg;have:rl src h.sz b'=b:=by simp[rl,List.getD_eq_getElem?_getD,q1]
  rw[this];exact q2
 ·have h1:b1<src.length:=by rw[hlen];exact h1
  have h2:b2<src.length:=by rw[hlen];exact h2
  simp only[rl,List.getD_eq_getElem?_getD,zzE h1,zzE h2,Option.getD_some] at he hl;exact Wk.mk.nodup_filter_inj hI h1 h2 he (by simpa using hl)
 ·exact hT.get _ (qdv hj)
theorem SL.loopn{n:Nat}{α:Type}{x:ICode}{Q:X->Tr AV->Hp->Prop}(T:α->List (Nat×AV))(B:α->List Blk)(I:α->Prop)(μ:α->Nat)(a0:α)(src:List Nat)
  (hT:TWs t (rl src h.sz) (B a0).length (T a0)) (hB:BWs h (rl src h.sz) (B a0).length src (B a0)) (hI:(src.filter fun b=>decide (b<h.sz)).Nodup) (hfl:h.fl=0) (hn:n<=(B a0).length) (hlow:∀b,b<n->rl src h.sz b=b) (h0:I a0)
  (step:∀a,I a->∀G:Tr AV->Hp->Prop,(∀b,I b->μ b<μ a->∀t' h',Wk n t' h' (mkT (T b)) (mkH 0 (B b))->G t' h')->
   V P n x (fun e t h=>onX e (G t h) (fun id=>Q (.exit id) t h) (Q .ret t h)) (mkT (T a)) (mkH 0 (B a))):SL P n x Q t h:=by
 have main:∀m a,μ a=m->I a->SL P n x Q (mkT (T a)) (mkH 0 (B a)):=by
  intro m
  induction m using Nat.strongRecOn with
  | ind m ih =>
   intro a ha hi;exact qiX (step a hi (fun t h=>SL P n x Q t h) fun b hb hlt t' h' hw=>SL.weak hw (ih (μ b) (ha ▸ hlt) b rfl hb))
 exact SL.weak (Wk.mkn (T a0) (B a0) src hT hB hI hfl hn hlow) (main _ a0 rfl h0)
end Go.Kc
end
section
namespace Go.Kc
variable {P:Program}

mutual
def rnv(g:Nat->Nat):AV->AV
 | .ptr b o=>.ptr (g b) o
 | .sl b o n c l=>.sl (g b) o n c l
 | .map b=>.map (g b)
 | .own b n=>.own (g b) n
 | .yl b=>.yl (g b)
 | .fn f a c=>.fn f (qaS g a) (qaS g c)
 | .ifc t v=>.ifc t (rnv g v)
 | .agg cs=>.agg (qaS g cs)
 | .tup cs=>.tup (qaS g cs)
 | v=>v
def qaS(g:Nat->Nat):List AV->List AV
 | []=>[]
 | v::vs=>rnv g v::qaS g vs
end
mutual
def bnd(m:Nat):AV->Bool
 | .ptr b _=>decide (b<m)
 | .sl b _ _ _ _=>decide (b<m)
 | .map b=>decide (b<m)
 | .own b _=>decide (b<m)
 | .yl b=>decide (b<m)
 | .fn _ a c=>qam m a&&qam m c
 | .ifc _ v=>bnd m v
 | .agg cs=>qam m cs
 | .tup cs=>qam m cs
 | _=>true
def qam(m:Nat):List AV->Bool
 | []=>true
 | v::vs=>bnd m v&&qam m vs
end
theorem qj8{g:Nat->Nat}:∀{vs:List AV} {j:Nat},(qaS g vs)[j]?=(vs[j]?).map (rnv g)
 | [],j=>by simp[qaS]
 | v::vs,0=>by simp[qaS]
 | v::vs,j+1=>by simpa[qaS] using qj8 (vs:=vs) (j:=j)
theorem qaz{g:Nat->Nat}:∀{vs:List AV},(qaS g vs).length=vs.length
 | []=>rfl
 | v::vs=>by simp[qaS,qaz (vs:=vs)]
theorem qmr{m:Nat}:∀{vs:List AV} {j:Nat} {v:AV},qam m vs=true->vs[j]?=some v->bnd m v=true
 | [],_,_,_,h=>by simp at h
 | x::xs,0,_,hb,h=>by
  simp only[qam,Bool.and_eq_true] at hb;simp at h;subst h;exact hb.1
 | x::xs,j+1,_,hb,h=>by
  simp only[qam,Bool.and_eq_true] at hb;exact qmr (vs:=xs) (j:=j) hb.2 (by simpa using h)
mutual
theorem VR.rn{ρ2 ρ3:Ren}{g:Nat->Nat}(h1:∀b L,ρ2 b=some L->ρ3 (g b)=some L)(h2:∀k a,ρ2.frz k=some a->ρ3.frz k=some a)(h3:∀b,b<ρ2.n->g b<ρ3.n):∀{v:AV} {x:Value},VR σ0 ρ2 v x->VR σ0 ρ3 (rnv g v) x
 | _,_,.undef v=>.undef v
 | _,_,.b x=>.b x
 | _,_,.i k n=>.i k n
 | _,_,.s x=>.s x
 | _,_,.nilp=>.nilp
 | _,_,.ptr b o L h=>.ptr _ _ L (h1 _ _ h)
 | _,_,.nils=>.nils
 | _,_,.sl b o len cap c loose L h hc=>.sl _ _ _ _ _ _ L (h1 _ _ h) hc
 | _,_,.slz b o x l' L h=>.slz _ _ _ _ L (h1 _ _ h)
 | _,_,.nilf=>.nilf
 | _,_,.fn f first cap first' cap' q1 q2=>.fn _ _ _ _ _ (VRs.rn h1 h2 h3 q1) (VRs.rn h1 h2 h3 q2)
 | _,_,.nili=>.nili
 | _,_,.ifc t v v' h=>.ifc _ _ _ (VR.rn h1 h2 h3 h)
 | _,_,.agg cs cs' h=>.agg _ _ (VRs.rn h1 h2 h3 h)
 | _,_,.tup cs cs' h=>.tup _ _ (VRs.rn h1 h2 h3 h)
 | _,_,.nilm=>.nilm
 | _,_,.map b L h h0=>.map _ L (h1 _ _ h) h0
 | _,_,.sym j=>.sym j
 | _,_,.fz n off c cs k arr hn h hs=>.fz n off c cs k arr hn (h2 _ _ h) (hs.mono h2)
 | _,_,.fz0 a=>.fz0 a
 | _,_,.pf off base cs k arr h hs=>.pf off base cs k arr (h2 _ _ h) (hs.mono h2)
 | _,_,.e0 a=>.e0 a
 | _,_,.nz a c=>.nz a c
 | _,_,.own0 b a hb=>.own0 _ _ (h3 _ hb)
 | _,_,.own b n c L h hn hc'=>.own _ _ _ L (h1 _ _ h) hn hc'
 | _,_,.yl b L h=>.yl _ L (h1 _ _ h)
theorem VRs.rn{ρ2 ρ3:Ren}{g:Nat->Nat}(h1:∀b L,ρ2 b=some L->ρ3 (g b)=some L)(h2:∀k a,ρ2.frz k=some a->ρ3.frz k=some a)(h3:∀b,b<ρ2.n->g b<ρ3.n):∀{v:List AV} {x:List Value},VRs σ0 ρ2 v x->VRs σ0 ρ3 (qaS g v) x
 | _,_,.nil=>.nil
 | _,_,.cons v vs v' vs' h hs=>.cons _ _ _ _ (VR.rn h1 h2 h3 h) (VRs.rn h1 h2 h3 hs)
end
mutual
theorem VR.nr{ρ ρs:Ren}{g:Nat->Nat}{m:Nat}(h1:∀b L,b<m->ρ (g b)=some L->ρs b=some L)(h2:ρs.frz=ρ.frz)(h3:ρs.n=m):∀{v:AV} {x:Value},bnd m v=true->VR σ0 ρ (rnv g v) x->VR σ0 ρs v x
 | .undef,_,_,h=>by cases h;exact .undef _
 | .b _,_,_,h=>by cases h;exact .b _
 | .i _ _,_,_,h=>by cases h;exact .i _ _
 | .s _,_,_,h=>by cases h;exact .s _
 | .nilp,_,_,h=>by cases h;exact .nilp
 | .ptr b o,_,hb,h=>by
  simp only[bnd,decide_eq_true_eq] at hb;cases h with
  | ptr _ _ L q=>exact .ptr _ _ L (h1 _ _ hb q)
 | .nils,_,_,h=>by cases h;exact .nils
 | .sl b o n c l,_,hb,h=>by
  simp only[bnd,decide_eq_true_eq] at hb;cases h with
  | sl _ _ _ _ _ _ L q hc=>exact .sl _ _ _ _ _ _ L (h1 _ _ hb q) hc
  | slz _ _ _ _ L q=>exact .slz _ _ _ _ L (h1 _ _ hb q)
 | .nilf,_,_,h=>by cases h;exact .nilf
 | .fn f a c,_,hb,h=>by
  simp only[bnd,Bool.and_eq_true] at hb;cases h with
  | fn _ _ _ _ _ q1 q2=>exact .fn _ _ _ _ _ (VRs.nr h1 h2 h3 hb.1 q1) (VRs.nr h1 h2 h3 hb.2 q2)
 | .nili,_,_,h=>by cases h;exact .nili
 | .ifc t v,_,hb,h=>by
  simp only[bnd] at hb;cases h with
  | ifc _ _ _ q=>exact .ifc _ _ _ (VR.nr h1 h2 h3 hb q)
 | .agg cs,_,hb,h=>by
  simp only[bnd] at hb;cases h with
  | agg _ _ q=>exact .agg _ _ (VRs.nr h1 h2 h3 hb q)
 | .tup cs,_,hb,h=>by
  simp only[bnd] at hb;cases h with
  | tup _ _ q=>exact .tup _ _ (VRs.nr h1 h2 h3 hb q)
 | .nilm,_,_,h=>by cases h;exact .nilm
 | .map b,_,hb,h=>by
  simp only[bnd,decide_eq_true_eq] at hb;cases h with
  | map _ L q h0=>exact .map _ L (h1 _ _ hb q) h0
 | .sym j,_,_,h=>by cases h;exact .sym _
 | .fz n cs,_,_,h=>by
  cases h with
  | fz _ off c _ k arr hn q hs=>exact .fz _ off c _ k arr hn (by rw[h2];exact q) (by rw[h2];exact hs)
  | fz0 a=>exact .fz0 a
 | .pf cs o,_,_,h=>by
  cases h with
  | pf off base _ k arr q hs=>exact .pf _ base _ k arr (by rw[h2];exact q) (by rw[h2];exact hs)
 | .e0,_,_,h=>by cases h;exact .e0 _
 | .nz,_,_,h=>by cases h;exact .nz _ _
 | .own b n,_,hb,h=>by
  simp only[bnd,decide_eq_true_eq] at hb;cases h with
  | own0 _ a q=>exact .own0 _ _ (by rw[h3];exact hb)
  | own _ _ c L q hn hc=>exact .own _ _ c L (h1 _ _ hb q) hn hc
 | .yl b,_,hb,h=>by
  simp only[bnd,decide_eq_true_eq] at hb;cases h with
  | yl _ L q=>exact .yl _ L (h1 _ _ hb q)
 | .lp _,_,_,h=>by cases h
theorem VRs.nr{ρ ρs:Ren}{g:Nat->Nat}{m:Nat}(h1:∀b L,b<m->ρ (g b)=some L->ρs b=some L)(h2:ρs.frz=ρ.frz)(h3:ρs.n=m):∀{v:List AV} {x:List Value},qam m v=true->VRs σ0 ρ (qaS g v) x->VRs σ0 ρs v x
 | [],_,_,h=>by cases h;exact .nil
 | v::vs,_,hb,h=>by
  simp only[qam,Bool.and_eq_true] at hb;cases h with
  | cons _ _ _ _ q1 q2=>exact .cons _ _ _ _ (VR.nr h1 h2 h3 hb.1 q1) (VRs.nr h1 h2 h3 hb.2 q2)
end

def gAt(at':List Nat)(d:Nat):Nat->Nat:=fun b=>if b<at'.length then at'.getD b 0 else d+(b-at'.length)
theorem qdF{at':List Nat}{d b:Nat}(h:b<at'.length):gAt at' d b=at'[b]:=by
 simp[gAt,h]
theorem qjH{at':List Nat}{d b:Nat}(h:at'.length<=b):gAt at' d b=d+(b-at'.length):=by
 simp only[gAt];rw[if_neg (by omega)]
structure Lent (h:Hp) (at':List Nat) (bs:List Blk):Prop where
 len:at'.length=bs.length
 nd:at'.Nodup
 blk:∀i x,bs[i]?=some x->∃e a cs,x = .cells e true a cs∧qam bs.length cs=true∧h.tr.get (gAt at' h.sz i)=some (.cells e true a (qaS (gAt at' h.sz) cs))∧h.fl<=gAt at' h.sz i∧gAt at' h.sz i<h.sz
def Ren.small(ρ:Ren)(at':List Nat)(d:Nat):Ren:=⟨fun i=>if i<at'.length then ρ (gAt at' d i) else none,ρ.frz,at'.length⟩
theorem qdd{ρ:Ren}{at':List Nat}{d i:Nat}{L:Loc}(h:ρ.small at' d i=some L):i<at'.length∧ρ (gAt at' d i)=some L:=by
 simp only[Ren.small] at h;split at h
 ·exact⟨by assumption,h⟩
 ·cases h
def Bar(ρ:Ren)(B:Nat->Prop)(h:Hp)(at':List Nat):Nat->Prop:=fun k=>B k∨∃b L x,ρ b=some L∧b ∉ at'∧h.tr.get b=some x∧x≠.dead∧L.blk=k
theorem Lent.inj{h:Hp}{at':List Nat}{bs:List Blk}(l:Lent h at' bs){i j:Nat}(hi:i<at'.length)(hj:j<at'.length)(he:gAt at' h.sz i=gAt at' h.sz j):i=j:=by
 rw[qdF hi,qdF hj] at he;exact (List.getElem_inj l.nd).1 he
theorem Lent.mem{h:Hp}{at':List Nat}{i:Nat}(hi:i<at'.length):gAt at' h.sz i ∈ at':=by
 rw[qdF hi];exact List.getElem_mem _
theorem Rel.small{ρ:Ren}{B:Nat->Prop}{h:Hp}{w:World}{at':List Nat}{bs:List Blk}(r:Rel σ0 ρ B h w)(l:Lent h at' bs):Rel σ0 (ρ.small at' h.sz) (Bar ρ B h at') (mkH 0 bs) w:=by
 have get:∀i L x,ρ.small at' h.sz i=some L->(mkH 0 bs).tr.get i=some x->i<at'.length∧ρ (gAt at' h.sz i)=some L∧∃e a cs,x = .cells e true a cs∧qam bs.length cs=true∧h.tr.get (gAt at' h.sz i)=some (.cells e true a (qaS (gAt at' h.sz) cs))∧h.fl<=gAt at' h.sz i:=by
  intro i L x h1 h2;obtain⟨h3,h4⟩:=qdd h1;rw[xI] at h2;obtain⟨e,a,cs,h5,h6,h7,h8,_⟩:=l.blk i x h2;exact⟨h3,h4,e,a,cs,h5,h6,h7,h8⟩
 refine⟨fun i L hb=>?_,?_,?_,?_,?_,?_,?_,?_,?_,?_⟩
 ·have:=(qdd hb).1;rw[l.len] at this;exact this
 ·intro i L e wf af cs hb hg;obtain⟨h1,h2,e',a,cs',h3,h4,h5,h6⟩:=get i L _ hb hg;cases h3;obtain⟨q1,c,ty,fz,q2,q3,q4,q5,q6⟩:=r.cells _ L _ _ _ _ h2 h5;rw[qaz] at q4;refine⟨q1,c,ty,fz,q2,q3,q4,fun j v hv=>?_,q6⟩
  obtain⟨v',p1,p2⟩:=q5 j (rnv (gAt at' h.sz) v) (by rw[qj8,hv];rfl)
  exact⟨v',p1,VR.nr (ρ:=ρ) (ρs:=ρ.small at' h.sz) (g:=gAt at' h.sz) (m:=bs.length) (fun b L hbm hbL=>by
   show (if b<at'.length then ρ (gAt at' h.sz b) else none)=some L
   rw[if_pos (by rw[l.len];exact hbm)];exact hbL) rfl l.len (qmr h4 hv) p2⟩
 ·intro i L es hb hg;obtain⟨_,_,e',a,cs',h3,_⟩:=get i L _ hb hg;cases h3
 ·intro b L e af cs hb hg b' L' x hb' hx hd he;obtain⟨h1,h2,e',a,cs',h3,h4,h5,h6⟩:=get b L _ hb hg;obtain⟨i1,i2,e2,a2,cs2,i3,i4,i5,i6⟩:=get b' L' _ hb' hx;exact l.inj i1 h1 (r.excl _ L _ _ _ h2 h5 _ L' _ i2 i5 (by simp) he)
 ·intro b L es hb hg;obtain⟨_,_,e',a,cs',h3,_⟩:=get b L _ hb hg;cases h3
 ·intro b L e wf cs hb hg b' L' e' wf' af' cs' hb' hx he;obtain⟨h1,h2,e1,a1,cs1,h3,h4,h5,h6⟩:=get b L _ hb hg;obtain⟨i1,i2,e2,a2,cs2,i3,i4,i5,i6⟩:=get b' L' _ hb' hx;cases h3;cases i3;have q:=r.app _ L _ _ _ h2 h5 _ L' _ _ _ _ i2 i5 he;rw[qaz,qaz] at q;exact⟨q.1,fun hh=>l.inj i1 h1 (q.2 hh)⟩
 ·intro i L hb _ hbar;have hi:=(qdd hb).1;have hi':i<bs.length:=by rw[← l.len];exact hi
  obtain⟨h1,h2,e',a,cs',h3,h4,h5,h6⟩:=get i L bs[i] hb (by rw[xI,zzE hi']);rcases hbar with hB|⟨b,L',x,g1,g2,g3,g4,g5⟩
  ·exact r.flr _ L h2 h6 hB
  ·have:=r.excl _ L _ _ _ h2 h5 b L' x g1 g3 g4 g5;exact g2 (this ▸ Lent.mem hi)
 ·rintro k (hB|⟨b,L',x,g1,g2,g3,g4,rfl⟩)
  ·exact r.base k hB
  ·exact r.blk_lt b L' g1 x g3 g4
 ·intro k arr hk;refine⟨(r.frz k arr hk).1,fun b L x hb hx hd=>?_⟩
  obtain⟨h1,h2,e',a,cs',h3,h4,h5,h6⟩:=get b L _ hb hx;exact (r.frz k arr hk).2 _ L _ h2 h5 (by simp)
 ·refine⟨?_,fun b L h=>r.dn.2 _ L (qdd h).2⟩
  show at'.length<=bs.length;rw[l.len];exact Nat.le_refl _

def rnb(g:Nat->Nat):Blk->Blk
 | .cells e w a cs=>.cells e w a (qaS g cs)
 | .dead=>.dead
 | .map _=>.dead
noncomputable def qdR:Hp->List Nat->List Blk->Hp
 | h,b::at',x::xs=>qdR (h.put b x) at' xs
 | h,_,_=>h
theorem qhM:∀{at':List Nat} {xs:List Blk} {h:Hp},(qdR h at' xs).sz=h.sz
 | [],_,_=>by simp[qdR]
 | _::_,[],_=>by simp[qdR]
 | b::at',x::xs,h=>by
  show (qdR (h.put b x) at' xs).sz=_;rw[qhM];rfl
theorem qo7:∀{at':List Nat} {xs:List Blk} {h:Hp},(qdR h at' xs).fl=h.fl
 | [],_,_=>by simp[qdR]
 | _::_,[],_=>by simp[qdR]
 | b::at',x::xs,h=>by
  show (qdR (h.put b x) at' xs).fl=_;rw[qo7];rfl
theorem qj0:∀{at':List Nat} {xs:List Blk} {h:Hp} {b:Nat},b ∉ at'->(qdR h at' xs).tr.get b=h.tr.get b
 | [],_,_,_,_=>by simp[qdR]
 | _::_,[],_,_,_=>by simp[qdR]
 | c::at',x::xs,h,b,hb=>by
  show (qdR (h.put c x) at' xs).tr.get b=_;rw[qj0 (fun hh=>hb (List.mem_cons_of_mem _ hh))]
  simp only[Hp.put,Tr.get_set];rw[if_neg (fun hh=>hb (by simp[hh]))]
theorem qo8:∀{at':List Nat} {xs:List Blk} {h:Hp} {i b:Nat},at'.Nodup->at'.length=xs.length->at'[i]?=some b->(qdR h at' xs).tr.get b=xs[i]?
 | [],_,_,_,_,_,_,hi=>by simp at hi
 | _::_,[],_,_,_,_,hl,_=>by simp at hl
 | c::at',x::xs,h,0,b,hn,hl,hi=>by
  simp at hi;subst hi;show (qdR (h.put c x) at' xs).tr.get c=_;rw[qj0 (List.nodup_cons.1 hn).1];simp[Hp.put,Tr.get_set]
 | c::at',x::xs,h,i+1,b,hn,hl,hi=>by
  show (qdR (h.put c x) at' xs).tr.get b=_;rw[qo8 (List.nodup_cons.1 hn).2 (by simpa using hl) (by simpa using hi)];simp
noncomputable def qcs(h:Hp)(at':List Nat)(bs2:List Blk):Hp:=qaR (qdR h at' ((bs2.take at'.length).map (rnb (gAt at' h.sz)))) ((bs2.drop at'.length).map (rnb (gAt at' h.sz)))
def Ren.back(ρ ρ2:Ren)(at':List Nat)(d l:Nat):Ren:=⟨fun b=>if b<d then ρ b else ρ2 (b-d+at'.length),ρ2.frz,d+(l-at'.length)⟩
theorem qjq{h:Hp}{at':List Nat}{bs2:List Blk}:(qcs h at' bs2).sz=h.sz+(bs2.length-at'.length):=by
 unfold qcs;rw[qek,qhM];simp
theorem qmn{h:Hp}{at':List Nat}{bs2:List Blk}:(qcs h at' bs2).fl=h.fl:=by
 unfold qcs;rw[qfG,qo7]
theorem qkH{h:Hp}{at':List Nat}{bs2:List Blk}{b:Nat}(hb:b<h.sz)(hm:b ∉ at'):(qcs h at' bs2).tr.get b=h.tr.get b:=by
 unfold qcs;rw[qbe,qhM,if_pos hb,qj0 hm]
theorem qrk{h:Hp}{at':List Nat}{bs2:List Blk}(hn:at'.Nodup)(hl:at'.length<=bs2.length)(hlt:∀b ∈ at',b<h.sz){i:Nat}(hi:i<at'.length):(qcs h at' bs2).tr.get (gAt at' h.sz i)=(bs2[i]?).map (rnb (gAt at' h.sz)):=by
 have hm:gAt at' h.sz i ∈ at':=Lent.mem hi;unfold qcs;rw[qbe,qhM,if_pos (hlt _ hm),qo8 (i:=i) hn (by simp;omega) (by rw[qdF hi];exact zzE hi),List.getElem?_map,List.getElem?_take_of_lt hi]
theorem qpI{h:Hp}{at':List Nat}{bs2:List Blk}{i:Nat}(hi:at'.length<=i)(hi2:i<bs2.length):(qcs h at' bs2).tr.get (gAt at' h.sz i)=(bs2[i]?).map (rnb (gAt at' h.sz)):=by
 unfold qcs;rw[qjH hi,qbe,qhM,if_neg (by omega),if_pos (by simp;omega),List.getElem?_map,List.getElem?_drop];rw[show at'.length+(h.sz+(i-at'.length)-h.sz)=i from by omega]
theorem Rel.back{ρ ρ2:Ren}{B:Nat->Prop}{h:Hp}{w w1:World}{at':List Nat}{bs bs2:List Blk}(r:Rel σ0 ρ B h w)(l:Lent h at' bs)(r2:Rel σ0 ρ2 (Bar ρ B h at') (mkH 0 bs2) w1)(hl:at'.length<=bs2.length)
  (he:∀i,i<at'.length->ρ2 i=ρ.small at' h.sz i) (hp:∀k,Bar ρ B h at' k->w1.heap[k]?=w.heap[k]?) (hw:w.heap.size<=w1.heap.size)
  (f1:∀k a,ρ.frz k=some a->ρ2.frz k=some a) (f2:∀k a,ρ2.frz k=some a->ρ.frz k=some a∨¬Bar ρ B h at' k):(∀b L,ρ2 b=some L->ρ.back ρ2 at' h.sz bs2.length (gAt at' h.sz b)=some L)∧Rel σ0 (ρ.back ρ2 at' h.sz bs2.length) B (qcs h at' bs2) w1:=by
 have hlt:∀b ∈ at',b<h.sz:=by
  intro b hb;obtain⟨i,hi,rfl⟩:=List.getElem_of_mem hb;have hi':i<bs.length:=by rw[← l.len];exact hi
  obtain⟨_,_,_,_,_,_,_,h6⟩:=l.blk i bs[i] (zzE hi');rwa [qdF hi] at h6
 have up:∀b L,ρ2 b=some L->ρ.back ρ2 at' h.sz bs2.length (gAt at' h.sz b)=some L:=by
  intro b L hb;show (if gAt at' h.sz b<h.sz then ρ (gAt at' h.sz b) else ρ2 (gAt at' h.sz b-h.sz+at'.length))=some L
  by_cases hbm:b<at'.length
  ·rw[if_pos (hlt _ (Lent.mem hbm))];rw[he b hbm] at hb;exact (qdd hb).2
  ·rw[qjH (by omega),if_neg (by omega),show h.sz+(b-at'.length)-h.sz+at'.length=b from by omega]
   exact hb
 refine⟨up,?_⟩
 have nle:∀b,b<ρ2.n->gAt at' h.sz b<h.sz+(bs2.length-at'.length):=by
  intro b hb;have hb2:b<bs2.length:=Nat.lt_of_lt_of_le hb r2.dn.1
  by_cases hbm:b<at'.length
  ·have:=hlt _ (Lent.mem (h:=h) hbm);omega
  ·rw[qjH (by omega)];omega
 have le1:∀b L,ρ b=some L->ρ.back ρ2 at' h.sz bs2.length b=some L:=by
  intro b L hb;show (if b<h.sz then ρ b else _)=some L
  rw[if_pos (r.dom b L hb)];exact hb
 have le2:ρ.le (ρ.back ρ2 at' h.sz bs2.length):=⟨le1,f1,Nat.le_trans r.dn.1 (Nat.le_add_right _ _)⟩
 -- a block: an old one that stayed,or one of the small heap
 have split:∀b L,ρ.back ρ2 at' h.sz bs2.length b=some L->(b ∉ at'∧ρ b=some L∧(qcs h at' bs2).tr.get b=h.tr.get b) ∨
   ∃c,b=gAt at' h.sz c∧ρ2 c=some L∧(qcs h at' bs2).tr.get b=((mkH 0 bs2).tr.get c).map (rnb (gAt at' h.sz)):=by
  intro b L hb;have hb':(if b<h.sz then ρ b else ρ2 (b-h.sz+at'.length))=some L:=hb
  by_cases hbs:b<h.sz
  ·rw[if_pos hbs] at hb'
   by_cases hm:b ∈ at'
   ·obtain⟨i,hi,rfl⟩:=List.getElem_of_mem hm;refine .inr ⟨i,(qdF hi).symm,?_,?_⟩
    ·rw[he i hi];show (if i<at'.length then ρ (gAt at' h.sz i) else none)=some L
     rw[if_pos hi,qdF hi];exact hb'
    ·have:=qrk (bs2:=bs2) l.nd hl hlt hi;rw[qdF hi] at this;rw[this,xI]
   ·exact .inl ⟨hm,hb',qkH hbs hm⟩
  ·rw[if_neg hbs] at hb';have hc:b-h.sz+at'.length<bs2.length:=r2.dom _ L hb';have e:gAt at' h.sz (b-h.sz+at'.length)=b:=by rw[qjH (by omega)];omega
   refine .inr ⟨b-h.sz+at'.length,e.symm,hb',?_⟩;have:=qpI (h:=h) (at':=at') (bs2:=bs2) (i:=b-h.sz+at'.length) (by omega) hc;rw[e] at this;rw[this,xI]
 have apart:∀b L x c L2,b ∉ at'->ρ b=some L->h.tr.get b=some x->x≠.dead->ρ2 c=some L2->L2.blk≠L.blk:=by
  intro b L x c L2 h1 h2 h3 h4 h5 h6;exact r2.flr c L2 h5 (Nat.zero_le _) (.inr ⟨b,L,x,h2,h1,h3,h4,h6.symm⟩)
 have shc:∀{o:Option Blk} {e:Nat} {w a:Bool} {cs:List AV},o.map (rnb (gAt at' h.sz))=some (.cells e w a cs)->∃cs0,o=some (.cells e w a cs0)∧cs=qaS (gAt at' h.sz) cs0:=by
  intro o e w a cs ho;cases o with
  | none=>simp at ho
  | some x =>
   cases x with
   | cells e' w' a' cs'=>simp[rnb] at ho;obtain⟨rfl,rfl,rfl,rfl⟩:=ho;exact⟨_,rfl,rfl⟩
   | dead=>simp[rnb] at ho
   | map es=>simp[rnb] at ho
 have shn:∀{o:Option Blk} {y:Blk},o.map (rnb (gAt at' h.sz))=some y->y≠.dead->∃x,o=some x∧x≠.dead:=by
  intro o y ho hy;cases o with
  | none=>simp at ho
  | some x =>
   refine⟨x,rfl,fun hx=>?_⟩
   subst hx;simp[rnb] at ho;exact hy ho.symm
 have shm:∀{o:Option Blk} {es:List (AV×AV)},o.map (rnb (gAt at' h.sz))=some (.map es)->False:=by
  intro o es ho;cases o with
  | none=>simp at ho
  | some x=>cases x<;>simp[rnb] at ho
 refine⟨fun b L hb=>?_,?_,?_,?_,?_,?_,?_,qet r.base hw,?_,?_⟩
 ·rw[qjq];have hb':(if b<h.sz then ρ b else ρ2 (b-h.sz+at'.length))=some L:=hb
  by_cases hbs:b<h.sz
  ·omega
  ·rw[if_neg hbs] at hb';have hc:b-h.sz+at'.length<bs2.length:=r2.dom _ L hb';omega
 ·intro b L e wf af cs hb hg;rcases split b L hb with⟨h1,h2,h3⟩|⟨c,rfl,h2,h3⟩
  ·rw[h3] at hg;obtain⟨q1,c,ty,fz,q2,q3,q4,q5,q6⟩:=r.cells b L e wf af cs h2 hg;exact⟨q1,c,ty,fz,by rw[hp _ (.inr ⟨b,L,_,h2,h1,hg,by simp,rfl⟩)];exact q2,q3,q4,fun j v hv=>let ⟨v',g7,g8⟩:=q5 j v hv;⟨v',g7,g8.mono le2⟩,q6⟩
  ·rw[h3] at hg;obtain⟨cs0,g1,rfl⟩:=shc hg;obtain⟨q1,c',ty,fz,q2,q3,q4,q5,q6⟩:=r2.cells c L e wf af cs0 h2 g1;refine⟨q1,c',ty,fz,q2,q3,by rw[qaz];exact q4,fun j v hv=>?_,q6⟩
   rw[qj8] at hv;cases hj:cs0[j]? with
   | none=>rw[hj] at hv;simp at hv
   | some v0 =>
    rw[hj] at hv;simp at hv;subst hv;obtain⟨v',g7,g8⟩:=q5 j v0 hj;exact⟨v',g7,VR.rn (ρ3:=ρ.back ρ2 at' h.sz bs2.length) up (fun _ _ h=>h) nle g8⟩
 ·intro b L es hb hg;rcases split b L hb with⟨h1,h2,h3⟩|⟨c,rfl,h2,h3⟩
  ·rw[h3] at hg;obtain⟨q1,o,q2,q3⟩:=r.maps b L es h2 hg;exact⟨q1,o,by rw[hp _ (.inr ⟨b,L,_,h2,h1,hg,by simp,rfl⟩)];exact q2,q3.mono le2⟩
  ·rw[h3] at hg;exact (shm hg).elim
 ·intro b L e af cs hb hg b' L' x hb' hx hd hee;rcases split b L hb with⟨h1,h2,h3⟩|⟨c,rfl,h2,h3⟩<;>rcases split b' L' hb' with⟨i1,i2,i3⟩|⟨c',rfl,i2,i3⟩
  ·rw[h3] at hg;rw[i3] at hx;exact r.excl b L e af cs h2 hg b' L' x i2 hx hd hee
  ·rw[h3] at hg;exact absurd hee (apart b L _ c' L' h1 h2 hg (by simp) i2)
  ·rw[i3] at hx;exact absurd hee.symm (apart b' L' _ c L i1 i2 hx hd h2)
  ·rw[h3] at hg;rw[i3] at hx;obtain⟨cs0,g1,rfl⟩:=shc hg;obtain⟨x0,g2,g3⟩:=shn hx hd;rw[r2.excl c L e af cs0 h2 g1 c' L' x0 i2 g2 g3 hee]
 ·intro b L es hb hg b' L' x hb' hx hd hee;rcases split b L hb with⟨h1,h2,h3⟩|⟨c,rfl,h2,h3⟩
  ·rw[h3] at hg;rcases split b' L' hb' with⟨i1,i2,i3⟩|⟨c',rfl,i2,i3⟩
   ·rw[i3] at hx;exact r.exclm b L es h2 hg b' L' x i2 hx hd hee
   ·exact absurd hee (apart b L _ c' L' h1 h2 hg (by simp) i2)
  ·rw[h3] at hg;exact (shm hg).elim
 ·intro b L e wf cs hb hg b' L' e' wf' af' cs' hb' hx hee;rcases split b L hb with⟨h1,h2,h3⟩|⟨c,rfl,h2,h3⟩<;>rcases split b' L' hb' with⟨i1,i2,i3⟩|⟨c',rfl,i2,i3⟩
  ·rw[h3] at hg;rw[i3] at hx;exact r.app b L e wf cs h2 hg b' L' e' wf' af' cs' i2 hx hee
  ·rw[h3] at hg;exact absurd hee (apart b L _ c' L' h1 h2 hg (by simp) i2)
  ·rw[i3] at hx;exact absurd hee.symm (apart b' L' _ c L i1 i2 hx (by simp) h2)
  ·rw[h3] at hg;rw[i3] at hx;obtain⟨cs0,g1,rfl⟩:=shc hg;obtain⟨cs1,g2,rfl⟩:=shc hx;have q:=r2.app c L e wf cs0 h2 g1 c' L' e' wf' af' cs1 i2 g2 hee;rw[qaz,qaz];exact⟨q.1,fun hh=>by rw[q.2 hh]⟩
 ·intro b L hb hf hB;rw[qmn] at hf;rcases split b L hb with⟨h1,h2,h3⟩|⟨c,rfl,h2,h3⟩
  ·exact r.flr b L h2 hf hB
  ·exact r2.flr c L h2 (Nat.zero_le _) (.inl hB)
 ·intro k arr hk;refine⟨(r2.frz k arr hk).1,fun b L x hb hx hd=>?_⟩
  rcases split b L hb with⟨h1,h2,h3⟩|⟨c,rfl,h2,h3⟩
  ·rw[h3] at hx;rcases f2 k arr hk with g|g
   ·exact (r.frz k arr g).2 b L x h2 hx hd
   ·exact fun hh=>g (.inr ⟨b,L,x,h2,h1,hx,hd,hh⟩)
  ·rw[h3] at hx;obtain⟨x0,g2,g3⟩:=shn hx hd;exact (r2.frz k arr hk).2 c L x0 h2 g2 g3
 ·refine⟨?_,fun b L hb=>?_⟩
  ·show h.sz+(bs2.length-at'.length)<=_;rw[qjq];exact Nat.le_refl _
  ·rcases split b L hb with⟨_,h2,_⟩|⟨c,rfl,h2,_⟩
   ·exact Nat.lt_of_lt_of_le (r.dn.2 b L h2) hw
   ·exact r2.dn.2 c L h2
def qye(m:Nat)(v:AV)(bs2:List Blk)(v':AV)(h':Hp):Prop:=h'.fl=0->∃src:List Nat,NV (rl src h'.sz) bs2.length v' v∧BWs h' (rl src h'.sz) bs2.length src bs2∧(src.filter fun b=>decide (b<h'.sz)).Nodup∧∀b,b<m->rl src h'.sz b=b
def qyd(m:Nat)(v:AV)(bs2:List Blk)(v':AV)(h':Hp):Prop:=h'.fl=0->Wk m (mkT [(0,v')]) h' (mkT [(0,v)]) (mkH 0 bs2)
theorem qye.w{m:Nat}{v:AV}{bs2:List Blk}{v':AV}{h':Hp}(hz:qye m v bs2 v' h')(hle:m<=bs2.length):qyd m v bs2 v' h':=by
 intro hfl;obtain⟨src,s1,s2,s3,s4⟩:=hz hfl;exact Wk.mkn [(0,v)] bs2 src ⟨⟨v',by simp[mkT,Tr.get_set],s1⟩,trivial⟩ s2 s3 hfl hle s4
def Upd(P:Program)(f:Nat)(vs:List AV)(bs:List Blk)(v:AV)(bs2:List Blk):Prop :=
 qam bs.length vs=true∧bs.length<=bs2.length∧SC P f vs (mkH 0 bs) (qyd bs.length v bs2)
theorem Upd.mk{f:Nat}{i:IFn}{vs:List AV}{v:AV}{bs bs2:List Blk}(hc:qc P f i=true)(hb:qam bs.length vs=true)(hl:bs.length<=bs2.length)(hV:V P bs.length i.body (qac i.res (qye bs.length v bs2)) (qcr vs 0 .leaf) (mkH 0 bs)):Upd P f vs bs v bs2 :=
 ⟨hb,hl,(SC.mk hc (qj hV)).mono fun _ _ hz=>hz.w hl⟩
theorem Upd.sc{f:Nat}{vs:List AV}{bs bs2:List Blk}{v:AV}{h:Hp}{k:AV->Hp->Prop}(at':List Nat)(hu:Upd P f vs bs v bs2)(l:Lent h at' bs)(hk:k (rnv (gAt at' h.sz) v) (qcs h at' bs2)):SC P f (qaS (gAt at' h.sz) vs) h k:=by
 obtain⟨hb,hle,hu⟩:=hu;refine⟨hu.1,fun ρ B w args r ha=>?_⟩
 have hle':at'.length<=bs2.length:=by rw[l.len];exact hle
 have ha':VRs σ0 (ρ.small at' h.sz) vs args.toList:=VRs.nr (ρ:=ρ) (ρs:=ρ.small at' h.sz) (g:=gAt at' h.sz) (m:=bs.length) (fun b L hbm hbL=>by
  show (if b<at'.length then ρ (gAt at' h.sz b) else none)=some L
  rw[if_pos (by rw[l.len];exact hbm)];exact hbL) rfl l.len hb ha
 refine qce.mono (hu.2 (ρ.small at' h.sz) (Bar ρ B h at') w args (r.small l) ha') ?_;rintro e w1 ⟨v0,v',h1,ρ1,rfl,g1,g2,g3,g4⟩;have hw:Wk bs.length (mkT [(0,v0)]) h1 (mkT [(0,v)]) (mkH 0 bs2):=g1 g4.fl
 obtain⟨ρ2,t2,r2,k2⟩:=hw ρ1 (Bar ρ B h at') w1 #[v'] (fun j x hj=>by
  have:=qdv hj;simp at this;obtain⟨rfl,rfl⟩:=this;exact⟨by simp,by simpa using g2⟩) g3
 have hv2:VR σ0 ρ2 v v':=by
  have:=(t2 0 v (by simp[mkT,Tr.get_set])).2;simpa using this
 have he:∀i,i<at'.length->ρ2 i=ρ.small at' h.sz i:=fun i hi=>(k2.ext i (by rw[← l.len];exact hi)).trans (g4.ext i (by rw[qtd,← l.len];exact hi))
 have f1:∀k a,ρ.frz k=some a->ρ2.frz k=some a:=fun k a hk=>k2.frz k a (g4.frz k a hk)
 have f2:∀k a,ρ2.frz k=some a->ρ.frz k=some a∨¬Bar ρ B h at' k:=fun k a hk=>(k2.fnew k a hk).elim (g4.fnew k a) .inr
 obtain⟨up,big⟩:=Rel.back r l r2 hle' he g4.pres g4.wle f1 f2
 have nle:∀b,b<ρ2.n->gAt at' h.sz b<(ρ.back ρ2 at' h.sz bs2.length).n:=by
  intro b hb;have hb2:b<bs2.length:=Nat.lt_of_lt_of_le hb r2.dn.1;show _<h.sz+(bs2.length-at'.length)
  by_cases hbm:b<at'.length
  ·have hbm':b<bs.length:=by rw[← l.len];exact hbm
   obtain⟨_,_,_,_,_,_,_,h6⟩:=l.blk b bs[b] (zzE hbm');omega
  ·rw[qjH (by omega)];omega
 refine⟨_,v',_,ρ.back ρ2 at' h.sz bs2.length,rfl,hk,VR.rn up (fun _ _ h=>h) nle hv2,big,?_⟩
 refine⟨fun b hb=>?_,by rw[qjq];omega,qmn,fun b hf hb=>qkH hb (fun hm=>?_),fun k hk=>g4.pres k (.inl hk),g4.wle,g4.io,f1,fun k a hk=>(f2 k a hk).imp id (fun hh hB=>hh (.inl hB)),Nat.le_trans r.dn.1 (Nat.le_add_right _ _)⟩
 ·show (if b<h.sz then ρ b else _)=ρ b
  rw[if_pos hb]
 ·obtain⟨i,hi,rfl⟩:=List.getElem_of_mem hm;have hi':i<bs.length:=by rw[← l.len];exact hi
  obtain⟨_,_,_,_,_,_,h5,_⟩:=l.blk i bs[i] (zzE hi');rw[qdF hi] at h5;omega
end Go.Kc
end
section
namespace Go.Kc
variable {P:Program} {h:Hp}

def qed(h:Hp)(g:Nat->Nat)(m:Nat):List Nat->List Blk->Prop
 | [],[]=>True
 | b::at',.cells e true a cs::xs=>(qam m cs=true∧evB (h.tr.get b) (fun y=>y=Blk.cells e true a (qaS g cs))∧h.fl<=b∧b<h.sz)∧qed h g m at' xs
 | _,_=>False
theorem qed.get{g:Nat->Nat}{m:Nat}:∀{at':List Nat} {bs:List Blk},qed h g m at' bs->at'.length=bs.length∧∀(i:Nat) (x:Blk),bs[i]?=some x->∃b e a cs,at'[i]?=some b∧x = .cells e true a cs∧qam m cs=true∧h.tr.get b=some (.cells e true a (qaS g cs))∧h.fl<=b∧b<h.sz
 | [],[],_=>⟨rfl,by simp⟩
 | [],_::_,hh=>by simp[qed] at hh
 | _::_,[],hh=>by simp[qed] at hh
 | b::at',.dead::xs,hh=>by simp[qed] at hh
 | b::at',.map _::xs,hh=>by simp[qed] at hh
 | b::at',.cells e false a cs::xs,hh=>by simp[qed] at hh
 | b::at',.cells e true a cs::xs,hh=>by
  obtain⟨⟨h1,⟨y,h2,h3⟩,h4,h5⟩,h6⟩:=hh;subst h3;obtain⟨h7,h8⟩:=qed.get h6;refine⟨by simp[h7],fun i x hx=>?_⟩
  cases i with
  | zero=>simp at hx;subst hx;exact⟨b,e,a,cs,rfl,rfl,h1,h2,h4,h5⟩
  | succ i=>simpa using h8 i x (by simpa using hx)
theorem Lent.of{at':List Nat}{bs:List Blk}(hn:at'.Nodup)(hl:qed h (gAt at' h.sz) bs.length at' bs):Lent h at' bs:=by
 obtain⟨h1,h2⟩:=hl.get;refine⟨h1,hn,fun i x hx=>?_⟩
 obtain⟨b,e,a,cs,q1,q2,q3,q4,q5,q6⟩:=h2 i x hx;have hi:i<at'.length:=(zzS.1 q1).1
 have e1:gAt at' h.sz i=b:=by
  rw[qdF hi];exact (zzS.1 q1).2
 exact⟨e,a,cs,q2,q3,by rw[e1];exact q4,by rw[e1];exact q5,by rw[e1];exact q6⟩
theorem qsX{g:Nat->Nat}{m:Nat}:qed h g m [] []↔True:=Iff.rfl
theorem qqk{g:Nat->Nat}{m b e:Nat}{at':List Nat}{a:Bool}{cs:List AV}{xs:List Blk}:qed h g m (b::at') (.cells e true a cs::xs)↔(qam m cs=true∧evB (h.tr.get b) (fun y=>y=Blk.cells e true a (qaS g cs))∧h.fl<=b∧b<h.sz)∧qed h g m at' xs:=Iff.rfl
theorem z7{s f b:Nat}{tr:Tr Blk}{x:Blk}:Hp.put ⟨s,f,tr⟩ b x=⟨s,f,tr.set b x⟩:=rfl
theorem qnl{xs:List Blk}:qdR h [] xs=h:=by simp[qdR]
theorem qk6{b:Nat}{at':List Nat}{x:Blk}{xs:List Blk}:qdR h (b::at') (x::xs)=qdR (h.put b x) at' xs:=rfl
theorem qwX{g:Nat->Nat}{v:AV}(hv:clo v=true):rnv g v=v:=by
 have key:(∀v:AV,clo v=true->rnv g v=v):=fun v=>by
  refine AV.rec (motive_1:=fun v=>clo v=true->rnv g v=v) (motive_2:=fun vs=>qu vs=true->qaS g vs=vs) ?_ ?_ ?_ ?_ ?_ ?_ ?_ ?_ ?_ ?_ ?_ ?_ ?_ ?_ ?_ ?_ ?_ ?_ ?_ ?_ ?_ ?_ ?_ ?_ ?_ ?_ v
  all_goals first
   | (intros;rfl)
   | (intros;rename_i hh;simp[clo] at hh;done)
   | skip
  ·intro f a c h1 h2 hh;simp only[clo,Bool.and_eq_true] at hh;simp only[rnv,h1 hh.1,h2 hh.2]
  ·intro t v h1 hh;simp only[clo] at hh;simp only[rnv,h1 hh]
  ·intro cs h1 hh;simp only[clo] at hh;simp only[rnv,h1 hh]
  ·intro cs h1 hh;simp only[clo] at hh;simp only[rnv,h1 hh]
  ·intro v vs h1 h2 hh;simp only[qu,Bool.and_eq_true] at hh;simp only[qaS,h1 hh.1,h2 hh.2]
 exact key v hv
theorem qN{g:Nat->Nat}:∀{vs:List AV},qu vs=true->qaS g vs=vs
 | [],_=>rfl
 | v::vs,h=>by
  simp only[qu,Bool.and_eq_true] at h;simp only[qaS,qwX h.1,qN h.2]
def qaL:Blk->Bool
 | .dead=>false
 | _=>true
theorem qk3{α β:Type}{f:α->β}{p:α->Bool}:∀{l:List α},((l.filter p).map f).Nodup->∀{i j:Nat} {x y:α},l[i]?=some x->l[j]?=some y->p x=true->p y=true->f x=f y->i=j
 | [],_,i,j,x,y,hi,_,_,_,_=>by simp at hi
 | a::l,hn,i,j,x,y,hi,hj,hx,hy,he=>by
  have tail:((l.filter p).map f).Nodup:=by
   rw[List.filter_cons] at hn;split at hn
   ·exact (List.nodup_cons.1 hn).2
   ·exact hn
  have no:∀{z:α} {m:Nat},l[m]?=some z->p z=true->p a=true->f a=f z->False:=by
   intro z m hz hpz hpa hfz;rw[List.filter_cons,if_pos hpa] at hn;exact (List.nodup_cons.1 hn).1 (hfz ▸ List.mem_map_of_mem (List.mem_filter.2 ⟨zzM hz,hpz⟩))
  cases i with
  | zero =>
   simp at hi;subst hi;cases j with
   | zero=>rfl
   | succ j=>exact (no (by simpa using hj) hy hx he).elim
  | succ i =>
   cases j with
   | zero=>simp at hj;subst hj;exact (no (by simpa using hi) hx hy he.symm).elim
   | succ j =>
    have hij:i=j:=qk3 tail (i:=i) (j:=j) (by simpa using hi) (by simpa using hj) hx hy he;rw[hij]
theorem Wk.mkd{n:Nat}{t:Tr AV}(ts:List (Nat×AV))(bl:List Blk)(src:List Nat)(hT:TWs t (rl src h.sz) bl.length ts)(hB:BWs h (rl src h.sz) bl.length src bl)
  (hI:(((src.zip bl).filter fun p=>decide (p.1<h.sz)&&qaL p.2).map Prod.fst).Nodup) (hfl:h.fl=0) (hn:n<=bl.length) (hlow:∀b,b<n->rl src h.sz b=b):Wk n t h (mkT ts) (mkH 0 bl):=by
 obtain⟨hlen,hget⟩:=hB.get;refine Wk.of (r:=rl src h.sz) ⟨hfl.symm,fun b' x' hb hg=>?_,fun b1 b2 h1 h2 l1 l2 he hl=>?_,fun b' _ _ _=>by rw[hfl];exact Nat.zero_le _,hlow,hn,fun b _ hb=>by rw[hfl] at hb;exact absurd hb (Nat.not_lt_zero _),fun j v' hj=>?_⟩
 ·rw[xI] at hg;obtain⟨b,q1,q2⟩:=hget b' x' hg;have:rl src h.sz b'=b:=by simp[rl,List.getD_eq_getElem?_getD,q1]
  rw[this];exact q2
 ·obtain⟨x1,g1,d1⟩:=l1;obtain⟨x2,g2,d2⟩:=l2;rw[xI] at g1 g2;obtain⟨c1,q1,_⟩:=hget b1 x1 g1;obtain⟨c2,q2,_⟩:=hget b2 x2 g2;have e1:rl src h.sz b1=c1:=by simp[rl,List.getD_eq_getElem?_getD,q1]
  have e2:rl src h.sz b2=c2:=by simp[rl,List.getD_eq_getElem?_getD,q2]
  rw[e1,e2] at he;rw[e1] at hl;have v1:qaL x1=true:=by cases x1<;>first|rfl|exact absurd rfl d1
  have v2:qaL x2=true:=by cases x2<;>first|rfl|exact absurd rfl d2
  refine qk3 hI (i:=b1) (j:=b2) (x:=(c1,x1)) (y:=(c2,x2)) ?_ ?_ ?_ ?_ he
  ·rw[List.getElem?_zip_eq_some];exact⟨q1,g1⟩
  ·rw[List.getElem?_zip_eq_some];exact⟨q2,g2⟩
  ·simp[hl,v1]
  ·simp[← he,hl,v2]
 ·exact hT.get _ (qdv hj)
theorem qqx{b o:Nat}{k:AV->Prop}:qiM (.ptr b o) k↔k (.ptr b o):=Iff.rfl
theorem qti{cs:List AV}{o:Nat}{k:AV->Prop}:qiM (.pf cs o) k↔k (.pf cs o):=Iff.rfl
theorem qqw{b:Nat}{k:AV->Prop}:qiM (.map b) k↔k (.map b):=Iff.rfl
theorem qtj{b:Nat}{k:AV->Prop}:qiM (.yl b) k↔k (.yl b):=Iff.rfl
theorem qth{f:Nat}{a c:List AV}{k:AV->Prop}:qiM (.fn f a c) k↔k (.fn f a c):=Iff.rfl
theorem qxn{C:zx}{ops:List ROp}{Q:Tr AV->Hp->Prop}{t:Tr AV}{s f f':Nat}{tr:Tr Blk}:VR' C ops Q t (Hp.down ⟨s,f,tr⟩ f')↔VR' C ops Q t ⟨s,f',tr⟩:=Iff.rfl
theorem qDN{C:zx}{ops:List ROp}{Q:Tr AV->Hp->Prop}{t:Tr AV}{s f:Nat}{tr:Tr Blk}{dst:Option Nat}{o:IOp}:VR' C (⟨dst,.op o,none⟩::ops) Q t ⟨s,f,tr⟩ ↔
  if wr (.op o)=true then opK qy o t ⟨s,f,tr⟩ (fun v h'=>qab t dst v (fun t'=>VR' C ops Q t' h')) else opK qy o t ⟨s,s,tr⟩ (fun v h'=>qab t dst v (fun t'=>VR' C ops Q t' (h'.down f))):=qyh
theorem qBg{C:zx}{Q:Tr AV->Hp->Prop}{t:Tr AV}{s f:Nat}{tr:Tr Blk}:VR' C [] Q t ⟨s,f,tr⟩↔Q t ⟨s,f,tr⟩:=Iff.rfl
theorem qu4{m:Nat}:∀{v:AV},clo v=true->bnd m v=true:=by
 intro v;refine AV.rec (motive_1:=fun v=>clo v=true->bnd m v=true) (motive_2:=fun vs=>qu vs=true->qam m vs=true) ?_ ?_ ?_ ?_ ?_ ?_ ?_ ?_ ?_ ?_ ?_ ?_ ?_ ?_ ?_ ?_ ?_ ?_ ?_ ?_ ?_ ?_ ?_ ?_ ?_ ?_ v
 all_goals first
  | (intros;rfl)
  | (intros;rename_i hh;simp[clo] at hh;done)
  | skip
 ·intro f a c h1 h2 hh;simp only[clo,Bool.and_eq_true] at hh;simp only[bnd,h1 hh.1,h2 hh.2,Bool.and_self]
 ·intro t v h1 hh;simp only[clo] at hh;simp only[bnd,h1 hh]
 ·intro cs h1 hh;simp only[clo] at hh;simp only[bnd,h1 hh]
 ·intro cs h1 hh;simp only[clo] at hh;simp only[bnd,h1 hh]
 ·intro v vs h1 h2 hh;simp only[qu,Bool.and_eq_true] at hh;simp only[qam,h1 hh.1,h2 hh.2,Bool.and_self]
theorem zP{m:Nat}:∀{vs:List AV},qu vs=true->qam m vs=true
 | [],_=>rfl
 | v::vs,h=>by
  simp only[qu,Bool.and_eq_true] at h;simp only[qam,qu4 h.1,zP h.2,Bool.and_self]
end Go.Kc
end
section
namespace Go.Kc
def vQ:=And.intro @List.map_cons.{0,0} (And.intro @List.map_nil.{0,0} (And.intro @Bool.and_true (And.intro @Bool.true_and (And.intro @Bool.and_self (And.intro @and_self (And.intro @Tr.get_set (And.intro @decide_eq_true_eq (And.intro @Bool.false_eq_true (And.intro @true_and (And.intro @and_true (And.intro @List.getElem?_cons_zero.{0} (And.intro @List.getElem?_cons_succ.{0} (And.intro @List.length_cons.{0} (And.intro @List.length_nil.{0} (And.intro @List.take_zero.{0} (And.intro @List.take_succ_cons.{0} (And.intro @List.drop_zero.{0} (And.intro @List.drop_succ_cons.{0} (And.intro @List.drop_nil.{0} (And.intro @List.take_nil.{0} (And.intro @List.nil_append.{0} (And.intro @List.cons_append.{0} (And.intro @List.append_nil.{0} (And.intro @Nat.zero_add (And.intro @Nat.add_zero (And.intro @Nat.le_refl (And.intro @Nat.zero_le (And.intro @Int.toNat_natCast (And.intro @Int.natCast_nonneg (And.intro @Int.ofNat_lt (And.intro @Bool.not_true (And.intro @Bool.not_false (And.intro @decide_true (And.intro @decide_false (And.intro @Bool.xor_false (And.intro @Bool.xor_true (And.intro @Bool.false_xor (And.intro @Bool.true_xor (And.intro @Nat.lt_irrefl (And.intro @List.replicate_succ.{0} (And.intro @List.replicate_zero.{0} (And.intro @List.flatten_cons.{0} (And.intro @List.flatten_nil.{0} (And.intro @Nat.succ_eq_add_one (And.intro @Option.isNone_none.{0} (And.intro @Option.isSome_none.{0} (And.intro @Bool.false_and (And.intro @Bool.and_false (And.intro @Nat.sub_zero (And.intro @qnl (And.intro @qk6 (And.intro @z7 (And.intro @qv0 (And.intro @qjd (And.intro @qf5 (And.intro @qeJ @List.append_assoc.{0}))))))))))))))))))))))))))))))))))))))))))))))))))))))))
def vX:=And.intro @qxn (And.intro @qDN (And.intro @qBg (And.intro @qtK (And.intro @qtL (And.intro @qqF (And.intro @qtG (And.intro @qqx (And.intro @qti (And.intro @qqw (And.intro @qtj @qth))))))))))
def vU:=And.intro @shb.eq_1 (And.intro @shb.eq_2 (And.intro @shb.eq_3 (And.intro @shv.eq_1 (And.intro @shv.eq_2 (And.intro @shv.eq_3 (And.intro @shv.eq_4 (And.intro @shv.eq_5 (And.intro @shv.eq_6 (And.intro @shv.eq_7 (And.intro @shv.eq_8 (And.intro @shv.eq_9 (And.intro @shv.eq_10 (And.intro @qe9.eq_1 @qe9.eq_2)))))))))))))
def vY:=And.intro vU (And.intro @qcg.eq_1 (And.intro @qcg.eq_2 (And.intro @cellsOf.eq_1 (And.intro @cellsOf.eq_2 (And.intro @wr.eq_1 (And.intro @wr.eq_2 (And.intro @wr.eq_3 (And.intro @wr.eq_4 (And.intro @wr.eq_5 (And.intro @wr.eq_6 (And.intro @wr.eq_7 (And.intro @wr.eq_8 (And.intro @wr.eq_9 (And.intro @wr.eq_10 (And.intro @wr.eq_11 (And.intro @qeg.eq_1 @qeg.eq_2))))))))))))))))
def vS:=And.intro vA (And.intro vE (And.intro vO (And.intro vB (And.intro vF (And.intro vM (And.intro vR vX))))))
def vT:=And.intro vY (And.intro @qyY (And.intro @qyZ (And.intro vP (And.intro vC (And.intro vQ (And.intro @qpm (And.intro @qnx (And.intro not_false_eq_true (And.intro @eq_self.{1} @Int.cast_ofNat_Int)))))))))
def vw:=And.intro vW (And.intro @qvx (And.intro @qCN (And.intro @qCM (And.intro @qy6 (And.intro @qcv (And.intro @qcC (And.intro @qbA (And.intro @jq (And.intro @qyE (And.intro @qk0 (And.intro @qqt (And.intro @qn9 (And.intro @qiK (And.intro vP (And.intro vZ @Tr.get_set)))))))))))))))
def vK:=And.intro (And.intro @qcs.eq_1 (And.intro @rnb.eq_1 (And.intro @rnb.eq_2 (And.intro @rnb.eq_3 (And.intro @qaS.eq_1 (And.intro @qaS.eq_2 (And.intro @rnv.eq_1 (And.intro @rnv.eq_2 (And.intro @rnv.eq_3 (And.intro @rnv.eq_4 (And.intro @rnv.eq_5 (And.intro @rnv.eq_6 (And.intro @rnv.eq_7 (And.intro @rnv.eq_8 (And.intro @rnv.eq_9 (And.intro @rnv.eq_10 @gAt.eq_1)))))))))))))))) (And.intro @List.cons_append.{0} (And.intro @List.nil_append.{0} (And.intro @List.length_cons.{0} (And.intro @List.length_nil.{0} (And.intro Nat.zero_add (And.intro @List.take_succ_cons.{0} (And.intro @List.take_zero.{0} (And.intro @List.drop_succ_cons.{0} (And.intro @List.drop_zero.{0} (And.intro @List.map_cons.{0,0} (And.intro @List.map_nil.{0,0} (And.intro @List.getD_cons_zero.{0} (And.intro @List.getD_cons_succ.{0} (And.intro @qk6 (And.intro @qnl (And.intro @qeJ (And.intro @qf5 (And.intro @z7 @qjd))))))))))))))))))
def vJ:=And.intro vU (And.intro @qeJ (And.intro @qf5 (And.intro @qjd (And.intro @qpm (And.intro @qnx (And.intro @List.map_cons.{0,0} (And.intro @List.map_nil.{0,0} (And.intro @qx1 (And.intro @qoF Nat.zero_add)))))))))
def vL:=And.intro vU (And.intro (And.intro @qam.eq_1 (And.intro @qam.eq_2 (And.intro @bnd.eq_1 (And.intro @bnd.eq_2 (And.intro @bnd.eq_3 (And.intro @bnd.eq_4 (And.intro @bnd.eq_5 (And.intro @bnd.eq_6 (And.intro @bnd.eq_7 (And.intro @bnd.eq_8 (And.intro @bnd.eq_9 (And.intro @bnd.eq_10 (And.intro @qaS.eq_1 (And.intro @qaS.eq_2 (And.intro @rnv.eq_1 (And.intro @rnv.eq_2 (And.intro @rnv.eq_3 (And.intro @rnv.eq_4 (And.intro @rnv.eq_5 (And.intro @rnv.eq_6 (And.intro @rnv.eq_7 (And.intro @rnv.eq_8 (And.intro @rnv.eq_9 (And.intro @rnv.eq_10 @gAt.eq_1)))))))))))))))))))))))) (And.intro @qqk (And.intro @qsX (And.intro @qeJ (And.intro @qf5 @qjd)))))
def ROp.q(n:Nat)(o:IOp):ROp:=⟨some n,.op o,none⟩
def ROp.m(n:Nat)(x:O):ROp:=⟨some n,.op (.mov x),none⟩
def ROp.g(n:Nat)(o:IOp)(c:Nat)(b:Bool):ROp:=⟨some n,.op o,some (c,b)⟩
def ROp.l(n f:Nat)(xs:List O):ROp:=⟨some n,.callF f xs,none⟩
def ROp.u(o:IOp):ROp:=⟨none,.op o,none⟩
def ICode.r(ops:List ROp):ICode:=.reg false ops
def O.k(n:Int):O:=.c (.i .i64 n)
def ROp.n(n a:Nat):ROp:=⟨some n,.op (.mov (.t a)),none⟩
def ROp.d(n a:Nat):ROp:=⟨some n,.op (.load1 (.t a)),none⟩
def ROp.v(n k a:Nat):ROp:=⟨some n,.op (.loadN k (.t a)),none⟩
def ROp.f(n k a:Nat):ROp:=⟨some n,.op (.fAddr k (.t a)),none⟩
def ROp.i(n k a b:Nat):ROp:=⟨some n,.op (.iAddrS k (.t a) (.t b)),none⟩
def ROp.a(n a:Nat)(k:Int):ROp:=⟨some n,.op (.bin .add (.t a) (.c (.i .i64 k))),none⟩
def ROp.b(n:Nat)(o:BinOp)(a b:Nat):ROp:=⟨some n,.op (.bin o (.t a) (.t b)),none⟩
def ROp.w(n:Nat)(o:BinOp)(a:Nat)(k:Int):ROp:=⟨some n,.op (.bin o (.t a) (.c (.i .i64 k))),none⟩
def ROp.e(n a:Nat):ROp:=⟨some n,.op (.len false (.t a)),none⟩
def ROp.x(n a k:Nat):ROp:=⟨some n,.op (.ext (.t a) k),none⟩
def ROp.s(n a b:Nat):ROp:=⟨some n,.op (.bin .lss (.t a) (.t b)),none⟩
def ROp.p(n a b:Nat):ROp:=⟨some n,.op (.pick (.t a) (.t b) (.c (.b false))),none⟩
def ROp.o(n a b:Nat):ROp:=⟨some n,.op (.pick (.t a) (.c (.b true)) (.t b)),none⟩
def ROp.y(n a c:Nat):ROp:=⟨some n,.op (.mov (.t a)),some (c,true)⟩
def ROp.z(n a c:Nat):ROp:=⟨some n,.op (.mov (.t a)),some (c,false)⟩
def ROp.j(n a c:Nat)(b:Bool):ROp:=⟨some n,.op (.load1 (.t a)),some (c,b)⟩
def ROp.h(n k a c:Nat)(b:Bool):ROp:=⟨some n,.op (.fAddr k (.t a)),some (c,b)⟩
def O.F:O:=.c (.b false)
def O.T:O:=.c (.b true)
def O.N:O:=.c .nils
theorem q_q{n:Nat}{o:IOp}:ROp.q n o=⟨some n,.op o,none⟩:=rfl
theorem q_m{n:Nat}{x:O}:ROp.m n x=⟨some n,.op (.mov x),none⟩:=rfl
theorem q_g{n:Nat}{o:IOp}{c:Nat}{b:Bool}:ROp.g n o c b=⟨some n,.op o,some (c,b)⟩:=rfl
theorem q_l{n f:Nat}{xs:List O}:ROp.l n f xs=⟨some n,.callF f xs,none⟩:=rfl
theorem q_u{o:IOp}:ROp.u o=⟨none,.op o,none⟩:=rfl
theorem q_r{ops:List ROp}:ICode.r ops = .reg false ops:=rfl
theorem q_k{n:Int}:O.k n = .c (.i .i64 n):=rfl
theorem qEO{n a:Nat}:ROp.n n a=⟨some n,.op (.mov (.t a)),none⟩:=rfl
theorem qEI{n a:Nat}:ROp.d n a=⟨some n,.op (.load1 (.t a)),none⟩:=rfl
theorem qES{n k a:Nat}:ROp.v n k a=⟨some n,.op (.loadN k (.t a)),none⟩:=rfl
theorem qEK{n k a:Nat}:ROp.f n k a=⟨some n,.op (.fAddr k (.t a)),none⟩:=rfl
theorem qEM{n k a b:Nat}:ROp.i n k a b=⟨some n,.op (.iAddrS k (.t a) (.t b)),none⟩:=rfl
theorem qEG{n a:Nat}{k:Int}:ROp.a n a k=⟨some n,.op (.bin .add (.t a) (.c (.i .i64 k))),none⟩:=rfl
theorem qEH{n:Nat}{o:BinOp}{a b:Nat}:ROp.b n o a b=⟨some n,.op (.bin o (.t a) (.t b)),none⟩:=rfl
theorem qET{n:Nat}{o:BinOp}{a:Nat}{k:Int}:ROp.w n o a k=⟨some n,.op (.bin o (.t a) (.c (.i .i64 k))),none⟩:=rfl
theorem qEJ{n a:Nat}:ROp.e n a=⟨some n,.op (.len false (.t a)),none⟩:=rfl
theorem qEU{n a k:Nat}:ROp.x n a k=⟨some n,.op (.ext (.t a) k),none⟩:=rfl
theorem qER{n a b:Nat}:ROp.s n a b=⟨some n,.op (.bin .lss (.t a) (.t b)),none⟩:=rfl
theorem qEQ{n a b:Nat}:ROp.p n a b=⟨some n,.op (.pick (.t a) (.t b) (.c (.b false))),none⟩:=rfl
theorem qEP{n a b:Nat}:ROp.o n a b=⟨some n,.op (.pick (.t a) (.c (.b true)) (.t b)),none⟩:=rfl
theorem qEV{n a c:Nat}:ROp.y n a c=⟨some n,.op (.mov (.t a)),some (c,true)⟩:=rfl
theorem qEW{n a c:Nat}:ROp.z n a c=⟨some n,.op (.mov (.t a)),some (c,false)⟩:=rfl
theorem qEN{n a c:Nat}{b:Bool}:ROp.j n a c b=⟨some n,.op (.load1 (.t a)),some (c,b)⟩:=rfl
theorem qEL{n k a c:Nat}{b:Bool}:ROp.h n k a c b=⟨some n,.op (.fAddr k (.t a)),some (c,b)⟩:=rfl
theorem q_F:O.F = .c (.b false):=rfl
theorem q_T:O.T = .c (.b true):=rfl
theorem q_N:O.N = .c .nils:=rfl
def vI:=And.intro (And.intro @qEO (And.intro @qEI (And.intro @qES (And.intro @qEK (And.intro @qEM (And.intro @qEG (And.intro @qEH (And.intro @qET (And.intro @qEJ (And.intro @qEU (And.intro @qER (And.intro @qEQ (And.intro @qEP (And.intro @qEV (And.intro @qEW (And.intro @qEN (And.intro @qEL (And.intro q_F (And.intro q_T q_N))))))))))))))))))) (And.intro (And.intro @qcr.eq_1 (And.intro @qcr.eq_2 (And.intro @H0.eq_1 (And.intro @mkT.eq_1 (And.intro @mkT.eq_2 (And.intro @mkH.eq_1 (And.intro @trL.eq_1 @trL.eq_2))))))) (And.intro @List.length_cons.{0} (And.intro @List.length_nil.{0} (And.intro Nat.zero_add (And.intro @q_q (And.intro @q_m (And.intro @q_g (And.intro @q_l (And.intro @q_u (And.intro @q_r @q_k))))))))))
end Go.Kc
end
