/- Part 5 of the abstract machine and of the functions' walks. Conditions: with each theorem. -/
import Derived.Test.YtpgbjeabmkbmbaaK4
set_option linter.unusedSimpArgs false
set_option linter.unusedVariables false
set_option linter.unnecessarySimpa false
set_option linter.defProp false
section
/- Rules for the operations. No condition. -/
namespace Go.Kc
variable {P:Program} {n:Nat} {C:qL} {d:Bool} {Q:Tr AV->Hp->Prop} {t:Tr AV} {h:Hp} {k:AV->Hp->Prop}

def evA(v:AV)(k:AV->Prop):Prop:=k v
@[congr] theorem qnX {v v':AV} {k:AV->Prop} {mk:Prop} (_:qI=mk) (h:v=v'):evA v k=evA v' k:=by rw[h]
theorem qi8{v:AV}{k:AV->Prop}:evA v k↔k v:=Iff.rfl
def evL(v:List AV)(k:List AV->Prop):Prop:=k v
@[congr] theorem qn1 {v v':List AV} {k:List AV->Prop} {mk:Prop} (_:qI=mk) (h:v=v'):evL v k=evL v' k:=by rw[h]
theorem qi9{v:List AV}{k:List AV->Prop}:evL v k↔k v:=Iff.rfl
def evN(v:Nat)(k:Nat->Prop):Prop:=k v
@[congr] theorem qn2 {v v':Nat} {k:Nat->Prop} {mk:Prop} (_:qI=mk) (h:v=v'):evN v k=evN v' k:=by rw[h]
theorem qja{v:Nat}{k:Nat->Prop}:evN v k↔k v:=Iff.rfl
def evT(v:Bool)(k:Bool->Prop):Prop:=k v
@[congr] theorem qn4 {v v':Bool} {k:Bool->Prop} {mk:Prop} (_:qI=mk) (h:v=v'):evT v k=evT v' k:=by rw[h]
theorem qjb{v:Bool}{k:Bool->Prop}:evT v k↔k v:=Iff.rfl
def evB(o:Option Blk)(k:Blk->Prop):Prop:=∃v,o=some v∧k v
@[congr] theorem qnY {o o':Option Blk} {k:Blk->Prop} {mk:Prop} (_:qI=mk) (h:o=o'):evB o k=evB o' k:=by rw[h]
theorem qgS{v:Blk}{k:Blk->Prop}:evB (some v) k↔k v:=by simp[evB]
def ifK(c:Prop)(p:Prop):Prop:=c∧p
@[congr] theorem qn5 {c c' p:Prop} {mk:Prop} (_:qI=mk) (h:c=c'):ifK c p=ifK c' p:=by rw[h]
theorem qcQ{p:Prop}:ifK True p↔p:=by simp[ifK]
theorem qjw{c c' p:Prop}:ifK (c∧c') p↔ifK c (ifK c' p):=by simp[ifK,and_assoc]
theorem qeJ{x:Bool}{p:Prop}:qc x p↔ifK (x=true) p:=qa _ _
theorem zB{n:Nat}{k:Nat->Prop}:qj n k↔evN n k:=by rw[ql];exact Iff.rfl
theorem Qz{n:Bool}{k:Bool->Prop}:qz n k↔evT n k:=by rw[qr];exact Iff.rfl
@[congr] theorem qjh {n:Nat} {k:Nat->Prop} {mk:Prop} (_:qI=mk):qj n k=qj n k:=rfl
@[congr] theorem qjg {n:Bool} {k:Bool->Prop} {mk:Prop} (_:qI=mk):qz n k=qz n k:=rfl
@[congr] theorem qk9 {n:Bool} {k:Prop} {mk:Prop} (_:qI=mk):qc n k=qc n k:=rfl
theorem qpN{x:Bool}{k:Bool->Prop}:unB (.b x) k↔k x:=Iff.rfl
theorem qkE{b o:Nat}{k:Nat->Nat->Prop}:unP (.ptr b o) k↔k b o:=Iff.rfl
theorem qpO{q:IntKind}{z:Int}{k:IntKind->Int->Prop}:unI (.i q z) k↔k q z:=Iff.rfl
theorem qpP{q:IntKind}{z:Int}{k:Nat->Prop}:unN (.i q z) k↔ifK (0<=z) (evN z.toNat k):=by
 cases z with
 | ofNat m=>exact⟨fun h=>⟨Int.natCast_nonneg m,h⟩,fun h=>h.2⟩
 | negSucc m=>exact⟨fun h=>h.elim,fun h=>absurd h.1 (by omega)⟩
@[congr] theorem qok {x:AV} {k:Bool->Prop} {mk:Prop} (_:qI=mk):unB x k=unB x k:=rfl
@[congr] theorem qon {x:AV} {k:Nat->Nat->Prop} {mk:Prop} (_:qI=mk):unP x k=unP x k:=rfl
@[congr] theorem qol {x:AV} {k:IntKind->Int->Prop} {mk:Prop} (_:qI=mk):unI x k=unI x k:=rfl
@[congr] theorem qom {x:AV} {k:Nat->Prop} {mk:Prop} (_:qI=mk):unN x k=unN x k:=rfl

section
variable {q q':IntKind} {n m:Int} {a c:List UInt8} {k:AV->Prop}
theorem qcH{z:Int}:zp (Qu q z) (fun r=>k (.i q r))↔evA (.i q (q.wrap z)) k:=by
 rw[qN,vz];exact Iff.rfl
theorem qiC:zh qq .lss (.i q n) (.i q m) k↔evA (.b (decide (n<m))) k:=by simp[zh,ze,qa,jU,evA]
theorem qiA:zh qq .gtr (.i q n) (.i q m) k↔evA (.b (decide (m<n))) k:=by simp[zh,ze,qa,jU,evA]
theorem qiz:zh qq .geq (.i q n) (.i q m) k↔evA (.b (decide (m<=n))) k:=by
 simp only[zh,ze,qa,jU,qr,decide_true,true_and,evA];rw[← decide_not];simp
theorem qiB:zh qq .leq (.i q n) (.i q m) k↔evA (.b (decide (n<=m))) k:=by
 simp only[zh,ze,qa,jU,qr,decide_true,true_and,evA];rw[← decide_not];simp
theorem qiy:zh qq .eql (.i q n) (.i q m) k↔evA (.b (decide (n=m))) k:=by
 simp only[zh,ze,qa,kA,qr,decide_true,true_and,evA];rw[show (n==m)=decide (n=m) from by rw[Bool.eq_iff_iff];simp]
theorem qiE:zh qq .neq (.i q n) (.i q m) k↔evA (.b (!decide (n=m))) k:=by
 simp only[zh,ze,qa,kA,qr,decide_true,true_and,evA];rw[show (n==m)=decide (n=m) from by rw[Bool.eq_iff_iff];simp]
theorem qiv:zh qq .add (.i q n) (.i q m) k↔evA (.i q (q.wrap (n+m))) k:=by
 simp only[zh,ze,qa,vz,qN,decide_true,true_and];exact Iff.rfl
theorem qiH:zh qq .sub (.i q n) (.i q m) k↔evA (.i q (q.wrap (n-m))) k:=by
 simp only[zh,ze,qa,vz,qN,decide_true,true_and];exact Iff.rfl
theorem qiD:zh qq .mul (.i q n) (.i q m) k↔evA (.i q (q.wrap (n*m))) k:=by
 simp only[zh,ze,qa,vz,qN,decide_true,true_and];exact Iff.rfl
def orI(q:IntKind)(x y:Int):Int:=q.wrap (BitVec.ofInt q.bits x ||| BitVec.ofInt q.bits y).toNat
def qdk(q:IntKind)(x y:Int):Int:=q.wrap (BitVec.ofInt q.bits x &&& BitVec.ofInt q.bits y).toNat
def qpV(q:IntKind)(x y:Int):Int:=q.wrap (BitVec.ofInt q.bits x ^^^ BitVec.ofInt q.bits y).toNat
def qgF(q:IntKind)(x y:Int):Int:=q.wrap (BitVec.ofInt q.bits x &&& ~~~ (BitVec.ofInt q.bits y)).toNat
theorem qlC:zh qq .or (.i q n) (.i q m) k↔evA (.i q (orI q n m)) k:=by
 simp only[zh,ze,qa,qN,decide_true,true_and,orI,evA]
theorem qiw:zh qq .and (.i q n) (.i q m) k↔evA (.i q (qdk q n m)) k:=by
 simp only[zh,ze,qa,qN,decide_true,true_and,qdk,evA]
theorem qiI:zh qq .xor (.i q n) (.i q m) k↔evA (.i q (qpV q n m)) k:=by
 simp only[zh,ze,qa,qN,decide_true,true_and,qpV,evA]
theorem qix:zh qq .andNot (.i q n) (.i q m) k↔evA (.i q (qgF q n m)) k:=by
 simp only[zh,ze,qa,qN,decide_true,true_and,qgF,evA]
def qnw(q:IntKind)(x m:Int):Int:=x.fdiv (2 ^ min m.toNat q.bits)
def qdO(q:IntKind)(x m:Int):Int:=q.wrap (x*2 ^ min m.toNat q.bits)
theorem qiG{q2:IntKind}:zh qq .shr (.i q n) (.i q2 m) k↔ifK (0<=m) (evA (.i q (qnw q n m)) k):=by
 cases m with
 | ofNat m =>
  show qj (min m q.bits) (fun a=>zp (n.fdiv (p2 a)) (fun r=>k (.i q r)))↔_
  rw[ql,qN,qeq];exact⟨fun h=>⟨Int.natCast_nonneg m,h⟩,fun h=>h.2⟩
 | negSucc m=>exact⟨fun h=>h.elim,fun h=>absurd h.1 (by omega)⟩
theorem qiF{q2:IntKind}:zh qq .shl (.i q n) (.i q2 m) k↔ifK (0<=m) (evA (.i q (qdO q n m)) k):=by
 cases m with
 | ofNat m =>
  show qj (min m q.bits) (fun a=>zp (q.wrap (n*p2 a)) (fun r=>k (.i q r)))↔_
  rw[ql,qN,qeq];exact⟨fun h=>⟨Int.natCast_nonneg m,h⟩,fun h=>h.2⟩
 | negSucc m=>exact⟨fun h=>h.elim,fun h=>absurd h.1 (by omega)⟩
theorem qbR(x y:Int):eqI x y=decide (x=y):=by rw[kA,Bool.eq_iff_iff];simp
theorem jB(h:m≠0):zh qq .rem (.i q n) (.i q m) k↔evA (.i q (n.tmod m)) k:=by
 simp only[zh,ze,qa,qN,decide_true,true_and,qbR,decide_eq_false h];exact Iff.rfl
theorem qge:zh qq .eql (.s a) (.s c) k↔evA (.b (decide (a=c))) k:=by
 simp only[zh,jj,xV,qr,evA];rw[show (a==c)=decide (a=c) from by rw[Bool.eq_iff_iff];simp]
theorem qgj:zh qq .neq (.s a) (.s c) k↔evA (.b (!decide (a=c))) k:=by
 simp only[zh,jj,xV,qr,evA];rw[show (a==c)=decide (a=c) from by rw[Bool.eq_iff_iff];simp]
theorem qgd:zh qq .add (.s a) (.s c) k↔ifK (a.length+c.length<=9223372036854775807) (evA (.s (a++c)) k):=by
 show (Bool.rec (motive:=fun _=>Prop) False (k (.s (a++c))) (Nat.ble (a.length+c.length) 9223372036854775807):Prop)↔_
 rw[show (a.length+c.length<=9223372036854775807)=(Nat.ble (a.length+c.length) 9223372036854775807=true) from propext ⟨Nat.ble_eq_true_of_le,Nat.le_of_ble_eq_true⟩]
 cases Nat.ble (a.length+c.length) 9223372036854775807
 ·exact⟨False.elim,fun h=>by cases h.1⟩
 ·exact⟨fun h=>⟨rfl,h⟩,fun h=>h.2⟩
theorem qgi:zh qq .lss (.s a) (.s c) k↔evA (.b (ltS a c)) k:=by simp only[zh,jj,qr,evA]
theorem qgf:zh qq .geq (.s a) (.s c) k↔evA (.b (!ltS a c)) k:=by simp only[zh,jj,qr,evA]
theorem qgh:zh qq .leq (.s a) (.s c) k↔evA (.b (ltS a c||decide (a=c))) k:=by
 simp only[zh,jj,xV,qr,evA];rw[show (a==c)=decide (a=c) from by rw[Bool.eq_iff_iff];simp]
theorem qgg:zh qq .gtr (.s a) (.s c) k↔evA (.b (!(ltS a c||decide (a=c)))) k:=by
 simp only[zh,jj,xV,qr,evA];rw[show (a==c)=decide (a=c) from by rw[Bool.eq_iff_iff];simp]
theorem qnJ{x:Bool}:wU .not (.b x) k↔evA (.b (!x)) k:=by simp only[wU,qr,evA]
theorem qnI:wU .neg (.i q n) k↔evA (.i q (q.wrap (0-n))) k:=by simp only[wU,qN,evA]
theorem qo{x:Int}(h1:-9223372036854775808<=x)(h2:x<=9223372036854775807):IntKind.wrap .i64 x=x:=by
 simp[IntKind.wrap,IntKind.bits,IntKind.signed];omega
theorem qcl{x:Int}(h1:0<=x)(h2:x<=18446744073709551615):IntKind.wrap .u64 x=x:=by
 simp[IntKind.wrap,IntKind.bits,IntKind.signed];omega
theorem qkH{x:Int}(h1:0<=x)(h2:x<=4294967295):IntKind.wrap .u32 x=x:=by
 simp[IntKind.wrap,IntKind.bits,IntKind.signed];omega
theorem qqc:cvK qq q (.i q' n) k↔evA (.i q (q.wrap n)) k:=by
 show zp (Qu q n) (fun r=>k (.i q r))↔_
 exact qcH
end

theorem qmH{s f:Nat}{tr:Tr Blk}{x:Blk}{k:Nat->Hp->Prop}:zN ⟨s,f,tr⟩ x k↔evN (s+1) (fun s'=>k s ⟨s',f,tr.set s x⟩):=by
 rw[qU];exact Iff.rfl
theorem qnh{s f b:Nat}{tr:Tr Blk}{x:Blk}{k:Hp->Prop}:xk ⟨s,f,tr⟩ b x k↔ifK (f<=b) (k ⟨s,f,tr.set b x⟩):=z3 _ _ _ _
theorem qpR{s f:Nat}{tr:Tr Blk}:Hp.up ⟨s,f,tr⟩=⟨s,s,tr⟩:=rfl
theorem qi4{s f f':Nat}{tr:Tr Blk}:Hp.down ⟨s,f,tr⟩ f'=⟨s,f',tr⟩:=rfl
def xH(x:Blk)(k:Nat->Bool->Bool->List AV->Prop):Prop:=match x with | .cells e w a cs=>k e w a cs|_=>False
@[congr] theorem qiP {x x':Blk} {k:Nat->Bool->Bool->List AV->Prop} {mk:Prop} (_:qI=mk) (h:x=x'):xH x k=xH x' k:=by rw[h]
theorem qbO{e:Nat}{w a:Bool}{cs:List AV}{k:Nat->Bool->Bool->List AV->Prop}:xH (.cells e w a cs) k↔k e w a cs:=Iff.rfl
theorem k7{b:Nat}{k:Nat->Bool->Bool->List AV->Prop}:xf h b k↔evB (h.tr.get b) (fun x=>xH x k):=by
 rw[qF];constructor
 ·rintro⟨e,w,a,cs,h1,h2⟩;exact⟨_,h1,h2⟩
 ·rintro⟨x,h1,h2⟩;cases x with
  | cells e w a cs=>exact⟨e,w,a,cs,h1,h2⟩
  | dead=>exact h2.elim
  | map es=>exact h2.elim
def vV(cs:List AV)(o n:Nat)(k:List AV->Prop):Prop:=o<=cs.length∧n<=(cs.drop o).length∧k ((cs.drop o).take n)
@[congr] theorem qlR {cs:List AV} {o n:Nat} {k:List AV->Prop} {mk:Prop} (_:qI=mk):vV cs o n k=vV cs o n k:=rfl
theorem qi2{cs:List AV}{o n:Nat}{k:List AV->Prop}:vV cs o n k↔ifK (o+n<=cs.length) (evL ((cs.drop o).take n) k):=by
 unfold vV ifK;rw[List.length_drop];exact⟨fun⟨h1,h2,h3⟩=>⟨by omega,h3⟩,fun⟨h1,h2⟩=>⟨by omega,by omega,h2⟩⟩
theorem drop_take{cs:List AV}{o n:Nat}{k:List AV->Prop}:jH o cs (fun l=>xQ n l k)↔vV cs o n k:=by
 rw[qM,qG];exact Iff.rfl
theorem qhg{b o:Nat}{k:AV->Prop}:ldV h (.ptr b o) k↔evB (h.tr.get b) (fun x=>xH x (fun _ _ _ cs=>evO cs[o]? k)):=by
 show xf h b (fun _ _ _ cs=>yN cs o k)↔_
 rw[k7]
 have:(fun (_:Nat) (_ _:Bool) (cs:List AV)=>yN cs o k)=fun _ _ _ cs=>evO cs[o]? k:=by
  funext _ _ _ cs;exact propext (zn _ _ _)
 rw[this]
theorem qpj{cs:List AV}{o:Nat}{k:AV->Prop}:ldV h (.pf cs o) k↔evO cs[o]? k:=zn _ _ _
theorem qph{b o:Nat}{k:AV->Prop}:ldK h b o k↔evB (h.tr.get b) (fun x=>xH x (fun _ _ _ cs=>evO cs[o]? k)):=qhg
theorem qhh{b o n:Nat}{k:List AV->Prop}:jo h b o n k↔evB (h.tr.get b) (fun x=>xH x (fun _ _ _ cs=>vV cs o n k)):=by
 show xf h b (fun _ _ _ cs=>jH o cs (fun l=>xQ n l k))↔_
 rw[k7];simp only[drop_take]
theorem qjH{b o n:Nat}{k:List AV->Prop}:Zd h (.ptr b o) n k↔evB (h.tr.get b) (fun x=>xH x (fun _ _ _ cs=>vV cs o n k)):=qhh
theorem qmq{cs:List AV}{o n:Nat}{k:List AV->Prop}:Zd h (.pf cs o) n k↔vV cs o n k:=drop_take
theorem qjO{b o n:Nat}{k:AV->Prop}:yM (.ptr b o) n k↔evN (o+n) (fun o'=>k (.ptr b o')):=zB (n:=o+n) (k:=fun o'=>k (.ptr b o'))
theorem qmE{cs:List AV}{o n:Nat}{k:AV->Prop}:yM (.pf cs o) n k↔evN (o+n) (fun o'=>k (.pf cs o')):=zB (n:=o+n) (k:=fun o'=>k (.pf cs o'))
@[congr] theorem qmD {p:AV} {n:Nat} {k:AV->Prop} {mk:Prop} (_:qI=mk):yM p n k=yM p n k:=rfl
theorem qqY{b o:Nat}{vs:List AV}{k:Hp->Prop}:stK h b o vs k↔evB (h.tr.get b) (fun x=>xH x (fun e w a cs=>ifK (w=true∧qD vs=true∧o+vs.length<=cs.length) (evL (cs.take o++(vs++cs.drop (o+vs.length))) (fun cs'=>xk h b (.cells e true a cs') k)))):=by
 show xf h b _↔_;rw[k7]
 have:(fun (e:Nat) (w a:Bool) (cs:List AV)=>(Bool.rec (motive:=fun _=>Prop) False (Bool.rec (motive:=fun _=>Prop) False (zJ vs o cs (fun cs'=>xk h b (.cells e w a cs') k)) (qD vs)) w:Prop)) =
   fun e w a cs=>ifK (w=true∧qD vs=true∧o+vs.length<=cs.length) (evL (cs.take o++(vs++cs.drop (o+vs.length))) (fun cs'=>xk h b (.cells e true a cs') k)):=by
  funext e w a cs;refine propext ?_;cases w with
  | false=>exact⟨False.elim,fun hh=>by have:=hh.1.1;cases this⟩
  | true =>
   cases hc:qD vs with
   | false=>exact⟨False.elim,fun hh=>by have:=hh.1.2.1;cases this⟩
   | true=>exact (zK _ _ _ _).trans ⟨fun⟨h1,h2⟩=>⟨⟨rfl,rfl,h1⟩,h2⟩,fun⟨⟨_,_,h1⟩,h2⟩=>⟨h1,h2⟩⟩
 rw[this]
def stV(h:Hp)(b o:Nat)(v:AV)(n:Nat)(k:Hp->Prop):Prop:=qc (kz v) (ym (cellsOf v) (fun m=>qc (Nat.beq m n) (stK h b o (cellsOf v) k)))
@[congr] theorem qoi {b o:Nat} {v:AV} {n:Nat} {k:Hp->Prop} {mk:Prop} (_:qI=mk):stV h b o v n k=stV h b o v n k:=rfl
theorem vG{x y:Nat}:Nat.beq x y=true↔x=y:=⟨Nat.eq_of_beq_eq_true,fun h=>h ▸ Nat.beq_refl x⟩
theorem qkA{b o:Nat}{v:AV}{n:Nat}{k:Hp->Prop}:stV h b o v n k↔ifK (kz v=true) (evL (cellsOf v) (fun cs=>ifK (cs.length=n) (stK h b o cs k))):=by
 unfold stV;rw[qa,zS,qa,vG];exact Iff.rfl
theorem zO{x y:Nat}:Nat.ble x y=true↔x<=y:=⟨Nat.le_of_ble_eq_true,Nat.ble_eq_true_of_le⟩

theorem qnc{x:O}:opK qq (.mov x) t h k↔evK t x (fun v=>k v h):=Iff.rfl
theorem ve{b:Bool}{p q:Prop}:(Bool.rec (motive:=fun _=>Prop) q p b:Prop)↔if b=true then p else q:=by cases b<;>simp
theorem qka{c x y:O}:opK qq (.pick c x y) t h k↔evK t c (fun c=>unB c (fun c=>if c=true then evK t x (fun v=>k v h) else evK t y (fun v=>k v h))):=by
 show evK t c (fun c=>unB c (fun c=>Bool.rec (motive:=fun _=>Prop) (evK t y (fun v=>k v h)) (evK t x (fun v=>k v h)) c))↔_
 simp only[ve]
theorem qhH{z:List AV}:opK qq (.alloc z) t h k↔zN h (.cells 0 true false z) (fun b h'=>k (.ptr b 0) h'):=Iff.rfl
theorem qmZ{x:O}:opK qq (.box x) t h k↔evK t x (fun v=>qc (kz v) (evL (cellsOf v) (fun cs=>zN h (.cells 0 true false cs) (fun b h'=>k (.ptr b 0) h')))):=Iff.rfl
theorem qhI{z:List AV}{ps:List (Nat×Nat×O)}:opK qq (.build z ps) t h k↔xa t ps z (fun cs=>k (.agg cs) h):=Iff.rfl
theorem qfx{n:Nat}{z:List AV}{ps:List (Nat×Nat×O)}:opK qq (.buildS n z ps) t h k↔evL (List.replicate n z).flatten (fun cs=>xa t ps cs (fun cs=>zN h (.cells 0 true false cs) (fun b h'=>k (.sl b 0 n n false) h'))):=by
 show QK z n _↔_;rw[xD];exact Iff.rfl
theorem qhN{x:O}:opK qq (.load1 x) t h k↔evK t x (fun p=>ldV h p (fun v=>k v h)):=Iff.rfl
theorem qhO{n:Nat}{x:O}:opK qq (.loadN n x) t h k↔evK t x (fun p=>Zd h p n (fun cs=>k (.agg cs) h)):=Iff.rfl
theorem qhR{n:Nat}{x v:O}:opK qq (.store n x v) t h k↔evK t x (fun p=>unP p (fun b o=>evK t v (fun v=>stV h b o v n (fun h'=>k .undef h')))):=Iff.rfl
def Q8(v:AV)(k:AV->Prop):Prop:=match v with | .ptr b o=>k (.ptr b o) | .fn f a c=>k (.fn f a c) | .map r=>k (.map r) | .pf cs o=>k (.pf cs o) | .yl b=>k (.yl b)|_=>False
@[congr] theorem qk4 {v:AV} {k:AV->Prop} {mk:Prop} (_:qI=mk):Q8 v k=Q8 v k:=rfl
theorem qfA{x:O}:opK qq (.nilChk x) t h k↔evK t x (fun v=>Q8 v (fun v=>k v h)):=by
 show evK t x (fun v=>_)↔_
 refine iff_of_eq (congrArg _ (funext fun v=>?_))
 cases v<;>rfl
theorem qmY{op:BinOp}{x y:O}:opK qq (.bin op x y) t h k↔evK t x (fun x=>evK t y (fun y=>zh qq op x y (fun v=>k v h))):=Iff.rfl
theorem qm2{neg:Bool}{x y:O}:opK qq (.eqB neg x y) t h k↔evK t x (fun x=>evK t y (fun y=>unB x (fun x=>unB y (fun y=>evT (xor neg (x==y)) (fun r=>k (.b r) h))))):=by
 show evK t x (fun x=>evK t y (fun y=>unB x (fun x=>unB y (fun y=>qz _ _))))↔_
 simp only[Qz]
theorem qm3{neg:Bool}{q:NK}{x:O}:opK qq (.eqN neg q x) t h k↔evK t x (fun x=>zL q x (fun r=>evT (xor neg r) (fun r=>k (.b r) h))):=by
 show evK t x (fun x=>zL q x (fun r=>qz _ _))↔_
 simp only[Qz]
theorem qm1{neg:Bool}{ks:List PK}{x y:O}:opK qq (.eqA neg ks x y) t h k↔evK t x (fun x=>evK t y (fun y=>match x with | .agg a=>(match y with | .agg c=>zQ ks a c (fun r=>qz (xor neg r) (fun r=>k (.b r) h))|_=>False)|_=>False)):=Iff.rfl
theorem qpB{op:UnOp}{x:O}:opK qq (.un op x) t h k↔evK t x (fun x=>wU op x (fun v=>k v h)):=Iff.rfl
theorem qhK{q:IntKind}{x:O}:opK qq (.cvInt q x) t h k↔evK t x (fun x=>cvK qq q x (fun v=>k v h)):=Iff.rfl
@[congr] theorem qnW {q:IntKind} {x:AV} {k:AV->Prop} {mk:Prop} (_:qI=mk):cvK qq q x k=cvK qq q x k:=rfl
theorem qhL{x:O}:opK qq (.cvStr x) t h k↔evK t x (fun x=>match x with | .s a=>k (.s a) h|_=>False):=Iff.rfl
theorem qnd{x:O}:opK qq (.s2b x) t h k↔evK t x (fun x=>match x with | .s a=>zN h (.cells 1 true true (a.map fun c=>.i .u8 (Int.ofNat c.toNat))) (fun b h'=>k (.own b a.length) h')|_=>False):=by
 show evK t x (fun x=>_)↔_
 refine iff_of_eq (congrArg _ (funext fun v=>?_))
 cases v<;>first|rfl|exact ql _ _
theorem qmX{x:O}:opK qq (.b2s x) t h k↔evK t x (fun x=>match x with
  | .nils=>k (.s []) h
  | .sl b o n _ _=>jo h b o n (fun cs=>zb cs (fun l=>k (.s l) h))
  | .fz n cs=>vV cs 0 n (fun cs=>zb cs (fun l=>k (.s l) h))
  | .e0=>k (.s []) h
  | .own b n=>jo h b 0 n (fun cs=>zb cs (fun l=>k (.s l) h))
  | _=>False):=by
 show evK t x (fun x=>_)↔_
 refine iff_of_eq (congrArg _ (funext fun v=>?_))
 cases v<;>first|rfl|exact propext ((qG _ _ _).trans ⟨fun hh=>⟨Nat.zero_le _,by simpa using hh⟩,fun hh=>by simpa using hh.2⟩)
theorem qhM{off:Nat}{x:O}:opK qq (.fAddr off x) t h k↔evK t x (fun p=>yM p off (fun v=>k v h)):=Iff.rfl
def qg1(off:Nat)(n:Option Nat)(x:AV)(k:AV->Prop):Prop:=match x with
 | .agg cs=>(match n with|none=>evO cs[off]? k|some n=>vV cs off n (fun l=>k (.agg l)))
 | _=>False
@[congr] theorem ql6 {off:Nat} {n:Option Nat} {x:AV} {k:AV->Prop} {mk:Prop} (_:qI=mk):qg1 off n x k=qg1 off n x k:=rfl
theorem qg2{off:Nat}{cs:List AV}{k:AV->Prop}:qg1 off none (.agg cs) k↔evO cs[off]? k:=Iff.rfl
theorem qg3{off n:Nat}{cs:List AV}{k:AV->Prop}:qg1 off (some n) (.agg cs) k↔vV cs off n (fun l=>k (.agg l)):=Iff.rfl
theorem qm5{off:Nat}{n:Option Nat}{x:O}:opK qq (.fld off n x) t h k↔evK t x (fun x=>qg1 off n x (fun v=>k v h)):=by
 show evK t x (fun x=>_)↔_
 refine iff_of_eq (congrArg _ (funext fun v=>?_))
 cases v<;>first|rfl|skip
 cases n with
 | none=>exact propext (zn _ _ _)
 | some n=>exact propext drop_take
theorem qfy{len esz:Nat}{x i:O}:opK qq (.iAddrA len esz x i) t h k↔evK t x (fun p=>evK t i (fun i=>unN i (fun i=>ifK (i<len) (evN (i*esz) (fun o=>yM p o (fun v=>k v h)))))):=by
 show evK t x (fun p=>evK t i (fun i=>unN i (fun i=>qc (Nat.ble (Nat.succ i) len) _)))↔_
 simp only[qa,zO];exact Iff.rfl
def ixK(esz:Nat)(x:AV)(i:Nat)(k:AV->Prop):Prop:=match x with
 | .sl b o len _ _=>ifK (i<len) (evN (o+i*esz) (fun o'=>k (.ptr b o')))
 | .fz len cs=>ifK (i<len) (evN (i*esz) (fun o'=>k (.pf cs o')))
 | .own b len=>ifK (i<len) (evN (i*esz) (fun o'=>k (.ptr b o')))
 | _=>False
@[congr] theorem qn7 {esz i:Nat} {x:AV} {k:AV->Prop} {mk:Prop} (_:qI=mk):ixK esz x i k=ixK esz x i k:=rfl
theorem qpc{esz i b o len cap:Nat}{l:Bool}{k:AV->Prop}:ixK esz (.sl b o len cap l) i k↔ifK (i<len) (evN (o+i*esz) (fun o'=>k (.ptr b o'))):=Iff.rfl
theorem qpb{esz i len:Nat}{cs:List AV}{k:AV->Prop}:ixK esz (.fz len cs) i k↔ifK (i<len) (evN (i*esz) (fun o'=>k (.pf cs o'))):=Iff.rfl
theorem qmk{esz i b len:Nat}{k:AV->Prop}:ixK esz (.own b len) i k↔ifK (i<len) (evN (i*esz) (fun o'=>k (.ptr b o'))):=Iff.rfl
def qbs(x:AV)(p:Prop):Prop:=match x with | .sl _ _ _ _ _=>p | .fz _ _=>p | .own _ _=>p|_=>False
@[congr] theorem qkY {x:AV} {p:Prop} {mk:Prop} (_:qI=mk):qbs x p=qbs x p:=rfl
theorem qhc{b o len cap:Nat}{l:Bool}{p:Prop}:qbs (.sl b o len cap l) p↔p:=Iff.rfl
theorem qhb{len:Nat}{cs:List AV}{p:Prop}:qbs (.fz len cs) p↔p:=Iff.rfl
theorem qfl{b len:Nat}{p:Prop}:qbs (.own b len) p↔p:=Iff.rfl
theorem qfz{esz:Nat}{x i:O}:opK qq (.iAddrS esz x i) t h k↔evK t x (fun x=>qbs x (evK t i (fun i=>unN i (fun i=>ixK esz x i (fun v=>k v h))))):=by
 show evK t x (fun x=>_)↔_
 refine iff_of_eq (congrArg _ (funext fun v=>?_))
 cases v<;>first|rfl|(simp only[qa,zO,zB];rfl)
theorem qj8{len esz:Nat}{agg:Bool}{x i:O}:opK qq (.idxA len esz agg x i) t h k↔evK t x (fun x=>match x with
  | .agg cs=>evK t i (fun i=>unN i (fun i=>ifK (i<len) (evN (i*esz) (fun o=>if agg=true then vV cs o esz (fun l=>k (.agg l) h) else evO cs[o]? (fun v=>k v h)))))
  | _=>False):=by
 show evK t x (fun x=>_)↔_
 refine iff_of_eq (congrArg _ (funext fun v=>?_))
 cases v<;>first|rfl|skip
 simp only[qa,zO,zB,ve,drop_take];have:∀(cs:List AV) (o:Nat),yN cs o (fun v=>k v h)=evO cs[o]? (fun v=>k v h):=fun cs o=>propext (zn _ _ _)
 simp only[this];rfl
def evC(o:Option UInt8)(k:UInt8->Prop):Prop:=∃v,o=some v∧k v
@[congr] theorem qnZ {o o':Option UInt8} {k:UInt8->Prop} {mk:Prop} (_:qI=mk) (h:o=o'):evC o k=evC o' k:=by rw[h]
theorem qcE{v:UInt8}{k:UInt8->Prop}:evC (some v) k↔k v:=by simp[evC]
theorem qj9{x i:O}:opK qq (.idxS x i) t h k↔evK t x (fun x=>match x with
  | .s a=>evK t i (fun i=>unN i (fun i=>evC a[i]? (fun c=>k (.i .u8 (c.toNat:Int)) h)))
  | _=>False):=by
 show evK t x (fun x=>_)↔_
 refine iff_of_eq (congrArg _ (funext fun v=>?_))
 cases v<;>first|rfl|skip
 rename_i a
 have e:∀(j:Nat),(Option.rec (motive:=fun _=>Prop) False (fun c=>k (.i .u8 (Int.ofNat c.toNat)) h) (a[j]?):Prop)=evC a[j]? (fun c=>k (.i .u8 (c.toNat:Int)) h):=by
  intro j;cases ha:a[j]? with
  | none=>exact propext ⟨False.elim,fun⟨_,h1,_⟩=>by cases h1⟩
  | some c=>exact (propext (qcE (k:=fun c=>k (.i .u8 (c.toNat:Int)) h) (v:=c))).symm
 simp only[e]
def bdK(x:Option AV)(dflt top:Nat)(k:Nat->Prop):Prop:=yj x dflt top k
@[congr] theorem qnT {x:Option AV} {a b:Nat} {k:Nat->Prop} {mk:Prop} (_:qI=mk):bdK x a b k=bdK x a b k:=rfl
theorem qit{a b:Nat}{k:Nat->Prop}:bdK none a b k↔k a:=Iff.rfl
theorem qdZ{v:AV}{a b:Nat}{k:Nat->Prop}:bdK (some v) a b k↔unN v (fun n=>ifK (n<=b) (k n)):=by
 show unN v (fun n=>qc (Nat.ble n b) (qj n k))↔_
 simp only[qa,zO,ql];exact Iff.rfl
theorem qiL{len cap:Nat}{lo:Option AV}{k:Nat->Nat->Nat->Prop}:zc len cap lo none none k↔ifK (len<=cap) (bdK lo 0 len (fun l=>k l len cap)):=by
 show qc (Nat.ble len cap) (yj lo 0 len (fun l=>k l len cap))↔_
 rw[qa,zO];exact Iff.rfl
theorem qiK{len cap:Nat}{lo:Option AV}{hi:AV}{k:Nat->Nat->Nat->Prop}:zc len cap lo (some hi) none k↔unN hi (fun u=>ifK (u<=cap) (bdK lo 0 u (fun l=>k l u cap))):=by
 show unN hi (fun u=>qc (Nat.ble u cap) (qj u (fun u=>yj lo 0 u (fun l=>k l u cap))))↔_
 simp only[qa,zO,ql];exact Iff.rfl
theorem qd0{len cap:Nat}{lo:Option AV}{hi mx:AV}{k:Nat->Nat->Nat->Prop}:zc len cap lo (some hi) (some mx) k↔unN mx (fun m=>ifK (m<=cap) (unN hi (fun u=>ifK (u<=m) (bdK lo 0 u (fun l=>k l u m))))):=by
 show unN mx (fun m=>qc (Nat.ble m cap) (qj m (fun m=>unN hi (fun u=>qc (Nat.ble u m) (qj u (fun u=>yj lo 0 u (fun l=>k l u m)))))))↔_
 simp only[qa,zO,ql];exact Iff.rfl
def slK(esz:Nat)(lo hi mx:Option AV)(x:AV)(h:Hp)(k:AV->Prop):Prop:=match x with
 | .nils=>zc 0 0 lo hi mx (fun _ _ _=>k .nils)
 | .e0=>zc 0 0 lo hi mx (fun _ _ _=>k .e0)
 | .fz n cs=>zc n n lo hi mx (fun l h' m=>if (mx.isSome&&Nat.beq m l)=true then k .e0 else evN (l*esz) (fun o=>evN (h'-l) (fun len'=>evN (len'*esz) (fun z=>vV cs o z (fun l2=>k (.fz len' l2))))))
 | .sl b o len cap loose=>zc len cap lo hi mx (fun l h' m=>evN (if (loose&&mx.isNone)=false∧m=l then o else o+l*esz) (fun o'=>evN (h'-l) (fun len'=>evN (m-l) (fun cap'=>Zb h b esz (loose&&mx.isNone) (k (.sl b o' len' cap' (loose&&mx.isNone)))))))
 | .own b n=>ifK (mx=none) (if n=0 then zc 0 0 lo hi none (fun _ _ _=>k (.own b 0)) else zc n n lo hi none (fun l h' m=>evN (l*esz) (fun o'=>evN (h'-l) (fun len'=>evN (m-l) (fun cap'=>Zb h b esz true (k (.sl b o' len' cap' true)))))))
 | _=>False
@[congr] theorem qog {esz:Nat} {lo hi mx:Option AV} {x:AV} {k:AV->Prop} {mk:Prop} (_:qI=mk):slK esz lo hi mx x h k=slK esz lo hi mx x h k:=rfl
@[congr] theorem ql0 {b esz:Nat} {c:Bool} {p:Prop} {mk:Prop} (_:qI=mk):Zb h b esz c p=Zb h b esz c p:=rfl
theorem qfb{b esz:Nat}{p:Prop}:Zb h b esz false p↔p:=Iff.rfl
theorem qgR{b esz:Nat}{p:Prop}:Zb h b esz true p↔evB (h.tr.get b) (fun x=>xH x (fun e _ _ _=>ifK (e=esz) p)):=by
 show xf h b (fun e _ _ _=>qc (Nat.beq e esz) p)↔_
 rw[k7];simp only[qa,vG];exact Iff.rfl
theorem qku{esz:Nat}{lo hi mx:Option AV}{k:AV->Prop}:slK esz lo hi mx .nils h k↔zc 0 0 lo hi mx (fun _ _ _=>k .nils):=Iff.rfl
theorem qpH{esz:Nat}{lo hi mx:Option AV}{k:AV->Prop}:slK esz lo hi mx .e0 h k↔zc 0 0 lo hi mx (fun _ _ _=>k .e0):=Iff.rfl
theorem qpI{esz n:Nat}{cs:List AV}{lo hi:Option AV}{k:AV->Prop}:slK esz lo hi none (.fz n cs) h k↔zc n n lo hi none (fun l h' _=>evN (l*esz) (fun o=>evN (h'-l) (fun len'=>evN (len'*esz) (fun z=>vV cs o z (fun l2=>k (.fz len' l2)))))):=by
 simp only[slK,Option.isSome_none,Bool.false_and,Bool.false_eq_true,if_false]
theorem qnz{esz b o len cap:Nat}{lo hi mx:Option AV}{k:AV->Prop}:slK esz lo hi mx (.sl b o len cap false) h k↔zc len cap lo hi mx (fun l1 h' m=>evN (if m=l1 then o else o+l1*esz) (fun o'=>evN (h'-l1) (fun len'=>evN (m-l1) (fun cap'=>k (.sl b o' len' cap' false))))):=by
 simp only[slK,Bool.false_and,true_and];exact Iff.rfl
theorem qnA{esz b o len cap:Nat}{lo hi:Option AV}{k:AV->Prop}:slK esz lo hi none (.sl b o len cap true) h k↔zc len cap lo hi none (fun l1 h' m=>evN (o+l1*esz) (fun o'=>evN (h'-l1) (fun len'=>evN (m-l1) (fun cap'=>Zb h b esz true (k (.sl b o' len' cap' true)))))):=by
 simp only[slK,Option.isNone_none,Bool.and_self,Bool.true_eq_false,false_and,if_false]
theorem qny{esz b n:Nat}{lo hi:Option AV}{k:AV->Prop}:slK esz lo hi none (.own b n) h k↔if n=0 then zc 0 0 lo hi none (fun _ _ _=>k (.own b 0)) else zc n n lo hi none (fun l h' m=>evN (l*esz) (fun o'=>evN (h'-l) (fun len'=>evN (m-l) (fun cap'=>Zb h b esz true (k (.sl b o' len' cap' true)))))):=by
 simp only[slK,ifK,true_and]
theorem qkc{esz:Nat}{x:O}{lo hi mx:Option O}:opK qq (.slcS esz x lo hi mx) t h k↔evK t x (fun x=>xC t lo (fun lo=>xC t hi (fun hi=>xC t mx (fun mx=>slK esz lo hi mx x h (fun v=>k v h))))):=by
 show evK t x (fun x=>_)↔_
 refine iff_of_eq (congrArg _ (funext fun v=>congrArg _ (funext fun lo=>congrArg _ (funext fun hi=>congrArg _ (funext fun mx=>?_)))))
 cases v<;>first|rfl|skip
 ·simp only[slK,zB];rfl
 ·have e:∀(cs:List AV) (o m:Nat),jH o cs (fun l1=>evN m (fun len'=>xQ (Nat.mul len' esz) l1 (fun l2=>k (.fz len' l2) h)))=evN m (fun len'=>evN (len'*esz) (fun z=>vV cs o z (fun l2=>k (.fz len' l2) h))):=by
   intro cs o m;refine propext ⟨fun hh=>?_,fun hh=>?_⟩
   ·obtain⟨h1,h2⟩:=(qM _ _ _).1 hh;obtain⟨h3,h4⟩:=(qG _ _ _).1 h2;exact⟨h1,h3,h4⟩
   ·obtain⟨h1,h3,h4⟩:=hh;exact (qM _ _ _).2 ⟨h1,(qG _ _ _).2 ⟨h3,h4⟩⟩
  simp only[slK,zB,ve,e];rfl
 ·rename_i b n;cases mx with
  | some m=>exact propext ⟨False.elim,fun hh=>by cases hh.1⟩
  | none =>
   cases n with
   | zero=>simp only[slK,ifK,true_and,if_true];rfl
   | succ n=>simp only[slK,ifK,true_and,Nat.succ_ne_zero,if_false,zB];rfl
theorem qfC{x:O}{lo hi:Option O}:opK qq (.slcStr x lo hi) t h k↔evK t x (fun x=>xC t lo (fun lo=>xC t hi (fun hi=>match x with
  | .s a=>zc a.length a.length lo hi none (fun l h' _=>evA (.s ((a.take h').drop l)) (fun v=>k v h))
  | _=>False))):=Iff.rfl
theorem qkb{len esz:Nat}{x:O}{lo hi mx:Option O}:opK qq (.slcA len esz x lo hi mx) t h k↔evK t x (fun p=>unP p (fun b o=>xC t lo (fun lo=>xC t hi (fun hi=>xC t mx (fun mx =>
   zc len len lo hi mx (fun l h' m=>evN (if m=l then o else o+l*esz) (fun o'=>evN (h'-l) (fun len'=>evN (m-l) (fun cap'=>k (.sl b o' len' cap' false) h))))))))):=by
 show evK t x (fun p=>unP p (fun b o=>xC t lo (fun lo=>xC t hi (fun hi=>xC t mx (fun mx=>zc len len lo hi mx (fun l h' m=>qj (if m=l then o else Nat.add o (Nat.mul l esz)) _))))))↔_
 simp only[zB];exact Iff.rfl
theorem qm4{x:O}{i:Nat}:opK qq (.ext x i) t h k↔evK t x (fun x=>match x with | .tup cs=>evO cs[i]? (fun v=>k v h)|_=>False):=by
 show evK t x (fun x=>_)↔_
 refine iff_of_eq (congrArg _ (funext fun v=>?_))
 cases v<;>first|rfl|exact propext (zn _ _ _)
theorem qm9{f:Nat}{a c:List O}:opK qq (.mkF f a c) t h k↔xd t a (fun a=>xd t c (fun c=>k (.fn f a c) h)):=Iff.rfl
theorem qnb{e bytes:Nat}{z:List AV}{len cap:O}:opK qq (.mkS e bytes z len cap) t h k↔evK t len (fun len=>evK t cap (fun cap=>unN len (fun l=>unN cap (fun c=>ifK (l<=c) (ifK (c<=qe) (ifK (bytes*c<=qe) (evL (List.replicate c z).flatten (fun cs=>zN h (.cells 0 true false cs) (fun b h'=>k (.sl b 0 l c false) h'))))))))):=by
 show evK t len (fun len=>evK t cap (fun cap=>unN len (fun l=>unN cap (fun c=>qc (Nat.ble l c) (qc (Nat.ble c qe) (qc (Nat.ble (Nat.mul bytes c) qe) (QK z c _)))))))↔_
 simp only[qa,zO,xD];exact Iff.rfl
def lnK(str:Bool)(x:AV)(k:AV->Prop):Prop:=match x,str with
 | .nils,false=>k (.i .i64 0)
 | .e0,false=>k (.i .i64 0)
 | .nz,false=>k (.i .i64 0)
 | .fz n _,false=>evA (.i .i64 (n:Int)) k
 | .own _ n,false=>evA (.i .i64 (n:Int)) k
 | .sl _ _ n _ _,false=>evA (.i .i64 (n:Int)) k
 | .s a,true=>evA (.i .i64 (a.length:Int)) k
 | _,_=>False
@[congr] theorem qob {b:Bool} {x:AV} {k:AV->Prop} {mk:Prop} (_:qI=mk):lnK b x k=lnK b x k:=rfl
theorem qm6{str:Bool}{x:O}:opK qq (.len str x) t h k↔evK t x (fun x=>lnK str x (fun v=>k v h)):=by
 show evK t x (fun x=>_)↔_
 refine iff_of_eq (congrArg _ (funext fun v=>?_))
 cases v<;>cases str<;>first|rfl|exact ql _ _
theorem qjK{k:AV->Prop}:lnK false .nils k↔k (.i .i64 0):=Iff.rfl
theorem qpm{k:AV->Prop}:lnK false .nz k↔k (.i .i64 0):=Iff.rfl
theorem qpk{k:AV->Prop}:lnK false .e0 k↔k (.i .i64 0):=Iff.rfl
theorem qpl{n:Nat}{cs:List AV}{k:AV->Prop}:lnK false (.fz n cs) k↔evA (.i .i64 (n:Int)) k:=Iff.rfl
theorem qmu{b n:Nat}{k:AV->Prop}:lnK false (.own b n) k↔evA (.i .i64 (n:Int)) k:=Iff.rfl
theorem qpn{b o n c:Nat}{l:Bool}{k:AV->Prop}:lnK false (.sl b o n c l) k↔evA (.i .i64 (n:Int)) k:=Iff.rfl
theorem qqv{a:List UInt8}{k:AV->Prop}:lnK true (.s a) k↔evA (.i .i64 (a.length:Int)) k:=Iff.rfl
theorem qmW{esz bytes:Nat}{c:Bool}{s x:O}:opK qq (.app esz bytes c s x) t h k↔evK t s (fun s=>evK t x (fun x=>kr h esz bytes c s x k)):=Iff.rfl
theorem qj5{esz bytes:Nat}{s x:O}:opK qq (.appF esz bytes s x) t h k↔evK t s (fun s=>evK t x (fun x=>kr h esz bytes true s x k)):=Iff.rfl
def qf9(esz bytes:Nat)(z:List AV)(h:Hp)(s:AV)(n:Nat)(k:AV->Hp->Prop):Prop:=match s with
  | .sl b o len cap false=>evN (len+n) (fun need=>ifK (cap<need) (ifK (need<=qe) (ifK (need*bytes<=qe) (evN (len*esz) (fun m=>jo h b o m (fun old=>evL (old++(List.replicate n z).flatten) (fun cs=>zN h (.cells esz true true cs) (fun b' h'=>k (.own b' need) h'))))))))
  | _=>False
@[congr] theorem qlw {esz bytes n:Nat} {z:List AV} {s:AV} {mk:Prop} (_:qI=mk):qf9 esz bytes z h s n k=qf9 esz bytes z h s n k:=rfl
theorem qlx{esz bytes b o len cap n:Nat}{z:List AV}:qf9 esz bytes z h (.sl b o len cap false) n k↔evN (len+n) (fun need=>ifK (cap<need) (ifK (need<=qe) (ifK (need*bytes<=qe) (evN (len*esz) (fun m=>jo h b o m (fun old=>evL (old++(List.replicate n z).flatten) (fun cs=>zN h (.cells esz true true cs) (fun b' h'=>k (.own b' need) h')))))))):=Iff.rfl
theorem qj6{esz bytes:Nat}{z:List AV}{s x:O}:opK qq (.appZ esz bytes z s x) t h k↔evK t s (fun s=>evK t x (fun x=>unN x (fun n=>qf9 esz bytes z h s n k))):=by
 show evK t s (fun s=>evK t x (fun x=>unN x (fun n=>_)))↔_
 refine iff_of_eq (congrArg _ (funext fun v=>congrArg _ (funext fun x=>congrArg _ (funext fun n=>propext ?_))))
 cases v<;>first|exact Iff.rfl|skip
 rename_i b o len cap loose;cases loose with
 | true=>exact⟨fun hh=>absurd ((qa (!true) _).1 hh).1 (by simp),False.elim⟩
 | false =>
  simp only[qf9,qa,zO,xD,zP,Bool.not_false,true_and,evN,ifK,evL];rfl
theorem qj7{esz:Nat}{s x:O}:opK qq (.copy esz s x) t h k↔evK t s (fun s=>evK t x (fun x=>QY h esz s x k)):=Iff.rfl
theorem qe8{esz:Nat}{s:AV}:QY h esz .nils s k↔ji h esz s (fun _ _=>k (.i .i64 0) h):=Iff.rfl
theorem qi0{esz b o len c:Nat}{l:Bool}{s:AV}:QY h esz (.sl b o len c l) s k↔ji h esz s (fun n new=>evN (min n len) (fun m=>evN (m*esz) (fun z=>vV new 0 z (fun cs=>stK h b o cs (fun h'=>evA (.i .i64 (m:Int)) (fun v=>k v h')))))):=by
 show ji h esz s (fun n new=>qj (min n len) (fun m=>xQ (Nat.mul m esz) new (fun cs=>stK h b o cs (fun h'=>k (.i .i64 (Int.ofNat m)) h'))))↔_
 simp only[zB];refine iff_of_eq (congrArg _ (funext fun n=>funext fun new=>congrArg _ (funext fun m=>propext ?_)))
 exact (qG _ _ _).trans ⟨fun hh=>⟨Nat.zero_le _,by simpa[evA] using hh⟩,fun hh=>by simpa[evN,vV,evA] using hh⟩
theorem qm8{x y:O}:opK qq (.min x y) t h k↔evK t x (fun x=>evK t y (fun y=>unI x (fun q n=>unI y (fun _ m=>evA (.i q (if m<n then m else n)) (fun v=>k v h))))):=by
 have e:∀(q:IntKind) (n m:Int),(Bool.rec (motive:=fun _=>Prop) (k (.i q n) h) (k (.i q m) h) (ltI m n):Prop)=evA (.i q (if m<n then m else n)) (fun v=>k v h):=by
  intro q n m;rw[jU]
  by_cases hlt:m<n
  ·rw[decide_eq_true hlt,if_pos hlt];rfl
  ·rw[decide_eq_false hlt,if_neg hlt];rfl
 show evK t x (fun x=>evK t y (fun y=>unI x (fun q n=>unI y (fun _ m=>Bool.rec (motive:=fun _=>Prop) (k (.i q n) h) (k (.i q m) h) (ltI m n)))))↔_
 simp only[e]
theorem qm7{x y:O}:opK qq (.max x y) t h k↔evK t x (fun x=>evK t y (fun y=>unI x (fun q n=>unI y (fun _ m=>evA (.i q (if n<m then m else n)) (fun v=>k v h))))):=by
 have e:∀(q:IntKind) (n m:Int),(Bool.rec (motive:=fun _=>Prop) (k (.i q n) h) (k (.i q m) h) (ltI n m):Prop)=evA (.i q (if n<m then m else n)) (fun v=>k v h):=by
  intro q n m;rw[jU]
  by_cases hlt:n<m
  ·rw[decide_eq_true hlt,if_pos hlt];rfl
  ·rw[decide_eq_false hlt,if_neg hlt];rfl
 show evK t x (fun x=>evK t y (fun y=>unI x (fun q n=>unI y (fun _ m=>Bool.rec (motive:=fun _=>Prop) (k (.i q n) h) (k (.i q m) h) (ltI n m)))))↔_
 simp only[e]
def qds(z:List AV)(x:AV)(h:Hp)(k:AV->Hp->Prop):Prop:=match x with
  | .nils=>k (.tup []) h
  | .sl b o n _ _=>if n=0 then k (.tup []) h else evL (List.replicate n z).flatten (fun cs=>stK h b o cs (fun h'=>k (.tup []) h'))
  | _=>False
@[congr] theorem qlP {z:List AV} {x:AV} {mk:Prop} (_:qI=mk):qds z x h k=qds z x h k:=rfl
theorem qgG{z:List AV}:qds z .nils h k↔k (.tup []) h:=Iff.rfl
theorem qlQ{z:List AV}{b o n c:Nat}{l:Bool}:qds z (.sl b o n c l) h k↔if n=0 then k (.tup []) h else evL (List.replicate n z).flatten (fun cs=>stK h b o cs (fun h'=>k (.tup []) h')):=Iff.rfl
theorem qhJ{z:List AV}{x:O}:opK qq (.clear z x) t h k↔evK t x (fun x=>qds z x h k):=by
 show evK t x (fun x=>_)↔_
 refine iff_of_eq (congrArg _ (funext fun v=>?_))
 cases v<;>first|rfl|skip
 rename_i b o n c l;cases n with
 | zero=>simp only[qds,if_true];rfl
 | succ n=>simp only[qds,xD];rfl
theorem qna:opK qq .mkM t h k↔zN h (.map []) (fun b h'=>k (.map b) h'):=Iff.rfl
theorem qfD{n:Nat}{x v:O}{ps:List Nat}:opK qq (.storeD n x v ps) t h k↔evK t x (fun p=>unP p (fun b o=>zr t b ps (evK t v (fun v=>stV h b o v n (fun h'=>k .undef h'))))):=Iff.rfl
theorem qj4{esz bytes:Nat}{s x:O}{ps:List Nat}:opK qq (.appD esz bytes s x ps) t h k↔evK t s (fun s=>evK t x (fun x=>xJ t ps s (kr h esz bytes true s x k))):=Iff.rfl
@[congr] theorem qkq {ps:List Nat} {s s':AV} {p:Prop} {mk:Prop} (_:qI=mk) (h':s=s'):xJ t ps s p=xJ t ps s' p:=by rw[h']
theorem qkr{ps:List Nat}{b m:Nat}{p:Prop}:xJ t ps (.own b m) p↔zr t b ps p:=Iff.rfl
theorem qnu{ps:List Nat}{b o m c:Nat}{l:Bool}{p:Prop}:xJ t ps (.sl b o m c l) p↔zr t b ps p:=Iff.rfl
theorem qnt{ps:List Nat}{m:Nat}{cs:List AV}{p:Prop}:xJ t ps (.fz m cs) p↔p:=Iff.rfl
theorem qh5{ps:List Nat}{p:Prop}:xJ t ps .nils p↔p:=Iff.rfl
theorem qns{ps:List Nat}{p:Prop}:xJ t ps .e0 p↔p:=Iff.rfl
@[congr] theorem qiq {b:Nat} {ps:List Nat} {p:Prop} {mk:Prop} (_:qI=mk):zr t b ps p=zr t b ps p:=rfl
theorem qeS{b:Nat}{p:Prop}:zr t b [] p↔p:=Iff.rfl
def neK(b:Nat)(y:AV)(p:Prop):Prop:=match y with | .ptr b' _=>ifK (¬b'=b) p | .pf _ _=>p|_=>False
@[congr] theorem qod {b:Nat} {y:AV} {p:Prop} {mk:Prop} (_:qI=mk):neK b y p=neK b y p:=rfl
theorem qmF{b b' o:Nat}{p:Prop}:neK b (.ptr b' o) p↔ifK (¬b'=b) p:=Iff.rfl
theorem qpq{b o:Nat}{cs:List AV}{p:Prop}:neK b (.pf cs o) p↔p:=Iff.rfl
theorem qdl{b q:Nat}{ps:List Nat}{p:Prop}:zr t b (q::ps) p↔evO (t.get q) (fun y=>neK b y (zr t b ps p)):=by
 refine (Tr.getK_iff _ _ _).trans (iff_of_eq (congrArg _ (funext fun v=>?_)))
 refine congrArg _ ?_;cases v<;>first|rfl|skip
 rename_i b' o;refine propext ((qa _ _).trans ?_);show _∧_↔_∧_
 have:(!Nat.beq b' b)=true↔¬b'=b:=by
  rw[Bool.not_eq_true',← Bool.not_eq_true,vG]
 rw[this];exact Iff.rfl
def cpK(x:AV)(k:AV->Prop):Prop:=match x with
  | .nils=>k (.i .i64 0)
  | .e0=>k (.i .i64 0)
  | .sl _ _ _ c false=>evA (.i .i64 (c:Int)) k
  | _=>False
@[congr] theorem qnU {x:AV} {k:AV->Prop} {mk:Prop} (_:qI=mk):cpK x k=cpK x k:=rfl
theorem qm0{x:O}:opK qq (.cap x) t h k↔evK t x (fun x=>cpK x (fun v=>k v h)):=by
 show evK t x (fun x=>_)↔_
 refine iff_of_eq (congrArg _ (funext fun v=>?_))
 cases v<;>first|rfl|skip
 rename_i l;cases l<;>rfl
theorem qi1{k:AV->Prop}:cpK .nils k↔k (.i .i64 0):=Iff.rfl
theorem qoU{k:AV->Prop}:cpK .e0 k↔k (.i .i64 0):=Iff.rfl
theorem qoV{b o n c:Nat}{k:AV->Prop}:cpK (.sl b o n c false) k↔evA (.i .i64 (c:Int)) k:=Iff.rfl
theorem qgY{l:List AV}{k:List AV->Prop}:xa t [] l k↔k l:=Iff.rfl
theorem qfd{off m:Nat}{x:O}{ps:List (Nat×Nat×O)}{l:List AV}{k:List AV->Prop}:xa t ((off,m,x)::ps) l k↔evK t x (fun v=>ifK (kz v=true) (evL (cellsOf v) (fun cs=>ifK (cs.length=m∧off+cs.length<=l.length) (evL (l.take off++(cs++l.drop (off+cs.length))) (fun l=>xa t ps l k))))):=by
 show evK t x (fun v=>qc (kz v) (qj off (fun off=>ym (cellsOf v) (fun n=>qc (Nat.beq n m) (zJ (cellsOf v) off l (fun l'=>xa t ps l' k))))))↔_
 simp only[qa,ql,zS,zK,vG,ifK,evL,and_assoc]
theorem qh9{esz:Nat}{k:Nat->List AV->Prop}:ji h esz .nils k↔k 0 []:=Iff.rfl
theorem qnE{esz:Nat}{k:Nat->List AV->Prop}:ji h esz .nz k↔k 0 []:=Iff.rfl
theorem qnC{esz:Nat}{k:Nat->List AV->Prop}:ji h esz .e0 k↔k 0 []:=Iff.rfl
theorem qnF{esz b o n c:Nat}{l:Bool}{k:Nat->List AV->Prop}:ji h esz (.sl b o n c l) k↔evN (n*esz) (fun m=>jo h b o m (fun cs=>k n cs)):=Iff.rfl
theorem qkx{esz b n:Nat}{k:Nat->List AV->Prop}:ji h esz (.own b n) k↔evN (n*esz) (fun m=>jo h b 0 m (fun cs=>k n cs)):=Iff.rfl
theorem qnD{esz n:Nat}{cs:List AV}{k:Nat->List AV->Prop}:ji h esz (.fz n cs) k↔evN (n*esz) (fun m=>vV cs 0 m (fun cs=>k n cs)):=by
 refine (qG _ _ _).trans ⟨fun hh=>⟨Nat.zero_le _,by simpa using hh⟩,fun hh=>by simpa[evN,vV] using hh⟩
theorem qpJ{esz:Nat}{a:List UInt8}{k:Nat->List AV->Prop}:ji h esz (.s a) k↔ifK (esz=1) (k a.length (a.map fun c=>.i .u8 (Int.ofNat c.toNat))):=by
 show qc (Nat.beq esz 1) (qj a.length _)↔_;rw[qa,vG,ql];exact Iff.rfl
theorem qf8{esz bytes:Nat}{c:Bool}{x:AV}:kr h esz bytes c .nils x k↔ji h esz x (fun n new=>ifK (n<=qe) (ifK (n*bytes<=qe) (zN h (.cells esz true true new) (fun b h'=>k (.own b n) h')))):=by
 show ji h esz x (fun n new=>qc (Nat.ble n qe) (qc (Nat.ble (Nat.mul n bytes) qe) _))↔_
 simp only[qa,zO];exact Iff.rfl
theorem qlt{esz bytes:Nat}{c:Bool}{x:AV}:kr h esz bytes c .e0 x k↔ji h esz x (fun n new=>ifK (n<=qe) (ifK (n*bytes<=qe) (zN h (.cells esz true true new) (fun b h'=>k (.own b n) h')))):=by
 show ji h esz x (fun n new=>qc (Nat.ble n qe) (qc (Nat.ble (Nat.mul n bytes) qe) _))↔_
 simp only[qa,zO];exact Iff.rfl
theorem qis{esz bytes b m:Nat}{x:AV}:kr h esz bytes true (.own b m) x k↔ji h esz x (fun n new=>evN (m+n) (fun need=>ifK (need<=qe) (ifK (need*bytes<=qe) (evB (h.tr.get b) (fun y=>xH y (fun e w a ys =>
  ifK (qD new=true∧w=true∧a=true∧e=esz∧ys.length=m*esz) (evL (ys++new) (fun cs'=>xk h b .dead (fun h1=>zN h1 (.cells esz true true cs') (fun b' h'=>k (.own b' need) h')))))))))):=by
 show ji h esz x (fun n new=>qj (Nat.add m n) (fun need=>qc (Nat.ble need qe) (qc (Nat.ble (Nat.mul need bytes) qe) (xf h b (fun e w a ys=>_)))))↔_
 simp only[zB,qa,zO,vG,k7,zS,zP];refine iff_of_eq (congrArg _ (funext fun n=>funext fun new=>?_))
 simp only[ifK,evN,evL,and_assoc];rfl
theorem qlv{esz bytes b o len cap:Nat}{c:Bool}{x:AV}:kr h esz bytes c (.sl b o len cap false) x k↔ji h esz x (fun n new=>evN (len+n) (fun need=>if need<=cap then
  (if n=0 then k (.sl b o need cap false) h else evN (o+len*esz) (fun at_=>stK h b at_ new (fun h'=>k (.sl b o need cap false) h')))
  else ifK (need<=qe) (ifK (need*bytes<=qe) (evN (len*esz) (fun m=>jo h b o m (fun old=>evL (old++new) (fun cs=>zN h (.cells esz true true cs) (fun b' h'=>k (.own b' need) h')))))))):=by
 have e:∀(n:Nat) (p q:Prop),(Nat.rec (motive:=fun _=>Prop) p (fun _ _=>q) n:Prop)↔if n=0 then p else q:=by
  intro n p q;cases n with
  | zero=>rw[if_pos rfl];exact Iff.rfl
  | succ n=>rw[if_neg (Nat.succ_ne_zero n)]
 unfold kr;dsimp only;simp only[Bool.not_false,zB,qeJ,zO,ve,zP,e,qcQ];exact Iff.rfl
theorem qlu{esz bytes m:Nat}{c:Bool}{cs:List AV}{x:AV}:kr h esz bytes c (.fz m cs) x k↔ji h esz x (fun n _=>ifK (n=0) (k (.fz m cs) h)):=by
 show ji h esz x (fun n _=>Nat.rec (motive:=fun _=>Prop) (k (.fz m cs) h) (fun _ _=>False) n)↔_
 refine iff_of_eq (congrArg _ (funext fun n=>funext fun new=>?_))
 cases n<;>simp[ifK];rfl
theorem qhA{k:Bool->Prop}:zL .ptr .nilp k↔k true:=Iff.rfl
theorem qjS{b o:Nat}{k:Bool->Prop}:zL .ptr (.ptr b o) k↔k false:=Iff.rfl
theorem qmL{cs:List AV}{o:Nat}{k:Bool->Prop}:zL .ptr (.pf cs o) k↔k false:=Iff.rfl
theorem qmK{k:Bool->Prop}:zL .slice .nz k↔k false:=Iff.rfl
theorem qhB{k:Bool->Prop}:zL .slice .nils k↔k true:=Iff.rfl
theorem qmM{b o n c:Nat}{l:Bool}{k:Bool->Prop}:zL .slice (.sl b o n c l) k↔k false:=Iff.rfl
theorem qmJ{n:Nat}{cs:List AV}{k:Bool->Prop}:zL .slice (.fz n cs) k↔ifK (1<=n) (k false):=by
 show qc (Nat.ble 1 n) (k false)↔_;rw[qa,zO];exact Iff.rfl
theorem qjR{b n:Nat}{k:Bool->Prop}:zL .slice (.own b n) k↔ifK (1<=n) (k false):=by
 show qc (Nat.ble 1 n) (k false)↔_;rw[qa,zO];exact Iff.rfl
theorem qhy{k:Bool->Prop}:zL .func .nilf k↔k true:=Iff.rfl
theorem qmI{f:Nat}{a c:List AV}{k:Bool->Prop}:zL .func (.fn f a c) k↔k false:=Iff.rfl
theorem qhz{k:Bool->Prop}:zL .iface .nili k↔k true:=Iff.rfl
theorem qjQ{t:Nat}{v:AV}{k:Bool->Prop}:zL .iface (.ifc t v) k↔k false:=Iff.rfl
theorem qi6{x y:List AV}{k:Bool->Prop}:zQ [] x y k↔k true:=Iff.rfl
theorem qgP{q:PK}{qs:List PK}{u v:AV}{us vs:List AV}{k:Bool->Prop}:zQ (q::qs) (u::us) (v::vs) k↔zW q u v (fun e=>if e=true then zQ qs us vs k else k false):=by
 show zW q u v (fun e=>Bool.rec (motive:=fun _=>Prop) (k false) (zQ qs us vs k) e)↔_
 simp only[ve]
@[congr] theorem qil {q:PK} {x y:AV} {k:Bool->Prop} {mk:Prop} (_:qI=mk):zW q x y k=zW q x y k:=rfl
theorem qqi{q:IntKind}{n m:Int}{k:Bool->Prop}:zW .i (.i q n) (.i q m) k↔evT (decide (n=m)) k:=by
 show qc (decide (q=q)) (qz (eqI n m) k)↔_;rw[qa,qbR,qr];simp[evT]
theorem qqj{a c:List UInt8}{k:Bool->Prop}:zW .s (.s a) (.s c) k↔evT (decide (a=c)) k:=by
 show qz (eqS a c) k↔_;rw[qr,xV,show (a==c)=decide (a=c) from by rw[Bool.eq_iff_iff];simp];exact Iff.rfl
theorem qqh{a c:Bool}{k:Bool->Prop}:zW .b (.b a) (.b c) k↔evT (a==c) k:=by
 show qz (a==c) k↔_;rw[qr];exact Iff.rfl
theorem qgL{rs:List RV}{k:AV->Hp->Prop}:vo rs k .ret t h↔xE t h rs (fun vs=>k (xu vs) h):=Iff.rfl
theorem qcD{rs:List RV}{k:AV->Hp->Prop}:vo rs k .normal t h↔xE t h rs (fun vs=>k (xu vs) h):=Iff.rfl
@[congr] theorem qnn {rs:List RV} {k:List AV->Prop} {mk:Prop} (_:qI=mk):xE t h rs k=xE t h rs k:=rfl
theorem qkn{k:List AV->Prop}:xE t h [] k↔k []:=Iff.rfl
theorem qko{n:Nat}{rs:List RV}{k:List AV->Prop}:xE t h (.tmp n::rs) k↔evO (t.get n) (fun v=>xE t h rs (fun vs=>k (v::vs))):=Tr.getK_iff _ _ _
theorem qh2{n size:Nat}{agg:Bool}{rs:List RV}{k:List AV->Prop}:xE t h (.cell n size agg::rs) k↔evO (t.get n) (fun v=>unP v (fun b o=>if agg=true then jo h b o size (fun cs=>xE t h rs (fun vs=>k (.agg cs::vs))) else ldK h b o (fun v=>xE t h rs (fun vs=>k (v::vs))))):=by
 refine (Tr.getK_iff _ _ _).trans (iff_of_eq (congrArg _ (funext fun v=>congrArg _ ?_)))
 cases v<;>first|rfl|skip
 cases agg<;>rfl
end Go.Kc
end
section
/- Rules for results and for states written out; maps. No condition. -/
namespace Go.Kc
variable {P:Program} {n:Nat} {t:Tr AV} {h:Hp} {k:AV->Hp->Prop}

section
variable {r:Nat->Nat} {m:Nat} {v v':AV} {vs vs':List AV}
theorem qhD:NV r m v .undef↔True:=iff_true_intro (.undef _)
theorem qqy{x y:Bool}:NV r m (.b x) (.b y)↔x=y:=⟨fun h=>by cases h;rfl,fun h=>by subst h;exact .clo _ rfl⟩
theorem qqz{q q':IntKind}{x y:Int}:NV r m (.i q x) (.i q' y)↔q=q'∧x=y:=⟨fun h=>by cases h;exact⟨rfl,rfl⟩,fun⟨h,h'⟩=>by subst h h';exact .clo _ rfl⟩
theorem qqA{x y:List UInt8}:NV r m (.s x) (.s y)↔x=y:=⟨fun h=>by cases h;rfl,fun h=>by subst h;exact .clo _ rfl⟩
theorem qjY:NV r m .nilp .nilp↔True:=iff_true_intro (.clo _ rfl)
theorem qjZ:NV r m .nils .nils↔True:=iff_true_intro (.clo _ rfl)
theorem qjV:NV r m .nilf .nilf↔True:=iff_true_intro (.clo _ rfl)
theorem qjW:NV r m .nili .nili↔True:=iff_true_intro (.clo _ rfl)
theorem qjX:NV r m .nilm .nilm↔True:=iff_true_intro (.clo _ rfl)
theorem qpr:NV r m .e0 .e0↔True:=iff_true_intro (.clo _ rfl)
theorem qpu:NV r m .nz .nz↔True:=iff_true_intro (.clo _ rfl)
theorem qmP{x:Nat}{cs:List AV}:NV r m .e0 (.fz x cs)↔x=0∧cs=[]:=⟨fun h=>by cases h;exact⟨rfl,rfl⟩,fun⟨h,h'⟩=>by subst h h';exact .e0z⟩
theorem qhC{b' x':Nat}:NV r m .e0 (.own b' x')↔b'<m∧x'=0:=⟨fun h=>by
  cases h with
  | e0own _ h1=>exact⟨h1,rfl⟩,fun⟨h1,h2⟩=>by subst h2;exact .e0own _ h1⟩
theorem qmU{b b' o x c x':Nat}{l:Bool}:NV r m (.sl b o x c l) (.own b' x')↔b'<m∧x=0∧c=0∧l=false∧x'=0:=⟨fun h=>by
  cases h with
  | slz _ _ _ h1=>exact⟨h1,rfl,rfl,rfl,rfl⟩,fun⟨h1,h2,h3,h4,h5⟩=>by subst h2 h3 h4 h5;exact .slz _ _ _ h1⟩
theorem qpt{x y:Nat}{cs ds:List AV}:NV r m (.fz x cs) (.fz y ds)↔x=y∧cs=ds:=⟨fun h=>by cases h;exact⟨rfl,rfl⟩,fun⟨h,h'⟩=>by subst h h';exact .clo _ rfl⟩
theorem qpv{x y:Nat}{cs ds:List AV}:NV r m (.pf cs x) (.pf ds y)↔cs=ds∧x=y:=⟨fun h=>by cases h;exact⟨rfl,rfl⟩,fun⟨h,h'⟩=>by subst h h';exact .clo _ rfl⟩
theorem qj0{x:Nat}{cs:List AV}:NV r m .nils (.fz x cs)↔x=0∧cs=[]:=⟨fun h=>by cases h;exact⟨rfl,rfl⟩,fun⟨h,h'⟩=>by subst h h';exact .nilz⟩
theorem qmT{b b' o o':Nat}:NV r m (.ptr b o) (.ptr b' o')↔r b'=b∧b'<m∧o=o':=⟨fun h=>by
  cases h with
  | clo _ hc=>cases hc
  | ptr _ _ _ h1 h2=>exact⟨h1,h2,rfl⟩,fun⟨h1,h2,h3⟩=>by subst h3;exact .ptr _ _ _ h1 h2⟩
theorem qpw{b b' o o' x x' c c':Nat}{l l':Bool}:NV r m (.sl b o x c l) (.sl b' o' x' c' l')↔r b'=b∧b'<m∧o=o'∧x=x'∧c=c'∧l=l':=⟨fun h=>by
  cases h with
  | clo _ hc=>cases hc
  | sl _ _ _ _ _ _ h1 h2=>exact⟨h1,h2,rfl,rfl,rfl,rfl⟩,fun⟨h1,h2,h3,h4,h5,h6⟩=>by subst h3 h4 h5 h6;exact .sl _ _ _ _ _ _ h1 h2⟩
theorem qmS{b b' x x':Nat}:NV r m (.own b x) (.own b' x')↔r b'=b∧b'<m∧x=x':=⟨fun h=>by
  cases h with
  | clo _ hc=>cases hc
  | own _ _ _ h1 h2=>exact⟨h1,h2,rfl⟩,fun⟨h1,h2,h3⟩=>by subst h3;exact .own _ _ _ h1 h2⟩
theorem qfw{b' x':Nat}:NV r m .nils (.own b' x')↔b'<m∧x'=0:=⟨fun h=>by
  cases h with
  | nilown _ h1=>exact⟨h1,rfl⟩,fun⟨h1,h2⟩=>by subst h2;exact .nilown _ h1⟩
theorem qmR{b b':Nat}:NV r m (.map b) (.map b')↔r b'=b∧b'<m:=⟨fun h=>by
  cases h with
  | clo _ hc=>cases hc
  | map _ _ h1 h2=>exact⟨h1,h2⟩,fun⟨h1,h2⟩=>.map _ _ h1 h2⟩
theorem qpx{b b':Nat}:NV r m (.yl b) (.yl b')↔r b'=b∧b'<m:=⟨fun h=>by
  cases h with
  | clo _ hc=>cases hc
  | yl _ _ h1 h2=>exact⟨h1,h2⟩,fun⟨h1,h2⟩=>.yl _ _ h1 h2⟩
theorem qj1:NVs r m [] []↔True:=iff_true_intro .nil
theorem qhE:NVs r m (v::vs) (v'::vs')↔NV r m v v'∧NVs r m vs vs':=⟨fun h=>by
  cases h with
  | cons _ _ _ _ h1 h2=>exact⟨h1,h2⟩,fun h=>.cons _ _ _ _ h.1 h.2⟩
theorem qmO{cs cs':List AV}:NV r m (.agg cs) (.agg cs')↔NVs r m cs cs':=⟨fun h=>by
  cases h with
  | clo _ hc=>exact NVs.refl (by simpa[clo] using hc)
  | agg _ _ h1=>exact h1,fun h=>.agg _ _ h⟩
theorem qmV{cs cs':List AV}:NV r m (.tup cs) (.tup cs')↔NVs r m cs cs':=⟨fun h=>by
  cases h with
  | clo _ hc=>exact NVs.refl (by simpa[clo] using hc)
  | tup _ _ h1=>exact h1,fun h=>.tup _ _ h⟩
theorem qps{f f':Nat}{a a' c c':List AV}:NV r m (.fn f a c) (.fn f' a' c')↔f=f'∧NVs r m a a'∧NVs r m c c':=⟨fun h=>by
  cases h with
  | clo _ hc =>
   simp only[clo,Bool.and_eq_true] at hc;exact⟨rfl,NVs.refl hc.1,NVs.refl hc.2⟩
  | fn _ _ _ _ _ h1 h2=>exact⟨rfl,h1,h2⟩,fun⟨h1,h2,h3⟩=>by subst h1;exact .fn _ _ _ _ _ h2 h3⟩
theorem qmQ{f f':Nat}:NV r m (.ifc f v) (.ifc f' v')↔f=f'∧NV r m v v':=⟨fun h=>by
  cases h with
  | clo _ hc=>exact⟨rfl,.clo _ (by simpa[clo] using hc)⟩
  | ifc _ _ _ h1=>exact⟨rfl,h1⟩,fun⟨h1,h2⟩=>by subst h1;exact .ifc _ _ _ h2⟩
theorem qkD:TWs t r m []↔True:=Iff.rfl
theorem qid{p:Nat×AV}{l:List (Nat×AV)}:TWs t r m (p::l)↔evO (t.get p.1) (fun v=>NV r m v p.2)∧TWs t r m l:=Iff.rfl
theorem qiN:BWs h r m [] []↔True:=Iff.rfl
theorem qgl{b:Nat}{x:Blk}{bs:List Nat}{xs:List Blk}:BWs h r m (b::bs) (x::xs)↔BW h r m b x∧BWs h r m bs xs:=Iff.rfl
theorem qlF{b:Nat}{x:Blk}(hb:h.sz<=b):BW h r m b x↔True:=iff_true_intro (.inl hb)
theorem qiM{b:Nat}:BW h r m b .dead↔True:=iff_true_intro (.inr (.inl rfl))
theorem qlG{b e:Nat}{w a:Bool}{cs':List AV}(hb:b<h.sz):BW h r m b (.cells e w a cs')↔evB (h.tr.get b) (fun x=>xH x (fun e0 w0 a0 cs=>e0=e∧(w=true->w0=true)∧(a=true->a0=true)∧NVs r m cs cs')):=by
 constructor
 ·rintro (h1|h1|⟨e',w0,a0,cs,w',a',cs'',h1,h2,h3,h4,h5⟩|⟨es,es',h1,h2,h3⟩)
  ·omega
  ·cases h1
  ·cases h2;exact⟨_,h1,rfl,h3,h4,h5⟩
  ·cases h2
 ·rintro⟨x,h1,h2⟩;cases x with
  | cells e0 w0 a0 cs =>
   obtain⟨rfl,h3,h4,h5⟩:=h2;exact .inr (.inr (.inl ⟨_,w0,a0,cs,w,a,cs',h1,rfl,h3,h4,h5⟩))
  | dead=>exact h2.elim
  | map es=>exact h2.elim
end
theorem qqS{b d:Nat}{l:List Nat}:rl (b::l) d 0=b:=rfl
theorem qqT{b d i:Nat}{l:List Nat}:rl (b::l) d (i+1)=rl l d i:=rfl

section
variable {v v':AV} {vs vs':List AV}
theorem qg5:Frz h v .undef↔True:=iff_true_intro (.undef _)
theorem qqm{x y:Bool}:Frz h (.b x) (.b y)↔x=y:=⟨fun h=>by cases h;rfl,fun h=>by subst h;exact .b _⟩
theorem qqn{q q':IntKind}{x y:Int}:Frz h (.i q x) (.i q' y)↔q=q'∧x=y:=⟨fun h=>by cases h;exact⟨rfl,rfl⟩,fun⟨h,h'⟩=>by subst h h';exact .i _ _⟩
theorem qqo{x y:List UInt8}:Frz h (.s x) (.s y)↔x=y:=⟨fun h=>by cases h;rfl,fun h=>by subst h;exact .s _⟩
theorem qjl:Frz h .nilp .nilp↔True:=iff_true_intro .nilp
theorem qjm:Frz h .nils .nils↔True:=iff_true_intro .nils
theorem qji:Frz h .nilf .nilf↔True:=iff_true_intro .nilf
theorem qjj:Frz h .nili .nili↔True:=iff_true_intro .nili
theorem qjk:Frz h .nilm .nilm↔True:=iff_true_intro .nilm
theorem qo0:Frz h .e0 .e0↔True:=iff_true_intro .e0
theorem qo2:Frz h .nz .nz↔True:=iff_true_intro .nz
theorem ql9{x:Nat}{cs:List AV}:Frz h .e0 (.fz x cs)↔x=0∧cs=[]:=⟨fun h=>by cases h;exact⟨rfl,rfl⟩,fun⟨h,h'⟩=>by subst h h';exact .e0z⟩
theorem qo1{x y:Nat}{cs ds:List AV}:Frz h (.fz x cs) (.fz y ds)↔x=y∧cs=ds:=⟨fun h=>by cases h;exact⟨rfl,rfl⟩,fun⟨h,h'⟩=>by subst h h';exact .fz _ _⟩
theorem qo3{x y:Nat}{cs ds:List AV}:Frz h (.pf cs x) (.pf ds y)↔cs=ds∧x=y:=⟨fun h=>by cases h;exact⟨rfl,rfl⟩,fun⟨h,h'⟩=>by subst h h';exact .pf _ _⟩
theorem qjn{x:Nat}{cs:List AV}:Frz h .nils (.fz x cs)↔x=0∧cs=[]:=⟨fun h=>by cases h;exact⟨rfl,rfl⟩,fun⟨h,h'⟩=>by subst h h';exact .nilz⟩
theorem qjo:Frzs h [] []↔True:=iff_true_intro .nil
theorem qg6:Frzs h (v::vs) (v'::vs')↔Frz h v v'∧Frzs h vs vs':=⟨fun h=>by
  cases h with
  | cons _ _ _ _ h1 h2=>exact⟨h1,h2⟩,fun h=>.cons _ _ _ _ h.1 h.2⟩
theorem ql8{cs cs':List AV}:Frz h (.agg cs) (.agg cs')↔Frzs h cs cs':=⟨fun h=>by cases h;assumption,fun h=>.agg _ _ h⟩
theorem qmd{cs cs':List AV}:Frz h (.tup cs) (.tup cs')↔Frzs h cs cs':=⟨fun h=>by cases h;assumption,fun h=>.tup _ _ h⟩
theorem qme{f f':Nat}{a a' c c':List AV}:Frz h (.fn f a c) (.fn f' a' c')↔f=f'∧Frzs h a a'∧Frzs h c c':=⟨fun h=>by
  cases h with
  | fn _ _ _ _ _ h1 h2=>exact⟨rfl,h1,h2⟩,fun⟨h1,h2,h3⟩=>by subst h1;exact .fn _ _ _ _ _ h2 h3⟩
theorem qma{f f':Nat}:Frz h (.ifc f v) (.ifc f' v')↔f=f'∧Frz h v v':=⟨fun h=>by
  cases h with
  | ifc _ _ _ h1=>exact⟨rfl,h1⟩,fun⟨h1,h2⟩=>by subst h1;exact .ifc _ _ _ h2⟩
theorem qmb{b x y:Nat}{cs':List AV}:Frz h (.own b x) (.fz y cs')↔x=y∧evB (h.tr.get b) (fun z=>xH z (fun _ w _ ys=>w=true∧(x=0->ys=[])∧Frzs h ys cs')):=by
 constructor
 ·intro hh;cases hh with
  | own _ _ e af ys _ hb h0 h1=>exact⟨rfl,_,hb,rfl,h0,h1⟩
 ·rintro⟨rfl,z,h1,h2⟩;cases z with
  | cells e w af ys =>
   obtain⟨rfl,h3,h4⟩:=h2;exact .own _ _ e af ys _ h1 h3 h4
  | dead=>exact h2.elim
  | map es=>exact h2.elim
theorem qmc{b x y:Nat}{cs':List AV}:Frz h (.ptr b x) (.pf cs' y)↔x=y∧evB (h.tr.get b) (fun z=>xH z (fun _ w _ ys=>w=true∧Frzs h ys cs')):=by
 constructor
 ·intro hh;cases hh with
  | ptr _ _ e af ys _ hb h1=>exact⟨rfl,_,hb,rfl,h1⟩
 ·rintro⟨rfl,z,h1,h2⟩;cases z with
  | cells e w af ys =>
   obtain⟨rfl,h4⟩:=h2;exact .ptr _ _ e af ys _ h1 h4
  | dead=>exact h2.elim
  | map es=>exact h2.elim
theorem Frz.cut{b o x c:Nat}{l:Bool}{y:Nat}{cs':List AV}(esz:Nat)(hx:x=y)(hc:x<=c)(hg:evB (h.tr.get b) (fun z=>xH z (fun _ w _ cs=>w=true∧o+x*esz<=cs.length∧Frzs h ((cs.drop o).take (x*esz)) cs'))):Frz h (.sl b o x c l) (.fz y cs'):=by
 subst hx;obtain⟨z,h1,h2⟩:=hg;cases z with
 | cells e w af cs =>
  obtain⟨rfl,h3,h4⟩:=h2;exact .sl _ _ _ _ _ e af cs (x*esz) _ h1 hc h3 (fun hh=>by rw[hh] at hc;simp[Nat.le_zero.1 hc]) h4
 | dead=>exact h2.elim
 | map es=>exact h2.elim
end
mutual
theorem Frz.self:∀{v:AV},clo v=true->Frz h v v
 | .undef,_=>.undef _
 | .b _,_=>.b _
 | .i _ _,_=>.i _ _
 | .s _,_=>.s _
 | .nilp,_=>.nilp
 | .ptr _ _,hc=>by simp[clo] at hc
 | .nils,_=>.nils
 | .sl _ _ _ _ _,hc=>by simp[clo] at hc
 | .nilf,_=>.nilf
 | .fn _ _ _,hc=>by
  simp only[clo,Bool.and_eq_true] at hc;exact .fn _ _ _ _ _ (Frzs.self hc.1) (Frzs.self hc.2)
 | .nili,_=>.nili
 | .ifc _ _,hc=>.ifc _ _ _ (Frz.self (by simpa[clo] using hc))
 | .agg _,hc=>.agg _ _ (Frzs.self (by simpa[clo] using hc))
 | .tup _,hc=>.tup _ _ (Frzs.self (by simpa[clo] using hc))
 | .nilm,_=>.nilm
 | .map _,hc=>by simp[clo] at hc
 | .fz _ _,_=>.fz _ _
 | .pf _ _,_=>.pf _ _
 | .e0,_=>.e0
 | .nz,_=>.nz
 | .own _ _,hc=>by simp[clo] at hc
 | .sym _,hc=>by simp[clo] at hc
 | .yl _,hc=>by simp[clo] at hc
 | .lp _,hc=>by simp[clo] at hc
theorem Frzs.self:∀{vs:List AV},qw vs=true->Frzs h vs vs
 | [],_=>.nil
 | v::vs,hc=>by
  simp only[qw,Bool.and_eq_true] at hc;exact .cons _ _ _ _ (Frz.self hc.1) (Frzs.self hc.2)
end
end Go.Kc
end
section
/- Maps; the rules in bundles; rows of elements. No condition. -/
namespace Go.Kc
variable {P:Program} {n:Nat} {t:Tr AV} {h:Hp} {k:AV->Hp->Prop}

@[congr] theorem qml {kd:Option IntKind} {i:AV} {p:Prop} {mk:Prop} (_:qI=mk):Zc qq kd i p=Zc qq kd i p:=rfl
@[congr] theorem qmx {b:Nat} {k:List (AV×AV)->Prop} {mk:Prop} (_:qI=mk):Qi h b k=Qi h b k:=rfl
@[congr] theorem qjx {es:List (AV×AV)} {p:Prop} {mk:Prop} (_:qI=mk):v6 es p=v6 es p:=rfl
theorem qpg{a:List UInt8}{p:Prop}:Zc qq none (.s a) p↔p:=Iff.rfl
theorem qpf{q:IntKind}{z:Int}{p:Prop}:Zc qq (some q) (.i q z) p↔p:=by
 show qc (decide (q=q)) p↔p;rw[qa];simp
theorem qfm{p:Prop}:v6 [] p↔p:=Iff.rfl
theorem qjA{a:List UInt8}{v:AV}{es:List (AV×AV)}{p:Prop}:v6 ((.s a,v)::es) p↔p:=Iff.rfl
theorem qjz{q:IntKind}{z:Int}{v:AV}{es:List (AV×AV)}{p:Prop}:v6 ((.i q z,v)::es) p↔p:=Iff.rfl
def qc0(x:Blk)(k:List (AV×AV)->Prop):Prop:=match x with | .map es=>k es|_=>False
@[congr] theorem qk1 {x x':Blk} {k:List (AV×AV)->Prop} {mk:Prop} (_:qI=mk) (h:x=x'):qc0 x k=qc0 x' k:=by rw[h]
theorem qbx{es:List (AV×AV)}{k:List (AV×AV)->Prop}:qc0 (.map es) k↔k es:=Iff.rfl
theorem qpo{b:Nat}{k:List (AV×AV)->Prop}:Qi h b k↔evB (h.tr.get b) (fun x=>qc0 x (fun es=>v6 es (k es))):=by
 unfold Qi;refine (Tr.getK_iff _ _ _).trans (iff_of_eq (congrArg _ (funext fun x=>congrArg _ ?_)))
 cases x<;>rfl
theorem qgZ{i:AV}{k:Option AV->Prop}:jX qq i [] k↔k none:=Iff.rfl
theorem ql5{i a:List UInt8}{v:AV}{es:List (AV×AV)}{k:Option AV->Prop}:jX qq (.s i) ((.s a,v)::es) k↔if i=a then k (some v) else jX qq (.s i) es k:=by
 show qz (eqS i a) (fun r=>Bool.rec (motive:=fun _=>Prop) (jX qq (.s i) es k) (k (some v)) r)↔_
 rw[qr,ve,xV];simp
theorem ql4{q:IntKind}{i a:Int}{v:AV}{es:List (AV×AV)}{k:Option AV->Prop}:jX qq (.i q i) ((.i q a,v)::es) k↔if i=a then k (some v) else jX qq (.i q i) es k:=by
 show qc (decide (q=q)) (qz (eqI i a) (fun r=>Bool.rec (motive:=fun _=>Prop) (jX qq (.i q i) es k) (k (some v)) r))↔_
 rw[qa,qr,ve,qbR];simp
theorem qkF{i v:AV}{k:List (AV×AV)->Prop}:yp qq i v [] k↔k [(i,v)]:=Iff.rfl
theorem qpT{i a:List UInt8}{u v:AV}{es:List (AV×AV)}{k:List (AV×AV)->Prop}:yp qq (.s i) u ((.s a,v)::es) k↔if i=a then k ((.s i,u)::es) else yp qq (.s i) u es (fun l=>k ((.s a,v)::l)):=by
 show qz (eqS i a) (fun r=>Bool.rec (motive:=fun _=>Prop) (yp qq (.s i) u es (fun l=>k ((.s a,v)::l))) (k ((.s i,u)::es)) r)↔_
 rw[qr,ve,xV];simp
theorem qpS{q:IntKind}{i a:Int}{u v:AV}{es:List (AV×AV)}{k:List (AV×AV)->Prop}:yp qq (.i q i) u ((.i q a,v)::es) k↔if i=a then k ((.i q i,u)::es) else yp qq (.i q i) u es (fun l=>k ((.i q a,v)::l)):=by
 show qc (decide (q=q)) (qz (eqI i a) (fun r=>Bool.rec (motive:=fun _=>Prop) (yp qq (.i q i) u es (fun l=>k ((.i q a,v)::l))) (k ((.i q i,u)::es)) r))↔_
 rw[qa,qr,ve,qbR];simp
@[congr] theorem qlr {ok:Bool} {z:AV} {v v':Option AV} {k:AV->Prop} {mk:Prop} (_:qI=mk) (h:v=v'):yA ok z v k=yA ok z v' k:=by rw[h]
theorem qf6{z:AV}{k:AV->Prop}:yA false z none k↔k z:=Iff.rfl
theorem qeQ{z:AV}{k:AV->Prop}:yA true z none k↔k (.tup [z,.b false]):=Iff.rfl
theorem qf7{z v:AV}{k:AV->Prop}:yA false z (some v) k↔k v:=Iff.rfl
theorem qeR{z v:AV}{k:AV->Prop}:yA true z (some v) k↔k (.tup [v,.b true]):=Iff.rfl
def lkK(h:Hp)(ok:Bool)(zero x i:AV)(k:AV->Prop):Prop:=match x with
  | .nilm=>yA ok zero none k
  | .map r=>Qi h r (fun es=>jX qq i es (fun v=>yA ok zero v k))
  | _=>False
@[congr] theorem qoa {ok:Bool} {z x i:AV} {k:AV->Prop} {mk:Prop} (_:qI=mk):lkK h ok z x i k=lkK h ok z x i k:=rfl
theorem qmt{ok:Bool}{z i:AV}{k:AV->Prop}:lkK h ok z .nilm i k↔yA ok z none k:=Iff.rfl
theorem qms{ok:Bool}{z i:AV}{r:Nat}{k:AV->Prop}:lkK h ok z (.map r) i k↔Qi h r (fun es=>jX qq i es (fun v=>yA ok z v k)):=Iff.rfl
theorem qhP{kd:Option IntKind}{ok:Bool}{z:AV}{x i:O}:opK qq (.lookM kd ok z x i) t h k↔evK t x (fun x=>evK t i (fun i=>Zc qq kd i (lkK h ok z x i (fun v=>k v h)))):=Iff.rfl
def upK(h:Hp)(x i v:AV)(k:Hp->Prop):Prop:=match x with
  | .map r=>Qi h r (fun es=>yp qq i v es (fun es'=>xk h r (.map es') k))
  | _=>False
@[congr] theorem qop {x i v:AV} {k:Hp->Prop} {mk:Prop} (_:qI=mk):upK h x i v k=upK h x i v k:=rfl
theorem qnL{i v:AV}{r:Nat}{k:Hp->Prop}:upK h (.map r) i v k↔Qi h r (fun es=>yp qq i v es (fun es'=>xk h r (.map es') k)):=Iff.rfl
theorem qkd{kd:Option IntKind}{x i v:O}:opK qq (.updM kd x i v) t h k↔evK t x (fun x=>evK t i (fun i=>evK t v (fun v=>Zc qq kd i (upK h x i v (fun h'=>k .undef h'))))):=Iff.rfl

theorem qe5:qD []=true:=rfl
theorem qav{v:AV}{vs:List AV}:qD (v::vs)=(qV v&&qD vs):=by
 show (Bool.rec (motive:=fun _=>Bool) false (qD vs) (qV v):Bool)=_
 cases qV v<;>rfl
theorem qlL{x:Bool}:qV (.b x)=true:=rfl
theorem qlM{q:IntKind}{x:Int}:qV (.i q x)=true:=rfl
theorem qlN{x:List UInt8}:qV (.s x)=true:=rfl
theorem qe2:qV .nilp=true:=rfl
theorem qgy{b o:Nat}:qV (.ptr b o)=true:=rfl
theorem qe3:qV .nils=true:=rfl
theorem qiW{b o x c:Nat}{l:Bool}:qV (.sl b o x c l)=true:=rfl
theorem qeZ:qV .nilf=true:=rfl
theorem qiR{f:Nat}{a c:List AV}:qV (.fn f a c)=true:=rfl
theorem qe0:qV .nili=true:=rfl
theorem qgv{f:Nat}{v:AV}:qV (.ifc f v)=true:=rfl
theorem qe1:qV .nilm=true:=rfl
theorem qgw{b:Nat}:qV (.map b)=true:=rfl
theorem qiS{n:Nat}{cs:List AV}:qV (.fz n cs)=true:=rfl
theorem qiV{n:Nat}{cs:List AV}:qV (.pf cs n)=true:=rfl
theorem qiQ:qV .e0=true:=rfl
theorem qiU:qV .nz=true:=rfl
theorem qgx{b n:Nat}:qV (.own b n)=true:=rfl
theorem qe4{α:Type}{f:α->AV}{xs:List α}(h:∀x,qV (f x)=true):qD (xs.map f)=true:=by
 induction xs with
 | nil=>rfl
 | cons v a ih=>simp[qav,ih,h]
theorem zH{a b:List AV}:qw (a++b)=(qw a&&qw b):=by
 induction a with
 | nil=>simp[qw]
 | cons v a ih=>simp[qw,ih,Bool.and_assoc]
theorem y6{α:Type}{f:α->AV}{xs:List α}(h:∀x,clo (f x)=true):qw (xs.map f)=true:=by
 induction xs with
 | nil=>rfl
 | cons v a ih=>simp[qw,ih,h]
theorem k9{α:Type}{f:α->List AV}{xs:List α}(h:∀x,qw (f x)=true):qw (xs.flatMap f)=true:=by
 induction xs with
 | nil=>rfl
 | cons v a ih=>simp[List.flatMap_cons,zH,ih,h]
theorem xL{α:Type}{f:α->List AV}{m:Nat}(h:∀x,(f x).length=m)(xs:List α):(xs.flatMap f).length=xs.length*m:=by
 induction xs with
 | nil=>simp
 | cons v a ih=>simp[ih,h,Nat.add_mul,Nat.add_comm]
theorem Qx{α:Type}{f:α->List AV}{m:Nat}(h:∀x,(f x).length=m):∀(xs:List α) (j:Nat),(xs.flatMap f).drop (j*m)=(xs.drop j).flatMap f
 | [],j=>by simp
 | x::xs,0=>by simp
 | x::xs,j+1=>by
  simp only[List.flatMap_cons,List.drop_succ_cons];rw[Nat.add_mul,Nat.one_mul,Nat.add_comm,← List.drop_drop,List.drop_left' (h x)];exact Qx h xs j
theorem zI{α:Type}{f:α->List AV}{m:Nat}(h:∀x,(f x).length=m){xs:List α}{j:Nat}{x:α}(hx:xs[j]?=some x){i:Nat}(hi:i<m):(xs.flatMap f)[j*m+i]?=(f x)[i]?:=by
 rw[← List.getElem?_drop,Qx h];obtain⟨hj,rfl⟩:=List.getElem?_eq_some_iff.1 hx;rw[List.drop_eq_getElem_cons hj,List.flatMap_cons,List.getElem?_append_left (by rw[h];exact hi)]
theorem z5{α:Type}{f:α->List AV}{m:Nat}(h:∀x,(f x).length=m){xs:List α}{j:Nat}{x:α}(hx:xs[j]?=some x):((xs.flatMap f).drop (j*m)).take m=f x:=by
 rw[Qx h];obtain⟨hj,rfl⟩:=List.getElem?_eq_some_iff.1 hx;rw[List.drop_eq_getElem_cons hj,List.flatMap_cons,List.take_left' (h _)]

theorem SL.loop{α:Type}{x:ICode}{Q:X->Tr AV->Hp->Prop}(T:α->List (Nat×AV))(B:α->List Blk)(I:α->Prop)(μ:α->Nat)(a0:α)(src:List Nat)
  (hT:TWs t (rl src h.sz) (B a0).length (T a0)) (hB:BWs h (rl src h.sz) (B a0).length src (B a0)) (hI:(src.filter fun b=>decide (b<h.sz)).Nodup) (hfl:h.fl=0) (h0:I a0)
  (step:∀a,I a->∀G:Tr AV->Hp->Prop,(∀b,I b->μ b<μ a->∀t' h',Wk 0 t' h' (mkT (T b)) (mkH 0 (B b))->G t' h')->
   V P 0 x (fun e t h=>onX e (G t h) (fun id=>Q (.exit id) t h) (Q .ret t h)) (mkT (T a)) (mkH 0 (B a))):SL P 0 x Q t h:=by
 have main:∀m a,μ a=m->I a->SL P 0 x Q (mkT (T a)) (mkH 0 (B a)):=by
  intro m
  induction m using Nat.strongRecOn with
  | ind m ih =>
   intro a ha hi;exact qdX (step a hi (fun t h=>SL P 0 x Q t h) fun b hb hlt t' h' hw=>SL.weak hw (ih (μ b) (ha ▸ hlt) b rfl hb))
 exact SL.weak (Wk.mk (T a0) (B a0) src hT hB hI hfl) (main _ a0 rfl h0)

theorem qp7{b:Bool}:(b==true)=b:=by cases b<;>rfl
theorem qp6{b:Bool}:(b==false) = !b:=by cases b<;>rfl
def vA:=And.intro @qf2 (And.intro @qoE (And.intro @qoH (And.intro @qlp (And.intro @qoG (And.intro @qlm (And.intro @qll (And.intro @qoD (And.intro @qln (And.intro @qoF (And.intro @qlo (And.intro @qli (And.intro @qoC (And.intro @qfZ (And.intro @qf0 (And.intro @qf1 (And.intro @qeK (And.intro @qoB
 (And.intro @qlV (And.intro @qlS (And.intro @yP (And.intro @qhF (And.intro @qj3 (And.intro @qgL (And.intro @qcD (And.intro @qkn (And.intro @qko @qh2))))))))))))))))))))))))))
def vR:=And.intro @qeM (And.intro @qdj @qlj)
def vE:=And.intro @qgT (And.intro @qoZ (And.intro @qgV (And.intro @qfc (And.intro @qfE (And.intro @qfG (And.intro @qg8 (And.intro @qe9 (And.intro @qfa (And.intro @qpN (And.intro @qkE (And.intro @qpO (And.intro @qpP (And.intro @qeJ (And.intro @zB (And.intro @Qz
 (And.intro @qmH (And.intro @qnh (And.intro @qhg (And.intro @qpj (And.intro @qjH (And.intro @qmq (And.intro @qph (And.intro @qhh (And.intro @qjO (And.intro @qmE (And.intro @qqY (And.intro @qkA (And.intro @qi2 (And.intro @k7 (And.intro @qjw @zO))))))))))))))))))))))))))))))
def vO:=And.intro @qnc (And.intro @qka (And.intro @qhH (And.intro @qmZ (And.intro @qhI (And.intro @qfx (And.intro @qhN (And.intro @qhO (And.intro @qhR (And.intro @qfA (And.intro @qmY (And.intro @qm2 (And.intro @qm3 (And.intro @qm1 (And.intro @qpB (And.intro @qhK (And.intro @qhL (And.intro @qnd (And.intro @qmX
 (And.intro @qhM (And.intro @qm5 (And.intro @qfy (And.intro @qfz (And.intro @qj8 (And.intro @qj9 (And.intro @qkc (And.intro @qfC (And.intro @qkb (And.intro @qm4 (And.intro @qm9 (And.intro @qnb (And.intro @qm6 (And.intro @qmW (And.intro @qj5 (And.intro @qj7 (And.intro @qm8 (And.intro @qm7 (And.intro @qhJ (And.intro @qna
 (And.intro @qfD (And.intro @qj4 (And.intro @qkr (And.intro @qnu (And.intro @qnt (And.intro @qh5 (And.intro @qns (And.intro @qm0 (And.intro @qj6 (And.intro @qhP @qkd))))))))))))))))))))))))))))))))))))))))))))))))
def vB:=And.intro @qiG (And.intro @qiF (And.intro @qiC (And.intro @qiA (And.intro @qiz (And.intro @qiB (And.intro @qiy (And.intro @qiE (And.intro @qiv (And.intro @qiH (And.intro @qiD (And.intro @qlC (And.intro @qiw (And.intro @qiI (And.intro @qix (And.intro @qge (And.intro @qgj (And.intro @qgd (And.intro @qgi (And.intro @qgf (And.intro @qgh (And.intro @qgg (And.intro @qnJ (And.intro @qnI @qqc)))))))))))))))))))))))
def vF:=And.intro @qg2 (And.intro @qg3 (And.intro @qpc (And.intro @qpb (And.intro @qmk (And.intro @qhc (And.intro @qhb (And.intro @qfl (And.intro @qit (And.intro @qdZ (And.intro @qiL (And.intro @qiK (And.intro @qd0 (And.intro @qku (And.intro @qpH (And.intro @qpI (And.intro @qnz (And.intro @qnA (And.intro @qny (And.intro @qlx (And.intro @qfb (And.intro @qgR (And.intro @qjK (And.intro @qpk (And.intro @qpm (And.intro @qpl (And.intro @qmu (And.intro @qpn (And.intro @qqv
 (And.intro @qgG (And.intro @qlQ (And.intro @qeS (And.intro @qdl (And.intro @qmF (And.intro @qpq (And.intro @qi1 (And.intro @qoU (And.intro @qoV (And.intro @qgY (And.intro @qfd (And.intro @qe8 (And.intro @qi0 (And.intro @qh9 (And.intro @qnC (And.intro @qnE (And.intro @qnF (And.intro @qkx (And.intro @qnD (And.intro @qpJ (And.intro @qf8 (And.intro @qlt (And.intro @qis (And.intro @qlv (And.intro @qlu
 (And.intro @qhA (And.intro @qjS (And.intro @qmL (And.intro @qhB (And.intro @qmK (And.intro @qmM (And.intro @qmJ (And.intro @qjR (And.intro @qhy (And.intro @qmI (And.intro @qhz (And.intro @qjQ (And.intro @qi6 (And.intro @qgP (And.intro @qqi (And.intro @qqj @qqh)))))))))))))))))))))))))))))))))))))))))))))))))))))))))))))))))))))
def vM:=And.intro @qpg (And.intro @qpf (And.intro @qfm (And.intro @qjA (And.intro @qjz (And.intro @qbx (And.intro @qpo (And.intro @qgZ (And.intro @ql5 (And.intro @ql4 (And.intro @qkF (And.intro @qpT (And.intro @qpS (And.intro @qf6 (And.intro @qeQ (And.intro @qf7 (And.intro @qeR (And.intro @qmt (And.intro @qms @qnL))))))))))))))))))
def vC:=And.intro @qe5 (And.intro @qav (And.intro @qlL (And.intro @qlM (And.intro @qlN (And.intro @qe2 (And.intro @qgy (And.intro @qe3 (And.intro @qiW (And.intro @qeZ (And.intro @qiR (And.intro @qe0 (And.intro @qgv (And.intro @qe1 (And.intro @qgw (And.intro @qiS (And.intro @qiV (And.intro @qiQ (And.intro @qiU @qgx))))))))))))))))))
def vP:=And.intro @qfr (And.intro @qgU (And.intro @qi8 (And.intro @qi9 (And.intro @qja (And.intro @qjb (And.intro @qgS (And.intro @qcE (And.intro @qcQ (And.intro @qbO (And.intro @qpR (And.intro @qi4 (And.intro @qp7 (And.intro @qp6 @ve)))))))))))))
def vW:=And.intro @qpx (And.intro @qhD (And.intro @qqy (And.intro @qqz (And.intro @qqA (And.intro @qjY (And.intro @qjZ (And.intro @qjV (And.intro @qjW (And.intro @qjX (And.intro @qpr (And.intro @qpu (And.intro @qmP (And.intro @qhC (And.intro @qmU (And.intro @qpt (And.intro @qpv (And.intro @qj0 (And.intro @qmT (And.intro @qpw (And.intro @qmS (And.intro @qfw (And.intro @qmR (And.intro @qj1 (And.intro @qhE (And.intro @qmO (And.intro @qmV (And.intro @qps (And.intro @qmQ
 (And.intro @qkD (And.intro @qid (And.intro @qiN (And.intro @qgl (And.intro @qlF (And.intro @qiM (And.intro @qlG (And.intro @qqS @qqT))))))))))))))))))))))))))))))))))))
def vZ:=And.intro @qg5 (And.intro @qqm (And.intro @qqn (And.intro @qqo (And.intro @qjl (And.intro @qjm (And.intro @qji (And.intro @qjj (And.intro @qjk (And.intro @qo0 (And.intro @qo2 (And.intro @ql9 (And.intro @qo1 (And.intro @qo3 (And.intro @qjn (And.intro @qjo (And.intro @qg6 (And.intro @ql8 (And.intro @qmd (And.intro @qme (And.intro @qmc (And.intro @qma @qmb)))))))))))))))))))))
end Go.Kc
end
section
/- Calls whose arguments are lent; calls that answer rows of one's own. No condition. -/
namespace Go.Kc
variable {P:Program}

mutual
def flat:AV->Bool
 | .ptr _ _=>false
 | .sl _ _ _ _ _=>false
 | .map _=>false
 | .own _ _=>false
 | .fz _ _=>false
 | .pf _ _=>false
 | .sym _=>false
 | .fn _ a c=>qaD a&&qaD c
 | .ifc _ v=>flat v
 | .agg cs=>qaD cs
 | .tup cs=>qaD cs
 | .undef=>true | .b _=>true | .i _ _=>true | .s _=>true | .nilp=>true | .nils=>true | .nilf=>true | .nili=>true | .nilm=>true | .e0=>true | .nz=>true | .yl _=>false | .lp _=>true
def qaD:List AV->Bool
 | []=>true
 | v::vs=>flat v&&qaD vs
end
mutual
theorem VR.flat{ρ ρ':Ren}:∀{a:AV} {v:Value},VR σ0 ρ a v->Kc.flat a=true->VR σ0 ρ' a v
 | _,_,.undef v,_=>.undef v
 | _,_,.b x,_=>.b x
 | _,_,.i k n,_=>.i k n
 | _,_,.s x,_=>.s x
 | _,_,.nilp,_=>.nilp
 | _,_,.ptr b o L h,hc=>by simp[Kc.flat] at hc
 | _,_,.nils,_=>.nils
 | _,_,.sl b o len cap c loose L h hc,hh=>by simp[Kc.flat] at hh
 | _,_,.slz b o x l L h,hh=>by simp[Kc.flat] at hh
 | _,_,.nilf,_=>.nilf
 | _,_,.fn f first cap first' cap' h1 h2,hc=>by
  simp only[Kc.flat,Bool.and_eq_true] at hc;exact .fn _ _ _ _ _ (h1.flat hc.1) (h2.flat hc.2)
 | _,_,.nili,_=>.nili
 | _,_,.ifc t v v' h,hc=>by simp only[Kc.flat] at hc;exact .ifc _ _ _ (h.flat hc)
 | _,_,.agg cs cs' h,hc=>by simp only[Kc.flat] at hc;exact .agg _ _ (h.flat hc)
 | _,_,.tup cs cs' h,hc=>by simp only[Kc.flat] at hc;exact .tup _ _ (h.flat hc)
 | _,_,.nilm,_=>.nilm
 | _,_,.map b L h h0,hc=>by simp[Kc.flat] at hc
 | _,_,.sym j,hc=>by simp[Kc.flat] at hc
 | _,_,.fz n off c cs k arr hn h hs,hc=>by simp[Kc.flat] at hc
 | _,_,.fz0 a,hc=>by simp[Kc.flat] at hc
 | _,_,.pf off base cs k arr h hs,hc=>by simp[Kc.flat] at hc
 | _,_,.e0 a,_=>.e0 a
 | _,_,.nz a c,_=>.nz a c
 | _,_,.own0 b a hb,hc=>by simp[Kc.flat] at hc
 | _,_,.own b n c L h hn hc',hc=>by simp[Kc.flat] at hc
 | _,_,.yl b L h,hc=>by simp[Kc.flat] at hc
theorem VRs.flat{ρ ρ':Ren}:∀{a:List AV} {v:List Value},VRs σ0 ρ a v->qaD a=true->VRs σ0 ρ' a v
 | _,_,.nil,_=>.nil
 | _,_,.cons v vs v' vs' h hs,hc=>by
  simp only[qaD,Bool.and_eq_true] at hc;exact .cons _ _ _ _ (h.flat hc.1) (hs.flat hc.2)
end
theorem Rel.bare{ρ:Ren}{B:Nat->Prop}{h:Hp}{w:World}(r:Rel σ0 ρ B h w):Rel σ0 ⟨fun _=>none,xY ρ h w,0⟩ (low w.heap.size) H0 w :=
 ⟨(fun _ _ hb=>by cases hb),(fun _ _ _ _ _ _ hb=>by cases hb),(fun _ _ _ hb=>by cases hb),(fun _ _ _ _ _ hb=>by cases hb),(fun _ _ _ hb=>by cases hb),(fun _ _ _ _ _ hb=>by cases hb),(fun _ _ hb=>by cases hb),(fun _ h=>h),
  (fun k arr hk=>⟨by
    rcases yJ hk with hk|⟨hk,_⟩
    ·exact (r.frz k arr hk).1
    ·exact hk,fun _ _ _ hb=>by cases hb⟩),Nat.le_refl _⟩
theorem qf.lend{f:Nat}{vs vs':List AV}{v:AV}{h:Hp}{k:AV->Hp->Prop}(hp:qf P f vs' v)(hf:Frzs h vs vs')(hv:flat v=true)(hk:k v h):SC P f vs h k:=by
 have hp0:=hp H0 (fun v' h'=>v'=v∧h'=H0) ⟨rfl,rfl⟩
 refine⟨hp0.1,fun ρ B w args r ha=>?_⟩
 have hcr:=hf.ok r ha;refine wV.mono (hp0.2 ⟨fun _=>none,xY ρ h w,0⟩ (low w.heap.size) w args r.bare (CRs.vr (ρ:=⟨fun _=>none,xY ρ h w,0⟩) hcr)) ?_
 rintro e w' ⟨v0,v',h',ρ',rfl,⟨rfl,rfl⟩,g2,g3,g4⟩;refine⟨v0,v',h,ρ,rfl,hk,g2.flat hv,?_,⟨fun _ _=>rfl,Nat.le_refl _,rfl,fun _ _ _=>rfl,fun k hk=>g4.pres k (r.base _ hk),g4.wle,g4.io,fun _ _ h=>h,fun _ _ h=>.inl h,Nat.le_refl _⟩⟩
 have:=r.frz' (φ:=ρ.frz) g4.pres g4.wle (fun _ _ h=>h) (fun _ _ h=>.inl h) (fun k a hk=>by
  obtain⟨ty,fz,h1⟩:=(r.frz k a hk).1;refine⟨ty,fz,?_⟩;rw[g4.pres k (Array.getElem?_eq_some_iff.1 h1).1];exact h1)
 exact this
mutual
def shv(m:Nat):AV->AV
 | .ptr b o=>.ptr (b+m) o
 | .sl b o n c l=>.sl (b+m) o n c l
 | .map b=>.map (b+m)
 | .own b n=>.own (b+m) n
 | .yl b=>.yl (b+m)
 | .fn f a c=>.fn f (kt m a) (kt m c)
 | .ifc t v=>.ifc t (shv m v)
 | .agg cs=>.agg (kt m cs)
 | .tup cs=>.tup (kt m cs)
 | v=>v
def kt(m:Nat):List AV->List AV
 | []=>[]
 | v::vs=>shv m v::kt m vs
end
theorem qc8{m:Nat}:∀{vs:List AV} {j:Nat},(kt m vs)[j]?=(vs[j]?).map (shv m)
 | [],j=>by simp[kt]
 | v::vs,0=>by simp[kt]
 | v::vs,j+1=>by simpa[kt] using qc8 (vs:=vs) (j:=j)
theorem wS{m:Nat}:∀{vs:List AV},(kt m vs).length=vs.length
 | []=>rfl
 | v::vs=>by simp[kt,wS (vs:=vs)]
mutual
theorem qeC{m:Nat}:∀{v:AV},clo v=true->shv m v=v
 | .ptr _ _,h=>by simp[clo] at h
 | .sl _ _ _ _ _,h=>by simp[clo] at h
 | .map _,h=>by simp[clo] at h
 | .own _ _,h=>by simp[clo] at h
 | .fn f a c,h=>by
  simp only[clo,Bool.and_eq_true] at h;simp only[shv,jQ h.1,jQ h.2]
 | .ifc t v,h=>by
  simp only[clo] at h;simp only[shv,qeC h]
 | .agg cs,h=>by
  simp only[clo] at h;simp only[shv,jQ h]
 | .tup cs,h=>by
  simp only[clo] at h;simp only[shv,jQ h]
 | .undef,_=>rfl
 | .b _,_=>rfl
 | .i _ _,_=>rfl
 | .s _,_=>rfl
 | .nilp,_=>rfl
 | .nils,_=>rfl
 | .nilf,_=>rfl
 | .nili,_=>rfl
 | .nilm,_=>rfl
 | .sym _,h=>by simp[clo] at h
 | .fz _ _,_=>rfl
 | .pf _ _,_=>rfl
 | .e0,_=>rfl
 | .nz,_=>rfl
 | .yl _,h=>by simp[clo] at h
 | .lp _,_=>rfl
theorem jQ{m:Nat}:∀{vs:List AV},qw vs=true->kt m vs=vs
 | [],_=>rfl
 | v::vs,h=>by
  simp only[qw,Bool.and_eq_true] at h;simp only[kt,qeC h.1,jQ h.2]
end
def she(m:Nat)(es:List (AV×AV)):List (AV×AV):=es.map fun e=>(shv m e.1,shv m e.2)
theorem qks{m:Nat}:she m []=[]:=rfl
theorem qh6{m:Nat}{a b:AV}{es:List (AV×AV)}:she m ((a,b)::es)=(shv m a,shv m b)::she m es:=rfl
def shb(m:Nat):Blk->Blk
 | .cells e w a cs=>.cells e w a (kt m cs)
 | .dead=>.dead
 | .map es=>.map (she m es)
noncomputable def z2(h:Hp):List Blk->Hp
 | []=>h
 | x::xs=>z2 (h.push x) xs
theorem vx:∀{bs:List Blk} {h:Hp},(z2 h bs).sz=h.sz+bs.length
 | [],_=>rfl
 | x::xs,h=>by
  show (z2 (h.push x) xs).sz=_;rw[vx];simp[Hp.push];omega
theorem kQ:∀{bs:List Blk} {h:Hp},(z2 h bs).fl=h.fl
 | [],_=>rfl
 | x::xs,h=>by
  show (z2 (h.push x) xs).fl=_;rw[kQ];rfl
theorem xO:∀{bs:List Blk} {h:Hp} {b:Nat},(z2 h bs).tr.get b=if b<h.sz then h.tr.get b else if b<h.sz+bs.length then bs[b-h.sz]? else h.tr.get b
 | [],h,b=>by simp[z2];intro h1 h2;omega
 | x::xs,h,b=>by
  show (z2 (h.push x) xs).tr.get b=_;rw[xO];simp only[Hp.push,Tr.get_set,List.length_cons]
  by_cases h1:b<h.sz
  ·rw[if_pos (by omega),if_neg (by omega),if_pos h1]
  ·rw[if_neg h1]
   by_cases h2:b=h.sz
   ·subst h2;rw[if_pos (by omega),if_pos rfl,if_pos (by omega)];simp
   ·rw[if_neg (by omega)]
    by_cases h3:b<h.sz+(xs.length+1)
    ·rw[if_pos (by omega),if_pos h3];rw[show b-h.sz=(b-(h.sz+1))+1 from by omega];simp
    ·rw[if_neg (by omega),if_neg h3,if_neg h2]
def Ren.join(ρ ρ2:Ren)(m l:Nat):Ren:=⟨fun b=>if b<m then ρ b else ρ2 (b-m),ρ2.frz,m+l⟩
theorem qai{ρ ρ2:Ren}{m l b:Nat}(h:b<m):ρ.join ρ2 m l b=ρ b:=by simp only[Ren.join];rw[if_pos h]
theorem v8{ρ ρ2:Ren}{m l b:Nat}:ρ.join ρ2 m l (b+m)=ρ2 b:=by simp only[Ren.join];rw[if_neg (by omega),Nat.add_sub_cancel]
mutual
theorem VR.sh{ρ ρ2:Ren}{m l:Nat}(hl:ρ2.n<=l):∀{v:AV} {x:Value},VR σ0 ρ2 v x->VR σ0 (ρ.join ρ2 m l) (shv m v) x
 | _,_,.undef v=>.undef v
 | _,_,.b x=>.b x
 | _,_,.i k n=>.i k n
 | _,_,.s x=>.s x
 | _,_,.nilp=>.nilp
 | _,_,.ptr b o L h=>.ptr _ _ L (by rw[v8];exact h)
 | _,_,.nils=>.nils
 | _,_,.sl b o len cap c loose L h hc=>.sl _ _ _ _ _ _ L (by rw[v8];exact h) hc
 | _,_,.slz b o x l' L h=>.slz _ _ _ _ L (by rw[v8];exact h)
 | _,_,.nilf=>.nilf
 | _,_,.fn f first cap first' cap' h1 h2=>.fn _ _ _ _ _ (VRs.sh hl h1) (VRs.sh hl h2)
 | _,_,.nili=>.nili
 | _,_,.ifc t v v' h=>.ifc _ _ _ (VR.sh hl h)
 | _,_,.agg cs cs' h=>.agg _ _ (VRs.sh hl h)
 | _,_,.tup cs cs' h=>.tup _ _ (VRs.sh hl h)
 | _,_,.nilm=>.nilm
 | _,_,.map b L h h0=>.map _ L (by rw[v8];exact h) h0
 | _,_,.sym j=>.sym j
 | _,_,.fz n off c cs k arr hn h hs=>.fz n off c cs k arr hn h hs
 | _,_,.fz0 a=>.fz0 a
 | _,_,.pf off base cs k arr h hs=>.pf off base cs k arr h hs
 | _,_,.e0 a=>.e0 a
 | _,_,.nz a c=>.nz a c
 | _,_,.own0 b a hb=>.own0 _ _ (by show b+m<m+l;omega)
 | _,_,.own b n c L h hn hc'=>.own _ _ _ L (by rw[v8];exact h) hn hc'
 | _,_,.yl b L h=>.yl _ L (by rw[v8];exact h)
theorem VRs.sh{ρ ρ2:Ren}{m l:Nat}(hl:ρ2.n<=l):∀{v:List AV} {x:List Value},VRs σ0 ρ2 v x->VRs σ0 (ρ.join ρ2 m l) (kt m v) x
 | _,_,.nil=>.nil
 | _,_,.cons v vs v' vs' h hs=>.cons _ _ _ _ (VR.sh hl h) (VRs.sh hl hs)
end
theorem qkt{m:Nat}{r:Loop}{ts:List (Nat×AV)}:she m (za r ts)=za r (ts.map fun p=>(p.1,shv m p.2)):=by simp[she,za,shv]
theorem vj.sh{ρ ρ2:Ren}{m l:Nat}(hl:ρ2.n<=l){es:List (AV×AV)}{o:Obj}(h:vj σ0 ρ2 es o):vj σ0 (ρ.join ρ2 m l) (she m es) o:=by
 rcases h with⟨h0,vs,clk,h1,h2,h3⟩|⟨a,n,rfl,h2⟩|⟨r,ts,rfl,h2,h3⟩
 ·refine .inl ⟨fun e he=>?_,vs,clk,h1,by simp[she,h2],fun j e he=>?_⟩
  ·cases es with
   | nil=>simp[she] at he
   | cons e0 es =>
    simp[she] at he;subst he;have:=h0 e0 rfl;cases e0 with
    | mk k v=>cases k<;>first|(simp[shv];done)|exact absurd rfl this.1|exact absurd rfl (this.2 _)
  ·simp only[she,List.getElem?_map] at he;cases hj:es[j]? with
   | none=>rw[hj] at he;simp at he
   | some e0 =>
    rw[hj] at he;simp at he;subst he;obtain⟨v,g1,g2,g3⟩:=h3 j e0 hj;exact⟨v,g1,VR.sh hl g2,VR.sh hl g3⟩
 ·exact .inr (.inl ⟨a,n,rfl,h2⟩)
 ·refine .inr (.inr ⟨r,_,qkt,h2,fun p hp=>?_⟩)
  obtain⟨q,hq,rfl⟩:=List.mem_map.1 hp;exact⟨(h3 q hq).1,VR.sh hl (h3 q hq).2⟩
theorem Rel.joinH{ρ ρ2:Ren}{B:Nat->Prop}{h:Hp}{w w1:World}{bs:List Blk}(r:Rel σ0 ρ B h w)(r2:Rel σ0 ρ2 (low w.heap.size) (mkH 0 bs) w1)(hp:∀k,k<w.heap.size->w1.heap[k]?=w.heap[k]?)(hw:w.heap.size<=w1.heap.size)
  (f1:∀k a,ρ.frz k=some a->ρ2.frz k=some a) (f2:∀k a,ρ2.frz k=some a->ρ.frz k=some a∨w.heap.size<=k) :
  Rel σ0 (ρ.join ρ2 h.sz bs.length) B (z2 h (bs.map (shb h.sz))) w1:=by
 have r1:Rel σ0 ⟨ρ.loc,ρ2.frz,ρ.n⟩ B h w1:=r.frz' hp hw f1 f2 (fun k a hk=>(r2.frz k a hk).1)
 have n2:ρ2.n<=bs.length:=r2.dn
 have le1:Ren.le ⟨ρ.loc,ρ2.frz,ρ.n⟩ (ρ.join ρ2 h.sz bs.length) :=
  ⟨fun b L hb=>by rw[qai (r.dom b L hb)];exact hb,fun _ _ h=>h,Nat.le_trans r.dn (Nat.le_add_right _ _)⟩
 -- a block: old,or new
 have split:∀b L,ρ.join ρ2 h.sz bs.length b=some L->(b<h.sz∧ρ b=some L∧(z2 h (bs.map (shb h.sz))).tr.get b=h.tr.get b) ∨
   ∃c,b=c+h.sz∧ρ2 c=some L∧(z2 h (bs.map (shb h.sz))).tr.get b=((mkH 0 bs).tr.get c).map (shb h.sz)∧w.heap.size<=L.blk:=by
  intro b L hb
  by_cases hlt:b<h.sz
  ·rw[qai hlt] at hb;refine .inl ⟨hlt,hb,?_⟩;rw[xO,if_pos hlt]
  ·obtain⟨c,rfl⟩:∃c,b=c+h.sz:=⟨b-h.sz,by omega⟩
   rw[v8] at hb;have hc:c<bs.length:=r2.dom c L hb;refine .inr ⟨c,rfl,hb,?_,Nat.not_lt.1 (r2.flr c L hb (Nat.zero_le _))⟩;rw[xO,if_neg hlt,if_pos (by simp;omega),zq,Nat.add_sub_cancel,List.getElem?_map]
 have oldlt:∀b L x,ρ b=some L->h.tr.get b=some x->x≠.dead->L.blk<w.heap.size:=fun b L x h1 h2 h3=>r.blk_lt b L h1 x h2 h3
 have shd:∀{x y:Blk},(some x).map (shb h.sz)=some y->y≠.dead->x≠.dead:=by
  intro x y h1 h2 h3;subst h3;simp[shb] at h1;exact h2 h1.symm
 have shc:∀{o:Option Blk} {e:Nat} {w a:Bool} {cs:List AV},o.map (shb h.sz)=some (.cells e w a cs)->∃cs0,o=some (.cells e w a cs0)∧cs=kt h.sz cs0:=by
  intro o e w a cs ho;cases o with
  | none=>simp at ho
  | some x =>
   cases x with
   | cells e' w' a' cs'=>simp[shb] at ho;obtain⟨rfl,rfl,rfl,rfl⟩:=ho;exact⟨_,rfl,rfl⟩
   | dead=>simp[shb] at ho
   | map es=>simp[shb] at ho
 have shm:∀{o:Option Blk} {es:List (AV×AV)},o.map (shb h.sz)=some (.map es)->∃es0,o=some (.map es0)∧es=she h.sz es0:=by
  intro o es ho;cases o with
  | none=>simp at ho
  | some x =>
   cases x with
   | cells e' w' a' cs'=>simp[shb] at ho
   | dead=>simp[shb] at ho
   | map es'=>simp[shb] at ho;exact⟨es',rfl,ho.symm⟩
 have shn:∀{o:Option Blk} {y:Blk},o.map (shb h.sz)=some y->y≠.dead->∃x,o=some x∧x≠.dead:=by
  intro o y ho hy;cases o with
  | none=>simp at ho
  | some x=>exact⟨x,rfl,shd ho hy⟩
 refine⟨fun b L hb=>?_,?_,?_,?_,?_,?_,?_,vD r.base hw,?_,?_⟩
 ·rw[vx,List.length_map];rcases split b L hb with⟨h1,_⟩|⟨c,rfl,h1,_⟩
  ·omega
  ·have:c<bs.length:=r2.dom c L h1;omega
 ·intro b L e wf af cs hb hg;rcases split b L hb with⟨h1,h2,h3⟩|⟨c,rfl,h2,h3,_⟩
  ·rw[h3] at hg;obtain⟨q1,c,ty,fz,q2,q3,q4,q5,q6⟩:=r1.cells b L e wf af cs h2 hg;exact⟨q1,c,ty,fz,q2,q3,q4,fun j v hv=>let ⟨v',g7,g8⟩:=q5 j v hv;⟨v',g7,g8.mono le1⟩,q6⟩
  ·rw[h3] at hg;obtain⟨cs0,g1,rfl⟩:=shc hg;obtain⟨q1,c',ty,fz,q2,q3,q4,q5,q6⟩:=r2.cells c L e wf af cs0 h2 g1;refine⟨q1,c',ty,fz,q2,q3,by rw[wS];exact q4,fun j v hv=>?_,q6⟩
   rw[qc8] at hv;cases hj:cs0[j]? with
   | none=>rw[hj] at hv;simp at hv
   | some v0 =>
    rw[hj] at hv;simp at hv;subst hv;obtain⟨v',g7,g8⟩:=q5 j v0 hj;exact⟨v',g7,g8.sh n2⟩
 ·intro b L es hb hg;rcases split b L hb with⟨h1,h2,h3⟩|⟨c,rfl,h2,h3,_⟩
  ·rw[h3] at hg;obtain⟨q1,o,q2,q3⟩:=r1.maps b L es h2 hg;exact⟨q1,o,q2,q3.mono le1⟩
  ·rw[h3] at hg;obtain⟨es0,g1,rfl⟩:=shm hg;obtain⟨q1,o,q2,q3⟩:=r2.maps c L es0 h2 g1;exact⟨q1,o,q2,q3.sh n2⟩
 ·intro b L e af cs hb hg b' L' x hb' hx hd he;rcases split b L hb with⟨h1,h2,h3⟩|⟨c,rfl,h2,h3,h4⟩<;>rcases split b' L' hb' with⟨i1,i2,i3⟩|⟨c',rfl,i2,i3,i4⟩
  ·rw[h3] at hg;rw[i3] at hx;exact r.excl b L e af cs h2 hg b' L' x i2 hx hd he
  ·rw[h3] at hg;have:=oldlt b L _ h2 hg (by simp);omega
  ·rw[i3] at hx;have:=oldlt b' L' _ i2 hx hd;omega
  ·rw[h3] at hg;rw[i3] at hx;obtain⟨cs0,g1,rfl⟩:=shc hg;obtain⟨x0,g2,g3⟩:=shn hx hd;rw[r2.excl c L e af cs0 h2 g1 c' L' x0 i2 g2 g3 he]
 ·intro b L es hb hg b' L' x hb' hx hd he;rcases split b L hb with⟨h1,h2,h3⟩|⟨c,rfl,h2,h3,h4⟩
  ·rw[h3] at hg;rcases split b' L' hb' with⟨i1,i2,i3⟩|⟨c',rfl,i2,i3,i4⟩
   ·rw[i3] at hx;exact r.exclm b L es h2 hg b' L' x i2 hx hd he
   ·have:=oldlt b L _ h2 hg (by simp);omega
  ·rw[h3] at hg;obtain⟨es0,g1,rfl⟩:=shm hg;rcases split b' L' hb' with⟨i1,i2,i3⟩|⟨c',rfl,i2,i3,i4⟩
   ·rw[i3] at hx;have:=oldlt b' L' _ i2 hx hd;omega
   ·rw[i3] at hx;obtain⟨x0,g2,g3⟩:=shn hx hd;rw[r2.exclm c L es0 h2 g1 c' L' x0 i2 g2 g3 he]
 ·intro b L e wf cs hb hg b' L' e' wf' af' cs' hb' hx he;rcases split b L hb with⟨h1,h2,h3⟩|⟨c,rfl,h2,h3,h4⟩<;>rcases split b' L' hb' with⟨i1,i2,i3⟩|⟨c',rfl,i2,i3,i4⟩
  ·rw[h3] at hg;rw[i3] at hx;exact r.app b L e wf cs h2 hg b' L' e' wf' af' cs' i2 hx he
  ·rw[h3] at hg;have:=oldlt b L _ h2 hg (by simp);omega
  ·rw[i3] at hx;have:=oldlt b' L' _ i2 hx (by simp);omega
  ·rw[h3] at hg;rw[i3] at hx;obtain⟨cs0,g1,rfl⟩:=shc hg;obtain⟨cs1,g2,rfl⟩:=shc hx;have q:=r2.app c L e wf cs0 h2 g1 c' L' e' wf' af' cs1 i2 g2 he;rw[wS,wS];exact⟨q.1,fun hh=>by rw[q.2 hh]⟩
 ·intro b L hb hf;rw[kQ] at hf;rcases split b L hb with⟨h1,h2,h3⟩|⟨c,rfl,h2,h3,h4⟩
  ·exact r.flr b L h2 hf
  ·exact je r.base h4
 ·intro k arr hk;refine⟨(r2.frz k arr hk).1,fun b L x hb hx hd=>?_⟩
  rcases split b L hb with⟨h1,h2,h3⟩|⟨c,rfl,h2,h3,h4⟩
  ·rw[h3] at hx;exact (r1.frz k arr hk).2 b L x h2 hx hd
  ·rw[h3] at hx;obtain⟨x0,g2,g3⟩:=shn hx hd;exact (r2.frz k arr hk).2 c L x0 h2 g2 g3
 ·show h.sz+bs.length<=_;rw[vx,List.length_map];exact Nat.le_refl _
def Own(P:Program)(f:Nat)(vs:List AV)(v:AV)(bs:List Blk):Prop :=
 ∀(h:Hp) (k:AV->Hp->Prop),k (shv h.sz v) (z2 h (bs.map (shb h.sz)))->SC P f vs h k
def qin(v:AV)(bs:List Blk)(v':AV)(h':Hp):Prop:=h'.fl=0->∃src:List Nat,NV (rl src h'.sz) bs.length v' v∧BWs h' (rl src h'.sz) bs.length src bs∧(src.filter fun b=>decide (b<h'.sz)).Nodup
theorem Own.of_SC{f:Nat}{vs:List AV}{v:AV}{bs:List Blk}(hcl:qw vs=true)(hs:SC P f vs H0 (qin v bs)):Own P f vs v bs:=by
 intro h k hk;refine⟨hs.1,fun ρ B w args r ha=>?_⟩
 have hcr:=ha.crs hcl;refine wV.mono (hs.2 ⟨fun _=>none,ρ.frz,0⟩ (low w.heap.size) w args r.empty (CRs.vr (ρ:=⟨fun _=>none,ρ.frz,0⟩) hcr)) ?_
 rintro e w1 ⟨v0,v',h1,ρ1,rfl,g1,g2,g3,g4⟩;obtain⟨src,s1,s2,s3⟩:=g1 g4.fl;have hw:Wk 0 (mkT [(0,v0)]) h1 (mkT [(0,v)]) (mkH 0 bs):=Wk.mk [(0,v)] bs src ⟨⟨v0,by simp[mkT,Tr.get_set],s1⟩,trivial⟩ s2 s3 g4.fl
 obtain⟨ρ2,t2,r2,k2⟩:=hw ρ1 (low w.heap.size) w1 #[v'] (fun j x hj=>by
  have:=ka hj;simp at this;obtain⟨rfl,rfl⟩:=this;exact⟨by simp,by simpa using g2⟩) g3
 have hv2:VR σ0 ρ2 v v':=by
  have:=(t2 0 v (by simp[mkT,Tr.get_set])).2;simpa using this
 have f1:∀k a,ρ.frz k=some a->ρ2.frz k=some a:=fun k a hk=>k2.frz k a (g4.frz k a hk)
 have f2:∀k a,ρ2.frz k=some a->ρ.frz k=some a∨w.heap.size<=k:=fun k a hk=>(k2.fnew k a hk).elim (fun hk=>(g4.fnew k a hk).imp id Nat.not_lt.1) (fun hk=>.inr (Nat.not_lt.1 hk))
 refine⟨_,v',_,ρ.join ρ2 h.sz bs.length,rfl,hk,hv2.sh r2.dn,Rel.joinH r r2 g4.pres g4.wle f1 f2,?_⟩;refine⟨fun b hb=>qai hb,by rw[vx];omega,kQ,fun b _ hb=>by rw[xO,if_pos hb],fun k hk=>g4.pres k (r.base _ hk),g4.wle,g4.io,f1,fun k a hk=>(f2 k a hk).imp id (je r.base),?_⟩
 exact Nat.le_trans r.dn (Nat.le_add_right _ _)
theorem Own.mk{f:Nat}{i:IFn}{vs:List AV}{v:AV}{bs:List Blk}(hc:qt P f i=true)(hcl:qw vs=true)(hV:V P 0 i.body (vo i.res (qin v bs)) (wp vs 0 .leaf) H0):Own P f vs v bs :=
 Own.of_SC hcl (SC.mk hc (qA hV))
def qao(P:Program)(f:Nat)(vs':List AV)(v:AV)(bs:List Blk):Prop :=
 ∀(h:Hp) (vs:List AV) (k:AV->Hp->Prop),Frzs h vs vs'->k (shv h.sz v) (z2 h (bs.map (shb h.sz)))->SC P f vs h k
def PC(P:Program)(f:Nat)(vs:List AV)(h:Hp)(k:AV->Hp->Prop):Prop:=∃v h',(∀k':AV->Hp->Prop,k' v h'->SC P f vs h k')∧k v h'
def PY(P:Program)(b:Nat)(vs:List AV)(h:Hp)(k:AV->Hp->Prop):Prop:=∃v h',(∀k':AV->Hp->Prop,k' v h'->CC P 0 (.yl b::vs) h k')∧k v h'
@[congr] theorem qor {f:Nat} {vs vs':List AV} {h:Hp} {k:AV->Hp->Prop} {mk:Prop} (_:qI=mk) (h':vs=vs'):PC P f vs h k=PC P f vs' h k:=by rw[h']
@[congr] theorem qos {b:Nat} {vs vs':List AV} {h:Hp} {k:AV->Hp->Prop} {mk:Prop} (_:qI=mk) (h':vs=vs'):PY P b vs h k=PY P b vs' h k:=by rw[h']
def PCC(P:Program):qL:=fun f vs h k=>∃v h',(∀k':AV->Hp->Prop,k' v h'->CC P f vs h k')∧k v h'
theorem qp4:LC (PCC P):=fun _ _ _ _ ⟨v,h',h1,h2⟩=>⟨v,h',h2,fun _ h3=>⟨v,h',h1,h3⟩⟩
theorem qfY:jS P σ0 (PCC P):=⟨fun f vs h _ ⟨_,_,h1,h2⟩=>(qap P).1 f vs h _ (h1 _ h2),fun b vs h _ ⟨_,_,h1,h2⟩=>(qap P).2 b vs h _ (h1 _ h2)⟩
theorem qlU{b:Nat}{vs:List AV}{h:Hp}{k:AV->Hp->Prop}:cvF (PCC P) (.yl b) vs h k↔PY P b vs h k:=Iff.rfl
theorem qlT{f:Nat}{a c vs:List AV}{h:Hp}{k:AV->Hp->Prop}:cvF (PCC P) (.fn f a c) vs h k↔PC P f (a++(vs++c)) h k:=Iff.rfl
theorem qhT{dst:Option Nat}{f:Nat}{args:List O}{ops:List ROp}{Q:Tr AV->Hp->Prop}{t:Tr AV}{s fl:Nat}{tr:Tr Blk}:VR' (PCC P) (⟨dst,.callF f args,none⟩::ops) Q t ⟨s,fl,tr⟩↔xd t args (fun vs=>PC P f vs ⟨s,s,tr⟩ (fun v h'=>z6 t dst v (fun t'=>VR' (PCC P) ops Q t' (h'.down fl)))):=qeL
theorem qhU{dst:Option Nat}{f:Nat}{args:List O}{ops:List ROp}{Q:Tr AV->Hp->Prop}{t:Tr AV}{h:Hp}:VR' (PCC P) (⟨dst,.callW f args,none⟩::ops) Q t h↔xd t args (fun vs=>PC P f vs h (fun v h'=>z6 t dst v (fun t'=>VR' (PCC P) ops Q t' h'))):=qeN
theorem jp{ops:List ROp}{Q:Tr AV->Hp->Prop}{t:Tr AV}{h:Hp}(hr:VR' (PCC P) ops Q t h):VD P ops Q t h:=qoz qp4 qfY hr
theorem qf.pc{f:Nat}{vs:List AV}{v:AV}{h:Hp}{k:AV->Hp->Prop}(hp:qf P f vs v)(hk:k v h):PC P f vs h k:=⟨v,h,fun k' h'=>hp h k' h',hk⟩
theorem Own.pc{f:Nat}{vs:List AV}{v:AV}{bs:List Blk}{h:Hp}{k:AV->Hp->Prop}(hp:Own P f vs v bs)(hk:k (shv h.sz v) (z2 h (bs.map (shb h.sz)))):PC P f vs h k:=⟨_,_,fun k' h'=>hp h k' h',hk⟩
theorem qao.pc{f:Nat}{vs vs':List AV}{v:AV}{bs:List Blk}{h:Hp}{k:AV->Hp->Prop}(hp:qao P f vs' v bs)(hf:Frzs h vs vs')(hk:k (shv h.sz v) (z2 h (bs.map (shb h.sz)))):PC P f vs h k:=⟨_,_,fun k' h'=>hp h vs k' hf h',hk⟩
theorem Own.sc{f:Nat}{vs:List AV}{v:AV}{bs:List Blk}{h:Hp}{k:AV->Hp->Prop}(hp:Own P f vs v bs)(hk:k (shv h.sz v) (z2 h (bs.map (shb h.sz)))):SC P f vs h k:=hp h k hk
theorem qb3{s f:Nat}{tr:Tr Blk}{x:Blk}:Hp.push ⟨s,f,tr⟩ x=⟨s+1,f,tr.set s x⟩:=rfl
theorem QI{h:Hp}:z2 h []=h:=rfl
theorem yR{h:Hp}{x:Blk}{xs:List Blk}:z2 h (x::xs)=z2 (h.push x) xs:=rfl
end Go.Kc
end
section
/- The machine with fuel, which the kernel runs on known data. No condition. -/
namespace Go.Kc
variable {P:Program}

abbrev qan:=ICode->(X->Tr AV->Hp->Prop)->Tr AV->Hp->Prop
noncomputable def qbL(env:Tr IFn)(ih:qan)(f:Nat)(args:List AV)(h:Hp)(k:AV->Hp->Prop):Prop :=
 env.getK f (fun fn=>IFn.rec (motive:=fun _=>Prop) (fun res body=>qcp args 0 .leaf (fun t0=>ih body (fun e t h' =>
  X.rec (motive:=fun _=>Prop) (xE t h' res (fun vs=>k (xu vs) h')) (fun _=>False) (xE t h' res (fun vs=>k (xu vs) h')) e) t0 h)) fn)
abbrev yi:=Nat->List AV->Option AV
def yi.none:yi:=fun _ _=>Option.none
def yz(P:Program)(ho:yi):Prop:=∀f vs v,ho f vs=some v->qf P f vs v
theorem yz.none:yz P yi.none:=fun _ _ _ h=>by cases h
noncomputable def yt(env:Tr IFn)(ho:yi)(ih:qan)(f:Nat)(args:List AV)(h:Hp)(k:AV->Hp->Prop):Prop :=
 Option.rec (motive:=fun _=>Prop) (qbL env ih f args h k) (fun v=>k v h) (ho f args)
noncomputable def qgu(env:Tr IFn)(ho:yi)(ih:qan):qL:=fun f args h k=>Nat.rec (motive:=fun _=>Prop) False (fun f _=>yt env ho ih f args h k) f
noncomputable def fv(env:Tr IFn)(ho:yi)(n:Nat):qan :=
 Nat.rec (motive:=fun _=>qan) (fun _ _ _ _=>False) (fun _ ih c Q t h=>match c with
  | .skip=>Q .normal t h
  | .reg draw ops=>Qp qq draw (qgu env ho ih) ops (fun t h=>Q .normal t h) t h
  | .rangeF _ _ _ _=>False
  | .seq x y=>ih x (fun e t h=>X.rec (motive:=fun _=>Prop) (ih y Q t h) (fun id=>Q (.exit id) t h) (Q .ret t h) e) t h
  | .cond c x y=>evK t c (fun v=>unB v (fun b=>Bool.rec (motive:=fun _=>Prop) (ih y Q t h) (ih x Q t h) b))
  | .blk id x=>ih x (fun e t h=>X.rec (motive:=fun _=>Prop) (Q .normal t h) (fun id'=>Bool.rec (motive:=fun _=>Prop) (Q (.exit id') t h) (Q .normal t h) (Nat.beq id' id)) (Q .ret t h) e) t h
  | .loop x=>ih x (fun e t h=>X.rec (motive:=fun _=>Prop) (ih (.loop x) Q t h) (fun id=>Q (.exit id) t h) (Q .ret t h) e) t h
  | .exit id=>Q (.exit id) t h
  | .ret=>Q .ret t h
  | .no=>False
  | .cut x=>ih x Q t h) n
def LB(ih:qan):Prop:=∀c Q t h,ih c Q t h->∃e t' h',Q e t' h'∧∀Q',Q' e t' h'->ih c Q' t h
theorem qgt(env:Tr IFn){ih:qan}(hi:LB ih):LC (qbL env ih):=by
 intro f vs h k hk;obtain⟨fn,g1,g2⟩:=(Tr.getK_iff _ _ _).1 hk;cases fn with
 | mk res body =>
  obtain⟨t0,g3,g4⟩:=qdY vs 0 .leaf _ g2;obtain⟨e,t',h',h1,h2⟩:=hi _ _ _ _ g3
  have back:∀k',(X.rec (motive:=fun _=>Prop) (xE t' h' res (fun vs=>k' (xu vs) h')) (fun _=>False) (xE t' h' res (fun vs=>k' (xu vs) h')) e:Prop)->qbL env ih f vs h k':=fun k' hk' =>
   (Tr.getK_iff _ _ _).2 ⟨⟨res,body⟩,g1,g4 (fun t0=>ih body (fun e t h'=>X.rec (motive:=fun _=>Prop) (xE t h' res (fun vs=>k' (xu vs) h')) (fun _=>False) (xE t h' res (fun vs=>k' (xu vs) h')) e) t0 h) (h2 (fun e t h'=>X.rec (motive:=fun _=>Prop) (xE t h' res (fun vs=>k' (xu vs) h')) (fun _=>False) (xE t h' res (fun vs=>k' (xu vs) h')) e) hk')⟩
  cases e with
  | exit id=>exact h1.elim
  | normal =>
   obtain⟨vs,h3,h4⟩:=qa1 t' h' res _ h1;exact⟨_,_,h3,fun k' hk'=>back k' (h4 (fun vs=>k' (xu vs) h') hk')⟩
  | ret =>
   obtain⟨vs,h3,h4⟩:=qa1 t' h' res _ h1;exact⟨_,_,h3,fun k' hk'=>back k' (h4 (fun vs=>k' (xu vs) h') hk')⟩
theorem qiO(env:Tr IFn)(ho:yi){ih:qan}(hi:LB ih):LC (yt env ho ih):=by
 intro f vs h k hk;unfold yt at hk;cases hv:ho f vs with
 | none =>
  rw[hv] at hk;obtain⟨v,h',h1,h2⟩:=qgt env hi f vs h k hk;exact⟨v,h',h1,fun k' hk'=>by unfold yt;rw[hv];exact h2 k' hk'⟩
 | some v =>
  rw[hv] at hk;exact⟨v,h,hk,fun k' hk'=>by unfold yt;rw[hv];exact hk'⟩
theorem qcv(env:Tr IFn)(ho:yi){ih:qan}(hi:LB ih):LC (qgu env ho ih):=by
 intro f vs h k hk;cases f with
 | zero=>exact hk.elim
 | succ f=>exact qiO env ho hi f vs h k hk
theorem qo4(env:Tr IFn)(ho:yi):∀n,LB (fv env ho n)
 | 0=>fun _ _ _ _ h=>h.elim
 | n+1=>fun c Q t h hk=>by
  have ih:=qo4 env ho n;cases c with
  | no=>exact hk.elim
  | rangeF=>exact hk.elim
  | cut x=>exact ih _ _ _ _ hk
  | skip=>exact⟨_,_,_,hk,fun _ h=>h⟩
  | exit id=>exact⟨_,_,_,hk,fun _ h=>h⟩
  | ret=>exact⟨_,_,_,hk,fun _ h=>h⟩
  | reg draw ops =>
   obtain⟨t',h',h1,h2⟩:=qdH qq draw (qcv env ho ih) ops t h _ hk;exact⟨_,_,_,h1,fun Q' hQ=>h2 (fun t h=>Q' .normal t h) hQ⟩
  | seq x y =>
   obtain⟨e,t1,h1,g1,g2⟩:=ih _ _ _ _ hk;cases e with
   | normal =>
    obtain⟨e2,t2,h2,g3,g4⟩:=ih _ _ _ _ g1;exact⟨e2,t2,h2,g3,fun Q' hQ=>g2 (fun e t h=>X.rec (motive:=fun _=>Prop) (fv env ho n y Q' t h) (fun id=>Q' (.exit id) t h) (Q' .ret t h) e) (g4 _ hQ)⟩
   | exit id=>exact⟨_,t1,h1,g1,fun Q' hQ=>g2 (fun e t h=>X.rec (motive:=fun _=>Prop) (fv env ho n y Q' t h) (fun id=>Q' (.exit id) t h) (Q' .ret t h) e) hQ⟩
   | ret=>exact⟨_,t1,h1,g1,fun Q' hQ=>g2 (fun e t h=>X.rec (motive:=fun _=>Prop) (fv env ho n y Q' t h) (fun id=>Q' (.exit id) t h) (Q' .ret t h) e) hQ⟩
  | cond c x y =>
   obtain⟨v,g1,g2⟩:=qk t c _ hk;obtain⟨b,g3,g4⟩:=Qt v _ g1;cases b with
   | true =>
    obtain⟨e,t1,h1,g5,g6⟩:=ih _ _ _ _ g3;exact⟨e,t1,h1,g5,fun Q' hQ=>g2 (fun v=>unB v (fun b=>Bool.rec (motive:=fun _=>Prop) (fv env ho n y Q' t h) (fv env ho n x Q' t h) b)) (g4 (fun b=>Bool.rec (motive:=fun _=>Prop) (fv env ho n y Q' t h) (fv env ho n x Q' t h) b) (g6 _ hQ))⟩
   | false =>
    obtain⟨e,t1,h1,g5,g6⟩:=ih _ _ _ _ g3;exact⟨e,t1,h1,g5,fun Q' hQ=>g2 (fun v=>unB v (fun b=>Bool.rec (motive:=fun _=>Prop) (fv env ho n y Q' t h) (fv env ho n x Q' t h) b)) (g4 (fun b=>Bool.rec (motive:=fun _=>Prop) (fv env ho n y Q' t h) (fv env ho n x Q' t h) b) (g6 _ hQ))⟩
  | blk id x =>
   obtain⟨e,t1,h1,g1,g2⟩:=ih _ _ _ _ hk;cases e with
   | normal=>exact⟨_,t1,h1,g1,fun Q' hQ=>g2 (fun e t h=>X.rec (motive:=fun _=>Prop) (Q' .normal t h) (fun id'=>Bool.rec (motive:=fun _=>Prop) (Q' (.exit id') t h) (Q' .normal t h) (Nat.beq id' id)) (Q' .ret t h) e) hQ⟩
   | ret=>exact⟨_,t1,h1,g1,fun Q' hQ=>g2 (fun e t h=>X.rec (motive:=fun _=>Prop) (Q' .normal t h) (fun id'=>Bool.rec (motive:=fun _=>Prop) (Q' (.exit id') t h) (Q' .normal t h) (Nat.beq id' id)) (Q' .ret t h) e) hQ⟩
   | exit id' =>
    have g1':(Bool.rec (motive:=fun _=>Prop) (Q (.exit id') t1 h1) (Q .normal t1 h1) (Nat.beq id' id):Prop):=g1
    cases hb:Nat.beq id' id with
    | true =>
     rw[hb] at g1';refine⟨_,t1,h1,g1',fun Q' hQ=>g2 (fun e t h=>X.rec (motive:=fun _=>Prop) (Q' .normal t h) (fun id'=>Bool.rec (motive:=fun _=>Prop) (Q' (.exit id') t h) (Q' .normal t h) (Nat.beq id' id)) (Q' .ret t h) e) ?_⟩
     show (Bool.rec (motive:=fun _=>Prop) (Q' (.exit id') t1 h1) (Q' .normal t1 h1) (Nat.beq id' id):Prop)
     rw[hb];exact hQ
    | false =>
     rw[hb] at g1';refine⟨_,t1,h1,g1',fun Q' hQ=>g2 (fun e t h=>X.rec (motive:=fun _=>Prop) (Q' .normal t h) (fun id'=>Bool.rec (motive:=fun _=>Prop) (Q' (.exit id') t h) (Q' .normal t h) (Nat.beq id' id)) (Q' .ret t h) e) ?_⟩
     show (Bool.rec (motive:=fun _=>Prop) (Q' (.exit id') t1 h1) (Q' .normal t1 h1) (Nat.beq id' id):Prop)
     rw[hb];exact hQ
  | loop x =>
   obtain⟨e,t1,h1,g1,g2⟩:=ih _ _ _ _ hk;cases e with
   | normal =>
    obtain⟨e2,t2,h2,g3,g4⟩:=ih _ _ _ _ g1;exact⟨e2,t2,h2,g3,fun Q' hQ=>g2 (fun e t h=>X.rec (motive:=fun _=>Prop) (fv env ho n (.loop x) Q' t h) (fun id=>Q' (.exit id) t h) (Q' .ret t h) e) (g4 _ hQ)⟩
   | exit id=>exact⟨_,t1,h1,g1,fun Q' hQ=>g2 (fun e t h=>X.rec (motive:=fun _=>Prop) (fv env ho n (.loop x) Q' t h) (fun id=>Q' (.exit id) t h) (Q' .ret t h) e) hQ⟩
   | ret=>exact⟨_,t1,h1,g1,fun Q' hQ=>g2 (fun e t h=>X.rec (motive:=fun _=>Prop) (fv env ho n (.loop x) Q' t h) (fun id=>Q' (.exit id) t h) (Q' .ret t h) e) hQ⟩

theorem S.mono{n:Nat}{c:ICode}{Q Q':X->Tr AV->Hp->Prop}{t:Tr AV}{h:Hp}(hs:S P n c Q t h)(hq:∀e t h,Q e t h->Q' e t h):S P n c Q' t h:=by
 intro nt code hc hn ro hro ρ B w a ht hsz r;refine wpIn_mono (hs nt code hc hn ro hro ρ B w a ht hsz r) ?_;rintro e a1 w1 ⟨x1,t1,h1,ρ1,rs,hx,hq1,rest⟩;exact⟨x1,t1,h1,ρ1,rs,hx,hq _ _ _ hq1,rest⟩
theorem S.reg{n:Nat}{d:Bool}{rs:List ROp}{C:qL}(hl:LC C)(hC:jS P σ0 C){Q:X->Tr AV->Hp->Prop}{t:Tr AV}{h:Hp}(hv:Qp qq d C rs (fun t h=>Q .normal t h) t h):S P n (.reg d rs) Q t h:=by
 intro nt code hc hn ro hro ρ B w a ht hsz r;cases code<;>first|(simp[qy] at hc;done)|skip
 rename_i id ops d';simp only[qy,Bool.and_eq_true] at hc;obtain⟨⟨h1,h2⟩,h3⟩:=hc;obtain rfl:=eq_of_beq h1;cases d' with
 | false =>
  refine wpIn_region ?_
  have:=qcb (ops:=ops) (nt:=nt) (ro:=ro) (K:=ju σ0 Q nt n ρ B h w a.defers) (ρ0:=ρ) (h0:=h) (w0:=w) (ds:=a.defers) (qaj P) hC (fun a' w' t' h' ρ' g1 g2 g3 g4 g5 g6=>ju.of .normal g1 g2 g3 g4 g5 (g6.kep hn))
   ops.toList rs 0 h2 rfl t h ρ w a hv ht hsz rfl r (Kept.refl _ _ _ _)
  rw[List.range_eq_range'];simpa using this
 | true =>
  simp only[Bool.not_true,Bool.false_or,Bool.and_eq_true] at h3;exact qd6 (qaj P) hl hC h2 h3.1 h3.2 hv ht hsz r (fun a' w' t' h' ρ' g1 g2 g3 g4 g5 g6=>ju.of .normal g1 g2 g3 g4 g5 (g6.kep hn))
theorem S.seq{n:Nat}{x y:ICode}{Q:X->Tr AV->Hp->Prop}{t:Tr AV}{h:Hp}(hv:S P n x (fun e t h=>onX e (S P n y Q t h) (fun id=>Q (.exit id) t h) (Q .ret t h)) t h):S P n (.seq x y) Q t h:=by
 intro nt code hc hn ro hro ρ B w a ht hsz r;cases code<;>first|(simp[qy] at hc;done)|skip
 rename_i cx cy;simp only[qy,Bool.and_eq_true] at hc;refine wpIn_seq (wpIn_mono (hv nt cx hc.1 hn ro (nr1 hro) ρ B w a ht hsz r) ?_);rintro e a1 w1 ⟨x1,t1,h1,ρ1,rs,hx,hq,ht1,hs1,hd1,hm,r1,k1⟩;cases hx with
 | normal=>exact wpIn_mono (hq nt cy hc.2 k1.szle ro (nr2 hro) ρ1 _ w1 a1 ht1 hs1 r1) (fun e a2 w2 hp=>ju.trans k1 hm hd1 hm.lt hp)
 | exit id=>exact⟨_,t1,h1,ρ1,rs,.exit id,hq,ht1,hs1,hd1,hm,r1,k1⟩
 | ret=>exact⟨_,t1,h1,ρ1,rs,.ret,hq,ht1,hs1,hd1,hm,r1,k1⟩
theorem S.cond{n:Nat}{c:O}{x y:ICode}{Q:X->Tr AV->Hp->Prop}{t:Tr AV}{h:Hp}(hv:evK t c (fun v=>unB v (fun b=>if b=true then S P n x Q t h else S P n y Q t h))):S P n (.cond c x y) Q t h:=by
 intro nt code hc hn ro hro ρ B w a ht hsz r;cases code<;>first|(simp[qy] at hc;done)|skip
 rename_i cc cx cy;simp only[qy,Bool.and_eq_true] at hc;obtain⟨⟨h1,h2⟩,h3⟩:=hc;obtain⟨v,h4,h5⟩:=qx ht h1 hv;obtain⟨b,h6,h7⟩:=qa8 h5 h4;cases b with
 | true=>exact wpIn_cond_true h6 (h7 nt cx h2 hn ro (nr1 hro) ρ B w a ht hsz r)
 | false=>exact wpIn_cond_false h6 (h7 nt cy h3 hn ro (nr2 hro) ρ B w a ht hsz r)
theorem S.blk{n id:Nat}{x:ICode}{Q:X->Tr AV->Hp->Prop}{t:Tr AV}{h:Hp}(hv:S P n x (fun e t h=>onX e (Q .normal t h) (fun i=>if i=id then Q .normal t h else Q (.exit i) t h) (Q .ret t h)) t h):S P n (.blk id x) Q t h:=by
 intro nt code hc hn ro hro ρ B w a ht hsz r;cases code<;>first|(simp[qy] at hc;done)|skip
 rename_i id' cx;simp only[qy,Bool.and_eq_true] at hc;obtain rfl:=eq_of_beq hc.1;refine wpIn_block (wpIn_mono (hv nt cx hc.2 hn ro hro ρ B w a ht hsz r) ?_);rintro e a1 w1 ⟨x1,t1,h1,ρ1,rs,hx,hq,ht1,hs1,hd1,hm,r1,k1⟩;cases hx with
 | normal=>exact⟨_,t1,h1,ρ1,rs,.normal,hq,ht1,hs1,hd1,hm,r1,k1⟩
 | ret=>exact⟨_,t1,h1,ρ1,rs,.ret,hq,ht1,hs1,hd1,hm,r1,k1⟩
 | exit id2 =>
  show (if id2=id' then _ else _)
  have hq':(if id2=id' then Q .normal t1 h1 else Q (.exit id2) t1 h1):=hq
  by_cases he:id2=id'
  ·rw[if_pos he] at hq' ⊢;exact⟨_,t1,h1,ρ1,rs,.normal,hq',ht1,hs1,hd1,hm,r1,k1⟩
  ·rw[if_neg he] at hq' ⊢;exact⟨_,t1,h1,ρ1,rs,.exit id2,hq',ht1,hs1,hd1,hm,r1,k1⟩
theorem S.loop{n:Nat}{x:ICode}{Q:X->Tr AV->Hp->Prop}{t:Tr AV}{h:Hp}(hv:SL P n x Q t h):S P n (.loop x) Q t h:=by
 intro nt code hc hn ro hro ρ B w a ht hsz r;cases code<;>first|(simp[qy] at hc;done)|skip
 rename_i cx;exact qbv (hv nt cx (by simpa[qy] using hc) hn ro hro ρ B w a ht hsz r)
theorem SL.of_S{n:Nat}{x:ICode}{Q:X->Tr AV->Hp->Prop}{t:Tr AV}{h:Hp}(hv:S P n x (fun e t h=>onX e (SL P n x Q t h) (fun id=>Q (.exit id) t h) (Q .ret t h)) t h):SL P n x Q t h:=by
 intro nt cx hc hn ro hro ρ B w a ht hsz r;refine Q6 (wpIn_mono (hv nt cx hc hn ro hro ρ B w a ht hsz r) ?_);rintro e a1 w1 ⟨x1,t1,h1,ρ1,rs,hx,hq,ht1,hs1,hd1,hm,r1,k1⟩;cases hx with
 | normal=>exact wW.mono (hq nt cx hc k1.szle ro hro ρ1 _ w1 a1 ht1 hs1 r1) (fun e a2 w2 hp=>ju.trans k1 hm hd1 hm.lt hp)
 | exit id=>exact⟨_,t1,h1,ρ1,rs,.exit id,hq,ht1,hs1,hd1,hm,r1,k1⟩
 | ret=>exact⟨_,t1,h1,ρ1,rs,.ret,hq,ht1,hs1,hd1,hm,r1,k1⟩
def QT(P:Program)(env:Tr IFn):Prop:=∀f i,env.get f=some i->qt P f i=true
theorem qbi:∀{l:List AV} {n:Nat} {t:Tr AV} {k:Tr AV->Prop},qcp l n t k↔k (wp l n t)
 | [],_,_,_=>Iff.rfl
 | v::l,n,t,k=>by
  show t.setK n v (fun t'=>qj (Nat.succ n) (fun n'=>qcp l n' t' k))↔_
  rw[Tr.setK_iff,ql,qbi];exact Iff.rfl
theorem qbM{env:Tr IFn}(he:QT P env){ih:qan}(hi:∀c Q t h,ih c Q t h->∀n,S P n c Q t h){f:Nat}{vs:List AV}{h:Hp}{k:AV->Hp->Prop}(hk:qbL env ih f vs h k):SC P f vs h k:=by
 obtain⟨fn,g1,g2⟩:=(Tr.getK_iff _ _ _).1 hk;cases fn with
 | mk res body =>
  have g3:=qbi.1 g2;exact SC.mk (he f _ g1) (hi _ _ _ _ g3 h.sz)
theorem QW{env:Tr IFn}{ho:yi}(he:QT P env)(hh:yz P ho){ih:qan}(hi:∀c Q t h,ih c Q t h->∀n,S P n c Q t h){f:Nat}{vs:List AV}{h:Hp}{k:AV->Hp->Prop}(hk:yt env ho ih f vs h k):SC P f vs h k:=by
 unfold yt at hk;cases hv:ho f vs with
 | none=>rw[hv] at hk;exact qbM he hi hk
 | some v=>rw[hv] at hk;exact hh f vs v hv h k hk
theorem qcJ{env:Tr IFn}{ho:yi}(he:QT P env)(hh:yz P ho):∀m,(∀c Q t h,fv env ho m c Q t h->∀n,S P n c Q t h)∧(∀x Q t h,fv env ho m (.loop x) Q t h->∀n,SL P n x Q t h)
 | 0=>⟨fun _ _ _ _ h=>h.elim,fun _ _ _ _ h=>h.elim⟩
 | m+1=>by
  obtain⟨ih,ihl⟩:=qcJ he hh m
  have loop:∀x Q t h,fv env ho (m+1) (.loop x) Q t h->∀n,SL P n x Q t h:=by
   intro x Q t h hv n;have hv':fv env ho m x (fun e t h=>onX e (fv env ho m (.loop x) Q t h) (fun id=>Q (.exit id) t h) (Q .ret t h)) t h:=hv
   refine SL.of_S ((ih _ _ _ _ hv' n).mono ?_);intro e t h hq;cases e with
   | normal=>exact ihl x Q t h hq n
   | exit id=>exact hq
   | ret=>exact hq
  refine⟨fun c Q t h hv n=>?_,loop⟩
  cases c with
  | no=>exact hv.elim
  | rangeF=>exact hv.elim
  | cut x=>exact qA (c:=.cut x) (ih _ _ _ _ hv n)
  | skip=>exact qA (c:=.skip) hv
  | exit id=>exact qA (c:=.exit id) hv
  | ret=>exact qA (c:=.ret) hv
  | reg d ops=>exact S.reg (qcv env ho (qo4 env ho m)) ⟨fun f vs h k hk=>QW he hh ih hk,fun _ _ _ _ hk=>hk.elim⟩ hv
  | seq x y =>
   have hv':fv env ho m x (fun e t h=>onX e (fv env ho m y Q t h) (fun id=>Q (.exit id) t h) (Q .ret t h)) t h:=hv
   refine S.seq ((ih _ _ _ _ hv' n).mono ?_);intro e t h hq;cases e with
   | normal=>exact ih y Q t h hq n
   | exit id=>exact hq
   | ret=>exact hq
  | cond c x y =>
   obtain⟨v,g1,g2⟩:=qk t c _ hv;refine S.cond (g2 _ ?_);obtain⟨b,g3,g4⟩:=Qt v _ g1;refine g4 _ ?_;cases b with
   | true=>exact ih _ _ _ _ g3 n
   | false=>exact ih _ _ _ _ g3 n
  | blk id x =>
   have hv':fv env ho m x (fun e t h=>X.rec (motive:=fun _=>Prop) (Q .normal t h) (fun id'=>Bool.rec (motive:=fun _=>Prop) (Q (.exit id') t h) (Q .normal t h) (Nat.beq id' id)) (Q .ret t h) e) t h:=hv
   refine S.blk ((ih _ _ _ _ hv' n).mono ?_);intro e t h hq;cases e with
   | normal=>exact hq
   | ret=>exact hq
   | exit i =>
    have hq':(Bool.rec (motive:=fun _=>Prop) (Q (.exit i) t h) (Q .normal t h) (Nat.beq i id):Prop):=hq
    show (if i=id then _ else _)
    by_cases hi:i=id
    ·subst hi;rw[Nat.beq_refl] at hq';rw[if_pos rfl];exact hq'
    ·rw[if_neg hi];cases hb:Nat.beq i id with
     | true=>exact absurd (Nat.eq_of_beq_eq_true hb) hi
     | false=>rw[hb] at hq';exact hq'
  | loop x=>exact S.loop (loop x Q t h hv n)
theorem SC.run{env:Tr IFn}{ho:yi}(he:QT P env)(hh:yz P ho)(m:Nat){f:Nat}{vs:List AV}{h:Hp}{k:AV->Hp->Prop}(hk:yt env ho (fv env ho m) f vs h k):SC P f vs h k:=QW he hh (qcJ he hh m).1 hk
theorem qf.run{env:Tr IFn}{ho:yi}(he:QT P env)(hh:yz P ho)(m:Nat){f:Nat}{vs:List AV}{v:AV}(hcl:qw vs=true)(hk:yt env ho (fv env ho m) f vs H0 (fun v' h'=>Frz h' v' v)):qf P f vs v:=qf.of_SC hcl (SC.run he hh m hk)
end Go.Kc
end
section
/- Ranges over strings; maps in states written out. No condition. -/
namespace Go.Kc
variable {P:Program} {t:Tr AV} {h:Hp} {k:AV->Hp->Prop}

def vf(l:List UInt8)(i:Nat):Nat×Nat:=Utf8.decode ⟨l.toArray⟩ i
theorem qnq(l:List UInt8)(i:Nat):1<=(vf l i).2:=by
 unfold vf Utf8.decode;dsimp only
 repeat' split
 all_goals simp
theorem qfB{x:O}:opK qq (.rangeS x) t h k↔evK t x (fun x=>match x with | .s a=>zN h (.map (zm a 0)) (fun b h'=>k (.ptr b 0) h')|_=>False):=Iff.rfl
def qjB(x:Blk)(k:List UInt8->Nat->Prop):Prop:=∃a n,x = .map (zm a n)∧k a n
@[congr] theorem qmj {x x':Blk} {k:List UInt8->Nat->Prop} {mk:Prop} (_:qI=mk) (h:x=x'):qjB x k=qjB x' k:=by rw[h]
theorem qfn{a a':List UInt8}{n n':Nat}(e:zm a n=zm a' n'):a=a'∧n=n':=by
 simp only[zm,List.cons.injEq,Prod.mk.injEq,AV.s.injEq,AV.i.injEq,true_and,and_true] at e;exact⟨e.1,Int.ofNat.inj e.2⟩
theorem qjC{a:List UInt8}{n:Nat}{k:List UInt8->Nat->Prop}:qjB (.map (zm a n)) k↔k a n:=by
 constructor
 ·rintro⟨a',n',h1,h2⟩;obtain⟨rfl,rfl⟩:=qfn (Blk.map.inj h1);exact h2
 ·intro h1;exact⟨a,n,rfl,h1⟩
theorem qhQ{x:O}:opK qq (.nextS x) t h k↔evK t x (fun x=>unP x (fun b o=>ifK (o=0) (evB (h.tr.get b) (fun y=>qjB y (fun a n=>if n<a.length then evN (n+(vf a n).2) (fun m=>xk h b (.map (zm a m)) (fun h'=>evA (.i .i32 ((vf a n).1:Int)) (fun c=>k (.tup [.b true,.i .i64 (n:Int),c]) h'))) else k (.tup [.b false]) h))))):=by
 show evK t x (fun x=>unP x (fun b o=>qc (Nat.beq o 0) (qbt h b _)))↔_
 refine iff_of_eq (congrArg _ (funext fun v=>congrArg _ (funext fun b=>funext fun o=>?_)))
 rw[show (qc (Nat.beq o 0)=fun p=>ifK (o=0) p) from by funext p;exact propext ((qa _ _).trans (by rw[vG];exact Iff.rfl))]
 refine congrArg _ (propext (yc.trans ?_))
 have body:∀a n,(match a[n]? with
  | some c=>(Bool.rec (motive:=fun _=>Prop)
    (xk h b (.map (zm a (Nat.add n (Utf8.decode ⟨a.toArray⟩ n).2))) (fun h'=>k (.tup [.b true,.i .i64 (Int.ofNat n),.i .i32 (Int.ofNat (Utf8.decode ⟨a.toArray⟩ n).1)]) h'))
    (qj (Nat.succ n) (fun m=>xk h b (.map (zm a m)) (fun h'=>k (.tup [.b true,.i .i64 (Int.ofNat n),.i .i32 (Int.ofNat c.toNat)]) h')))
    (Nat.ble (Nat.succ c.toNat) 128):Prop)
  | none=>k (.tup [.b false]) h)↔if n<a.length then evN (n+(vf a n).2) (fun m=>xk h b (.map (zm a m)) (fun h'=>evA (.i .i32 ((vf a n).1:Int)) (fun c=>k (.tup [.b true,.i .i64 (n:Int),c]) h'))) else k (.tup [.b false]) h:=by
  intro a n
  by_cases hi:n<a.length
  ·rw[if_pos hi,List.getElem?_eq_getElem hi];dsimp only;cases hc:Nat.ble (Nat.succ a[n].toNat) 128 with
   | false=>exact Iff.rfl
   | true =>
    have hlt:=Nat.le_of_ble_eq_true hc;have hd:vf a n=(a[n].toNat,1):=y7 (List.getElem?_eq_getElem hi) (by omega);show qj _ _↔_;rw[ql,hd];exact Iff.rfl
  ·rw[if_neg hi,List.getElem?_eq_none (by omega)]
 constructor
 ·rintro⟨a,n,h1,h2⟩;exact⟨_,h1,a,n,rfl,(body a n).1 h2⟩
 ·rintro⟨_,h1,a,n,rfl,h2⟩;exact⟨a,n,h1,(body a n).2 h2⟩
def wx(es:List (AV×AV)):Prop:=∀e ∈ es,clo e.1=true∧clo e.2=true
theorem qlE{r:Nat->Nat}{m b:Nat}{es:List (AV×AV)}(hb:b<h.sz):BW h r m b (.map es)↔evB (h.tr.get b) (fun x=>qc0 x (fun es'=>EsW r m es' es)):=by
 constructor
 ·rintro (h1|h1|⟨e',w0,a0,cs,w',a',cs'',h1,h2,h3,h4,h5⟩|⟨es',es2,h1,h2,h3⟩)
  ·omega
  ·cases h1
  ·cases h2
  ·cases h2;exact⟨_,h1,h3⟩
 ·rintro⟨x,h1,h2⟩;cases x with
  | map es'=>exact .inr (.inr (.inr ⟨_,_,h1,rfl,h2⟩))
  | dead=>exact h2.elim
  | cells e0 w0 a0 cs=>exact h2.elim
theorem qbT{r:Nat->Nat}{m:Nat}{es es':List (AV×AV)}(hn:∀lr ts,es'≠za lr ts):EsW r m es es'↔es=es'∧wx es' :=
 ⟨fun h=>by
  rcases h with⟨rfl,h⟩|⟨lr,ts,ts',_,h,_⟩
  ·exact⟨rfl,h⟩
  ·exact absurd h (hn _ _),fun⟨h1,h2⟩=>by subst h1;exact .inl ⟨rfl,h2⟩⟩
theorem qi7{r:Nat->Nat}{m:Nat}{es:List (AV×AV)}:EsW r m es []↔es=[]:=(qbT (by simp[za])).trans ⟨And.left,fun h=>⟨h,by intro e he;cases he⟩⟩
theorem qoY{r:Nat->Nat}{m:Nat}{es es':List (AV×AV)}{a:List UInt8}{v:AV}:EsW r m es ((.s a,v)::es')↔es=(.s a,v)::es'∧wx ((.s a,v)::es'):=qbT (by simp[za])
theorem qoX{r:Nat->Nat}{m:Nat}{es es':List (AV×AV)}{q:IntKind}{a:Int}{v:AV}:EsW r m es ((.i q a,v)::es')↔es=(.i q a,v)::es'∧wx ((.i q a,v)::es'):=qbT (by simp[za])
theorem qlZ{r:Nat->Nat}{m:Nat}{es:List (AV×AV)}{a:List UInt8}{n:Nat}:EsW r m es (zm a n)↔es=zm a n∧wx (zm a n):=qbT (by simp[zm,za])
theorem xW{r:Nat->Nat}{m:Nat}{lr lr':Loop}{ts ts':List (Nat×AV)}:EsW r m (za lr ts) (za lr' ts')↔lr=lr'∧TsW r m ts ts' :=
 ⟨fun h=>by
  rcases h with⟨h1,h⟩|⟨l,t1,t2,h1,h2,h3⟩
  ·exact absurd (h (.lp lr,.undef) (by simp[za])).1 (by simp[clo])
  ·obtain⟨rfl,rfl⟩:=qaZ h1;obtain⟨rfl,rfl⟩:=qaZ h2;exact⟨rfl,h3⟩,fun⟨h1,h2⟩=>by subst h1;exact .inr ⟨_,_,_,rfl,rfl,h2⟩⟩
theorem jm{r:Nat->Nat}{m:Nat}{ts:List (Nat×AV)}:TsW r m ts []↔True:=iff_true_intro (by intro p hp;cases hp)
theorem xn{r:Nat->Nat}{m:Nat}{ts ts':List (Nat×AV)}{p:Nat×AV}:TsW r m ts (p::ts')↔evO (Q3 ts p.1) (fun v=>NV r m v p.2)∧TsW r m ts ts':=by
 simp only[TsW,List.mem_cons,forall_eq_or_imp];exact Iff.rfl
theorem zx{p:Nat×AV}{l:List (Nat×AV)}{j:Nat}:Q3 (p::l) j=if p.1=j then some p.2 else Q3 l j:=rfl
theorem qfq{a:List UInt8}{n:Nat}:wx (zm a n)↔True:=by
 refine iff_true_intro ?_;intro e he;simp only[zm,List.mem_cons,List.mem_nil_iff,or_false] at he;rcases he with rfl|rfl<;>exact⟨rfl,rfl⟩
theorem qdC:wx []↔True:=iff_true_intro (by intro e he;cases he)
theorem Q7{e:AV×AV}{es:List (AV×AV)}:wx (e::es)↔(clo e.1=true∧clo e.2=true)∧wx es:=by simp[wx]
theorem qd{r:Nat->Nat}{m:Nat}{vs:List AV}(hc:qw vs=true):NVs r m vs vs↔True:=iff_true_intro (NVs.refl hc)
theorem zC{vs:List AV}(hc:qw vs=true):Frzs h vs vs↔True:=iff_true_intro (Frzs.self hc)
theorem Wk.mkn{n:Nat}{t:Tr AV}(ts:List (Nat×AV))(bl:List Blk)(src:List Nat)(hT:TWs t (rl src h.sz) bl.length ts)(hB:BWs h (rl src h.sz) bl.length src bl)
  (hI:((src.filter fun b=>decide (b<h.sz)).Nodup)) (hfl:h.fl=0) (hn:n<=bl.length) (hlow:∀b,b<n->rl src h.sz b=b):Wk n t h (mkT ts) (mkH 0 bl):=by
 obtain⟨hlen,hget⟩:=hB.get;refine Wk.of (r:=rl src h.sz) ⟨hfl.symm,fun b' x' hb hg=>?_,fun b1 b2 h1 h2 _ _ he hl=>?_,fun b' _ _ _=>by rw[hfl];exact Nat.zero_le _,hlow,hn,fun b _ hb=>by rw[hfl] at hb;exact absurd hb (Nat.not_lt_zero _),fun j v' hj=>?_⟩
 ·rw[zq] at hg;obtain⟨b,q1,q2⟩:=hget b' x' hg;have:rl src h.sz b'=b:=by simp[rl,List.getD_eq_getElem?_getD,q1]
  rw[this];exact q2
 ·have h1:b1<src.length:=by rw[hlen];exact h1
  have h2:b2<src.length:=by rw[hlen];exact h2
  simp only[rl,List.getD_eq_getElem?_getD,List.getElem?_eq_getElem h1,List.getElem?_eq_getElem h2,Option.getD_some] at he hl;exact Wk.mk.nodup_filter_inj hI h1 h2 he (by simpa using hl)
 ·exact hT.get _ (ka hj)
theorem SL.loopn{n:Nat}{α:Type}{x:ICode}{Q:X->Tr AV->Hp->Prop}(T:α->List (Nat×AV))(B:α->List Blk)(I:α->Prop)(μ:α->Nat)(a0:α)(src:List Nat)
  (hT:TWs t (rl src h.sz) (B a0).length (T a0)) (hB:BWs h (rl src h.sz) (B a0).length src (B a0)) (hI:(src.filter fun b=>decide (b<h.sz)).Nodup) (hfl:h.fl=0) (hn:n<=(B a0).length) (hlow:∀b,b<n->rl src h.sz b=b) (h0:I a0)
  (step:∀a,I a->∀G:Tr AV->Hp->Prop,(∀b,I b->μ b<μ a->∀t' h',Wk n t' h' (mkT (T b)) (mkH 0 (B b))->G t' h')->
   V P n x (fun e t h=>onX e (G t h) (fun id=>Q (.exit id) t h) (Q .ret t h)) (mkT (T a)) (mkH 0 (B a))):SL P n x Q t h:=by
 have main:∀m a,μ a=m->I a->SL P n x Q (mkT (T a)) (mkH 0 (B a)):=by
  intro m
  induction m using Nat.strongRecOn with
  | ind m ih =>
   intro a ha hi;exact qdX (step a hi (fun t h=>SL P n x Q t h) fun b hb hlt t' h' hw=>SL.weak hw (ih (μ b) (ha ▸ hlt) b rfl hb))
 exact SL.weak (Wk.mkn (T a0) (B a0) src hT hB hI hfl hn hlow) (main _ a0 rfl h0)
end Go.Kc
end
section
/- Calls that write through pointers: shown on the blocks they reach, used at any heap. No condition. -/
namespace Go.Kc
variable {P:Program}

mutual
def rnv(g:Nat->Nat):AV->AV
 | .ptr b o=>.ptr (g b) o
 | .sl b o n c l=>.sl (g b) o n c l
 | .map b=>.map (g b)
 | .own b n=>.own (g b) n
 | .yl b=>.yl (g b)
 | .fn f a c=>.fn f (xR g a) (xR g c)
 | .ifc t v=>.ifc t (rnv g v)
 | .agg cs=>.agg (xR g cs)
 | .tup cs=>.tup (xR g cs)
 | v=>v
def xR(g:Nat->Nat):List AV->List AV
 | []=>[]
 | v::vs=>rnv g v::xR g vs
end
mutual
def bnd(m:Nat):AV->Bool
 | .ptr b _=>decide (b<m)
 | .sl b _ _ _ _=>decide (b<m)
 | .map b=>decide (b<m)
 | .own b _=>decide (b<m)
 | .yl b=>decide (b<m)
 | .fn _ a c=>xS m a&&xS m c
 | .ifc _ v=>bnd m v
 | .agg cs=>xS m cs
 | .tup cs=>xS m cs
 | _=>true
def xS(m:Nat):List AV->Bool
 | []=>true
 | v::vs=>bnd m v&&xS m vs
end
theorem qa2{g:Nat->Nat}:∀{vs:List AV} {j:Nat},(xR g vs)[j]?=(vs[j]?).map (rnv g)
 | [],j=>by simp[xR]
 | v::vs,0=>by simp[xR]
 | v::vs,j+1=>by simpa[xR] using qa2 (vs:=vs) (j:=j)
theorem xl{g:Nat->Nat}:∀{vs:List AV},(xR g vs).length=vs.length
 | []=>rfl
 | v::vs=>by simp[xR,xl (vs:=vs)]
theorem qcs{m:Nat}:∀{vs:List AV} {j:Nat} {v:AV},xS m vs=true->vs[j]?=some v->bnd m v=true
 | [],_,_,_,h=>by simp at h
 | x::xs,0,_,hb,h=>by
  simp only[xS,Bool.and_eq_true] at hb;simp at h;subst h;exact hb.1
 | x::xs,j+1,_,hb,h=>by
  simp only[xS,Bool.and_eq_true] at hb;exact qcs (vs:=xs) (j:=j) hb.2 (by simpa using h)
mutual
theorem VR.rn{ρ2 ρ3:Ren}{g:Nat->Nat}(h1:∀b L,ρ2 b=some L->ρ3 (g b)=some L)(h2:∀k a,ρ2.frz k=some a->ρ3.frz k=some a)(h3:∀b,b<ρ2.n->g b<ρ3.n):∀{v:AV} {x:Value},VR σ0 ρ2 v x->VR σ0 ρ3 (rnv g v) x
 | _,_,.undef v=>.undef v
 | _,_,.b x=>.b x
 | _,_,.i k n=>.i k n
 | _,_,.s x=>.s x
 | _,_,.nilp=>.nilp
 | _,_,.ptr b o L h=>.ptr _ _ L (h1 _ _ h)
 | _,_,.nils=>.nils
 | _,_,.sl b o len cap c loose L h hc=>.sl _ _ _ _ _ _ L (h1 _ _ h) hc
 | _,_,.slz b o x l' L h=>.slz _ _ _ _ L (h1 _ _ h)
 | _,_,.nilf=>.nilf
 | _,_,.fn f first cap first' cap' q1 q2=>.fn _ _ _ _ _ (VRs.rn h1 h2 h3 q1) (VRs.rn h1 h2 h3 q2)
 | _,_,.nili=>.nili
 | _,_,.ifc t v v' h=>.ifc _ _ _ (VR.rn h1 h2 h3 h)
 | _,_,.agg cs cs' h=>.agg _ _ (VRs.rn h1 h2 h3 h)
 | _,_,.tup cs cs' h=>.tup _ _ (VRs.rn h1 h2 h3 h)
 | _,_,.nilm=>.nilm
 | _,_,.map b L h h0=>.map _ L (h1 _ _ h) h0
 | _,_,.sym j=>.sym j
 | _,_,.fz n off c cs k arr hn h hs=>.fz n off c cs k arr hn (h2 _ _ h) (hs.mono h2)
 | _,_,.fz0 a=>.fz0 a
 | _,_,.pf off base cs k arr h hs=>.pf off base cs k arr (h2 _ _ h) (hs.mono h2)
 | _,_,.e0 a=>.e0 a
 | _,_,.nz a c=>.nz a c
 | _,_,.own0 b a hb=>.own0 _ _ (h3 _ hb)
 | _,_,.own b n c L h hn hc'=>.own _ _ _ L (h1 _ _ h) hn hc'
 | _,_,.yl b L h=>.yl _ L (h1 _ _ h)
theorem VRs.rn{ρ2 ρ3:Ren}{g:Nat->Nat}(h1:∀b L,ρ2 b=some L->ρ3 (g b)=some L)(h2:∀k a,ρ2.frz k=some a->ρ3.frz k=some a)(h3:∀b,b<ρ2.n->g b<ρ3.n):∀{v:List AV} {x:List Value},VRs σ0 ρ2 v x->VRs σ0 ρ3 (xR g v) x
 | _,_,.nil=>.nil
 | _,_,.cons v vs v' vs' h hs=>.cons _ _ _ _ (VR.rn h1 h2 h3 h) (VRs.rn h1 h2 h3 hs)
end
mutual
theorem VR.nr{ρ ρs:Ren}{g:Nat->Nat}{m:Nat}(h1:∀b L,b<m->ρ (g b)=some L->ρs b=some L)(h2:ρs.frz=ρ.frz)(h3:ρs.n=m):∀{v:AV} {x:Value},bnd m v=true->VR σ0 ρ (rnv g v) x->VR σ0 ρs v x
 | .undef,_,_,h=>by cases h;exact .undef _
 | .b _,_,_,h=>by cases h;exact .b _
 | .i _ _,_,_,h=>by cases h;exact .i _ _
 | .s _,_,_,h=>by cases h;exact .s _
 | .nilp,_,_,h=>by cases h;exact .nilp
 | .ptr b o,_,hb,h=>by
  simp only[bnd,decide_eq_true_eq] at hb;cases h with
  | ptr _ _ L q=>exact .ptr _ _ L (h1 _ _ hb q)
 | .nils,_,_,h=>by cases h;exact .nils
 | .sl b o n c l,_,hb,h=>by
  simp only[bnd,decide_eq_true_eq] at hb;cases h with
  | sl _ _ _ _ _ _ L q hc=>exact .sl _ _ _ _ _ _ L (h1 _ _ hb q) hc
  | slz _ _ _ _ L q=>exact .slz _ _ _ _ L (h1 _ _ hb q)
 | .nilf,_,_,h=>by cases h;exact .nilf
 | .fn f a c,_,hb,h=>by
  simp only[bnd,Bool.and_eq_true] at hb;cases h with
  | fn _ _ _ _ _ q1 q2=>exact .fn _ _ _ _ _ (VRs.nr h1 h2 h3 hb.1 q1) (VRs.nr h1 h2 h3 hb.2 q2)
 | .nili,_,_,h=>by cases h;exact .nili
 | .ifc t v,_,hb,h=>by
  simp only[bnd] at hb;cases h with
  | ifc _ _ _ q=>exact .ifc _ _ _ (VR.nr h1 h2 h3 hb q)
 | .agg cs,_,hb,h=>by
  simp only[bnd] at hb;cases h with
  | agg _ _ q=>exact .agg _ _ (VRs.nr h1 h2 h3 hb q)
 | .tup cs,_,hb,h=>by
  simp only[bnd] at hb;cases h with
  | tup _ _ q=>exact .tup _ _ (VRs.nr h1 h2 h3 hb q)
 | .nilm,_,_,h=>by cases h;exact .nilm
 | .map b,_,hb,h=>by
  simp only[bnd,decide_eq_true_eq] at hb;cases h with
  | map _ L q h0=>exact .map _ L (h1 _ _ hb q) h0
 | .sym j,_,_,h=>by cases h;exact .sym _
 | .fz n cs,_,_,h=>by
  cases h with
  | fz _ off c _ k arr hn q hs=>exact .fz _ off c _ k arr hn (by rw[h2];exact q) (by rw[h2];exact hs)
  | fz0 a=>exact .fz0 a
 | .pf cs o,_,_,h=>by
  cases h with
  | pf off base _ k arr q hs=>exact .pf _ base _ k arr (by rw[h2];exact q) (by rw[h2];exact hs)
 | .e0,_,_,h=>by cases h;exact .e0 _
 | .nz,_,_,h=>by cases h;exact .nz _ _
 | .own b n,_,hb,h=>by
  simp only[bnd,decide_eq_true_eq] at hb;cases h with
  | own0 _ a q=>exact .own0 _ _ (by rw[h3];exact hb)
  | own _ _ c L q hn hc=>exact .own _ _ c L (h1 _ _ hb q) hn hc
 | .yl b,_,hb,h=>by
  simp only[bnd,decide_eq_true_eq] at hb;cases h with
  | yl _ L q=>exact .yl _ L (h1 _ _ hb q)
 | .lp _,_,_,h=>by cases h
theorem VRs.nr{ρ ρs:Ren}{g:Nat->Nat}{m:Nat}(h1:∀b L,b<m->ρ (g b)=some L->ρs b=some L)(h2:ρs.frz=ρ.frz)(h3:ρs.n=m):∀{v:List AV} {x:List Value},xS m v=true->VRs σ0 ρ (xR g v) x->VRs σ0 ρs v x
 | [],_,_,h=>by cases h;exact .nil
 | v::vs,_,hb,h=>by
  simp only[xS,Bool.and_eq_true] at hb;cases h with
  | cons _ _ _ _ q1 q2=>exact .cons _ _ _ _ (VR.nr h1 h2 h3 hb.1 q1) (VRs.nr h1 h2 h3 hb.2 q2)
end

def gAt(at':List Nat)(d:Nat):Nat->Nat:=fun b=>if b<at'.length then at'.getD b 0 else d+(b-at'.length)
theorem wY{at':List Nat}{d b:Nat}(h:b<at'.length):gAt at' d b=at'[b]:=by
 simp[gAt,h]
theorem qaG{at':List Nat}{d b:Nat}(h:at'.length<=b):gAt at' d b=d+(b-at'.length):=by
 simp only[gAt];rw[if_neg (by omega)]
structure Lent (h:Hp) (at':List Nat) (bs:List Blk):Prop where
 len:at'.length=bs.length
 nd:at'.Nodup
 blk:∀i x,bs[i]?=some x->∃e a cs,x = .cells e true a cs∧xS bs.length cs=true∧h.tr.get (gAt at' h.sz i)=some (.cells e true a (xR (gAt at' h.sz) cs))∧h.fl<=gAt at' h.sz i∧gAt at' h.sz i<h.sz
def Ren.small(ρ:Ren)(at':List Nat)(d:Nat):Ren:=⟨fun i=>if i<at'.length then ρ (gAt at' d i) else none,ρ.frz,at'.length⟩
theorem kg{ρ:Ren}{at':List Nat}{d i:Nat}{L:Loc}(h:ρ.small at' d i=some L):i<at'.length∧ρ (gAt at' d i)=some L:=by
 simp only[Ren.small] at h;split at h
 ·exact⟨by assumption,h⟩
 ·cases h
def Bar(ρ:Ren)(B:Nat->Prop)(h:Hp)(at':List Nat):Nat->Prop:=fun k=>B k∨∃b L x,ρ b=some L∧b ∉ at'∧h.tr.get b=some x∧x≠.dead∧L.blk=k
theorem Lent.inj{h:Hp}{at':List Nat}{bs:List Blk}(l:Lent h at' bs){i j:Nat}(hi:i<at'.length)(hj:j<at'.length)(he:gAt at' h.sz i=gAt at' h.sz j):i=j:=by
 rw[wY hi,wY hj] at he;exact (List.getElem_inj l.nd).1 he
theorem Lent.mem{h:Hp}{at':List Nat}{i:Nat}(hi:i<at'.length):gAt at' h.sz i ∈ at':=by
 rw[wY hi];exact List.getElem_mem _
theorem Rel.small{ρ:Ren}{B:Nat->Prop}{h:Hp}{w:World}{at':List Nat}{bs:List Blk}(r:Rel σ0 ρ B h w)(l:Lent h at' bs):Rel σ0 (ρ.small at' h.sz) (Bar ρ B h at') (mkH 0 bs) w:=by
 have get:∀i L x,ρ.small at' h.sz i=some L->(mkH 0 bs).tr.get i=some x->i<at'.length∧ρ (gAt at' h.sz i)=some L∧∃e a cs,x = .cells e true a cs∧xS bs.length cs=true∧h.tr.get (gAt at' h.sz i)=some (.cells e true a (xR (gAt at' h.sz) cs))∧h.fl<=gAt at' h.sz i:=by
  intro i L x h1 h2;obtain⟨h3,h4⟩:=kg h1;rw[zq] at h2;obtain⟨e,a,cs,h5,h6,h7,h8,_⟩:=l.blk i x h2;exact⟨h3,h4,e,a,cs,h5,h6,h7,h8⟩
 refine⟨fun i L hb=>?_,?_,?_,?_,?_,?_,?_,?_,?_,?_⟩
 ·have:=(kg hb).1;rw[l.len] at this;exact this
 ·intro i L e wf af cs hb hg;obtain⟨h1,h2,e',a,cs',h3,h4,h5,h6⟩:=get i L _ hb hg;cases h3;obtain⟨q1,c,ty,fz,q2,q3,q4,q5,q6⟩:=r.cells _ L _ _ _ _ h2 h5;rw[xl] at q4;refine⟨q1,c,ty,fz,q2,q3,q4,fun j v hv=>?_,q6⟩
  obtain⟨v',p1,p2⟩:=q5 j (rnv (gAt at' h.sz) v) (by rw[qa2,hv];rfl)
  exact⟨v',p1,VR.nr (ρ:=ρ) (ρs:=ρ.small at' h.sz) (g:=gAt at' h.sz) (m:=bs.length) (fun b L hbm hbL=>by
   show (if b<at'.length then ρ (gAt at' h.sz b) else none)=some L
   rw[if_pos (by rw[l.len];exact hbm)];exact hbL) rfl l.len (qcs h4 hv) p2⟩
 ·intro i L es hb hg;obtain⟨_,_,e',a,cs',h3,_⟩:=get i L _ hb hg;cases h3
 ·intro b L e af cs hb hg b' L' x hb' hx hd he;obtain⟨h1,h2,e',a,cs',h3,h4,h5,h6⟩:=get b L _ hb hg;obtain⟨i1,i2,e2,a2,cs2,i3,i4,i5,i6⟩:=get b' L' _ hb' hx;exact l.inj i1 h1 (r.excl _ L _ _ _ h2 h5 _ L' _ i2 i5 (by simp) he)
 ·intro b L es hb hg;obtain⟨_,_,e',a,cs',h3,_⟩:=get b L _ hb hg;cases h3
 ·intro b L e wf cs hb hg b' L' e' wf' af' cs' hb' hx he;obtain⟨h1,h2,e1,a1,cs1,h3,h4,h5,h6⟩:=get b L _ hb hg;obtain⟨i1,i2,e2,a2,cs2,i3,i4,i5,i6⟩:=get b' L' _ hb' hx;cases h3;cases i3;have q:=r.app _ L _ _ _ h2 h5 _ L' _ _ _ _ i2 i5 he;rw[xl,xl] at q;exact⟨q.1,fun hh=>l.inj i1 h1 (q.2 hh)⟩
 ·intro i L hb _ hbar;have hi:=(kg hb).1;have hi':i<bs.length:=by rw[← l.len];exact hi
  obtain⟨h1,h2,e',a,cs',h3,h4,h5,h6⟩:=get i L bs[i] hb (by rw[zq,List.getElem?_eq_getElem hi']);rcases hbar with hB|⟨b,L',x,g1,g2,g3,g4,g5⟩
  ·exact r.flr _ L h2 h6 hB
  ·have:=r.excl _ L _ _ _ h2 h5 b L' x g1 g3 g4 g5;exact g2 (this ▸ Lent.mem hi)
 ·rintro k (hB|⟨b,L',x,g1,g2,g3,g4,rfl⟩)
  ·exact r.base k hB
  ·exact r.blk_lt b L' g1 x g3 g4
 ·intro k arr hk;refine⟨(r.frz k arr hk).1,fun b L x hb hx hd=>?_⟩
  obtain⟨h1,h2,e',a,cs',h3,h4,h5,h6⟩:=get b L _ hb hx;exact (r.frz k arr hk).2 _ L _ h2 h5 (by simp)
 ·show at'.length<=bs.length;rw[l.len];exact Nat.le_refl _

def rnb(g:Nat->Nat):Blk->Blk
 | .cells e w a cs=>.cells e w a (xR g cs)
 | .dead=>.dead
 | .map _=>.dead
noncomputable def vd:Hp->List Nat->List Blk->Hp
 | h,b::at',x::xs=>vd (h.put b x) at' xs
 | h,_,_=>h
theorem Qm:∀{at':List Nat} {xs:List Blk} {h:Hp},(vd h at' xs).sz=h.sz
 | [],_,_=>by simp[vd]
 | _::_,[],_=>by simp[vd]
 | b::at',x::xs,h=>by
  show (vd (h.put b x) at' xs).sz=_;rw[Qm];rfl
theorem qet:∀{at':List Nat} {xs:List Blk} {h:Hp},(vd h at' xs).fl=h.fl
 | [],_,_=>by simp[vd]
 | _::_,[],_=>by simp[vd]
 | b::at',x::xs,h=>by
  show (vd (h.put b x) at' xs).fl=_;rw[qet];rfl
theorem qaX:∀{at':List Nat} {xs:List Blk} {h:Hp} {b:Nat},b ∉ at'->(vd h at' xs).tr.get b=h.tr.get b
 | [],_,_,_,_=>by simp[vd]
 | _::_,[],_,_,_=>by simp[vd]
 | c::at',x::xs,h,b,hb=>by
  show (vd (h.put c x) at' xs).tr.get b=_;rw[qaX (fun hh=>hb (List.mem_cons_of_mem _ hh))]
  simp only[Hp.put,Tr.get_set];rw[if_neg (fun hh=>hb (by simp[hh]))]
theorem qeu:∀{at':List Nat} {xs:List Blk} {h:Hp} {i b:Nat},at'.Nodup->at'.length=xs.length->at'[i]?=some b->(vd h at' xs).tr.get b=xs[i]?
 | [],_,_,_,_,_,_,hi=>by simp at hi
 | _::_,[],_,_,_,_,hl,_=>by simp at hl
 | c::at',x::xs,h,0,b,hn,hl,hi=>by
  simp at hi;subst hi;show (vd (h.put c x) at' xs).tr.get c=_;rw[qaX (List.nodup_cons.1 hn).1];simp[Hp.put,Tr.get_set]
 | c::at',x::xs,h,i+1,b,hn,hl,hi=>by
  show (vd (h.put c x) at' xs).tr.get b=_;rw[qeu (List.nodup_cons.1 hn).2 (by simpa using hl) (by simpa using hi)];simp
noncomputable def jV(h:Hp)(at':List Nat)(bs2:List Blk):Hp:=z2 (vd h at' ((bs2.take at'.length).map (rnb (gAt at' h.sz)))) ((bs2.drop at'.length).map (rnb (gAt at' h.sz)))
def Ren.back(ρ ρ2:Ren)(at':List Nat)(d l:Nat):Ren:=⟨fun b=>if b<d then ρ b else ρ2 (b-d+at'.length),ρ2.frz,d+(l-at'.length)⟩
theorem qaq{h:Hp}{at':List Nat}{bs2:List Blk}:(jV h at' bs2).sz=h.sz+(bs2.length-at'.length):=by
 unfold jV;rw[vx,Qm];simp
theorem qcq{h:Hp}{at':List Nat}{bs2:List Blk}:(jV h at' bs2).fl=h.fl:=by
 unfold jV;rw[kQ,qet]
theorem qbk{h:Hp}{at':List Nat}{bs2:List Blk}{b:Nat}(hb:b<h.sz)(hm:b ∉ at'):(jV h at' bs2).tr.get b=h.tr.get b:=by
 unfold jV;rw[xO,Qm,if_pos hb,qaX hm]
theorem qgb{h:Hp}{at':List Nat}{bs2:List Blk}(hn:at'.Nodup)(hl:at'.length<=bs2.length)(hlt:∀b ∈ at',b<h.sz){i:Nat}(hi:i<at'.length):(jV h at' bs2).tr.get (gAt at' h.sz i)=(bs2[i]?).map (rnb (gAt at' h.sz)):=by
 have hm:gAt at' h.sz i ∈ at':=Lent.mem hi;unfold jV;rw[xO,Qm,if_pos (hlt _ hm),qeu (i:=i) hn (by simp;omega) (by rw[wY hi];exact List.getElem?_eq_getElem hi),List.getElem?_map,List.getElem?_take_of_lt hi]
theorem qeU{h:Hp}{at':List Nat}{bs2:List Blk}{i:Nat}(hi:at'.length<=i)(hi2:i<bs2.length):(jV h at' bs2).tr.get (gAt at' h.sz i)=(bs2[i]?).map (rnb (gAt at' h.sz)):=by
 unfold jV;rw[qaG hi,xO,Qm,if_neg (by omega),if_pos (by simp;omega),List.getElem?_map,List.getElem?_drop];rw[show at'.length+(h.sz+(i-at'.length)-h.sz)=i from by omega]
theorem Rel.back{ρ ρ2:Ren}{B:Nat->Prop}{h:Hp}{w w1:World}{at':List Nat}{bs bs2:List Blk}(r:Rel σ0 ρ B h w)(l:Lent h at' bs)(r2:Rel σ0 ρ2 (Bar ρ B h at') (mkH 0 bs2) w1)(hl:at'.length<=bs2.length)
  (he:∀i,i<at'.length->ρ2 i=ρ.small at' h.sz i) (hp:∀k,Bar ρ B h at' k->w1.heap[k]?=w.heap[k]?) (hw:w.heap.size<=w1.heap.size)
  (f1:∀k a,ρ.frz k=some a->ρ2.frz k=some a) (f2:∀k a,ρ2.frz k=some a->ρ.frz k=some a∨¬Bar ρ B h at' k):(∀b L,ρ2 b=some L->ρ.back ρ2 at' h.sz bs2.length (gAt at' h.sz b)=some L)∧Rel σ0 (ρ.back ρ2 at' h.sz bs2.length) B (jV h at' bs2) w1:=by
 have hlt:∀b ∈ at',b<h.sz:=by
  intro b hb;obtain⟨i,hi,rfl⟩:=List.getElem_of_mem hb;have hi':i<bs.length:=by rw[← l.len];exact hi
  obtain⟨_,_,_,_,_,_,_,h6⟩:=l.blk i bs[i] (List.getElem?_eq_getElem hi');rwa [wY hi] at h6
 have up:∀b L,ρ2 b=some L->ρ.back ρ2 at' h.sz bs2.length (gAt at' h.sz b)=some L:=by
  intro b L hb;show (if gAt at' h.sz b<h.sz then ρ (gAt at' h.sz b) else ρ2 (gAt at' h.sz b-h.sz+at'.length))=some L
  by_cases hbm:b<at'.length
  ·rw[if_pos (hlt _ (Lent.mem hbm))];rw[he b hbm] at hb;exact (kg hb).2
  ·rw[qaG (by omega),if_neg (by omega),show h.sz+(b-at'.length)-h.sz+at'.length=b from by omega]
   exact hb
 refine⟨up,?_⟩
 have nle:∀b,b<ρ2.n->gAt at' h.sz b<h.sz+(bs2.length-at'.length):=by
  intro b hb;have hb2:b<bs2.length:=Nat.lt_of_lt_of_le hb r2.dn
  by_cases hbm:b<at'.length
  ·have:=hlt _ (Lent.mem (h:=h) hbm);omega
  ·rw[qaG (by omega)];omega
 have le1:∀b L,ρ b=some L->ρ.back ρ2 at' h.sz bs2.length b=some L:=by
  intro b L hb;show (if b<h.sz then ρ b else _)=some L
  rw[if_pos (r.dom b L hb)];exact hb
 have le2:ρ.le (ρ.back ρ2 at' h.sz bs2.length):=⟨le1,f1,Nat.le_trans r.dn (Nat.le_add_right _ _)⟩
 -- a block: an old one that stayed,or one of the small heap
 have split:∀b L,ρ.back ρ2 at' h.sz bs2.length b=some L->(b ∉ at'∧ρ b=some L∧(jV h at' bs2).tr.get b=h.tr.get b) ∨
   ∃c,b=gAt at' h.sz c∧ρ2 c=some L∧(jV h at' bs2).tr.get b=((mkH 0 bs2).tr.get c).map (rnb (gAt at' h.sz)):=by
  intro b L hb;have hb':(if b<h.sz then ρ b else ρ2 (b-h.sz+at'.length))=some L:=hb
  by_cases hbs:b<h.sz
  ·rw[if_pos hbs] at hb'
   by_cases hm:b ∈ at'
   ·obtain⟨i,hi,rfl⟩:=List.getElem_of_mem hm;refine .inr ⟨i,(wY hi).symm,?_,?_⟩
    ·rw[he i hi];show (if i<at'.length then ρ (gAt at' h.sz i) else none)=some L
     rw[if_pos hi,wY hi];exact hb'
    ·have:=qgb (bs2:=bs2) l.nd hl hlt hi;rw[wY hi] at this;rw[this,zq]
   ·exact .inl ⟨hm,hb',qbk hbs hm⟩
  ·rw[if_neg hbs] at hb';have hc:b-h.sz+at'.length<bs2.length:=r2.dom _ L hb';have e:gAt at' h.sz (b-h.sz+at'.length)=b:=by rw[qaG (by omega)];omega
   refine .inr ⟨b-h.sz+at'.length,e.symm,hb',?_⟩;have:=qeU (h:=h) (at':=at') (bs2:=bs2) (i:=b-h.sz+at'.length) (by omega) hc;rw[e] at this;rw[this,zq]
 have apart:∀b L x c L2,b ∉ at'->ρ b=some L->h.tr.get b=some x->x≠.dead->ρ2 c=some L2->L2.blk≠L.blk:=by
  intro b L x c L2 h1 h2 h3 h4 h5 h6;exact r2.flr c L2 h5 (Nat.zero_le _) (.inr ⟨b,L,x,h2,h1,h3,h4,h6.symm⟩)
 have shc:∀{o:Option Blk} {e:Nat} {w a:Bool} {cs:List AV},o.map (rnb (gAt at' h.sz))=some (.cells e w a cs)->∃cs0,o=some (.cells e w a cs0)∧cs=xR (gAt at' h.sz) cs0:=by
  intro o e w a cs ho;cases o with
  | none=>simp at ho
  | some x =>
   cases x with
   | cells e' w' a' cs'=>simp[rnb] at ho;obtain⟨rfl,rfl,rfl,rfl⟩:=ho;exact⟨_,rfl,rfl⟩
   | dead=>simp[rnb] at ho
   | map es=>simp[rnb] at ho
 have shn:∀{o:Option Blk} {y:Blk},o.map (rnb (gAt at' h.sz))=some y->y≠.dead->∃x,o=some x∧x≠.dead:=by
  intro o y ho hy;cases o with
  | none=>simp at ho
  | some x =>
   refine⟨x,rfl,fun hx=>?_⟩
   subst hx;simp[rnb] at ho;exact hy ho.symm
 have shm:∀{o:Option Blk} {es:List (AV×AV)},o.map (rnb (gAt at' h.sz))=some (.map es)->False:=by
  intro o es ho;cases o with
  | none=>simp at ho
  | some x=>cases x<;>simp[rnb] at ho
 refine⟨fun b L hb=>?_,?_,?_,?_,?_,?_,?_,vD r.base hw,?_,?_⟩
 ·rw[qaq];have hb':(if b<h.sz then ρ b else ρ2 (b-h.sz+at'.length))=some L:=hb
  by_cases hbs:b<h.sz
  ·omega
  ·rw[if_neg hbs] at hb';have hc:b-h.sz+at'.length<bs2.length:=r2.dom _ L hb';omega
 ·intro b L e wf af cs hb hg;rcases split b L hb with⟨h1,h2,h3⟩|⟨c,rfl,h2,h3⟩
  ·rw[h3] at hg;obtain⟨q1,c,ty,fz,q2,q3,q4,q5,q6⟩:=r.cells b L e wf af cs h2 hg;exact⟨q1,c,ty,fz,by rw[hp _ (.inr ⟨b,L,_,h2,h1,hg,by simp,rfl⟩)];exact q2,q3,q4,fun j v hv=>let ⟨v',g7,g8⟩:=q5 j v hv;⟨v',g7,g8.mono le2⟩,q6⟩
  ·rw[h3] at hg;obtain⟨cs0,g1,rfl⟩:=shc hg;obtain⟨q1,c',ty,fz,q2,q3,q4,q5,q6⟩:=r2.cells c L e wf af cs0 h2 g1;refine⟨q1,c',ty,fz,q2,q3,by rw[xl];exact q4,fun j v hv=>?_,q6⟩
   rw[qa2] at hv;cases hj:cs0[j]? with
   | none=>rw[hj] at hv;simp at hv
   | some v0 =>
    rw[hj] at hv;simp at hv;subst hv;obtain⟨v',g7,g8⟩:=q5 j v0 hj;exact⟨v',g7,VR.rn (ρ3:=ρ.back ρ2 at' h.sz bs2.length) up (fun _ _ h=>h) nle g8⟩
 ·intro b L es hb hg;rcases split b L hb with⟨h1,h2,h3⟩|⟨c,rfl,h2,h3⟩
  ·rw[h3] at hg;obtain⟨q1,o,q2,q3⟩:=r.maps b L es h2 hg;exact⟨q1,o,by rw[hp _ (.inr ⟨b,L,_,h2,h1,hg,by simp,rfl⟩)];exact q2,q3.mono le2⟩
  ·rw[h3] at hg;exact (shm hg).elim
 ·intro b L e af cs hb hg b' L' x hb' hx hd hee;rcases split b L hb with⟨h1,h2,h3⟩|⟨c,rfl,h2,h3⟩<;>rcases split b' L' hb' with⟨i1,i2,i3⟩|⟨c',rfl,i2,i3⟩
  ·rw[h3] at hg;rw[i3] at hx;exact r.excl b L e af cs h2 hg b' L' x i2 hx hd hee
  ·rw[h3] at hg;exact absurd hee (apart b L _ c' L' h1 h2 hg (by simp) i2)
  ·rw[i3] at hx;exact absurd hee.symm (apart b' L' _ c L i1 i2 hx hd h2)
  ·rw[h3] at hg;rw[i3] at hx;obtain⟨cs0,g1,rfl⟩:=shc hg;obtain⟨x0,g2,g3⟩:=shn hx hd;rw[r2.excl c L e af cs0 h2 g1 c' L' x0 i2 g2 g3 hee]
 ·intro b L es hb hg b' L' x hb' hx hd hee;rcases split b L hb with⟨h1,h2,h3⟩|⟨c,rfl,h2,h3⟩
  ·rw[h3] at hg;rcases split b' L' hb' with⟨i1,i2,i3⟩|⟨c',rfl,i2,i3⟩
   ·rw[i3] at hx;exact r.exclm b L es h2 hg b' L' x i2 hx hd hee
   ·exact absurd hee (apart b L _ c' L' h1 h2 hg (by simp) i2)
  ·rw[h3] at hg;exact (shm hg).elim
 ·intro b L e wf cs hb hg b' L' e' wf' af' cs' hb' hx hee;rcases split b L hb with⟨h1,h2,h3⟩|⟨c,rfl,h2,h3⟩<;>rcases split b' L' hb' with⟨i1,i2,i3⟩|⟨c',rfl,i2,i3⟩
  ·rw[h3] at hg;rw[i3] at hx;exact r.app b L e wf cs h2 hg b' L' e' wf' af' cs' i2 hx hee
  ·rw[h3] at hg;exact absurd hee (apart b L _ c' L' h1 h2 hg (by simp) i2)
  ·rw[i3] at hx;exact absurd hee.symm (apart b' L' _ c L i1 i2 hx (by simp) h2)
  ·rw[h3] at hg;rw[i3] at hx;obtain⟨cs0,g1,rfl⟩:=shc hg;obtain⟨cs1,g2,rfl⟩:=shc hx;have q:=r2.app c L e wf cs0 h2 g1 c' L' e' wf' af' cs1 i2 g2 hee;rw[xl,xl];exact⟨q.1,fun hh=>by rw[q.2 hh]⟩
 ·intro b L hb hf hB;rw[qcq] at hf;rcases split b L hb with⟨h1,h2,h3⟩|⟨c,rfl,h2,h3⟩
  ·exact r.flr b L h2 hf hB
  ·exact r2.flr c L h2 (Nat.zero_le _) (.inl hB)
 ·intro k arr hk;refine⟨(r2.frz k arr hk).1,fun b L x hb hx hd=>?_⟩
  rcases split b L hb with⟨h1,h2,h3⟩|⟨c,rfl,h2,h3⟩
  ·rw[h3] at hx;rcases f2 k arr hk with g|g
   ·exact (r.frz k arr g).2 b L x h2 hx hd
   ·exact fun hh=>g (.inr ⟨b,L,x,h2,h1,hx,hd,hh⟩)
  ·rw[h3] at hx;obtain⟨x0,g2,g3⟩:=shn hx hd;exact (r2.frz k arr hk).2 c L x0 h2 g2 g3
 ·show h.sz+(bs2.length-at'.length)<=_;rw[qaq];exact Nat.le_refl _
def qlh(m:Nat)(v:AV)(bs2:List Blk)(v':AV)(h':Hp):Prop:=h'.fl=0->∃src:List Nat,NV (rl src h'.sz) bs2.length v' v∧BWs h' (rl src h'.sz) bs2.length src bs2∧(src.filter fun b=>decide (b<h'.sz)).Nodup∧∀b,b<m->rl src h'.sz b=b
def qio(m:Nat)(v:AV)(bs2:List Blk)(v':AV)(h':Hp):Prop:=h'.fl=0->Wk m (mkT [(0,v')]) h' (mkT [(0,v)]) (mkH 0 bs2)
theorem qlh.w{m:Nat}{v:AV}{bs2:List Blk}{v':AV}{h':Hp}(hz:qlh m v bs2 v' h')(hle:m<=bs2.length):qio m v bs2 v' h':=by
 intro hfl;obtain⟨src,s1,s2,s3,s4⟩:=hz hfl;exact Wk.mkn [(0,v)] bs2 src ⟨⟨v',by simp[mkT,Tr.get_set],s1⟩,trivial⟩ s2 s3 hfl hle s4
def Upd(P:Program)(f:Nat)(vs:List AV)(bs:List Blk)(v:AV)(bs2:List Blk):Prop :=
 xS bs.length vs=true∧bs.length<=bs2.length∧SC P f vs (mkH 0 bs) (qio bs.length v bs2)
theorem Upd.mkS{f:Nat}{i:IFn}{vs:List AV}{v:AV}{bs bs2:List Blk}(hc:qt P f i=true)(hb:xS bs.length vs=true)(hl:bs.length<=bs2.length)(hV:S P bs.length i.body (vo i.res (qio bs.length v bs2)) (wp vs 0 .leaf) (mkH 0 bs)):Upd P f vs bs v bs2 :=
 ⟨hb,hl,SC.mk hc hV⟩
theorem Upd.mk{f:Nat}{i:IFn}{vs:List AV}{v:AV}{bs bs2:List Blk}(hc:qt P f i=true)(hb:xS bs.length vs=true)(hl:bs.length<=bs2.length)(hV:V P bs.length i.body (vo i.res (qlh bs.length v bs2)) (wp vs 0 .leaf) (mkH 0 bs)):Upd P f vs bs v bs2 :=
 ⟨hb,hl,(SC.mk hc (qA hV)).mono fun _ _ hz=>hz.w hl⟩
theorem Upd.sc{f:Nat}{vs:List AV}{bs bs2:List Blk}{v:AV}{h:Hp}{k:AV->Hp->Prop}(at':List Nat)(hu:Upd P f vs bs v bs2)(l:Lent h at' bs)(hk:k (rnv (gAt at' h.sz) v) (jV h at' bs2)):SC P f (xR (gAt at' h.sz) vs) h k:=by
 obtain⟨hb,hle,hu⟩:=hu;refine⟨hu.1,fun ρ B w args r ha=>?_⟩
 have hle':at'.length<=bs2.length:=by rw[l.len];exact hle
 have ha':VRs σ0 (ρ.small at' h.sz) vs args.toList:=VRs.nr (ρ:=ρ) (ρs:=ρ.small at' h.sz) (g:=gAt at' h.sz) (m:=bs.length) (fun b L hbm hbL=>by
  show (if b<at'.length then ρ (gAt at' h.sz b) else none)=some L
  rw[if_pos (by rw[l.len];exact hbm)];exact hbL) rfl l.len hb ha
 refine wV.mono (hu.2 (ρ.small at' h.sz) (Bar ρ B h at') w args (r.small l) ha') ?_;rintro e w1 ⟨v0,v',h1,ρ1,rfl,g1,g2,g3,g4⟩;have hw:Wk bs.length (mkT [(0,v0)]) h1 (mkT [(0,v)]) (mkH 0 bs2):=g1 g4.fl
 obtain⟨ρ2,t2,r2,k2⟩:=hw ρ1 (Bar ρ B h at') w1 #[v'] (fun j x hj=>by
  have:=ka hj;simp at this;obtain⟨rfl,rfl⟩:=this;exact⟨by simp,by simpa using g2⟩) g3
 have hv2:VR σ0 ρ2 v v':=by
  have:=(t2 0 v (by simp[mkT,Tr.get_set])).2;simpa using this
 have he:∀i,i<at'.length->ρ2 i=ρ.small at' h.sz i:=fun i hi=>(k2.ext i (by rw[← l.len];exact hi)).trans (g4.ext i (by rw[qdE,← l.len];exact hi))
 have f1:∀k a,ρ.frz k=some a->ρ2.frz k=some a:=fun k a hk=>k2.frz k a (g4.frz k a hk)
 have f2:∀k a,ρ2.frz k=some a->ρ.frz k=some a∨¬Bar ρ B h at' k:=fun k a hk=>(k2.fnew k a hk).elim (g4.fnew k a) .inr
 obtain⟨up,big⟩:=Rel.back r l r2 hle' he g4.pres g4.wle f1 f2
 have nle:∀b,b<ρ2.n->gAt at' h.sz b<(ρ.back ρ2 at' h.sz bs2.length).n:=by
  intro b hb;have hb2:b<bs2.length:=Nat.lt_of_lt_of_le hb r2.dn;show _<h.sz+(bs2.length-at'.length)
  by_cases hbm:b<at'.length
  ·have hbm':b<bs.length:=by rw[← l.len];exact hbm
   obtain⟨_,_,_,_,_,_,_,h6⟩:=l.blk b bs[b] (List.getElem?_eq_getElem hbm');omega
  ·rw[qaG (by omega)];omega
 refine⟨_,v',_,ρ.back ρ2 at' h.sz bs2.length,rfl,hk,VR.rn up (fun _ _ h=>h) nle hv2,big,?_⟩
 refine⟨fun b hb=>?_,by rw[qaq];omega,qcq,fun b hf hb=>qbk hb (fun hm=>?_),fun k hk=>g4.pres k (.inl hk),g4.wle,g4.io,f1,fun k a hk=>(f2 k a hk).imp id (fun hh hB=>hh (.inl hB)),Nat.le_trans r.dn (Nat.le_add_right _ _)⟩
 ·show (if b<h.sz then ρ b else _)=ρ b
  rw[if_pos hb]
 ·obtain⟨i,hi,rfl⟩:=List.getElem_of_mem hm;have hi':i<bs.length:=by rw[← l.len];exact hi
  obtain⟨_,_,_,_,_,_,h5,_⟩:=l.blk i bs[i] (List.getElem?_eq_getElem hi');rw[wY hi] at h5;omega
end Go.Kc
end
