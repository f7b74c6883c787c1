/- Part 1 of the abstract machine and of the functions' walks. Conditions: with each theorem. -/
import GoSem.Step
import Derived.Lib.ItoaNum
import Derived.Laws.IdiomCopy
import Derived.Laws.AppendOwn
import Derived.Laws.Append
import Derived.Calls
import Derived.ChangeKeysEq
set_option maxHeartbeats 4000000
set_option linter.unusedSectionVars false
set_option linter.unusedSimpArgs false
set_option linter.unusedVariables false
set_option linter.unnecessarySimpa false
section
namespace Go.Kc
theorem zzE{α:Type _}{l:List α}{i:Nat}(h:i<l.length):l[i]?=some l[i]:=List.getElem?_eq_getElem h
theorem zzS{α:Type _}{l:List α}{i:Nat}{a:α}:l[i]?=some a↔∃h:i<l.length,l[i]=a:=List.getElem?_eq_some_iff
theorem zzM{α:Type _}{l:List α}{i:Nat}{a:α}(h:l[i]?=some a):a∈l:=List.mem_of_getElem? h

inductive Tr (α:Type) where
 | leaf
 | node (v:Option α) (l r:Tr α)

namespace Tr
variable {α:Type}
noncomputable def get(t:Tr α):Nat->Option α :=
 Tr.rec (fun _=>none) (fun v _ _ gl gr n=>Nat.rec v (fun m _=>Bool.rec (gr (Nat.div m 2)) (gl (Nat.div m 2)) (Nat.beq (Nat.mod m 2) 0)) n) t

noncomputable def getK(t:Tr α):Nat->(α->Prop)->Prop :=
 Tr.rec (motive:=fun _=>Nat->(α->Prop)->Prop) (fun _ _=>False)
  (fun v _ _ gl gr n k=>Nat.rec (motive:=fun _=>Prop) (Option.rec (motive:=fun _=>Prop) False k v)
   (fun m _=>Bool.rec (motive:=fun _=>Prop) (gr (Nat.div m 2) k) (gl (Nat.div m 2) k) (Nat.beq (Nat.mod m 2) 0)) n) t

noncomputable def mk(f:Nat):Nat->α->Tr α :=
 Nat.rec (fun _ _=>.leaf) (fun _ ih n x=>Nat.rec (.node (some x) .leaf .leaf)
  (fun m _=>Bool.rec (.node none .leaf (ih (Nat.div m 2) x)) (.node none (ih (Nat.div m 2) x) .leaf) (Nat.beq (Nat.mod m 2) 0)) n) f

noncomputable def mkK(f:Nat):Nat->α->(Tr α->Prop)->Prop :=
 Nat.rec (motive:=fun _=>Nat->α->(Tr α->Prop)->Prop) (fun _ _ k=>k .leaf) (fun _ ih n x k=>Nat.rec (motive:=fun _=>Prop) (k (.node (some x) .leaf .leaf))
  (fun m _=>Bool.rec (motive:=fun _=>Prop) (ih (Nat.div m 2) x (fun r=>k (.node none .leaf r))) (ih (Nat.div m 2) x (fun l=>k (.node none l .leaf))) (Nat.beq (Nat.mod m 2) 0)) n) f

noncomputable def set(t:Tr α):Nat->α->Tr α :=
 Tr.rec (fun n x=>mk (Nat.succ n) n x) (fun v l r sl sr n x=>Nat.rec (.node (some x) l r)
  (fun m _=>Bool.rec (.node v l (sr (Nat.div m 2) x)) (.node v (sl (Nat.div m 2) x) r) (Nat.beq (Nat.mod m 2) 0)) n) t

noncomputable def setK(t:Tr α):Nat->α->(Tr α->Prop)->Prop :=
 Tr.rec (motive:=fun _=>Nat->α->(Tr α->Prop)->Prop) (fun n x k=>mkK (Nat.succ n) n x k) (fun v l r sl sr n x k=>Nat.rec (motive:=fun _=>Prop) (k (.node (some x) l r))
  (fun m _=>Bool.rec (motive:=fun _=>Prop) (sr (Nat.div m 2) x (fun r'=>k (.node v l r'))) (sl (Nat.div m 2) x (fun l'=>k (.node v l' r))) (Nat.beq (Nat.mod m 2) 0)) n) t

theorem qej(m:Nat):Nat.beq (Nat.mod m 2) 0=decide (m % 2=0):=by
 show Nat.beq (m % 2) 0=_;rcases h:m % 2 with _|k
 ·rfl
 ·simp[Nat.beq]

@[simp] theorem get_leaf (n:Nat):(Tr.leaf:Tr α).get n=none:=rfl
theorem get_node(v:Option α)(l r:Tr α)(n:Nat) :
  (Tr.node v l r).get n=match n with|0=>v|m+1=>if m % 2=0 then l.get (m / 2) else r.get (m / 2):=by
 cases n with
 | zero=>rfl
 | succ m =>
  show (Bool.rec (motive:=fun _=>Option α) (r.get (Nat.div m 2)) (l.get (Nat.div m 2)) (Nat.beq (Nat.mod m 2) 0):Option α)=_
  rw[qej]
  by_cases h:m % 2=0<;>simp only[h,decide_true,decide_false,if_true,if_false]<;>rfl
theorem set_node(v:Option α)(l r:Tr α)(n:Nat)(x:α) :
  (Tr.node v l r).set n x=match n with|0=>.node (some x) l r|m+1=>if m % 2=0 then .node v (l.set (m / 2) x) r else .node v l (r.set (m / 2) x):=by
 cases n with
 | zero=>rfl
 | succ m =>
  show Bool.rec (motive:=fun _=>Tr α) (Tr.node v l (r.set (Nat.div m 2) x)) (Tr.node v (l.set (Nat.div m 2) x) r) (Nat.beq (Nat.mod m 2) 0)=_
  rw[qej]
  by_cases h:m % 2=0<;>simp only[h,decide_true,decide_false,if_true,if_false]<;>rfl
theorem mk_succ(f n:Nat)(x:α) :
  (mk (f+1) n x)=match n with|0=>.node (some x) .leaf .leaf|m+1=>if m % 2=0 then .node none (mk f (m / 2) x) .leaf else .node none .leaf (mk f (m / 2) x):=by
 cases n with
 | zero=>rfl
 | succ m =>
  show Bool.rec (motive:=fun _=>Tr α) (Tr.node none .leaf (mk f (Nat.div m 2) x)) (Tr.node none (mk f (Nat.div m 2) x) .leaf) (Nat.beq (Nat.mod m 2) 0)=_
  rw[qej]
  by_cases h:m % 2=0<;>simp only[h,decide_true,decide_false,if_true,if_false]<;>rfl

theorem qj5(f:Nat):∀(n:Nat) (x:α),n<f->∀j,(mk f n x).get j=if j=n then some x else none:=by
 induction f<;>grind[Tr.mk_succ,Tr.get_node,Tr.get_leaf]

theorem get_set(t:Tr α):∀(n:Nat) (x:α) (j:Nat),(t.set n x).get j=if j=n then some x else t.get j:=by
 induction t with
 | leaf=>intro n x j;show (mk (n+1) n x).get j=_;rw[qj5 _ _ _ (by omega)];rfl
 | node v l r ihl ihr =>
  grind[Tr.set_node,Tr.get_node]

theorem getK_iff(t:Tr α):∀(n:Nat) (k:α->Prop),t.getK n k↔∃v,t.get n=some v∧k v:=by
 induction t with
 | leaf => intro n k;constructor
           ·intro h;exact h.elim
           simp_all
 | node v l r ihl ihr =>
  intro n k;cases n with
  | zero =>
   show (Option.rec (motive:=fun _=>Prop) False k v:Prop)↔_
   cases v<;>grind[Tr.get_node]
  | succ m =>
   show (Bool.rec (motive:=fun _=>Prop) (r.getK (Nat.div m 2) k) (l.getK (Nat.div m 2) k) (Nat.beq (Nat.mod m 2) 0):Prop)↔_
   rw[qej,get_node]
   by_cases h:m % 2=0
   ·simp only[h,decide_true,if_true];exact ihl _ _
   ·simp only[h,decide_false,if_false];exact ihr _ _

theorem qis(f:Nat):∀(n:Nat) (x:α) (k:Tr α->Prop),mkK f n x k↔k (mk f n x):=by
 induction f with
 | zero=>intro n x k;exact Iff.rfl
 | succ f ih =>
  intro n x k;cases n with
  | zero=>exact Iff.rfl
  | succ m =>
   show (Bool.rec (motive:=fun _=>Prop) (mkK f (Nat.div m 2) x (fun r=>k (.node none .leaf r))) (mkK f (Nat.div m 2) x (fun l=>k (.node none l .leaf))) (Nat.beq (Nat.mod m 2) 0):Prop)↔_
   rw[qej,mk_succ]
   by_cases h:m % 2=0
   ·simp only[h,decide_true,if_true];exact ih _ _ _
   ·simp only[h,decide_false,if_false];exact ih _ _ _

theorem setK_iff(t:Tr α):∀(n:Nat) (x:α) (k:Tr α->Prop),t.setK n x k↔k (t.set n x):=by
 induction t with
 | leaf=>intro n x k;exact qis (n+1) n x k
 | node v l r ihl ihr =>
  intro n x k;cases n with
  | zero=>exact Iff.rfl
  | succ m =>
   show (Bool.rec (motive:=fun _=>Prop) (r.setK (Nat.div m 2) x (fun r'=>k (.node v l r'))) (l.setK (Nat.div m 2) x (fun l'=>k (.node v l' r))) (Nat.beq (Nat.mod m 2) 0):Prop)↔_
   rw[qej,set_node]
   by_cases h:m % 2=0
   ·simp only[h,decide_true,if_true];exact ihl _ _ _
   ·simp only[h,decide_false,if_false];exact ihr _ _ _
end Tr

inductive AV where
 | b (x:Bool)
 | i (k:IntKind) (n:Int)
 | s (x:List UInt8)
 | nilp
 | ptr (blk off:Nat)
 | nils
 | sl (blk off len cap:Nat) (loose:Bool)
 | nilf
 | fn (f:Nat) (first cap:List AV)
 | nili
 | ifc (t:Nat) (v:AV)
 | agg (cs:List AV)
 | tup (cs:List AV)
 | nilm
 | map (r:Nat)
 | sym (id:Nat)
 | undef
 | fz (n:Nat) (cs:List AV)
 | pf (cs:List AV) (off:Nat)
 | e0
 | own (blk n:Nat)
 | nz
 | yl (blk:Nat)
 | lp (r:Loop)

inductive Blk where
 | cells (esz:Nat) (w a:Bool) (cs:List AV)
 | dead
 | map (es:List (AV×AV))

structure Hp where
 sz:Nat
 fl:Nat
 tr:Tr Blk

inductive O where
 | t (n:Nat)
 | c (v:AV)

inductive PK where
 | b|i|s

inductive NK where
 | ptr|slice|func|iface|map

inductive IOp where
 | mov (x:O)
 | pick (c x y:O)
 | alloc (zero:List AV)
 | box (x:O)
 | build (zero:List AV) (parts:List (Nat×Nat×O))
 | buildS (len:Nat) (zero:List AV) (parts:List (Nat×Nat×O))
 | load1 (x:O)
 | loadN (n:Nat) (x:O)
 | store (n:Nat) (x v:O)
 | nilChk (x:O)
 | bin (op:BinOp) (x y:O)
 | eqB (neg:Bool) (x y:O)
 | eqN (neg:Bool) (q:NK) (x:O)
 | eqA (neg:Bool) (ks:List PK) (x y:O)
 | un (op:UnOp) (x:O)
 | cvInt (k:IntKind) (x:O)
 | cvStr (x:O)
 | s2b (x:O)
 | b2s (x:O)
 | fAddr (off:Nat) (x:O)
 | fld (off:Nat) (n:Option Nat) (x:O)
 | iAddrA (len esz:Nat) (x i:O)
 | iAddrS (esz:Nat) (x i:O)
 | idxA (len esz:Nat) (agg:Bool) (x i:O)
 | idxS (x i:O)
 | slcS (esz:Nat) (x:O) (lo hi mx:Option O)
 | slcStr (x:O) (lo hi:Option O)
 | slcA (len esz:Nat) (x:O) (lo hi mx:Option O)
 | ext (x:O) (i:Nat)
 | mkF (f:Nat) (first cap:List O)
 | mkS (esz bytes:Nat) (zero:List AV) (len cap:O)
 | len (str:Bool) (x:O)
 | app (esz bytes:Nat) (consume:Bool) (s x:O)
 | copy (esz:Nat) (d s:O)
 | max (x y:O)
 | clear (zero:List AV) (x:O)
 | mkM
 | lookM (kd:Option IntKind) (ok:Bool) (zero:AV) (x i:O)
 | updM (kd:Option IntKind) (x i v:O)
 | lenM (x:O)
 | min (x y:O)
 | rangeS (x:O)
 | nextS (x:O)
 | storeD (n:Nat) (x v:O) (ps:List Nat)
 | appF (esz bytes:Nat) (s x:O)
 | appZ (esz bytes:Nat) (zero:List AV) (s x:O)
 | cap (x:O)
 | appD (esz bytes:Nat) (s x:O) (ps:List Nat)
 | cvR (x:O)
 | rngE (x:O)
 | nxtE (x:O)
 | entE (x:O)
 | no

inductive RK where
 | op (o:IOp)
 | callF (f:Nat) (args:List O)
 | callV (x:O) (args:List O)
 | callW (f:Nat) (args:List O)
 | callVW (x:O) (args:List O)

structure ROp where
 dst:Option Nat
 k:RK
 guard:Option (Nat×Bool)

inductive ICode where
 | skip
 | reg (draw:Bool) (ops:List ROp)
 | seq (x y:ICode)
 | cond (c:O) (x y:ICode)
 | blk (id:Nat) (x:ICode)
 | loop (x:ICode)
 | exit (id:Nat)
 | ret
 | no
 | cut (x:ICode)
 | rangeF (j:Nat) (g:O) (ps:List Nat) (x y:ICode)

inductive RV where
 | tmp (n:Nat)
 | cell (n size:Nat) (agg:Bool)

structure IFn where
 res:List RV
 body:ICode

inductive X where
 | normal
 | exit (id:Nat)
 | ret

structure Orc where
 bin:BinOp->AV->AV->Option AV
 len:Nat->Option AV
 cv:IntKind->Nat->Option AV

noncomputable def qd(n:Nat)(k:Nat->Prop):Prop:=Nat.rec (motive:=fun _=>Prop) (k 0) (fun m _=>k (Nat.succ m)) n
noncomputable def qQ(n:Int)(k:Int->Prop):Prop:=Int.rec (motive:=fun _=>Prop) (fun m=>qd m (fun m=>k (.ofNat m))) (fun m=>qd m (fun m=>k (.negSucc m))) n
noncomputable def qn(x:Bool)(k:Bool->Prop):Prop:=Bool.rec (motive:=fun _=>Prop) (k false) (k true) x
@[simp] theorem qg (n:Nat) (k:Nat->Prop):qd n k=k n:=by cases n<;>rfl
@[simp] theorem qB (n:Int) (k:Int->Prop):qQ n k=k n:=by cases n<;>simp[qQ]
@[simp] theorem qj (n:Bool) (k:Bool->Prop):qn n k=k n:=by cases n<;>rfl

noncomputable def wo(l:List AV):Nat->(AV->Prop)->Prop :=
 List.rec (motive:=fun _=>Nat->(AV->Prop)->Prop) (fun _ _=>False) (fun x _ ih n k=>Nat.rec (motive:=fun _=>Prop) (k x) (fun m _=>ih m k) n) l
noncomputable def zN(n:Nat):List AV->(List AV->Prop)->Prop :=
 Nat.rec (motive:=fun _=>List AV->(List AV->Prop)->Prop) (fun _ k=>k []) (fun _ ih l k=>List.rec (motive:=fun _=>Prop) False (fun x xs _=>ih xs (fun ys=>k (x::ys))) l) n
noncomputable def xg(n:Nat):List AV->(List AV->Prop)->Prop :=
 Nat.rec (motive:=fun _=>List AV->(List AV->Prop)->Prop) (fun l k=>k l) (fun _ ih l k=>List.rec (motive:=fun _=>Prop) False (fun _ xs _=>ih xs k) l) n
noncomputable def qjc(vs:List AV):List AV->(List AV->Prop)->Prop :=
 List.rec (motive:=fun _=>List AV->(List AV->Prop)->Prop) (fun l k=>k l) (fun v _ ih l k=>List.rec (motive:=fun _=>Prop) False (fun _ xs _=>ih xs (fun ys=>k (v::ys))) l) vs
noncomputable def zd(vs:List AV)(off:Nat):List AV->(List AV->Prop)->Prop :=
 Nat.rec (motive:=fun _=>List AV->(List AV->Prop)->Prop) (fun l k=>qjc vs l k) (fun _ ih l k=>List.rec (motive:=fun _=>Prop) False (fun x xs _=>ih xs (fun ys=>k (x::ys))) l) off
noncomputable def qbg(as:List AV)(bs:List AV)(k:List AV->Prop):Prop :=
 List.rec (motive:=fun _=>(List AV->Prop)->Prop) (fun k=>k bs) (fun x _ ih k=>ih (fun ys=>k (x::ys))) as k
noncomputable def jZ(l:List AV)(k:Nat->Prop):Prop :=
 List.rec (motive:=fun _=>Nat->(Nat->Prop)->Prop) (fun n k=>k n) (fun _ _ ih n k=>qd (Nat.succ n) (fun m=>ih m k)) l 0 k
noncomputable def qau(z:List AV)(n:Nat)(k:List AV->Prop):Prop :=
 Nat.rec (motive:=fun _=>(List AV->Prop)->Prop) (fun k=>k []) (fun _ ih k=>ih (fun ys=>qbg z ys k)) n k

theorem qX(l:List AV):∀(n:Nat) (k:AV->Prop),wo l n k↔∃v,l[n]?=some v∧k v:=by
 induction l with
 | nil => intro n k;constructor
          ·intro h;exact h.elim
          simp_all
 | cons x xs ih =>
  intro n k;cases n with
  | zero=>simp only[List.getElem?_cons_zero,Option.some.injEq];exact⟨fun h=>⟨x,rfl,h⟩,fun⟨v,h,hk⟩=>h ▸ hk⟩
  | succ n=>simp only[List.getElem?_cons_succ];exact ih n k
theorem qt(n:Nat):∀(l:List AV) (k:List AV->Prop),zN n l k↔n<=l.length∧k (l.take n):=by
 induction n with
 | zero=>intro l k;simp;exact Iff.rfl
 | succ n ih =>
  intro l k;cases l with
  | nil=>simp;exact fun h=>h
  | cons x xs=>simp only[List.length_cons,List.take_succ_cons,Nat.add_le_add_iff_right];exact ih xs (fun ys=>k (x::ys))
theorem qA(n:Nat):∀(l:List AV) (k:List AV->Prop),xg n l k↔n<=l.length∧k (l.drop n):=by
 induction n with
 | zero=>intro l k;simp;exact Iff.rfl
 | succ n ih =>
  intro l k;cases l with
  | nil=>simp;exact fun h=>h
  | cons x xs=>simp only[List.length_cons,List.drop_succ_cons,Nat.add_le_add_iff_right];exact ih xs k
theorem qe1(vs:List AV):∀(l:List AV) (k:List AV->Prop),qjc vs l k↔vs.length<=l.length∧k (vs++l.drop vs.length):=by
 induction vs with
 | nil=>intro l k;simp;exact Iff.rfl
 | cons v vs ih =>
  intro l k;cases l with
  | nil=>simp;exact fun h=>h
  | cons x xs=>simp only[List.length_cons,List.drop_succ_cons,Nat.add_le_add_iff_right,List.cons_append];exact ih xs (fun ys=>k (v::ys))
theorem zi(vs:List AV)(off:Nat):∀(l:List AV) (k:List AV->Prop),
  zd vs off l k↔off+vs.length<=l.length∧k (l.take off++(vs++l.drop (off+vs.length))):=by
 induction off with
 | zero=>intro l k;simp only[Nat.zero_add,List.take_zero,List.nil_append];exact qe1 vs l k
 | succ n ih =>
  intro l k;cases l with
  | nil => simp only[List.length_nil,Nat.le_zero];constructor
           ·intro h;exact h.elim
           omega
  | cons x xs =>
   have e:n+1+vs.length=(n+vs.length)+1:=by omega
   simp only[e,List.length_cons,List.take_succ_cons,List.drop_succ_cons,Nat.add_le_add_iff_right,List.cons_append];exact ih xs (fun ys=>k (x::ys))
theorem zl(as bs:List AV):∀(k:List AV->Prop),qbg as bs k↔k (as++bs):=by
 induction as with
 | nil=>intro k;exact Iff.rfl
 | cons x xs ih=>intro k;exact ih (fun ys=>k (x::ys))
theorem zp(l:List AV)(k:Nat->Prop):jZ l k↔k l.length:=by
 have key:∀(l:List AV) (n:Nat),(List.rec (motive:=fun _=>Nat->(Nat->Prop)->Prop) (fun n k=>k n) (fun _ _ ih n k=>qd (Nat.succ n) (fun m=>ih m k)) l n k:Prop)↔k (l.length+n):=by
  intro l
  induction l with
  | nil=>simp_all
  | cons x xs ih =>
   grind[qg]
 exact key l 0
theorem zC(z:List AV)(n:Nat):∀(k:List AV->Prop),qau z n k↔k (List.replicate n z).flatten:=by
 induction n with
 | zero=>intro k;simp;exact Iff.rfl
 | succ n ih =>
  intro k;have h:=ih (fun ys=>qbg z ys k)
  rw[List.replicate_succ,List.flatten_cons];exact h.trans (zl _ _ _)

def hi:IntKind->Nat
 | .i8=>127 | .i16=>32767 | .i32=>2147483647 | .i64=>9223372036854775807
 | .u8=>255 | .u16=>65535 | .u32=>4294967295 | .u64=>18446744073709551615
noncomputable def qay(k:IntKind)(n:Int):Int :=
 Int.rec (motive:=fun _=>Int) (fun m=>Bool.rec (motive:=fun _=>Int) (k.wrap (.ofNat m)) (.ofNat m) (Nat.ble m (hi k))) (fun m=>k.wrap (.negSucc m)) n
theorem jf(k:IntKind)(n:Int):qay k n=k.wrap n:=by
 cases n with
 | ofNat m =>
  show (Bool.rec (motive:=fun _=>Int) (k.wrap (.ofNat m)) (.ofNat m) (Nat.ble m (hi k)):Int)=_
  cases h:Nat.ble m (hi k) with
  | false=>rfl
  | true =>
   have h':m<=hi k:=by simp_all
   show (Int.ofNat m)=_;cases k<;>simp[hi] at h'<;>simp[IntKind.wrap,IntKind.bits,IntKind.signed]<;>omega
 | negSucc m=>rfl
noncomputable def ltI(x y:Int):Bool :=
 Int.rec (motive:=fun _=>Bool) (fun m=>Int.rec (motive:=fun _=>Bool) (fun n=>Nat.ble (Nat.succ m) n) (fun _=>false) y)
  (fun m=>Int.rec (motive:=fun _=>Bool) (fun _=>true) (fun n=>Nat.ble (Nat.succ n) m) y) x
noncomputable def eqI(x y:Int):Bool :=
 Int.rec (motive:=fun _=>Bool) (fun m=>Int.rec (motive:=fun _=>Bool) (fun n=>Nat.beq m n) (fun _=>false) y)
  (fun m=>Int.rec (motive:=fun _=>Bool) (fun _=>false) (fun n=>Nat.beq m n) y) x
theorem xL(m n:Nat):Nat.ble m n=decide (m<=n):=by
 grind[Nat.le_of_ble_eq_true,Nat.ble_eq_true_of_le]
theorem xn(x y:Int):ltI x y=decide (x<y):=by
 cases x<;>cases y<;>simp[ltI,xL]<;>omega
theorem jE(x y:Int):eqI x y=(x==y):=by
 rw[Bool.eq_iff_iff];cases x<;>cases y<;>simp[eqI]<;>omega
def p2(n:Nat):Int:=Int.ofNat (Nat.pow 2 n)
theorem qd1(n:Nat):p2 n=(2:Int) ^ n:=by
 show ((2 ^ n:Nat):Int)=_;simp

noncomputable def eqS(x:List UInt8):List UInt8->Bool :=
 List.rec (motive:=fun _=>List UInt8->Bool) (fun y=>List.rec (motive:=fun _=>Bool) true (fun _ _ _=>false) y)
  (fun c _ ih y=>List.rec (motive:=fun _=>Bool) false (fun d ds _=>Bool.rec (motive:=fun _=>Bool) false (ih ds) (Nat.beq c.toNat d.toNat)) y) x
theorem zR(x:List UInt8):∀y,eqS x y=(x==y):=by
 induction x with
 | nil=>intro y;cases y<;>rfl
 | cons c cs ih =>
  intro y;cases y with
  | nil=>rfl
  | cons d ds =>
   show (Bool.rec (motive:=fun _=>Bool) false (eqS cs ds) (Nat.beq c.toNat d.toNat):Bool)=_
   rw[ih]
   have:Nat.beq c.toNat d.toNat=(c==d):=by
    rw[Bool.eq_iff_iff];simp[UInt8.toNat_inj]
   rw[this];cases h:(c==d)<;>simp[h]
noncomputable def ltS(x:List UInt8):List UInt8->Bool :=
 List.rec (motive:=fun _=>List UInt8->Bool) (fun y=>List.rec (motive:=fun _=>Bool) false (fun _ _ _=>true) y)
  (fun c _ ih y=>List.rec (motive:=fun _=>Bool) false (fun d ds _=>Bool.rec (motive:=fun _=>Bool) (Bool.rec (motive:=fun _=>Bool) false (ih ds) (Nat.beq c.toNat d.toNat)) true (Nat.ble (Nat.succ c.toNat) d.toNat)) y) x
theorem qaG(x:List UInt8):∀y,ltS x y=Op.bytesLess x y:=by
 induction x with
 | nil=>intro y;cases y<;>rfl
 | cons c cs ih =>
  intro y;cases y with
  | nil=>rfl
  | cons d ds =>
   show (Bool.rec (motive:=fun _=>Bool) (Bool.rec (motive:=fun _=>Bool) false (ltS cs ds) (Nat.beq c.toNat d.toNat)) true (Nat.ble (Nat.succ c.toNat) d.toNat):Bool)=_
   rw[ih,xL]
   have h1:Nat.beq c.toNat d.toNat=(c==d):=by
    rw[Bool.eq_iff_iff];simp[UInt8.toNat_inj]
   have h2:decide (c.toNat.succ<=d.toNat)=decide (c<d):=by
    rw[decide_eq_decide,UInt8.lt_iff_toNat_lt];omega
   rw[h1,h2];simp only[Op.bytesLess];cases decide (c<d)<;>cases (c==d)<;>rfl

noncomputable def zw(h:Hp)(b:Nat)(k:Nat->Bool->Bool->List AV->Prop):Prop :=
 h.tr.getK b (fun x=>Blk.rec (motive:=fun _=>Prop) k False (fun _=>False) x)
noncomputable def qN(h:Hp)(x:Blk)(k:Nat->Hp->Prop):Prop :=
 Hp.rec (motive:=fun _=>Prop) (fun sz fl tr=>tr.setK sz x (fun tr'=>qd (Nat.succ sz) (fun s=>k sz ⟨s,fl,tr'⟩))) h
noncomputable def qY(h:Hp)(b:Nat)(x:Blk)(k:Hp->Prop):Prop :=
 Hp.rec (motive:=fun _=>Prop) (fun sz fl tr=>Bool.rec (motive:=fun _=>Prop) False (tr.setK b x (fun tr'=>k ⟨sz,fl,tr'⟩)) (Nat.ble fl b)) h
noncomputable def ldK(h:Hp)(b off:Nat)(k:AV->Prop):Prop:=zw h b (fun _ _ _ cs=>wo cs off k)
noncomputable def zX(h:Hp)(b off n:Nat)(k:List AV->Prop):Prop:=zw h b (fun _ _ _ cs=>xg off cs (fun l=>zN n l k))
noncomputable def qH(v:AV):Bool:=AV.rec (motive_1:=fun _=>Bool) (motive_2:=fun _=>Bool)
 (fun _=>true) (fun _ _=>true) (fun _=>true) true (fun _ _=>true) true (fun _ _ _ _ _=>true) true (fun _ _ _ _ _=>true) true (fun _ _ _=>true) (fun _ _=>false) (fun _ _=>false) true (fun _=>true) (fun _=>true) false (fun _ _ _=>true) (fun _ _ _=>true) true (fun _ _=>true) true (fun _=>true) (fun _=>false)
 true (fun _ _ h t=>Bool.rec (motive:=fun _=>Bool) false t h) v
noncomputable def qu(l:List AV):Bool:=List.rec (motive:=fun _=>Bool) true (fun v _ ih=>Bool.rec (motive:=fun _=>Bool) false ih (qH v)) l
noncomputable def ldV(h:Hp)(p:AV)(k:AV->Prop):Prop:=match p with | .ptr b o=>ldK h b o k | .pf cs o=>wo cs o k|_=>False
noncomputable def qa4(h:Hp)(p:AV)(n:Nat)(k:List AV->Prop):Prop:=match p with | .ptr b o=>zX h b o n k | .pf cs o=>xg o cs (fun l=>zN n l k)|_=>False
noncomputable def qaK(p:AV)(n:Nat)(k:AV->Prop):Prop:=match p with | .ptr b o=>qd (Nat.add o n) (fun o'=>k (.ptr b o')) | .pf cs o=>qd (Nat.add o n) (fun o'=>k (.pf cs o'))|_=>False
noncomputable def stK(h:Hp)(b off:Nat)(vs:List AV)(k:Hp->Prop):Prop :=
 zw h b (fun e w a cs=>Bool.rec (motive:=fun _=>Prop) False (Bool.rec (motive:=fun _=>Prop) False (zd vs off cs (fun cs'=>qY h b (.cells e w a cs') k)) (qu vs)) w)
def jD:AV->Bool
 | .undef=>false
 | _=>true
def cellsOf:AV->List AV
 | .agg cs=>cs
 | v=>[v]

noncomputable def evK(t:Tr AV)(x:O)(k:AV->Prop):Prop:=O.rec (motive:=fun _=>Prop) (fun n=>t.getK n k) k x
noncomputable def zn(t:Tr AV)(xs:List O)(k:List AV->Prop):Prop :=
 List.rec (motive:=fun _=>(List AV->Prop)->Prop) (fun k=>k []) (fun x _ ih k=>evK t x (fun v=>ih (fun vs=>k (v::vs)))) xs k

noncomputable def unB(v:AV)(k:Bool->Prop):Prop:=match v with | .b x=>k x|_=>False
noncomputable def unI(v:AV)(k:IntKind->Int->Prop):Prop:=match v with | .i q n=>k q n|_=>False
noncomputable def unN(v:AV)(k:Nat->Prop):Prop:=match v with | .i _ n=>Int.rec (motive:=fun _=>Prop) k (fun _=>False) n|_=>False
noncomputable def unP(v:AV)(k:Nat->Nat->Prop):Prop:=match v with | .ptr b o=>k b o|_=>False
noncomputable def qb(x:Bool)(k:Prop):Prop:=Bool.rec (motive:=fun _=>Prop) False k x

noncomputable def qR(op:BinOp)(q:IntKind)(x y:Int)(k:AV->Prop):Prop :=
 match op with
 | .add=>qQ (qay q (Int.add x y)) (fun r=>k (.i q r))
 | .sub=>qQ (qay q (Int.sub x y)) (fun r=>k (.i q r))
 | .mul=>qQ (qay q (Int.mul x y)) (fun r=>k (.i q r))
 | .quo=>Bool.rec (motive:=fun _=>Prop) (qQ (qay q (x.tdiv y)) (fun r=>k (.i q r))) False (eqI y 0)
 | .rem=>Bool.rec (motive:=fun _=>Prop) (qQ (x.tmod y) (fun r=>k (.i q r))) False (eqI y 0)
 | .and=>qQ (q.wrap (BitVec.ofInt q.bits x &&& BitVec.ofInt q.bits y).toNat) (fun r=>k (.i q r))
 | .or=>qQ (q.wrap (BitVec.ofInt q.bits x ||| BitVec.ofInt q.bits y).toNat) (fun r=>k (.i q r))
 | .xor=>qQ (q.wrap (BitVec.ofInt q.bits x ^^^ BitVec.ofInt q.bits y).toNat) (fun r=>k (.i q r))
 | .andNot=>qQ (q.wrap (BitVec.ofInt q.bits x &&& ~~~ (BitVec.ofInt q.bits y)).toNat) (fun r=>k (.i q r))
 | .eql=>qn (eqI x y) (fun r=>k (.b r))
 | .neq=>qn (eqI x y) (fun r=>qn (not r) (fun r=>k (.b r)))
 | .lss=>qn (ltI x y) (fun r=>k (.b r))
 | .leq=>qn (ltI y x) (fun r=>qn (not r) (fun r=>k (.b r)))
 | .gtr=>qn (ltI y x) (fun r=>k (.b r))
 | .geq=>qn (ltI x y) (fun r=>qn (not r) (fun r=>k (.b r)))
 | .shl | .shr=>False
noncomputable def qaN(op:BinOp)(q:IntKind)(x y:Int)(k:AV->Prop):Prop :=
 Int.rec (motive:=fun _=>Prop) (fun m=>qd (min m q.bits) (fun n=>match op with
  | .shl=>qQ (q.wrap (x*p2 n)) (fun r=>k (.i q r))
  | .shr=>qQ (x.fdiv (p2 n)) (fun r=>k (.i q r))
  | _=>False)) (fun _=>False) y
noncomputable def zV(op:BinOp)(x y:List UInt8)(k:AV->Prop):Prop :=
 match op with
 | .add=>Bool.rec (motive:=fun _=>Prop) False (k (.s (x++y))) (Nat.ble (x.length+y.length) 9223372036854775807)
 | .eql=>qn (eqS x y) (fun r=>k (.b r))
 | .neq=>qn (eqS x y) (fun r=>qn (not r) (fun r=>k (.b r)))
 | .lss=>qn (ltS x y) (fun r=>k (.b r))
 | .leq=>qn (ltS x y) (fun r=>qn (eqS x y) (fun e=>qn (or r e) (fun r=>k (.b r))))
 | .gtr=>qn (ltS x y) (fun r=>qn (eqS x y) (fun e=>qn (not (or r e)) (fun r=>k (.b r))))
 | .geq=>qn (ltS x y) (fun r=>qn (not r) (fun r=>k (.b r)))
 | _=>False
noncomputable def wq(r:Option AV)(k:AV->Prop):Prop:=Option.rec (motive:=fun _=>Prop) False k r
noncomputable def qO(orc:Orc)(op:BinOp)(x y:AV)(k:AV->Prop):Prop :=
 match x with
 | .i q n=>(match y with
  | .i q' m=>(match op with
   | .shl=>qaN .shl q n m k
   | .shr=>qaN .shr q n m k
   | op=>qb (decide (q=q')) (qR op q n m k))
  | .sym j=>wq (orc.bin op (.i q n) (.sym j)) k
  | _=>False)
 | .s a=>(match y with
  | .s c=>zV op a c k
  | .sym j=>wq (orc.bin op (.s a) (.sym j)) k
  | _=>False)
 | .sym j=>wq (orc.bin op (.sym j) y) k
 | _=>False
noncomputable def qZ(q:NK)(x:AV)(k:Bool->Prop):Prop :=
 match q with
 | .ptr=>(match x with | .nilp=>k true | .ptr _ _=>k false | .pf _ _=>k false|_=>False)
 | .slice=>(match x with | .nils=>k true | .sl _ _ _ _ _=>k false | .fz n _=>qb (Nat.ble 1 n) (k false) | .own _ n=>qb (Nat.ble 1 n) (k false) | .nz=>k false|_=>False)
 | .func=>(match x with | .nilf=>k true | .fn _ _ _=>k false | .yl _=>k false|_=>False)
 | .iface=>(match x with | .nili=>k true | .ifc _ _=>k false|_=>False)
 | .map=>(match x with | .nilm=>k true | .map _=>k false|_=>False)
noncomputable def zD(q:PK)(x y:AV)(k:Bool->Prop):Prop :=
 match q with
 | .i=>(match x with | .i q n=>(match y with | .i q' m=>qb (decide (q=q')) (qn (eqI n m) k)|_=>False)|_=>False)
 | .s=>(match x with | .s a=>(match y with | .s c=>qn (eqS a c) k|_=>False)|_=>False)
 | .b=>(match x with | .b a=>(match y with | .b c=>qn (a==c) k|_=>False)|_=>False)
noncomputable def zh(qs:List PK):List AV->List AV->(Bool->Prop)->Prop :=
 List.rec (motive:=fun _=>List AV->List AV->(Bool->Prop)->Prop) (fun _ _ k=>k true)
  (fun q _ ih x y k=>List.rec (motive:=fun _=>Prop) False (fun u us _=>List.rec (motive:=fun _=>Prop) False (fun v vs _=>zD q u v (fun e=>Bool.rec (motive:=fun _=>Prop) (k false) (ih us vs k) e)) y) x) qs
noncomputable def xS(op:UnOp)(x:AV)(k:AV->Prop):Prop :=
 match op with
 | .neg=>(match x with | .i q n=>qQ (q.wrap (0-n)) (fun r=>k (.i q r))|_=>False)
 | .xor=>(match x with | .i q n=>qQ (q.wrap (BitVec.ofInt q.bits (if q.signed then -1 else q.max) ^^^ BitVec.ofInt q.bits n).toNat) (fun r=>k (.i q r))|_=>False)
 | .not=>(match x with | .b a=>qn (not a) (fun r=>k (.b r))|_=>False)
 | .plus=>False
noncomputable def zu(t:Tr AV)(ps:List (Nat×Nat×O)):List AV->(List AV->Prop)->Prop :=
 List.rec (motive:=fun _=>List AV->(List AV->Prop)->Prop) (fun l k=>k l)
  (fun p _ ih l k=>evK t p.2.2 (fun v=>qb (jD v) (qd p.1 (fun off=>jZ (cellsOf v) (fun n=>qb (Nat.beq n p.2.1) (zd (cellsOf v) off l (fun l'=>ih l' k))))))) ps
noncomputable def zI(t:Tr AV)(x:Option O)(k:Option AV->Prop):Prop:=Option.rec (motive:=fun _=>Prop) (k none) (fun x=>evK t x (fun v=>k (some v))) x
noncomputable def qai(x:Option AV)(dflt top:Nat)(k:Nat->Prop):Prop :=
 Option.rec (motive:=fun _=>Prop) (k dflt) (fun v=>unN v (fun n=>qb (Nat.ble n top) (qd n k))) x
noncomputable def qF(len cap:Nat)(lo hi mx:Option AV)(k:Nat->Nat->Nat->Prop):Prop :=
 qai mx cap cap (fun m=>Option.rec (motive:=fun _=>Prop) (Option.rec (motive:=fun _=>Prop) (qb (Nat.ble len m) (qai lo 0 len (fun l=>k l len m))) (fun _=>False) mx)
  (fun v=>unN v (fun h=>qb (Nat.ble h m) (qd h (fun h=>qai lo 0 h (fun l=>k l h m))))) hi)
noncomputable def zU(h:Hp)(esz:Nat)(x:AV)(k:Nat->List AV->Prop):Prop :=
 match x with
 | .nils=>k 0 []
 | .sl b o n _ _=>zX h b o (Nat.mul n esz) (fun cs=>k n cs)
 | .fz n cs=>zN (Nat.mul n esz) cs (fun cs=>k n cs)
 | .e0=>k 0 []
 | .nz=>k 0 []
 | .own b n=>zX h b 0 (Nat.mul n esz) (fun cs=>k n cs)
 | .s a=>qb (Nat.beq esz 1) (qd a.length (fun n=>k n (a.map fun c=>.i .u8 (Int.ofNat c.toNat))))
 | _=>False
def qk:Nat:=70368744177664
noncomputable def jv(h:Hp)(esz bytes:Nat)(consume:Bool)(s x:AV)(k:AV->Hp->Prop):Prop :=
 zU h esz x (fun n new=>match s with
  | .nils=>qb (Nat.ble n qk) (qb (Nat.ble (Nat.mul n bytes) qk) (qN h (.cells esz true true new) (fun b h'=>k (.own b n) h')))
  | .e0=>qb (Nat.ble n qk) (qb (Nat.ble (Nat.mul n bytes) qk) (qN h (.cells esz true true new) (fun b h'=>k (.own b n) h')))
  | .sl b o len cap loose=>Bool.rec (motive:=fun _=>Prop) (qd (Nat.add len n) (fun need=>Bool.rec (motive:=fun _=>Prop)
    (qb (Nat.ble need qk) (qb (Nat.ble (Nat.mul need bytes) qk)
     (zX h b o (Nat.mul len esz) (fun old=>qbg old new (fun cs=>qN h (.cells esz true true cs) (fun b' h'=>k (.own b' need) h'))))))
    (Nat.rec (motive:=fun _=>Prop) (k (.sl b o need cap false) h) (fun _ _=>qd (Nat.add o (Nat.mul len esz)) (fun at_=>stK h b at_ new (fun h'=>k (.sl b o need cap false) h'))) n)
    (Nat.ble need cap)))
    (qd (Nat.add len n) (fun need=>qb (Nat.ble need qk) (qb (Nat.ble (Nat.mul need bytes) qk) (qb (and consume (Nat.beq cap len)) (zw h b (fun e w a ys=>qb (qu new) (qb w (qb a (qb (Nat.beq e esz) (jZ ys (fun q=>qb (Nat.beq q (Nat.add o (Nat.mul len esz))) (xg o ys (fun zs=>qbg zs new (fun cs' =>
    qY h b .dead (fun h1=>qN h1 (.cells esz true true cs') (fun b' h'=>k (.own b' need) h')))))))))))))))) loose
  | .fz m cs=>Nat.rec (motive:=fun _=>Prop) (k (.fz m cs) h) (fun _ _=>False) n
  | .own b m=>qd (Nat.add m n) (fun need=>qb (Nat.ble need qk) (qb (Nat.ble (Nat.mul need bytes) qk) (qb consume (zw h b (fun e w a ys=>qb (qu new) (qb w (qb a (qb (Nat.beq e esz) (jZ ys (fun q=>qb (Nat.beq q (Nat.mul m esz)) (qbg ys new (fun cs' =>
    qY h b .dead (fun h1=>qN h1 (.cells esz true true cs') (fun b' h'=>k (.own b' need) h'))))))))))))))
  | _=>False)
noncomputable def qaS(h:Hp)(esz:Nat)(d s:AV)(k:AV->Hp->Prop):Prop :=
 match d with
 | .nils=>zU h esz s (fun _ _=>k (.i .i64 0) h)
 | .sl b o len _ _=>zU h esz s (fun n new=>qd (min n len) (fun m=>zN (Nat.mul m esz) new (fun cs=>stK h b o cs (fun h'=>k (.i .i64 (Int.ofNat m)) h'))))
 | _=>False
noncomputable def qK(cs:List AV)(k:List UInt8->Prop):Prop :=
 List.rec (motive:=fun _=>(List UInt8->Prop)->Prop) (fun k=>k []) (fun v _ ih k=>match v with
  | .i .u8 n=>Int.rec (motive:=fun _=>Prop) (fun m=>ih (fun l=>k (UInt8.ofNat m::l))) (fun _=>False) n
  | _=>False) cs k

noncomputable def qa2(h:Hp)(b esz:Nat)(c:Bool)(p:Prop):Prop:=Bool.rec (motive:=fun _=>Prop) p (zw h b (fun e _ _ _=>qb (Nat.beq e esz) p)) c
noncomputable def cvK(orc:Orc)(q:IntKind)(x:AV)(k:AV->Prop):Prop :=
 match x with
 | .i _ n=>qQ (qay q n) (fun r=>k (.i q r))
 | .sym j=>wq (orc.cv q j) k
 | _=>False
noncomputable def qa3(orc:Orc)(kd:Option IntKind)(i:AV)(p:Prop):Prop :=
 match i with
 | .s _=>(match kd with|none=>p|some _=>False)
 | .i q _=>(match kd with|some q'=>qb (decide (q'=q)) p|none=>False)
 | .sym j=>(match kd with|none=>wq (orc.len j) (fun _=>p)|some _=>False)
 | _=>False
noncomputable def xW(orc:Orc)(x y:AV)(k:Bool->Prop):Prop :=
 match y with
 | .s c=>(match x with | .s a=>qn (eqS a c) k | .sym j=>wq (orc.len j) (fun _=>wq (orc.bin .eql (.sym j) (.s c)) (fun v=>unB v k))|_=>False)
 | .i q n=>(match x with | .i q' m=>qb (decide (q'=q)) (qn (eqI m n) k)|_=>False)
 | _=>False
noncomputable def xp(orc:Orc)(i:AV)(es:List (AV×AV)):(Option AV->Prop)->Prop :=
 List.rec (motive:=fun _=>(Option AV->Prop)->Prop) (fun k=>k none) (fun e _ ih k=>xW orc i e.1 (fun r=>Bool.rec (motive:=fun _=>Prop) (ih k) (k (some e.2)) r)) es
noncomputable def wa(orc:Orc)(i v:AV)(es:List (AV×AV)):(List (AV×AV)->Prop)->Prop :=
 List.rec (motive:=fun _=>(List (AV×AV)->Prop)->Prop) (fun k=>k [(i,v)]) (fun e es' ih k=>xW orc i e.1 (fun r=>Bool.rec (motive:=fun _=>Prop) (ih (fun l=>k (e::l))) (k ((i,v)::es')) r)) es
noncomputable def jm(es:List (AV×AV))(p:Prop):Prop :=
 List.rec (motive:=fun _=>Prop) p (fun e _ _=>match e.1 with | .undef=>False | .lp _=>False|_=>p) es
noncomputable def jn(h:Hp)(b:Nat)(k:List (AV×AV)->Prop):Prop :=
 h.tr.getK b (fun x=>Blk.rec (motive:=fun _=>Prop) (fun _ _ _ _=>False) False (fun es=>jm es (k es)) x)
def zJ(r:Loop)(ts:List (Nat×AV)):List (AV×AV):=(.lp r,.undef)::ts.map fun p=>(.i .i64 (Int.ofNat p.1),p.2)
def zc(a:List UInt8)(n:Nat):List (AV×AV):=[(.undef,.s a),(.undef,.i .i64 (Int.ofNat n))]
noncomputable def qbU(h:Hp)(b:Nat)(k:List UInt8->Nat->Prop):Prop :=
 h.tr.getK b (fun x=>Blk.rec (motive:=fun _=>Prop) (fun _ _ _ _=>False) False (fun es=>match es with
  | [(.undef,.s a),(.undef,.i .i64 (.ofNat n))]=>k a n
  | _=>False) x)
def itM(r s n:Nat):List (AV×AV):=[(.undef,.map r),(.i .i64 (Int.ofNat s),.i .i64 (Int.ofNat n))]
noncomputable def qdv(h:Hp)(b:Nat)(k:Nat->Nat->Nat->Prop):Prop :=
 h.tr.getK b (fun x=>Blk.rec (motive:=fun _=>Prop) (fun _ _ _ _=>False) False (fun es=>match es with
  | [(.undef,.map r),(.i .i64 (.ofNat s),.i .i64 (.ofNat n))]=>k r s n
  | _=>False) x)
noncomputable def qaz(ok:Bool)(zero:AV)(v:Option AV)(k:AV->Prop):Prop :=
 Option.rec (motive:=fun _=>Prop) (Bool.rec (motive:=fun _=>Prop) (k zero) (k (.tup [zero,.b false])) ok) (fun v=>Bool.rec (motive:=fun _=>Prop) (k v) (k (.tup [v,.b true])) ok) v
noncomputable def qgk(es:List (AV×AV))(k:Nat->Prop):Prop :=
 List.rec (motive:=fun _=>Nat->(Nat->Prop)->Prop) (fun n k=>k n) (fun _ _ ih n k=>qd (Nat.succ n) (fun m=>ih m k)) es 0 k
noncomputable def ze(t:Tr AV)(b:Nat)(ps:List Nat)(p:Prop):Prop :=
 List.rec (motive:=fun _=>Prop) p (fun q _ ih=>t.getK q (fun y=>match y with | .ptr b' _=>qb (not (Nat.beq b' b)) ih | .pf _ _=>ih|_=>False)) ps
noncomputable def xc(t:Tr AV)(ps:List Nat)(s:AV)(p:Prop):Prop :=
 match s with | .own b _=>ze t b ps p | .sl b _ _ _ _=>ze t b ps p | .fz _ _=>p | .nils=>p | .e0=>p|_=>False
noncomputable def opK(orc:Orc)(o:IOp)(t:Tr AV)(h:Hp)(k:AV->Hp->Prop):Prop :=
 match o with
 | .mov x=>evK t x (fun v=>k v h)
 | .pick c x y=>evK t c (fun c=>unB c (fun c=>Bool.rec (motive:=fun _=>Prop) (evK t y (fun v=>k v h)) (evK t x (fun v=>k v h)) c))
 | .alloc z=>qN h (.cells 0 true false z) (fun b h'=>k (.ptr b 0) h')
 | .box x=>evK t x (fun v=>qb (jD v) (qN h (.cells 0 true false (cellsOf v)) (fun b h'=>k (.ptr b 0) h')))
 | .build z ps=>zu t ps z (fun cs=>k (.agg cs) h)
 | .buildS n z ps=>qau z n (fun cs=>zu t ps cs (fun cs=>qN h (.cells 0 true false cs) (fun b h'=>k (.sl b 0 n n false) h')))
 | .load1 x=>evK t x (fun p=>ldV h p (fun v=>k v h))
 | .loadN n x=>evK t x (fun p=>qa4 h p n (fun cs=>k (.agg cs) h))
 | .store n x v=>evK t x (fun p=>unP p (fun b o=>evK t v (fun v=>qb (jD v) (jZ (cellsOf v) (fun m=>qb (Nat.beq m n) (stK h b o (cellsOf v) (fun h'=>k .undef h')))))))
 | .nilChk x=>evK t x (fun v=>match v with | .ptr b o=>k (.ptr b o) h | .fn f a c=>k (.fn f a c) h | .map r=>k (.map r) h | .pf cs o=>k (.pf cs o) h | .yl b=>k (.yl b) h|_=>False)
 | .bin op x y=>evK t x (fun x=>evK t y (fun y=>qO orc op x y (fun v=>k v h)))
 | .eqB neg x y=>evK t x (fun x=>evK t y (fun y=>unB x (fun x=>unB y (fun y=>qn (xor neg (x==y)) (fun r=>k (.b r) h)))))
 | .eqN neg q x=>evK t x (fun x=>qZ q x (fun r=>qn (xor neg r) (fun r=>k (.b r) h)))
 | .eqA neg ks x y=>evK t x (fun x=>evK t y (fun y=>match x with | .agg a=>(match y with | .agg c=>zh ks a c (fun r=>qn (xor neg r) (fun r=>k (.b r) h))|_=>False)|_=>False))
 | .un op x=>evK t x (fun x=>xS op x (fun v=>k v h))
 | .cvInt q x=>evK t x (fun x=>cvK orc q x (fun v=>k v h))
 | .cvStr x=>evK t x (fun x=>match x with | .s a=>k (.s a) h|_=>False)
 | .s2b x=>evK t x (fun x=>match x with | .s a=>qd a.length (fun n=>qN h (.cells 1 true true (a.map fun c=>.i .u8 (Int.ofNat c.toNat))) (fun b h'=>k (.own b n) h'))|_=>False)
 | .b2s x=>evK t x (fun x=>match x with
  | .nils=>k (.s []) h
  | .sl b o n _ _=>zX h b o n (fun cs=>qK cs (fun l=>k (.s l) h))
  | .fz n cs=>zN n cs (fun cs=>qK cs (fun l=>k (.s l) h))
  | .e0=>k (.s []) h
  | .own b n=>zX h b 0 n (fun cs=>qK cs (fun l=>k (.s l) h))
  | _=>False)
 | .fAddr off x=>evK t x (fun p=>qaK p off (fun v=>k v h))
 | .fld off n x=>evK t x (fun x=>match x with
  | .agg cs=>Option.rec (motive:=fun _=>Prop) (wo cs off (fun v=>k v h)) (fun n=>xg off cs (fun l=>zN n l (fun l=>k (.agg l) h))) n
  | _=>False)
 | .iAddrA len esz x i=>evK t x (fun p=>evK t i (fun i=>unN i (fun i=>qb (Nat.ble (Nat.succ i) len) (qaK p (Nat.mul i esz) (fun v=>k v h)))))
 | .iAddrS esz x i=>evK t x (fun x=>match x with
  | .sl b o len _ _=>evK t i (fun i=>unN i (fun i=>qb (Nat.ble (Nat.succ i) len) (qd (Nat.add o (Nat.mul i esz)) (fun o'=>k (.ptr b o') h))))
  | .fz len cs=>evK t i (fun i=>unN i (fun i=>qb (Nat.ble (Nat.succ i) len) (qd (Nat.mul i esz) (fun o'=>k (.pf cs o') h))))
  | .own b len=>evK t i (fun i=>unN i (fun i=>qb (Nat.ble (Nat.succ i) len) (qd (Nat.mul i esz) (fun o'=>k (.ptr b o') h))))
  | _=>False)
 | .idxA len esz agg x i=>evK t x (fun x=>match x with
  | .agg cs=>evK t i (fun i=>unN i (fun i=>qb (Nat.ble (Nat.succ i) len) (qd (Nat.mul i esz) (fun o=>Bool.rec (motive:=fun _=>Prop) (wo cs o (fun v=>k v h)) (xg o cs (fun l=>zN esz l (fun l=>k (.agg l) h))) agg))))
  | _=>False)
 | .idxS x i=>evK t x (fun x=>match x with
  | .s a=>evK t i (fun i=>unN i (fun i=>Option.rec (motive:=fun _=>Prop) False (fun c=>k (.i .u8 (Int.ofNat c.toNat)) h) (a[i]?)))
  | _=>False)
 | .slcS esz x lo hi mx=>evK t x (fun x=>zI t lo (fun lo=>zI t hi (fun hi=>zI t mx (fun mx=>match x with
  | .nils=>qF 0 0 lo hi mx (fun _ _ _=>k .nils h)
  | .e0=>qF 0 0 lo hi mx (fun _ _ _=>k .e0 h)
  | .fz n cs=>qF n n lo hi mx (fun l h' m=>Bool.rec (motive:=fun _=>Prop) (xg (Nat.mul l esz) cs (fun l1=>qd (h'-l) (fun len'=>zN (Nat.mul len' esz) l1 (fun l2=>k (.fz len' l2) h)))) (k .e0 h) (and mx.isSome (Nat.beq m l)))
  | .sl b o len cap loose=>qF len cap lo hi mx (fun l h' m=>qd (if (loose&&mx.isNone)=false∧m=l then o else Nat.add o (Nat.mul l esz)) (fun o'=>qd (h'-l) (fun len'=>qd (m-l) (fun cap' =>
    qa2 h b esz (loose&&mx.isNone) (k (.sl b o' len' cap' (loose&&mx.isNone)) h)))))
  | .own b n=>Option.rec (motive:=fun _=>Prop) (Nat.rec (motive:=fun _=>Prop) (qF 0 0 lo hi none (fun _ _ _=>k (.own b 0) h))
    (fun n' _=>qF (Nat.succ n') (Nat.succ n') lo hi none (fun l h' m=>qd (Nat.mul l esz) (fun o'=>qd (h'-l) (fun len'=>qd (m-l) (fun cap'=>qa2 h b esz true (k (.sl b o' len' cap' true) h)))))) n)
    (fun _=>Nat.rec (motive:=fun _=>Prop) (qF 0 0 lo hi mx (fun _ _ _=>k (.own b 0) h))
    (fun n' _=>qF (Nat.succ n') (Nat.succ n') lo hi mx (fun l h' m=>qd (if m=l then 0 else Nat.mul l esz) (fun o'=>qd (h'-l) (fun len'=>qd (m-l) (fun cap'=>k (.sl b o' len' cap' false) h))))) n) mx
  | _=>False))))
 | .slcStr x lo hi=>evK t x (fun x=>zI t lo (fun lo=>zI t hi (fun hi=>match x with
  | .s a=>qF a.length a.length lo hi none (fun l h' _=>k (.s ((a.take h').drop l)) h)
  | _=>False)))
 | .slcA len esz x lo hi mx=>evK t x (fun p=>unP p (fun b o=>zI t lo (fun lo=>zI t hi (fun hi=>zI t mx (fun mx =>
   qF len len lo hi mx (fun l h' m=>qd (if m=l then o else Nat.add o (Nat.mul l esz)) (fun o'=>qd (h'-l) (fun len'=>qd (m-l) (fun cap'=>k (.sl b o' len' cap' false) h))))))))) 
 | .ext x i=>evK t x (fun x=>match x with | .tup cs=>wo cs i (fun v=>k v h)|_=>False)
 | .mkF f a c=>zn t a (fun a=>zn t c (fun c=>k (.fn f a c) h))
 | .mkS _ bytes z len cap=>evK t len (fun len=>evK t cap (fun cap=>unN len (fun l=>unN cap (fun c=>qb (Nat.ble l c) (qb (Nat.ble c qk) (qb (Nat.ble (Nat.mul bytes c) qk) (qau z c (fun cs=>qN h (.cells 0 true false cs) (fun b h'=>k (.sl b 0 l c false) h')))))))))
 | .len str x=>evK t x (fun x=>match x with
  | .nils=>Bool.rec (motive:=fun _=>Prop) (k (.i .i64 0) h) False str
  | .e0=>Bool.rec (motive:=fun _=>Prop) (k (.i .i64 0) h) False str
  | .nz=>Bool.rec (motive:=fun _=>Prop) (k (.i .i64 0) h) False str
  | .fz n _=>Bool.rec (motive:=fun _=>Prop) (k (.i .i64 (Int.ofNat n)) h) False str
  | .own _ n=>Bool.rec (motive:=fun _=>Prop) (k (.i .i64 (Int.ofNat n)) h) False str
  | .sl _ _ n _ _=>Bool.rec (motive:=fun _=>Prop) (k (.i .i64 (Int.ofNat n)) h) False str
  | .s a=>Bool.rec (motive:=fun _=>Prop) False (qd a.length (fun n=>k (.i .i64 (Int.ofNat n)) h)) str
  | .sym j=>Bool.rec (motive:=fun _=>Prop) False (wq (orc.len j) (fun v=>k v h)) str
  | _=>False)
 | .app esz bytes c s x=>evK t s (fun s=>evK t x (fun x=>jv h esz bytes c s x k))
 | .copy esz d s=>evK t d (fun d=>evK t s (fun s=>qaS h esz d s k))
 | .max x y=>evK t x (fun x=>evK t y (fun y=>unI x (fun q n=>unI y (fun _ m=>Bool.rec (motive:=fun _=>Prop) (k (.i q n) h) (k (.i q m) h) (ltI n m)))))
 | .clear z x=>evK t x (fun x=>match x with
  | .nils=>k (.tup []) h
  | .sl b o n _ _=>Nat.rec (motive:=fun _=>Prop) (k (.tup []) h) (fun _ _=>qau z n (fun cs=>stK h b o cs (fun h'=>k (.tup []) h'))) n
  | _=>False)
 | .mkM=>qN h (.map []) (fun b h'=>k (.map b) h')
 | .lookM kd ok zero x i=>evK t x (fun x=>evK t i (fun i=>qa3 orc kd i (match x with
  | .nilm=>qaz ok zero none (fun v=>k v h)
  | .map r=>jn h r (fun es=>xp orc i es (fun v=>qaz ok zero v (fun v=>k v h)))
  | _=>False)))
 | .updM kd x i v=>evK t x (fun x=>evK t i (fun i=>evK t v (fun v=>qa3 orc kd i (match x with
  | .map r=>jn h r (fun es=>wa orc i v es (fun es'=>qY h r (.map es') (fun h'=>k .undef h')))
  | _=>False))))
 | .lenM x=>evK t x (fun x=>match x with
  | .nilm=>k (.i .i64 0) h
  | .map r=>jn h r (fun es=>qgk es (fun n=>k (.i .i64 (Int.ofNat n)) h))
  | _=>False)
 | .min x y=>evK t x (fun x=>evK t y (fun y=>unI x (fun q n=>unI y (fun _ m=>Bool.rec (motive:=fun _=>Prop) (k (.i q n) h) (k (.i q m) h) (ltI m n)))))
 | .rangeS x=>evK t x (fun x=>match x with
  | .s a=>qN h (.map (zc a 0)) (fun b h'=>k (.ptr b 0) h')
  | _=>False)
 | .nextS x=>evK t x (fun x=>unP x (fun b o=>qb (Nat.beq o 0) (qbU h b (fun a n=>match a[n]? with
  | some c=>Bool.rec (motive:=fun _=>Prop)
    (qY h b (.map (zc a (Nat.add n (Utf8.decode ⟨a.toArray⟩ n).2))) (fun h'=>k (.tup [.b true,.i .i64 (Int.ofNat n),.i .i32 (Int.ofNat (Utf8.decode ⟨a.toArray⟩ n).1)]) h'))
    (qd (Nat.succ n) (fun m=>qY h b (.map (zc a m)) (fun h'=>k (.tup [.b true,.i .i64 (Int.ofNat n),.i .i32 (Int.ofNat c.toNat)]) h')))
    (Nat.ble (Nat.succ c.toNat) 128)
  | none=>k (.tup [.b false]) h))))
 | .storeD n x v ps=>evK t x (fun p=>unP p (fun b o=>ze t b ps (evK t v (fun v=>qb (jD v) (jZ (cellsOf v) (fun m=>qb (Nat.beq m n) (stK h b o (cellsOf v) (fun h'=>k .undef h'))))))))
 | .appF esz bytes s x=>evK t s (fun s=>evK t x (fun x=>jv h esz bytes true s x k))
 | .appD esz bytes s x ps=>evK t s (fun s=>evK t x (fun x=>xc t ps s (jv h esz bytes true s x k)))
 | .appZ esz bytes z s x=>evK t s (fun s=>evK t x (fun x=>unN x (fun n=>match s with
  | .sl b o len cap loose=>qb (not loose) (qb (Nat.ble (Nat.succ cap) (Nat.add len n)) (qb (Nat.ble (Nat.add len n) qk) (qb (Nat.ble (Nat.mul (Nat.add len n) bytes) qk)
    (zX h b o (Nat.mul len esz) (fun old=>qau z n (fun new=>qbg old new (fun cs=>qN h (.cells esz true true cs) (fun b' h'=>k (.own b' (Nat.add len n)) h'))))))))
  | .nils=>qb (Nat.ble 1 n) (qb (Nat.ble n qk) (qb (Nat.ble (Nat.mul n bytes) qk) (qau z n (fun new=>qN h (.cells esz true true new) (fun b' h'=>k (.own b' n) h')))))
  | _=>False)))
 | .cap x=>evK t x (fun x=>match x with
  | .nils=>k (.i .i64 0) h
  | .e0=>k (.i .i64 0) h
  | .sl _ _ _ c l=>Bool.rec (motive:=fun _=>Prop) (k (.i .i64 (Int.ofNat c)) h) False l
  | _=>False)
 | .cvR x=>evK t x (fun x=>match x with | .i _ n=>k (.s (Utf8.encode n).data.toList) h|_=>False)
 | .rngE x=>evK t x (fun x=>match x with | .map r=>jn h r (fun es=>match es with | []=>qN h (.map (itM r 0 0)) (fun b h'=>k (.ptr b 0) h') | [_]=>qN h (.map (itM r 1 0)) (fun b h'=>k (.ptr b 0) h')|_=>False)|_=>False)
 | .nxtE x=>evK t x (fun x=>unP x (fun b o=>qb (Nat.beq o 0) (qdv h b (fun r s n=>jn h r (fun es=>match es with | []=>k (.tup [.b false]) h | [(u,v)]=>qb (Nat.beq s 1) (Bool.rec (motive:=fun _=>Prop) (qb (Nat.beq n 1) (k (.tup [.b false]) h)) (qY h b (.map (itM r 1 1)) (fun h'=>k (.tup [.b true,u,v]) h')) (Nat.beq n 0))|_=>False)))))
 | .entE x=>evK t x (fun x=>unP x (fun b o=>qb (Nat.beq o 0) (qdv h b (fun r s n=>jn h r (fun es=>match es with | [(u,v)]=>qb (Nat.beq s 1) (qb (Nat.beq n 1) (k (.tup [u,v]) h))|_=>False)))))
 | .no=>False

noncomputable def zm(t:Tr AV)(d:Option Nat)(v:AV)(k:Tr AV->Prop):Prop:=Option.rec (motive:=fun _=>Prop) (k t) (fun n=>t.setK n v k) d
noncomputable def qcA(l:List AV)(n:Nat)(t:Tr AV)(k:Tr AV->Prop):Prop :=
 List.rec (motive:=fun _=>Nat->Tr AV->(Tr AV->Prop)->Prop) (fun _ t k=>k t) (fun v _ ih n t k=>t.setK n v (fun t'=>qd (Nat.succ n) (fun n'=>ih n' t' k))) l n t k
noncomputable def zM(t:Tr AV)(h:Hp)(rs:List RV)(k:List AV->Prop):Prop :=
 List.rec (motive:=fun _=>(List AV->Prop)->Prop) (fun k=>k []) (fun r _ ih k=>match r with
  | .tmp n=>t.getK n (fun v=>ih (fun vs=>k (v::vs)))
  | .cell n size agg=>t.getK n (fun p=>unP p (fun b o=>Bool.rec (motive:=fun _=>Prop) (ldK h b o (fun v=>ih (fun vs=>k (v::vs)))) (zX h b o size (fun cs=>ih (fun vs=>k (.agg cs::vs)))) agg))) rs k
def zz:List AV->AV
 | [v]=>v
 | vs=>.tup vs
abbrev qw:=Nat->List AV->Hp->(AV->Hp->Prop)->Prop
noncomputable def jI(F:Hp->(AV->Hp->Prop)->Prop)(h:Hp)(k:AV->Hp->Prop):Prop :=
 Hp.rec (motive:=fun _=>Prop) (fun sz fl tr=>F ⟨sz,sz,tr⟩ (fun v h'=>Hp.rec (motive:=fun _=>Prop) (fun sz' _ tr'=>k v ⟨sz',fl,tr'⟩) h')) h
def wr:RK->Bool
 | .op (.store _ _ _) | .op (.app _ _ _ _ _) | .op (.copy _ _ _) | .op (.clear _ _) | .op (.updM _ _ _ _) | .op (.nextS _) | .op (.storeD _ _ _ _) | .op (.appD _ _ _ _ _) | .op (.rngE _) | .op (.nxtE _) | .op (.entE _)=>true
 | .callW _ _ | .callVW _ _=>true
 | _=>false
noncomputable def xj(orc:Orc)(C:qw)(r:RK)(t:Tr AV)(h:Hp)(k:AV->Hp->Prop):Prop :=
 match r with
 | .op o=>opK orc o t h k
 | .callF f args=>zn t args (fun vs=>C (Nat.succ f) vs h k)
 | .callV x args=>evK t x (fun g=>zn t args (fun vs=>match g with | .fn f a c=>C (Nat.succ f) (a++(vs++c)) h k | .yl b=>C 0 (.yl b::vs) h k|_=>False))
 | .callW f args=>zn t args (fun vs=>C (Nat.succ f) vs h k)
 | .callVW x args=>evK t x (fun g=>zn t args (fun vs=>match g with | .fn f a c=>C (Nat.succ f) (a++(vs++c)) h k | .yl b=>C 0 (.yl b::vs) h k|_=>False))
noncomputable def wu(orc:Orc)(draw:Bool)(C:qw)(r:RK)(t:Tr AV)(h:Hp)(k:AV->Hp->Prop):Prop :=
 Bool.rec (motive:=fun _=>Prop) (xj orc C r t h k) (jI (xj orc C r t) h k) (and draw (not (wr r)))
noncomputable def zE(t:Tr AV)(g:Option (Nat×Bool))(k:Bool->Prop):Prop :=
 Option.rec (motive:=fun _=>Prop) (k true) (fun g=>t.getK g.1 (fun v=>match v with
  | .b x=>qn (x==g.2) k
  | .tup _=>k false
  | _=>False)) g
noncomputable def x4(orc:Orc)(draw:Bool)(C:qw)(ops:List ROp)(Q:Tr AV->Hp->Prop):Tr AV->Hp->Prop :=
 List.rec (motive:=fun _=>Tr AV->Hp->Prop) Q (fun r _ rest t h=>ROp.rec (motive:=fun _=>Prop) (fun dst k guard=>zE t guard (fun go=>Bool.rec (motive:=fun _=>Prop)
  (zm t dst (.tup []) (fun t'=>rest t' h)) (wu orc draw C k t h (fun v h'=>zm t dst v (fun t'=>rest t' h'))) go)) r) ops
def tab:Nat->Option (Array Value):=fun k=>if k=1 then some (Lib.pow10Tab.map fun z=>Value.int .u64 z).toArray else none
class TabOk (w:World):Prop where
 ok:∀k a,tab k=some a->∃ty fz,w.heap[k]?=some (.cells a ty fz)
end Go.Kc
end
section

set_option linter.unusedVariables false
namespace Go.Kc

def L1{α:Type}(G:(α->Prop)->Prop):Prop:=∀k,G k->∃x,k x∧∀k',k' x->G k'
def L2{α β:Type}(G:(α->β->Prop)->Prop):Prop:=∀k,G k->∃x y,k x y∧∀k',k' x y->G k'
def L3{α β γ:Type}(G:(α->β->γ->Prop)->Prop):Prop:=∀k,G k->∃x y z,k x y z∧∀k',k' x y z->G k'
def L4{α β γ δ:Type}(G:(α->β->γ->δ->Prop)->Prop):Prop:=∀k,G k->∃x y z u,k x y z u∧∀k',k' x y z u->G k'

section
variable {α β γ δ ε:Type}
theorem L1.ret(x:α):L1 (fun k=>k x):=fun _ h=>by grind
theorem L2.ret(x:α)(y:β):L2 (fun k=>k x y):=fun _ h=>by grind
theorem L3.ret(x:α)(y:β)(z:γ):L3 (fun k=>k x y z):=fun _ h=>by grind
theorem L1.no:L1 (fun (_:α->Prop)=>False):=fun _ h=>h.elim
theorem L2.no:L2 (fun (_:α->β->Prop)=>False):=fun _ h=>h.elim
theorem L3.no:L3 (fun (_:α->β->γ->Prop)=>False):=fun _ h=>h.elim
theorem L4.no:L4 (fun (_:α->β->γ->δ->Prop)=>False):=fun _ h=>h.elim
theorem L1.b1{G:(α->Prop)->Prop}{F:α->(β->Prop)->Prop}(hG:L1 G)(hF:∀x,L1 (F x)):L1 (fun k=>G (fun x=>F x k)):=fun _ h=>by
 obtain⟨x,h1,h2⟩:=hG _ h;obtain⟨y,h3,h4⟩:=hF x _ h1;grind
theorem L1.b2{G:(α->Prop)->Prop}{F:α->(β->γ->Prop)->Prop}(hG:L1 G)(hF:∀x,L2 (F x)):L2 (fun k=>G (fun x=>F x k)):=fun _ h=>by
 obtain⟨x,h1,h2⟩:=hG _ h;obtain⟨y,z,h3,h4⟩:=hF x _ h1;grind
theorem L1.b3{G:(α->Prop)->Prop}{F:α->(β->γ->δ->Prop)->Prop}(hG:L1 G)(hF:∀x,L3 (F x)):L3 (fun k=>G (fun x=>F x k)):=fun _ h=>by
 obtain⟨x,h1,h2⟩:=hG _ h;obtain⟨y,z,u,h3,h4⟩:=hF x _ h1;grind
theorem L2.b1{G:(α->β->Prop)->Prop}{F:α->β->(γ->Prop)->Prop}(hG:L2 G)(hF:∀x y,L1 (F x y)):L1 (fun k=>G (fun x y=>F x y k)):=fun _ h=>by
 obtain⟨x,y,h1,h2⟩:=hG _ h;obtain⟨z,h3,h4⟩:=hF x y _ h1;grind
theorem L2.b2{G:(α->β->Prop)->Prop}{F:α->β->(γ->δ->Prop)->Prop}(hG:L2 G)(hF:∀x y,L2 (F x y)):L2 (fun k=>G (fun x y=>F x y k)):=fun _ h=>by
 obtain⟨x,y,h1,h2⟩:=hG _ h;obtain⟨z,u,h3,h4⟩:=hF x y _ h1;grind
theorem L3.b2{G:(α->β->ε->Prop)->Prop}{F:α->β->ε->(γ->δ->Prop)->Prop}(hG:L3 G)(hF:∀x y e,L2 (F x y e)):L2 (fun k=>G (fun x y e=>F x y e k)):=fun _ h=>by
 obtain⟨x,y,e,h1,h2⟩:=hG _ h;obtain⟨z,u,h3,h4⟩:=hF x y e _ h1;grind
theorem L4.b1{ζ:Type}{G:(α->β->γ->δ->Prop)->Prop}{F:α->β->γ->δ->(ζ->Prop)->Prop}(hG:L4 G)(hF:∀x y z u,L1 (F x y z u)):L1 (fun k=>G (fun x y z u=>F x y z u k)):=fun _ h=>by
 obtain⟨x,y,z,u,h1,h2⟩:=hG _ h;obtain⟨v,h3,h4⟩:=hF x y z u _ h1;grind
theorem L4.b2{ζ η:Type}{G:(α->β->γ->δ->Prop)->Prop}{F:α->β->γ->δ->(ζ->η->Prop)->Prop}(hG:L4 G)(hF:∀x y z u,L2 (F x y z u)):L2 (fun k=>G (fun x y z u=>F x y z u k)):=fun _ h=>by
 obtain⟨x,y,z,u,h1,h2⟩:=hG _ h;obtain⟨v,v',h3,h4⟩:=hF x y z u _ h1;grind
theorem L1.wh(x:Bool){F:(α->Prop)->Prop}(hF:L1 F):L1 (fun k=>qb x (F k)):=by
 cases x
 ·exact L1.no
 ·exact hF
theorem L2.wh(x:Bool){F:(α->β->Prop)->Prop}(hF:L2 F):L2 (fun k=>qb x (F k)):=by
 cases x
 ·exact L2.no
 ·exact hF
theorem L3.wh{α β γ:Type}(x:Bool){F:(α->β->γ->Prop)->Prop}(hF:L3 F):L3 (fun k=>qb x (F k)):=by
 cases x
 ·exact L3.no
 ·exact hF
theorem L2.br(x:Bool){F G:(α->β->Prop)->Prop}(hF:L2 F)(hG:L2 G):L2 (fun k=>Bool.rec (motive:=fun _=>Prop) (F k) (G k) x):=by
 cases x<;>simp_all
theorem L1.br(x:Bool){F G:(α->Prop)->Prop}(hF:L1 F)(hG:L1 G):L1 (fun k=>Bool.rec (motive:=fun _=>Prop) (F k) (G k) x):=by
 cases x<;>simp_all
end

theorem qp(n:Nat):L1 (qd n):=fun k h=>by grind[qg]
theorem qap(n:Int):L1 (qQ n):=fun k h=>by grind[qB]
theorem qG(n:Bool):L1 (qn n):=fun k h=>by grind[qj]
theorem qbo{α:Type}(t:Tr α)(n:Nat):L1 (t.getK n):=fun k h=>by
 grind[Tr.getK_iff]
theorem qco{α:Type}(t:Tr α)(n:Nat)(x:α):L1 (t.setK n x):=fun k h=>by grind[Tr.setK_iff]
theorem wp(l:List AV)(n:Nat):L1 (wo l n):=fun k h=>by
 grind[qX]
theorem xw(n:Nat)(l:List AV):L1 (zN n l):=fun k h=>by
 grind[qt]
theorem jj(n:Nat)(l:List AV):L1 (xg n l):=fun k h=>by
 grind[qA]
theorem qb5(vs:List AV)(n:Nat)(l:List AV):L1 (zd vs n l):=fun k h=>by
 grind[zi]
theorem qb8(as bs:List AV):L1 (qbg as bs):=fun k h=>by grind[zl]
theorem qbv(l:List AV):L1 (jZ l):=fun k h=>by grind[zp]
theorem wt(z:List AV)(n:Nat):L1 (qau z n):=fun k h=>by grind[zC]
theorem x7(h:Hp)(b:Nat):L4 (zw h b):=fun k hk=>by
 obtain⟨v,h1,h2⟩:=qbo _ _ _ hk;cases v with
 | cells e w a cs=>exact⟨e,w,a,cs,h1,fun k' hk'=>h2 _ hk'⟩
 | dead=>simp_all
 | map=>simp_all
theorem zL(h:Hp)(x:Blk):L2 (qN h x):=fun k hk=>by
 cases h with
 | mk sz fl tr => 
  obtain⟨t',h1,h2⟩:=qco tr sz x _ hk;obtain⟨m,h3,h4⟩:=qp _ _ h1;exact⟨_,_,h3,fun k' hk'=>h2 _ (h4 _ hk')⟩
theorem xJ(h:Hp)(b:Nat)(x:Blk):L1 (qY h b x):=by
 cases h with
 | mk sz fl tr=>exact L1.br _ L1.no (L1.b1 (qco tr b x) fun t'=>L1.ret _)
theorem qi9(h:Hp)(b off:Nat):L1 (ldK h b off):=L4.b1 (x7 h b) (by grind[wp])
theorem wn(h:Hp)(b off n:Nat):L1 (zX h b off n):=L4.b1 (x7 h b) fun _ _ _ cs=>L1.b1 (jj off cs) fun l=>xw n l
theorem qc9(h:Hp)(b off:Nat)(vs:List AV):L1 (stK h b off vs) :=
 L4.b1 (x7 h b) fun e w a cs=>L1.br _ L1.no (L1.br _ L1.no (L1.b1 (qb5 vs off cs) (by grind[xJ])))
theorem qf(t:Tr AV)(x:O):L1 (evK t x):=by
 cases x
 ·exact qbo _ _
 ·exact L1.ret _
theorem jF(t:Tr AV):∀xs,L1 (zn t xs)
 | []=>L1.ret _
 | x::xs=>by
  show L1 (fun k=>evK t x (fun v=>zn t xs (fun vs=>k (v::vs))))
  exact L1.b1 (qf t x) fun v=>L1.b1 (jF t xs) fun vs=>L1.ret _
theorem qaw(v:AV):L1 (unB v):=by cases v<;>first|exact L1.no|exact L1.ret _
theorem qa1(v:AV):L2 (unI v):=by cases v<;>first|exact L2.no|exact L2.ret _ _
theorem je(v:AV):L1 (unN v):=by
 cases v<;>try exact L1.no
 rename_i q n;cases n
 ·exact L1.ret _
 ·exact L1.no
theorem qbI(v:AV):L2 (unP v):=by cases v<;>first|exact L2.no|exact L2.ret _ _
theorem xY(t:Tr AV)(x:Option O):L1 (zI t x):=by
 cases x
 ·exact L1.ret _
 ·rename_i x;show L1 (fun k=>evK t x (fun v=>k (some v)))
  simp_all[L1.b1,qf,L1.ret]
theorem jH(r:Option AV):L1 (wq r):=by
 cases r
 ·exact L1.no
 ·exact L1.ret _
theorem qdj(x:Option AV)(d top:Nat):L1 (qai x d top):=by
 cases x
 ·exact L1.ret _
 ·rename_i v;show L1 (fun k=>unN v (fun n=>qb (Nat.ble n top) (qd n k)))
  exact L1.b1 (je _) fun n=>L1.wh _ (qp n)
theorem zO(len cap:Nat)(lo hi mx:Option AV):L3 (qF len cap lo hi mx):=by
 refine L1.b3 (qdj mx cap cap) fun m=>?_
 cases hi with
 | none =>
  cases mx with
  | none =>
   simp_all[L3.wh,L1.b3,qdj,L3.ret]
  | some _=>exact L3.no
 | some v =>
  refine L1.b3 (je v) fun h=>?_
  simp_all[L3.wh,L1.b3,qdj,L3.ret]
theorem jK(h:Hp)(esz:Nat)(x:AV):L2 (zU h esz x):=by
 unfold zU;cases x<;>dsimp only<;>try exact L2.no
 all_goals simp_all[L2.wh,L1.b2,L2.ret,wn,xw]
theorem qab:∀cs,L1 (qK cs)
 | []=>L1.ret _
 | v::cs=>by
  cases v<;>try exact L1.no
  rename_i q n;cases q<;>try exact L1.no
  cases n
  ·rename_i m;show L1 (fun k=>qK cs (fun l=>k (UInt8.ofNat m::l)))
   exact L1.b1 (qab cs) fun l=>L1.ret _
  ·exact L1.no
theorem qan(t:Tr AV):∀ps l,L1 (zu t ps l)
 | [],l=>L1.ret l
 | p::ps,l=>by
  show L1 (fun k=>evK t p.2.2 (fun v=>qb (jD v) (qd p.1 (fun off=>jZ (cellsOf v) (fun n=>qb (Nat.beq n p.2.1) (zd (cellsOf v) off l (fun l'=>zu t ps l' k)))))))
  exact L1.b1 (qf t p.2.2) fun v=>L1.wh _ (L1.b1 (qp p.1) fun off=>L1.b1 (qbv _) fun n=>L1.wh _ (L1.b1 (qb5 _ _ _) fun l'=>qan t ps l'))
theorem qeE(op:BinOp)(q:IntKind)(x y:Int):L1 (qR op q x y):=by
 unfold qR;cases op<;>dsimp only<;>first|exact L1.no|exact L1.b1 (qap _) fun r=>L1.ret _|exact L1.b1 (qG _) fun r=>L1.b1 (qG _) fun r=>L1.ret _|exact L1.b1 (qG _) fun r=>L1.ret _|exact L1.br _ (L1.b1 (qap _) fun r=>L1.ret _) L1.no
theorem qg5(op:BinOp)(q:IntKind)(x y:Int):L1 (qaN op q x y):=by
 cases y with
 | negSucc=>exact L1.no
 | ofNat m =>
  unfold qaN;refine L1.b1 (by grind[qp]) fun n=>?_
  cases op<;>dsimp only<;>first|exact L1.no|exact L1.b1 (qap _) fun r=>L1.ret _
theorem qfa(op:BinOp)(x y:List UInt8):L1 (zV op x y):=by
 unfold zV;cases op<;>dsimp only<;>first|exact L1.no|exact L1.br _ L1.no (L1.ret _)|exact L1.b1 (qG _) fun r=>L1.b1 (qG _) fun r=>L1.b1 (qG _) fun r=>L1.ret _|exact L1.b1 (qG _) fun r=>L1.b1 (qG _) fun r=>L1.ret _|exact L1.b1 (qG _) fun r=>L1.ret _
theorem qi4(orc:Orc)(q:IntKind)(x:AV):L1 (cvK orc q x):=by
 unfold cvK;cases x<;>dsimp only<;>try exact L1.no
 all_goals simp_all[L1.ret,jH]
theorem qfr(orc:Orc)(op:BinOp)(x y:AV):L1 (qO orc op x y):=by
 unfold qO;cases x<;>dsimp only<;>try exact L1.no
 ·cases y<;>dsimp only<;>try exact L1.no
  ·cases op<;>dsimp only<;>first|exact qg5 _ _ _ _|exact L1.wh _ (qeE _ _ _ _)
  ·exact jH _
 ·cases y<;>dsimp only<;>try exact L1.no
  ·exact qfa _ _ _
  ·exact jH _
 grind[jH]
theorem qcY(q:NK)(x:AV):L1 (qZ q x):=by unfold qZ;cases q<;>cases x<;>dsimp only<;>first|exact L1.no|exact L1.ret _|exact L1.wh _ (L1.ret _)
theorem qel(q:PK)(x y:AV):L1 (zD q x y):=by
 unfold zD;cases q<;>cases x<;>dsimp only<;>first|exact L1.no|(cases y<;>dsimp only<;>first|exact L1.no|exact L1.wh _ (qG _)|exact qG _)
theorem qbh:∀qs xs ys,L1 (zh qs xs ys)
 | [],_,_=>L1.ret _
 | q::qs,[],_=>L1.no
 | q::qs,_::_,[]=>L1.no
 | q::qs,x::xs,y::ys=>by
  show L1 (fun k=>zD q x y (fun e=>Bool.rec (motive:=fun _=>Prop) (k false) (zh qs xs ys k) e))
  exact L1.b1 (qel q x y) fun e=>L1.br e (L1.ret _) (qbh qs xs ys)
theorem qd8(op:UnOp)(x:AV):L1 (xS op x):=by
 unfold xS;cases op<;>cases x<;>dsimp only<;>first|exact L1.no|exact L1.b1 (qap _) fun r=>L1.ret _|simp_all[L1.ret]
theorem qdh(h:Hp)(esz bytes:Nat)(c:Bool)(s x:AV):L2 (jv h esz bytes c s x):=by
 unfold jv;refine L2.b2 (jK h esz x) fun n new=>?_
 cases s<;>dsimp only<;>try exact L2.no
 ·exact L2.wh _ (L2.wh _ (L2.b2 (zL _ _) fun b h'=>L2.ret _ _))
 ·rename_i b o len cap loose
  refine L2.br _ (L1.b2 (qp _) fun need=>L2.br _ (L2.wh _ (L2.wh _ (L1.b2 (wn _ _ _ _) fun old=>L1.b2 (qb8 _ _) fun cs=>L2.b2 (zL _ _) fun b' h'=>L2.ret _ _))) ?_)
   (L1.b2 (qp _) fun need=>L2.wh _ (L2.wh _ (L2.wh _ (L4.b2 (x7 _ _) fun e w a ys=>L2.wh _ (L2.wh _ (L2.wh _ (L2.wh _ (L1.b2 (qbv _) fun q=>L2.wh _ (L1.b2 (jj _ _) fun zs=>L1.b2 (qb8 _ _) fun cs'=>L1.b2 (xJ _ _ _) fun h1=>L2.b2 (zL _ _) fun b' h'=>L2.ret _ _)))))))))
  cases n
  ·exact L2.ret _ _
  simp_all[L1.b2,qc9,L2.ret]
 ·cases n
  ·exact L2.ret _ _
  ·exact L2.no
 ·exact L2.wh _ (L2.wh _ (L2.b2 (zL _ _) fun b h'=>L2.ret _ _))
 ·exact L1.b2 (qp _) fun need=>L2.wh _ (L2.wh _ (L2.wh _ (L4.b2 (x7 _ _) fun e w a ys=>L2.wh _ (L2.wh _ (L2.wh _ (L2.wh _ (L1.b2 (qbv _) fun q=>L2.wh _ (L1.b2 (qb8 _ _) fun cs'=>L1.b2 (xJ _ _ _) fun h1=>L2.b2 (zL _ _) fun b' h'=>L2.ret _ _))))))))
theorem qmf(h:Hp)(p:AV):L1 (ldV h p):=by
 unfold ldV;cases p<;>dsimp only<;>first|exact L1.no|exact qi9 _ _ _|grind[wp]
theorem qkh(h:Hp)(p:AV)(n:Nat):L1 (qa4 h p n):=by
 unfold qa4;cases p<;>dsimp only<;>first|exact L1.no|exact wn _ _ _ _|simp_all[L1.b1,jj,xw]
theorem qck(p:AV)(n:Nat):L1 (qaK p n):=by
 unfold qaK;cases p<;>dsimp only<;>first|exact L1.no|exact L1.b1 (qp _) fun o=>L1.ret _
theorem qhO(h:Hp)(esz:Nat)(d s:AV):L2 (qaS h esz d s):=by
 unfold qaS;cases d<;>dsimp only<;>try exact L2.no
 ·simp_all[L2.b2,jK,L2.ret]
 ·exact L2.b2 (jK _ _ _) fun _ _=>L1.b2 (qp _) fun m=>L1.b2 (xw _ _) fun cs=>L1.b2 (qc9 _ _ _ _) fun h'=>L2.ret _ _
theorem qfR(h:Hp)(b esz:Nat)(c:Bool)(v:AV)(h':Hp):L2 (fun k:AV->Hp->Prop=>qa2 h b esz c (k v h')):=by
 cases c
 ·exact L2.ret _ _
 ·exact L4.b2 (x7 h b) fun e _ _ _=>L2.wh _ (L2.ret _ _)

theorem qcy(t:Tr AV)(b:Nat)(ps:List Nat){G:(AV->Hp->Prop)->Prop}(hG:L2 G):L2 (fun k=>ze t b ps (G k)):=by
 induction ps with
 | nil=>exact hG
 | cons q ps ih =>
  show L2 (fun k=>evK t (.t q) (fun y=>match y with | .ptr b' _=>qb (not (Nat.beq b' b)) (ze t b ps (G k)) | .pf _ _=>ze t b ps (G k)|_=>False))
  exact L1.b2 (qf t (.t q)) fun y=>by cases y<;>dsimp only<;>first|exact L2.no|exact L2.wh _ ih|exact ih
theorem qg2(t:Tr AV)(ps:List Nat)(s:AV){G:(AV->Hp->Prop)->Prop}(hG:L2 G):L2 (fun k=>xc t ps s (G k)):=by
 unfold xc;cases s<;>dsimp only<;>first|exact L2.no|exact hG|exact qcy _ _ _ hG
theorem qgg(orc:Orc)(kd:Option IntKind)(i:AV){G:(AV->Hp->Prop)->Prop}(hG:L2 G):L2 (fun k=>qa3 orc kd i (G k)):=by
 unfold qa3;cases i<;>dsimp only<;>try exact L2.no
 ·cases kd<;>dsimp only
  all_goals simp_all[L2.no,L2.wh]
 ·cases kd<;>dsimp only
  all_goals simp_all[L2.no]
 ·cases kd<;>dsimp only
  all_goals simp_all[L1.b2,jH,L2.no]
theorem qcZ(orc:Orc)(x y:AV):L1 (xW orc x y):=by
 unfold xW;cases y<;>dsimp only<;>try exact L1.no
 ·cases x<;>dsimp only<;>try exact L1.no
  exact L1.wh _ (qG _)
 ·cases x<;>dsimp only<;>try exact L1.no
  ·exact qG _
  simp_all[L1.b1,jH,qaw]
theorem qdS(orc:Orc)(i:AV):∀es,L1 (xp orc i es)
 | []=>L1.ret _
 | e::es=>by
  show L1 (fun k=>xW orc i e.1 (fun r=>Bool.rec (motive:=fun _=>Prop) (xp orc i es k) (k (some e.2)) r))
  exact L1.b1 (qcZ orc i e.1) fun r=>L1.br r (qdS orc i es) (L1.ret _)
theorem qha(orc:Orc)(i v:AV):∀es,L1 (wa orc i v es)
 | []=>L1.ret _
 | e::es=>by
  show L1 (fun k=>xW orc i e.1 (fun r=>Bool.rec (motive:=fun _=>Prop) (wa orc i v es (fun l=>k (e::l))) (k ((i,v)::es)) r))
  exact L1.b1 (qcZ orc i e.1) fun r=>L1.br r (L1.b1 (qha orc i v es) fun l=>L1.ret _) (L1.ret _)
theorem qbq{es:List (AV×AV)}{p:Prop}:jm es p↔(∀e,es.head?=some e->e.1≠.undef∧∀r,e.1≠.lp r)∧p:=by
 unfold jm;cases es<;>grind
theorem qaH(h:Hp)(b:Nat):L1 (jn h b):=by
 unfold jn;refine fun k hk=>?_
 obtain⟨x,h1,h2⟩:=(Tr.getK_iff _ _ _).1 hk;cases x<;>grind[qbq,Tr.getK_iff]
theorem jT{h:Hp}{b:Nat}{k:List UInt8->Nat->Prop}:qbU h b k↔∃a n,h.tr.get b=some (.map (zc a n))∧k a n:=by
 unfold qbU;rw[Tr.getK_iff];constructor
 ·rintro⟨x,h1,h2⟩;cases x with
  | cells=>simp_all
  | dead=>simp_all
  | map es =>
   dsimp only at h2;split at h2
   ·exact⟨_,_,h1,h2⟩
   simp_all
 ·rintro⟨a,n,h1,h2⟩;exact⟨_,h1,h2⟩
theorem qil(h:Hp)(b:Nat):L2 (qbU h b):=fun k hk=>by
 obtain⟨a,n,h1,h2⟩:=jT.1 hk;exact⟨a,n,h2,fun k' hk'=>jT.2 ⟨a,n,h1,hk'⟩⟩
theorem qaq{h:Hp}{b:Nat}{k:Nat->Nat->Nat->Prop}:qdv h b k↔∃r s n,h.tr.get b=some (.map (itM r s n))∧k r s n:=by
 unfold qdv;rw[Tr.getK_iff];constructor
 ·rintro⟨x,h1,h2⟩;cases x with
  | cells=>exact h2.elim
  | dead=>exact h2.elim
  | map es =>
   dsimp only at h2;split at h2
   ·exact⟨_,_,_,h1,h2⟩
   ·exact h2.elim
 ·rintro⟨r,s,n,h1,h2⟩;exact⟨_,h1,h2⟩
theorem qgf{β γ:Type}(h:Hp)(b:Nat){F:Nat->Nat->Nat->(β->γ->Prop)->Prop}(hF:∀r s n,L2 (F r s n)):L2 (fun k=>qdv h b (fun r s n=>F r s n k)):=fun k hk=>by
 obtain⟨r,s,n,h1,h2⟩:=qaq.1 hk;obtain⟨x,y,g1,g2⟩:=hF r s n k h2;exact⟨x,y,g1,fun k' hk'=>qaq.2 ⟨r,s,n,h1,g2 k' hk'⟩⟩
theorem qfl(ok:Bool)(zero:AV)(v:Option AV):L1 (qaz ok zero v):=by
 unfold qaz;cases v<;>cases ok<;>exact L1.ret _
theorem qbV(l:List (AV×AV))(k:Nat->Prop):qgk l k↔k l.length:=by
 have key:∀(l:List (AV×AV)) (n:Nat),(List.rec (motive:=fun _=>Nat->(Nat->Prop)->Prop) (fun n k=>k n) (fun _ _ ih n k=>qd (Nat.succ n) (fun m=>ih m k)) l n k:Prop)↔k (l.length+n):=by
  intro l
  induction l with
  | nil=>simp_all
  | cons x xs ih =>
   grind[qg]
 exact key l 0
theorem qio(es:List (AV×AV)):L1 (qgk es):=fun k h=>by grind[qbV]
theorem qmp(orc:Orc)(o:IOp)(t:Tr AV)(h:Hp):L2 (opK orc o t h):=by
 unfold opK;cases o<;>dsimp only
 case mov x=>exact L1.b2 (qf t x) fun v=>L2.ret _ _
 case pick c x y=>exact L1.b2 (qf t c) fun c=>L1.b2 (qaw c) fun c=>L2.br _ (L1.b2 (qf t y) fun v=>L2.ret _ _) (L1.b2 (qf t x) fun v=>L2.ret _ _)
 case alloc z=>exact L2.b2 (zL _ _) fun b h'=>L2.ret _ _
 case box x=>exact L1.b2 (qf t x) fun v=>L2.wh _ (L2.b2 (zL _ _) fun b h'=>L2.ret _ _)
 case build z ps=>exact L1.b2 (qan t ps z) fun cs=>L2.ret _ _
 case buildS n z ps=>exact L1.b2 (wt z n) fun cs=>L1.b2 (qan t ps cs) fun cs=>L2.b2 (zL _ _) fun b h'=>L2.ret _ _
 case load1 x=>exact L1.b2 (qf t x) fun p=>L1.b2 (qmf _ _) fun v=>L2.ret _ _
 case loadN n x=>exact L1.b2 (qf t x) fun p=>L1.b2 (qkh _ _ _) fun v=>L2.ret _ _
 case store n x v=>exact L1.b2 (qf t x) fun p=>L2.b2 (qbI p) fun b o=>L1.b2 (qf t v) fun v=>L2.wh _ (L1.b2 (qbv _) fun m=>L2.wh _ (L1.b2 (qc9 _ _ _ _) fun h'=>L2.ret _ _))
 case nilChk x=>exact L1.b2 (qf t x) fun v=>by cases v<;>dsimp only<;>first|exact L2.no|exact L2.ret _ _
 case bin op x y=>exact L1.b2 (qf t x) fun x=>L1.b2 (qf t y) fun y=>L1.b2 (qfr orc op x y) fun v=>L2.ret _ _
 case eqB neg x y=>exact L1.b2 (qf t x) fun x=>L1.b2 (qf t y) fun y=>L1.b2 (qaw x) fun x=>L1.b2 (qaw y) fun y=>L1.b2 (qG _) fun r=>L2.ret _ _
 case eqN neg q x=>exact L1.b2 (qf t x) fun x=>L1.b2 (qcY q x) fun r=>L1.b2 (qG _) fun r=>L2.ret _ _
 case eqA neg qs x y =>
  refine L1.b2 (qf t x) fun x=>L1.b2 (qf t y) fun y=>?_
  cases x<;>dsimp only<;>try exact L2.no
  cases y<;>dsimp only<;>try exact L2.no
  exact L1.b2 (qbh _ _ _) fun r=>L1.b2 (qG _) fun r=>L2.ret _ _
 case un op x=>exact L1.b2 (qf t x) fun x=>L1.b2 (qd8 op x) fun v=>L2.ret _ _
 case cvInt q x=>exact L1.b2 (qf t x) fun x=>L1.b2 (qi4 orc q x) fun r=>L2.ret _ _
 case cvStr x=>exact L1.b2 (qf t x) fun x=>by cases x<;>dsimp only<;>first|exact L2.no|exact L2.ret _ _
 case s2b x=>exact L1.b2 (qf t x) fun x=>by cases x<;>dsimp only<;>first|exact L2.no|exact L1.b2 (qp _) fun n=>L2.b2 (zL _ _) fun b h'=>L2.ret _ _
 case b2s x=>exact L1.b2 (qf t x) fun x=>by cases x<;>dsimp only<;>first|exact L2.no|exact L2.ret _ _|exact L1.b2 (wn _ _ _ _) fun cs=>L1.b2 (qab cs) fun l=>L2.ret _ _|exact L1.b2 (xw _ _) fun cs=>L1.b2 (qab cs) fun l=>L2.ret _ _
 case fAddr off x=>exact L1.b2 (qf t x) fun p=>L1.b2 (qck _ _) fun v=>L2.ret _ _
 case fld off n x =>
  refine L1.b2 (qf t x) fun x=>?_
  cases x<;>dsimp only<;>try exact L2.no
  cases n
  ·exact L1.b2 (wp _ _) fun v=>L2.ret _ _
  ·exact L1.b2 (jj _ _) fun l=>L1.b2 (xw _ _) fun l=>L2.ret _ _
 case iAddrA len esz x i=>exact L1.b2 (qf t x) fun p=>L1.b2 (qf t i) fun i=>L1.b2 (je i) fun i=>L2.wh _ (L1.b2 (qck _ _) fun v=>L2.ret _ _)
 case iAddrS esz x i =>
  refine L1.b2 (qf t x) fun x=>?_
  cases x<;>dsimp only<;>try exact L2.no
  all_goals exact L1.b2 (qf t i) fun i=>L1.b2 (je i) fun i=>L2.wh _ (L1.b2 (qp _) fun o'=>L2.ret _ _)
 case idxA len esz agg x i =>
  refine L1.b2 (qf t x) fun x=>?_
  cases x<;>dsimp only<;>try exact L2.no
  exact L1.b2 (qf t i) fun i=>L1.b2 (je i) fun i=>L2.wh _ (L1.b2 (qp _) fun o=>L2.br _ (L1.b2 (wp _ _) fun v=>L2.ret _ _) (L1.b2 (jj _ _) fun l=>L1.b2 (xw _ _) fun l=>L2.ret _ _))
 case idxS x i =>
  refine L1.b2 (qf t x) fun x=>?_
  cases x<;>dsimp only<;>try exact L2.no
  rename_i s;refine L1.b2 (qf t i) fun i=>L1.b2 (je i) fun i=>?_
  cases s[i]?
  ·exact L2.no
  ·exact L2.ret _ _
 case slcS esz x lo hi mx =>
  refine L1.b2 (qf t x) fun x=>L1.b2 (xY t lo) fun lo=>L1.b2 (xY t hi) fun hi=>L1.b2 (xY t mx) fun mx=>?_
  cases x<;>dsimp only<;>try exact L2.no
  ·exact L3.b2 (zO _ _ _ _ _) fun _ _ _=>L2.ret _ _
  ·exact L3.b2 (zO _ _ _ _ _) fun l h' m=>L1.b2 (qp _) fun o'=>L1.b2 (qp _) fun len'=>L1.b2 (qp _) fun cap'=>qfR _ _ _ _ _ _
  ·exact L3.b2 (zO _ _ _ _ _) fun l h' m=>L2.br _ (L1.b2 (jj _ _) fun l1=>L1.b2 (qp _) fun len'=>L1.b2 (xw _ _) fun l2=>L2.ret _ _) (L2.ret _ _)
  ·exact L3.b2 (zO _ _ _ _ _) fun _ _ _=>L2.ret _ _
  ·rename_i b n;cases mx with
   | some _ =>
    cases n with
    | zero=>exact L3.b2 (zO _ _ _ _ _) fun _ _ _=>L2.ret _ _
    | succ n=>exact L3.b2 (zO _ _ _ _ _) fun l h' m=>L1.b2 (qp _) fun o'=>L1.b2 (qp _) fun len'=>L1.b2 (qp _) fun cap'=>L2.ret _ _
   | none =>
    cases n with
    | zero=>exact L3.b2 (zO _ _ _ _ _) fun _ _ _=>L2.ret _ _
    | succ n=>exact L3.b2 (zO _ _ _ _ _) fun l h' m=>L1.b2 (qp _) fun o'=>L1.b2 (qp _) fun len'=>L1.b2 (qp _) fun cap'=>qfR _ _ _ _ _ _
 case slcStr x lo hi =>
  refine L1.b2 (qf t x) fun x=>L1.b2 (xY t lo) fun lo=>L1.b2 (xY t hi) fun hi=>?_
  cases x<;>dsimp only<;>try exact L2.no
  exact L3.b2 (zO _ _ _ _ _) fun _ _ _=>L2.ret _ _
 case slcA len esz x lo hi mx =>
  exact L1.b2 (qf t x) fun p=>L2.b2 (qbI p) fun b o=>L1.b2 (xY t lo) fun lo=>L1.b2 (xY t hi) fun hi=>L1.b2 (xY t mx) fun mx =>
   L3.b2 (zO _ _ _ _ _) fun l h' m=>L1.b2 (qp _) fun o'=>L1.b2 (qp _) fun len'=>L1.b2 (qp _) fun cap'=>L2.ret _ _
 case ext x i =>
  refine L1.b2 (qf t x) fun x=>?_
  cases x<;>dsimp only<;>try exact L2.no
  exact L1.b2 (wp _ _) fun v=>L2.ret _ _
 case mkF f a c=>exact L1.b2 (jF t a) fun a=>L1.b2 (jF t c) fun c=>L2.ret _ _
 case mkS esz bytes z len cap=>exact L1.b2 (qf t len) fun len=>L1.b2 (qf t cap) fun cap=>L1.b2 (je len) fun l=>L1.b2 (je cap) fun c=>L2.wh _ (L2.wh _ (L2.wh _ (L1.b2 (wt z c) fun cs=>L2.b2 (zL _ _) fun b h'=>L2.ret _ _)))
 case len str x =>
  refine L1.b2 (qf t x) fun x=>?_
  cases x<;>dsimp only<;>try exact L2.no
  ·exact L2.br _ L2.no (L1.b2 (qp _) fun n=>L2.ret _ _)
  ·exact L2.br _ (L2.ret _ _) L2.no
  ·exact L2.br _ (L2.ret _ _) L2.no
  ·exact L2.br _ L2.no (L1.b2 (jH _) fun v=>L2.ret _ _)
  ·exact L2.br _ (L2.ret _ _) L2.no
  ·exact L2.br _ (L2.ret _ _) L2.no
  ·exact L2.br _ (L2.ret _ _) L2.no
  ·exact L2.br _ (L2.ret _ _) L2.no
 case app esz bytes c s x=>exact L1.b2 (qf t s) fun s=>L1.b2 (qf t x) (by grind[qdh])
 case copy esz d s=>exact L1.b2 (qf t d) fun d=>L1.b2 (qf t s) (by grind[qhO])
 case max x y=>exact L1.b2 (qf t x) fun x=>L1.b2 (qf t y) fun y=>L2.b2 (qa1 x) fun q n=>L2.b2 (qa1 y) fun _ m=>L2.br _ (L2.ret _ _) (L2.ret _ _)
 case clear z x =>
  refine L1.b2 (qf t x) fun x=>?_
  cases x<;>dsimp only<;>try exact L2.no
  ·exact L2.ret _ _
  ·rename_i b o n _ _;cases n
   ·exact L2.ret _ _
   ·rename_i n;show L2 (fun k=>qau z (n+1) (fun cs=>stK h b o cs (fun h'=>k (AV.tup []) h')))
    exact L1.b2 (wt z (n+1)) fun cs=>L1.b2 (qc9 _ _ _ _) fun h'=>L2.ret _ _
 case mkM=>exact L2.b2 (zL _ _) fun b h'=>L2.ret _ _
 case lookM kd ok z x i =>
  refine L1.b2 (qf t x) fun x=>L1.b2 (qf t i) fun i=>qgg orc kd i ?_
  cases x<;>dsimp only<;>try exact L2.no
  ·exact L1.b2 (qfl _ _ _) fun v=>L2.ret _ _
  ·exact L1.b2 (qaH _ _) fun es=>L1.b2 (qdS _ _ _) fun v=>L1.b2 (qfl _ _ _) fun v=>L2.ret _ _
 case updM kd x i v =>
  refine L1.b2 (qf t x) fun x=>L1.b2 (qf t i) fun i=>L1.b2 (qf t v) fun v=>qgg orc kd i ?_
  cases x<;>dsimp only<;>try exact L2.no
  exact L1.b2 (qaH _ _) fun es=>L1.b2 (qha _ _ _ _) fun es'=>L1.b2 (xJ _ _ _) fun h'=>L2.ret _ _
 case lenM x =>
  refine L1.b2 (qf t x) fun x=>?_
  cases x<;>dsimp only<;>try exact L2.no
  ·exact L2.ret _ _
  ·exact L1.b2 (qaH _ _) fun es=>L1.b2 (qio _) fun n=>L2.ret _ _
 case min x y=>exact L1.b2 (qf t x) fun x=>L1.b2 (qf t y) fun y=>L2.b2 (qa1 x) fun q n=>L2.b2 (qa1 y) fun _ m=>L2.br _ (L2.ret _ _) (L2.ret _ _)
 case cap x =>
  refine L1.b2 (qf t x) fun x=>?_
  cases x<;>dsimp only<;>try exact L2.no
  ·exact L2.ret _ _
  ·exact L2.br _ (L2.ret _ _) L2.no
  ·exact L2.ret _ _
 case rangeS x =>
  refine L1.b2 (qf t x) fun x=>?_
  cases x<;>dsimp only<;>try exact L2.no
  exact L2.b2 (zL _ _) fun b h'=>L2.ret _ _
 case cvR x=>exact L1.b2 (qf t x) fun x=>by cases x<;>dsimp only<;>first|exact L2.no|exact L2.ret _ _
 case rngE x =>
  refine L1.b2 (qf t x) fun x=>?_
  cases x<;>dsimp only<;>try exact L2.no
  refine L1.b2 (qaH _ _) fun es=>?_
  split<;>first|exact L2.no|exact L2.b2 (zL _ _) fun b h'=>L2.ret _ _
 case nxtE x =>
  refine L1.b2 (qf t x) fun x=>L2.b2 (qbI x) fun b o=>L2.wh _ (qgf _ _ fun r s n=>L1.b2 (qaH _ _) fun es=>?_)
  split<;>first|exact L2.no|exact L2.ret _ _|exact L2.wh _ (L2.br _ (L2.wh _ (L2.ret _ _)) (L1.b2 (xJ _ _ _) fun h'=>L2.ret _ _))
 case entE x =>
  refine L1.b2 (qf t x) fun x=>L2.b2 (qbI x) fun b o=>L2.wh _ (qgf _ _ fun r s n=>L1.b2 (qaH _ _) fun es=>?_)
  split<;>first|exact L2.no|exact L2.wh _ (L2.wh _ (L2.ret _ _))
 case nextS x =>
  refine L1.b2 (qf t x) fun x=>L2.b2 (qbI x) fun b o=>L2.wh _ (L2.b2 (qil _ _) fun a n=>?_)
  cases a[n]?<;>dsimp only
  ·exact L2.ret _ _
  ·exact L2.br _ (L1.b2 (xJ _ _ _) fun h'=>L2.ret _ _) (L1.b2 (qp _) fun m=>L1.b2 (xJ _ _ _) fun h'=>L2.ret _ _)
 case storeD n x v ps=>exact L1.b2 (qf t x) fun p=>L2.b2 (qbI p) fun b o=>qcy _ _ _ (L1.b2 (qf t v) fun v=>L2.wh _ (L1.b2 (qbv _) fun m=>L2.wh _ (L1.b2 (qc9 _ _ _ _) fun h'=>L2.ret _ _)))
 case appD esz bytes s x ps=>exact L1.b2 (qf t s) fun s=>L1.b2 (qf t x) fun x=>qg2 _ _ _ (qdh _ _ _ _ _ _)
 case appZ esz bytes z s x =>
  refine L1.b2 (qf t s) fun s=>L1.b2 (qf t x) fun x=>L1.b2 (je x) fun n=>?_
  cases s<;>dsimp only<;>try exact L2.no
  ·exact L2.wh _ (L2.wh _ (L2.wh _ (L1.b2 (wt z n) fun new=>L2.b2 (zL _ _) fun b h'=>L2.ret _ _)))
  rename_i b o len cap loose;exact L2.wh _ (L2.wh _ (L2.wh _ (L2.wh _ (L1.b2 (wn _ _ _ _) fun old=>L1.b2 (wt z n) fun new=>L1.b2 (qb8 old new) fun cs=>L2.b2 (zL _ _) fun b h'=>L2.ret _ _))))
 all_goals simp_all[L1.b2,qf,qdh,L2.no]

def LC(C:qw):Prop:=∀f vs h,L2 (C f vs h)
theorem qdK:∀l n t,L1 (qcA l n t)
 | [],_,t=>L1.ret t
 | v::l,n,t=>by
  show L1 (fun k=>t.setK n v (fun t'=>qd (Nat.succ n) (fun n'=>qcA l n' t' k)))
  exact L1.b1 (qco t n v) fun t'=>L1.b1 (qp _) fun n'=>qdK l n' t'
theorem qbC(t:Tr AV)(h:Hp):∀rs,L1 (zM t h rs)
 | []=>L1.ret _
 | .tmp n::rs=>by
  show L1 (fun k=>t.getK n (fun v=>zM t h rs (fun vs=>k (v::vs))))
  exact L1.b1 (qbo t n) fun v=>L1.b1 (qbC t h rs) fun vs=>L1.ret _
 | .cell n size agg::rs=>by
  show L1 (fun k=>t.getK n (fun p=>unP p (fun b o=>Bool.rec (motive:=fun _=>Prop) (ldK h b o (fun v=>zM t h rs (fun vs=>k (v::vs)))) (zX h b o size (fun cs=>zM t h rs (fun vs=>k (.agg cs::vs)))) agg)))
  exact L1.b1 (qbo t n) fun p=>L2.b1 (qbI p) fun b o=>L1.br _ (L1.b1 (qi9 _ _ _) fun v=>L1.b1 (qbC t h rs) fun vs=>L1.ret _) (L1.b1 (wn _ _ _ _) fun cs=>L1.b1 (qbC t h rs) fun vs=>L1.ret _)
theorem qgW{F:Hp->(AV->Hp->Prop)->Prop}(hF:∀h,L2 (F h))(h:Hp):L2 (jI F h):=by
 cases h with
 | mk sz fl tr =>
  intro k hk;obtain⟨v,h',h1,h2⟩:=hF ⟨sz,sz,tr⟩ _ hk;cases h' with
  | mk sz' fl' tr'=>exact⟨v,⟨sz',fl,tr'⟩,h1,fun k' hk'=>h2 (fun v h'=>Hp.rec (motive:=fun _=>Prop) (fun sz' _ tr'=>k' v ⟨sz',fl,tr'⟩) h') hk'⟩
theorem qd4(orc:Orc){C:qw}(hi:LC C)(r:RK)(t:Tr AV)(h:Hp):L2 (xj orc C r t h):=by
 cases r with
 | op o=>exact qmp orc o t h
 | callF f args=>exact L1.b2 (jF t args) fun vs=>hi (Nat.succ f) vs h
 | callV x args =>
  refine L1.b2 (qf t x) fun g=>L1.b2 (jF t args) fun vs=>?_
  cases g<;>first|exact L2.no|exact hi _ _ _
 | callW f args=>exact L1.b2 (jF t args) fun vs=>hi (Nat.succ f) vs h
 | callVW x args =>
  refine L1.b2 (qf t x) fun g=>L1.b2 (jF t args) fun vs=>?_
  cases g<;>first|exact L2.no|exact hi _ _ _
theorem qg0(orc:Orc)(draw:Bool){C:qw}(hi:LC C)(r:RK)(t:Tr AV)(h:Hp):L2 (wu orc draw C r t h) :=
 L2.br _ (by grind[qd4]) (by grind[qgW,qd4])
theorem qcS(t:Tr AV)(g:Option (Nat×Bool)):L1 (zE t g):=by
 cases g with
 | none=>exact L1.ret _
 | some g =>
  show L1 (fun k=>t.getK g.1 (fun v=>match v with
   | .b x=>qn (x==g.2) k
   | .tup _=>k false
   | _=>False))
  refine L1.b1 (qbo t g.1) fun v=>?_
  cases v<;>dsimp only<;>first|exact L1.no|exact qG _|exact L1.ret _
theorem qcb(t:Tr AV)(d:Option Nat)(v:AV):L1 (zm t d v):=by
 cases d
 ·exact L1.ret _
 ·exact qco _ _ _
theorem jJ(orc:Orc)(draw:Bool){C:qw}(hi:LC C):∀(ops:List ROp) (t:Tr AV) (h:Hp),L2 (fun Q=>x4 orc draw C ops Q t h)
 | [],t,h=>L2.ret t h
 | ⟨dst,k,g⟩::ops,t,h=>by
  refine L1.b2 (qcS t g) fun go=>L2.br go (L1.b2 (qcb t dst _) fun t'=>jJ orc draw hi ops t' h) (L2.b2 (qg0 orc draw hi k t h) fun v h'=>L1.b2 (qcb t dst v) fun t'=>jJ orc draw hi ops t' h')

structure Loc where
 blk:Nat
 off:Nat
 size:Nat
 esz:Nat
structure Fz where
 φ:Nat->Option (Array Value)
 ok:∀k a,tab k=some a->φ k=some a
instance:Coe Fz (Nat->Option (Array Value)):=⟨Fz.φ⟩
instance:CoeFun Fz (fun _=>Nat->Option (Array Value)):=⟨Fz.φ⟩
structure Ren where
 loc:Nat->Option Loc
 frz:Fz
 n:Nat
instance:CoeFun Ren (fun _=>Nat->Option Loc):=⟨Ren.loc⟩
def Ren.le(ρ ρ':Ren):Prop:=(∀b L,ρ b=some L->ρ' b=some L)∧(∀k a,ρ.frz k=some a->ρ'.frz k=some a)∧ρ.n<=ρ'.n
theorem Ren.le_trans{a b c:Ren}(h:a.le b)(h':b.le c):a.le c:=⟨fun x L hx=>h'.1 x L (h.1 x L hx),fun k y hk=>h'.2.1 k y (h.2.1 k y hk),Nat.le_trans h.2.2 h'.2.2⟩

mutual
inductive CR (σ:Nat->Value) (φ:Nat->Option (Array Value)):AV->Value->Prop where
 | undef (v:Value):CR σ φ .undef v
 | b (x:Bool):CR σ φ (.b x) (.bool x)
 | i (k:IntKind) (n:Int):CR σ φ (.i k n) (.int k n)
 | s (x:List UInt8):CR σ φ (.s x) (.string ⟨x.toArray⟩)
 | nilp:CR σ φ .nilp (.pointer none)
 | nils:CR σ φ .nils (.slice none 0 0)
 | nilf:CR σ φ .nilf .nilFunc
 | fn (f:Nat) (first cap:List AV) (first' cap':Array Value) (h1:CRs σ φ first first'.toList) (h2:CRs σ φ cap cap'.toList):CR σ φ (.fn f first cap) (.func (.func f) first' cap')
 | nili:CR σ φ .nili .nilIface
 | ifc (t:Nat) (v:AV) (v':Value) (h:CR σ φ v v'):CR σ φ (.ifc t v) (.iface t v')
 | agg (cs:List AV) (cs':Array Value) (h:CRs σ φ cs cs'.toList):CR σ φ (.agg cs) (.agg cs')
 | tup (cs:List AV) (cs':Array Value) (h:CRs σ φ cs cs'.toList):CR σ φ (.tup cs) (.tuple cs')
 | nilm:CR σ φ .nilm (.map none)
 | sym (j:Nat):CR σ φ (.sym j) (σ j)
 | fz (n off c:Nat) (cs:List AV) (k:Nat) (arr:Array Value) (hn:n<=c) (h:φ k=some arr) (hs:CRs σ φ cs ((arr.toList.drop off).take cs.length)):CR σ φ (.fz n cs) (.slice (some ⟨k,off,none⟩) n c)
 | fz0 (a:Option Addr):CR σ φ (.fz 0 []) (.slice a 0 0)
 | pf (off base:Nat) (cs:List AV) (k:Nat) (arr:Array Value) (h:φ k=some arr) (hs:CRs σ φ cs ((arr.toList.drop base).take cs.length)):CR σ φ (.pf cs off) (.pointer (some ⟨k,base+off,none⟩))
 | e0 (a:Option Addr):CR σ φ .e0 (.slice a 0 0)
 | nz (a:Addr) (c:Nat):CR σ φ .nz (.slice (some a) 0 c)
inductive CRs (σ:Nat->Value) (φ:Nat->Option (Array Value)):List AV->List Value->Prop where
 | nil:CRs σ φ [] []
 | cons (v:AV) (vs:List AV) (v':Value) (vs':List Value) (h:CR σ φ v v') (hs:CRs σ φ vs vs'):CRs σ φ (v::vs) (v'::vs')
end
mutual
theorem CR.mono{σ:Nat->Value}{φ φ':Nat->Option (Array Value)}(hφ:∀k a,φ k=some a->φ' k=some a):∀{a:AV} {v:Value},CR σ φ a v->CR σ φ' a v
 | _,_,.undef v=>.undef v
 | _,_,.b x=>.b x
 | _,_,.i k n=>.i k n
 | _,_,.s x=>.s x
 | _,_,.nilp=>.nilp
 | _,_,.nils=>.nils
 | _,_,.nilf=>.nilf
 | _,_,.fn f first cap first' cap' h1 h2=>.fn f first cap first' cap' (h1.mono hφ) (h2.mono hφ)
 | _,_,.nili=>.nili
 | _,_,.ifc t v v' h=>.ifc t v v' (h.mono hφ)
 | _,_,.agg cs cs' h=>.agg cs cs' (h.mono hφ)
 | _,_,.tup cs cs' h=>.tup cs cs' (h.mono hφ)
 | _,_,.nilm=>.nilm
 | _,_,.sym j=>.sym j
 | _,_,.fz n off c cs k arr hn h hs=>.fz n off c cs k arr hn (hφ k arr h) (hs.mono hφ)
 | _,_,.fz0 a=>.fz0 a
 | _,_,.pf off base cs k arr h hs=>.pf off base cs k arr (hφ k arr h) (hs.mono hφ)
 | _,_,.e0 a=>.e0 a
 | _,_,.nz a c=>.nz a c
theorem CRs.mono{σ:Nat->Value}{φ φ':Nat->Option (Array Value)}(hφ:∀k a,φ k=some a->φ' k=some a):∀{a:List AV} {v:List Value},CRs σ φ a v->CRs σ φ' a v
 | _,_,.nil=>.nil
 | _,_,.cons v vs v' vs' h hs=>.cons v vs v' vs' (h.mono hφ) (hs.mono hφ)
end
theorem CRs.length{σ:Nat->Value}{φ:Nat->Option (Array Value)}{as:List AV}{vs:List Value}(h:CRs σ φ as vs):as.length=vs.length:=by
 induction as generalizing vs with
 | nil=>cases h;rfl
 | cons a as ih=>cases h<;>grind

mutual
inductive VR (σ:Nat->Value) (ρ:Ren):AV->Value->Prop where
 | undef (v:Value):VR σ ρ .undef v
 | b (x:Bool):VR σ ρ (.b x) (.bool x)
 | i (k:IntKind) (n:Int):VR σ ρ (.i k n) (.int k n)
 | s (x:List UInt8):VR σ ρ (.s x) (.string ⟨x.toArray⟩)
 | nilp:VR σ ρ .nilp (.pointer none)
 | ptr (b o:Nat) (L:Loc) (h:ρ b=some L):VR σ ρ (.ptr b o) (.pointer (some ⟨L.blk,L.off+o,none⟩))
 | nils:VR σ ρ .nils (.slice none 0 0)
 | sl (b o len cap c:Nat) (loose:Bool) (L:Loc) (h:ρ b=some L)
   (hc:c=cap∨(loose=true∧cap<=c∧L.off+o+c*L.esz<=L.size)):VR σ ρ (.sl b o len cap loose) (.slice (some ⟨L.blk,L.off+o,none⟩) len c)
 | slz (b o x:Nat) (l:Bool) (L:Loc) (h:ρ b=some L):VR σ ρ (.sl b o 0 0 l) (.slice (some ⟨L.blk,x,none⟩) 0 0)
 | nilf:VR σ ρ .nilf .nilFunc
 | fn (f:Nat) (first cap:List AV) (first' cap':Array Value) (h1:VRs σ ρ first first'.toList) (h2:VRs σ ρ cap cap'.toList):VR σ ρ (.fn f first cap) (.func (.func f) first' cap')
 | nili:VR σ ρ .nili .nilIface
 | ifc (t:Nat) (v:AV) (v':Value) (h:VR σ ρ v v'):VR σ ρ (.ifc t v) (.iface t v')
 | agg (cs:List AV) (cs':Array Value) (h:VRs σ ρ cs cs'.toList):VR σ ρ (.agg cs) (.agg cs')
 | tup (cs:List AV) (cs':Array Value) (h:VRs σ ρ cs cs'.toList):VR σ ρ (.tup cs) (.tuple cs')
 | nilm:VR σ ρ .nilm (.map none)
 | map (b:Nat) (L:Loc) (h:ρ b=some L) (h0:L.off=0):VR σ ρ (.map b) (.map (some L.blk))
 | sym (j:Nat):VR σ ρ (.sym j) (σ j)
 | fz (n off c:Nat) (cs:List AV) (k:Nat) (arr:Array Value) (hn:n<=c) (h:ρ.frz k=some arr) (hs:CRs σ ρ.frz cs ((arr.toList.drop off).take cs.length)):VR σ ρ (.fz n cs) (.slice (some ⟨k,off,none⟩) n c)
 | fz0 (a:Option Addr):VR σ ρ (.fz 0 []) (.slice a 0 0)
 | pf (off base:Nat) (cs:List AV) (k:Nat) (arr:Array Value) (h:ρ.frz k=some arr) (hs:CRs σ ρ.frz cs ((arr.toList.drop base).take cs.length)):VR σ ρ (.pf cs off) (.pointer (some ⟨k,base+off,none⟩))
 | e0 (a:Option Addr):VR σ ρ .e0 (.slice a 0 0)
 | nz (a:Addr) (c:Nat):VR σ ρ .nz (.slice (some a) 0 c)
 | own0 (b:Nat) (a:Option Addr) (hb:b<ρ.n):VR σ ρ (.own b 0) (.slice a 0 0)
 | own (b n c:Nat) (L:Loc) (h:ρ b=some L) (hn:n<=c) (hc:L.off+c*L.esz<=L.size):VR σ ρ (.own b n) (.slice (some ⟨L.blk,L.off,none⟩) n c)
 | yl (b:Nat) (L:Loc) (h:ρ b=some L):VR σ ρ (.yl b) (.func (.yield L.blk) #[] #[])
inductive VRs (σ:Nat->Value) (ρ:Ren):List AV->List Value->Prop where
 | nil:VRs σ ρ [] []
 | cons (v:AV) (vs:List AV) (v':Value) (vs':List Value) (h:VR σ ρ v v') (hs:VRs σ ρ vs vs'):VRs σ ρ (v::vs) (v'::vs')
end

variable {σ:Nat->Value} {ρ ρ':Ren}

mutual
theorem VR.mono(hρ:ρ.le ρ'):∀{a:AV} {v:Value},VR σ ρ a v->VR σ ρ' a v
 | _,_,.undef v=>.undef v
 | _,_,.b x=>.b x
 | _,_,.i k n=>.i k n
 | _,_,.s x=>.s x
 | _,_,.nilp=>.nilp
 | _,_,.ptr b o L h=>.ptr b o L (hρ.1 b L h)
 | _,_,.nils=>.nils
 | _,_,.sl b o len cap c loose L h hc=>.sl b o len cap c loose L (hρ.1 b L h) hc
 | _,_,.slz b o x l L h=>.slz b o x l L (hρ.1 b L h)
 | _,_,.nilf=>.nilf
 | _,_,.fn f first cap first' cap' h1 h2=>.fn f first cap first' cap' (h1.mono hρ) (h2.mono hρ)
 | _,_,.nili=>.nili
 | _,_,.ifc t v v' h=>.ifc t v v' (h.mono hρ)
 | _,_,.agg cs cs' h=>.agg cs cs' (h.mono hρ)
 | _,_,.tup cs cs' h=>.tup cs cs' (h.mono hρ)
 | _,_,.nilm=>.nilm
 | _,_,.map b L h h0=>.map b L (hρ.1 b L h) h0
 | _,_,.sym j=>.sym j
 | _,_,.fz n off c cs k arr hn h hs=>.fz n off c cs k arr hn (hρ.2.1 k arr h) (hs.mono hρ.2.1)
 | _,_,.fz0 a=>.fz0 a
 | _,_,.pf off base cs k arr h hs=>.pf off base cs k arr (hρ.2.1 k arr h) (hs.mono hρ.2.1)
 | _,_,.e0 a=>.e0 a
 | _,_,.nz a c=>.nz a c
 | _,_,.own0 b a hb=>.own0 b a (Nat.lt_of_lt_of_le hb hρ.2.2)
 | _,_,.own b n c L h hn hc=>.own b n c L (hρ.1 b L h) hn hc
 | _,_,.yl b L h=>.yl b L (hρ.1 b L h)
theorem VRs.mono(hρ:ρ.le ρ'):∀{a:List AV} {v:List Value},VRs σ ρ a v->VRs σ ρ' a v
 | _,_,.nil=>.nil
 | _,_,.cons v vs v' vs' h hs=>.cons v vs v' vs' (h.mono hρ) (hs.mono hρ)
end

theorem VRs.length{as:List AV}{vs:List Value}(h:VRs σ ρ as vs):as.length=vs.length:=by
 induction as generalizing vs with
 | nil=>cases h;rfl
 | cons a as ih=>cases h<;>grind
theorem VRs.get{as:List AV}{vs:List Value}(h:VRs σ ρ as vs){j:Nat}{a:AV}(ha:as[j]?=some a):∃v,vs[j]?=some v∧VR σ ρ a v:=by
 induction as generalizing vs j with
 | nil=>grind
 | cons x xs ih =>
  cases h<;>grind
theorem VRs.of_get{as:List AV}{vs:List Value}(hl:as.length=vs.length)(h:∀(j:Nat) a,as[j]?=some a->∃v,vs[j]?=some v∧VR σ ρ a v):VRs σ ρ as vs:=by
 induction as generalizing vs with
 | nil => cases vs with
          | nil=>exact .nil
          | cons=>grind
 | cons x xs ih =>
  cases vs with
  | nil=>grind
  | cons v vs =>
   obtain⟨v',hv,hr⟩:=h 0 x rfl;simp at hv;subst hv;exact .cons _ _ _ _ hr (ih (by simp_all) fun j a ha=>by simpa using h (j+1) a (by simp_all))
theorem VRs.append{as bs:List AV}{vs us:List Value}(h:VRs σ ρ as vs)(h':VRs σ ρ bs us):VRs σ ρ (as++bs) (vs++us):=by
 induction as generalizing vs with
 | nil=>cases h;exact h'
 | cons a as ih=>cases h with|cons _ _ _ _ h hs=>exact .cons _ _ _ _ h (ih hs)
theorem VRs.take{as:List AV}{vs:List Value}(h:VRs σ ρ as vs)(n:Nat):VRs σ ρ (as.take n) (vs.take n):=by
 induction as generalizing vs n with
 | nil=>cases h;simp;exact .nil
 | cons a as ih => cases h with | cons _ _ _ _ h hs => cases n with
                                                       | zero=>grind
                                                       | succ n=>exact .cons _ _ _ _ h (ih hs n)
theorem VRs.drop{as:List AV}{vs:List Value}(h:VRs σ ρ as vs)(n:Nat):VRs σ ρ (as.drop n) (vs.drop n):=by
 induction as generalizing vs n with
 | nil=>cases h;simp;exact .nil
 | cons a as ih => cases h with | cons _ _ _ _ h hs => cases n with
                                                       | zero=>exact .cons _ _ _ _ h hs
                                                       | succ n=>simp_all

mutual
theorem CR.vr:∀{a:AV} {v:Value},CR σ ρ.frz a v->VR σ ρ a v
 | _,_,.undef v=>.undef v
 | _,_,.b x=>.b x
 | _,_,.i k n=>.i k n
 | _,_,.s x=>.s x
 | _,_,.nilp=>.nilp
 | _,_,.nils=>.nils
 | _,_,.nilf=>.nilf
 | _,_,.fn f first cap first' cap' h1 h2=>.fn f first cap first' cap' h1.vr h2.vr
 | _,_,.nili=>.nili
 | _,_,.ifc t v v' h=>.ifc t v v' h.vr
 | _,_,.agg cs cs' h=>.agg cs cs' h.vr
 | _,_,.tup cs cs' h=>.tup cs cs' h.vr
 | _,_,.nilm=>.nilm
 | _,_,.sym j=>.sym j
 | _,_,.fz n off c cs k arr hn h hs=>.fz n off c cs k arr hn h hs
 | _,_,.fz0 a=>.fz0 a
 | _,_,.pf off base cs k arr h hs=>.pf off base cs k arr h hs
 | _,_,.e0 a=>.e0 a
 | _,_,.nz a c=>.nz a c
theorem CRs.vr:∀{a:List AV} {v:List Value},CRs σ ρ.frz a v->VRs σ ρ a v
 | _,_,.nil=>.nil
 | _,_,.cons v vs v' vs' h hs=>.cons v vs v' vs' h.vr hs.vr
end
theorem CRs.get{φ:Nat->Option (Array Value)}{as:List AV}{vs:List Value}(h:CRs σ φ as vs){j:Nat}{a:AV}(ha:as[j]?=some a):∃v,vs[j]?=some v∧CR σ φ a v:=by
 induction as generalizing vs j with
 | nil=>grind
 | cons x xs ih =>
  cases h<;>grind
theorem CRs.take{φ:Nat->Option (Array Value)}{as:List AV}{vs:List Value}(h:CRs σ φ as vs)(n:Nat):CRs σ φ (as.take n) (vs.take n):=by
 induction as generalizing vs n with
 | nil=>cases h;simp;exact .nil
 | cons a as ih => cases h with | cons _ _ _ _ h hs => cases n with
                                                       | zero=>grind
                                                       | succ n=>exact .cons _ _ _ _ h (ih hs n)
theorem CRs.drop{φ:Nat->Option (Array Value)}{as:List AV}{vs:List Value}(h:CRs σ φ as vs)(n:Nat):CRs σ φ (as.drop n) (vs.drop n):=by
 induction as generalizing vs n with
 | nil=>cases h;simp;exact .nil
 | cons a as ih => cases h with | cons _ _ _ _ h hs => cases n with
                                                       | zero=>exact .cons _ _ _ _ h hs
                                                       | succ n=>simp_all

def zF(σ:Nat->Value)(ρ:Ren)(es:List (AV×AV))(vs:List MapEntry):Prop :=
 es.length=vs.length∧∀(j:Nat) (e:AV×AV),es[j]?=some e->∃v:MapEntry,vs[j]?=some v∧VR σ ρ e.1 v.key∧VR σ ρ e.2 v.val

def qdc(es:List (AV×AV)):Prop:=∀e,es.head?=some e->e.1≠.undef∧∀r,e.1≠.lp r
class Cur where
 ok:Nat->Loop->Prop
 st:∀{j:Nat} {r:Loop} (s:LoopState) (p:Option Code),ok j r->ok j { r with state:=s,pending:=p }
variable [Cur]
def xq(r r':Loop):Prop:=(r'=r∧∀j,r.assign≠.goto j)∨∃j,r.assign = .goto j∧Cur.ok j r'∧r'.state=r.state∧r'.pending=r.pending
theorem xq.state{r r':Loop}(h:xq r r'):r'.state=r.state:=by
 rcases h with⟨rfl,_⟩|⟨_,_,_,h,_⟩
 all_goals grind
theorem xq.pending{r r':Loop}(h:xq r r'):r'.pending=r.pending:=by
 rcases h with⟨rfl,_⟩|⟨_,_,_,_,h⟩
 all_goals grind
theorem xq.set{r r':Loop}(h:xq r r')(s:LoopState)(p:Option Code):xq { r with state:=s,pending:=p } { r' with state:=s,pending:=p }:=by
 rcases h with⟨rfl,h0⟩|⟨j,h1,h2,_,_⟩
 ·exact .inl ⟨rfl,h0⟩
 ·exact .inr (by grind[Cur.st])
def Brn(vs:Array MapEntry)(clk:Nat):Prop:=clk=vs.size∧∀(j:Nat) (e:MapEntry),vs[j]?=some e->e.born=j
theorem Brn.push{vs:Array MapEntry}{clk:Nat}(h:Brn vs clk)(k v:Value):Brn (vs.push ⟨k,v,clk⟩) (clk+1):=⟨by simp[h.1],fun j e he=>by
 rw[Array.getElem?_push] at he;split at he
 ·cases he;rename_i hj;rw[hj];exact h.1
 ·exact h.2 j e he⟩
theorem Brn.modify{vs:Array MapEntry}{clk:Nat}(h:Brn vs clk)(i:Nat){g:MapEntry->MapEntry}(hg:∀e,(g e).born=e.born):Brn (vs.modify i g) clk:=⟨by simp[h.1],fun j e he=>by
 rw[Array.getElem?_modify] at he;split at he
 ·cases hv:vs[j]? with
  | none=>rw[hv] at he;cases he
  | some u=>rw[hv] at he;cases he;rw[hg];exact h.2 j u hv
 ·exact h.2 j e he⟩
def xr(σ:Nat->Value)(ρ:Ren)(es:List (AV×AV))(o:Obj):Prop :=
 (qdc es∧∃vs clk,o = .map vs clk∧zF σ ρ es vs.toList∧Brn vs clk)∨(∃a n,es=zc a n∧o = .stringIter ⟨a.toArray⟩ n) ∨
 (∃r r' ts,es=zJ r ts∧o = .loop r'∧xq r r'∧∀p ∈ ts,p.1<r'.tmps.size∧VR σ ρ p.2 (r'.tmps.getD p.1 undef))∨∃r s n m,es=itM r s n∧VR σ ρ (.map r) (.map (some m))∧o = .mapIter (some m) s (Array.range n) s
theorem xr.mono(hρ:ρ.le ρ'){es:List (AV×AV)}{o:Obj}(h:xr σ ρ es o):xr σ ρ' es o:=by
 rcases h with⟨h0,vs,clk,h1,⟨h2,h3⟩,hb⟩|h|⟨r,r',ts,h1,h2,h4,h3⟩|⟨r,s,n,m,h1,h2,h3⟩
 ·exact .inl ⟨h0,vs,clk,h1,⟨h2,fun j e he=>let ⟨v,a,b,c⟩:=h3 j e he;⟨v,a,b.mono hρ,c.mono hρ⟩⟩,hb⟩
 ·exact .inr (.inl h)
 ·exact .inr (.inr (.inl ⟨r,r',ts,h1,h2,h4,fun p hp=>⟨(h3 p hp).1,(h3 p hp).2.mono hρ⟩⟩))
 ·exact .inr (.inr (.inr ⟨r,s,n,m,h1,h2.mono hρ,h3⟩))
theorem xr.map{es:List (AV×AV)}{o:Obj}(h:xr σ ρ es o)(hn:qdc es):∃vs clk,o = .map vs clk∧zF σ ρ es vs.toList∧Brn vs clk:=by
 rcases h with⟨_,h⟩|⟨a,n,rfl,_⟩|⟨r,_,ts,rfl,_⟩|⟨r,_,_,_,rfl,_⟩
 ·exact h
 ·exact absurd rfl (hn _ rfl).1
 ·exact absurd rfl ((hn _ rfl).2 r)
 ·exact absurd rfl (hn _ rfl).1
theorem xr.iter{a:List UInt8}{n:Nat}{o:Obj}(h:xr σ ρ (zc a n) o):o = .stringIter ⟨a.toArray⟩ n:=by
 rcases h with⟨h,_⟩|⟨a',n',h1,h2⟩|⟨r,_,ts,h1,_⟩|⟨r,_,_,_,h1,_⟩
 rotate_left 3
 ·simp[zc,itM] at h1
 ·exact absurd rfl (h _ rfl).1
 ·simp only[zc,List.cons.injEq,Prod.mk.injEq,AV.s.injEq,AV.i.injEq,true_and,and_true] at h1;obtain⟨rfl,h1⟩:=h1;have:n=n':=Int.ofNat.inj h1;subst this;exact h2
 ·simp[zc,zJ] at h1
omit [Cur] in
theorem qgY{r r':Loop}{ts ts':List (Nat×AV)}(h:zJ r ts=zJ r' ts'):r=r'∧ts=ts':=by
 simp only[zJ,List.cons.injEq,Prod.mk.injEq,AV.lp.injEq,and_true] at h;refine⟨h.1,?_⟩;have h2:=h.2;clear h
 induction ts generalizing ts' with
 | nil=>simp_all
 | cons p ts ih =>
  cases ts'<;>grind
theorem xr.rec'{r:Loop}{ts:List (Nat×AV)}{o:Obj}(h:xr σ ρ (zJ r ts) o):∃r',o = .loop r'∧xq r r'∧∀p ∈ ts,p.1<r'.tmps.size∧VR σ ρ p.2 (r'.tmps.getD p.1 undef):=by
 rcases h with⟨h,_⟩|⟨a',n',h1,h2⟩|⟨r',r'',ts',h1,h2,h4,h3⟩|⟨r',_,_,_,h1,_⟩
 rotate_left 3
 ·simp[zJ,itM] at h1
 ·exact absurd rfl ((h _ rfl).2 r)
 ·simp[zc,zJ] at h1
 grind[qgY]
theorem xr.notCells{es:List (AV×AV)}{c:Array Value}{ty:TypeId}{fz:Nat×Nat}(h:xr σ ρ es (.cells c ty fz)):False:=by
 rcases h with⟨_,_,_,h,_⟩|⟨_,_,_,h⟩|⟨_,_,_,_,h,_⟩|⟨_,_,_,_,_,_,h⟩<;>cases h
theorem xr.itm{r s n:Nat}{o:Obj}(h:xr σ ρ (itM r s n) o):∃m,VR σ ρ (.map r) (.map (some m))∧o = .mapIter (some m) s (Array.range n) s:=by
 rcases h with⟨h,_⟩|⟨a',n',h1,h2⟩|⟨r',r'',ts',h1,_⟩|⟨r',s',n',m,h1,h2,h3⟩
 ·exact absurd rfl (h _ rfl).1
 ·simp[zc,itM] at h1
 ·simp[zJ,itM] at h1
 ·simp only[itM,List.cons.injEq,Prod.mk.injEq,AV.map.injEq,AV.i.injEq,true_and,and_true] at h1;obtain⟨rfl,h4,h5⟩:=h1;have e1:=Int.ofNat.inj h4;have e2:=Int.ofNat.inj h5;subst e1 e2;exact⟨m,h2,h3⟩

structure Rel (σ:Nat->Value) (ρ:Ren) (B:Nat->Prop) (h:Hp) (w:World):Prop where
 dom:∀b L,ρ b=some L->b<h.sz
 cells:∀b L e wf af cs,ρ b=some L->h.tr.get b=some (.cells e wf af cs)->L.esz=e∧∃c ty fz,w.heap[L.blk]?=some (.cells c ty fz)∧c.size=L.size∧L.off+cs.length<=L.size ∧
  (∀j v,cs[j]?=some v->∃v',c[L.off+j]?=some v'∧VR σ ρ v v')∧((wf||af)=true->∀j,(j<L.size∨(e=0∧j=L.size))->¬(fz.1<=j∧j<fz.2))
 maps:∀b L es,ρ b=some L->h.tr.get b=some (.map es)->L.off=0∧∃o,w.heap[L.blk]?=some o∧xr σ ρ es o
 excl:∀b L e af cs,ρ b=some L->h.tr.get b=some (.cells e true af cs)->∀b' L' x,ρ b'=some L'->h.tr.get b'=some x->x≠.dead->L'.blk=L.blk->b'=b
 exclm:∀b L es,ρ b=some L->h.tr.get b=some (.map es)->∀b' L' x,ρ b'=some L'->h.tr.get b'=some x->x≠.dead->L'.blk=L.blk->b'=b
 app:∀b L e wf cs,ρ b=some L->h.tr.get b=some (.cells e wf true cs)->∀b' L' e' wf' af' cs',ρ b'=some L'->h.tr.get b'=some (.cells e' wf' af' cs')->L'.blk=L.blk->L'.off+cs'.length<=L.off+cs.length∧(af'=true->b'=b)
 flr:∀b L,ρ b=some L->h.fl<=b->¬B L.blk
 base:∀k,B k->k<w.heap.size
 frz:∀k arr,ρ.frz k=some arr->(∃ty fz,w.heap[k]?=some (.cells arr ty fz))∧∀b L x,ρ b=some L->h.tr.get b=some x->x≠.dead->L.blk≠k
 dn:ρ.n<=h.sz∧∀b L,ρ b=some L->L.blk<w.heap.size

abbrev low (n:Nat):Nat->Prop:=fun k=>k<n
omit [Cur] in
theorem xI{B:Nat->Prop}{n:Nat}(h:∀k,B k->k<n){k:Nat}(hk:n<=k):¬B k:=by grind
omit [Cur] in
theorem qah{B:Nat->Prop}{n m:Nat}(h:∀k,B k->k<n)(hs:n<=m):∀k,B k->k<m:=(by grind)
structure Kept (ρ:Ren) (B:Nat->Prop) (h:Hp) (w:World) (ρ':Ren) (h':Hp) (w':World):Prop where
 ext:∀b,b<h.sz->ρ' b=ρ b
 szle:h.sz<=h'.sz
 fl:h'.fl=h.fl
 akeep:∀b,b<h.fl->b<h.sz->h'.tr.get b=h.tr.get b
 pres:∀k,B k->w'.heap[k]?=w.heap[k]?
 wle:w.heap.size<=w'.heap.size
 io:w'.os=w.os∧w'.output=w.output
 frz:∀k a,ρ.frz k=some a->ρ'.frz k=some a
 fnew:∀k a,ρ'.frz k=some a->ρ.frz k=some a∨¬B k
 nle:ρ.n<=ρ'.n

omit [Cur] in
theorem Kept.refl(ρ:Ren)(B:Nat->Prop)(h:Hp)(w:World):Kept ρ B h w ρ h w :=
 ⟨fun _ _=>rfl,Nat.le_refl _,rfl,fun _ _ _=>rfl,fun _ _=>rfl,Nat.le_refl _,⟨rfl,rfl⟩,fun _ _ h=>h,fun _ _ h=>.inl h,Nat.le_refl _⟩
omit [Cur] in
theorem Kept.trans{ρ ρ1 ρ2:Ren}{B:Nat->Prop}{h h1 h2:Hp}{w w1 w2:World}(k1:Kept ρ B h w ρ1 h1 w1)(k2:Kept ρ1 B h1 w1 ρ2 h2 w2):Kept ρ B h w ρ2 h2 w2 :=
 ⟨fun b hb=>(k2.ext b (Nat.lt_of_lt_of_le hb k1.szle)).trans (k1.ext b hb),Nat.le_trans k1.szle k2.szle,k2.fl.trans k1.fl,
  fun b hb hb'=>(k2.akeep b (k1.fl ▸ hb) (Nat.lt_of_lt_of_le hb' k1.szle)).trans (k1.akeep b hb hb'),fun k hk=>(k2.pres k hk).trans (k1.pres k hk),Nat.le_trans k1.wle k2.wle,⟨k2.io.1.trans k1.io.1,k2.io.2.trans k1.io.2⟩,by grind[Kept.frz],by grind[Kept.fnew],Nat.le_trans k1.nle k2.nle⟩
omit [Cur] in
theorem Kept.mono{B:Nat->Prop}{h h':Hp}{w w':World}(k:Kept ρ B h w ρ' h' w')(hd:∀b L,ρ b=some L->b<h.sz):ρ.le ρ' :=
 ⟨by grind[Kept.ext],k.frz,k.nle⟩

theorem Rel.heap{B:Nat->Prop}{h:Hp}{w w':World}(r:Rel σ ρ B h w)(e:w'.heap=w.heap):Rel σ ρ B h w' :=
 ⟨r.dom,by rw[e];exact r.cells,by rw[e];exact r.maps,r.excl,r.exclm,r.app,r.flr,by rw[e];exact r.base,by rw[e];exact r.frz,by rw[e];exact r.dn⟩
def Ren.add(ρ:Ren)(b:Nat)(L:Loc):Ren:=⟨fun x=>if x=b then some L else ρ x,ρ.frz,max ρ.n (b+1)⟩
noncomputable def Hp.push(h:Hp)(x:Blk):Hp:=⟨Nat.succ h.sz,h.fl,h.tr.set h.sz x⟩
noncomputable def Hp.put(h:Hp)(b:Nat)(x:Blk):Hp:=⟨h.sz,h.fl,h.tr.set b x⟩

omit [Cur] in
theorem qv(h:Hp)(x:Blk)(k:Nat->Hp->Prop):qN h x k↔k h.sz (h.push x):=by
 cases h;simp only[qN,Tr.setK_iff,qg];exact Iff.rfl
omit [Cur] in
theorem qC(h:Hp)(b:Nat)(x:Blk)(k:Hp->Prop):qY h b x k↔h.fl<=b∧k (h.put b x):=by
 cases h with
 | mk sz fl tr =>
  show (Bool.rec (motive:=fun _=>Prop) False (tr.setK b x (fun tr'=>k ⟨sz,fl,tr'⟩)) (Nat.ble fl b):Prop)↔_
  rw[xL]
  by_cases hb:fl<=b
  ·simp only[hb,decide_true];rw[Tr.setK_iff];simp;exact Iff.rfl
  ·simp[hb]
omit [Cur] in
theorem qq(h:Hp)(b:Nat)(k:Nat->Bool->Bool->List AV->Prop):zw h b k↔∃e w a cs,h.tr.get b=some (.cells e w a cs)∧k e w a cs:=by
 simp only[zw,Tr.getK_iff];constructor
 ·rintro⟨v,hv,hk⟩;cases v with
  | cells e w a cs=>exact by grind
  | dead=>exact hk.elim
  | map es=>exact hk.elim
 grind

theorem Rel.fresh{B:Nat->Prop}{h:Hp}{w w':World}(r:Rel σ ρ B h w)(wf af:Bool)(cs:List AV)(c:Array Value)(ty:TypeId)(fz:Nat×Nat)(L0:Loc)(hfz:∀j,(j<L0.size∨(L0.esz=0∧j=L0.size))->¬(fz.1<=j∧j<fz.2))
  (hold:∀k,k<w.heap.size->w'.heap[k]?=w.heap[k]?) (hsz:w.heap.size<=w'.heap.size) (hL:w.heap.size<=L0.blk) (hnew:w'.heap[L0.blk]?=some (.cells c ty fz)) (hcs:c.size=L0.size)
  (hio:w'.os=w.os∧w'.output=w.output) (hl:L0.off+cs.length<=L0.size) (hc:∀(j:Nat) v,cs[j]?=some v->∃v',c[L0.off+j]?=some v'∧VR σ ρ v v') :
  Rel σ (ρ.add h.sz L0) B (h.push (.cells L0.esz wf af cs)) w'∧Kept ρ B h w (ρ.add h.sz L0) (h.push (.cells L0.esz wf af cs)) w':=by
 have hext:∀b L,ρ b=some L->(ρ.add h.sz L0) b=some L:=by
  intro b L hb;have:=r.dom b L hb;simp only[Ren.add];rw[if_neg (by omega)];exact hb
 have hle:ρ.le (ρ.add h.sz L0):=⟨hext,fun _ _ h=>h,Nat.le_max_left _ _⟩
 have hwf:∀b L,ρ b=some L->∀x,h.tr.get b=some x->x≠.dead->L.blk<w.heap.size:=by
  intro b L hb x hx hd;cases x with
  | cells e' wf' af' cs'=>obtain⟨_,c',ty',fz',hh,_⟩:=r.cells b L e' wf' af' cs' hb hx;exact by grind
  | dead=>exact absurd rfl hd
  | map es=>obtain⟨_,ob,hh,_⟩:=r.maps b L es hb hx;exact by grind
 have hget:∀b x,(h.push (.cells L0.esz wf af cs)).tr.get b=some x->b≠h.sz->h.tr.get b=some x:=by
  intro b x hx hb;simp only[Hp.push,Tr.get_set] at hx;rwa [if_neg hb] at hx
 have hget':∀x,(h.push (.cells L0.esz wf af cs)).tr.get h.sz=some x->x = .cells L0.esz wf af cs:=by
  intro x hx;simp[Hp.push,Tr.get_set] at hx;exact hx.symm
 have hren:∀b L,(ρ.add h.sz L0) b=some L->(b=h.sz∧L=L0)∨(b≠h.sz∧ρ b=some L):=by
  intro b L hb;simp only[Ren.add] at hb;split at hb
  ·left;exact by grind
  ·right;exact by grind
 refine⟨⟨?_,?_,?_,?_,?_,?_,?_,?_,?_,⟨Nat.max_le.2 ⟨Nat.le_succ_of_le r.dn.1,Nat.le_refl _⟩,?_⟩⟩,⟨?_,?_,rfl,?_,?_,?_,hio,fun _ _ h=>h,fun _ _ h=>.inl h,Nat.le_max_left _ _⟩⟩
 ·intro b L hb;rcases hren b L hb with⟨rfl,_⟩|⟨_,hb⟩
  ·exact Nat.lt_succ_self _
  ·exact Nat.lt_succ_of_lt (r.dom b L hb)
 ·intro b L e' wf' af' cs' hb hg;rcases hren b L hb with⟨rfl,rfl⟩|⟨hne,hb⟩
  ·cases hget' _ hg;refine⟨rfl,c,ty,fz,hnew,hcs,hl,?_,by grind⟩
   intro j v hv;obtain⟨v',h1,h2⟩:=hc j v hv;exact by grind[VR.mono]
  ·have hg':=hget _ _ hg hne;obtain⟨h1,c',ty',fz,h2,h3,h4,h5,h6⟩:=r.cells b L e' wf' af' cs' hb hg';refine⟨h1,c',ty',fz,?_,h3,h4,?_,h6⟩
   ·rw[hold _ (hwf b L hb _ hg' (by simp))];exact h2
   ·intro j v hv;obtain⟨v',h7,h8⟩:=h5 j v hv;exact by grind[VR.mono]
 ·intro b L es hb hg;rcases hren b L hb with⟨rfl,rfl⟩|⟨hne,hb⟩
  ·cases hget' _ hg
  ·have hg':=hget _ _ hg hne;obtain⟨h0,ob,h2,h3⟩:=r.maps b L es hb hg';refine⟨h0,ob,?_,h3.mono hle⟩;rw[hold _ (hwf b L hb _ hg' (by simp))];exact h2
 ·intro b L e' af' cs' hb hg b' L' x hb' hx hd he;rcases hren b L hb with⟨rfl,rfl⟩|⟨hne,hb1⟩<;>rcases hren b' L' hb' with⟨rfl,rfl⟩|⟨hne',hb'⟩
  ·rfl
  ·have:=hwf b' L' hb' _ (hget _ _ hx hne') hd;omega
  ·have:=hwf b L hb1 _ (hget _ _ hg hne) (by simp);omega
  ·exact by grind[Rel.excl]
 ·intro b L es hb hg b' L' x hb' hx hd he;rcases hren b L hb with⟨rfl,rfl⟩|⟨hne,hb1⟩<;>rcases hren b' L' hb' with⟨rfl,rfl⟩|⟨hne',hb'⟩
  ·rfl
  ·have:=hwf b' L' hb' _ (hget _ _ hx hne') hd;omega
  ·have:=hwf b L hb1 _ (hget _ _ hg hne) (by simp);omega
  ·exact by grind[Rel.exclm]
 ·intro b L e' wf' cs' hb hg b' L' e2 wf2 af2 cs2 hb' hx he;rcases hren b L hb with⟨rfl,rfl⟩|⟨hne,hb1⟩<;>rcases hren b' L' hb' with⟨rfl,rfl⟩|⟨hne',hb'⟩
  ·cases hget' _ hg;cases hget' _ hx;exact by omega
  ·have:=hwf b' L' hb' _ (hget _ _ hx hne') (by simp);omega
  ·have:=hwf b L hb1 _ (hget _ _ hg hne) (by simp);omega
  ·exact r.app b L e' wf' cs' hb1 (hget _ _ hg hne) b' L' e2 wf2 af2 cs2 hb' (hget _ _ hx hne') he
 ·intro b L hb hf;rcases hren b L hb with⟨rfl,rfl⟩|⟨_,hb⟩
  ·exact xI r.base hL
  ·exact r.flr b L hb hf
 ·exact qah r.base hsz
 ·intro k arr hk;obtain⟨⟨ty',fz',h1⟩,h2⟩:=r.frz k arr hk;have hkl:k<w.heap.size:=by grind
  refine⟨⟨ty',fz',by rw[hold k hkl];exact h1⟩,fun b L x hb hx hd=>?_⟩
  rcases hren b L hb with⟨rfl,rfl⟩|⟨hne,hb⟩
  ·omega
  ·exact by grind
 ·intro b L hb;rcases hren b L hb with⟨rfl,rfl⟩|⟨_,hb⟩
  ·exact by grind
  ·exact Nat.lt_of_lt_of_le (r.dn.2 b L hb) hsz
 ·intro b hb;simp only[Ren.add];rw[if_neg (by omega)]
 ·exact Nat.le_succ _
 ·intro b _ hb;simp only[Hp.push,Tr.get_set];rw[if_neg (by omega)]
 all_goals grind[Rel.base]

theorem Rel.push{B:Nat->Prop}{h:Hp}{w w':World}(r:Rel σ ρ B h w)(e:Nat)(wf af:Bool)(cs:List AV)(c:Array Value)(ty:TypeId)(fz:Nat×Nat)(hfz:∀j,(j<c.size∨(e=0∧j=c.size))->¬(fz.1<=j∧j<fz.2))
  (hw:w'.heap=w.heap.push (.cells c ty fz)) (hio:w'.os=w.os∧w'.output=w.output) (hl:cs.length<=c.size) (hc:∀(j:Nat) v,cs[j]?=some v->∃v',c[j]?=some v'∧VR σ ρ v v') :
  Rel σ (ρ.add h.sz ⟨w.heap.size,0,c.size,e⟩) B (h.push (.cells e wf af cs)) w'∧Kept ρ B h w (ρ.add h.sz ⟨w.heap.size,0,c.size,e⟩) (h.push (.cells e wf af cs)) w' :=
 r.fresh wf af cs c ty fz ⟨w.heap.size,0,c.size,e⟩ hfz (by grind) (by rw[hw,Array.size_push];omega) (Nat.le_refl _) (by rw[hw];simp) rfl hio (by simp_all)
  (by simp_all)

theorem Rel.world{B:Nat->Prop}{h:Hp}{w w':World}(r:Rel σ ρ B h w)(hw:∀n,n<w.heap.size->w'.heap[n]?=w.heap[n]?)(hs:w.heap.size<=w'.heap.size):Rel σ ρ B h w':=by
 refine⟨r.dom,?_,?_,r.excl,r.exclm,r.app,r.flr,qah r.base hs,fun k arr hk=>?_,⟨r.dn.1,fun b L hb=>Nat.lt_of_lt_of_le (r.dn.2 b L hb) hs⟩⟩
 rotate_right
 ·obtain⟨⟨ty,fz,h1⟩,h2⟩:=r.frz k arr hk;exact by grind
 all_goals grind[Rel.cells,Rel.maps]
omit [Cur] in
theorem Ren.add_self(ρ:Ren)(b:Nat)(L:Loc):(ρ.add b L) b=some L:=by simp[Ren.add]
end Go.Kc
end
section
namespace Go.Kc
variable [Cur]
variable {σ:Nat->Value} {ρ ρ':Ren}

structure Spl (c:Array Value) (p:Nat) (vs:List Value) (c':Array Value):Prop where
 size:c'.size=c.size
 out:∀j,j<p∨p+vs.length<=j->c'[j]?=c[j]?
 inn:∀j v,vs[j]?=some v->c'[p+j]?=some v

theorem Rel.blk_lt{B:Nat->Prop}{h:Hp}{w:World}(r:Rel σ ρ B h w):∀b L,ρ b=some L->∀x,h.tr.get b=some x->x≠.dead->L.blk<w.heap.size:=by
 intro b L hb x hx hd;cases x with
 | cells e' wf' af' cs'=>obtain⟨_,c',ty',fz',hh,_⟩:=r.cells b L e' wf' af' cs' hb hx;grind
 | dead=>simp_all
 | map es=>obtain⟨_,ob,hh,_⟩:=r.maps b L es hb hx;grind

theorem Rel.longer{B:Nat->Prop}{h h':Hp}{w:World}(r:Rel σ ρ B h w)(hs:h.sz<=h'.sz)(hf:h'.fl=h.fl)(hg:∀b,b<h.sz->h'.tr.get b=h.tr.get b):Rel σ ρ B h' w:=by
 have hget:∀b L,ρ b=some L->h'.tr.get b=h.tr.get b:=by grind[Rel.dom]
 refine⟨by grind[Rel.dom],?_,?_,?_,?_,?_,by grind[Rel.flr],r.base,by grind[Rel.frz],⟨Nat.le_trans r.dn.1 hs,r.dn.2⟩⟩
 ·grind[Rel.cells]
 ·grind[Rel.maps]
 ·grind[Rel.excl]
 ·grind[Rel.exclm]
 ·intro b L e wf cs hb hx b' L' e' wf' af' cs' hb' hx';rw[hget b L hb] at hx;rw[hget b' L' hb'] at hx';exact r.app b L e wf cs hb hx b' L' e' wf' af' cs' hb' hx'


def Ren.bump(ρ:Ren)(m:Nat):Ren:=⟨ρ.loc,ρ.frz,max ρ.n m⟩
omit [Cur] in
theorem Ren.bump_le(ρ:Ren)(m:Nat):ρ.le (ρ.bump m):=⟨fun _ _ h=>h,fun _ _ h=>h,Nat.le_max_left _ _⟩
theorem Rel.bump{B:Nat->Prop}{h:Hp}{w:World}(r:Rel σ ρ B h w){m:Nat}(hm:m<=h.sz):Rel σ (ρ.bump m) B h w :=
 ⟨r.dom,fun b L e wf af cs hb hg=>let ⟨h1,c,ty,fz,h2,h3,h4,h5,h6⟩:=r.cells b L e wf af cs hb hg
  (by grind[VR.mono,Ren.bump_le]),
  fun b L es hb hg=>let ⟨h1,o,h2,h3⟩:=r.maps b L es hb hg;(by grind[xr.mono,Ren.bump_le]),r.excl,r.exclm,r.app,r.flr,r.base,r.frz,⟨Nat.max_le.2 ⟨r.dn.1,hm⟩,r.dn.2⟩⟩
theorem Rel.idle{B:Nat->Prop}{h:Hp}{w:World}(r:Rel σ ρ B h w)(x:Blk):Rel σ (ρ.bump (h.sz+1)) B (h.push x) w∧Kept ρ B h w (ρ.bump (h.sz+1)) (h.push x) w :=
 ⟨(r.longer (h':=h.push x) (Nat.le_succ _) rfl (fun b hb=>by simp only[Hp.push,Tr.get_set];rw[if_neg (by omega)])).bump (Nat.le_refl _),
  fun _ _=>rfl,Nat.le_succ _,rfl,fun b _ hb=>by simp only[Hp.push,Tr.get_set];rw[if_neg (by omega)],fun _ _=>rfl,Nat.le_refl _,⟨rfl,rfl⟩,fun _ _ h=>h,fun _ _ h=>.inl h,Nat.le_max_left _ _⟩

theorem Rel.frz'{B:Nat->Prop}{h:Hp}{w w':World}{φ:Fz}(r:Rel σ ρ B h w)(hw:∀n,n<w.heap.size->w'.heap[n]?=w.heap[n]?)(hs:w.heap.size<=w'.heap.size)(h1:∀k a,ρ.frz k=some a->φ k=some a)
  (h2:∀k a,φ k=some a->ρ.frz k=some a∨w.heap.size<=k) (h3:∀k a,φ k=some a->∃ty fz,w'.heap[k]?=some (.cells a ty fz)):Rel σ ⟨ρ.loc,φ,ρ.n⟩ B h w':=by
 have r':=r.world hw hs;have hle:ρ.le ⟨ρ.loc,φ,ρ.n⟩:=⟨fun _ _ h=>h,h1,Nat.le_refl _⟩
 refine⟨r'.dom,fun b L e wf af cs hb hg=>?_,fun b L es hb hg=>?_,r'.excl,r'.exclm,r'.app,r'.flr,r'.base,fun k arr hk=>⟨h3 k arr hk,fun b L x hb hx hd=>?_⟩,r'.dn⟩
 ·obtain⟨g1,c,ty,fz,g2,g3,g4,g5,g6⟩:=r'.cells b L e wf af cs hb hg;exact by grind[VR.mono]
 all_goals grind[Rel.maps,xr.mono,Rel.frz,Rel.blk_lt]

theorem Rel.store{B:Nat->Prop}{h:Hp}{w w':World}(r:Rel σ ρ B h w){b:Nat}{L:Loc}{e:Nat}{af:Bool}{cs:List AV}(hb:ρ b=some L)
  (hg:h.tr.get b=some (.cells e true af cs)) (hf:h.fl<=b) (off:Nat) (vs:List AV) (vs':List Value) (hv:VRs σ ρ vs vs') (hl:off+vs.length<=cs.length)
  {c c':Array Value} {ty:TypeId} {fz:Nat×Nat} (hc:w.heap[L.blk]?=some (.cells c ty fz)) (hs:Spl c (L.off+off) vs' c')
  (hw:w'.heap=w.heap.setIfInBounds L.blk (.cells c' ty fz)) (hio:w'.os=w.os∧w'.output=w.output) :
  Rel σ ρ B (h.put b (.cells e true af (cs.take off++(vs++cs.drop (off+vs.length))))) w'∧Kept ρ B h w ρ (h.put b (.cells e true af (cs.take off++(vs++cs.drop (off+vs.length))))) w':=by
 have hlen:=hv.length;have hcl:(cs.take off++(vs++cs.drop (off+vs.length))).length=cs.length:=by simp;omega
 have hlt:L.blk<w.heap.size:=(Array.getElem?_eq_some_iff.1 hc).1
 have hold:∀k,k≠L.blk->w'.heap[k]?=w.heap[k]?:=by
  intro k hk;rw[hw,Array.getElem?_setIfInBounds];rw[if_neg (by omega)]
 have hnew:w'.heap[L.blk]?=some (.cells c' ty fz):=by rw[hw,Array.getElem?_setIfInBounds];simp[hlt]
 have hget:∀b' x,(h.put b (.cells e true af (cs.take off++(vs++cs.drop (off+vs.length))))).tr.get b'=some x->b'≠b->h.tr.get b'=some x:=by
  intro b' x hx hne;simp only[Hp.put,Tr.get_set] at hx;rwa [if_neg hne] at hx
 have hgb:∀x,(h.put b (.cells e true af (cs.take off++(vs++cs.drop (off+vs.length))))).tr.get b=some x->x = .cells e true af (cs.take off++(vs++cs.drop (off+vs.length))):=by
  intro x hx;simp[Hp.put,Tr.get_set] at hx;exact hx.symm
 have hother:∀b' L' x,ρ b'=some L'->h.tr.get b'=some x->x≠.dead->b'≠b->L'.blk≠L.blk :=
  fun b' L' x hb' hx hd hne he=>hne (r.excl b L e af cs hb hg b' L' x hb' hx hd he)
 obtain⟨he,c0,ty0,fz0,h1,h2,h3,h4,h5⟩:=r.cells b L e true af cs hb hg;rw[hc] at h1;cases h1;refine⟨⟨r.dom,?_,?_,?_,?_,?_,r.flr,?_,?_,⟨r.dn.1,fun b L hb=>by rw[hw,Array.size_setIfInBounds];exact r.dn.2 b L hb⟩⟩,⟨fun _ _=>rfl,Nat.le_refl _,rfl,?_,?_,?_,hio,fun _ _ h=>h,fun _ _ h=>.inl h,Nat.le_refl _⟩⟩
 ·intro b' L' e' wf' af' cs' hb' hg'
  by_cases hne:b'=b
  ·subst hne;rw[hb] at hb';cases hb';cases hgb _ hg';refine⟨he,c',ty,fz,hnew,hs.size.trans h2,by omega,?_,h5⟩
   intro j v hv'
   by_cases hj1:j<off
   ·rw[List.getElem?_append_left (by simp;omega),List.getElem?_take_of_lt hj1] at hv';obtain⟨v',h6,h7⟩:=h4 j v hv';exact⟨v',by rw[hs.out _ (by omega)];exact h6,h7⟩
   ·rw[List.getElem?_append_right (by simp;omega)] at hv';have e1:(cs.take off).length=off:=by simp;omega
    rw[e1] at hv'
    by_cases hj2:j<off+vs.length
    ·rw[List.getElem?_append_left (by omega)] at hv';obtain⟨v',h6,h7⟩:=hv.get hv';refine⟨v',?_,h7⟩;have:=hs.inn _ _ h6;rwa [show L.off+off+(j-off)=L.off+j from by omega] at this
    ·rw[List.getElem?_append_right (by omega),List.getElem?_drop] at hv';rw[show off+vs.length+(j-off-vs.length)=j from by omega] at hv'
     obtain⟨v',h6,h7⟩:=h4 j v hv';exact⟨v',by rw[hs.out _ (by omega)];exact h6,h7⟩
  ·have hg2:=hget _ _ hg' hne;obtain⟨h6,c2,ty2,fz2,h7,h8,h9,h10,h11⟩:=r.cells b' L' e' wf' af' cs' hb' hg2;exact⟨h6,c2,ty2,fz2,by rw[hold _ (hother b' L' _ hb' hg2 (by simp) hne)];exact h7,h8,h9,h10,h11⟩
 ·intro b' L' es hb' hg';have hne:b'≠b:=by rintro rfl;cases hgb _ hg'
  have hg2:=hget _ _ hg' hne;obtain⟨h6,ob,h7,h8⟩:=r.maps b' L' es hb' hg2;exact⟨h6,ob,by rw[hold _ (hother b' L' _ hb' hg2 (by simp) hne)];exact h7,h8⟩
 ·intro b1 L1 e1 af1 cs1 hb1 hg1 b2 L2 x hb2 hx hd he2
  by_cases n1:b1=b
  ·subst n1;rw[hb] at hb1;cases hb1
   by_cases n2:b2=b1
   ·exact n2
   ·exact absurd he2 (hother b2 L2 x hb2 (hget _ _ hx n2) hd n2)
  ·have hg1':=hget _ _ hg1 n1
   by_cases n2:b2=b
   ·subst n2;rw[hb] at hb2;cases hb2;exact absurd he2.symm (hother b1 L1 _ hb1 hg1' (by simp) n1)
   ·exact r.excl b1 L1 e1 af1 cs1 hb1 hg1' b2 L2 x hb2 (hget _ _ hx n2) hd he2
 ·intro b1 L1 es hb1 hg1 b2 L2 x hb2 hx hd he2;have n1:b1≠b:=by rintro rfl;cases hgb _ hg1
  have hg1':=hget _ _ hg1 n1
  by_cases n2:b2=b
  ·subst n2;rw[hb] at hb2;cases hb2;exact absurd he2.symm (hother b1 L1 _ hb1 hg1' (by simp) n1)
  ·exact r.exclm b1 L1 es hb1 hg1' b2 L2 x hb2 (hget _ _ hx n2) hd he2
 ·intro b1 L1 e1 wf1 cs1 hb1 hg1 b2 L2 e2 wf2 af2 cs2 hb2 hg2 he2
  by_cases n1:b1=b
  ·subst n1;rw[hb] at hb1;cases hb1
   by_cases n2:b2=b1
   ·subst n2;rw[hb] at hb2;cases hb2;cases hgb _ hg1;cases hgb _ hg2;exact⟨Nat.le_refl _,fun _=>rfl⟩
   ·exact absurd he2 (hother b2 L2 _ hb2 (hget _ _ hg2 n2) (by simp) n2)
  ·have hg1':=hget _ _ hg1 n1
   by_cases n2:b2=b
   ·subst n2;rw[hb] at hb2;cases hb2;exact absurd he2.symm (hother b1 L1 _ hb1 hg1' (by simp) n1)
   ·exact r.app b1 L1 e1 wf1 cs1 hb1 hg1' b2 L2 e2 wf2 af2 cs2 hb2 (hget _ _ hg2 n2) he2
 ·rw[hw,Array.size_setIfInBounds];exact r.base
 ·intro k arr hk;obtain⟨⟨ty',fz',h6⟩,h7⟩:=r.frz k arr hk;have hne:L.blk≠k:=h7 b L _ hb hg (by simp);refine⟨⟨ty',fz',by rw[hold k (by omega)];exact h6⟩,fun b' L' x hb' hx hd=>?_⟩
  by_cases hbb:b'=b
  ·subst hbb;rw[hb] at hb';cases hb';exact hne
  ·exact h7 b' L' x hb' (hget _ _ hx hbb) hd
 ·intro b' hb' _;simp only[Hp.put,Tr.get_set];rw[if_neg (by omega)]
 ·intro k hk;exact hold k (fun he=>r.flr b L hb hf (by first|(rw[← he];exact hk)|(rw[he];exact hk)))
 ·rw[hw,Array.size_setIfInBounds];exact Nat.le_refl _

theorem Rel.weak{B:Nat->Prop}{h:Hp}{w:World}(r:Rel σ ρ B h w){b:Nat}{e:Nat}{wf af:Bool}{cs:List AV}
  (hg:h.tr.get b=some (.cells e wf af cs)) (hf:h.fl<=b) (y:Blk) (hy:y = .dead∨y = .cells e false false cs) :
  Rel σ ρ B (h.put b y) w∧Kept ρ B h w ρ (h.put b y) w:=by
 have hget:∀b' x,(h.put b y).tr.get b'=some x->(b'=b∧x=y)∨(b'≠b∧h.tr.get b'=some x):=by
  intro b' x hx;simp only[Hp.put,Tr.get_set] at hx
  grind
 have hold:∀b' e' wf' af' cs',(h.put b y).tr.get b'=some (.cells e' wf' af' cs')->∃wf2 af2,h.tr.get b'=some (.cells e' wf2 af2 cs')∧(wf'=true->wf2=true∧b'≠b)∧(af'=true->af2=true∧b'≠b):=by
  grind
 have holdm:∀b' es,(h.put b y).tr.get b'=some (.map es)->h.tr.get b'=some (.map es):=by
  grind
 have holdx:∀b' x,(h.put b y).tr.get b'=some x->x≠.dead->∃x',h.tr.get b'=some x'∧x'≠.dead:=by
  grind
 refine⟨⟨r.dom,?_,?_,?_,?_,?_,r.flr,r.base,?_,r.dn⟩,⟨fun _ _=>rfl,Nat.le_refl _,rfl,?_,fun _ _=>rfl,Nat.le_refl _,⟨rfl,rfl⟩,fun _ _ h=>h,fun _ _ h=>.inl h,Nat.le_refl _⟩⟩
 ·grind[Rel.cells]
 ·grind[Rel.maps]
 ·grind[Rel.excl]
 ·grind[Rel.exclm]
 ·intro b1 L1 e1 wf1 cs1 hb1 hx1 b2 L2 e2 wf2 af2 cs2 hb2 hx2 he;obtain⟨wf3,af3,h1,h2,h3⟩:=hold b1 _ _ _ _ hx1;obtain⟨rfl,_⟩:=h3 rfl;obtain⟨wf4,af4,h4,h5,h6⟩:=hold b2 _ _ _ _ hx2;have:=r.app b1 L1 e1 wf3 cs1 hb1 h1 b2 L2 e2 wf4 af4 cs2 hb2 h4 he
  grind
 ·grind[Rel.frz]
 ·intro b' hb' _;simp only[Hp.put,Tr.get_set];rw[if_neg (by omega)]

theorem Rel.grow{B:Nat->Prop}{h:Hp}{w w':World}(r:Rel σ ρ B h w){b:Nat}{L:Loc}{e:Nat}{wf:Bool}{cs:List AV}(hb:ρ b=some L)
  (hg:h.tr.get b=some (.cells e wf true cs)) (hf:h.fl<=b) (o:Nat) (ho:o<=cs.length) (vs:List AV) (vs':List Value) (hv:VRs σ ρ vs vs') (hl:L.off+cs.length+vs.length<=L.size)
  (y:Blk) (wf2:Bool) (hy:(y = .dead∧wf2=wf)∨(y = .cells e false false cs∧wf2=false))
  {c c':Array Value} {ty:TypeId} {fz:Nat×Nat} (hc:w.heap[L.blk]?=some (.cells c ty fz)) (hs:Spl c (L.off+cs.length) vs' c')
  (hw:w'.heap=w.heap.setIfInBounds L.blk (.cells c' ty fz)) (hio:w'.os=w.os∧w'.output=w.output) :
  Rel σ (ρ.add h.sz ⟨L.blk,L.off+o,L.size,e⟩) B ((h.put b y).push (.cells e wf2 true (cs.drop o++vs))) w' ∧
  Kept ρ B h w (ρ.add h.sz ⟨L.blk,L.off+o,L.size,e⟩) ((h.put b y).push (.cells e wf2 true (cs.drop o++vs))) w':=by
 have hlen:=hv.length;have hbs:=r.dom b L hb;have hlt:L.blk<w.heap.size:=by grind
 have hold:∀k,k≠L.blk->w'.heap[k]?=w.heap[k]?:=by
  intro k hk;rw[hw,Array.getElem?_setIfInBounds];rw[if_neg (by omega)]
 have hnew:w'.heap[L.blk]?=some (.cells c' ty fz):=by rw[hw,Array.getElem?_setIfInBounds];simp[hlt]
 have hext:∀b' L',ρ b'=some L'->(ρ.add h.sz ⟨L.blk,L.off+o,L.size,e⟩) b'=some L':=by
  intro b' L' hb';have:=r.dom b' L' hb';simp only[Ren.add];rw[if_neg (by omega)];exact hb'
 have hle:ρ.le (ρ.add h.sz ⟨L.blk,L.off+o,L.size,e⟩):=⟨hext,fun _ _ h=>h,Nat.le_max_left _ _⟩
 have hren:∀b' L',(ρ.add h.sz ⟨L.blk,L.off+o,L.size,e⟩) b'=some L'->(b'=h.sz∧L'=⟨L.blk,L.off+o,L.size,e⟩)∨(b'≠h.sz∧ρ b'=some L'):=by
  intro b' L' hb';simp only[Ren.add] at hb';split at hb'
  ·left;exact by simp_all
  ·right;exact by simp_all
 have hgn:∀x,((h.put b y).push (.cells e wf2 true (cs.drop o++vs))).tr.get h.sz=some x->x = .cells e wf2 true (cs.drop o++vs):=by
  intro x hx;simp[Hp.push,Hp.put,Tr.get_set] at hx;exact hx.symm
 have hgb:∀x,((h.put b y).push (.cells e wf2 true (cs.drop o++vs))).tr.get b=some x->x=y:=by
  intro x hx;simp only[Hp.push,Hp.put,Tr.get_set] at hx;rw[if_neg (by omega)] at hx;simpa using hx.symm
 have hget:∀b' x,((h.put b y).push (.cells e wf2 true (cs.drop o++vs))).tr.get b'=some x->b'≠h.sz->b'≠b->h.tr.get b'=some x:=by
  intro b' x hx h1 h2;simp only[Hp.push,Hp.put,Tr.get_set] at hx;rw[if_neg h1,if_neg h2] at hx;exact hx
 obtain⟨he,c0,ty0,fz0,h1,h2,h3,h4,h5⟩:=r.cells b L e wf true cs hb hg;rw[hc] at h1;cases h1
 -- no other living block of the row is writable
 have hnw:∀b' L' e' af' cs',ρ b'=some L'->h.tr.get b'=some (.cells e' true af' cs')->b'≠b->L'.blk≠L.blk :=
  fun b' L' e' af' cs' hb' hx hne heq=>by grind[Rel.excl]
 have hnm:∀b' L' es,ρ b'=some L'->h.tr.get b'=some (.map es)->L'.blk≠L.blk:=by
  intro b' L' es hb' hx heq;obtain⟨_,ob,h7,h8⟩:=r.maps b' L' es hb' hx;rw[heq,hc] at h7;cases h7;exact h8.notCells
 have hexw:wf=true->∀b' L' x,ρ b'=some L'->h.tr.get b'=some x->x≠.dead->b'≠b->L'.blk≠L.blk:=by
  intro hwf b' L' x hb' hx hd hne heq;subst hwf;exact by grind[Rel.excl]
 refine⟨⟨?_,?_,?_,?_,?_,?_,?_,?_,?_,⟨Nat.max_le.2 ⟨Nat.le_succ_of_le r.dn.1,Nat.le_refl _⟩,?_⟩⟩,⟨?_,?_,rfl,?_,?_,?_,hio,fun _ _ h=>h,fun _ _ h=>.inl h,Nat.le_max_left _ _⟩⟩
 ·intro b' L' hb';rcases hren b' L' hb' with⟨rfl,_⟩|⟨_,hb'⟩
  ·exact Nat.lt_succ_self _
  ·exact Nat.lt_succ_of_lt (r.dom b' L' hb')
 ·intro b' L' e' wf' af' cs' hb' hg';rcases hren b' L' hb' with⟨rfl,rfl⟩|⟨hne,hb'⟩
  ·cases hgn _ hg';refine⟨rfl,c',ty,fz,hnew,hs.size.trans h2,by simp;omega,?_,by grind⟩
   intro j v hv'
   by_cases hj:j<cs.length-o
   ·rw[List.getElem?_append_left (by simp;omega),List.getElem?_drop] at hv';obtain⟨v',h6,h7⟩:=h4 _ v hv';refine⟨v',?_,h7.mono hle⟩;rw[hs.out _ (by simp;omega)];rw[← h6];congr 1;simp;omega
   ·rw[List.getElem?_append_right (by simp;omega)] at hv';obtain⟨v',h6,h7⟩:=hv.get hv';refine⟨v',?_,h7.mono hle⟩;have:=hs.inn _ _ h6;rw[← this];congr 1;simp;omega
  ·by_cases hbb:b'=b
   ·subst hbb;rw[hb] at hb';cases hb';cases hgb _ hg';rcases hy with⟨hy,_⟩|⟨hy,_⟩
    ·cases hy
    ·cases hy;refine⟨he,c',ty,fz,hnew,hs.size.trans h2,h3,?_,by grind⟩
     intro j v hv';obtain⟨v',h6,h7⟩:=h4 _ v hv';have hj:j<cs.length:=by grind
     exact by grind[Spl.out,VR.mono]
   ·have hg2:=hget _ _ hg' hne hbb;obtain⟨h6,c2,ty2,fz2,h7,h8,h9,h10,h11⟩:=r.cells b' L' e' wf' af' cs' hb' hg2
    by_cases heq:L'.blk=L.blk
    ·rw[heq,hc] at h7;cases h7;have happ:=r.app b L e wf cs hb hg b' L' e' wf' af' cs' hb' hg2 heq;refine⟨h6,c',ty,fz,by rw[heq];exact hnew,hs.size.trans h8,h9,?_,h11⟩
     intro j v hv';obtain⟨v',h12,h13⟩:=h10 _ v hv';have hj:j<cs'.length:=by grind
     exact by grind[Spl.out,VR.mono]
    ·refine⟨h6,c2,ty2,fz2,by rw[hold _ heq];exact h7,h8,h9,?_,h11⟩
     intro j v hv';obtain⟨v',h12,h13⟩:=h10 _ v hv';exact by grind[VR.mono]
 ·intro b' L' es hb' hg';rcases hren b' L' hb' with⟨rfl,rfl⟩|⟨hne,hb'⟩
  ·cases hgn _ hg'
  ·have hbb:b'≠b:=by
    rintro rfl;have:=hgb _ hg';subst this;rcases hy with⟨hy,_⟩|⟨hy,_⟩<;>cases hy
   have hg2:=hget _ _ hg' hne hbb;obtain⟨h6,ob,h7,h8⟩:=r.maps b' L' es hb' hg2;exact by grind[xr.mono]
 ·intro b1 L1 e1 af1 cs1 hb1 hg1 b2 L2 x hb2 hx hd he2;rcases hren b1 L1 hb1 with⟨rfl,rfl⟩|⟨n1,hb1⟩
  ·-- the new block is writable: so was the old one,which is dead
   cases hgn _ hg1;rcases hren b2 L2 hb2 with⟨rfl,_⟩|⟨n2,hb2⟩
   ·rfl
   ·by_cases m2:b2=b
    ·subst m2;have:=hgb _ hx;subst this;rcases hy with⟨hy,_⟩|⟨_,hy⟩
     ·exact absurd hy hd
     ·cases hy
    ·rcases hy with⟨_,hy⟩|⟨_,hy⟩
     ·exact by grind
     ·cases hy
  ·have m1:b1≠b:=by
    rintro rfl;have:=hgb _ hg1;subst this;rcases hy with⟨hy,_⟩|⟨hy,_⟩<;>cases hy
   have hg1':=hget _ _ hg1 n1 m1;rcases hren b2 L2 hb2 with⟨rfl,rfl⟩|⟨n2,hb2⟩
   ·exact by grind
   ·by_cases m2:b2=b
    ·subst m2;rw[hb] at hb2;cases hb2;exact by grind
    ·exact r.excl b1 L1 e1 af1 cs1 hb1 hg1' b2 L2 x hb2 (hget _ _ hx n2 m2) hd he2
 ·intro b1 L1 es hb1 hg1 b2 L2 x hb2 hx hd he2;rcases hren b1 L1 hb1 with⟨rfl,rfl⟩|⟨n1,hb1⟩
  ·cases hgn _ hg1
  ·have m1:b1≠b:=by
    rintro rfl;have:=hgb _ hg1;subst this;rcases hy with⟨hy,_⟩|⟨hy,_⟩<;>cases hy
   have hg1':=hget _ _ hg1 n1 m1;rcases hren b2 L2 hb2 with⟨rfl,rfl⟩|⟨n2,hb2⟩
   ·exact by grind
   ·by_cases m2:b2=b
    ·subst m2;rw[hb] at hb2;cases hb2;exact by grind
    ·exact r.exclm b1 L1 es hb1 hg1' b2 L2 x hb2 (hget _ _ hx n2 m2) hd he2
 ·intro b1 L1 e1 wf1 cs1 hb1 hg1 b2 L2 e2 wf2' af2 cs2 hb2 hg2 he2;rcases hren b1 L1 hb1 with⟨rfl,rfl⟩|⟨n1,hb1⟩
  ·cases hgn _ hg1;rcases hren b2 L2 hb2 with⟨rfl,rfl⟩|⟨n2,hb2⟩
   ·cases hgn _ hg2;exact by omega
   ·by_cases m2:b2=b
    ·subst m2;rw[hb] at hb2;cases hb2;have:=hgb _ hg2;subst this;rcases hy with⟨hy,_⟩|⟨hy,_⟩
     ·cases hy
     ·cases hy;exact by grind
    ·have:=r.app b L e wf cs hb hg b2 L2 e2 wf2' af2 cs2 hb2 (hget _ _ hg2 n2 m2) he2;exact by grind
  ·have m1:b1≠b:=by
    rintro rfl;have:=hgb _ hg1;subst this;rcases hy with⟨hy,_⟩|⟨hy,_⟩<;>cases hy
   have hg1':=hget _ _ hg1 n1 m1;rcases hren b2 L2 hb2 with⟨rfl,rfl⟩|⟨n2,hb2⟩
   ·-- two blocks of a row that may be appended to: their ends are one;nothing is appended then,or they are on rows of their own
    cases hgn _ hg2;exact absurd ((r.app b1 L1 e1 wf1 cs1 hb1 hg1' b L e wf true cs hb hg he2).2 rfl).symm m1
   ·by_cases m2:b2=b
    ·subst m2;rw[hb] at hb2;cases hb2;have:=hgb _ hg2;subst this;rcases hy with⟨hy,_⟩|⟨hy,_⟩
     ·cases hy
     ·cases hy;exact⟨(r.app b1 L1 e1 wf1 cs1 hb1 hg1' b2 L e wf true cs hb hg he2).1,by grind⟩
    ·exact r.app b1 L1 e1 wf1 cs1 hb1 hg1' b2 L2 e2 wf2' af2 cs2 hb2 (hget _ _ hg2 n2 m2) he2
 ·intro b' L' hb' hf';rcases hren b' L' hb' with⟨rfl,rfl⟩|⟨_,hb'⟩
  ·exact r.flr b L hb hf
  ·exact r.flr b' L' hb' hf'
 ·rw[hw,Array.size_setIfInBounds];exact r.base
 ·intro k arr hk;obtain⟨⟨ty',fz',h6⟩,h7⟩:=r.frz k arr hk;have hne:L.blk≠k:=by grind
  refine⟨⟨ty',fz',by rw[hold k (by omega)];exact h6⟩,fun b' L' x hb' hx hd=>?_⟩
  rcases hren b' L' hb' with⟨rfl,rfl⟩|⟨hn,hb'⟩
  ·exact hne
  ·by_cases hbb:b'=b
   ·subst hbb;rw[hb] at hb';cases hb';exact hne
   ·exact by grind
 ·intro b' L' hb';rw[hw,Array.size_setIfInBounds];rcases hren b' L' hb' with⟨rfl,rfl⟩|⟨_,hb'⟩
  ·exact r.dn.2 b L hb
  ·exact r.dn.2 b' L' hb'
 ·intro b' hb';simp only[Ren.add];rw[if_neg (by omega)]
 ·exact Nat.le_succ _
 ·intro b' hb' hs';have:h.fl<=b:=hf;simp only[Hp.push,Hp.put,Tr.get_set];rw[if_neg (by omega),if_neg (by omega)]
 all_goals grind[Rel.flr]

mutual
def vrc:AV->Value->Bool
 | .b x,.bool y=>x==y
 | .i k n,.int k' m=>decide (k=k')&&decide (n=m)
 | .s x,.string y=>x==y.data.toList
 | .nilp,.pointer none=>true
 | .nils,.slice none l c=>l==0&&c==0
 | .nilf,.nilFunc=>true
 | .nili,.nilIface=>true
 | .nilm,.map none=>true
 | .fn f a c,.func (.func g) a' c'=>f==g&&qbJ a a'.toList&&qbJ c c'.toList
 | .ifc t v,.iface t' v'=>t==t'&&vrc v v'
 | .agg l,.agg l'=>qbJ l l'.toList
 | .tup l,.tuple l'=>qbJ l l'.toList
 | _,_=>false
def qbJ:List AV->List Value->Bool
 | [],[]=>true
 | v::vs,v'::vs'=>vrc v v'&&qbJ vs vs'
 | _,_=>false
end

mutual
theorem qcu:∀(a:AV) (v:Value),vrc a v=true->VR σ ρ a v
 | .b x,v,h=>by cases v<;>simp[vrc] at h;subst h;exact .b _
 | .i k n,v,h=>by cases v<;>simp[vrc] at h;obtain⟨rfl,rfl⟩:=h;exact .i _ _
 | .s x,v,h=>by
  cases v<;>simp[vrc] at h;rename_i s;subst h;cases s;exact .s _
 | .nilp,v,h=>by
  cases v<;>first|(simp[vrc] at h;done)|skip
  rename_i a;cases a<;>first|(simp[vrc] at h;done)|exact .nilp
 | .nils,v,h=>by
  cases v<;>first|(simp[vrc] at h;done)|skip
  rename_i a l c;cases a<;>first|(simp[vrc] at h;done)|(simp[vrc] at h;obtain⟨rfl,rfl⟩:=h;exact .nils)
 | .nilf,v,h=>by cases v<;>simp[vrc] at h;exact .nilf
 | .nili,v,h=>by cases v<;>simp[vrc] at h;exact .nili
 | .nilm,v,h=>by
  cases v<;>first|(simp[vrc] at h;done)|skip
  rename_i a;cases a<;>first|(simp[vrc] at h;done)|exact .nilm
 | .fn f a c,v,h=>by
  cases v<;>first|(simp[vrc] at h;done)|skip
  rename_i fn a' c';cases fn<;>first|(simp[vrc] at h;done)|skip
  simp[vrc] at h;obtain⟨⟨rfl,h1⟩,h2⟩:=h;exact .fn _ _ _ _ _ (zW _ _ h1) (zW _ _ h2)
 | .ifc t v,v',h=>by cases v'<;>simp[vrc] at h;obtain⟨rfl,h1⟩:=h;exact .ifc _ _ _ (qcu _ _ h1)
 | .agg l,v,h=>by cases v<;>simp[vrc] at h;exact .agg _ _ (zW _ _ h)
 | .tup l,v,h=>by cases v<;>simp[vrc] at h;exact .tup _ _ (zW _ _ h)
 | .ptr _ _,v,h=>by cases v<;>simp[vrc] at h
 | .sl _ _ _ _ _,v,h=>by cases v<;>simp[vrc] at h
 | .map _,v,h=>by cases v<;>simp[vrc] at h
 | .sym _,v,h=>by cases v<;>simp[vrc] at h
 | .undef,v,h=>.undef v
theorem zW:∀(a:List AV) (v:List Value),qbJ a v=true->VRs σ ρ a v
 | [],[],_=>.nil
 | v::vs,v'::vs',h=>by simp[qbJ] at h;exact .cons _ _ _ _ (qcu _ _ h.1) (zW _ _ h.2)
 | [],_::_,h=>by simp[qbJ] at h
 | _::_,[],h=>by simp[qbJ] at h
end

def qh:Operand->O->Bool
 | .tmp n,.t m=>n==m
 | .const v,.c a=>vrc a v
 | .func f,.c (.fn g [] [])=>f==g
 | _,_=>false
def x8:List Operand->List O->Bool
 | [],[]=>true
 | x::xs,y::ys=>qh x y&&x8 xs ys
 | _,_=>false
def zj:Option Operand->Option O->Bool
 | none,none=>true
 | some x,some y=>qh x y
 | _,_=>false

def zy(P:Program)(t:TypeId):Bool:=match P.underlying t with|some (.struct _)|some (.array _ _)=>true|_=>false
def xV(q:NK):Operand->Bool
 | .const (.pointer none)=>(match q with | .ptr=>true|_=>false)
 | .const (.slice none _ _)=>(match q with | .slice=>true|_=>false)
 | .const .nilFunc=>(match q with | .func=>true|_=>false)
 | .const .nilIface=>(match q with | .iface=>true|_=>false)
 | .const (.map none)=>(match q with | .map=>true|_=>false)
 | _=>false
def qeQ(P:Program)(q:NK)(t:TypeId):Bool :=
 match P.underlying t,q with
 | some (.pointer _),.ptr|some (.slice _),.slice|some (.func ..),.func|some (.map ..),.map|some (.interface _),.iface=>true
 | _,_=>false
def zt(P:Program)(t:TypeId)(z:List AV):Bool :=
 match P.info? t with
 | some i=>match i.zero with|some v=>qbJ z v.cells.toList&&(v.cells.size==i.size)|none=>false
 | none=>false
def qo(P:Program)(t:TypeId)(n:Nat):Bool:=match P.info? t with|some i=>i.size==n|none=>false
def zG(P:Program)(t:TypeId)(n:Nat):Bool:=match P.info? t with|some i=>i.bytes==n|none=>false
def xy(P:Program):Nat->List Field->List PK->Bool
 | _,[],[]=>true
 | i,f::fs,q::qs=>f.name != "_" && f.offset==i&&(match P.underlying f.type,q with|some .bool,.b|some (.int _),.i|some .string,.s=>true|_,_=>false)&&xy P (i+1) fs qs
 | _,_,_=>false
def qa7(P:Program)(t:TypeId)(qs:List PK):Bool :=
 match P.underlying t with
 | some (.struct fs)=>!P.stoodInHeld t && !P.eqGuardType P.depth t&&xy P 0 fs.toList qs
 | _=>false
def zx(place:Nat->Option (Nat×Nat)):List (Nat×Operand)->List (Nat×Nat×O)->Bool
 | [],[]=>true
 | (i,x)::xs,(off,n,y)::ys=>(place i==some (off,n))&&qh x y&&zx place xs ys
 | _,_=>false
def qms(P:Program)(t:TypeId):Bool:=match P.underlying t with|some (.int _)|some .string=>true|_=>false
def fieldsOf(P:Program)(t:TypeId):Option (Array Field):=match P.underlying t with|some (.struct fs)=>some fs|_=>none
def qx(P:Program)(t:TypeId):Option TypeId:=match P.underlying t with|some (.slice e)=>some e|_=>none
def wc(P:Program)(t:TypeId):Option (Nat×TypeId):=match P.underlying t with|some (.array n e)=>some (n,e)|_=>none
def qV(P:Program)(t:TypeId):Bool:=match P.underlying t with|some .string=>true|_=>false
def qcX(P:Program)(t:TypeId)(k:IntKind):Bool:=match P.underlying t with|some (.int q)=>decide (q=k)|_=>false
def qdu(P:Program)(t:TypeId):Bool:=match P.underlying t with|some (.int _)=>true|_=>false
def qbb(P:Program)(t:TypeId):Bool:=match P.underlying t with|some .bool=>true|_=>false

def js(P:Program)(t:TypeId):Option (TypeId×TypeId):=match P.underlying t with|some (.map k e)=>some (k,e)|_=>none
def qcf(P:Program)(t:TypeId)(kd:Option IntKind):Bool:=match P.underlying t,kd with|some .string,none=>true|some (.int q),some q'=>decide (q=q')|_,_=>false
def qdM(P:Program)(t:TypeId)(z:AV):Bool:=match P.info? t with|some j=>(match j.zero with|some v=>vrc z v|none=>false)|none=>false
def wk(P:Program)(t:TypeId)(kd:Option IntKind):Bool:=match js P t with|some (key,_)=>qcf P key kd|none=>false

def xD(P:Program)(b:Builtin)(argTypes:Array TypeId)(args:List Operand)(r:IOp):Bool :=
 match b,args,r with
 | .len,[_],.mov (.c (.i .i64 n))=>match (argTypes[0]?).bind (wc P) with|some (m,_)=>decide (n=(m:Int))|none=>false
 | .len,[x],.len str y=>qh x y&&(match argTypes[0]? with|some t=>if str then qV P t else (qx P t).isSome|none=>false)
 | .len,[x],.lenM y=>qh x y&&((argTypes[0]?).bind (js P)).isSome
 | .cap,[x],.cap y=>qh x y&&(match argTypes[0]? with|some t=>(qx P t).isSome|none=>false)
 | .append,[s,x],.app esz bytes _ s' x'=>qh s s'&&qh x x'&&(match argTypes[0]?,argTypes[1]? with
  | some ts,some tx=>(match qx P ts with
   | some e=>qo P e esz&&zG P e bytes&&(match P.info? e with|some i=>(match i.zero with|some z=>z.cells.size==i.size|none=>false)|none=>false)
   | none=>false)&&(qV P tx||(qx P tx).isSome)
  | _,_=>false)
 | .append,[s,x],.appF esz bytes s' x'=>qh s s'&&qh x x'&&(match argTypes[0]?,argTypes[1]? with
  | some ts,some tx=>(match qx P ts with
   | some e=>qo P e esz&&zG P e bytes&&(match P.info? e with|some i=>(match i.zero with|some z=>z.cells.size==i.size|none=>false)|none=>false)
   | none=>false)&&(qV P tx||(qx P tx).isSome)
  | _,_=>false)
 | .append,[s,x],.appD esz bytes s' x' _=>qh s s'&&qh x x'&&(match argTypes[0]?,argTypes[1]? with
  | some ts,some tx=>(match qx P ts with
   | some e=>qo P e esz&&zG P e bytes&&(match P.info? e with|some i=>(match i.zero with|some z=>z.cells.size==i.size|none=>false)|none=>false)
   | none=>false)&&(qV P tx||(qx P tx).isSome)
  | _,_=>false)
 | .append,[s,x],.appZ esz bytes z s' x'=>qh s s'&&qh x x'&&(match argTypes[0]?,argTypes[1]? with
  | some ts,some tx=>(match qx P ts with|some e=>qo P e esz&&zG P e bytes&&zt P e z|none=>false)&&qdu P tx
  | _,_=>false)
 | .copy,[d,s],.copy esz d' s'=>qh d d'&&qh s s'&&(argTypes[1]?).isSome&&(match (argTypes[0]?).bind (qx P) with|some e=>qo P e esz|none=>false)
 | .max,[x,y],.max x' y'=>qh x x'&&qh y y'
 | .min,[x,y],.min x' y'=>qh x x'&&qh y y'
 | .clear,[x],.clear z y=>qh x y&&(match (argTypes[0]?).bind (qx P) with|some e=>zt P e z|none=>false)
 | _,_,_=>false

def qbj(P:Program)(f:Option Field)(off:Nat)(n:Option Nat):Bool :=
 match f,n with
 | some fd,none=>fd.offset==off && !zy P fd.type&&(P.underlying fd.type).isSome
 | some fd,some n=>fd.offset==off&&zy P fd.type&&qo P fd.type n
 | none,_=>false
def qaj(P:Program)(o:Op)(r:IOp):Bool :=
 match o,r with
 | .move x,.mov y | .assign x,.mov y=>qh x y
 | .pick c a b,.pick c' a' b'=>qh c c'&&qh a a'&&qh b b'
 | .alloc t,.alloc z=>zt P t z
 | .box _ x,.box y=>qh x y
 | .build t ps,.build z qs=>zt P t z&&(match P.underlying t with
  | some (.struct fs)=>zx (fun i=>(fs[i]?).bind fun f=>(P.info? f.type).map fun j=>(f.offset,j.size)) ps.toList qs&&fs.toList.all fun f=>(P.info? f.type).isSome
  | some (.array _ e)=>(match P.info? e with|some j=>zx (fun i=>some (i*j.size,j.size)) ps.toList qs|none=>false)
  | _=>false)
 | .buildSlice t n ps,.buildS m z qs=>n==m&&(match qx P t with
  | some e=>zt P e z&&decide (n*z.length<=16777216)&&(match P.info? e with|some j=>zx (fun i=>some (i*j.size,j.size)) ps.toList qs|none=>false)
  | none=>false)
 | .load t x,.load1 y=>qh x y && !zy P t&&(P.underlying t).isSome
 | .load t x,.loadN n y=>qh x y&&zy P t&&qo P t n
 | .store t x v,.store n x' v'=>qh x x'&&qh v v'&&qo P t n
 | .store t x v,.storeD n x' v' _=>qh x x'&&qh v v'&&qo P t n
 | .nilCheck x,.nilChk y=>qh x y
 | .binOp op t x y _,.bin op' x' y'=>decide (op=op')&&qh x x'&&qh y y'&&qms P t
 | .binOp .eql t x y _,.eqB neg x' y'=>!neg&&qh x x'&&qh y y'&&qbb P t
 | .binOp .neq t x y _,.eqB neg x' y'=>neg&&qh x x'&&qh y y'&&qbb P t
 | .binOp .eql t x y _,.eqN neg q x'=>!neg&&((qh x x'&&xV q y)||(qh y x'&&xV q x))&&qeQ P q t
 | .binOp .neq t x y _,.eqN neg q x'=>neg&&((qh x x'&&xV q y)||(qh y x'&&xV q x))&&qeQ P q t
 | .binOp .eql t x y _,.eqA neg qs x' y'=>!neg&&qh x x'&&qh y y'&&qa7 P t qs
 | .binOp .neq t x y _,.eqA neg qs x' y'=>neg&&qh x x'&&qh y y'&&qa7 P t qs
 | .unOp op _ x,.un op' y=>decide (op=op')&&qh x y
 | .convert s d x,.cvInt k y=>qh x y&&(P.underlying s).isSome&&qcX P d k
 | .convert s d x,.cvR y=>qh x y&&(match P.underlying s with|some (.int _)=>true|_=>false)&&qV P d
 | .range t x,.rngE y=>qh x y&&(js P t).isSome
 | .next x false,.nxtE y=>qh x y
 | .entry x,.entE y=>qh x y
 | .convert s d x,.cvStr y=>qh x y&&qV P s&&qV P d
 | .convert s d x,.s2b y=>qh x y&&qV P s&&(match qx P d with|some e=>qcX P e .u8|none=>false)
 | .convert s d x,.b2s y=>qh x y&&qV P d&&(match qx P s with|some e=>qcX P e .u8|none=>false)
 | .fieldAddr t x f,.fAddr off y=>qh x y&&(match fieldsOf P t with|some fs=>(match fs[f]? with|some fd=>fd.offset==off && !qo P fd.type 0&&(P.info? fd.type).isSome|none=>false)|none=>false)
 | .field t x f,.fld off n y=>qh x y&&qbj P ((fieldsOf P t).bind (·[f]?)) off n
 | .indexAddr t x ix,.iAddrA len esz x' i'=>qh x x'&&qh ix i'&&(match wc P t with|some (n,e)=>n==len&&qo P e esz|none=>false)
 | .indexAddr t x ix,.iAddrS esz x' i'=>qh x x'&&qh ix i'&&(match qx P t with|some e=>qo P e esz|none=>false)
 | .index t x ix,.idxA len esz agg x' i'=>qh x x'&&qh ix i'&&(match wc P t with|some (n,e)=>n==len&&qo P e esz&&zy P e==agg&&(P.underlying e).isSome|none=>false)
 | .index t x ix,.idxS x' i'=>qh x x'&&qh ix i'&&qV P t
 | .slice t x lo hi mx,.slcS esz x' lo' hi' mx'=>qh x x'&&zj lo lo'&&zj hi hi'&&zj mx mx'&&(match qx P t with|some e=>qo P e esz|none=>false)
 | .slice t x lo hi none,.slcStr x' lo' hi'=>qh x x'&&zj lo lo'&&zj hi hi'&&qV P t
 | .slice t x lo hi mx,.slcA len esz x' lo' hi' mx'=>qh x x'&&zj lo lo'&&zj hi hi'&&zj mx mx'&&(match wc P t with|some (n,e)=>n==len&&qo P e esz|none=>false)
 | .extract x i,.ext y j=>qh x y&&i==j
 | .makeFunc (.func f) a c,.mkF g a' c'=>f==g&&x8 a.toList a'&&x8 c.toList c'
 | .makeSlice t l c,.mkS esz bytes z l' c'=>qh l l'&&qh c c'&&(match qx P t with|some e=>qo P e esz&&zG P e bytes&&zt P e z|none=>false)
 | .makeMap _ none,.mkM=>true
 | .makeMap t (some (.const (.int _ _))),.mkM=>(js P t).isSome
 | .lookup t x i ok,.lookM kd ok' z x' i'=>qh x x'&&qh i i'&&ok==ok'&&wk P t kd&&(match js P t with|some (_,e)=>qdM P e z|none=>false)
 | .mapUpdate t m i v,.updM kd m' i' v'=>qh m m'&&qh i i'&&qh v v'&&wk P t kd
 | .insert t m i v,.updM kd m' i' v'=>qh m m'&&qh i i'&&qh v v'&&wk P t kd
 | _,.no=>true
 | .range t x,.rangeS y=>qh x y&&qV P t
 | .next x true,.nextS y=>qh x y
 | .call { callee:=.builtin b,args,argTypes },r=>xD P b argTypes args.toList r
 | _,_=>false
def jB(P:Program)(o:Op)(r:RK):Bool :=
 match o,r with
 | .call { callee:=.value (.func f),args,.. },.callF g bs=>f==g&&x8 args.toList bs
 | .call { callee:=.value x,args,.. },.callV y bs=>qh x y&&x8 args.toList bs
 | .call { callee:=.value (.func f),args,.. },.callW g bs=>f==g&&x8 args.toList bs
 | .call { callee:=.value x,args,.. },.callVW y bs=>qh x y&&x8 args.toList bs
 | o,.op r=>qaj P o r
 | _,_=>false

def TR(σ:Nat->Value)(ρ:Ren)(t:Tr AV)(tm:Array Value):Prop:=∀n v,t.get n=some v->n<tm.size∧VR σ ρ v (tm.getD n undef)
omit [Cur] in
theorem TR.mono{t:Tr AV}{tm:Array Value}(h:TR σ ρ t tm)(hρ:ρ.le ρ'):TR σ ρ' t tm :=
 fun n v hv=>⟨(h n v hv).1,(h n v hv).2.mono hρ⟩

theorem ql{t:Tr AV}{a:Act}(ht:TR σ ρ t a.tmps){x:O}{y:Operand}(hc:qh y x=true){k:AV->Prop}(h:evK t x k):∃v,k v∧VR σ ρ v (a.eval y):=by
 cases x with
 | t n =>
  obtain⟨v,hv,hk⟩:=(Tr.getK_iff _ _ _).1 h;cases y<;>simp[qh] at hc;subst hc;exact⟨v,hk,(ht _ v hv).2⟩
 | c v =>
  refine⟨v,h,?_⟩;cases y with
  | tmp n=>simp[qh] at hc
  | const u=>exact qcu v u (by simpa[qh] using hc)
  | global g=>simp[qh] at hc
  | func f =>
   have:v = .fn f [] []:=by
    unfold qh at hc;split at hc<;>simp_all
   subst this;exact .fn _ _ _ _ _ .nil .nil
theorem wl{t:Tr AV}{a:Act}(ht:TR σ ρ t a.tmps):∀{xs:List O} {ys:List Operand} (_:x8 ys xs=true) {k:List AV->Prop} (_:zn t xs k),∃vs,k vs∧VRs σ ρ vs (ys.map a.eval)
 | [],[],_,_,h=>⟨[],h,.nil⟩
 | x::xs,y::ys,hc,k,h=>by
  simp[x8] at hc;obtain⟨v,h1,hv⟩:=ql ht hc.1 h;obtain⟨vs,h2,hvs⟩:=wl ht hc.2 h1;exact⟨v::vs,h2,.cons _ _ _ _ hv hvs⟩
 | [],_::_,hc,_,_=>by simp[x8] at hc
 | _::_,[],hc,_,_=>by simp[x8] at hc
end Go.Kc
end
section
namespace Go.Kc
variable [Cur]
variable {σ:Nat->Value} {ρ ρ':Ren} {P:Program}

def zq(σ:Nat->Value):Prop:=∀j,(σ j).oneCell'=true

omit [Cur] in
theorem qem(hσ:zq σ){v:AV}{v':Value}(h:VR σ ρ v v')(hc:qH v=true):v'.oneCell'=true:=by
 cases h<;>first|rfl|(exact hσ _)|(exact absurd hc (by simp[qH]))
omit [Cur] in
theorem ji(hσ:zq σ):∀{vs:List AV} {vs':List Value} (_:VRs σ ρ vs vs') (_:qu vs=true),∀v ∈ vs',v.oneCell'=true
 | [],_,.nil,_=>by simp
 | v::vs,_,.cons _ _ v' vs' h hs,hc=>by
  have h2:qH v=true∧qu vs=true:=by
   have:(Bool.rec (motive:=fun _=>Bool) true (qu vs) (qH v):Bool)=true∨True:=Or.inr trivial
   have hc':(Bool.rec (motive:=fun _=>Bool) false (qu vs) (qH v):Bool)=true:=hc
   cases h1:qH v<;>simp_all
  intro u hu;rcases List.mem_cons.1 hu with rfl|hu
  ·grind[qem]
  ·exact ji hσ hs h2.2 u hu

omit [Cur] in
theorem zP{w:World}{k:Nat}{c:Array Value}{ty:TypeId}{fz:Nat×Nat}(h:w.heap[k]?=some (.cells c ty fz))(o:Nat):w.cell? ⟨k,o,none⟩=c[o]?:=by
 simp[World.cell?,h]
omit [Cur] in
theorem wm{w:World}{k:Nat}{c:Array Value}{ty:TypeId}{fz:Nat×Nat}(h:w.heap[k]?=some (.cells c ty fz))(o:Nat):w.frozen? ⟨k,o,none⟩=decide (fz.1<=o∧o<fz.2):=by
 simp[World.frozen?,h]
omit [Cur] in
theorem qT(k o n:Nat):(⟨k,o,none⟩:Addr).add n=⟨k,o+n,none⟩:=by
 unfold Addr.add;split<;>simp_all

theorem qja{B:Nat->Prop}{h:Hp}{w:World}(r:Rel σ ρ B h w){b off:Nat}{L:Loc}(hb:ρ b=some L){k:AV->Prop}(hk:ldK h b off k) :
  ∃v v',k v∧VR σ ρ v v'∧w.cell? ⟨L.blk,L.off+off,none⟩=some v':=by
 obtain⟨e,wf,af,cs,hg,hn⟩:=(qq _ _ _).1 hk;obtain⟨v,hv,hk⟩:=(qX _ _ _).1 hn;obtain⟨_,c,ty,fz,h1,_,_,h4,_⟩:=r.cells b L e wf af cs hb hg
 grind[zP]

theorem xX{B:Nat->Prop}{h:Hp}{w:World}(r:Rel σ ρ B h w){b off n:Nat}{L:Loc}(hb:ρ b=some L){k:List AV->Prop}(hk:zX h b off n k) :
  ∃vs vs',k vs∧VRs σ ρ vs vs'∧vs'.length=n∧(∀j v,vs'[j]?=some v->w.cell? ⟨L.blk,L.off+off+j,none⟩=some v):=by
 obtain⟨e,wf,af,cs,hg,hn⟩:=(qq _ _ _).1 hk;obtain⟨hl,hn⟩:=(qA _ _ _).1 hn;obtain⟨hl2,hk⟩:=(qt _ _ _).1 hn;rw[List.length_drop] at hl2;obtain⟨_,c,ty,fz,h1,h2,h3,h4,_⟩:=r.cells b L e wf af cs hb hg;refine⟨_,((c.toList.drop (L.off+off)).take n),hk,?_,?_,?_⟩
 ·refine VRs.of_get ?_ ?_
  ·simp;omega
  ·intro j a ha;rw[List.getElem?_take] at ha;split at ha
   ·rw[List.getElem?_drop] at ha;obtain⟨v',h5,h6⟩:=h4 _ _ ha;refine⟨v',?_,h6⟩;rw[List.getElem?_take_of_lt (by assumption),List.getElem?_drop];rw[Array.getElem?_toList,← h5];congr 1;omega
   ·cases ha
 all_goals grind[zP]

theorem qke{B:Nat->Prop}{h:Hp}{w:World}(r:Rel σ ρ B h w){p:AV}{p':Value}(hp:VR σ ρ p p'){k:AV->Prop}(hk:ldV h p k) :
  ∃c o v v',p' = .pointer (some ⟨c,o,none⟩)∧k v∧VR σ ρ v v'∧w.cell? ⟨c,o,none⟩=some v':=by
 cases hp<;>try exact hk.elim
 ·rename_i b o L hb;obtain⟨v,v',h1,h2,h3⟩:=qja r hb hk
  grind
 ·rename_i off base cs c arr hf hs;obtain⟨v,hv,hk⟩:=(qX _ _ _).1 hk;obtain⟨v',h1,h2⟩:=hs.get hv;obtain⟨⟨ty,fz,h3⟩,_⟩:=r.frz c arr hf;refine⟨c,base+off,v,v',rfl,hk,h2.vr,?_⟩;rw[zP h3];rw[List.getElem?_take] at h1
  simp_all
theorem qim{B:Nat->Prop}{h:Hp}{w:World}(r:Rel σ ρ B h w){p:AV}{p':Value}(hp:VR σ ρ p p'){n:Nat}{k:List AV->Prop}(hk:qa4 h p n k) :
  ∃c o vs vs',p' = .pointer (some ⟨c,o,none⟩)∧k vs∧VRs σ ρ vs vs'∧vs'.length=n∧(∀j v,vs'[j]?=some v->w.cell? ⟨c,o+j,none⟩=some v):=by
 cases hp<;>try exact hk.elim
 ·rename_i b o L hb;obtain⟨vs,vs',h1,h2,h3,h4⟩:=xX r hb hk
  grind
 ·rename_i off base cs c arr hf hs;obtain⟨h1,hk⟩:=(qA _ _ _).1 hk;obtain⟨h2,hk⟩:=(qt _ _ _).1 hk;obtain⟨⟨ty,fz,h3⟩,_⟩:=r.frz c arr hf;rw[List.length_drop] at h2;have hlen:=hs.length;refine⟨c,base+off,_,_,rfl,hk,((hs.drop off).take n).vr,?_,?_⟩
  all_goals grind[zP]

omit [Cur] in
theorem xe{w:World}{k o n:Nat}{vs:List Value}(hl:vs.length=n)(h:∀j v,vs[j]?=some v->w.cell? ⟨k,o+j,none⟩=some v) :
  (loadCells ⟨k,o,none⟩ n).run P w = .ok vs.toArray w:=by
 grind[Go.run_loadCells_list,qT]

omit [Cur] in
theorem xv{k:Nat}{ty:TypeId}{fz:Nat×Nat}:∀(vs:List Value) (o:Nat) (w:World) (c:Array Value),w.heap[k]?=some (.cells c ty fz)->o+vs.length<=c.size->
  ∃c',Spl c o vs c'∧(w.setCells k o vs).heap=w.heap.setIfInBounds k (.cells c' ty fz)
 | [],o,w,c,h,_=>by
  refine⟨c,⟨rfl,fun _ _=>rfl,by simp_all⟩,?_⟩
  show w.heap=_
  grind
 | v::vs,o,w,c,h,hl=>by
  simp only[List.length_cons] at hl;have hlt:k<w.heap.size:=by grind
  have e1:(w.setCell ⟨k,o,none⟩ v).heap=w.heap.setIfInBounds k (.cells (c.setIfInBounds o v) ty fz):=by
   simp only[World.setCell]
   grind
  have h1:(w.setCell ⟨k,o,none⟩ v).heap[k]?=some (.cells (c.setIfInBounds o v) ty fz):=by
   rw[e1,Array.getElem?_setIfInBounds];grind
  obtain⟨c',hs,hw⟩:=xv vs (o+1) _ _ h1 (by grind);refine⟨c',⟨by rw[hs.size];simp,?_,?_⟩,?_⟩
  ·intro j hj;simp only[List.length_cons] at hj;rw[hs.out j (by omega),Array.getElem?_setIfInBounds,if_neg (by omega)]
  ·intro j u hu;cases j with
   | zero =>
    simp at hu;subst hu;rw[hs.out _ (by omega),Array.getElem?_setIfInBounds];grind
   | succ j =>
    have:=hs.inn j u (by simp_all);rwa [show o+1+j=o+(j+1) from by omega] at this
  ·rw[World.setCells,hw,e1]
   simp_all

omit [Cur] in
theorem xR(k:Nat):∀(vs:List Value) (o:Nat) (w:World),(w.setCells k o vs).os=w.os∧(w.setCells k o vs).output=w.output
 | [],_,_=>⟨rfl,rfl⟩
 | v::vs,o,w=>xR k vs (o+1) (w.setCell ⟨k,o,none⟩ v)

theorem qd6(hσ:zq σ){B:Nat->Prop}{h:Hp}{w:World}(r:Rel σ ρ B h w){b off:Nat}{L:Loc}(hb:ρ b=some L){vs:List AV}{vs':List Value}(hv:VRs σ ρ vs vs'){k:Hp->Prop}(hk:stK h b off vs k) :
  ∃h' w',k h'∧Rel σ ρ B h' w'∧Kept ρ B h w ρ h' w'∧(storeCells ⟨L.blk,L.off+off,none⟩ vs').run P w = .ok () w':=by
 obtain⟨e,wf,af,cs,hg,hn⟩:=(qq _ _ _).1 hk;cases wf with
 | false=>simp_all
 | true =>
  have hn':(Bool.rec (motive:=fun _=>Prop) False (zd vs off cs (fun cs'=>qY h b (.cells e true af cs') k)) (qu vs):Prop):=hn
  cases hco:qu vs with
  | false=>rw[hco] at hn';simp_all
  | true =>
   rw[hco] at hn';obtain⟨hl,hn2⟩:=(zi _ _ _ _).1 hn';obtain⟨hf,hk⟩:=(qC _ _ _ _).1 hn2;obtain⟨_,c,ty,fz,h1,h2,h3,h4,h5⟩:=r.cells b L e true af cs hb hg;have hlen:=hv.length;obtain⟨c',hs,hw⟩:=xv vs' (L.off+off) w c h1 (by omega);obtain⟨r',k'⟩:=r.store hb hg hf off vs vs' hv hl h1 hs hw (xR _ _ _ _);refine⟨_,w.setCells L.blk (L.off+off) vs',hk,r',k',?_⟩
   have:=run_storeCells_cells (P:=P) L.blk (L.off+off) vs' 0 w (fun j hj=>by
     rw[zP h1];simp;omega) (fun j hj=>by
     rw[wm h1];simp only[decide_eq_false_iff_not];exact h5 (by simp) _ (by omega)) (ji hσ hv hco)
   omega

theorem xH{B:Nat->Prop}{h:Hp}{w w1:World}(r:Rel σ ρ B h w){e:Nat}{wf af:Bool}{cs:List AV}{c:Array Value}{ty:TypeId}(hc:∃z:List Value,c.toList=z∧VRs σ ρ cs (z.take cs.length))
  {k:Nat->Hp->Prop} (hk:qN h (.cells e wf af cs) k) {fz:Nat×Nat} (hw:w1.heap=w.heap.push (.cells c ty fz)) (hfz:∀j,(j<c.size∨(e=0∧j=c.size))->¬(fz.1<=j∧j<fz.2):=by intro j _ hj;exact absurd hj.2 (Nat.not_lt_zero _)) (hio:w1.os=w.os∧w1.output=w.output:=by exact⟨rfl,rfl⟩) :
  ∃ρ' h',k h.sz h'∧Rel σ ρ' B h' w1∧Kept ρ B h w ρ' h' w1∧ρ' h.sz=some ⟨w.heap.size,0,c.size,e⟩:=by
 obtain⟨z,rfl,hv⟩:=hc;have hl:=hv.length;simp at hl;obtain⟨r',k'⟩:=r.push e wf af cs c ty fz hfz hw hio (by omega) (by grind[VRs.get])
 grind[qv,Ren.add_self]
end Go.Kc
end
