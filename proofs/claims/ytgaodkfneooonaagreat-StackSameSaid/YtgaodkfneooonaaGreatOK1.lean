/- Part 1 of the abstract machine and of the functions' walks. Conditions: with each theorem. -/
import GoSem.Step
import Derived.Laws.IdiomCopy
import Derived.Laws.AppendOwn
import Derived.Laws.Append
import Derived.Calls
import Derived.ChangeKeysEq
import Derived.Laws.Sem
import Derived.Laws.Strings2
set_option maxHeartbeats 4000000
set_option linter.defProp false
set_option linter.unusedSectionVars false
set_option linter.unusedSimpArgs false
set_option linter.unusedVariables false
set_option linter.unnecessarySimpa false
section
namespace Go.Kc
theorem zzA{a b:Prop}(x:a)(y:b):a∧b:=⟨x,y⟩
theorem zzB(a b:Bool):((a&&b)=true)=(a=true∧b=true):=by first|exact Bool.and_eq_true _ _|exact Bool.and_eq_true _|exact Bool.and_eq_true
theorem zzO(a b:Bool):((a||b)=true)=(a=true∨b=true):=by first|exact Bool.or_eq_true _ _|exact Bool.or_eq_true _|exact Bool.or_eq_true
theorem zzL(n:Nat):n≤n:=by first|exact Nat.le_refl _ _|exact Nat.le_refl _|exact Nat.le_refl
theorem zzC{α:Type _}{a:α}{l m:List α}:a::l++m=a::(l++m):=by first|exact List.cons_append _ _|exact List.cons_append _|exact List.cons_append
theorem zzN{α:Type _}(l:List α):[]++l=l:=by first|exact List.nil_append _ _|exact List.nil_append _|exact List.nil_append
theorem zzP{α:Type _}{l m:List α}:(l++m).length=l.length+m.length:=by first|exact List.length_append _ _|exact List.length_append _|exact List.length_append
theorem zzU(n:Nat):n*1=n:=by first|exact Nat.mul_one _ _|exact Nat.mul_one _|exact Nat.mul_one
def zzE{α:Type _}{l:List α}{i:Nat}(h:i<l.length):l[i]?=some l[i]:=List.getElem?_eq_getElem h
def zzS{α:Type _}{l:List α}{i:Nat}{a:α}:l[i]?=some a↔∃h:i<l.length,l[i]=a:=List.getElem?_eq_some_iff
def zzM{α:Type _}{l:List α}{i:Nat}{a:α}(h:l[i]?=some a):a∈l:=List.mem_of_getElem? h

inductive Tr (α:Type) where
 | leaf
 | node (v:Option α) (l r:Tr α)

namespace Tr
variable {α:Type}
noncomputable def get(t:Tr α):Nat->Option α :=
 Tr.rec (λ_=>none) (λv _ _ gl gr n=>Nat.rec v (λm _=>Bool.rec (gr (Nat.div m 2)) (gl (Nat.div m 2)) (Nat.beq (Nat.mod m 2) 0)) n) t

noncomputable def getK(t:Tr α):Nat->(α->Prop)->Prop :=
 Tr.rec (motive:=λ_=>Nat->(α->Prop)->Prop) (λ_ _=>False)
  (λv _ _ gl gr n k=>Nat.rec (motive:=λ_=>Prop) (Option.rec (motive:=λ_=>Prop) False k v)
   (λm _=>Bool.rec (motive:=λ_=>Prop) (gr (Nat.div m 2) k) (gl (Nat.div m 2) k) (Nat.beq (Nat.mod m 2) 0)) n) t

noncomputable def mk(f:Nat):Nat->α->Tr α :=
 Nat.rec (λ_ _=>.leaf) (λ_ ih n x=>Nat.rec (.node (some x) .leaf .leaf)
  (λm _=>Bool.rec (.node none .leaf (ih (Nat.div m 2) x)) (.node none (ih (Nat.div m 2) x) .leaf) (Nat.beq (Nat.mod m 2) 0)) n) f

noncomputable def mkK(f:Nat):Nat->α->(Tr α->Prop)->Prop :=
 Nat.rec (motive:=λ_=>Nat->α->(Tr α->Prop)->Prop) (λ_ _ k=>k .leaf) (λ_ ih n x k=>Nat.rec (motive:=λ_=>Prop) (k (.node (some x) .leaf .leaf))
  (λm _=>Bool.rec (motive:=λ_=>Prop) (ih (Nat.div m 2) x (λr=>k (.node none .leaf r))) (ih (Nat.div m 2) x (λl=>k (.node none l .leaf))) (Nat.beq (Nat.mod m 2) 0)) n) f

noncomputable def set(t:Tr α):Nat->α->Tr α :=
 Tr.rec (λn x=>mk (Nat.succ n) n x) (λv l r sl sr n x=>Nat.rec (.node (some x) l r)
  (λm _=>Bool.rec (.node v l (sr (Nat.div m 2) x)) (.node v (sl (Nat.div m 2) x) r) (Nat.beq (Nat.mod m 2) 0)) n) t

noncomputable def setK(t:Tr α):Nat->α->(Tr α->Prop)->Prop :=
 Tr.rec (motive:=λ_=>Nat->α->(Tr α->Prop)->Prop) (λn x k=>mkK (Nat.succ n) n x k) (λv l r sl sr n x k=>Nat.rec (motive:=λ_=>Prop) (k (.node (some x) l r))
  (λm _=>Bool.rec (motive:=λ_=>Prop) (sr (Nat.div m 2) x (λr'=>k (.node v l r'))) (sl (Nat.div m 2) x (λl'=>k (.node v l' r))) (Nat.beq (Nat.mod m 2) 0)) n) t

def qsC(m:Nat):Nat.beq (Nat.mod m 2) 0=decide (m % 2=0):=by
 show Nat.beq (m % 2) 0=_;rcases h:m % 2 with _|k
 .rfl
 .simp[Nat.beq]

@[simp] theorem get_leaf (n:Nat):(Tr.leaf:Tr α).get n=none:=rfl
theorem get_node(v:Option α)(l r:Tr α)(n:Nat) :
  (Tr.node v l r).get n=match n with|0=>v|m+1=>if m % 2=0 then l.get (m / 2)else r.get (m / 2):=by
 cases n with
 | zero=>rfl
 | succ m =>
  show(Bool.rec (motive:=λ_=>Option α) (r.get (Nat.div m 2)) (l.get (Nat.div m 2)) (Nat.beq (Nat.mod m 2) 0):Option α)=_
  rw[qsC]
  by_cases h:m % 2=0<;>simp only[h,decide_true,decide_false,if_true,if_false]<;>rfl
theorem set_node(v:Option α)(l r:Tr α)(n:Nat)(x:α) :
  (Tr.node v l r).set n x=match n with|0=>.node (some x) l r|m+1=>if m % 2=0 then .node v (l.set (m / 2) x) r else .node v l (r.set (m / 2) x):=by
 cases n with
 | zero=>rfl
 | succ m =>
  show Bool.rec (motive:=λ_=>Tr α) (Tr.node v l (r.set (Nat.div m 2) x)) (Tr.node v (l.set (Nat.div m 2) x) r) (Nat.beq (Nat.mod m 2) 0)=_
  rw[qsC]
  by_cases h:m % 2=0<;>simp only[h,decide_true,decide_false,if_true,if_false]<;>rfl
theorem mk_succ(f n:Nat)(x:α) :
  (mk (f+1) n x)=match n with|0=>.node (some x) .leaf .leaf|m+1=>if m % 2=0 then .node none (mk f (m / 2) x) .leaf else .node none .leaf (mk f (m / 2) x):=by
 cases n with
 | zero=>rfl
 | succ m =>
  show Bool.rec (motive:=λ_=>Tr α) (Tr.node none .leaf (mk f (Nat.div m 2) x)) (Tr.node none (mk f (Nat.div m 2) x) .leaf) (Nat.beq (Nat.mod m 2) 0)=_
  rw[qsC]
  by_cases h:m % 2=0<;>simp only[h,decide_true,decide_false,if_true,if_false]<;>rfl

def qCZ(f:Nat):∀(n:Nat) (x:α),n<f->∀j,(mk f n x).get j=if j=n then some x else none:=by
 induction f<;>grind[Tr.mk_succ,Tr.get_node,Tr.get_leaf]

theorem get_set(t:Tr α):∀(n:Nat) (x:α) (j:Nat),(t.set n x).get j=if j=n then some x else t.get j:=by
 induction t with
 | leaf=>intro n x j;show(mk (n+1) n x).get j=_;rw[qCZ _ _ _ (by omega)];rfl
 | node v l r ihl ihr =>
  grind[Tr.set_node,Tr.get_node]

theorem getK_iff(t:Tr α):∀(n:Nat) (k:α->Prop),t.getK n k↔∃v,t.get n=some v/\k v:=by
 induction t with
 | leaf => intro n k;constructor
           .intro h;exact h.elim
           simp_all
 | node v l r ihl ihr =>
  intro n k;cases n with
  | zero =>
   show(Option.rec (motive:=λ_=>Prop) False k v:Prop)↔_
   cases v<;>grind[Tr.get_node]
  | succ m =>
   show(Bool.rec (motive:=λ_=>Prop) (r.getK (Nat.div m 2) k) (l.getK (Nat.div m 2) k) (Nat.beq (Nat.mod m 2) 0):Prop)↔_
   rw[qsC,get_node]
   by_cases h:m % 2=0
   .simp only[h,decide_true,if_true];exact ihl _ _
   .simp only[h,decide_false,if_false];exact ihr _ _

def qzH(f:Nat):∀(n:Nat) (x:α) (k:Tr α->Prop),mkK f n x k↔k (mk f n x):=by
 induction f with
 | zero=>intro n x k;exact Iff.rfl
 | succ f ih =>
  intro n x k;cases n with
  | zero=>exact Iff.rfl
  | succ m =>
   show(Bool.rec (motive:=λ_=>Prop) (mkK f (Nat.div m 2) x (λr=>k (.node none .leaf r))) (mkK f (Nat.div m 2) x (λl=>k (.node none l .leaf))) (Nat.beq (Nat.mod m 2) 0):Prop)↔_
   rw[qsC,mk_succ]
   by_cases h:m % 2=0
   .simp only[h,decide_true,if_true];exact ih _ _ _
   .simp only[h,decide_false,if_false];exact ih _ _ _

theorem setK_iff(t:Tr α):∀(n:Nat) (x:α) (k:Tr α->Prop),t.setK n x k↔k (t.set n x):=by
 induction t with
 | leaf=>intro n x k;exact qzH (n+1) n x k
 | node v l r ihl ihr =>
  intro n x k;cases n with
  | zero=>exact Iff.rfl
  | succ m =>
   show(Bool.rec (motive:=λ_=>Prop) (r.setK (Nat.div m 2) x (λr'=>k (.node v l r'))) (l.setK (Nat.div m 2) x (λl'=>k (.node v l' r))) (Nat.beq (Nat.mod m 2) 0):Prop)↔_
   rw[qsC,set_node]
   by_cases h:m % 2=0
   .simp only[h,decide_true,if_true];exact ihl _ _ _
   .simp only[h,decide_false,if_false];exact ihr _ _ _
end Tr

inductive AV where
 | b (x:Bool)
 | i (k:IntKind) (n:Int)
 | s (x:List UInt8)
 | nilp
 | ptr (blk off:Nat)
 | nils
 | sl (blk off len cap:Nat) (loose:Bool)
 | nilf
 | fn (f:Nat) (first cap:List AV)
 | nili
 | ifc (t:Nat) (v:AV)
 | agg (cs:List AV)
 | tup (cs:List AV)
 | nilm
 | map (r:Nat)
 | sym (id:Nat)
 | undef
 | fz (n:Nat) (cs:List AV)
 | pf (cs:List AV) (off:Nat)
 | e0
 | own (blk n:Nat)
 | nz
 | yl (blk:Nat)
 | lp (r:Loop)

inductive Blk where
 | cells (esz:Nat) (w a:Bool) (cs:List AV)
 | dead
 | map (es:List (AV×AV))

structure Hp where
 sz:Nat
 fl:Nat
 tr:Tr Blk

inductive O where
 | t (n:Nat)
 | c (v:AV)

inductive PK where
 | b|i|s

inductive NK where
 | ptr|slice|func|iface|map

inductive IOp where
 | mov (x:O)
 | pick (c x y:O)
 | alloc (zero:List AV)
 | box (x:O)
 | build (zero:List AV) (parts:List (Nat×Nat×O))
 | buildS (len:Nat) (zero:List AV) (parts:List (Nat×Nat×O))
 | load1 (x:O)
 | loadN (n:Nat) (x:O)
 | store (n:Nat) (x v:O)
 | nilChk (x:O)
 | bin (op:BinOp) (x y:O)
 | eqN (neg:Bool) (q:NK) (x:O)
 | un (op:UnOp) (x:O)
 | cvInt (k:IntKind) (x:O)
 | fAddr (off:Nat) (x:O)
 | fld (off:Nat) (n:Option Nat) (x:O)
 | iAddrA (len esz:Nat) (x i:O)
 | iAddrS (esz:Nat) (x i:O)
 | idxA (len esz:Nat) (agg:Bool) (x i:O)
 | idxS (x i:O)
 | slcS (esz:Nat) (x:O) (lo hi mx:Option O)
 | slcA (len esz:Nat) (x:O) (lo hi mx:Option O)
 | ext (x:O) (i:Nat)
 | mkF (f:Nat) (first cap:List O)
 | mkS (esz bytes:Nat) (zero:List AV) (len cap:O)
 | len (str:Bool) (x:O)
 | app (esz bytes:Nat) (consume:Bool) (s x:O)
 | max (x y:O)
 | clear (zero:List AV) (x:O)
 | mkM
 | lookM (kd:Option IntKind) (ok:Bool) (zero:AV) (x i:O)
 | updM (kd:Option IntKind) (x i v:O)
 | min (x y:O)
 | storeD (n:Nat) (x v:O) (ps:List Nat)
 | appD (esz bytes:Nat) (s x:O) (ps:List Nat)
 | no

inductive RK where
 | op (o:IOp)
 | callF (f:Nat) (args:List O)
 | callV (x:O) (args:List O)
 | callW (f:Nat) (args:List O)
 | callVW (x:O) (args:List O)

structure ROp where
 dst:Option Nat
 k:RK
 guard:Option (Nat×Bool)

inductive ICode where
 | skip
 | reg (draw:Bool) (ops:List ROp)
 | seq (x y:ICode)
 | cond (c:O) (x y:ICode)
 | blk (id:Nat) (x:ICode)
 | loop (x:ICode)
 | exit (id:Nat)
 | ret
 | no
 | cut (x:ICode)
 | rangeF (j:Nat) (g:O) (ps:List Nat) (x y:ICode)

inductive RV where
 | tmp (n:Nat)
 | cell (n size:Nat) (agg:Bool)

structure IFn where
 res:List RV
 body:ICode

inductive X where
 | normal
 | exit (id:Nat)
 | ret

structure Orc where
 bin:BinOp->AV->AV->Option AV
 len:Nat->Option AV
 cv:IntKind->Nat->Option AV

noncomputable def qv(n:Nat)(k:Nat->Prop):Prop:=Nat.rec (motive:=λ_=>Prop) (k 0) (λm _=>k (Nat.succ m)) n
noncomputable def xM(n:Int)(k:Int->Prop):Prop:=Int.rec (motive:=λ_=>Prop) (λm=>qv m (λm=>k (.ofNat m))) (λm=>qv m (λm=>k (.negSucc m))) n
noncomputable def qX(x:Bool)(k:Bool->Prop):Prop:=Bool.rec (motive:=λ_=>Prop) (k false) (k true) x
@[simp] theorem qC (n:Nat) (k:Nat->Prop):qv n k=k n:=by cases n<;>rfl
@[simp] theorem zy (n:Int) (k:Int->Prop):xM n k=k n:=by cases n<;>simp[xM]
@[simp] theorem qT (n:Bool) (k:Bool->Prop):qX n k=k n:=by cases n<;>rfl

noncomputable def qiw(l:List AV):Nat->(AV->Prop)->Prop :=
 List.rec (motive:=λ_=>Nat->(AV->Prop)->Prop) (λ_ _=>False) (λx _ ih n k=>Nat.rec (motive:=λ_=>Prop) (k x) (λm _=>ih m k) n) l
noncomputable def qcK(n:Nat):List AV->(List AV->Prop)->Prop :=
 Nat.rec (motive:=λ_=>List AV->(List AV->Prop)->Prop) (λ_ k=>k []) (λ_ ih l k=>List.rec (motive:=λ_=>Prop) False (λx xs _=>ih xs (λys=>k (x::ys))) l) n
noncomputable def qc6(n:Nat):List AV->(List AV->Prop)->Prop :=
 Nat.rec (motive:=λ_=>List AV->(List AV->Prop)->Prop) (λl k=>k l) (λ_ ih l k=>List.rec (motive:=λ_=>Prop) False (λ_ xs _=>ih xs k) l) n
noncomputable def qBv(vs:List AV):List AV->(List AV->Prop)->Prop :=
 List.rec (motive:=λ_=>List AV->(List AV->Prop)->Prop) (λl k=>k l) (λv _ ih l k=>List.rec (motive:=λ_=>Prop) False (λ_ xs _=>ih xs (λys=>k (v::ys))) l) vs
noncomputable def jo(vs:List AV)(off:Nat):List AV->(List AV->Prop)->Prop :=
 Nat.rec (motive:=λ_=>List AV->(List AV->Prop)->Prop) (λl k=>qBv vs l k) (λ_ ih l k=>List.rec (motive:=λ_=>Prop) False (λx xs _=>ih xs (λys=>k (x::ys))) l) off
noncomputable def qmw(zy:List AV)(bs:List AV)(k:List AV->Prop):Prop :=
 List.rec (motive:=λ_=>(List AV->Prop)->Prop) (λk=>k bs) (λx _ ih k=>ih (λys=>k (x::ys))) zy k
noncomputable def qhJ(l:List AV)(k:Nat->Prop):Prop :=
 List.rec (motive:=λ_=>Nat->(Nat->Prop)->Prop) (λn k=>k n) (λ_ _ ih n k=>qv (Nat.succ n) (λm=>ih m k)) l 0 k
noncomputable def qkC(z:List AV)(n:Nat)(k:List AV->Prop):Prop :=
 Nat.rec (motive:=λ_=>(List AV->Prop)->Prop) (λk=>k []) (λ_ ih k=>ih (λys=>qmw z ys k)) n k

theorem x9(l:List AV):∀(n:Nat) (k:AV->Prop),qiw l n k↔∃v,l[n]?=some v/\k v:=by
 induction l with
 | nil => intro n k;constructor
          .intro h;exact h.elim
          simp_all
 | cons x xs ih =>
  intro n k;cases n with
  | zero=>simp only[List.getElem?_cons_zero,Option.some.injEq];exact⟨λh=>⟨x,rfl,h⟩,fun⟨v,h,hk⟩=>h ▸ hk⟩
  | succ n=>simp only[List.getElem?_cons_succ];exact ih n k
theorem zK(n:Nat):∀(l:List AV) (k:List AV->Prop),qcK n l k↔n<=l.length/\k (l.take n):=by
 induction n with
 | zero=>intro l k;simp;exact Iff.rfl
 | succ n ih =>
  intro l k;cases l with
  | nil=>simp;exact λh=>h
  | cons x xs=>simp only[List.length_cons,List.take_succ_cons,Nat.add_le_add_iff_right];exact ih xs (λys=>k (x::ys))
theorem zP(n:Nat):∀(l:List AV) (k:List AV->Prop),qc6 n l k↔n<=l.length/\k (l.drop n):=by
 induction n with
 | zero=>intro l k;simp;exact Iff.rfl
 | succ n ih =>
  intro l k;cases l with
  | nil=>simp;exact λh=>h
  | cons x xs=>simp only[List.length_cons,List.drop_succ_cons,Nat.add_le_add_iff_right];exact ih xs k
def qtK(vs:List AV):∀(l:List AV) (k:List AV->Prop),qBv vs l k↔vs.length<=l.length/\k (vs++l.drop vs.length):=by
 induction vs with
 | nil=>intro l k;simp;exact Iff.rfl
 | cons v vs ih =>
  intro l k;cases l with
  | nil=>simp;exact λh=>h
  | cons x xs=>simp only[List.length_cons,List.drop_succ_cons,Nat.add_le_add_iff_right,zzC];exact ih xs (λys=>k (v::ys))
theorem jG(vs:List AV)(off:Nat):∀(l:List AV) (k:List AV->Prop),
  jo vs off l k↔off+vs.length<=l.length/\k (l.take off++(vs++l.drop (off+vs.length))):=by
 induction off with
 | zero=>intro l k;simp only[Nat.zero_add,List.take_zero,zzN];exact qtK vs l k
 | succ n ih =>
  intro l k;cases l with
  | nil => simp only[List.length_nil,Nat.le_zero];constructor
           .intro h;exact h.elim
           omega
  | cons x xs =>
   have e:n+1+vs.length=(n+vs.length)+1:=by omega
   simp only[e,List.length_cons,List.take_succ_cons,List.drop_succ_cons,Nat.add_le_add_iff_right,zzC];exact ih xs (λys=>k (x::ys))
theorem qaY(zy bs:List AV):∀(k:List AV->Prop),qmw zy bs k↔k (zy++bs):=by
 induction zy with
 | nil=>intro k;exact Iff.rfl
 | cons x xs ih=>intro k;exact ih (λys=>k (x::ys))
theorem jU(l:List AV)(k:Nat->Prop):qhJ l k↔k l.length:=by
 have key:∀(l:List AV) (n:Nat),(List.rec (motive:=λ_=>Nat->(Nat->Prop)->Prop) (λn k=>k n) (λ_ _ ih n k=>qv (Nat.succ n) (λm=>ih m k)) l n k:Prop)↔k (l.length+n):=by
  intro l
  induction l with
  | nil=>simp_all
  | cons x xs ih =>
   grind[qC]
 exact key l 0
theorem qdY(z:List AV)(n:Nat):∀(k:List AV->Prop),qkC z n k↔k (List.replicate n z).flatten:=by
 induction n with
 | zero=>intro k;simp;exact Iff.rfl
 | succ n ih =>
  intro k;have h:=ih (λys=>qmw z ys k)
  rw[List.replicate_succ,List.flatten_cons];exact h.trans (qaY _ _ _)

def hi:IntKind->Nat
 | .i8=>127 | .i16=>32767 | .i32=>2147483647 | .i64=>9223372036854775807
 | .u8=>255 | .u16=>65535 | .u32=>4294967295 | .u64=>18446744073709551615
noncomputable def qjE(k:IntKind)(n:Int):Int :=
 Int.rec (motive:=λ_=>Int) (λm=>Bool.rec (motive:=λ_=>Int) (k.wrap (.ofNat m)) (.ofNat m) (Nat.ble m (hi k))) (λm=>k.wrap (.negSucc m)) n
def qd2(k:IntKind)(n:Int):qjE k n=k.wrap n:=by
 cases n with
 | ofNat m =>
  show(Bool.rec (motive:=λ_=>Int) (k.wrap (.ofNat m)) (.ofNat m) (Nat.ble m (hi k)):Int)=_
  cases h:Nat.ble m (hi k)with
  | false=>rfl
  | true =>
   have h':m<=hi k:=by simp_all
   show(Int.ofNat m)=_;cases k<;>simp[hi]at h'<;>simp[IntKind.wrap,IntKind.bits,IntKind.signed]<;>omega
 | negSucc m=>rfl
noncomputable def ltI(x y:Int):Bool :=
 Int.rec (motive:=λ_=>Bool) (λm=>Int.rec (motive:=λ_=>Bool) (λn=>Nat.ble (Nat.succ m) n) (λ_=>false) y)
  (λm=>Int.rec (motive:=λ_=>Bool) (λ_=>true) (λn=>Nat.ble (Nat.succ n) m) y) x
noncomputable def eqI(x y:Int):Bool :=
 Int.rec (motive:=λ_=>Bool) (λm=>Int.rec (motive:=λ_=>Bool) (λn=>Nat.beq m n) (λ_=>false) y)
  (λm=>Int.rec (motive:=λ_=>Bool) (λ_=>false) (λn=>Nat.beq m n) y) x
def qgo(m n:Nat):Nat.ble m n=decide (m<=n):=by
 grind[Nat.le_of_ble_eq_true,Nat.ble_eq_true_of_le]
def qcY(x y:Int):ltI x y=decide (x<y):=by
 cases x<;>cases y<;>simp[ltI,qgo]<;>omega
def qil(x y:Int):eqI x y=(x==y):=by
 rw[Bool.eq_iff_iff];cases x<;>cases y<;>simp[eqI]<;>omega
def p2(n:Nat):Int:=Int.ofNat (Nat.pow 2 n)
def qrO(n:Nat):p2 n=(2:Int) ^ n:=by
 show((2 ^ n:Nat):Int)=_;simp

noncomputable def eqS(x:List UInt8):List UInt8->Bool :=
 List.rec (motive:=λ_=>List UInt8->Bool) (λy=>List.rec (motive:=λ_=>Bool) true (λ_ _ _=>false) y)
  (λc _ ih y=>List.rec (motive:=λ_=>Bool) false (λd ds _=>Bool.rec (motive:=λ_=>Bool) false (ih ds) (Nat.beq c.toNat d.toNat)) y) x
def qcR(x:List UInt8):∀y,eqS x y=(x==y):=by
 induction x with
 | nil=>intro y;cases y<;>rfl
 | cons c cs ih =>
  intro y;cases y with
  | nil=>rfl
  | cons d ds =>
   show(Bool.rec (motive:=λ_=>Bool) false (eqS cs ds) (Nat.beq c.toNat d.toNat):Bool)=_
   rw[ih]
   have:Nat.beq c.toNat d.toNat=(c==d):=by
    rw[Bool.eq_iff_iff];simp[UInt8.toNat_inj]
   rw[this];cases h:(c==d)<;>simp[h]
noncomputable def ltS(x:List UInt8):List UInt8->Bool :=
 List.rec (motive:=λ_=>List UInt8->Bool) (λy=>List.rec (motive:=λ_=>Bool) false (λ_ _ _=>true) y)
  (λc _ ih y=>List.rec (motive:=λ_=>Bool) false (λd ds _=>Bool.rec (motive:=λ_=>Bool) (Bool.rec (motive:=λ_=>Bool) false (ih ds) (Nat.beq c.toNat d.toNat)) true (Nat.ble (Nat.succ c.toNat) d.toNat)) y) x
def qjU(x:List UInt8):∀y,ltS x y=Op.bytesLess x y:=by
 induction x with
 | nil=>intro y;cases y<;>rfl
 | cons c cs ih =>
  intro y;cases y with
  | nil=>rfl
  | cons d ds =>
   show(Bool.rec (motive:=λ_=>Bool) (Bool.rec (motive:=λ_=>Bool) false (ltS cs ds) (Nat.beq c.toNat d.toNat)) true (Nat.ble (Nat.succ c.toNat) d.toNat):Bool)=_
   rw[ih,qgo]
   have h1:Nat.beq c.toNat d.toNat=(c==d):=by
    rw[Bool.eq_iff_iff];simp[UInt8.toNat_inj]
   have h2:decide (c.toNat.succ<=d.toNat)=decide (c<d):=by
    rw[decide_eq_decide,UInt8.lt_iff_toNat_lt];omega
   rw[h1,h2];simp only[Op.bytesLess];cases decide (c<d)<;>cases(c==d)<;>rfl

noncomputable def qau(h:Hp)(b:Nat)(k:Nat->Bool->Bool->List AV->Prop):Prop :=
 h.tr.getK b (λx=>Blk.rec (motive:=λ_=>Prop) k False (λ_=>False) x)
noncomputable def jE(h:Hp)(x:Blk)(k:Nat->Hp->Prop):Prop :=
 Hp.rec (motive:=λ_=>Prop) (λsz fl tr=>tr.setK sz x (λtr'=>qv (Nat.succ sz) (λs=>k sz ⟨s,fl,tr'⟩))) h
noncomputable def qdg(h:Hp)(b:Nat)(x:Blk)(k:Hp->Prop):Prop :=
 Hp.rec (motive:=λ_=>Prop) (λsz fl tr=>Bool.rec (motive:=λ_=>Prop) False (tr.setK b x (λtr'=>k ⟨sz,fl,tr'⟩)) (Nat.ble fl b)) h
noncomputable def ldK(h:Hp)(b off:Nat)(k:AV->Prop):Prop:=qau h b (λ_ _ _ cs=>qiw cs off k)
noncomputable def qfn(h:Hp)(b off n:Nat)(k:List AV->Prop):Prop:=qau h b (λ_ _ _ cs=>qc6 off cs (λl=>qcK n l k))
noncomputable def ze(v:AV):Bool:=AV.rec (motive_1:=λ_=>Bool) (motive_2:=λ_=>Bool)
 (λ_=>true) (λ_ _=>true) (λ_=>true) true (λ_ _=>true) true (λ_ _ _ _ _=>true) true (λ_ _ _ _ _=>true) true (λ_ _ _=>true) (λ_ _=>false) (λ_ _=>false) true (λ_=>true) (λ_=>true) false (λ_ _ _=>true) (λ_ _ _=>true) true (λ_ _=>true) true (λ_=>true) (λ_=>false)
 true (λ_ _ h t=>Bool.rec (motive:=λ_=>Bool) false t h) v
noncomputable def qD(l:List AV):Bool:=List.rec (motive:=λ_=>Bool) true (λv _ ih=>Bool.rec (motive:=λ_=>Bool) false ih (ze v)) l
noncomputable def ldV(h:Hp)(p:AV)(k:AV->Prop):Prop:=match p with | .ptr b o=>ldK h b o k | .pf cs o=>qiw cs o k|_=>False
noncomputable def qkA(h:Hp)(p:AV)(n:Nat)(k:List AV->Prop):Prop:=match p with | .ptr b o=>qfn h b o n k | .pf cs o=>qc6 o cs (λl=>qcK n l k)|_=>False
noncomputable def qiu(p:AV)(n:Nat)(k:AV->Prop):Prop:=match p with | .ptr b o=>qv (Nat.add o n) (λo'=>k (.ptr b o')) | .pf cs o=>qv (Nat.add o n) (λo'=>k (.pf cs o'))|_=>False
noncomputable def stK(h:Hp)(b off:Nat)(vs:List AV)(k:Hp->Prop):Prop :=
 qau h b (λe w a cs=>Bool.rec (motive:=λ_=>Prop) False (Bool.rec (motive:=λ_=>Prop) False (jo vs off cs (λcs'=>qdg h b (.cells e w a cs') k)) (qD vs)) w)
def qcQ:AV->Bool
 | .undef=>false
 | _=>true
def cellsOf:AV->List AV
 | .agg cs=>cs
 | v=>[v]

noncomputable def evK(t:Tr AV)(x:O)(k:AV->Prop):Prop:=O.rec (motive:=λ_=>Prop) (λn=>t.getK n k) k x
noncomputable def qar(t:Tr AV)(xs:List O)(k:List AV->Prop):Prop :=
 List.rec (motive:=λ_=>(List AV->Prop)->Prop) (λk=>k []) (λx _ ih k=>evK t x (λv=>ih (λvs=>k (v::vs)))) xs k

noncomputable def unB(v:AV)(k:Bool->Prop):Prop:=match v with | .b x=>k x|_=>False
noncomputable def unI(v:AV)(k:IntKind->Int->Prop):Prop:=match v with | .i q n=>k q n|_=>False
noncomputable def unN(v:AV)(k:Nat->Prop):Prop:=match v with | .i _ n=>Int.rec (motive:=λ_=>Prop) k (λ_=>False) n|_=>False
noncomputable def unP(v:AV)(k:Nat->Nat->Prop):Prop:=match v with | .ptr b o=>k b o|_=>False
noncomputable def qo(x:Bool)(k:Prop):Prop:=Bool.rec (motive:=λ_=>Prop) False k x

noncomputable def xl(op:BinOp)(q:IntKind)(x y:Int)(k:AV->Prop):Prop :=
 match op with
 | .add=>xM (qjE q (Int.add x y)) (λr=>k (.i q r))
 | .sub=>xM (qjE q (Int.sub x y)) (λr=>k (.i q r))
 | .mul=>xM (qjE q (Int.mul x y)) (λr=>k (.i q r))
 | .quo=>Bool.rec (motive:=λ_=>Prop) (xM (qjE q (x.tdiv y)) (λr=>k (.i q r))) False (eqI y 0)
 | .rem=>Bool.rec (motive:=λ_=>Prop) (xM (x.tmod y) (λr=>k (.i q r))) False (eqI y 0)
 | .and=>xM (q.wrap (BitVec.ofInt q.bits x &&& BitVec.ofInt q.bits y).toNat) (λr=>k (.i q r))
 | .or=>xM (q.wrap (BitVec.ofInt q.bits x ||| BitVec.ofInt q.bits y).toNat) (λr=>k (.i q r))
 | .xor=>xM (q.wrap (BitVec.ofInt q.bits x ^^^ BitVec.ofInt q.bits y).toNat) (λr=>k (.i q r))
 | .andNot=>xM (q.wrap (BitVec.ofInt q.bits x &&& ~~~ (BitVec.ofInt q.bits y)).toNat) (λr=>k (.i q r))
 | .eql=>qX (eqI x y) (λr=>k (.b r))
 | .neq=>qX (eqI x y) (λr=>qX (not r) (λr=>k (.b r)))
 | .lss=>qX (ltI x y) (λr=>k (.b r))
 | .leq=>qX (ltI y x) (λr=>qX (not r) (λr=>k (.b r)))
 | .gtr=>qX (ltI y x) (λr=>k (.b r))
 | .geq=>qX (ltI x y) (λr=>qX (not r) (λr=>k (.b r)))
 | .shl | .shr=>False
noncomputable def qj6(op:BinOp)(q:IntKind)(x y:Int)(k:AV->Prop):Prop :=
 Int.rec (motive:=λ_=>Prop) (λm=>qv (min m q.bits) (λn=>match op with
  | .shl=>xM (q.wrap (x*p2 n)) (λr=>k (.i q r))
  | .shr=>xM (x.fdiv (p2 n)) (λr=>k (.i q r))
  | _=>False)) (λ_=>False) y
noncomputable def qbU(op:BinOp)(x y:List UInt8)(k:AV->Prop):Prop :=
 match op with
 | .add=>Bool.rec (motive:=λ_=>Prop) False (k (.s (x++y))) (Nat.ble (x.length+y.length) 9223372036854775807)
 | .eql=>qX (eqS x y) (λr=>k (.b r))
 | .neq=>qX (eqS x y) (λr=>qX (not r) (λr=>k (.b r)))
 | .lss=>qX (ltS x y) (λr=>k (.b r))
 | .leq=>qX (ltS x y) (λr=>qX (eqS x y) (λe=>qX (or r e) (λr=>k (.b r))))
 | .gtr=>qX (ltS x y) (λr=>qX (eqS x y) (λe=>qX (not (or r e)) (λr=>k (.b r))))
 | .geq=>qX (ltS x y) (λr=>qX (not r) (λr=>k (.b r)))
 | _=>False
noncomputable def qiz(r:Option AV)(k:AV->Prop):Prop:=Option.rec (motive:=λ_=>Prop) False k r
noncomputable def xo(orc:Orc)(op:BinOp)(x y:AV)(k:AV->Prop):Prop :=
 match x with
 | .i q n=>(match y with
  | .i q' m=>(match op with
   | .shl=>qj6 .shl q n m k
   | .shr=>qj6 .shr q n m k
   | op=>qo (decide (q=q')) (xl op q n m k))
  | .sym j=>qiz (orc.bin op (.i q n) (.sym j)) k
  | _=>False)
 | .s a=>(match y with
  | .s c=>qbU op a c k
  | .sym j=>qiz (orc.bin op (.s a) (.sym j)) k
  | _=>False)
 | .sym j=>qiz (orc.bin op (.sym j) y) k
 | _=>False
noncomputable def jj(q:NK)(x:AV)(k:Bool->Prop):Prop :=
 match q with
 | .ptr=>(match x with | .nilp=>k true | .ptr _ _=>k false | .pf _ _=>k false|_=>False)
 | .slice=>(match x with | .nils=>k true | .sl _ _ _ _ _=>k false | .fz n _=>qo (Nat.ble 1 n) (k false) | .own _ n=>qo (Nat.ble 1 n) (k false) | .nz=>k false|_=>False)
 | .func=>(match x with | .nilf=>k true | .fn _ _ _=>k false | .yl _=>k false|_=>False)
 | .iface=>(match x with | .nili=>k true | .ifc _ _=>k false|_=>False)
 | .map=>(match x with | .nilm=>k true | .map _=>k false|_=>False)
noncomputable def qby(q:PK)(x y:AV)(k:Bool->Prop):Prop :=
 match q with
 | .i=>(match x with | .i q n=>(match y with | .i q' m=>qo (decide (q=q')) (qX (eqI n m) k)|_=>False)|_=>False)
 | .s=>(match x with | .s a=>(match y with | .s c=>qX (eqS a c) k|_=>False)|_=>False)
 | .b=>(match x with | .b a=>(match y with | .b c=>qX (a==c) k|_=>False)|_=>False)
noncomputable def qcu(qs:List PK):List AV->List AV->(Bool->Prop)->Prop :=
 List.rec (motive:=λ_=>List AV->List AV->(Bool->Prop)->Prop) (λ_ _ k=>k true)
  (λq _ ih x y k=>List.rec (motive:=λ_=>Prop) False (λu us _=>List.rec (motive:=λ_=>Prop) False (λv vs _=>qby q u v (λe=>Bool.rec (motive:=λ_=>Prop) (k false) (ih us vs k) e)) y) x) qs
noncomputable def qeE(op:UnOp)(x:AV)(k:AV->Prop):Prop :=
 match op with
 | .neg=>(match x with | .i q n=>xM (q.wrap (0-n)) (λr=>k (.i q r))|_=>False)
 | .xor=>(match x with | .i q n=>xM (q.wrap (BitVec.ofInt q.bits (if q.signed then -1 else q.max) ^^^ BitVec.ofInt q.bits n).toNat) (λr=>k (.i q r))|_=>False)
 | .not=>(match x with | .b a=>qX (not a) (λr=>k (.b r))|_=>False)
 | .plus=>False
noncomputable def qah(t:Tr AV)(ps:List (Nat×Nat×O)):List AV->(List AV->Prop)->Prop :=
 List.rec (motive:=λ_=>List AV->(List AV->Prop)->Prop) (λl k=>k l)
  (λp _ ih l k=>evK t p.2.2 (λv=>qo (qcQ v) (qv p.1 (λoff=>qhJ (cellsOf v) (λn=>qo (Nat.beq n p.2.1) (jo (cellsOf v) off l (λl'=>ih l' k))))))) ps
noncomputable def qcG(t:Tr AV)(x:Option O)(k:Option AV->Prop):Prop:=Option.rec (motive:=λ_=>Prop) (k none) (λx=>evK t x (λv=>k (some v))) x
noncomputable def qiN(x:Option AV)(dflt top:Nat)(k:Nat->Prop):Prop :=
 Option.rec (motive:=λ_=>Prop) (k dflt) (λv=>unN v (λn=>qo (Nat.ble n top) (qv n k))) x
noncomputable def xe(len cap:Nat)(lo hi mx:Option AV)(k:Nat->Nat->Nat->Prop):Prop :=
 qiN mx cap cap (λm=>Option.rec (motive:=λ_=>Prop) (Option.rec (motive:=λ_=>Prop) (qo (Nat.ble len m) (qiN lo 0 len (λl=>k l len m))) (λ_=>False) mx)
  (λv=>unN v (λh=>qo (Nat.ble h m) (qv h (λh=>qiN lo 0 h (λl=>k l h m))))) hi)
noncomputable def qcm(h:Hp)(esz:Nat)(x:AV)(k:Nat->List AV->Prop):Prop :=
 match x with
 | .nils=>k 0 []
 | .sl b o n _ _=>qfn h b o (Nat.mul n esz) (λcs=>k n cs)
 | .fz n cs=>qcK (Nat.mul n esz) cs (λcs=>k n cs)
 | .e0=>k 0 []
 | .nz=>k 0 []
 | .own b n=>qfn h b 0 (Nat.mul n esz) (λcs=>k n cs)
 | .s a=>qo (Nat.beq esz 1) (qv a.length (λn=>k n (a.map λc=>.i .u8 (Int.ofNat c.toNat))))
 | _=>False
def qi:Nat:=70368744177664
noncomputable def qhG(h:Hp)(esz bytes:Nat)(consume:Bool)(s x:AV)(k:AV->Hp->Prop):Prop :=
 qcm h esz x (λn new=>match s with
  | .nils=>qo (Nat.ble n qi) (qo (Nat.ble (Nat.mul n bytes) qi) (jE h (.cells esz true true new) (λb h'=>k (.own b n) h')))
  | .e0=>qo (Nat.ble n qi) (qo (Nat.ble (Nat.mul n bytes) qi) (jE h (.cells esz true true new) (λb h'=>k (.own b n) h')))
  | .sl b o len cap loose=>Bool.rec (motive:=λ_=>Prop) (qv (Nat.add len n) (λneed=>Bool.rec (motive:=λ_=>Prop)
    (qo (Nat.ble need qi) (qo (Nat.ble (Nat.mul need bytes) qi)
     (qfn h b o (Nat.mul len esz) (λold=>qmw old new (λcs=>jE h (.cells esz true true cs) (λb' h'=>k (.own b' need) h'))))))
    (Nat.rec (motive:=λ_=>Prop) (k (.sl b o need cap false) h) (λ_ _=>qv (Nat.add o (Nat.mul len esz)) (λat_=>stK h b at_ new (λh'=>k (.sl b o need cap false) h'))) n)
    (Nat.ble need cap)))
    (qv (Nat.add len n) (λneed=>qo (Nat.ble need qi) (qo (Nat.ble (Nat.mul need bytes) qi) (qo (and consume (Nat.beq cap len)) (qau h b (λe w a ys=>qo (qD new) (qo w (qo a (qo (Nat.beq e esz) (qhJ ys (λq=>qo (Nat.beq q (Nat.add o (Nat.mul len esz))) (qc6 o ys (λzs=>qmw zs new (λcs' =>
    qdg h b .dead (λh1=>jE h1 (.cells esz true true cs') (λb' h'=>k (.own b' need) h')))))))))))))))) loose
  | .fz m cs=>Nat.rec (motive:=λ_=>Prop) (k (.fz m cs) h) (λ_ _=>False) n
  | .own b m=>qv (Nat.add m n) (λneed=>qo (Nat.ble need qi) (qo (Nat.ble (Nat.mul need bytes) qi) (qo consume (qau h b (λe w a ys=>qo (qD new) (qo w (qo a (qo (Nat.beq e esz) (qhJ ys (λq=>qo (Nat.beq q (Nat.mul m esz)) (qmw ys new (λcs' =>
    qdg h b .dead (λh1=>jE h1 (.cells esz true true cs') (λb' h'=>k (.own b' need) h'))))))))))))))
  | _=>False)
noncomputable def qmN(h:Hp)(esz:Nat)(d s:AV)(k:AV->Hp->Prop):Prop :=
 match d with
 | .nils=>qcm h esz s (λ_ _=>k (.i .i64 0) h)
 | .sl b o len _ _=>qcm h esz s (λn new=>qv (min n len) (λm=>qcK (Nat.mul m esz) new (λcs=>stK h b o cs (λh'=>k (.i .i64 (Int.ofNat m)) h'))))
 | _=>False
noncomputable def qjA(cs:List AV)(k:List UInt8->Prop):Prop :=
 List.rec (motive:=λ_=>(List UInt8->Prop)->Prop) (λk=>k []) (λv _ ih k=>match v with
  | .i .u8 n=>Int.rec (motive:=λ_=>Prop) (λm=>ih (λl=>k (UInt8.ofNat m::l))) (λ_=>False) n
  | _=>False) cs k

noncomputable def qky(h:Hp)(b esz:Nat)(c:Bool)(p:Prop):Prop:=Bool.rec (motive:=λ_=>Prop) p (qau h b (λe _ _ _=>qo (Nat.beq e esz) p)) c
noncomputable def cvK(orc:Orc)(q:IntKind)(x:AV)(k:AV->Prop):Prop :=
 match x with
 | .i _ n=>xM (qjE q n) (λr=>k (.i q r))
 | .sym j=>qiz (orc.cv q j) k
 | _=>False
noncomputable def qkz(orc:Orc)(kd:Option IntKind)(i:AV)(p:Prop):Prop :=
 match i with
 | .s _=>(match kd with|none=>p|some _=>False)
 | .i q _=>(match kd with|some q'=>qo (decide (q'=q)) p|none=>False)
 | .sym j=>(match kd with|none=>qiz (orc.len j) (λ_=>p)|some _=>False)
 | _=>False
noncomputable def qeT(orc:Orc)(x y:AV)(k:Bool->Prop):Prop :=
 match y with
 | .s c=>(match x with | .s a=>qX (eqS a c) k | .sym j=>qiz (orc.len j) (λ_=>qiz (orc.bin .eql (.sym j) (.s c)) (λv=>unB v k))|_=>False)
 | .i q n=>(match x with | .i q' m=>qo (decide (q'=q)) (qX (eqI m n) k)|_=>False)
 | _=>False
noncomputable def qcy(orc:Orc)(i:AV)(es:List (AV×AV)):(Option AV->Prop)->Prop :=
 List.rec (motive:=λ_=>(Option AV->Prop)->Prop) (λk=>k none) (λe _ ih k=>qeT orc i e.1 (λr=>Bool.rec (motive:=λ_=>Prop) (ih k) (k (some e.2)) r)) es
noncomputable def qhj(orc:Orc)(i v:AV)(es:List (AV×AV)):(List (AV×AV)->Prop)->Prop :=
 List.rec (motive:=λ_=>(List (AV×AV)->Prop)->Prop) (λk=>k [(i,v)]) (λe es' ih k=>qeT orc i e.1 (λr=>Bool.rec (motive:=λ_=>Prop) (ih (λl=>k (e::l))) (k ((i,v)::es')) r)) es
noncomputable def qeQ(es:List (AV×AV))(p:Prop):Prop :=
 List.rec (motive:=λ_=>Prop) p (λe _ _=>match e.1 with | .undef=>False | .lp _=>False|_=>p) es
noncomputable def qjV(h:Hp)(b:Nat)(k:List (AV×AV)->Prop):Prop :=
 h.tr.getK b (λx=>Blk.rec (motive:=λ_=>Prop) (λ_ _ _ _=>False) False (λes=>qeQ es (k es)) x)
def zJ(r:Loop)(ts:List (Nat×AV)):List (AV×AV):=(.lp r,.undef)::ts.map λp=>(.i .i64 (Int.ofNat p.1),p.2)
def qer(a:List UInt8)(n:Nat):List (AV×AV):=[(.undef,.s a),(.undef,.i .i64 (Int.ofNat n))]
noncomputable def qv0(h:Hp)(b:Nat)(k:List UInt8->Nat->Prop):Prop :=
 h.tr.getK b (λx=>Blk.rec (motive:=λ_=>Prop) (λ_ _ _ _=>False) False (λes=>match es with
  | [(.undef,.s a),(.undef,.i .i64 (.ofNat n))]=>k a n
  | _=>False) x)
noncomputable def qhF(ok:Bool)(zero:AV)(v:Option AV)(k:AV->Prop):Prop :=
 Option.rec (motive:=λ_=>Prop) (Bool.rec (motive:=λ_=>Prop) (k zero) (k (.tup [zero,.b false])) ok) (λv=>Bool.rec (motive:=λ_=>Prop) (k v) (k (.tup [v,.b true])) ok) v
noncomputable def qBk(es:List (AV×AV))(k:Nat->Prop):Prop :=
 List.rec (motive:=λ_=>Nat->(Nat->Prop)->Prop) (λn k=>k n) (λ_ _ ih n k=>qv (Nat.succ n) (λm=>ih m k)) es 0 k
noncomputable def xT(t:Tr AV)(b:Nat)(ps:List Nat)(p:Prop):Prop :=
 List.rec (motive:=λ_=>Prop) p (λq _ ih=>t.getK q (λy=>match y with | .ptr b' _=>qo (not (Nat.beq b' b)) ih | .pf _ _=>ih|_=>False)) ps
noncomputable def qbi(t:Tr AV)(ps:List Nat)(s:AV)(p:Prop):Prop :=
 match s with | .own b _=>xT t b ps p | .sl b _ _ _ _=>xT t b ps p | .fz _ _=>p | .nils=>p | .e0=>p|_=>False
noncomputable def opK(orc:Orc)(o:IOp)(t:Tr AV)(h:Hp)(k:AV->Hp->Prop):Prop :=
 match o with
 | .mov x=>evK t x (λv=>k v h)
 | .pick c x y=>evK t c (λc=>unB c (λc=>Bool.rec (motive:=λ_=>Prop) (evK t y (λv=>k v h)) (evK t x (λv=>k v h)) c))
 | .alloc z=>jE h (.cells 0 true false z) (λb h'=>k (.ptr b 0) h')
 | .box x=>evK t x (λv=>qo (qcQ v) (jE h (.cells 0 true false (cellsOf v)) (λb h'=>k (.ptr b 0) h')))
 | .build z ps=>qah t ps z (λcs=>k (.agg cs) h)
 | .buildS n z ps=>qkC z n (λcs=>qah t ps cs (λcs=>jE h (.cells 0 true false cs) (λb h'=>k (.sl b 0 n n false) h')))
 | .load1 x=>evK t x (λp=>ldV h p (λv=>k v h))
 | .loadN n x=>evK t x (λp=>qkA h p n (λcs=>k (.agg cs) h))
 | .store n x v=>evK t x (λp=>unP p (λb o=>evK t v (λv=>qo (qcQ v) (qhJ (cellsOf v) (λm=>qo (Nat.beq m n) (stK h b o (cellsOf v) (λh'=>k .undef h')))))))
 | .nilChk x=>evK t x (λv=>match v with | .ptr b o=>k (.ptr b o) h | .fn f a c=>k (.fn f a c) h | .map r=>k (.map r) h | .pf cs o=>k (.pf cs o) h | .yl b=>k (.yl b) h|_=>False)
 | .bin op x y=>evK t x (λx=>evK t y (λy=>xo orc op x y (λv=>k v h)))
 | .eqN neg q x=>evK t x (λx=>jj q x (λr=>qX (xor neg r) (λr=>k (.b r) h)))
 | .un op x=>evK t x (λx=>qeE op x (λv=>k v h))
 | .cvInt q x=>evK t x (λx=>cvK orc q x (λv=>k v h))
 | .fAddr off x=>evK t x (λp=>qiu p off (λv=>k v h))
 | .fld off n x=>evK t x (λx=>match x with
  | .agg cs=>Option.rec (motive:=λ_=>Prop) (qiw cs off (λv=>k v h)) (λn=>qc6 off cs (λl=>qcK n l (λl=>k (.agg l) h))) n
  | _=>False)
 | .iAddrA len esz x i=>evK t x (λp=>evK t i (λi=>unN i (λi=>qo (Nat.ble (Nat.succ i) len) (qiu p (Nat.mul i esz) (λv=>k v h)))))
 | .iAddrS esz x i=>evK t x (λx=>match x with
  | .sl b o len _ _=>evK t i (λi=>unN i (λi=>qo (Nat.ble (Nat.succ i) len) (qv (Nat.add o (Nat.mul i esz)) (λo'=>k (.ptr b o') h))))
  | .fz len cs=>evK t i (λi=>unN i (λi=>qo (Nat.ble (Nat.succ i) len) (qv (Nat.mul i esz) (λo'=>k (.pf cs o') h))))
  | .own b len=>evK t i (λi=>unN i (λi=>qo (Nat.ble (Nat.succ i) len) (qv (Nat.mul i esz) (λo'=>k (.ptr b o') h))))
  | _=>False)
 | .idxA len esz agg x i=>evK t x (λx=>match x with
  | .agg cs=>evK t i (λi=>unN i (λi=>qo (Nat.ble (Nat.succ i) len) (qv (Nat.mul i esz) (λo=>Bool.rec (motive:=λ_=>Prop) (qiw cs o (λv=>k v h)) (qc6 o cs (λl=>qcK esz l (λl=>k (.agg l) h))) agg))))
  | _=>False)
 | .idxS x i=>evK t x (λx=>match x with
  | .s a=>evK t i (λi=>unN i (λi=>Option.rec (motive:=λ_=>Prop) False (λc=>k (.i .u8 (Int.ofNat c.toNat)) h) (a[i]?)))
  | _=>False)
 | .slcS esz x lo hi mx=>evK t x (λx=>qcG t lo (λlo=>qcG t hi (λhi=>qcG t mx (λmx=>match x with
  | .nils=>xe 0 0 lo hi mx (λ_ _ _=>k .nils h)
  | .e0=>xe 0 0 lo hi mx (λ_ _ _=>k .e0 h)
  | .fz n cs=>xe n n lo hi mx (λl h' m=>Bool.rec (motive:=λ_=>Prop) (qc6 (Nat.mul l esz) cs (λl1=>qv (h'-l) (λlen'=>qcK (Nat.mul len' esz) l1 (λl2=>k (.fz len' l2) h)))) (k .e0 h) (and mx.isSome (Nat.beq m l)))
  | .sl b o len cap loose=>xe len cap lo hi mx (λl h' m=>qv (if(loose&&mx.isNone)=false/\m=l then o else Nat.add o (Nat.mul l esz)) (λo'=>qv (h'-l) (λlen'=>qv (m-l) (λcap' =>
    qky h b esz (loose&&mx.isNone) (k (.sl b o' len' cap' (loose&&mx.isNone)) h)))))
  | .own b n=>Option.rec (motive:=λ_=>Prop) (Nat.rec (motive:=λ_=>Prop) (xe 0 0 lo hi none (λ_ _ _=>k (.own b 0) h))
    (λn' _=>xe (Nat.succ n') (Nat.succ n') lo hi none (λl h' m=>qv (Nat.mul l esz) (λo'=>qv (h'-l) (λlen'=>qv (m-l) (λcap'=>qky h b esz true (k (.sl b o' len' cap' true) h)))))) n)
    (λ_=>Nat.rec (motive:=λ_=>Prop) (xe 0 0 lo hi mx (λ_ _ _=>k (.own b 0) h))
    (λn' _=>xe (Nat.succ n') (Nat.succ n') lo hi mx (λl h' m=>qv (if m=l then 0 else Nat.mul l esz) (λo'=>qv (h'-l) (λlen'=>qv (m-l) (λcap'=>k (.sl b o' len' cap' false) h))))) n) mx
  | _=>False))))
 | .slcA len esz x lo hi mx=>evK t x (λp=>unP p (λb o=>qcG t lo (λlo=>qcG t hi (λhi=>qcG t mx (λmx =>
   xe len len lo hi mx (λl h' m=>qv (if m=l then o else Nat.add o (Nat.mul l esz)) (λo'=>qv (h'-l) (λlen'=>qv (m-l) (λcap'=>k (.sl b o' len' cap' false) h))))))))) 
 | .ext x i=>evK t x (λx=>match x with | .tup cs=>qiw cs i (λv=>k v h)|_=>False)
 | .mkF f a c=>qar t a (λa=>qar t c (λc=>k (.fn f a c) h))
 | .mkS _ bytes z len cap=>evK t len (λlen=>evK t cap (λcap=>unN len (λl=>unN cap (λc=>qo (Nat.ble l c) (qo (Nat.ble c qi) (qo (Nat.ble (Nat.mul bytes c) qi) (qkC z c (λcs=>jE h (.cells 0 true false cs) (λb h'=>k (.sl b 0 l c false) h')))))))))
 | .len str x=>evK t x (λx=>match x with
  | .nils=>Bool.rec (motive:=λ_=>Prop) (k (.i .i64 0) h) False str
  | .e0=>Bool.rec (motive:=λ_=>Prop) (k (.i .i64 0) h) False str
  | .nz=>Bool.rec (motive:=λ_=>Prop) (k (.i .i64 0) h) False str
  | .fz n _=>Bool.rec (motive:=λ_=>Prop) (k (.i .i64 (Int.ofNat n)) h) False str
  | .own _ n=>Bool.rec (motive:=λ_=>Prop) (k (.i .i64 (Int.ofNat n)) h) False str
  | .sl _ _ n _ _=>Bool.rec (motive:=λ_=>Prop) (k (.i .i64 (Int.ofNat n)) h) False str
  | .s a=>Bool.rec (motive:=λ_=>Prop) False (qv a.length (λn=>k (.i .i64 (Int.ofNat n)) h)) str
  | .sym j=>Bool.rec (motive:=λ_=>Prop) False (qiz (orc.len j) (λv=>k v h)) str
  | _=>False)
 | .app esz bytes c s x=>evK t s (λs=>evK t x (λx=>qhG h esz bytes c s x k))
 | .max x y=>evK t x (λx=>evK t y (λy=>unI x (λq n=>unI y (λ_ m=>Bool.rec (motive:=λ_=>Prop) (k (.i q n) h) (k (.i q m) h) (ltI n m)))))
 | .clear z x=>evK t x (λx=>match x with
  | .nils=>k (.tup []) h
  | .sl b o n _ _=>Nat.rec (motive:=λ_=>Prop) (k (.tup []) h) (λ_ _=>qkC z n (λcs=>stK h b o cs (λh'=>k (.tup []) h'))) n
  | _=>False)
 | .mkM=>jE h (.map []) (λb h'=>k (.map b) h')
 | .lookM kd ok zero x i=>evK t x (λx=>evK t i (λi=>qkz orc kd i (match x with
  | .nilm=>qhF ok zero none (λv=>k v h)
  | .map r=>qjV h r (λes=>qcy orc i es (λv=>qhF ok zero v (λv=>k v h)))
  | _=>False)))
 | .updM kd x i v=>evK t x (λx=>evK t i (λi=>evK t v (λv=>qkz orc kd i (match x with
  | .map r=>qjV h r (λes=>qhj orc i v es (λes'=>qdg h r (.map es') (λh'=>k .undef h')))
  | _=>False))))
 | .min x y=>evK t x (λx=>evK t y (λy=>unI x (λq n=>unI y (λ_ m=>Bool.rec (motive:=λ_=>Prop) (k (.i q n) h) (k (.i q m) h) (ltI m n)))))
 | .storeD n x v ps=>evK t x (λp=>unP p (λb o=>xT t b ps (evK t v (λv=>qo (qcQ v) (qhJ (cellsOf v) (λm=>qo (Nat.beq m n) (stK h b o (cellsOf v) (λh'=>k .undef h'))))))))
 | .appD esz bytes s x ps=>evK t s (λs=>evK t x (λx=>qbi t ps s (qhG h esz bytes true s x k)))
 | .no=>False

noncomputable def qaq(t:Tr AV)(d:Option Nat)(v:AV)(k:Tr AV->Prop):Prop:=Option.rec (motive:=λ_=>Prop) (k t) (λn=>t.setK n v k) d
noncomputable def qe1(t:Tr AV)(h:Hp)(rs:List RV)(k:List AV->Prop):Prop :=
 List.rec (motive:=λ_=>(List AV->Prop)->Prop) (λk=>k []) (λr _ ih k=>match r with
  | .tmp n=>t.getK n (λv=>ih (λvs=>k (v::vs)))
  | .cell n size agg=>t.getK n (λp=>unP p (λb o=>Bool.rec (motive:=λ_=>Prop) (ldK h b o (λv=>ih (λvs=>k (v::vs)))) (qfn h b o size (λcs=>ih (λvs=>k (.agg cs::vs)))) agg))) rs k
def qfu:List AV->AV
 | [v]=>v
 | vs=>.tup vs
abbrev zL:=Nat->List AV->Hp->(AV->Hp->Prop)->Prop
noncomputable def qhf(F:Hp->(AV->Hp->Prop)->Prop)(h:Hp)(k:AV->Hp->Prop):Prop :=
 Hp.rec (motive:=λ_=>Prop) (λsz fl tr=>F ⟨sz,sz,tr⟩ (λv h'=>Hp.rec (motive:=λ_=>Prop) (λsz' _ tr'=>k v ⟨sz',fl,tr'⟩) h')) h
def wr:RK->Bool
 | .op (.store _ _ _) | .op (.app _ _ _ _ _) | .op (.clear _ _) | .op (.updM _ _ _ _) | .op (.storeD _ _ _ _) | .op (.appD _ _ _ _ _)=>true
 | .callW _ _ | .callVW _ _=>true
 | _=>false
noncomputable def qcI(orc:Orc)(C:zL)(r:RK)(t:Tr AV)(h:Hp)(k:AV->Hp->Prop):Prop :=
 match r with
 | .op o=>opK orc o t h k
 | .callF f args=>qar t args (λvs=>C (Nat.succ f) vs h k)
 | .callV x args=>evK t x (λg=>qar t args (λvs=>match g with | .fn f a c=>C (Nat.succ f) (a++(vs++c)) h k | .yl b=>C 0 (.yl b::vs) h k|_=>False))
 | .callW f args=>qar t args (λvs=>C (Nat.succ f) vs h k)
 | .callVW x args=>evK t x (λg=>qar t args (λvs=>match g with | .fn f a c=>C (Nat.succ f) (a++(vs++c)) h k | .yl b=>C 0 (.yl b::vs) h k|_=>False))
noncomputable def qiB(orc:Orc)(draw:Bool)(C:zL)(r:RK)(t:Tr AV)(h:Hp)(k:AV->Hp->Prop):Prop :=
 Bool.rec (motive:=λ_=>Prop) (qcI orc C r t h k) (qhf (qcI orc C r t) h k) (and draw (not (wr r)))
noncomputable def qaS(t:Tr AV)(g:Option (Nat×Bool))(k:Bool->Prop):Prop :=
 Option.rec (motive:=λ_=>Prop) (k true) (λg=>t.getK g.1 (λv=>match v with
  | .b x=>qX (x==g.2) k
  | .tup _=>k false
  | _=>False)) g
noncomputable def ql2(orc:Orc)(draw:Bool)(C:zL)(ops:List ROp)(Q:Tr AV->Hp->Prop):Tr AV->Hp->Prop :=
 List.rec (motive:=λ_=>Tr AV->Hp->Prop) Q (λr _ rest t h=>ROp.rec (motive:=λ_=>Prop) (λdst k guard=>qaS t guard (λgo=>Bool.rec (motive:=λ_=>Prop)
  (qaq t dst (.tup []) (λt'=>rest t' h)) (qiB orc draw C k t h (λv h'=>qaq t dst v (λt'=>rest t' h'))) go)) r) ops
def tab:Nat->Option (Array Value):=λ_=>none
class TabOk (w:World):Prop where
 ok:∀k a,tab k=some a->∃ty fz,w.heap[k]?=some (.cells a ty fz)
instance {w:World}:TabOk w:=⟨λ_ _ h=>by cases h⟩
end Go.Kc
end
section

set_option linter.unusedVariables false
namespace Go.Kc

def L1{α:Type}(G:(α->Prop)->Prop):Prop:=∀k,G k->∃x,k x/\∀k',k' x->G k'
def L2{α β:Type}(G:(α->β->Prop)->Prop):Prop:=∀k,G k->∃x y,k x y/\∀k',k' x y->G k'
def L3{α β γ:Type}(G:(α->β->γ->Prop)->Prop):Prop:=∀k,G k->∃x y z,k x y z/\∀k',k' x y z->G k'
def L4{α β γ δ:Type}(G:(α->β->γ->δ->Prop)->Prop):Prop:=∀k,G k->∃x y z u,k x y z u/\∀k',k' x y z u->G k'

section
variable {α β γ δ ε:Type}
def L1.ret(x:α):L1 (λk=>k x):=λ_ h=>by grind
def L2.ret(x:α)(y:β):L2 (λk=>k x y):=λ_ h=>by grind
def L3.ret(x:α)(y:β)(z:γ):L3 (λk=>k x y z):=λ_ h=>by grind
def L1.no:L1 (λ(_:α->Prop)=>False):=λ_ h=>h.elim
def L2.no:L2 (λ(_:α->β->Prop)=>False):=λ_ h=>h.elim
def L3.no:L3 (λ(_:α->β->γ->Prop)=>False):=λ_ h=>h.elim
def L1.b1{G:(α->Prop)->Prop}{F:α->(β->Prop)->Prop}(hG:L1 G)(hF:∀x,L1 (F x)):L1 (λk=>G (λx=>F x k)):=λ_ h=>by
 obtain⟨x,h1,h2⟩:=hG _ h;obtain⟨y,h3,h4⟩:=hF x _ h1;grind
def L1.b2{G:(α->Prop)->Prop}{F:α->(β->γ->Prop)->Prop}(hG:L1 G)(hF:∀x,L2 (F x)):L2 (λk=>G (λx=>F x k)):=λ_ h=>by
 obtain⟨x,h1,h2⟩:=hG _ h;obtain⟨y,z,h3,h4⟩:=hF x _ h1;grind
def L1.b3{G:(α->Prop)->Prop}{F:α->(β->γ->δ->Prop)->Prop}(hG:L1 G)(hF:∀x,L3 (F x)):L3 (λk=>G (λx=>F x k)):=λ_ h=>by
 obtain⟨x,h1,h2⟩:=hG _ h;obtain⟨y,z,u,h3,h4⟩:=hF x _ h1;grind
def L2.b1{G:(α->β->Prop)->Prop}{F:α->β->(γ->Prop)->Prop}(hG:L2 G)(hF:∀x y,L1 (F x y)):L1 (λk=>G (λx y=>F x y k)):=λ_ h=>by
 obtain⟨x,y,h1,h2⟩:=hG _ h;obtain⟨z,h3,h4⟩:=hF x y _ h1;grind
def L2.b2{G:(α->β->Prop)->Prop}{F:α->β->(γ->δ->Prop)->Prop}(hG:L2 G)(hF:∀x y,L2 (F x y)):L2 (λk=>G (λx y=>F x y k)):=λ_ h=>by
 obtain⟨x,y,h1,h2⟩:=hG _ h;obtain⟨z,u,h3,h4⟩:=hF x y _ h1;grind
def L3.b2{G:(α->β->ε->Prop)->Prop}{F:α->β->ε->(γ->δ->Prop)->Prop}(hG:L3 G)(hF:∀x y e,L2 (F x y e)):L2 (λk=>G (λx y e=>F x y e k)):=λ_ h=>by
 obtain⟨x,y,e,h1,h2⟩:=hG _ h;obtain⟨z,u,h3,h4⟩:=hF x y e _ h1;grind
def L4.b1{ζ:Type}{G:(α->β->γ->δ->Prop)->Prop}{F:α->β->γ->δ->(ζ->Prop)->Prop}(hG:L4 G)(hF:∀x y z u,L1 (F x y z u)):L1 (λk=>G (λx y z u=>F x y z u k)):=λ_ h=>by
 obtain⟨x,y,z,u,h1,h2⟩:=hG _ h;obtain⟨v,h3,h4⟩:=hF x y z u _ h1;grind
def L4.b2{ζ η:Type}{G:(α->β->γ->δ->Prop)->Prop}{F:α->β->γ->δ->(ζ->η->Prop)->Prop}(hG:L4 G)(hF:∀x y z u,L2 (F x y z u)):L2 (λk=>G (λx y z u=>F x y z u k)):=λ_ h=>by
 obtain⟨x,y,z,u,h1,h2⟩:=hG _ h;obtain⟨v,v',h3,h4⟩:=hF x y z u _ h1;grind
def L1.wh(x:Bool){F:(α->Prop)->Prop}(hF:L1 F):L1 (λk=>qo x (F k)):=by
 cases x
 .exact L1.no
 .exact hF
def L2.wh(x:Bool){F:(α->β->Prop)->Prop}(hF:L2 F):L2 (λk=>qo x (F k)):=by
 cases x
 .exact L2.no
 .exact hF
def L3.wh{α β γ:Type}(x:Bool){F:(α->β->γ->Prop)->Prop}(hF:L3 F):L3 (λk=>qo x (F k)):=by
 cases x
 .exact L3.no
 .exact hF
def L2.br(x:Bool){F G:(α->β->Prop)->Prop}(hF:L2 F)(hG:L2 G):L2 (λk=>Bool.rec (motive:=λ_=>Prop) (F k) (G k) x):=by
 cases x<;>simp_all
def L1.br(x:Bool){F G:(α->Prop)->Prop}(hF:L1 F)(hG:L1 G):L1 (λk=>Bool.rec (motive:=λ_=>Prop) (F k) (G k) x):=by
 cases x<;>simp_all
end

theorem zi(n:Nat):L1 (qv n):=λk h=>by grind[qC]
def qiW(n:Int):L1 (xM n):=λk h=>by grind[zy]
def xD(n:Bool):L1 (qX n):=λk h=>by grind[qT]
def qqz{α:Type}(t:Tr α)(n:Nat):L1 (t.getK n):=λk h=>by
 grind[Tr.getK_iff]
def qqR{α:Type}(t:Tr α)(n:Nat)(x:α):L1 (t.setK n x):=λk h=>by grind[Tr.setK_iff]
theorem qix(l:List AV)(n:Nat):L1 (qiw l n):=λk h=>by
 grind[x9]
def qeD(n:Nat)(l:List AV):L1 (qcK n l):=λk h=>by
 grind[zK]
def qfK(n:Nat)(l:List AV):L1 (qc6 n l):=λk h=>by
 grind[zP]
def qnp(vs:List AV)(n:Nat)(l:List AV):L1 (jo vs n l):=λk h=>by
 grind[jG]
def qql(zy bs:List AV):L1 (qmw zy bs):=λk h=>by grind[qaY]
def qlM(l:List AV):L1 (qhJ l):=λk h=>by grind[jU]
def ql4(z:List AV)(n:Nat):L1 (qkC z n):=λk h=>by grind[qdY]
def qfa(h:Hp)(b:Nat):L4 (qau h b):=λk hk=>by
 obtain⟨v,h1,h2⟩:=qqz _ _ _ hk;cases v with
 | cells e w a cs=>exact⟨e,w,a,cs,h1,λk' hk'=>h2 _ hk'⟩
 | dead=>simp_all
 | map=>simp_all
def qeV(h:Hp)(x:Blk):L2 (jE h x):=λk hk=>by
 cases h with
 | mk sz fl tr => 
  obtain⟨t',h1,h2⟩:=qqR tr sz x _ hk;obtain⟨m,h3,h4⟩:=zi _ _ h1;exact⟨_,_,h3,λk' hk'=>h2 _ (h4 _ hk')⟩
theorem qn9(h:Hp)(b:Nat)(x:Blk):L1 (qdg h b x):=by
 cases h with
 | mk sz fl tr=>exact L1.br _ L1.no (L1.b1 (qqR tr b x) λt'=>L1.ret _)
def qG5(h:Hp)(b off:Nat):L1 (ldK h b off):=L4.b1 (qfa h b) (by grind[qix])
def qn2(h:Hp)(b off n:Nat):L1 (qfn h b off n):=L4.b1 (qfa h b) λ_ _ _ cs=>L1.b1 (qfK off cs) λl=>qeD n l
def qpZ(h:Hp)(b off:Nat)(vs:List AV):L1 (stK h b off vs) :=
 L4.b1 (qfa h b) λe w a cs=>L1.br _ L1.no (L1.br _ L1.no (L1.b1 (qnp vs off cs) (by grind[qn9])))
def qA(t:Tr AV)(x:O):L1 (evK t x):=by
 cases x
 .exact qqz _ _
 .exact L1.ret _
def qim(t:Tr AV):∀xs,L1 (qar t xs)
 | []=>L1.ret _
 | x::xs=>by
  show L1 (λk=>evK t x (λv=>qar t xs (λvs=>k (v::vs))))
  exact L1.b1 (qA t x) λv=>L1.b1 (qim t xs) λvs=>L1.ret _
def qxK(v:AV):L1 (unB v):=by cases v<;>first|exact L1.no|exact L1.ret _
def qkx(v:AV):L2 (unI v):=by cases v<;>first|exact L2.no|exact L2.ret _ _
def qgn(v:AV):L1 (unN v):=by
 cases v<;>try exact L1.no
 rename_i q n;cases n
 .exact L1.ret _
 .exact L1.no
def qxM(v:AV):L2 (unP v):=by cases v<;>first|exact L2.no|exact L2.ret _ _
def qj1(t:Tr AV)(x:Option O):L1 (qcG t x):=by
 cases x
 .exact L1.ret _
 .rename_i x;show L1 (λk=>evK t x (λv=>k (some v)))
  simp_all[L1.b1,qA,L1.ret]
theorem qhc(r:Option AV):L1 (qiz r):=by
 cases r
 .exact L1.no
 .exact L1.ret _
def qqh(x:Option AV)(d top:Nat):L1 (qiN x d top):=by
 cases x
 .exact L1.ret _
 .rename_i v;show L1 (λk=>unN v (λn=>qo (Nat.ble n top) (qv n k)))
  exact L1.b1 (qgn _) λn=>L1.wh _ (zi n)
def qdc(len cap:Nat)(lo hi mx:Option AV):L3 (xe len cap lo hi mx):=by
 refine L1.b3 (qqh mx cap cap) λm=>?_
 cases hi with
 | none =>
  cases mx with
  | none =>
   simp_all[L3.wh,L1.b3,qqh,L3.ret]
  | some _=>exact L3.no
 | some v =>
  refine L1.b3 (qgn v) λh=>?_
  simp_all[L3.wh,L1.b3,qqh,L3.ret]
def qhh(h:Hp)(esz:Nat)(x:AV):L2 (qcm h esz x):=by
 unfold qcm;cases x<;>dsimp only<;>try exact L2.no
 all_goals simp_all[L2.wh,L1.b2,L2.ret,qn2,qeD]
def qqU:∀cs,L1 (qjA cs)
 | []=>L1.ret _
 | v::cs=>by
  cases v<;>try exact L1.no
  rename_i q n;cases q<;>try exact L1.no
  cases n
  .rename_i m;show L1 (λk=>qjA cs (λl=>k (UInt8.ofNat m::l)))
   exact L1.b1 (qqU cs) λl=>L1.ret _
  .exact L1.no
def qiU(t:Tr AV):∀ps l,L1 (qah t ps l)
 | [],l=>L1.ret l
 | p::ps,l=>by
  show L1 (λk=>evK t p.2.2 (λv=>qo (qcQ v) (qv p.1 (λoff=>qhJ (cellsOf v) (λn=>qo (Nat.beq n p.2.1) (jo (cellsOf v) off l (λl'=>qah t ps l' k)))))))
  exact L1.b1 (qA t p.2.2) λv=>L1.wh _ (L1.b1 (zi p.1) λoff=>L1.b1 (qlM _) λn=>L1.wh _ (L1.b1 (qnp _ _ _) λl'=>qiU t ps l'))
def qs9(op:BinOp)(q:IntKind)(x y:Int):L1 (xl op q x y):=by
 unfold xl;cases op<;>dsimp only<;>first|exact L1.no|exact L1.b1 (qiW _) λr=>L1.ret _|exact L1.b1 (xD _) λr=>L1.b1 (xD _) λr=>L1.ret _|exact L1.b1 (xD _) λr=>L1.ret _|exact L1.br _ (L1.b1 (qiW _) λr=>L1.ret _) L1.no
def qxq(op:BinOp)(q:IntKind)(x y:Int):L1 (qj6 op q x y):=by
 cases y with
 | negSucc=>exact L1.no
 | ofNat m =>
  unfold qj6;refine L1.b1 (by grind[zi]) λn=>?_
  cases op<;>dsimp only<;>first|exact L1.no|exact L1.b1 (qiW _) λr=>L1.ret _
def qtY(op:BinOp)(x y:List UInt8):L1 (qbU op x y):=by
 unfold qbU;cases op<;>dsimp only<;>first|exact L1.no|exact L1.br _ L1.no (L1.ret _)|exact L1.b1 (xD _) λr=>L1.b1 (xD _) λr=>L1.b1 (xD _) λr=>L1.ret _|exact L1.b1 (xD _) λr=>L1.b1 (xD _) λr=>L1.ret _|exact L1.b1 (xD _) λr=>L1.ret _
theorem qBa(orc:Orc)(q:IntKind)(x:AV):L1 (cvK orc q x):=by
 unfold cvK;cases x<;>dsimp only<;>try exact L1.no
 all_goals simp_all[L1.ret,qhc]
theorem qur(orc:Orc)(op:BinOp)(x y:AV):L1 (xo orc op x y):=by
 unfold xo;cases x<;>dsimp only<;>try exact L1.no
 .cases y<;>dsimp only<;>try exact L1.no
  .cases op<;>dsimp only<;>first|exact qxq _ _ _ _|exact L1.wh _ (qs9 _ _ _ _)
  .exact qhc _
 .cases y<;>dsimp only<;>try exact L1.no
  .exact qtY _ _ _
  .exact qhc _
 grind[qhc]
def qpl(q:NK)(x:AV):L1 (jj q x):=by unfold jj;cases q<;>cases x<;>dsimp only<;>first|exact L1.no|exact L1.ret _|exact L1.wh _ (L1.ret _)
def qsH(q:PK)(x y:AV):L1 (qby q x y):=by
 unfold qby;cases q<;>cases x<;>dsimp only<;>first|exact L1.no|(cases y<;>dsimp only<;>first|exact L1.no|exact L1.wh _ (xD _)|exact xD _)
def qqn:∀qs xs ys,L1 (qcu qs xs ys)
 | [],_,_=>L1.ret _
 | q::qs,[],_=>L1.no
 | q::qs,_::_,[]=>L1.no
 | q::qs,x::xs,y::ys=>by
  show L1 (λk=>qby q x y (λe=>Bool.rec (motive:=λ_=>Prop) (k false) (qcu qs xs ys k) e))
  exact L1.b1 (qsH q x y) λe=>L1.br e (L1.ret _) (qqn qs xs ys)
def qsi(op:UnOp)(x:AV):L1 (qeE op x):=by
 unfold qeE;cases op<;>cases x<;>dsimp only<;>first|exact L1.no|exact L1.b1 (qiW _) λr=>L1.ret _|simp_all[L1.ret]
theorem qqf(h:Hp)(esz bytes:Nat)(c:Bool)(s x:AV):L2 (qhG h esz bytes c s x):=by
 unfold qhG;refine L2.b2 (qhh h esz x) λn new=>?_
 cases s<;>dsimp only<;>try exact L2.no
 .exact L2.wh _ (L2.wh _ (L2.b2 (qeV _ _) λb h'=>L2.ret _ _))
 .rename_i b o len cap loose
  refine L2.br _ (L1.b2 (zi _) λneed=>L2.br _ (L2.wh _ (L2.wh _ (L1.b2 (qn2 _ _ _ _) λold=>L1.b2 (qql _ _) λcs=>L2.b2 (qeV _ _) λb' h'=>L2.ret _ _))) ?_)
   (L1.b2 (zi _) λneed=>L2.wh _ (L2.wh _ (L2.wh _ (L4.b2 (qfa _ _) λe w a ys=>L2.wh _ (L2.wh _ (L2.wh _ (L2.wh _ (L1.b2 (qlM _) λq=>L2.wh _ (L1.b2 (qfK _ _) λzs=>L1.b2 (qql _ _) λcs'=>L1.b2 (qn9 _ _ _) λh1=>L2.b2 (qeV _ _) λb' h'=>L2.ret _ _)))))))))
  cases n
  .exact L2.ret _ _
  simp_all[L1.b2,qpZ,L2.ret]
 .cases n
  .exact L2.ret _ _
  .exact L2.no
 .exact L2.wh _ (L2.wh _ (L2.b2 (qeV _ _) λb h'=>L2.ret _ _))
 .exact L1.b2 (zi _) λneed=>L2.wh _ (L2.wh _ (L2.wh _ (L4.b2 (qfa _ _) λe w a ys=>L2.wh _ (L2.wh _ (L2.wh _ (L2.wh _ (L1.b2 (qlM _) λq=>L2.wh _ (L1.b2 (qql _ _) λcs'=>L1.b2 (qn9 _ _ _) λh1=>L2.b2 (qeV _ _) λb' h'=>L2.ret _ _))))))))
def qG7(h:Hp)(p:AV):L1 (ldV h p):=by
 unfold ldV;cases p<;>dsimp only<;>first|exact L1.no|exact qG5 _ _ _|grind[qix]
def qDd(h:Hp)(p:AV)(n:Nat):L1 (qkA h p n):=by
 unfold qkA;cases p<;>dsimp only<;>first|exact L1.no|exact qn2 _ _ _ _|simp_all[L1.b1,qfK,qeD]
def qn6(p:AV)(n:Nat):L1 (qiu p n):=by
 unfold qiu;cases p<;>dsimp only<;>first|exact L1.no|exact L1.b1 (zi _) λo=>L1.ret _
def qH7(h:Hp)(esz:Nat)(d s:AV):L2 (qmN h esz d s):=by
 unfold qmN;cases d<;>dsimp only<;>try exact L2.no
 .simp_all[L2.b2,qhh,L2.ret]
 .exact L2.b2 (qhh _ _ _) λ_ _=>L1.b2 (zi _) λm=>L1.b2 (qeD _ _) λcs=>L1.b2 (qpZ _ _ _ _) λh'=>L2.ret _ _
def qvk(h:Hp)(b esz:Nat)(c:Bool)(v:AV)(h':Hp):L2 (λk:AV->Hp->Prop=>qky h b esz c (k v h')):=by
 cases c
 .exact L2.ret _ _
 .exact L4.b2 (qfa h b) λe _ _ _=>L2.wh _ (L2.ret _ _)

def qoD(t:Tr AV)(b:Nat)(ps:List Nat){G:(AV->Hp->Prop)->Prop}(hG:L2 G):L2 (λk=>xT t b ps (G k)):=by
 induction ps with
 | nil=>exact hG
 | cons q ps ih =>
  show L2 (λk=>evK t (.t q) (λy=>match y with | .ptr b' _=>qo (not (Nat.beq b' b)) (xT t b ps (G k)) | .pf _ _=>xT t b ps (G k)|_=>False))
  exact L1.b2 (qA t (.t q)) λy=>by cases y<;>dsimp only<;>first|exact L2.no|exact L2.wh _ ih|exact ih
def qxn(t:Tr AV)(ps:List Nat)(s:AV){G:(AV->Hp->Prop)->Prop}(hG:L2 G):L2 (λk=>qbi t ps s (G k)):=by
 unfold qbi;cases s<;>dsimp only<;>first|exact L2.no|exact hG|exact qoD _ _ _ hG
def qv4(orc:Orc)(kd:Option IntKind)(i:AV){G:(AV->Hp->Prop)->Prop}(hG:L2 G):L2 (λk=>qkz orc kd i (G k)):=by
 unfold qkz;cases i<;>dsimp only<;>try exact L2.no
 .cases kd<;>dsimp only
  all_goals simp_all[L2.no,L2.wh]
 .cases kd<;>dsimp only
  all_goals simp_all[L2.no]
 .cases kd<;>dsimp only
  all_goals simp_all[L1.b2,qhc,L2.no]
def qpn(orc:Orc)(x y:AV):L1 (qeT orc x y):=by
 unfold qeT;cases y<;>dsimp only<;>try exact L1.no
 .cases x<;>dsimp only<;>try exact L1.no
  exact L1.wh _ (xD _)
 .cases x<;>dsimp only<;>try exact L1.no
  .exact xD _
  simp_all[L1.b1,qhc,qxK]
def qrk(orc:Orc)(i:AV):∀es,L1 (qcy orc i es)
 | []=>L1.ret _
 | e::es=>by
  show L1 (λk=>qeT orc i e.1 (λr=>Bool.rec (motive:=λ_=>Prop) (qcy orc i es k) (k (some e.2)) r))
  exact L1.b1 (qpn orc i e.1) λr=>L1.br r (qrk orc i es) (L1.ret _)
def qxO(orc:Orc)(i v:AV):∀es,L1 (qhj orc i v es)
 | []=>L1.ret _
 | e::es=>by
  show L1 (λk=>qeT orc i e.1 (λr=>Bool.rec (motive:=λ_=>Prop) (qhj orc i v es (λl=>k (e::l))) (k ((i,v)::es)) r))
  exact L1.b1 (qpn orc i e.1) λr=>L1.br r (L1.b1 (qxO orc i v es) λl=>L1.ret _) (L1.ret _)
theorem qlH{es:List (AV×AV)}{p:Prop}:qeQ es p↔(∀e,es.head?=some e->e.1≠.undef/\∀r,e.1≠.lp r)/\p:=by
 unfold qeQ;cases es<;>grind
def qwm(h:Hp)(b:Nat):L1 (qjV h b):=by
 unfold qjV;refine λk hk=>?_
 obtain⟨x,h1,h2⟩:=(Tr.getK_iff _ _ _).1 hk;cases x<;>grind[qlH,Tr.getK_iff]
theorem qth{h:Hp}{b:Nat}{k:List UInt8->Nat->Prop}:qv0 h b k↔∃a n,h.tr.get b=some (.map (qer a n))/\k a n:=by
 unfold qv0;rw[Tr.getK_iff];constructor
 .rintro⟨x,h1,h2⟩;cases x with
  | cells=>simp_all
  | dead=>simp_all
  | map es =>
   dsimp only at h2;split at h2
   .exact⟨_,_,h1,h2⟩
   simp_all
 .rintro⟨a,n,h1,h2⟩;exact⟨_,h1,h2⟩
def qId(h:Hp)(b:Nat):L2 (qv0 h b):=λk hk=>by
 grind[qth]
def quj(ok:Bool)(zero:AV)(v:Option AV):L1 (qhF ok zero v):=by
 unfold qhF;cases v<;>cases ok<;>exact L1.ret _
theorem qtj(l:List (AV×AV))(k:Nat->Prop):qBk l k↔k l.length:=by
 have key:∀(l:List (AV×AV)) (n:Nat),(List.rec (motive:=λ_=>Nat->(Nat->Prop)->Prop) (λn k=>k n) (λ_ _ ih n k=>qv (Nat.succ n) (λm=>ih m k)) l n k:Prop)↔k (l.length+n):=by
  intro l
  induction l with
  | nil=>simp_all
  | cons x xs ih =>
   grind[qC]
 exact key l 0
def qIe(es:List (AV×AV)):L1 (qBk es):=λk h=>by grind[qtj]
def qHv(orc:Orc)(o:IOp)(t:Tr AV)(h:Hp):L2 (opK orc o t h):=by
 unfold opK;cases o<;>dsimp only
 case mov x=>exact L1.b2 (qA t x) λv=>L2.ret _ _
 case pick c x y=>exact L1.b2 (qA t c) λc=>L1.b2 (qxK c) λc=>L2.br _ (L1.b2 (qA t y) λv=>L2.ret _ _) (L1.b2 (qA t x) λv=>L2.ret _ _)
 case alloc z=>exact L2.b2 (qeV _ _) λb h'=>L2.ret _ _
 case box x=>exact L1.b2 (qA t x) λv=>L2.wh _ (L2.b2 (qeV _ _) λb h'=>L2.ret _ _)
 case build z ps=>exact L1.b2 (qiU t ps z) λcs=>L2.ret _ _
 case buildS n z ps=>exact L1.b2 (ql4 z n) λcs=>L1.b2 (qiU t ps cs) λcs=>L2.b2 (qeV _ _) λb h'=>L2.ret _ _
 case load1 x=>exact L1.b2 (qA t x) λp=>L1.b2 (qG7 _ _) λv=>L2.ret _ _
 case loadN n x=>exact L1.b2 (qA t x) λp=>L1.b2 (qDd _ _ _) λv=>L2.ret _ _
 case store n x v=>exact L1.b2 (qA t x) λp=>L2.b2 (qxM p) λb o=>L1.b2 (qA t v) λv=>L2.wh _ (L1.b2 (qlM _) λm=>L2.wh _ (L1.b2 (qpZ _ _ _ _) λh'=>L2.ret _ _))
 case nilChk x=>exact L1.b2 (qA t x) λv=>by cases v<;>dsimp only<;>first|exact L2.no|exact L2.ret _ _
 case bin op x y=>exact L1.b2 (qA t x) λx=>L1.b2 (qA t y) λy=>L1.b2 (qur orc op x y) λv=>L2.ret _ _
 case eqN neg q x=>exact L1.b2 (qA t x) λx=>L1.b2 (qpl q x) λr=>L1.b2 (xD _) λr=>L2.ret _ _
 case un op x=>exact L1.b2 (qA t x) λx=>L1.b2 (qsi op x) λv=>L2.ret _ _
 case cvInt q x=>exact L1.b2 (qA t x) λx=>L1.b2 (qBa orc q x) λr=>L2.ret _ _
 case fAddr off x=>exact L1.b2 (qA t x) λp=>L1.b2 (qn6 _ _) λv=>L2.ret _ _
 case fld off n x =>
  refine L1.b2 (qA t x) λx=>?_
  cases x<;>dsimp only<;>try exact L2.no
  cases n
  .exact L1.b2 (qix _ _) λv=>L2.ret _ _
  .exact L1.b2 (qfK _ _) λl=>L1.b2 (qeD _ _) λl=>L2.ret _ _
 case iAddrA len esz x i=>exact L1.b2 (qA t x) λp=>L1.b2 (qA t i) λi=>L1.b2 (qgn i) λi=>L2.wh _ (L1.b2 (qn6 _ _) λv=>L2.ret _ _)
 case iAddrS esz x i =>
  refine L1.b2 (qA t x) λx=>?_
  cases x<;>dsimp only<;>try exact L2.no
  all_goals exact L1.b2 (qA t i) λi=>L1.b2 (qgn i) λi=>L2.wh _ (L1.b2 (zi _) λo'=>L2.ret _ _)
 case idxA len esz agg x i =>
  refine L1.b2 (qA t x) λx=>?_
  cases x<;>dsimp only<;>try exact L2.no
  exact L1.b2 (qA t i) λi=>L1.b2 (qgn i) λi=>L2.wh _ (L1.b2 (zi _) λo=>L2.br _ (L1.b2 (qix _ _) λv=>L2.ret _ _) (L1.b2 (qfK _ _) λl=>L1.b2 (qeD _ _) λl=>L2.ret _ _))
 case idxS x i =>
  refine L1.b2 (qA t x) λx=>?_
  cases x<;>dsimp only<;>try exact L2.no
  rename_i s;refine L1.b2 (qA t i) λi=>L1.b2 (qgn i) λi=>?_
  cases s[i]?
  .exact L2.no
  .exact L2.ret _ _
 case slcS esz x lo hi mx =>
  refine L1.b2 (qA t x) λx=>L1.b2 (qj1 t lo) λlo=>L1.b2 (qj1 t hi) λhi=>L1.b2 (qj1 t mx) λmx=>?_
  cases x<;>dsimp only<;>try exact L2.no
  .exact L3.b2 (qdc _ _ _ _ _) λ_ _ _=>L2.ret _ _
  .exact L3.b2 (qdc _ _ _ _ _) λl h' m=>L1.b2 (zi _) λo'=>L1.b2 (zi _) λlen'=>L1.b2 (zi _) λcap'=>qvk _ _ _ _ _ _
  .exact L3.b2 (qdc _ _ _ _ _) λl h' m=>L2.br _ (L1.b2 (qfK _ _) λl1=>L1.b2 (zi _) λlen'=>L1.b2 (qeD _ _) λl2=>L2.ret _ _) (L2.ret _ _)
  .exact L3.b2 (qdc _ _ _ _ _) λ_ _ _=>L2.ret _ _
  .rename_i b n;cases mx with
   | some _ =>
    cases n with
    | zero=>exact L3.b2 (qdc _ _ _ _ _) λ_ _ _=>L2.ret _ _
    | succ n=>exact L3.b2 (qdc _ _ _ _ _) λl h' m=>L1.b2 (zi _) λo'=>L1.b2 (zi _) λlen'=>L1.b2 (zi _) λcap'=>L2.ret _ _
   | none =>
    cases n with
    | zero=>exact L3.b2 (qdc _ _ _ _ _) λ_ _ _=>L2.ret _ _
    | succ n=>exact L3.b2 (qdc _ _ _ _ _) λl h' m=>L1.b2 (zi _) λo'=>L1.b2 (zi _) λlen'=>L1.b2 (zi _) λcap'=>qvk _ _ _ _ _ _
 case slcA len esz x lo hi mx =>
  exact L1.b2 (qA t x) λp=>L2.b2 (qxM p) λb o=>L1.b2 (qj1 t lo) λlo=>L1.b2 (qj1 t hi) λhi=>L1.b2 (qj1 t mx) λmx =>
   L3.b2 (qdc _ _ _ _ _) λl h' m=>L1.b2 (zi _) λo'=>L1.b2 (zi _) λlen'=>L1.b2 (zi _) λcap'=>L2.ret _ _
 case ext x i =>
  refine L1.b2 (qA t x) λx=>?_
  cases x<;>dsimp only<;>try exact L2.no
  exact L1.b2 (qix _ _) λv=>L2.ret _ _
 case mkF f a c=>exact L1.b2 (qim t a) λa=>L1.b2 (qim t c) λc=>L2.ret _ _
 case mkS esz bytes z len cap=>exact L1.b2 (qA t len) λlen=>L1.b2 (qA t cap) λcap=>L1.b2 (qgn len) λl=>L1.b2 (qgn cap) λc=>L2.wh _ (L2.wh _ (L2.wh _ (L1.b2 (ql4 z c) λcs=>L2.b2 (qeV _ _) λb h'=>L2.ret _ _)))
 case len str x =>
  refine L1.b2 (qA t x) λx=>?_
  cases x<;>dsimp only<;>try exact L2.no
  .exact L2.br _ L2.no (L1.b2 (zi _) λn=>L2.ret _ _)
  .exact L2.br _ (L2.ret _ _) L2.no
  .exact L2.br _ (L2.ret _ _) L2.no
  .exact L2.br _ L2.no (L1.b2 (qhc _) λv=>L2.ret _ _)
  .exact L2.br _ (L2.ret _ _) L2.no
  .exact L2.br _ (L2.ret _ _) L2.no
  .exact L2.br _ (L2.ret _ _) L2.no
  .exact L2.br _ (L2.ret _ _) L2.no
 case app esz bytes c s x=>exact L1.b2 (qA t s) λs=>L1.b2 (qA t x) (by grind[qqf])
 case max x y=>exact L1.b2 (qA t x) λx=>L1.b2 (qA t y) λy=>L2.b2 (qkx x) λq n=>L2.b2 (qkx y) λ_ m=>L2.br _ (L2.ret _ _) (L2.ret _ _)
 case clear z x =>
  refine L1.b2 (qA t x) λx=>?_
  cases x<;>dsimp only<;>try exact L2.no
  .exact L2.ret _ _
  .rename_i b o n _ _;cases n
   .exact L2.ret _ _
   .rename_i n;show L2 (λk=>qkC z (n+1) (λcs=>stK h b o cs (λh'=>k (AV.tup []) h')))
    exact L1.b2 (ql4 z (n+1)) λcs=>L1.b2 (qpZ _ _ _ _) λh'=>L2.ret _ _
 case mkM=>exact L2.b2 (qeV _ _) λb h'=>L2.ret _ _
 case lookM kd ok z x i =>
  refine L1.b2 (qA t x) λx=>L1.b2 (qA t i) λi=>qv4 orc kd i ?_
  cases x<;>dsimp only<;>try exact L2.no
  .exact L1.b2 (quj _ _ _) λv=>L2.ret _ _
  .exact L1.b2 (qwm _ _) λes=>L1.b2 (qrk _ _ _) λv=>L1.b2 (quj _ _ _) λv=>L2.ret _ _
 case updM kd x i v =>
  refine L1.b2 (qA t x) λx=>L1.b2 (qA t i) λi=>L1.b2 (qA t v) λv=>qv4 orc kd i ?_
  cases x<;>dsimp only<;>try exact L2.no
  exact L1.b2 (qwm _ _) λes=>L1.b2 (qxO _ _ _ _) λes'=>L1.b2 (qn9 _ _ _) λh'=>L2.ret _ _
 case min x y=>exact L1.b2 (qA t x) λx=>L1.b2 (qA t y) λy=>L2.b2 (qkx x) λq n=>L2.b2 (qkx y) λ_ m=>L2.br _ (L2.ret _ _) (L2.ret _ _)
 case storeD n x v ps=>exact L1.b2 (qA t x) λp=>L2.b2 (qxM p) λb o=>qoD _ _ _ (L1.b2 (qA t v) λv=>L2.wh _ (L1.b2 (qlM _) λm=>L2.wh _ (L1.b2 (qpZ _ _ _ _) λh'=>L2.ret _ _)))
 case appD esz bytes s x ps=>exact L1.b2 (qA t s) λs=>L1.b2 (qA t x) λx=>qxn _ _ _ (qqf _ _ _ _ _ _)
 all_goals simp_all[L1.b2,qA,qqf,L2.no]

def LC(C:zL):Prop:=∀f vs h,L2 (C f vs h)
theorem qxh{F:Hp->(AV->Hp->Prop)->Prop}(hF:∀h,L2 (F h))(h:Hp):L2 (qhf F h):=by
 cases h with
 | mk sz fl tr =>
  intro k hk;obtain⟨v,h',h1,h2⟩:=hF ⟨sz,sz,tr⟩ _ hk;cases h' with
  | mk sz' fl' tr'=>exact⟨v,⟨sz',fl,tr'⟩,h1,λk' hk'=>h2 (λv h'=>Hp.rec (motive:=λ_=>Prop) (λsz' _ tr'=>k' v ⟨sz',fl,tr'⟩) h') hk'⟩
theorem qr6(orc:Orc){C:zL}(hi:LC C)(r:RK)(t:Tr AV)(h:Hp):L2 (qcI orc C r t h):=by
 cases r with
 | op o=>exact qHv orc o t h
 | callF f args=>exact L1.b2 (qim t args) λvs=>hi (Nat.succ f) vs h
 | callV x args =>
  refine L1.b2 (qA t x) λg=>L1.b2 (qim t args) λvs=>?_
  cases g<;>first|exact L2.no|exact hi _ _ _
 | callW f args=>exact L1.b2 (qim t args) λvs=>hi (Nat.succ f) vs h
 | callVW x args =>
  refine L1.b2 (qA t x) λg=>L1.b2 (qim t args) λvs=>?_
  cases g<;>first|exact L2.no|exact hi _ _ _
def qEy(orc:Orc)(draw:Bool){C:zL}(hi:LC C)(r:RK)(t:Tr AV)(h:Hp):L2 (qiB orc draw C r t h) :=
 L2.br _ (by grind[qr6]) (by grind[qxh,qr6])
def qvJ(t:Tr AV)(g:Option (Nat×Bool)):L1 (qaS t g):=by
 cases g with
 | none=>exact L1.ret _
 | some g =>
  show L1 (λk=>t.getK g.1 (λv=>match v with
   | .b x=>qX (x==g.2) k
   | .tup _=>k false
   | _=>False))
  refine L1.b1 (qqz t g.1) λv=>?_
  cases v<;>dsimp only<;>first|exact L1.no|exact xD _|exact L1.ret _
def qvc(t:Tr AV)(d:Option Nat)(v:AV):L1 (qaq t d v):=by
 cases d
 .exact L1.ret _
 .exact qqR _ _ _

structure Loc where
 blk:Nat
 off:Nat
 size:Nat
 esz:Nat
structure Fz where
 φ:Nat->Option (Array Value)
 ok:∀k a,tab k=some a->φ k=some a
instance:Coe Fz (Nat->Option (Array Value)):=⟨Fz.φ⟩
instance:CoeFun Fz (λ_=>Nat->Option (Array Value)):=⟨Fz.φ⟩
structure Ren where
 loc:Nat->Option Loc
 frz:Fz
 n:Nat
instance:CoeFun Ren (λ_=>Nat->Option Loc):=⟨Ren.loc⟩
def Ren.le(ρ ρ':Ren):Prop:=(∀b L,ρ b=some L->ρ' b=some L)/\(∀k a,ρ.frz k=some a->ρ'.frz k=some a)/\ρ.n<=ρ'.n
def Ren.le_trans{a b c:Ren}(h:a.le b)(h':b.le c):a.le c:=⟨λx L hx=>h'.1 x L (h.1 x L hx),λk y hk=>h'.2.1 k y (h.2.1 k y hk),Nat.le_trans h.2.2 h'.2.2⟩

mutual
inductive CR (σ:Nat->Value) (φ:Nat->Option (Array Value)):AV->Value->Prop where
 | undef (v:Value):CR σ φ .undef v
 | b (x:Bool):CR σ φ (.b x) (.bool x)
 | i (k:IntKind) (n:Int):CR σ φ (.i k n) (.int k n)
 | s (x:List UInt8):CR σ φ (.s x) (.string ⟨x.toArray⟩)
 | nilp:CR σ φ .nilp (.pointer none)
 | nils:CR σ φ .nils (.slice none 0 0)
 | nilf:CR σ φ .nilf .nilFunc
 | fn (f:Nat) (first cap:List AV) (first' cap':Array Value) (h1:CRs σ φ first first'.toList) (h2:CRs σ φ cap cap'.toList):CR σ φ (.fn f first cap) (.func (.func f) first' cap')
 | nili:CR σ φ .nili .nilIface
 | ifc (t:Nat) (v:AV) (v':Value) (h:CR σ φ v v'):CR σ φ (.ifc t v) (.iface t v')
 | agg (cs:List AV) (cs':Array Value) (h:CRs σ φ cs cs'.toList):CR σ φ (.agg cs) (.agg cs')
 | tup (cs:List AV) (cs':Array Value) (h:CRs σ φ cs cs'.toList):CR σ φ (.tup cs) (.tuple cs')
 | nilm:CR σ φ .nilm (.map none)
 | sym (j:Nat):CR σ φ (.sym j) (σ j)
 | fz (n off c:Nat) (cs:List AV) (k:Nat) (arr:Array Value) (hn:n<=c) (h:φ k=some arr) (hs:CRs σ φ cs ((arr.toList.drop off).take cs.length)):CR σ φ (.fz n cs) (.slice (some ⟨k,off,none⟩) n c)
 | fz0 (a:Option Addr):CR σ φ (.fz 0 []) (.slice a 0 0)
 | pf (off base:Nat) (cs:List AV) (k:Nat) (arr:Array Value) (h:φ k=some arr) (hs:CRs σ φ cs ((arr.toList.drop base).take cs.length)):CR σ φ (.pf cs off) (.pointer (some ⟨k,base+off,none⟩))
 | e0 (a:Option Addr):CR σ φ .e0 (.slice a 0 0)
 | nz (a:Addr) (c:Nat):CR σ φ .nz (.slice (some a) 0 c)
inductive CRs (σ:Nat->Value) (φ:Nat->Option (Array Value)):List AV->List Value->Prop where
 | nil:CRs σ φ [] []
 | cons (v:AV) (vs:List AV) (v':Value) (vs':List Value) (h:CR σ φ v v') (hs:CRs σ φ vs vs'):CRs σ φ (v::vs) (v'::vs')
end
mutual
theorem CR.mono{σ:Nat->Value}{φ φ':Nat->Option (Array Value)}(hφ:∀k a,φ k=some a->φ' k=some a):∀{a:AV} {v:Value},CR σ φ a v->CR σ φ' a v
 | _,_,.undef v=>.undef v
 | _,_,.b x=>.b x
 | _,_,.i k n=>.i k n
 | _,_,.s x=>.s x
 | _,_,.nilp=>.nilp
 | _,_,.nils=>.nils
 | _,_,.nilf=>.nilf
 | _,_,.fn f first cap first' cap' h1 h2=>.fn f first cap first' cap' (h1.mono hφ) (h2.mono hφ)
 | _,_,.nili=>.nili
 | _,_,.ifc t v v' h=>.ifc t v v' (h.mono hφ)
 | _,_,.agg cs cs' h=>.agg cs cs' (h.mono hφ)
 | _,_,.tup cs cs' h=>.tup cs cs' (h.mono hφ)
 | _,_,.nilm=>.nilm
 | _,_,.sym j=>.sym j
 | _,_,.fz n off c cs k arr hn h hs=>.fz n off c cs k arr hn (hφ k arr h) (hs.mono hφ)
 | _,_,.fz0 a=>.fz0 a
 | _,_,.pf off base cs k arr h hs=>.pf off base cs k arr (hφ k arr h) (hs.mono hφ)
 | _,_,.e0 a=>.e0 a
 | _,_,.nz a c=>.nz a c
theorem CRs.mono{σ:Nat->Value}{φ φ':Nat->Option (Array Value)}(hφ:∀k a,φ k=some a->φ' k=some a):∀{a:List AV} {v:List Value},CRs σ φ a v->CRs σ φ' a v
 | _,_,.nil=>.nil
 | _,_,.cons v vs v' vs' h hs=>.cons v vs v' vs' (h.mono hφ) (hs.mono hφ)
end
def CRs.length{σ:Nat->Value}{φ:Nat->Option (Array Value)}{zy:List AV}{vs:List Value}(h:CRs σ φ zy vs):zy.length=vs.length:=by
 induction zy generalizing vs with
 | nil=>cases h;rfl
 | cons a zy ih=>cases h<;>grind

mutual
inductive VR (σ:Nat->Value) (ρ:Ren):AV->Value->Prop where
 | undef (v:Value):VR σ ρ .undef v
 | b (x:Bool):VR σ ρ (.b x) (.bool x)
 | i (k:IntKind) (n:Int):VR σ ρ (.i k n) (.int k n)
 | s (x:List UInt8):VR σ ρ (.s x) (.string ⟨x.toArray⟩)
 | nilp:VR σ ρ .nilp (.pointer none)
 | ptr (b o:Nat) (L:Loc) (h:ρ b=some L):VR σ ρ (.ptr b o) (.pointer (some ⟨L.blk,L.off+o,none⟩))
 | nils:VR σ ρ .nils (.slice none 0 0)
 | sl (b o len cap c:Nat) (loose:Bool) (L:Loc) (h:ρ b=some L)
   (hc:c=cap\/(loose=true/\cap<=c/\L.off+o+c*L.esz<=L.size)):VR σ ρ (.sl b o len cap loose) (.slice (some ⟨L.blk,L.off+o,none⟩) len c)
 | slz (b o x:Nat) (l:Bool) (L:Loc) (h:ρ b=some L):VR σ ρ (.sl b o 0 0 l) (.slice (some ⟨L.blk,x,none⟩) 0 0)
 | nilf:VR σ ρ .nilf .nilFunc
 | fn (f:Nat) (first cap:List AV) (first' cap':Array Value) (h1:VRs σ ρ first first'.toList) (h2:VRs σ ρ cap cap'.toList):VR σ ρ (.fn f first cap) (.func (.func f) first' cap')
 | nili:VR σ ρ .nili .nilIface
 | ifc (t:Nat) (v:AV) (v':Value) (h:VR σ ρ v v'):VR σ ρ (.ifc t v) (.iface t v')
 | agg (cs:List AV) (cs':Array Value) (h:VRs σ ρ cs cs'.toList):VR σ ρ (.agg cs) (.agg cs')
 | tup (cs:List AV) (cs':Array Value) (h:VRs σ ρ cs cs'.toList):VR σ ρ (.tup cs) (.tuple cs')
 | nilm:VR σ ρ .nilm (.map none)
 | map (b:Nat) (L:Loc) (h:ρ b=some L) (h0:L.off=0):VR σ ρ (.map b) (.map (some L.blk))
 | sym (j:Nat):VR σ ρ (.sym j) (σ j)
 | fz (n off c:Nat) (cs:List AV) (k:Nat) (arr:Array Value) (hn:n<=c) (h:ρ.frz k=some arr) (hs:CRs σ ρ.frz cs ((arr.toList.drop off).take cs.length)):VR σ ρ (.fz n cs) (.slice (some ⟨k,off,none⟩) n c)
 | fz0 (a:Option Addr):VR σ ρ (.fz 0 []) (.slice a 0 0)
 | pf (off base:Nat) (cs:List AV) (k:Nat) (arr:Array Value) (h:ρ.frz k=some arr) (hs:CRs σ ρ.frz cs ((arr.toList.drop base).take cs.length)):VR σ ρ (.pf cs off) (.pointer (some ⟨k,base+off,none⟩))
 | e0 (a:Option Addr):VR σ ρ .e0 (.slice a 0 0)
 | nz (a:Addr) (c:Nat):VR σ ρ .nz (.slice (some a) 0 c)
 | own0 (b:Nat) (a:Option Addr) (hb:b<ρ.n):VR σ ρ (.own b 0) (.slice a 0 0)
 | own (b n c:Nat) (L:Loc) (h:ρ b=some L) (hn:n<=c) (hc:L.off+c*L.esz<=L.size):VR σ ρ (.own b n) (.slice (some ⟨L.blk,L.off,none⟩) n c)
 | yl (b:Nat) (L:Loc) (h:ρ b=some L):VR σ ρ (.yl b) (.func (.yield L.blk) #[] #[])
inductive VRs (σ:Nat->Value) (ρ:Ren):List AV->List Value->Prop where
 | nil:VRs σ ρ [] []
 | cons (v:AV) (vs:List AV) (v':Value) (vs':List Value) (h:VR σ ρ v v') (hs:VRs σ ρ vs vs'):VRs σ ρ (v::vs) (v'::vs')
end

variable {σ:Nat->Value} {ρ ρ':Ren}

mutual
theorem VR.mono(hρ:ρ.le ρ'):∀{a:AV} {v:Value},VR σ ρ a v->VR σ ρ' a v
 | _,_,.undef v=>.undef v
 | _,_,.b x=>.b x
 | _,_,.i k n=>.i k n
 | _,_,.s x=>.s x
 | _,_,.nilp=>.nilp
 | _,_,.ptr b o L h=>.ptr b o L (hρ.1 b L h)
 | _,_,.nils=>.nils
 | _,_,.sl b o len cap c loose L h hc=>.sl b o len cap c loose L (hρ.1 b L h) hc
 | _,_,.slz b o x l L h=>.slz b o x l L (hρ.1 b L h)
 | _,_,.nilf=>.nilf
 | _,_,.fn f first cap first' cap' h1 h2=>.fn f first cap first' cap' (h1.mono hρ) (h2.mono hρ)
 | _,_,.nili=>.nili
 | _,_,.ifc t v v' h=>.ifc t v v' (h.mono hρ)
 | _,_,.agg cs cs' h=>.agg cs cs' (h.mono hρ)
 | _,_,.tup cs cs' h=>.tup cs cs' (h.mono hρ)
 | _,_,.nilm=>.nilm
 | _,_,.map b L h h0=>.map b L (hρ.1 b L h) h0
 | _,_,.sym j=>.sym j
 | _,_,.fz n off c cs k arr hn h hs=>.fz n off c cs k arr hn (hρ.2.1 k arr h) (hs.mono hρ.2.1)
 | _,_,.fz0 a=>.fz0 a
 | _,_,.pf off base cs k arr h hs=>.pf off base cs k arr (hρ.2.1 k arr h) (hs.mono hρ.2.1)
 | _,_,.e0 a=>.e0 a
 | _,_,.nz a c=>.nz a c
 | _,_,.own0 b a hb=>.own0 b a (Nat.lt_of_lt_of_le hb hρ.2.2)
 | _,_,.own b n c L h hn hc=>.own b n c L (hρ.1 b L h) hn hc
 | _,_,.yl b L h=>.yl b L (hρ.1 b L h)
theorem VRs.mono(hρ:ρ.le ρ'):∀{a:List AV} {v:List Value},VRs σ ρ a v->VRs σ ρ' a v
 | _,_,.nil=>.nil
 | _,_,.cons v vs v' vs' h hs=>.cons v vs v' vs' (h.mono hρ) (hs.mono hρ)
end

def VRs.length{zy:List AV}{vs:List Value}(h:VRs σ ρ zy vs):zy.length=vs.length:=by
 induction zy generalizing vs with
 | nil=>cases h;rfl
 | cons a zy ih=>cases h<;>grind
theorem VRs.get{zy:List AV}{vs:List Value}(h:VRs σ ρ zy vs){j:Nat}{a:AV}(ha:zy[j]?=some a):∃v,vs[j]?=some v/\VR σ ρ a v:=by
 induction zy generalizing vs j with
 | nil=>grind
 | cons x xs ih =>
  cases h<;>grind
theorem VRs.of_get{zy:List AV}{vs:List Value}(hl:zy.length=vs.length)(h:∀(j:Nat) a,zy[j]?=some a->∃v,vs[j]?=some v/\VR σ ρ a v):VRs σ ρ zy vs:=by
 induction zy generalizing vs with
 | nil => cases vs with
          | nil=>exact .nil
          | cons=>grind
 | cons x xs ih =>
  cases vs with
  | nil=>grind
  | cons v vs =>
   obtain⟨v',hv,hr⟩:=h 0 x rfl;simp at hv;subst hv;exact .cons _ _ _ _ hr (ih (by simp_all) λj a ha=>by simpa using h (j+1) a (by simp_all))
def VRs.append{zy bs:List AV}{vs us:List Value}(h:VRs σ ρ zy vs)(h':VRs σ ρ bs us):VRs σ ρ (zy++bs) (vs++us):=by
 induction zy generalizing vs with
 | nil=>cases h;exact h'
 | cons a zy ih=>cases h with|cons _ _ _ _ h hs=>exact .cons _ _ _ _ h (ih hs)
def VRs.take{zy:List AV}{vs:List Value}(h:VRs σ ρ zy vs)(n:Nat):VRs σ ρ (zy.take n) (vs.take n):=by
 induction zy generalizing vs n with
 | nil=>cases h;simp;exact .nil
 | cons a zy ih => cases h with | cons _ _ _ _ h hs => cases n with
                                                       | zero=>grind
                                                       | succ n=>exact .cons _ _ _ _ h (ih hs n)
def VRs.drop{zy:List AV}{vs:List Value}(h:VRs σ ρ zy vs)(n:Nat):VRs σ ρ (zy.drop n) (vs.drop n):=by
 induction zy generalizing vs n with
 | nil=>cases h;simp;exact .nil
 | cons a zy ih => cases h with | cons _ _ _ _ h hs => cases n with
                                                       | zero=>exact .cons _ _ _ _ h hs
                                                       | succ n=>simp_all

mutual
theorem CR.vr:∀{a:AV} {v:Value},CR σ ρ.frz a v->VR σ ρ a v
 | _,_,.undef v=>.undef v
 | _,_,.b x=>.b x
 | _,_,.i k n=>.i k n
 | _,_,.s x=>.s x
 | _,_,.nilp=>.nilp
 | _,_,.nils=>.nils
 | _,_,.nilf=>.nilf
 | _,_,.fn f first cap first' cap' h1 h2=>.fn f first cap first' cap' h1.vr h2.vr
 | _,_,.nili=>.nili
 | _,_,.ifc t v v' h=>.ifc t v v' h.vr
 | _,_,.agg cs cs' h=>.agg cs cs' h.vr
 | _,_,.tup cs cs' h=>.tup cs cs' h.vr
 | _,_,.nilm=>.nilm
 | _,_,.sym j=>.sym j
 | _,_,.fz n off c cs k arr hn h hs=>.fz n off c cs k arr hn h hs
 | _,_,.fz0 a=>.fz0 a
 | _,_,.pf off base cs k arr h hs=>.pf off base cs k arr h hs
 | _,_,.e0 a=>.e0 a
 | _,_,.nz a c=>.nz a c
theorem CRs.vr:∀{a:List AV} {v:List Value},CRs σ ρ.frz a v->VRs σ ρ a v
 | _,_,.nil=>.nil
 | _,_,.cons v vs v' vs' h hs=>.cons v vs v' vs' h.vr hs.vr
end
theorem CRs.get{φ:Nat->Option (Array Value)}{zy:List AV}{vs:List Value}(h:CRs σ φ zy vs){j:Nat}{a:AV}(ha:zy[j]?=some a):∃v,vs[j]?=some v/\CR σ φ a v:=by
 induction zy generalizing vs j with
 | nil=>grind
 | cons x xs ih =>
  cases h<;>grind
def CRs.take{φ:Nat->Option (Array Value)}{zy:List AV}{vs:List Value}(h:CRs σ φ zy vs)(n:Nat):CRs σ φ (zy.take n) (vs.take n):=by
 induction zy generalizing vs n with
 | nil=>cases h;simp;exact .nil
 | cons a zy ih => cases h with | cons _ _ _ _ h hs => cases n with
                                                       | zero=>grind
                                                       | succ n=>exact .cons _ _ _ _ h (ih hs n)
def CRs.drop{φ:Nat->Option (Array Value)}{zy:List AV}{vs:List Value}(h:CRs σ φ zy vs)(n:Nat):CRs σ φ (zy.drop n) (vs.drop n):=by
 induction zy generalizing vs n with
 | nil=>cases h;simp;exact .nil
 | cons a zy ih => cases h with | cons _ _ _ _ h hs => cases n with
                                                       | zero=>exact .cons _ _ _ _ h hs
                                                       | succ n=>simp_all

def qbk(σ:Nat->Value)(ρ:Ren)(es:List (AV×AV))(vs:List MapEntry):Prop :=
 es.length=vs.length/\∀(j:Nat) (e:AV×AV),es[j]?=some e->∃v:MapEntry,vs[j]?=some v/\VR σ ρ e.1 v.key/\VR σ ρ e.2 v.val

def qp9(es:List (AV×AV)):Prop:=∀e,es.head?=some e->e.1≠.undef/\∀r,e.1≠.lp r
class Cur where
 ok:Nat->Loop->Prop
 st:∀{j:Nat} {r:Loop} (s:LoopState) (p:Option Code),ok j r->ok j { r with state:=s,pending:=p }
instance cur:Cur:=⟨λ_ _=>False,λ_ _ h=>h⟩
def qe5(r r':Loop):Prop:=(r'=r/\∀j,r.assign≠.goto j)\/∃j,r.assign = .goto j/\Cur.ok j r'/\r'.state=r.state/\r'.pending=r.pending
def qe5.state{r r':Loop}(h:qe5 r r'):r'.state=r.state:=by
 rcases h with⟨rfl,_⟩|⟨_,_,_,h,_⟩
 all_goals grind
def qe5.pending{r r':Loop}(h:qe5 r r'):r'.pending=r.pending:=by
 rcases h with⟨rfl,_⟩|⟨_,_,_,_,h⟩
 all_goals grind
def qe5.set{r r':Loop}(h:qe5 r r')(s:LoopState)(p:Option Code):qe5 { r with state:=s,pending:=p } { r' with state:=s,pending:=p }:=by
 rcases h with⟨rfl,h0⟩|⟨j,h1,h2,_,_⟩
 .exact .inl ⟨rfl,h0⟩
 .exact .inr (by grind[Cur.st])
def qcr(σ:Nat->Value)(ρ:Ren)(es:List (AV×AV))(o:Obj):Prop :=
 (qp9 es/\∃vs clk,o = .map vs clk/\qbk σ ρ es vs.toList)\/(∃a n,es=qer a n/\o = .stringIter ⟨a.toArray⟩ n) \/
 ∃r r' ts,es=zJ r ts/\o = .loop r'/\qe5 r r'/\∀p ∈ ts,p.1<r'.tmps.size/\VR σ ρ p.2 (r'.tmps.getD p.1 undef)
theorem qcr.mono(hρ:ρ.le ρ'){es:List (AV×AV)}{o:Obj}(h:qcr σ ρ es o):qcr σ ρ' es o:=by
 rcases h with⟨h0,vs,clk,h1,h2,h3⟩|h|⟨r,r',ts,h1,h2,h4,h3⟩
 .exact .inl ⟨h0,vs,clk,h1,h2,by grind[VR.mono]⟩
 .exact .inr (.inl h)
 .exact .inr (by grind[VR.mono])
def qcr.map{es:List (AV×AV)}{o:Obj}(h:qcr σ ρ es o)(hn:qp9 es):∃vs clk,o = .map vs clk/\qbk σ ρ es vs.toList:=by
 rcases h with⟨_,h⟩|⟨a,n,rfl,_⟩|⟨r,_,ts,rfl,_⟩
 .exact h
 .exact absurd rfl (hn _ rfl).1
 .exact absurd rfl ((hn _ rfl).2 r)
theorem qpO{r r':Loop}{ts ts':List (Nat×AV)}(h:zJ r ts=zJ r' ts'):r=r'/\ts=ts':=by
 simp only[zJ,List.cons.injEq,Prod.mk.injEq,AV.lp.injEq,and_true]at h;refine⟨h.1,?_⟩;have h2:=h.2;clear h
 induction ts generalizing ts' with
 | nil=>simp_all
 | cons p ts ih =>
  cases ts'<;>grind
def qcr.rec'{r:Loop}{ts:List (Nat×AV)}{o:Obj}(h:qcr σ ρ (zJ r ts) o):∃r',o = .loop r'/\qe5 r r'/\∀p ∈ ts,p.1<r'.tmps.size/\VR σ ρ p.2 (r'.tmps.getD p.1 undef):=by
 rcases h with⟨h,_⟩|⟨a',n',h1,h2⟩|⟨r',r'',ts',h1,h2,h4,h3⟩
 .exact absurd rfl ((h _ rfl).2 r)
 .simp[qer,zJ]at h1
 grind[qpO]
def qcr.notCells{es:List (AV×AV)}{c:Array Value}{ty:TypeId}{fz:Nat×Nat}(h:qcr σ ρ es (.cells c ty fz)):False:=by
 rcases h with⟨_,_,_,h,_⟩|⟨_,_,_,h⟩|⟨_,_,_,_,h,_⟩<;>cases h

structure Rel (σ:Nat->Value) (ρ:Ren) (B:Nat->Prop) (h:Hp) (w:World):Prop where
 dom:∀b L,ρ b=some L->b<h.sz
 cells:∀b L e wf af cs,ρ b=some L->h.tr.get b=some (.cells e wf af cs)->L.esz=e/\∃c ty fz,w.heap[L.blk]?=some (.cells c ty fz)/\c.size=L.size/\L.off+cs.length<=L.size /\
  (∀j v,cs[j]?=some v->∃v',c[L.off+j]?=some v'/\VR σ ρ v v')/\((wf||af)=true->∀j,(j<L.size\/(e=0/\j=L.size))->¬(fz.1<=j/\j<fz.2))
 maps:∀b L es,ρ b=some L->h.tr.get b=some (.map es)->L.off=0/\∃o,w.heap[L.blk]?=some o/\qcr σ ρ es o
 excl:∀b L e af cs,ρ b=some L->h.tr.get b=some (.cells e true af cs)->∀b' L' x,ρ b'=some L'->h.tr.get b'=some x->x≠.dead->L'.blk=L.blk->b'=b
 exclm:∀b L es,ρ b=some L->h.tr.get b=some (.map es)->∀b' L' x,ρ b'=some L'->h.tr.get b'=some x->x≠.dead->L'.blk=L.blk->b'=b
 app:∀b L e wf cs,ρ b=some L->h.tr.get b=some (.cells e wf true cs)->∀b' L' e' wf' af' cs',ρ b'=some L'->h.tr.get b'=some (.cells e' wf' af' cs')->L'.blk=L.blk->L'.off+cs'.length<=L.off+cs.length/\(af'=true->b'=b)
 flr:∀b L,ρ b=some L->h.fl<=b->¬B L.blk
 base:∀k,B k->k<w.heap.size
 frz:∀k arr,ρ.frz k=some arr->(∃ty fz,w.heap[k]?=some (.cells arr ty fz))/\∀b L x,ρ b=some L->h.tr.get b=some x->x≠.dead->L.blk≠k
 dn:ρ.n<=h.sz/\∀b L,ρ b=some L->L.blk<w.heap.size

abbrev low (n:Nat):Nat->Prop:=λk=>k<n
def qaA{B:Nat->Prop}{n:Nat}(h:∀k,B k->k<n){k:Nat}(hk:n<=k):¬B k:=by grind
def qfF{B:Nat->Prop}{n m:Nat}(h:∀k,B k->k<n)(hs:n<=m):∀k,B k->k<m:=(by grind)
structure Kept (ρ:Ren) (B:Nat->Prop) (h:Hp) (w:World) (ρ':Ren) (h':Hp) (w':World):Prop where
 ext:∀b,b<h.sz->ρ' b=ρ b
 szle:h.sz<=h'.sz
 fl:h'.fl=h.fl
 akeep:∀b,b<h.fl->b<h.sz->h'.tr.get b=h.tr.get b
 pres:∀k,B k->w'.heap[k]?=w.heap[k]?
 wle:w.heap.size<=w'.heap.size
 io:w'.os=w.os/\w'.output=w.output
 frz:∀k a,ρ.frz k=some a->ρ'.frz k=some a
 fnew:∀k a,ρ'.frz k=some a->ρ.frz k=some a\/¬B k
 nle:ρ.n<=ρ'.n

theorem Kept.refl(ρ:Ren)(B:Nat->Prop)(h:Hp)(w:World):Kept ρ B h w ρ h w :=
 ⟨λ_ _=>rfl,zzL _,rfl,λ_ _ _=>rfl,λ_ _=>rfl,zzL _,⟨rfl,rfl⟩,λ_ _ h=>h,λ_ _ h=>.inl h,zzL _⟩
theorem Kept.trans{ρ ρ1 ρ2:Ren}{B:Nat->Prop}{h h1 h2:Hp}{w w1 w2:World}(k1:Kept ρ B h w ρ1 h1 w1)(k2:Kept ρ1 B h1 w1 ρ2 h2 w2):Kept ρ B h w ρ2 h2 w2 :=
 ⟨λb hb=>(k2.ext b (Nat.lt_of_lt_of_le hb k1.szle)).trans (k1.ext b hb),Nat.le_trans k1.szle k2.szle,k2.fl.trans k1.fl,
  λb hb hb'=>(k2.akeep b (k1.fl ▸ hb) (Nat.lt_of_lt_of_le hb' k1.szle)).trans (k1.akeep b hb hb'),λk hk=>(k2.pres k hk).trans (k1.pres k hk),Nat.le_trans k1.wle k2.wle,⟨k2.io.1.trans k1.io.1,k2.io.2.trans k1.io.2⟩,by grind[Kept.frz],by grind[Kept.fnew],Nat.le_trans k1.nle k2.nle⟩
theorem Kept.mono{B:Nat->Prop}{h h':Hp}{w w':World}(k:Kept ρ B h w ρ' h' w')(hd:∀b L,ρ b=some L->b<h.sz):ρ.le ρ' :=
 ⟨by grind[Kept.ext],k.frz,k.nle⟩

def Rel.heap{B:Nat->Prop}{h:Hp}{w w':World}(r:Rel σ ρ B h w)(e:w'.heap=w.heap):Rel σ ρ B h w' :=
 ⟨r.dom,by rw[e];exact r.cells,by rw[e];exact r.maps,r.excl,r.exclm,r.app,r.flr,by rw[e];exact r.base,by rw[e];exact r.frz,by rw[e];exact r.dn⟩
def Ren.add(ρ:Ren)(b:Nat)(L:Loc):Ren:=⟨λx=>if x=b then some L else ρ x,ρ.frz,max ρ.n (b+1)⟩
noncomputable def Hp.push(h:Hp)(x:Blk):Hp:=⟨Nat.succ h.sz,h.fl,h.tr.set h.sz x⟩
noncomputable def Hp.put(h:Hp)(b:Nat)(x:Blk):Hp:=⟨h.sz,h.fl,h.tr.set b x⟩

theorem z7(h:Hp)(x:Blk)(k:Nat->Hp->Prop):jE h x k↔k h.sz (h.push x):=by
 cases h;simp only[jE,Tr.setK_iff,qC];exact Iff.rfl
theorem qaC(h:Hp)(b:Nat)(x:Blk)(k:Hp->Prop):qdg h b x k↔h.fl<=b/\k (h.put b x):=by
 cases h with
 | mk sz fl tr =>
  show(Bool.rec (motive:=λ_=>Prop) False (tr.setK b x (λtr'=>k ⟨sz,fl,tr'⟩)) (Nat.ble fl b):Prop)↔_
  rw[qgo]
  by_cases hb:fl<=b
  .simp only[hb,decide_true];rw[Tr.setK_iff];simp;exact Iff.rfl
  .simp[hb]
def zh(h:Hp)(b:Nat)(k:Nat->Bool->Bool->List AV->Prop):qau h b k↔∃e w a cs,h.tr.get b=some (.cells e w a cs)/\k e w a cs:=by
 simp only[qau,Tr.getK_iff];constructor
 .rintro⟨v,hv,hk⟩;cases v with
  | cells e w a cs=>exact by grind
  | dead=>exact hk.elim
  | map es=>exact hk.elim
 grind

def Rel.fresh{B:Nat->Prop}{h:Hp}{w w':World}(r:Rel σ ρ B h w)(wf af:Bool)(cs:List AV)(c:Array Value)(ty:TypeId)(fz:Nat×Nat)(L0:Loc)(hfz:∀j,(j<L0.size\/(L0.esz=0/\j=L0.size))->¬(fz.1<=j/\j<fz.2))
  (hold:∀k,k<w.heap.size->w'.heap[k]?=w.heap[k]?) (hsz:w.heap.size<=w'.heap.size) (hL:w.heap.size<=L0.blk) (hnew:w'.heap[L0.blk]?=some (.cells c ty fz)) (hcs:c.size=L0.size)
  (hio:w'.os=w.os/\w'.output=w.output) (hl:L0.off+cs.length<=L0.size) (hc:∀(j:Nat) v,cs[j]?=some v->∃v',c[L0.off+j]?=some v'/\VR σ ρ v v') :
  Rel σ (ρ.add h.sz L0) B (h.push (.cells L0.esz wf af cs)) w'/\Kept ρ B h w (ρ.add h.sz L0) (h.push (.cells L0.esz wf af cs)) w':=by
 have hext:∀b L,ρ b=some L->(ρ.add h.sz L0) b=some L:=by
  intro b L hb;have:=r.dom b L hb;simp only[Ren.add];rw[if_neg (by omega)];exact hb
 have hle:ρ.le (ρ.add h.sz L0):=⟨hext,λ_ _ h=>h,Nat.le_max_left _ _⟩
 have hwf:∀b L,ρ b=some L->∀x,h.tr.get b=some x->x≠.dead->L.blk<w.heap.size:=by
  intro b L hb x hx hd;cases x with
  | cells e' wf' af' cs'=>obtain⟨_,c',ty',fz',hh,_⟩:=r.cells b L e' wf' af' cs' hb hx;exact by grind
  | dead=>exact absurd rfl hd
  | map es=>obtain⟨_,ob,hh,_⟩:=r.maps b L es hb hx;exact by grind
 have hget:∀b x,(h.push (.cells L0.esz wf af cs)).tr.get b=some x->b≠h.sz->h.tr.get b=some x:=by
  intro b x hx hb;simp only[Hp.push,Tr.get_set]at hx;rwa [if_neg hb]at hx
 have hget':∀x,(h.push (.cells L0.esz wf af cs)).tr.get h.sz=some x->x = .cells L0.esz wf af cs:=by
  intro x hx;simp[Hp.push,Tr.get_set]at hx;exact hx.symm
 have hren:∀b L,(ρ.add h.sz L0) b=some L->(b=h.sz/\L=L0)\/(b≠h.sz/\ρ b=some L):=by
  intro b L hb;simp only[Ren.add]at hb;split at hb
  .left;exact by grind
  .right;exact by grind
 refine⟨⟨?_,?_,?_,?_,?_,?_,?_,?_,?_,⟨Nat.max_le.2 ⟨Nat.le_succ_of_le r.dn.1,zzL _⟩,?_⟩⟩,⟨?_,?_,rfl,?_,?_,?_,hio,λ_ _ h=>h,λ_ _ h=>.inl h,Nat.le_max_left _ _⟩⟩
 .intro b L hb;rcases hren b L hb with⟨rfl,_⟩|⟨_,hb⟩
  .exact Nat.lt_succ_self _
  .exact Nat.lt_succ_of_lt (r.dom b L hb)
 .intro b L e' wf' af' cs' hb hg;rcases hren b L hb with⟨rfl,rfl⟩|⟨hne,hb⟩
  .cases hget' _ hg;refine⟨rfl,c,ty,fz,hnew,hcs,hl,?_,by grind⟩
   intro j v hv;obtain⟨v',h1,h2⟩:=hc j v hv;exact by grind[VR.mono]
  .have hg':=hget _ _ hg hne;obtain⟨h1,c',ty',fz,h2,h3,h4,h5,h6⟩:=r.cells b L e' wf' af' cs' hb hg';refine⟨h1,c',ty',fz,?_,h3,h4,?_,h6⟩
   .rw[hold _ (hwf b L hb _ hg' (by simp))];exact h2
   .intro j v hv;obtain⟨v',h7,h8⟩:=h5 j v hv;exact by grind[VR.mono]
 .intro b L es hb hg;rcases hren b L hb with⟨rfl,rfl⟩|⟨hne,hb⟩
  .cases hget' _ hg
  .have hg':=hget _ _ hg hne;obtain⟨h0,ob,h2,h3⟩:=r.maps b L es hb hg';refine⟨h0,ob,?_,h3.mono hle⟩;rw[hold _ (hwf b L hb _ hg' (by simp))];exact h2
 .intro b L e' af' cs' hb hg b' L' x hb' hx hd he;rcases hren b L hb with⟨rfl,rfl⟩|⟨hne,hb1⟩<;>rcases hren b' L' hb' with⟨rfl,rfl⟩|⟨hne',hb'⟩
  .rfl
  .have:=hwf b' L' hb' _ (hget _ _ hx hne') hd;omega
  .have:=hwf b L hb1 _ (hget _ _ hg hne) (by simp);omega
  .exact by grind[Rel.excl]
 .intro b L es hb hg b' L' x hb' hx hd he;rcases hren b L hb with⟨rfl,rfl⟩|⟨hne,hb1⟩<;>rcases hren b' L' hb' with⟨rfl,rfl⟩|⟨hne',hb'⟩
  .rfl
  .have:=hwf b' L' hb' _ (hget _ _ hx hne') hd;omega
  .have:=hwf b L hb1 _ (hget _ _ hg hne) (by simp);omega
  .exact by grind[Rel.exclm]
 .intro b L e' wf' cs' hb hg b' L' e2 wf2 af2 cs2 hb' hx he;rcases hren b L hb with⟨rfl,rfl⟩|⟨hne,hb1⟩<;>rcases hren b' L' hb' with⟨rfl,rfl⟩|⟨hne',hb'⟩
  .cases hget' _ hg;cases hget' _ hx;exact by omega
  .have:=hwf b' L' hb' _ (hget _ _ hx hne') (by simp);omega
  .have:=hwf b L hb1 _ (hget _ _ hg hne) (by simp);omega
  .exact r.app b L e' wf' cs' hb1 (hget _ _ hg hne) b' L' e2 wf2 af2 cs2 hb' (hget _ _ hx hne') he
 .intro b L hb hf;rcases hren b L hb with⟨rfl,rfl⟩|⟨_,hb⟩
  .exact qaA r.base hL
  .exact r.flr b L hb hf
 .exact qfF r.base hsz
 .intro k arr hk;obtain⟨⟨ty',fz',h1⟩,h2⟩:=r.frz k arr hk;have hkl:k<w.heap.size:=by grind
  refine⟨⟨ty',fz',by rw[hold k hkl];exact h1⟩,λb L x hb hx hd=>?_⟩
  rcases hren b L hb with⟨rfl,rfl⟩|⟨hne,hb⟩
  .omega
  .exact by grind
 .intro b L hb;rcases hren b L hb with⟨rfl,rfl⟩|⟨_,hb⟩
  .exact by grind
  .exact Nat.lt_of_lt_of_le (r.dn.2 b L hb) hsz
 .intro b hb;simp only[Ren.add];rw[if_neg (by omega)]
 .exact Nat.le_succ _
 .intro b _ hb;simp only[Hp.push,Tr.get_set];rw[if_neg (by omega)]
 all_goals grind[Rel.base]

def Rel.push{B:Nat->Prop}{h:Hp}{w w':World}(r:Rel σ ρ B h w)(e:Nat)(wf af:Bool)(cs:List AV)(c:Array Value)(ty:TypeId)(fz:Nat×Nat)(hfz:∀j,(j<c.size\/(e=0/\j=c.size))->¬(fz.1<=j/\j<fz.2))
  (hw:w'.heap=w.heap.push (.cells c ty fz)) (hio:w'.os=w.os/\w'.output=w.output) (hl:cs.length<=c.size) (hc:∀(j:Nat) v,cs[j]?=some v->∃v',c[j]?=some v'/\VR σ ρ v v') :
  Rel σ (ρ.add h.sz ⟨w.heap.size,0,c.size,e⟩) B (h.push (.cells e wf af cs)) w'/\Kept ρ B h w (ρ.add h.sz ⟨w.heap.size,0,c.size,e⟩) (h.push (.cells e wf af cs)) w' :=
 r.fresh wf af cs c ty fz ⟨w.heap.size,0,c.size,e⟩ hfz (by grind) (by rw[hw,Array.size_push];omega) (zzL _) (by rw[hw];simp) rfl hio (by simp_all)
  (by simp_all)

def Rel.world{B:Nat->Prop}{h:Hp}{w w':World}(r:Rel σ ρ B h w)(hw:∀n,n<w.heap.size->w'.heap[n]?=w.heap[n]?)(hs:w.heap.size<=w'.heap.size):Rel σ ρ B h w':=by
 refine⟨r.dom,?_,?_,r.excl,r.exclm,r.app,r.flr,qfF r.base hs,λk arr hk=>?_,⟨r.dn.1,λb L hb=>Nat.lt_of_lt_of_le (r.dn.2 b L hb) hs⟩⟩
 rotate_right
 .obtain⟨⟨ty,fz,h1⟩,h2⟩:=r.frz k arr hk;exact by grind
 all_goals grind[Rel.cells,Rel.maps]
theorem Ren.add_self(ρ:Ren)(b:Nat)(L:Loc):(ρ.add b L) b=some L:=by simp[Ren.add]
end Go.Kc
end
section
namespace Go.Kc
variable {σ:Nat->Value} {ρ ρ':Ren}

structure Spl (c:Array Value) (p:Nat) (vs:List Value) (c':Array Value):Prop where
 size:c'.size=c.size
 out:∀j,j<p\/p+vs.length<=j->c'[j]?=c[j]?
 inn:∀j v,vs[j]?=some v->c'[p+j]?=some v

theorem Rel.blk_lt{B:Nat->Prop}{h:Hp}{w:World}(r:Rel σ ρ B h w):∀b L,ρ b=some L->∀x,h.tr.get b=some x->x≠.dead->L.blk<w.heap.size:=by
 intro b L hb x hx hd;cases x with
 | cells e' wf' af' cs'=>obtain⟨_,c',ty',fz',hh,_⟩:=r.cells b L e' wf' af' cs' hb hx;grind
 | dead=>simp_all
 | map es=>obtain⟨_,ob,hh,_⟩:=r.maps b L es hb hx;grind

def Rel.longer{B:Nat->Prop}{h h':Hp}{w:World}(r:Rel σ ρ B h w)(hs:h.sz<=h'.sz)(hf:h'.fl=h.fl)(hg:∀b,b<h.sz->h'.tr.get b=h.tr.get b):Rel σ ρ B h' w:=by
 have hget:∀b L,ρ b=some L->h'.tr.get b=h.tr.get b:=by grind[Rel.dom]
 refine⟨by grind[Rel.dom],?_,?_,?_,?_,?_,by grind[Rel.flr],r.base,by grind[Rel.frz],⟨Nat.le_trans r.dn.1 hs,r.dn.2⟩⟩
 .grind[Rel.cells]
 .grind[Rel.maps]
 .grind[Rel.excl]
 .grind[Rel.exclm]
 .intro b L e wf cs hb hx b' L' e' wf' af' cs' hb' hx';rw[hget b L hb]at hx;rw[hget b' L' hb']at hx';exact r.app b L e wf cs hb hx b' L' e' wf' af' cs' hb' hx'


def Ren.bump(ρ:Ren)(m:Nat):Ren:=⟨ρ.loc,ρ.frz,max ρ.n m⟩
theorem Ren.bump_le(ρ:Ren)(m:Nat):ρ.le (ρ.bump m):=⟨λ_ _ h=>h,λ_ _ h=>h,Nat.le_max_left _ _⟩
def Rel.bump{B:Nat->Prop}{h:Hp}{w:World}(r:Rel σ ρ B h w){m:Nat}(hm:m<=h.sz):Rel σ (ρ.bump m) B h w :=
 ⟨r.dom,λb L e wf af cs hb hg=>let ⟨h1,c,ty,fz,h2,h3,h4,h5,h6⟩:=r.cells b L e wf af cs hb hg
  (by grind[VR.mono,Ren.bump_le]),
  λb L es hb hg=>let ⟨h1,o,h2,h3⟩:=r.maps b L es hb hg;(by grind[qcr.mono,Ren.bump_le]),r.excl,r.exclm,r.app,r.flr,r.base,r.frz,⟨Nat.max_le.2 ⟨r.dn.1,hm⟩,r.dn.2⟩⟩
def Rel.idle{B:Nat->Prop}{h:Hp}{w:World}(r:Rel σ ρ B h w)(x:Blk):Rel σ (ρ.bump (h.sz+1)) B (h.push x) w/\Kept ρ B h w (ρ.bump (h.sz+1)) (h.push x) w :=
 ⟨(r.longer (h':=h.push x) (Nat.le_succ _) rfl (λb hb=>by simp only[Hp.push,Tr.get_set];rw[if_neg (by omega)])).bump (zzL _),
  λ_ _=>rfl,Nat.le_succ _,rfl,λb _ hb=>by simp only[Hp.push,Tr.get_set];rw[if_neg (by omega)],λ_ _=>rfl,zzL _,⟨rfl,rfl⟩,λ_ _ h=>h,λ_ _ h=>.inl h,Nat.le_max_left _ _⟩

theorem Rel.frz'{B:Nat->Prop}{h:Hp}{w w':World}{φ:Fz}(r:Rel σ ρ B h w)(hw:∀n,n<w.heap.size->w'.heap[n]?=w.heap[n]?)(hs:w.heap.size<=w'.heap.size)(h1:∀k a,ρ.frz k=some a->φ k=some a)
  (h2:∀k a,φ k=some a->ρ.frz k=some a\/w.heap.size<=k) (h3:∀k a,φ k=some a->∃ty fz,w'.heap[k]?=some (.cells a ty fz)):Rel σ ⟨ρ.loc,φ,ρ.n⟩ B h w':=by
 have r':=r.world hw hs;have hle:ρ.le ⟨ρ.loc,φ,ρ.n⟩:=⟨λ_ _ h=>h,h1,zzL _⟩
 refine⟨r'.dom,λb L e wf af cs hb hg=>?_,λb L es hb hg=>?_,r'.excl,r'.exclm,r'.app,r'.flr,r'.base,λk arr hk=>⟨h3 k arr hk,λb L x hb hx hd=>?_⟩,r'.dn⟩
 .obtain⟨g1,c,ty,fz,g2,g3,g4,g5,g6⟩:=r'.cells b L e wf af cs hb hg;exact by grind[VR.mono]
 all_goals grind[Rel.maps,qcr.mono,Rel.frz,Rel.blk_lt]

def Rel.store{B:Nat->Prop}{h:Hp}{w w':World}(r:Rel σ ρ B h w){b:Nat}{L:Loc}{e:Nat}{af:Bool}{cs:List AV}(hb:ρ b=some L)
  (hg:h.tr.get b=some (.cells e true af cs)) (hf:h.fl<=b) (off:Nat) (vs:List AV) (vs':List Value) (hv:VRs σ ρ vs vs') (hl:off+vs.length<=cs.length)
  {c c':Array Value} {ty:TypeId} {fz:Nat×Nat} (hc:w.heap[L.blk]?=some (.cells c ty fz)) (hs:Spl c (L.off+off) vs' c')
  (hw:w'.heap=w.heap.setIfInBounds L.blk (.cells c' ty fz)) (hio:w'.os=w.os/\w'.output=w.output) :
  Rel σ ρ B (h.put b (.cells e true af (cs.take off++(vs++cs.drop (off+vs.length))))) w'/\Kept ρ B h w ρ (h.put b (.cells e true af (cs.take off++(vs++cs.drop (off+vs.length))))) w':=by
 have hlen:=hv.length;have hcl:(cs.take off++(vs++cs.drop (off+vs.length))).length=cs.length:=by simp;omega
 have hlt:L.blk<w.heap.size:=(Array.getElem?_eq_some_iff.1 hc).1
 have hold:∀k,k≠L.blk->w'.heap[k]?=w.heap[k]?:=by
  intro k hk;rw[hw,Array.getElem?_setIfInBounds];rw[if_neg (by omega)]
 have hnew:w'.heap[L.blk]?=some (.cells c' ty fz):=by rw[hw,Array.getElem?_setIfInBounds];simp[hlt]
 have hget:∀b' x,(h.put b (.cells e true af (cs.take off++(vs++cs.drop (off+vs.length))))).tr.get b'=some x->b'≠b->h.tr.get b'=some x:=by
  intro b' x hx hne;simp only[Hp.put,Tr.get_set]at hx;rwa [if_neg hne]at hx
 have hgb:∀x,(h.put b (.cells e true af (cs.take off++(vs++cs.drop (off+vs.length))))).tr.get b=some x->x = .cells e true af (cs.take off++(vs++cs.drop (off+vs.length))):=by
  intro x hx;simp[Hp.put,Tr.get_set]at hx;exact hx.symm
 have hother:∀b' L' x,ρ b'=some L'->h.tr.get b'=some x->x≠.dead->b'≠b->L'.blk≠L.blk :=
  λb' L' x hb' hx hd hne he=>hne (r.excl b L e af cs hb hg b' L' x hb' hx hd he)
 obtain⟨he,c0,ty0,fz0,h1,h2,h3,h4,h5⟩:=r.cells b L e true af cs hb hg;rw[hc]at h1;cases h1;refine⟨⟨r.dom,?_,?_,?_,?_,?_,r.flr,?_,?_,⟨r.dn.1,λb L hb=>by rw[hw,Array.size_setIfInBounds];exact r.dn.2 b L hb⟩⟩,⟨λ_ _=>rfl,zzL _,rfl,?_,?_,?_,hio,λ_ _ h=>h,λ_ _ h=>.inl h,zzL _⟩⟩
 .intro b' L' e' wf' af' cs' hb' hg'
  by_cases hne:b'=b
  .subst hne;rw[hb]at hb';cases hb';cases hgb _ hg';refine⟨he,c',ty,fz,hnew,hs.size.trans h2,by omega,?_,h5⟩
   intro j v hv'
   by_cases hj1:j<off
   .rw[List.getElem?_append_left (by simp;omega),List.getElem?_take_of_lt hj1]at hv';obtain⟨v',h6,h7⟩:=h4 j v hv';exact⟨v',by rw[hs.out _ (by omega)];exact h6,h7⟩
   .rw[List.getElem?_append_right (by simp;omega)]at hv';have e1:(cs.take off).length=off:=by simp;omega
    rw[e1]at hv'
    by_cases hj2:j<off+vs.length
    .rw[List.getElem?_append_left (by omega)]at hv';obtain⟨v',h6,h7⟩:=hv.get hv';refine⟨v',?_,h7⟩;have:=hs.inn _ _ h6;rwa [show L.off+off+(j-off)=L.off+j from by omega]at this
    .rw[List.getElem?_append_right (by omega),List.getElem?_drop]at hv';rw[show off+vs.length+(j-off-vs.length)=j from by omega]at hv'
     obtain⟨v',h6,h7⟩:=h4 j v hv';exact⟨v',by rw[hs.out _ (by omega)];exact h6,h7⟩
  .have hg2:=hget _ _ hg' hne;obtain⟨h6,c2,ty2,fz2,h7,h8,h9,h10,h11⟩:=r.cells b' L' e' wf' af' cs' hb' hg2;exact⟨h6,c2,ty2,fz2,by rw[hold _ (hother b' L' _ hb' hg2 (by simp) hne)];exact h7,h8,h9,h10,h11⟩
 .intro b' L' es hb' hg';have hne:b'≠b:=by rintro rfl;cases hgb _ hg'
  have hg2:=hget _ _ hg' hne;obtain⟨h6,ob,h7,h8⟩:=r.maps b' L' es hb' hg2;exact⟨h6,ob,by rw[hold _ (hother b' L' _ hb' hg2 (by simp) hne)];exact h7,h8⟩
 .intro b1 L1 e1 af1 cs1 hb1 hg1 b2 L2 x hb2 hx hd he2
  by_cases n1:b1=b
  .subst n1;rw[hb]at hb1;cases hb1
   by_cases n2:b2=b1
   .exact n2
   .exact absurd he2 (hother b2 L2 x hb2 (hget _ _ hx n2) hd n2)
  .have hg1':=hget _ _ hg1 n1
   by_cases n2:b2=b
   .subst n2;rw[hb]at hb2;cases hb2;exact absurd he2.symm (hother b1 L1 _ hb1 hg1' (by simp) n1)
   .exact r.excl b1 L1 e1 af1 cs1 hb1 hg1' b2 L2 x hb2 (hget _ _ hx n2) hd he2
 .intro b1 L1 es hb1 hg1 b2 L2 x hb2 hx hd he2;have n1:b1≠b:=by rintro rfl;cases hgb _ hg1
  have hg1':=hget _ _ hg1 n1
  by_cases n2:b2=b
  .subst n2;rw[hb]at hb2;cases hb2;exact absurd he2.symm (hother b1 L1 _ hb1 hg1' (by simp) n1)
  .exact r.exclm b1 L1 es hb1 hg1' b2 L2 x hb2 (hget _ _ hx n2) hd he2
 .intro b1 L1 e1 wf1 cs1 hb1 hg1 b2 L2 e2 wf2 af2 cs2 hb2 hg2 he2
  by_cases n1:b1=b
  .subst n1;rw[hb]at hb1;cases hb1
   by_cases n2:b2=b1
   .subst n2;rw[hb]at hb2;cases hb2;cases hgb _ hg1;cases hgb _ hg2;exact⟨zzL _,λ_=>rfl⟩
   .exact absurd he2 (hother b2 L2 _ hb2 (hget _ _ hg2 n2) (by simp) n2)
  .have hg1':=hget _ _ hg1 n1
   by_cases n2:b2=b
   .subst n2;rw[hb]at hb2;cases hb2;exact absurd he2.symm (hother b1 L1 _ hb1 hg1' (by simp) n1)
   .exact r.app b1 L1 e1 wf1 cs1 hb1 hg1' b2 L2 e2 wf2 af2 cs2 hb2 (hget _ _ hg2 n2) he2
 .rw[hw,Array.size_setIfInBounds];exact r.base
 .intro k arr hk;obtain⟨⟨ty',fz',h6⟩,h7⟩:=r.frz k arr hk;have hne:L.blk≠k:=h7 b L _ hb hg (by simp);refine⟨⟨ty',fz',by rw[hold k (by omega)];exact h6⟩,λb' L' x hb' hx hd=>?_⟩
  by_cases hbb:b'=b
  .subst hbb;rw[hb]at hb';cases hb';exact hne
  .exact h7 b' L' x hb' (hget _ _ hx hbb) hd
 .intro b' hb' _;simp only[Hp.put,Tr.get_set];rw[if_neg (by omega)]
 .intro k hk;exact hold k (λhe=>r.flr b L hb hf (by first|(rw[<- he];exact hk)|(rw[he];exact hk)))
 .rw[hw,Array.size_setIfInBounds];exact zzL _

def Rel.weak{B:Nat->Prop}{h:Hp}{w:World}(r:Rel σ ρ B h w){b:Nat}{e:Nat}{wf af:Bool}{cs:List AV}
  (hg:h.tr.get b=some (.cells e wf af cs)) (hf:h.fl<=b) (y:Blk) (hy:y = .dead\/y = .cells e false false cs) :
  Rel σ ρ B (h.put b y) w/\Kept ρ B h w ρ (h.put b y) w:=by
 have hget:∀b' x,(h.put b y).tr.get b'=some x->(b'=b/\x=y)\/(b'≠b/\h.tr.get b'=some x):=by
  intro b' x hx;simp only[Hp.put,Tr.get_set]at hx
  grind
 have hold:∀b' e' wf' af' cs',(h.put b y).tr.get b'=some (.cells e' wf' af' cs')->∃wf2 af2,h.tr.get b'=some (.cells e' wf2 af2 cs')/\(wf'=true->wf2=true/\b'≠b)/\(af'=true->af2=true/\b'≠b):=by
  grind
 have holdm:∀b' es,(h.put b y).tr.get b'=some (.map es)->h.tr.get b'=some (.map es):=by
  grind
 have holdx:∀b' x,(h.put b y).tr.get b'=some x->x≠.dead->∃x',h.tr.get b'=some x'/\x'≠.dead:=by
  grind
 refine⟨⟨r.dom,?_,?_,?_,?_,?_,r.flr,r.base,?_,r.dn⟩,⟨λ_ _=>rfl,zzL _,rfl,?_,λ_ _=>rfl,zzL _,⟨rfl,rfl⟩,λ_ _ h=>h,λ_ _ h=>.inl h,zzL _⟩⟩
 .grind[Rel.cells]
 .grind[Rel.maps]
 .grind[Rel.excl]
 .grind[Rel.exclm]
 .intro b1 L1 e1 wf1 cs1 hb1 hx1 b2 L2 e2 wf2 af2 cs2 hb2 hx2 he;obtain⟨wf3,af3,h1,h2,h3⟩:=hold b1 _ _ _ _ hx1;obtain⟨rfl,_⟩:=h3 rfl;obtain⟨wf4,af4,h4,h5,h6⟩:=hold b2 _ _ _ _ hx2;have:=r.app b1 L1 e1 wf3 cs1 hb1 h1 b2 L2 e2 wf4 af4 cs2 hb2 h4 he
  grind
 .grind[Rel.frz]
 .intro b' hb' _;simp only[Hp.put,Tr.get_set];rw[if_neg (by omega)]

def Rel.grow{B:Nat->Prop}{h:Hp}{w w':World}(r:Rel σ ρ B h w){b:Nat}{L:Loc}{e:Nat}{wf:Bool}{cs:List AV}(hb:ρ b=some L)
  (hg:h.tr.get b=some (.cells e wf true cs)) (hf:h.fl<=b) (o:Nat) (ho:o<=cs.length) (vs:List AV) (vs':List Value) (hv:VRs σ ρ vs vs') (hl:L.off+cs.length+vs.length<=L.size)
  (y:Blk) (wf2:Bool) (hy:(y = .dead/\wf2=wf)\/(y = .cells e false false cs/\wf2=false))
  {c c':Array Value} {ty:TypeId} {fz:Nat×Nat} (hc:w.heap[L.blk]?=some (.cells c ty fz)) (hs:Spl c (L.off+cs.length) vs' c')
  (hw:w'.heap=w.heap.setIfInBounds L.blk (.cells c' ty fz)) (hio:w'.os=w.os/\w'.output=w.output) :
  Rel σ (ρ.add h.sz ⟨L.blk,L.off+o,L.size,e⟩) B ((h.put b y).push (.cells e wf2 true (cs.drop o++vs))) w' /\
  Kept ρ B h w (ρ.add h.sz ⟨L.blk,L.off+o,L.size,e⟩) ((h.put b y).push (.cells e wf2 true (cs.drop o++vs))) w':=by
 have hlen:=hv.length;have hbs:=r.dom b L hb;have hlt:L.blk<w.heap.size:=by grind
 have hold:∀k,k≠L.blk->w'.heap[k]?=w.heap[k]?:=by
  intro k hk;rw[hw,Array.getElem?_setIfInBounds];rw[if_neg (by omega)]
 have hnew:w'.heap[L.blk]?=some (.cells c' ty fz):=by rw[hw,Array.getElem?_setIfInBounds];simp[hlt]
 have hext:∀b' L',ρ b'=some L'->(ρ.add h.sz ⟨L.blk,L.off+o,L.size,e⟩) b'=some L':=by
  intro b' L' hb';have:=r.dom b' L' hb';simp only[Ren.add];rw[if_neg (by omega)];exact hb'
 have hle:ρ.le (ρ.add h.sz ⟨L.blk,L.off+o,L.size,e⟩):=⟨hext,λ_ _ h=>h,Nat.le_max_left _ _⟩
 have hren:∀b' L',(ρ.add h.sz ⟨L.blk,L.off+o,L.size,e⟩) b'=some L'->(b'=h.sz/\L'=⟨L.blk,L.off+o,L.size,e⟩)\/(b'≠h.sz/\ρ b'=some L'):=by
  intro b' L' hb';simp only[Ren.add]at hb';split at hb'
  .left;exact by simp_all
  .right;exact by simp_all
 have hgn:∀x,((h.put b y).push (.cells e wf2 true (cs.drop o++vs))).tr.get h.sz=some x->x = .cells e wf2 true (cs.drop o++vs):=by
  intro x hx;simp[Hp.push,Hp.put,Tr.get_set]at hx;exact hx.symm
 have hgb:∀x,((h.put b y).push (.cells e wf2 true (cs.drop o++vs))).tr.get b=some x->x=y:=by
  intro x hx;simp only[Hp.push,Hp.put,Tr.get_set]at hx;rw[if_neg (by omega)]at hx;simpa using hx.symm
 have hget:∀b' x,((h.put b y).push (.cells e wf2 true (cs.drop o++vs))).tr.get b'=some x->b'≠h.sz->b'≠b->h.tr.get b'=some x:=by
  intro b' x hx h1 h2;simp only[Hp.push,Hp.put,Tr.get_set]at hx;rw[if_neg h1,if_neg h2]at hx;exact hx
 obtain⟨he,c0,ty0,fz0,h1,h2,h3,h4,h5⟩:=r.cells b L e wf true cs hb hg;rw[hc]at h1;cases h1
 -- no other living block of the row is writable
 have hnw:∀b' L' e' af' cs',ρ b'=some L'->h.tr.get b'=some (.cells e' true af' cs')->b'≠b->L'.blk≠L.blk :=
  λb' L' e' af' cs' hb' hx hne heq=>by grind[Rel.excl]
 have hnm:∀b' L' es,ρ b'=some L'->h.tr.get b'=some (.map es)->L'.blk≠L.blk:=by
  intro b' L' es hb' hx heq;obtain⟨_,ob,h7,h8⟩:=r.maps b' L' es hb' hx;rw[heq,hc]at h7;cases h7;exact h8.notCells
 have hexw:wf=true->∀b' L' x,ρ b'=some L'->h.tr.get b'=some x->x≠.dead->b'≠b->L'.blk≠L.blk:=by
  intro hwf b' L' x hb' hx hd hne heq;subst hwf;exact by grind[Rel.excl]
 refine⟨⟨?_,?_,?_,?_,?_,?_,?_,?_,?_,⟨Nat.max_le.2 ⟨Nat.le_succ_of_le r.dn.1,zzL _⟩,?_⟩⟩,⟨?_,?_,rfl,?_,?_,?_,hio,λ_ _ h=>h,λ_ _ h=>.inl h,Nat.le_max_left _ _⟩⟩
 .intro b' L' hb';rcases hren b' L' hb' with⟨rfl,_⟩|⟨_,hb'⟩
  .exact Nat.lt_succ_self _
  .exact Nat.lt_succ_of_lt (r.dom b' L' hb')
 .intro b' L' e' wf' af' cs' hb' hg';rcases hren b' L' hb' with⟨rfl,rfl⟩|⟨hne,hb'⟩
  .cases hgn _ hg';refine⟨rfl,c',ty,fz,hnew,hs.size.trans h2,by simp;omega,?_,by grind⟩
   intro j v hv'
   by_cases hj:j<cs.length-o
   .rw[List.getElem?_append_left (by simp;omega),List.getElem?_drop]at hv';obtain⟨v',h6,h7⟩:=h4 _ v hv';refine⟨v',?_,h7.mono hle⟩;rw[hs.out _ (by simp;omega)];rw[<- h6];congr 1;simp;omega
   .rw[List.getElem?_append_right (by simp;omega)]at hv';obtain⟨v',h6,h7⟩:=hv.get hv';refine⟨v',?_,h7.mono hle⟩;have:=hs.inn _ _ h6;rw[<- this];congr 1;simp;omega
  .by_cases hbb:b'=b
   .subst hbb;rw[hb]at hb';cases hb';cases hgb _ hg';rcases hy with⟨hy,_⟩|⟨hy,_⟩
    .cases hy
    .cases hy;refine⟨he,c',ty,fz,hnew,hs.size.trans h2,h3,?_,by grind⟩
     intro j v hv';obtain⟨v',h6,h7⟩:=h4 _ v hv';have hj:j<cs.length:=by grind
     exact by grind[Spl.out,VR.mono]
   .have hg2:=hget _ _ hg' hne hbb;obtain⟨h6,c2,ty2,fz2,h7,h8,h9,h10,h11⟩:=r.cells b' L' e' wf' af' cs' hb' hg2
    by_cases heq:L'.blk=L.blk
    .rw[heq,hc]at h7;cases h7;have happ:=r.app b L e wf cs hb hg b' L' e' wf' af' cs' hb' hg2 heq;refine⟨h6,c',ty,fz,by rw[heq];exact hnew,hs.size.trans h8,h9,?_,h11⟩
     intro j v hv';obtain⟨v',h12,h13⟩:=h10 _ v hv';have hj:j<cs'.length:=by grind
     exact by grind[Spl.out,VR.mono]
    .refine⟨h6,c2,ty2,fz2,by rw[hold _ heq];exact h7,h8,h9,?_,h11⟩
     intro j v hv';obtain⟨v',h12,h13⟩:=h10 _ v hv';exact by grind[VR.mono]
 .intro b' L' es hb' hg';rcases hren b' L' hb' with⟨rfl,rfl⟩|⟨hne,hb'⟩
  .cases hgn _ hg'
  .have hbb:b'≠b:=by
    rintro rfl;have:=hgb _ hg';subst this;rcases hy with⟨hy,_⟩|⟨hy,_⟩<;>cases hy
   have hg2:=hget _ _ hg' hne hbb;obtain⟨h6,ob,h7,h8⟩:=r.maps b' L' es hb' hg2;exact by grind[qcr.mono]
 .intro b1 L1 e1 af1 cs1 hb1 hg1 b2 L2 x hb2 hx hd he2;rcases hren b1 L1 hb1 with⟨rfl,rfl⟩|⟨n1,hb1⟩
  .-- the new block is writable: so was the old one,which is dead
   cases hgn _ hg1;rcases hren b2 L2 hb2 with⟨rfl,_⟩|⟨n2,hb2⟩
   .rfl
   .by_cases m2:b2=b
    .subst m2;have:=hgb _ hx;subst this;rcases hy with⟨hy,_⟩|⟨_,hy⟩
     .exact absurd hy hd
     .cases hy
    .rcases hy with⟨_,hy⟩|⟨_,hy⟩
     .exact by grind
     .cases hy
  .have m1:b1≠b:=by
    rintro rfl;have:=hgb _ hg1;subst this;rcases hy with⟨hy,_⟩|⟨hy,_⟩<;>cases hy
   have hg1':=hget _ _ hg1 n1 m1;rcases hren b2 L2 hb2 with⟨rfl,rfl⟩|⟨n2,hb2⟩
   .exact by grind
   .by_cases m2:b2=b
    .subst m2;rw[hb]at hb2;cases hb2;exact by grind
    .exact r.excl b1 L1 e1 af1 cs1 hb1 hg1' b2 L2 x hb2 (hget _ _ hx n2 m2) hd he2
 .intro b1 L1 es hb1 hg1 b2 L2 x hb2 hx hd he2;rcases hren b1 L1 hb1 with⟨rfl,rfl⟩|⟨n1,hb1⟩
  .cases hgn _ hg1
  .have m1:b1≠b:=by
    rintro rfl;have:=hgb _ hg1;subst this;rcases hy with⟨hy,_⟩|⟨hy,_⟩<;>cases hy
   have hg1':=hget _ _ hg1 n1 m1;rcases hren b2 L2 hb2 with⟨rfl,rfl⟩|⟨n2,hb2⟩
   .exact by grind
   .by_cases m2:b2=b
    .subst m2;rw[hb]at hb2;cases hb2;exact by grind
    .exact r.exclm b1 L1 es hb1 hg1' b2 L2 x hb2 (hget _ _ hx n2 m2) hd he2
 .intro b1 L1 e1 wf1 cs1 hb1 hg1 b2 L2 e2 wf2' af2 cs2 hb2 hg2 he2;rcases hren b1 L1 hb1 with⟨rfl,rfl⟩|⟨n1,hb1⟩
  .cases hgn _ hg1;rcases hren b2 L2 hb2 with⟨rfl,rfl⟩|⟨n2,hb2⟩
   .cases hgn _ hg2;exact by omega
   .by_cases m2:b2=b
    .subst m2;rw[hb]at hb2;cases hb2;have:=hgb _ hg2;subst this;rcases hy with⟨hy,_⟩|⟨hy,_⟩
     .cases hy
     .cases hy;exact by grind
    .have:=r.app b L e wf cs hb hg b2 L2 e2 wf2' af2 cs2 hb2 (hget _ _ hg2 n2 m2) he2;exact by grind
  .have m1:b1≠b:=by
    rintro rfl;have:=hgb _ hg1;subst this;rcases hy with⟨hy,_⟩|⟨hy,_⟩<;>cases hy
   have hg1':=hget _ _ hg1 n1 m1;rcases hren b2 L2 hb2 with⟨rfl,rfl⟩|⟨n2,hb2⟩
   .-- two blocks of a row that may be appended to: their ends are one;nothing is appended then,or they are on rows of their own
    cases hgn _ hg2;exact absurd ((r.app b1 L1 e1 wf1 cs1 hb1 hg1' b L e wf true cs hb hg he2).2 rfl).symm m1
   .by_cases m2:b2=b
    .subst m2;rw[hb]at hb2;cases hb2;have:=hgb _ hg2;subst this;rcases hy with⟨hy,_⟩|⟨hy,_⟩
     .cases hy
     .cases hy;exact⟨(r.app b1 L1 e1 wf1 cs1 hb1 hg1' b2 L e wf true cs hb hg he2).1,by grind⟩
    .exact r.app b1 L1 e1 wf1 cs1 hb1 hg1' b2 L2 e2 wf2' af2 cs2 hb2 (hget _ _ hg2 n2 m2) he2
 .intro b' L' hb' hf';rcases hren b' L' hb' with⟨rfl,rfl⟩|⟨_,hb'⟩
  .exact r.flr b L hb hf
  .exact r.flr b' L' hb' hf'
 .rw[hw,Array.size_setIfInBounds];exact r.base
 .intro k arr hk;obtain⟨⟨ty',fz',h6⟩,h7⟩:=r.frz k arr hk;have hne:L.blk≠k:=by grind
  refine⟨⟨ty',fz',by rw[hold k (by omega)];exact h6⟩,λb' L' x hb' hx hd=>?_⟩
  rcases hren b' L' hb' with⟨rfl,rfl⟩|⟨hn,hb'⟩
  .exact hne
  .by_cases hbb:b'=b
   .subst hbb;rw[hb]at hb';cases hb';exact hne
   .exact by grind
 .intro b' L' hb';rw[hw,Array.size_setIfInBounds];rcases hren b' L' hb' with⟨rfl,rfl⟩|⟨_,hb'⟩
  .exact r.dn.2 b L hb
  .exact r.dn.2 b' L' hb'
 .intro b' hb';simp only[Ren.add];rw[if_neg (by omega)]
 .exact Nat.le_succ _
 .intro b' hb' hs';have:h.fl<=b:=hf;simp only[Hp.push,Hp.put,Tr.get_set];rw[if_neg (by omega),if_neg (by omega)]
 all_goals grind[Rel.flr]

mutual
def vrc:AV->Value->Bool
 | .b x,.bool y=>x==y
 | .i k n,.int k' m=>decide (k=k')&&decide (n=m)
 | .s x,.string y=>x==y.data.toList
 | .nilp,.pointer none=>true
 | .nils,.slice none l c=>l==0&&c==0
 | .nilf,.nilFunc=>true
 | .nili,.nilIface=>true
 | .nilm,.map none=>true
 | .fn f a c,.func (.func g) a' c'=>f==g&&qmh a a'.toList&&qmh c c'.toList
 | .ifc t v,.iface t' v'=>t==t'&&vrc v v'
 | .agg l,.agg l'=>qmh l l'.toList
 | .tup l,.tuple l'=>qmh l l'.toList
 | _,_=>false
def qmh:List AV->List Value->Bool
 | [],[]=>true
 | v::vs,v'::vs'=>vrc v v'&&qmh vs vs'
 | _,_=>false
end

mutual
theorem qot:∀(a:AV) (v:Value),vrc a v=true->VR σ ρ a v
 | .b x,v,h=>by cases v<;>simp[vrc]at h;subst h;exact .b _
 | .i k n,v,h=>by cases v<;>simp[vrc]at h;obtain⟨rfl,rfl⟩:=h;exact .i _ _
 | .s x,v,h=>by
  cases v<;>simp[vrc]at h;rename_i s;subst h;cases s;exact .s _
 | .nilp,v,h=>by
  cases v<;>first|(simp[vrc]at h;done)|skip
  rename_i a;cases a<;>first|(simp[vrc]at h;done)|exact .nilp
 | .nils,v,h=>by
  cases v<;>first|(simp[vrc]at h;done)|skip
  rename_i a l c;cases a<;>first|(simp[vrc]at h;done)|(simp[vrc]at h;obtain⟨rfl,rfl⟩:=h;exact .nils)
 | .nilf,v,h=>by cases v<;>simp[vrc]at h;exact .nilf
 | .nili,v,h=>by cases v<;>simp[vrc]at h;exact .nili
 | .nilm,v,h=>by
  cases v<;>first|(simp[vrc]at h;done)|skip
  rename_i a;cases a<;>first|(simp[vrc]at h;done)|exact .nilm
 | .fn f a c,v,h=>by
  cases v<;>first|(simp[vrc]at h;done)|skip
  rename_i fn a' c';cases fn<;>first|(simp[vrc]at h;done)|skip
  simp[vrc]at h;obtain⟨⟨rfl,h1⟩,h2⟩:=h;exact .fn _ _ _ _ _ (qcq _ _ h1) (qcq _ _ h2)
 | .ifc t v,v',h=>by cases v'<;>simp[vrc]at h;obtain⟨rfl,h1⟩:=h;exact .ifc _ _ _ (qot _ _ h1)
 | .agg l,v,h=>by cases v<;>simp[vrc]at h;exact .agg _ _ (qcq _ _ h)
 | .tup l,v,h=>by cases v<;>simp[vrc]at h;exact .tup _ _ (qcq _ _ h)
 | .ptr _ _,v,h=>by cases v<;>simp[vrc]at h
 | .sl _ _ _ _ _,v,h=>by cases v<;>simp[vrc]at h
 | .map _,v,h=>by cases v<;>simp[vrc]at h
 | .sym _,v,h=>by cases v<;>simp[vrc]at h
 | .undef,v,h=>.undef v
theorem qcq:∀(a:List AV) (v:List Value),qmh a v=true->VRs σ ρ a v
 | [],[],_=>.nil
 | v::vs,v'::vs',h=>by simp[qmh]at h;exact .cons _ _ _ _ (qot _ _ h.1) (qcq _ _ h.2)
 | [],_::_,h=>by simp[qmh]at h
 | _::_,[],h=>by simp[qmh]at h
end

def qJ:Operand->O->Bool
 | .tmp n,.t m=>n==m
 | .const v,.c a=>vrc a v
 | .func f,.c (.fn g [] [])=>f==g
 | _,_=>false
def qfb:List Operand->List O->Bool
 | [],[]=>true
 | x::xs,y::ys=>qJ x y&&qfb xs ys
 | _,_=>false
def qa6:Option Operand->Option O->Bool
 | none,none=>true
 | some x,some y=>qJ x y
 | _,_=>false

def qbc(P:Program)(t:TypeId):Bool:=match P.underlying t with|some (.struct _)|some (.array _ _)=>true|_=>false
def qeR(q:NK):Operand->Bool
 | .const (.pointer none)=>(match q with | .ptr=>true|_=>false)
 | .const (.slice none _ _)=>(match q with | .slice=>true|_=>false)
 | .const .nilFunc=>(match q with | .func=>true|_=>false)
 | .const .nilIface=>(match q with | .iface=>true|_=>false)
 | .const (.map none)=>(match q with | .map=>true|_=>false)
 | _=>false
def qtA(P:Program)(q:NK)(t:TypeId):Bool :=
 match P.underlying t,q with
 | some (.pointer _),.ptr|some (.slice _),.slice|some (.func ..),.func|some (.map ..),.map|some (.interface _),.iface=>true
 | _,_=>false
def qa2(P:Program)(t:TypeId)(z:List AV):Bool :=
 match P.info? t with
 | some i=>match i.zero with|some v=>qmh z v.cells.toList&&(v.cells.size==i.size)|none=>false
 | none=>false
def zf(P:Program)(t:TypeId)(n:Nat):Bool:=match P.info? t with|some i=>i.size==n|none=>false
def qdB(P:Program)(t:TypeId)(n:Nat):Bool:=match P.info? t with|some i=>i.bytes==n|none=>false
def qmL(P:Program):Nat->List Field->List PK->Bool
 | _,[],[]=>true
 | i,f::fs,q::qs=>f.name != "_" && f.offset==i&&(match P.underlying f.type,q with|some .bool,.b|some (.int _),.i|some .string,.s=>true|_,_=>false)&&qmL P (i+1) fs qs
 | _,_,_=>false
def qH6(P:Program)(t:TypeId)(qs:List PK):Bool :=
 match P.underlying t with
 | some (.struct fs)=>!P.stoodInHeld t && !P.eqGuardType P.depth t&&qmL P 0 fs.toList qs
 | _=>false
def qav(qlW:Nat->Option (Nat×Nat)):List (Nat×Operand)->List (Nat×Nat×O)->Bool
 | [],[]=>true
 | (i,x)::xs,(off,n,y)::ys=>(qlW i==some (off,n))&&qJ x y&&qav qlW xs ys
 | _,_=>false
def qHA(P:Program)(t:TypeId):Bool:=match P.underlying t with|some (.int _)|some .string=>true|_=>false
def qdF(P:Program)(t:TypeId):Option (Array Field):=match P.underlying t with|some (.struct fs)=>some fs|_=>none
def jp(P:Program)(t:TypeId):Option TypeId:=match P.underlying t with|some (.slice e)=>some e|_=>none
def qhN(P:Program)(t:TypeId):Option (Nat×TypeId):=match P.underlying t with|some (.array n e)=>some (n,e)|_=>none
def qg5(P:Program)(t:TypeId):Bool:=match P.underlying t with|some .string=>true|_=>false
def qzo(P:Program)(t:TypeId)(k:IntKind):Bool:=match P.underlying t with|some (.int q)=>decide (q=k)|_=>false
def qIF(P:Program)(t:TypeId):Bool:=match P.underlying t with|some (.int _)=>true|_=>false
def qIc(P:Program)(t:TypeId):Bool:=match P.underlying t with|some .bool=>true|_=>false

def qkq(P:Program)(t:TypeId):Option (TypeId×TypeId):=match P.underlying t with|some (.map k e)=>some (k,e)|_=>none
def qn0(P:Program)(t:TypeId)(kd:Option IntKind):Bool:=match P.underlying t,kd with|some .string,none=>true|some (.int q),some q'=>decide (q=q')|_,_=>false
def qrc(P:Program)(t:TypeId)(z:AV):Bool:=match P.info? t with|some j=>(match j.zero with|some v=>vrc z v|none=>false)|none=>false
def qik(P:Program)(t:TypeId)(kd:Option IntKind):Bool:=match qkq P t with|some (key,_)=>qn0 P key kd|none=>false

def qdA(P:Program)(b:Builtin)(argTypes:Array TypeId)(args:List Operand)(r:IOp):Bool :=
 match b,args,r with
 | .len,[_],.mov (.c (.i .i64 n))=>match (argTypes[0]?).bind (qhN P)with|some (m,_)=>decide (n=(m:Int))|none=>false
 | .len,[x],.len str y=>qJ x y&&(match argTypes[0]? with|some t=>if str then qg5 P t else(jp P t).isSome|none=>false)
 | .append,[s,x],.app esz bytes _ s' x'=>qJ s s'&&qJ x x'&&(match argTypes[0]?,argTypes[1]? with
  | some ts,some tx=>(match jp P ts with
   | some e=>zf P e esz&&qdB P e bytes&&(match P.info? e with|some i=>(match i.zero with|some z=>z.cells.size==i.size|none=>false)|none=>false)
   | none=>false)&&(qg5 P tx||(jp P tx).isSome)
  | _,_=>false)
 | .append,[s,x],.appD esz bytes s' x' _=>qJ s s'&&qJ x x'&&(match argTypes[0]?,argTypes[1]? with
  | some ts,some tx=>(match jp P ts with
   | some e=>zf P e esz&&qdB P e bytes&&(match P.info? e with|some i=>(match i.zero with|some z=>z.cells.size==i.size|none=>false)|none=>false)
   | none=>false)&&(qg5 P tx||(jp P tx).isSome)
  | _,_=>false)
 | .max,[x,y],.max x' y'=>qJ x x'&&qJ y y'
 | .min,[x,y],.min x' y'=>qJ x x'&&qJ y y'
 | .clear,[x],.clear z y=>qJ x y&&(match (argTypes[0]?).bind (jp P)with|some e=>qa2 P e z|none=>false)
 | _,_,_=>false

def qlm(P:Program)(f:Option Field)(off:Nat)(n:Option Nat):Bool :=
 match f,n with
 | some fd,none=>fd.offset==off && !qbc P fd.type&&(P.underlying fd.type).isSome
 | some fd,some n=>fd.offset==off&&qbc P fd.type&&zf P fd.type n
 | none,_=>false
def qiO(P:Program)(o:Op)(r:IOp):Bool :=
 match o,r with
 | .move x,.mov y | .assign x,.mov y=>qJ x y
 | .pick c a b,.pick c' a' b'=>qJ c c'&&qJ a a'&&qJ b b'
 | .alloc t,.alloc z=>qa2 P t z
 | .box _ x,.box y=>qJ x y
 | .build t ps,.build z qs=>qa2 P t z&&(match P.underlying t with
  | some (.struct fs)=>qav (λi=>(fs[i]?).bind λf=>(P.info? f.type).map λj=>(f.offset,j.size)) ps.toList qs&&fs.toList.all λf=>(P.info? f.type).isSome
  | some (.array _ e)=>(match P.info? e with|some j=>qav (λi=>some (i*j.size,j.size)) ps.toList qs|none=>false)
  | _=>false)
 | .buildSlice t n ps,.buildS m z qs=>n==m&&(match jp P t with
  | some e=>qa2 P e z&&decide (n*z.length<=16777216)&&(match P.info? e with|some j=>qav (λi=>some (i*j.size,j.size)) ps.toList qs|none=>false)
  | none=>false)
 | .load t x,.load1 y=>qJ x y && !qbc P t&&(P.underlying t).isSome
 | .load t x,.loadN n y=>qJ x y&&qbc P t&&zf P t n
 | .store t x v,.store n x' v'=>qJ x x'&&qJ v v'&&zf P t n
 | .store t x v,.storeD n x' v' _=>qJ x x'&&qJ v v'&&zf P t n
 | .nilCheck x,.nilChk y=>qJ x y
 | .binOp op t x y _,.bin op' x' y'=>decide (op=op')&&qJ x x'&&qJ y y'&&qHA P t
 | .binOp .eql t x y _,.eqN neg q x'=>!neg&&((qJ x x'&&qeR q y)||(qJ y x'&&qeR q x))&&qtA P q t
 | .binOp .neq t x y _,.eqN neg q x'=>neg&&((qJ x x'&&qeR q y)||(qJ y x'&&qeR q x))&&qtA P q t
 | .unOp op _ x,.un op' y=>decide (op=op')&&qJ x y
 | .convert s d x,.cvInt k y=>qJ x y&&(P.underlying s).isSome&&qzo P d k
 | .fieldAddr t x f,.fAddr off y=>qJ x y&&(match qdF P t with|some fs=>(match fs[f]? with|some fd=>fd.offset==off && !zf P fd.type 0&&(P.info? fd.type).isSome|none=>false)|none=>false)
 | .field t x f,.fld off n y=>qJ x y&&qlm P ((qdF P t).bind (·[f]?)) off n
 | .indexAddr t x ix,.iAddrA len esz x' i'=>qJ x x'&&qJ ix i'&&(match qhN P t with|some (n,e)=>n==len&&zf P e esz|none=>false)
 | .indexAddr t x ix,.iAddrS esz x' i'=>qJ x x'&&qJ ix i'&&(match jp P t with|some e=>zf P e esz|none=>false)
 | .index t x ix,.idxA len esz agg x' i'=>qJ x x'&&qJ ix i'&&(match qhN P t with|some (n,e)=>n==len&&zf P e esz&&qbc P e==agg&&(P.underlying e).isSome|none=>false)
 | .index t x ix,.idxS x' i'=>qJ x x'&&qJ ix i'&&qg5 P t
 | .slice t x lo hi mx,.slcS esz x' lo' hi' mx'=>qJ x x'&&qa6 lo lo'&&qa6 hi hi'&&qa6 mx mx'&&(match jp P t with|some e=>zf P e esz|none=>false)
 | .slice t x lo hi mx,.slcA len esz x' lo' hi' mx'=>qJ x x'&&qa6 lo lo'&&qa6 hi hi'&&qa6 mx mx'&&(match qhN P t with|some (n,e)=>n==len&&zf P e esz|none=>false)
 | .extract x i,.ext y j=>qJ x y&&i==j
 | .makeFunc (.func f) a c,.mkF g a' c'=>f==g&&qfb a.toList a'&&qfb c.toList c'
 | .makeSlice t l c,.mkS esz bytes z l' c'=>qJ l l'&&qJ c c'&&(match jp P t with|some e=>zf P e esz&&qdB P e bytes&&qa2 P e z|none=>false)
 | .makeMap _ none,.mkM=>true
 | .makeMap t (some (.const (.int _ _))),.mkM=>(qkq P t).isSome
 | .lookup t x i ok,.lookM kd ok' z x' i'=>qJ x x'&&qJ i i'&&ok==ok'&&qik P t kd&&(match qkq P t with|some (_,e)=>qrc P e z|none=>false)
 | .mapUpdate t m i v,.updM kd m' i' v'=>qJ m m'&&qJ i i'&&qJ v v'&&qik P t kd
 | .insert t m i v,.updM kd m' i' v'=>qJ m m'&&qJ i i'&&qJ v v'&&qik P t kd
 | _,.no=>true
 | .call { callee:=.builtin b,args,argTypes },r=>qdA P b argTypes args.toList r
 | _,_=>false
def qgz(P:Program)(o:Op)(r:RK):Bool :=
 match o,r with
 | .call { callee:=.value (.func f),args,.. },.callF g bs=>f==g&&qfb args.toList bs
 | .call { callee:=.value x,args,.. },.callV y bs=>qJ x y&&qfb args.toList bs
 | .call { callee:=.value (.func f),args,.. },.callW g bs=>f==g&&qfb args.toList bs
 | .call { callee:=.value x,args,.. },.callVW y bs=>qJ x y&&qfb args.toList bs
 | o,.op r=>qiO P o r
 | _,_=>false

def TR(σ:Nat->Value)(ρ:Ren)(t:Tr AV)(tm:Array Value):Prop:=∀n v,t.get n=some v->n<tm.size/\VR σ ρ v (tm.getD n undef)
theorem TR.mono{t:Tr AV}{tm:Array Value}(h:TR σ ρ t tm)(hρ:ρ.le ρ'):TR σ ρ' t tm :=
 λn v hv=>⟨(h n v hv).1,(h n v hv).2.mono hρ⟩

def zo{t:Tr AV}{a:Act}(ht:TR σ ρ t a.tmps){x:O}{y:Operand}(hc:qJ y x=true){k:AV->Prop}(h:evK t x k):∃v,k v/\VR σ ρ v (a.eval y):=by
 cases x with
 | t n =>
  obtain⟨v,hv,hk⟩:=(Tr.getK_iff _ _ _).1 h;cases y<;>simp[qJ]at hc;subst hc;exact⟨v,hk,(ht _ v hv).2⟩
 | c v =>
  refine⟨v,h,?_⟩;cases y with
  | tmp n=>simp[qJ]at hc
  | const u=>exact qot v u (by simpa[qJ]using hc)
  | global g=>simp[qJ]at hc
  | func f =>
   have:v = .fn f [] []:=by
    unfold qJ at hc;split at hc<;>simp_all
   subst this;exact .fn _ _ _ _ _ .nil .nil
def qin{t:Tr AV}{a:Act}(ht:TR σ ρ t a.tmps):∀{xs:List O} {ys:List Operand} (_:qfb ys xs=true) {k:List AV->Prop} (_:qar t xs k),∃vs,k vs/\VRs σ ρ vs (ys.map a.eval)
 | [],[],_,_,h=>⟨[],h,.nil⟩
 | x::xs,y::ys,hc,k,h=>by
  simp[qfb]at hc;obtain⟨v,h1,hv⟩:=zo ht hc.1 h;obtain⟨vs,h2,hvs⟩:=qin ht hc.2 h1;exact⟨v::vs,h2,.cons _ _ _ _ hv hvs⟩
 | [],_::_,hc,_,_=>by simp[qfb]at hc
 | _::_,[],hc,_,_=>by simp[qfb]at hc
end Go.Kc
end
section
namespace Go.Kc
variable {σ:Nat->Value} {ρ ρ':Ren} {P:Program}

def qae(σ:Nat->Value):Prop:=∀j,(σ j).oneCell'=true

theorem qjK(hσ:qae σ){v:AV}{v':Value}(h:VR σ ρ v v')(hc:ze v=true):v'.oneCell'=true:=by
 cases h<;>first|rfl|(exact hσ _)|(exact absurd hc (by simp[ze]))
def qfI(hσ:qae σ):∀{vs:List AV} {vs':List Value} (_:VRs σ ρ vs vs') (_:qD vs=true),∀v ∈ vs',v.oneCell'=true
 | [],_,.nil,_=>by simp
 | v::vs,_,.cons _ _ v' vs' h hs,hc=>by
  have h2:ze v=true/\qD vs=true:=by
   have:(Bool.rec (motive:=λ_=>Bool) true (qD vs) (ze v):Bool)=true\/True:=Or.inr trivial
   have hc':(Bool.rec (motive:=λ_=>Bool) false (qD vs) (ze v):Bool)=true:=hc
   cases h1:ze v<;>simp_all
  intro u hu;rcases List.mem_cons.1 hu with rfl|hu
  .grind[qjK]
  .exact qfI hσ hs h2.2 u hu

theorem qct{w:World}{k:Nat}{c:Array Value}{ty:TypeId}{fz:Nat×Nat}(h:w.heap[k]?=some (.cells c ty fz))(o:Nat):w.cell? ⟨k,o,none⟩=c[o]?:=by
 simp[World.cell?,h]
def qio{w:World}{k:Nat}{c:Array Value}{ty:TypeId}{fz:Nat×Nat}(h:w.heap[k]?=some (.cells c ty fz))(o:Nat):w.frozen? ⟨k,o,none⟩=decide (fz.1<=o/\o<fz.2):=by
 simp[World.frozen?,h]
theorem xR(k o n:Nat):(⟨k,o,none⟩:Addr).add n=⟨k,o+n,none⟩:=by
 unfold Addr.add;split<;>simp_all

def qBj{B:Nat->Prop}{h:Hp}{w:World}(r:Rel σ ρ B h w){b off:Nat}{L:Loc}(hb:ρ b=some L){k:AV->Prop}(hk:ldK h b off k) :
  ∃v v',k v/\VR σ ρ v v'/\w.cell? ⟨L.blk,L.off+off,none⟩=some v':=by
 obtain⟨e,wf,af,cs,hg,hn⟩:=(zh _ _ _).1 hk;obtain⟨v,hv,hk⟩:=(x9 _ _ _).1 hn;obtain⟨_,c,ty,fz,h1,_,_,h4,_⟩:=r.cells b L e wf af cs hb hg
 grind[qct]

def qit{B:Nat->Prop}{h:Hp}{w:World}(r:Rel σ ρ B h w){b off n:Nat}{L:Loc}(hb:ρ b=some L){k:List AV->Prop}(hk:qfn h b off n k) :
  ∃vs vs',k vs/\VRs σ ρ vs vs'/\vs'.length=n/\(∀j v,vs'[j]?=some v->w.cell? ⟨L.blk,L.off+off+j,none⟩=some v):=by
 obtain⟨e,wf,af,cs,hg,hn⟩:=(zh _ _ _).1 hk;obtain⟨hl,hn⟩:=(zP _ _ _).1 hn;obtain⟨hl2,hk⟩:=(zK _ _ _).1 hn;rw[List.length_drop]at hl2;obtain⟨_,c,ty,fz,h1,h2,h3,h4,_⟩:=r.cells b L e wf af cs hb hg;refine⟨_,((c.toList.drop (L.off+off)).take n),hk,?_,?_,?_⟩
 .refine VRs.of_get ?_ ?_
  .simp;omega
  .intro j a ha;rw[List.getElem?_take]at ha;split at ha
   .rw[List.getElem?_drop]at ha;obtain⟨v',h5,h6⟩:=h4 _ _ ha;refine⟨v',?_,h6⟩;rw[List.getElem?_take_of_lt (by assumption),List.getElem?_drop];rw[Array.getElem?_toList,<- h5];congr 1;omega
   .cases ha
 all_goals grind[qct]

def qDa{B:Nat->Prop}{h:Hp}{w:World}(r:Rel σ ρ B h w){p:AV}{p':Value}(hp:VR σ ρ p p'){k:AV->Prop}(hk:ldV h p k) :
  ∃c o v v',p' = .pointer (some ⟨c,o,none⟩)/\k v/\VR σ ρ v v'/\w.cell? ⟨c,o,none⟩=some v':=by
 cases hp<;>try exact hk.elim
 .rename_i b o L hb;obtain⟨v,v',h1,h2,h3⟩:=qBj r hb hk
  grind
 .rename_i off base cs c arr hf hs;obtain⟨v,hv,hk⟩:=(x9 _ _ _).1 hk;obtain⟨v',h1,h2⟩:=hs.get hv;obtain⟨⟨ty,fz,h3⟩,_⟩:=r.frz c arr hf;refine⟨c,base+off,v,v',rfl,hk,h2.vr,?_⟩;rw[qct h3];rw[List.getElem?_take]at h1
  simp_all
def qzu{B:Nat->Prop}{h:Hp}{w:World}(r:Rel σ ρ B h w){p:AV}{p':Value}(hp:VR σ ρ p p'){n:Nat}{k:List AV->Prop}(hk:qkA h p n k) :
  ∃c o vs vs',p' = .pointer (some ⟨c,o,none⟩)/\k vs/\VRs σ ρ vs vs'/\vs'.length=n/\(∀j v,vs'[j]?=some v->w.cell? ⟨c,o+j,none⟩=some v):=by
 cases hp<;>try exact hk.elim
 .rename_i b o L hb;obtain⟨vs,vs',h1,h2,h3,h4⟩:=qit r hb hk
  grind
 .rename_i off base cs c arr hf hs;obtain⟨h1,hk⟩:=(zP _ _ _).1 hk;obtain⟨h2,hk⟩:=(zK _ _ _).1 hk;obtain⟨⟨ty,fz,h3⟩,_⟩:=r.frz c arr hf;rw[List.length_drop]at h2;have hlen:=hs.length;refine⟨c,base+off,_,_,rfl,hk,((hs.drop off).take n).vr,?_,?_⟩
  all_goals grind[qct]

theorem qez{w:World}{k o n:Nat}{vs:List Value}(hl:vs.length=n)(h:∀j v,vs[j]?=some v->w.cell? ⟨k,o+j,none⟩=some v) :
  (loadCells ⟨k,o,none⟩ n).run P w = .ok vs.toArray w:=by
 grind[Go.run_loadCells_list,xR]

def qdi{k:Nat}{ty:TypeId}{fz:Nat×Nat}:∀(vs:List Value) (o:Nat) (w:World) (c:Array Value),w.heap[k]?=some (.cells c ty fz)->o+vs.length<=c.size->
  ∃c',Spl c o vs c'/\(w.setCells k o vs).heap=w.heap.setIfInBounds k (.cells c' ty fz)
 | [],o,w,c,h,_=>by
  refine⟨c,⟨rfl,λ_ _=>rfl,by simp_all⟩,?_⟩
  show w.heap=_
  grind
 | v::vs,o,w,c,h,hl=>by
  simp only[List.length_cons]at hl;have hlt:k<w.heap.size:=by grind
  have e1:(w.setCell ⟨k,o,none⟩ v).heap=w.heap.setIfInBounds k (.cells (c.setIfInBounds o v) ty fz):=by
   simp only[World.setCell]
   grind
  have h1:(w.setCell ⟨k,o,none⟩ v).heap[k]?=some (.cells (c.setIfInBounds o v) ty fz):=by
   rw[e1,Array.getElem?_setIfInBounds];grind
  obtain⟨c',hs,hw⟩:=qdi vs (o+1) _ _ h1 (by grind);refine⟨c',⟨by rw[hs.size];simp,?_,?_⟩,?_⟩
  .intro j hj;simp only[List.length_cons]at hj;rw[hs.out j (by omega),Array.getElem?_setIfInBounds,if_neg (by omega)]
  .intro j u hu;cases j with
   | zero =>
    simp at hu;subst hu;rw[hs.out _ (by omega),Array.getElem?_setIfInBounds];grind
   | succ j =>
    have:=hs.inn j u (by simp_all);rwa [show o+1+j=o+(j+1)from by omega]at this
  .rw[World.setCells,hw,e1]
   simp_all

def qeA(k:Nat):∀(vs:List Value) (o:Nat) (w:World),(w.setCells k o vs).os=w.os/\(w.setCells k o vs).output=w.output
 | [],_,_=>⟨rfl,rfl⟩
 | v::vs,o,w=>qeA k vs (o+1) (w.setCell ⟨k,o,none⟩ v)

def qxx(hσ:qae σ){B:Nat->Prop}{h:Hp}{w:World}(r:Rel σ ρ B h w){b off:Nat}{L:Loc}(hb:ρ b=some L){vs:List AV}{vs':List Value}(hv:VRs σ ρ vs vs'){k:Hp->Prop}(hk:stK h b off vs k) :
  ∃h' w',k h'/\Rel σ ρ B h' w'/\Kept ρ B h w ρ h' w'/\(storeCells ⟨L.blk,L.off+off,none⟩ vs').run P w = .ok () w':=by
 obtain⟨e,wf,af,cs,hg,hn⟩:=(zh _ _ _).1 hk;cases wf with
 | false=>simp_all
 | true =>
  have hn':(Bool.rec (motive:=λ_=>Prop) False (jo vs off cs (λcs'=>qdg h b (.cells e true af cs') k)) (qD vs):Prop):=hn
  cases hco:qD vs with
  | false=>rw[hco]at hn';simp_all
  | true =>
   rw[hco]at hn';obtain⟨hl,hn2⟩:=(jG _ _ _ _).1 hn';obtain⟨hf,hk⟩:=(qaC _ _ _ _).1 hn2;obtain⟨_,c,ty,fz,h1,h2,h3,h4,h5⟩:=r.cells b L e true af cs hb hg;have hlen:=hv.length;obtain⟨c',hs,hw⟩:=qdi vs' (L.off+off) w c h1 (by omega);obtain⟨r',k'⟩:=r.store hb hg hf off vs vs' hv hl h1 hs hw (qeA _ _ _ _);refine⟨_,w.setCells L.blk (L.off+off) vs',hk,r',k',?_⟩
   have:=run_storeCells_cells (P:=P) L.blk (L.off+off) vs' 0 w (λj hj=>by
     rw[qct h1];simp;omega) (λj hj=>by
     rw[qio h1];simp only[decide_eq_false_iff_not];exact h5 (by simp) _ (by omega)) (qfI hσ hv hco)
   omega

def qha{B:Nat->Prop}{h:Hp}{w w1:World}(r:Rel σ ρ B h w){e:Nat}{wf af:Bool}{cs:List AV}{c:Array Value}{ty:TypeId}(hc:∃z:List Value,c.toList=z/\VRs σ ρ cs (z.take cs.length))
  {k:Nat->Hp->Prop} (hk:jE h (.cells e wf af cs) k) {fz:Nat×Nat} (hw:w1.heap=w.heap.push (.cells c ty fz)) (hfz:∀j,(j<c.size\/(e=0/\j=c.size))->¬(fz.1<=j/\j<fz.2):=by intro j _ hj;exact absurd hj.2 (Nat.not_lt_zero _)) (hio:w1.os=w.os/\w1.output=w.output:=by exact⟨rfl,rfl⟩) :
  ∃ρ' h',k h.sz h'/\Rel σ ρ' B h' w1/\Kept ρ B h w ρ' h' w1/\ρ' h.sz=some ⟨w.heap.size,0,c.size,e⟩:=by
 obtain⟨z,rfl,hv⟩:=hc;have hl:=hv.length;simp at hl;obtain⟨r',k'⟩:=r.push e wf af cs c ty fz hfz hw hio (by omega) (by grind[VRs.get])
 grind[z7,Ren.add_self]

def Res(P:Program)(σ:Nat->Value)(ρ:Ren)(B:Nat->Prop)(h:Hp)(w:World)(s:Sem Next)(k:AV->Hp->Prop):Prop :=
 ∃v v' h' ρ' w',k v h'/\(s.run P w = .ok (.value v') w'\/(s.run P w = .ok .skip w'/\v'=undef))/\VR σ ρ' v v'/\Rel σ ρ' B h' w'/\Kept ρ B h w ρ' h' w'

theorem Res.pure{B:Nat->Prop}{h:Hp}{w:World}(r:Rel σ ρ B h w){s:Sem Next}{k:AV->Hp->Prop}{v:AV}{v':Value}(hk:k v h)(hs:s.run P w = .ok (.value v') w)(hv:VR σ ρ v v'):Res P σ ρ B h w s k :=
 ⟨v,v',h,ρ,w,hk,.inl hs,hv,r,Kept.refl _ _ _ _⟩

structure OrcOk (P:Program) (σ:Nat->Value) (orc:Orc):Prop where
 atoms:qae σ
 bin:∀op x y r,orc.bin op x y=some r->∀ρ x' y',VR σ ρ x x'->VR σ ρ y y'->∃r',VR σ ρ r r'/\∀(P:Program) t w,(binOp op t x' y').run P w = .ok r' w
 len:∀j r,orc.len j=some r->∃s,σ j = .string s/\∀ρ,VR σ ρ r (.int .i64 s.size)
 cv:∀q j r,orc.cv q j=some r->∃k n,σ j = .int k n/\∀ρ,VR σ ρ r (.int q (q.wrap n))
 prim:∀j,(∃k n,σ j = .int k n)\/(∃s,σ j = .string s)\/(∃b,σ j = .bool b)

def qf0{r r':Bool}(h:r=r'):VR σ ρ (.b r) (.bool r'):=by subst h;exact .b _
def qta{op:BinOp}{q:IntKind}{x y:Int}{k:AV->Prop}(h:xl op q x y k)(t:TypeId)(w:World) :
  ∃r r',k r/\VR σ ρ r r'/\(binOp op t (.int q x) (.int q y)).run P w = .ok r' w:=by
 have hne:∀{y:Int} {A:Prop},(Bool.rec (motive:=λ_=>Prop) A False (eqI y 0):Prop)->A/\y≠0:=by
  intro y A hh;rw[qil]at hh;cases hc:(y==0)<;>simp_all
 cases op<;>simp only[xl,zy,qT,qd2]at h
 case add=>exact⟨_,_,h,.i _ _,by simp[binOp,Op.intArith]⟩
 case sub=>exact⟨_,_,h,.i _ _,by simp[binOp,Op.intArith];rfl⟩
 case mul=>exact⟨_,_,h,.i _ _,by simp[binOp,Op.intArith]⟩
 case quo=>obtain⟨h,hy⟩:=hne h;exact⟨_,_,h,.i _ _,by simp[binOp,Op.intDiv,hy]⟩
 case rem=>obtain⟨h,hy⟩:=hne h;exact⟨_,_,h,.i _ _,by simp[binOp,Op.intDiv,hy]⟩
 case and=>exact⟨_,_,h,.i _ _,by simp[binOp,Op.intBits]⟩
 case or=>exact⟨_,_,h,.i _ _,by simp[binOp,Op.intBits]⟩
 case xor=>exact⟨_,_,h,.i _ _,by simp[binOp,Op.intBits]⟩
 case andNot=>exact⟨_,_,h,.i _ _,by simp[binOp,Op.intBits]⟩
 case eql=>exact⟨_,_,h,qf0 (qil x y),by simp[binOp,Op.intCmp]⟩
 case neq=>exact⟨_,_,h,qf0 (r':=x != y) (by rw[qil];rfl),by simp[binOp,Op.intCmp]⟩
 case lss=>exact⟨_,_,h,qf0 (qcY x y),by simp[binOp,Op.intCmp]⟩
 case leq=>exact⟨_,_,h,qf0 (r':=decide (x<=y)) (by rw[qcY,<- decide_not];simp),by simp[binOp,Op.intCmp]⟩
 case gtr=>exact⟨_,_,h,qf0 (qcY y x),by simp[binOp,Op.intCmp]⟩
 case geq=>exact⟨_,_,h,qf0 (r':=decide (y<=x)) (by rw[qcY,<- decide_not];simp),by simp[binOp,Op.intCmp]⟩

def qxr{op:BinOp}(ho:op = .shl\/op = .shr){q q':IntKind}{x y:Int}{k:AV->Prop}(h:qj6 op q x y k)(t:TypeId)(w:World) :
  ∃r r',k r/\VR σ ρ r r'/\(binOp op t (.int q x) (.int q' y)).run P w = .ok r' w:=by
 cases y with
 | negSucc m=>exact h.elim
 | ofNat m =>
  have hn:¬((m:Int)<0):=by omega
  rcases ho with rfl|rfl
  .have h':(qv (min m q.bits) (λn=>xM (q.wrap (x*p2 n)) (λr=>k (.i q r)))):=h
   rw[qC,zy,qrO]at h';exact⟨_,_,h',.i _ _,by simp[binOp,Op.shift,hn]⟩
  .have h':(qv (min m q.bits) (λn=>xM (x.fdiv (p2 n)) (λr=>k (.i q r)))):=h
   rw[qC,zy,qrO]at h';exact⟨_,_,h',.i _ _,by simp[binOp,Op.shift,hn]⟩

def qtZ{op:BinOp}{x y:List UInt8}{k:AV->Prop}(h:qbU op x y k)(t:TypeId)(w:World) :
  ∃r r',k r/\VR σ ρ r r'/\(binOp op t (.string ⟨x.toArray⟩) (.string ⟨y.toArray⟩)).run P w = .ok r' w:=by
 have tl:∀l:List UInt8,(⟨l.toArray⟩:ByteArray).toList=l:=by simp_all
 cases op<;>simp only[qbU,qT]at h<;>try exact h.elim
 case add =>
  rw[qgo]at h
  by_cases hl:x.length+y.length<=9223372036854775807
  .simp only[hl,decide_true]at h;refine⟨_,_,h,.s _,?_⟩
   have h3:¬(IntKind.max .i64<(((⟨x.toArray⟩:ByteArray).size+(⟨y.toArray⟩:ByteArray).size:Nat):Int)):=by
    show¬((9223372036854775807:Int)<((x.length+y.length:Nat):Int));omega
   simp only[binOp,Op.stringOp];rw[if_neg h3];simp only[Sem.run_pure]
   congr 2
  simp_all
 case eql=>exact⟨_,_,h,qf0 (qcR x y),by simp[binOp,Op.stringOp,tl]⟩
 case neq=>exact⟨_,_,h,qf0 (r':=!(x==y)) (by rw[qcR]),by simp[binOp,Op.stringOp,tl]⟩
 case lss=>exact⟨_,_,h,qf0 (qjU x y),by simp[binOp,Op.stringOp,tl]⟩
 case leq=>exact⟨_,_,h,qf0 (r':=(Op.bytesLess x y||x==y)) (by rw[qjU,qcR]),by simp[binOp,Op.stringOp,tl]⟩
 case gtr=>exact⟨_,_,h,qf0 (r':=!(Op.bytesLess x y||x==y)) (by rw[qjU,qcR]),by simp[binOp,Op.stringOp,tl]⟩
 case geq=>exact⟨_,_,h,qf0 (r':=!(Op.bytesLess x y)) (by rw[qjU]),by simp[binOp,Op.stringOp,tl]⟩
end Go.Kc
end
