/- Walks, part 1. Conditions: with each theorem. -/
import GoSem.Step
import Derived.Laws.IdiomCopy
import Derived.Laws.AppendOwn
import Derived.Laws.Append
import Derived.Calls
import Derived.ChangeKeysEq
import Derived.Laws.Sem
import Derived.Laws.Strings2
set_option maxHeartbeats 4000000
set_option linter.defProp false
set_option linter.unusedSectionVars false
set_option linter.unusedSimpArgs false
set_option linter.unusedVariables false
set_option linter.unnecessarySimpa false
section
namespace Go.Kc
theorem zzA{a b:Prop}(x:a)(y:b):a∧b:=⟨x,y⟩
theorem zzB(a b:Bool):((a&&b)=true)=(a=true∧b=true):=by first|exact Bool.and_eq_true _ _|exact Bool.and_eq_true _|exact Bool.and_eq_true
theorem zzO(a b:Bool):((a||b)=true)=(a=true∨b=true):=by first|exact Bool.or_eq_true _ _|exact Bool.or_eq_true _|exact Bool.or_eq_true
theorem zzL(n:Nat):n≤n:=by first|exact Nat.le_refl _ _|exact Nat.le_refl _|exact Nat.le_refl
theorem zzC{α:Type _}{a:α}{l m:List α}:a::l++m=a::(l++m):=by first|exact List.cons_append _ _|exact List.cons_append _|exact List.cons_append
theorem zzN{α:Type _}(l:List α):[]++l=l:=by first|exact List.nil_append _ _|exact List.nil_append _|exact List.nil_append
theorem zzP{α:Type _}{l m:List α}:(l++m).length=l.length+m.length:=by first|exact List.length_append _ _|exact List.length_append _|exact List.length_append
theorem zzU(n:Nat):n*1=n:=by first|exact Nat.mul_one _ _|exact Nat.mul_one _|exact Nat.mul_one
def zzE{α:Type _}{l:List α}{i:Nat}(h:i<l.length):l[i]?=some l[i]:=List.getElem?_eq_getElem h
def zzS{α:Type _}{l:List α}{i:Nat}{a:α}:l[i]?=some a↔∃h:i<l.length,l[i]=a:=List.getElem?_eq_some_iff
def zzM{α:Type _}{l:List α}{i:Nat}{a:α}(h:l[i]?=some a):a∈l:=List.mem_of_getElem? h

inductive Tr (α:Type) where
 | leaf
 | node (v:Option α) (l r:Tr α)

namespace Tr
variable {α:Type}
noncomputable def get(t:Tr α):Nat->Option α :=
 Tr.rec (λ_=>none) (λv _ _ gl gr n=>Nat.rec v (λm _=>Bool.rec (gr (Nat.div m 2)) (gl (Nat.div m 2)) (Nat.beq (Nat.mod m 2) 0)) n) t

noncomputable def getK(t:Tr α):Nat->(α->Prop)->Prop :=
 Tr.rec (motive:=λ_=>Nat->(α->Prop)->Prop) (λ_ _=>False)
  (λv _ _ gl gr n k=>Nat.rec (motive:=λ_=>Prop) (Option.rec (motive:=λ_=>Prop) False k v)
   (λm _=>Bool.rec (motive:=λ_=>Prop) (gr (Nat.div m 2) k) (gl (Nat.div m 2) k) (Nat.beq (Nat.mod m 2) 0)) n) t

noncomputable def mk(f:Nat):Nat->α->Tr α :=
 Nat.rec (λ_ _=>.leaf) (λ_ ih n x=>Nat.rec (.node (some x) .leaf .leaf)
  (λm _=>Bool.rec (.node none .leaf (ih (Nat.div m 2) x)) (.node none (ih (Nat.div m 2) x) .leaf) (Nat.beq (Nat.mod m 2) 0)) n) f

noncomputable def mkK(f:Nat):Nat->α->(Tr α->Prop)->Prop :=
 Nat.rec (motive:=λ_=>Nat->α->(Tr α->Prop)->Prop) (λ_ _ k=>k .leaf) (λ_ ih n x k=>Nat.rec (motive:=λ_=>Prop) (k (.node (some x) .leaf .leaf))
  (λm _=>Bool.rec (motive:=λ_=>Prop) (ih (Nat.div m 2) x (λr=>k (.node none .leaf r))) (ih (Nat.div m 2) x (λl=>k (.node none l .leaf))) (Nat.beq (Nat.mod m 2) 0)) n) f

noncomputable def set(t:Tr α):Nat->α->Tr α :=
 Tr.rec (λn x=>mk (Nat.succ n) n x) (λv l r sl sr n x=>Nat.rec (.node (some x) l r)
  (λm _=>Bool.rec (.node v l (sr (Nat.div m 2) x)) (.node v (sl (Nat.div m 2) x) r) (Nat.beq (Nat.mod m 2) 0)) n) t

noncomputable def setK(t:Tr α):Nat->α->(Tr α->Prop)->Prop :=
 Tr.rec (motive:=λ_=>Nat->α->(Tr α->Prop)->Prop) (λn x k=>mkK (Nat.succ n) n x k) (λv l r sl sr n x k=>Nat.rec (motive:=λ_=>Prop) (k (.node (some x) l r))
  (λm _=>Bool.rec (motive:=λ_=>Prop) (sr (Nat.div m 2) x (λr'=>k (.node v l r'))) (sl (Nat.div m 2) x (λl'=>k (.node v l' r))) (Nat.beq (Nat.mod m 2) 0)) n) t

def qsI(m:Nat):Nat.beq (Nat.mod m 2) 0=decide (m % 2=0):=by
 show Nat.beq (m % 2) 0=_;rcases h:m % 2 with _|k
 .rfl
 .simp[Nat.beq]

@[simp] theorem get_leaf (n:Nat):(Tr.leaf:Tr α).get n=none:=rfl
theorem get_node(v:Option α)(l r:Tr α)(n:Nat) :
  (Tr.node v l r).get n=match n with|0=>v|m+1=>if m % 2=0 then l.get (m / 2)else r.get (m / 2):=by
 cases n with
 | zero=>rfl
 | succ m =>
  show(Bool.rec (motive:=λ_=>Option α) (r.get (Nat.div m 2)) (l.get (Nat.div m 2)) (Nat.beq (Nat.mod m 2) 0):Option α)=_
  rw[qsI]
  by_cases h:m % 2=0<;>simp only[h,decide_true,decide_false,if_true,if_false]<;>rfl
theorem set_node(v:Option α)(l r:Tr α)(n:Nat)(x:α) :
  (Tr.node v l r).set n x=match n with|0=>.node (some x) l r|m+1=>if m % 2=0 then .node v (l.set (m / 2) x) r else .node v l (r.set (m / 2) x):=by
 cases n with
 | zero=>rfl
 | succ m =>
  show Bool.rec (motive:=λ_=>Tr α) (Tr.node v l (r.set (Nat.div m 2) x)) (Tr.node v (l.set (Nat.div m 2) x) r) (Nat.beq (Nat.mod m 2) 0)=_
  rw[qsI]
  by_cases h:m % 2=0<;>simp only[h,decide_true,decide_false,if_true,if_false]<;>rfl
theorem mk_succ(f n:Nat)(x:α) :
  (mk (f+1) n x)=match n with|0=>.node (some x) .leaf .leaf|m+1=>if m % 2=0 then .node none (mk f (m / 2) x) .leaf else .node none .leaf (mk f (m / 2) x):=by
 cases n with
 | zero=>rfl
 | succ m =>
  show Bool.rec (motive:=λ_=>Tr α) (Tr.node none .leaf (mk f (Nat.div m 2) x)) (Tr.node none (mk f (Nat.div m 2) x) .leaf) (Nat.beq (Nat.mod m 2) 0)=_
  rw[qsI]
  by_cases h:m % 2=0<;>simp only[h,decide_true,decide_false,if_true,if_false]<;>rfl

def qC2(f:Nat):∀(n:Nat) (x:α),n<f->∀j,(mk f n x).get j=if j=n then some x else none:=by
 induction f<;>grind[Tr.mk_succ,Tr.get_node,Tr.get_leaf]

theorem get_set(t:Tr α):∀(n:Nat) (x:α) (j:Nat),(t.set n x).get j=if j=n then some x else t.get j:=by
 induction t with
 | leaf=>intro n x j;show(mk (n+1) n x).get j=_;rw[qC2 _ _ _ (by omega)];rfl
 | node v l r ihl ihr =>
  grind[Tr.set_node,Tr.get_node]

theorem getK_iff(t:Tr α):∀(n:Nat) (k:α->Prop),t.getK n k↔∃v,t.get n=some v/\k v:=by
 induction t with
 | leaf => intro n k;constructor
           .intro h;exact h.elim
           simp_all
 | node v l r ihl ihr =>
  intro n k;cases n with
  | zero =>
   show(Option.rec (motive:=λ_=>Prop) False k v:Prop)↔_
   cases v<;>grind[Tr.get_node]
  | succ m =>
   show(Bool.rec (motive:=λ_=>Prop) (r.getK (Nat.div m 2) k) (l.getK (Nat.div m 2) k) (Nat.beq (Nat.mod m 2) 0):Prop)↔_
   rw[qsI,get_node]
   by_cases h:m % 2=0
   .simp only[h,decide_true,if_true];exact ihl _ _
   .simp only[h,decide_false,if_false];exact ihr _ _

def qzH(f:Nat):∀(n:Nat) (x:α) (k:Tr α->Prop),mkK f n x k↔k (mk f n x):=by
 induction f with
 | zero=>intro n x k;exact Iff.rfl
 | succ f ih =>
  intro n x k;cases n with
  | zero=>exact Iff.rfl
  | succ m =>
   show(Bool.rec (motive:=λ_=>Prop) (mkK f (Nat.div m 2) x (λr=>k (.node none .leaf r))) (mkK f (Nat.div m 2) x (λl=>k (.node none l .leaf))) (Nat.beq (Nat.mod m 2) 0):Prop)↔_
   rw[qsI,mk_succ]
   by_cases h:m % 2=0
   .simp only[h,decide_true,if_true];exact ih _ _ _
   .simp only[h,decide_false,if_false];exact ih _ _ _

theorem setK_iff(t:Tr α):∀(n:Nat) (x:α) (k:Tr α->Prop),t.setK n x k↔k (t.set n x):=by
 induction t with
 | leaf=>intro n x k;exact qzH (n+1) n x k
 | node v l r ihl ihr =>
  intro n x k;cases n with
  | zero=>exact Iff.rfl
  | succ m =>
   show(Bool.rec (motive:=λ_=>Prop) (r.setK (Nat.div m 2) x (λr'=>k (.node v l r'))) (l.setK (Nat.div m 2) x (λl'=>k (.node v l' r))) (Nat.beq (Nat.mod m 2) 0):Prop)↔_
   rw[qsI,set_node]
   by_cases h:m % 2=0
   .simp only[h,decide_true,if_true];exact ihl _ _ _
   .simp only[h,decide_false,if_false];exact ihr _ _ _
end Tr

inductive AV where
 | b (x:Bool)
 | i (k:IntKind) (n:Int)
 | s (x:List UInt8)
 | nilp
 | ptr (blk off:Nat)
 | nils
 | sl (blk off len cap:Nat) (loose:Bool)
 | nilf
 | fn (f:Nat) (first cap:List AV)
 | nili
 | ifc (t:Nat) (v:AV)
 | agg (cs:List AV)
 | tup (cs:List AV)
 | nilm
 | map (r:Nat)
 | sym (id:Nat)
 | undef
 | fz (n:Nat) (cs:List AV)
 | pf (cs:List AV) (off:Nat)
 | e0
 | own (blk n:Nat)
 | nz
 | yl (blk:Nat)
 | lp (r:Loop)

inductive Blk where
 | cells (esz:Nat) (w a:Bool) (cs:List AV)
 | dead
 | map (es:List (AV×AV))

structure Hp where
 sz:Nat
 fl:Nat
 tr:Tr Blk

inductive O where
 | t (n:Nat)
 | c (v:AV)

inductive PK where
 | b|i|s

inductive NK where
 | ptr|slice|func|iface|map

inductive IOp where
 | mov (x:O)
 | pick (c x y:O)
 | alloc (zero:List AV)
 | box (x:O)
 | build (zero:List AV) (parts:List (Nat×Nat×O))
 | buildS (len:Nat) (zero:List AV) (parts:List (Nat×Nat×O))
 | load1 (x:O)
 | loadN (n:Nat) (x:O)
 | store (n:Nat) (x v:O)
 | nilChk (x:O)
 | bin (op:BinOp) (x y:O)
 | eqN (neg:Bool) (q:NK) (x:O)
 | eqA (neg:Bool) (ks:List PK) (x y:O)
 | un (op:UnOp) (x:O)
 | cvInt (k:IntKind) (x:O)
 | fAddr (off:Nat) (x:O)
 | fld (off:Nat) (n:Option Nat) (x:O)
 | iAddrA (len esz:Nat) (x i:O)
 | iAddrS (esz:Nat) (x i:O)
 | idxA (len esz:Nat) (agg:Bool) (x i:O)
 | idxS (x i:O)
 | slcS (esz:Nat) (x:O) (lo hi mx:Option O)
 | slcA (len esz:Nat) (x:O) (lo hi mx:Option O)
 | ext (x:O) (i:Nat)
 | mkF (f:Nat) (first cap:List O)
 | mkS (esz bytes:Nat) (zero:List AV) (len cap:O)
 | len (str:Bool) (x:O)
 | app (esz bytes:Nat) (consume:Bool) (s x:O)
 | max (x y:O)
 | clear (zero:List AV) (x:O)
 | mkM
 | lookM (kd:Option IntKind) (ok:Bool) (zero:AV) (x i:O)
 | updM (kd:Option IntKind) (x i v:O)
 | min (x y:O)
 | storeD (n:Nat) (x v:O) (ps:List Nat)
 | appZ (esz bytes:Nat) (zero:List AV) (s x:O)
 | cap (x:O)
 | appD (esz bytes:Nat) (s x:O) (ps:List Nat)
 | no

inductive RK where
 | op (o:IOp)
 | callF (f:Nat) (args:List O)
 | callV (x:O) (args:List O)
 | callW (f:Nat) (args:List O)
 | callVW (x:O) (args:List O)

structure ROp where
 dst:Option Nat
 k:RK
 guard:Option (Nat×Bool)

inductive ICode where
 | skip
 | reg (draw:Bool) (ops:List ROp)
 | seq (x y:ICode)
 | cond (c:O) (x y:ICode)
 | blk (id:Nat) (x:ICode)
 | loop (x:ICode)
 | exit (id:Nat)
 | ret
 | no
 | cut (x:ICode)
 | rangeF (j:Nat) (g:O) (ps:List Nat) (x y:ICode)

inductive RV where
 | tmp (n:Nat)
 | cell (n size:Nat) (agg:Bool)

structure IFn where
 res:List RV
 body:ICode

inductive X where
 | normal
 | exit (id:Nat)
 | ret

structure Orc where
 bin:BinOp->AV->AV->Option AV
 len:Nat->Option AV
 cv:IntKind->Nat->Option AV

noncomputable def qw(n:Nat)(k:Nat->Prop):Prop:=Nat.rec (motive:=λ_=>Prop) (k 0) (λm _=>k (Nat.succ m)) n
noncomputable def xQ(n:Int)(k:Int->Prop):Prop:=Int.rec (motive:=λ_=>Prop) (λm=>qw m (λm=>k (.ofNat m))) (λm=>qw m (λm=>k (.negSucc m))) n
noncomputable def qT(x:Bool)(k:Bool->Prop):Prop:=Bool.rec (motive:=λ_=>Prop) (k false) (k true) x
@[simp] theorem qD (n:Nat) (k:Nat->Prop):qw n k=k n:=by cases n<;>rfl
@[simp] theorem zA (n:Int) (k:Int->Prop):xQ n k=k n:=by cases n<;>simp[xQ]
@[simp] theorem qM (n:Bool) (k:Bool->Prop):qT n k=k n:=by cases n<;>rfl

noncomputable def qiE(l:List AV):Nat->(AV->Prop)->Prop :=
 List.rec (motive:=λ_=>Nat->(AV->Prop)->Prop) (λ_ _=>False) (λx _ ih n k=>Nat.rec (motive:=λ_=>Prop) (k x) (λm _=>ih m k) n) l
noncomputable def qcK(n:Nat):List AV->(List AV->Prop)->Prop :=
 Nat.rec (motive:=λ_=>List AV->(List AV->Prop)->Prop) (λ_ k=>k []) (λ_ ih l k=>List.rec (motive:=λ_=>Prop) False (λx xs _=>ih xs (λys=>k (x::ys))) l) n
noncomputable def qc9(n:Nat):List AV->(List AV->Prop)->Prop :=
 Nat.rec (motive:=λ_=>List AV->(List AV->Prop)->Prop) (λl k=>k l) (λ_ ih l k=>List.rec (motive:=λ_=>Prop) False (λ_ xs _=>ih xs k) l) n
noncomputable def qBw(vs:List AV):List AV->(List AV->Prop)->Prop :=
 List.rec (motive:=λ_=>List AV->(List AV->Prop)->Prop) (λl k=>k l) (λv _ ih l k=>List.rec (motive:=λ_=>Prop) False (λ_ xs _=>ih xs (λys=>k (v::ys))) l) vs
noncomputable def ju(vs:List AV)(off:Nat):List AV->(List AV->Prop)->Prop :=
 Nat.rec (motive:=λ_=>List AV->(List AV->Prop)->Prop) (λl k=>qBw vs l k) (λ_ ih l k=>List.rec (motive:=λ_=>Prop) False (λx xs _=>ih xs (λys=>k (x::ys))) l) off
noncomputable def qlq(zy:List AV)(bs:List AV)(k:List AV->Prop):Prop :=
 List.rec (motive:=λ_=>(List AV->Prop)->Prop) (λk=>k bs) (λx _ ih k=>ih (λys=>k (x::ys))) zy k
noncomputable def qhO(l:List AV)(k:Nat->Prop):Prop :=
 List.rec (motive:=λ_=>Nat->(Nat->Prop)->Prop) (λn k=>k n) (λ_ _ ih n k=>qw (Nat.succ n) (λm=>ih m k)) l 0 k
noncomputable def qjD(z:List AV)(n:Nat)(k:List AV->Prop):Prop :=
 Nat.rec (motive:=λ_=>(List AV->Prop)->Prop) (λk=>k []) (λ_ ih k=>ih (λys=>qlq z ys k)) n k

theorem jd(l:List AV):∀(n:Nat) (k:AV->Prop),qiE l n k↔∃v,l[n]?=some v/\k v:=by
 induction l with
 | nil => intro n k;constructor
          .intro h;exact h.elim
          simp_all
 | cons x xs ih =>
  intro n k;cases n with
  | zero=>simp only[List.getElem?_cons_zero,Option.some.injEq];exact⟨λh=>⟨x,rfl,h⟩,fun⟨v,h,hk⟩=>h ▸ hk⟩
  | succ n=>simp only[List.getElem?_cons_succ];exact ih n k
theorem zH(n:Nat):∀(l:List AV) (k:List AV->Prop),qcK n l k↔n<=l.length/\k (l.take n):=by
 induction n with
 | zero=>intro l k;simp;exact Iff.rfl
 | succ n ih =>
  intro l k;cases l with
  | nil=>simp;exact λh=>h
  | cons x xs=>simp only[List.length_cons,List.take_succ_cons,Nat.add_le_add_iff_right];exact ih xs (λys=>k (x::ys))
theorem zL(n:Nat):∀(l:List AV) (k:List AV->Prop),qc9 n l k↔n<=l.length/\k (l.drop n):=by
 induction n with
 | zero=>intro l k;simp;exact Iff.rfl
 | succ n ih =>
  intro l k;cases l with
  | nil=>simp;exact λh=>h
  | cons x xs=>simp only[List.length_cons,List.drop_succ_cons,Nat.add_le_add_iff_right];exact ih xs k
def qtS(vs:List AV):∀(l:List AV) (k:List AV->Prop),qBw vs l k↔vs.length<=l.length/\k (vs++l.drop vs.length):=by
 induction vs with
 | nil=>intro l k;simp;exact Iff.rfl
 | cons v vs ih =>
  intro l k;cases l with
  | nil=>simp;exact λh=>h
  | cons x xs=>simp only[List.length_cons,List.drop_succ_cons,Nat.add_le_add_iff_right,zzC];exact ih xs (λys=>k (v::ys))
theorem jL(vs:List AV)(off:Nat):∀(l:List AV) (k:List AV->Prop),
  ju vs off l k↔off+vs.length<=l.length/\k (l.take off++(vs++l.drop (off+vs.length))):=by
 induction off with
 | zero=>intro l k;simp only[Nat.zero_add,List.take_zero,zzN];exact qtS vs l k
 | succ n ih =>
  intro l k;cases l with
  | nil => simp only[List.length_nil,Nat.le_zero];constructor
           .intro h;exact h.elim
           omega
  | cons x xs =>
   have e:n+1+vs.length=(n+vs.length)+1:=by omega
   simp only[e,List.length_cons,List.take_succ_cons,List.drop_succ_cons,Nat.add_le_add_iff_right,zzC];exact ih xs (λys=>k (x::ys))
theorem jX(zy bs:List AV):∀(k:List AV->Prop),qlq zy bs k↔k (zy++bs):=by
 induction zy with
 | nil=>intro k;exact Iff.rfl
 | cons x xs ih=>intro k;exact ih (λys=>k (x::ys))
theorem wj(l:List AV)(k:Nat->Prop):qhO l k↔k l.length:=by
 have key:∀(l:List AV) (n:Nat),(List.rec (motive:=λ_=>Nat->(Nat->Prop)->Prop) (λn k=>k n) (λ_ _ ih n k=>qw (Nat.succ n) (λm=>ih m k)) l n k:Prop)↔k (l.length+n):=by
  intro l
  induction l with
  | nil=>simp_all
  | cons x xs ih =>
   grind[qD]
 exact key l 0
theorem qaF(z:List AV)(n:Nat):∀(k:List AV->Prop),qjD z n k↔k (List.replicate n z).flatten:=by
 induction n with
 | zero=>intro k;simp;exact Iff.rfl
 | succ n ih =>
  intro k;have h:=ih (λys=>qlq z ys k)
  rw[List.replicate_succ,List.flatten_cons];exact h.trans (jX _ _ _)

def hi:IntKind->Nat
 | .i8=>127 | .i16=>32767 | .i32=>2147483647 | .i64=>9223372036854775807
 | .u8=>255 | .u16=>65535 | .u32=>4294967295 | .u64=>18446744073709551615
noncomputable def qjR(k:IntKind)(n:Int):Int :=
 Int.rec (motive:=λ_=>Int) (λm=>Bool.rec (motive:=λ_=>Int) (k.wrap (.ofNat m)) (.ofNat m) (Nat.ble m (hi k))) (λm=>k.wrap (.negSucc m)) n
def qd7(k:IntKind)(n:Int):qjR k n=k.wrap n:=by
 cases n with
 | ofNat m =>
  show(Bool.rec (motive:=λ_=>Int) (k.wrap (.ofNat m)) (.ofNat m) (Nat.ble m (hi k)):Int)=_
  cases h:Nat.ble m (hi k)with
  | false=>rfl
  | true =>
   have h':m<=hi k:=by simp_all
   show(Int.ofNat m)=_;cases k<;>simp[hi]at h'<;>simp[IntKind.wrap,IntKind.bits,IntKind.signed]<;>omega
 | negSucc m=>rfl
noncomputable def ltI(x y:Int):Bool :=
 Int.rec (motive:=λ_=>Bool) (λm=>Int.rec (motive:=λ_=>Bool) (λn=>Nat.ble (Nat.succ m) n) (λ_=>false) y)
  (λm=>Int.rec (motive:=λ_=>Bool) (λ_=>true) (λn=>Nat.ble (Nat.succ n) m) y) x
noncomputable def eqI(x y:Int):Bool :=
 Int.rec (motive:=λ_=>Bool) (λm=>Int.rec (motive:=λ_=>Bool) (λn=>Nat.beq m n) (λ_=>false) y)
  (λm=>Int.rec (motive:=λ_=>Bool) (λ_=>false) (λn=>Nat.beq m n) y) x
def qe7(m n:Nat):Nat.ble m n=decide (m<=n):=by
 grind[Nat.le_of_ble_eq_true,Nat.ble_eq_true_of_le]
def qcZ(x y:Int):ltI x y=decide (x<y):=by
 cases x<;>cases y<;>simp[ltI,qe7]<;>omega
def qgz(x y:Int):eqI x y=(x==y):=by
 rw[Bool.eq_iff_iff];cases x<;>cases y<;>simp[eqI]<;>omega
def p2(n:Nat):Int:=Int.ofNat (Nat.pow 2 n)
def qrY(n:Nat):p2 n=(2:Int) ^ n:=by
 show((2 ^ n:Nat):Int)=_;simp

noncomputable def eqS(x:List UInt8):List UInt8->Bool :=
 List.rec (motive:=λ_=>List UInt8->Bool) (λy=>List.rec (motive:=λ_=>Bool) true (λ_ _ _=>false) y)
  (λc _ ih y=>List.rec (motive:=λ_=>Bool) false (λd ds _=>Bool.rec (motive:=λ_=>Bool) false (ih ds) (Nat.beq c.toNat d.toNat)) y) x
def qb8(x:List UInt8):∀y,eqS x y=(x==y):=by
 induction x with
 | nil=>intro y;cases y<;>rfl
 | cons c cs ih =>
  intro y;cases y with
  | nil=>rfl
  | cons d ds =>
   show(Bool.rec (motive:=λ_=>Bool) false (eqS cs ds) (Nat.beq c.toNat d.toNat):Bool)=_
   rw[ih]
   have:Nat.beq c.toNat d.toNat=(c==d):=by
    rw[Bool.eq_iff_iff];simp[UInt8.toNat_inj]
   rw[this];cases h:(c==d)<;>simp[h]
noncomputable def ltS(x:List UInt8):List UInt8->Bool :=
 List.rec (motive:=λ_=>List UInt8->Bool) (λy=>List.rec (motive:=λ_=>Bool) false (λ_ _ _=>true) y)
  (λc _ ih y=>List.rec (motive:=λ_=>Bool) false (λd ds _=>Bool.rec (motive:=λ_=>Bool) (Bool.rec (motive:=λ_=>Bool) false (ih ds) (Nat.beq c.toNat d.toNat)) true (Nat.ble (Nat.succ c.toNat) d.toNat)) y) x
def qj9(x:List UInt8):∀y,ltS x y=Op.bytesLess x y:=by
 induction x with
 | nil=>intro y;cases y<;>rfl
 | cons c cs ih =>
  intro y;cases y with
  | nil=>rfl
  | cons d ds =>
   show(Bool.rec (motive:=λ_=>Bool) (Bool.rec (motive:=λ_=>Bool) false (ltS cs ds) (Nat.beq c.toNat d.toNat)) true (Nat.ble (Nat.succ c.toNat) d.toNat):Bool)=_
   rw[ih,qe7]
   have h1:Nat.beq c.toNat d.toNat=(c==d):=by
    rw[Bool.eq_iff_iff];simp[UInt8.toNat_inj]
   have h2:decide (c.toNat.succ<=d.toNat)=decide (c<d):=by
    rw[decide_eq_decide,UInt8.lt_iff_toNat_lt];omega
   rw[h1,h2];simp only[Op.bytesLess];cases decide (c<d)<;>cases(c==d)<;>rfl

noncomputable def qar(h:Hp)(b:Nat)(k:Nat->Bool->Bool->List AV->Prop):Prop :=
 h.tr.getK b (λx=>Blk.rec (motive:=λ_=>Prop) k False (λ_=>False) x)
noncomputable def jz(h:Hp)(x:Blk)(k:Nat->Hp->Prop):Prop :=
 Hp.rec (motive:=λ_=>Prop) (λsz fl tr=>tr.setK sz x (λtr'=>qw (Nat.succ sz) (λs=>k sz ⟨s,fl,tr'⟩))) h
noncomputable def qdo(h:Hp)(b:Nat)(x:Blk)(k:Hp->Prop):Prop :=
 Hp.rec (motive:=λ_=>Prop) (λsz fl tr=>Bool.rec (motive:=λ_=>Prop) False (tr.setK b x (λtr'=>k ⟨sz,fl,tr'⟩)) (Nat.ble fl b)) h
noncomputable def ldK(h:Hp)(b off:Nat)(k:AV->Prop):Prop:=qar h b (λ_ _ _ cs=>qiE cs off k)
noncomputable def qeV(h:Hp)(b off n:Nat)(k:List AV->Prop):Prop:=qar h b (λ_ _ _ cs=>qc9 off cs (λl=>qcK n l k))
noncomputable def zj(v:AV):Bool:=AV.rec (motive_1:=λ_=>Bool) (motive_2:=λ_=>Bool)
 (λ_=>true) (λ_ _=>true) (λ_=>true) true (λ_ _=>true) true (λ_ _ _ _ _=>true) true (λ_ _ _ _ _=>true) true (λ_ _ _=>true) (λ_ _=>false) (λ_ _=>false) true (λ_=>true) (λ_=>true) false (λ_ _ _=>true) (λ_ _ _=>true) true (λ_ _=>true) true (λ_=>true) (λ_=>false)
 true (λ_ _ h t=>Bool.rec (motive:=λ_=>Bool) false t h) v
noncomputable def qF(l:List AV):Bool:=List.rec (motive:=λ_=>Bool) true (λv _ ih=>Bool.rec (motive:=λ_=>Bool) false ih (zj v)) l
noncomputable def ldV(h:Hp)(p:AV)(k:AV->Prop):Prop:=match p with | .ptr b o=>ldK h b o k | .pf cs o=>qiE cs o k|_=>False
noncomputable def qkO(h:Hp)(p:AV)(n:Nat)(k:List AV->Prop):Prop:=match p with | .ptr b o=>qeV h b o n k | .pf cs o=>qc9 o cs (λl=>qcK n l k)|_=>False
noncomputable def qiC(p:AV)(n:Nat)(k:AV->Prop):Prop:=match p with | .ptr b o=>qw (Nat.add o n) (λo'=>k (.ptr b o')) | .pf cs o=>qw (Nat.add o n) (λo'=>k (.pf cs o'))|_=>False
noncomputable def stK(h:Hp)(b off:Nat)(vs:List AV)(k:Hp->Prop):Prop :=
 qar h b (λe w a cs=>Bool.rec (motive:=λ_=>Prop) False (Bool.rec (motive:=λ_=>Prop) False (ju vs off cs (λcs'=>qdo h b (.cells e w a cs') k)) (qF vs)) w)
def qcR:AV->Bool
 | .undef=>false
 | _=>true
def cellsOf:AV->List AV
 | .agg cs=>cs
 | v=>[v]

noncomputable def evK(t:Tr AV)(x:O)(k:AV->Prop):Prop:=O.rec (motive:=λ_=>Prop) (λn=>t.getK n k) k x
noncomputable def qaq(t:Tr AV)(xs:List O)(k:List AV->Prop):Prop :=
 List.rec (motive:=λ_=>(List AV->Prop)->Prop) (λk=>k []) (λx _ ih k=>evK t x (λv=>ih (λvs=>k (v::vs)))) xs k

noncomputable def unB(v:AV)(k:Bool->Prop):Prop:=match v with | .b x=>k x|_=>False
noncomputable def unI(v:AV)(k:IntKind->Int->Prop):Prop:=match v with | .i q n=>k q n|_=>False
noncomputable def unN(v:AV)(k:Nat->Prop):Prop:=match v with | .i _ n=>Int.rec (motive:=λ_=>Prop) k (λ_=>False) n|_=>False
noncomputable def unP(v:AV)(k:Nat->Nat->Prop):Prop:=match v with | .ptr b o=>k b o|_=>False
noncomputable def qo(x:Bool)(k:Prop):Prop:=Bool.rec (motive:=λ_=>Prop) False k x

noncomputable def xo(op:BinOp)(q:IntKind)(x y:Int)(k:AV->Prop):Prop :=
 match op with
 | .add=>xQ (qjR q (Int.add x y)) (λr=>k (.i q r))
 | .sub=>xQ (qjR q (Int.sub x y)) (λr=>k (.i q r))
 | .mul=>xQ (qjR q (Int.mul x y)) (λr=>k (.i q r))
 | .quo=>Bool.rec (motive:=λ_=>Prop) (xQ (qjR q (x.tdiv y)) (λr=>k (.i q r))) False (eqI y 0)
 | .rem=>Bool.rec (motive:=λ_=>Prop) (xQ (x.tmod y) (λr=>k (.i q r))) False (eqI y 0)
 | .and=>xQ (q.wrap (BitVec.ofInt q.bits x &&& BitVec.ofInt q.bits y).toNat) (λr=>k (.i q r))
 | .or=>xQ (q.wrap (BitVec.ofInt q.bits x ||| BitVec.ofInt q.bits y).toNat) (λr=>k (.i q r))
 | .xor=>xQ (q.wrap (BitVec.ofInt q.bits x ^^^ BitVec.ofInt q.bits y).toNat) (λr=>k (.i q r))
 | .andNot=>xQ (q.wrap (BitVec.ofInt q.bits x &&& ~~~ (BitVec.ofInt q.bits y)).toNat) (λr=>k (.i q r))
 | .eql=>qT (eqI x y) (λr=>k (.b r))
 | .neq=>qT (eqI x y) (λr=>qT (not r) (λr=>k (.b r)))
 | .lss=>qT (ltI x y) (λr=>k (.b r))
 | .leq=>qT (ltI y x) (λr=>qT (not r) (λr=>k (.b r)))
 | .gtr=>qT (ltI y x) (λr=>k (.b r))
 | .geq=>qT (ltI x y) (λr=>qT (not r) (λr=>k (.b r)))
 | .shl | .shr=>False
noncomputable def qkk(op:BinOp)(q:IntKind)(x y:Int)(k:AV->Prop):Prop :=
 Int.rec (motive:=λ_=>Prop) (λm=>qw (min m q.bits) (λn=>match op with
  | .shl=>xQ (q.wrap (x*p2 n)) (λr=>k (.i q r))
  | .shr=>xQ (x.fdiv (p2 n)) (λr=>k (.i q r))
  | _=>False)) (λ_=>False) y
noncomputable def qbV(op:BinOp)(x y:List UInt8)(k:AV->Prop):Prop :=
 match op with
 | .add=>Bool.rec (motive:=λ_=>Prop) False (k (.s (x++y))) (Nat.ble (x.length+y.length) 9223372036854775807)
 | .eql=>qT (eqS x y) (λr=>k (.b r))
 | .neq=>qT (eqS x y) (λr=>qT (not r) (λr=>k (.b r)))
 | .lss=>qT (ltS x y) (λr=>k (.b r))
 | .leq=>qT (ltS x y) (λr=>qT (eqS x y) (λe=>qT (or r e) (λr=>k (.b r))))
 | .gtr=>qT (ltS x y) (λr=>qT (eqS x y) (λe=>qT (not (or r e)) (λr=>k (.b r))))
 | .geq=>qT (ltS x y) (λr=>qT (not r) (λr=>k (.b r)))
 | _=>False
noncomputable def qiH(r:Option AV)(k:AV->Prop):Prop:=Option.rec (motive:=λ_=>Prop) False k r
noncomputable def xq(orc:Orc)(op:BinOp)(x y:AV)(k:AV->Prop):Prop :=
 match x with
 | .i q n=>(match y with
  | .i q' m=>(match op with
   | .shl=>qkk .shl q n m k
   | .shr=>qkk .shr q n m k
   | op=>qo (decide (q=q')) (xo op q n m k))
  | .sym j=>qiH (orc.bin op (.i q n) (.sym j)) k
  | _=>False)
 | .s a=>(match y with
  | .s c=>qbV op a c k
  | .sym j=>qiH (orc.bin op (.s a) (.sym j)) k
  | _=>False)
 | .sym j=>qiH (orc.bin op (.sym j) y) k
 | _=>False
noncomputable def jm(q:NK)(x:AV)(k:Bool->Prop):Prop :=
 match q with
 | .ptr=>(match x with | .nilp=>k true | .ptr _ _=>k false | .pf _ _=>k false|_=>False)
 | .slice=>(match x with | .nils=>k true | .sl _ _ _ _ _=>k false | .fz n _=>qo (Nat.ble 1 n) (k false) | .own _ n=>qo (Nat.ble 1 n) (k false) | .nz=>k false|_=>False)
 | .func=>(match x with | .nilf=>k true | .fn _ _ _=>k false | .yl _=>k false|_=>False)
 | .iface=>(match x with | .nili=>k true | .ifc _ _=>k false|_=>False)
 | .map=>(match x with | .nilm=>k true | .map _=>k false|_=>False)
noncomputable def jN(q:PK)(x y:AV)(k:Bool->Prop):Prop :=
 match q with
 | .i=>(match x with | .i q n=>(match y with | .i q' m=>qo (decide (q=q')) (qT (eqI n m) k)|_=>False)|_=>False)
 | .s=>(match x with | .s a=>(match y with | .s c=>qT (eqS a c) k|_=>False)|_=>False)
 | .b=>(match x with | .b a=>(match y with | .b c=>qT (a==c) k|_=>False)|_=>False)
noncomputable def jE(qs:List PK):List AV->List AV->(Bool->Prop)->Prop :=
 List.rec (motive:=λ_=>List AV->List AV->(Bool->Prop)->Prop) (λ_ _ k=>k true)
  (λq _ ih x y k=>List.rec (motive:=λ_=>Prop) False (λu us _=>List.rec (motive:=λ_=>Prop) False (λv vs _=>jN q u v (λe=>Bool.rec (motive:=λ_=>Prop) (k false) (ih us vs k) e)) y) x) qs
noncomputable def qeD(op:UnOp)(x:AV)(k:AV->Prop):Prop :=
 match op with
 | .neg=>(match x with | .i q n=>xQ (q.wrap (0-n)) (λr=>k (.i q r))|_=>False)
 | .xor=>(match x with | .i q n=>xQ (q.wrap (BitVec.ofInt q.bits (if q.signed then -1 else q.max) ^^^ BitVec.ofInt q.bits n).toNat) (λr=>k (.i q r))|_=>False)
 | .not=>(match x with | .b a=>qT (not a) (λr=>k (.b r))|_=>False)
 | .plus=>False
noncomputable def qah(t:Tr AV)(ps:List (Nat×Nat×O)):List AV->(List AV->Prop)->Prop :=
 List.rec (motive:=λ_=>List AV->(List AV->Prop)->Prop) (λl k=>k l)
  (λp _ ih l k=>evK t p.2.2 (λv=>qo (qcR v) (qw p.1 (λoff=>qhO (cellsOf v) (λn=>qo (Nat.beq n p.2.1) (ju (cellsOf v) off l (λl'=>ih l' k))))))) ps
noncomputable def qcG(t:Tr AV)(x:Option O)(k:Option AV->Prop):Prop:=Option.rec (motive:=λ_=>Prop) (k none) (λx=>evK t x (λv=>k (some v))) x
noncomputable def qiX(x:Option AV)(dflt top:Nat)(k:Nat->Prop):Prop :=
 Option.rec (motive:=λ_=>Prop) (k dflt) (λv=>unN v (λn=>qo (Nat.ble n top) (qw n k))) x
noncomputable def xf(len cap:Nat)(lo hi mx:Option AV)(k:Nat->Nat->Nat->Prop):Prop :=
 qiX mx cap cap (λm=>Option.rec (motive:=λ_=>Prop) (Option.rec (motive:=λ_=>Prop) (qo (Nat.ble len m) (qiX lo 0 len (λl=>k l len m))) (λ_=>False) mx)
  (λv=>unN v (λh=>qo (Nat.ble h m) (qw h (λh=>qiX lo 0 h (λl=>k l h m))))) hi)
noncomputable def qco(h:Hp)(esz:Nat)(x:AV)(k:Nat->List AV->Prop):Prop :=
 match x with
 | .nils=>k 0 []
 | .sl b o n _ _=>qeV h b o (Nat.mul n esz) (λcs=>k n cs)
 | .fz n cs=>qcK (Nat.mul n esz) cs (λcs=>k n cs)
 | .e0=>k 0 []
 | .nz=>k 0 []
 | .own b n=>qeV h b 0 (Nat.mul n esz) (λcs=>k n cs)
 | .s a=>qo (Nat.beq esz 1) (qw a.length (λn=>k n (a.map λc=>.i .u8 (Int.ofNat c.toNat))))
 | _=>False
def qf:Nat:=70368744177664
noncomputable def qhL(h:Hp)(esz bytes:Nat)(consume:Bool)(s x:AV)(k:AV->Hp->Prop):Prop :=
 qco h esz x (λn new=>match s with
  | .nils=>qo (Nat.ble n qf) (qo (Nat.ble (Nat.mul n bytes) qf) (jz h (.cells esz true true new) (λb h'=>k (.own b n) h')))
  | .e0=>qo (Nat.ble n qf) (qo (Nat.ble (Nat.mul n bytes) qf) (jz h (.cells esz true true new) (λb h'=>k (.own b n) h')))
  | .sl b o len cap loose=>Bool.rec (motive:=λ_=>Prop) (qw (Nat.add len n) (λneed=>Bool.rec (motive:=λ_=>Prop)
    (qo (Nat.ble need qf) (qo (Nat.ble (Nat.mul need bytes) qf)
     (qeV h b o (Nat.mul len esz) (λold=>qlq old new (λcs=>jz h (.cells esz true true cs) (λb' h'=>k (.own b' need) h'))))))
    (Nat.rec (motive:=λ_=>Prop) (k (.sl b o need cap false) h) (λ_ _=>qw (Nat.add o (Nat.mul len esz)) (λat_=>stK h b at_ new (λh'=>k (.sl b o need cap false) h'))) n)
    (Nat.ble need cap)))
    (qw (Nat.add len n) (λneed=>qo (Nat.ble need qf) (qo (Nat.ble (Nat.mul need bytes) qf) (qo (and consume (Nat.beq cap len)) (qar h b (λe w a ys=>qo (qF new) (qo w (qo a (qo (Nat.beq e esz) (qhO ys (λq=>qo (Nat.beq q (Nat.add o (Nat.mul len esz))) (qc9 o ys (λzs=>qlq zs new (λcs' =>
    qdo h b .dead (λh1=>jz h1 (.cells esz true true cs') (λb' h'=>k (.own b' need) h')))))))))))))))) loose
  | .fz m cs=>Nat.rec (motive:=λ_=>Prop) (k (.fz m cs) h) (λ_ _=>False) n
  | .own b m=>qw (Nat.add m n) (λneed=>qo (Nat.ble need qf) (qo (Nat.ble (Nat.mul need bytes) qf) (qo consume (qar h b (λe w a ys=>qo (qF new) (qo w (qo a (qo (Nat.beq e esz) (qhO ys (λq=>qo (Nat.beq q (Nat.mul m esz)) (qlq ys new (λcs' =>
    qdo h b .dead (λh1=>jz h1 (.cells esz true true cs') (λb' h'=>k (.own b' need) h'))))))))))))))
  | _=>False)
noncomputable def qmR(h:Hp)(esz:Nat)(d s:AV)(k:AV->Hp->Prop):Prop :=
 match d with
 | .nils=>qco h esz s (λ_ _=>k (.i .i64 0) h)
 | .sl b o len _ _=>qco h esz s (λn new=>qw (min n len) (λm=>qcK (Nat.mul m esz) new (λcs=>stK h b o cs (λh'=>k (.i .i64 (Int.ofNat m)) h'))))
 | _=>False
noncomputable def qjN(cs:List AV)(k:List UInt8->Prop):Prop :=
 List.rec (motive:=λ_=>(List UInt8->Prop)->Prop) (λk=>k []) (λv _ ih k=>match v with
  | .i .u8 n=>Int.rec (motive:=λ_=>Prop) (λm=>ih (λl=>k (UInt8.ofNat m::l))) (λ_=>False) n
  | _=>False) cs k

noncomputable def qkK(h:Hp)(b esz:Nat)(c:Bool)(p:Prop):Prop:=Bool.rec (motive:=λ_=>Prop) p (qar h b (λe _ _ _=>qo (Nat.beq e esz) p)) c
noncomputable def cvK(orc:Orc)(q:IntKind)(x:AV)(k:AV->Prop):Prop :=
 match x with
 | .i _ n=>xQ (qjR q n) (λr=>k (.i q r))
 | .sym j=>qiH (orc.cv q j) k
 | _=>False
noncomputable def qkN(orc:Orc)(kd:Option IntKind)(i:AV)(p:Prop):Prop :=
 match i with
 | .s _=>(match kd with|none=>p|some _=>False)
 | .i q _=>(match kd with|some q'=>qo (decide (q'=q)) p|none=>False)
 | .sym j=>(match kd with|none=>qiH (orc.len j) (λ_=>p)|some _=>False)
 | _=>False
noncomputable def qeT(orc:Orc)(x y:AV)(k:Bool->Prop):Prop :=
 match y with
 | .s c=>(match x with | .s a=>qT (eqS a c) k | .sym j=>qiH (orc.len j) (λ_=>qiH (orc.bin .eql (.sym j) (.s c)) (λv=>unB v k))|_=>False)
 | .i q n=>(match x with | .i q' m=>qo (decide (q'=q)) (qT (eqI m n) k)|_=>False)
 | _=>False
noncomputable def qcA(orc:Orc)(i:AV)(es:List (AV×AV)):(Option AV->Prop)->Prop :=
 List.rec (motive:=λ_=>(Option AV->Prop)->Prop) (λk=>k none) (λe _ ih k=>qeT orc i e.1 (λr=>Bool.rec (motive:=λ_=>Prop) (ih k) (k (some e.2)) r)) es
noncomputable def qhn(orc:Orc)(i v:AV)(es:List (AV×AV)):(List (AV×AV)->Prop)->Prop :=
 List.rec (motive:=λ_=>(List (AV×AV)->Prop)->Prop) (λk=>k [(i,v)]) (λe es' ih k=>qeT orc i e.1 (λr=>Bool.rec (motive:=λ_=>Prop) (ih (λl=>k (e::l))) (k ((i,v)::es')) r)) es
noncomputable def qeQ(es:List (AV×AV))(p:Prop):Prop :=
 List.rec (motive:=λ_=>Prop) p (λe _ _=>match e.1 with | .undef=>False | .lp _=>False|_=>p) es
noncomputable def qka(h:Hp)(b:Nat)(k:List (AV×AV)->Prop):Prop :=
 h.tr.getK b (λx=>Blk.rec (motive:=λ_=>Prop) (λ_ _ _ _=>False) False (λes=>qeQ es (k es)) x)
def zz(r:Loop)(ts:List (Nat×AV)):List (AV×AV):=(.lp r,.undef)::ts.map λp=>(.i .i64 (Int.ofNat p.1),p.2)
def qeu(a:List UInt8)(n:Nat):List (AV×AV):=[(.undef,.s a),(.undef,.i .i64 (Int.ofNat n))]
noncomputable def qv4(h:Hp)(b:Nat)(k:List UInt8->Nat->Prop):Prop :=
 h.tr.getK b (λx=>Blk.rec (motive:=λ_=>Prop) (λ_ _ _ _=>False) False (λes=>match es with
  | [(.undef,.s a),(.undef,.i .i64 (.ofNat n))]=>k a n
  | _=>False) x)
noncomputable def qhK(ok:Bool)(zero:AV)(v:Option AV)(k:AV->Prop):Prop :=
 Option.rec (motive:=λ_=>Prop) (Bool.rec (motive:=λ_=>Prop) (k zero) (k (.tup [zero,.b false])) ok) (λv=>Bool.rec (motive:=λ_=>Prop) (k v) (k (.tup [v,.b true])) ok) v
noncomputable def qBm(es:List (AV×AV))(k:Nat->Prop):Prop :=
 List.rec (motive:=λ_=>Nat->(Nat->Prop)->Prop) (λn k=>k n) (λ_ _ ih n k=>qw (Nat.succ n) (λm=>ih m k)) es 0 k
noncomputable def xW(t:Tr AV)(b:Nat)(ps:List Nat)(p:Prop):Prop :=
 List.rec (motive:=λ_=>Prop) p (λq _ ih=>t.getK q (λy=>match y with | .ptr b' _=>qo (not (Nat.beq b' b)) ih | .pf _ _=>ih|_=>False)) ps
noncomputable def qbi(t:Tr AV)(ps:List Nat)(s:AV)(p:Prop):Prop :=
 match s with | .own b _=>xW t b ps p | .sl b _ _ _ _=>xW t b ps p | .fz _ _=>p | .nils=>p | .e0=>p|_=>False
noncomputable def opK(orc:Orc)(o:IOp)(t:Tr AV)(h:Hp)(k:AV->Hp->Prop):Prop :=
 match o with
 | .mov x=>evK t x (λv=>k v h)
 | .pick c x y=>evK t c (λc=>unB c (λc=>Bool.rec (motive:=λ_=>Prop) (evK t y (λv=>k v h)) (evK t x (λv=>k v h)) c))
 | .alloc z=>jz h (.cells 0 true false z) (λb h'=>k (.ptr b 0) h')
 | .box x=>evK t x (λv=>qo (qcR v) (jz h (.cells 0 true false (cellsOf v)) (λb h'=>k (.ptr b 0) h')))
 | .build z ps=>qah t ps z (λcs=>k (.agg cs) h)
 | .buildS n z ps=>qjD z n (λcs=>qah t ps cs (λcs=>jz h (.cells 0 true false cs) (λb h'=>k (.sl b 0 n n false) h')))
 | .load1 x=>evK t x (λp=>ldV h p (λv=>k v h))
 | .loadN n x=>evK t x (λp=>qkO h p n (λcs=>k (.agg cs) h))
 | .store n x v=>evK t x (λp=>unP p (λb o=>evK t v (λv=>qo (qcR v) (qhO (cellsOf v) (λm=>qo (Nat.beq m n) (stK h b o (cellsOf v) (λh'=>k .undef h')))))))
 | .nilChk x=>evK t x (λv=>match v with | .ptr b o=>k (.ptr b o) h | .fn f a c=>k (.fn f a c) h | .map r=>k (.map r) h | .pf cs o=>k (.pf cs o) h | .yl b=>k (.yl b) h|_=>False)
 | .bin op x y=>evK t x (λx=>evK t y (λy=>xq orc op x y (λv=>k v h)))
 | .eqN neg q x=>evK t x (λx=>jm q x (λr=>qT (xor neg r) (λr=>k (.b r) h)))
 | .eqA neg ks x y=>evK t x (λx=>evK t y (λy=>match x with | .agg a=>(match y with | .agg c=>jE ks a c (λr=>qT (xor neg r) (λr=>k (.b r) h))|_=>False)|_=>False))
 | .un op x=>evK t x (λx=>qeD op x (λv=>k v h))
 | .cvInt q x=>evK t x (λx=>cvK orc q x (λv=>k v h))
 | .fAddr off x=>evK t x (λp=>qiC p off (λv=>k v h))
 | .fld off n x=>evK t x (λx=>match x with
  | .agg cs=>Option.rec (motive:=λ_=>Prop) (qiE cs off (λv=>k v h)) (λn=>qc9 off cs (λl=>qcK n l (λl=>k (.agg l) h))) n
  | _=>False)
 | .iAddrA len esz x i=>evK t x (λp=>evK t i (λi=>unN i (λi=>qo (Nat.ble (Nat.succ i) len) (qiC p (Nat.mul i esz) (λv=>k v h)))))
 | .iAddrS esz x i=>evK t x (λx=>match x with
  | .sl b o len _ _=>evK t i (λi=>unN i (λi=>qo (Nat.ble (Nat.succ i) len) (qw (Nat.add o (Nat.mul i esz)) (λo'=>k (.ptr b o') h))))
  | .fz len cs=>evK t i (λi=>unN i (λi=>qo (Nat.ble (Nat.succ i) len) (qw (Nat.mul i esz) (λo'=>k (.pf cs o') h))))
  | .own b len=>evK t i (λi=>unN i (λi=>qo (Nat.ble (Nat.succ i) len) (qw (Nat.mul i esz) (λo'=>k (.ptr b o') h))))
  | _=>False)
 | .idxA len esz agg x i=>evK t x (λx=>match x with
  | .agg cs=>evK t i (λi=>unN i (λi=>qo (Nat.ble (Nat.succ i) len) (qw (Nat.mul i esz) (λo=>Bool.rec (motive:=λ_=>Prop) (qiE cs o (λv=>k v h)) (qc9 o cs (λl=>qcK esz l (λl=>k (.agg l) h))) agg))))
  | _=>False)
 | .idxS x i=>evK t x (λx=>match x with
  | .s a=>evK t i (λi=>unN i (λi=>Option.rec (motive:=λ_=>Prop) False (λc=>k (.i .u8 (Int.ofNat c.toNat)) h) (a[i]?)))
  | _=>False)
 | .slcS esz x lo hi mx=>evK t x (λx=>qcG t lo (λlo=>qcG t hi (λhi=>qcG t mx (λmx=>match x with
  | .nils=>xf 0 0 lo hi mx (λ_ _ _=>k .nils h)
  | .e0=>xf 0 0 lo hi mx (λ_ _ _=>k .e0 h)
  | .fz n cs=>xf n n lo hi mx (λl h' m=>Bool.rec (motive:=λ_=>Prop) (qc9 (Nat.mul l esz) cs (λl1=>qw (h'-l) (λlen'=>qcK (Nat.mul len' esz) l1 (λl2=>k (.fz len' l2) h)))) (k .e0 h) (and mx.isSome (Nat.beq m l)))
  | .sl b o len cap loose=>xf len cap lo hi mx (λl h' m=>qw (if(loose&&mx.isNone)=false/\m=l then o else Nat.add o (Nat.mul l esz)) (λo'=>qw (h'-l) (λlen'=>qw (m-l) (λcap' =>
    qkK h b esz (loose&&mx.isNone) (k (.sl b o' len' cap' (loose&&mx.isNone)) h)))))
  | .own b n=>Option.rec (motive:=λ_=>Prop) (Nat.rec (motive:=λ_=>Prop) (xf 0 0 lo hi none (λ_ _ _=>k (.own b 0) h))
    (λn' _=>xf (Nat.succ n') (Nat.succ n') lo hi none (λl h' m=>qw (Nat.mul l esz) (λo'=>qw (h'-l) (λlen'=>qw (m-l) (λcap'=>qkK h b esz true (k (.sl b o' len' cap' true) h)))))) n)
    (λ_=>Nat.rec (motive:=λ_=>Prop) (xf 0 0 lo hi mx (λ_ _ _=>k (.own b 0) h))
    (λn' _=>xf (Nat.succ n') (Nat.succ n') lo hi mx (λl h' m=>qw (if m=l then 0 else Nat.mul l esz) (λo'=>qw (h'-l) (λlen'=>qw (m-l) (λcap'=>k (.sl b o' len' cap' false) h))))) n) mx
  | _=>False))))
 | .slcA len esz x lo hi mx=>evK t x (λp=>unP p (λb o=>qcG t lo (λlo=>qcG t hi (λhi=>qcG t mx (λmx =>
   xf len len lo hi mx (λl h' m=>qw (if m=l then o else Nat.add o (Nat.mul l esz)) (λo'=>qw (h'-l) (λlen'=>qw (m-l) (λcap'=>k (.sl b o' len' cap' false) h))))))))) 
 | .ext x i=>evK t x (λx=>match x with | .tup cs=>qiE cs i (λv=>k v h)|_=>False)
 | .mkF f a c=>qaq t a (λa=>qaq t c (λc=>k (.fn f a c) h))
 | .mkS _ bytes z len cap=>evK t len (λlen=>evK t cap (λcap=>unN len (λl=>unN cap (λc=>qo (Nat.ble l c) (qo (Nat.ble c qf) (qo (Nat.ble (Nat.mul bytes c) qf) (qjD z c (λcs=>jz h (.cells 0 true false cs) (λb h'=>k (.sl b 0 l c false) h')))))))))
 | .len str x=>evK t x (λx=>match x with
  | .nils=>Bool.rec (motive:=λ_=>Prop) (k (.i .i64 0) h) False str
  | .e0=>Bool.rec (motive:=λ_=>Prop) (k (.i .i64 0) h) False str
  | .nz=>Bool.rec (motive:=λ_=>Prop) (k (.i .i64 0) h) False str
  | .fz n _=>Bool.rec (motive:=λ_=>Prop) (k (.i .i64 (Int.ofNat n)) h) False str
  | .own _ n=>Bool.rec (motive:=λ_=>Prop) (k (.i .i64 (Int.ofNat n)) h) False str
  | .sl _ _ n _ _=>Bool.rec (motive:=λ_=>Prop) (k (.i .i64 (Int.ofNat n)) h) False str
  | .s a=>Bool.rec (motive:=λ_=>Prop) False (qw a.length (λn=>k (.i .i64 (Int.ofNat n)) h)) str
  | .sym j=>Bool.rec (motive:=λ_=>Prop) False (qiH (orc.len j) (λv=>k v h)) str
  | _=>False)
 | .app esz bytes c s x=>evK t s (λs=>evK t x (λx=>qhL h esz bytes c s x k))
 | .max x y=>evK t x (λx=>evK t y (λy=>unI x (λq n=>unI y (λ_ m=>Bool.rec (motive:=λ_=>Prop) (k (.i q n) h) (k (.i q m) h) (ltI n m)))))
 | .clear z x=>evK t x (λx=>match x with
  | .nils=>k (.tup []) h
  | .sl b o n _ _=>Nat.rec (motive:=λ_=>Prop) (k (.tup []) h) (λ_ _=>qjD z n (λcs=>stK h b o cs (λh'=>k (.tup []) h'))) n
  | _=>False)
 | .mkM=>jz h (.map []) (λb h'=>k (.map b) h')
 | .lookM kd ok zero x i=>evK t x (λx=>evK t i (λi=>qkN orc kd i (match x with
  | .nilm=>qhK ok zero none (λv=>k v h)
  | .map r=>qka h r (λes=>qcA orc i es (λv=>qhK ok zero v (λv=>k v h)))
  | _=>False)))
 | .updM kd x i v=>evK t x (λx=>evK t i (λi=>evK t v (λv=>qkN orc kd i (match x with
  | .map r=>qka h r (λes=>qhn orc i v es (λes'=>qdo h r (.map es') (λh'=>k .undef h')))
  | _=>False))))
 | .min x y=>evK t x (λx=>evK t y (λy=>unI x (λq n=>unI y (λ_ m=>Bool.rec (motive:=λ_=>Prop) (k (.i q n) h) (k (.i q m) h) (ltI m n)))))
 | .storeD n x v ps=>evK t x (λp=>unP p (λb o=>xW t b ps (evK t v (λv=>qo (qcR v) (qhO (cellsOf v) (λm=>qo (Nat.beq m n) (stK h b o (cellsOf v) (λh'=>k .undef h'))))))))
 | .appD esz bytes s x ps=>evK t s (λs=>evK t x (λx=>qbi t ps s (qhL h esz bytes true s x k)))
 | .appZ esz bytes z s x=>evK t s (λs=>evK t x (λx=>unN x (λn=>match s with
  | .sl b o len cap loose=>qo (not loose) (qo (Nat.ble (Nat.succ cap) (Nat.add len n)) (qo (Nat.ble (Nat.add len n) qf) (qo (Nat.ble (Nat.mul (Nat.add len n) bytes) qf)
    (qeV h b o (Nat.mul len esz) (λold=>qjD z n (λnew=>qlq old new (λcs=>jz h (.cells esz true true cs) (λb' h'=>k (.own b' (Nat.add len n)) h'))))))))
  | .nils=>qo (Nat.ble 1 n) (qo (Nat.ble n qf) (qo (Nat.ble (Nat.mul n bytes) qf) (qjD z n (λnew=>jz h (.cells esz true true new) (λb' h'=>k (.own b' n) h')))))
  | _=>False)))
 | .cap x=>evK t x (λx=>match x with
  | .nils=>k (.i .i64 0) h
  | .e0=>k (.i .i64 0) h
  | .sl _ _ _ c l=>Bool.rec (motive:=λ_=>Prop) (k (.i .i64 (Int.ofNat c)) h) False l
  | _=>False)
 | .no=>False

noncomputable def qap(t:Tr AV)(d:Option Nat)(v:AV)(k:Tr AV->Prop):Prop:=Option.rec (motive:=λ_=>Prop) (k t) (λn=>t.setK n v k) d
noncomputable def qe0(t:Tr AV)(h:Hp)(rs:List RV)(k:List AV->Prop):Prop :=
 List.rec (motive:=λ_=>(List AV->Prop)->Prop) (λk=>k []) (λr _ ih k=>match r with
  | .tmp n=>t.getK n (λv=>ih (λvs=>k (v::vs)))
  | .cell n size agg=>t.getK n (λp=>unP p (λb o=>Bool.rec (motive:=λ_=>Prop) (ldK h b o (λv=>ih (λvs=>k (v::vs)))) (qeV h b o size (λcs=>ih (λvs=>k (.agg cs::vs)))) agg))) rs k
def qfs:List AV->AV
 | [v]=>v
 | vs=>.tup vs
abbrev zI:=Nat->List AV->Hp->(AV->Hp->Prop)->Prop
noncomputable def qhh(F:Hp->(AV->Hp->Prop)->Prop)(h:Hp)(k:AV->Hp->Prop):Prop :=
 Hp.rec (motive:=λ_=>Prop) (λsz fl tr=>F ⟨sz,sz,tr⟩ (λv h'=>Hp.rec (motive:=λ_=>Prop) (λsz' _ tr'=>k v ⟨sz',fl,tr'⟩) h')) h
def wr:RK->Bool
 | .op (.store _ _ _) | .op (.app _ _ _ _ _) | .op (.clear _ _) | .op (.updM _ _ _ _) | .op (.storeD _ _ _ _) | .op (.appD _ _ _ _ _)=>true
 | .callW _ _ | .callVW _ _=>true
 | _=>false
noncomputable def qcJ(orc:Orc)(C:zI)(r:RK)(t:Tr AV)(h:Hp)(k:AV->Hp->Prop):Prop :=
 match r with
 | .op o=>opK orc o t h k
 | .callF f args=>qaq t args (λvs=>C (Nat.succ f) vs h k)
 | .callV x args=>evK t x (λg=>qaq t args (λvs=>match g with | .fn f a c=>C (Nat.succ f) (a++(vs++c)) h k | .yl b=>C 0 (.yl b::vs) h k|_=>False))
 | .callW f args=>qaq t args (λvs=>C (Nat.succ f) vs h k)
 | .callVW x args=>evK t x (λg=>qaq t args (λvs=>match g with | .fn f a c=>C (Nat.succ f) (a++(vs++c)) h k | .yl b=>C 0 (.yl b::vs) h k|_=>False))
noncomputable def qiK(orc:Orc)(draw:Bool)(C:zI)(r:RK)(t:Tr AV)(h:Hp)(k:AV->Hp->Prop):Prop :=
 Bool.rec (motive:=λ_=>Prop) (qcJ orc C r t h k) (qhh (qcJ orc C r t) h k) (and draw (not (wr r)))
noncomputable def qaV(t:Tr AV)(g:Option (Nat×Bool))(k:Bool->Prop):Prop :=
 Option.rec (motive:=λ_=>Prop) (k true) (λg=>t.getK g.1 (λv=>match v with
  | .b x=>qT (x==g.2) k
  | .tup _=>k false
  | _=>False)) g
noncomputable def qmc(orc:Orc)(draw:Bool)(C:zI)(ops:List ROp)(Q:Tr AV->Hp->Prop):Tr AV->Hp->Prop :=
 List.rec (motive:=λ_=>Tr AV->Hp->Prop) Q (λr _ rest t h=>ROp.rec (motive:=λ_=>Prop) (λdst k guard=>qaV t guard (λgo=>Bool.rec (motive:=λ_=>Prop)
  (qap t dst (.tup []) (λt'=>rest t' h)) (qiK orc draw C k t h (λv h'=>qap t dst v (λt'=>rest t' h'))) go)) r) ops
def tab:Nat->Option (Array Value):=λ_=>none
class TabOk (w:World):Prop where
 ok:∀k a,tab k=some a->∃ty fz,w.heap[k]?=some (.cells a ty fz)
instance {w:World}:TabOk w:=⟨λ_ _ h=>by cases h⟩
end Go.Kc
end
section

set_option linter.unusedVariables false
namespace Go.Kc

def L1{α:Type}(G:(α->Prop)->Prop):Prop:=∀k,G k->∃x,k x/\∀k',k' x->G k'
def L2{α β:Type}(G:(α->β->Prop)->Prop):Prop:=∀k,G k->∃x y,k x y/\∀k',k' x y->G k'
def L3{α β γ:Type}(G:(α->β->γ->Prop)->Prop):Prop:=∀k,G k->∃x y z,k x y z/\∀k',k' x y z->G k'
def L4{α β γ δ:Type}(G:(α->β->γ->δ->Prop)->Prop):Prop:=∀k,G k->∃x y z u,k x y z u/\∀k',k' x y z u->G k'

section
variable {α β γ δ ε:Type}
def L1.ret(x:α):L1 (λk=>k x):=λ_ h=>by grind
def L2.ret(x:α)(y:β):L2 (λk=>k x y):=λ_ h=>by grind
def L3.ret(x:α)(y:β)(z:γ):L3 (λk=>k x y z):=λ_ h=>by grind
def L1.no:L1 (λ(_:α->Prop)=>False):=λ_ h=>h.elim
def L2.no:L2 (λ(_:α->β->Prop)=>False):=λ_ h=>h.elim
def L3.no:L3 (λ(_:α->β->γ->Prop)=>False):=λ_ h=>h.elim
def L1.b1{G:(α->Prop)->Prop}{F:α->(β->Prop)->Prop}(hG:L1 G)(hF:∀x,L1 (F x)):L1 (λk=>G (λx=>F x k)):=λ_ h=>by
 obtain⟨x,h1,h2⟩:=hG _ h;obtain⟨y,h3,h4⟩:=hF x _ h1;grind
def L1.b2{G:(α->Prop)->Prop}{F:α->(β->γ->Prop)->Prop}(hG:L1 G)(hF:∀x,L2 (F x)):L2 (λk=>G (λx=>F x k)):=λ_ h=>by
 obtain⟨x,h1,h2⟩:=hG _ h;obtain⟨y,z,h3,h4⟩:=hF x _ h1;grind
def L1.b3{G:(α->Prop)->Prop}{F:α->(β->γ->δ->Prop)->Prop}(hG:L1 G)(hF:∀x,L3 (F x)):L3 (λk=>G (λx=>F x k)):=λ_ h=>by
 obtain⟨x,h1,h2⟩:=hG _ h;obtain⟨y,z,u,h3,h4⟩:=hF x _ h1;grind
def L2.b1{G:(α->β->Prop)->Prop}{F:α->β->(γ->Prop)->Prop}(hG:L2 G)(hF:∀x y,L1 (F x y)):L1 (λk=>G (λx y=>F x y k)):=λ_ h=>by
 obtain⟨x,y,h1,h2⟩:=hG _ h;obtain⟨z,h3,h4⟩:=hF x y _ h1;grind
def L2.b2{G:(α->β->Prop)->Prop}{F:α->β->(γ->δ->Prop)->Prop}(hG:L2 G)(hF:∀x y,L2 (F x y)):L2 (λk=>G (λx y=>F x y k)):=λ_ h=>by
 obtain⟨x,y,h1,h2⟩:=hG _ h;obtain⟨z,u,h3,h4⟩:=hF x y _ h1;grind
def L3.b2{G:(α->β->ε->Prop)->Prop}{F:α->β->ε->(γ->δ->Prop)->Prop}(hG:L3 G)(hF:∀x y e,L2 (F x y e)):L2 (λk=>G (λx y e=>F x y e k)):=λ_ h=>by
 obtain⟨x,y,e,h1,h2⟩:=hG _ h;obtain⟨z,u,h3,h4⟩:=hF x y e _ h1;grind
def L4.b1{ζ:Type}{G:(α->β->γ->δ->Prop)->Prop}{F:α->β->γ->δ->(ζ->Prop)->Prop}(hG:L4 G)(hF:∀x y z u,L1 (F x y z u)):L1 (λk=>G (λx y z u=>F x y z u k)):=λ_ h=>by
 obtain⟨x,y,z,u,h1,h2⟩:=hG _ h;obtain⟨v,h3,h4⟩:=hF x y z u _ h1;grind
def L4.b2{ζ η:Type}{G:(α->β->γ->δ->Prop)->Prop}{F:α->β->γ->δ->(ζ->η->Prop)->Prop}(hG:L4 G)(hF:∀x y z u,L2 (F x y z u)):L2 (λk=>G (λx y z u=>F x y z u k)):=λ_ h=>by
 obtain⟨x,y,z,u,h1,h2⟩:=hG _ h;obtain⟨v,v',h3,h4⟩:=hF x y z u _ h1;grind
def L1.wh(x:Bool){F:(α->Prop)->Prop}(hF:L1 F):L1 (λk=>qo x (F k)):=by
 cases x
 .exact L1.no
 .exact hF
def L2.wh(x:Bool){F:(α->β->Prop)->Prop}(hF:L2 F):L2 (λk=>qo x (F k)):=by
 cases x
 .exact L2.no
 .exact hF
def L3.wh{α β γ:Type}(x:Bool){F:(α->β->γ->Prop)->Prop}(hF:L3 F):L3 (λk=>qo x (F k)):=by
 cases x
 .exact L3.no
 .exact hF
def L2.br(x:Bool){F G:(α->β->Prop)->Prop}(hF:L2 F)(hG:L2 G):L2 (λk=>Bool.rec (motive:=λ_=>Prop) (F k) (G k) x):=by
 cases x<;>simp_all
def L1.br(x:Bool){F G:(α->Prop)->Prop}(hF:L1 F)(hG:L1 G):L1 (λk=>Bool.rec (motive:=λ_=>Prop) (F k) (G k) x):=by
 cases x<;>simp_all
end

theorem zl(n:Nat):L1 (qw n):=λk h=>by grind[qD]
def qi7(n:Int):L1 (xQ n):=λk h=>by grind[zA]
def xt(n:Bool):L1 (qT n):=λk h=>by grind[qM]
def qqK{α:Type}(t:Tr α)(n:Nat):L1 (t.getK n):=λk h=>by
 grind[Tr.getK_iff]
def qq0{α:Type}(t:Tr α)(n:Nat)(x:α):L1 (t.setK n x):=λk h=>by grind[Tr.setK_iff]
theorem qiF(l:List AV)(n:Nat):L1 (qiE l n):=λk h=>by
 grind[jd]
def qeC(n:Nat)(l:List AV):L1 (qcK n l):=λk h=>by
 grind[zH]
def qfF(n:Nat)(l:List AV):L1 (qc9 n l):=λk h=>by
 grind[zL]
def qns(vs:List AV)(n:Nat)(l:List AV):L1 (ju vs n l):=λk h=>by
 grind[jL]
def qnN(zy bs:List AV):L1 (qlq zy bs):=λk h=>by grind[jX]
def qlV(l:List AV):L1 (qhO l):=λk h=>by grind[wj]
def qiJ(z:List AV)(n:Nat):L1 (qjD z n):=λk h=>by grind[qaF]
def qfa(h:Hp)(b:Nat):L4 (qar h b):=λk hk=>by
 obtain⟨v,h1,h2⟩:=qqK _ _ _ hk;cases v with
 | cells e w a cs=>exact⟨e,w,a,cs,h1,λk' hk'=>h2 _ hk'⟩
 | dead=>simp_all
 | map=>simp_all
def qc0(h:Hp)(x:Blk):L2 (jz h x):=λk hk=>by
 cases h with
 | mk sz fl tr => 
  obtain⟨t',h1,h2⟩:=qq0 tr sz x _ hk;obtain⟨m,h3,h4⟩:=zl _ _ h1;exact⟨_,_,h3,λk' hk'=>h2 _ (h4 _ hk')⟩
theorem qoc(h:Hp)(b:Nat)(x:Blk):L1 (qdo h b x):=by
 cases h with
 | mk sz fl tr=>exact L1.br _ L1.no (L1.b1 (qq0 tr b x) λt'=>L1.ret _)
def qHe(h:Hp)(b off:Nat):L1 (ldK h b off):=L4.b1 (qfa h b) (by grind[qiF])
def qlT(h:Hp)(b off n:Nat):L1 (qeV h b off n):=L4.b1 (qfa h b) λ_ _ _ cs=>L1.b1 (qfF off cs) λl=>qeC n l
def qqc(h:Hp)(b off:Nat)(vs:List AV):L1 (stK h b off vs) :=
 L4.b1 (qfa h b) λe w a cs=>L1.br _ L1.no (L1.br _ L1.no (L1.b1 (qns vs off cs) (by grind[qoc])))
def qA(t:Tr AV)(x:O):L1 (evK t x):=by
 cases x
 .exact qqK _ _
 .exact L1.ret _
def qiu(t:Tr AV):∀xs,L1 (qaq t xs)
 | []=>L1.ret _
 | x::xs=>by
  show L1 (λk=>evK t x (λv=>qaq t xs (λvs=>k (v::vs))))
  exact L1.b1 (qA t x) λv=>L1.b1 (qiu t xs) λvs=>L1.ret _
def qxP(v:AV):L1 (unB v):=by cases v<;>first|exact L1.no|exact L1.ret _
def qkJ(v:AV):L2 (unI v):=by cases v<;>first|exact L2.no|exact L2.ret _ _
def qfy(v:AV):L1 (unN v):=by
 cases v<;>try exact L1.no
 rename_i q n;cases n
 .exact L1.ret _
 .exact L1.no
def qxR(v:AV):L2 (unP v):=by cases v<;>first|exact L2.no|exact L2.ret _ _
def qkf(t:Tr AV)(x:Option O):L1 (qcG t x):=by
 cases x
 .exact L1.ret _
 .rename_i x;show L1 (λk=>evK t x (λv=>k (some v)))
  simp_all[L1.b1,qA,L1.ret]
theorem qhe(r:Option AV):L1 (qiH r):=by
 cases r
 .exact L1.no
 .exact L1.ret _
def qqu(x:Option AV)(d top:Nat):L1 (qiX x d top):=by
 cases x
 .exact L1.ret _
 .rename_i v;show L1 (λk=>unN v (λn=>qo (Nat.ble n top) (qw n k)))
  exact L1.b1 (qfy _) λn=>L1.wh _ (zl n)
def qdj(len cap:Nat)(lo hi mx:Option AV):L3 (xf len cap lo hi mx):=by
 refine L1.b3 (qqu mx cap cap) λm=>?_
 cases hi with
 | none =>
  cases mx with
  | none =>
   simp_all[L3.wh,L1.b3,qqu,L3.ret]
  | some _=>exact L3.no
 | some v =>
  refine L1.b3 (qfy v) λh=>?_
  simp_all[L3.wh,L1.b3,qqu,L3.ret]
def qhj(h:Hp)(esz:Nat)(x:AV):L2 (qco h esz x):=by
 unfold qco;cases x<;>dsimp only<;>try exact L2.no
 all_goals simp_all[L2.wh,L1.b2,L2.ret,qlT,qeC]
def qq4:∀cs,L1 (qjN cs)
 | []=>L1.ret _
 | v::cs=>by
  cases v<;>try exact L1.no
  rename_i q n;cases q<;>try exact L1.no
  cases n
  .rename_i m;show L1 (λk=>qjN cs (λl=>k (UInt8.ofNat m::l)))
   exact L1.b1 (qq4 cs) λl=>L1.ret _
  .exact L1.no
def qi5(t:Tr AV):∀ps l,L1 (qah t ps l)
 | [],l=>L1.ret l
 | p::ps,l=>by
  show L1 (λk=>evK t p.2.2 (λv=>qo (qcR v) (qw p.1 (λoff=>qhO (cellsOf v) (λn=>qo (Nat.beq n p.2.1) (ju (cellsOf v) off l (λl'=>qah t ps l' k)))))))
  exact L1.b1 (qA t p.2.2) λv=>L1.wh _ (L1.b1 (zl p.1) λoff=>L1.b1 (qlV _) λn=>L1.wh _ (L1.b1 (qns _ _ _) λl'=>qi5 t ps l'))
def qth(op:BinOp)(q:IntKind)(x y:Int):L1 (xo op q x y):=by
 unfold xo;cases op<;>dsimp only<;>first|exact L1.no|exact L1.b1 (qi7 _) λr=>L1.ret _|exact L1.b1 (xt _) λr=>L1.b1 (xt _) λr=>L1.ret _|exact L1.b1 (xt _) λr=>L1.ret _|exact L1.br _ (L1.b1 (qi7 _) λr=>L1.ret _) L1.no
def qxw(op:BinOp)(q:IntKind)(x y:Int):L1 (qkk op q x y):=by
 cases y with
 | negSucc=>exact L1.no
 | ofNat m =>
  unfold qkk;refine L1.b1 (by grind[zl]) λn=>?_
  cases op<;>dsimp only<;>first|exact L1.no|exact L1.b1 (qi7 _) λr=>L1.ret _
def qt6(op:BinOp)(x y:List UInt8):L1 (qbV op x y):=by
 unfold qbV;cases op<;>dsimp only<;>first|exact L1.no|exact L1.br _ L1.no (L1.ret _)|exact L1.b1 (xt _) λr=>L1.b1 (xt _) λr=>L1.b1 (xt _) λr=>L1.ret _|exact L1.b1 (xt _) λr=>L1.b1 (xt _) λr=>L1.ret _|exact L1.b1 (xt _) λr=>L1.ret _
theorem qBb(orc:Orc)(q:IntKind)(x:AV):L1 (cvK orc q x):=by
 unfold cvK;cases x<;>dsimp only<;>try exact L1.no
 all_goals simp_all[L1.ret,qhe]
theorem quv(orc:Orc)(op:BinOp)(x y:AV):L1 (xq orc op x y):=by
 unfold xq;cases x<;>dsimp only<;>try exact L1.no
 .cases y<;>dsimp only<;>try exact L1.no
  .cases op<;>dsimp only<;>first|exact qxw _ _ _ _|exact L1.wh _ (qth _ _ _ _)
  .exact qhe _
 .cases y<;>dsimp only<;>try exact L1.no
  .exact qt6 _ _ _
  .exact qhe _
 grind[qhe]
def qpv(q:NK)(x:AV):L1 (jm q x):=by unfold jm;cases q<;>cases x<;>dsimp only<;>first|exact L1.no|exact L1.ret _|exact L1.wh _ (L1.ret _)
def qsO(q:PK)(x y:AV):L1 (jN q x y):=by
 unfold jN;cases q<;>cases x<;>dsimp only<;>first|exact L1.no|(cases y<;>dsimp only<;>first|exact L1.no|exact L1.wh _ (xt _)|exact xt _)
def qlr:∀qs xs ys,L1 (jE qs xs ys)
 | [],_,_=>L1.ret _
 | q::qs,[],_=>L1.no
 | q::qs,_::_,[]=>L1.no
 | q::qs,x::xs,y::ys=>by
  show L1 (λk=>jN q x y (λe=>Bool.rec (motive:=λ_=>Prop) (k false) (jE qs xs ys k) e))
  exact L1.b1 (qsO q x y) λe=>L1.br e (L1.ret _) (qlr qs xs ys)
def qsq(op:UnOp)(x:AV):L1 (qeD op x):=by
 unfold qeD;cases op<;>cases x<;>dsimp only<;>first|exact L1.no|exact L1.b1 (qi7 _) λr=>L1.ret _|simp_all[L1.ret]
theorem qqr(h:Hp)(esz bytes:Nat)(c:Bool)(s x:AV):L2 (qhL h esz bytes c s x):=by
 unfold qhL;refine L2.b2 (qhj h esz x) λn new=>?_
 cases s<;>dsimp only<;>try exact L2.no
 .exact L2.wh _ (L2.wh _ (L2.b2 (qc0 _ _) λb h'=>L2.ret _ _))
 .rename_i b o len cap loose
  refine L2.br _ (L1.b2 (zl _) λneed=>L2.br _ (L2.wh _ (L2.wh _ (L1.b2 (qlT _ _ _ _) λold=>L1.b2 (qnN _ _) λcs=>L2.b2 (qc0 _ _) λb' h'=>L2.ret _ _))) ?_)
   (L1.b2 (zl _) λneed=>L2.wh _ (L2.wh _ (L2.wh _ (L4.b2 (qfa _ _) λe w a ys=>L2.wh _ (L2.wh _ (L2.wh _ (L2.wh _ (L1.b2 (qlV _) λq=>L2.wh _ (L1.b2 (qfF _ _) λzs=>L1.b2 (qnN _ _) λcs'=>L1.b2 (qoc _ _ _) λh1=>L2.b2 (qc0 _ _) λb' h'=>L2.ret _ _)))))))))
  cases n
  .exact L2.ret _ _
  simp_all[L1.b2,qqc,L2.ret]
 .cases n
  .exact L2.ret _ _
  .exact L2.no
 .exact L2.wh _ (L2.wh _ (L2.b2 (qc0 _ _) λb h'=>L2.ret _ _))
 .exact L1.b2 (zl _) λneed=>L2.wh _ (L2.wh _ (L2.wh _ (L4.b2 (qfa _ _) λe w a ys=>L2.wh _ (L2.wh _ (L2.wh _ (L2.wh _ (L1.b2 (qlV _) λq=>L2.wh _ (L1.b2 (qnN _ _) λcs'=>L1.b2 (qoc _ _ _) λh1=>L2.b2 (qc0 _ _) λb' h'=>L2.ret _ _))))))))
def qHg(h:Hp)(p:AV):L1 (ldV h p):=by
 unfold ldV;cases p<;>dsimp only<;>first|exact L1.no|exact qHe _ _ _|grind[qiF]
def qDj(h:Hp)(p:AV)(n:Nat):L1 (qkO h p n):=by
 unfold qkO;cases p<;>dsimp only<;>first|exact L1.no|exact qlT _ _ _ _|simp_all[L1.b1,qfF,qeC]
def qn6(p:AV)(n:Nat):L1 (qiC p n):=by
 unfold qiC;cases p<;>dsimp only<;>first|exact L1.no|exact L1.b1 (zl _) λo=>L1.ret _
def qIf(h:Hp)(esz:Nat)(d s:AV):L2 (qmR h esz d s):=by
 unfold qmR;cases d<;>dsimp only<;>try exact L2.no
 .simp_all[L2.b2,qhj,L2.ret]
 .exact L2.b2 (qhj _ _ _) λ_ _=>L1.b2 (zl _) λm=>L1.b2 (qeC _ _) λcs=>L1.b2 (qqc _ _ _ _) λh'=>L2.ret _ _
def qvm(h:Hp)(b esz:Nat)(c:Bool)(v:AV)(h':Hp):L2 (λk:AV->Hp->Prop=>qkK h b esz c (k v h')):=by
 cases c
 .exact L2.ret _ _
 .exact L4.b2 (qfa h b) λe _ _ _=>L2.wh _ (L2.ret _ _)

def qoI(t:Tr AV)(b:Nat)(ps:List Nat){G:(AV->Hp->Prop)->Prop}(hG:L2 G):L2 (λk=>xW t b ps (G k)):=by
 induction ps with
 | nil=>exact hG
 | cons q ps ih =>
  show L2 (λk=>evK t (.t q) (λy=>match y with | .ptr b' _=>qo (not (Nat.beq b' b)) (xW t b ps (G k)) | .pf _ _=>xW t b ps (G k)|_=>False))
  exact L1.b2 (qA t (.t q)) λy=>by cases y<;>dsimp only<;>first|exact L2.no|exact L2.wh _ ih|exact ih
def qxt(t:Tr AV)(ps:List Nat)(s:AV){G:(AV->Hp->Prop)->Prop}(hG:L2 G):L2 (λk=>qbi t ps s (G k)):=by
 unfold qbi;cases s<;>dsimp only<;>first|exact L2.no|exact hG|exact qoI _ _ _ hG
def qv8(orc:Orc)(kd:Option IntKind)(i:AV){G:(AV->Hp->Prop)->Prop}(hG:L2 G):L2 (λk=>qkN orc kd i (G k)):=by
 unfold qkN;cases i<;>dsimp only<;>try exact L2.no
 .cases kd<;>dsimp only
  all_goals simp_all[L2.no,L2.wh]
 .cases kd<;>dsimp only
  all_goals simp_all[L2.no]
 .cases kd<;>dsimp only
  all_goals simp_all[L1.b2,qhe,L2.no]
def qpx(orc:Orc)(x y:AV):L1 (qeT orc x y):=by
 unfold qeT;cases y<;>dsimp only<;>try exact L1.no
 .cases x<;>dsimp only<;>try exact L1.no
  exact L1.wh _ (xt _)
 .cases x<;>dsimp only<;>try exact L1.no
  .exact xt _
  simp_all[L1.b1,qhe,qxP]
def qrt(orc:Orc)(i:AV):∀es,L1 (qcA orc i es)
 | []=>L1.ret _
 | e::es=>by
  show L1 (λk=>qeT orc i e.1 (λr=>Bool.rec (motive:=λ_=>Prop) (qcA orc i es k) (k (some e.2)) r))
  exact L1.b1 (qpx orc i e.1) λr=>L1.br r (qrt orc i es) (L1.ret _)
def qxT(orc:Orc)(i v:AV):∀es,L1 (qhn orc i v es)
 | []=>L1.ret _
 | e::es=>by
  show L1 (λk=>qeT orc i e.1 (λr=>Bool.rec (motive:=λ_=>Prop) (qhn orc i v es (λl=>k (e::l))) (k ((i,v)::es)) r))
  exact L1.b1 (qpx orc i e.1) λr=>L1.br r (L1.b1 (qxT orc i v es) λl=>L1.ret _) (L1.ret _)
theorem qlP{es:List (AV×AV)}{p:Prop}:qeQ es p↔(∀e,es.head?=some e->e.1≠.undef/\∀r,e.1≠.lp r)/\p:=by
 unfold qeQ;cases es<;>grind
def qwr(h:Hp)(b:Nat):L1 (qka h b):=by
 unfold qka;refine λk hk=>?_
 obtain⟨x,h1,h2⟩:=(Tr.getK_iff _ _ _).1 hk;cases x<;>grind[qlP,Tr.getK_iff]
theorem qto{h:Hp}{b:Nat}{k:List UInt8->Nat->Prop}:qv4 h b k↔∃a n,h.tr.get b=some (.map (qeu a n))/\k a n:=by
 unfold qv4;rw[Tr.getK_iff];constructor
 .rintro⟨x,h1,h2⟩;cases x with
  | cells=>simp_all
  | dead=>simp_all
  | map es =>
   dsimp only at h2;split at h2
   .exact⟨_,_,h1,h2⟩
   simp_all
 .rintro⟨a,n,h1,h2⟩;exact⟨_,h1,h2⟩
def qIn(h:Hp)(b:Nat):L2 (qv4 h b):=λk hk=>by
 grind[qto]
def qun(ok:Bool)(zero:AV)(v:Option AV):L1 (qhK ok zero v):=by
 unfold qhK;cases v<;>cases ok<;>exact L1.ret _
theorem qtr(l:List (AV×AV))(k:Nat->Prop):qBm l k↔k l.length:=by
 have key:∀(l:List (AV×AV)) (n:Nat),(List.rec (motive:=λ_=>Nat->(Nat->Prop)->Prop) (λn k=>k n) (λ_ _ ih n k=>qw (Nat.succ n) (λm=>ih m k)) l n k:Prop)↔k (l.length+n):=by
  intro l
  induction l with
  | nil=>simp_all
  | cons x xs ih =>
   grind[qD]
 exact key l 0
def qIo(es:List (AV×AV)):L1 (qBm es):=λk h=>by grind[qtr]
def qHE(orc:Orc)(o:IOp)(t:Tr AV)(h:Hp):L2 (opK orc o t h):=by
 unfold opK;cases o<;>dsimp only
 case mov x=>exact L1.b2 (qA t x) λv=>L2.ret _ _
 case pick c x y=>exact L1.b2 (qA t c) λc=>L1.b2 (qxP c) λc=>L2.br _ (L1.b2 (qA t y) λv=>L2.ret _ _) (L1.b2 (qA t x) λv=>L2.ret _ _)
 case alloc z=>exact L2.b2 (qc0 _ _) λb h'=>L2.ret _ _
 case box x=>exact L1.b2 (qA t x) λv=>L2.wh _ (L2.b2 (qc0 _ _) λb h'=>L2.ret _ _)
 case build z ps=>exact L1.b2 (qi5 t ps z) λcs=>L2.ret _ _
 case buildS n z ps=>exact L1.b2 (qiJ z n) λcs=>L1.b2 (qi5 t ps cs) λcs=>L2.b2 (qc0 _ _) λb h'=>L2.ret _ _
 case load1 x=>exact L1.b2 (qA t x) λp=>L1.b2 (qHg _ _) λv=>L2.ret _ _
 case loadN n x=>exact L1.b2 (qA t x) λp=>L1.b2 (qDj _ _ _) λv=>L2.ret _ _
 case store n x v=>exact L1.b2 (qA t x) λp=>L2.b2 (qxR p) λb o=>L1.b2 (qA t v) λv=>L2.wh _ (L1.b2 (qlV _) λm=>L2.wh _ (L1.b2 (qqc _ _ _ _) λh'=>L2.ret _ _))
 case nilChk x=>exact L1.b2 (qA t x) λv=>by cases v<;>dsimp only<;>first|exact L2.no|exact L2.ret _ _
 case bin op x y=>exact L1.b2 (qA t x) λx=>L1.b2 (qA t y) λy=>L1.b2 (quv orc op x y) λv=>L2.ret _ _
 case eqN neg q x=>exact L1.b2 (qA t x) λx=>L1.b2 (qpv q x) λr=>L1.b2 (xt _) λr=>L2.ret _ _
 case eqA neg qs x y =>
  refine L1.b2 (qA t x) λx=>L1.b2 (qA t y) λy=>?_
  cases x<;>dsimp only<;>try exact L2.no
  cases y<;>dsimp only<;>try exact L2.no
  exact L1.b2 (qlr _ _ _) λr=>L1.b2 (xt _) λr=>L2.ret _ _
 case un op x=>exact L1.b2 (qA t x) λx=>L1.b2 (qsq op x) λv=>L2.ret _ _
 case cvInt q x=>exact L1.b2 (qA t x) λx=>L1.b2 (qBb orc q x) λr=>L2.ret _ _
 case fAddr off x=>exact L1.b2 (qA t x) λp=>L1.b2 (qn6 _ _) λv=>L2.ret _ _
 case fld off n x =>
  refine L1.b2 (qA t x) λx=>?_
  cases x<;>dsimp only<;>try exact L2.no
  cases n
  .exact L1.b2 (qiF _ _) λv=>L2.ret _ _
  .exact L1.b2 (qfF _ _) λl=>L1.b2 (qeC _ _) λl=>L2.ret _ _
 case iAddrA len esz x i=>exact L1.b2 (qA t x) λp=>L1.b2 (qA t i) λi=>L1.b2 (qfy i) λi=>L2.wh _ (L1.b2 (qn6 _ _) λv=>L2.ret _ _)
 case iAddrS esz x i =>
  refine L1.b2 (qA t x) λx=>?_
  cases x<;>dsimp only<;>try exact L2.no
  all_goals exact L1.b2 (qA t i) λi=>L1.b2 (qfy i) λi=>L2.wh _ (L1.b2 (zl _) λo'=>L2.ret _ _)
 case idxA len esz agg x i =>
  refine L1.b2 (qA t x) λx=>?_
  cases x<;>dsimp only<;>try exact L2.no
  exact L1.b2 (qA t i) λi=>L1.b2 (qfy i) λi=>L2.wh _ (L1.b2 (zl _) λo=>L2.br _ (L1.b2 (qiF _ _) λv=>L2.ret _ _) (L1.b2 (qfF _ _) λl=>L1.b2 (qeC _ _) λl=>L2.ret _ _))
 case idxS x i =>
  refine L1.b2 (qA t x) λx=>?_
  cases x<;>dsimp only<;>try exact L2.no
  rename_i s;refine L1.b2 (qA t i) λi=>L1.b2 (qfy i) λi=>?_
  cases s[i]?
  .exact L2.no
  .exact L2.ret _ _
 case slcS esz x lo hi mx =>
  refine L1.b2 (qA t x) λx=>L1.b2 (qkf t lo) λlo=>L1.b2 (qkf t hi) λhi=>L1.b2 (qkf t mx) λmx=>?_
  cases x<;>dsimp only<;>try exact L2.no
  .exact L3.b2 (qdj _ _ _ _ _) λ_ _ _=>L2.ret _ _
  .exact L3.b2 (qdj _ _ _ _ _) λl h' m=>L1.b2 (zl _) λo'=>L1.b2 (zl _) λlen'=>L1.b2 (zl _) λcap'=>qvm _ _ _ _ _ _
  .exact L3.b2 (qdj _ _ _ _ _) λl h' m=>L2.br _ (L1.b2 (qfF _ _) λl1=>L1.b2 (zl _) λlen'=>L1.b2 (qeC _ _) λl2=>L2.ret _ _) (L2.ret _ _)
  .exact L3.b2 (qdj _ _ _ _ _) λ_ _ _=>L2.ret _ _
  .rename_i b n;cases mx with
   | some _ =>
    cases n with
    | zero=>exact L3.b2 (qdj _ _ _ _ _) λ_ _ _=>L2.ret _ _
    | succ n=>exact L3.b2 (qdj _ _ _ _ _) λl h' m=>L1.b2 (zl _) λo'=>L1.b2 (zl _) λlen'=>L1.b2 (zl _) λcap'=>L2.ret _ _
   | none =>
    cases n with
    | zero=>exact L3.b2 (qdj _ _ _ _ _) λ_ _ _=>L2.ret _ _
    | succ n=>exact L3.b2 (qdj _ _ _ _ _) λl h' m=>L1.b2 (zl _) λo'=>L1.b2 (zl _) λlen'=>L1.b2 (zl _) λcap'=>qvm _ _ _ _ _ _
 case slcA len esz x lo hi mx =>
  exact L1.b2 (qA t x) λp=>L2.b2 (qxR p) λb o=>L1.b2 (qkf t lo) λlo=>L1.b2 (qkf t hi) λhi=>L1.b2 (qkf t mx) λmx =>
   L3.b2 (qdj _ _ _ _ _) λl h' m=>L1.b2 (zl _) λo'=>L1.b2 (zl _) λlen'=>L1.b2 (zl _) λcap'=>L2.ret _ _
 case ext x i =>
  refine L1.b2 (qA t x) λx=>?_
  cases x<;>dsimp only<;>try exact L2.no
  exact L1.b2 (qiF _ _) λv=>L2.ret _ _
 case mkF f a c=>exact L1.b2 (qiu t a) λa=>L1.b2 (qiu t c) λc=>L2.ret _ _
 case mkS esz bytes z len cap=>exact L1.b2 (qA t len) λlen=>L1.b2 (qA t cap) λcap=>L1.b2 (qfy len) λl=>L1.b2 (qfy cap) λc=>L2.wh _ (L2.wh _ (L2.wh _ (L1.b2 (qiJ z c) λcs=>L2.b2 (qc0 _ _) λb h'=>L2.ret _ _)))
 case len str x =>
  refine L1.b2 (qA t x) λx=>?_
  cases x<;>dsimp only<;>try exact L2.no
  .exact L2.br _ L2.no (L1.b2 (zl _) λn=>L2.ret _ _)
  .exact L2.br _ (L2.ret _ _) L2.no
  .exact L2.br _ (L2.ret _ _) L2.no
  .exact L2.br _ L2.no (L1.b2 (qhe _) λv=>L2.ret _ _)
  .exact L2.br _ (L2.ret _ _) L2.no
  .exact L2.br _ (L2.ret _ _) L2.no
  .exact L2.br _ (L2.ret _ _) L2.no
  .exact L2.br _ (L2.ret _ _) L2.no
 case app esz bytes c s x=>exact L1.b2 (qA t s) λs=>L1.b2 (qA t x) (by grind[qqr])
 case max x y=>exact L1.b2 (qA t x) λx=>L1.b2 (qA t y) λy=>L2.b2 (qkJ x) λq n=>L2.b2 (qkJ y) λ_ m=>L2.br _ (L2.ret _ _) (L2.ret _ _)
 case clear z x =>
  refine L1.b2 (qA t x) λx=>?_
  cases x<;>dsimp only<;>try exact L2.no
  .exact L2.ret _ _
  .rename_i b o n _ _;cases n
   .exact L2.ret _ _
   .rename_i n;show L2 (λk=>qjD z (n+1) (λcs=>stK h b o cs (λh'=>k (AV.tup []) h')))
    exact L1.b2 (qiJ z (n+1)) λcs=>L1.b2 (qqc _ _ _ _) λh'=>L2.ret _ _
 case mkM=>exact L2.b2 (qc0 _ _) λb h'=>L2.ret _ _
 case lookM kd ok z x i =>
  refine L1.b2 (qA t x) λx=>L1.b2 (qA t i) λi=>qv8 orc kd i ?_
  cases x<;>dsimp only<;>try exact L2.no
  .exact L1.b2 (qun _ _ _) λv=>L2.ret _ _
  .exact L1.b2 (qwr _ _) λes=>L1.b2 (qrt _ _ _) λv=>L1.b2 (qun _ _ _) λv=>L2.ret _ _
 case updM kd x i v =>
  refine L1.b2 (qA t x) λx=>L1.b2 (qA t i) λi=>L1.b2 (qA t v) λv=>qv8 orc kd i ?_
  cases x<;>dsimp only<;>try exact L2.no
  exact L1.b2 (qwr _ _) λes=>L1.b2 (qxT _ _ _ _) λes'=>L1.b2 (qoc _ _ _) λh'=>L2.ret _ _
 case min x y=>exact L1.b2 (qA t x) λx=>L1.b2 (qA t y) λy=>L2.b2 (qkJ x) λq n=>L2.b2 (qkJ y) λ_ m=>L2.br _ (L2.ret _ _) (L2.ret _ _)
 case cap x =>
  refine L1.b2 (qA t x) λx=>?_
  cases x<;>dsimp only<;>try exact L2.no
  .exact L2.ret _ _
  .exact L2.br _ (L2.ret _ _) L2.no
  .exact L2.ret _ _
 case storeD n x v ps=>exact L1.b2 (qA t x) λp=>L2.b2 (qxR p) λb o=>qoI _ _ _ (L1.b2 (qA t v) λv=>L2.wh _ (L1.b2 (qlV _) λm=>L2.wh _ (L1.b2 (qqc _ _ _ _) λh'=>L2.ret _ _)))
 case appD esz bytes s x ps=>exact L1.b2 (qA t s) λs=>L1.b2 (qA t x) λx=>qxt _ _ _ (qqr _ _ _ _ _ _)
 case appZ esz bytes z s x =>
  refine L1.b2 (qA t s) λs=>L1.b2 (qA t x) λx=>L1.b2 (qfy x) λn=>?_
  cases s<;>dsimp only<;>try exact L2.no
  .exact L2.wh _ (L2.wh _ (L2.wh _ (L1.b2 (qiJ z n) λnew=>L2.b2 (qc0 _ _) λb h'=>L2.ret _ _)))
  rename_i b o len cap loose;exact L2.wh _ (L2.wh _ (L2.wh _ (L2.wh _ (L1.b2 (qlT _ _ _ _) λold=>L1.b2 (qiJ z n) λnew=>L1.b2 (qnN old new) λcs=>L2.b2 (qc0 _ _) λb h'=>L2.ret _ _))))
 all_goals simp_all[L1.b2,qA,qqr,L2.no]

def LC(C:zI):Prop:=∀f vs h,L2 (C f vs h)
theorem qxl{F:Hp->(AV->Hp->Prop)->Prop}(hF:∀h,L2 (F h))(h:Hp):L2 (qhh F h):=by
 cases h with
 | mk sz fl tr =>
  intro k hk;obtain⟨v,h',h1,h2⟩:=hF ⟨sz,sz,tr⟩ _ hk;cases h' with
  | mk sz' fl' tr'=>exact⟨v,⟨sz',fl,tr'⟩,h1,λk' hk'=>h2 (λv h'=>Hp.rec (motive:=λ_=>Prop) (λsz' _ tr'=>k' v ⟨sz',fl,tr'⟩) h') hk'⟩
theorem qsg(orc:Orc){C:zI}(hi:LC C)(r:RK)(t:Tr AV)(h:Hp):L2 (qcJ orc C r t h):=by
 cases r with
 | op o=>exact qHE orc o t h
 | callF f args=>exact L1.b2 (qiu t args) λvs=>hi (Nat.succ f) vs h
 | callV x args =>
  refine L1.b2 (qA t x) λg=>L1.b2 (qiu t args) λvs=>?_
  cases g<;>first|exact L2.no|exact hi _ _ _
 | callW f args=>exact L1.b2 (qiu t args) λvs=>hi (Nat.succ f) vs h
 | callVW x args =>
  refine L1.b2 (qA t x) λg=>L1.b2 (qiu t args) λvs=>?_
  cases g<;>first|exact L2.no|exact hi _ _ _
def qEK(orc:Orc)(draw:Bool){C:zI}(hi:LC C)(r:RK)(t:Tr AV)(h:Hp):L2 (qiK orc draw C r t h) :=
 L2.br _ (by grind[qsg]) (by grind[qxl,qsg])
def qvL(t:Tr AV)(g:Option (Nat×Bool)):L1 (qaV t g):=by
 cases g with
 | none=>exact L1.ret _
 | some g =>
  show L1 (λk=>t.getK g.1 (λv=>match v with
   | .b x=>qT (x==g.2) k
   | .tup _=>k false
   | _=>False))
  refine L1.b1 (qqK t g.1) λv=>?_
  cases v<;>dsimp only<;>first|exact L1.no|exact xt _|exact L1.ret _
def qvd(t:Tr AV)(d:Option Nat)(v:AV):L1 (qap t d v):=by
 cases d
 .exact L1.ret _
 .exact qq0 _ _ _

structure Loc where
 blk:Nat
 off:Nat
 size:Nat
 esz:Nat
structure Fz where
 φ:Nat->Option (Array Value)
 ok:∀k a,tab k=some a->φ k=some a
instance:Coe Fz (Nat->Option (Array Value)):=⟨Fz.φ⟩
instance:CoeFun Fz (λ_=>Nat->Option (Array Value)):=⟨Fz.φ⟩
structure Ren where
 loc:Nat->Option Loc
 frz:Fz
 n:Nat
instance:CoeFun Ren (λ_=>Nat->Option Loc):=⟨Ren.loc⟩
def Ren.le(Z Z':Ren):Prop:=(∀b L,Z b=some L->Z' b=some L)/\(∀k a,Z.frz k=some a->Z'.frz k=some a)/\Z.n<=Z'.n
def Ren.le_trans{a b c:Ren}(h:a.le b)(h':b.le c):a.le c:=⟨λx L hx=>h'.1 x L (h.1 x L hx),λk y hk=>h'.2.1 k y (h.2.1 k y hk),Nat.le_trans h.2.2 h'.2.2⟩

mutual
inductive CR (σ:Nat->Value) (φ:Nat->Option (Array Value)):AV->Value->Prop where
 | undef (v:Value):CR σ φ .undef v
 | b (x:Bool):CR σ φ (.b x) (.bool x)
 | i (k:IntKind) (n:Int):CR σ φ (.i k n) (.int k n)
 | s (x:List UInt8):CR σ φ (.s x) (.string ⟨x.toArray⟩)
 | nilp:CR σ φ .nilp (.pointer none)
 | nils:CR σ φ .nils (.slice none 0 0)
 | nilf:CR σ φ .nilf .nilFunc
 | fn (f:Nat) (first cap:List AV) (first' cap':Array Value) (h1:CRs σ φ first first'.toList) (h2:CRs σ φ cap cap'.toList):CR σ φ (.fn f first cap) (.func (.func f) first' cap')
 | nili:CR σ φ .nili .nilIface
 | ifc (t:Nat) (v:AV) (v':Value) (h:CR σ φ v v'):CR σ φ (.ifc t v) (.iface t v')
 | agg (cs:List AV) (cs':Array Value) (h:CRs σ φ cs cs'.toList):CR σ φ (.agg cs) (.agg cs')
 | tup (cs:List AV) (cs':Array Value) (h:CRs σ φ cs cs'.toList):CR σ φ (.tup cs) (.tuple cs')
 | nilm:CR σ φ .nilm (.map none)
 | sym (j:Nat):CR σ φ (.sym j) (σ j)
 | fz (n off c:Nat) (cs:List AV) (k:Nat) (arr:Array Value) (hn:n<=c) (h:φ k=some arr) (hs:CRs σ φ cs ((arr.toList.drop off).take cs.length)):CR σ φ (.fz n cs) (.slice (some ⟨k,off,none⟩) n c)
 | fz0 (a:Option Addr):CR σ φ (.fz 0 []) (.slice a 0 0)
 | pf (off base:Nat) (cs:List AV) (k:Nat) (arr:Array Value) (h:φ k=some arr) (hs:CRs σ φ cs ((arr.toList.drop base).take cs.length)):CR σ φ (.pf cs off) (.pointer (some ⟨k,base+off,none⟩))
 | e0 (a:Option Addr):CR σ φ .e0 (.slice a 0 0)
 | nz (a:Addr) (c:Nat):CR σ φ .nz (.slice (some a) 0 c)
inductive CRs (σ:Nat->Value) (φ:Nat->Option (Array Value)):List AV->List Value->Prop where
 | nil:CRs σ φ [] []
 | cons (v:AV) (vs:List AV) (v':Value) (vs':List Value) (h:CR σ φ v v') (hs:CRs σ φ vs vs'):CRs σ φ (v::vs) (v'::vs')
end
mutual
theorem CR.mono{σ:Nat->Value}{φ φ':Nat->Option (Array Value)}(hφ:∀k a,φ k=some a->φ' k=some a):∀{a:AV} {v:Value},CR σ φ a v->CR σ φ' a v
 | _,_,.undef v=>.undef v
 | _,_,.b x=>.b x
 | _,_,.i k n=>.i k n
 | _,_,.s x=>.s x
 | _,_,.nilp=>.nilp
 | _,_,.nils=>.nils
 | _,_,.nilf=>.nilf
 | _,_,.fn f first cap first' cap' h1 h2=>.fn f first cap first' cap' (h1.mono hφ) (h2.mono hφ)
 | _,_,.nili=>.nili
 | _,_,.ifc t v v' h=>.ifc t v v' (h.mono hφ)
 | _,_,.agg cs cs' h=>.agg cs cs' (h.mono hφ)
 | _,_,.tup cs cs' h=>.tup cs cs' (h.mono hφ)
 | _,_,.nilm=>.nilm
 | _,_,.sym j=>.sym j
 | _,_,.fz n off c cs k arr hn h hs=>.fz n off c cs k arr hn (hφ k arr h) (hs.mono hφ)
 | _,_,.fz0 a=>.fz0 a
 | _,_,.pf off base cs k arr h hs=>.pf off base cs k arr (hφ k arr h) (hs.mono hφ)
 | _,_,.e0 a=>.e0 a
 | _,_,.nz a c=>.nz a c
theorem CRs.mono{σ:Nat->Value}{φ φ':Nat->Option (Array Value)}(hφ:∀k a,φ k=some a->φ' k=some a):∀{a:List AV} {v:List Value},CRs σ φ a v->CRs σ φ' a v
 | _,_,.nil=>.nil
 | _,_,.cons v vs v' vs' h hs=>.cons v vs v' vs' (h.mono hφ) (hs.mono hφ)
end
def CRs.length{σ:Nat->Value}{φ:Nat->Option (Array Value)}{zy:List AV}{vs:List Value}(h:CRs σ φ zy vs):zy.length=vs.length:=by
 induction zy generalizing vs with
 | nil=>cases h;rfl
 | cons a zy ih=>cases h<;>grind

mutual
inductive VR (σ:Nat->Value) (Z:Ren):AV->Value->Prop where
 | undef (v:Value):VR σ Z .undef v
 | b (x:Bool):VR σ Z (.b x) (.bool x)
 | i (k:IntKind) (n:Int):VR σ Z (.i k n) (.int k n)
 | s (x:List UInt8):VR σ Z (.s x) (.string ⟨x.toArray⟩)
 | nilp:VR σ Z .nilp (.pointer none)
 | ptr (b o:Nat) (L:Loc) (h:Z b=some L):VR σ Z (.ptr b o) (.pointer (some ⟨L.blk,L.off+o,none⟩))
 | nils:VR σ Z .nils (.slice none 0 0)
 | sl (b o len cap c:Nat) (loose:Bool) (L:Loc) (h:Z b=some L)
   (hc:c=cap\/(loose=true/\cap<=c/\L.off+o+c*L.esz<=L.size)):VR σ Z (.sl b o len cap loose) (.slice (some ⟨L.blk,L.off+o,none⟩) len c)
 | slz (b o x:Nat) (l:Bool) (L:Loc) (h:Z b=some L):VR σ Z (.sl b o 0 0 l) (.slice (some ⟨L.blk,x,none⟩) 0 0)
 | nilf:VR σ Z .nilf .nilFunc
 | fn (f:Nat) (first cap:List AV) (first' cap':Array Value) (h1:VRs σ Z first first'.toList) (h2:VRs σ Z cap cap'.toList):VR σ Z (.fn f first cap) (.func (.func f) first' cap')
 | nili:VR σ Z .nili .nilIface
 | ifc (t:Nat) (v:AV) (v':Value) (h:VR σ Z v v'):VR σ Z (.ifc t v) (.iface t v')
 | agg (cs:List AV) (cs':Array Value) (h:VRs σ Z cs cs'.toList):VR σ Z (.agg cs) (.agg cs')
 | tup (cs:List AV) (cs':Array Value) (h:VRs σ Z cs cs'.toList):VR σ Z (.tup cs) (.tuple cs')
 | nilm:VR σ Z .nilm (.map none)
 | map (b:Nat) (L:Loc) (h:Z b=some L) (h0:L.off=0):VR σ Z (.map b) (.map (some L.blk))
 | sym (j:Nat):VR σ Z (.sym j) (σ j)
 | fz (n off c:Nat) (cs:List AV) (k:Nat) (arr:Array Value) (hn:n<=c) (h:Z.frz k=some arr) (hs:CRs σ Z.frz cs ((arr.toList.drop off).take cs.length)):VR σ Z (.fz n cs) (.slice (some ⟨k,off,none⟩) n c)
 | fz0 (a:Option Addr):VR σ Z (.fz 0 []) (.slice a 0 0)
 | pf (off base:Nat) (cs:List AV) (k:Nat) (arr:Array Value) (h:Z.frz k=some arr) (hs:CRs σ Z.frz cs ((arr.toList.drop base).take cs.length)):VR σ Z (.pf cs off) (.pointer (some ⟨k,base+off,none⟩))
 | e0 (a:Option Addr):VR σ Z .e0 (.slice a 0 0)
 | nz (a:Addr) (c:Nat):VR σ Z .nz (.slice (some a) 0 c)
 | own0 (b:Nat) (a:Option Addr) (hb:b<Z.n):VR σ Z (.own b 0) (.slice a 0 0)
 | own (b n c:Nat) (L:Loc) (h:Z b=some L) (hn:n<=c) (hc:L.off+c*L.esz<=L.size):VR σ Z (.own b n) (.slice (some ⟨L.blk,L.off,none⟩) n c)
 | yl (b:Nat) (L:Loc) (h:Z b=some L):VR σ Z (.yl b) (.func (.yield L.blk) #[] #[])
inductive VRs (σ:Nat->Value) (Z:Ren):List AV->List Value->Prop where
 | nil:VRs σ Z [] []
 | cons (v:AV) (vs:List AV) (v':Value) (vs':List Value) (h:VR σ Z v v') (hs:VRs σ Z vs vs'):VRs σ Z (v::vs) (v'::vs')
end

variable {σ:Nat->Value} {Z Z':Ren}

mutual
theorem VR.mono(hZ:Z.le Z'):∀{a:AV} {v:Value},VR σ Z a v->VR σ Z' a v
 | _,_,.undef v=>.undef v
 | _,_,.b x=>.b x
 | _,_,.i k n=>.i k n
 | _,_,.s x=>.s x
 | _,_,.nilp=>.nilp
 | _,_,.ptr b o L h=>.ptr b o L (hZ.1 b L h)
 | _,_,.nils=>.nils
 | _,_,.sl b o len cap c loose L h hc=>.sl b o len cap c loose L (hZ.1 b L h) hc
 | _,_,.slz b o x l L h=>.slz b o x l L (hZ.1 b L h)
 | _,_,.nilf=>.nilf
 | _,_,.fn f first cap first' cap' h1 h2=>.fn f first cap first' cap' (h1.mono hZ) (h2.mono hZ)
 | _,_,.nili=>.nili
 | _,_,.ifc t v v' h=>.ifc t v v' (h.mono hZ)
 | _,_,.agg cs cs' h=>.agg cs cs' (h.mono hZ)
 | _,_,.tup cs cs' h=>.tup cs cs' (h.mono hZ)
 | _,_,.nilm=>.nilm
 | _,_,.map b L h h0=>.map b L (hZ.1 b L h) h0
 | _,_,.sym j=>.sym j
 | _,_,.fz n off c cs k arr hn h hs=>.fz n off c cs k arr hn (hZ.2.1 k arr h) (hs.mono hZ.2.1)
 | _,_,.fz0 a=>.fz0 a
 | _,_,.pf off base cs k arr h hs=>.pf off base cs k arr (hZ.2.1 k arr h) (hs.mono hZ.2.1)
 | _,_,.e0 a=>.e0 a
 | _,_,.nz a c=>.nz a c
 | _,_,.own0 b a hb=>.own0 b a (Nat.lt_of_lt_of_le hb hZ.2.2)
 | _,_,.own b n c L h hn hc=>.own b n c L (hZ.1 b L h) hn hc
 | _,_,.yl b L h=>.yl b L (hZ.1 b L h)
theorem VRs.mono(hZ:Z.le Z'):∀{a:List AV} {v:List Value},VRs σ Z a v->VRs σ Z' a v
 | _,_,.nil=>.nil
 | _,_,.cons v vs v' vs' h hs=>.cons v vs v' vs' (h.mono hZ) (hs.mono hZ)
end

def VRs.length{zy:List AV}{vs:List Value}(h:VRs σ Z zy vs):zy.length=vs.length:=by
 induction zy generalizing vs with
 | nil=>cases h;rfl
 | cons a zy ih=>cases h<;>grind
theorem VRs.get{zy:List AV}{vs:List Value}(h:VRs σ Z zy vs){j:Nat}{a:AV}(ha:zy[j]?=some a):∃v,vs[j]?=some v/\VR σ Z a v:=by
 induction zy generalizing vs j with
 | nil=>grind
 | cons x xs ih =>
  cases h<;>grind
theorem VRs.of_get{zy:List AV}{vs:List Value}(hl:zy.length=vs.length)(h:∀(j:Nat) a,zy[j]?=some a->∃v,vs[j]?=some v/\VR σ Z a v):VRs σ Z zy vs:=by
 induction zy generalizing vs with
 | nil => cases vs with
          | nil=>exact .nil
          | cons=>grind
 | cons x xs ih =>
  cases vs with
  | nil=>grind
  | cons v vs =>
   obtain⟨v',hv,hr⟩:=h 0 x rfl;simp at hv;subst hv;exact .cons _ _ _ _ hr (ih (by simp_all) λj a ha=>by simpa using h (j+1) a (by simp_all))
def VRs.append{zy bs:List AV}{vs us:List Value}(h:VRs σ Z zy vs)(h':VRs σ Z bs us):VRs σ Z (zy++bs) (vs++us):=by
 induction zy generalizing vs with
 | nil=>cases h;exact h'
 | cons a zy ih=>cases h with|cons _ _ _ _ h hs=>exact .cons _ _ _ _ h (ih hs)
def VRs.take{zy:List AV}{vs:List Value}(h:VRs σ Z zy vs)(n:Nat):VRs σ Z (zy.take n) (vs.take n):=by
 induction zy generalizing vs n with
 | nil=>cases h;simp;exact .nil
 | cons a zy ih => cases h with | cons _ _ _ _ h hs => cases n with
                                                       | zero=>grind
                                                       | succ n=>exact .cons _ _ _ _ h (ih hs n)
def VRs.drop{zy:List AV}{vs:List Value}(h:VRs σ Z zy vs)(n:Nat):VRs σ Z (zy.drop n) (vs.drop n):=by
 induction zy generalizing vs n with
 | nil=>cases h;simp;exact .nil
 | cons a zy ih => cases h with | cons _ _ _ _ h hs => cases n with
                                                       | zero=>exact .cons _ _ _ _ h hs
                                                       | succ n=>simp_all

mutual
theorem CR.vr:∀{a:AV} {v:Value},CR σ Z.frz a v->VR σ Z a v
 | _,_,.undef v=>.undef v
 | _,_,.b x=>.b x
 | _,_,.i k n=>.i k n
 | _,_,.s x=>.s x
 | _,_,.nilp=>.nilp
 | _,_,.nils=>.nils
 | _,_,.nilf=>.nilf
 | _,_,.fn f first cap first' cap' h1 h2=>.fn f first cap first' cap' h1.vr h2.vr
 | _,_,.nili=>.nili
 | _,_,.ifc t v v' h=>.ifc t v v' h.vr
 | _,_,.agg cs cs' h=>.agg cs cs' h.vr
 | _,_,.tup cs cs' h=>.tup cs cs' h.vr
 | _,_,.nilm=>.nilm
 | _,_,.sym j=>.sym j
 | _,_,.fz n off c cs k arr hn h hs=>.fz n off c cs k arr hn h hs
 | _,_,.fz0 a=>.fz0 a
 | _,_,.pf off base cs k arr h hs=>.pf off base cs k arr h hs
 | _,_,.e0 a=>.e0 a
 | _,_,.nz a c=>.nz a c
theorem CRs.vr:∀{a:List AV} {v:List Value},CRs σ Z.frz a v->VRs σ Z a v
 | _,_,.nil=>.nil
 | _,_,.cons v vs v' vs' h hs=>.cons v vs v' vs' h.vr hs.vr
end
theorem CRs.get{φ:Nat->Option (Array Value)}{zy:List AV}{vs:List Value}(h:CRs σ φ zy vs){j:Nat}{a:AV}(ha:zy[j]?=some a):∃v,vs[j]?=some v/\CR σ φ a v:=by
 induction zy generalizing vs j with
 | nil=>grind
 | cons x xs ih =>
  cases h<;>grind
def CRs.take{φ:Nat->Option (Array Value)}{zy:List AV}{vs:List Value}(h:CRs σ φ zy vs)(n:Nat):CRs σ φ (zy.take n) (vs.take n):=by
 induction zy generalizing vs n with
 | nil=>cases h;simp;exact .nil
 | cons a zy ih => cases h with | cons _ _ _ _ h hs => cases n with
                                                       | zero=>grind
                                                       | succ n=>exact .cons _ _ _ _ h (ih hs n)
def CRs.drop{φ:Nat->Option (Array Value)}{zy:List AV}{vs:List Value}(h:CRs σ φ zy vs)(n:Nat):CRs σ φ (zy.drop n) (vs.drop n):=by
 induction zy generalizing vs n with
 | nil=>cases h;simp;exact .nil
 | cons a zy ih => cases h with | cons _ _ _ _ h hs => cases n with
                                                       | zero=>exact .cons _ _ _ _ h hs
                                                       | succ n=>simp_all

def qbk(σ:Nat->Value)(Z:Ren)(es:List (AV×AV))(vs:List MapEntry):Prop :=
 es.length=vs.length/\∀(j:Nat) (e:AV×AV),es[j]?=some e->∃v:MapEntry,vs[j]?=some v/\VR σ Z e.1 v.key/\VR σ Z e.2 v.val

def qqm(es:List (AV×AV)):Prop:=∀e,es.head?=some e->e.1≠.undef/\∀r,e.1≠.lp r
class Cur where
 ok:Nat->Loop->Prop
 st:∀{j:Nat} {r:Loop} (s:LoopState) (p:Option Code),ok j r->ok j { r with state:=s,pending:=p }
instance cur:Cur:=⟨λ_ _=>False,λ_ _ h=>h⟩
def qe4(r r':Loop):Prop:=(r'=r/\∀j,r.assign≠.goto j)\/∃j,r.assign = .goto j/\Cur.ok j r'/\r'.state=r.state/\r'.pending=r.pending
def qe4.state{r r':Loop}(h:qe4 r r'):r'.state=r.state:=by
 rcases h with⟨rfl,_⟩|⟨_,_,_,h,_⟩
 all_goals grind
def qe4.pending{r r':Loop}(h:qe4 r r'):r'.pending=r.pending:=by
 rcases h with⟨rfl,_⟩|⟨_,_,_,_,h⟩
 all_goals grind
def qe4.set{r r':Loop}(h:qe4 r r')(s:LoopState)(p:Option Code):qe4 { r with state:=s,pending:=p } { r' with state:=s,pending:=p }:=by
 rcases h with⟨rfl,h0⟩|⟨j,h1,h2,_,_⟩
 .exact .inl ⟨rfl,h0⟩
 .exact .inr (by grind[Cur.st])
def qcu(σ:Nat->Value)(Z:Ren)(es:List (AV×AV))(o:Obj):Prop :=
 (qqm es/\∃vs clk,o = .map vs clk/\qbk σ Z es vs.toList)\/(∃a n,es=qeu a n/\o = .stringIter ⟨a.toArray⟩ n) \/
 ∃r r' ts,es=zz r ts/\o = .loop r'/\qe4 r r'/\∀p ∈ ts,p.1<r'.tmps.size/\VR σ Z p.2 (r'.tmps.getD p.1 undef)
theorem qcu.mono(hZ:Z.le Z'){es:List (AV×AV)}{o:Obj}(h:qcu σ Z es o):qcu σ Z' es o:=by
 rcases h with⟨h0,vs,clk,h1,h2,h3⟩|h|⟨r,r',ts,h1,h2,h4,h3⟩
 .exact .inl ⟨h0,vs,clk,h1,h2,by grind[VR.mono]⟩
 .exact .inr (.inl h)
 .exact .inr (by grind[VR.mono])
def qcu.map{es:List (AV×AV)}{o:Obj}(h:qcu σ Z es o)(hn:qqm es):∃vs clk,o = .map vs clk/\qbk σ Z es vs.toList:=by
 rcases h with⟨_,h⟩|⟨a,n,rfl,_⟩|⟨r,_,ts,rfl,_⟩
 .exact h
 .exact absurd rfl (hn _ rfl).1
 .exact absurd rfl ((hn _ rfl).2 r)
theorem qpX{r r':Loop}{ts ts':List (Nat×AV)}(h:zz r ts=zz r' ts'):r=r'/\ts=ts':=by
 simp only[zz,List.cons.injEq,Prod.mk.injEq,AV.lp.injEq,and_true]at h;refine⟨h.1,?_⟩;have h2:=h.2;clear h
 induction ts generalizing ts' with
 | nil=>simp_all
 | cons p ts ih =>
  cases ts'<;>grind
def qcu.rec'{r:Loop}{ts:List (Nat×AV)}{o:Obj}(h:qcu σ Z (zz r ts) o):∃r',o = .loop r'/\qe4 r r'/\∀p ∈ ts,p.1<r'.tmps.size/\VR σ Z p.2 (r'.tmps.getD p.1 undef):=by
 rcases h with⟨h,_⟩|⟨a',n',h1,h2⟩|⟨r',r'',ts',h1,h2,h4,h3⟩
 .exact absurd rfl ((h _ rfl).2 r)
 .simp[qeu,zz]at h1
 grind[qpX]
def qcu.notCells{es:List (AV×AV)}{c:Array Value}{ty:TypeId}{fz:Nat×Nat}(h:qcu σ Z es (.cells c ty fz)):False:=by
 rcases h with⟨_,_,_,h,_⟩|⟨_,_,_,h⟩|⟨_,_,_,_,h,_⟩<;>cases h

structure Rel (σ:Nat->Value) (Z:Ren) (B:Nat->Prop) (h:Hp) (w:World):Prop where
 dom:∀b L,Z b=some L->b<h.sz
 cells:∀b L e wf af cs,Z b=some L->h.tr.get b=some (.cells e wf af cs)->L.esz=e/\∃c ty fz,w.heap[L.blk]?=some (.cells c ty fz)/\c.size=L.size/\L.off+cs.length<=L.size /\
  (∀j v,cs[j]?=some v->∃v',c[L.off+j]?=some v'/\VR σ Z v v')/\((wf||af)=true->∀j,(j<L.size\/(e=0/\j=L.size))->¬(fz.1<=j/\j<fz.2))
 maps:∀b L es,Z b=some L->h.tr.get b=some (.map es)->L.off=0/\∃o,w.heap[L.blk]?=some o/\qcu σ Z es o
 excl:∀b L e af cs,Z b=some L->h.tr.get b=some (.cells e true af cs)->∀b' L' x,Z b'=some L'->h.tr.get b'=some x->x≠.dead->L'.blk=L.blk->b'=b
 exclm:∀b L es,Z b=some L->h.tr.get b=some (.map es)->∀b' L' x,Z b'=some L'->h.tr.get b'=some x->x≠.dead->L'.blk=L.blk->b'=b
 app:∀b L e wf cs,Z b=some L->h.tr.get b=some (.cells e wf true cs)->∀b' L' e' wf' af' cs',Z b'=some L'->h.tr.get b'=some (.cells e' wf' af' cs')->L'.blk=L.blk->L'.off+cs'.length<=L.off+cs.length/\(af'=true->b'=b)
 flr:∀b L,Z b=some L->h.fl<=b->¬B L.blk
 base:∀k,B k->k<w.heap.size
 frz:∀k arr,Z.frz k=some arr->(∃ty fz,w.heap[k]?=some (.cells arr ty fz))/\∀b L x,Z b=some L->h.tr.get b=some x->x≠.dead->L.blk≠k
 dn:Z.n<=h.sz/\∀b L,Z b=some L->L.blk<w.heap.size

abbrev low (n:Nat):Nat->Prop:=λk=>k<n
def qaA{B:Nat->Prop}{n:Nat}(h:∀k,B k->k<n){k:Nat}(hk:n<=k):¬B k:=by grind
def qfB{B:Nat->Prop}{n m:Nat}(h:∀k,B k->k<n)(hs:n<=m):∀k,B k->k<m:=(by grind)
structure Kept (Z:Ren) (B:Nat->Prop) (h:Hp) (w:World) (Z':Ren) (h':Hp) (w':World):Prop where
 ext:∀b,b<h.sz->Z' b=Z b
 szle:h.sz<=h'.sz
 fl:h'.fl=h.fl
 akeep:∀b,b<h.fl->b<h.sz->h'.tr.get b=h.tr.get b
 pres:∀k,B k->w'.heap[k]?=w.heap[k]?
 wle:w.heap.size<=w'.heap.size
 io:w'.os=w.os/\w'.output=w.output
 frz:∀k a,Z.frz k=some a->Z'.frz k=some a
 fnew:∀k a,Z'.frz k=some a->Z.frz k=some a\/¬B k
 nle:Z.n<=Z'.n

theorem Kept.refl(Z:Ren)(B:Nat->Prop)(h:Hp)(w:World):Kept Z B h w Z h w :=
 ⟨λ_ _=>rfl,zzL _,rfl,λ_ _ _=>rfl,λ_ _=>rfl,zzL _,⟨rfl,rfl⟩,λ_ _ h=>h,λ_ _ h=>.inl h,zzL _⟩
theorem Kept.trans{Z Z1 Z2:Ren}{B:Nat->Prop}{h h1 h2:Hp}{w w1 w2:World}(k1:Kept Z B h w Z1 h1 w1)(k2:Kept Z1 B h1 w1 Z2 h2 w2):Kept Z B h w Z2 h2 w2 :=
 ⟨λb hb=>(k2.ext b (Nat.lt_of_lt_of_le hb k1.szle)).trans (k1.ext b hb),Nat.le_trans k1.szle k2.szle,k2.fl.trans k1.fl,
  λb hb hb'=>(k2.akeep b (k1.fl ▸ hb) (Nat.lt_of_lt_of_le hb' k1.szle)).trans (k1.akeep b hb hb'),λk hk=>(k2.pres k hk).trans (k1.pres k hk),Nat.le_trans k1.wle k2.wle,⟨k2.io.1.trans k1.io.1,k2.io.2.trans k1.io.2⟩,by grind[Kept.frz],by grind[Kept.fnew],Nat.le_trans k1.nle k2.nle⟩
theorem Kept.mono{B:Nat->Prop}{h h':Hp}{w w':World}(k:Kept Z B h w Z' h' w')(hd:∀b L,Z b=some L->b<h.sz):Z.le Z' :=
 ⟨by grind[Kept.ext],k.frz,k.nle⟩

def Rel.heap{B:Nat->Prop}{h:Hp}{w w':World}(r:Rel σ Z B h w)(e:w'.heap=w.heap):Rel σ Z B h w' :=
 ⟨r.dom,by rw[e];exact r.cells,by rw[e];exact r.maps,r.excl,r.exclm,r.app,r.flr,by rw[e];exact r.base,by rw[e];exact r.frz,by rw[e];exact r.dn⟩
def Ren.add(Z:Ren)(b:Nat)(L:Loc):Ren:=⟨λx=>if x=b then some L else Z x,Z.frz,max Z.n (b+1)⟩
noncomputable def Hp.push(h:Hp)(x:Blk):Hp:=⟨Nat.succ h.sz,h.fl,h.tr.set h.sz x⟩
noncomputable def Hp.put(h:Hp)(b:Nat)(x:Blk):Hp:=⟨h.sz,h.fl,h.tr.set b x⟩

theorem z7(h:Hp)(x:Blk)(k:Nat->Hp->Prop):jz h x k↔k h.sz (h.push x):=by
 cases h;simp only[jz,Tr.setK_iff,qD];exact Iff.rfl
theorem qaC(h:Hp)(b:Nat)(x:Blk)(k:Hp->Prop):qdo h b x k↔h.fl<=b/\k (h.put b x):=by
 cases h with
 | mk sz fl tr =>
  show(Bool.rec (motive:=λ_=>Prop) False (tr.setK b x (λtr'=>k ⟨sz,fl,tr'⟩)) (Nat.ble fl b):Prop)↔_
  rw[qe7]
  by_cases hb:fl<=b
  .simp only[hb,decide_true];rw[Tr.setK_iff];simp;exact Iff.rfl
  .simp[hb]
def zk(h:Hp)(b:Nat)(k:Nat->Bool->Bool->List AV->Prop):qar h b k↔∃e w a cs,h.tr.get b=some (.cells e w a cs)/\k e w a cs:=by
 simp only[qar,Tr.getK_iff];constructor
 .rintro⟨v,hv,hk⟩;cases v with
  | cells e w a cs=>exact by grind
  | dead=>exact hk.elim
  | map es=>exact hk.elim
 grind

def Rel.fresh{B:Nat->Prop}{h:Hp}{w w':World}(r:Rel σ Z B h w)(wf af:Bool)(cs:List AV)(c:Array Value)(ty:TypeId)(fz:Nat×Nat)(L0:Loc)(hfz:∀j,(j<L0.size\/(L0.esz=0/\j=L0.size))->¬(fz.1<=j/\j<fz.2))
  (hold:∀k,k<w.heap.size->w'.heap[k]?=w.heap[k]?) (hsz:w.heap.size<=w'.heap.size) (hL:w.heap.size<=L0.blk) (hnew:w'.heap[L0.blk]?=some (.cells c ty fz)) (hcs:c.size=L0.size)
  (hio:w'.os=w.os/\w'.output=w.output) (hl:L0.off+cs.length<=L0.size) (hc:∀(j:Nat) v,cs[j]?=some v->∃v',c[L0.off+j]?=some v'/\VR σ Z v v') :
  Rel σ (Z.add h.sz L0) B (h.push (.cells L0.esz wf af cs)) w'/\Kept Z B h w (Z.add h.sz L0) (h.push (.cells L0.esz wf af cs)) w':=by
 have hext:∀b L,Z b=some L->(Z.add h.sz L0) b=some L:=by
  intro b L hb;have:=r.dom b L hb;simp only[Ren.add];rw[if_neg (by omega)];exact hb
 have hle:Z.le (Z.add h.sz L0):=⟨hext,λ_ _ h=>h,Nat.le_max_left _ _⟩
 have hwf:∀b L,Z b=some L->∀x,h.tr.get b=some x->x≠.dead->L.blk<w.heap.size:=by
  intro b L hb x hx hd;cases x with
  | cells e' wf' af' cs'=>obtain⟨_,c',ty',fz',hh,_⟩:=r.cells b L e' wf' af' cs' hb hx;exact by grind
  | dead=>exact absurd rfl hd
  | map es=>obtain⟨_,ob,hh,_⟩:=r.maps b L es hb hx;exact by grind
 have hget:∀b x,(h.push (.cells L0.esz wf af cs)).tr.get b=some x->b≠h.sz->h.tr.get b=some x:=by
  intro b x hx hb;simp only[Hp.push,Tr.get_set]at hx;rwa [if_neg hb]at hx
 have hget':∀x,(h.push (.cells L0.esz wf af cs)).tr.get h.sz=some x->x = .cells L0.esz wf af cs:=by
  intro x hx;simp[Hp.push,Tr.get_set]at hx;exact hx.symm
 have hren:∀b L,(Z.add h.sz L0) b=some L->(b=h.sz/\L=L0)\/(b≠h.sz/\Z b=some L):=by
  intro b L hb;simp only[Ren.add]at hb;split at hb
  .left;exact by grind
  .right;exact by grind
 refine⟨⟨?_,?_,?_,?_,?_,?_,?_,?_,?_,⟨Nat.max_le.2 ⟨Nat.le_succ_of_le r.dn.1,zzL _⟩,?_⟩⟩,⟨?_,?_,rfl,?_,?_,?_,hio,λ_ _ h=>h,λ_ _ h=>.inl h,Nat.le_max_left _ _⟩⟩
 .intro b L hb;rcases hren b L hb with⟨rfl,_⟩|⟨_,hb⟩
  .exact Nat.lt_succ_self _
  .exact Nat.lt_succ_of_lt (r.dom b L hb)
 .intro b L e' wf' af' cs' hb hg;rcases hren b L hb with⟨rfl,rfl⟩|⟨hne,hb⟩
  .cases hget' _ hg;refine⟨rfl,c,ty,fz,hnew,hcs,hl,?_,by grind⟩
   intro j v hv;obtain⟨v',h1,h2⟩:=hc j v hv;exact by grind[VR.mono]
  .have hg':=hget _ _ hg hne;obtain⟨h1,c',ty',fz,h2,h3,h4,h5,h6⟩:=r.cells b L e' wf' af' cs' hb hg';refine⟨h1,c',ty',fz,?_,h3,h4,?_,h6⟩
   .rw[hold _ (hwf b L hb _ hg' (by simp))];exact h2
   .intro j v hv;obtain⟨v',h7,h8⟩:=h5 j v hv;exact by grind[VR.mono]
 .intro b L es hb hg;rcases hren b L hb with⟨rfl,rfl⟩|⟨hne,hb⟩
  .cases hget' _ hg
  .have hg':=hget _ _ hg hne;obtain⟨h0,ob,h2,h3⟩:=r.maps b L es hb hg';refine⟨h0,ob,?_,h3.mono hle⟩;rw[hold _ (hwf b L hb _ hg' (by simp))];exact h2
 .intro b L e' af' cs' hb hg b' L' x hb' hx hd he;rcases hren b L hb with⟨rfl,rfl⟩|⟨hne,hb1⟩<;>rcases hren b' L' hb' with⟨rfl,rfl⟩|⟨hne',hb'⟩
  .rfl
  .have:=hwf b' L' hb' _ (hget _ _ hx hne') hd;omega
  .have:=hwf b L hb1 _ (hget _ _ hg hne) (by simp);omega
  .exact by grind[Rel.excl]
 .intro b L es hb hg b' L' x hb' hx hd he;rcases hren b L hb with⟨rfl,rfl⟩|⟨hne,hb1⟩<;>rcases hren b' L' hb' with⟨rfl,rfl⟩|⟨hne',hb'⟩
  .rfl
  .have:=hwf b' L' hb' _ (hget _ _ hx hne') hd;omega
  .have:=hwf b L hb1 _ (hget _ _ hg hne) (by simp);omega
  .exact by grind[Rel.exclm]
 .intro b L e' wf' cs' hb hg b' L' e2 wf2 af2 cs2 hb' hx he;rcases hren b L hb with⟨rfl,rfl⟩|⟨hne,hb1⟩<;>rcases hren b' L' hb' with⟨rfl,rfl⟩|⟨hne',hb'⟩
  .cases hget' _ hg;cases hget' _ hx;exact by omega
  .have:=hwf b' L' hb' _ (hget _ _ hx hne') (by simp);omega
  .have:=hwf b L hb1 _ (hget _ _ hg hne) (by simp);omega
  .exact r.app b L e' wf' cs' hb1 (hget _ _ hg hne) b' L' e2 wf2 af2 cs2 hb' (hget _ _ hx hne') he
 .intro b L hb hf;rcases hren b L hb with⟨rfl,rfl⟩|⟨_,hb⟩
  .exact qaA r.base hL
  .exact r.flr b L hb hf
 .exact qfB r.base hsz
 .intro k arr hk;obtain⟨⟨ty',fz',h1⟩,h2⟩:=r.frz k arr hk;have hkl:k<w.heap.size:=by grind
  refine⟨⟨ty',fz',by rw[hold k hkl];exact h1⟩,λb L x hb hx hd=>?_⟩
  rcases hren b L hb with⟨rfl,rfl⟩|⟨hne,hb⟩
  .omega
  .exact by grind
 .intro b L hb;rcases hren b L hb with⟨rfl,rfl⟩|⟨_,hb⟩
  .exact by grind
  .exact Nat.lt_of_lt_of_le (r.dn.2 b L hb) hsz
 .intro b hb;simp only[Ren.add];rw[if_neg (by omega)]
 .exact Nat.le_succ _
 .intro b _ hb;simp only[Hp.push,Tr.get_set];rw[if_neg (by omega)]
 all_goals grind[Rel.base]

def Rel.push{B:Nat->Prop}{h:Hp}{w w':World}(r:Rel σ Z B h w)(e:Nat)(wf af:Bool)(cs:List AV)(c:Array Value)(ty:TypeId)(fz:Nat×Nat)(hfz:∀j,(j<c.size\/(e=0/\j=c.size))->¬(fz.1<=j/\j<fz.2))
  (hw:w'.heap=w.heap.push (.cells c ty fz)) (hio:w'.os=w.os/\w'.output=w.output) (hl:cs.length<=c.size) (hc:∀(j:Nat) v,cs[j]?=some v->∃v',c[j]?=some v'/\VR σ Z v v') :
  Rel σ (Z.add h.sz ⟨w.heap.size,0,c.size,e⟩) B (h.push (.cells e wf af cs)) w'/\Kept Z B h w (Z.add h.sz ⟨w.heap.size,0,c.size,e⟩) (h.push (.cells e wf af cs)) w' :=
 r.fresh wf af cs c ty fz ⟨w.heap.size,0,c.size,e⟩ hfz (by grind) (by rw[hw,Array.size_push];omega) (zzL _) (by rw[hw];simp) rfl hio (by simp_all)
  (by simp_all)

def Rel.world{B:Nat->Prop}{h:Hp}{w w':World}(r:Rel σ Z B h w)(hw:∀n,n<w.heap.size->w'.heap[n]?=w.heap[n]?)(hs:w.heap.size<=w'.heap.size):Rel σ Z B h w':=by
 refine⟨r.dom,?_,?_,r.excl,r.exclm,r.app,r.flr,qfB r.base hs,λk arr hk=>?_,⟨r.dn.1,λb L hb=>Nat.lt_of_lt_of_le (r.dn.2 b L hb) hs⟩⟩
 rotate_right
 .obtain⟨⟨ty,fz,h1⟩,h2⟩:=r.frz k arr hk;exact by grind
 all_goals grind[Rel.cells,Rel.maps]
theorem Ren.add_self(Z:Ren)(b:Nat)(L:Loc):(Z.add b L) b=some L:=by simp[Ren.add]
end Go.Kc
end
section
namespace Go.Kc
variable {σ:Nat->Value} {Z Z':Ren}

structure Spl (c:Array Value) (p:Nat) (vs:List Value) (c':Array Value):Prop where
 size:c'.size=c.size
 out:∀j,j<p\/p+vs.length<=j->c'[j]?=c[j]?
 inn:∀j v,vs[j]?=some v->c'[p+j]?=some v

theorem Rel.blk_lt{B:Nat->Prop}{h:Hp}{w:World}(r:Rel σ Z B h w):∀b L,Z b=some L->∀x,h.tr.get b=some x->x≠.dead->L.blk<w.heap.size:=by
 intro b L hb x hx hd;cases x with
 | cells e' wf' af' cs'=>obtain⟨_,c',ty',fz',hh,_⟩:=r.cells b L e' wf' af' cs' hb hx;grind
 | dead=>simp_all
 | map es=>obtain⟨_,ob,hh,_⟩:=r.maps b L es hb hx;grind

def Rel.longer{B:Nat->Prop}{h h':Hp}{w:World}(r:Rel σ Z B h w)(hs:h.sz<=h'.sz)(hf:h'.fl=h.fl)(hg:∀b,b<h.sz->h'.tr.get b=h.tr.get b):Rel σ Z B h' w:=by
 have hget:∀b L,Z b=some L->h'.tr.get b=h.tr.get b:=by grind[Rel.dom]
 refine⟨by grind[Rel.dom],?_,?_,?_,?_,?_,by grind[Rel.flr],r.base,by grind[Rel.frz],⟨Nat.le_trans r.dn.1 hs,r.dn.2⟩⟩
 .grind[Rel.cells]
 .grind[Rel.maps]
 .grind[Rel.excl]
 .grind[Rel.exclm]
 .intro b L e wf cs hb hx b' L' e' wf' af' cs' hb' hx';rw[hget b L hb]at hx;rw[hget b' L' hb']at hx';exact r.app b L e wf cs hb hx b' L' e' wf' af' cs' hb' hx'


def Ren.bump(Z:Ren)(m:Nat):Ren:=⟨Z.loc,Z.frz,max Z.n m⟩
theorem Ren.bump_le(Z:Ren)(m:Nat):Z.le (Z.bump m):=⟨λ_ _ h=>h,λ_ _ h=>h,Nat.le_max_left _ _⟩
def Rel.bump{B:Nat->Prop}{h:Hp}{w:World}(r:Rel σ Z B h w){m:Nat}(hm:m<=h.sz):Rel σ (Z.bump m) B h w :=
 ⟨r.dom,λb L e wf af cs hb hg=>let ⟨h1,c,ty,fz,h2,h3,h4,h5,h6⟩:=r.cells b L e wf af cs hb hg
  (by grind[VR.mono,Ren.bump_le]),
  λb L es hb hg=>let ⟨h1,o,h2,h3⟩:=r.maps b L es hb hg;(by grind[qcu.mono,Ren.bump_le]),r.excl,r.exclm,r.app,r.flr,r.base,r.frz,⟨Nat.max_le.2 ⟨r.dn.1,hm⟩,r.dn.2⟩⟩
def Rel.idle{B:Nat->Prop}{h:Hp}{w:World}(r:Rel σ Z B h w)(x:Blk):Rel σ (Z.bump (h.sz+1)) B (h.push x) w/\Kept Z B h w (Z.bump (h.sz+1)) (h.push x) w :=
 ⟨(r.longer (h':=h.push x) (Nat.le_succ _) rfl (λb hb=>by simp only[Hp.push,Tr.get_set];rw[if_neg (by omega)])).bump (zzL _),
  λ_ _=>rfl,Nat.le_succ _,rfl,λb _ hb=>by simp only[Hp.push,Tr.get_set];rw[if_neg (by omega)],λ_ _=>rfl,zzL _,⟨rfl,rfl⟩,λ_ _ h=>h,λ_ _ h=>.inl h,Nat.le_max_left _ _⟩

theorem Rel.frz'{B:Nat->Prop}{h:Hp}{w w':World}{φ:Fz}(r:Rel σ Z B h w)(hw:∀n,n<w.heap.size->w'.heap[n]?=w.heap[n]?)(hs:w.heap.size<=w'.heap.size)(h1:∀k a,Z.frz k=some a->φ k=some a)
  (h2:∀k a,φ k=some a->Z.frz k=some a\/w.heap.size<=k) (h3:∀k a,φ k=some a->∃ty fz,w'.heap[k]?=some (.cells a ty fz)):Rel σ ⟨Z.loc,φ,Z.n⟩ B h w':=by
 have r':=r.world hw hs;have hle:Z.le ⟨Z.loc,φ,Z.n⟩:=⟨λ_ _ h=>h,h1,zzL _⟩
 refine⟨r'.dom,λb L e wf af cs hb hg=>?_,λb L es hb hg=>?_,r'.excl,r'.exclm,r'.app,r'.flr,r'.base,λk arr hk=>⟨h3 k arr hk,λb L x hb hx hd=>?_⟩,r'.dn⟩
 .obtain⟨g1,c,ty,fz,g2,g3,g4,g5,g6⟩:=r'.cells b L e wf af cs hb hg;exact by grind[VR.mono]
 all_goals grind[Rel.maps,qcu.mono,Rel.frz,Rel.blk_lt]

def Rel.store{B:Nat->Prop}{h:Hp}{w w':World}(r:Rel σ Z B h w){b:Nat}{L:Loc}{e:Nat}{af:Bool}{cs:List AV}(hb:Z b=some L)
  (hg:h.tr.get b=some (.cells e true af cs)) (hf:h.fl<=b) (off:Nat) (vs:List AV) (vs':List Value) (hv:VRs σ Z vs vs') (hl:off+vs.length<=cs.length)
  {c c':Array Value} {ty:TypeId} {fz:Nat×Nat} (hc:w.heap[L.blk]?=some (.cells c ty fz)) (hs:Spl c (L.off+off) vs' c')
  (hw:w'.heap=w.heap.setIfInBounds L.blk (.cells c' ty fz)) (hio:w'.os=w.os/\w'.output=w.output) :
  Rel σ Z B (h.put b (.cells e true af (cs.take off++(vs++cs.drop (off+vs.length))))) w'/\Kept Z B h w Z (h.put b (.cells e true af (cs.take off++(vs++cs.drop (off+vs.length))))) w':=by
 have hlen:=hv.length;have hcl:(cs.take off++(vs++cs.drop (off+vs.length))).length=cs.length:=by simp;omega
 have hlt:L.blk<w.heap.size:=(Array.getElem?_eq_some_iff.1 hc).1
 have hold:∀k,k≠L.blk->w'.heap[k]?=w.heap[k]?:=by
  intro k hk;rw[hw,Array.getElem?_setIfInBounds];rw[if_neg (by omega)]
 have hnew:w'.heap[L.blk]?=some (.cells c' ty fz):=by rw[hw,Array.getElem?_setIfInBounds];simp[hlt]
 have hget:∀b' x,(h.put b (.cells e true af (cs.take off++(vs++cs.drop (off+vs.length))))).tr.get b'=some x->b'≠b->h.tr.get b'=some x:=by
  intro b' x hx hne;simp only[Hp.put,Tr.get_set]at hx;rwa [if_neg hne]at hx
 have hgb:∀x,(h.put b (.cells e true af (cs.take off++(vs++cs.drop (off+vs.length))))).tr.get b=some x->x = .cells e true af (cs.take off++(vs++cs.drop (off+vs.length))):=by
  intro x hx;simp[Hp.put,Tr.get_set]at hx;exact hx.symm
 have hother:∀b' L' x,Z b'=some L'->h.tr.get b'=some x->x≠.dead->b'≠b->L'.blk≠L.blk :=
  λb' L' x hb' hx hd hne he=>hne (r.excl b L e af cs hb hg b' L' x hb' hx hd he)
 obtain⟨he,c0,ty0,fz0,h1,h2,h3,h4,h5⟩:=r.cells b L e true af cs hb hg;rw[hc]at h1;cases h1;refine⟨⟨r.dom,?_,?_,?_,?_,?_,r.flr,?_,?_,⟨r.dn.1,λb L hb=>by rw[hw,Array.size_setIfInBounds];exact r.dn.2 b L hb⟩⟩,⟨λ_ _=>rfl,zzL _,rfl,?_,?_,?_,hio,λ_ _ h=>h,λ_ _ h=>.inl h,zzL _⟩⟩
 .intro b' L' e' wf' af' cs' hb' hg'
  by_cases hne:b'=b
  .subst hne;rw[hb]at hb';cases hb';cases hgb _ hg';refine⟨he,c',ty,fz,hnew,hs.size.trans h2,by omega,?_,h5⟩
   intro j v hv'
   by_cases hj1:j<off
   .rw[List.getElem?_append_left (by simp;omega),List.getElem?_take_of_lt hj1]at hv';obtain⟨v',h6,h7⟩:=h4 j v hv';exact⟨v',by rw[hs.out _ (by omega)];exact h6,h7⟩
   .rw[List.getElem?_append_right (by simp;omega)]at hv';have e1:(cs.take off).length=off:=by simp;omega
    rw[e1]at hv'
    by_cases hj2:j<off+vs.length
    .rw[List.getElem?_append_left (by omega)]at hv';obtain⟨v',h6,h7⟩:=hv.get hv';refine⟨v',?_,h7⟩;have:=hs.inn _ _ h6;rwa [show L.off+off+(j-off)=L.off+j from by omega]at this
    .rw[List.getElem?_append_right (by omega),List.getElem?_drop]at hv';rw[show off+vs.length+(j-off-vs.length)=j from by omega]at hv'
     obtain⟨v',h6,h7⟩:=h4 j v hv';exact⟨v',by rw[hs.out _ (by omega)];exact h6,h7⟩
  .have hg2:=hget _ _ hg' hne;obtain⟨h6,c2,ty2,fz2,h7,h8,h9,h10,h11⟩:=r.cells b' L' e' wf' af' cs' hb' hg2;exact⟨h6,c2,ty2,fz2,by rw[hold _ (hother b' L' _ hb' hg2 (by simp) hne)];exact h7,h8,h9,h10,h11⟩
 .intro b' L' es hb' hg';have hne:b'≠b:=by rintro rfl;cases hgb _ hg'
  have hg2:=hget _ _ hg' hne;obtain⟨h6,ob,h7,h8⟩:=r.maps b' L' es hb' hg2;exact⟨h6,ob,by rw[hold _ (hother b' L' _ hb' hg2 (by simp) hne)];exact h7,h8⟩
 .intro b1 L1 e1 af1 cs1 hb1 hg1 b2 L2 x hb2 hx hd he2
  by_cases n1:b1=b
  .subst n1;rw[hb]at hb1;cases hb1
   by_cases n2:b2=b1
   .exact n2
   .exact absurd he2 (hother b2 L2 x hb2 (hget _ _ hx n2) hd n2)
  .have hg1':=hget _ _ hg1 n1
   by_cases n2:b2=b
   .subst n2;rw[hb]at hb2;cases hb2;exact absurd he2.symm (hother b1 L1 _ hb1 hg1' (by simp) n1)
   .exact r.excl b1 L1 e1 af1 cs1 hb1 hg1' b2 L2 x hb2 (hget _ _ hx n2) hd he2
 .intro b1 L1 es hb1 hg1 b2 L2 x hb2 hx hd he2;have n1:b1≠b:=by rintro rfl;cases hgb _ hg1
  have hg1':=hget _ _ hg1 n1
  by_cases n2:b2=b
  .subst n2;rw[hb]at hb2;cases hb2;exact absurd he2.symm (hother b1 L1 _ hb1 hg1' (by simp) n1)
  .exact r.exclm b1 L1 es hb1 hg1' b2 L2 x hb2 (hget _ _ hx n2) hd he2
 .intro b1 L1 e1 wf1 cs1 hb1 hg1 b2 L2 e2 wf2 af2 cs2 hb2 hg2 he2
  by_cases n1:b1=b
  .subst n1;rw[hb]at hb1;cases hb1
   by_cases n2:b2=b1
   .subst n2;rw[hb]at hb2;cases hb2;cases hgb _ hg1;cases hgb _ hg2;exact⟨zzL _,λ_=>rfl⟩
   .exact absurd he2 (hother b2 L2 _ hb2 (hget _ _ hg2 n2) (by simp) n2)
  .have hg1':=hget _ _ hg1 n1
   by_cases n2:b2=b
   .subst n2;rw[hb]at hb2;cases hb2;exact absurd he2.symm (hother b1 L1 _ hb1 hg1' (by simp) n1)
   .exact r.app b1 L1 e1 wf1 cs1 hb1 hg1' b2 L2 e2 wf2 af2 cs2 hb2 (hget _ _ hg2 n2) he2
 .rw[hw,Array.size_setIfInBounds];exact r.base
 .intro k arr hk;obtain⟨⟨ty',fz',h6⟩,h7⟩:=r.frz k arr hk;have hne:L.blk≠k:=h7 b L _ hb hg (by simp);refine⟨⟨ty',fz',by rw[hold k (by omega)];exact h6⟩,λb' L' x hb' hx hd=>?_⟩
  by_cases hbb:b'=b
  .subst hbb;rw[hb]at hb';cases hb';exact hne
  .exact h7 b' L' x hb' (hget _ _ hx hbb) hd
 .intro b' hb' _;simp only[Hp.put,Tr.get_set];rw[if_neg (by omega)]
 .intro k hk;exact hold k (λhe=>r.flr b L hb hf (by first|(rw[<- he];exact hk)|(rw[he];exact hk)))
 .rw[hw,Array.size_setIfInBounds];exact zzL _

def Rel.weak{B:Nat->Prop}{h:Hp}{w:World}(r:Rel σ Z B h w){b:Nat}{e:Nat}{wf af:Bool}{cs:List AV}
  (hg:h.tr.get b=some (.cells e wf af cs)) (hf:h.fl<=b) (y:Blk) (hy:y = .dead\/y = .cells e false false cs) :
  Rel σ Z B (h.put b y) w/\Kept Z B h w Z (h.put b y) w:=by
 have hget:∀b' x,(h.put b y).tr.get b'=some x->(b'=b/\x=y)\/(b'≠b/\h.tr.get b'=some x):=by
  intro b' x hx;simp only[Hp.put,Tr.get_set]at hx
  grind
 have hold:∀b' e' wf' af' cs',(h.put b y).tr.get b'=some (.cells e' wf' af' cs')->∃wf2 af2,h.tr.get b'=some (.cells e' wf2 af2 cs')/\(wf'=true->wf2=true/\b'≠b)/\(af'=true->af2=true/\b'≠b):=by
  grind
 have holdm:∀b' es,(h.put b y).tr.get b'=some (.map es)->h.tr.get b'=some (.map es):=by
  grind
 have holdx:∀b' x,(h.put b y).tr.get b'=some x->x≠.dead->∃x',h.tr.get b'=some x'/\x'≠.dead:=by
  grind
 refine⟨⟨r.dom,?_,?_,?_,?_,?_,r.flr,r.base,?_,r.dn⟩,⟨λ_ _=>rfl,zzL _,rfl,?_,λ_ _=>rfl,zzL _,⟨rfl,rfl⟩,λ_ _ h=>h,λ_ _ h=>.inl h,zzL _⟩⟩
 .grind[Rel.cells]
 .grind[Rel.maps]
 .grind[Rel.excl]
 .grind[Rel.exclm]
 .intro b1 L1 e1 wf1 cs1 hb1 hx1 b2 L2 e2 wf2 af2 cs2 hb2 hx2 he;obtain⟨wf3,af3,h1,h2,h3⟩:=hold b1 _ _ _ _ hx1;obtain⟨rfl,_⟩:=h3 rfl;obtain⟨wf4,af4,h4,h5,h6⟩:=hold b2 _ _ _ _ hx2;have:=r.app b1 L1 e1 wf3 cs1 hb1 h1 b2 L2 e2 wf4 af4 cs2 hb2 h4 he
  grind
 .grind[Rel.frz]
 .intro b' hb' _;simp only[Hp.put,Tr.get_set];rw[if_neg (by omega)]

def Rel.grow{B:Nat->Prop}{h:Hp}{w w':World}(r:Rel σ Z B h w){b:Nat}{L:Loc}{e:Nat}{wf:Bool}{cs:List AV}(hb:Z b=some L)
  (hg:h.tr.get b=some (.cells e wf true cs)) (hf:h.fl<=b) (o:Nat) (ho:o<=cs.length) (vs:List AV) (vs':List Value) (hv:VRs σ Z vs vs') (hl:L.off+cs.length+vs.length<=L.size)
  (y:Blk) (wf2:Bool) (hy:(y = .dead/\wf2=wf)\/(y = .cells e false false cs/\wf2=false))
  {c c':Array Value} {ty:TypeId} {fz:Nat×Nat} (hc:w.heap[L.blk]?=some (.cells c ty fz)) (hs:Spl c (L.off+cs.length) vs' c')
  (hw:w'.heap=w.heap.setIfInBounds L.blk (.cells c' ty fz)) (hio:w'.os=w.os/\w'.output=w.output) :
  Rel σ (Z.add h.sz ⟨L.blk,L.off+o,L.size,e⟩) B ((h.put b y).push (.cells e wf2 true (cs.drop o++vs))) w' /\
  Kept Z B h w (Z.add h.sz ⟨L.blk,L.off+o,L.size,e⟩) ((h.put b y).push (.cells e wf2 true (cs.drop o++vs))) w':=by
 have hlen:=hv.length;have hbs:=r.dom b L hb;have hlt:L.blk<w.heap.size:=by grind
 have hold:∀k,k≠L.blk->w'.heap[k]?=w.heap[k]?:=by
  intro k hk;rw[hw,Array.getElem?_setIfInBounds];rw[if_neg (by omega)]
 have hnew:w'.heap[L.blk]?=some (.cells c' ty fz):=by rw[hw,Array.getElem?_setIfInBounds];simp[hlt]
 have hext:∀b' L',Z b'=some L'->(Z.add h.sz ⟨L.blk,L.off+o,L.size,e⟩) b'=some L':=by
  intro b' L' hb';have:=r.dom b' L' hb';simp only[Ren.add];rw[if_neg (by omega)];exact hb'
 have hle:Z.le (Z.add h.sz ⟨L.blk,L.off+o,L.size,e⟩):=⟨hext,λ_ _ h=>h,Nat.le_max_left _ _⟩
 have hren:∀b' L',(Z.add h.sz ⟨L.blk,L.off+o,L.size,e⟩) b'=some L'->(b'=h.sz/\L'=⟨L.blk,L.off+o,L.size,e⟩)\/(b'≠h.sz/\Z b'=some L'):=by
  intro b' L' hb';simp only[Ren.add]at hb';split at hb'
  .left;exact by simp_all
  .right;exact by simp_all
 have hgn:∀x,((h.put b y).push (.cells e wf2 true (cs.drop o++vs))).tr.get h.sz=some x->x = .cells e wf2 true (cs.drop o++vs):=by
  intro x hx;simp[Hp.push,Hp.put,Tr.get_set]at hx;exact hx.symm
 have hgb:∀x,((h.put b y).push (.cells e wf2 true (cs.drop o++vs))).tr.get b=some x->x=y:=by
  intro x hx;simp only[Hp.push,Hp.put,Tr.get_set]at hx;rw[if_neg (by omega)]at hx;simpa using hx.symm
 have hget:∀b' x,((h.put b y).push (.cells e wf2 true (cs.drop o++vs))).tr.get b'=some x->b'≠h.sz->b'≠b->h.tr.get b'=some x:=by
  intro b' x hx h1 h2;simp only[Hp.push,Hp.put,Tr.get_set]at hx;rw[if_neg h1,if_neg h2]at hx;exact hx
 obtain⟨he,c0,ty0,fz0,h1,h2,h3,h4,h5⟩:=r.cells b L e wf true cs hb hg;rw[hc]at h1;cases h1
 -- no other living block of the row is writable
 have hnw:∀b' L' e' af' cs',Z b'=some L'->h.tr.get b'=some (.cells e' true af' cs')->b'≠b->L'.blk≠L.blk :=
  λb' L' e' af' cs' hb' hx hne heq=>by grind[Rel.excl]
 have hnm:∀b' L' es,Z b'=some L'->h.tr.get b'=some (.map es)->L'.blk≠L.blk:=by
  intro b' L' es hb' hx heq;obtain⟨_,ob,h7,h8⟩:=r.maps b' L' es hb' hx;rw[heq,hc]at h7;cases h7;exact h8.notCells
 have hexw:wf=true->∀b' L' x,Z b'=some L'->h.tr.get b'=some x->x≠.dead->b'≠b->L'.blk≠L.blk:=by
  intro hwf b' L' x hb' hx hd hne heq;subst hwf;exact by grind[Rel.excl]
 refine⟨⟨?_,?_,?_,?_,?_,?_,?_,?_,?_,⟨Nat.max_le.2 ⟨Nat.le_succ_of_le r.dn.1,zzL _⟩,?_⟩⟩,⟨?_,?_,rfl,?_,?_,?_,hio,λ_ _ h=>h,λ_ _ h=>.inl h,Nat.le_max_left _ _⟩⟩
 .intro b' L' hb';rcases hren b' L' hb' with⟨rfl,_⟩|⟨_,hb'⟩
  .exact Nat.lt_succ_self _
  .exact Nat.lt_succ_of_lt (r.dom b' L' hb')
 .intro b' L' e' wf' af' cs' hb' hg';rcases hren b' L' hb' with⟨rfl,rfl⟩|⟨hne,hb'⟩
  .cases hgn _ hg';refine⟨rfl,c',ty,fz,hnew,hs.size.trans h2,by simp;omega,?_,by grind⟩
   intro j v hv'
   by_cases hj:j<cs.length-o
   .rw[List.getElem?_append_left (by simp;omega),List.getElem?_drop]at hv';obtain⟨v',h6,h7⟩:=h4 _ v hv';refine⟨v',?_,h7.mono hle⟩;rw[hs.out _ (by simp;omega)];rw[<- h6];congr 1;simp;omega
   .rw[List.getElem?_append_right (by simp;omega)]at hv';obtain⟨v',h6,h7⟩:=hv.get hv';refine⟨v',?_,h7.mono hle⟩;have:=hs.inn _ _ h6;rw[<- this];congr 1;simp;omega
  .by_cases hbb:b'=b
   .subst hbb;rw[hb]at hb';cases hb';cases hgb _ hg';rcases hy with⟨hy,_⟩|⟨hy,_⟩
    .cases hy
    .cases hy;refine⟨he,c',ty,fz,hnew,hs.size.trans h2,h3,?_,by grind⟩
     intro j v hv';obtain⟨v',h6,h7⟩:=h4 _ v hv';have hj:j<cs.length:=by grind
     exact by grind[Spl.out,VR.mono]
   .have hg2:=hget _ _ hg' hne hbb;obtain⟨h6,c2,ty2,fz2,h7,h8,h9,h10,h11⟩:=r.cells b' L' e' wf' af' cs' hb' hg2
    by_cases heq:L'.blk=L.blk
    .rw[heq,hc]at h7;cases h7;have happ:=r.app b L e wf cs hb hg b' L' e' wf' af' cs' hb' hg2 heq;refine⟨h6,c',ty,fz,by rw[heq];exact hnew,hs.size.trans h8,h9,?_,h11⟩
     intro j v hv';obtain⟨v',h12,h13⟩:=h10 _ v hv';have hj:j<cs'.length:=by grind
     exact by grind[Spl.out,VR.mono]
    .refine⟨h6,c2,ty2,fz2,by rw[hold _ heq];exact h7,h8,h9,?_,h11⟩
     intro j v hv';obtain⟨v',h12,h13⟩:=h10 _ v hv';exact by grind[VR.mono]
 .intro b' L' es hb' hg';rcases hren b' L' hb' with⟨rfl,rfl⟩|⟨hne,hb'⟩
  .cases hgn _ hg'
  .have hbb:b'≠b:=by
    rintro rfl;have:=hgb _ hg';subst this;rcases hy with⟨hy,_⟩|⟨hy,_⟩<;>cases hy
   have hg2:=hget _ _ hg' hne hbb;obtain⟨h6,ob,h7,h8⟩:=r.maps b' L' es hb' hg2;exact by grind[qcu.mono]
 .intro b1 L1 e1 af1 cs1 hb1 hg1 b2 L2 x hb2 hx hd he2;rcases hren b1 L1 hb1 with⟨rfl,rfl⟩|⟨n1,hb1⟩
  .-- the new block is writable: so was the old one,which is dead
   cases hgn _ hg1;rcases hren b2 L2 hb2 with⟨rfl,_⟩|⟨n2,hb2⟩
   .rfl
   .by_cases m2:b2=b
    .subst m2;have:=hgb _ hx;subst this;rcases hy with⟨hy,_⟩|⟨_,hy⟩
     .exact absurd hy hd
     .cases hy
    .rcases hy with⟨_,hy⟩|⟨_,hy⟩
     .exact by grind
     .cases hy
  .have m1:b1≠b:=by
    rintro rfl;have:=hgb _ hg1;subst this;rcases hy with⟨hy,_⟩|⟨hy,_⟩<;>cases hy
   have hg1':=hget _ _ hg1 n1 m1;rcases hren b2 L2 hb2 with⟨rfl,rfl⟩|⟨n2,hb2⟩
   .exact by grind
   .by_cases m2:b2=b
    .subst m2;rw[hb]at hb2;cases hb2;exact by grind
    .exact r.excl b1 L1 e1 af1 cs1 hb1 hg1' b2 L2 x hb2 (hget _ _ hx n2 m2) hd he2
 .intro b1 L1 es hb1 hg1 b2 L2 x hb2 hx hd he2;rcases hren b1 L1 hb1 with⟨rfl,rfl⟩|⟨n1,hb1⟩
  .cases hgn _ hg1
  .have m1:b1≠b:=by
    rintro rfl;have:=hgb _ hg1;subst this;rcases hy with⟨hy,_⟩|⟨hy,_⟩<;>cases hy
   have hg1':=hget _ _ hg1 n1 m1;rcases hren b2 L2 hb2 with⟨rfl,rfl⟩|⟨n2,hb2⟩
   .exact by grind
   .by_cases m2:b2=b
    .subst m2;rw[hb]at hb2;cases hb2;exact by grind
    .exact r.exclm b1 L1 es hb1 hg1' b2 L2 x hb2 (hget _ _ hx n2 m2) hd he2
 .intro b1 L1 e1 wf1 cs1 hb1 hg1 b2 L2 e2 wf2' af2 cs2 hb2 hg2 he2;rcases hren b1 L1 hb1 with⟨rfl,rfl⟩|⟨n1,hb1⟩
  .cases hgn _ hg1;rcases hren b2 L2 hb2 with⟨rfl,rfl⟩|⟨n2,hb2⟩
   .cases hgn _ hg2;exact by omega
   .by_cases m2:b2=b
    .subst m2;rw[hb]at hb2;cases hb2;have:=hgb _ hg2;subst this;rcases hy with⟨hy,_⟩|⟨hy,_⟩
     .cases hy
     .cases hy;exact by grind
    .have:=r.app b L e wf cs hb hg b2 L2 e2 wf2' af2 cs2 hb2 (hget _ _ hg2 n2 m2) he2;exact by grind
  .have m1:b1≠b:=by
    rintro rfl;have:=hgb _ hg1;subst this;rcases hy with⟨hy,_⟩|⟨hy,_⟩<;>cases hy
   have hg1':=hget _ _ hg1 n1 m1;rcases hren b2 L2 hb2 with⟨rfl,rfl⟩|⟨n2,hb2⟩
   .-- two blocks of a row that may be appended to: their ends are one;nothing is appended then,or they are on rows of their own
    cases hgn _ hg2;exact absurd ((r.app b1 L1 e1 wf1 cs1 hb1 hg1' b L e wf true cs hb hg he2).2 rfl).symm m1
   .by_cases m2:b2=b
    .subst m2;rw[hb]at hb2;cases hb2;have:=hgb _ hg2;subst this;rcases hy with⟨hy,_⟩|⟨hy,_⟩
     .cases hy
     .cases hy;exact⟨(r.app b1 L1 e1 wf1 cs1 hb1 hg1' b2 L e wf true cs hb hg he2).1,by grind⟩
    .exact r.app b1 L1 e1 wf1 cs1 hb1 hg1' b2 L2 e2 wf2' af2 cs2 hb2 (hget _ _ hg2 n2 m2) he2
 .intro b' L' hb' hf';rcases hren b' L' hb' with⟨rfl,rfl⟩|⟨_,hb'⟩
  .exact r.flr b L hb hf
  .exact r.flr b' L' hb' hf'
 .rw[hw,Array.size_setIfInBounds];exact r.base
 .intro k arr hk;obtain⟨⟨ty',fz',h6⟩,h7⟩:=r.frz k arr hk;have hne:L.blk≠k:=by grind
  refine⟨⟨ty',fz',by rw[hold k (by omega)];exact h6⟩,λb' L' x hb' hx hd=>?_⟩
  rcases hren b' L' hb' with⟨rfl,rfl⟩|⟨hn,hb'⟩
  .exact hne
  .by_cases hbb:b'=b
   .subst hbb;rw[hb]at hb';cases hb';exact hne
   .exact by grind
 .intro b' L' hb';rw[hw,Array.size_setIfInBounds];rcases hren b' L' hb' with⟨rfl,rfl⟩|⟨_,hb'⟩
  .exact r.dn.2 b L hb
  .exact r.dn.2 b' L' hb'
 .intro b' hb';simp only[Ren.add];rw[if_neg (by omega)]
 .exact Nat.le_succ _
 .intro b' hb' hs';have:h.fl<=b:=hf;simp only[Hp.push,Hp.put,Tr.get_set];rw[if_neg (by omega),if_neg (by omega)]
 all_goals grind[Rel.flr]

mutual
def vrc:AV->Value->Bool
 | .b x,.bool y=>x==y
 | .i k n,.int k' m=>decide (k=k')&&decide (n=m)
 | .s x,.string y=>x==y.data.toList
 | .nilp,.pointer none=>true
 | .nils,.slice none l c=>l==0&&c==0
 | .nilf,.nilFunc=>true
 | .nili,.nilIface=>true
 | .nilm,.map none=>true
 | .fn f a c,.func (.func g) a' c'=>f==g&&qms a a'.toList&&qms c c'.toList
 | .ifc t v,.iface t' v'=>t==t'&&vrc v v'
 | .agg l,.agg l'=>qms l l'.toList
 | .tup l,.tuple l'=>qms l l'.toList
 | _,_=>false
def qms:List AV->List Value->Bool
 | [],[]=>true
 | v::vs,v'::vs'=>vrc v v'&&qms vs vs'
 | _,_=>false
end

mutual
theorem qow:∀(a:AV) (v:Value),vrc a v=true->VR σ Z a v
 | .b x,v,h=>by cases v<;>simp[vrc]at h;subst h;exact .b _
 | .i k n,v,h=>by cases v<;>simp[vrc]at h;obtain⟨rfl,rfl⟩:=h;exact .i _ _
 | .s x,v,h=>by
  cases v<;>simp[vrc]at h;rename_i s;subst h;cases s;exact .s _
 | .nilp,v,h=>by
  cases v<;>first|(simp[vrc]at h;done)|skip
  rename_i a;cases a<;>first|(simp[vrc]at h;done)|exact .nilp
 | .nils,v,h=>by
  cases v<;>first|(simp[vrc]at h;done)|skip
  rename_i a l c;cases a<;>first|(simp[vrc]at h;done)|(simp[vrc]at h;obtain⟨rfl,rfl⟩:=h;exact .nils)
 | .nilf,v,h=>by cases v<;>simp[vrc]at h;exact .nilf
 | .nili,v,h=>by cases v<;>simp[vrc]at h;exact .nili
 | .nilm,v,h=>by
  cases v<;>first|(simp[vrc]at h;done)|skip
  rename_i a;cases a<;>first|(simp[vrc]at h;done)|exact .nilm
 | .fn f a c,v,h=>by
  cases v<;>first|(simp[vrc]at h;done)|skip
  rename_i fn a' c';cases fn<;>first|(simp[vrc]at h;done)|skip
  simp[vrc]at h;obtain⟨⟨rfl,h1⟩,h2⟩:=h;exact .fn _ _ _ _ _ (qbX _ _ h1) (qbX _ _ h2)
 | .ifc t v,v',h=>by cases v'<;>simp[vrc]at h;obtain⟨rfl,h1⟩:=h;exact .ifc _ _ _ (qow _ _ h1)
 | .agg l,v,h=>by cases v<;>simp[vrc]at h;exact .agg _ _ (qbX _ _ h)
 | .tup l,v,h=>by cases v<;>simp[vrc]at h;exact .tup _ _ (qbX _ _ h)
 | .ptr _ _,v,h=>by cases v<;>simp[vrc]at h
 | .sl _ _ _ _ _,v,h=>by cases v<;>simp[vrc]at h
 | .map _,v,h=>by cases v<;>simp[vrc]at h
 | .sym _,v,h=>by cases v<;>simp[vrc]at h
 | .undef,v,h=>.undef v
theorem qbX:∀(a:List AV) (v:List Value),qms a v=true->VRs σ Z a v
 | [],[],_=>.nil
 | v::vs,v'::vs',h=>by simp[qms]at h;exact .cons _ _ _ _ (qow _ _ h.1) (qbX _ _ h.2)
 | [],_::_,h=>by simp[qms]at h
 | _::_,[],h=>by simp[qms]at h
end

def qE:Operand->O->Bool
 | .tmp n,.t m=>n==m
 | .const v,.c a=>vrc a v
 | .func f,.c (.fn g [] [])=>f==g
 | _,_=>false
def qfb:List Operand->List O->Bool
 | [],[]=>true
 | x::xs,y::ys=>qE x y&&qfb xs ys
 | _,_=>false
def qba:Option Operand->Option O->Bool
 | none,none=>true
 | some x,some y=>qE x y
 | _,_=>false

def qay(P:Program)(t:TypeId):Bool:=match P.underlying t with|some (.struct _)|some (.array _ _)=>true|_=>false
def qeR(q:NK):Operand->Bool
 | .const (.pointer none)=>(match q with | .ptr=>true|_=>false)
 | .const (.slice none _ _)=>(match q with | .slice=>true|_=>false)
 | .const .nilFunc=>(match q with | .func=>true|_=>false)
 | .const .nilIface=>(match q with | .iface=>true|_=>false)
 | .const (.map none)=>(match q with | .map=>true|_=>false)
 | _=>false
def qtI(P:Program)(q:NK)(t:TypeId):Bool :=
 match P.underlying t,q with
 | some (.pointer _),.ptr|some (.slice _),.slice|some (.func ..),.func|some (.map ..),.map|some (.interface _),.iface=>true
 | _,_=>false
def qaf(P:Program)(t:TypeId)(z:List AV):Bool :=
 match P.info? t with
 | some i=>match i.zero with|some v=>qms z v.cells.toList&&(v.cells.size==i.size)|none=>false
 | none=>false
def zb(P:Program)(t:TypeId)(n:Nat):Bool:=match P.info? t with|some i=>i.size==n|none=>false
def qbA(P:Program)(t:TypeId)(n:Nat):Bool:=match P.info? t with|some i=>i.bytes==n|none=>false
def qdt(P:Program):Nat->List Field->List PK->Bool
 | _,[],[]=>true
 | i,f::fs,q::qs=>f.name != "_" && f.offset==i&&(match P.underlying f.type,q with|some .bool,.b|some (.int _),.i|some .string,.s=>true|_,_=>false)&&qdt P (i+1) fs qs
 | _,_,_=>false
def qkY(P:Program)(t:TypeId)(qs:List PK):Bool :=
 match P.underlying t with
 | some (.struct fs)=>!P.stoodInHeld t && !P.eqGuardType P.depth t&&qdt P 0 fs.toList qs
 | _=>false
def qas(ql3:Nat->Option (Nat×Nat)):List (Nat×Operand)->List (Nat×Nat×O)->Bool
 | [],[]=>true
 | (i,x)::xs,(off,n,y)::ys=>(ql3 i==some (off,n))&&qE x y&&qas ql3 xs ys
 | _,_=>false
def qHK(P:Program)(t:TypeId):Bool:=match P.underlying t with|some (.int _)|some .string=>true|_=>false
def fieldsOf(P:Program)(t:TypeId):Option (Array Field):=match P.underlying t with|some (.struct fs)=>some fs|_=>none
def xr(P:Program)(t:TypeId):Option TypeId:=match P.underlying t with|some (.slice e)=>some e|_=>none
def qhS(P:Program)(t:TypeId):Option (Nat×TypeId):=match P.underlying t with|some (.array n e)=>some (n,e)|_=>none
def qg8(P:Program)(t:TypeId):Bool:=match P.underlying t with|some .string=>true|_=>false
def qzq(P:Program)(t:TypeId)(k:IntKind):Bool:=match P.underlying t with|some (.int q)=>decide (q=k)|_=>false
def qqM(P:Program)(t:TypeId):Bool:=match P.underlying t with|some (.int _)=>true|_=>false
def qIm(P:Program)(t:TypeId):Bool:=match P.underlying t with|some .bool=>true|_=>false

def qkC(P:Program)(t:TypeId):Option (TypeId×TypeId):=match P.underlying t with|some (.map k e)=>some (k,e)|_=>none
def qn1(P:Program)(t:TypeId)(kd:Option IntKind):Bool:=match P.underlying t,kd with|some .string,none=>true|some (.int q),some q'=>decide (q=q')|_,_=>false
def qrq(P:Program)(t:TypeId)(z:AV):Bool:=match P.info? t with|some j=>(match j.zero with|some v=>vrc z v|none=>false)|none=>false
def qit(P:Program)(t:TypeId)(kd:Option IntKind):Bool:=match qkC P t with|some (key,_)=>qn1 P key kd|none=>false

def qdE(P:Program)(b:Builtin)(argTypes:Array TypeId)(args:List Operand)(r:IOp):Bool :=
 match b,args,r with
 | .len,[_],.mov (.c (.i .i64 n))=>match (argTypes[0]?).bind (qhS P)with|some (m,_)=>decide (n=(m:Int))|none=>false
 | .len,[x],.len str y=>qE x y&&(match argTypes[0]? with|some t=>if str then qg8 P t else(xr P t).isSome|none=>false)
 | .cap,[x],.cap y=>qE x y&&(match argTypes[0]? with|some t=>(xr P t).isSome|none=>false)
 | .append,[s,x],.app esz bytes _ s' x'=>qE s s'&&qE x x'&&(match argTypes[0]?,argTypes[1]? with
  | some ts,some tx=>(match xr P ts with
   | some e=>zb P e esz&&qbA P e bytes&&(match P.info? e with|some i=>(match i.zero with|some z=>z.cells.size==i.size|none=>false)|none=>false)
   | none=>false)&&(qg8 P tx||(xr P tx).isSome)
  | _,_=>false)
 | .append,[s,x],.appD esz bytes s' x' _=>qE s s'&&qE x x'&&(match argTypes[0]?,argTypes[1]? with
  | some ts,some tx=>(match xr P ts with
   | some e=>zb P e esz&&qbA P e bytes&&(match P.info? e with|some i=>(match i.zero with|some z=>z.cells.size==i.size|none=>false)|none=>false)
   | none=>false)&&(qg8 P tx||(xr P tx).isSome)
  | _,_=>false)
 | .append,[s,x],.appZ esz bytes z s' x'=>qE s s'&&qE x x'&&(match argTypes[0]?,argTypes[1]? with
  | some ts,some tx=>(match xr P ts with|some e=>zb P e esz&&qbA P e bytes&&qaf P e z|none=>false)&&qqM P tx
  | _,_=>false)
 | .max,[x,y],.max x' y'=>qE x x'&&qE y y'
 | .min,[x,y],.min x' y'=>qE x x'&&qE y y'
 | .clear,[x],.clear z y=>qE x y&&(match (argTypes[0]?).bind (xr P)with|some e=>qaf P e z|none=>false)
 | _,_,_=>false

def qlv(P:Program)(f:Option Field)(off:Nat)(n:Option Nat):Bool :=
 match f,n with
 | some fd,none=>fd.offset==off && !qay P fd.type&&(P.underlying fd.type).isSome
 | some fd,some n=>fd.offset==off&&qay P fd.type&&zb P fd.type n
 | none,_=>false
def qiY(P:Program)(o:Op)(r:IOp):Bool :=
 match o,r with
 | .move x,.mov y | .assign x,.mov y=>qE x y
 | .pick c a b,.pick c' a' b'=>qE c c'&&qE a a'&&qE b b'
 | .alloc t,.alloc z=>qaf P t z
 | .box _ x,.box y=>qE x y
 | .build t ps,.build z qs=>qaf P t z&&(match P.underlying t with
  | some (.struct fs)=>qas (λi=>(fs[i]?).bind λf=>(P.info? f.type).map λj=>(f.offset,j.size)) ps.toList qs&&fs.toList.all λf=>(P.info? f.type).isSome
  | some (.array _ e)=>(match P.info? e with|some j=>qas (λi=>some (i*j.size,j.size)) ps.toList qs|none=>false)
  | _=>false)
 | .buildSlice t n ps,.buildS m z qs=>n==m&&(match xr P t with
  | some e=>qaf P e z&&decide (n*z.length<=16777216)&&(match P.info? e with|some j=>qas (λi=>some (i*j.size,j.size)) ps.toList qs|none=>false)
  | none=>false)
 | .load t x,.load1 y=>qE x y && !qay P t&&(P.underlying t).isSome
 | .load t x,.loadN n y=>qE x y&&qay P t&&zb P t n
 | .store t x v,.store n x' v'=>qE x x'&&qE v v'&&zb P t n
 | .store t x v,.storeD n x' v' _=>qE x x'&&qE v v'&&zb P t n
 | .nilCheck x,.nilChk y=>qE x y
 | .binOp op t x y _,.bin op' x' y'=>decide (op=op')&&qE x x'&&qE y y'&&qHK P t
 | .binOp .eql t x y _,.eqN neg q x'=>!neg&&((qE x x'&&qeR q y)||(qE y x'&&qeR q x))&&qtI P q t
 | .binOp .neq t x y _,.eqN neg q x'=>neg&&((qE x x'&&qeR q y)||(qE y x'&&qeR q x))&&qtI P q t
 | .binOp .eql t x y _,.eqA neg qs x' y'=>!neg&&qE x x'&&qE y y'&&qkY P t qs
 | .binOp .neq t x y _,.eqA neg qs x' y'=>neg&&qE x x'&&qE y y'&&qkY P t qs
 | .unOp op _ x,.un op' y=>decide (op=op')&&qE x y
 | .convert s d x,.cvInt k y=>qE x y&&(P.underlying s).isSome&&qzq P d k
 | .fieldAddr t x f,.fAddr off y=>qE x y&&(match fieldsOf P t with|some fs=>(match fs[f]? with|some fd=>fd.offset==off && !zb P fd.type 0&&(P.info? fd.type).isSome|none=>false)|none=>false)
 | .field t x f,.fld off n y=>qE x y&&qlv P ((fieldsOf P t).bind (·[f]?)) off n
 | .indexAddr t x ix,.iAddrA len esz x' i'=>qE x x'&&qE ix i'&&(match qhS P t with|some (n,e)=>n==len&&zb P e esz|none=>false)
 | .indexAddr t x ix,.iAddrS esz x' i'=>qE x x'&&qE ix i'&&(match xr P t with|some e=>zb P e esz|none=>false)
 | .index t x ix,.idxA len esz agg x' i'=>qE x x'&&qE ix i'&&(match qhS P t with|some (n,e)=>n==len&&zb P e esz&&qay P e==agg&&(P.underlying e).isSome|none=>false)
 | .index t x ix,.idxS x' i'=>qE x x'&&qE ix i'&&qg8 P t
 | .slice t x lo hi mx,.slcS esz x' lo' hi' mx'=>qE x x'&&qba lo lo'&&qba hi hi'&&qba mx mx'&&(match xr P t with|some e=>zb P e esz|none=>false)
 | .slice t x lo hi mx,.slcA len esz x' lo' hi' mx'=>qE x x'&&qba lo lo'&&qba hi hi'&&qba mx mx'&&(match qhS P t with|some (n,e)=>n==len&&zb P e esz|none=>false)
 | .extract x i,.ext y j=>qE x y&&i==j
 | .makeFunc (.func f) a c,.mkF g a' c'=>f==g&&qfb a.toList a'&&qfb c.toList c'
 | .makeSlice t l c,.mkS esz bytes z l' c'=>qE l l'&&qE c c'&&(match xr P t with|some e=>zb P e esz&&qbA P e bytes&&qaf P e z|none=>false)
 | .makeMap _ none,.mkM=>true
 | .makeMap t (some (.const (.int _ _))),.mkM=>(qkC P t).isSome
 | .lookup t x i ok,.lookM kd ok' z x' i'=>qE x x'&&qE i i'&&ok==ok'&&qit P t kd&&(match qkC P t with|some (_,e)=>qrq P e z|none=>false)
 | .mapUpdate t m i v,.updM kd m' i' v'=>qE m m'&&qE i i'&&qE v v'&&qit P t kd
 | .insert t m i v,.updM kd m' i' v'=>qE m m'&&qE i i'&&qE v v'&&qit P t kd
 | _,.no=>true
 | .call { callee:=.builtin b,args,argTypes },r=>qdE P b argTypes args.toList r
 | _,_=>false
def qgu(P:Program)(o:Op)(r:RK):Bool :=
 match o,r with
 | .call { callee:=.value (.func f),args,.. },.callF g bs=>f==g&&qfb args.toList bs
 | .call { callee:=.value x,args,.. },.callV y bs=>qE x y&&qfb args.toList bs
 | .call { callee:=.value (.func f),args,.. },.callW g bs=>f==g&&qfb args.toList bs
 | .call { callee:=.value x,args,.. },.callVW y bs=>qE x y&&qfb args.toList bs
 | o,.op r=>qiY P o r
 | _,_=>false

def TR(σ:Nat->Value)(Z:Ren)(t:Tr AV)(tm:Array Value):Prop:=∀n v,t.get n=some v->n<tm.size/\VR σ Z v (tm.getD n undef)
theorem TR.mono{t:Tr AV}{tm:Array Value}(h:TR σ Z t tm)(hZ:Z.le Z'):TR σ Z' t tm :=
 λn v hv=>⟨(h n v hv).1,(h n v hv).2.mono hZ⟩

def zd{t:Tr AV}{a:Act}(ht:TR σ Z t a.tmps){x:O}{y:Operand}(hc:qE y x=true){k:AV->Prop}(h:evK t x k):∃v,k v/\VR σ Z v (a.eval y):=by
 cases x with
 | t n =>
  obtain⟨v,hv,hk⟩:=(Tr.getK_iff _ _ _).1 h;cases y<;>simp[qE]at hc;subst hc;exact⟨v,hk,(ht _ v hv).2⟩
 | c v =>
  refine⟨v,h,?_⟩;cases y with
  | tmp n=>simp[qE]at hc
  | const u=>exact qow v u (by simpa[qE]using hc)
  | global g=>simp[qE]at hc
  | func f =>
   have:v = .fn f [] []:=by
    unfold qE at hc;split at hc<;>simp_all
   subst this;exact .fn _ _ _ _ _ .nil .nil
def qiv{t:Tr AV}{a:Act}(ht:TR σ Z t a.tmps):∀{xs:List O} {ys:List Operand} (_:qfb ys xs=true) {k:List AV->Prop} (_:qaq t xs k),∃vs,k vs/\VRs σ Z vs (ys.map a.eval)
 | [],[],_,_,h=>⟨[],h,.nil⟩
 | x::xs,y::ys,hc,k,h=>by
  simp[qfb]at hc;obtain⟨v,h1,hv⟩:=zd ht hc.1 h;obtain⟨vs,h2,hvs⟩:=qiv ht hc.2 h1;exact⟨v::vs,h2,.cons _ _ _ _ hv hvs⟩
 | [],_::_,hc,_,_=>by simp[qfb]at hc
 | _::_,[],hc,_,_=>by simp[qfb]at hc
end Go.Kc
end
section
namespace Go.Kc
variable {σ:Nat->Value} {Z Z':Ren} {P:Program}

def qae(σ:Nat->Value):Prop:=∀j,(σ j).oneCell'=true

theorem qjW(hσ:qae σ){v:AV}{v':Value}(h:VR σ Z v v')(hc:zj v=true):v'.oneCell'=true:=by
 cases h<;>first|rfl|(exact hσ _)|(exact absurd hc (by simp[zj]))
def qfE(hσ:qae σ):∀{vs:List AV} {vs':List Value} (_:VRs σ Z vs vs') (_:qF vs=true),∀v ∈ vs',v.oneCell'=true
 | [],_,.nil,_=>by simp
 | v::vs,_,.cons _ _ v' vs' h hs,hc=>by
  have h2:zj v=true/\qF vs=true:=by
   have:(Bool.rec (motive:=λ_=>Bool) true (qF vs) (zj v):Bool)=true\/True:=Or.inr trivial
   have hc':(Bool.rec (motive:=λ_=>Bool) false (qF vs) (zj v):Bool)=true:=hc
   cases h1:zj v<;>simp_all
  intro u hu;rcases List.mem_cons.1 hu with rfl|hu
  .grind[qjW]
  .exact qfE hσ hs h2.2 u hu

theorem qcx{w:World}{k:Nat}{c:Array Value}{ty:TypeId}{fz:Nat×Nat}(h:w.heap[k]?=some (.cells c ty fz))(o:Nat):w.cell? ⟨k,o,none⟩=c[o]?:=by
 simp[World.cell?,h]
def qiw{w:World}{k:Nat}{c:Array Value}{ty:TypeId}{fz:Nat×Nat}(h:w.heap[k]?=some (.cells c ty fz))(o:Nat):w.frozen? ⟨k,o,none⟩=decide (fz.1<=o/\o<fz.2):=by
 simp[World.frozen?,h]
theorem xV(k o n:Nat):(⟨k,o,none⟩:Addr).add n=⟨k,o+n,none⟩:=by
 unfold Addr.add;split<;>simp_all

def qBl{B:Nat->Prop}{h:Hp}{w:World}(r:Rel σ Z B h w){b off:Nat}{L:Loc}(hb:Z b=some L){k:AV->Prop}(hk:ldK h b off k) :
  ∃v v',k v/\VR σ Z v v'/\w.cell? ⟨L.blk,L.off+off,none⟩=some v':=by
 obtain⟨e,wf,af,cs,hg,hn⟩:=(zk _ _ _).1 hk;obtain⟨v,hv,hk⟩:=(jd _ _ _).1 hn;obtain⟨_,c,ty,fz,h1,_,_,h4,_⟩:=r.cells b L e wf af cs hb hg
 grind[qcx]

def qha{B:Nat->Prop}{h:Hp}{w:World}(r:Rel σ Z B h w){b off n:Nat}{L:Loc}(hb:Z b=some L){k:List AV->Prop}(hk:qeV h b off n k) :
  ∃vs vs',k vs/\VRs σ Z vs vs'/\vs'.length=n/\(∀j v,vs'[j]?=some v->w.cell? ⟨L.blk,L.off+off+j,none⟩=some v):=by
 obtain⟨e,wf,af,cs,hg,hn⟩:=(zk _ _ _).1 hk;obtain⟨hl,hn⟩:=(zL _ _ _).1 hn;obtain⟨hl2,hk⟩:=(zH _ _ _).1 hn;rw[List.length_drop]at hl2;obtain⟨_,c,ty,fz,h1,h2,h3,h4,_⟩:=r.cells b L e wf af cs hb hg;refine⟨_,((c.toList.drop (L.off+off)).take n),hk,?_,?_,?_⟩
 .refine VRs.of_get ?_ ?_
  .simp;omega
  .intro j a ha;rw[List.getElem?_take]at ha;split at ha
   .rw[List.getElem?_drop]at ha;obtain⟨v',h5,h6⟩:=h4 _ _ ha;refine⟨v',?_,h6⟩;rw[List.getElem?_take_of_lt (by assumption),List.getElem?_drop];rw[Array.getElem?_toList,<- h5];congr 1;omega
   .cases ha
 all_goals grind[qcx]

def qDg{B:Nat->Prop}{h:Hp}{w:World}(r:Rel σ Z B h w){p:AV}{p':Value}(hp:VR σ Z p p'){k:AV->Prop}(hk:ldV h p k) :
  ∃c o v v',p' = .pointer (some ⟨c,o,none⟩)/\k v/\VR σ Z v v'/\w.cell? ⟨c,o,none⟩=some v':=by
 cases hp<;>try exact hk.elim
 .rename_i b o L hb;obtain⟨v,v',h1,h2,h3⟩:=qBl r hb hk
  grind
 .rename_i off base cs c arr hf hs;obtain⟨v,hv,hk⟩:=(jd _ _ _).1 hk;obtain⟨v',h1,h2⟩:=hs.get hv;obtain⟨⟨ty,fz,h3⟩,_⟩:=r.frz c arr hf;refine⟨c,base+off,v,v',rfl,hk,h2.vr,?_⟩;rw[qcx h3];rw[List.getElem?_take]at h1
  simp_all
def qzw{B:Nat->Prop}{h:Hp}{w:World}(r:Rel σ Z B h w){p:AV}{p':Value}(hp:VR σ Z p p'){n:Nat}{k:List AV->Prop}(hk:qkO h p n k) :
  ∃c o vs vs',p' = .pointer (some ⟨c,o,none⟩)/\k vs/\VRs σ Z vs vs'/\vs'.length=n/\(∀j v,vs'[j]?=some v->w.cell? ⟨c,o+j,none⟩=some v):=by
 cases hp<;>try exact hk.elim
 .rename_i b o L hb;obtain⟨vs,vs',h1,h2,h3,h4⟩:=qha r hb hk
  grind
 .rename_i off base cs c arr hf hs;obtain⟨h1,hk⟩:=(zL _ _ _).1 hk;obtain⟨h2,hk⟩:=(zH _ _ _).1 hk;obtain⟨⟨ty,fz,h3⟩,_⟩:=r.frz c arr hf;rw[List.length_drop]at h2;have hlen:=hs.length;refine⟨c,base+off,_,_,rfl,hk,((hs.drop off).take n).vr,?_,?_⟩
  all_goals grind[qcx]

theorem qdp{w:World}{k o n:Nat}{vs:List Value}(hl:vs.length=n)(h:∀j v,vs[j]?=some v->w.cell? ⟨k,o+j,none⟩=some v) :
  (loadCells ⟨k,o,none⟩ n).run P w = .ok vs.toArray w:=by
 grind[Go.run_loadCells_list,xV]

def qdr{k:Nat}{ty:TypeId}{fz:Nat×Nat}:∀(vs:List Value) (o:Nat) (w:World) (c:Array Value),w.heap[k]?=some (.cells c ty fz)->o+vs.length<=c.size->
  ∃c',Spl c o vs c'/\(w.setCells k o vs).heap=w.heap.setIfInBounds k (.cells c' ty fz)
 | [],o,w,c,h,_=>by
  refine⟨c,⟨rfl,λ_ _=>rfl,by simp_all⟩,?_⟩
  show w.heap=_
  grind
 | v::vs,o,w,c,h,hl=>by
  simp only[List.length_cons]at hl;have hlt:k<w.heap.size:=by grind
  have e1:(w.setCell ⟨k,o,none⟩ v).heap=w.heap.setIfInBounds k (.cells (c.setIfInBounds o v) ty fz):=by
   simp only[World.setCell]
   grind
  have h1:(w.setCell ⟨k,o,none⟩ v).heap[k]?=some (.cells (c.setIfInBounds o v) ty fz):=by
   rw[e1,Array.getElem?_setIfInBounds];grind
  obtain⟨c',hs,hw⟩:=qdr vs (o+1) _ _ h1 (by grind);refine⟨c',⟨by rw[hs.size];simp,?_,?_⟩,?_⟩
  .intro j hj;simp only[List.length_cons]at hj;rw[hs.out j (by omega),Array.getElem?_setIfInBounds,if_neg (by omega)]
  .intro j u hu;cases j with
   | zero =>
    simp at hu;subst hu;rw[hs.out _ (by omega),Array.getElem?_setIfInBounds];grind
   | succ j =>
    have:=hs.inn j u (by simp_all);rwa [show o+1+j=o+(j+1)from by omega]at this
  .rw[World.setCells,hw,e1]
   simp_all

def qeA(k:Nat):∀(vs:List Value) (o:Nat) (w:World),(w.setCells k o vs).os=w.os/\(w.setCells k o vs).output=w.output
 | [],_,_=>⟨rfl,rfl⟩
 | v::vs,o,w=>qeA k vs (o+1) (w.setCell ⟨k,o,none⟩ v)

def qxD(hσ:qae σ){B:Nat->Prop}{h:Hp}{w:World}(r:Rel σ Z B h w){b off:Nat}{L:Loc}(hb:Z b=some L){vs:List AV}{vs':List Value}(hv:VRs σ Z vs vs'){k:Hp->Prop}(hk:stK h b off vs k) :
  ∃h' w',k h'/\Rel σ Z B h' w'/\Kept Z B h w Z h' w'/\(storeCells ⟨L.blk,L.off+off,none⟩ vs').run P w = .ok () w':=by
 obtain⟨e,wf,af,cs,hg,hn⟩:=(zk _ _ _).1 hk;cases wf with
 | false=>simp_all
 | true =>
  have hn':(Bool.rec (motive:=λ_=>Prop) False (ju vs off cs (λcs'=>qdo h b (.cells e true af cs') k)) (qF vs):Prop):=hn
  cases hco:qF vs with
  | false=>rw[hco]at hn';simp_all
  | true =>
   rw[hco]at hn';obtain⟨hl,hn2⟩:=(jL _ _ _ _).1 hn';obtain⟨hf,hk⟩:=(qaC _ _ _ _).1 hn2;obtain⟨_,c,ty,fz,h1,h2,h3,h4,h5⟩:=r.cells b L e true af cs hb hg;have hlen:=hv.length;obtain⟨c',hs,hw⟩:=qdr vs' (L.off+off) w c h1 (by omega);obtain⟨r',k'⟩:=r.store hb hg hf off vs vs' hv hl h1 hs hw (qeA _ _ _ _);refine⟨_,w.setCells L.blk (L.off+off) vs',hk,r',k',?_⟩
   have:=run_storeCells_cells (P:=P) L.blk (L.off+off) vs' 0 w (λj hj=>by
     rw[qcx h1];simp;omega) (λj hj=>by
     rw[qiw h1];simp only[decide_eq_false_iff_not];exact h5 (by simp) _ (by omega)) (qfE hσ hv hco)
   omega

def qeW{B:Nat->Prop}{h:Hp}{w w1:World}(r:Rel σ Z B h w){e:Nat}{wf af:Bool}{cs:List AV}{c:Array Value}{ty:TypeId}(hc:∃z:List Value,c.toList=z/\VRs σ Z cs (z.take cs.length))
  {k:Nat->Hp->Prop} (hk:jz h (.cells e wf af cs) k) {fz:Nat×Nat} (hw:w1.heap=w.heap.push (.cells c ty fz)) (hfz:∀j,(j<c.size\/(e=0/\j=c.size))->¬(fz.1<=j/\j<fz.2):=by intro j _ hj;exact absurd hj.2 (Nat.not_lt_zero _)) (hio:w1.os=w.os/\w1.output=w.output:=by exact⟨rfl,rfl⟩) :
  ∃Z' h',k h.sz h'/\Rel σ Z' B h' w1/\Kept Z B h w Z' h' w1/\Z' h.sz=some ⟨w.heap.size,0,c.size,e⟩:=by
 obtain⟨z,rfl,hv⟩:=hc;have hl:=hv.length;simp at hl;obtain⟨r',k'⟩:=r.push e wf af cs c ty fz hfz hw hio (by omega) (by grind[VRs.get])
 grind[z7,Ren.add_self]

def Res(P:Program)(σ:Nat->Value)(Z:Ren)(B:Nat->Prop)(h:Hp)(w:World)(s:Sem Next)(k:AV->Hp->Prop):Prop :=
 ∃v v' h' Z' w',k v h'/\(s.run P w = .ok (.value v') w'\/(s.run P w = .ok .skip w'/\v'=undef))/\VR σ Z' v v'/\Rel σ Z' B h' w'/\Kept Z B h w Z' h' w'

theorem Res.pure{B:Nat->Prop}{h:Hp}{w:World}(r:Rel σ Z B h w){s:Sem Next}{k:AV->Hp->Prop}{v:AV}{v':Value}(hk:k v h)(hs:s.run P w = .ok (.value v') w)(hv:VR σ Z v v'):Res P σ Z B h w s k :=
 ⟨v,v',h,Z,w,hk,.inl hs,hv,r,Kept.refl _ _ _ _⟩

structure OrcOk (P:Program) (σ:Nat->Value) (orc:Orc):Prop where
 atoms:qae σ
 bin:∀op x y r,orc.bin op x y=some r->∀Z x' y',VR σ Z x x'->VR σ Z y y'->∃r',VR σ Z r r'/\∀(P:Program) t w,(binOp op t x' y').run P w = .ok r' w
 len:∀j r,orc.len j=some r->∃s,σ j = .string s/\∀Z,VR σ Z r (.int .i64 s.size)
 cv:∀q j r,orc.cv q j=some r->∃k n,σ j = .int k n/\∀Z,VR σ Z r (.int q (q.wrap n))
 prim:∀j,(∃k n,σ j = .int k n)\/(∃s,σ j = .string s)\/(∃b,σ j = .bool b)

def qfY{r r':Bool}(h:r=r'):VR σ Z (.b r) (.bool r'):=by subst h;exact .b _
def qti{op:BinOp}{q:IntKind}{x y:Int}{k:AV->Prop}(h:xo op q x y k)(t:TypeId)(w:World) :
  ∃r r',k r/\VR σ Z r r'/\(binOp op t (.int q x) (.int q y)).run P w = .ok r' w:=by
 have hne:∀{y:Int} {A:Prop},(Bool.rec (motive:=λ_=>Prop) A False (eqI y 0):Prop)->A/\y≠0:=by
  intro y A hh;rw[qgz]at hh;cases hc:(y==0)<;>simp_all
 cases op<;>simp only[xo,zA,qM,qd7]at h
 case add=>exact⟨_,_,h,.i _ _,by simp[binOp,Op.intArith]⟩
 case sub=>exact⟨_,_,h,.i _ _,by simp[binOp,Op.intArith];rfl⟩
 case mul=>exact⟨_,_,h,.i _ _,by simp[binOp,Op.intArith]⟩
 case quo=>obtain⟨h,hy⟩:=hne h;exact⟨_,_,h,.i _ _,by simp[binOp,Op.intDiv,hy]⟩
 case rem=>obtain⟨h,hy⟩:=hne h;exact⟨_,_,h,.i _ _,by simp[binOp,Op.intDiv,hy]⟩
 case and=>exact⟨_,_,h,.i _ _,by simp[binOp,Op.intBits]⟩
 case or=>exact⟨_,_,h,.i _ _,by simp[binOp,Op.intBits]⟩
 case xor=>exact⟨_,_,h,.i _ _,by simp[binOp,Op.intBits]⟩
 case andNot=>exact⟨_,_,h,.i _ _,by simp[binOp,Op.intBits]⟩
 case eql=>exact⟨_,_,h,qfY (qgz x y),by simp[binOp,Op.intCmp]⟩
 case neq=>exact⟨_,_,h,qfY (r':=x != y) (by rw[qgz];rfl),by simp[binOp,Op.intCmp]⟩
 case lss=>exact⟨_,_,h,qfY (qcZ x y),by simp[binOp,Op.intCmp]⟩
 case leq=>exact⟨_,_,h,qfY (r':=decide (x<=y)) (by rw[qcZ,<- decide_not];simp),by simp[binOp,Op.intCmp]⟩
 case gtr=>exact⟨_,_,h,qfY (qcZ y x),by simp[binOp,Op.intCmp]⟩
 case geq=>exact⟨_,_,h,qfY (r':=decide (y<=x)) (by rw[qcZ,<- decide_not];simp),by simp[binOp,Op.intCmp]⟩

def qxx{op:BinOp}(ho:op = .shl\/op = .shr){q q':IntKind}{x y:Int}{k:AV->Prop}(h:qkk op q x y k)(t:TypeId)(w:World) :
  ∃r r',k r/\VR σ Z r r'/\(binOp op t (.int q x) (.int q' y)).run P w = .ok r' w:=by
 cases y with
 | negSucc m=>exact h.elim
 | ofNat m =>
  have hn:¬((m:Int)<0):=by omega
  rcases ho with rfl|rfl
  .have h':(qw (min m q.bits) (λn=>xQ (q.wrap (x*p2 n)) (λr=>k (.i q r)))):=h
   rw[qD,zA,qrY]at h';exact⟨_,_,h',.i _ _,by simp[binOp,Op.shift,hn]⟩
  .have h':(qw (min m q.bits) (λn=>xQ (x.fdiv (p2 n)) (λr=>k (.i q r)))):=h
   rw[qD,zA,qrY]at h';exact⟨_,_,h',.i _ _,by simp[binOp,Op.shift,hn]⟩

def qt7{op:BinOp}{x y:List UInt8}{k:AV->Prop}(h:qbV op x y k)(t:TypeId)(w:World) :
  ∃r r',k r/\VR σ Z r r'/\(binOp op t (.string ⟨x.toArray⟩) (.string ⟨y.toArray⟩)).run P w = .ok r' w:=by
 have tl:∀l:List UInt8,(⟨l.toArray⟩:ByteArray).toList=l:=by simp_all
 cases op<;>simp only[qbV,qM]at h<;>try exact h.elim
 case add =>
  rw[qe7]at h
  by_cases hl:x.length+y.length<=9223372036854775807
  .simp only[hl,decide_true]at h;refine⟨_,_,h,.s _,?_⟩
   have h3:¬(IntKind.max .i64<(((⟨x.toArray⟩:ByteArray).size+(⟨y.toArray⟩:ByteArray).size:Nat):Int)):=by
    show¬((9223372036854775807:Int)<((x.length+y.length:Nat):Int));omega
   simp only[binOp,Op.stringOp];rw[if_neg h3];simp only[Sem.run_pure]
   congr 2
  simp_all
 case eql=>exact⟨_,_,h,qfY (qb8 x y),by simp[binOp,Op.stringOp,tl]⟩
 case neq=>exact⟨_,_,h,qfY (r':=!(x==y)) (by rw[qb8]),by simp[binOp,Op.stringOp,tl]⟩
 case lss=>exact⟨_,_,h,qfY (qj9 x y),by simp[binOp,Op.stringOp,tl]⟩
 case leq=>exact⟨_,_,h,qfY (r':=(Op.bytesLess x y||x==y)) (by rw[qj9,qb8]),by simp[binOp,Op.stringOp,tl]⟩
 case gtr=>exact⟨_,_,h,qfY (r':=!(Op.bytesLess x y||x==y)) (by rw[qj9,qb8]),by simp[binOp,Op.stringOp,tl]⟩
 case geq=>exact⟨_,_,h,qfY (r':=!(Op.bytesLess x y)) (by rw[qj9]),by simp[binOp,Op.stringOp,tl]⟩
end Go.Kc
end
