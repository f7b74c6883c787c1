/- Part 6 of the abstract machine and of the functions' walks. Conditions: with each theorem. -/
import Derived.Test.YtoekfdofbagoiaaGreatDoorK5
import GoSem.ClaimChange
import Derived.ChangeArms
import Derived.ReadAgain
import Derived.ChangeOld
import Derived.ChangeBears
import Derived.OpenShut
import Derived.RecoverIn
import Derived.Lib.Join
import Derived.Below
import Derived.Lib.AppendIntMem
import Derived.Lib.ItoaLen
set_option maxHeartbeats 4000000
set_option linter.unusedSectionVars false
set_option linter.unusedSimpArgs false
set_option linter.unusedVariables false
set_option linter.unnecessarySimpa false
section
namespace Go.Kc
variable [Cur]
variable {P:Program} {env:Tr IFn} {ho:qcP}

inductive OkT (P:Program):Nat->Nat->Tr IFn->Prop where
 | leaf (a b:Nat):OkT P a b .leaf
 | no (a b:Nat) {l r:Tr IFn}:OkT P (2*a) (a+b) l->OkT P (2*a) (2*a+b) r->OkT P a b (.node none l r)
 | fn (a b:Nat) {i:IFn} {l r:Tr IFn}:xA P b i=true->OkT P (2*a) (a+b) l->OkT P (2*a) (2*a+b) r->OkT P a b (.node (some i) l r)

omit [Cur] in
theorem OkT.get{a b:Nat}{t:Tr IFn}(h:OkT P a b t):∀n i,t.get n=some i->xA P (a*n+b) i=true:=by
 induction h with
 | leaf=>intro n i h;simp at h
 | no a b hl hr ihl ihr =>
  intro n i h;cases n with
  | zero=>rw[Tr.get_node] at h;cases h
  | succ m =>
   rcases Nat.mod_two_eq_zero_or_one m with h0|h0
   ·obtain⟨j,rfl⟩:∃j,m=2*j:=⟨m / 2,by omega⟩
    rw[Tr.get_node] at h;simp only[h0,if_true,Nat.mul_div_cancel_left j (Nat.zero_lt_two)] at h;have:=ihl j i h;rwa [show 2*a*j+(a+b)=a*(2*j+1)+b from by rw[Nat.mul_add,Nat.mul_one,← Nat.mul_assoc,Nat.mul_comm a 2];omega] at this
   ·obtain⟨j,rfl⟩:∃j,m=2*j+1:=⟨m / 2,by omega⟩
    rw[Tr.get_node] at h;simp only[h0,Nat.one_ne_zero,if_false,show (2*j+1) / 2=j from by omega] at h
    have:=ihr j i h;rwa [show 2*a*j+(2*a+b)=a*(2*j+1+1)+b from by rw[Nat.mul_add,Nat.mul_add,Nat.mul_one,← Nat.mul_assoc,Nat.mul_comm a 2];omega] at this
 | fn a b hc hl hr ihl ihr =>
  intro n i h;cases n with
  | zero=>rw[Tr.get_node] at h;cases h;simpa using hc
  | succ m =>
   rcases Nat.mod_two_eq_zero_or_one m with h0|h0
   ·obtain⟨j,rfl⟩:∃j,m=2*j:=⟨m / 2,by omega⟩
    rw[Tr.get_node] at h;simp only[h0,if_true,Nat.mul_div_cancel_left j (Nat.zero_lt_two)] at h;have:=ihl j i h;rwa [show 2*a*j+(a+b)=a*(2*j+1)+b from by rw[Nat.mul_add,Nat.mul_one,← Nat.mul_assoc,Nat.mul_comm a 2];omega] at this
   ·obtain⟨j,rfl⟩:∃j,m=2*j+1:=⟨m / 2,by omega⟩
    rw[Tr.get_node] at h;simp only[h0,Nat.one_ne_zero,if_false,show (2*j+1) / 2=j from by omega] at h
    have:=ihr j i h;rwa [show 2*a*j+(2*a+b)=a*(2*j+1+1)+b from by rw[Nat.mul_add,Nat.mul_add,Nat.mul_one,← Nat.mul_assoc,Nat.mul_comm a 2];omega] at this

omit [Cur] in
theorem Kept.same{ρ ρ':Ren}{h h':Hp}{w w':World}(k:Kept ρ (low w.heap.size) h w ρ' h' w')(may:MemPlace->Prop):w.keptBut w' may:=by
 refine⟨k.io.1,k.io.2,fun i hi=>?_⟩
 have e:=k.pres i hi;rw[e];cases w.heap[i]? with
 | none=>rfl
 | some o=>cases o<;>simp
noncomputable def qi4(w:World):Nat->Option (Array Value):=fun k=>match w.heap[k]? with|some (.cells arr _ _)=>some arr|_=>none
omit [Cur] in
theorem qby{w:World}{k:Nat}{arr:Array Value}:qi4 w k=some arr↔∃ty fz,w.heap[k]?=some (.cells arr ty fz):=by
 show (match w.heap[k]? with|some (.cells arr _ _)=>some arr|_=>none)=some arr↔_
 cases w.heap[k]? with
 | none=>simp
 | some o=>cases o<;>simp
noncomputable def ice(w:World) [t:TabOk w]:Ren:=⟨fun _=>none,⟨qi4 w,fun k a h=>qby.2 (t.ok k a h)⟩,0⟩
omit [Cur] in
theorem qi5{w:World} [TabOk w]{k:Nat}{arr:Array Value}:(ice w).frz k=some arr↔∃ty fz,w.heap[k]?=some (.cells arr ty fz):=qby
theorem Rel.ice(w:World) [TabOk w]:Rel σ0 (ice w) (low w.heap.size) H0 w :=
 ⟨(fun _ _ hb=>by cases hb),(fun _ _ _ _ _ _ hb=>by cases hb),(fun _ _ _ hb=>by cases hb),(fun _ _ _ _ _ hb=>by cases hb),(fun _ _ _ hb=>by cases hb),(fun _ _ _ _ _ hb=>by cases hb),(fun _ _ hb=>by cases hb),(fun _ h=>h),
  (fun k arr hk=>⟨qi5.1 hk,fun _ _ _ hb=>by cases hb⟩),⟨Nat.le_refl _,fun _ _ hb=>by cases hb⟩⟩
theorem qX.law{f:Nat}{vs:List AV}{args:Array Value}(hp:qX P f vs (.b true))(hc:qao P f)(w:World) [TabOk w](ha:VRs σ0 (ice w) vs args.toList):Calls P f args w fun e w'=>e = .returned (.bool true)∧∀may,w.keptBut w' may:=by
 have h:=(hp H0 (fun v _=>v = .b true) rfl).2 (ice w) (low w.heap.size) w args (Rel.ice w) ha
 rcases h with⟨_,h⟩|⟨v,w',h,_⟩
 ·refine h.mono fun e w' hh=>?_
  obtain⟨v,v',h',ρ',rfl,rfl,hv,_,hk⟩:=hh;cases hv;exact⟨rfl,fun may=>hk.same may⟩
 ·obtain⟨fn,h1,h2,h3⟩:=hc;rw[zW h1 h2 h3] at h;cases h
omit [Cur] in
theorem qgl{f:Nat}{i:IFn}(hc:xA P f i=true):qao P f:=by
 unfold xA at hc;split at hc<;>try (cases hc;done)
 rename_i fn hfn;simp only[Bool.and_eq_true,bne_iff_ne] at hc;obtain⟨⟨hname,hbody⟩,hres⟩:=hc;split at hbody<;>try (cases hbody;done)
 rename_i c hcb;exact⟨fn,hfn,hname,by rw[hcb];rfl⟩
end Go.Kc
end
section
namespace Go.Kc
variable [Cur]
section
variable {H:Type} {enc:TypeId×Value->H} {P:Program} {w:World} {α β:Type} {t e:TypeId}
omit [Cur] in
theorem CRs.app{φ:Nat->Option (Array Value)}:∀{as bs:List AV} {us vs:List Value},CRs σ0 φ as us->CRs σ0 φ bs vs->CRs σ0 φ (as++bs) (us++vs)
 | _,_,_,_,.nil,h=>h
 | _,_,_,_,.cons v l v' l' h hs,h2=>.cons _ _ _ _ h (CRs.app hs h2)
def qaf(enc:TypeId×Value->H)(P:Program)(w:World)(t:TypeId)(I:α->Prop)(E:α->List AV):Prop :=
 ∀(fuel:Nat) (cs:List Value) x,DataW.trod enc P w 0 (fun _=>true) true fuel t cs=some x->∃a,I a∧CRs σ0 (qi4 w) (E a) cs
omit [Cur] in
theorem qmR{k:IntKind}(ht:P.underlying t=some (.int k)):qaf enc P w t (fun n:Int=>(Lit.int k n).wf=true) (fun n=>[.i k n]):=by
 intro fuel cs x h;obtain⟨n,rfl,_,hw⟩:=DataW.trod_int ht h;exact⟨n,hw,.cons _ _ _ _ (.i _ _) .nil⟩
omit [Cur] in
theorem qmS(ht:P.underlying t=some .string):qaf enc P w t (fun s:List UInt8=>s.length<=maxLen) (fun s=>[.s s]):=by
 intro fuel cs x h;obtain⟨s,rfl,_,hw⟩:=DataW.trod_string ht h;obtain⟨⟨l⟩⟩:=s;exact⟨l,hw,.cons _ _ _ _ (.s _) .nil⟩
omit [Cur] in
theorem qiz{a:Addr}{v:Value}(h:w.cell? a=some v):a.spot=none∧∃arr ty fz,w.heap[a.block]?=some (.cells arr ty fz)∧arr[a.off]?=some v:=by
 unfold World.cell? at h;split at h
 ·rename_i c ty fz hc;split at h
  ·cases h
  ·rename_i hs;refine⟨by simpa using hs,c,ty,fz,hc,h⟩
 ·cases h
omit [Cur] in
theorem qke{I:α->Prop}{E:α->List AV}{m:Nat}(ht:P.underlying t=some (.slice e))(he:qaf enc P w e I E)(hE:∀a,(E a).length=m)(hc:P.cellsOf e=m)(hm:0<m) :
  qaf enc P w t (fun l:List α=>l.length<=maxLen∧∀a ∈ l,I a) (fun l=>[.fz l.length (l.flatMap E)]):=by
 intro fuel cs x h;rcases DataW.trod_slice ht h with⟨rfl,_⟩|⟨a,len,cap,elems,rest,n,_,rfl,_,_,hl,hmx,hlen,hel,hsp,_⟩
 ·exact⟨[],⟨Nat.zero_le _,fun _ h=>by cases h⟩,.cons _ _ _ _ (.fz0 none) .nil⟩
 obtain⟨hrl,hr⟩:=hsp rfl;rcases Nat.eq_zero_or_pos cap with h0|hpos
 ·subst h0;obtain rfl:len=0:=by omega
  exact⟨[],⟨Nat.zero_le _,fun _ h=>by cases h⟩,.cons _ _ _ _ (.fz0 (some a)) .nil⟩
 have first:∃v,w.cell? a=some v:=by
  have:∃cs',w.cells? 0 (a.add (0*P.cellsOf e)) (P.cellsOf e)=some cs':=by
   rcases Nat.eq_zero_or_pos len with h1|h1
   ·have:=hr 0 (by omega);have hlt:0<rest.length:=by omega
    rw[zzE hlt,Option.bind_eq_some_iff] at this;obtain⟨c,hc',_⟩:=this;subst h1;exact⟨c,hc'⟩
   ·have:=hel 0 h1;have hlt:0<elems.length:=by omega
    rw[zzE hlt,Option.bind_eq_some_iff] at this;obtain⟨c,hc',_⟩:=this;exact⟨c,hc'⟩
  obtain⟨cs',h2⟩:=this;obtain⟨_,q1,q2⟩:=World.cells?_some h2;have:=q2 0 (by omega);rw[zzE (by omega)] at this;simp only[Nat.zero_mul,Addr.add,if_true] at this;exact⟨_,this⟩
 obtain⟨v0,hv0⟩:=first
 obtain⟨hs,arr,ty,fz,hb,_⟩:=qiz hv0
 have key:∀k,k<=len->∃l:List α,l.length=k∧(∀b ∈ l,I b)∧CRs σ0 (qi4 w) (l.flatMap E) ((arr.toList.drop a.off).take (k*m)):=by
  intro k
  induction k with
  | zero=>intro _;exact⟨[],rfl,(fun _ h=>by cases h),by simpa using .nil⟩
  | succ k ih =>
   intro hk;obtain⟨l,h1,h2,h3⟩:=ih (by omega);have hk':=hel k (by omega);have hlt:k<elems.length:=by omega
   rw[zzE hlt,Option.bind_eq_some_iff] at hk';obtain⟨c,hcs,htr⟩:=hk';obtain⟨_,q1,q2⟩:=World.cells?_some hcs;obtain⟨b,hb1,hb2⟩:=he _ _ _ htr
   have e1:c=((arr.toList.drop a.off).drop (k*m)).take m:=by
    refine List.ext_getElem? fun j=>?_
    by_cases hj:j<m
    ·have:=q2 j (by omega);rw[← this]
     have e2:w.cell? ((a.add (k*P.cellsOf e)).add j)=arr[a.off+(k*m+j)]?:=by
      have ha:(a.add (k*P.cellsOf e)).add j=⟨a.block,a.off+(k*m+j),none⟩:=by
       unfold Addr.add;rw[hc];split
       ·split
        ·rename_i h4 h5;rw[h4,h5];cases a;simp_all
        ·rename_i h4 h5;rw[h4];simp[hs]
       ·split
        ·rename_i h4 h5;rw[h5];cases a;simp_all
        ·simp;omega
      rw[ha];simp[World.cell?,hb]
     rw[e2,List.getElem?_take_of_lt hj,List.getElem?_drop,List.getElem?_drop];simp[Array.getElem?_toList]
    ·rw[List.getElem?_eq_none (by omega),List.getElem?_eq_none];simp;omega
   refine⟨l++[b],by simp[h1],fun x hx=>?_,?_⟩
   ·rcases List.mem_append.1 hx with hx|hx
    ·exact h2 x hx
    ·obtain rfl:=List.mem_singleton.1 hx;exact hb1
   ·rw[List.flatMap_append,Nat.succ_mul,List.take_add,← e1];simpa using h3.app hb2
 obtain⟨l,h1,h2,h3⟩:=key len (Nat.le_refl _);refine⟨l,⟨by omega,h2⟩,.cons _ _ _ _ ?_ .nil⟩
 have hfl:(l.flatMap E).length=len*m:=by
  rw[← h1];clear h1 h2 h3
  induction l with
  | nil=>simp
  | cons x l ih=>simp[hE,ih,Nat.succ_mul,Nat.add_comm]
 obtain⟨blk,off,spot⟩:=a;cases hs;rw[h1];exact .fz len off cap _ blk arr hl (qby.2 ⟨ty,fz,hb⟩) (by rw[hfl];exact h3)
omit [Cur] in
theorem qaf.map{I:α->Prop}{E:α->List AV}{J:β->Prop}{F:β->List AV}(h:qaf enc P w t I E)(g:α->β)(hg:∀a,I a->J (g a)∧F (g a)=E a):qaf enc P w t J F:=by
 intro fuel cs x hx;obtain⟨a,ha,h1⟩:=h _ _ _ hx;exact⟨g a,(hg a ha).1,by rw[(hg a ha).2];exact h1⟩
omit [Cur] in
theorem qaf.agg [TabOk w]{I:α->Prop}{E:α->List AV}(h:qaf enc P w t I E){v:Value}{d:DataW H}{p:List MemPlace}(ha:∃cs,v = .agg cs)(hd:DataW.Trod enc P w 0 (fun _=>true) true t v d p):∃a,I a∧VR σ0 (ice w) (.agg (E a)) v:=by
 obtain⟨cs,rfl⟩:=ha;obtain⟨fuel,hd⟩:=hd;obtain⟨a,h1,h2⟩:=h _ _ _ hd;exact⟨a,h1,.agg _ _ h2.vr⟩
omit [Cur] in
theorem qcH{w':World}(hk:∀may,w.keptBut w' may){p:MemPlace}(hp:p.block<w.heap.size):w.sameAt w' p:=by
 have h:=(hk fun _=>False).2.2 p.block hp
 have h0:w.heap[p.block]?=some w.heap[p.block]:=Array.getElem?_eq_getElem hp;cases p with
 | cell b off =>
  show w'.cell? ⟨b,off,none⟩=w.cell? ⟨b,off,none⟩;simp only[MemPlace.block] at h h0 hp;unfold World.cell?;split at h
  ·rename_i c1 t1 f1 c2 t2 f2 e1 e2;dsimp only;rw[e1,e2];simpa using h.2.2.2 off (fun hh=>hh)
  ·rename_i e1 e2;dsimp only;rw[e1,e2]
  ·dsimp only;rw[h]
 | map b =>
  show w'.heap[b]?=w.heap[b]?;simp only[MemPlace.block] at h h0 hp;split at h
  ·rename_i c1 t1 f1 c2 t2 f2 e1 e2
   have:c2=c1:=by
    apply Array.ext_getElem?;intro j;exact h.2.2.2 j (fun hh=>hh)
   rw[e1,e2,h.1,h.2.1,this]
  ·rename_i e1 e2;rcases h with hh|⟨h1,h2⟩
   ·exact hh.elim
   ·rw[e1,e2,h1,h2]
  ·exact h
omit [Cur] in
theorem Trod.stay{w':World}{T:TypeId->Prop}(K:Kids P T)(hz:∀t e,T t->P.underlying t=some (.slice e)->0<P.cellsOf e){ts:List TypeId}{vs:List Value}{ds:List (DataW H)}{ps:List MemPlace}(hT:∀t ∈ ts,T t)
  (h:DataW.TrodAll enc P w 0 (fun _=>true) true ts vs ds ps) (hk:∀may,w.keptBut w' may):DataW.TrodAll enc P w' 0 (fun b=>decide (b<w.heap.size)) true ts vs ds ps:=by
 have hlt:=DataW.TrodAll.lt h;have h1:DataW.TrodAll enc P w 0 (fun b=>decide (b<w.heap.size)) true ts vs ds ps:=h.respare K hz hT fun p hp=>decide_eq_true (hlt p hp)
 clear h
 induction ts generalizing vs ds ps with
 | nil =>
  cases vs<;>cases ds<;>first|exact h1|exact h1.elim
 | cons t ts ih =>
  cases vs with
  | nil=>exact h1.elim
  | cons v vs =>
   cases ds with
   | nil=>exact h1.elim
   | cons d ds =>
    obtain⟨p,q,⟨fuel,h2⟩,h3,e⟩:=h1;subst e;refine⟨p,q,⟨fuel,DataW.trod_carry _ _ _ _ h2 fun x hx=>qcH hk (hlt x (List.mem_append_left _ hx))⟩,?_,rfl⟩
    exact ih (fun t ht=>hT t (List.mem_cons_of_mem _ ht)) (fun x hx=>hlt x (List.mem_append_right _ hx)) h3
end
end Go.Kc
namespace Go.Kc
variable [Cur]
omit [Cur] in
theorem qjL{P:Program}{H:Type}{enc:TypeId×Value->H}{f:Func}{s:ChangeSpec}{apart fresh handsOn:Bool}{W W':World}{args:Array Value}{v:Value}{ds gs:List (DataW H)}{before pv:List MemPlace}
  (hW:DataW.Whole enc P f.params.toList s.vars apart W args.toList ds gs before) (hs:(s.fn H (ds++gs)).args=ds)
  {T:TypeId->Prop} (K:Kids P T) (hz:∀t e,T t->P.underlying t=some (.slice e)->0<P.cellsOf e) (hT:∀t ∈ f.params.toList,T t)
  (hres:∀(b:Nat) (sp:Nat->Bool) (hd:Bool),DataW.TrodAll enc P W' b sp hd f.resultTypes.toList (v.resultList f.resultTypes.size) (s.fn H (ds++gs)).results [])
  (hvars:∀sp:Nat->Bool,DataW.TrodVars enc P W' sp s.vars (s.fn H (ds++gs)).vars pv)
  (hk:∀may,W.keptBut W' may):s.post enc P f apart fresh handsOn false W args v W':=by
 have hW':=hW;obtain⟨p,q,hA,_,_⟩:=hW';exact⟨ds,gs,before,[],p,pv,hW,hres _ _ _,by rw[hs];exact Trod.stay K hz hT hA hk,hvars _,hk _,fun h=>by cases h⟩
end Go.Kc
end
section
namespace Go.Kc
variable [Cur]
variable {P:Program} {env:Tr IFn} {ho:qcP}
def kOf:IntKind->Nat
 | .i8=>0 | .i16=>1 | .i32=>2 | .i64=>3 | .u8=>4 | .u16=>5 | .u32=>6 | .u64=>7
omit [Cur] in
theorem qeo{a b:IntKind}(h:Nat.beq (kOf a) (kOf b)=true):a=b:=by
 cases a<;>cases b<;>first|rfl|cases h
def qlh:Int->Int->Bool
 | .ofNat a,.ofNat b=>Nat.beq a b
 | .negSucc a,.negSucc b=>Nat.beq a b
 | _,_=>false
omit [Cur] in
theorem qem:∀{a b:Int},qlh a b=true->a=b
 | .ofNat a,.ofNat b,h=>by rw[Nat.eq_of_beq_eq_true h]
 | .negSucc a,.negSucc b,h=>by rw[Nat.eq_of_beq_eq_true h]
 | .ofNat _,.negSucc _,h=>by cases h
 | .negSucc _,.ofNat _,h=>by cases h
omit [Cur] in
theorem qef{x y:List UInt8}(h:eqS x y=true):x=y:=by
 rw[zZ] at h;simpa using h
noncomputable def tt(b:Bool):Prop:=Bool.rec (motive:=fun _=>Prop) False True b
omit [Cur] in
theorem qn3{b:Bool}(h:tt b):b=true:=by cases b with|true=>rfl|false=>exact h.elim
end Go.Kc
end
section
namespace Go.Kc
variable [Cur]
variable {P:Program}
def Tr.o(l r:Tr IFn):Tr IFn:=.node none l r
def Tr.f(i:IFn):Tr IFn:=.node (some i) .leaf .leaf
def Tr.g(i:IFn)(l r:Tr IFn):Tr IFn:=.node (some i) l r
def tbl{α:Type}(n:Nat)(l:List α)(row:Nat->α->List ROp):IFn :=
 ⟨[.tmp 0],.seq (.r [.m 0 .N]) (.seq (.r ((l.zipIdx.flatMap fun p=>row p.2 p.1)++[.q (2*n+1) (.buildS n [.s [],.nils] ((List.range n).map fun i=>(2*i,2,.t (2*i+2)))),.n 0 (2*n+1)])) .ret)⟩
def qoW(xs:List (List UInt8)):IOp:=.buildS xs.length [.s []] (xs.zipIdx.map fun q=>(q.2,1,.c (.s q.1)))
theorem qmY.own{f:Nat}{vs:List AV}{v:AV}{bs:List Blk}(ho:qmY P f vs v bs)(hc:zq vs=true):Own P f vs v bs:=fun h k hk=>ho h vs k (Frzs.self hc) hk
end Go.Kc
end
section
namespace Go.Kc
variable [Cur]
variable {P:Program} {n:Nat} {h:Hp}
def bsy(r:Loop):Loop:={ r with state:=.busy }
def rdy(r:Loop):Loop:={ r with state:=.ready,pending:=none }
def dne(r:Loop)(c:Code):Loop:={ r with state:=.done,pending:=some c }
structure LoopOk (P:Program) (r:Loop) (ps:List Nat) (ai bi:ICode):Prop where
 params:r.params.toList=ps
 code:∃nt,qm P nt r.assign ai=true∧qm P nt r.body bi=true∧nt<=r.tmps.size∧∀p ∈ ps,p<nt
 flat:xf ai=true∧xf bi=true
 real:∀j,r.assign≠.goto j
def qh1(P:Program)(r:Loop)(ps:List Nat)(ai bi:ICode):Prop:=∀r',xD r r'->LoopOk P r' ps ai bi
noncomputable def qfz:List Nat->List AV->Tr AV->Tr AV
 | p::ps,u::us,t=>qfz ps us (t.set p u)
 | _,_,t=>t
def qnp(P:Program)(n b:Nat)(bi:ICode)(Q:X->Tr AV->Hp->Prop)(x:X)(t:Tr AV)(h:Hp):Prop :=
 onX x (∃r ts R,h.tr.get b=some (.map (qW r ts))∧r.state = .ready∧(∀q,xD r q->xD R (bsy q))∧S P n bi Q t (h.put b (.map (qW R ts)))) (fun _=>False) False
def qk3:X->Loop->Loop
 | .normal,q=>rdy q
 | .exit id,q=>dne q (.exit id)
 | .ret,q=>dne q .ret
def goes:X->Bool
 | .normal=>true
 | _=>false
def qnq(b:Nat)(k:AV->Hp->Prop)(x:X)(_:Tr AV)(h:Hp):Prop :=
 ∃r ts R,h.tr.get b=some (.map (qW r ts))∧(∀q,xD r q->xD R (qk3 x q))∧k (.b (goes x)) (h.put b (.map (qW R ts)))
omit [Cur] in
theorem qeu{ρ:Ren}:∀{ps:List Nat} {us:List AV} {t:Tr AV} {tm:Array Value} {args:List Value},VRs σ0 ρ us args->ps.length=us.length->(∀p ∈ ps,p<tm.size)->TR σ0 ρ t tm->
  TR σ0 ρ (qfz ps us t) ((ps.zip args).foldl (fun tm (p,v)=>tm.setIfInBounds p v) tm)
 | [],[],_,_,_,hv,_,_,ht=>by cases hv;exact ht
 | [],_::_,_,_,_,_,hl,_,_=>by grind
 | _::_,[],_,_,_,_,hl,_,_=>by grind
 | p::ps,u::us,t,tm,args,hv,hl,hp,ht=>by
  cases hv with
  | cons _ _ v vs h1 h2 =>
   have hlt:=hp p (by simp);refine qeu (ps:=ps) h2 (by simp_all) (fun q hq=>by simp_all) (fun j x hj=>?_)
   rw[Tr.get_set] at hj;split at hj
   ·simp_all
   ·rename_i he;obtain⟨g1,g2⟩:=ht j x hj;refine⟨by simp_all,?_⟩
    rw[Array.getD_eq_getD_getElem?,Array.getElem?_setIfInBounds,if_neg (by omega),← Array.getD_eq_getD_getElem?];exact g2
omit [Cur] in
theorem qnZ{ρ:Ren}{tm:Array Value}:∀{ts:List (Nat×AV)},(∀p ∈ ts,p.1<tm.size∧VR σ0 ρ p.2 (tm.getD p.1 undef))->TR σ0 ρ (mkT ts) tm :=
 fun h j v hj=>h (j,v) (qav hj)
omit [Cur] in
theorem qeq:∀{ts:List (Nat×AV)},(ts.map Prod.fst).Nodup->∀{p:Nat×AV},p ∈ ts->(mkT ts).get p.1=some p.2
 | [],_,_,hp=>by cases hp
 | q::ts,hn,p,hp=>by
  simp only[mkT,Tr.get_set];have hn2:=List.nodup_cons.1 hn;rcases List.mem_cons.1 hp with rfl|hp
  ·rw[if_pos rfl]
  ·rw[if_neg (by grind)];exact qeq hn2.2 hp
omit [Cur] in
theorem qar:∀(l:List (Nat×Value)) (tm:Array Value),(l.foldl (fun tm (p,v)=>tm.setIfInBounds p v) tm).size=tm.size
 | [],_=>rfl
 | p::l,tm=>by rw[List.foldl_cons,qar l];simp
theorem SY.mkL{b:Nat}{us:List AV}{k:AV->Hp->Prop}{r:Loop}{ts:List (Nat×AV)}{ps:List Nat}{ai bi:ICode}(hg:h.tr.get b=some (.map (qW r ts)))(hok:qh1 P r ps ai bi)(hfl:h.fl<=b)(hbs:b<h.sz)(hl:ps.length=us.length)
  (hA:S P h.sz ai (qnp P h.sz b bi (qnq b k)) (qfz ps us (mkT ts)) h):SY P b us h k:=by
 intro ρ B w args L hL rl hargs;obtain⟨L0,ob,hob,hrec⟩:=rl.maps b L _ hL hg;obtain⟨q,rfl,hlk,hts⟩:=hrec.rec';have hokq:=hok q hlk;obtain⟨nt,hca,hcb,hnt,hps⟩:=hokq.code
 have hsz:args.size=q.params.size:=by
  have:=hargs.length;have h2:q.params.size=ps.length:=by rw[← hokq.params];simp
  rw[h2,hl,this];simp
 refine⟨q.fn,_,q.assign,q.body,run_yield hob hsz,fun ro=>roundIn_of_wpIn trivial ?_⟩
 have hfold:(q.params.zip args).foldl (fun tmps (t,a)=>tmps.setIfInBounds t a) q.tmps=(ps.zip args.toList).foldl (fun tm (p,v)=>tm.setIfInBounds p v) q.tmps:=by
  rw[← Array.foldl_toList,Array.toList_zip,hokq.params]
 rw[hfold]
 have hT:TR σ0 ρ (qfz ps us (mkT ts)) ((ps.zip args.toList).foldl (fun tm (p,v)=>tm.setIfInBounds p v) q.tmps) :=
  qeu hargs hl (by grind) (qnZ hts)
 have hS:=hA nt q.assign hca (Nat.le_refl _) (some L.blk) (.inr hokq.flat.1) ρ B w { tmps:=(ps.zip args.toList).foldl (fun tm (p,v)=>tm.setIfInBounds p v) q.tmps,defers:=[] } hT (by rw[qar];omega) rl
 refine wpIn_mono hS ?_;rintro e a1 w1 ⟨x1,t1,h1,ρ1,rs,hx,hq,ht1,hs1,hd1,hm,r1,k1⟩;cases hx with
 | exit id=>exact hq.elim
 | ret=>exact hq.elim
 | normal =>
  obtain⟨r',ts1,R',hg1,hrr,hRR,hB⟩:=hq;have r1:=r1.lessB (B:=B) fun k hk=>.inl hk
  have hL1:ρ1 b=some L:=by grind[Kep.ext]
  obtain⟨_,ob1,hob1,hrec1⟩:=r1.maps b L _ hL1 hg1;obtain⟨q1,rfl,hlk1,hts1⟩:=hrec1.rec';refine⟨w1.putObj L.blk (.loop (Go.Kc.bsy q1)),run_beginRound hob1 (hlk1.state.trans hrr),?_⟩;obtain⟨r2,k2⟩:=r1.putMap (w':=w1.putObj L.blk (.loop (Go.Kc.bsy q1))) hL1 hg1 (by rw[k1.fl];exact hfl) hob1 (es':=qW R' ts1) (.inr (.inr (.inl ⟨_,_,_,rfl,rfl,hRR _ hlk1,hts1⟩))) rfl ⟨rfl,rfl⟩;have hSb:=hB nt q.body hcb k1.szle (some L.blk) (.inr hokq.flat.2) ρ1 B _ a1 ht1 hs1 r2;refine wpIn_mono hSb ?_;rintro e a3 w3 ⟨x3,t3,h3,ρ3,rs3,hx3,hq3,ht3,hs3,hd3,hm3,r3,k3⟩;have r3:=r3.lessB (B:=B) fun k hk=>.inl hk
  have kk:=(k1.trans (k2.kep k1.szle)).trans k3;obtain⟨r',ts',R3,hg3,hR3,hq3⟩:=hq3;have hL3:ρ3 b=some L:=by grind[Kep.ext]
  obtain⟨_,ob3,hob3,hrec3⟩:=r3.maps b L _ hL3 hg3;obtain⟨q3,rfl,hlk3,hts3⟩:=hrec3.rec'
  have fin:∀(lq:Loop) (y:Bool),xD R3 lq->lq.tmps=q3.tmps->k (.b y) (h3.put b (.map (qW R3 ts')))->(∃v v0 h' ρ',Ending.returned (Value.bool y) = .returned v0∧k v h'∧VR σ0 ρ' v v0∧Rel σ0 ρ' B h' (w3.putObj L.blk (.loop lq))∧Kept ρ B h w ρ' h' (w3.putObj L.blk (.loop lq))):=by
   intro lq y hlp htm hk;obtain⟨r4,k4⟩:=r3.putMap (w':=w3.putObj L.blk (.loop lq)) hL3 hg3 (by rw[kk.fl];exact hfl) hob3 (es':=qW R3 ts') (.inr (.inr (.inl ⟨_,_,_,rfl,rfl,hlp,by rw[htm];exact hts3⟩))) rfl ⟨rfl,rfl⟩
   exact⟨.b y,.bool y,_,ρ3,rfl,hk,.b _,r4,(kk.trans (k4.kep kk.szle)).kept rl.dn.1⟩
  have hlf:=hR3 q3 hlk3;cases hx3 with
  | normal=>exact⟨_,_,run_endRound none hob3,fin (Go.Kc.rdy q3) true hlf rfl hq3⟩
  | exit id=>exact⟨_,_,run_endRound (some (.exit id)) hob3,fin (dne q3 (.exit id)) false hlf rfl hq3⟩
  | ret=>exact⟨_,_,run_endRound (some .ret) hob3,fin (dne q3 .ret) false hlf rfl hq3⟩
def qkX(b:Nat)(Q:X->Tr AV->Hp->Prop)(t:Tr AV)(_:AV)(h:Hp):Prop :=
 ∃r ts,h.tr.get b=some (.map (qW r ts))∧r.state≠.busy ∧
  match r.pending with
  | none=>Q .normal t (h.put b .dead)
  | some .ret=>Q .ret t (h.put b .dead)
  | some (.exit id)=>Q (.exit id) t (h.put b .dead)
  | _=>False
def rfK(P:Program)(ps:List Nat)(ai bi:ICode)(Q:X->Tr AV->Hp->Prop)(t:Tr AV)(ts:List (Nat×AV))(h:Hp)(g:AV):Prop :=
 match g with
 | .fn f first cap=>qao P f∧∀r0,r0.state = .ready->r0.pending=none->LoopOk P r0 ps ai bi->SC P f (first++(.yl h.sz::cap)) (h.push (.map (qW r0 ts))) (qkX h.sz Q t)
 | _=>False
def qoO(P:Program)(ps:List Nat)(ai bi:ICode)(Q:X->Tr AV->Hp->Prop)(t:Tr AV)(ts:List (Nat×AV))(h:Hp)(g:AV):Prop :=
 match g with
 | .fn f first cap=>qao P f∧∀r0,r0.state = .ready->r0.pending=none->LoopOk P r0 ps ai bi->∃R,xD R r0∧SC P f (first++(.yl h.sz::cap)) (h.push (.map (qW R ts))) (qkX h.sz Q t)
 | _=>False
theorem S.rangeFL{j:Nat}{g:O}{ps:List Nat}{ai bi:ICode}{Q:X->Tr AV->Hp->Prop}{t:Tr AV}{h:Hp}{ts:List (Nat×AV)}(hfl:h.fl<=h.sz)(htg:∀p ∈ ts,t.get p.1=some p.2)(hnr:xf ai=true∧xf bi=true)(hk:evK t g (qoO P ps ai bi Q t ts h)):S P n (.rangeF j g ps ai bi) Q t h:=by
 intro nt code hc hn ro hro ρ B w a ht hsz r
 obtain rfl:ro=none:=by
  rcases hro with h|h
  ·exact h
  ·cases h
 cases code<;>first|(simp[qm] at hc;done)|skip
 rename_i og ops oa ob;simp only[qm,Bool.and_eq_true] at hc;obtain⟨⟨⟨⟨⟨h1,h2⟩,h3⟩,h4⟩,h5⟩,h6⟩:=hc;have hreal:∀j,oa≠.goto j:=fun j hj=>by rw[hj] at h6;cases h6
 have h2:=eq_of_beq h2;obtain⟨gv,hgv,hk2⟩:=ql ht h1 hk;cases gv<;>try exact hgv.elim
 rename_i f first cap
 obtain⟨⟨fn0,c1,c2,c3⟩,hS⟩:=hgv;obtain⟨a',c',q1,q2,q3⟩:=hk2.un_fn;have hLd:∀b L,ρ b=some L->L.blk<w.heap.size:=r.dn.2;refine wpIn_rangeFunc fun fn _=>?_
 let r0:Loop:={ state:=.ready,pending:=none,fn,tmps:=a.tmps,params:=ops,assign:=oa,body:=ob,defers:=w.heap.size }
 let W1:World:=(w.alloc (.deferred (some []))).alloc (.loop r0)
 have hold:∀k,k<w.heap.size->(w.alloc (.deferred (some []))).heap[k]?=w.heap[k]?:=fun k hk=>by
  show (w.heap.push _)[k]?=_;rw[Array.getElem?_push,if_neg (by omega)]
 have hD:(w.alloc (.deferred (some []))).heap[w.heap.size]?=some (.deferred (some [])):=World.alloc_heap_new w _
 have r1:Rel σ0 ρ (BM B [w.heap.size]) h (w.alloc (.deferred (some []))):=by
  have r':=r.world (w':=w.alloc (.deferred (some []))) hold (by simp);refine⟨r'.dom,r'.cells,r'.maps,r'.excl,r'.exclm,r'.app,fun b L hb hf hB=>?_,fun k hk=>?_,r'.frz,r'.dn⟩
  ·rcases hB with hB|hB
   all_goals grind[Rel.flr]
  ·rcases hk with hk|hk
   ·have:=r.base k hk;simp;omega
   simp_all
 have hts:∀p ∈ ts,p.1<r0.tmps.size∧VR σ0 ρ p.2 (r0.tmps.getD p.1 undef):=fun p hp=>ht p.1 p.2 (htg p hp)
 have hlo:LoopOk P r0 ps ai bi:=⟨h2,⟨nt,h4,h5,hsz,fun p hp=>by rw[← h2] at hp;have:=List.all_eq_true.1 h3 p hp;simp_all⟩,hnr,hreal⟩
 obtain⟨R,hRl,hSC⟩:=hS r0 rfl rfl hlo;obtain⟨r2,k2⟩:=r1.newMap (w':=W1) (es0:=qW R ts) (o:=.loop r0) (.inr (.inr (.inl ⟨_,_,_,rfl,rfl,hRl,hts⟩))) rfl ⟨rfl,rfl⟩;have hl:(w.alloc (.deferred (some []))).heap.size=w.heap.size+1:=by simp
 rw[hl] at r2 k2;obtain⟨Lc,hLc⟩:∃Lc:Loc,Lc=⟨w.heap.size+1,0,0,0⟩:=⟨_,rfl⟩;rw[← hLc] at r2 k2;have hself:(ρ.add h.sz Lc) h.sz=some Lc:=Ren.add_self _ _ _;have hle2:=k2.mono r1.dom
 have hargs:VRs σ0 (ρ.add h.sz Lc) (first++(.yl h.sz::cap)) (a' ++ #[Value.func (.yield (w.heap.size+1)) #[] #[]]++c').toList:=by
  have hy:VR σ0 (ρ.add h.sz Lc) (.yl h.sz) (.func (.yield Lc.blk) #[] #[]):=.yl _ Lc hself;have e2:Lc.blk=w.heap.size+1:=by rw[hLc]
  rw[e2] at hy;have:=(q1.mono hle2).append (VRs.cons _ _ _ _ hy (q2.mono hle2))
  simp_all
 have hcf:=zW (P:=P) c1 c2 c3
 have hcalls:Calls P f (a' ++ #[Value.func (.yield (w.heap.size+1)) #[] #[]]++c') W1 fun e w'=>∃v v' h' ρ',e = .returned v'∧qkX h.sz Q t v h'∧VR σ0 ρ' v v'∧Rel σ0 ρ' (BM B [w.heap.size]) h' w'∧Kept (ρ.add h.sz Lc) (BM B [w.heap.size]) (h.push (.map (qW R ts))) W1 ρ' h' w':=by
  rcases hSC.2 _ _ _ _ r2 hargs with⟨_,hh⟩|⟨v,w',hh,_⟩
  all_goals grind
 have hev:(({ a with defers:=qa5 [w.heap.size]++a.defers }:Act)).eval og = .func (.func f) a' c':=q3;refine⟨w.heap.size+1,[{ target:=.collected w.heap.size,args:=#[] }],W1,{ target:=.fn (.func f) c',args:=a' ++ #[Value.func (.yield (w.heap.size+1)) #[] #[]] },W1,f,a' ++ #[Value.func (.yield (w.heap.size+1)) #[] #[]]++c',W1,run_enterLoop_outer _ _ _ _ _,?_,fun _ _=>trivial,?_,fun hh=>(by cases hh),qdb (Calls.mono hcalls ?_)⟩
 ·simp only[resolve,q3];simp[go_sem,Deferred.ofValue,q3]
 ·simp[invoke,hcf]
 rintro e w2 ⟨v,v',h2',ρ2,rfl,hend,hv,r3,k3⟩;obtain⟨r',ts',hg',hst,hmt⟩:=hend;have hL2:ρ2 h.sz=some Lc:=(k3.ext _ (by show _<Nat.succ _;omega)).trans hself
 obtain⟨_,ob2,hob2,hrec2⟩:=r3.maps _ Lc _ hL2 hg';obtain⟨q2,rfl,hlk2,hts2⟩:=hrec2.rec';have hob3:w2.heap[w.heap.size+1]?=some (.loop q2):=by rw[hLc] at hob2;omega
 have hfl2:h2'.fl<=h.sz:=by rw[k3.fl];exact hfl
 obtain⟨re,hre⟩:∃re:Loop,re={ q2 with state:=.exhausted }:=⟨_,rfl⟩;obtain⟨re',hre'⟩:∃re':Loop,re'={ r' with state:=.exhausted }:=⟨_,rfl⟩
 have hlre:xD re' re:=by
  have:=hlk2.set .exhausted q2.pending;rw[hre,hre'];have e:({ r' with state:=.exhausted,pending:=q2.pending }:Loop)={ r' with state:=.exhausted }:=by rw[hlk2.pending]
  rw[e] at this;omega
 have hts4:∀p ∈ ts',p.1<re.tmps.size∧VR σ0 ρ2 p.2 (re.tmps.getD p.1 undef):=by rw[hre];omega
 have hend2:=run_endLoop (P:=P) hob3 (by rw[hlk2.state];omega);rw[← hre] at hend2;clear hre;obtain⟨r4,k4⟩:=r3.putMap (w':=w2.putObj (w.heap.size+1) (.loop re)) hL2 hg' hfl2 hob2 (es':=qW re' ts') (.inr (.inr (.inl ⟨_,_,_,rfl,rfl,hlre,hts4⟩))) (by rw[hLc];rfl) ⟨rfl,rfl⟩
 have r5:Rel σ0 ρ2 (BM B [w.heap.size]) (h2'.put h.sz .dead) (w2.putObj (w.heap.size+1) (.loop re)):=by
  refine r4.sub rfl rfl fun b x hx hd=>?_
  simp only[Hp.put,Tr.get_set] at hx ⊢
  grind
 have hD1:W1.heap[w.heap.size]?=some (.deferred (some [])):=by
  show ((w.alloc (.deferred (some []))).heap.push _)[w.heap.size]?=_;rw[Array.getElem?_push,if_neg (by rw[hl];omega)];exact hD
 have hD2:(w2.putObj (w.heap.size+1) (.loop re)).heap[w.heap.size]?=some (.deferred (some [])):=by
  rw[World.putObj_heap_other (by omega),k3.pres _ (.inr (by simp))];omega
 have k0:Kep n ρ B h w ρ h (w.alloc (.deferred (some []))):=⟨fun _ _=>rfl,hn,rfl,fun _ _ _=>rfl,by grind[Rel.base],by simp,⟨rfl,rfl⟩,fun _ _ h=>h,fun _ _ h=>.inl h,fun _ _ h=>h⟩
 have hn2:n<=(h.push (.map (qW R ts))).sz:=Nat.le_trans hn (Nat.le_succ _);have hn3:n<=h2'.sz:=Nat.le_trans hn2 k3.szle
 have k5:Kep n ρ2 (BM B [w.heap.size]) h2' w2 ρ2 (h2'.put h.sz .dead) (w2.putObj (w.heap.size+1) (.loop re)) :=
  ⟨fun _ _=>rfl,hn3,rfl,fun b hb _=>by simp only[Hp.put,Tr.get_set];rw[if_neg (by omega)],k4.pres,k4.wle,k4.io,fun _ _ h=>h,fun _ _ h=>.inl h,fun _ _ h=>h⟩
 have kk:Kep n ρ B h w ρ2 (h2'.put h.sz .dead) (w2.putObj (w.heap.size+1) (.loop re)):=((k0.trans (k2.kep hn).bm).trans (k3.kep hn2).bm).trans k5.bm
 have fin:∀(x:X) (e:Exit),XR x e->Q x t (h2'.put h.sz .dead)->xp σ0 Q nt n ρ B h w a.defers e { a with defers:=[{ target:=.collected w.heap.size,args:=#[] }]++a.defers } (w2.putObj (w.heap.size+1) (.loop re)):=fun x e hx hq =>
  ⟨x,t,_,ρ2,[w.heap.size],hx,hq,ht.mono (Ren.le_trans hle2 (k3.mono r2.dom)),hsz,rfl,⟨by simp,by grind,fun q hq=>by rw[List.mem_singleton] at hq;grind⟩,r5,kk⟩
 refine⟨q2.pending,_,hend2,?_⟩;clear hend2;rw[hlk2.pending];generalize r'.pending=pd at hmt ⊢;cases pd with
 | none=>exact fin .normal _ .normal hmt
 | some c =>
  cases c<;>first|exact hmt.elim|skip
  ·exact wpIn_exit (fin _ _ (.exit _) hmt)
  ·exact wpIn_ret (fin _ _ .ret hmt)
theorem S.rangeF{j:Nat}{g:O}{ps:List Nat}{ai bi:ICode}{Q:X->Tr AV->Hp->Prop}{ts:List (Nat×AV)}{bl:List Blk}(_:bl.all xl=true)(hnd:(ts.map Prod.fst).Nodup)(hnr:xf ai=true∧xf bi=true)(hk:evK (mkT ts) g (rfK P ps ai bi Q (mkT ts) ts (mkH 0 bl))):S P n (.rangeF j g ps ai bi) Q (mkT ts) (mkH 0 bl):=by
 refine S.rangeFL (ts:=ts) (Nat.zero_le _) (fun p hp=>qeq hnd hp) hnr ?_
 obtain⟨v,h1,h2⟩:=qf (mkT ts) g _ hk;refine h2 _ ?_;cases v<;>try exact h1.elim
 obtain⟨hc,hh⟩:=h1;exact⟨hc,fun r0 a b hlo=>⟨r0,.inl ⟨rfl,hlo.real⟩,hh r0 a b hlo⟩⟩
end Go.Kc
end
section
namespace Go.Kc
variable [Cur]
variable {P:Program} {h:Hp}
inductive Gvs (h:Hp):List AV->List AV->Prop where
 | nil:Gvs h [] []
 | keep (v:AV) (vs vs':List AV) (h1:Gvs h vs vs'):Gvs h (v::vs) (v::vs')
 | fz (v v':AV) (vs vs':List AV) (hf:Frz h v v') (h1:Gvs h vs vs'):Gvs h (v::vs) (v'::vs')
 | fn (f:Nat) (a c c':List AV) (vs vs':List AV) (hc:Gvs h c c') (h1:Gvs h vs vs'):Gvs h (.fn f a c::vs) (.fn f a c'::vs')
theorem Gvs.ok{ρ:Ren}{B:Nat->Prop}{w:World}(hle:ρ.le ⟨ρ.loc,xC ρ h w,ρ.n⟩)(r:Rel σ0 ρ B h w):∀{vs vs':List AV} {xs:List Value},Gvs h vs vs'->VRs σ0 ρ vs xs->VRs σ0 ⟨ρ.loc,xC ρ h w,ρ.n⟩ vs' xs
 | _,_,_,.nil,hv=>by cases hv;exact .nil
 | _,_,_,.keep _ _ _ h1,hv=>by
  cases hv with
  | cons _ _ _ _ a1 a2=>exact .cons _ _ _ _ (a1.mono hle) (Gvs.ok hle r h1 a2)
 | _,_,_,.fz _ _ _ _ hf h1,hv=>by
  cases hv with
  | cons _ _ _ _ a1 a2=>exact .cons _ _ _ _ (by grind[CR.vr,Frz.ok]) (Gvs.ok hle r h1 a2)
 | _,_,_,.fn f a c c' _ _ hc h1,hv=>by
  cases hv with
  | cons _ _ _ _ a1 a2 =>
   obtain⟨a',c'',q1,q2,q3⟩:=a1.un_fn;subst q3;exact .cons _ _ _ _ (.fn _ _ _ _ _ (q1.mono hle) (Gvs.ok hle r hc q2)) (Gvs.ok hle r h1 a2)
theorem SC.give{f:Nat}{vs vs':List AV}{k:AV->Hp->Prop}(DB:List (Nat×Blk))(hg:∀p ∈ DB,h.tr.get p.1=some p.2∧h.fl<=p.1)(hf:Gvs ⟨h.sz,h.fl,trP DB⟩ vs vs')(hk:SC P f vs' (qaK h DB) k):SC P f vs h k:=by
 refine⟨hk.1,fun ρ B w args r ha=>?_⟩
 have r0:Rel σ0 ρ B ⟨h.sz,h.fl,trP DB⟩ w:=r.sub rfl rfl (fun b x hx _=>(hg _ (qcM hx)).1)
 have le:ρ.le ⟨ρ.loc,xC ρ ⟨h.sz,h.fl,trP DB⟩ w,ρ.n⟩:=⟨fun _ _ h=>h,by grind[xk],Nat.le_refl _⟩
 have hcr:=hf.ok le r0 ha
 have fnew:∀kk a,xC ρ ⟨h.sz,h.fl,trP DB⟩ w kk=some a->ρ.frz kk=some a∨((∃ty fz,w.heap[kk]?=some (.cells a ty fz))∧∃b L e af cs,b ∈ DB.map Prod.fst∧ρ b=some L∧h.tr.get b=some (.cells e true af cs)∧L.blk=kk∧h.fl<=b):=by
  intro kk a hkk;rcases wL hkk with h1|⟨h1,b,L,e,af,cs,h2,h3,h4⟩
  ·exact .inl h1
  ·have hm:=qcM h3;exact .inr ⟨h1,b,L,e,af,cs,List.mem_map_of_mem (f:=Prod.fst) hm,h2,(hg _ hm).1,h4,(hg _ hm).2⟩
 have xl:∀b x,(qaK h DB).tr.get b=some x->x≠.dead->b ∉ DB.map Prod.fst∧h.tr.get b=some x:=by
  intro b x hx hd;rw[qbC] at hx;split at hx
  ·cases hx;exact absurd rfl hd
  ·exact by grind
 have r1:Rel σ0 ⟨ρ.loc,xC ρ ⟨h.sz,h.fl,trP DB⟩ w,ρ.n⟩ B (qaK h DB) w:=by
  have rs:Rel σ0 ρ B (qaK h DB) w:=by grind[Rel.sub,qcC,qcB]
  refine⟨rs.dom,fun b L e wf af cs hb hx=>?_,fun b L es hb hx=>?_,rs.excl,rs.exclm,rs.app,rs.flr,rs.base,fun kk arr hkk=>?_,rs.dn⟩
  ·obtain⟨q1,c,ty,fz,q2,q3,q4,q5,q6⟩:=rs.cells b L e wf af cs hb hx;exact by grind[VR.mono]
  ·obtain⟨q1,o,q2,q3⟩:=rs.maps b L es hb hx;exact by grind[zL.mono]
  ·rcases fnew kk arr hkk with h1|⟨h1,b,L,e,af,cs,h2,h3,h4,h5,_⟩
   ·exact rs.frz kk arr h1
   ·refine⟨h1,fun b' L' x hb' hx hd he=>?_⟩
    obtain⟨g1,g2⟩:=xl b' x hx hd;have:=r.excl b L e af cs h3 h4 b' L' x hb' g2 hd (by rw[he,h5]);subst this;exact g1 h2
 have k0:Kept ρ B h w ⟨ρ.loc,xC ρ ⟨h.sz,h.fl,trP DB⟩ w,ρ.n⟩ (qaK h DB) w:=by
  refine⟨fun _ _=>rfl,by rw[qcC];exact Nat.le_refl _,qcB,fun b hb _=>?_,fun _ _=>rfl,Nat.le_refl _,⟨rfl,rfl⟩,by grind[xk],fun k a hk=>?_,Nat.le_refl _⟩
  ·rw[qbC,if_neg];intro hm;obtain⟨p,hp1,hp2⟩:=List.mem_map.1 hm;have:=(hg p hp1).2;omega
  ·rcases fnew k a hk with h2|⟨_,b,L,_,_,_,_,h3,_,h5,h6⟩
   ·exact .inl h2
   ·right;rw[← h5];exact r.flr b L h3 h6
 refine jN.mono (hk.2 _ B w args r1 hcr) ?_
 grind[Kept.trans]
end Go.Kc
end
section
namespace Go.Kc
variable [Cur]
variable {P:Program} {h:Hp} {t:Tr AV}
def qm6(m:Nat)(v:AV)(bs2:List Blk)(v':AV)(h':Hp):Prop:=h'.fl=0->∃src:List Nat,NV (rl src h'.sz) bs2.length v' v∧BWs h' (rl src h'.sz) bs2.length src bs2∧(List.map Prod.fst (List.filter (fun p=>decide (p.fst<h'.sz)&&xl p.snd) (src.zip bs2))).Nodup∧∀b,b<m->rl src h'.sz b=b
theorem qm6.w{m:Nat}{v:AV}{bs2:List Blk}{v':AV}{h':Hp}(hz:qm6 m v bs2 v' h')(hle:m<=bs2.length):qh3 m v bs2 v' h':=by
 intro hfl;obtain⟨src,s1,s2,s3,s4⟩:=hz hfl;exact Wk.mkd [(0,v)] bs2 src ⟨⟨v',by simp[mkT,Tr.get_set],s1⟩,trivial⟩ s2 s3 hfl hle s4
end Go.Kc
end
section
namespace Go.Kc
variable [Cur]

variable {P:Program} {H:Type} {enc:TypeId×Value->H} {w:World} {t e:TypeId} {α:Type}
end Go.Kc
end
section
namespace Go.Kc
variable [Cur]
variable {P:Program}

def qgQ:Op->Bool
 | .call c=>(match c.callee with | .builtin .recover=>true|_=>false)&&c.args.isEmpty
 | _=>false
def qgL(n:Nat):Op->Bool
 | .assign (.tmp m)=>m==n
 | _=>false
def qgO(n:Nat):Op->Bool
 | .move (.tmp m)=>m==n
 | _=>false
def qlj(P:Program)(n:Nat):Op->Bool
 | .binOp .neq ty (.tmp m) y _=>m==n&&ja .iface y&&qfm P .iface ty
 | _=>false
def qdd(o:Oper):Bool:=o.guard.isNone
def qhD(P:Program)(nt:Nat)(p q r s:Oper)(c:Nat):Bool :=
 qdd p&&qdd q&&qdd r&&qdd s&&match p.dst,q.dst,r.dst,s.dst with
  | some a,some b,some e,some c'=>Nat.blt a nt&&Nat.blt b nt&&Nat.blt e nt&&Nat.blt c nt&&c'==c&&qgQ p.op&&qgL a q.op&&qgO b r.op&&qlj P e s.op
  | _,_,_,_=>false
def qhC(P:Program)(nt:Nat):Code->Bool
 | .seq (.region _ o1 false) (.seq (.region _ o2 false) (.cond (.tmp c) _ .skip))=>(match o1.toList,o2.toList with
  | [p,q],[r,s]=>qhD P nt p q r s c
  | _,_=>false)
 | _=>false
def qan(P:Program)(f:Nat):Bool :=
 match P.funcs[f]? with
 | some fn=>fn.name != "runtime.NumGoroutine" && fn.results.isEmpty&&(match fn.body with|some c=>qhC P fn.ntmps c|none=>false)
 | none=>false
omit [Cur] in
theorem qbh{a:Act}{n:Nat}(h:n<a.tmps.size)(v:Value):(a.put (some n) v).eval (.tmp n)=v:=by
 simp[Act.put,Act.eval,Array.getD,h]
omit [Cur] in
theorem qdr{a:Act}{o:Oper}(h:qgQ o.op=true)(w:World):(execOp a.eval o).run P w = .ok .recover w:=by
 unfold qgQ at h;split at h
 ·rename_i c hc;simp only[Bool.and_eq_true] at h;obtain⟨h1,h2⟩:=h;split at h1<;>try (cases h1;done)
  rename_i hb;simp[execOp,hc,resolve,hb,invoke,builtin]
 grind
omit [Cur] in
theorem qgM{n:Nat}{o:Op}(h:qgL n o=true):o = .assign (.tmp n):=by
 unfold qgL at h
 grind
omit [Cur] in
theorem qgP{n:Nat}{o:Op}(h:qgO n o=true):o = .move (.tmp n):=by
 unfold qgO at h
 grind
omit [Cur] in
theorem qlI(ρ:Ren){n:Nat}{a:Act}{o:Oper}(h:qlj P n o.op=true)(hv:a.eval (.tmp n) = .nilIface)(w:World):(execOp a.eval o).run P w = .ok (.value (.bool false)) w:=by
 unfold qlj at h;split at h
 ·rename_i ty m y uy ho;simp only[Bool.and_eq_true] at h;obtain⟨⟨h1,h2⟩,h3⟩:=h;obtain rfl:=eq_of_beq h1;have hx:VR σ0 ρ .nili (a.eval (.tmp m)):=by rw[hv];exact .nili
  obtain⟨c,z,g1,rfl,g2,g3,g4,g5,g6,g7⟩:=qbA (P:=P) (k:=fun c=>c=true) hx (show ze .iface .nili (fun c=>c=true) from rfl) h3 h2 w
  subst g1
  have hg:(eqGuard .neq ty (.tmp m) (.const z) (a.eval (.tmp m)) z).run P w = .ok () w:=by
   rw[hv];cases z<;>simp[eqGuard]
  refine wo ho hg ?_;show (binOp .neq ty (a.eval (.tmp m)) z).run P w=_;rw[g6 .neq (.inr rfl)];have g2':(Op.equal ty (a.eval (.tmp m)) z).run P w = .ok true w:=g2;simp[g2']
 grind
omit [Cur] in
theorem wp{o:Oper}(h:qdd o=true)(y:Nat->Option Bool):Region.wanted o y=true:=by
 unfold qdd at h;cases hg:o.guard with
 | none=>simp[Region.wanted,hg]
 | some _=>rw[hg] at h;cases h
omit [Cur] in
theorem qco{a b:Nat}(h:Nat.blt a b=true):a<b:=by simp_all
omit [Cur] in
theorem qhE(ρ:Ren){fd:Nat}(hc:qan P fd=true)(args:Array Value)(w:World):CallsDIn (Fr none) 0 P fd args .returning w (fun e u' w'=>e = .returned (.tuple #[])∧u' = .returning∧w'=w):=by
 unfold qan at hc;split at hc<;>try (cases hc;done)
 rename_i fn hfn;simp only[Bool.and_eq_true] at hc;obtain⟨⟨_,hres⟩,hbody⟩:=hc;split at hbody<;>try (cases hbody;done)
 rename_i c hcb;unfold qhC at hbody;split at hbody<;>try (cases hbody;done)
 rename_i i1 o1 i2 o2 c thn;split at hbody<;>try (cases hbody;done)
 rename_i p q r s hl1 hl2;unfold qhD at hbody;simp only[Bool.and_eq_true] at hbody;obtain⟨⟨⟨⟨f1,f2⟩,f3⟩,f4⟩,hb⟩:=hbody;split at hb<;>try (cases hb;done)
 rename_i a b e c' e1 e2 e3 e4;simp only[Bool.and_eq_true] at hb;obtain⟨⟨⟨⟨⟨⟨⟨⟨b1,b2⟩,b3⟩,b4⟩,b5⟩,b6⟩,b7⟩,b8⟩,b9⟩:=hb;have b1:=qco b1;have b2:=qco b2;have b3:=qco b3;have b4:=qco b4;obtain rfl:=eq_of_beq b5;have b7:=qgM b7;have b8:=qgP b8;have s1:o1 = #[p,q]:=by rw[← Array.toList_inj];exact hl1
 have s2:o2 = #[r,s]:=by rw[← Array.toList_inj];exact hl2
 subst s1 s2;refine callsDIn_of_wpSIn hfn hcb trivial fun c₀ cs hmode=>?_
 have hsz:fn.ntmps<=(args++Array.replicate (fn.ntmps-args.size) undef).size:=by simp;omega
 generalize hA:({ tmps:=args++Array.replicate (fn.ntmps-args.size) undef,defers:=[] }:Act)=A;have hsA:fn.ntmps<=A.tmps.size:=by rw[← hA];exact hsz
 have hdA:A.defers=[]:=by rw[← hA]
 have hrec:recoverD (c₀::cs)=none:=by simp[recoverD,hmode]
 have r1:=qdr (P:=P) (a:=A) b6 w;have m1:∀(x:Act),(execOp x.eval q).run P w = .ok (.value (x.eval (.tmp a))) w:=fun x=>by simp[execOp,b7]
 have m2:∀(x:Act),(execOp x.eval r).run P w = .ok (.value (x.eval (.tmp b))) w:=fun x=>by simp[execOp,b8]
 refine wpSIn_seq (wpSIn_region ?_);have hA1:(A.put (some a) .nilIface).eval (.tmp a) = .nilIface:=qbh (by omega) _;generalize hB:A.put (some a) .nilIface=A1 at hA1;have z1:A1.tmps.size=A.tmps.size:=by rw[← hB,zH]
 have hA2:(A1.put (some b) .nilIface).eval (.tmp b) = .nilIface:=qbh (by omega) _;generalize hC:A1.put (some b) .nilIface=A2 at hA2;have z2:A2.tmps.size=A.tmps.size:=by rw[← hC,zH,z1]
 have hA3:(A2.put (some e) .nilIface).eval (.tmp e) = .nilIface:=qbh (by omega) _;generalize hD:A2.put (some e) .nilIface=A3 at hA3;have z3:A3.tmps.size=A.tmps.size:=by rw[← hD,zH,z2]
 have hA4:(A3.put (some c') (.bool false)).eval (.tmp c') = .bool false:=qbh (by omega) _;generalize hE:A3.put (some c') (.bool false)=A4 at hA4;have d4:A4.defers=[]:=by rw[← hE,zG,← hD,zG,← hC,zG,← hB,zG,hdA]
 have m3:=qlI (P:=P) ρ b9 hA3 w;have l2:List.range (#[p,q]:Array Oper).size=[0,1]:=rfl;have l3:List.range (#[r,s]:Array Oper).size=[0,1]:=rfl;have g0:(#[p,q]:Array Oper)[0]?=some p:=rfl;have g1:(#[p,q]:Array Oper)[1]?=some q:=rfl;have g2:(#[r,s]:Array Oper)[0]?=some r:=rfl;have g3:(#[r,s]:Array Oper)[1]?=some s:=rfl;rw[l2];simp only[wpOpsSIn,g0,g1,wp f1,wp f2,if_true,r1,hrec,e1,hB,m1,hA1,e2,hC];refine⟨fun _ _=>trivial,fun _ _=>trivial,?_⟩
 refine wpSIn_seq (wpSIn_region ?_);rw[l3];simp only[wpOpsSIn,g2,g3,wp f3,wp f4,if_true,m2,hA2,e3,hD,m3,e4,hE];refine⟨fun _ _=>trivial,fun _ _=>trivial,?_⟩
 refine wpSIn_cond hA4 (wpSIn_of_wpIn rfl (wpIn_skip ?_));refine⟨d4,.returning,?_,.tuple #[],?_,rfl,rfl,rfl⟩
 ·cases c₀;cases hmode;rfl
 simp_all[qbQ]

def qgN(n:Nat):Op->Bool
 | .defer c=>(match c.callee with | .value (.tmp m)=>m==n|_=>false)&&c.args.isEmpty
 | _=>false
omit [Cur] in
theorem qfc{n fd:Nat}{a:Act}{o:Oper}{cap:Array Value}(h:qgN n o.op=true)(hv:a.eval (.tmp n) = .func (.func fd) #[] cap)(w:World):(execOp a.eval o).run P w = .ok (.defer { target:=.fn (.func fd) cap,args:=#[] }) w:=by
 unfold qgN at h;split at h
 ·rename_i c hc;simp only[Bool.and_eq_true] at h;obtain⟨h1,h2⟩:=h;split at h1<;>try (cases h1;done)
  rename_i m hb;obtain rfl:=eq_of_beq h1;have h2:c.args = #[]:=by simpa using h2
  simp[execOp,hc,resolve,hb,hv,h2,Deferred.ofValue]
 grind
def wH(P:Program)(f fd:Nat)(i:IFn):Bool :=
 qan P fd&&match i.body with
 | .seq (.reg false rsA) (.seq (.reg false rsB) (.seq (.reg false (r0::_)) y))=>(match P.funcs[f]? with
  | some fn=>fn.name != "runtime.NumGoroutine" && (match fn.body with
   | some (.seq (.region _ oA false) (.seq (.region _ oB false) (.seq (.region _ oD false) c)))=>xN P oA fn.ntmps oA.toList rsA&&xN P oB fn.ntmps oB.toList rsB&&(match oD.toList,r0.dst with
    | [o0,o1],some d=>qdJ P oD fn.ntmps o0 r0&&r0.guard.isNone&&qdd o0&&qdd o1&&qgN d o1.op&&o1.dst.isNone
    | _,_=>false)&&qm P fn.ntmps c y
   | _=>false)&&xi P fn.results.toList i.res
  | none=>false)
 | _=>false
def qcw(fd:Nat)(r0:ROp)(t:Tr AV):Prop:=∃d cs,r0.dst=some d∧t.get d=some (.fn fd [] cs)
theorem qbD{fn:Func}{tm:Array Value}{ρ ρ':Ren}{B:Nat->Prop}{h h':Hp}{w:World}{R:Ending->World->Prop}{ds:List Deferred}(hT:∀w',Rel σ0 ρ' B h' w'->Kept ρ B h w ρ' h' w'->LeavesInM (Fr none) 0 P fn tm R ds .returning w') :
  ∀(rs:List Nat) {w':World},(∀r ∈ rs,w'.heap[r]?=some (.deferred (some [])))->rs.Nodup->(∀r ∈ rs,¬B r)->Rel σ0 ρ' B h' w'->Kept ρ B h w ρ' h' w'->LeavesInM (Fr none) 0 P fn tm R (qa5 rs++ds) .returning w'
 | [],w',_,_,_,hr',hk=>hT w' hr' hk
 | r::rs,w',hm,hn,hB,hr',hk=>by
  have h1:=hm r (by simp);refine⟨by simp,.inl ⟨r,w'.putObj r (.deferred none),rfl,run_takeDeferred h1,?_⟩⟩
  have hn2:=List.nodup_cons.1 hn;refine qbD hT rs (fun r' hr2=>?_) hn2.2 (fun r' hr2=>hB r' (by grind)) (hr'.shut h1 _) ?_
  ·rw[World.putObj_heap_other (by rintro rfl;exact hn2.1 hr2)];simp_all
  ·exact⟨hk.ext,hk.szle,hk.fl,hk.akeep,fun k hb=>by rw[World.putObj_heap_other (by grind)];exact hk.pres k hb,by simpa using hk.wle,hk.io,hk.frz,hk.fnew,hk.nle⟩
end Go.Kc
end
section
namespace Go.Kc
variable [Cur]
end Go.Kc
end
section
namespace Go.Kc
variable [Cur]
variable {P:Program} {h:Hp}
end Go.Kc
end
section
namespace Go.Kc
variable [Cur]
variable {P:Program}
mutual
noncomputable def lkA:AV->AV->Bool
 | .b x,v=>match v with | .b y=>(x&&y)||(!x && !y)|_=>false
 | .i k n,v=>match v with | .i k' m=>Nat.beq (kOf k) (kOf k')&&qlh n m|_=>false
 | .s x,v=>match v with | .s y=>eqS x y|_=>false
 | .nils,v=>match v with | .nils=>true|_=>false
 | .nilp,v=>match v with | .nilp=>true|_=>false
 | .nilf,v=>match v with | .nilf=>true|_=>false
 | .nili,v=>match v with | .nili=>true|_=>false
 | .nilm,v=>match v with | .nilm=>true|_=>false
 | .agg cs',v=>match v with | .agg cs=>qbF cs' cs|_=>false
 | .tup cs',v=>match v with | .tup cs=>qbF cs' cs|_=>false
 | .fz n cs',v=>match v with | .fz m cs=>Nat.beq n m&&qbF cs' cs|_=>false
 | _,_=>false
noncomputable def qbF:List AV->List AV->Bool
 | [],vs=>vs.isEmpty
 | v'::vs',vs=>match vs with|v::vs=>lkA v' v&&qbF vs' vs | []=>false
end
mutual
theorem qlv:∀(v' v:AV),lkA v' v=true->v'=v
 | .b x,v,hb=>by
  unfold lkA at hb;split at hb<;>first|(cases hb;done)|skip
  rename_i y;have:x=y:=by cases x<;>cases y<;>first|rfl|cases hb
  rw[this]
 | .i k n,v,hb=>by
  unfold lkA at hb;split at hb<;>first|(cases hb;done)|skip
  simp only[Bool.and_eq_true] at hb;rw[qeo hb.1,qem hb.2]
 | .s x,v,hb=>by
  unfold lkA at hb;split at hb<;>first|(cases hb;done)|skip
  rw[qef hb]
 | .nils,v,hb=>by unfold lkA at hb;split at hb<;>first|(cases hb;done)|rfl
 | .nilp,v,hb=>by unfold lkA at hb;split at hb<;>first|(cases hb;done)|rfl
 | .nilf,v,hb=>by unfold lkA at hb;split at hb<;>first|(cases hb;done)|rfl
 | .nili,v,hb=>by unfold lkA at hb;split at hb<;>first|(cases hb;done)|rfl
 | .nilm,v,hb=>by unfold lkA at hb;split at hb<;>first|(cases hb;done)|rfl
 | .agg cs',v,hb=>by
  unfold lkA at hb;split at hb<;>first|(cases hb;done)|skip
  rw[wt cs' _ hb]
 | .tup cs',v,hb=>by
  unfold lkA at hb;split at hb<;>first|(cases hb;done)|skip
  rw[wt cs' _ hb]
 | .fz n cs',v,hb=>by
  unfold lkA at hb;split at hb<;>first|(cases hb;done)|skip
  simp only[Bool.and_eq_true] at hb;rw[Nat.eq_of_beq_eq_true hb.1,wt cs' _ hb.2]
 | .undef,v,hb=>by unfold lkA at hb;cases hb
 | .ptr _ _,v,hb=>by unfold lkA at hb;cases hb
 | .sl _ _ _ _ _,v,hb=>by unfold lkA at hb;cases hb
 | .fn _ _ _,v,hb=>by unfold lkA at hb;cases hb
 | .ifc _ _,v,hb=>by unfold lkA at hb;cases hb
 | .map _,v,hb=>by unfold lkA at hb;cases hb
 | .sym _,v,hb=>by unfold lkA at hb;cases hb
 | .pf _ _,v,hb=>by unfold lkA at hb;cases hb
 | .e0,v,hb=>by unfold lkA at hb;cases hb
 | .own _ _,v,hb=>by unfold lkA at hb;cases hb
 | .nz,v,hb=>by unfold lkA at hb;cases hb
 | .yl _,v,hb=>by unfold lkA at hb;cases hb
 | .lp _,v,hb=>by unfold lkA at hb;cases hb
theorem wt:∀(vs' vs:List AV),qbF vs' vs=true->vs'=vs
 | [],vs,hb=>by
  unfold qbF at hb;have:vs=[]:=by simpa using hb
  rw[this]
 | v'::vs',vs,hb=>by
  unfold qbF at hb;split at hb<;>first|(cases hb;done)|skip
  simp only[Bool.and_eq_true] at hb;rw[qlv v' _ hb.1,wt vs' _ hb.2]
end
mutual
noncomputable def xj(h:Hp):AV->AV->Bool
 | .b x,v=>match v with | .b y=>(x&&y)||(!x && !y)|_=>false
 | .i k n,v=>match v with | .i k' m=>Nat.beq (kOf k) (kOf k')&&qlh n m|_=>false
 | .s x,v=>match v with | .s y=>eqS x y|_=>false
 | .nils,v=>match v with | .nils=>true|_=>false
 | .nilp,v=>match v with | .nilp=>true|_=>false
 | .nilf,v=>match v with | .nilf=>true|_=>false
 | .nili,v=>match v with | .nili=>true|_=>false
 | .nilm,v=>match v with | .nilm=>true|_=>false
 | .agg cs',v=>match v with | .agg cs=>jm h cs' cs|_=>false
 | .tup cs',v=>match v with | .tup cs=>jm h cs' cs|_=>false
 | .fz n cs',v=>match v with
  | .nils=>Nat.beq n 0&&cs'.isEmpty
  | .fz m cs=>Nat.beq n m&&qbF cs' cs
  | .sl b o m c _=>Nat.beq n m&&Nat.ble m c && !(Nat.beq c 0)&&(match h.tr.get b with|some (.cells _ true _ cs)=>Nat.ble (o+cs'.length) cs.length&&jm h cs' ((cs.drop o).take cs'.length)|_=>false)
  | .own b m=>Nat.beq n m&&(match h.tr.get b with|some (.cells _ true _ ys)=>(!(Nat.beq m 0)||ys.isEmpty)&&jm h cs' ys|_=>false)
  | _=>false
 | _,_=>false
noncomputable def jm(h:Hp):List AV->List AV->Bool
 | [],vs=>vs.isEmpty
 | v'::vs',vs=>match vs with|v::vs=>xj h v' v&&jm h vs' vs | []=>false
end
mutual
theorem qej{h:Hp}:∀(v' v:AV),xj h v' v=true->Frz h v v'
 | .b x,v,hb=>by
  unfold xj at hb;split at hb<;>first|(cases hb;done)|skip
  rename_i y;have:y=x:=by cases x<;>cases y<;>first|rfl|cases hb
  subst this;exact .b _
 | .i k n,v,hb=>by
  unfold xj at hb;split at hb<;>first|(cases hb;done)|skip
  simp only[Bool.and_eq_true] at hb;obtain rfl:=qeo hb.1;obtain rfl:=qem hb.2;exact .i _ _
 | .s x,v,hb=>by
  unfold xj at hb;split at hb<;>first|(cases hb;done)|skip
  obtain rfl:=qef hb;exact .s _
 | .nils,v,hb=>by unfold xj at hb;split at hb<;>first|(cases hb;done)|exact .nils
 | .nilp,v,hb=>by unfold xj at hb;split at hb<;>first|(cases hb;done)|exact .nilp
 | .nilf,v,hb=>by unfold xj at hb;split at hb<;>first|(cases hb;done)|exact .nilf
 | .nili,v,hb=>by unfold xj at hb;split at hb<;>first|(cases hb;done)|exact .nili
 | .nilm,v,hb=>by unfold xj at hb;split at hb<;>first|(cases hb;done)|exact .nilm
 | .agg cs',v,hb=>by
  unfold xj at hb;split at hb<;>first|(cases hb;done)|skip
  exact .agg _ _ (jn cs' _ hb)
 | .tup cs',v,hb=>by
  unfold xj at hb;split at hb<;>first|(cases hb;done)|skip
  exact .tup _ _ (jn cs' _ hb)
 | .fz n cs',v,hb=>by
  unfold xj at hb;split at hb<;>first|(cases hb;done)|skip
  ·simp only[Bool.and_eq_true] at hb;obtain rfl:=Nat.eq_of_beq_eq_true hb.1;have:cs'=[]:=by simpa using hb.2
   rw[this];exact .nilz
  ·simp only[Bool.and_eq_true] at hb;rw[Nat.eq_of_beq_eq_true hb.1,wt _ _ hb.2];exact .fz _ _
  ·simp only[Bool.and_eq_true] at hb;obtain⟨⟨⟨h1,h2⟩,h3⟩,h4⟩:=hb;obtain rfl:=Nat.eq_of_beq_eq_true h1;split at h4<;>first|(cases h4;done)|skip
   rename_i hg;simp only[Bool.and_eq_true] at h4;refine .sl _ _ _ _ _ _ _ _ cs'.length _ hg (Nat.le_of_ble_eq_true h2) (Nat.le_of_ble_eq_true h4.1) (fun h0=>?_) (jn cs' _ h4.2)
   subst h0;cases h3
  ·simp only[Bool.and_eq_true] at hb;obtain⟨h1,h4⟩:=hb;obtain rfl:=Nat.eq_of_beq_eq_true h1;split at h4<;>first|(cases h4;done)|skip
   rename_i hg;simp only[Bool.and_eq_true] at h4;refine .own _ _ _ _ _ _ hg (fun h0=>?_) (jn cs' _ h4.2)
   subst h0;simpa using h4.1
 | .undef,v,hb=>by unfold xj at hb;cases hb
 | .ptr _ _,v,hb=>by unfold xj at hb;cases hb
 | .sl _ _ _ _ _,v,hb=>by unfold xj at hb;cases hb
 | .fn _ _ _,v,hb=>by unfold xj at hb;cases hb
 | .ifc _ _,v,hb=>by unfold xj at hb;cases hb
 | .map _,v,hb=>by unfold xj at hb;cases hb
 | .sym _,v,hb=>by unfold xj at hb;cases hb
 | .pf _ _,v,hb=>by unfold xj at hb;cases hb
 | .e0,v,hb=>by unfold xj at hb;cases hb
 | .own _ _,v,hb=>by unfold xj at hb;cases hb
 | .nz,v,hb=>by unfold xj at hb;cases hb
 | .yl _,v,hb=>by unfold xj at hb;cases hb
 | .lp _,v,hb=>by unfold xj at hb;cases hb
theorem jn{h:Hp}:∀(vs' vs:List AV),jm h vs' vs=true->Frzs h vs vs'
 | [],vs,hb=>by
  unfold jm at hb;have:vs=[]:=by simpa using hb
  rw[this];exact .nil
 | v'::vs',vs,hb=>by
  unfold jm at hb;split at hb<;>first|(cases hb;done)|skip
  simp only[Bool.and_eq_true] at hb;exact .cons _ _ _ _ (qej v' _ hb.1) (jn vs' _ hb.2)
end
abbrev xg:=List (List AV×AV)
noncomputable def qep(vs:List AV)(l:xg):Option AV:=List.rec (motive:=fun _=>Option AV) none (fun e _ ih=>Bool.rec (motive:=fun _=>Option AV) ih (some e.2) (qbF e.1.reverse vs.reverse)) l
theorem qdn{vs:List AV}{v:AV}:∀{l:xg},qep vs l=some v->(vs,v) ∈ l
 | [],h=>by cases h
 | e::l,h=>by
  have h':(Bool.rec (motive:=fun _=>Option AV) (qep vs l) (some e.2) (qbF e.1.reverse vs.reverse):Option AV)=some v:=h
  cases he:qbF e.1.reverse vs.reverse with
  | true =>
   rw[he] at h';have h2:e.2=v:=Option.some.inj h';have h1:=List.reverse_inj.1 (wt _ _ he);obtain⟨e1,e2⟩:=e;subst h1 h2;exact .head _
  | false=>rw[he] at h';exact .tail _ (qdn h')
noncomputable def qka(L:List (Nat×xg)):qcP:=fun f vs=>List.rec (motive:=fun _=>Option AV) none (fun e _ ih=>Bool.rec (motive:=fun _=>Option AV) ih (qep vs e.2) (Nat.beq e.1 f)) L
theorem qgJ:∀{L:List (Nat×xg)},(∀e ∈ L,∀q ∈ e.2,qX P e.1 q.1 q.2)->qbi P (qka L)
 | [],_=>fun _ _ _ h=>by cases h
 | e::L,hL=>fun f vs v h=>by
  have h':(Bool.rec (motive:=fun _=>Option AV) (qka L f vs) (qep vs e.2) (Nat.beq e.1 f):Option AV)=some v:=h
  cases he:Nat.beq e.1 f with
  | true =>
   rw[he] at h';have e1:=Nat.eq_of_beq_eq_true he;have:=hL e (.head _) _ (qdn h');rw[e1] at this;exact this
  | false=>rw[he] at h';exact qgJ (fun e' he'=>hL e' (.tail _ he')) f vs v h'
theorem qmM{f:Nat}:∀q ∈ ([]:xg),qX P f q.1 q.2:=fun _ h=>by cases h
theorem qln{f:Nat}{e:List AV×AV}{l:xg}(h:qX P f e.1 e.2)(hl:∀q ∈ l,qX P f q.1 q.2):∀q ∈ e::l,qX P f q.1 q.2:=fun q hq=>by
 rcases List.mem_cons.1 hq with rfl|hq
 ·exact h
 ·exact hl q hq
theorem qmL{f:Nat}{l m:xg}(hl:∀q ∈ l,qX P f q.1 q.2)(hm:∀q ∈ m,qX P f q.1 q.2):∀q ∈ l++m,qX P f q.1 q.2:=fun q hq=>(List.mem_append.1 hq).elim (hl q) (hm q)

omit [Cur] in
theorem Gvs.of_frzs{h:Hp}:∀{vs vs':List AV},Frzs h vs vs'->Gvs h vs vs'
 | [],_,hf=>by cases hf;exact .nil
 | v::vs,_,hf=>by
  cases hf with
  | cons _ _ _ _ h1 h2=>exact .fz _ _ _ _ h1 (Gvs.of_frzs h2)
noncomputable def dbF(h:Hp):Nat->List AV->List (Nat×Blk)
 | 0,_=>[]
 | n+1,vs=>vs.flatMap fun v=>match v with
  | .own b _ | .sl b _ _ _ _ | .ptr b _=>(match h.tr.get b with|some (.cells e w a cs)=>(b,.cells e w a cs)::dbF h n cs|_=>[])
  | .agg cs=>dbF h n cs
  | .tup cs=>dbF h n cs
  | _=>[]
omit [Cur] in
theorem qbd{h:Hp}:∀{n:Nat} {vs:List AV},∀p ∈ dbF h n vs,h.tr.get p.1=some p.2
 | 0,_,p,hp=>by cases hp
 | n+1,vs,p,hp=>by
  unfold dbF at hp;obtain⟨v,_,hp⟩:=List.mem_flatMap.1 hp;split at hp
  case h_1 b _|h_2 b _ _ _ _|h_3 b _ =>
   split at hp
   ·rename_i hg;rcases List.mem_cons.1 hp with rfl|hp
    ·exact hg
    ·exact qbd p hp
   ·cases hp
  ·exact qbd p hp
  ·exact qbd p hp
  ·cases hp
noncomputable def qdm(l:List (Nat×Blk)):Hp->(Hp->Prop)->Prop :=
 List.rec (motive:=fun _=>Hp->(Hp->Prop)->Prop) (fun h k=>k h) (fun p _ ih h k=>zj h p.1 .dead (fun h'=>ih h' k)) l
omit [Cur] in
theorem jq:∀{l:List (Nat×Blk)} {h:Hp} {k:Hp->Prop},qdm l h k↔(∀p ∈ l,h.fl<=p.1)∧k (qaK h l)
 | [],h,k=>⟨fun hk=>⟨fun _ hp=>(by cases hp),hk⟩,fun hk=>hk.2⟩
 | p::l,h,k=>by
  show zj h p.1 .dead (fun h'=>qdm l h' k)↔_
  rw[qF,jq];show h.fl<=p.1∧(∀q ∈ l,h.fl<=q.1)∧k (qaK (h.put p.1 .dead) l)↔_;simp only[List.forall_mem_cons,and_assoc];exact Iff.rfl
noncomputable def qb6(L:xg)(vs:List AV)(h:Hp)(k:AV->Hp->Prop)(els:Prop):Prop :=
 List.rec (motive:=fun _=>Prop) els (fun e _ ih=>Bool.rec (motive:=fun _=>Prop) ih (qdm (dbF h 4 vs) h (k e.2)) (jm ⟨h.sz,h.fl,trP (dbF h 4 vs)⟩ e.1 vs)) L
theorem qaX{f:Nat}{vs:List AV}{h:Hp}{k:AV->Hp->Prop}{els:Prop}(he:els->SC P f vs h k):∀{L:xg},(∀q ∈ L,qX P f q.1 q.2)->qb6 L vs h k els->SC P f vs h k
 | [],_,hk=>he hk
 | e::L,hL,hk=>by
  have hk':(Bool.rec (motive:=fun _=>Prop) (qb6 L vs h k els) (qdm (dbF h 4 vs) h (k e.2)) (jm ⟨h.sz,h.fl,trP (dbF h 4 vs)⟩ e.1 vs):Prop):=hk
  cases hb:jm ⟨h.sz,h.fl,trP (dbF h 4 vs)⟩ e.1 vs with
  | false=>rw[hb] at hk';exact qaX he (fun q hq=>hL q (.tail _ hq)) hk'
  | true =>
   rw[hb] at hk';obtain⟨h1,h2⟩:=jq.1 hk';exact SC.give _ (fun p hp=>⟨qbd p hp,h1 p hp⟩) (Gvs.of_frzs (jn _ _ hb)) (hL e (.head _) _ _ h2)
omit [Cur] in
theorem qi1{L:xg}{vs:List AV}{h:Hp}{F:(AV->Hp->Prop)->Prop}(hF:L2 F):L2 (fun k=>qb6 L vs h k (F k)):=by
 induction L with
 | nil=>exact hF
 | cons e L ih =>
  show L2 (fun k=>(Bool.rec (motive:=fun _=>Prop) (qb6 L vs h k (F k)) (qdm (dbF h 4 vs) h (k e.2)) (jm ⟨h.sz,h.fl,trP (dbF h 4 vs)⟩ e.1 vs):Prop))
  cases jm ⟨h.sz,h.fl,trP (dbF h 4 vs)⟩ e.1 vs with
  | false=>exact ih
  | true=>exact fun k hk=>⟨_,_,(jq.1 hk).2,fun k' hk'=>jq.2 ⟨(jq.1 hk).1,hk'⟩⟩
structure HookG where
 a:qcP
 g:Nat->xg
structure HookGOk (P:Program) (ho:HookG):Prop where
 a:qbi P ho.a
 g:∀f,∀q ∈ ho.g f,qX P f q.1 q.2
noncomputable def qd9(env:Tr IFn)(ho:HookG)(ih:jM)(f:Nat)(args:List AV)(h:Hp)(k:AV->Hp->Prop):Prop :=
 Option.rec (motive:=fun _=>Prop) (qb6 (ho.g f) args h k (qaG env ih f args h k)) (fun v=>k v h) (ho.a f args)
omit [Cur] in
theorem qiu(env:Tr IFn)(ho:HookG){ih:jM}(hi:LB ih):LC (qd9 env ho ih):=by
 intro f vs h;show L2 (fun k=>(Option.rec (motive:=fun _=>Prop) (qb6 (ho.g f) vs h k (qaG env ih f vs h k)) (fun v=>k v h) (ho.a f vs):Prop))
 cases ho.a f vs with
 | none=>exact qi1 (qcX env hi f vs h)
 | some v=>exact L2.ret _ _
noncomputable def gvL(L:List (Nat×xg))(f:Nat):xg:=List.rec (motive:=fun _=>xg) [] (fun e _ ih=>Bool.rec (motive:=fun _=>xg) ih e.2 (Nat.beq e.1 f)) L
theorem qos{L:List (Nat×xg)}(hL:∀e ∈ L,∀q ∈ e.2,qX P e.1 q.1 q.2):∀f,∀q ∈ gvL L f,qX P f q.1 q.2:=by
 induction L with
 | nil=>intro f q hq;cases hq
 | cons e L ih =>
  intro f q hq;have hq':q ∈ (Bool.rec (motive:=fun _=>xg) (gvL L f) e.2 (Nat.beq e.1 f):xg):=hq
  cases he:Nat.beq e.1 f with
  | false=>rw[he] at hq';exact ih (fun e' h'=>hL e' (.tail _ h')) f q hq'
  | true =>
   rw[he] at hq';have e1:=Nat.eq_of_beq_eq_true he;subst e1;exact hL e (.head _) q hq'
abbrev xh:=Nat->Option (List Nat×ICode×ICode)
def tpl(j:Nat)(s:LoopState)(p:Option Code):Loop:={ state:=s,pending:=p,fn:=0,tmps:=#[],params:=#[],assign:=.goto j,body:=.skip,defers:=0 }
theorem xD.tpl{j:Nat}{r q:Loop}(hr:r.assign = .goto j)(h:xD r q)(s:LoopState)(p:Option Code):xD (Go.Kc.tpl j s p) { q with state:=s,pending:=p }:=by
 rcases h with⟨_,h0⟩|⟨j',h1,h2,_,_⟩
 ·exact absurd hr (h0 j)
 ·rw[hr] at h1;cases h1;exact .inr ⟨j,rfl,Cur.st s p h2,rfl,rfl⟩
noncomputable def qbG(t:Tr AV):Nat->Nat->List (Nat×AV)->(List (Nat×AV)->Prop)->Prop :=
 Tr.rec (motive:=fun _=>Nat->Nat->List (Nat×AV)->(List (Nat×AV)->Prop)->Prop) (fun _ _ acc k=>k acc)
  (fun v _ _ gl gr a m acc k=>qd (Nat.add a m) (fun a1=>qd (Nat.add a1 m) (fun a2=>qd (Nat.add m m) (fun m2 =>
   Option.rec (motive:=fun _=>Prop) (gl a1 m2 acc (fun acc=>gr a2 m2 acc k)) (fun x=>gl a1 m2 ((a,x)::acc) (fun acc=>gr a2 m2 acc k)) v)))) t
omit [Cur] in
theorem qcc{v:Option AV}{l r:Tr AV}{a m:Nat}{acc:List (Nat×AV)}{k:List (Nat×AV)->Prop}:qbG (.node v l r) a m acc k=qbG l (a+m) (m+m) (v.elim acc fun x=>(a,x)::acc) (fun acc=>qbG r (a+m+m) (m+m) acc k):=by
 have e:qbG (.node v l r) a m acc k=qd (Nat.add a m) (fun a1=>qd (Nat.add a1 m) (fun a2=>qd (Nat.add m m) (fun m2 =>
   Option.rec (motive:=fun _=>Prop) (qbG l a1 m2 acc (fun acc=>qbG r a2 m2 acc k)) (fun x=>qbG l a1 m2 ((a,x)::acc) (fun acc=>qbG r a2 m2 acc k)) v))):=rfl
 rw[e,qg,qg,qg];cases v<;>rfl
omit [Cur] in
theorem qat:∀(t:Tr AV) (a m:Nat) (acc:List (Nat×AV)) (k:List (Nat×AV)->Prop),qbG t a m acc k->∃l,k l∧(∀p ∈ l,p ∈ acc∨∃n,p.1=a+m*n∧t.get n=some p.2)∧∀k':List (Nat×AV)->Prop,k' l->qbG t a m acc k'
 | .leaf,_,_,acc,_,hk=>⟨acc,hk,fun _ hp=>.inl hp,fun _ hk'=>hk'⟩
 | .node v l r,a,m,acc,k,hk=>by
  rw[qcc] at hk;obtain⟨l1,h1,h2,h3⟩:=qat l _ _ _ _ hk;obtain⟨l2,h4,h5,h6⟩:=qat r _ _ _ _ h1;refine⟨l2,h4,fun p hp=>?_,fun k' hk'=>?_⟩
  ·rcases h5 p hp with hp|⟨n,e1,e2⟩
   ·rcases h2 p hp with hp|⟨n,e1,e2⟩
    ·cases v with
     | none=>exact .inl hp
     | some x =>
      rcases List.mem_cons.1 hp with rfl|hp
      ·exact .inr ⟨0,by simp,by rw[Tr.get_node]⟩
      ·exact .inl hp
    ·refine .inr ⟨2*n+1,by rw[e1,Nat.mul_add,Nat.mul_one,Nat.mul_left_comm,Nat.add_mul];omega,?_⟩
     rw[Tr.get_node];show (if 2*n % 2=0 then l.get (2*n / 2) else r.get (2*n / 2))=_
     rw[if_pos (by omega),show 2*n / 2=n from by omega];exact e2
   ·refine .inr ⟨2*n+2,by rw[e1,Nat.mul_add,Nat.mul_left_comm,Nat.add_mul];omega,?_⟩
    rw[Tr.get_node];show (if (2*n+1) % 2=0 then l.get ((2*n+1) / 2) else r.get ((2*n+1) / 2))=_
    rw[if_neg (by omega),show (2*n+1) / 2=n from by omega];exact e2
  ·rw[qcc];exact h3 _ (h6 _ hk')
noncomputable def qiK(es:List (AV×AV)):(List (Nat×AV)->Prop)->Prop :=
 List.rec (motive:=fun _=>(List (Nat×AV)->Prop)->Prop) (fun k=>k []) (fun e _ ih k=>match e.1 with
  | .i .i64 (.ofNat n)=>ih (fun ts=>k ((n,e.2)::ts))
  | _=>False) es
omit [Cur] in
theorem qc4:∀(es:List (AV×AV)) (k:List (Nat×AV)->Prop),qiK es k->∃ts,k ts∧es=ts.map (fun p=>(.i .i64 (Int.ofNat p.1),p.2))∧∀k':List (Nat×AV)->Prop,k' ts->qiK es k'
 | [],k,hk=>⟨[],hk,rfl,fun _ h=>h⟩
 | (.i .i64 (.ofNat n),e2)::es,k,hk=>by
  have hk':qiK es (fun ts=>k ((n,e2)::ts)):=hk
  obtain⟨ts,h1,h2,h3⟩:=qc4 es _ hk';exact⟨(n,e2)::ts,h1,by rw[h2];rfl,fun k' h'=>h3 (fun ts=>k' ((n,e2)::ts)) h'⟩
noncomputable def qdX(h:Hp)(b:Nat)(k:Loop->List (Nat×AV)->Prop):Prop :=
 h.tr.getK b (fun x=>Blk.rec (motive:=fun _=>Prop) (fun _ _ _ _=>False) False (fun es=>List.rec (motive:=fun _=>Prop) False (fun e rest _=>match e.1 with
  | .lp r=>(match e.2 with | .undef=>qiK rest (fun ts=>k r ts)|_=>False)
  | _=>False) es) x)
omit [Cur] in
theorem js{h:Hp}{b:Nat}{k:Loop->List (Nat×AV)->Prop}(hk:qdX h b k):∃r ts,h.tr.get b=some (.map (qW r ts))∧k r ts∧∀k',k' r ts->qdX h b k':=by
 obtain⟨x,h1,h2⟩:=(Tr.getK_iff _ _ _).1 hk;cases x with
 | cells _ _ _ _=>exact h2.elim
 | dead=>exact h2.elim
 | map es =>
  cases es with
  | nil=>exact h2.elim
  | cons e rest =>
   obtain⟨e1,e2⟩:=e;cases e1<;>try exact (h2:False).elim
   rename_i r;cases e2<;>try exact (h2:False).elim
   obtain⟨ts,g1,g2,g3⟩:=qc4 rest _ h2;exact⟨r,ts,by rw[h1,g2];rfl,g1,fun k' h'=>(Tr.getK_iff _ _ _).2 ⟨_,h1,g3 _ h'⟩⟩
noncomputable def qce(c:Code)(k:Nat->Prop):Prop:=match c with
 | .goto j=>k j
 | _=>False
omit [Cur] in
theorem wu{c:Code}{k:Nat->Prop}(hk:qce c k):∃j,c = .goto j∧k j:=by
 unfold qce at hk;split at hk
 ·exact⟨_,rfl,hk⟩
 ·exact hk.elim
noncomputable def qcG(s:LoopState)(p:Prop):Prop:=match s with
 | .ready=>p
 | _=>False
omit [Cur] in
theorem qdW{s:LoopState}{p:Prop}(hk:qcG s p):s = .ready∧p:=by
 unfold qcG at hk;split at hk
 ·exact⟨rfl,hk⟩
 ·exact hk.elim
noncomputable def qeb(s:LoopState)(p:Prop):Prop:=match s with
 | .busy=>False
 | _=>p
omit [Cur] in
theorem qb3{s:LoopState}{p:Prop}(hk:qeb s p):s≠.busy∧p:=by
 unfold qeb at hk;split at hk
 ·exact hk.elim
 ·rename_i h;exact⟨fun e=>h e,hk⟩
noncomputable def qhR(s:Option (List Nat×ICode×ICode))(k:List Nat->ICode->ICode->Prop):Prop:=match s with
 | some (ps,x,y)=>k ps x y
 | none=>False
omit [Cur] in
theorem qfE{s:Option (List Nat×ICode×ICode)}{k:List Nat->ICode->ICode->Prop}(hk:qhR s k):∃ps x y,s=some (ps,x,y)∧k ps x y:=by
 unfold qhR at hk;split at hk
 ·exact⟨_,_,_,rfl,hk⟩
 ·exact hk.elim
noncomputable def qlF(ts:List (Nat×AV)):(Tr AV->Prop)->Prop :=
 List.rec (motive:=fun _=>(Tr AV->Prop)->Prop) (fun k=>k .leaf) (fun p _ ih k=>ih (fun t=>t.setK p.1 p.2 k)) ts
omit [Cur] in
theorem qau:∀{ts:List (Nat×AV)} {k:Tr AV->Prop},qlF ts k↔k (mkT ts)
 | [],_=>Iff.rfl
 | p::ts,k=>by
  show qlF ts (fun t=>t.setK p.1 p.2 k)↔_
  rw[qau,Tr.setK_iff];rfl
noncomputable def qdp(ps:List Nat):List AV->Tr AV->(Tr AV->Prop)->Prop :=
 List.rec (motive:=fun _=>List AV->Tr AV->(Tr AV->Prop)->Prop) (fun _ t k=>k t) (fun p _ ih us t k=>List.rec (motive:=fun _=>Prop) False (fun u us _=>t.setK p u (fun t=>ih us t k)) us) ps
omit [Cur] in
theorem wx:∀{ps:List Nat} {us:List AV} {t:Tr AV} {k:Tr AV->Prop},qdp ps us t k->k (qfz ps us t)∧∀k':Tr AV->Prop,k' (qfz ps us t)->qdp ps us t k'
 | [],us,t,k,hk=>by cases us<;>exact⟨hk,fun _ h=>h⟩
 | p::ps,us,t,k,hk=>by
  cases us with
  | nil=>exact (hk:False).elim
  | cons u us =>
   have hk':t.setK p u (fun t=>qdp ps us t k):=hk
   rw[Tr.setK_iff] at hk';obtain⟨h1,h2⟩:=wx hk';refine⟨h1,fun k' h'=>?_⟩
   show t.setK p u (fun t=>qdp ps us t k')
   rw[Tr.setK_iff];exact h2 k' h'
noncomputable def qkw(xs ys:List AV):(List AV->Prop)->Prop:=List.rec (motive:=fun _=>(List AV->Prop)->Prop) (fun k=>k ys) (fun x _ ih k=>ih (fun l=>k (x::l))) xs
omit [Cur] in
theorem qaj:∀{xs ys:List AV} {k:List AV->Prop},qkw xs ys k↔k (xs++ys)
 | [],_,_=>Iff.rfl
 | x::xs,ys,k=>by
  show qkw xs ys (fun l=>k (x::l))↔_
  rw[qaj];rfl
noncomputable def ylR(lc:xh)(ih:jM)(b:Nat)(us:List AV)(h:Hp)(k:AV->Hp->Prop):Prop :=
 qdX h b (fun r ts=>qce r.assign (fun j=>qhR (lc j) (fun ps ai bi=>qb (and (Nat.ble h.fl b) (and (Nat.ble (Nat.succ b) h.sz) (Nat.beq ps.length us.length)))
  (qlF ts (fun t=>qdp ps us t (fun t=>ih ai (fun e t1 h1=>X.rec (motive:=fun _=>Prop)
   (qdX h1 b (fun r1 ts1=>qce r1.assign (fun j1=>qcG r1.state (zj h1 b (.map (qW (tpl j1 .busy r1.pending) ts1)) (fun h2=>ih bi (fun e t3 h3 =>
    qdX h3 b (fun r3 ts3=>qce r3.assign (fun j3=>X.rec (motive:=fun _=>Prop)
     (zj h3 b (.map (qW (tpl j3 .ready none) ts3)) (fun h4=>k (.b true) h4))
     (fun id=>zj h3 b (.map (qW (tpl j3 .done (some (.exit id))) ts3)) (fun h4=>k (.b false) h4))
     (zj h3 b (.map (qW (tpl j3 .done (some .ret)) ts3)) (fun h4=>k (.b false) h4)) e))) t1 h2)))))
   (fun _=>False) False e) t h))))))
noncomputable def qaT(env:Tr IFn)(ho:HookG)(lc:xh)(ih:jM):qx:=fun f args h k=>Nat.rec (motive:=fun _=>Prop)
 (match args with | .yl b::us=>ylR lc ih b us h k|_=>False) (fun f _=>qd9 env ho ih f args h k) f
noncomputable def qeg(Q:X->Tr AV->Hp->Prop)(t:Tr AV)(p:Option Code)(h':Hp):Prop:=match p with
 | none=>Q .normal t h'
 | some .ret=>Q .ret t h'
 | some (.exit id)=>Q (.exit id) t h'
 | _=>False
noncomputable def qee(b:Nat)(Q:X->Tr AV->Hp->Prop)(t:Tr AV)(h:Hp):Prop :=
 qdX h b (fun r _=>qeb r.state (zj h b .dead (fun h'=>qeg Q t r.pending h')))
noncomputable def rfR(env:Tr IFn)(ih:jM)(j:Nat)(t:Tr AV)(h:Hp)(Q:X->Tr AV->Hp->Prop)(g:AV):Prop:=match g with
 | .fn f first cap=>qb (Nat.ble h.fl h.sz) (qbG t 0 1 [] (fun ts=>qkw first (.yl h.sz::cap) (fun args=>qV h (.map (qW (tpl j .ready none) ts)) (fun b h'=>qaG env ih f args h' (fun _ h''=>qee b Q t h'')))))
 | _=>False
noncomputable def fr(env:Tr IFn)(ho:HookG)(lc:xh)(n:Nat):jM :=
 Nat.rec (motive:=fun _=>jM) (fun _ _ _ _=>False) (fun _ ih c Q t h=>match c with
  | .skip=>Q .normal t h
  | .reg draw ops=>jh qi draw (qaT env ho lc ih) ops (fun t h=>Q .normal t h) t h
  | .rangeF j g _ _ _=>evK t g (fun v=>rfR env ih j t h Q v)
  | .seq x y=>ih x (fun e t h=>X.rec (motive:=fun _=>Prop) (ih y Q t h) (fun id=>Q (.exit id) t h) (Q .ret t h) e) t h
  | .cond c x y=>evK t c (fun v=>unB v (fun b=>Bool.rec (motive:=fun _=>Prop) (ih y Q t h) (ih x Q t h) b))
  | .blk id x=>ih x (fun e t h=>X.rec (motive:=fun _=>Prop) (Q .normal t h) (fun id'=>Bool.rec (motive:=fun _=>Prop) (Q (.exit id') t h) (Q .normal t h) (Nat.beq id' id)) (Q .ret t h) e) t h
  | .loop x=>ih x (fun e t h=>X.rec (motive:=fun _=>Prop) (ih (.loop x) Q t h) (fun id=>Q (.exit id) t h) (Q .ret t h) e) t h
  | .exit id=>Q (.exit id) t h
  | .ret=>Q .ret t h
  | .no=>False
  | .cut x=>ih x Q t h) n
omit [Cur] in
theorem qdY(h:Hp)(b:Nat):L2 (qdX h b):=fun _ hk=>by
 obtain⟨r,ts,_,h2,h3⟩:=js hk;exact⟨r,ts,h2,h3⟩
omit [Cur] in
theorem qcD(c:Code):L1 (qce c):=fun k hk=>by
 obtain⟨j,rfl,h⟩:=wu hk;exact⟨j,h,fun _ h=>h⟩
omit [Cur] in
theorem qhJ{α β:Type}(s:LoopState){F:(α->β->Prop)->Prop}(hF:L2 F):L2 (fun k=>qcG s (F k)):=by
 cases s<;>first|exact hF|exact L2.no
omit [Cur] in
theorem LB.l2{ih:jM}(hi:LB ih){α β:Type}(c:ICode)(t:Tr AV)(h:Hp){F:X->Tr AV->Hp->(α->β->Prop)->Prop}(hF:∀e t h,L2 (F e t h)):L2 (fun k=>ih c (fun e t h=>F e t h k) t h):=fun k hk=>by
 obtain⟨e,t',h',h1,h2⟩:=hi _ _ _ _ hk;obtain⟨x,y,h3,h4⟩:=hF e t' h' _ h1;exact⟨x,y,h3,fun k' hk'=>h2 _ (h4 k' hk')⟩
theorem qoc(lc:xh){ih:jM}(hi:LB ih)(b:Nat)(us:List AV)(h:Hp):L2 (ylR lc ih b us h):=by
 unfold ylR;refine L2.b2 (qdY h b) fun r ts=>L1.b2 (qcD _) fun j=>?_
 cases hl:lc j with
 | none=>exact L2.no
 | some x =>
  obtain⟨ps,ai,bi⟩:=x;refine L2.wh _ (L1.b2 (fun k hk=>⟨mkT ts,qau.1 hk,fun k' hk'=>qau.2 hk'⟩) fun t=>L1.b2 (fun k hk=>⟨_,(wx hk).1,(wx hk).2⟩) fun t=>hi.l2 ai t h fun e t1 h1=>?_)
  cases e with
  | exit id=>exact L2.no
  | ret=>exact L2.no
  | normal =>
   refine L2.b2 (qdY h1 b) fun r1 ts1=>L1.b2 (qcD _) fun j1=>qhJ _ (L1.b2 (jf h1 b _) fun h2=>hi.l2 bi t1 h2 fun e t3 h3=>L2.b2 (qdY h3 b) fun r3 ts3=>L1.b2 (qcD _) fun j3=>?_)
   cases e with
   | normal=>exact L1.b2 (jf h3 b _) fun h4=>L2.ret _ _
   | exit id=>exact L1.b2 (jf h3 b _) fun h4=>L2.ret _ _
   | ret=>exact L1.b2 (jf h3 b _) fun h4=>L2.ret _ _
theorem jv(env:Tr IFn)(ho:HookG)(lc:xh){ih:jM}(hi:LB ih):LC (qaT env ho lc ih):=by
 intro f vs h;cases f with
 | succ f=>exact qiu env ho hi f vs h
 | zero =>
  cases vs with
  | nil=>exact L2.no
  | cons v us =>
   cases v<;>first|exact L2.no|exact qoc lc hi _ us h
omit [Cur] in
theorem qe4{b:Nat}{Q:X->Tr AV->Hp->Prop}{t:Tr AV}{h:Hp}(hk:qee b Q t h):∃e h',Q e t h'∧∀Q',Q' e t h'->qee b Q' t h:=by
 obtain⟨r,ts,h1,h2,h3⟩:=js hk;obtain⟨g1,g2⟩:=qb3 h2;obtain⟨g3,g4⟩:=(qF _ _ _ _).1 g2
 have back:∀Q':X->Tr AV->Hp->Prop,qeg Q' t r.pending (h.put b .dead)->qee b Q' t h:=fun Q' hq=>by
  refine h3 _ ?_;show qeb r.state (zj h b .dead (fun h'=>qeg Q' t r.pending h'))
  have hp:=(qF h b .dead (fun h'=>qeg Q' t r.pending h')).2 ⟨g3,hq⟩
  cases hs:r.state<;>first|exact absurd hs g1|exact hp
 cases hp:r.pending with
 | none =>
  rw[hp] at g4;exact⟨.normal,_,g4,fun Q' hq=>back Q' (by rw[hp];exact hq)⟩
 | some c =>
  rw[hp] at g4;cases c<;>first|exact (g4:False).elim|skip
  ·exact⟨.exit _,_,g4,fun Q' hq=>back Q' (by rw[hp];exact hq)⟩
  ·exact⟨.ret,_,g4,fun Q' hq=>back Q' (by rw[hp];exact hq)⟩
omit [Cur] in
theorem qjP(env:Tr IFn){ih:jM}(hi:LB ih){j:Nat}{t:Tr AV}{h:Hp}{Q:X->Tr AV->Hp->Prop}{g:AV}(hk:rfR env ih j t h Q g):∃e h',Q e t h'∧∀Q',Q' e t h'->rfR env ih j t h Q' g:=by
 cases g<;>try exact (hk:False).elim
 rename_i f first cap
 obtain⟨g3,g4⟩:=(qa _ _).1 hk;obtain⟨ts,g5,_,g7⟩:=qat t 0 1 [] _ g4;rw[qaj,qw] at g5;obtain⟨v,h',q1,q2⟩:=qcX env hi _ _ _ _ g5;obtain⟨e,h'',q3,q4⟩:=qe4 q1;refine⟨e,h'',q3,fun Q' hQ=>(qa _ _).2 ⟨g3,g7 _ ?_⟩⟩
 rw[qaj,qw];exact q2 _ (q4 Q' hQ)
theorem qdM(env:Tr IFn)(ho:HookG)(lc:xh):∀n,LB (fr env ho lc n)
 | 0=>fun _ _ _ _ h=>h.elim
 | n+1=>fun c Q t h hk=>by
  have ih:=qdM env ho lc n;cases c with
  | no=>exact hk.elim
  | rangeF j g ps x y =>
   obtain⟨v,g1,g2⟩:=qf t g _ hk;obtain⟨e,h',q1,q2⟩:=qjP env ih g1;exact⟨e,t,h',q1,fun Q' hQ=>g2 _ (q2 Q' hQ)⟩
  | cut x=>exact ih _ _ _ _ hk
  | skip=>exact⟨_,_,_,hk,fun _ h=>h⟩
  | exit id=>exact⟨_,_,_,hk,fun _ h=>h⟩
  | ret=>exact⟨_,_,_,hk,fun _ h=>h⟩
  | reg draw ops =>
   obtain⟨t',h',h1,h2⟩:=we qi draw (jv env ho lc ih) ops t h _ hk;exact⟨_,_,_,h1,fun Q' hQ=>h2 (fun t h=>Q' .normal t h) hQ⟩
  | seq x y =>
   obtain⟨e,t1,h1,g1,g2⟩:=ih _ _ _ _ hk;cases e with
   | normal =>
    obtain⟨e2,t2,h2,g3,g4⟩:=ih _ _ _ _ g1;exact⟨e2,t2,h2,g3,fun Q' hQ=>g2 (fun e t h=>X.rec (motive:=fun _=>Prop) (fr env ho lc n y Q' t h) (fun id=>Q' (.exit id) t h) (Q' .ret t h) e) (g4 _ hQ)⟩
   | exit id=>exact⟨_,t1,h1,g1,fun Q' hQ=>g2 (fun e t h=>X.rec (motive:=fun _=>Prop) (fr env ho lc n y Q' t h) (fun id=>Q' (.exit id) t h) (Q' .ret t h) e) hQ⟩
   | ret=>exact⟨_,t1,h1,g1,fun Q' hQ=>g2 (fun e t h=>X.rec (motive:=fun _=>Prop) (fr env ho lc n y Q' t h) (fun id=>Q' (.exit id) t h) (Q' .ret t h) e) hQ⟩
  | cond c x y =>
   obtain⟨v,g1,g2⟩:=qf t c _ hk;obtain⟨b,g3,g4⟩:=qaB v _ g1;cases b with
   | true =>
    obtain⟨e,t1,h1,g5,g6⟩:=ih _ _ _ _ g3;exact⟨e,t1,h1,g5,fun Q' hQ=>g2 (fun v=>unB v (fun b=>Bool.rec (motive:=fun _=>Prop) (fr env ho lc n y Q' t h) (fr env ho lc n x Q' t h) b)) (g4 (fun b=>Bool.rec (motive:=fun _=>Prop) (fr env ho lc n y Q' t h) (fr env ho lc n x Q' t h) b) (g6 _ hQ))⟩
   | false =>
    obtain⟨e,t1,h1,g5,g6⟩:=ih _ _ _ _ g3;exact⟨e,t1,h1,g5,fun Q' hQ=>g2 (fun v=>unB v (fun b=>Bool.rec (motive:=fun _=>Prop) (fr env ho lc n y Q' t h) (fr env ho lc n x Q' t h) b)) (g4 (fun b=>Bool.rec (motive:=fun _=>Prop) (fr env ho lc n y Q' t h) (fr env ho lc n x Q' t h) b) (g6 _ hQ))⟩
  | blk id x =>
   obtain⟨e,t1,h1,g1,g2⟩:=ih _ _ _ _ hk;cases e with
   | normal=>exact⟨_,t1,h1,g1,fun Q' hQ=>g2 (fun e t h=>X.rec (motive:=fun _=>Prop) (Q' .normal t h) (fun id'=>Bool.rec (motive:=fun _=>Prop) (Q' (.exit id') t h) (Q' .normal t h) (Nat.beq id' id)) (Q' .ret t h) e) hQ⟩
   | ret=>exact⟨_,t1,h1,g1,fun Q' hQ=>g2 (fun e t h=>X.rec (motive:=fun _=>Prop) (Q' .normal t h) (fun id'=>Bool.rec (motive:=fun _=>Prop) (Q' (.exit id') t h) (Q' .normal t h) (Nat.beq id' id)) (Q' .ret t h) e) hQ⟩
   | exit id' =>
    have g1':(Bool.rec (motive:=fun _=>Prop) (Q (.exit id') t1 h1) (Q .normal t1 h1) (Nat.beq id' id):Prop):=g1
    cases hb:Nat.beq id' id with
    | true =>
     rw[hb] at g1';refine⟨_,t1,h1,g1',fun Q' hQ=>g2 (fun e t h=>X.rec (motive:=fun _=>Prop) (Q' .normal t h) (fun id'=>Bool.rec (motive:=fun _=>Prop) (Q' (.exit id') t h) (Q' .normal t h) (Nat.beq id' id)) (Q' .ret t h) e) ?_⟩
     show (Bool.rec (motive:=fun _=>Prop) (Q' (.exit id') t1 h1) (Q' .normal t1 h1) (Nat.beq id' id):Prop)
     rw[hb];exact hQ
    | false =>
     rw[hb] at g1';refine⟨_,t1,h1,g1',fun Q' hQ=>g2 (fun e t h=>X.rec (motive:=fun _=>Prop) (Q' .normal t h) (fun id'=>Bool.rec (motive:=fun _=>Prop) (Q' (.exit id') t h) (Q' .normal t h) (Nat.beq id' id)) (Q' .ret t h) e) ?_⟩
     show (Bool.rec (motive:=fun _=>Prop) (Q' (.exit id') t1 h1) (Q' .normal t1 h1) (Nat.beq id' id):Prop)
     rw[hb];exact hQ
  | loop x =>
   obtain⟨e,t1,h1,g1,g2⟩:=ih _ _ _ _ hk;cases e with
   | normal =>
    obtain⟨e2,t2,h2,g3,g4⟩:=ih _ _ _ _ g1;exact⟨e2,t2,h2,g3,fun Q' hQ=>g2 (fun e t h=>X.rec (motive:=fun _=>Prop) (fr env ho lc n (.loop x) Q' t h) (fun id=>Q' (.exit id) t h) (Q' .ret t h) e) (g4 _ hQ)⟩
   | exit id=>exact⟨_,t1,h1,g1,fun Q' hQ=>g2 (fun e t h=>X.rec (motive:=fun _=>Prop) (fr env ho lc n (.loop x) Q' t h) (fun id=>Q' (.exit id) t h) (Q' .ret t h) e) hQ⟩
   | ret=>exact⟨_,t1,h1,g1,fun Q' hQ=>g2 (fun e t h=>X.rec (motive:=fun _=>Prop) (fr env ho lc n (.loop x) Q' t h) (fun id=>Q' (.exit id) t h) (Q' .ret t h) e) hQ⟩

def SR(P:Program)(rs:List ROp)(Q:Tr AV->Hp->Prop)(t:Tr AV)(h:Hp):Prop:=∃C,zU P σ0 C∧jh qi false C rs Q t h
def SDf(P:Program)(n fd:Nat):ICode->(X->Tr AV->Hp->Prop)->Tr AV->Hp->Prop
 | .seq (.reg _ rsA) (.seq (.reg _ rsB) (.seq (.reg _ (r0::_)) y)),Q,t,h=>SR P rsA (fun t h=>SR P rsB (fun t h=>SR P [r0] (fun t h=>qcw fd r0 t∧S P n y Q t h) t h) t h) t h
 | _,_,_,_=>False
theorem SC.mkDS{f fd:Nat}{i:IFn}{vs:List AV}{h:Hp}{k:AV->Hp->Prop}(hc:wH P f fd i=true)(hV:SDf P h.sz fd i.body (qbr i.res k) (jF vs 0 .leaf) h):SC P f vs h k:=by
 unfold wH at hc;simp only[Bool.and_eq_true] at hc;obtain⟨hquiet,hc⟩:=hc;split at hc<;>try (cases hc;done)
 rename_i rsA rsB r0 rest y hbody;rw[hbody] at hV;split at hc<;>try (cases hc;done)
 rename_i fn hfn;simp only[Bool.and_eq_true,bne_iff_ne] at hc;obtain⟨⟨hname,hc⟩,hres⟩:=hc;split at hc<;>try (cases hc;done)
 rename_i iA oA iB oB iD oD c hcb;simp only[Bool.and_eq_true] at hc;obtain⟨⟨⟨hA,hB⟩,hD⟩,hcode⟩:=hc;split at hD<;>try (cases hD;done)
 rename_i o0 o1 d hl hd0;simp only[Bool.and_eq_true] at hD;obtain⟨⟨⟨⟨⟨hr0,hg0⟩,hf0⟩,hf1⟩,hdef⟩,hdst⟩:=hD;have sD:oD = #[o0,o1]:=by rw[← Array.toList_inj];exact hl
 subst sD;have hdst:o1.dst=none:=by simpa using hdst
 refine⟨trivial,fun ρ B w args r ha=>.inl ⟨⟨fn,hfn,hname,by rw[hcb];rfl⟩,?_⟩⟩
 have r00:=r
 have ht:TR σ0 ρ (jF vs 0 .leaf) (args++Array.replicate (fn.ntmps-args.size) undef):=by
  intro j v hv;rcases qaF _ _ _ _ _ hv with⟨_,h3⟩|h3
  ·simp only[Nat.sub_zero] at h3;obtain⟨v',h4,h5⟩:=ha.get h3
   have hn:j<args.size:=by
    have:=(zzS.1 h4).1;simpa using this
   refine⟨by simp;omega,?_⟩
   have:(args++Array.replicate (fn.ntmps-args.size) undef).getD j undef=v':=by
    rw[Array.getD_eq_getD_getElem?,Array.getElem?_append_left hn];rw[Array.getElem?_toList] at h4;rw[h4];rfl
   rw[this];exact h5
  ·simp at h3
 have hsize:fn.ntmps<=(args++Array.replicate (fn.ntmps-args.size) undef).size:=by simp;omega
 refine (callsIn_wide (n:=0)).1 (callsIn_of_wp_marks hfn hcb trivial ?_ rfl);obtain⟨CA,hCA,hV⟩:=hV;refine wpIn_seq (wpIn_region ?_);have hreg:=fun K hK=>qaP (ops:=oA) (nt:=fn.ntmps) (ro:=none) (K:=K) (ρ0:=ρ) (h0:=h) (w0:=w) (ds:=[]) (jE P) hCA hK oA.toList rsA 0 hA rfl _ h ρ w { tmps:=args++Array.replicate (fn.ntmps-args.size) undef,defers:=[] } hV ht hsize rfl r (Kept.refl _ _ _ _)
 rw[List.range_eq_range'];refine hreg _ ?_;intro a0 w0 t0 h0 ρ0 hq0 ht0 hs0 hd0' r0' k0';obtain⟨CB,hCB,hq0⟩:=hq0;refine wpIn_seq (wpIn_region ?_);have hreg2:=fun K hK=>qaP (ops:=oB) (nt:=fn.ntmps) (ro:=none) (K:=K) (ρ0:=ρ) (h0:=h) (w0:=w) (ds:=[]) (jE P) hCB hK oB.toList rsB 0 hB rfl _ h0 ρ0 w0 a0 hq0 ht0 hs0 hd0' r0' k0'
 rw[List.range_eq_range'];refine hreg2 _ ?_;intro a1 w1 t1 h1 ρ1 hq1 ht1 hs1 hd1 r1 k1;refine wpIn_seq (wpIn_region ?_);have l2:List.range (#[o0,o1]:Array Oper).size=[0,1]:=rfl;have g0:(#[o0,o1]:Array Oper)[0]?=some o0:=rfl;have g1:(#[o0,o1]:Array Oper)[1]?=some o1:=rfl;rw[l2];simp only[wpOpsIn,g0,wp hf0,if_true];obtain⟨dst,rk,g⟩:=r0;simp only[qdJ,Bool.and_eq_true] at hr0;obtain⟨⟨hc1,hc2⟩,hc3⟩:=hr0;have hgn:g=none:=by simpa using hg0
 subst hgn;obtain⟨CD,hCD,hq1⟩:=hq1;refine qhM (draw:=false) (jE P) hCD r1 ht1 hc3 hq1 _ _ ?_;intro v v' h2 ρ2 w2 p1 p2 r2 k2;obtain⟨t2,q1,ht2⟩:=(ht1.mono (k2.mono r1.dom)).put hs1 hc1 p2 p1;obtain⟨⟨d',cs,q3,q4⟩,q2⟩:=q1;rw[hd0] at q3;cases q3;obtain⟨z1,z2⟩:=ht2 d _ q4;obtain⟨a',c',z3,z4,z5⟩:=z2.un_fn
 have ha':a' = #[]:=by
  generalize hL:a'.toList=L at z3;cases z3;rw[← Array.toList_inj,hL]
 subst ha';generalize hA1:a1.put o0.dst v'=A1 at ht2 z1 z5;have hsA:fn.ntmps<=A1.tmps.size:=by rw[← hA1,zH];exact hs1
 have hdA:A1.defers=[]:=by rw[← hA1,zG];exact hd1
 have hev:A1.eval (.tmp d) = .func (.func fd) #[] c':=z5;change (if Region.wanted o1 (yielded #[o0,o1] A1.tmps)=true then o1.wpIn (Fr none) 0 P A1 w2 _ _ else _)
 rw[if_pos (wp hf1 _)];refine⟨fun _ _=>trivial,?_⟩
 have hsem:(o1.semAt (Fr none).round A1.eval).run P w2 = .ok (.defer { target:=.fn (.func fd) c',args:=#[] }) w2:=qfc hdef hev w2;rw[hsem,Oper.uponIn_defer,hdst];have hle:h.sz<=h2.sz:=Nat.le_trans k1.szle k2.szle;have hw:=q2 fn.ntmps c hcode hle none (.inl rfl) ρ2 B w2 { A1 with defers:={ target:=.fn (.func fd) c',args:=#[] }::A1.defers } ht2 hsA r2;refine wpIn_mono hw ?_;rintro e a w' ⟨x,t',h',ρ',rs,hx,hq,ht',_,hd,hm,hr',hkept⟩;have hkk:Kep h.sz ρ B h w ρ' h' w':=((k1.trans k2).kep (Nat.le_refl _)).trans hkept;have hww:w.heap.size<=w2.heap.size:=(k1.trans k2).wle
 have hcod:(callFunc fd (#[]++c')).run P=fun w=>.ok (.enter fd (#[]++c')) w:=by
  funext w;have hq:=hquiet;unfold qan at hq;split at hq<;>try (cases hq;done)
  rename_i fn' hfn';simp only[Bool.and_eq_true,bne_iff_ne] at hq;obtain⟨⟨q5,_⟩,q6⟩:=hq;split at q6<;>try (cases q6;done)
  rename_i cc hcc;exact zW hfn' q5 (by rw[hcc];rfl) _ w
 have key:∀(k':AV->Hp->Prop),zR t' h' i.res (fun vs=>k' (zF vs) h')->LeavesInM (Fr none) 0 P fn a.tmps (fun e w'=>∃v v' h' ρ',e = .returned v'∧k' v h'∧VR σ0 ρ' v v'∧Rel σ0 ρ' B h' w'∧Kept ρ B h w ρ' h' w') a.defers .returning w':=by
  intro k' hq';rw[hd,hdA];have hB:Rel σ0 ρ' B h' w':=hr'.lessB fun k hk=>.inl hk
  refine qbD ?_ rs (fun r hr=>hm.at' r hr) hm.nodup (fun r hr hb=>absurd (r00.base r hb) (Nat.not_lt.2 (Nat.le_trans hww (hm.new r hr)))) hB (hkk.kept r00.dn.1)
  intro w3 hr3 hk3;refine⟨by simp,.inr ⟨fun hh=>(by cases hh),.func fd,c',fd,#[]++c',rfl,?_,fun _ _=>trivial,?_⟩⟩
  ·show (callFunc fd (#[]++c')).run P w3=_;rw[hcod]
  ·refine (qhE ρ hquiet (#[]++c') w3).mono ?_;rintro e u' w4 ⟨rfl,rfl,rfl⟩;obtain⟨v,v',e1,e2,e3⟩:=qbR hr3 ht' hres hq';exact⟨v',e3,v,v',h',ρ',rfl,e1,e2,hr3,hk3⟩
 cases hx with
 | exit id=>exact hq.elim
 | normal=>exact key k hq
 | ret=>exact key k hq
def qO(lc:xh):ICode->Prop
 | .seq x y=>qO lc x∧qO lc y
 | .cond _ x y=>qO lc x∧qO lc y
 | .blk _ x=>qO lc x
 | .loop x=>qO lc x
 | .cut x=>qO lc x
 | .rangeF j _ ps x y=>lc j=some (ps,x,y)∧xf x=true∧xf y=true
 | _=>True
omit [Cur] in
theorem qO.of_no{lc:xh}:∀{c:ICode},xf c=true->qO lc c
 | .seq x y,h=>by
  have h:=(Bool.and_eq_true _ _ ▸ h:xf x=true∧xf y=true);exact⟨qO.of_no h.1,qO.of_no h.2⟩
 | .cond _ x y,h=>by
  have h:=(Bool.and_eq_true _ _ ▸ h:xf x=true∧xf y=true);exact⟨qO.of_no h.1,qO.of_no h.2⟩
 | .blk _ x,h=>qO.of_no (c:=x) h
 | .loop x,h=>qO.of_no (c:=x) h
 | .cut x,h=>qO.of_no (c:=x) h
 | .rangeF _ _ _ _ _,h=>by cases h
 | .skip,_=>trivial
 | .reg _ _,_=>trivial
 | .exit _,_=>trivial
 | .ret,_=>trivial
 | .no,_=>trivial
structure SitesOk (P:Program) (env:Tr IFn) (lc:xh):Prop where
 into:∀j ps x y r,lc j=some (ps,x,y)->LoopOk P r ps x y->Cur.ok j r
 out:∀j ps x y r,lc j=some (ps,x,y)->Cur.ok j r->LoopOk P r ps x y
 flat:∀j ps x y,lc j=some (ps,x,y)->xf x=true∧xf y=true
 node:∀f i,env.get f=some i->qO lc i.body
omit [Cur] in
theorem qeZ{f fd:Nat}{i:IFn}(hc:wH P f fd i=true):qao P f:=by
 unfold wH at hc;simp only[Bool.and_eq_true] at hc;obtain⟨_,hc⟩:=hc;split at hc<;>try (cases hc;done)
 split at hc<;>try (cases hc;done)
 rename_i fn hfn;simp only[Bool.and_eq_true,bne_iff_ne] at hc;obtain⟨⟨hname,hc⟩,_⟩:=hc;split at hc<;>try (cases hc;done)
 rename_i hcb;exact⟨fn,hfn,hname,by rw[hcb];rfl⟩
def qb2(rsA rsB:List ROp)(d fd:Nat)(caps:List O)(y:ICode):ICode:=.seq (.reg false rsA) (.seq (.reg false rsB) (.seq (.reg false [⟨some d,.op (.mkF fd [] caps),none⟩]) y))
def wF(P:Program)(env:Tr IFn):Prop:=∀f i,env.get f=some i->xA P f i=true∨∃rsA rsB d fd caps y,i.body=qb2 rsA rsB d fd caps y∧wH P f fd i=true
structure RunOk (P:Program) (lc:xh) (ih:jM):Prop where
 s:∀c,qO lc c->∀Q t h,ih c Q t h->∀n,S P n c Q t h
 d:∀rsA rsB d fd caps y,qO lc y->∀Q t h,ih (qb2 rsA rsB d fd caps y) Q t h->∀n,SDf P n fd (qb2 rsA rsB d fd caps y) Q t h
theorem wD{env:Tr IFn}{lc:xh}(he:wF P env)(hs:SitesOk P env lc){ih:jM}(hi:RunOk P lc ih){f:Nat}{vs:List AV}{h:Hp}{k:AV->Hp->Prop}(hk:qaG env ih f vs h k):SC P f vs h k:=by
 obtain⟨fn,g1,g2⟩:=(Tr.getK_iff _ _ _).1 hk;have hn:=hs.node f _ g1;cases fn with
 | mk res body =>
  have g3:=qb1.1 g2;rcases he f _ g1 with hc|⟨rsA,rsB,d,fd,caps,y,hb,hc⟩
  ·exact SC.mk hc (hi.s _ hn _ _ _ g3 h.sz)
  ·have hb:body=qb2 rsA rsB d fd caps y:=hb;subst hb;exact SC.mkDS hc (hi.d _ _ _ _ _ _ hn.2.2.2 _ _ _ g3 h.sz)
theorem xq{env:Tr IFn}{ho:HookG}{lc:xh}(he:wF P env)(hh:HookGOk P ho)(hs:SitesOk P env lc){ih:jM}(hi:RunOk P lc ih):zU P σ0 (qaT env ho lc ih):=by
 refine⟨fun f vs h k hk=>?_,fun b us h k hk=>?_⟩
 ·have hk':qd9 env ho ih f vs h k:=hk;unfold qd9 at hk';cases hv:ho.a f vs with
  | none=>rw[hv] at hk';exact qaX (fun hk=>wD he hs hi hk) (hh.g f) hk'
  | some v=>rw[hv] at hk';exact hh.a f vs v hv h k hk'
 ·have hk':ylR lc ih b us h k:=hk;obtain⟨r,ts,hg,h2,_⟩:=js hk';obtain⟨j,hj,h2⟩:=wu h2;obtain⟨ps,ai,bi,hl,h2⟩:=qfE h2;obtain⟨hb,h2⟩:=(qa _ _).1 h2;simp only[Bool.and_eq_true] at hb;obtain⟨b1,b2,b3⟩:=hb;rw[xU] at b1 b2;have b1:=of_decide_eq_true b1;have b2:=of_decide_eq_true b2;have b3:=Nat.eq_of_beq_eq_true b3;have h2:=(wx (qau.1 h2)).1;obtain⟨fa,fb⟩:=hs.flat j ps ai bi hl;refine SY.mkL hg (ps:=ps) (ai:=ai) (bi:=bi) (fun r' hl'=>?_) b1 b2 b3 ?_
  ·rcases hl' with⟨_,h0⟩|⟨j',e1,e2,_,_⟩
   ·exact absurd hj (h0 j)
   ·rw[hj] at e1;cases e1;exact hs.out j ps ai bi r' hl e2
  ·refine (hi.s ai (qO.of_no fa) _ _ _ h2 h.sz).mono fun e t1 h1 hq=>?_
   cases e with
   | exit id=>exact hq
   | ret=>exact hq
   | normal =>
    obtain⟨r1,ts1,g1,hq,_⟩:=js hq;obtain⟨j1,hj1,hq⟩:=wu hq;obtain⟨hr1,hq⟩:=qdW hq;obtain⟨_,hq⟩:=(qF _ _ _ _).1 hq;refine⟨r1,ts1,tpl j1 .busy r1.pending,g1,hr1,fun q hlq=>?_,?_⟩
    ·have e:tpl j1 .busy r1.pending=tpl j1 .busy q.pending:=by rw[hlq.pending]
     rw[e];exact xD.tpl hj1 hlq .busy q.pending
    ·refine (hi.s bi (qO.of_no fb) _ _ _ hq h.sz).mono fun e t3 h3 hq=>?_
     obtain⟨r3,ts3,g3,hq,_⟩:=js hq;obtain⟨j3,hj3,hq⟩:=wu hq;cases e with
     | normal =>
      obtain⟨_,hq⟩:=(qF _ _ _ _).1 hq;exact⟨r3,ts3,_,g3,fun q hlq=>xD.tpl hj3 hlq .ready none,hq⟩
     | exit id =>
      obtain⟨_,hq⟩:=(qF _ _ _ _).1 hq;exact⟨r3,ts3,_,g3,fun q hlq=>xD.tpl hj3 hlq .done (some (.exit id)),hq⟩
     | ret =>
      obtain⟨_,hq⟩:=(qF _ _ _ _).1 hq;exact⟨r3,ts3,_,g3,fun q hlq=>xD.tpl hj3 hlq .done (some .ret),hq⟩
theorem qop{env:Tr IFn}{ho:HookG}{lc:xh}(he:wF P env)(hh:HookGOk P ho)(hs:SitesOk P env lc):∀m,(∀m',m'<m->RunOk P lc (fr env ho lc m'))->∀rsA rsB d fd caps y,qO lc y->∀Q t h,fr env ho lc m (qb2 rsA rsB d fd caps y) Q t h->∀n,SDf P n fd (qb2 rsA rsB d fd caps y) Q t h
 | 0,_,_,_,_,_,_,_,_,_,_,_,h=>fun _=>h.elim
 | 1,_,_,_,_,_,_,_,_,_,_,_,h=>fun _=>h.elim
 | 2,_,_,_,_,_,_,_,_,_,_,_,h=>fun _=>by
  have h':jh qi false _ _ (fun t h=>False) _ _:=h
  obtain⟨_,_,hf,_⟩:=we qi false (jv env ho lc (qdM env ho lc 0)) _ _ _ _ h';exact hf.elim
 | 3,_,_,_,_,_,_,_,_,_,_,_,h=>fun _=>by
  have h':jh qi false _ _ (fun t h=>jh qi false _ _ (fun t h=>False) t h) _ _:=h
  obtain⟨_,_,hf,_⟩:=we qi false (jv env ho lc (qdM env ho lc 1)) _ _ _ _ h';obtain⟨_,_,hf,_⟩:=we qi false (jv env ho lc (qdM env ho lc 0)) _ _ _ _ hf;exact hf.elim
 | m+4,hr,rsA,rsB,d,fd,caps,y,hy,Q,t,h,hq=>fun n=>by
  have hq:jh qi false (qaT env ho lc (fr env ho lc (m+2))) rsA (fun t h=>jh qi false (qaT env ho lc (fr env ho lc (m+1))) rsB (fun t h=>jh qi false (qaT env ho lc (fr env ho lc m)) [⟨some d,.op (.mkF fd [] caps),none⟩] (fun t h=>fr env ho lc (m+1) y Q t h) t h) t h) t h:=hq
  obtain⟨t1,h1,q1,b1⟩:=we qi false (jv env ho lc (qdM env ho lc (m+2))) _ _ _ _ hq;obtain⟨t2,h2,q2,b2⟩:=we qi false (jv env ho lc (qdM env ho lc (m+1))) _ _ _ _ q1;have sA:=xq he hh hs (hr (m+2) (by omega));have sB:=xq he hh hs (hr (m+1) (by omega));have sD:=xq he hh hs (hr m (by omega));refine⟨_,sA,b1 _ ⟨_,sB,b2 _ ⟨_,sD,?_⟩⟩⟩;have q3:zu t2 caps (fun cs=>zt t2 (some d) (.fn fd [] cs) (fun t'=>fr env ho lc (m+1) y Q t' h2)):=q2
  obtain⟨cs,q4,b4⟩:=jV _ _ _ q3;show zu t2 caps (fun cs=>zt t2 (some d) (.fn fd [] cs) (fun t'=>qcw fd _ t'∧S P n y Q t' h2))
  refine b4 _ ?_;have q5:=(Tr.setK_iff (t:=t2) (n:=d) (x:=AV.fn fd [] cs) (k:=fun t'=>fr env ho lc (m+1) y Q t' h2)).1 q4
  refine (Tr.setK_iff (t:=t2) (n:=d) (x:=AV.fn fd [] cs) (k:=fun t'=>qcw fd _ t'∧S P n y Q t' h2)).2 ⟨⟨d,cs,rfl,by simp[Tr.get_set]⟩,?_⟩
  exact (hr (m+1) (by omega)).s y hy _ _ _ q5 n
theorem qdc{env:Tr IFn}{ho:HookG}{lc:xh}(he:wF P env)(hh:HookGOk P ho)(hs:SitesOk P env lc):∀m,(∀m',m'<=m->RunOk P lc (fr env ho lc m'))∧(∀x,qO lc x->∀Q t h,fr env ho lc m (.loop x) Q t h->∀n,SL P n x Q t h)
 | 0 => ⟨fun m' hm => by obtain rfl:m'=0:=by omega
                         exact⟨fun _ _ _ _ _ h=>h.elim,fun _ _ _ _ _ _ _ _ _ _ h=>h.elim⟩,fun _ _ _ _ _ h=>h.elim⟩
 | m+1=>by
  obtain⟨ihA,ihl⟩:=qdc he hh hs m;have ihR:=ihA m (Nat.le_refl _);have ih:=ihR.s
  have loop:∀x,qO lc x->∀Q t h,fr env ho lc (m+1) (.loop x) Q t h->∀n,SL P n x Q t h:=by
   intro x hx Q t h hv n;have hv':fr env ho lc m x (fun e t h=>onX e (fr env ho lc m (.loop x) Q t h) (fun id=>Q (.exit id) t h) (Q .ret t h)) t h:=hv
   refine SL.of_S ((ih _ hx _ _ _ hv' n).mono ?_);intro e t h hq;cases e with
   | normal=>exact ihl x hx Q t h hq n
   | exit id=>exact hq
   | ret=>exact hq
  refine⟨fun m' hm=>?_,loop⟩
  rcases Nat.lt_or_eq_of_le hm with hm|rfl
  ·exact ihA m' (by omega)
  refine⟨fun c hc Q t h hv n=>?_,qop he hh hs (m+1) (fun m' hm=>ihA m' (by omega))⟩
  cases c with
  | no=>exact hv.elim
  | rangeF j g ps x y =>
   obtain⟨hl,hx,hy⟩:=hc;obtain⟨v,g1,g2⟩:=qf t g _ hv;cases v<;>try exact (g1:False).elim
   rename_i f first cap
   obtain⟨g3,g4⟩:=(qa _ _).1 g1;rw[xU] at g3;obtain⟨ts,g5,g6,_⟩:=qat t 0 1 [] _ g4;rw[qaj,qw] at g5;refine S.rangeFL (ts:=ts) (by simpa using g3) (fun p hp=>?_) ⟨hx,hy⟩ (g2 _ ?_)
   ·rcases g6 p hp with hp|⟨n,e1,e2⟩
    ·cases hp
    ·rw[e1];simpa using e2
   ·obtain⟨fn,e1,e2⟩:=(Tr.getK_iff _ _ _).1 g5;refine⟨(he f _ e1).elim qgl (fun⟨_,_,_,_,_,_,_,hc⟩=>qeZ hc),fun r0 hr0 hp0 hlo=>⟨tpl j .ready none,.inr ⟨j,rfl,hs.into j ps x y r0 hl hlo,hr0,hp0⟩,?_⟩⟩
    refine (wD he hs ihR g5).mono fun _ h' hq=>?_
    obtain⟨r,ts',q1,q2,_⟩:=js hq;obtain⟨q3,q4⟩:=qb3 q2;obtain⟨_,q5⟩:=(qF _ _ _ _).1 q4;refine⟨r,ts',q1,q3,?_⟩;cases hp:r.pending with
    | none=>rw[hp] at q5;exact q5
    | some c=>rw[hp] at q5;cases c<;>exact q5
  | cut x =>
   have hv':fr env ho lc m x Q t h:=hv;exact zy (c:=.cut x) (ih x hc _ _ _ hv' n)
  | skip=>exact zy (c:=.skip) hv
  | exit id=>exact zy (c:=.exit id) hv
  | ret=>exact zy (c:=.ret) hv
  | reg d ops=>exact S.reg (jv env ho lc (qdM env ho lc m)) (xq he hh hs ihR) hv
  | seq x y =>
   have hv':fr env ho lc m x (fun e t h=>onX e (fr env ho lc m y Q t h) (fun id=>Q (.exit id) t h) (Q .ret t h)) t h:=hv
   refine S.seq ((ih _ hc.1 _ _ _ hv' n).mono ?_);intro e t h hq;cases e with
   | normal=>exact ih y hc.2 Q t h hq n
   | exit id=>exact hq
   | ret=>exact hq
  | cond c x y =>
   obtain⟨v,g1,g2⟩:=qf t c _ hv;refine S.cond (g2 _ ?_);obtain⟨b,g3,g4⟩:=qaB v _ g1;refine g4 _ ?_;cases b with
   | true=>exact ih _ hc.1 _ _ _ g3 n
   | false=>exact ih _ hc.2 _ _ _ g3 n
  | blk id x =>
   have hv':fr env ho lc m x (fun e t h=>X.rec (motive:=fun _=>Prop) (Q .normal t h) (fun id'=>Bool.rec (motive:=fun _=>Prop) (Q (.exit id') t h) (Q .normal t h) (Nat.beq id' id)) (Q .ret t h) e) t h:=hv
   refine S.blk ((ih x hc _ _ _ hv' n).mono ?_);intro e t h hq;cases e with
   | normal=>exact hq
   | ret=>exact hq
   | exit i =>
    have hq':(Bool.rec (motive:=fun _=>Prop) (Q (.exit i) t h) (Q .normal t h) (Nat.beq i id):Prop):=hq
    show (if i=id then _ else _)
    by_cases hi:i=id
    ·subst hi;rw[Nat.beq_refl] at hq';rw[if_pos rfl];exact hq'
    ·rw[if_neg hi];cases hb:Nat.beq i id with
     | true=>exact absurd (Nat.eq_of_beq_eq_true hb) hi
     | false=>rw[hb] at hq';exact hq'
  | loop x=>exact S.loop (loop x hc Q t h hv n)
theorem SC.runR{env:Tr IFn}{ho:HookG}{lc:xh}(he:wF P env)(hh:HookGOk P ho)(hs:SitesOk P env lc)(m:Nat){f:Nat}{vs:List AV}{h:Hp}{k:AV->Hp->Prop}(hk:qaT env ho lc (fr env ho lc m) (Nat.succ f) vs h k):SC P f vs h k:=(xq he hh hs ((qdc he hh hs m).1 m (Nat.le_refl _))).1 f vs h k hk
end Go.Kc
end
section
namespace Go.Kc
@[reducible] def qno (P:Program) (lc:xh):Cur:=⟨fun j r=>∃ps x y,lc j=some (ps,x,y)∧LoopOk P r ps x y,fun _ _ ⟨ps,x,y,h1,h2⟩=>⟨ps,x,y,h1,⟨h2.params,h2.code,h2.flat,h2.real⟩⟩⟩
inductive AllT (p:Nat->IFn->Bool):Nat->Nat->Tr IFn->Prop where
 | leaf (a b:Nat):AllT p a b .leaf
 | no (a b:Nat) {l r:Tr IFn}:AllT p (2*a) (a+b) l->AllT p (2*a) (2*a+b) r->AllT p a b (.node none l r)
 | fn (a b:Nat) {i:IFn} {l r:Tr IFn}:p b i=true->AllT p (2*a) (a+b) l->AllT p (2*a) (2*a+b) r->AllT p a b (.node (some i) l r)

theorem AllT.get{p:Nat->IFn->Bool}{a b:Nat}{t:Tr IFn}(h:AllT p a b t):∀n i,t.get n=some i->p (a*n+b) i=true:=by
 induction h with
 | leaf=>intro n i h;simp at h
 | no a b hl hr ihl ihr =>
  intro n i h;cases n with
  | zero=>rw[Tr.get_node] at h;cases h
  | succ m =>
   rcases Nat.mod_two_eq_zero_or_one m with h0|h0
   ·obtain⟨j,rfl⟩:∃j,m=2*j:=⟨m / 2,by omega⟩
    rw[Tr.get_node] at h;simp only[h0,if_true,Nat.mul_div_cancel_left j (Nat.zero_lt_two)] at h;have:=ihl j i h;rwa [show 2*a*j+(a+b)=a*(2*j+1)+b from by rw[Nat.mul_add,Nat.mul_one,← Nat.mul_assoc,Nat.mul_comm a 2];omega] at this
   ·obtain⟨j,rfl⟩:∃j,m=2*j+1:=⟨m / 2,by omega⟩
    rw[Tr.get_node] at h;simp only[h0,Nat.one_ne_zero,if_false,show (2*j+1) / 2=j from by omega] at h
    have:=ihr j i h;rwa [show 2*a*j+(2*a+b)=a*(2*j+1+1)+b from by rw[Nat.mul_add,Nat.mul_add,Nat.mul_one,← Nat.mul_assoc,Nat.mul_comm a 2];omega] at this
 | fn a b hc hl hr ihl ihr =>
  intro n i h;cases n with
  | zero=>rw[Tr.get_node] at h;cases h;simpa using hc
  | succ m =>
   rcases Nat.mod_two_eq_zero_or_one m with h0|h0
   ·obtain⟨j,rfl⟩:∃j,m=2*j:=⟨m / 2,by omega⟩
    rw[Tr.get_node] at h;simp only[h0,if_true,Nat.mul_div_cancel_left j (Nat.zero_lt_two)] at h;have:=ihl j i h;rwa [show 2*a*j+(a+b)=a*(2*j+1)+b from by rw[Nat.mul_add,Nat.mul_one,← Nat.mul_assoc,Nat.mul_comm a 2];omega] at this
   ·obtain⟨j,rfl⟩:∃j,m=2*j+1:=⟨m / 2,by omega⟩
    rw[Tr.get_node] at h;simp only[h0,Nat.one_ne_zero,if_false,show (2*j+1) / 2=j from by omega] at h
    have:=ihr j i h;rwa [show 2*a*j+(2*a+b)=a*(2*j+1+1)+b from by rw[Nat.mul_add,Nat.mul_add,Nat.mul_one,← Nat.mul_assoc,Nat.mul_comm a 2];omega] at this

noncomputable def qdB(p:Nat->IFn->Bool):Tr IFn->Nat->Nat->Bool:=fun t=>Tr.rec (motive:=fun _=>Nat->Nat->Bool) (fun _ _=>true) (fun v _ _ il ir a b=>(match v with|none=>true|some i=>p b i)&&(il (2*a) (a+b)&&ir (2*a) (2*a+b))) t
theorem wj{p:Nat->IFn->Bool}:∀(t:Tr IFn) (a b:Nat),qdB p t a b=true->AllT p a b t
 | .leaf,a,b,_=>.leaf a b
 | .node none l r,a,b,h=>by
  have h':(true&&(qdB p l (2*a) (a+b)&&qdB p r (2*a) (2*a+b)))=true:=h;simp only[Bool.and_eq_true] at h';exact .no a b (wj l _ _ h'.2.1) (wj r _ _ h'.2.2)
 | .node (some i) l r,a,b,h=>by
  have h':(p b i&&(qdB p l (2*a) (a+b)&&qdB p r (2*a) (2*a+b)))=true:=h;simp only[Bool.and_eq_true] at h';exact .fn a b h'.1 (wj l _ _ h'.2.1) (wj r _ _ h'.2.2)
def qez(l:List (List Nat×ICode×ICode)):xh:=fun j=>l[j]?
theorem qof{P:Program}{env:Tr IFn}{l:List (List Nat×ICode×ICode)}{L:List Nat}(hflat:(l.all fun x=>xf x.2.1&&xf x.2.2)=true)(hn:qdB (fun n i=>xf i.body||L.any (Nat.beq n)) env 1 0=true)
  (hL:∀f ∈ L,∀i,env.get f=some i->qO (qez l) i.body):@SitesOk (qno P (qez l)) P env (qez l):=by
 letI:=qno P (qez l)
 refine⟨fun j ps x y r h1 h2=>⟨ps,x,y,h1,h2⟩,fun j ps x y r h1 ⟨ps',x',y',h2,h3⟩=>?_,fun j ps x y h=>?_,fun f i hg=>?_⟩
 ·rw[h1] at h2;cases h2;exact h3
 ·have:=List.all_eq_true.1 hflat _ (zzM h);simpa using this
 ·have h:=(wj env 1 0 hn).get f i hg;rw[Nat.one_mul] at h;rcases (Bool.or_eq_true _ _ ▸ h:xf i.body=true∨L.any (Nat.beq (f+0))=true) with h|h
  ·exact qO.of_no h
  ·obtain⟨g,hg1,hg2⟩:=List.any_eq_true.1 h;have:=Nat.eq_of_beq_eq_true hg2;exact hL f (by have e:f=g:=this;rw[e];exact hg1) i hg
def qd2(fd:Nat)(i:IFn):Bool:=match i.body with
 | .seq (.reg false _) (.seq (.reg false _) (.seq (.reg false [⟨some _,.op (.mkF g [] _),none⟩]) _))=>Nat.beq g fd
 | _=>false
theorem qok{P:Program}{env:Tr IFn}{D:List (Nat×Nat)}(h:qdB (fun n i=>xA P n i||D.any fun p=>Nat.beq p.1 n&&(qd2 p.2 i&&wH P n p.2 i)) env 1 0=true):wF P env:=by
 intro f i hg;have h:=(wj env 1 0 h).get f i hg;rw[Nat.one_mul,Nat.add_zero] at h;rcases (Bool.or_eq_true _ _ ▸ h:xA P f i=true∨(D.any fun p=>Nat.beq p.1 f&&(qd2 p.2 i&&wH P f p.2 i))=true) with h|h
 ·exact .inl h
 ·obtain⟨p,_,hp⟩:=List.any_eq_true.1 h;simp only[Bool.and_eq_true] at hp;obtain⟨_,h1,h2⟩:=hp;refine .inr ?_;unfold qd2 at h1;split at h1<;>try (cases h1;done)
  rename_i rsA rsB d g caps y hb;have e:=Nat.eq_of_beq_eq_true h1;rw[e] at hb;exact⟨rsA,rsB,d,p.2,caps,y,hb,h2⟩
end Go.Kc
end
section
namespace Go.Kc
variable [Cur]
variable {P:Program}
noncomputable def qlg(a b:qcP):qcP:=fun f vs=>Option.rec (motive:=fun _=>Option AV) (b f vs) (fun v=>some v) (a f vs)
theorem qmI{a b:qcP}(ha:qbi P a)(hb:qbi P b):qbi P (qlg a b):=fun f vs v h=>by
 have h':(Option.rec (motive:=fun _=>Option AV) (b f vs) (fun v=>some v) (a f vs):Option AV)=some v:=h
 cases hv:a f vs with
 | none=>rw[hv] at h';exact hb f vs v h'
 | some u=>rw[hv] at h';cases h';exact ha f vs v hv
theorem qX.runK{env:Tr IFn}{ho:HookG}{lc:xh}(he:wF P env)(hh:HookGOk P ho)(hs:SitesOk P env lc)(m:Nat){f:Nat}{vs:List AV}{v:AV}(hcl:zq vs=true)(hk:qaT env ho lc (fr env ho lc m) (Nat.succ f) vs H0 (fun v' h'=>tt (xj h' v v'))=True):qX P f vs v :=
 qX.of_SC hcl ((SC.runR he hh hs m (of_eq_true hk)).mono fun _ _ hv=>qej _ _ (qn3 hv))
end Go.Kc
end
section
namespace Go.Kc
variable [Cur]
section
variable {k:IntKind} {l m:List Int} {j:Nat}
end
def rS(l:List (List UInt8)):List AV:=l.map .s
section
variable {l m:List (List UInt8)} {j:Nat}
theorem qhG:(rS l).length=l.length:=by simp[rS]
theorem qN:zq (rS l)=true:=qc3 fun _=>rfl
theorem wb:(rS l)[j]?=(l[j]?).map .s:=by simp[rS]
theorem qhF:rS l++rS m=rS (l++m):=by simp[rS]
theorem qhH{x:List UInt8}:rS [x]=[.s x]:=rfl
end
end Go.Kc
end
section
namespace Go.Kc
variable [Cur]
open Go.RowKit
variable {P:Program} {f:Nat}
theorem Rel.below{ρ:Ren}{B:Nat->Prop}{h:Hp}{w w':World}(r:Rel σ0 ρ B h w)(hb:Below w.heap.size w w'):Rel σ0 ρ B h w':=by
 have hget:∀{k o},w.heap[k]?=some o->w'.heap[k]?=some o:=fun {k o} hk=>by rw[hb.block k (Array.getElem?_eq_some_iff.1 hk).1];exact hk
 refine⟨r.dom,fun b L e wf af cs h1 h2=>?_,fun b L es h1 h2=>?_,r.excl,r.exclm,r.app,r.flr,fun k hk=>Nat.lt_of_lt_of_le (r.base k hk) hb.size,fun k arr hk=>?_,⟨r.dn.1,fun b L h=>Nat.lt_of_lt_of_le (r.dn.2 b L h) hb.size⟩⟩
 ·obtain⟨e1,c,ty,fz,e2,e3⟩:=r.cells b L e wf af cs h1 h2;exact⟨e1,c,ty,fz,hget e2,e3⟩
 ·obtain⟨e1,o,e2,e3⟩:=r.maps b L es h1 h2;exact⟨e1,o,hget e2,e3⟩
 ·obtain⟨⟨ty,fz,e1⟩,e2⟩:=r.frz k arr hk;exact⟨⟨ty,fz,hget e1⟩,e2⟩
theorem Kept.below{ρ:Ren}{B:Nat->Prop}{h:Hp}{w w':World}(r:Rel σ0 ρ B h w)(hb:Below w.heap.size w w'):Kept ρ B h w ρ h w' :=
 ⟨fun _ _=>rfl,Nat.le_refl _,rfl,fun _ _ _=>rfl,fun k hk=>hb.block k (r.base k hk),hb.size,⟨hb.os,hb.output⟩,fun _ _ h=>h,fun _ _ h=>.inl h,Nat.le_refl _⟩
end Go.Kc
end
section
namespace Go.Kc
variable [Cur]
structure GCall where
 name:List UInt8
 act:Int
structure GNote where
 file:List UInt8
 line:Int
 err:Int
 text:List UInt8
section
variable {l m:List GCall} {j:Nat}
end
section
variable {l m:List GNote} {j:Nat}
end
end Go.Kc
end
section
namespace Go.Kc
variable [Cur]
open Go.RowKit Go.Sort
variable {P:Program} {f:Nat}
def qmh:Array Value:=(Lib.pow10Tab.map fun z=>Value.int .u64 z).toArray
def qfK(P:Program)(f:Nat):Prop:=∀n:Int,-9223372036854775808<=n->n<=9223372036854775807->∀w:World,Lib.TabIs P w "internal/strconv.uint64pow10" .u64 Lib.pow10Tab->
 Calls P f #[.int .i64 n] w fun e w'=>e = .returned (.string ⟨(Lib.itoa n).toArray⟩)∧∃k os,w'=grow (w.drewN k) os
def qkK(P:Program)(f:Nat):Prop:=∀n:Int,-9223372036854775808<=n->n<=9223372036854775807->qX P f [.i .i64 n] (.s (Lib.itoa n))
theorem qmK{g:Nat}(hcod:qao P f)(hg:P.globalNamed "internal/strconv.uint64pow10" = some g)(ht:tab g=some qmh)(hK:qfK P f):qkK P f:=by
 intro n h0 h1 h k hk;refine⟨trivial,fun ρ B w args r ha=>?_⟩
 generalize hA:args.toList=L at ha;cases ha with
 | cons _ _ _ _ a1 a2 =>
  rename_i v1 vs1;cases a2;have hargs:args = #[v1]:=by apply Array.ext';rw[hA]
  subst hargs;cases a1;obtain⟨⟨ty,fz,hw⟩,_⟩:=r.frz g _ (ρ.frz.ok g _ ht)
  have htab:Lib.TabIs P w "internal/strconv.uint64pow10" .u64 Lib.pow10Tab:=by
   unfold Lib.TabIs World.var?;rw[hg];show (match w.heap[g]? with|some (.cells cs _ _)=>some cs|_=>none)=_
   rw[hw];rfl
  refine .inl ⟨hcod,(hK n h0 h1 w htab).mono ?_⟩;rintro e w' ⟨rfl,q,os,rfl⟩;have hb:=Lib.below_grow w.heap.size w (Nat.le_refl _) q os;exact⟨_,_,h,ρ,rfl,hk,.s _,r.below hb,Kept.below r hb⟩
end Go.Kc
end
section
namespace Go.Kc
variable [Cur]
variable {P:Program} {f:Nat}
def bR(l:List UInt8):List AV:=l.map fun c=>.i .u8 ((c.toNat:Nat):Int)
theorem jP{l:List UInt8}:(bR l).length=l.length:=by simp[bR]
theorem xV{l:List UInt8}:zq (bR l)=true:=qc3 fun _=>rfl
theorem qd4:∀{l:List UInt8} {k:List UInt8->Prop},qK (bR l) k↔k l
 | [],_=>Iff.rfl
 | c::l,k=>by
  show qK (bR l) (fun r=>k (UInt8.ofNat c.toNat::r))↔_
  rw[qd4];simp





def agM(old now:List (List UInt8)):List (List UInt8):=(now.zipIdx.filter fun p=>decide (old[p.2]?≠some p.1)).map Prod.fst
theorem qai{old now:List (List UInt8)}{j:Nat}{x:List UInt8}(hx:now[j]?=some x):agM old (now.take (j+1))=agM old (now.take j)++if old[j]?=some x then [] else [x]:=by
 have hj:j<now.length:=(zzS.1 hx).1;have hl:(now.take j).length=j:=by rw[List.length_take];omega
 unfold agM;rw[List.take_add_one,hx];simp only[Option.toList_some,List.zipIdx_append,List.filter_append,List.map_append,hl,Nat.zero_add]
 congr 1
 by_cases h:old[j]?=some x
 ·simp[h]
 ·simp[h]
theorem qcn{old now:List (List UInt8)}{j:Nat}:(agM old (now.take j)).length<=j:=by
 unfold agM;rw[List.length_map];refine Nat.le_trans (List.length_filter_le _ _) ?_;rw[List.length_zipIdx,List.length_take];omega
theorem qfR(l:List (List UInt8)):agM l l=[]:=by
 unfold agM;rw[List.filter_eq_nil_iff.2,List.map_nil];rintro⟨x,i⟩ h;have:=List.mem_zipIdx_iff_getElem?.1 h;simp at this;simp[this]
theorem qku{old now:List (List UInt8)}{j:Nat}{x:List UInt8}(hx:now[j]?=some x)(ho:¬old[j]?=some x):(agM old now)[(agM old (now.take j)).length]?=some x:=by
 have e:∀m,j<m->m<=now.length->(agM old (now.take m))[(agM old (now.take j)).length]?=some x:=by
  intro m
  induction m with
  | zero=>intro h;omega
  | succ m ih =>
   intro h1 h2
   by_cases hm:m=j
   ·subst hm;rw[qai hx,if_neg ho,List.getElem?_append_right (Nat.le_refl _),Nat.sub_self];rfl
   ·obtain⟨y,hy⟩:∃y,now[m]?=some y:=⟨_,zzE (by omega)⟩;have h3:=ih (by omega) (by omega);rw[qai hy,List.getElem?_append_left (zzS.1 h3).1];exact h3
 have hj:j<now.length:=(zzS.1 hx).1;have:=e now.length hj (Nat.le_refl _);rwa [List.take_length] at this
def jp:IFn:=⟨[.tmp 4],.seq (.r [.m 4 .N]) (.seq (.r [.m 5 .N]) (.seq (.seq (.r [.n 8 1,.e 9 8,.m 10 (.k 0)]) (.blk 0 (.loop (.seq (.r [.s 11 10 9]) (.seq (.cond (.t 11) (.skip) (.exit 0)) (.seq (.blk 1 (.seq (.r [.n 12 10,.i 13 1 8 10,.d 14 13,.n 6 12,.n 7 14]) (.seq (.r [.n 15 6,.n 16 0,.e 17 16,.b 18 .geq 15 17,.n 19 18,.z 20 0 19,.z 21 6 19,.g 22 (.iAddrS 1 (.t 20) (.t 21)) 19 false,.j 23 22 19 false,.z 24 7 19,.g 25 (.bin .neq (.t 23) (.t 24)) 19 false,.o 26 19 25]) (.cond (.t 26) (.r [.n 27 5,.n 28 7,.q 29 (.buildS 1 [.s []] [(0,1,(.t 28))]),.q 30 (.app 1 16 true (.t 27) (.t 29)),.n 5 30]) (.skip))))) (.r [.a 31 10 1,.n 10 31]))))))) (.seq (.r [.n 32 5,.n 4 32]) (.ret))))⟩
theorem qj4(hc:xA P f jp=true)(old now:List (List UInt8))(ho:old.length<=100000)(hn:now.length<=100000):Own P f [.fz old.length (rS old),.fz now.length (rS now)] (.own 0 (agM old now).length) [.cells 1 true true (rS (agM old now))]:=by
 refine Own.mk hc (by simp[zq,clo,qN]) ?_;simp only[jp,vI,simprocAttr];simp +decide only[↓vS,vT,simprocAttr];refine SL.loop (α:=Nat) (fun j=>[(0,.fz old.length (rS old)),(8,.fz now.length (rS now)),(5,.own 0 (agM old (now.take j)).length),(9,.i .i64 now.length),(10,.i .i64 j)]) (fun j=>[.cells 1 true true (rS (agM old (now.take j)))]) (fun j=>j<=now.length) (fun j=>now.length-j) 0 [99] ?_ ?_ ?_ rfl ?_ ?_
 ·simp[vw,qv,qN,agM]
 ·simp[vw,qv,rS,agM]
 ·simp
 ·exact Nat.zero_le _
 rintro j hj G ih;simp only[vI,simprocAttr]
 by_cases hlt:j<now.length
 ·obtain⟨x,hx⟩:∃x,now[j]?=some x:=⟨_,zzE hlt⟩;have hxr:(rS now)[j]?=some (.s x):=by rw[wb,hx];rfl
  have hw:IntKind.wrap .i64 ((j:Int)+1)=((j+1:Nat):Int):=by rw[qad (by omega) (by omega)];omega
  have hk:=qcn (old:=old) (now:=now) (j:=j);have ih2:=ih (j+1);have hst:=qai (old:=old) hx;have w1:(agM old (now.take j)).length+1<=qj:=by simp only[qj];omega
  have w2:((agM old (now.take j)).length+1)*16<=qj:=by simp only[qj];omega
  have hrl:(rS (agM old (now.take j))).length=(agM old (now.take j)).length:=qhG;have hcr:=qN (l:=agM old (now.take j));have hcx:zq (rS (agM old (now.take j))++[.s x])=true:=by rw[qc2,hcr];rfl
  by_cases hjo:j<old.length
  ·obtain⟨y,hy⟩:∃y,old[j]?=some y:=⟨_,zzE hjo⟩;have hyr:(rS old)[j]?=some (.s y):=by rw[wb,hy];rfl
   have hjo':¬((old.length:Int)<=j):=by omega
   by_cases hxy:y=x
   ·subst hxy;rw[if_pos hy,List.append_nil] at hst;rw[hst] at ih2;simp +decide only[↓vS,vT,simprocAttr,hlt,hjo,hjo',hxr,hyr,hw,Nat.mul_one,beq_self_eq_true];refine ih2 (by omega) (by omega) _ _ (Wk.mk _ _ [0] ?_ ?_ ?_ rfl)
    ·simp[vw,qv,qN]
    ·simp[vw,qv,hcr]
    ·simp
   ·have hne:¬old[j]?=some x:=by rw[hy];simpa using hxy
    rw[if_neg hne] at hst;rw[hst,← qhF,qhH] at ih2;have hb:(y==x)=false:=by simpa using hxy
    simp +decide only[↓vS,vT,simprocAttr,hlt,hjo,hjo',hxr,hyr,hw,Nat.mul_one,hb,hxy,w1,w2,hrl];refine ih2 (by omega) (by omega) _ _ (Wk.mk _ _ [2] ?_ ?_ ?_ rfl)
    ·simp[vw,qv,qN]
    ·simp[vw,qv,hcx]
    ·simp
  ·have hjo':(old.length:Int)<=j:=by omega
   have hne:¬old[j]?=some x:=by rw[List.getElem?_eq_none (by omega)];simp
   rw[if_neg hne] at hst;rw[hst,← qhF,qhH] at ih2;simp +decide only[↓vS,vT,simprocAttr,hlt,hjo,hjo',hxr,hw,Nat.mul_one,w1,w2,hrl];refine ih2 (by omega) (by omega) _ _ (Wk.mk _ _ [2] ?_ ?_ ?_ rfl)
   ·simp[vw,qv,qN]
   ·simp[vw,qv,hcx]
   ·simp
 ·obtain rfl:j=now.length:=by omega
  simp +decide only[↓vS,vT,simprocAttr,hlt,List.take_length];intro _;refine⟨[0],?_⟩;simp[vw,qv,qN]
def qD(a b:Nat):ICode:=.seq (.r [.n 31 0,.n 32 1,.l 33 b [.t 31,.t 32],.n 6 33]) (.seq (.r [.m 7 (.k 0)]) (.seq (.seq (.r [.m 8 (.k 0)]) (.blk 2 (.loop (.seq (.seq (.r [.n 34 8,.n 35 1,.e 36 35,.s 37 34 36]) (.cond (.t 37) (.skip) (.exit 2))) (.seq (.blk 3 (.seq (.seq (.reg true [.n 40 8,.n 41 0,.e 42 41,.s 43 40 42,.n 44 43,.y 45 0 44,.y 46 8 44,.g 47 (.iAddrS 1 (.t 45) (.t 46)) 44 true,.j 48 47 44 true,.y 49 1 44,.y 50 8 44,.g 51 (.iAddrS 1 (.t 49) (.t 50)) 44 true,.j 52 51 44 true,.g 53 (.bin .eql (.t 48) (.t 52)) 44 true,.p 54 44 53]) (.cond (.t 54) (.exit 3) (.skip))) (.seq (.seq (.reg true [.n 55 7,.n 56 6,.e 57 56,.b 58 .geq 55 57,.n 59 58,.z 60 6 59,.z 61 7 59,.g 62 (.iAddrS 1 (.t 60) (.t 61)) 59 false,.j 63 62 59 false,.z 64 1 59,.z 65 8 59,.g 66 (.iAddrS 1 (.t 64) (.t 65)) 59 false,.j 67 66 59 false,.g 68 (.bin .neq (.t 63) (.t 67)) 59 false,.o 69 59 68]) (.cond (.t 69) (.seq (.r [.m 4 .F]) (.ret)) (.skip))) (.r [.n 70 7,.a 71 70 1,.n 7 71])))) (.r [.n 38 8,.a 39 38 1,.n 8 39])))))) (.seq (.r [.n 72 7,.n 73 6,.e 74 73,.b 75 .eql 72 74,.n 76 75,.y 77 1 76,.y 78 1 76,⟨(some 79),.callF b [.t 77,.t 78],(some (76,true))⟩,.g 80 (.len false (.t 79)) 76 true,.g 81 (.bin .eql (.t 80) (.k 0)) 76 true,.p 82 76 81,.n 83 82,⟨(some 84),.callF a [],(some (83,true))⟩,.p 85 83 84,.n 4 85]) (.ret))))
def zm(a b:Nat):IFn:=⟨[.tmp 4],.seq (.r [.m 4 .F]) (.seq (.seq (.r [.n 9 0,.e 10 9,.w 11 .gtr 10 100,.n 12 11,.z 13 1 12,.g 14 (.len false (.t 13)) 12 false,.g 15 (.bin .gtr (.t 14) (.k 100)) 12 false,.o 16 12 15]) (.cond (.t 16) (.seq (.r [.l 17 a [],.n 4 17]) (.ret)) (.skip))) (.seq (.seq (.r [.m 5 (.k 0)]) (.blk 0 (.loop (.seq (.seq (.r [.n 18 5,.n 19 1,.e 20 19,.s 21 18 20]) (.cond (.t 21) (.skip) (.exit 0))) (.seq (.blk 1 (.seq (.r [.n 24 1,.n 25 5,.i 26 1 24 25,.d 27 26,.q 28 (.len true (.t 27)),.w 29 .gtr 28 200]) (.cond (.t 29) (.seq (.r [.l 30 a [],.n 4 30]) (.ret)) (.skip)))) (.r [.n 22 5,.a 23 22 1,.n 5 23])))))) (.cut (qD a b))))⟩
theorem qcR{g1 g2:Nat}(h1:qX P g1 [] (.b true))(h2:∀old now:List (List UInt8),old.length<=100000->now.length<=100000->Own P g2 [.fz old.length (rS old),.fz now.length (rS now)] (.own 0 (agM old now).length) [.cells 1 true true (rS (agM old now))])
  (old now:List (List UInt8)) (ho:old.length<=100) (hn:now.length<=100) {t:Tr AV} {h:Hp} (hw:Wk 0 t h (mkT [(0,.fz old.length (rS old)),(1,.fz now.length (rS now))]) (mkH 0 [])) :
  S P 0 (qD g1 g2) (qbr [.tmp 4] fun v' h'=>Frz h' v' (.b true)) t h:=by
 refine S.weak hw (zy ?_);have i1:=h2 old now (by omega) (by omega);have i2:=h2 now now (by omega) (by omega);rw[qfR] at i2;simp only[qD,vI,simprocAttr];simp +decide only[↓vS,vT,simprocAttr];refine i1.sc ?_;simp only[vJ,simprocAttr,xR qN];have hA:agM old now=agM old (now.take now.length):=by rw[List.take_length]
 have hAl:(agM old now).length<=now.length:=hA ▸ qcn;simp +decide only[↓vS,vT,simprocAttr];refine SL.loop (α:=Nat) (fun j=>[(0,.fz old.length (rS old)),(1,.fz now.length (rS now)),(6,.own 0 (agM old now).length),(7,.i .i64 (agM old (now.take j)).length),(8,.i .i64 j)]) (fun _=>[.cells 1 true true (rS (agM old now))]) (fun j=>j<=now.length) (fun j=>now.length-j) 0 [0] ?_ ?_ ?_ rfl ?_ ?_
 ·simp[vw,qv,qN,agM]
 ·simp[vw,qv,qN]
 ·simp
 ·exact Nat.zero_le _
 rintro j hj G ih;simp only[vI,simprocAttr]
 by_cases hlt:j<now.length
 ·obtain⟨x,hx⟩:∃x,now[j]?=some x:=⟨_,zzE hlt⟩;have hxr:(rS now)[j]?=some (.s x):=by rw[wb,hx];rfl
  have hw:IntKind.wrap .i64 ((j:Int)+1)=((j+1:Nat):Int):=by rw[qad (by omega) (by omega)];omega
  have hk:=qcn (old:=old) (now:=now) (j:=j);have hst:=qai (old:=old) hx;have hat:=qku (old:=old) hx;have ih2:=ih (j+1);have hA1:=qcn (old:=old) (now:=now) (j:=j+1);have hln:((agM old now).length:Int)<=100:=by omega
  generalize hkk:(agM old (now.take j)).length=kk at *;have hwk:IntKind.wrap .i64 ((kk:Int)+1)=((kk+1:Nat):Int):=by rw[qad (by omega) (by omega)];omega
  have tel:¬old[j]?=some x->kk<(agM old now).length∧(rS (agM old now))[kk]?=some (.s x)∧(agM old (now.take (j+1))).length=kk+1:=fun ho=>by
   have h3:=hat ho;refine⟨(zzS.1 h3).1,by rw[wb,h3];rfl,?_⟩
   rw[hst,if_neg ho,List.length_append,hkk];rfl
  by_cases hjo:j<old.length
  ·obtain⟨y,hy⟩:∃y,old[j]?=some y:=⟨_,zzE hjo⟩;have hyr:(rS old)[j]?=some (.s y):=by rw[wb,hy];rfl
   by_cases hxy:y=x
   ·subst hxy;rw[if_pos hy,List.append_nil] at hst;rw[hst,hkk] at ih2;simp +decide only[↓vS,vT,simprocAttr,hlt,hjo,hxr,hyr,hw,Nat.mul_one,beq_self_eq_true];refine qbk ?_;simp +decide only[↓vS,vT,simprocAttr,hlt,hjo,hxr,hyr,hw,Nat.mul_one,beq_self_eq_true];refine ih2 (by omega) (by omega) _ _ (Wk.mk _ _ [0] ?_ ?_ ?_ rfl)
    ·simp[vw,qv,qN]
    ·simp[vw,qv,qN]
    ·simp
   ·obtain⟨t1,t2,t3⟩:=tel (by rw[hy];simpa using hxy);rw[t3] at ih2;have t1':¬((agM old now).length:Int)<=kk:=by omega
    simp +decide only[↓vS,vT,simprocAttr,hlt,hjo,hxr,hyr,hw,Nat.mul_one,hxy,t1,t1',t2,hwk,beq_self_eq_true];refine qbk ?_;simp +decide only[↓vS,vT,simprocAttr,hlt,hjo,hxr,hyr,hw,Nat.mul_one,hxy,t1,t1',t2,hwk,beq_self_eq_true];refine qbk ?_;simp +decide only[↓vS,vT,simprocAttr,hlt,hjo,hxr,hyr,hw,Nat.mul_one,hxy,t1,t1',t2,hwk,beq_self_eq_true];refine ih2 (by omega) (by omega) _ _ (Wk.mk _ _ [0] ?_ ?_ ?_ rfl)
    ·simp[vw,qv,qN]
    ·simp[vw,qv,qN]
    ·simp
  ·obtain⟨t1,t2,t3⟩:=tel (by rw[List.getElem?_eq_none (by omega)];simp)
   rw[t3] at ih2;have t1':¬((agM old now).length:Int)<=kk:=by omega
   have hjo':¬(j:Int)<old.length:=by omega
   simp +decide only[↓vS,vT,simprocAttr,hlt,hjo,hjo',hxr,hw,Nat.mul_one,t1,t1',t2,hwk,beq_self_eq_true];refine qbk ?_;simp +decide only[↓vS,vT,simprocAttr,hlt,hjo,hjo',hxr,hw,Nat.mul_one,t1,t1',t2,hwk,beq_self_eq_true];refine qbk ?_;simp +decide only[↓vS,vT,simprocAttr,hlt,hjo,hjo',hxr,hw,Nat.mul_one,t1,t1',t2,hwk,beq_self_eq_true];refine ih2 (by omega) (by omega) _ _ (Wk.mk _ _ [0] ?_ ?_ ?_ rfl)
   ·simp[vw,qv,qN]
   ·simp[vw,qv,qN]
   ·simp
 ·obtain rfl:j=now.length:=by omega
  simp +decide only[↓vS,vT,simprocAttr,hlt,← hA];refine i2.sc ?_;simp only[vJ,simprocAttr,xR qN];simp +decide only[↓vS,vT,simprocAttr];refine h1.sc ?_;simp only[↓vS,vT,simprocAttr];simp[vZ]
theorem qlo{g1 g2:Nat}(hc:xA P f (zm g1 g2)=true)(h1:qX P g1 [] (.b true))(h2:∀old now:List (List UInt8),old.length<=100000->now.length<=100000->Own P g2 [.fz old.length (rS old),.fz now.length (rS now)] (.own 0 (agM old now).length) [.cells 1 true true (rS (agM old now))])
  (old now:List (List UInt8)):qX P f [.fz old.length (rS old),.fz now.length (rS now)] (.b true):=by
 refine qX.mk hc (by simp[zq,clo,qN]) ?_;simp only[zm,vI,simprocAttr]
 by_cases ho:100<old.length
 ·have ho':(100:Int)<old.length:=by omega
  simp +decide only[↓vS,vT,simprocAttr,ho'];refine h1.sc ?_;simp only[↓vS,vT,simprocAttr];simp[vZ]
 have ho':¬(100:Int)<old.length:=by omega
 by_cases hn:100<now.length
 ·have hn':(100:Int)<now.length:=by omega
  simp +decide only[↓vS,vT,simprocAttr,ho',hn'];refine h1.sc ?_;simp only[↓vS,vT,simprocAttr];simp[vZ]
 have hn':¬(100:Int)<now.length:=by omega
 simp +decide only[↓vS,vT,simprocAttr,ho',hn'];refine SL.loop (α:=Nat) (fun j=>[(0,.fz old.length (rS old)),(1,.fz now.length (rS now)),(5,.i .i64 j)]) (fun _=>[]) (fun j=>j<=now.length) (fun j=>now.length-j) 0 [] ?_ ?_ ?_ rfl ?_ ?_
 ·simp[vw,qv,qN]
 ·simp[vw]
 ·simp
 ·exact Nat.zero_le _
 rintro j hj G ih;simp only[vI,simprocAttr]
 by_cases hlt:j<now.length
 ·obtain⟨x,hx⟩:∃x,now[j]?=some x:=⟨_,zzE hlt⟩;have hxr:(rS now)[j]?=some (.s x):=by rw[wb,hx];rfl
  have hw:IntKind.wrap .i64 ((j:Int)+1)=((j+1:Nat):Int):=by rw[qad (by omega) (by omega)];omega
  by_cases hxl:200<x.length
  ·have hxl':(200:Int)<x.length:=by omega
   simp +decide only[↓vS,vT,simprocAttr,hlt,hxr,Nat.mul_one,hxl'];refine h1.sc ?_;simp only[↓vS,vT,simprocAttr];simp[vZ]
  ·have hxl':¬(200:Int)<x.length:=by omega
   simp +decide only[↓vS,vT,simprocAttr,hlt,hxr,Nat.mul_one,hxl',hw];refine ih (j+1) hlt (by omega) _ _ (Wk.mk _ _ [] ?_ ?_ ?_ rfl)
   ·simp[vw,qv,qN]
   ·simp[vw]
   ·simp
 ·obtain rfl:j=now.length:=by omega
  simp +decide only[↓vS,vT,simprocAttr,hlt];refine qcR h1 h2 old now (by omega) (by omega) (Wk.mk _ _ [] ?_ ?_ ?_ rfl)
  ·simp[vw,qv,qN]
  ·simp[vw]
  ·simp
def qjY:List (List UInt8×List (List UInt8)):=[([83,121,115,116,101,109,67,97,108,108,70,105,108,116,101,114],[[64,98,97,115,105,99,45,105,111,32,64,112,114,111,99,101,115,115],[126,64,110,101,116,119,111,114,107,32,107,105,108,108,58,69,80,69,82,77],[126,114,101,97,100,58,107,105,108,108,32,115,111,99,107,101,116],[119,114,105,116,101],[],[126,64,112,114,105,118,105,108,101,103,101,100,58,69,78,79,83,89,83],[64,115,121,115,116,101,109],[126,64,99,108,111,99,107,32,114,101,98,111,111,116,58,53]]),([83,121,115,116,101,109,67,97,108,108,69,114,114,111,114,78,117,109,98,101,114],[[69,78,79,83,89,83],[107,105,108,108],[],[49,51]]),([83,121,115,116,101,109,67,97,108,108,76,111,103],[[111,112,101,110,32,111,112,101,110,97,116],[126,64,102,105,108,101],[],[64,112,114,111,99,101,115,115]]),([83,121,115,116,101,109,67,97,108,108,65,114,99,104,105,116,101,99,116,117,114,101,115],[[110,97,116,105,118,101],[120,56,54,32,97,114,109,54,52],[],[114,105,115,99,118,54,52]]),([82,101,115,116,114,105,99,116,65,100,100,114,101,115,115,70,97,109,105,108,105,101,115],[[65,70,95,85,78,73,88,32,65,70,95,73,78,69,84],[126,65,70,95,85,78,73,88],[110,111,110,101],[]]),([82,101,115,116,114,105,99,116,78,97,109,101,115,112,97,99,101,115],[[121,101,115],[126,110,101,116,32,117,115,101,114],[110,111],[112,105,100]]),([77,101,109,111,114,121,68,101,110,121,87,114,105,116,101,69,120,101,99,117,116,101],[[121,101,115],[110,111]]),([76,111,99,107,80,101,114,115,111,110,97,108,105,116,121],[[111,110],[109,97,121,98,101]])]
def qaz(r:Nat):List UInt8×List (List UInt8):=qjY.getD r ([],[])
def qbK(x:UInt8):List UInt8:=(qaz (x.toNat % 8)).1++[61]++(qaz (x.toNat % 8)).2.getD (x.toNat / 8 % (qaz (x.toNat % 8)).2.length) []++[10]
def qgI:List UInt8:=[91,83,101,114,118,105,99,101,93,10]
def za(b:List UInt8):List UInt8:=qgI++b.flatMap qbK
theorem qew:∀r,r<8->0<(qaz r).2.length∧(qaz r).2.length<=8∧(qaz r).1.length<=30∧∀v ∈ (qaz r).2,v.length<=30:=by decide
theorem qdV(x:UInt8):(qbK x).length<=62:=by
 obtain⟨h1,h2,h3,h4⟩:=qew (x.toNat % 8) (Nat.mod_lt _ (by decide));unfold qbK
 have:((qaz (x.toNat % 8)).2.getD (x.toNat / 8 % (qaz (x.toNat % 8)).2.length) []).length<=30:=by
  have hlt:=Nat.mod_lt (x.toNat / 8) h1;rw[List.getD_eq_getElem?_getD,zzE hlt];exact h4 _ (List.getElem_mem hlt)
 simp only[List.length_append,List.length_cons,List.length_nil];omega
theorem qaW{b:List UInt8}{j:Nat}{x:UInt8}(hx:b[j]?=some x):za (b.take (j+1))=za (b.take j)++qbK x:=by
 unfold za;rw[List.take_add_one,hx,List.flatMap_append];simp
theorem jx{b:List UInt8}:∀{j:Nat},(za (b.take j)).length<=10+j*62
 | 0=>by simp[za,qgI]
 | j+1=>by
  cases hx:b[j]? with
  | none=>rw[List.take_add_one,hx];have:=jx (b:=b) (j:=j);simp;omega
  | some x=>rw[qaW hx,List.length_append];have:=jx (b:=b) (j:=j);have:=qdV x;omega
def qkL(P:Program)(f:Nat):Prop:=∀r:Nat,r<8->qX P f [.i .i64 r] (.s (qaz r).1)
def qit(P:Program)(f:Nat):Prop:=∀r:Nat,r<8->qX P f [.i .i64 r] (.fz (qaz r).2.length (rS (qaz r).2))
def z7(a b:Nat):IFn:=⟨[.tmp 2],.seq (.r [.m 2 (.c (.s []))]) (.seq (.r [.m 3 (.c (.s [91,83,101,114,118,105,99,101,93,10]))]) (.seq (.seq (.r [.m 4 (.k 0)]) (.blk 0 (.loop (.seq (.seq (.r [.n 7 4,.n 8 0,.e 9 8,.s 10 7 9]) (.cond (.t 10) (.skip) (.exit 0))) (.seq (.blk 1 (.seq (.r [.n 13 0,.n 14 4,.i 15 1 13 14,.d 16 15,.q 17 (.cvInt .i64 (.t 16)),.w 18 .rem 17 8,.n 5 18]) (.seq (.r [.n 19 5,.l 20 a [.t 19],.n 6 20]) (.reg true [.n 21 3,.n 22 5,.l 23 b [.t 22],.b 24 .add 21 23,.q 25 (.bin .add (.t 24) (.c (.s [61]))),.n 26 6,.n 27 0,.n 28 4,.i 29 1 27 28,.d 30 29,.q 31 (.cvInt .i64 (.t 30)),.w 32 .quo 31 8,.n 33 6,.e 34 33,.b 35 .rem 32 34,.i 36 1 26 35,.d 37 36,.b 38 .add 25 37,.q 39 (.bin .add (.t 38) (.c (.s [10]))),.n 3 39])))) (.r [.n 11 4,.a 12 11 1,.n 4 12])))))) (.seq (.r [.n 40 3,.n 2 40]) (.ret))))⟩
theorem qoU{g1 g2:Nat}(hc:xA P f (z7 g1 g2)=true)(h1:qit P g1)(h2:qkL P g2)(b:List UInt8)(hl:b.length<=100000):qX P f [.fz b.length (bR b)] (.s (za b)):=by
 refine qX.mk hc (by simp[zq,clo,xV]) ?_;simp only[z7,vI,simprocAttr];simp +decide only[↓vS,vT,simprocAttr];refine SL.loop (α:=Nat) (fun j=>[(0,.fz b.length (bR b)),(3,.s (za (b.take j))),(4,.i .i64 j)]) (fun _=>[]) (fun j=>j<=b.length) (fun j=>b.length-j) 0 [] ?_ ?_ ?_ rfl ?_ ?_
 ·simp[vw,qv,xV,za,qgI]
 ·simp[vw]
 ·simp
 ·exact Nat.zero_le _
 rintro j hj G ih;simp only[vI,simprocAttr]
 by_cases hlt:j<b.length
 ·obtain⟨x,hx⟩:∃x,b[j]?=some x:=⟨_,zzE hlt⟩;have hxr:(bR b)[j]?=some (.i .u8 (x.toNat:Nat)):=by rw[bR,List.getElem?_map,hx];rfl
  have hw:IntKind.wrap .i64 ((j:Int)+1)=((j+1:Nat):Int):=by rw[qad (by omega) (by omega)];omega
  have hx8:=x.toNat_lt;have hr:x.toNat % 8<8:=Nat.mod_lt _ (by decide);have hwx:IntKind.wrap .i64 (x.toNat:Int)=x.toNat:=qad (by omega) (by omega);have h8:(8:Int)≠0:=by decide
  have hrm:Int.tmod (x.toNat:Int) 8=((x.toNat % 8:Nat):Int):=by rw[Int.tmod_eq_emod_of_nonneg (by omega)];omega
  have hq:IntKind.wrap .i64 (Int.tdiv (x.toNat:Int) 8)=((x.toNat / 8:Nat):Int):=by
   rw[Int.tdiv_eq_ediv_of_nonneg (by omega),qad (by omega) (by omega)];omega
  have i1:=h1 _ hr;have i2:=h2 _ hr;obtain⟨v1,v2,v3,v4⟩:=qew _ hr;have hst:=qaW hx;have hdl:=jx (b:=b) (j:=j);have ih2:=ih (j+1);rw[hst] at ih2;unfold qbK at ih2;generalize (qaz (x.toNat % 8)).1=key at *;generalize (qaz (x.toNat % 8)).2=vs at *;have hvl:(vs.length:Int)≠0:=by omega
  have hrm2:Int.tmod ((x.toNat / 8:Nat):Int) (vs.length:Int)=((x.toNat / 8 % vs.length:Nat):Int):=by rw[Int.tmod_eq_emod_of_nonneg (by omega)];omega
  have hm:=Nat.mod_lt (x.toNat / 8) v1;obtain⟨y,hy⟩:∃y,vs[x.toNat / 8 % vs.length]?=some y:=⟨_,zzE hm⟩;have hyr:(rS vs)[x.toNat / 8 % vs.length]?=some (.s y):=by rw[wb,hy];rfl
  have hyl:y.length<=30:=v4 _ (zzM hy);rw[List.getD_eq_getElem?_getD,hy] at ih2;simp only[Option.getD_some] at ih2;generalize za (b.take j)=D at *;generalize x.toNat / 8 % vs.length=m at *;generalize x.toNat / 8=d at *;generalize x.toNat % 8=r at *;have c1:D.length+key.length<=9223372036854775807:=by omega
  have c2:D.length+key.length+1<=9223372036854775807:=by omega
  have c3:D.length+(key.length+1)+y.length<=9223372036854775807:=by omega
  have c4:D.length+(key.length+1)+y.length+1<=9223372036854775807:=by omega
  have c5:D.length+(key.length+(y.length+1))<=9223372036854775806:=by omega
  simp +decide only[↓vS,vT,simprocAttr,hlt,hxr,Nat.mul_one,hwx,↓qd8 h8,hrm];refine i1.sc ?_;simp +decide only[↓vS,vT,simprocAttr];refine qbk ?_;simp +decide only[↓vS,vT,simprocAttr];refine i2.pc ?_;simp only[Hp.up,Hp.down];simp +decide only[↓vS,vT,simprocAttr,hlt,hxr,Nat.mul_one,hwx,↓qij h8,hq,↓qd8 hvl,hrm2,hm,hyr,hw,List.length_append,List.length_cons,List.length_nil,Nat.zero_add,c1,c2,c3,c4,c5];refine ih2 (by omega) (by omega) _ _ (Wk.mk _ _ [] ?_ ?_ ?_ rfl)
  ·simp[vw,qv,xV]
  ·simp[vw]
  ·simp
 ·obtain rfl:j=b.length:=by omega
  simp +decide only[↓vS,vT,simprocAttr,hlt,List.take_length];simp[vZ]
def nmD:List UInt8:=[100,114,97,102,116,46,115,101,114,118,105,99,101]
def qgz(b:List UInt8):List AV:=[.s nmD,.i .i64 0,.fz (za b).length (bR (za b))]
def qdI(P:Program)(f:Nat):Prop:=∀b:List UInt8,b.length<=1500->qX P f [.fz b.length (bR b)] (.agg (qgz b))
theorem qe1(b:List UInt8)(h:b.length<=1500):(za b).length<=100000:=by
 have:=jx (b:=b) (j:=b.length);rw[List.take_length] at this;omega
theorem qnj{l:List UInt8}:qt (bR l)=true:=qeW fun _=>rfl
def qG(a b c:Nat):ICode:=.seq (.r [.n 11 3,.l 12 a [.t 11],.q 4 (.alloc [.s [],.i .i64 0,.nils]),.u (.store 3 (.t 4) (.t 12))]) (.seq (.reg true [.f 13 0 4,.d 14 13,.q 15 (.bin .eql (.t 14) (.c (.s [100,114,97,102,116,46,115,101,114,118,105,99,101]))),.n 16 15,.h 17 1 4 16 true,.j 18 17 16 true,.g 19 (.bin .eql (.t 18) (.k 0)) 16 true,.p 20 16 19,.n 21 20,.h 22 2 4 21 true,.j 23 22 21 true,.g 24 (.b2s (.t 23)) 21 true,.y 25 0 21,⟨(some 26),.callF b [.t 25],(some (21,true))⟩,.g 27 (.bin .eql (.t 24) (.t 26)) 21 true,.p 28 21 27,.n 29 28,.y 30 3 29,.g 31 (.b2s (.t 30)) 29 true,.y 32 0 29,.g 33 (.b2s (.t 32)) 29 true,.g 34 (.bin .eql (.t 31) (.t 33)) 29 true,.p 35 29 34,.n 36 35,⟨(some 37),.callF c [],(some (36,true))⟩,.p 38 36 37,.n 2 38]) (.ret))
def zn(a b c:Nat):IFn:=⟨[.tmp 2],.seq (.r [.m 2 .F]) (.seq (.seq (.r [.n 5 0,.e 6 5,.w 7 .gtr 6 1500]) (.cond (.t 7) (.seq (.r [.m 2 .T]) (.ret)) (.skip))) (.seq (.r [.q 8 (.buildS 0 [.i .u8 0] []),.n 9 0,.q 10 (.app 1 1 true (.t 8) (.t 9)),.n 3 10]) (.cut (qG a b c))))⟩
theorem qbq{g1 g2 g3:Nat}(h1:qdI P g1)(h2:∀b:List UInt8,b.length<=100000->qX P g2 [.fz b.length (bR b)] (.s (za b)))(h3:qX P g3 [] (.b true))(b:List UInt8)(hb:b.length<=1500){t:Tr AV}{h:Hp}(hw:Wk 0 t h (mkT [(0,.fz b.length (bR b)),(3,.fz b.length (bR b))]) (mkH 0 [])) :
  S P 0 (qG g1 g2 g3) (qbr [.tmp 2] fun v' h'=>Frz h' v' (.b true)) t h:=by
 refine S.weak hw (zy ?_);have i1:=h1 b hb;have i2:=h2 b (by omega);have hT:=qe1 b hb;unfold qgz nmD at i1;have hl1:b.length<=(bR b).length:=by rw[jP];exact Nat.le_refl _
 have ht1:(bR b).take b.length=bR b:=List.take_of_length_le (by rw[jP];exact Nat.le_refl _);have hl2:(za b).length<=(bR (za b)).length:=by rw[jP];exact Nat.le_refl _
 have ht2:(bR (za b)).take (za b).length=bR (za b):=List.take_of_length_le (by rw[jP];exact Nat.le_refl _);simp only[qG,vI,simprocAttr];simp +decide only[↓vS,vT,simprocAttr];refine i1.sc ?_;simp +decide only[↓vS,vT,simprocAttr];refine qbk ?_;simp +decide only[↓vS,vT,simprocAttr,hl1,ht1,hl2,ht2,qd4];refine i2.pc ?_;simp only[Hp.up,Hp.down];simp +decide only[↓vS,vT,simprocAttr,hl1,ht1,hl2,ht2,qd4,beq_self_eq_true];refine h3.pc ?_;simp only[Hp.up,Hp.down];simp +decide only[↓vS,vT,simprocAttr];simp[vZ]
theorem qmN{g1 g2 g3:Nat}(hc:xA P f (zn g1 g2 g3)=true)(h1:qdI P g1)(h2:∀b:List UInt8,b.length<=100000->qX P g2 [.fz b.length (bR b)] (.s (za b)))(h3:qX P g3 [] (.b true))(b:List UInt8):qX P f [.fz b.length (bR b)] (.b true):=by
 refine qX.mk hc (by simp[zq,clo,xV]) ?_;simp only[zn,vI,simprocAttr]
 by_cases hb:1500<b.length
 ·have hb':(1500:Int)<b.length:=by omega
  simp +decide only[↓vS,vT,simprocAttr,hb'];simp[vZ]
 have hb':¬(1500:Int)<b.length:=by omega
 have hl1:b.length<=(bR b).length:=by rw[jP];exact Nat.le_refl _
 have ht1:(bR b).take b.length=bR b:=List.take_of_length_le (by rw[jP];exact Nat.le_refl _);have hr1:b.length<=qj:=by simp only[qj];omega
 by_cases hz:b=[]
 ·subst hz;simp +decide only[↓vS,vT,simprocAttr,hb',bR,List.map_nil,List.length_nil];refine S.weak (Wk.mk [(0,.fz 0 []),(3,.sl 0 0 0 0 false)] [.cells 0 true false []] [0] ?_ ?_ ?_ rfl) ?_
  ·simp[vw,bR]
  ·simp[vw]
  ·simp
  refine S.weak (Wk.freeze 0 0 0 rfl rfl (Nat.zero_le _) (by simp)) ?_;refine qbq h1 h2 h3 [] (by simp) (Wk.mk _ _ [] ?_ ?_ ?_ rfl)
  ·simp[vw,mkT,fzv,jo,bR]
  ·simp[vw,mkH,trL,fzB,jo,fzv]
  ·simp[mkH]
 have hz0:¬b.length<=0:=by intro h;exact hz (List.eq_nil_of_length_eq_zero (by omega))
 simp +decide only[↓vS,vT,simprocAttr,hb',hl1,ht1,hr1,qnj,Nat.mul_one,Nat.zero_add,hz0];refine S.weak (Wk.mk [(0,.fz b.length (bR b)),(3,.own 0 b.length)] [.cells 1 true true (bR b)] [1] ?_ ?_ ?_ rfl) ?_
 ·simp[vw,qv,xV]
 ·simp[vw,qv,xV]
 ·simp
 refine S.weak (Wk.freeze 0 1 1 rfl xV (Nat.zero_le _) (by simp)) ?_;refine qbq h1 h2 h3 b (by omega) (Wk.mk _ _ [] ?_ ?_ ?_ rfl)
 ·simp[vw,mkT,fzv,jo,qv,xV];intro h;exact absurd h hz
 ·simp[vw,mkH,trL,fzB,jo,fzv]
 ·simp[mkH]
section
variable {g1 g2 g3 g4 g5 g6 g7:Nat}
end
end Go.Kc
end
section
namespace Go.Kc
variable [Cur]
open Go.RowKit
variable {P:Program} {f:Nat}
structure Bel (n:Nat) (w w':World):Prop where
 os:w'.os=w.os
 output:w'.output=w.output
 size:w.heap.size<=w'.heap.size
 block:∀k,k<n->w'.heap[k]?=w.heap[k]?
theorem Rel.bel{ρ:Ren}{B:Nat->Prop}{h:Hp}{w w':World}(r:Rel σ0 ρ B h w)(hb:Bel w.heap.size w w'):Rel σ0 ρ B h w':=by
 have hget:∀{k o},w.heap[k]?=some o->w'.heap[k]?=some o:=fun {k o} hk=>by rw[hb.block k (Array.getElem?_eq_some_iff.1 hk).1];exact hk
 refine⟨r.dom,fun b L e wf af cs h1 h2=>?_,fun b L es h1 h2=>?_,r.excl,r.exclm,r.app,r.flr,fun k hk=>Nat.lt_of_lt_of_le (r.base k hk) hb.size,fun k arr hk=>?_,⟨r.dn.1,fun b L h=>Nat.lt_of_lt_of_le (r.dn.2 b L h) hb.size⟩⟩
 ·obtain⟨e1,c,ty,fz,e2,e3⟩:=r.cells b L e wf af cs h1 h2;exact⟨e1,c,ty,fz,hget e2,e3⟩
 ·obtain⟨e1,o,e2,e3⟩:=r.maps b L es h1 h2;exact⟨e1,o,hget e2,e3⟩
 ·obtain⟨⟨ty,fz,e1⟩,e2⟩:=r.frz k arr hk;exact⟨⟨ty,fz,hget e1⟩,e2⟩
theorem Kept.bel{ρ:Ren}{B:Nat->Prop}{h:Hp}{w w':World}(r:Rel σ0 ρ B h w)(hb:Bel w.heap.size w w'):Kept ρ B h w ρ h w' :=
 ⟨fun _ _=>rfl,Nat.le_refl _,rfl,fun _ _ _=>rfl,fun k hk=>hb.block k (r.base k hk),hb.size,⟨hb.os,hb.output⟩,fun _ _ h=>h,fun _ _ h=>.inl h,Nat.le_refl _⟩
def bV(b:List UInt8):List Value:=b.map fun x=>Value.int .u8 ((x.toNat:Nat):Int)
def qfJ(b:List UInt8)(w:World)(e:Ending)(w':World):Prop :=
 ∃(k c':Nat) (arr:Array Value) (ty:TypeId) (fz:Nat×Nat),e = .returned (.agg #[.string ⟨nmD.toArray⟩,.int .i64 0,.slice (some ⟨k,0,none⟩) (za b).length c'])∧(za b).length<=c'∧w.heap.size<=k∧w'.heap[k]?=some (.cells arr ty fz) ∧
  arr.toList.take (za b).length=bV (za b)∧Bel w.heap.size w w'
def qfI(P:Program)(f:Nat):Prop :=
 (∀(a:Option Addr) (c:Nat) (w:World),TabOk w->Calls P f #[.slice a 0 c] w (qfJ [] w)) ∧
 ∀(bk o c:Nat) (b:List UInt8) (w:World),TabOk w->(∀(j:Nat) x,b[j]?=some x->w.cell? ⟨bk,o+j,none⟩=some (.int .u8 ((x.toNat:Nat):Int)))->bk<w.heap.size->b.length<=1500->b.length<=c->
  Calls P f #[.slice (some ⟨bk,o,none⟩) b.length c] w (qfJ b w)
theorem qf0{φ:Nat->Option (Array Value)}:∀{l:List UInt8},CRs σ0 φ (bR l) (bV l)
 | []=>.nil
 | _::_=>.cons _ _ _ _ (.i _ _) qf0
theorem qb4{ρ:Ren}{B:Nat->Prop}{h:Hp}{w w':World}{e:Ending}{b:List UInt8}{k:AV->Hp->Prop}(r:Rel σ0 ρ B h w)(hk:k (.agg (qgz b)) h)(he:qfJ b w e w') :
  ∃v v' h' ρ',e = .returned v'∧k v h'∧VR σ0 ρ' v v'∧Rel σ0 ρ' B h' w'∧Kept ρ B h w ρ' h' w':=by
 obtain⟨q,c',arr,ty,fz,rfl,hc,hq,hw,hrow,hb⟩:=he
 have ho:∀k' a,ρ.frz k'=some a->k'≠q:=fun k' a hk'=>by
  obtain⟨⟨_,_,h1⟩,_⟩:=r.frz k' a hk';have:=(Array.getElem?_eq_some_iff.1 h1).1;omega
 let φ:Fz:=⟨fun k'=>if k'=q then some arr else ρ.frz k',fun k' a ht=>by
  have h1:=ρ.frz.ok k' a ht;show (if k'=q then some arr else ρ.frz k')=some a
  rw[if_neg (ho _ _ h1)];exact h1⟩
 have hφ:∀k' a,ρ.frz k'=some a->φ k'=some a:=fun k' a h1=>by
  show (if k'=q then some arr else ρ.frz k')=some a
  rw[if_neg (ho _ _ h1)];exact h1
 have hφq:φ q=some arr:=if_pos rfl;have le:ρ.le ⟨ρ.loc,φ,ρ.n⟩:=⟨fun _ _ h=>h,hφ,Nat.le_refl _⟩
 have r1:=r.bel hb
 have r2:Rel σ0 ⟨ρ.loc,φ,ρ.n⟩ B h w':=by
  refine⟨r1.dom,fun b L e wf af cs h1 h2=>?_,fun b L es h1 h2=>?_,r1.excl,r1.exclm,r1.app,r1.flr,r1.base,fun k' a hk'=>?_,r1.dn⟩
  ·obtain⟨e1,c,ty,fz,e2,e3,e4,e5,e6⟩:=r1.cells b L e wf af cs h1 h2
   exact⟨e1,c,ty,fz,e2,e3,e4,fun j v hj=>by
    obtain⟨v',g1,g2⟩:=e5 j v hj;exact⟨v',g1,g2.mono le⟩,e6⟩
  ·obtain⟨e1,o,e2,e3⟩:=r1.maps b L es h1 h2;exact⟨e1,o,e2,e3.mono le⟩
  ·by_cases hkq:k'=q
   ·subst hkq;rw[show (Ren.frz ⟨ρ.loc,φ,ρ.n⟩) k'=φ k' from rfl,hφq] at hk'
    cases hk';refine⟨⟨_,_,hw⟩,fun b L x h1 _ _ h4=>?_⟩
    have:=r.dn.2 b L h1;omega
   ·have hk2:(if k'=q then some arr else ρ.frz k')=some a:=hk'
    rw[if_neg hkq] at hk2;exact r1.frz k' a hk2
 have k0:=Kept.bel r hb;refine⟨_,_,h,⟨ρ.loc,φ,ρ.n⟩,rfl,hk,.agg _ _ (.cons _ _ _ _ (.s _) (.cons _ _ _ _ (.i _ _) (.cons _ _ _ _ (.fz _ 0 _ _ q arr hc hφq ?_) .nil))),r2,⟨k0.ext,k0.szle,k0.fl,k0.akeep,k0.pres,k0.wle,k0.io,hφ,fun k' a hk'=>?_,Nat.le_refl _⟩⟩
 ·rw[List.drop_zero,jP,hrow];exact qf0
 ·by_cases hkq:k'=q
  ·subst hkq;exact .inr (zN r.base hq)
  ·have hk2:(if k'=q then some arr else ρ.frz k')=some a:=hk'
   rw[if_neg hkq] at hk2;exact .inl hk2
theorem qmU{w:World}(h:TabOk w)(o:Obj):TabOk (w.alloc o):=⟨fun k a hk=>by
 obtain⟨ty,fz,h1⟩:=h.ok k a hk;exact⟨ty,fz,(Go.RowKit.Below.heap_alloc w o k (Array.getElem?_eq_some_iff.1 h1).1).trans h1⟩⟩
theorem qmB(hcod:qao P f)(hK:qfI P f):qdI P f:=by
 intro b hb h k hk;refine⟨trivial,fun ρ B w args r ha=>?_⟩
 have hT:TabOk w:=⟨fun k a hk=>(r.frz k a (ρ.frz.ok k a hk)).1⟩
 generalize hA:args.toList=L at ha;cases ha with
 | cons _ _ _ _ a1 a2 =>
  rename_i v1 vs1;cases a2;have hargs:args = #[v1]:=by apply Array.ext';rw[hA]
  subst hargs;rcases a1.un_fz with⟨q,off,c,arr,rfl,hc,hq,hcs⟩|⟨h0,_,a,rfl⟩
  ·obtain⟨⟨ty,fz,hw⟩,_⟩:=r.frz q arr hq;refine .inl ⟨hcod,(hK.2 q off c b w hT (fun j x hjx=>?_) (Array.getElem?_eq_some_iff.1 hw).1 hb hc).mono fun e w' he=>qb4 r hk he⟩
   obtain⟨v,h1,h2⟩:=hcs.get (j:=j) (a:=.i .u8 ((x.toNat:Nat):Int)) (by rw[bR,List.getElem?_map,hjx];rfl);cases h2;have hjl:j<(bR b).length:=by rw[jP];exact (zzS.1 hjx).1
   rw[List.getElem?_take,if_pos hjl,List.getElem?_drop,Array.getElem?_toList] at h1;show (match w.heap[q]? with|some (.cells c _ _)=>if (none:Option _).isSome then none else c[off+j]? | _=>none)=_
   rw[hw];exact h1
  ·have hnil:b=[]:=List.eq_nil_of_length_eq_zero h0;subst hnil;exact .inl ⟨hcod,(hK.1 a 0 w hT).mono fun e w' he=>qb4 r hk he⟩
end Go.Kc
end
section
namespace Go.Kc
variable [Cur]
variable {P:Program} {f:Nat}
def qcr:List (List UInt8×List (List UInt8))->List AV
 | []=>[]
 | p::l=>.s p.1 :: .fz p.2.length (rS p.2)::qcr l
inductive ChV (φ:Nat->Option (Array Value)):List (List UInt8×List (List UInt8))->List Value->Prop where
 | nil:ChV φ [] []
 | cons (k:List UInt8) (vs:List (List UInt8)) (q o c:Nat) (arr:Array Value) (hq:φ q=some arr) (hc:vs.length<=c) (ha:∀(j:Nat) v,vs[j]?=some v->arr[o+j]?=some (.string ⟨v.toArray⟩)) (l:List (List UInt8×List (List UInt8))) (xs:List Value) (h:ChV φ l xs):ChV φ ((k,vs)::l) (.string ⟨k.toArray⟩ :: .slice (some ⟨q,o,none⟩) vs.length c::xs)
theorem qgg{ρ:Ren}:∀{l:List (List UInt8×List (List UInt8))} {xs:List Value},(∀p ∈ l,p.2≠[])->VRs σ0 ρ (qcr l) xs->ChV ρ.frz l xs
 | [],_,_,h=>by cases h;exact .nil
 | (k,vs)::l,_,hp,h=>by
  cases h with
  | cons _ _ _ _ h1 h2 =>
   cases h2 with
   | cons _ _ _ _ h2 h3 =>
    have e:=h1.un_s;subst e;rcases h2.un_fz with⟨q,off,c,arr,rfl,hc,hq,hcs⟩|⟨h0,_⟩
    ·refine .cons k vs q off c arr hq hc (fun j v hj=>?_) l _ (qgg (fun p h=>hp p (.tail _ h)) h3)
     obtain⟨x,g1,g2⟩:=hcs.get (j:=j) (a:=.s v) (by rw[wb,hj];rfl);cases g2;have hjl:j<(rS vs).length:=by rw[qhG];exact (zzS.1 hj).1
     rwa [List.getElem?_take,if_pos hjl,List.getElem?_drop,Array.getElem?_toList] at g1
    ·exact absurd (List.eq_nil_of_length_eq_zero h0) (hp _ (.head _))
omit [Cur] in
theorem qiD{φ:Nat->Option (Array Value)}:∀{l:List (List UInt8×List (List UInt8))} {xs:List Value},ChV φ l xs->∀r p,l[r]?=some p->∃q o c arr,φ q=some arr∧p.2.length<=c∧(∀(j:Nat) v,p.2[j]?=some v->arr[o+j]?=some (.string ⟨v.toArray⟩))∧xs[2*r]?=some (.string ⟨p.1.toArray⟩)∧xs[2*r+1]?=some (.slice (some ⟨q,o,none⟩) p.2.length c)
 | _,_,.nil,r,p,h=>by cases h
 | _,_,.cons k vs q o c arr hq hc ha l xs hh,r,p,h=>by
  cases r with
  | zero=>cases h;exact⟨q,o,c,arr,hq,hc,ha,rfl,rfl⟩
  | succ r =>
   obtain⟨q',o',c',arr',g1,g2,g3,g4,g5⟩:=qiD hh r p h;exact⟨q',o',c',arr',g1,g2,g3,by rw[show 2*(r+1)=2*r+2 from by omega];exact g4,by rw[show 2*(r+1)+1=2*r+1+2 from by omega];exact g5⟩
theorem qhY(hp:qX P f [] (.agg (qcr qjY)))(hc:qao P f)(w:World)(hT:TabOk w):Calls P f #[] w fun e w'=>∃(a:Array Value) (φ:Nat->Option (Array Value)),e = .returned (.agg a)∧ChV φ qjY a.toList∧(∀k arr,φ k=some arr->∃ty fz,w'.heap[k]?=some (.cells arr ty fz))∧Bel w.heap.size w w':=by
 haveI:=hT
 have h:=(hp H0 (fun v _=>v = .agg (qcr qjY)) rfl).2 (ice w) (low w.heap.size) w #[] (Rel.ice w) .nil
 rcases h with⟨_,h⟩|⟨v,w',h,_⟩
 ·refine h.mono fun e w' hh=>?_
  obtain⟨v,v',h',ρ',rfl,rfl,hv,hr,hk⟩:=hh;cases hv with
  | agg _ a ha =>
   exact⟨a,ρ'.frz,rfl,qgg (by decide) ha,fun k arr hq=>(hr.frz k arr hq).1,⟨hk.io.1,hk.io.2,hk.wle,hk.pres⟩⟩
 ·obtain⟨fn,h1,h2,h3⟩:=hc;rw[zW h1 h2 h3] at h;cases h
end Go.Kc
end
