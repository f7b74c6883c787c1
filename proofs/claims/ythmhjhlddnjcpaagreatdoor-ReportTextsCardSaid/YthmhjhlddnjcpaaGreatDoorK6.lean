/- Part 6 of the abstract machine and of the functions' walks. Conditions: with each theorem. -/
import Derived.Test.YthmhjhlddnjcpaaGreatDoorK5
import Derived.ChangeArms
import Derived.ReadAgain
import Derived.ChangeOld
import Derived.ChangeBears
import Derived.OpenShut
import Derived.RecoverIn
import Derived.Lib.Join
import Derived.Below
import Derived.Lib.AppendIntMem
import Derived.Lib.ItoaLen
set_option maxHeartbeats 4000000
set_option linter.unusedSectionVars false
set_option linter.unusedSimpArgs false
set_option linter.unusedVariables false
set_option linter.unnecessarySimpa false
section
namespace Go.Kc
variable [Cur]
section
variable {H:Type} {enc:TypeId×Value->H} {P:Program} {w:World} {α β:Type} {t e:TypeId}
omit [Cur] in
theorem CRs.app{φ:Nat->Option (Array Value)}:∀{as bs:List AV} {us vs:List Value},CRs σ0 φ as us->CRs σ0 φ bs vs->CRs σ0 φ (as++bs) (us++vs)
 | _,_,_,_,.nil,h=>h
 | _,_,_,_,.cons v l v' l' h hs,h2=>.cons _ _ _ _ h (CRs.app hs h2)
def wk(enc:TypeId×Value->H)(P:Program)(w:World)(t:TypeId)(I:α->Prop)(E:α->List AV):Prop :=
 ∀(fuel:Nat) (cs:List Value) x,DataW.trod enc P w 0 (fun _=>true) true fuel t cs=some x->∃a,I a∧CRs σ0 (qgG w) (E a) cs
omit [Cur] in
theorem qmN{k:IntKind}(ht:P.underlying t=some (.int k)):wk enc P w t (fun n:Int=>(Lit.int k n).wf=true) (fun n=>[.i k n]):=by
 intro fuel cs x h;obtain⟨n,rfl,_,hw⟩:=DataW.trod_int ht h;exact⟨n,hw,.cons _ _ _ _ (.i _ _) .nil⟩
omit [Cur] in
theorem qmO(ht:P.underlying t=some .string):wk enc P w t (fun s:List UInt8=>s.length<=maxLen) (fun s=>[.s s]):=by
 intro fuel cs x h;obtain⟨s,rfl,_,hw⟩:=DataW.trod_string ht h;obtain⟨⟨l⟩⟩:=s;exact⟨l,hw,.cons _ _ _ _ (.s _) .nil⟩
omit [Cur] in
theorem qiv{a:Addr}{v:Value}(h:w.cell? a=some v):a.spot=none∧∃arr ty fz,w.heap[a.block]?=some (.cells arr ty fz)∧arr[a.off]?=some v:=by
 unfold World.cell? at h;split at h
 ·rename_i c ty fz hc;split at h
  ·cases h
  ·rename_i hs;refine⟨by simpa using hs,c,ty,fz,hc,h⟩
 ·cases h
omit [Cur] in
theorem qka{I:α->Prop}{E:α->List AV}{m:Nat}(ht:P.underlying t=some (.slice e))(he:wk enc P w e I E)(hE:∀a,(E a).length=m)(hc:P.cellsOf e=m)(hm:0<m) :
  wk enc P w t (fun l:List α=>l.length<=maxLen∧∀a ∈ l,I a) (fun l=>[.fz l.length (l.flatMap E)]):=by
 intro fuel cs x h;rcases DataW.trod_slice ht h with⟨rfl,_⟩|⟨a,len,cap,elems,rest,n,_,rfl,_,_,hl,hmx,hlen,hel,hsp,_⟩
 ·exact⟨[],⟨Nat.zero_le _,fun _ h=>by cases h⟩,.cons _ _ _ _ (.fz0 none) .nil⟩
 obtain⟨hrl,hr⟩:=hsp rfl;rcases Nat.eq_zero_or_pos cap with h0|hpos
 ·subst h0;obtain rfl:len=0:=by omega
  exact⟨[],⟨Nat.zero_le _,fun _ h=>by cases h⟩,.cons _ _ _ _ (.fz0 (some a)) .nil⟩
 have first:∃v,w.cell? a=some v:=by
  have:∃cs',w.cells? 0 (a.add (0*P.cellsOf e)) (P.cellsOf e)=some cs':=by
   rcases Nat.eq_zero_or_pos len with h1|h1
   ·have:=hr 0 (by omega);have hlt:0<rest.length:=by omega
    rw[zzE hlt,Option.bind_eq_some_iff] at this;obtain⟨c,hc',_⟩:=this;subst h1;exact⟨c,hc'⟩
   ·have:=hel 0 h1;have hlt:0<elems.length:=by omega
    rw[zzE hlt,Option.bind_eq_some_iff] at this;obtain⟨c,hc',_⟩:=this;exact⟨c,hc'⟩
  obtain⟨cs',h2⟩:=this;obtain⟨_,q1,q2⟩:=World.cells?_some h2;have:=q2 0 (by omega);rw[zzE (by omega)] at this;simp only[Nat.zero_mul,Addr.add,if_true] at this;exact⟨_,this⟩
 obtain⟨v0,hv0⟩:=first
 obtain⟨hs,arr,ty,fz,hb,_⟩:=qiv hv0
 have key:∀k,k<=len->∃l:List α,l.length=k∧(∀b ∈ l,I b)∧CRs σ0 (qgG w) (l.flatMap E) ((arr.toList.drop a.off).take (k*m)):=by
  intro k
  induction k with
  | zero=>intro _;exact⟨[],rfl,(fun _ h=>by cases h),by simpa using .nil⟩
  | succ k ih =>
   intro hk;obtain⟨l,h1,h2,h3⟩:=ih (by omega);have hk':=hel k (by omega);have hlt:k<elems.length:=by omega
   rw[zzE hlt,Option.bind_eq_some_iff] at hk';obtain⟨c,hcs,htr⟩:=hk';obtain⟨_,q1,q2⟩:=World.cells?_some hcs;obtain⟨b,hb1,hb2⟩:=he _ _ _ htr
   have e1:c=((arr.toList.drop a.off).drop (k*m)).take m:=by
    refine List.ext_getElem? fun j=>?_
    by_cases hj:j<m
    ·have:=q2 j (by omega);rw[← this]
     have e2:w.cell? ((a.add (k*P.cellsOf e)).add j)=arr[a.off+(k*m+j)]?:=by
      have ha:(a.add (k*P.cellsOf e)).add j=⟨a.block,a.off+(k*m+j),none⟩:=by
       unfold Addr.add;rw[hc];split
       ·split
        ·rename_i h4 h5;rw[h4,h5];cases a;simp_all
        ·rename_i h4 h5;rw[h4];simp[hs]
       ·split
        ·rename_i h4 h5;rw[h5];cases a;simp_all
        ·simp;omega
      rw[ha];simp[World.cell?,hb]
     rw[e2,List.getElem?_take_of_lt hj,List.getElem?_drop,List.getElem?_drop];simp[Array.getElem?_toList]
    ·rw[List.getElem?_eq_none (by omega),List.getElem?_eq_none];simp;omega
   refine⟨l++[b],by simp[h1],fun x hx=>?_,?_⟩
   ·rcases List.mem_append.1 hx with hx|hx
    ·exact h2 x hx
    ·obtain rfl:=List.mem_singleton.1 hx;exact hb1
   ·rw[List.flatMap_append,Nat.succ_mul,List.take_add,← e1];simpa using h3.app hb2
 obtain⟨l,h1,h2,h3⟩:=key len (Nat.le_refl _);refine⟨l,⟨by omega,h2⟩,.cons _ _ _ _ ?_ .nil⟩
 have hfl:(l.flatMap E).length=len*m:=by
  rw[← h1];clear h1 h2 h3
  induction l with
  | nil=>simp
  | cons x l ih=>simp[hE,ih,Nat.succ_mul,Nat.add_comm]
 obtain⟨blk,off,spot⟩:=a;cases hs;rw[h1];exact .fz len off cap _ blk arr hl (qbv.2 ⟨ty,fz,hb⟩) (by rw[hfl];exact h3)
def qch(enc:TypeId×Value->H)(P:Program)(w:World)(fs:List Field)(o n:Nat)(I:α->Prop)(E:α->List AV):Prop :=
 (∀a,(E a).length=n)∧∀(fuel:Nat) (cs:List Value),(∀f ∈ fs,∃x,DataW.trod enc P w 0 (fun _=>true) true fuel f.type ((cs.drop f.offset).take (P.cellsOf f.type))=some x)->∃a,I a∧CRs σ0 (qgG w) (E a) ((cs.drop o).take n)
omit [Cur] in
theorem ql7{o:Nat}:qch enc P w [] o 0 (fun _:Unit=>True) (fun _=>[]):=⟨fun _=>rfl,fun _ cs _=>⟨(),trivial,by simpa using .nil⟩⟩
omit [Cur] in
theorem qj9{f:Field}{fs:List Field}{o m n:Nat}{I:α->Prop}{E:α->List AV}{J:β->Prop}{F:β->List AV}(h:wk enc P w f.type I E)(hE:∀a,(E a).length=m)(ho:f.offset=o)(hc:P.cellsOf f.type=m)
  (hr:qch enc P w fs (o+m) n J F):qch enc P w (f::fs) o (m+n) (fun p:α×β=>I p.1∧J p.2) (fun p=>E p.1++F p.2):=by
 refine⟨fun p=>by simp[hE,hr.1],fun fuel cs hf=>?_⟩
 obtain⟨x,hx⟩:=hf f (List.mem_cons_self ..);obtain⟨a,ha,h1⟩:=h _ _ _ hx;obtain⟨b,hb,h2⟩:=hr.2 fuel cs fun g hg=>hf g (List.mem_cons_of_mem _ hg)
 refine⟨(a,b),⟨ha,hb⟩,?_⟩;rw[ho,hc] at h1;rw[List.take_add,List.drop_drop];exact h1.app h2
omit [Cur] in
theorem qjD{fs:Array Field}{n:Nat}{I:α->Prop}{E:α->List AV}(ht:P.underlying t=some (.struct fs))(hc:P.cellsOf t=n)(h:qch enc P w fs.toList 0 n I E):wk enc P w t I E:=by
 intro fuel cs x hx;obtain⟨xs,m,rfl,_,hl,hxs,hf⟩:=DataW.trod_struct ht hx
 obtain⟨a,ha,h1⟩:=h.2 m cs fun f hfm=>by
  obtain⟨i,hi⟩:=List.getElem?_of_mem hfm;have hi':fs[i]?=some f:=by simpa using hi
  have:=hf i f hi'
  have hlt:i<xs.length:=by
   rw[hxs];exact (Array.getElem?_eq_some_iff.1 hi').1
  rw[zzE hlt] at this;exact⟨_,this⟩
 refine⟨a,ha,?_⟩;rwa [List.drop_zero,List.take_of_length_le (by omega)] at h1
omit [Cur] in
theorem wk.map{I:α->Prop}{E:α->List AV}{J:β->Prop}{F:β->List AV}(h:wk enc P w t I E)(g:α->β)(hg:∀a,I a->J (g a)∧F (g a)=E a):wk enc P w t J F:=by
 intro fuel cs x hx;obtain⟨a,ha,h1⟩:=h _ _ _ hx;exact⟨g a,(hg a ha).1,by rw[(hg a ha).2];exact h1⟩
omit [Cur] in
theorem wk.agg [TabOk w]{I:α->Prop}{E:α->List AV}(h:wk enc P w t I E){v:Value}{d:DataW H}{p:List MemPlace}(ha:∃cs,v = .agg cs)(hd:DataW.Trod enc P w 0 (fun _=>true) true t v d p):∃a,I a∧VR σ0 (ice w) (.agg (E a)) v:=by
 obtain⟨cs,rfl⟩:=ha;obtain⟨fuel,hd⟩:=hd;obtain⟨a,h1,h2⟩:=h _ _ _ hd;exact⟨a,h1,.agg _ _ h2.vr⟩
omit [Cur] in
theorem qcG{w':World}(hk:∀may,w.keptBut w' may){p:MemPlace}(hp:p.block<w.heap.size):w.sameAt w' p:=by
 have h:=(hk fun _=>False).2.2 p.block hp
 have h0:w.heap[p.block]?=some w.heap[p.block]:=Array.getElem?_eq_getElem hp;cases p with
 | cell b off =>
  show w'.cell? ⟨b,off,none⟩=w.cell? ⟨b,off,none⟩;simp only[MemPlace.block] at h h0 hp;unfold World.cell?;split at h
  ·rename_i c1 t1 f1 c2 t2 f2 e1 e2;dsimp only;rw[e1,e2];simpa using h.2.2.2 off (fun hh=>hh)
  ·rename_i e1 e2;dsimp only;rw[e1,e2]
  ·dsimp only;rw[h]
 | map b =>
  show w'.heap[b]?=w.heap[b]?;simp only[MemPlace.block] at h h0 hp;split at h
  ·rename_i c1 t1 f1 c2 t2 f2 e1 e2
   have:c2=c1:=by
    apply Array.ext_getElem?;intro j;exact h.2.2.2 j (fun hh=>hh)
   rw[e1,e2,h.1,h.2.1,this]
  ·rename_i e1 e2;rcases h with hh|⟨h1,h2⟩
   ·exact hh.elim
   ·rw[e1,e2,h1,h2]
  ·exact h
omit [Cur] in
theorem Trod.stay{w':World}{T:TypeId->Prop}(K:Kids P T)(hz:∀t e,T t->P.underlying t=some (.slice e)->0<P.cellsOf e){ts:List TypeId}{vs:List Value}{ds:List (DataW H)}{ps:List MemPlace}(hT:∀t ∈ ts,T t)
  (h:DataW.TrodAll enc P w 0 (fun _=>true) true ts vs ds ps) (hk:∀may,w.keptBut w' may):DataW.TrodAll enc P w' 0 (fun b=>decide (b<w.heap.size)) true ts vs ds ps:=by
 have hlt:=DataW.TrodAll.lt h;have h1:DataW.TrodAll enc P w 0 (fun b=>decide (b<w.heap.size)) true ts vs ds ps:=h.respare K hz hT fun p hp=>decide_eq_true (hlt p hp)
 clear h
 induction ts generalizing vs ds ps with
 | nil =>
  cases vs<;>cases ds<;>first|exact h1|exact h1.elim
 | cons t ts ih =>
  cases vs with
  | nil=>exact h1.elim
  | cons v vs =>
   cases ds with
   | nil=>exact h1.elim
   | cons d ds =>
    obtain⟨p,q,⟨fuel,h2⟩,h3,e⟩:=h1;subst e;refine⟨p,q,⟨fuel,DataW.trod_carry _ _ _ _ h2 fun x hx=>qcG hk (hlt x (List.mem_append_left _ hx))⟩,?_,rfl⟩
    exact ih (fun t ht=>hT t (List.mem_cons_of_mem _ ht)) (fun x hx=>hlt x (List.mem_append_right _ hx)) h3
end
end Go.Kc
namespace Go.Kc
variable [Cur]
omit [Cur] in
theorem qjG{P:Program}{H:Type}{enc:TypeId×Value->H}{f:Func}{s:ChangeSpec}{apart fresh handsOn:Bool}{W W':World}{args:Array Value}{v:Value}{ds gs:List (DataW H)}{before pv:List MemPlace}
  (hW:DataW.Whole enc P f.params.toList s.vars apart W args.toList ds gs before) (hs:(s.fn H (ds++gs)).args=ds)
  {T:TypeId->Prop} (K:Kids P T) (hz:∀t e,T t->P.underlying t=some (.slice e)->0<P.cellsOf e) (hT:∀t ∈ f.params.toList,T t)
  (hres:∀(b:Nat) (sp:Nat->Bool) (hd:Bool),DataW.TrodAll enc P W' b sp hd f.resultTypes.toList (v.resultList f.resultTypes.size) (s.fn H (ds++gs)).results [])
  (hvars:∀sp:Nat->Bool,DataW.TrodVars enc P W' sp s.vars (s.fn H (ds++gs)).vars pv)
  (hk:∀may,W.keptBut W' may):s.post enc P f apart fresh handsOn false W args v W':=by
 have hW':=hW;obtain⟨p,q,hA,_,_⟩:=hW';exact⟨ds,gs,before,[],p,pv,hW,hres _ _ _,by rw[hs];exact Trod.stay K hz hT hA hk,hvars _,hk _,fun h=>by cases h⟩
end Go.Kc
end
section
namespace Go.Kc
variable [Cur]
variable {P:Program} {env:Tr IFn} {ho:wZ}
def kOf:IntKind->Nat
 | .i8=>0 | .i16=>1 | .i32=>2 | .i64=>3 | .u8=>4 | .u16=>5 | .u32=>6 | .u64=>7
omit [Cur] in
theorem qcw{a b:IntKind}(h:Nat.beq (kOf a) (kOf b)=true):a=b:=by
 cases a<;>cases b<;>first|rfl|cases h
def qi1:Int->Int->Bool
 | .ofNat a,.ofNat b=>Nat.beq a b
 | .negSucc a,.negSucc b=>Nat.beq a b
 | _,_=>false
omit [Cur] in
theorem qcv:∀{a b:Int},qi1 a b=true->a=b
 | .ofNat a,.ofNat b,h=>by rw[Nat.eq_of_beq_eq_true h]
 | .negSucc a,.negSucc b,h=>by rw[Nat.eq_of_beq_eq_true h]
 | .ofNat _,.negSucc _,h=>by cases h
 | .negSucc _,.ofNat _,h=>by cases h
mutual
noncomputable def xJ(h:Hp):AV->AV->Bool
 | .b x,v=>match v with | .b y=>(x&&y)||(!x && !y)|_=>false
 | .i k n,v=>match v with | .i k' m=>Nat.beq (kOf k) (kOf k')&&qi1 n m|_=>false
 | .s x,v=>match v with | .s y=>eqS x y|_=>false
 | .nils,v=>match v with | .nils=>true|_=>false
 | .nilp,v=>match v with | .nilp=>true|_=>false
 | .nilf,v=>match v with | .nilf=>true|_=>false
 | .nili,v=>match v with | .nili=>true|_=>false
 | .nilm,v=>match v with | .nilm=>true|_=>false
 | .agg cs',v=>match v with | .agg cs=>qaT h cs' cs|_=>false
 | .tup cs',v=>match v with | .tup cs=>qaT h cs' cs|_=>false
 | .fz n cs',v=>match v with
  | .nils=>Nat.beq n 0&&cs'.isEmpty
  | .sl b o m c _=>Nat.beq n m&&Nat.ble m c && !(Nat.beq c 0)&&(match h.tr.get b with|some (.cells _ true _ cs)=>Nat.ble (o+cs'.length) cs.length&&qaT h cs' ((cs.drop o).take cs'.length)|_=>false)
  | .own b m=>Nat.beq n m && !(Nat.beq m 0)&&(match h.tr.get b with|some (.cells _ true _ ys)=>qaT h cs' ys|_=>false)
  | _=>false
 | _,_=>false
noncomputable def qaT(h:Hp):List AV->List AV->Bool
 | [],vs=>vs.isEmpty
 | v'::vs',vs=>match vs with|v::vs=>xJ h v' v&&qaT h vs' vs | []=>false
end
omit [Cur] in
theorem qco{x y:List UInt8}(h:eqS x y=true):x=y:=by
 rw[xl] at h;simpa using h
mutual
theorem qiW{h:Hp}:∀(v' v:AV),xJ h v' v=true->Frz h v v'
 | .b x,v,hb=>by
  unfold xJ at hb;split at hb<;>first|(cases hb;done)|skip
  rename_i y;have:y=x:=by cases x<;>cases y<;>first|rfl|cases hb
  subst this;exact .b _
 | .i k n,v,hb=>by
  unfold xJ at hb;split at hb<;>first|(cases hb;done)|skip
  simp only[Bool.and_eq_true] at hb;obtain rfl:=qcw hb.1;obtain rfl:=qcv hb.2;exact .i _ _
 | .s x,v,hb=>by
  unfold xJ at hb;split at hb<;>first|(cases hb;done)|skip
  obtain rfl:=qco hb;exact .s _
 | .nils,v,hb=>by unfold xJ at hb;split at hb<;>first|(cases hb;done)|exact .nils
 | .nilp,v,hb=>by unfold xJ at hb;split at hb<;>first|(cases hb;done)|exact .nilp
 | .nilf,v,hb=>by unfold xJ at hb;split at hb<;>first|(cases hb;done)|exact .nilf
 | .nili,v,hb=>by unfold xJ at hb;split at hb<;>first|(cases hb;done)|exact .nili
 | .nilm,v,hb=>by unfold xJ at hb;split at hb<;>first|(cases hb;done)|exact .nilm
 | .agg cs',v,hb=>by
  unfold xJ at hb;split at hb<;>first|(cases hb;done)|skip
  exact .agg _ _ (wv cs' _ hb)
 | .tup cs',v,hb=>by
  unfold xJ at hb;split at hb<;>first|(cases hb;done)|skip
  exact .tup _ _ (wv cs' _ hb)
 | .fz n cs',v,hb=>by
  unfold xJ at hb;split at hb<;>first|(cases hb;done)|skip
  ·simp only[Bool.and_eq_true] at hb;obtain rfl:=Nat.eq_of_beq_eq_true hb.1;have:cs'=[]:=by simpa using hb.2
   rw[this];exact .nilz
  ·simp only[Bool.and_eq_true] at hb;obtain⟨⟨⟨h1,h2⟩,h3⟩,h4⟩:=hb;obtain rfl:=Nat.eq_of_beq_eq_true h1;split at h4<;>first|(cases h4;done)|skip
   rename_i hg;simp only[Bool.and_eq_true] at h4;refine .sl _ _ _ _ _ _ _ _ cs'.length _ hg (Nat.le_of_ble_eq_true h2) (Nat.le_of_ble_eq_true h4.1) (fun h0=>?_) (wv cs' _ h4.2)
   subst h0;cases h3
  ·simp only[Bool.and_eq_true] at hb;obtain⟨⟨h1,h2⟩,h4⟩:=hb;obtain rfl:=Nat.eq_of_beq_eq_true h1;split at h4<;>first|(cases h4;done)|skip
   rename_i hg;refine .own _ _ _ _ _ _ hg (fun h0=>?_) (wv cs' _ h4)
   subst h0;cases h2
 | .undef,v,hb=>by unfold xJ at hb;cases hb
 | .ptr _ _,v,hb=>by unfold xJ at hb;cases hb
 | .sl _ _ _ _ _,v,hb=>by unfold xJ at hb;cases hb
 | .fn _ _ _,v,hb=>by unfold xJ at hb;cases hb
 | .ifc _ _,v,hb=>by unfold xJ at hb;cases hb
 | .map _,v,hb=>by unfold xJ at hb;cases hb
 | .sym _,v,hb=>by unfold xJ at hb;cases hb
 | .pf _ _,v,hb=>by unfold xJ at hb;cases hb
 | .e0,v,hb=>by unfold xJ at hb;cases hb
 | .own _ _,v,hb=>by unfold xJ at hb;cases hb
 | .nz,v,hb=>by unfold xJ at hb;cases hb
 | .yl _,v,hb=>by unfold xJ at hb;cases hb
 | .lp _,v,hb=>by unfold xJ at hb;cases hb
theorem wv{h:Hp}:∀(vs' vs:List AV),qaT h vs' vs=true->Frzs h vs vs'
 | [],vs,hb=>by
  unfold qaT at hb;have:vs=[]:=by simpa using hb
  rw[this];exact .nil
 | v'::vs',vs,hb=>by
  unfold qaT at hb;split at hb<;>first|(cases hb;done)|skip
  simp only[Bool.and_eq_true] at hb;exact .cons _ _ _ _ (qiW v' _ hb.1) (wv vs' _ hb.2)
end
noncomputable def tt(b:Bool):Prop:=Bool.rec (motive:=fun _=>Prop) False True b
omit [Cur] in
theorem qn0{b:Bool}(h:tt b):b=true:=by cases b with|true=>rfl|false=>exact h.elim
end Go.Kc
end
section
namespace Go.Kc
variable [Cur]
variable {P:Program}
def Tr.o(l r:Tr IFn):Tr IFn:=.node none l r
def Tr.f(i:IFn):Tr IFn:=.node (some i) .leaf .leaf
def Tr.g(i:IFn)(l r:Tr IFn):Tr IFn:=.node (some i) l r
def tbl{α:Type}(n:Nat)(l:List α)(row:Nat->α->List ROp):IFn :=
 ⟨[.tmp 0],.seq (.r [.m 0 .N]) (.seq (.r ((l.zipIdx.flatMap fun p=>row p.2 p.1)++[.q (2*n+1) (.buildS n [.s [],.nils] ((List.range n).map fun i=>(2*i,2,.t (2*i+2)))),.n 0 (2*n+1)])) .ret)⟩
def qoZ(xs:List (List UInt8)):IOp:=.buildS xs.length [.s []] (xs.zipIdx.map fun q=>(q.2,1,.c (.s q.1)))
mutual
def jj:AV->Bool
 | .map _=>false
 | .fz _ _=>false
 | .pf _ _=>false
 | .sym _=>false
 | .fn _ a c=>x7 a&&x7 c
 | .ifc _ v=>jj v
 | .agg cs=>x7 cs
 | .tup cs=>x7 cs
 | .ptr _ _=>true | .sl _ _ _ _ _=>true | .own _ _=>true
 | .undef=>true | .b _=>true | .i _ _=>true | .s _=>true | .nilp=>true | .nils=>true | .nilf=>true | .nili=>true | .nilm=>true | .e0=>true | .nz=>true | .yl _=>true | .lp _=>true
def x7:List AV->Bool
 | []=>true
 | v::vs=>jj v&&x7 vs
end
mutual
theorem VR.thaw{ρ:Ren}{φ:Fz}:∀{a:AV} {v:Value},VR σ0 ρ a v->jj a=true->VR σ0 ⟨ρ.loc,φ,ρ.n⟩ a v
 | _,_,.undef v,_=>.undef v
 | _,_,.b x,_=>.b x
 | _,_,.i k n,_=>.i k n
 | _,_,.s x,_=>.s x
 | _,_,.nilp,_=>.nilp
 | _,_,.ptr b o L h,_=>.ptr b o L h
 | _,_,.nils,_=>.nils
 | _,_,.sl b o len cap c loose L h hc,_=>.sl b o len cap c loose L h hc
 | _,_,.slz b o x l L h,_=>.slz b o x l L h
 | _,_,.nilf,_=>.nilf
 | _,_,.fn f first cap first' cap' h1 h2,hc=>by
  simp only[jj,Bool.and_eq_true] at hc;exact .fn _ _ _ _ _ (h1.thaw hc.1) (h2.thaw hc.2)
 | _,_,.nili,_=>.nili
 | _,_,.ifc t v v' h,hc=>by simp only[jj] at hc;exact .ifc _ _ _ (h.thaw hc)
 | _,_,.agg cs cs' h,hc=>by simp only[jj] at hc;exact .agg _ _ (h.thaw hc)
 | _,_,.tup cs cs' h,hc=>by simp only[jj] at hc;exact .tup _ _ (h.thaw hc)
 | _,_,.nilm,_=>.nilm
 | _,_,.map b L h h0,hc=>by simp[jj] at hc
 | _,_,.sym j,hc=>by simp[jj] at hc
 | _,_,.fz n off c cs k arr hn h hs,hc=>by simp[jj] at hc
 | _,_,.fz0 a,hc=>by simp[jj] at hc
 | _,_,.pf off base cs k arr h hs,hc=>by simp[jj] at hc
 | _,_,.e0 a,_=>.e0 a
 | _,_,.nz a c,_=>.nz a c
 | _,_,.own0 b a hb,_=>.own0 b a hb
 | _,_,.own b n c L h hn hc,_=>.own b n c L h hn hc
 | _,_,.yl b L h,_=>.yl b L h
theorem VRs.thaw{ρ:Ren}{φ:Fz}:∀{a:List AV} {v:List Value},VRs σ0 ρ a v->x7 a=true->VRs σ0 ⟨ρ.loc,φ,ρ.n⟩ a v
 | _,_,.nil,_=>.nil
 | _,_,.cons v vs v' vs' h hs,hc=>by
  simp only[x7,Bool.and_eq_true] at hc;exact .cons _ _ _ _ (h.thaw hc.1) (hs.thaw hc.2)
end
omit [Cur] in
theorem qbs:∀{cs:List AV} {j:Nat} {v:AV},x7 cs=true->cs[j]?=some v->jj v=true
 | [],_,_,_,h=>by grind
 | c::cs,0,v,hf,h=>by
  simp only[x7,Bool.and_eq_true] at hf
  simp_all
 | c::cs,j+1,v,hf,h=>by
  simp only[x7,Bool.and_eq_true] at hf;exact qbs hf.2 (by simpa using h)
def qj4:Blk->Bool
 | .cells _ _ _ cs=>x7 cs
 | _=>false
theorem Rel.thaw{ρ:Ren}{φ:Fz}{B:Nat->Prop}{h:Hp}{w:World}(r:Rel σ0 ρ B h w)(hφ:∀k a,φ k=some a->ρ.frz k=some a)(hh:∀b x,h.tr.get b=some x->qj4 x=true):Rel σ0 ⟨ρ.loc,φ,ρ.n⟩ B h w:=by
 refine⟨r.dom,fun b L e wf af cs hb hg=>?_,fun b L es hb hg=>?_,r.excl,r.exclm,r.app,r.flr,r.base,by grind[Rel.frz],r.dn⟩
 ·obtain⟨g1,c,ty,fz,g2,g3,g4,g5,g6⟩:=r.cells b L e wf af cs hb hg;exact⟨g1,c,ty,fz,g2,g3,g4,fun j v hv=>let ⟨v',g7,g8⟩:=g5 j v hv;⟨v',g7,g8.thaw (qbs (hh b _ hg) hv)⟩,g6⟩
 ·have:=hh b _ hg;cases this
theorem qmU.of_SC{f:Nat}{vs':List AV}{v:AV}{bs:List Blk}(hv:jj v=true)(hbs:bs.all qj4=true)(hs:SC P f vs' H0 (qki v bs)):qmU P f vs' v bs:=by
 intro h vs k hf hk;refine⟨hs.1,fun ρ B w args r ha=>?_⟩
 have hcr:=hf.ok r ha;refine jq.mono (hs.2 ⟨fun _=>none,xn ρ h w,0⟩ (low w.heap.size) w args r.bare (by grind[CRs.vr])) ?_
 rintro e w1 ⟨v0,v',h1,ρ1,rfl,g1,g2,g3,g4⟩;obtain⟨src,s1,s2,s3⟩:=g1 g4.fl;have hw:Wk 0 (mkT [(0,v0)]) h1 (mkT [(0,v)]) (mkH 0 bs):=Wk.mk [(0,v)] bs src ⟨⟨v0,by simp[mkT,Tr.get_set],s1⟩,trivial⟩ s2 s3 g4.fl
 obtain⟨ρ2,t2,r2,k2⟩:=hw ρ1 (low w.heap.size) w1 #[v'] (fun j x hj=>by
  have:=wU hj
  simp_all) g3
 have hv2:VR σ0 ρ2 v v':=by
  have:=(t2 0 v (by simp[mkT,Tr.get_set])).2
  simp_all
 have hφ:∀k a,ρ.frz k=some a->ρ2.frz k=some a:=by grind[Kep.frz,Kept.frz,xd]
 have r3:=r2.thaw (φ:=ρ.frz) hφ (fun b x hx=>by
  rw[wT] at hx
  grind)
 have hv3:=hv2.thaw (φ:=ρ.frz) hv;refine⟨_,v',_,ρ.join ⟨ρ2.loc,ρ.frz,ρ2.n⟩ h.sz bs.length,rfl,hk,hv3.sh r3.dn.1,Rel.joinH r r3 g4.pres g4.wle (fun _ _ h=>h) (by simp_all),?_⟩
 refine⟨by grind[qbc],by rw[wC];omega,qau,by grind[jG],by grind[Kept.pres,Rel.base],g4.wle,g4.io,fun _ _ h=>h,fun _ _ h=>.inl h,?_⟩
 exact Nat.le_trans r.dn.1 (Nat.le_add_right _ _)
end Go.Kc
end
section
namespace Go.Kc
variable [Cur]
variable {P:Program} {n:Nat} {h:Hp}
def bsy(r:Loop):Loop:={ r with state:=.busy }
def rdy(r:Loop):Loop:={ r with state:=.ready,pending:=none }
def dne(r:Loop)(c:Code):Loop:={ r with state:=.done,pending:=some c }
structure LoopOk (P:Program) (r:Loop) (ps:List Nat) (ai bi:ICode):Prop where
 params:r.params.toList=ps
 code:∃nt,qm P nt r.assign ai=true∧qm P nt r.body bi=true∧nt<=r.tmps.size∧∀p ∈ ps,p<nt
 flat:xy ai=true∧xy bi=true
 real:∀j,r.assign≠.goto j
def qhY(P:Program)(r:Loop)(ps:List Nat)(ai bi:ICode):Prop:=∀r',xR r r'->LoopOk P r' ps ai bi
noncomputable def qfw:List Nat->List AV->Tr AV->Tr AV
 | p::ps,u::us,t=>qfw ps us (t.set p u)
 | _,_,t=>t
def qnk(P:Program)(n b:Nat)(bi:ICode)(Q:X->Tr AV->Hp->Prop)(x:X)(t:Tr AV)(h:Hp):Prop :=
 onX x (∃r ts R,h.tr.get b=some (.map (zo r ts))∧r.state = .ready∧(∀q,xR r q->xR R (bsy q))∧S P n bi Q t (h.put b (.map (zo R ts)))) (fun _=>False) False
def qkY:X->Loop->Loop
 | .normal,q=>rdy q
 | .exit id,q=>dne q (.exit id)
 | .ret,q=>dne q .ret
def qot:X->Bool
 | .normal=>true
 | _=>false
def qnl(b:Nat)(k:AV->Hp->Prop)(x:X)(_:Tr AV)(h:Hp):Prop :=
 ∃r ts R,h.tr.get b=some (.map (zo r ts))∧(∀q,xR r q->xR R (qkY x q))∧k (.b (qot x)) (h.put b (.map (zo R ts)))
omit [Cur] in
theorem qeq{ρ:Ren}:∀{ps:List Nat} {us:List AV} {t:Tr AV} {tm:Array Value} {args:List Value},VRs σ0 ρ us args->ps.length=us.length->(∀p ∈ ps,p<tm.size)->TR σ0 ρ t tm->
  TR σ0 ρ (qfw ps us t) ((ps.zip args).foldl (fun tm (p,v)=>tm.setIfInBounds p v) tm)
 | [],[],_,_,_,hv,_,_,ht=>by cases hv;exact ht
 | [],_::_,_,_,_,_,hl,_,_=>by grind
 | _::_,[],_,_,_,_,hl,_,_=>by grind
 | p::ps,u::us,t,tm,args,hv,hl,hp,ht=>by
  cases hv with
  | cons _ _ v vs h1 h2 =>
   have hlt:=hp p (by simp);refine qeq (ps:=ps) h2 (by simp_all) (fun q hq=>by simp_all) (fun j x hj=>?_)
   rw[Tr.get_set] at hj;split at hj
   ·simp_all
   ·rename_i he;obtain⟨g1,g2⟩:=ht j x hj;refine⟨by simp_all,?_⟩
    rw[Array.getD_eq_getD_getElem?,Array.getElem?_setIfInBounds,if_neg (by omega),← Array.getD_eq_getD_getElem?];exact g2
omit [Cur] in
theorem qnW{ρ:Ren}{tm:Array Value}:∀{ts:List (Nat×AV)},(∀p ∈ ts,p.1<tm.size∧VR σ0 ρ p.2 (tm.getD p.1 undef))->TR σ0 ρ (mkT ts) tm :=
 fun h j v hj=>h (j,v) (wU hj)
omit [Cur] in
theorem qem:∀{ts:List (Nat×AV)},(ts.map Prod.fst).Nodup->∀{p:Nat×AV},p ∈ ts->(mkT ts).get p.1=some p.2
 | [],_,_,hp=>by cases hp
 | q::ts,hn,p,hp=>by
  simp only[mkT,Tr.get_set];have hn2:=List.nodup_cons.1 hn;rcases List.mem_cons.1 hp with rfl|hp
  ·rw[if_pos rfl]
  ·rw[if_neg (by grind)];exact qem hn2.2 hp
omit [Cur] in
theorem qap:∀(l:List (Nat×Value)) (tm:Array Value),(l.foldl (fun tm (p,v)=>tm.setIfInBounds p v) tm).size=tm.size
 | [],_=>rfl
 | p::l,tm=>by rw[List.foldl_cons,qap l];simp
theorem SY.mkL{b:Nat}{us:List AV}{k:AV->Hp->Prop}{r:Loop}{ts:List (Nat×AV)}{ps:List Nat}{ai bi:ICode}(hg:h.tr.get b=some (.map (zo r ts)))(hok:qhY P r ps ai bi)(hfl:h.fl<=b)(hbs:b<h.sz)(hl:ps.length=us.length)
  (hA:S P h.sz ai (qnk P h.sz b bi (qnl b k)) (qfw ps us (mkT ts)) h):SY P b us h k:=by
 intro ρ B w args L hL rl hargs;obtain⟨L0,ob,hob,hrec⟩:=rl.maps b L _ hL hg;obtain⟨q,rfl,hlk,hts⟩:=hrec.rec';have hokq:=hok q hlk;obtain⟨nt,hca,hcb,hnt,hps⟩:=hokq.code
 have hsz:args.size=q.params.size:=by
  have:=hargs.length;have h2:q.params.size=ps.length:=by rw[← hokq.params];simp
  rw[h2,hl,this];simp
 refine⟨q.fn,_,q.assign,q.body,run_yield hob hsz,fun ro=>roundIn_of_wpIn trivial ?_⟩
 have hfold:(q.params.zip args).foldl (fun tmps (t,a)=>tmps.setIfInBounds t a) q.tmps=(ps.zip args.toList).foldl (fun tm (p,v)=>tm.setIfInBounds p v) q.tmps:=by
  rw[← Array.foldl_toList,Array.toList_zip,hokq.params]
 rw[hfold]
 have hT:TR σ0 ρ (qfw ps us (mkT ts)) ((ps.zip args.toList).foldl (fun tm (p,v)=>tm.setIfInBounds p v) q.tmps) :=
  qeq hargs hl (by grind) (qnW hts)
 have hS:=hA nt q.assign hca (Nat.le_refl _) (some L.blk) (.inr hokq.flat.1) ρ B w { tmps:=(ps.zip args.toList).foldl (fun tm (p,v)=>tm.setIfInBounds p v) q.tmps,defers:=[] } hT (by rw[qap];omega) rl
 refine wpIn_mono hS ?_;rintro e a1 w1 ⟨x1,t1,h1,ρ1,rs,hx,hq,ht1,hs1,hd1,hm,r1,k1⟩;cases hx with
 | exit id=>exact hq.elim
 | ret=>exact hq.elim
 | normal =>
  obtain⟨r',ts1,R',hg1,hrr,hRR,hB⟩:=hq;have r1:=r1.lessB (B:=B) fun k hk=>.inl hk
  have hL1:ρ1 b=some L:=by grind[Kep.ext]
  obtain⟨_,ob1,hob1,hrec1⟩:=r1.maps b L _ hL1 hg1;obtain⟨q1,rfl,hlk1,hts1⟩:=hrec1.rec';refine⟨w1.putObj L.blk (.loop (Go.Kc.bsy q1)),run_beginRound hob1 (hlk1.state.trans hrr),?_⟩;obtain⟨r2,k2⟩:=r1.putMap (w':=w1.putObj L.blk (.loop (Go.Kc.bsy q1))) hL1 hg1 (by rw[k1.fl];exact hfl) hob1 (es':=zo R' ts1) (.inr (.inr (.inl ⟨_,_,_,rfl,rfl,hRR _ hlk1,hts1⟩))) rfl ⟨rfl,rfl⟩;have hSb:=hB nt q.body hcb k1.szle (some L.blk) (.inr hokq.flat.2) ρ1 B _ a1 ht1 hs1 r2;refine wpIn_mono hSb ?_;rintro e a3 w3 ⟨x3,t3,h3,ρ3,rs3,hx3,hq3,ht3,hs3,hd3,hm3,r3,k3⟩;have r3:=r3.lessB (B:=B) fun k hk=>.inl hk
  have kk:=(k1.trans (k2.kep k1.szle)).trans k3;obtain⟨r',ts',R3,hg3,hR3,hq3⟩:=hq3;have hL3:ρ3 b=some L:=by grind[Kep.ext]
  obtain⟨_,ob3,hob3,hrec3⟩:=r3.maps b L _ hL3 hg3;obtain⟨q3,rfl,hlk3,hts3⟩:=hrec3.rec'
  have fin:∀(lq:Loop) (y:Bool),xR R3 lq->lq.tmps=q3.tmps->k (.b y) (h3.put b (.map (zo R3 ts')))->(∃v v0 h' ρ',Ending.returned (Value.bool y) = .returned v0∧k v h'∧VR σ0 ρ' v v0∧Rel σ0 ρ' B h' (w3.putObj L.blk (.loop lq))∧Kept ρ B h w ρ' h' (w3.putObj L.blk (.loop lq))):=by
   intro lq y hlp htm hk;obtain⟨r4,k4⟩:=r3.putMap (w':=w3.putObj L.blk (.loop lq)) hL3 hg3 (by rw[kk.fl];exact hfl) hob3 (es':=zo R3 ts') (.inr (.inr (.inl ⟨_,_,_,rfl,rfl,hlp,by rw[htm];exact hts3⟩))) rfl ⟨rfl,rfl⟩
   exact⟨.b y,.bool y,_,ρ3,rfl,hk,.b _,r4,(kk.trans (k4.kep kk.szle)).kept rl.dn.1⟩
  have hlf:=hR3 q3 hlk3;cases hx3 with
  | normal=>exact⟨_,_,run_endRound none hob3,fin (Go.Kc.rdy q3) true hlf rfl hq3⟩
  | exit id=>exact⟨_,_,run_endRound (some (.exit id)) hob3,fin (dne q3 (.exit id)) false hlf rfl hq3⟩
  | ret=>exact⟨_,_,run_endRound (some .ret) hob3,fin (dne q3 .ret) false hlf rfl hq3⟩
def qkS(b:Nat)(Q:X->Tr AV->Hp->Prop)(t:Tr AV)(_:AV)(h:Hp):Prop :=
 ∃r ts,h.tr.get b=some (.map (zo r ts))∧r.state≠.busy ∧
  match r.pending with
  | none=>Q .normal t (h.put b .dead)
  | some .ret=>Q .ret t (h.put b .dead)
  | some (.exit id)=>Q (.exit id) t (h.put b .dead)
  | _=>False
def rfK(P:Program)(ps:List Nat)(ai bi:ICode)(Q:X->Tr AV->Hp->Prop)(t:Tr AV)(ts:List (Nat×AV))(h:Hp)(g:AV):Prop :=
 match g with
 | .fn f first cap=>qbn P f∧∀r0,r0.state = .ready->r0.pending=none->LoopOk P r0 ps ai bi->SC P f (first++(.yl h.sz::cap)) (h.push (.map (zo r0 ts))) (qkS h.sz Q t)
 | _=>False
def qoP(P:Program)(ps:List Nat)(ai bi:ICode)(Q:X->Tr AV->Hp->Prop)(t:Tr AV)(ts:List (Nat×AV))(h:Hp)(g:AV):Prop :=
 match g with
 | .fn f first cap=>qbn P f∧∀r0,r0.state = .ready->r0.pending=none->LoopOk P r0 ps ai bi->∃R,xR R r0∧SC P f (first++(.yl h.sz::cap)) (h.push (.map (zo R ts))) (qkS h.sz Q t)
 | _=>False
theorem S.rangeFL{j:Nat}{g:O}{ps:List Nat}{ai bi:ICode}{Q:X->Tr AV->Hp->Prop}{t:Tr AV}{h:Hp}{ts:List (Nat×AV)}(hfl:h.fl<=h.sz)(htg:∀p ∈ ts,t.get p.1=some p.2)(hnr:xy ai=true∧xy bi=true)(hk:evK t g (qoP P ps ai bi Q t ts h)):S P n (.rangeF j g ps ai bi) Q t h:=by
 intro nt code hc hn ro hro ρ B w a ht hsz r
 obtain rfl:ro=none:=by
  rcases hro with h|h
  ·exact h
  ·cases h
 cases code<;>first|(simp[qm] at hc;done)|skip
 rename_i og ops oa ob;simp only[qm,Bool.and_eq_true] at hc;obtain⟨⟨⟨⟨⟨h1,h2⟩,h3⟩,h4⟩,h5⟩,h6⟩:=hc;have hreal:∀j,oa≠.goto j:=fun j hj=>by rw[hj] at h6;cases h6
 have h2:=eq_of_beq h2;obtain⟨gv,hgv,hk2⟩:=ql ht h1 hk;cases gv<;>try exact hgv.elim
 rename_i f first cap
 obtain⟨⟨fn0,c1,c2,c3⟩,hS⟩:=hgv;obtain⟨a',c',q1,q2,q3⟩:=hk2.un_fn;have hLd:∀b L,ρ b=some L->L.blk<w.heap.size:=r.dn.2;refine wpIn_rangeFunc fun fn _=>?_
 let r0:Loop:={ state:=.ready,pending:=none,fn,tmps:=a.tmps,params:=ops,assign:=oa,body:=ob,defers:=w.heap.size }
 let W1:World:=(w.alloc (.deferred (some []))).alloc (.loop r0)
 have hold:∀k,k<w.heap.size->(w.alloc (.deferred (some []))).heap[k]?=w.heap[k]?:=fun k hk=>by
  show (w.heap.push _)[k]?=_;rw[Array.getElem?_push,if_neg (by omega)]
 have hD:(w.alloc (.deferred (some []))).heap[w.heap.size]?=some (.deferred (some [])):=World.alloc_heap_new w _
 have r1:Rel σ0 ρ (BM B [w.heap.size]) h (w.alloc (.deferred (some []))):=by
  have r':=r.world (w':=w.alloc (.deferred (some []))) hold (by simp);refine⟨r'.dom,r'.cells,r'.maps,r'.excl,r'.exclm,r'.app,fun b L hb hf hB=>?_,fun k hk=>?_,r'.frz,r'.dn⟩
  ·rcases hB with hB|hB
   all_goals grind[Rel.flr]
  ·rcases hk with hk|hk
   ·have:=r.base k hk;simp;omega
   simp_all
 have hts:∀p ∈ ts,p.1<r0.tmps.size∧VR σ0 ρ p.2 (r0.tmps.getD p.1 undef):=fun p hp=>ht p.1 p.2 (htg p hp)
 have hlo:LoopOk P r0 ps ai bi:=⟨h2,⟨nt,h4,h5,hsz,fun p hp=>by rw[← h2] at hp;have:=List.all_eq_true.1 h3 p hp;simp_all⟩,hnr,hreal⟩
 obtain⟨R,hRl,hSC⟩:=hS r0 rfl rfl hlo;obtain⟨r2,k2⟩:=r1.newMap (w':=W1) (es0:=zo R ts) (o:=.loop r0) (.inr (.inr (.inl ⟨_,_,_,rfl,rfl,hRl,hts⟩))) rfl ⟨rfl,rfl⟩;have hl:(w.alloc (.deferred (some []))).heap.size=w.heap.size+1:=by simp
 rw[hl] at r2 k2;obtain⟨Lc,hLc⟩:∃Lc:Loc,Lc=⟨w.heap.size+1,0,0,0⟩:=⟨_,rfl⟩;rw[← hLc] at r2 k2;have hself:(ρ.add h.sz Lc) h.sz=some Lc:=Ren.add_self _ _ _;have hle2:=k2.mono r1.dom
 have hargs:VRs σ0 (ρ.add h.sz Lc) (first++(.yl h.sz::cap)) (a' ++ #[Value.func (.yield (w.heap.size+1)) #[] #[]]++c').toList:=by
  have hy:VR σ0 (ρ.add h.sz Lc) (.yl h.sz) (.func (.yield Lc.blk) #[] #[]):=.yl _ Lc hself;have e2:Lc.blk=w.heap.size+1:=by rw[hLc]
  rw[e2] at hy;have:=(q1.mono hle2).append (VRs.cons _ _ _ _ hy (q2.mono hle2))
  simp_all
 have hcf:=xT (P:=P) c1 c2 c3
 have hcalls:Calls P f (a' ++ #[Value.func (.yield (w.heap.size+1)) #[] #[]]++c') W1 fun e w'=>∃v v' h' ρ',e = .returned v'∧qkS h.sz Q t v h'∧VR σ0 ρ' v v'∧Rel σ0 ρ' (BM B [w.heap.size]) h' w'∧Kept (ρ.add h.sz Lc) (BM B [w.heap.size]) (h.push (.map (zo R ts))) W1 ρ' h' w':=by
  rcases hSC.2 _ _ _ _ r2 hargs with⟨_,hh⟩|⟨v,w',hh,_⟩
  all_goals grind
 have hev:(({ a with defers:=qa1 [w.heap.size]++a.defers }:Act)).eval og = .func (.func f) a' c':=q3;refine⟨w.heap.size+1,[{ target:=.collected w.heap.size,args:=#[] }],W1,{ target:=.fn (.func f) c',args:=a' ++ #[Value.func (.yield (w.heap.size+1)) #[] #[]] },W1,f,a' ++ #[Value.func (.yield (w.heap.size+1)) #[] #[]]++c',W1,run_enterLoop_outer _ _ _ _ _,?_,fun _ _=>trivial,?_,fun hh=>(by cases hh),qc6 (Calls.mono hcalls ?_)⟩
 ·simp only[resolve,q3];simp[go_sem,Deferred.ofValue,q3]
 ·simp[invoke,hcf]
 rintro e w2 ⟨v,v',h2',ρ2,rfl,hend,hv,r3,k3⟩;obtain⟨r',ts',hg',hst,hmt⟩:=hend;have hL2:ρ2 h.sz=some Lc:=(k3.ext _ (by show _<Nat.succ _;omega)).trans hself
 obtain⟨_,ob2,hob2,hrec2⟩:=r3.maps _ Lc _ hL2 hg';obtain⟨q2,rfl,hlk2,hts2⟩:=hrec2.rec';have hob3:w2.heap[w.heap.size+1]?=some (.loop q2):=by rw[hLc] at hob2;omega
 have hfl2:h2'.fl<=h.sz:=by rw[k3.fl];exact hfl
 obtain⟨re,hre⟩:∃re:Loop,re={ q2 with state:=.exhausted }:=⟨_,rfl⟩;obtain⟨re',hre'⟩:∃re':Loop,re'={ r' with state:=.exhausted }:=⟨_,rfl⟩
 have hlre:xR re' re:=by
  have:=hlk2.set .exhausted q2.pending;rw[hre,hre'];have e:({ r' with state:=.exhausted,pending:=q2.pending }:Loop)={ r' with state:=.exhausted }:=by rw[hlk2.pending]
  rw[e] at this;omega
 have hts4:∀p ∈ ts',p.1<re.tmps.size∧VR σ0 ρ2 p.2 (re.tmps.getD p.1 undef):=by rw[hre];omega
 have hend2:=run_endLoop (P:=P) hob3 (by rw[hlk2.state];omega);rw[← hre] at hend2;clear hre;obtain⟨r4,k4⟩:=r3.putMap (w':=w2.putObj (w.heap.size+1) (.loop re)) hL2 hg' hfl2 hob2 (es':=zo re' ts') (.inr (.inr (.inl ⟨_,_,_,rfl,rfl,hlre,hts4⟩))) (by rw[hLc];rfl) ⟨rfl,rfl⟩
 have r5:Rel σ0 ρ2 (BM B [w.heap.size]) (h2'.put h.sz .dead) (w2.putObj (w.heap.size+1) (.loop re)):=by
  refine r4.sub rfl rfl fun b x hx hd=>?_
  simp only[Hp.put,Tr.get_set] at hx ⊢
  grind
 have hD1:W1.heap[w.heap.size]?=some (.deferred (some [])):=by
  show ((w.alloc (.deferred (some []))).heap.push _)[w.heap.size]?=_;rw[Array.getElem?_push,if_neg (by rw[hl];omega)];exact hD
 have hD2:(w2.putObj (w.heap.size+1) (.loop re)).heap[w.heap.size]?=some (.deferred (some [])):=by
  rw[World.putObj_heap_other (by omega),k3.pres _ (.inr (by simp))];omega
 have k0:Kep n ρ B h w ρ h (w.alloc (.deferred (some []))):=⟨fun _ _=>rfl,hn,rfl,fun _ _ _=>rfl,by grind[Rel.base],by simp,⟨rfl,rfl⟩,fun _ _ h=>h,fun _ _ h=>.inl h,fun _ _ h=>h⟩
 have hn2:n<=(h.push (.map (zo R ts))).sz:=Nat.le_trans hn (Nat.le_succ _);have hn3:n<=h2'.sz:=Nat.le_trans hn2 k3.szle
 have k5:Kep n ρ2 (BM B [w.heap.size]) h2' w2 ρ2 (h2'.put h.sz .dead) (w2.putObj (w.heap.size+1) (.loop re)) :=
  ⟨fun _ _=>rfl,hn3,rfl,fun b hb _=>by simp only[Hp.put,Tr.get_set];rw[if_neg (by omega)],k4.pres,k4.wle,k4.io,fun _ _ h=>h,fun _ _ h=>.inl h,fun _ _ h=>h⟩
 have kk:Kep n ρ B h w ρ2 (h2'.put h.sz .dead) (w2.putObj (w.heap.size+1) (.loop re)):=((k0.trans (k2.kep hn).bm).trans (k3.kep hn2).bm).trans k5.bm
 have fin:∀(x:X) (e:Exit),XR x e->Q x t (h2'.put h.sz .dead)->xE σ0 Q nt n ρ B h w a.defers e { a with defers:=[{ target:=.collected w.heap.size,args:=#[] }]++a.defers } (w2.putObj (w.heap.size+1) (.loop re)):=fun x e hx hq =>
  ⟨x,t,_,ρ2,[w.heap.size],hx,hq,ht.mono (Ren.le_trans hle2 (k3.mono r2.dom)),hsz,rfl,⟨by simp,by grind,fun q hq=>by rw[List.mem_singleton] at hq;grind⟩,r5,kk⟩
 refine⟨q2.pending,_,hend2,?_⟩;clear hend2;rw[hlk2.pending];generalize r'.pending=pd at hmt ⊢;cases pd with
 | none=>exact fin .normal _ .normal hmt
 | some c =>
  cases c<;>first|exact hmt.elim|skip
  ·exact wpIn_exit (fin _ _ (.exit _) hmt)
  ·exact wpIn_ret (fin _ _ .ret hmt)
theorem S.rangeF{j:Nat}{g:O}{ps:List Nat}{ai bi:ICode}{Q:X->Tr AV->Hp->Prop}{ts:List (Nat×AV)}{bl:List Blk}(_:bl.all qdP=true)(hnd:(ts.map Prod.fst).Nodup)(hnr:xy ai=true∧xy bi=true)(hk:evK (mkT ts) g (rfK P ps ai bi Q (mkT ts) ts (mkH 0 bl))):S P n (.rangeF j g ps ai bi) Q (mkT ts) (mkH 0 bl):=by
 refine S.rangeFL (ts:=ts) (Nat.zero_le _) (fun p hp=>qem hnd hp) hnr ?_
 obtain⟨v,h1,h2⟩:=qf (mkT ts) g _ hk;refine h2 _ ?_;cases v<;>try exact h1.elim
 obtain⟨hc,hh⟩:=h1;exact⟨hc,fun r0 a b hlo=>⟨r0,.inl ⟨rfl,hlo.real⟩,hh r0 a b hlo⟩⟩
end Go.Kc
end
section
namespace Go.Kc
variable [Cur]
variable {P:Program} {h:Hp}
inductive Gvs (h:Hp):List AV->List AV->Prop where
 | nil:Gvs h [] []
 | keep (v:AV) (vs vs':List AV) (h1:Gvs h vs vs'):Gvs h (v::vs) (v::vs')
 | fz (v v':AV) (vs vs':List AV) (hf:Frz h v v') (h1:Gvs h vs vs'):Gvs h (v::vs) (v'::vs')
 | fn (f:Nat) (a c c':List AV) (vs vs':List AV) (hc:Gvs h c c') (h1:Gvs h vs vs'):Gvs h (.fn f a c::vs) (.fn f a c'::vs')
theorem Gvs.ok{ρ:Ren}{B:Nat->Prop}{w:World}(hle:ρ.le ⟨ρ.loc,xn ρ h w,ρ.n⟩)(r:Rel σ0 ρ B h w):∀{vs vs':List AV} {xs:List Value},Gvs h vs vs'->VRs σ0 ρ vs xs->VRs σ0 ⟨ρ.loc,xn ρ h w,ρ.n⟩ vs' xs
 | _,_,_,.nil,hv=>by cases hv;exact .nil
 | _,_,_,.keep _ _ _ h1,hv=>by
  cases hv with
  | cons _ _ _ _ a1 a2=>exact .cons _ _ _ _ (a1.mono hle) (Gvs.ok hle r h1 a2)
 | _,_,_,.fz _ _ _ _ hf h1,hv=>by
  cases hv with
  | cons _ _ _ _ a1 a2=>exact .cons _ _ _ _ (by grind[CR.vr,Frz.ok]) (Gvs.ok hle r h1 a2)
 | _,_,_,.fn f a c c' _ _ hc h1,hv=>by
  cases hv with
  | cons _ _ _ _ a1 a2 =>
   obtain⟨a',c'',q1,q2,q3⟩:=a1.un_fn;subst q3;exact .cons _ _ _ _ (.fn _ _ _ _ _ (q1.mono hle) (Gvs.ok hle r hc q2)) (Gvs.ok hle r h1 a2)
theorem SC.give{f:Nat}{vs vs':List AV}{k:AV->Hp->Prop}(DB:List (Nat×Blk))(hg:∀p ∈ DB,h.tr.get p.1=some p.2∧h.fl<=p.1)(hf:Gvs ⟨h.sz,h.fl,trP DB⟩ vs vs')(hk:SC P f vs' (qar h DB) k):SC P f vs h k:=by
 refine⟨hk.1,fun ρ B w args r ha=>?_⟩
 have r0:Rel σ0 ρ B ⟨h.sz,h.fl,trP DB⟩ w:=r.sub rfl rfl (fun b x hx _=>(hg _ (qcL hx)).1)
 have le:ρ.le ⟨ρ.loc,xn ρ ⟨h.sz,h.fl,trP DB⟩ w,ρ.n⟩:=⟨fun _ _ h=>h,by grind[xd],Nat.le_refl _⟩
 have hcr:=hf.ok le r0 ha
 have fnew:∀kk a,xn ρ ⟨h.sz,h.fl,trP DB⟩ w kk=some a->ρ.frz kk=some a∨((∃ty fz,w.heap[kk]?=some (.cells a ty fz))∧∃b L e af cs,b ∈ DB.map Prod.fst∧ρ b=some L∧h.tr.get b=some (.cells e true af cs)∧L.blk=kk∧h.fl<=b):=by
  intro kk a hkk;rcases jP hkk with h1|⟨h1,b,L,e,af,cs,h2,h3,h4⟩
  ·exact .inl h1
  ·have hm:=qcL h3;exact .inr ⟨h1,b,L,e,af,cs,List.mem_map_of_mem (f:=Prod.fst) hm,h2,(hg _ hm).1,h4,(hg _ hm).2⟩
 have qdP:∀b x,(qar h DB).tr.get b=some x->x≠.dead->b ∉ DB.map Prod.fst∧h.tr.get b=some x:=by
  intro b x hx hd;rw[qbz] at hx;split at hx
  ·cases hx;exact absurd rfl hd
  ·exact by grind
 have r1:Rel σ0 ⟨ρ.loc,xn ρ ⟨h.sz,h.fl,trP DB⟩ w,ρ.n⟩ B (qar h DB) w:=by
  have rs:Rel σ0 ρ B (qar h DB) w:=by grind[Rel.sub,qcB,qcA]
  refine⟨rs.dom,fun b L e wf af cs hb hx=>?_,fun b L es hb hx=>?_,rs.excl,rs.exclm,rs.app,rs.flr,rs.base,fun kk arr hkk=>?_,rs.dn⟩
  ·obtain⟨q1,c,ty,fz,q2,q3,q4,q5,q6⟩:=rs.cells b L e wf af cs hb hx;exact by grind[VR.mono]
  ·obtain⟨q1,o,q2,q3⟩:=rs.maps b L es hb hx;exact by grind[xg.mono]
  ·rcases fnew kk arr hkk with h1|⟨h1,b,L,e,af,cs,h2,h3,h4,h5,_⟩
   ·exact rs.frz kk arr h1
   ·refine⟨h1,fun b' L' x hb' hx hd he=>?_⟩
    obtain⟨g1,g2⟩:=qdP b' x hx hd;have:=r.excl b L e af cs h3 h4 b' L' x hb' g2 hd (by rw[he,h5]);subst this;exact g1 h2
 have k0:Kept ρ B h w ⟨ρ.loc,xn ρ ⟨h.sz,h.fl,trP DB⟩ w,ρ.n⟩ (qar h DB) w:=by
  refine⟨fun _ _=>rfl,by rw[qcB];exact Nat.le_refl _,qcA,fun b hb _=>?_,fun _ _=>rfl,Nat.le_refl _,⟨rfl,rfl⟩,by grind[xd],fun k a hk=>?_,Nat.le_refl _⟩
  ·rw[qbz,if_neg];intro hm;obtain⟨p,hp1,hp2⟩:=List.mem_map.1 hm;have:=(hg p hp1).2;omega
  ·rcases fnew k a hk with h2|⟨_,b,L,_,_,_,_,h3,_,h5,h6⟩
   ·exact .inl h2
   ·right;rw[← h5];exact r.flr b L h3 h6
 refine jq.mono (hk.2 _ B w args r1 hcr) ?_
 grind[Kept.trans]
end Go.Kc
end
section
namespace Go.Kc
variable [Cur]
variable {P:Program} {h:Hp} {t:Tr AV}
def qm1(m:Nat)(v:AV)(bs2:List Blk)(v':AV)(h':Hp):Prop:=h'.fl=0->∃src:List Nat,NV (rl src h'.sz) bs2.length v' v∧BWs h' (rl src h'.sz) bs2.length src bs2∧(List.map Prod.fst (List.filter (fun p=>decide (p.fst<h'.sz)&&qdP p.snd) (src.zip bs2))).Nodup∧∀b,b<m->rl src h'.sz b=b
theorem qm1.w{m:Nat}{v:AV}{bs2:List Blk}{v':AV}{h':Hp}(hz:qm1 m v bs2 v' h')(hle:m<=bs2.length):qh0 m v bs2 v' h':=by
 intro hfl;obtain⟨src,s1,s2,s3,s4⟩:=hz hfl;exact Wk.mkd [(0,v)] bs2 src ⟨⟨v',by simp[mkT,Tr.get_set],s1⟩,trivial⟩ s2 s3 hfl hle s4
end Go.Kc
end
section
namespace Go.Kc
variable [Cur]

variable {P:Program} {H:Type} {enc:TypeId×Value->H} {w:World} {t e:TypeId} {α:Type}
end Go.Kc
end
section
namespace Go.Kc
variable [Cur]
variable {P:Program}

def qgN:Op->Bool
 | .call c=>(match c.callee with | .builtin .recover=>true|_=>false)&&c.args.isEmpty
 | _=>false
def qgI(n:Nat):Op->Bool
 | .assign (.tmp m)=>m==n
 | _=>false
def qgL(n:Nat):Op->Bool
 | .move (.tmp m)=>m==n
 | _=>false
def qlc(P:Program)(n:Nat):Op->Bool
 | .binOp .neq ty (.tmp m) y _=>m==n&&jt .iface y&&qfj P .iface ty
 | _=>false
def qc8(o:Oper):Bool:=o.guard.isNone
def qhD(P:Program)(nt:Nat)(p q r s:Oper)(c:Nat):Bool :=
 qc8 p&&qc8 q&&qc8 r&&qc8 s&&match p.dst,q.dst,r.dst,s.dst with
  | some a,some b,some e,some c'=>Nat.blt a nt&&Nat.blt b nt&&Nat.blt e nt&&Nat.blt c nt&&c'==c&&qgN p.op&&qgI a q.op&&qgL b r.op&&qlc P e s.op
  | _,_,_,_=>false
def qhC(P:Program)(nt:Nat):Code->Bool
 | .seq (.region _ o1 false) (.seq (.region _ o2 false) (.cond (.tmp c) _ .skip))=>(match o1.toList,o2.toList with
  | [p,q],[r,s]=>qhD P nt p q r s c
  | _,_=>false)
 | _=>false
def qal(P:Program)(f:Nat):Bool :=
 match P.funcs[f]? with
 | some fn=>fn.name != "runtime.NumGoroutine" && fn.results.isEmpty&&(match fn.body with|some c=>qhC P fn.ntmps c|none=>false)
 | none=>false
omit [Cur] in
theorem qbd{a:Act}{n:Nat}(h:n<a.tmps.size)(v:Value):(a.put (some n) v).eval (.tmp n)=v:=by
 simp[Act.put,Act.eval,Array.getD,h]
omit [Cur] in
theorem qdn{a:Act}{o:Oper}(h:qgN o.op=true)(w:World):(execOp a.eval o).run P w = .ok .recover w:=by
 unfold qgN at h;split at h
 ·rename_i c hc;simp only[Bool.and_eq_true] at h;obtain⟨h1,h2⟩:=h;split at h1<;>try (cases h1;done)
  rename_i hb;simp[execOp,hc,resolve,hb,invoke,builtin]
 grind
omit [Cur] in
theorem qgJ{n:Nat}{o:Op}(h:qgI n o=true):o = .assign (.tmp n):=by
 unfold qgI at h
 grind
omit [Cur] in
theorem qgM{n:Nat}{o:Op}(h:qgL n o=true):o = .move (.tmp n):=by
 unfold qgL at h
 grind
omit [Cur] in
theorem qlz(ρ:Ren){n:Nat}{a:Act}{o:Oper}(h:qlc P n o.op=true)(hv:a.eval (.tmp n) = .nilIface)(w:World):(execOp a.eval o).run P w = .ok (.value (.bool false)) w:=by
 unfold qlc at h;split at h
 ·rename_i ty m y uy ho;simp only[Bool.and_eq_true] at h;obtain⟨⟨h1,h2⟩,h3⟩:=h;obtain rfl:=eq_of_beq h1;have hx:VR σ0 ρ .nili (a.eval (.tmp m)):=by rw[hv];exact .nili
  obtain⟨c,z,g1,rfl,g2,g3,g4,g5,g6,g7⟩:=qbx (P:=P) (k:=fun c=>c=true) hx (show zj .iface .nili (fun c=>c=true) from rfl) h3 h2 w
  subst g1
  have hg:(eqGuard .neq ty (.tmp m) (.const z) (a.eval (.tmp m)) z).run P w = .ok () w:=by
   rw[hv];cases z<;>simp[eqGuard]
  refine wN ho hg ?_;show (binOp .neq ty (a.eval (.tmp m)) z).run P w=_;rw[g6 .neq (.inr rfl)];have g2':(Op.equal ty (a.eval (.tmp m)) z).run P w = .ok true w:=g2;simp[g2']
 grind
omit [Cur] in
theorem wO{o:Oper}(h:qc8 o=true)(y:Nat->Option Bool):Region.wanted o y=true:=by
 unfold qc8 at h;cases hg:o.guard with
 | none=>simp[Region.wanted,hg]
 | some _=>rw[hg] at h;cases h
omit [Cur] in
theorem qcj{a b:Nat}(h:Nat.blt a b=true):a<b:=by simp_all
omit [Cur] in
theorem qhE(ρ:Ren){fd:Nat}(hc:qal P fd=true)(args:Array Value)(w:World):CallsDIn (Fr none) 0 P fd args .returning w (fun e u' w'=>e = .returned (.tuple #[])∧u' = .returning∧w'=w):=by
 unfold qal at hc;split at hc<;>try (cases hc;done)
 rename_i fn hfn;simp only[Bool.and_eq_true] at hc;obtain⟨⟨_,hres⟩,hbody⟩:=hc;split at hbody<;>try (cases hbody;done)
 rename_i c hcb;unfold qhC at hbody;split at hbody<;>try (cases hbody;done)
 rename_i i1 o1 i2 o2 c thn;split at hbody<;>try (cases hbody;done)
 rename_i p q r s hl1 hl2;unfold qhD at hbody;simp only[Bool.and_eq_true] at hbody;obtain⟨⟨⟨⟨f1,f2⟩,f3⟩,f4⟩,hb⟩:=hbody;split at hb<;>try (cases hb;done)
 rename_i a b e c' e1 e2 e3 e4;simp only[Bool.and_eq_true] at hb;obtain⟨⟨⟨⟨⟨⟨⟨⟨b1,b2⟩,b3⟩,b4⟩,b5⟩,b6⟩,b7⟩,b8⟩,b9⟩:=hb;have b1:=qcj b1;have b2:=qcj b2;have b3:=qcj b3;have b4:=qcj b4;obtain rfl:=eq_of_beq b5;have b7:=qgJ b7;have b8:=qgM b8;have s1:o1 = #[p,q]:=by rw[← Array.toList_inj];exact hl1
 have s2:o2 = #[r,s]:=by rw[← Array.toList_inj];exact hl2
 subst s1 s2;refine callsDIn_of_wpSIn hfn hcb trivial fun c₀ cs hmode=>?_
 have hsz:fn.ntmps<=(args++Array.replicate (fn.ntmps-args.size) undef).size:=by simp;omega
 generalize hA:({ tmps:=args++Array.replicate (fn.ntmps-args.size) undef,defers:=[] }:Act)=A;have hsA:fn.ntmps<=A.tmps.size:=by rw[← hA];exact hsz
 have hdA:A.defers=[]:=by rw[← hA]
 have hrec:recoverD (c₀::cs)=none:=by simp[recoverD,hmode]
 have r1:=qdn (P:=P) (a:=A) b6 w;have m1:∀(x:Act),(execOp x.eval q).run P w = .ok (.value (x.eval (.tmp a))) w:=fun x=>by simp[execOp,b7]
 have m2:∀(x:Act),(execOp x.eval r).run P w = .ok (.value (x.eval (.tmp b))) w:=fun x=>by simp[execOp,b8]
 refine wpSIn_seq (wpSIn_region ?_);have hA1:(A.put (some a) .nilIface).eval (.tmp a) = .nilIface:=qbd (by omega) _;generalize hB:A.put (some a) .nilIface=A1 at hA1;have z1:A1.tmps.size=A.tmps.size:=by rw[← hB,zO]
 have hA2:(A1.put (some b) .nilIface).eval (.tmp b) = .nilIface:=qbd (by omega) _;generalize hC:A1.put (some b) .nilIface=A2 at hA2;have z2:A2.tmps.size=A.tmps.size:=by rw[← hC,zO,z1]
 have hA3:(A2.put (some e) .nilIface).eval (.tmp e) = .nilIface:=qbd (by omega) _;generalize hD:A2.put (some e) .nilIface=A3 at hA3;have z3:A3.tmps.size=A.tmps.size:=by rw[← hD,zO,z2]
 have hA4:(A3.put (some c') (.bool false)).eval (.tmp c') = .bool false:=qbd (by omega) _;generalize hE:A3.put (some c') (.bool false)=A4 at hA4;have d4:A4.defers=[]:=by rw[← hE,zN,← hD,zN,← hC,zN,← hB,zN,hdA]
 have m3:=qlz (P:=P) ρ b9 hA3 w;have l2:List.range (#[p,q]:Array Oper).size=[0,1]:=rfl;have l3:List.range (#[r,s]:Array Oper).size=[0,1]:=rfl;have g0:(#[p,q]:Array Oper)[0]?=some p:=rfl;have g1:(#[p,q]:Array Oper)[1]?=some q:=rfl;have g2:(#[r,s]:Array Oper)[0]?=some r:=rfl;have g3:(#[r,s]:Array Oper)[1]?=some s:=rfl;rw[l2];simp only[wpOpsSIn,g0,g1,wO f1,wO f2,if_true,r1,hrec,e1,hB,m1,hA1,e2,hC];refine⟨fun _ _=>trivial,fun _ _=>trivial,?_⟩
 refine wpSIn_seq (wpSIn_region ?_);rw[l3];simp only[wpOpsSIn,g2,g3,wO f3,wO f4,if_true,m2,hA2,e3,hD,m3,e4,hE];refine⟨fun _ _=>trivial,fun _ _=>trivial,?_⟩
 refine wpSIn_cond hA4 (wpSIn_of_wpIn rfl (wpIn_skip ?_));refine⟨d4,.returning,?_,.tuple #[],?_,rfl,rfl,rfl⟩
 ·cases c₀;cases hmode;rfl
 simp_all[qbL]

def qgK(n:Nat):Op->Bool
 | .defer c=>(match c.callee with | .value (.tmp m)=>m==n|_=>false)&&c.args.isEmpty
 | _=>false
omit [Cur] in
theorem qe7{n fd:Nat}{a:Act}{o:Oper}{cap:Array Value}(h:qgK n o.op=true)(hv:a.eval (.tmp n) = .func (.func fd) #[] cap)(w:World):(execOp a.eval o).run P w = .ok (.defer { target:=.fn (.func fd) cap,args:=#[] }) w:=by
 unfold qgK at h;split at h
 ·rename_i c hc;simp only[Bool.and_eq_true] at h;obtain⟨h1,h2⟩:=h;split at h1<;>try (cases h1;done)
  rename_i m hb;obtain rfl:=eq_of_beq h1;have h2:c.args = #[]:=by simpa using h2
  simp[execOp,hc,resolve,hb,hv,h2,Deferred.ofValue]
 grind
def vf(P:Program)(f fd:Nat)(i:IFn):Bool :=
 qal P fd&&match i.body with
 | .seq (.reg false rsA) (.seq (.reg false rsB) (.seq (.reg false (r0::_)) y))=>(match P.funcs[f]? with
  | some fn=>fn.name != "runtime.NumGoroutine" && (match fn.body with
   | some (.seq (.region _ oA false) (.seq (.region _ oB false) (.seq (.region _ oD false) c)))=>x6 P oA fn.ntmps oA.toList rsA&&x6 P oB fn.ntmps oB.toList rsB&&(match oD.toList,r0.dst with
    | [o0,o1],some d=>qdH P oD fn.ntmps o0 r0&&r0.guard.isNone&&qc8 o0&&qc8 o1&&qgK d o1.op&&o1.dst.isNone
    | _,_=>false)&&qm P fn.ntmps c y
   | _=>false)&&xz P fn.results.toList i.res
  | none=>false)
 | _=>false
def qcs(fd:Nat)(r0:ROp)(t:Tr AV):Prop:=∃d cs,r0.dst=some d∧t.get d=some (.fn fd [] cs)
theorem qbA{fn:Func}{tm:Array Value}{ρ ρ':Ren}{B:Nat->Prop}{h h':Hp}{w:World}{R:Ending->World->Prop}{ds:List Deferred}(hT:∀w',Rel σ0 ρ' B h' w'->Kept ρ B h w ρ' h' w'->LeavesInM (Fr none) 0 P fn tm R ds .returning w') :
  ∀(rs:List Nat) {w':World},(∀r ∈ rs,w'.heap[r]?=some (.deferred (some [])))->rs.Nodup->(∀r ∈ rs,¬B r)->Rel σ0 ρ' B h' w'->Kept ρ B h w ρ' h' w'->LeavesInM (Fr none) 0 P fn tm R (qa1 rs++ds) .returning w'
 | [],w',_,_,_,hr',hk=>hT w' hr' hk
 | r::rs,w',hm,hn,hB,hr',hk=>by
  have h1:=hm r (by simp);refine⟨by simp,.inl ⟨r,w'.putObj r (.deferred none),rfl,run_takeDeferred h1,?_⟩⟩
  have hn2:=List.nodup_cons.1 hn;refine qbA hT rs (fun r' hr2=>?_) hn2.2 (fun r' hr2=>hB r' (by grind)) (hr'.shut h1 _) ?_
  ·rw[World.putObj_heap_other (by rintro rfl;exact hn2.1 hr2)];simp_all
  ·exact⟨hk.ext,hk.szle,hk.fl,hk.akeep,fun k hb=>by rw[World.putObj_heap_other (by grind)];exact hk.pres k hb,by simpa using hk.wle,hk.io,hk.frz,hk.fnew,hk.nle⟩
end Go.Kc
end
section
namespace Go.Kc
variable [Cur]
end Go.Kc
end
section
namespace Go.Kc
variable [Cur]
variable {P:Program} {h:Hp}
end Go.Kc
end
section
namespace Go.Kc
variable [Cur]
variable {P:Program}
abbrev xh:=Nat->Option (List Nat×ICode×ICode)
def tpl(j:Nat)(s:LoopState)(p:Option Code):Loop:={ state:=s,pending:=p,fn:=0,tmps:=#[],params:=#[],assign:=.goto j,body:=.skip,defers:=0 }
theorem xR.tpl{j:Nat}{r q:Loop}(hr:r.assign = .goto j)(h:xR r q)(s:LoopState)(p:Option Code):xR (Go.Kc.tpl j s p) { q with state:=s,pending:=p }:=by
 rcases h with⟨_,h0⟩|⟨j',h1,h2,_,_⟩
 ·exact absurd hr (h0 j)
 ·rw[hr] at h1;cases h1;exact .inr ⟨j,rfl,Cur.st s p h2,rfl,rfl⟩
noncomputable def qbD(t:Tr AV):Nat->Nat->List (Nat×AV)->(List (Nat×AV)->Prop)->Prop :=
 Tr.rec (motive:=fun _=>Nat->Nat->List (Nat×AV)->(List (Nat×AV)->Prop)->Prop) (fun _ _ acc k=>k acc)
  (fun v _ _ gl gr a m acc k=>qd (Nat.add a m) (fun a1=>qd (Nat.add a1 m) (fun a2=>qd (Nat.add m m) (fun m2 =>
   Option.rec (motive:=fun _=>Prop) (gl a1 m2 acc (fun acc=>gr a2 m2 acc k)) (fun x=>gl a1 m2 ((a,x)::acc) (fun acc=>gr a2 m2 acc k)) v)))) t
omit [Cur] in
theorem qb7{v:Option AV}{l r:Tr AV}{a m:Nat}{acc:List (Nat×AV)}{k:List (Nat×AV)->Prop}:qbD (.node v l r) a m acc k=qbD l (a+m) (m+m) (v.elim acc fun x=>(a,x)::acc) (fun acc=>qbD r (a+m+m) (m+m) acc k):=by
 have e:qbD (.node v l r) a m acc k=qd (Nat.add a m) (fun a1=>qd (Nat.add a1 m) (fun a2=>qd (Nat.add m m) (fun m2 =>
   Option.rec (motive:=fun _=>Prop) (qbD l a1 m2 acc (fun acc=>qbD r a2 m2 acc k)) (fun x=>qbD l a1 m2 ((a,x)::acc) (fun acc=>qbD r a2 m2 acc k)) v))):=rfl
 rw[e,qg,qg,qg];cases v<;>rfl
omit [Cur] in
theorem qas:∀(t:Tr AV) (a m:Nat) (acc:List (Nat×AV)) (k:List (Nat×AV)->Prop),qbD t a m acc k->∃l,k l∧(∀p ∈ l,p ∈ acc∨∃n,p.1=a+m*n∧t.get n=some p.2)∧∀k':List (Nat×AV)->Prop,k' l->qbD t a m acc k'
 | .leaf,_,_,acc,_,hk=>⟨acc,hk,fun _ hp=>.inl hp,fun _ hk'=>hk'⟩
 | .node v l r,a,m,acc,k,hk=>by
  rw[qb7] at hk;obtain⟨l1,h1,h2,h3⟩:=qas l _ _ _ _ hk;obtain⟨l2,h4,h5,h6⟩:=qas r _ _ _ _ h1;refine⟨l2,h4,fun p hp=>?_,fun k' hk'=>?_⟩
  ·rcases h5 p hp with hp|⟨n,e1,e2⟩
   ·rcases h2 p hp with hp|⟨n,e1,e2⟩
    ·cases v with
     | none=>exact .inl hp
     | some x =>
      rcases List.mem_cons.1 hp with rfl|hp
      ·exact .inr ⟨0,by simp,by rw[Tr.get_node]⟩
      ·exact .inl hp
    ·refine .inr ⟨2*n+1,by rw[e1,Nat.mul_add,Nat.mul_one,Nat.mul_left_comm,Nat.add_mul];omega,?_⟩
     rw[Tr.get_node];show (if 2*n % 2=0 then l.get (2*n / 2) else r.get (2*n / 2))=_
     rw[if_pos (by omega),show 2*n / 2=n from by omega];exact e2
   ·refine .inr ⟨2*n+2,by rw[e1,Nat.mul_add,Nat.mul_left_comm,Nat.add_mul];omega,?_⟩
    rw[Tr.get_node];show (if (2*n+1) % 2=0 then l.get ((2*n+1) / 2) else r.get ((2*n+1) / 2))=_
    rw[if_neg (by omega),show (2*n+1) / 2=n from by omega];exact e2
  ·rw[qb7];exact h3 _ (h6 _ hk')
noncomputable def qiG(es:List (AV×AV)):(List (Nat×AV)->Prop)->Prop :=
 List.rec (motive:=fun _=>(List (Nat×AV)->Prop)->Prop) (fun k=>k []) (fun e _ ih k=>match e.1 with
  | .i .i64 (.ofNat n)=>ih (fun ts=>k ((n,e.2)::ts))
  | _=>False) es
omit [Cur] in
theorem qc0:∀(es:List (AV×AV)) (k:List (Nat×AV)->Prop),qiG es k->∃ts,k ts∧es=ts.map (fun p=>(.i .i64 (Int.ofNat p.1),p.2))∧∀k':List (Nat×AV)->Prop,k' ts->qiG es k'
 | [],k,hk=>⟨[],hk,rfl,fun _ h=>h⟩
 | (.i .i64 (.ofNat n),e2)::es,k,hk=>by
  have hk':qiG es (fun ts=>k ((n,e2)::ts)):=hk
  obtain⟨ts,h1,h2,h3⟩:=qc0 es _ hk';exact⟨(n,e2)::ts,h1,by rw[h2];rfl,fun k' h'=>h3 (fun ts=>k' ((n,e2)::ts)) h'⟩
noncomputable def qdX(h:Hp)(b:Nat)(k:Loop->List (Nat×AV)->Prop):Prop :=
 h.tr.getK b (fun x=>Blk.rec (motive:=fun _=>Prop) (fun _ _ _ _=>False) False (fun es=>List.rec (motive:=fun _=>Prop) False (fun e rest _=>match e.1 with
  | .lp r=>(match e.2 with | .undef=>qiG rest (fun ts=>k r ts)|_=>False)
  | _=>False) es) x)
omit [Cur] in
theorem jH{h:Hp}{b:Nat}{k:Loop->List (Nat×AV)->Prop}(hk:qdX h b k):∃r ts,h.tr.get b=some (.map (zo r ts))∧k r ts∧∀k',k' r ts->qdX h b k':=by
 obtain⟨x,h1,h2⟩:=(Tr.getK_iff _ _ _).1 hk;cases x with
 | cells _ _ _ _=>exact h2.elim
 | dead=>exact h2.elim
 | map es =>
  cases es with
  | nil=>exact h2.elim
  | cons e rest =>
   obtain⟨e1,e2⟩:=e;cases e1<;>try exact (h2:False).elim
   rename_i r;cases e2<;>try exact (h2:False).elim
   obtain⟨ts,g1,g2,g3⟩:=qc0 rest _ h2;exact⟨r,ts,by rw[h1,g2];rfl,g1,fun k' h'=>(Tr.getK_iff _ _ _).2 ⟨_,h1,g3 _ h'⟩⟩
noncomputable def qb9(c:Code)(k:Nat->Prop):Prop:=match c with
 | .goto j=>k j
 | _=>False
omit [Cur] in
theorem wS{c:Code}{k:Nat->Prop}(hk:qb9 c k):∃j,c = .goto j∧k j:=by
 unfold qb9 at hk;split at hk
 ·exact⟨_,rfl,hk⟩
 ·exact hk.elim
noncomputable def qcF(s:LoopState)(p:Prop):Prop:=match s with
 | .ready=>p
 | _=>False
omit [Cur] in
theorem qdW{s:LoopState}{p:Prop}(hk:qcF s p):s = .ready∧p:=by
 unfold qcF at hk;split at hk
 ·exact⟨rfl,hk⟩
 ·exact hk.elim
noncomputable def qeb(s:LoopState)(p:Prop):Prop:=match s with
 | .busy=>False
 | _=>p
omit [Cur] in
theorem qbY{s:LoopState}{p:Prop}(hk:qeb s p):s≠.busy∧p:=by
 unfold qeb at hk;split at hk
 ·exact hk.elim
 ·rename_i h;exact⟨fun e=>h e,hk⟩
noncomputable def qhO(s:Option (List Nat×ICode×ICode))(k:List Nat->ICode->ICode->Prop):Prop:=match s with
 | some (ps,x,y)=>k ps x y
 | none=>False
omit [Cur] in
theorem qfB{s:Option (List Nat×ICode×ICode)}{k:List Nat->ICode->ICode->Prop}(hk:qhO s k):∃ps x y,s=some (ps,x,y)∧k ps x y:=by
 unfold qhO at hk;split at hk
 ·exact⟨_,_,_,rfl,hk⟩
 ·exact hk.elim
noncomputable def qlw(ts:List (Nat×AV)):(Tr AV->Prop)->Prop :=
 List.rec (motive:=fun _=>(Tr AV->Prop)->Prop) (fun k=>k .leaf) (fun p _ ih k=>ih (fun t=>t.setK p.1 p.2 k)) ts
omit [Cur] in
theorem qat:∀{ts:List (Nat×AV)} {k:Tr AV->Prop},qlw ts k↔k (mkT ts)
 | [],_=>Iff.rfl
 | p::ts,k=>by
  show qlw ts (fun t=>t.setK p.1 p.2 k)↔_
  rw[qat,Tr.setK_iff];rfl
noncomputable def qdk(ps:List Nat):List AV->Tr AV->(Tr AV->Prop)->Prop :=
 List.rec (motive:=fun _=>List AV->Tr AV->(Tr AV->Prop)->Prop) (fun _ t k=>k t) (fun p _ ih us t k=>List.rec (motive:=fun _=>Prop) False (fun u us _=>t.setK p u (fun t=>ih us t k)) us) ps
omit [Cur] in
theorem wW:∀{ps:List Nat} {us:List AV} {t:Tr AV} {k:Tr AV->Prop},qdk ps us t k->k (qfw ps us t)∧∀k':Tr AV->Prop,k' (qfw ps us t)->qdk ps us t k'
 | [],us,t,k,hk=>by cases us<;>exact⟨hk,fun _ h=>h⟩
 | p::ps,us,t,k,hk=>by
  cases us with
  | nil=>exact (hk:False).elim
  | cons u us =>
   have hk':t.setK p u (fun t=>qdk ps us t k):=hk
   rw[Tr.setK_iff] at hk';obtain⟨h1,h2⟩:=wW hk';refine⟨h1,fun k' h'=>?_⟩
   show t.setK p u (fun t=>qdk ps us t k')
   rw[Tr.setK_iff];exact h2 k' h'
noncomputable def qks(xs ys:List AV):(List AV->Prop)->Prop:=List.rec (motive:=fun _=>(List AV->Prop)->Prop) (fun k=>k ys) (fun x _ ih k=>ih (fun l=>k (x::l))) xs
omit [Cur] in
theorem qag:∀{xs ys:List AV} {k:List AV->Prop},qks xs ys k↔k (xs++ys)
 | [],_,_=>Iff.rfl
 | x::xs,ys,k=>by
  show qks xs ys (fun l=>k (x::l))↔_
  rw[qag];rfl
noncomputable def ylR(lc:xh)(ih:wi)(b:Nat)(us:List AV)(h:Hp)(k:AV->Hp->Prop):Prop :=
 qdX h b (fun r ts=>qb9 r.assign (fun j=>qhO (lc j) (fun ps ai bi=>qb (and (Nat.ble h.fl b) (and (Nat.ble (Nat.succ b) h.sz) (Nat.beq ps.length us.length)))
  (qlw ts (fun t=>qdk ps us t (fun t=>ih ai (fun e t1 h1=>X.rec (motive:=fun _=>Prop)
   (qdX h1 b (fun r1 ts1=>qb9 r1.assign (fun j1=>qcF r1.state (zw h1 b (.map (zo (tpl j1 .busy r1.pending) ts1)) (fun h2=>ih bi (fun e t3 h3 =>
    qdX h3 b (fun r3 ts3=>qb9 r3.assign (fun j3=>X.rec (motive:=fun _=>Prop)
     (zw h3 b (.map (zo (tpl j3 .ready none) ts3)) (fun h4=>k (.b true) h4))
     (fun id=>zw h3 b (.map (zo (tpl j3 .done (some (.exit id))) ts3)) (fun h4=>k (.b false) h4))
     (zw h3 b (.map (zo (tpl j3 .done (some .ret)) ts3)) (fun h4=>k (.b false) h4)) e))) t1 h2)))))
   (fun _=>False) False e) t h))))))
noncomputable def qai(env:Tr IFn)(ho:wZ)(lc:xh)(ih:wi):qy:=fun f args h k=>Nat.rec (motive:=fun _=>Prop)
 (match args with | .yl b::us=>ylR lc ih b us h k|_=>False) (fun f _=>qbh env ho ih f args h k) f
noncomputable def qef(Q:X->Tr AV->Hp->Prop)(t:Tr AV)(p:Option Code)(h':Hp):Prop:=match p with
 | none=>Q .normal t h'
 | some .ret=>Q .ret t h'
 | some (.exit id)=>Q (.exit id) t h'
 | _=>False
noncomputable def qee(b:Nat)(Q:X->Tr AV->Hp->Prop)(t:Tr AV)(h:Hp):Prop :=
 qdX h b (fun r _=>qeb r.state (zw h b .dead (fun h'=>qef Q t r.pending h')))
noncomputable def rfR(env:Tr IFn)(ih:wi)(j:Nat)(t:Tr AV)(h:Hp)(Q:X->Tr AV->Hp->Prop)(g:AV):Prop:=match g with
 | .fn f first cap=>qb (Nat.ble h.fl h.sz) (qbD t 0 1 [] (fun ts=>qks first (.yl h.sz::cap) (fun args=>zd h (.map (zo (tpl j .ready none) ts)) (fun b h'=>qbi env ih f args h' (fun _ h''=>qee b Q t h'')))))
 | _=>False
noncomputable def fr(env:Tr IFn)(ho:wZ)(lc:xh)(n:Nat):wi :=
 Nat.rec (motive:=fun _=>wi) (fun _ _ _ _=>False) (fun _ ih c Q t h=>match c with
  | .skip=>Q .normal t h
  | .reg draw ops=>jz qj draw (qai env ho lc ih) ops (fun t h=>Q .normal t h) t h
  | .rangeF j g _ _ _=>evK t g (fun v=>rfR env ih j t h Q v)
  | .seq x y=>ih x (fun e t h=>X.rec (motive:=fun _=>Prop) (ih y Q t h) (fun id=>Q (.exit id) t h) (Q .ret t h) e) t h
  | .cond c x y=>evK t c (fun v=>unB v (fun b=>Bool.rec (motive:=fun _=>Prop) (ih y Q t h) (ih x Q t h) b))
  | .blk id x=>ih x (fun e t h=>X.rec (motive:=fun _=>Prop) (Q .normal t h) (fun id'=>Bool.rec (motive:=fun _=>Prop) (Q (.exit id') t h) (Q .normal t h) (Nat.beq id' id)) (Q .ret t h) e) t h
  | .loop x=>ih x (fun e t h=>X.rec (motive:=fun _=>Prop) (ih (.loop x) Q t h) (fun id=>Q (.exit id) t h) (Q .ret t h) e) t h
  | .exit id=>Q (.exit id) t h
  | .ret=>Q .ret t h
  | .no=>False
  | .cut x=>ih x Q t h) n
omit [Cur] in
theorem qdY(h:Hp)(b:Nat):L2 (qdX h b):=fun _ hk=>by
 obtain⟨r,ts,_,h2,h3⟩:=jH hk;exact⟨r,ts,h2,h3⟩
omit [Cur] in
theorem qcC(c:Code):L1 (qb9 c):=fun k hk=>by
 obtain⟨j,rfl,h⟩:=wS hk;exact⟨j,h,fun _ h=>h⟩
omit [Cur] in
theorem qhG{α β:Type}(s:LoopState){F:(α->β->Prop)->Prop}(hF:L2 F):L2 (fun k=>qcF s (F k)):=by
 cases s<;>first|exact hF|exact L2.no
omit [Cur] in
theorem LB.l2{ih:wi}(hi:LB ih){α β:Type}(c:ICode)(t:Tr AV)(h:Hp){F:X->Tr AV->Hp->(α->β->Prop)->Prop}(hF:∀e t h,L2 (F e t h)):L2 (fun k=>ih c (fun e t h=>F e t h k) t h):=fun k hk=>by
 obtain⟨e,t',h',h1,h2⟩:=hi _ _ _ _ hk;obtain⟨x,y,h3,h4⟩:=hF e t' h' _ h1;exact⟨x,y,h3,fun k' hk'=>h2 _ (h4 k' hk')⟩
theorem qn9(lc:xh){ih:wi}(hi:LB ih)(b:Nat)(us:List AV)(h:Hp):L2 (ylR lc ih b us h):=by
 unfold ylR;refine L2.b2 (qdY h b) fun r ts=>L1.b2 (qcC _) fun j=>?_
 cases hl:lc j with
 | none=>exact L2.no
 | some x =>
  obtain⟨ps,ai,bi⟩:=x;refine L2.wh _ (L1.b2 (fun k hk=>⟨mkT ts,qat.1 hk,fun k' hk'=>qat.2 hk'⟩) fun t=>L1.b2 (fun k hk=>⟨_,(wW hk).1,(wW hk).2⟩) fun t=>hi.l2 ai t h fun e t1 h1=>?_)
  cases e with
  | exit id=>exact L2.no
  | ret=>exact L2.no
  | normal =>
   refine L2.b2 (qdY h1 b) fun r1 ts1=>L1.b2 (qcC _) fun j1=>qhG _ (L1.b2 (jx h1 b _) fun h2=>hi.l2 bi t1 h2 fun e t3 h3=>L2.b2 (qdY h3 b) fun r3 ts3=>L1.b2 (qcC _) fun j3=>?_)
   cases e with
   | normal=>exact L1.b2 (jx h3 b _) fun h4=>L2.ret _ _
   | exit id=>exact L1.b2 (jx h3 b _) fun h4=>L2.ret _ _
   | ret=>exact L1.b2 (jx h3 b _) fun h4=>L2.ret _ _
theorem jL(env:Tr IFn)(ho:wZ)(lc:xh){ih:wi}(hi:LB ih):LC (qai env ho lc ih):=by
 intro f vs h;cases f with
 | succ f=>exact qiq env ho hi f vs h
 | zero =>
  cases vs with
  | nil=>exact L2.no
  | cons v us =>
   cases v<;>first|exact L2.no|exact qn9 lc hi _ us h
omit [Cur] in
theorem qeZ{b:Nat}{Q:X->Tr AV->Hp->Prop}{t:Tr AV}{h:Hp}(hk:qee b Q t h):∃e h',Q e t h'∧∀Q',Q' e t h'->qee b Q' t h:=by
 obtain⟨r,ts,h1,h2,h3⟩:=jH hk;obtain⟨g1,g2⟩:=qbY h2;obtain⟨g3,g4⟩:=(qL _ _ _ _).1 g2
 have back:∀Q':X->Tr AV->Hp->Prop,qef Q' t r.pending (h.put b .dead)->qee b Q' t h:=fun Q' hq=>by
  refine h3 _ ?_;show qeb r.state (zw h b .dead (fun h'=>qef Q' t r.pending h'))
  have hp:=(qL h b .dead (fun h'=>qef Q' t r.pending h')).2 ⟨g3,hq⟩
  cases hs:r.state<;>first|exact absurd hs g1|exact hp
 cases hp:r.pending with
 | none =>
  rw[hp] at g4;exact⟨.normal,_,g4,fun Q' hq=>back Q' (by rw[hp];exact hq)⟩
 | some c =>
  rw[hp] at g4;cases c<;>first|exact (g4:False).elim|skip
  ·exact⟨.exit _,_,g4,fun Q' hq=>back Q' (by rw[hp];exact hq)⟩
  ·exact⟨.ret,_,g4,fun Q' hq=>back Q' (by rw[hp];exact hq)⟩
omit [Cur] in
theorem qjL(env:Tr IFn){ih:wi}(hi:LB ih){j:Nat}{t:Tr AV}{h:Hp}{Q:X->Tr AV->Hp->Prop}{g:AV}(hk:rfR env ih j t h Q g):∃e h',Q e t h'∧∀Q',Q' e t h'->rfR env ih j t h Q' g:=by
 cases g<;>try exact (hk:False).elim
 rename_i f first cap
 obtain⟨g3,g4⟩:=(qa _ _).1 hk;obtain⟨ts,g5,_,g7⟩:=qas t 0 1 [] _ g4;rw[qag,qx] at g5;obtain⟨v,h',q1,q2⟩:=qcU env hi _ _ _ _ g5;obtain⟨e,h'',q3,q4⟩:=qeZ q1;refine⟨e,h'',q3,fun Q' hQ=>(qa _ _).2 ⟨g3,g7 _ ?_⟩⟩
 rw[qag,qx];exact q2 _ (q4 Q' hQ)
theorem qdK(env:Tr IFn)(ho:wZ)(lc:xh):∀n,LB (fr env ho lc n)
 | 0=>fun _ _ _ _ h=>h.elim
 | n+1=>fun c Q t h hk=>by
  have ih:=qdK env ho lc n;cases c with
  | no=>exact hk.elim
  | rangeF j g ps x y =>
   obtain⟨v,g1,g2⟩:=qf t g _ hk;obtain⟨e,h',q1,q2⟩:=qjL env ih g1;exact⟨e,t,h',q1,fun Q' hQ=>g2 _ (q2 Q' hQ)⟩
  | cut x=>exact ih _ _ _ _ hk
  | skip=>exact⟨_,_,_,hk,fun _ h=>h⟩
  | exit id=>exact⟨_,_,_,hk,fun _ h=>h⟩
  | ret=>exact⟨_,_,_,hk,fun _ h=>h⟩
  | reg draw ops =>
   obtain⟨t',h',h1,h2⟩:=wE qj draw (jL env ho lc ih) ops t h _ hk;exact⟨_,_,_,h1,fun Q' hQ=>h2 (fun t h=>Q' .normal t h) hQ⟩
  | seq x y =>
   obtain⟨e,t1,h1,g1,g2⟩:=ih _ _ _ _ hk;cases e with
   | normal =>
    obtain⟨e2,t2,h2,g3,g4⟩:=ih _ _ _ _ g1;exact⟨e2,t2,h2,g3,fun Q' hQ=>g2 (fun e t h=>X.rec (motive:=fun _=>Prop) (fr env ho lc n y Q' t h) (fun id=>Q' (.exit id) t h) (Q' .ret t h) e) (g4 _ hQ)⟩
   | exit id=>exact⟨_,t1,h1,g1,fun Q' hQ=>g2 (fun e t h=>X.rec (motive:=fun _=>Prop) (fr env ho lc n y Q' t h) (fun id=>Q' (.exit id) t h) (Q' .ret t h) e) hQ⟩
   | ret=>exact⟨_,t1,h1,g1,fun Q' hQ=>g2 (fun e t h=>X.rec (motive:=fun _=>Prop) (fr env ho lc n y Q' t h) (fun id=>Q' (.exit id) t h) (Q' .ret t h) e) hQ⟩
  | cond c x y =>
   obtain⟨v,g1,g2⟩:=qf t c _ hk;obtain⟨b,g3,g4⟩:=qay v _ g1;cases b with
   | true =>
    obtain⟨e,t1,h1,g5,g6⟩:=ih _ _ _ _ g3;exact⟨e,t1,h1,g5,fun Q' hQ=>g2 (fun v=>unB v (fun b=>Bool.rec (motive:=fun _=>Prop) (fr env ho lc n y Q' t h) (fr env ho lc n x Q' t h) b)) (g4 (fun b=>Bool.rec (motive:=fun _=>Prop) (fr env ho lc n y Q' t h) (fr env ho lc n x Q' t h) b) (g6 _ hQ))⟩
   | false =>
    obtain⟨e,t1,h1,g5,g6⟩:=ih _ _ _ _ g3;exact⟨e,t1,h1,g5,fun Q' hQ=>g2 (fun v=>unB v (fun b=>Bool.rec (motive:=fun _=>Prop) (fr env ho lc n y Q' t h) (fr env ho lc n x Q' t h) b)) (g4 (fun b=>Bool.rec (motive:=fun _=>Prop) (fr env ho lc n y Q' t h) (fr env ho lc n x Q' t h) b) (g6 _ hQ))⟩
  | blk id x =>
   obtain⟨e,t1,h1,g1,g2⟩:=ih _ _ _ _ hk;cases e with
   | normal=>exact⟨_,t1,h1,g1,fun Q' hQ=>g2 (fun e t h=>X.rec (motive:=fun _=>Prop) (Q' .normal t h) (fun id'=>Bool.rec (motive:=fun _=>Prop) (Q' (.exit id') t h) (Q' .normal t h) (Nat.beq id' id)) (Q' .ret t h) e) hQ⟩
   | ret=>exact⟨_,t1,h1,g1,fun Q' hQ=>g2 (fun e t h=>X.rec (motive:=fun _=>Prop) (Q' .normal t h) (fun id'=>Bool.rec (motive:=fun _=>Prop) (Q' (.exit id') t h) (Q' .normal t h) (Nat.beq id' id)) (Q' .ret t h) e) hQ⟩
   | exit id' =>
    have g1':(Bool.rec (motive:=fun _=>Prop) (Q (.exit id') t1 h1) (Q .normal t1 h1) (Nat.beq id' id):Prop):=g1
    cases hb:Nat.beq id' id with
    | true =>
     rw[hb] at g1';refine⟨_,t1,h1,g1',fun Q' hQ=>g2 (fun e t h=>X.rec (motive:=fun _=>Prop) (Q' .normal t h) (fun id'=>Bool.rec (motive:=fun _=>Prop) (Q' (.exit id') t h) (Q' .normal t h) (Nat.beq id' id)) (Q' .ret t h) e) ?_⟩
     show (Bool.rec (motive:=fun _=>Prop) (Q' (.exit id') t1 h1) (Q' .normal t1 h1) (Nat.beq id' id):Prop)
     rw[hb];exact hQ
    | false =>
     rw[hb] at g1';refine⟨_,t1,h1,g1',fun Q' hQ=>g2 (fun e t h=>X.rec (motive:=fun _=>Prop) (Q' .normal t h) (fun id'=>Bool.rec (motive:=fun _=>Prop) (Q' (.exit id') t h) (Q' .normal t h) (Nat.beq id' id)) (Q' .ret t h) e) ?_⟩
     show (Bool.rec (motive:=fun _=>Prop) (Q' (.exit id') t1 h1) (Q' .normal t1 h1) (Nat.beq id' id):Prop)
     rw[hb];exact hQ
  | loop x =>
   obtain⟨e,t1,h1,g1,g2⟩:=ih _ _ _ _ hk;cases e with
   | normal =>
    obtain⟨e2,t2,h2,g3,g4⟩:=ih _ _ _ _ g1;exact⟨e2,t2,h2,g3,fun Q' hQ=>g2 (fun e t h=>X.rec (motive:=fun _=>Prop) (fr env ho lc n (.loop x) Q' t h) (fun id=>Q' (.exit id) t h) (Q' .ret t h) e) (g4 _ hQ)⟩
   | exit id=>exact⟨_,t1,h1,g1,fun Q' hQ=>g2 (fun e t h=>X.rec (motive:=fun _=>Prop) (fr env ho lc n (.loop x) Q' t h) (fun id=>Q' (.exit id) t h) (Q' .ret t h) e) hQ⟩
   | ret=>exact⟨_,t1,h1,g1,fun Q' hQ=>g2 (fun e t h=>X.rec (motive:=fun _=>Prop) (fr env ho lc n (.loop x) Q' t h) (fun id=>Q' (.exit id) t h) (Q' .ret t h) e) hQ⟩

def SR(P:Program)(rs:List ROp)(Q:Tr AV->Hp->Prop)(t:Tr AV)(h:Hp):Prop:=∃C,xi P σ0 C∧jz qj false C rs Q t h
def SDf(P:Program)(n fd:Nat):ICode->(X->Tr AV->Hp->Prop)->Tr AV->Hp->Prop
 | .seq (.reg _ rsA) (.seq (.reg _ rsB) (.seq (.reg _ (r0::_)) y)),Q,t,h=>SR P rsA (fun t h=>SR P rsB (fun t h=>SR P [r0] (fun t h=>qcs fd r0 t∧S P n y Q t h) t h) t h) t h
 | _,_,_,_=>False
theorem SC.mkDS{f fd:Nat}{i:IFn}{vs:List AV}{h:Hp}{k:AV->Hp->Prop}(hc:vf P f fd i=true)(hV:SDf P h.sz fd i.body (qan i.res k) (jX vs 0 .leaf) h):SC P f vs h k:=by
 unfold vf at hc;simp only[Bool.and_eq_true] at hc;obtain⟨hquiet,hc⟩:=hc;split at hc<;>try (cases hc;done)
 rename_i rsA rsB r0 rest y hbody;rw[hbody] at hV;split at hc<;>try (cases hc;done)
 rename_i fn hfn;simp only[Bool.and_eq_true,bne_iff_ne] at hc;obtain⟨⟨hname,hc⟩,hres⟩:=hc;split at hc<;>try (cases hc;done)
 rename_i iA oA iB oB iD oD c hcb;simp only[Bool.and_eq_true] at hc;obtain⟨⟨⟨hA,hB⟩,hD⟩,hcode⟩:=hc;split at hD<;>try (cases hD;done)
 rename_i o0 o1 d hl hd0;simp only[Bool.and_eq_true] at hD;obtain⟨⟨⟨⟨⟨hr0,hg0⟩,hf0⟩,hf1⟩,hdef⟩,hdst⟩:=hD;have sD:oD = #[o0,o1]:=by rw[← Array.toList_inj];exact hl
 subst sD;have hdst:o1.dst=none:=by simpa using hdst
 refine⟨trivial,fun ρ B w args r ha=>.inl ⟨⟨fn,hfn,hname,by rw[hcb];rfl⟩,?_⟩⟩
 have r00:=r
 have ht:TR σ0 ρ (jX vs 0 .leaf) (args++Array.replicate (fn.ntmps-args.size) undef):=by
  intro j v hv;rcases qaD _ _ _ _ _ hv with⟨_,h3⟩|h3
  ·simp only[Nat.sub_zero] at h3;obtain⟨v',h4,h5⟩:=ha.get h3
   have hn:j<args.size:=by
    have:=(zzS.1 h4).1;simpa using this
   refine⟨by simp;omega,?_⟩
   have:(args++Array.replicate (fn.ntmps-args.size) undef).getD j undef=v':=by
    rw[Array.getD_eq_getD_getElem?,Array.getElem?_append_left hn];rw[Array.getElem?_toList] at h4;rw[h4];rfl
   rw[this];exact h5
  ·simp at h3
 have hsize:fn.ntmps<=(args++Array.replicate (fn.ntmps-args.size) undef).size:=by simp;omega
 refine (callsIn_wide (n:=0)).1 (callsIn_of_wp_marks hfn hcb trivial ?_ rfl);obtain⟨CA,hCA,hV⟩:=hV;refine wpIn_seq (wpIn_region ?_);have hreg:=fun K hK=>qaN (ops:=oA) (nt:=fn.ntmps) (ro:=none) (K:=K) (ρ0:=ρ) (h0:=h) (w0:=w) (ds:=[]) (jV P) hCA hK oA.toList rsA 0 hA rfl _ h ρ w { tmps:=args++Array.replicate (fn.ntmps-args.size) undef,defers:=[] } hV ht hsize rfl r (Kept.refl _ _ _ _)
 rw[List.range_eq_range'];refine hreg _ ?_;intro a0 w0 t0 h0 ρ0 hq0 ht0 hs0 hd0' r0' k0';obtain⟨CB,hCB,hq0⟩:=hq0;refine wpIn_seq (wpIn_region ?_);have hreg2:=fun K hK=>qaN (ops:=oB) (nt:=fn.ntmps) (ro:=none) (K:=K) (ρ0:=ρ) (h0:=h) (w0:=w) (ds:=[]) (jV P) hCB hK oB.toList rsB 0 hB rfl _ h0 ρ0 w0 a0 hq0 ht0 hs0 hd0' r0' k0'
 rw[List.range_eq_range'];refine hreg2 _ ?_;intro a1 w1 t1 h1 ρ1 hq1 ht1 hs1 hd1 r1 k1;refine wpIn_seq (wpIn_region ?_);have l2:List.range (#[o0,o1]:Array Oper).size=[0,1]:=rfl;have g0:(#[o0,o1]:Array Oper)[0]?=some o0:=rfl;have g1:(#[o0,o1]:Array Oper)[1]?=some o1:=rfl;rw[l2];simp only[wpOpsIn,g0,wO hf0,if_true];obtain⟨dst,rk,g⟩:=r0;simp only[qdH,Bool.and_eq_true] at hr0;obtain⟨⟨hc1,hc2⟩,hc3⟩:=hr0;have hgn:g=none:=by simpa using hg0
 subst hgn;obtain⟨CD,hCD,hq1⟩:=hq1;refine qhJ (draw:=false) (jV P) hCD r1 ht1 hc3 hq1 _ _ ?_;intro v v' h2 ρ2 w2 p1 p2 r2 k2;obtain⟨t2,q1,ht2⟩:=(ht1.mono (k2.mono r1.dom)).put hs1 hc1 p2 p1;obtain⟨⟨d',cs,q3,q4⟩,q2⟩:=q1;rw[hd0] at q3;cases q3;obtain⟨z1,z2⟩:=ht2 d _ q4;obtain⟨a',c',z3,z4,z5⟩:=z2.un_fn
 have ha':a' = #[]:=by
  generalize hL:a'.toList=L at z3;cases z3;rw[← Array.toList_inj,hL]
 subst ha';generalize hA1:a1.put o0.dst v'=A1 at ht2 z1 z5;have hsA:fn.ntmps<=A1.tmps.size:=by rw[← hA1,zO];exact hs1
 have hdA:A1.defers=[]:=by rw[← hA1,zN];exact hd1
 have hev:A1.eval (.tmp d) = .func (.func fd) #[] c':=z5;change (if Region.wanted o1 (yielded #[o0,o1] A1.tmps)=true then o1.wpIn (Fr none) 0 P A1 w2 _ _ else _)
 rw[if_pos (wO hf1 _)];refine⟨fun _ _=>trivial,?_⟩
 have hsem:(o1.semAt (Fr none).round A1.eval).run P w2 = .ok (.defer { target:=.fn (.func fd) c',args:=#[] }) w2:=qe7 hdef hev w2;rw[hsem,Oper.uponIn_defer,hdst];have hle:h.sz<=h2.sz:=Nat.le_trans k1.szle k2.szle;have hw:=q2 fn.ntmps c hcode hle none (.inl rfl) ρ2 B w2 { A1 with defers:={ target:=.fn (.func fd) c',args:=#[] }::A1.defers } ht2 hsA r2;refine wpIn_mono hw ?_;rintro e a w' ⟨x,t',h',ρ',rs,hx,hq,ht',_,hd,hm,hr',hkept⟩;have hkk:Kep h.sz ρ B h w ρ' h' w':=((k1.trans k2).kep (Nat.le_refl _)).trans hkept;have hww:w.heap.size<=w2.heap.size:=(k1.trans k2).wle
 have hcod:(callFunc fd (#[]++c')).run P=fun w=>.ok (.enter fd (#[]++c')) w:=by
  funext w;have hq:=hquiet;unfold qal at hq;split at hq<;>try (cases hq;done)
  rename_i fn' hfn';simp only[Bool.and_eq_true,bne_iff_ne] at hq;obtain⟨⟨q5,_⟩,q6⟩:=hq;split at q6<;>try (cases q6;done)
  rename_i cc hcc;exact xT hfn' q5 (by rw[hcc];rfl) _ w
 have key:∀(k':AV->Hp->Prop),xb t' h' i.res (fun vs=>k' (zM vs) h')->LeavesInM (Fr none) 0 P fn a.tmps (fun e w'=>∃v v' h' ρ',e = .returned v'∧k' v h'∧VR σ0 ρ' v v'∧Rel σ0 ρ' B h' w'∧Kept ρ B h w ρ' h' w') a.defers .returning w':=by
  intro k' hq';rw[hd,hdA];have hB:Rel σ0 ρ' B h' w':=hr'.lessB fun k hk=>.inl hk
  refine qbA ?_ rs (fun r hr=>hm.at' r hr) hm.nodup (fun r hr hb=>absurd (r00.base r hb) (Nat.not_lt.2 (Nat.le_trans hww (hm.new r hr)))) hB (hkk.kept r00.dn.1)
  intro w3 hr3 hk3;refine⟨by simp,.inr ⟨fun hh=>(by cases hh),.func fd,c',fd,#[]++c',rfl,?_,fun _ _=>trivial,?_⟩⟩
  ·show (callFunc fd (#[]++c')).run P w3=_;rw[hcod]
  ·refine (qhE ρ hquiet (#[]++c') w3).mono ?_;rintro e u' w4 ⟨rfl,rfl,rfl⟩;obtain⟨v,v',e1,e2,e3⟩:=qbM hr3 ht' hres hq';exact⟨v',e3,v,v',h',ρ',rfl,e1,e2,hr3,hk3⟩
 cases hx with
 | exit id=>exact hq.elim
 | normal=>exact key k hq
 | ret=>exact key k hq
def qT(lc:xh):ICode->Prop
 | .seq x y=>qT lc x∧qT lc y
 | .cond _ x y=>qT lc x∧qT lc y
 | .blk _ x=>qT lc x
 | .loop x=>qT lc x
 | .cut x=>qT lc x
 | .rangeF j _ ps x y=>lc j=some (ps,x,y)∧xy x=true∧xy y=true
 | _=>True
omit [Cur] in
theorem qT.of_no{lc:xh}:∀{c:ICode},xy c=true->qT lc c
 | .seq x y,h=>by
  have h:=(Bool.and_eq_true _ _ ▸ h:xy x=true∧xy y=true);exact⟨qT.of_no h.1,qT.of_no h.2⟩
 | .cond _ x y,h=>by
  have h:=(Bool.and_eq_true _ _ ▸ h:xy x=true∧xy y=true);exact⟨qT.of_no h.1,qT.of_no h.2⟩
 | .blk _ x,h=>qT.of_no (c:=x) h
 | .loop x,h=>qT.of_no (c:=x) h
 | .cut x,h=>qT.of_no (c:=x) h
 | .rangeF _ _ _ _ _,h=>by cases h
 | .skip,_=>trivial
 | .reg _ _,_=>trivial
 | .exit _,_=>trivial
 | .ret,_=>trivial
 | .no,_=>trivial
structure SitesOk (P:Program) (env:Tr IFn) (lc:xh):Prop where
 into:∀j ps x y r,lc j=some (ps,x,y)->LoopOk P r ps x y->Cur.ok j r
 out:∀j ps x y r,lc j=some (ps,x,y)->Cur.ok j r->LoopOk P r ps x y
 flat:∀j ps x y,lc j=some (ps,x,y)->xy x=true∧xy y=true
 node:∀f i,env.get f=some i->qT lc i.body
omit [Cur] in
theorem qeU{f fd:Nat}{i:IFn}(hc:vf P f fd i=true):qbn P f:=by
 unfold vf at hc;simp only[Bool.and_eq_true] at hc;obtain⟨_,hc⟩:=hc;split at hc<;>try (cases hc;done)
 split at hc<;>try (cases hc;done)
 rename_i fn hfn;simp only[Bool.and_eq_true,bne_iff_ne] at hc;obtain⟨⟨hname,hc⟩,_⟩:=hc;split at hc<;>try (cases hc;done)
 rename_i hcb;exact⟨fn,hfn,hname,by rw[hcb];rfl⟩
def qbX(rsA rsB:List ROp)(d fd:Nat)(caps:List O)(y:ICode):ICode:=.seq (.reg false rsA) (.seq (.reg false rsB) (.seq (.reg false [⟨some d,.op (.mkF fd [] caps),none⟩]) y))
def wj(P:Program)(env:Tr IFn):Prop:=∀f i,env.get f=some i->zp P f i=true∨∃rsA rsB d fd caps y,i.body=qbX rsA rsB d fd caps y∧vf P f fd i=true
structure RunOk (P:Program) (lc:xh) (ih:wi):Prop where
 s:∀c,qT lc c->∀Q t h,ih c Q t h->∀n,S P n c Q t h
 d:∀rsA rsB d fd caps y,qT lc y->∀Q t h,ih (qbX rsA rsB d fd caps y) Q t h->∀n,SDf P n fd (qbX rsA rsB d fd caps y) Q t h
theorem va{env:Tr IFn}{lc:xh}(he:wj P env)(hs:SitesOk P env lc){ih:wi}(hi:RunOk P lc ih){f:Nat}{vs:List AV}{h:Hp}{k:AV->Hp->Prop}(hk:qbi env ih f vs h k):SC P f vs h k:=by
 obtain⟨fn,g1,g2⟩:=(Tr.getK_iff _ _ _).1 hk;have hn:=hs.node f _ g1;cases fn with
 | mk res body =>
  have g3:=qbW.1 g2;rcases he f _ g1 with hc|⟨rsA,rsB,d,fd,caps,y,hb,hc⟩
  ·exact SC.mk hc (hi.s _ hn _ _ _ g3 h.sz)
  ·have hb:body=qbX rsA rsB d fd caps y:=hb;subst hb;exact SC.mkDS hc (hi.d _ _ _ _ _ _ hn.2.2.2 _ _ _ g3 h.sz)
theorem xF{env:Tr IFn}{ho:wZ}{lc:xh}(he:wj P env)(hh:vd P ho)(hs:SitesOk P env lc){ih:wi}(hi:RunOk P lc ih):xi P σ0 (qai env ho lc ih):=by
 refine⟨fun f vs h k hk=>?_,fun b us h k hk=>?_⟩
 ·have hk':qbh env ho ih f vs h k:=hk;unfold qbh at hk';cases hv:ho f vs with
  | none=>rw[hv] at hk';exact va he hs hi hk'
  | some v=>rw[hv] at hk';exact hh f vs v hv h k hk'
 ·have hk':ylR lc ih b us h k:=hk;obtain⟨r,ts,hg,h2,_⟩:=jH hk';obtain⟨j,hj,h2⟩:=wS h2;obtain⟨ps,ai,bi,hl,h2⟩:=qfB h2;obtain⟨hb,h2⟩:=(qa _ _).1 h2;simp only[Bool.and_eq_true] at hb;obtain⟨b1,b2,b3⟩:=hb;rw[jg] at b1 b2;have b1:=of_decide_eq_true b1;have b2:=of_decide_eq_true b2;have b3:=Nat.eq_of_beq_eq_true b3;have h2:=(wW (qat.1 h2)).1;obtain⟨fa,fb⟩:=hs.flat j ps ai bi hl;refine SY.mkL hg (ps:=ps) (ai:=ai) (bi:=bi) (fun r' hl'=>?_) b1 b2 b3 ?_
  ·rcases hl' with⟨_,h0⟩|⟨j',e1,e2,_,_⟩
   ·exact absurd hj (h0 j)
   ·rw[hj] at e1;cases e1;exact hs.out j ps ai bi r' hl e2
  ·refine (hi.s ai (qT.of_no fa) _ _ _ h2 h.sz).mono fun e t1 h1 hq=>?_
   cases e with
   | exit id=>exact hq
   | ret=>exact hq
   | normal =>
    obtain⟨r1,ts1,g1,hq,_⟩:=jH hq;obtain⟨j1,hj1,hq⟩:=wS hq;obtain⟨hr1,hq⟩:=qdW hq;obtain⟨_,hq⟩:=(qL _ _ _ _).1 hq;refine⟨r1,ts1,tpl j1 .busy r1.pending,g1,hr1,fun q hlq=>?_,?_⟩
    ·have e:tpl j1 .busy r1.pending=tpl j1 .busy q.pending:=by rw[hlq.pending]
     rw[e];exact xR.tpl hj1 hlq .busy q.pending
    ·refine (hi.s bi (qT.of_no fb) _ _ _ hq h.sz).mono fun e t3 h3 hq=>?_
     obtain⟨r3,ts3,g3,hq,_⟩:=jH hq;obtain⟨j3,hj3,hq⟩:=wS hq;cases e with
     | normal =>
      obtain⟨_,hq⟩:=(qL _ _ _ _).1 hq;exact⟨r3,ts3,_,g3,fun q hlq=>xR.tpl hj3 hlq .ready none,hq⟩
     | exit id =>
      obtain⟨_,hq⟩:=(qL _ _ _ _).1 hq;exact⟨r3,ts3,_,g3,fun q hlq=>xR.tpl hj3 hlq .done (some (.exit id)),hq⟩
     | ret =>
      obtain⟨_,hq⟩:=(qL _ _ _ _).1 hq;exact⟨r3,ts3,_,g3,fun q hlq=>xR.tpl hj3 hlq .done (some .ret),hq⟩
theorem qoq{env:Tr IFn}{ho:wZ}{lc:xh}(he:wj P env)(hh:vd P ho)(hs:SitesOk P env lc):∀m,(∀m',m'<m->RunOk P lc (fr env ho lc m'))->∀rsA rsB d fd caps y,qT lc y->∀Q t h,fr env ho lc m (qbX rsA rsB d fd caps y) Q t h->∀n,SDf P n fd (qbX rsA rsB d fd caps y) Q t h
 | 0,_,_,_,_,_,_,_,_,_,_,_,h=>fun _=>h.elim
 | 1,_,_,_,_,_,_,_,_,_,_,_,h=>fun _=>h.elim
 | 2,_,_,_,_,_,_,_,_,_,_,_,h=>fun _=>by
  have h':jz qj false _ _ (fun t h=>False) _ _:=h
  obtain⟨_,_,hf,_⟩:=wE qj false (jL env ho lc (qdK env ho lc 0)) _ _ _ _ h';exact hf.elim
 | 3,_,_,_,_,_,_,_,_,_,_,_,h=>fun _=>by
  have h':jz qj false _ _ (fun t h=>jz qj false _ _ (fun t h=>False) t h) _ _:=h
  obtain⟨_,_,hf,_⟩:=wE qj false (jL env ho lc (qdK env ho lc 1)) _ _ _ _ h';obtain⟨_,_,hf,_⟩:=wE qj false (jL env ho lc (qdK env ho lc 0)) _ _ _ _ hf;exact hf.elim
 | m+4,hr,rsA,rsB,d,fd,caps,y,hy,Q,t,h,hq=>fun n=>by
  have hq:jz qj false (qai env ho lc (fr env ho lc (m+2))) rsA (fun t h=>jz qj false (qai env ho lc (fr env ho lc (m+1))) rsB (fun t h=>jz qj false (qai env ho lc (fr env ho lc m)) [⟨some d,.op (.mkF fd [] caps),none⟩] (fun t h=>fr env ho lc (m+1) y Q t h) t h) t h) t h:=hq
  obtain⟨t1,h1,q1,b1⟩:=wE qj false (jL env ho lc (qdK env ho lc (m+2))) _ _ _ _ hq;obtain⟨t2,h2,q2,b2⟩:=wE qj false (jL env ho lc (qdK env ho lc (m+1))) _ _ _ _ q1;have sA:=xF he hh hs (hr (m+2) (by omega));have sB:=xF he hh hs (hr (m+1) (by omega));have sD:=xF he hh hs (hr m (by omega));refine⟨_,sA,b1 _ ⟨_,sB,b2 _ ⟨_,sD,?_⟩⟩⟩;have q3:zD t2 caps (fun cs=>zC t2 (some d) (.fn fd [] cs) (fun t'=>fr env ho lc (m+1) y Q t' h2)):=q2
  obtain⟨cs,q4,b4⟩:=wt _ _ _ q3;show zD t2 caps (fun cs=>zC t2 (some d) (.fn fd [] cs) (fun t'=>qcs fd _ t'∧S P n y Q t' h2))
  refine b4 _ ?_;have q5:=(Tr.setK_iff (t:=t2) (n:=d) (x:=AV.fn fd [] cs) (k:=fun t'=>fr env ho lc (m+1) y Q t' h2)).1 q4
  refine (Tr.setK_iff (t:=t2) (n:=d) (x:=AV.fn fd [] cs) (k:=fun t'=>qcs fd _ t'∧S P n y Q t' h2)).2 ⟨⟨d,cs,rfl,by simp[Tr.get_set]⟩,?_⟩
  exact (hr (m+1) (by omega)).s y hy _ _ _ q5 n
theorem qc7{env:Tr IFn}{ho:wZ}{lc:xh}(he:wj P env)(hh:vd P ho)(hs:SitesOk P env lc):∀m,(∀m',m'<=m->RunOk P lc (fr env ho lc m'))∧(∀x,qT lc x->∀Q t h,fr env ho lc m (.loop x) Q t h->∀n,SL P n x Q t h)
 | 0 => ⟨fun m' hm => by obtain rfl:m'=0:=by omega
                         exact⟨fun _ _ _ _ _ h=>h.elim,fun _ _ _ _ _ _ _ _ _ _ h=>h.elim⟩,fun _ _ _ _ _ h=>h.elim⟩
 | m+1=>by
  obtain⟨ihA,ihl⟩:=qc7 he hh hs m;have ihR:=ihA m (Nat.le_refl _);have ih:=ihR.s
  have loop:∀x,qT lc x->∀Q t h,fr env ho lc (m+1) (.loop x) Q t h->∀n,SL P n x Q t h:=by
   intro x hx Q t h hv n;have hv':fr env ho lc m x (fun e t h=>onX e (fr env ho lc m (.loop x) Q t h) (fun id=>Q (.exit id) t h) (Q .ret t h)) t h:=hv
   refine SL.of_S ((ih _ hx _ _ _ hv' n).mono ?_);intro e t h hq;cases e with
   | normal=>exact ihl x hx Q t h hq n
   | exit id=>exact hq
   | ret=>exact hq
  refine⟨fun m' hm=>?_,loop⟩
  rcases Nat.lt_or_eq_of_le hm with hm|rfl
  ·exact ihA m' (by omega)
  refine⟨fun c hc Q t h hv n=>?_,qoq he hh hs (m+1) (fun m' hm=>ihA m' (by omega))⟩
  cases c with
  | no=>exact hv.elim
  | rangeF j g ps x y =>
   obtain⟨hl,hx,hy⟩:=hc;obtain⟨v,g1,g2⟩:=qf t g _ hv;cases v<;>try exact (g1:False).elim
   rename_i f first cap
   obtain⟨g3,g4⟩:=(qa _ _).1 g1;rw[jg] at g3;obtain⟨ts,g5,g6,_⟩:=qas t 0 1 [] _ g4;rw[qag,qx] at g5;refine S.rangeFL (ts:=ts) (by simpa using g3) (fun p hp=>?_) ⟨hx,hy⟩ (g2 _ ?_)
   ·rcases g6 p hp with hp|⟨n,e1,e2⟩
    ·cases hp
    ·rw[e1];simpa using e2
   ·obtain⟨fn,e1,e2⟩:=(Tr.getK_iff _ _ _).1 g5;refine⟨(he f _ e1).elim qgg (fun⟨_,_,_,_,_,_,_,hc⟩=>qeU hc),fun r0 hr0 hp0 hlo=>⟨tpl j .ready none,.inr ⟨j,rfl,hs.into j ps x y r0 hl hlo,hr0,hp0⟩,?_⟩⟩
    refine (va he hs ihR g5).mono fun _ h' hq=>?_
    obtain⟨r,ts',q1,q2,_⟩:=jH hq;obtain⟨q3,q4⟩:=qbY q2;obtain⟨_,q5⟩:=(qL _ _ _ _).1 q4;refine⟨r,ts',q1,q3,?_⟩;cases hp:r.pending with
    | none=>rw[hp] at q5;exact q5
    | some c=>rw[hp] at q5;cases c<;>exact q5
  | cut x =>
   have hv':fr env ho lc m x Q t h:=hv;exact zq (c:=.cut x) (ih x hc _ _ _ hv' n)
  | skip=>exact zq (c:=.skip) hv
  | exit id=>exact zq (c:=.exit id) hv
  | ret=>exact zq (c:=.ret) hv
  | reg d ops=>exact S.reg (jL env ho lc (qdK env ho lc m)) (xF he hh hs ihR) hv
  | seq x y =>
   have hv':fr env ho lc m x (fun e t h=>onX e (fr env ho lc m y Q t h) (fun id=>Q (.exit id) t h) (Q .ret t h)) t h:=hv
   refine S.seq ((ih _ hc.1 _ _ _ hv' n).mono ?_);intro e t h hq;cases e with
   | normal=>exact ih y hc.2 Q t h hq n
   | exit id=>exact hq
   | ret=>exact hq
  | cond c x y =>
   obtain⟨v,g1,g2⟩:=qf t c _ hv;refine S.cond (g2 _ ?_);obtain⟨b,g3,g4⟩:=qay v _ g1;refine g4 _ ?_;cases b with
   | true=>exact ih _ hc.1 _ _ _ g3 n
   | false=>exact ih _ hc.2 _ _ _ g3 n
  | blk id x =>
   have hv':fr env ho lc m x (fun e t h=>X.rec (motive:=fun _=>Prop) (Q .normal t h) (fun id'=>Bool.rec (motive:=fun _=>Prop) (Q (.exit id') t h) (Q .normal t h) (Nat.beq id' id)) (Q .ret t h) e) t h:=hv
   refine S.blk ((ih x hc _ _ _ hv' n).mono ?_);intro e t h hq;cases e with
   | normal=>exact hq
   | ret=>exact hq
   | exit i =>
    have hq':(Bool.rec (motive:=fun _=>Prop) (Q (.exit i) t h) (Q .normal t h) (Nat.beq i id):Prop):=hq
    show (if i=id then _ else _)
    by_cases hi:i=id
    ·subst hi;rw[Nat.beq_refl] at hq';rw[if_pos rfl];exact hq'
    ·rw[if_neg hi];cases hb:Nat.beq i id with
     | true=>exact absurd (Nat.eq_of_beq_eq_true hb) hi
     | false=>rw[hb] at hq';exact hq'
  | loop x=>exact S.loop (loop x hc Q t h hv n)
theorem SC.runR{env:Tr IFn}{ho:wZ}{lc:xh}(he:wj P env)(hh:vd P ho)(hs:SitesOk P env lc)(m:Nat){f:Nat}{vs:List AV}{h:Hp}{k:AV->Hp->Prop}(hk:qai env ho lc (fr env ho lc m) (Nat.succ f) vs h k):SC P f vs h k:=(xF he hh hs ((qc7 he hh hs m).1 m (Nat.le_refl _))).1 f vs h k hk
theorem qp.runR{env:Tr IFn}{ho:wZ}{lc:xh}(he:wj P env)(hh:vd P ho)(hs:SitesOk P env lc)(m:Nat){f:Nat}{vs:List AV}{v:AV}(hcl:qM vs=true)(hk:qai env ho lc (fr env ho lc m) (Nat.succ f) vs H0 (fun v' h'=>Frz h' v' v)):qp P f vs v:=qp.of_SC hcl (SC.runR he hh hs m hk)
end Go.Kc
end
section
namespace Go.Kc
@[reducible] def qni (P:Program) (lc:xh):Cur:=⟨fun j r=>∃ps x y,lc j=some (ps,x,y)∧LoopOk P r ps x y,fun _ _ ⟨ps,x,y,h1,h2⟩=>⟨ps,x,y,h1,⟨h2.params,h2.code,h2.flat,h2.real⟩⟩⟩
inductive AllT (p:Nat->IFn->Bool):Nat->Nat->Tr IFn->Prop where
 | leaf (a b:Nat):AllT p a b .leaf
 | no (a b:Nat) {l r:Tr IFn}:AllT p (2*a) (a+b) l->AllT p (2*a) (2*a+b) r->AllT p a b (.node none l r)
 | fn (a b:Nat) {i:IFn} {l r:Tr IFn}:p b i=true->AllT p (2*a) (a+b) l->AllT p (2*a) (2*a+b) r->AllT p a b (.node (some i) l r)

theorem AllT.get{p:Nat->IFn->Bool}{a b:Nat}{t:Tr IFn}(h:AllT p a b t):∀n i,t.get n=some i->p (a*n+b) i=true:=by
 induction h with
 | leaf=>intro n i h;simp at h
 | no a b hl hr ihl ihr =>
  intro n i h;cases n with
  | zero=>rw[Tr.get_node] at h;cases h
  | succ m =>
   rcases Nat.mod_two_eq_zero_or_one m with h0|h0
   ·obtain⟨j,rfl⟩:∃j,m=2*j:=⟨m / 2,by omega⟩
    rw[Tr.get_node] at h;simp only[h0,if_true,Nat.mul_div_cancel_left j (Nat.zero_lt_two)] at h;have:=ihl j i h;rwa [show 2*a*j+(a+b)=a*(2*j+1)+b from by rw[Nat.mul_add,Nat.mul_one,← Nat.mul_assoc,Nat.mul_comm a 2];omega] at this
   ·obtain⟨j,rfl⟩:∃j,m=2*j+1:=⟨m / 2,by omega⟩
    rw[Tr.get_node] at h;simp only[h0,Nat.one_ne_zero,if_false,show (2*j+1) / 2=j from by omega] at h
    have:=ihr j i h;rwa [show 2*a*j+(2*a+b)=a*(2*j+1+1)+b from by rw[Nat.mul_add,Nat.mul_add,Nat.mul_one,← Nat.mul_assoc,Nat.mul_comm a 2];omega] at this
 | fn a b hc hl hr ihl ihr =>
  intro n i h;cases n with
  | zero=>rw[Tr.get_node] at h;cases h;simpa using hc
  | succ m =>
   rcases Nat.mod_two_eq_zero_or_one m with h0|h0
   ·obtain⟨j,rfl⟩:∃j,m=2*j:=⟨m / 2,by omega⟩
    rw[Tr.get_node] at h;simp only[h0,if_true,Nat.mul_div_cancel_left j (Nat.zero_lt_two)] at h;have:=ihl j i h;rwa [show 2*a*j+(a+b)=a*(2*j+1)+b from by rw[Nat.mul_add,Nat.mul_one,← Nat.mul_assoc,Nat.mul_comm a 2];omega] at this
   ·obtain⟨j,rfl⟩:∃j,m=2*j+1:=⟨m / 2,by omega⟩
    rw[Tr.get_node] at h;simp only[h0,Nat.one_ne_zero,if_false,show (2*j+1) / 2=j from by omega] at h
    have:=ihr j i h;rwa [show 2*a*j+(2*a+b)=a*(2*j+1+1)+b from by rw[Nat.mul_add,Nat.mul_add,Nat.mul_one,← Nat.mul_assoc,Nat.mul_comm a 2];omega] at this

noncomputable def qdx(p:Nat->IFn->Bool):Tr IFn->Nat->Nat->Bool:=fun t=>Tr.rec (motive:=fun _=>Nat->Nat->Bool) (fun _ _=>true) (fun v _ _ il ir a b=>(match v with|none=>true|some i=>p b i)&&(il (2*a) (a+b)&&ir (2*a) (2*a+b))) t
theorem wH{p:Nat->IFn->Bool}:∀(t:Tr IFn) (a b:Nat),qdx p t a b=true->AllT p a b t
 | .leaf,a,b,_=>.leaf a b
 | .node none l r,a,b,h=>by
  have h':(true&&(qdx p l (2*a) (a+b)&&qdx p r (2*a) (2*a+b)))=true:=h;simp only[Bool.and_eq_true] at h';exact .no a b (wH l _ _ h'.2.1) (wH r _ _ h'.2.2)
 | .node (some i) l r,a,b,h=>by
  have h':(p b i&&(qdx p l (2*a) (a+b)&&qdx p r (2*a) (2*a+b)))=true:=h;simp only[Bool.and_eq_true] at h';exact .fn a b h'.1 (wH l _ _ h'.2.1) (wH r _ _ h'.2.2)
def qeu(l:List (List Nat×ICode×ICode)):xh:=fun j=>l[j]?
theorem qod{P:Program}{env:Tr IFn}{l:List (List Nat×ICode×ICode)}{L:List Nat}(hflat:(l.all fun x=>xy x.2.1&&xy x.2.2)=true)(hn:qdx (fun n i=>xy i.body||L.any (Nat.beq n)) env 1 0=true)
  (hL:∀f ∈ L,∀i,env.get f=some i->qT (qeu l) i.body):@SitesOk (qni P (qeu l)) P env (qeu l):=by
 letI:=qni P (qeu l)
 refine⟨fun j ps x y r h1 h2=>⟨ps,x,y,h1,h2⟩,fun j ps x y r h1 ⟨ps',x',y',h2,h3⟩=>?_,fun j ps x y h=>?_,fun f i hg=>?_⟩
 ·rw[h1] at h2;cases h2;exact h3
 ·have:=List.all_eq_true.1 hflat _ (zzM h);simpa using this
 ·have h:=(wH env 1 0 hn).get f i hg;rw[Nat.one_mul] at h;rcases (Bool.or_eq_true _ _ ▸ h:xy i.body=true∨L.any (Nat.beq (f+0))=true) with h|h
  ·exact qT.of_no h
  ·obtain⟨g,hg1,hg2⟩:=List.any_eq_true.1 h;have:=Nat.eq_of_beq_eq_true hg2;exact hL f (by have e:f=g:=this;rw[e];exact hg1) i hg
def qd2(fd:Nat)(i:IFn):Bool:=match i.body with
 | .seq (.reg false _) (.seq (.reg false _) (.seq (.reg false [⟨some _,.op (.mkF g [] _),none⟩]) _))=>Nat.beq g fd
 | _=>false
theorem qol{P:Program}{env:Tr IFn}{D:List (Nat×Nat)}(h:qdx (fun n i=>zp P n i||D.any fun p=>Nat.beq p.1 n&&(qd2 p.2 i&&vf P n p.2 i)) env 1 0=true):wj P env:=by
 intro f i hg;have h:=(wH env 1 0 h).get f i hg;rw[Nat.one_mul,Nat.add_zero] at h;rcases (Bool.or_eq_true _ _ ▸ h:zp P f i=true∨(D.any fun p=>Nat.beq p.1 f&&(qd2 p.2 i&&vf P f p.2 i))=true) with h|h
 ·exact .inl h
 ·obtain⟨p,_,hp⟩:=List.any_eq_true.1 h;simp only[Bool.and_eq_true] at hp;obtain⟨_,h1,h2⟩:=hp;refine .inr ?_;unfold qd2 at h1;split at h1<;>try (cases h1;done)
  rename_i rsA rsB d g caps y hb;have e:=Nat.eq_of_beq_eq_true h1;rw[e] at hb;exact⟨rsA,rsB,d,p.2,caps,y,hb,h2⟩
end Go.Kc
end
section
namespace Go.Kc
variable [Cur]
variable {P:Program}
mutual
noncomputable def lkA:AV->AV->Bool
 | .b x,v=>match v with | .b y=>(x&&y)||(!x && !y)|_=>false
 | .i k n,v=>match v with | .i k' m=>Nat.beq (kOf k) (kOf k')&&qi1 n m|_=>false
 | .s x,v=>match v with | .s y=>eqS x y|_=>false
 | .nils,v=>match v with | .nils=>true|_=>false
 | .nilp,v=>match v with | .nilp=>true|_=>false
 | .nilf,v=>match v with | .nilf=>true|_=>false
 | .nili,v=>match v with | .nili=>true|_=>false
 | .nilm,v=>match v with | .nilm=>true|_=>false
 | .agg cs',v=>match v with | .agg cs=>qbC cs' cs|_=>false
 | .tup cs',v=>match v with | .tup cs=>qbC cs' cs|_=>false
 | .fz n cs',v=>match v with | .fz m cs=>Nat.beq n m&&qbC cs' cs|_=>false
 | _,_=>false
noncomputable def qbC:List AV->List AV->Bool
 | [],vs=>vs.isEmpty
 | v'::vs',vs=>match vs with|v::vs=>lkA v' v&&qbC vs' vs | []=>false
end
mutual
theorem qln:∀(v' v:AV),lkA v' v=true->v'=v
 | .b x,v,hb=>by
  unfold lkA at hb;split at hb<;>first|(cases hb;done)|skip
  rename_i y;have:x=y:=by cases x<;>cases y<;>first|rfl|cases hb
  rw[this]
 | .i k n,v,hb=>by
  unfold lkA at hb;split at hb<;>first|(cases hb;done)|skip
  simp only[Bool.and_eq_true] at hb;rw[qcw hb.1,qcv hb.2]
 | .s x,v,hb=>by
  unfold lkA at hb;split at hb<;>first|(cases hb;done)|skip
  rw[qco hb]
 | .nils,v,hb=>by unfold lkA at hb;split at hb<;>first|(cases hb;done)|rfl
 | .nilp,v,hb=>by unfold lkA at hb;split at hb<;>first|(cases hb;done)|rfl
 | .nilf,v,hb=>by unfold lkA at hb;split at hb<;>first|(cases hb;done)|rfl
 | .nili,v,hb=>by unfold lkA at hb;split at hb<;>first|(cases hb;done)|rfl
 | .nilm,v,hb=>by unfold lkA at hb;split at hb<;>first|(cases hb;done)|rfl
 | .agg cs',v,hb=>by
  unfold lkA at hb;split at hb<;>first|(cases hb;done)|skip
  rw[wR cs' _ hb]
 | .tup cs',v,hb=>by
  unfold lkA at hb;split at hb<;>first|(cases hb;done)|skip
  rw[wR cs' _ hb]
 | .fz n cs',v,hb=>by
  unfold lkA at hb;split at hb<;>first|(cases hb;done)|skip
  simp only[Bool.and_eq_true] at hb;rw[Nat.eq_of_beq_eq_true hb.1,wR cs' _ hb.2]
 | .undef,v,hb=>by unfold lkA at hb;cases hb
 | .ptr _ _,v,hb=>by unfold lkA at hb;cases hb
 | .sl _ _ _ _ _,v,hb=>by unfold lkA at hb;cases hb
 | .fn _ _ _,v,hb=>by unfold lkA at hb;cases hb
 | .ifc _ _,v,hb=>by unfold lkA at hb;cases hb
 | .map _,v,hb=>by unfold lkA at hb;cases hb
 | .sym _,v,hb=>by unfold lkA at hb;cases hb
 | .pf _ _,v,hb=>by unfold lkA at hb;cases hb
 | .e0,v,hb=>by unfold lkA at hb;cases hb
 | .own _ _,v,hb=>by unfold lkA at hb;cases hb
 | .nz,v,hb=>by unfold lkA at hb;cases hb
 | .yl _,v,hb=>by unfold lkA at hb;cases hb
 | .lp _,v,hb=>by unfold lkA at hb;cases hb
theorem wR:∀(vs' vs:List AV),qbC vs' vs=true->vs'=vs
 | [],vs,hb=>by
  unfold qbC at hb;have:vs=[]:=by simpa using hb
  rw[this]
 | v'::vs',vs,hb=>by
  unfold qbC at hb;split at hb<;>first|(cases hb;done)|skip
  simp only[Bool.and_eq_true] at hb;rw[qln v' _ hb.1,wR vs' _ hb.2]
end
mutual
noncomputable def xA(h:Hp):AV->AV->Bool
 | .b x,v=>match v with | .b y=>(x&&y)||(!x && !y)|_=>false
 | .i k n,v=>match v with | .i k' m=>Nat.beq (kOf k) (kOf k')&&qi1 n m|_=>false
 | .s x,v=>match v with | .s y=>eqS x y|_=>false
 | .nils,v=>match v with | .nils=>true|_=>false
 | .nilp,v=>match v with | .nilp=>true|_=>false
 | .nilf,v=>match v with | .nilf=>true|_=>false
 | .nili,v=>match v with | .nili=>true|_=>false
 | .nilm,v=>match v with | .nilm=>true|_=>false
 | .agg cs',v=>match v with | .agg cs=>qaU h cs' cs|_=>false
 | .tup cs',v=>match v with | .tup cs=>qaU h cs' cs|_=>false
 | .fz n cs',v=>match v with
  | .nils=>Nat.beq n 0&&cs'.isEmpty
  | .fz m cs=>Nat.beq n m&&qbC cs' cs
  | .sl b o m c _=>Nat.beq n m&&Nat.ble m c && !(Nat.beq c 0)&&(match h.tr.get b with|some (.cells _ true _ cs)=>Nat.ble (o+cs'.length) cs.length&&qaU h cs' ((cs.drop o).take cs'.length)|_=>false)
  | .own b m=>Nat.beq n m&&(match h.tr.get b with|some (.cells _ true _ ys)=>(!(Nat.beq m 0)||ys.isEmpty)&&qaU h cs' ys|_=>false)
  | _=>false
 | _,_=>false
noncomputable def qaU(h:Hp):List AV->List AV->Bool
 | [],vs=>vs.isEmpty
 | v'::vs',vs=>match vs with|v::vs=>xA h v' v&&qaU h vs' vs | []=>false
end
mutual
theorem qei{h:Hp}:∀(v' v:AV),xA h v' v=true->Frz h v v'
 | .b x,v,hb=>by
  unfold xA at hb;split at hb<;>first|(cases hb;done)|skip
  rename_i y;have:y=x:=by cases x<;>cases y<;>first|rfl|cases hb
  subst this;exact .b _
 | .i k n,v,hb=>by
  unfold xA at hb;split at hb<;>first|(cases hb;done)|skip
  simp only[Bool.and_eq_true] at hb;obtain rfl:=qcw hb.1;obtain rfl:=qcv hb.2;exact .i _ _
 | .s x,v,hb=>by
  unfold xA at hb;split at hb<;>first|(cases hb;done)|skip
  obtain rfl:=qco hb;exact .s _
 | .nils,v,hb=>by unfold xA at hb;split at hb<;>first|(cases hb;done)|exact .nils
 | .nilp,v,hb=>by unfold xA at hb;split at hb<;>first|(cases hb;done)|exact .nilp
 | .nilf,v,hb=>by unfold xA at hb;split at hb<;>first|(cases hb;done)|exact .nilf
 | .nili,v,hb=>by unfold xA at hb;split at hb<;>first|(cases hb;done)|exact .nili
 | .nilm,v,hb=>by unfold xA at hb;split at hb<;>first|(cases hb;done)|exact .nilm
 | .agg cs',v,hb=>by
  unfold xA at hb;split at hb<;>first|(cases hb;done)|skip
  exact .agg _ _ (ww cs' _ hb)
 | .tup cs',v,hb=>by
  unfold xA at hb;split at hb<;>first|(cases hb;done)|skip
  exact .tup _ _ (ww cs' _ hb)
 | .fz n cs',v,hb=>by
  unfold xA at hb;split at hb<;>first|(cases hb;done)|skip
  ·simp only[Bool.and_eq_true] at hb;obtain rfl:=Nat.eq_of_beq_eq_true hb.1;have:cs'=[]:=by simpa using hb.2
   rw[this];exact .nilz
  ·simp only[Bool.and_eq_true] at hb;rw[Nat.eq_of_beq_eq_true hb.1,wR _ _ hb.2];exact .fz _ _
  ·simp only[Bool.and_eq_true] at hb;obtain⟨⟨⟨h1,h2⟩,h3⟩,h4⟩:=hb;obtain rfl:=Nat.eq_of_beq_eq_true h1;split at h4<;>first|(cases h4;done)|skip
   rename_i hg;simp only[Bool.and_eq_true] at h4;refine .sl _ _ _ _ _ _ _ _ cs'.length _ hg (Nat.le_of_ble_eq_true h2) (Nat.le_of_ble_eq_true h4.1) (fun h0=>?_) (ww cs' _ h4.2)
   subst h0;cases h3
  ·simp only[Bool.and_eq_true] at hb;obtain⟨h1,h4⟩:=hb;obtain rfl:=Nat.eq_of_beq_eq_true h1;split at h4<;>first|(cases h4;done)|skip
   rename_i hg;simp only[Bool.and_eq_true] at h4;refine .own _ _ _ _ _ _ hg (fun h0=>?_) (ww cs' _ h4.2)
   subst h0;simpa using h4.1
 | .undef,v,hb=>by unfold xA at hb;cases hb
 | .ptr _ _,v,hb=>by unfold xA at hb;cases hb
 | .sl _ _ _ _ _,v,hb=>by unfold xA at hb;cases hb
 | .fn _ _ _,v,hb=>by unfold xA at hb;cases hb
 | .ifc _ _,v,hb=>by unfold xA at hb;cases hb
 | .map _,v,hb=>by unfold xA at hb;cases hb
 | .sym _,v,hb=>by unfold xA at hb;cases hb
 | .pf _ _,v,hb=>by unfold xA at hb;cases hb
 | .e0,v,hb=>by unfold xA at hb;cases hb
 | .own _ _,v,hb=>by unfold xA at hb;cases hb
 | .nz,v,hb=>by unfold xA at hb;cases hb
 | .yl _,v,hb=>by unfold xA at hb;cases hb
 | .lp _,v,hb=>by unfold xA at hb;cases hb
theorem ww{h:Hp}:∀(vs' vs:List AV),qaU h vs' vs=true->Frzs h vs vs'
 | [],vs,hb=>by
  unfold qaU at hb;have:vs=[]:=by simpa using hb
  rw[this];exact .nil
 | v'::vs',vs,hb=>by
  unfold qaU at hb;split at hb<;>first|(cases hb;done)|skip
  simp only[Bool.and_eq_true] at hb;exact .cons _ _ _ _ (qei v' _ hb.1) (ww vs' _ hb.2)
end
abbrev qbf:=List (List AV×AV)
noncomputable def qel(vs:List AV)(l:qbf):Option AV:=List.rec (motive:=fun _=>Option AV) none (fun e _ ih=>Bool.rec (motive:=fun _=>Option AV) ih (some e.2) (qbC e.1 vs)) l
theorem qdh{vs:List AV}{v:AV}:∀{l:qbf},qel vs l=some v->(vs,v) ∈ l
 | [],h=>by cases h
 | e::l,h=>by
  have h':(Bool.rec (motive:=fun _=>Option AV) (qel vs l) (some e.2) (qbC e.1 vs):Option AV)=some v:=h
  cases he:qbC e.1 vs with
  | true =>
   rw[he] at h';have h2:e.2=v:=Option.some.inj h';have h1:=wR _ _ he;obtain⟨e1,e2⟩:=e;subst h1 h2;exact .head _
  | false=>rw[he] at h';exact .tail _ (qdh h')
noncomputable def qj5(L:List (Nat×qbf)):wZ:=fun f vs=>List.rec (motive:=fun _=>Option AV) none (fun e _ ih=>Bool.rec (motive:=fun _=>Option AV) ih (qel vs e.2) (Nat.beq e.1 f)) L
theorem qgF:∀{L:List (Nat×qbf)},(∀e ∈ L,∀q ∈ e.2,qp P e.1 q.1 q.2)->vd P (qj5 L)
 | [],_=>fun _ _ _ h=>by cases h
 | e::L,hL=>fun f vs v h=>by
  have h':(Bool.rec (motive:=fun _=>Option AV) (qj5 L f vs) (qel vs e.2) (Nat.beq e.1 f):Option AV)=some v:=h
  cases he:Nat.beq e.1 f with
  | true =>
   rw[he] at h';have e1:=Nat.eq_of_beq_eq_true he;have:=hL e (.head _) _ (qdh h');rw[e1] at this;exact this
  | false=>rw[he] at h';exact qgF (fun e' he'=>hL e' (.tail _ he')) f vs v h'
theorem qmJ{f:Nat}:∀q ∈ ([]:qbf),qp P f q.1 q.2:=fun _ h=>by cases h
theorem qlg{f:Nat}{e:List AV×AV}{l:qbf}(h:qp P f e.1 e.2)(hl:∀q ∈ l,qp P f q.1 q.2):∀q ∈ e::l,qp P f q.1 q.2:=fun q hq=>by
 rcases List.mem_cons.1 hq with rfl|hq
 ·exact h
 ·exact hl q hq
theorem qmI{f:Nat}{l m:qbf}(hl:∀q ∈ l,qp P f q.1 q.2)(hm:∀q ∈ m,qp P f q.1 q.2):∀q ∈ l++m,qp P f q.1 q.2:=fun q hq=>(List.mem_append.1 hq).elim (hl q) (hm q)
theorem qp.runK{env:Tr IFn}{ho:wZ}{lc:xh}(he:wj P env)(hh:vd P ho)(hs:SitesOk P env lc)(m:Nat){f:Nat}{vs:List AV}{v:AV}(hcl:qM vs=true)(hk:qai env ho lc (fr env ho lc m) (Nat.succ f) vs H0 (fun v' h'=>tt (xA h' v v'))=True):qp P f vs v :=
 qp.of_SC hcl ((SC.runR he hh hs m (of_eq_true hk)).mono fun _ _ hv=>qei _ _ (qn0 hv))
end Go.Kc
end
section
namespace Go.Kc
variable [Cur]
def rI(k:IntKind)(l:List Int):List AV:=l.map (.i k)
section
variable {k:IntKind} {l m:List Int} {j:Nat}
theorem qbe:qM (rI k l)=true:=wo fun _=>rfl
theorem qmc:(rI k l)[j]?=(l[j]?).map (.i k):=by simp[rI]
end
section
variable {l m:List (List UInt8)} {j:Nat}
end
end Go.Kc
end
section
namespace Go.Kc
variable [Cur]
variable {P:Program} {f:Nat}
def qcu{α:Type}(p:α->Bool):List α->Nat->Int
 | [],_=>-1
 | x::xs,j=>if p x=true then (j:Int) else qcu p xs (j+1)
def qf6(m:Nat)(P:Program)(f:Nat):Prop:=∀{α:Type} (enc:α->List AV) (p:α->Bool) (g:Nat) (a c:List AV) (l:List α),(∀x,(enc x).length=m)->qM a=true->qM c=true->l.length<=qi->
 (∀x ∈ l,qp P g (a++([.agg (enc x)]++c)) (.b (p x)))->qp P f [.fz l.length (l.flatMap enc),.fn g a c] (.i .i64 (qcu p l 0))
end Go.Kc
end
section
namespace Go.Kc
variable [Cur]
structure GCall where
 name:List UInt8
 act:Int
structure GNote where
 file:List UInt8
 line:Int
 err:Int
 text:List UInt8
def qE(n:GNote):List AV:=[.s n.file,.i .i64 n.line,.i .i64 n.err,.s n.text]
theorem wK(c:GNote):(qE c).length=4:=rfl
section
variable {l m:List GCall} {j:Nat}
end
def rN(l:List GNote):List AV:=l.flatMap qE
section
variable {l m:List GNote} {j:Nat}
theorem qmd:(rN l).length=l.length*4:=wu wK l
theorem xr:qM (rN l)=true:=qeT fun _=>rfl
theorem qjI{c:GNote}(h:l[j]?=some c):((rN l).drop (j*4)).take 4=qE c:=qaG wK h
theorem qdV{c:GNote}(h:l[j]?=some c){i:Nat}(hi:i<4):(rN l)[j*4+i]?=(qE c)[i]?:=qgy wK h hi
theorem qdl(h:j<l.length):j*4+4<=(rN l).length:=by rw[qmd];omega
end
end Go.Kc
end
section
namespace Go.Kc
variable [Cur]
open Go.RowKit
variable {P:Program} {f:Nat}
theorem Rel.below{ρ:Ren}{B:Nat->Prop}{h:Hp}{w w':World}(r:Rel σ0 ρ B h w)(hb:Below w.heap.size w w'):Rel σ0 ρ B h w':=by
 have hget:∀{k o},w.heap[k]?=some o->w'.heap[k]?=some o:=fun {k o} hk=>by rw[hb.block k (Array.getElem?_eq_some_iff.1 hk).1];exact hk
 refine⟨r.dom,fun b L e wf af cs h1 h2=>?_,fun b L es h1 h2=>?_,r.excl,r.exclm,r.app,r.flr,fun k hk=>Nat.lt_of_lt_of_le (r.base k hk) hb.size,fun k arr hk=>?_,⟨r.dn.1,fun b L h=>Nat.lt_of_lt_of_le (r.dn.2 b L h) hb.size⟩⟩
 ·obtain⟨e1,c,ty,fz,e2,e3⟩:=r.cells b L e wf af cs h1 h2;exact⟨e1,c,ty,fz,hget e2,e3⟩
 ·obtain⟨e1,o,e2,e3⟩:=r.maps b L es h1 h2;exact⟨e1,o,hget e2,e3⟩
 ·obtain⟨⟨ty,fz,e1⟩,e2⟩:=r.frz k arr hk;exact⟨⟨ty,fz,hget e1⟩,e2⟩
theorem Kept.below{ρ:Ren}{B:Nat->Prop}{h:Hp}{w w':World}(r:Rel σ0 ρ B h w)(hb:Below w.heap.size w w'):Kept ρ B h w ρ h w' :=
 ⟨fun _ _=>rfl,Nat.le_refl _,rfl,fun _ _ _=>rfl,fun k hk=>hb.block k (r.base k hk),hb.size,⟨hb.os,hb.output⟩,fun _ _ h=>h,fun _ _ h=>.inl h,Nat.le_refl _⟩
end Go.Kc
end
section
namespace Go.Kc
variable [Cur]
open Go.RowKit Go.Sort
variable {P:Program} {f:Nat}
def ql9:Array Value:=(Lib.pow10Tab.map fun z=>Value.int .u64 z).toArray
def qfG(P:Program)(f:Nat):Prop:=∀n:Int,-9223372036854775808<=n->n<=9223372036854775807->∀w:World,Lib.TabIs P w "internal/strconv.uint64pow10" .u64 Lib.pow10Tab->
 Calls P f #[.int .i64 n] w fun e w'=>e = .returned (.string ⟨(Lib.itoa n).toArray⟩)∧∃k os,w'=grow (w.drewN k) os
theorem qf5{n:Nat}{k:List UInt8->Prop}:qG [.i .u8 (n:Int)] k↔k [UInt8.ofNat n]:=Iff.rfl
def qdF(P:Program)(f:Nat):Prop:=∀n:Int,-9223372036854775808<=n->n<=9223372036854775807->qp P f [.i .i64 n] (.s (Lib.itoa n))
theorem qmH{g:Nat}(hcod:qbn P f)(hg:P.globalNamed "internal/strconv.uint64pow10" = some g)(ht:tab g=some ql9)(hK:qfG P f):qdF P f:=by
 intro n h0 h1 h k hk;refine⟨trivial,fun ρ B w args r ha=>?_⟩
 generalize hA:args.toList=L at ha;cases ha with
 | cons _ _ _ _ a1 a2 =>
  rename_i v1 vs1;cases a2;have hargs:args = #[v1]:=by apply Array.ext';rw[hA]
  subst hargs;cases a1;obtain⟨⟨ty,fz,hw⟩,_⟩:=r.frz g _ (ρ.frz.ok g _ ht)
  have htab:Lib.TabIs P w "internal/strconv.uint64pow10" .u64 Lib.pow10Tab:=by
   unfold Lib.TabIs World.var?;rw[hg];show (match w.heap[g]? with|some (.cells cs _ _)=>some cs|_=>none)=_
   rw[hw];rfl
  refine .inl ⟨hcod,(hK n h0 h1 w htab).mono ?_⟩;rintro e w' ⟨rfl,q,os,rfl⟩;have hb:=Lib.below_grow w.heap.size w (Nat.le_refl _) q os;exact⟨_,_,h,ρ,rfl,hk,.s _,r.below hb,Kept.below r hb⟩
theorem qcZ{u:Nat}(h:u<10):Lib.decDigits u=[UInt8.ofNat (48+u)]:=by rw[Lib.decDigits,dif_pos h]
theorem qkQ{u:Nat}(h:¬u<10):Lib.decDigits u=Lib.decDigits (u / 10)++Lib.decDigits (u % 10):=by
 rw[qcZ (Nat.mod_lt _ (by decide)),Lib.decDigits,dif_neg h]
theorem qgk{u:Nat}(h:u<=9223372036854775807):(Lib.decDigits u).length<=21:=by
 have:=Lib.itoa_length_le (u:Int) (by omega) (by omega);unfold Lib.itoa at this;rwa [if_neg (by omega),Int.toNat_natCast] at this
theorem qgR{n:Int}(h:n<0):Lib.itoa n=45::Lib.decDigits n.natAbs:=by unfold Lib.itoa;rw[if_pos h]
theorem qgS{n:Int}(h:¬n<0):Lib.itoa n=Lib.decDigits n.toNat:=by unfold Lib.itoa;rw[if_neg h]
def zU(a:Nat):IFn:=⟨[.tmp 2],.seq (.r [.m 2 (.c (.s []))]) (.seq (.seq (.r [.n 3 0,.q 4 (.bin .lss (.t 3) (.c (.i .u64 10)))]) (.cond (.t 4) (.seq (.r [.n 5 0,.q 6 (.bin .add (.c (.i .u64 48)) (.t 5)),.q 7 (.cvInt .u8 (.t 6)),.q 8 (.buildS 1 [.i .u8 0] [(0,1,(.t 7))]),.q 9 (.b2s (.t 8)),.n 2 9]) (.ret)) (.skip))) (.seq (.r [.n 10 0,.q 11 (.bin .quo (.t 10) (.c (.i .u64 10))),.l 12 a [.t 11],.n 13 0,.q 14 (.bin .rem (.t 13) (.c (.i .u64 10))),.l 15 a [.t 14],.b 16 .add 12 15,.n 2 16]) (.ret)))⟩
theorem qnj(hc:zp P f (zU f)=true):∀u:Nat,u<=9223372036854775808->qp P f [.i .u64 u] (.s (Lib.decDigits u)):=by
 intro u
 induction u using Nat.strongRecOn with
 | _ u IH =>
  intro hu;refine qp.mk hc rfl ?_;simp only[zU,vI,simprocAttr]
  by_cases h:u<10
  ·have h':(u:Int)<10:=by omega
   have hw:IntKind.wrap .u64 (48+(u:Int))=48+u:=by rw[qaB (by omega) (by omega)]
   have hw8:IntKind.wrap .u8 (48+(u:Int))=((48+u:Nat):Int):=by rw[qmx (by omega) (by omega)];omega
   rw[qcZ h];simp +decide only[↓vS,vT,simprocAttr,h',hw,hw8,qf5];simp[vZ]
  ·have h':¬(u:Int)<10:=by omega
   have h10:(10:Int)≠0:=by decide
   have hq:IntKind.wrap .u64 (Int.tdiv u 10)=((u / 10:Nat):Int):=by
    rw[Int.tdiv_eq_ediv_of_nonneg (by omega),qaB (by omega) (by omega)];omega
   have hr:Int.tmod u 10=((u % 10:Nat):Int):=by
    rw[Int.tmod_eq_emod_of_nonneg (by omega)];omega
   have i1:=IH (u / 10) (by omega) (by omega);have i2:=IH (u % 10) (by omega) (by omega);have l1:=qgk (u:=u / 10) (by omega);have l2:=qgk (u:=u % 10) (by omega);rw[qkQ h];have c1:(Lib.decDigits (u / 10)).length+(Lib.decDigits (u % 10)).length<=9223372036854775807:=by omega
   simp +decide only[↓vS,vT,simprocAttr,h',↓qig h10,↓qd9 h10,hq];refine i1.sc ?_;simp +decide only[↓vS,vT,simprocAttr,↓qd9 h10,hr];refine i2.sc ?_;simp +decide only[↓vS,vT,simprocAttr,List.length_append,c1];simp[vZ]
def zT(a:Nat):IFn:=⟨[.tmp 2],.seq (.r [.m 2 (.c (.s []))]) (.seq (.seq (.r [.n 3 0,.w 4 .lss 3 0]) (.cond (.t 4) (.seq (.r [.n 5 0,.a 6 5 1,.q 7 (.un .neg (.t 6)),.q 8 (.cvInt .u64 (.t 7)),.q 9 (.bin .add (.t 8) (.c (.i .u64 1))),.l 10 a [.t 9],.q 11 (.bin .add (.c (.s [45])) (.t 10)),.n 2 11]) (.ret)) (.skip))) (.seq (.r [.n 12 0,.q 13 (.cvInt .u64 (.t 12)),.l 14 a [.t 13],.n 2 14]) (.ret)))⟩
theorem qnK{g:Nat}(hc:zp P f (zT g)=true)(hg:∀u:Nat,u<=9223372036854775808->qp P g [.i .u64 u] (.s (Lib.decDigits u)))(n:Int)(h0:-9223372036854775808<=n)(h1:n<=9223372036854775807):qp P f [.i .i64 n] (.s (Lib.itoa n)):=by
 refine qp.mk hc rfl ?_;have hl:=Lib.itoa_length_le n h0 h1;simp only[zT,vI,simprocAttr]
 by_cases h:n<0
 ·have w1:IntKind.wrap .i64 (n+1)=n+1:=jW (by omega) (by omega);have w2:IntKind.wrap .i64 (0-(n+1))=0-(n+1):=jW (by omega) (by omega);have w3:IntKind.wrap .u64 (0-(n+1))=0-(n+1):=qaB (by omega) (by omega);have w4:IntKind.wrap .u64 (0-(n+1)+1)=((n.natAbs:Nat):Int):=by rw[qaB (by omega) (by omega)];omega
  have hd:=hg n.natAbs (by omega);rw[qgR h] at hl ⊢;rw[List.length_cons] at hl;have c1:1+(Lib.decDigits n.natAbs).length<=9223372036854775807:=by omega
  simp +decide only[↓vS,vT,simprocAttr,h,w1,w2,w3,w4];refine hd.sc ?_;simp +decide only[↓vS,vT,simprocAttr,List.length_append,List.length_cons,List.length_nil,c1];simp[vZ]
 ·have w3:IntKind.wrap .u64 n=((n.toNat:Nat):Int):=by rw[qaB (by omega) (by omega)];omega
  have hd:=hg n.toNat (by omega);rw[qgS h];simp +decide only[↓vS,vT,simprocAttr,h,w3];refine hd.sc ?_;simp +decide only[↓vS,vT,simprocAttr];simp[vZ]
end Go.Kc
end
section
namespace Go.Kc
variable [Cur]
variable {P:Program} {f:Nat}
theorem qdU{x:O}{t:Tr AV}{h:Hp}{k:AV->Hp->Prop}:opK qj (.cvR x) t h k↔evK t x (fun x=>match x with | .i _ n=>k (.s (Utf8.encode n).data.toList) h|_=>False):=Iff.rfl
theorem qeY{m:Nat}(h:m<128):(Utf8.encode (m:Int)).data.toList=[UInt8.ofNat m]:=by
 unfold Utf8.encode;have hv:Utf8.valid (m:Int)=true:=by unfold Utf8.valid;simp;omega
 simp only[hv,if_true,Int.toNat_natCast];rw[if_pos h]
def jf(e:Int):Bool:=decide (e=90)||decide (e=100)||decide (e=110)||decide (e=161)
def qY(c:UInt8):UInt8:=if c.toNat<32∨126<c.toNat then 63 else c
def jd(n:GNote):List UInt8:=if jf n.err=true then [119,97,114,110,105,110,103] else [101,114,114,111,114]
def zK(n:GNote):List UInt8:=n.file++[58]++Lib.itoa n.line++[58,32]++jd n++[32]++Lib.itoa n.err
def zW(n:GNote):List UInt8:=if n.text=[] then zK n else zK n++[58,32]++n.text.map qY
structure NotL (n:GNote):Prop where
 l0:-9223372036854775808<=n.line
 l1:n.line<=9223372036854775807
 e0:-9223372036854775808<=n.err
 e1:n.err<=9223372036854775807
 fl:n.file.length<=300
 tl:n.text.length<=300
def zZ(a b:Nat):ICode:=.seq (.seq (.r [.f 25 3 1,.d 26 25,.q 27 (.bin .eql (.t 26) (.c (.s [])))]) (.cond (.t 27) (.seq (.r [.n 28 4,.n 2 28]) (.ret)) (.skip))) (.seq (.r [.n 29 4,.q 30 (.bin .add (.t 29) (.c (.s [58,32]))),.n 4 30]) (.seq (.seq (.r [.f 31 3 1,.d 32 31,.q 33 (.s2b (.t 32)),.e 34 33,.m 35 (.k 0)]) (.blk 0 (.loop (.seq (.r [.s 36 35 34]) (.seq (.cond (.t 36) (.skip) (.exit 0)) (.seq (.blk 1 (.seq (.r [.i 37 1 33 35,.d 38 37,.n 6 38]) (.seq (.seq (.r [.n 39 6,.q 40 (.bin .lss (.t 39) (.c (.i .u8 32))),.n 41 40,.z 42 6 41,.g 43 (.bin .gtr (.t 42) (.c (.i .u8 126))) 41 false,.o 44 41 43]) (.cond (.t 44) (.r [.m 6 (.c (.i .u8 63))]) (.skip))) (.r [.n 45 4,.n 46 6,.q 47 (.cvInt .i32 (.t 46)),.q 48 (.cvR (.t 47)),.b 49 .add 45 48,.n 4 49])))) (.r [.a 50 35 1,.n 35 50]))))))) (.seq (.r [.n 51 4,.n 2 51]) (.ret))))
def wx(a b:Nat):IFn:=⟨[.tmp 2],.seq (.r [.q 1 (.box (.t 0)),.m 2 (.c (.s []))]) (.seq (.r [.m 3 (.c (.s [101,114,114,111,114]))]) (.seq (.seq (.r [.f 7 2 1,.d 8 7,.l 9 a [.t 8]]) (.cond (.t 9) (.r [.m 3 (.c (.s [119,97,114,110,105,110,103]))]) (.skip))) (.seq (.reg true [.f 10 0 1,.d 11 10,.q 12 (.bin .add (.t 11) (.c (.s [58]))),.f 13 1 1,.d 14 13,.l 15 b [.t 14],.b 16 .add 12 15,.q 17 (.bin .add (.t 16) (.c (.s [58,32]))),.n 18 3,.b 19 .add 17 18,.q 20 (.bin .add (.t 19) (.c (.s [32]))),.f 21 2 1,.d 22 21,.l 23 b [.t 22],.b 24 .add 20 23,.n 4 24]) (.cut (zZ a b)))))⟩
theorem qof{g1 g2:Nat}(hc:zp P f (wx g1 g2)=true)(h1:∀x,qp P g1 [.i .i64 x] (.b (jf x)))(h2:qdF P g2)(n:GNote)(hn:NotL n):qp P f [.agg (qE n)] (.s (zW n)):=by
 refine qp.mk hc rfl ?_;have i1:=h2 n.line hn.l0 hn.l1;have i2:=h2 n.err hn.e0 hn.e1;have q1:=Lib.itoa_length_le n.line hn.l0 hn.l1;have q2:=Lib.itoa_length_le n.err hn.e0 hn.e1;have q3:=hn.fl;have q4:=hn.tl;have p1:=h1 n.err;have c1:n.file.length+1<=9223372036854775807:=by omega
 have c2:n.file.length+1+(Lib.itoa n.line).length<=9223372036854775807:=by omega
 have c3:n.file.length+1+(Lib.itoa n.line).length+2<=9223372036854775807:=by omega
 have c4:n.file.length+1+(Lib.itoa n.line).length+2+7<=9223372036854775807:=by omega
 have c4':n.file.length+1+(Lib.itoa n.line).length+2+5<=9223372036854775807:=by omega
 have c5:n.file.length+1+(Lib.itoa n.line).length+2+7+1<=9223372036854775807:=by omega
 have c5':n.file.length+1+(Lib.itoa n.line).length+2+5+1<=9223372036854775807:=by omega
 have c6:n.file.length+1+(Lib.itoa n.line).length+2+7+1+(Lib.itoa n.err).length<=9223372036854775807:=by omega
 have c6':n.file.length+1+(Lib.itoa n.line).length+2+5+1+(Lib.itoa n.err).length<=9223372036854775807:=by omega
 have hcl:qM (n.text.map fun c=>AV.i .u8 (Int.ofNat c.toNat))=true:=wo fun _=>rfl
 have hcl':qM (n.text.map fun c=>AV.i .u8 ((c.toNat:Nat):Int))=true:=wo fun _=>rfl
 have w63:IntKind.wrap .i32 63=63:=rfl;have z3:n.file.length+((Lib.itoa n.line).length+1)<=9223372036854775805:=by omega
 have z4:n.file.length+((Lib.itoa n.line).length+2+1)<=9223372036854775802:=by omega
 have z5:n.file.length+((Lib.itoa n.line).length+2+1)<=9223372036854775800:=by omega
 have z6:n.file.length+((Lib.itoa n.line).length+7+1)<=9223372036854775806:=by omega
 have z7:n.file.length+((Lib.itoa n.line).length+9+1)<=9223372036854775806:=by omega
 have z8:n.file.length+((Lib.itoa n.line).length+8+1)+(Lib.itoa n.err).length<=9223372036854775807:=by omega
 have z9:n.file.length+((Lib.itoa n.line).length+10+1)+(Lib.itoa n.err).length<=9223372036854775807:=by omega
 have hhl:(zK n).length<=1000:=by
  unfold zK jd;split<;>simp only[List.length_append,List.length_cons,List.length_nil]<;>omega
 have tail:∀(t:Tr AV) (h:Hp),Wk 0 t h (mkT [(1,.ptr 0 0),(4,.s (zK n))]) (mkH 0 [.cells 0 true false (qE n)])->S P 0 (zZ g1 g2) (qan [.tmp 2] fun v' h'=>Frz h' v' (.s (zW n))) t h:=fun t h hw=>by
  refine S.weak hw (zq ?_);simp only[zZ,qE,vI,simprocAttr];unfold zW;generalize zK n=hd at hhl ⊢
  by_cases hz:n.text=[]
  ·rw[if_pos hz];simp +decide only[↓vS,vT,simprocAttr,hz];simp[vZ]
  ·rw[if_neg hz];have d1:hd.length+2<=9223372036854775807:=by omega
   simp +decide only[↓vS,vT,simprocAttr,hz,List.length_append,List.length_cons,List.length_nil,d1];refine SL.loop (α:=Nat) (fun j=>[(33,.own 0 n.text.length),(34,.i .i64 n.text.length),(35,.i .i64 (j:Int)),(4,.s (hd++[58,32]++(n.text.take j).map qY))]) (fun _=>[.cells 1 true true (n.text.map fun c=>.i .u8 (Int.ofNat c.toNat))]) (fun j=>j<=n.text.length) (fun j=>n.text.length-j) 0 [1] ?_ ?_ ?_ rfl ?_ ?_
   ·simp[vw]
   ·simp[vw,qr,hcl,hcl']
   ·simp
   ·exact Nat.zero_le _
   rintro j hj G ih;simp only[vI,simprocAttr]
   by_cases hlt:j<n.text.length
   ·obtain⟨c,hcx⟩:∃c,n.text[j]?=some c:=⟨_,zzE hlt⟩;have hb:(n.text.map fun c=>AV.i .u8 (Int.ofNat c.toNat))[j]?=some (.i .u8 (c.toNat:Int)):=by rw[List.getElem?_map,hcx];rfl
    have hw1:IntKind.wrap .i64 ((j:Int)+1)=((j+1:Nat):Int):=by rw[jW (by omega) (by omega)];omega
    have hcl:=c.toNat_lt;have ht:(n.text.take (j+1)).map qY=(n.text.take j).map qY++[qY c]:=by rw[List.take_add_one,hcx];simp
    have hlen:(hd++[58,32]++(n.text.take j).map qY).length+1<=9223372036854775807:=by simp only[List.length_append,List.length_map,List.length_take,List.length_cons,List.length_nil];omega
    have ih2:=ih (j+1);rw[ht,← List.append_assoc] at ih2;generalize hd++[58,32]++(n.text.take j).map qY=acc at hlen ih2 ⊢;have fin:∀(tt:Tr AV) (hh:Hp),Wk 0 tt hh (mkT [(33,.own 0 n.text.length),(34,.i .i64 n.text.length),(35,.i .i64 ((j+1:Nat):Int)),(4,.s (acc++[qY c]))]) (mkH 0 [.cells 1 true true (n.text.map fun c=>.i .u8 (Int.ofNat c.toNat))])->G tt hh:=fun tt hh hw=>ih2 hlt (by omega) _ _ hw
    have e63:(Utf8.encode 63).data.toList=[63]:=rfl
    by_cases a1:c.toNat<32
    ·have a1':(c.toNat:Int)<32:=by omega
     have e1:qY c=63:=by unfold qY;rw[if_pos (.inl a1)]
     rw[e1] at fin;simp +decide only[↓vS,vT,simprocAttr,hlt,hb,Nat.mul_one,a1',↓qdU,e63,w63,hw1,hlen,List.length_cons,List.length_nil];refine fin _ _ (Wk.mk _ _ [0] ?_ ?_ ?_ rfl)
     ·simp[vw]
     ·simp[vw,qr,hcl,hcl']
     ·simp
    ·have a1':¬(c.toNat:Int)<32:=by omega
     by_cases a2:126<c.toNat
     ·have a2':(126:Int)<(c.toNat:Int):=by omega
      have e1:qY c=63:=by unfold qY;rw[if_pos (.inr a2)]
      rw[e1] at fin;simp +decide only[↓vS,vT,simprocAttr,hlt,hb,Nat.mul_one,a1',a2',↓qdU,e63,w63,hw1,hlen,List.length_cons,List.length_nil];refine fin _ _ (Wk.mk _ _ [0] ?_ ?_ ?_ rfl)
      ·simp[vw]
      ·simp[vw,qr,hcl,hcl']
      ·simp
     ·have a2':¬(126:Int)<(c.toNat:Int):=by omega
      have e1:qY c=c:=by unfold qY;rw[if_neg (by omega)]
      rw[e1] at fin;have w32:IntKind.wrap .i32 (c.toNat:Int)=c.toNat:=qmw (by omega) (by omega);have ec:(Utf8.encode (c.toNat:Int)).data.toList=[c]:=by rw[qeY (by omega)];simp
      simp +decide only[↓vS,vT,simprocAttr,hlt,hb,Nat.mul_one,a1',a2',↓qdU,w32,ec,hw1,hlen,List.length_cons,List.length_nil];refine fin _ _ (Wk.mk _ _ [0] ?_ ?_ ?_ rfl)
      ·simp[vw]
      ·simp[vw,qr,hcl,hcl']
      ·simp
   ·obtain rfl:j=n.text.length:=by omega
    simp +decide only[↓vS,vT,simprocAttr,hlt,List.take_length];simp[vZ]
 simp only[wx,qE,vI,simprocAttr];simp +decide only[↓vS,vT,simprocAttr];refine p1.sc ?_;have L:∀(x y:List UInt8),(x++y).length=x.length+y.length:=fun x y=>List.length_append
 cases hw:jf n.err
 all_goals
  simp +decide only[↓vS,vT,simprocAttr];refine qd6 ?_;simp +decide only[↓vS,vT,simprocAttr,List.length_append,List.length_cons,List.length_nil,Nat.zero_add,c1];refine i1.pc ?_;simp +decide only[↓vS,vT,simprocAttr,List.length_append,List.length_cons,List.length_nil,Nat.zero_add,Nat.reduceAdd,c2,c3,c4,c4',c5,c5',z3,z4,z5,z6,z7];refine i2.pc ?_;simp only[Hp.up,Hp.down];simp +decide only[↓vS,vT,simprocAttr,List.length_append,List.length_cons,List.length_nil,Nat.zero_add,Nat.reduceAdd,z8,z9];refine tail _ _ (Wk.mk _ _ [0] ?_ ?_ ?_ rfl)
  ·simp[vw,zK,jd,hw]
  ·simp[vw,qE,qr]
  ·simp
def bR(l:List UInt8):List AV:=l.map fun c=>.i .u8 ((c.toNat:Nat):Int)
theorem qdC{l:List UInt8}:(bR l).length=l.length:=by simp[bR]
theorem qd8{l:List UInt8}:qM (bR l)=true:=wo fun _=>rfl
theorem qhQ:∀{l:List UInt8} {k:List UInt8->Prop},qG (bR l) k↔k l
 | [],_=>Iff.rfl
 | c::l,k=>by
  show qG (bR l) (fun r=>k (UInt8.ofNat c.toNat::r))↔_
  rw[qhQ];simp
def qP(a b:Nat):ICode:=.seq (.r [.m 4 .N]) (.seq (.seq (.r [.m 5 (.k 0)]) (.blk 0 (.loop (.seq (.seq (.r [.n 37 5,.f 38 3 1,.d 39 38,.q 40 (.len true (.t 39)),.s 41 37 40]) (.cond (.t 41) (.skip) (.exit 0))) (.seq (.blk 1 (.seq (.r [.f 44 3 1,.d 45 44,.n 46 5,.q 47 (.idxS (.t 45) (.t 46)),.n 6 47]) (.seq (.seq (.r [.n 48 6,.q 49 (.bin .lss (.t 48) (.c (.i .u8 32))),.n 50 49,.z 51 6 50,.g 52 (.bin .gtr (.t 51) (.c (.i .u8 126))) 50 false,.o 53 50 52]) (.cond (.t 53) (.r [.m 6 (.c (.i .u8 63))]) (.skip))) (.r [.n 54 4,.n 55 6,.q 56 (.buildS 1 [.i .u8 0] [(0,1,(.t 55))]),.q 57 (.app 1 1 true (.t 54) (.t 56)),.n 4 57])))) (.r [.n 42 5,.a 43 42 1,.n 5 43])))))) (.seq (.r [.n 58 3,.n 59 4,.q 60 (.b2s (.t 59)),.b 61 .add 58 60,.n 2 61]) (.ret)))
def xo(a b:Nat):IFn:=⟨[.tmp 2],.seq (.r [.q 1 (.box (.t 0)),.m 2 (.c (.s []))]) (.seq (.reg true [.f 7 0 1,.d 8 7,.q 9 (.bin .add (.t 8) (.c (.s [58]))),.f 10 1 1,.d 11 10,.l 12 a [.t 11],.b 13 .add 9 12,.q 14 (.bin .add (.t 13) (.c (.s [58,32,101,114,114,111,114,32]))),.n 3 14]) (.seq (.seq (.r [.f 15 2 1,.d 16 15,.l 17 b [.t 16]]) (.cond (.t 17) (.reg true [.f 18 0 1,.d 19 18,.q 20 (.bin .add (.t 19) (.c (.s [58]))),.f 21 1 1,.d 22 21,.l 23 a [.t 22],.b 24 .add 20 23,.q 25 (.bin .add (.t 24) (.c (.s [58,32,119,97,114,110,105,110,103,32]))),.n 3 25]) (.skip))) (.seq (.r [.n 26 3,.f 27 2 1,.d 28 27,.l 29 a [.t 28],.b 30 .add 26 29,.n 3 30]) (.seq (.seq (.r [.f 31 3 1,.d 32 31,.q 33 (.len true (.t 32)),.w 34 .gtr 33 0]) (.cond (.t 34) (.r [.n 35 3,.q 36 (.bin .add (.t 35) (.c (.s [58,32]))),.n 3 36]) (.skip))) (.cut (qP a b))))))⟩
theorem qfF{g1 g2:Nat}(n:GNote)(hn:NotL n)(H:List UInt8)(hH:H.length<=2000){t:Tr AV}{h:Hp}(hw:Wk 0 t h (mkT [(1,.ptr 0 0),(3,.s H)]) (mkH 0 [.cells 0 true false (qE n)])) :
  S P 0 (qP g1 g2) (qan [.tmp 2] fun v' h'=>Frz h' v' (.s (H++n.text.map qY))) t h:=by
 refine S.weak hw (zq ?_);have q4:=hn.tl;simp only[qP,qE,vI,simprocAttr];simp +decide only[↓vS,vT,simprocAttr];refine SL.loop (α:=Nat) (fun j=>[(1,.ptr 0 0),(3,.s H),(4,.own 1 j),(5,.i .i64 (j:Int))]) (fun j=>[.cells 0 true false (qE n),.cells 1 true true (bR ((n.text.take j).map qY))]) (fun j=>j<=n.text.length) (fun j=>n.text.length-j) 0 [0,99] ?_ ?_ ?_ rfl ?_ ?_
 ·simp[vw]
 ·simp[vw,qE,qr,bR]
 ·simp
 ·exact Nat.zero_le _
 rintro j hj G ih;simp only[qE,vI,simprocAttr]
 by_cases hlt:j<n.text.length
 ·obtain⟨c,hcx⟩:∃c,n.text[j]?=some c:=⟨_,zzE hlt⟩;have hw1:IntKind.wrap .i64 ((j:Int)+1)=((j+1:Nat):Int):=by rw[jW (by omega) (by omega)];omega
  have hcl:=c.toNat_lt;have ht:bR ((n.text.take (j+1)).map qY)=bR ((n.text.take j).map qY)++[.i .u8 (((qY c).toNat:Nat):Int)]:=by rw[List.take_add_one,hcx];simp[bR]
  have hrl:(bR ((n.text.take j).map qY)).length=j:=by rw[qdC,List.length_map,List.length_take];omega
  have hr1:j+1<=qi:=by simp only[qi];omega
  have ih2:=ih (j+1);rw[ht] at ih2;have hcr:=qd8 (l:=(n.text.take j).map qY);generalize bR ((n.text.take j).map qY)=row at hrl ih2 hcr ⊢;have hcx':∀x:Int,qM (row++[.i .u8 x])=true:=fun x=>by rw[xG,hcr];rfl
  have fin:∀(tt:Tr AV) (hh:Hp),Wk 0 tt hh (mkT [(1,.ptr 0 0),(3,.s H),(4,.own 1 (j+1)),(5,.i .i64 ((j+1:Nat):Int))]) (mkH 0 [.cells 0 true false (qE n),.cells 1 true true (row++[.i .u8 (((qY c).toNat:Nat):Int)])])->G tt hh:=fun tt hh hw=>ih2 hlt (by omega) _ _ hw
  by_cases a1:c.toNat<32
  ·have a1':(c.toNat:Int)<32:=by omega
   have e1:qY c=63:=by unfold qY;rw[if_pos (.inl a1)]
   rw[e1] at fin;simp +decide only[↓vS,vT,simprocAttr,hlt,hcx,a1',hw1,hrl,hr1,Nat.mul_one];refine fin _ _ (Wk.mk _ _ [0,3] ?_ ?_ ?_ rfl)
   ·simp[vw]
   ·simp[vw,qE,qr,hcr,hcx']
   ·simp
  ·have a1':¬(c.toNat:Int)<32:=by omega
   by_cases a2:126<c.toNat
   ·have a2':(126:Int)<(c.toNat:Int):=by omega
    have e1:qY c=63:=by unfold qY;rw[if_pos (.inr a2)]
    rw[e1] at fin;simp +decide only[↓vS,vT,simprocAttr,hlt,hcx,a1',a2',hw1,hrl,hr1,Nat.mul_one];refine fin _ _ (Wk.mk _ _ [0,3] ?_ ?_ ?_ rfl)
    ·simp[vw]
    ·simp[vw,qE,qr,hcr,hcx']
    ·simp
   ·have a2':¬(126:Int)<(c.toNat:Int):=by omega
    have e1:qY c=c:=by unfold qY;rw[if_neg (by omega)]
    rw[e1] at fin;simp +decide only[↓vS,vT,simprocAttr,hlt,hcx,a1',a2',hw1,hrl,hr1,Nat.mul_one];refine fin _ _ (Wk.mk _ _ [0,3] ?_ ?_ ?_ rfl)
    ·simp[vw]
    ·simp[vw,qE,qr,hcr,hcx']
    ·simp
 ·obtain rfl:j=n.text.length:=by omega
  have hl2:H.length+n.text.length<=9223372036854775807:=by omega
  have hl3:n.text.length<=(bR (n.text.map qY)).length:=by rw[qdC,List.length_map];exact Nat.le_refl _
  have htk:(bR (n.text.map qY)).take n.text.length=bR (n.text.map qY):=List.take_of_length_le (by rw[qdC,List.length_map];exact Nat.le_refl _);simp +decide only[↓vS,vT,simprocAttr,hlt,List.take_length,hl3,htk,qhQ,List.length_map,hl2];simp[vZ]
theorem qoe{g1 g2:Nat}(hc:zp P f (xo g1 g2)=true)(h2:qdF P g1)(h1:∀x,qp P g2 [.i .i64 x] (.b (jf x)))(n:GNote)(hn:NotL n):qp P f [.agg (qE n)] (.s (zW n)):=by
 refine qp.mk hc rfl ?_;have i1:=h2 n.line hn.l0 hn.l1;have i2:=h2 n.err hn.e0 hn.e1;have q1:=Lib.itoa_length_le n.line hn.l0 hn.l1;have q2:=Lib.itoa_length_le n.err hn.e0 hn.e1;have q3:=hn.fl;have q4:=hn.tl;have p1:=h1 n.err;have c1:n.file.length+1<=9223372036854775807:=by omega
 have c2:n.file.length+1+(Lib.itoa n.line).length<=9223372036854775807:=by omega
 have c3:n.file.length+1+(Lib.itoa n.line).length+8<=9223372036854775807:=by omega
 have c3':n.file.length+1+(Lib.itoa n.line).length+10<=9223372036854775807:=by omega
 have c4:n.file.length+1+(Lib.itoa n.line).length+8+(Lib.itoa n.err).length<=9223372036854775807:=by omega
 have c4':n.file.length+1+(Lib.itoa n.line).length+10+(Lib.itoa n.err).length<=9223372036854775807:=by omega
 have c5:n.file.length+1+(Lib.itoa n.line).length+8+(Lib.itoa n.err).length+2<=9223372036854775807:=by omega
 have c5':n.file.length+1+(Lib.itoa n.line).length+10+(Lib.itoa n.err).length+2<=9223372036854775807:=by omega
 have z3:n.file.length+((Lib.itoa n.line).length+1)<=9223372036854775799:=by omega
 have z4:n.file.length+((Lib.itoa n.line).length+1)<=9223372036854775797:=by omega
 have z8:n.file.length+((Lib.itoa n.line).length+8+1)+(Lib.itoa n.err).length<=9223372036854775807:=by omega
 have z9:n.file.length+((Lib.itoa n.line).length+10+1)+(Lib.itoa n.err).length<=9223372036854775807:=by omega
 have L:(n.text.length:Int) > 0↔¬n.text=[]:=by
  cases n.text<;>simp<;>omega
 have fin:∀(H:List UInt8) (tt:Tr AV) (hh:Hp),H.length<=2000->H++n.text.map qY=zW n->Wk 0 tt hh (mkT [(1,.ptr 0 0),(3,.s H)]) (mkH 0 [.cells 0 true false (qE n)])->S P 0 (qP g1 g2) (qan [.tmp 2] fun v' h'=>Frz h' v' (.s (zW n))) tt hh:=fun H tt hh hH he hw=>he ▸ qfF n hn H hH hw
 simp only[xo,qE,vI,simprocAttr];simp +decide only[↓vS,vT,simprocAttr];refine qd6 ?_;simp +decide only[↓vS,vT,simprocAttr,List.length_append,List.length_cons,List.length_nil,Nat.zero_add,c1];refine i1.pc ?_;simp only[Hp.up,Hp.down];simp +decide only[↓vS,vT,simprocAttr,List.length_append,List.length_cons,List.length_nil,Nat.zero_add,Nat.reduceAdd,c2,c3,z3];refine p1.sc ?_;cases hw:jf n.err
 ·simp +decide only[↓vS,vT,simprocAttr];refine i2.sc ?_;simp +decide only[↓vS,vT,simprocAttr,List.length_append,List.length_cons,List.length_nil,Nat.zero_add,Nat.reduceAdd,z8];have zz:n.file.length+((Lib.itoa n.line).length+((Lib.itoa n.err).length+1+1+1+1+1+1+1+1)+1)<=9223372036854775805:=by omega
  by_cases hz:n.text=[]
  ·have hz':¬(0:Int)<n.text.length:=by rw[hz];decide
   simp +decide only[↓vS,vT,simprocAttr,hz'];refine fin (zK n) _ _ ?_ ?_ (Wk.mk _ _ [0] ?_ ?_ ?_ rfl);rotate_left 2
   ·simp[vw,zK,jd,hw]
   ·simp[vw,qE,qr]
   ·simp
   ·simp[zK,jd,hw];omega
   ·simp[zW,zK,jd,hw,hz]
  ·have hz':(0:Int)<n.text.length:=by rcases n with⟨_,_,_,t⟩;cases t<;>simp_all<;>omega
   simp +decide only[↓vS,vT,simprocAttr,hz',zz];refine fin (zK n++[58,32]) _ _ ?_ ?_ (Wk.mk _ _ [0] ?_ ?_ ?_ rfl);rotate_left 2
   ·simp[vw,zK,jd,hw]
   ·simp[vw,qE,qr]
   ·simp
   ·simp[zK,jd,hw];omega
   ·simp[zW,zK,jd,hw,hz]
 ·simp +decide only[↓vS,vT,simprocAttr];refine qd6 ?_;simp +decide only[↓vS,vT,simprocAttr,List.length_append,List.length_cons,List.length_nil,Nat.zero_add,c1];refine i1.pc ?_;simp only[Hp.up,Hp.down];simp +decide only[↓vS,vT,simprocAttr,List.length_append,List.length_cons,List.length_nil,Nat.zero_add,Nat.reduceAdd,c2,c3',z4];refine i2.sc ?_;simp +decide only[↓vS,vT,simprocAttr,List.length_append,List.length_cons,List.length_nil,Nat.zero_add,Nat.reduceAdd,z9];have zz:n.file.length+((Lib.itoa n.line).length+((Lib.itoa n.err).length+1+1+1+1+1+1+1+1+1+1)+1)<=9223372036854775805:=by omega
  by_cases hz:n.text=[]
  ·have hz':¬(0:Int)<n.text.length:=by rw[hz];decide
   simp +decide only[↓vS,vT,simprocAttr,hz'];refine fin (zK n) _ _ ?_ ?_ (Wk.mk _ _ [0] ?_ ?_ ?_ rfl);rotate_left 2
   ·simp[vw,zK,jd,hw]
   ·simp[vw,qE,qr]
   ·simp
   ·simp[zK,jd,hw];omega
   ·simp[zW,zK,jd,hw,hz]
  ·have hz':(0:Int)<n.text.length:=by rcases n with⟨_,_,_,t⟩;cases t<;>simp_all<;>omega
   simp +decide only[↓vS,vT,simprocAttr,hz',zz];refine fin (zK n++[58,32]) _ _ ?_ ?_ (Wk.mk _ _ [0] ?_ ?_ ?_ rfl);rotate_left 2
   ·simp[vw,zK,jd,hw]
   ·simp[vw,qE,qr]
   ·simp
   ·simp[zK,jd,hw];omega
   ·simp[zW,zK,jd,hw,hz]
def rT(l:List GNote):List AV:=l.map fun n=>.s (zW n)
theorem wX{l:List GNote}:qM (rT l)=true:=wo fun _=>rfl
def w6(a:List AV)(l:List GNote):List AV:=a++[.fz l.length (rN l)]
def wa(a:Nat):IFn:=⟨[.tmp 2],.seq (.r [.q 1 (.box (.t 0)),.m 2 .N]) (.seq (.r [.m 3 .N]) (.seq (.seq (.r [.f 6 14 1,.d 7 6,.e 8 7,.m 9 (.k 0)]) (.blk 0 (.loop (.seq (.r [.s 10 9 8]) (.seq (.cond (.t 10) (.skip) (.exit 0)) (.seq (.blk 1 (.seq (.r [.i 11 4 7 9,.v 12 4 11,.q 5 (.alloc [.s [],.i .i64 0,.i .i64 0,.s []]),.u (.store 4 (.t 5) (.t 12))]) (.r [.n 13 3,.v 14 4 5,.l 15 a [.t 14],.q 16 (.buildS 1 [.s []] [(0,1,(.t 15))]),.q 17 (.app 1 16 true (.t 13) (.t 16)),.n 3 17]))) (.r [.a 18 9 1,.n 9 18]))))))) (.seq (.r [.n 19 3,.n 2 19]) (.ret))))⟩
theorem qoW{g:Nat}(hc:zp P f (wa g)=true)(hg:∀n,NotL n->qp P g [.agg (qE n)] (.s (zW n)))(a:List AV)(ha:a.length=14)(hac:qM a=true)(l:List GNote)(hl:l.length<=40)(hn:∀n ∈ l,NotL n):Own P f [.agg (w6 a l)] (.own 0 l.length) [.cells 1 true true (rT l)]:=by
 have hcr:qM (w6 a l)=true:=by rw[w6,xG,hac];simp[qM,clo,rN]
 have h14:(w6 a l)[14]?=some (.fz l.length (rN l)):=by rw[w6,List.getElem?_append_right (by omega),ha];rfl
 refine Own.mk hc (by simp[qM,clo,hcr]) ?_;generalize w6 a l=rp at h14 hcr ⊢;simp only[wa,vI,simprocAttr];simp +decide only[↓vS,vT,simprocAttr,h14];refine SL.loop (α:=Nat) (fun j=>[(3,.own 0 j),(7,.fz l.length (rN l)),(8,.i .i64 l.length),(9,.i .i64 j)]) (fun j=>[.cells 1 true true (rT (l.take j))]) (fun j=>j<=l.length) (fun j=>l.length-j) 0 [99] ?_ ?_ ?_ rfl ?_ ?_
 ·simp[vw,qr]
 ·simp[vw,qr,rT]
 ·simp
 ·exact Nat.zero_le _
 rintro j hj G ih;simp only[vI,simprocAttr]
 by_cases hlt:j<l.length
 ·have hx:l[j]?=some l[j]:=zzE hlt;have hw:IntKind.wrap .i64 ((j:Int)+1)=((j+1:Nat):Int):=by rw[jW (by omega) (by omega)];omega
  have he:=qaG (f:=qE) (m:=4) (fun _=>rfl) hx
  have hb:j*4+4<=(l.flatMap qE).length:=by rw[wu (m:=4) (fun _=>rfl)];omega
  have hp:=hg _ (hn _ (List.getElem_mem hlt));have h4:(qE l[j]).length=4:=rfl;have w1:j+1<=qi:=by simp only[qi];omega
  have w2:(j+1)*16<=qi:=by simp only[qi];omega
  have ht:rT (l.take (j+1))=rT (l.take j)++[.s (zW l[j])]:=by rw[rT,rT,List.take_add_one,hx,List.map_append];rfl
  have hrl:(rT (l.take j)).length=j:=by rw[rT,List.length_map,List.length_take];omega
  have ih2:=ih (j+1);rw[ht] at ih2;have hcr:=wX (l:=l.take j);generalize rT (l.take j)=row at hrl ih2 hcr ⊢;have hcx:qM (row++[.s (zW l[j])])=true:=by rw[xG,hcr];rfl
  simp +decide only[↓vS,vT,simprocAttr,hlt,rN,hb,he,hw,h4,qE];refine hp.sc ?_;simp +decide only[↓vS,vT,simprocAttr,hw,w1,w2,hrl,Nat.mul_one];refine ih2 (by omega) (by omega) _ _ (Wk.mk _ _ [3] ?_ ?_ ?_ rfl)
  ·simp[vw,qr,rN]
  ·simp[vw,qr,hcx]
  ·simp
 ·obtain rfl:j=l.length:=by omega
  simp +decide only[↓vS,vT,simprocAttr,hlt,List.take_length];intro _;refine⟨[0],?_⟩;simp[vw,qr,wX]
theorem qb0{α:Type}(p:α->Bool):∀(l:List α) (j:Nat),decide (0<=qcu p l j)=l.any p
 | [],j=>by simp[qcu]
 | x::l,j=>by
  rw[qcu]
  by_cases h:p x=true
  ·simp[h]
  ·rw[if_neg h,qb0 p l (j+1)];simp[h]
def zb:IFn:=⟨[.tmp 4],.seq (.r [.m 4 (.k 0)]) (.seq (.seq (.r [.n 6 0,.e 7 6,.m 8 (.k 0)]) (.blk 0 (.loop (.seq (.r [.s 9 8 7]) (.seq (.cond (.t 9) (.skip) (.exit 0)) (.seq (.blk 1 (.seq (.r [.n 10 8,.n 5 10]) (.seq (.r [.n 11 1,.n 12 0,.n 13 5,.i 14 1 12 13,.d 15 14,.b 16 .eql 11 15]) (.cond (.t 16) (.seq (.r [.n 17 5,.n 4 17]) (.ret)) (.skip))))) (.r [.a 18 8 1,.n 8 18]))))))) (.seq (.r [.q 4 (.mov (.c (.i .i64 (-1))))]) (.ret)))⟩
def qct(x:Int):List Int->Nat->Int
 | [],_=>-1
 | y::ys,j=>if x=y then (j:Int) else qct x ys (j+1)
theorem qmG(hc:zp P f zb=true)(xs:List Int)(x:Int)(hl:xs.length<=qi):qp P f [.fz xs.length (rI .i64 xs),.i .i64 x] (.i .i64 (qct x xs 0)):=by
 refine qp.mk hc (by simp[qM,clo,qbe]) ?_;simp only[zb,vI,simprocAttr];simp only[↓vS,vT,simprocAttr];refine SL.loop (α:=Nat) (fun j=>[(0,.fz xs.length (rI .i64 xs)),(1,.i .i64 x),(7,.i .i64 xs.length),(8,.i .i64 j)]) (fun _=>[]) (fun j=>j<=xs.length∧qct x xs 0=qct x (xs.drop j) j) (fun j=>xs.length-j) 0 [] ?_ ?_ ?_ rfl ?_ ?_
 ·simp[vw,qbe]
 ·trivial
 ·simp
 ·simp
 rintro j ⟨hj,hI⟩ G ih;simp only[vI,simprocAttr]
 by_cases hlt:j<xs.length
 ·have hx:xs[j]?=some xs[j]:=zzE hlt;have hw:IntKind.wrap .i64 ((j:Int)+1)=(j:Int)+1:=jW (by omega) (by have:=hl;simp only[qi] at this;omega)
  rw[List.drop_eq_getElem_cons hlt,qct] at hI;simp only[↓vS,vT,simprocAttr,hlt,Nat.mul_one,qmc,hx,Option.map_some,hw];split
  ·rename_i he;simp only[he,vZ,if_true] at hI ⊢;simp[hI]
  ·rename_i he;rw[if_neg he] at hI;refine ih (j+1) ⟨by omega,hI⟩ (by omega) _ _ (Wk.mk _ _ [] ?_ ?_ ?_ rfl)
   ·simp[vw,qbe]
   ·trivial
   ·simp
 ·simp only[↓vS,vT,simprocAttr,hlt,vZ];rw[List.drop_eq_nil_of_le (by omega)] at hI;simp[hI,qct]
def qV(a:Nat):IFn:=⟨[.tmp 4],.seq (.r [.m 4 .F]) (.seq (.r [.n 5 0,.n 6 1,.l 7 a [.t 5,.t 6],.w 8 .geq 7 0,.n 4 8]) (.ret))⟩
theorem qiA{g:Nat}(hc:zp P f (qV g)=true)(hg:∀(xs:List Int) (x:Int),xs.length<=qi->qp P g [.fz xs.length (rI .i64 xs),.i .i64 x] (.i .i64 (qct x xs 0)))(x:Int):qp P f [.fz 4 (rI .i64 [90,110,100,161]),.i .i64 x] (.b (jf x)):=by
 refine qp.mk hc (by simp[qM,clo,qbe]) ?_;simp only[qV,vI,simprocAttr];simp only[↓vS,vT,simprocAttr];refine (hg [90,110,100,161] x (by decide)).sc ?_
 have hw:decide (0<=qct x [90,110,100,161] 0)=jf x:=by
  simp only[qct,jf]
  by_cases h1:x=90
  ·simp[h1]
  by_cases h2:x=110
  ·simp[h2]
  by_cases h3:x=100
  ·simp[h3]
  by_cases h4:x=161
  ·simp[h4]
  ·simp[h1,h2,h3,h4]
 simp only[↓vS,vT,simprocAttr];simp[vZ,← hw]
def vb(a:Nat):IFn:=⟨[.tmp 2],.seq (.r [.m 2 .F]) (.seq (.r [.q 3 (.buildS 4 [.i .i64 0] [(0,1,(.k 90)),(1,1,(.k 110)),(2,1,(.k 100)),(3,1,(.k 161))]),.n 4 0,.l 5 a [.t 3,.t 4],.n 2 5]) (.ret))⟩
theorem qmv{g:Nat}(hc:zp P f (vb g)=true)(hg:∀x,qp P g [.fz 4 (rI .i64 [90,110,100,161]),.i .i64 x] (.b (jf x)))(x:Int):qp P f [.i .i64 x] (.b (jf x)):=by
 refine qp.mk hc rfl ?_;simp only[vb,vI,simprocAttr];simp only[↓vS,vT,simprocAttr];refine (hg x).lend (vs':=[.fz 4 (rI .i64 [90,110,100,161]),.i .i64 x]) ?_ rfl ?_
 ·refine .cons _ _ _ _ (.cut 1 rfl (Nat.le_refl _) ?_) (.cons _ _ _ _ (.i _ _) .nil);simp[vw,rI]
 simp only[↓vS,vT,simprocAttr];simp[vZ]
def xe:IFn:=⟨[.tmp 2],.seq (.r [.m 2 .F]) (.seq (.r [.n 3 0,.w 4 .eql 3 90,.n 5 4,.z 6 0 5,.g 7 (.bin .eql (.t 6) (.k 100)) 5 false,.o 8 5 7,.n 9 8,.z 10 0 9,.g 11 (.bin .eql (.t 10) (.k 110)) 9 false,.o 12 9 11,.n 13 12,.z 14 0 13,.g 15 (.bin .eql (.t 14) (.k 161)) 13 false,.o 16 13 15,.n 2 16]) (.ret))⟩
theorem qog(hc:zp P f xe=true)(x:Int):qp P f [.i .i64 x] (.b (jf x)):=by
 refine qp.mk hc rfl ?_;simp only[xe,vI,simprocAttr]
 by_cases h1:x=90
 ·simp only[↓vS,vT,simprocAttr,h1];simp[vZ,jf]
 by_cases h2:x=100
 ·simp only[↓vS,vT,simprocAttr,h1,h2];simp[vZ,jf]
 by_cases h3:x=110
 ·simp only[↓vS,vT,simprocAttr,h1,h2,h3];simp[vZ,jf]
 by_cases h4:x=161
 ·simp only[↓vS,vT,simprocAttr,h1,h2,h3,h4];simp[vZ,jf]
 ·simp only[↓vS,vT,simprocAttr,h1,h2,h3,h4];simp[vZ,jf,h1,h2,h3,h4]
def zr(ns:List GNote):Bool:=ns.any fun n=>!jf n.err
def qX:IFn:=⟨[.tmp 4],.seq (.r [.m 4 (.k 0)]) (.seq (.seq (.r [.n 6 0,.e 7 6,.m 8 (.k 0)]) (.blk 0 (.loop (.seq (.r [.s 9 8 7]) (.seq (.cond (.t 9) (.skip) (.exit 0)) (.seq (.blk 1 (.seq (.r [.n 10 8,.n 5 10]) (.seq (.r [.n 11 1,.n 12 0,.n 13 5,.i 14 4 12 13,.v 15 4 14,⟨(some 16),.callV (.t 11) [.t 15],none⟩]) (.cond (.t 16) (.seq (.r [.n 17 5,.n 4 17]) (.ret)) (.skip))))) (.r [.a 18 8 1,.n 8 18]))))))) (.seq (.r [.q 4 (.mov (.c (.i .i64 (-1))))]) (.ret)))⟩
theorem qek(hc:zp P f qX=true):qf6 4 P f:=by
 intro α enc p g a c l hlen ha hc' hl hp;refine qp.mk hc (by simp[qM,clo,ha,hc']) ?_;simp only[qX,vI,simprocAttr];simp only[↓vS,vT,simprocAttr];refine SL.loop (α:=Nat) (fun j=>[(0,.fz l.length (l.flatMap enc)),(1,.fn g a c),(7,.i .i64 l.length),(8,.i .i64 j)]) (fun _=>[]) (fun j=>j<=l.length∧qcu p l 0=qcu p (l.drop j) j) (fun j=>l.length-j) 0 [] ?_ ?_ ?_ rfl ?_ ?_
 ·simp[vw,qr,ha,hc']
 ·trivial
 ·simp
 ·simp
 rintro j ⟨hj,hI⟩ G ih;simp only[vI,simprocAttr]
 by_cases hlt:j<l.length
 ·have hx:l[j]?=some l[j]:=zzE hlt;have hw:IntKind.wrap .i64 ((j:Int)+1)=(j:Int)+1:=jW (by omega) (by have:=hl;simp only[qi] at this;omega)
  have he:=qaG hlen hx;have hb:j*4+4<=(l.flatMap enc).length:=by rw[wu hlen];omega
  rw[List.drop_eq_getElem_cons hlt,qcu] at hI;simp only[↓vS,vT,simprocAttr,hlt,hb,he,hw];refine (hp l[j] (List.getElem_mem hlt)).sc ?_
  by_cases hpx:p l[j]=true
  ·rw[if_pos hpx] at hI;simp only[↓vS,vT,simprocAttr,hpx,vZ,hI]
  ·rw[if_neg hpx] at hI;simp only[↓vS,vT,simprocAttr,hpx,hw];refine ih (j+1) ⟨by omega,hI⟩ (by omega) _ _ (Wk.mk _ _ [] ?_ ?_ ?_ rfl)
   ·simp[vw,qr,ha,hc']
   ·trivial
   ·simp
 ·simp only[↓vS,vT,simprocAttr,hlt];rw[List.drop_eq_nil_of_le (by omega)] at hI;simp[hI,qcu,vZ]
def qQ(a:Nat):IFn:=⟨[.tmp 4],.seq (.r [.m 4 .F]) (.seq (.r [.n 5 0,.n 6 1,.l 7 a [.t 5,.t 6],.w 8 .geq 7 0,.n 4 8]) (.ret))⟩
theorem qgh{g:Nat}(hc:zp P f (qQ g)=true)(h:qf6 4 P g)(l:List GNote)(k:Nat)(p:GNote->Bool)(hk:∀c,qp P k [.agg (qE c)] (.b (p c)))(hl:l.length<=qi):qp P f [.fz l.length (rN l),.fn k [] []] (.b (l.any p)):=by
 refine qp.mk hc (by simp[qM,clo,xr]) ?_;simp only[qQ,vI,simprocAttr];simp only[↓vS,vT,simprocAttr];refine (h qE p k [] [] l wK rfl rfl hl fun x _=>hk x).sc ?_
 simp only[↓vS,vT,simprocAttr];simp[vZ,← qb0 p l 0]
def x8(a:Nat):IFn:=⟨[.tmp 2],.seq (.r [.q 1 (.box (.t 0)),.m 2 .F]) (.seq (.r [.f 3 2 1,.d 4 3,.l 5 a [.t 4],.q 6 (.un .not (.t 5)),.n 2 6]) (.ret))⟩
theorem qnq{g:Nat}(hc:zp P f (x8 g)=true)(hg:∀x,qp P g [.i .i64 x] (.b (jf x)))(n:GNote):qp P f [.agg (qE n)] (.b (!jf n.err)):=by
 refine qp.mk hc rfl ?_;simp only[x8,qE,vI,simprocAttr];simp only[↓vS,vT,simprocAttr];refine (hg n.err).sc ?_;simp only[↓vS,vT,simprocAttr];simp[vZ]
def jE(a b:Nat):IFn:=⟨[.tmp 2],.seq (.r [.m 2 .F]) (.seq (.r [.n 3 0,.l 4 a [.t 3,(.c (.fn b [] []))],.n 2 4]) (.ret))⟩
theorem qoc{g1 g2:Nat}(hc:zp P f (jE g1 g2)=true)(h1:∀(l:List GNote) (k:Nat) (p:GNote->Bool),(∀c,qp P k [.agg (qE c)] (.b (p c)))->l.length<=qi->qp P g1 [.fz l.length (rN l),.fn k [] []] (.b (l.any p)))
  (h2:∀n,qp P g2 [.agg (qE n)] (.b (!jf n.err))) (l:List GNote) (hl:l.length<=qi):qp P f [.fz l.length (rN l)] (.b (zr l)):=by
 refine qp.mk hc (by simp[qM,clo,xr]) ?_;simp only[jE,vI,simprocAttr];simp only[↓vS,vT,simprocAttr];refine (h1 l g2 _ h2 hl).sc ?_;simp only[↓vS,vT,simprocAttr];simp[vZ,zr]
def jZ(a:Nat):IFn:=⟨[.tmp 2],.seq (.r [.q 1 (.box (.t 0)),.m 2 .F]) (.seq (.r [.f 3 14 1,.d 4 3,.l 5 a [.t 4],.q 6 (.un .not (.t 5)),.n 2 6]) (.ret))⟩
theorem qoQ{g:Nat}(hc:zp P f (jZ g)=true)(hg:∀l:List GNote,l.length<=qi->qp P g [.fz l.length (rN l)] (.b (zr l)))(a:List AV)(ha:a.length=14)(hac:qM a=true)(l:List GNote)(hl:l.length<=qi):qp P f [.agg (w6 a l)] (.b (!zr l)):=by
 have hcr:qM (w6 a l)=true:=by rw[w6,xG,hac];simp[qM,clo,xr]
 have h14:(w6 a l)[14]?=some (.fz l.length (rN l)):=by rw[w6,List.getElem?_append_right (by omega),ha];rfl
 refine qp.mk hc (by simp[qM,clo,hcr]) ?_;generalize w6 a l=rp at h14 hcr ⊢;simp only[jZ,vI,simprocAttr];simp +decide only[↓vS,vT,simprocAttr,h14];refine (hg l hl).sc ?_;simp only[↓vS,vT,simprocAttr];simp[vZ]
end Go.Kc
end
