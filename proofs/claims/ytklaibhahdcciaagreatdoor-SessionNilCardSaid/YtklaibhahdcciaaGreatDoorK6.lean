/- Part 6 of the abstract machine and of the functions' walks. Conditions: with each theorem. -/
import Derived.Test.YtklaibhahdcciaaGreatDoorK5
import Derived.Lib.Bytealg
import Derived.Lib.Join
import Derived.Below
import Derived.Lib.AppendIntMem
import Derived.Lib.ItoaLen
set_option maxHeartbeats 4000000
set_option linter.unusedSectionVars false
set_option linter.unusedSimpArgs false
set_option linter.unusedVariables false
set_option linter.unnecessarySimpa false
section
namespace Go.Kc
variable [Cur]
variable {P:Program}
mutual
noncomputable def lkA:AV->AV->Bool
 | .b x,v=>match v with | .b y=>(x&&y)||(!x && !y)|_=>false
 | .i k n,v=>match v with | .i k' m=>Nat.beq (kOf k) (kOf k')&&qj8 n m|_=>false
 | .s x,v=>match v with | .s y=>eqS x y|_=>false
 | .nils,v=>match v with | .nils=>true|_=>false
 | .nilp,v=>match v with | .nilp=>true|_=>false
 | .nilf,v=>match v with | .nilf=>true|_=>false
 | .nili,v=>match v with | .nili=>true|_=>false
 | .nilm,v=>match v with | .nilm=>true|_=>false
 | .agg cs',v=>match v with | .agg cs=>qbw cs' cs|_=>false
 | .tup cs',v=>match v with | .tup cs=>qbw cs' cs|_=>false
 | .fz n cs',v=>match v with | .fz m cs=>Nat.beq n m&&qbw cs' cs|_=>false
 | _,_=>false
noncomputable def qbw:List AV->List AV->Bool
 | [],vs=>vs.isEmpty
 | v'::vs',vs=>match vs with|v::vs=>lkA v' v&&qbw vs' vs | []=>false
end
mutual
theorem qkk:∀(v' v:AV),lkA v' v=true->v'=v
 | .b x,v,hb=>by
  unfold lkA at hb;split at hb<;>first|(cases hb;done)|skip
  rename_i y;have:x=y:=by cases x<;>cases y<;>first|rfl|cases hb
  rw[this]
 | .i k n,v,hb=>by
  unfold lkA at hb;split at hb<;>first|(cases hb;done)|skip
  simp only[Bool.and_eq_true] at hb;rw[qdX hb.1,qdV hb.2]
 | .s x,v,hb=>by
  unfold lkA at hb;split at hb<;>first|(cases hb;done)|skip
  rw[qdQ hb]
 | .nils,v,hb=>by unfold lkA at hb;split at hb<;>first|(cases hb;done)|rfl
 | .nilp,v,hb=>by unfold lkA at hb;split at hb<;>first|(cases hb;done)|rfl
 | .nilf,v,hb=>by unfold lkA at hb;split at hb<;>first|(cases hb;done)|rfl
 | .nili,v,hb=>by unfold lkA at hb;split at hb<;>first|(cases hb;done)|rfl
 | .nilm,v,hb=>by unfold lkA at hb;split at hb<;>first|(cases hb;done)|rfl
 | .agg cs',v,hb=>by
  unfold lkA at hb;split at hb<;>first|(cases hb;done)|skip
  rw[jU cs' _ hb]
 | .tup cs',v,hb=>by
  unfold lkA at hb;split at hb<;>first|(cases hb;done)|skip
  rw[jU cs' _ hb]
 | .fz n cs',v,hb=>by
  unfold lkA at hb;split at hb<;>first|(cases hb;done)|skip
  simp only[Bool.and_eq_true] at hb;rw[Nat.eq_of_beq_eq_true hb.1,jU cs' _ hb.2]
 | .undef,v,hb=>by unfold lkA at hb;cases hb
 | .ptr _ _,v,hb=>by unfold lkA at hb;cases hb
 | .sl _ _ _ _ _,v,hb=>by unfold lkA at hb;cases hb
 | .fn _ _ _,v,hb=>by unfold lkA at hb;cases hb
 | .ifc _ _,v,hb=>by unfold lkA at hb;cases hb
 | .map _,v,hb=>by unfold lkA at hb;cases hb
 | .sym _,v,hb=>by unfold lkA at hb;cases hb
 | .pf _ _,v,hb=>by unfold lkA at hb;cases hb
 | .e0,v,hb=>by unfold lkA at hb;cases hb
 | .own _ _,v,hb=>by unfold lkA at hb;cases hb
 | .nz,v,hb=>by unfold lkA at hb;cases hb
 | .yl _,v,hb=>by unfold lkA at hb;cases hb
 | .lp _,v,hb=>by unfold lkA at hb;cases hb
theorem jU:∀(vs' vs:List AV),qbw vs' vs=true->vs'=vs
 | [],vs,hb=>by
  unfold qbw at hb;have:vs=[]:=by simpa using hb
  rw[this]
 | v'::vs',vs,hb=>by
  unfold qbw at hb;split at hb<;>first|(cases hb;done)|skip
  simp only[Bool.and_eq_true] at hb;rw[qkk v' _ hb.1,jU vs' _ hb.2]
end
mutual
noncomputable def xa(h:Hp):AV->AV->Bool
 | .b x,v=>match v with | .b y=>(x&&y)||(!x && !y)|_=>false
 | .i k n,v=>match v with | .i k' m=>Nat.beq (kOf k) (kOf k')&&qj8 n m|_=>false
 | .s x,v=>match v with | .s y=>eqS x y|_=>false
 | .nils,v=>match v with | .nils=>true|_=>false
 | .nilp,v=>match v with | .nilp=>true|_=>false
 | .nilf,v=>match v with | .nilf=>true|_=>false
 | .nili,v=>match v with | .nili=>true|_=>false
 | .nilm,v=>match v with | .nilm=>true|_=>false
 | .agg cs',v=>match v with | .agg cs=>zH h cs' cs|_=>false
 | .tup cs',v=>match v with | .tup cs=>zH h cs' cs|_=>false
 | .fz n cs',v=>match v with
  | .nils=>Nat.beq n 0&&cs'.isEmpty
  | .fz m cs=>Nat.beq n m&&qbw cs' cs
  | .sl b o m c _=>Nat.beq n m&&Nat.ble m c && !(Nat.beq c 0)&&(match h.tr.get b with|some (.cells _ true _ cs)=>Nat.ble (o+cs'.length) cs.length&&zH h cs' ((cs.drop o).take cs'.length)|_=>false)
  | .own b m=>Nat.beq n m&&(match h.tr.get b with|some (.cells _ true _ ys)=>(!(Nat.beq m 0)||ys.isEmpty)&&zH h cs' ys|_=>false)
  | _=>false
 | _,_=>false
noncomputable def zH(h:Hp):List AV->List AV->Bool
 | [],vs=>vs.isEmpty
 | v'::vs',vs=>match vs with|v::vs=>xa h v' v&&zH h vs' vs | []=>false
end
mutual
theorem qdU{h:Hp}:∀(v' v:AV),xa h v' v=true->Frz h v v'
 | .b x,v,hb=>by
  unfold xa at hb;split at hb<;>first|(cases hb;done)|skip
  rename_i y;have:y=x:=by cases x<;>cases y<;>first|rfl|cases hb
  subst this;exact .b _
 | .i k n,v,hb=>by
  unfold xa at hb;split at hb<;>first|(cases hb;done)|skip
  simp only[Bool.and_eq_true] at hb;obtain rfl:=qdX hb.1;obtain rfl:=qdV hb.2;exact .i _ _
 | .s x,v,hb=>by
  unfold xa at hb;split at hb<;>first|(cases hb;done)|skip
  obtain rfl:=qdQ hb;exact .s _
 | .nils,v,hb=>by unfold xa at hb;split at hb<;>first|(cases hb;done)|exact .nils
 | .nilp,v,hb=>by unfold xa at hb;split at hb<;>first|(cases hb;done)|exact .nilp
 | .nilf,v,hb=>by unfold xa at hb;split at hb<;>first|(cases hb;done)|exact .nilf
 | .nili,v,hb=>by unfold xa at hb;split at hb<;>first|(cases hb;done)|exact .nili
 | .nilm,v,hb=>by unfold xa at hb;split at hb<;>first|(cases hb;done)|exact .nilm
 | .agg cs',v,hb=>by
  unfold xa at hb;split at hb<;>first|(cases hb;done)|skip
  exact .agg _ _ (xF cs' _ hb)
 | .tup cs',v,hb=>by
  unfold xa at hb;split at hb<;>first|(cases hb;done)|skip
  exact .tup _ _ (xF cs' _ hb)
 | .fz n cs',v,hb=>by
  unfold xa at hb;split at hb<;>first|(cases hb;done)|skip
  ·simp only[Bool.and_eq_true] at hb;obtain rfl:=Nat.eq_of_beq_eq_true hb.1;have:cs'=[]:=by simpa using hb.2
   rw[this];exact .nilz
  ·simp only[Bool.and_eq_true] at hb;rw[Nat.eq_of_beq_eq_true hb.1,jU _ _ hb.2];exact .fz _ _
  ·simp only[Bool.and_eq_true] at hb;obtain⟨⟨⟨h1,h2⟩,h3⟩,h4⟩:=hb;obtain rfl:=Nat.eq_of_beq_eq_true h1;split at h4<;>first|(cases h4;done)|skip
   rename_i hg;simp only[Bool.and_eq_true] at h4;refine .sl _ _ _ _ _ _ _ _ cs'.length _ hg (Nat.le_of_ble_eq_true h2) (Nat.le_of_ble_eq_true h4.1) (fun h0=>?_) (xF cs' _ h4.2)
   subst h0;cases h3
  ·simp only[Bool.and_eq_true] at hb;obtain⟨h1,h4⟩:=hb;obtain rfl:=Nat.eq_of_beq_eq_true h1;split at h4<;>first|(cases h4;done)|skip
   rename_i hg;simp only[Bool.and_eq_true] at h4;refine .own _ _ _ _ _ _ hg (fun h0=>?_) (xF cs' _ h4.2)
   subst h0;simpa using h4.1
 | .undef,v,hb=>by unfold xa at hb;cases hb
 | .ptr _ _,v,hb=>by unfold xa at hb;cases hb
 | .sl _ _ _ _ _,v,hb=>by unfold xa at hb;cases hb
 | .fn _ _ _,v,hb=>by unfold xa at hb;cases hb
 | .ifc _ _,v,hb=>by unfold xa at hb;cases hb
 | .map _,v,hb=>by unfold xa at hb;cases hb
 | .sym _,v,hb=>by unfold xa at hb;cases hb
 | .pf _ _,v,hb=>by unfold xa at hb;cases hb
 | .e0,v,hb=>by unfold xa at hb;cases hb
 | .own _ _,v,hb=>by unfold xa at hb;cases hb
 | .nz,v,hb=>by unfold xa at hb;cases hb
 | .yl _,v,hb=>by unfold xa at hb;cases hb
 | .lp _,v,hb=>by unfold xa at hb;cases hb
theorem xF{h:Hp}:∀(vs' vs:List AV),zH h vs' vs=true->Frzs h vs vs'
 | [],vs,hb=>by
  unfold zH at hb;have:vs=[]:=by simpa using hb
  rw[this];exact .nil
 | v'::vs',vs,hb=>by
  unfold zH at hb;split at hb<;>first|(cases hb;done)|skip
  simp only[Bool.and_eq_true] at hb;exact .cons _ _ _ _ (qdU v' _ hb.1) (xF vs' _ hb.2)
end
abbrev zZ:=List (List AV×AV)
noncomputable def qdY(vs:List AV)(l:zZ):Option AV:=List.rec (motive:=fun _=>Option AV) none (fun e _ ih=>Bool.rec (motive:=fun _=>Option AV) ih (some e.2) (qbw e.1.reverse vs.reverse)) l
theorem qc1{vs:List AV}{v:AV}:∀{l:zZ},qdY vs l=some v->(vs,v) ∈ l
 | [],h=>by cases h
 | e::l,h=>by
  have h':(Bool.rec (motive:=fun _=>Option AV) (qdY vs l) (some e.2) (qbw e.1.reverse vs.reverse):Option AV)=some v:=h
  cases he:qbw e.1.reverse vs.reverse with
  | true =>
   rw[he] at h';have h2:e.2=v:=Option.some.inj h';have h1:=List.reverse_inj.1 (jU _ _ he);obtain⟨e1,e2⟩:=e;subst h1 h2;exact .head _
  | false=>rw[he] at h';exact .tail _ (qc1 h')
noncomputable def qi7(L:List (Nat×zZ)):qcv:=fun f vs=>List.rec (motive:=fun _=>Option AV) none (fun e _ ih=>Bool.rec (motive:=fun _=>Option AV) ih (qdY vs e.2) (Nat.beq e.1 f)) L
theorem qf5:∀{L:List (Nat×zZ)},(∀e ∈ L,∀q ∈ e.2,zf P e.1 q.1 q.2)->qbf P (qi7 L)
 | [],_=>fun _ _ _ h=>by cases h
 | e::L,hL=>fun f vs v h=>by
  have h':(Bool.rec (motive:=fun _=>Option AV) (qi7 L f vs) (qdY vs e.2) (Nat.beq e.1 f):Option AV)=some v:=h
  cases he:Nat.beq e.1 f with
  | true =>
   rw[he] at h';have e1:=Nat.eq_of_beq_eq_true he;have:=hL e (.head _) _ (qc1 h');rw[e1] at this;exact this
  | false=>rw[he] at h';exact qf5 (fun e' he'=>hL e' (.tail _ he')) f vs v h'
theorem qlt{f:Nat}:∀q ∈ ([]:zZ),zf P f q.1 q.2:=fun _ h=>by cases h
theorem qkd{f:Nat}{e:List AV×AV}{l:zZ}(h:zf P f e.1 e.2)(hl:∀q ∈ l,zf P f q.1 q.2):∀q ∈ e::l,zf P f q.1 q.2:=fun q hq=>by
 rcases List.mem_cons.1 hq with rfl|hq
 ·exact h
 ·exact hl q hq
theorem qls{f:Nat}{l m:zZ}(hl:∀q ∈ l,zf P f q.1 q.2)(hm:∀q ∈ m,zf P f q.1 q.2):∀q ∈ l++m,zf P f q.1 q.2:=fun q hq=>(List.mem_append.1 hq).elim (hl q) (hm q)

omit [Cur] in
theorem Gvs.of_frzs{h:Hp}:∀{vs vs':List AV},Frzs h vs vs'->Gvs h vs vs'
 | [],_,hf=>by cases hf;exact .nil
 | v::vs,_,hf=>by
  cases hf with
  | cons _ _ _ _ h1 h2=>exact .fz _ _ _ _ h1 (Gvs.of_frzs h2)
noncomputable def dbF(h:Hp):Nat->List AV->List (Nat×Blk)
 | 0,_=>[]
 | n+1,vs=>vs.flatMap fun v=>match v with
  | .own b _ | .sl b _ _ _ _ | .ptr b _=>(match h.tr.get b with|some (.cells e w a cs)=>(b,.cells e w a cs)::dbF h n cs|_=>[])
  | .agg cs=>dbF h n cs
  | .tup cs=>dbF h n cs
  | _=>[]
omit [Cur] in
theorem qa8{h:Hp}:∀{n:Nat} {vs:List AV},∀p ∈ dbF h n vs,h.tr.get p.1=some p.2
 | 0,_,p,hp=>by cases hp
 | n+1,vs,p,hp=>by
  unfold dbF at hp;obtain⟨v,_,hp⟩:=List.mem_flatMap.1 hp;split at hp
  case h_1 b _|h_2 b _ _ _ _|h_3 b _ =>
   split at hp
   ·rename_i hg;rcases List.mem_cons.1 hp with rfl|hp
    ·exact hg
    ·exact qa8 p hp
   ·cases hp
  ·exact qa8 p hp
  ·exact qa8 p hp
  ·cases hp
noncomputable def qbs(l:List (Nat×Blk)):Hp->(Hp->Prop)->Prop :=
 List.rec (motive:=fun _=>Hp->(Hp->Prop)->Prop) (fun h k=>k h) (fun p _ ih h k=>qY h p.1 .dead (fun h'=>ih h' k)) l
omit [Cur] in
theorem x9:∀{l:List (Nat×Blk)} {h:Hp} {k:Hp->Prop},qbs l h k↔(∀p ∈ l,h.fl<=p.1)∧k (qaF h l)
 | [],h,k=>⟨fun hk=>⟨fun _ hp=>(by cases hp),hk⟩,fun hk=>hk.2⟩
 | p::l,h,k=>by
  show qY h p.1 .dead (fun h'=>qbs l h' k)↔_
  rw[qC,x9];show h.fl<=p.1∧(∀q ∈ l,h.fl<=q.1)∧k (qaF (h.put p.1 .dead) l)↔_;simp only[List.forall_mem_cons,and_assoc];exact Iff.rfl
noncomputable def qaT(L:zZ)(vs:List AV)(h:Hp)(k:AV->Hp->Prop)(els:Prop):Prop :=
 List.rec (motive:=fun _=>Prop) els (fun e _ ih=>Bool.rec (motive:=fun _=>Prop) (Bool.rec (motive:=fun _=>Prop) ih (qbs (dbF h 4 vs) h (k e.2)) (zH ⟨h.sz,h.fl,trP (dbF h 4 vs)⟩ e.1 vs)) (k e.2 h) (Bool.and (flat e.2) (zH h e.1 vs))) L
theorem qaU{f:Nat}{vs:List AV}{h:Hp}{k:AV->Hp->Prop}{els:Prop}(he:els->SC P f vs h k):∀{L:zZ},(∀q ∈ L,zf P f q.1 q.2)->qaT L vs h k els->SC P f vs h k
 | [],_,hk=>he hk
 | e::L,hL,hk=>by
  have hk':(Bool.rec (motive:=fun _=>Prop) (Bool.rec (motive:=fun _=>Prop) (qaT L vs h k els) (qbs (dbF h 4 vs) h (k e.2)) (zH ⟨h.sz,h.fl,trP (dbF h 4 vs)⟩ e.1 vs)) (k e.2 h) (Bool.and (flat e.2) (zH h e.1 vs)):Prop):=hk
  cases hfl:Bool.and (flat e.2) (zH h e.1 vs) with
  | true =>
   rw[hfl] at hk';have h2:(flat e.2&&zH h e.1 vs)=true:=hfl;simp only[Bool.and_eq_true] at h2;exact zf.lend (hL e (.head _)) (xF _ _ h2.2) h2.1 hk'
  | false =>
   rw[hfl] at hk';have hk':(Bool.rec (motive:=fun _=>Prop) (qaT L vs h k els) (qbs (dbF h 4 vs) h (k e.2)) (zH ⟨h.sz,h.fl,trP (dbF h 4 vs)⟩ e.1 vs):Prop):=hk'
   cases hb:zH ⟨h.sz,h.fl,trP (dbF h 4 vs)⟩ e.1 vs with
   | false=>rw[hb] at hk';exact qaU he (fun q hq=>hL q (.tail _ hq)) hk'
   | true =>
    rw[hb] at hk';obtain⟨h1,h2⟩:=x9.1 hk';exact SC.give _ (fun p hp=>⟨qa8 p hp,h1 p hp⟩) (Gvs.of_frzs (xF _ _ hb)) (hL e (.head _) _ _ h2)
omit [Cur] in
theorem qh9{L:zZ}{vs:List AV}{h:Hp}{F:(AV->Hp->Prop)->Prop}(hF:L2 F):L2 (fun k=>qaT L vs h k (F k)):=by
 induction L with
 | nil=>exact hF
 | cons e L ih =>
  show L2 (fun k=>(Bool.rec (motive:=fun _=>Prop) (Bool.rec (motive:=fun _=>Prop) (qaT L vs h k (F k)) (qbs (dbF h 4 vs) h (k e.2)) (zH ⟨h.sz,h.fl,trP (dbF h 4 vs)⟩ e.1 vs)) (k e.2 h) (Bool.and (flat e.2) (zH h e.1 vs)):Prop))
  cases Bool.and (flat e.2) (zH h e.1 vs) with
  | true=>exact L2.ret _ _
  | false =>
   show L2 (fun k=>(Bool.rec (motive:=fun _=>Prop) (qaT L vs h k (F k)) (qbs (dbF h 4 vs) h (k e.2)) (zH ⟨h.sz,h.fl,trP (dbF h 4 vs)⟩ e.1 vs):Prop))
   cases zH ⟨h.sz,h.fl,trP (dbF h 4 vs)⟩ e.1 vs with
   | false=>exact ih
   | true=>exact fun k hk=>⟨_,_,(x9.1 hk).2,fun k' hk'=>x9.2 ⟨(x9.1 hk).1,hk'⟩⟩
structure HookG where
 a:qcv
 g:Nat->zZ
structure HookGOk (P:Program) (ho:HookG):Prop where
 a:qbf P ho.a
 g:∀f,∀q ∈ ho.g f,zf P f q.1 q.2
noncomputable def qdL(env:Tr IFn)(ho:HookG)(ih:jw)(f:Nat)(args:List AV)(h:Hp)(k:AV->Hp->Prop):Prop :=
 Option.rec (motive:=fun _=>Prop) (qaT (ho.g f) args h k (qaB env ih f args h k)) (fun v=>k v h) (ho.a f args)
omit [Cur] in
theorem qhF(env:Tr IFn)(ho:HookG){ih:jw}(hi:LB ih):LC (qdL env ho ih):=by
 intro f vs h;show L2 (fun k=>(Option.rec (motive:=fun _=>Prop) (qaT (ho.g f) vs h k (qaB env ih f vs h k)) (fun v=>k v h) (ho.a f vs):Prop))
 cases ho.a f vs with
 | none=>exact qh9 (qcD env hi f vs h)
 | some v=>exact L2.ret _ _
noncomputable def gvL(L:List (Nat×zZ))(f:Nat):zZ:=List.rec (motive:=fun _=>zZ) [] (fun e _ ih=>Bool.rec (motive:=fun _=>zZ) ih e.2 (Nat.beq e.1 f)) L
theorem qmW{L:List (Nat×zZ)}(hL:∀e ∈ L,∀q ∈ e.2,zf P e.1 q.1 q.2):∀f,∀q ∈ gvL L f,zf P f q.1 q.2:=by
 induction L with
 | nil=>intro f q hq;cases hq
 | cons e L ih =>
  intro f q hq;have hq':q ∈ (Bool.rec (motive:=fun _=>zZ) (gvL L f) e.2 (Nat.beq e.1 f):zZ):=hq
  cases he:Nat.beq e.1 f with
  | false=>rw[he] at hq';exact ih (fun e' h'=>hL e' (.tail _ h')) f q hq'
  | true =>
   rw[he] at hq';have e1:=Nat.eq_of_beq_eq_true he;subst e1;exact hL e (.head _) q hq'
abbrev z6:=Nat->Option (List Nat×ICode×ICode)
def tpl(j:Nat)(s:LoopState)(p:Option Code):Loop:={ state:=s,pending:=p,fn:=0,tmps:=#[],params:=#[],assign:=.goto j,body:=.skip,defers:=0 }
theorem xq.tpl{j:Nat}{r q:Loop}(hr:r.assign = .goto j)(h:xq r q)(s:LoopState)(p:Option Code):xq (Go.Kc.tpl j s p) { q with state:=s,pending:=p }:=by
 rcases h with⟨_,h0⟩|⟨j',h1,h2,_,_⟩
 ·exact absurd hr (h0 j)
 ·rw[hr] at h1;cases h1;exact .inr ⟨j,rfl,Cur.st s p h2,rfl,rfl⟩
noncomputable def qbx(t:Tr AV):Nat->Nat->List (Nat×AV)->(List (Nat×AV)->Prop)->Prop :=
 Tr.rec (motive:=fun _=>Nat->Nat->List (Nat×AV)->(List (Nat×AV)->Prop)->Prop) (fun _ _ acc k=>k acc)
  (fun v _ _ gl gr a m acc k=>qd (Nat.add a m) (fun a1=>qd (Nat.add a1 m) (fun a2=>qd (Nat.add m m) (fun m2 =>
   Option.rec (motive:=fun _=>Prop) (gl a1 m2 acc (fun acc=>gr a2 m2 acc k)) (fun x=>gl a1 m2 ((a,x)::acc) (fun acc=>gr a2 m2 acc k)) v)))) t
omit [Cur] in
theorem qbY{v:Option AV}{l r:Tr AV}{a m:Nat}{acc:List (Nat×AV)}{k:List (Nat×AV)->Prop}:qbx (.node v l r) a m acc k=qbx l (a+m) (m+m) (v.elim acc fun x=>(a,x)::acc) (fun acc=>qbx r (a+m+m) (m+m) acc k):=by
 have e:qbx (.node v l r) a m acc k=qd (Nat.add a m) (fun a1=>qd (Nat.add a1 m) (fun a2=>qd (Nat.add m m) (fun m2 =>
   Option.rec (motive:=fun _=>Prop) (qbx l a1 m2 acc (fun acc=>qbx r a2 m2 acc k)) (fun x=>qbx l a1 m2 ((a,x)::acc) (fun acc=>qbx r a2 m2 acc k)) v))):=rfl
 rw[e,qg,qg,qg];cases v<;>rfl
omit [Cur] in
theorem qar:∀(t:Tr AV) (a m:Nat) (acc:List (Nat×AV)) (k:List (Nat×AV)->Prop),qbx t a m acc k->∃l,k l∧(∀p ∈ l,p ∈ acc∨∃n,p.1=a+m*n∧t.get n=some p.2)∧∀k':List (Nat×AV)->Prop,k' l->qbx t a m acc k'
 | .leaf,_,_,acc,_,hk=>⟨acc,hk,fun _ hp=>.inl hp,fun _ hk'=>hk'⟩
 | .node v l r,a,m,acc,k,hk=>by
  rw[qbY] at hk;obtain⟨l1,h1,h2,h3⟩:=qar l _ _ _ _ hk;obtain⟨l2,h4,h5,h6⟩:=qar r _ _ _ _ h1;refine⟨l2,h4,fun p hp=>?_,fun k' hk'=>?_⟩
  ·rcases h5 p hp with hp|⟨n,e1,e2⟩
   ·rcases h2 p hp with hp|⟨n,e1,e2⟩
    ·cases v with
     | none=>exact .inl hp
     | some x =>
      rcases List.mem_cons.1 hp with rfl|hp
      ·exact .inr ⟨0,by simp,by rw[Tr.get_node]⟩
      ·exact .inl hp
    ·refine .inr ⟨2*n+1,by rw[e1,Nat.mul_add,Nat.mul_one,Nat.mul_left_comm,Nat.add_mul];omega,?_⟩
     rw[Tr.get_node];show (if 2*n % 2=0 then l.get (2*n / 2) else r.get (2*n / 2))=_
     rw[if_pos (by omega),show 2*n / 2=n from by omega];exact e2
   ·refine .inr ⟨2*n+2,by rw[e1,Nat.mul_add,Nat.mul_left_comm,Nat.add_mul];omega,?_⟩
    rw[Tr.get_node];show (if (2*n+1) % 2=0 then l.get ((2*n+1) / 2) else r.get ((2*n+1) / 2))=_
    rw[if_neg (by omega),show (2*n+1) / 2=n from by omega];exact e2
  ·rw[qbY];exact h3 _ (h6 _ hk')
noncomputable def qhT(es:List (AV×AV)):(List (Nat×AV)->Prop)->Prop :=
 List.rec (motive:=fun _=>(List (Nat×AV)->Prop)->Prop) (fun k=>k []) (fun e _ ih k=>match e.1 with
  | .i .i64 (.ofNat n)=>ih (fun ts=>k ((n,e.2)::ts))
  | _=>False) es
omit [Cur] in
theorem qcI:∀(es:List (AV×AV)) (k:List (Nat×AV)->Prop),qhT es k->∃ts,k ts∧es=ts.map (fun p=>(.i .i64 (Int.ofNat p.1),p.2))∧∀k':List (Nat×AV)->Prop,k' ts->qhT es k'
 | [],k,hk=>⟨[],hk,rfl,fun _ h=>h⟩
 | (.i .i64 (.ofNat n),e2)::es,k,hk=>by
  have hk':qhT es (fun ts=>k ((n,e2)::ts)):=hk
  obtain⟨ts,h1,h2,h3⟩:=qcI es _ hk';exact⟨(n,e2)::ts,h1,by rw[h2];rfl,fun k' h'=>h3 (fun ts=>k' ((n,e2)::ts)) h'⟩
noncomputable def qdB(h:Hp)(b:Nat)(k:Loop->List (Nat×AV)->Prop):Prop :=
 h.tr.getK b (fun x=>Blk.rec (motive:=fun _=>Prop) (fun _ _ _ _=>False) False (fun es=>List.rec (motive:=fun _=>Prop) False (fun e rest _=>match e.1 with
  | .lp r=>(match e.2 with | .undef=>qhT rest (fun ts=>k r ts)|_=>False)
  | _=>False) es) x)
omit [Cur] in
theorem jd{h:Hp}{b:Nat}{k:Loop->List (Nat×AV)->Prop}(hk:qdB h b k):∃r ts,h.tr.get b=some (.map (zJ r ts))∧k r ts∧∀k',k' r ts->qdB h b k':=by
 obtain⟨x,h1,h2⟩:=(Tr.getK_iff _ _ _).1 hk;cases x with
 | cells _ _ _ _=>exact h2.elim
 | dead=>exact h2.elim
 | map es =>
  cases es with
  | nil=>exact h2.elim
  | cons e rest =>
   obtain⟨e1,e2⟩:=e;cases e1<;>try exact (h2:False).elim
   rename_i r;cases e2<;>try exact (h2:False).elim
   obtain⟨ts,g1,g2,g3⟩:=qcI rest _ h2;exact⟨r,ts,by rw[h1,g2];rfl,g1,fun k' h'=>(Tr.getK_iff _ _ _).2 ⟨_,h1,g3 _ h'⟩⟩
noncomputable def qbZ(c:Code)(k:Nat->Prop):Prop:=match c with
 | .goto j=>k j
 | _=>False
omit [Cur] in
theorem jV{c:Code}{k:Nat->Prop}(hk:qbZ c k):∃j,c = .goto j∧k j:=by
 unfold qbZ at hk;split at hk
 ·exact⟨_,rfl,hk⟩
 ·exact hk.elim
noncomputable def qcm(s:LoopState)(p:Prop):Prop:=match s with
 | .ready=>p
 | _=>False
omit [Cur] in
theorem qdA{s:LoopState}{p:Prop}(hk:qcm s p):s = .ready∧p:=by
 unfold qcm at hk;split at hk
 ·exact⟨rfl,hk⟩
 ·exact hk.elim
noncomputable def qdN(s:LoopState)(p:Prop):Prop:=match s with
 | .busy=>False
 | _=>p
omit [Cur] in
theorem qbS{s:LoopState}{p:Prop}(hk:qdN s p):s≠.busy∧p:=by
 unfold qdN at hk;split at hk
 ·exact hk.elim
 ·rename_i h;exact⟨fun e=>h e,hk⟩
noncomputable def qg7(s:Option (List Nat×ICode×ICode))(k:List Nat->ICode->ICode->Prop):Prop:=match s with
 | some (ps,x,y)=>k ps x y
 | none=>False
omit [Cur] in
theorem qe8{s:Option (List Nat×ICode×ICode)}{k:List Nat->ICode->ICode->Prop}(hk:qg7 s k):∃ps x y,s=some (ps,x,y)∧k ps x y:=by
 unfold qg7 at hk;split at hk
 ·exact⟨_,_,_,rfl,hk⟩
 ·exact hk.elim
noncomputable def qkt(ts:List (Nat×AV)):(Tr AV->Prop)->Prop :=
 List.rec (motive:=fun _=>(Tr AV->Prop)->Prop) (fun k=>k .leaf) (fun p _ ih k=>ih (fun t=>t.setK p.1 p.2 k)) ts
omit [Cur] in
theorem qas:∀{ts:List (Nat×AV)} {k:Tr AV->Prop},qkt ts k↔k (mkT ts)
 | [],_=>Iff.rfl
 | p::ts,k=>by
  show qkt ts (fun t=>t.setK p.1 p.2 k)↔_
  rw[qas,Tr.setK_iff];rfl
noncomputable def qc4(ps:List Nat):List AV->Tr AV->(Tr AV->Prop)->Prop :=
 List.rec (motive:=fun _=>List AV->Tr AV->(Tr AV->Prop)->Prop) (fun _ t k=>k t) (fun p _ ih us t k=>List.rec (motive:=fun _=>Prop) False (fun u us _=>t.setK p u (fun t=>ih us t k)) us) ps
omit [Cur] in
theorem jX:∀{ps:List Nat} {us:List AV} {t:Tr AV} {k:Tr AV->Prop},qc4 ps us t k->k (qe3 ps us t)∧∀k':Tr AV->Prop,k' (qe3 ps us t)->qc4 ps us t k'
 | [],us,t,k,hk=>by cases us<;>exact⟨hk,fun _ h=>h⟩
 | p::ps,us,t,k,hk=>by
  cases us with
  | nil=>exact (hk:False).elim
  | cons u us =>
   have hk':t.setK p u (fun t=>qc4 ps us t k):=hk
   rw[Tr.setK_iff] at hk';obtain⟨h1,h2⟩:=jX hk';refine⟨h1,fun k' h'=>?_⟩
   show t.setK p u (fun t=>qc4 ps us t k')
   rw[Tr.setK_iff];exact h2 k' h'
noncomputable def qjr(xs ys:List AV):(List AV->Prop)->Prop:=List.rec (motive:=fun _=>(List AV->Prop)->Prop) (fun k=>k ys) (fun x _ ih k=>ih (fun l=>k (x::l))) xs
omit [Cur] in
theorem qag:∀{xs ys:List AV} {k:List AV->Prop},qjr xs ys k↔k (xs++ys)
 | [],_,_=>Iff.rfl
 | x::xs,ys,k=>by
  show qjr xs ys (fun l=>k (x::l))↔_
  rw[qag];rfl
noncomputable def ylR(lc:z6)(ih:jw)(b:Nat)(us:List AV)(h:Hp)(k:AV->Hp->Prop):Prop :=
 qdB h b (fun r ts=>qbZ r.assign (fun j=>qg7 (lc j) (fun ps ai bi=>qb (and (Nat.ble h.fl b) (and (Nat.ble (Nat.succ b) h.sz) (Nat.beq ps.length us.length)))
  (qkt ts (fun t=>qc4 ps us t (fun t=>ih ai (fun e t1 h1=>X.rec (motive:=fun _=>Prop)
   (qdB h1 b (fun r1 ts1=>qbZ r1.assign (fun j1=>qcm r1.state (qY h1 b (.map (zJ (tpl j1 .busy r1.pending) ts1)) (fun h2=>ih bi (fun e t3 h3 =>
    qdB h3 b (fun r3 ts3=>qbZ r3.assign (fun j3=>X.rec (motive:=fun _=>Prop)
     (qY h3 b (.map (zJ (tpl j3 .ready none) ts3)) (fun h4=>k (.b true) h4))
     (fun id=>qY h3 b (.map (zJ (tpl j3 .done (some (.exit id))) ts3)) (fun h4=>k (.b false) h4))
     (qY h3 b (.map (zJ (tpl j3 .done (some .ret)) ts3)) (fun h4=>k (.b false) h4)) e))) t1 h2)))))
   (fun _=>False) False e) t h))))))
noncomputable def qaP(env:Tr IFn)(ho:HookG)(lc:z6)(ih:jw):qw:=fun f args h k=>Nat.rec (motive:=fun _=>Prop)
 (match args with | .yl b::us=>ylR lc ih b us h k|_=>False) (fun f _=>qdL env ho ih f args h k) f
noncomputable def qdR(Q:X->Tr AV->Hp->Prop)(t:Tr AV)(p:Option Code)(h':Hp):Prop:=match p with
 | none=>Q .normal t h'
 | some .ret=>Q .ret t h'
 | some (.exit id)=>Q (.exit id) t h'
 | _=>False
noncomputable def qdP(b:Nat)(Q:X->Tr AV->Hp->Prop)(t:Tr AV)(h:Hp):Prop :=
 qdB h b (fun r _=>qdN r.state (qY h b .dead (fun h'=>qdR Q t r.pending h')))
noncomputable def rfR(env:Tr IFn)(ih:jw)(j:Nat)(t:Tr AV)(h:Hp)(Q:X->Tr AV->Hp->Prop)(g:AV):Prop:=match g with
 | .fn f first cap=>qb (Nat.ble h.fl h.sz) (qbx t 0 1 [] (fun ts=>qjr first (.yl h.sz::cap) (fun args=>qN h (.map (zJ (tpl j .ready none) ts)) (fun b h'=>qaB env ih f args h' (fun _ h''=>qdP b Q t h'')))))
 | _=>False
noncomputable def fr(env:Tr IFn)(ho:HookG)(lc:z6)(n:Nat):jw :=
 Nat.rec (motive:=fun _=>jw) (fun _ _ _ _=>False) (fun _ ih c Q t h=>match c with
  | .skip=>Q .normal t h
  | .reg draw ops=>x4 qi draw (qaP env ho lc ih) ops (fun t h=>Q .normal t h) t h
  | .rangeF j g _ _ _=>evK t g (fun v=>rfR env ih j t h Q v)
  | .seq x y=>ih x (fun e t h=>X.rec (motive:=fun _=>Prop) (ih y Q t h) (fun id=>Q (.exit id) t h) (Q .ret t h) e) t h
  | .cond c x y=>evK t c (fun v=>unB v (fun b=>Bool.rec (motive:=fun _=>Prop) (ih y Q t h) (ih x Q t h) b))
  | .blk id x=>ih x (fun e t h=>X.rec (motive:=fun _=>Prop) (Q .normal t h) (fun id'=>Bool.rec (motive:=fun _=>Prop) (Q (.exit id') t h) (Q .normal t h) (Nat.beq id' id)) (Q .ret t h) e) t h
  | .loop x=>ih x (fun e t h=>X.rec (motive:=fun _=>Prop) (ih (.loop x) Q t h) (fun id=>Q (.exit id) t h) (Q .ret t h) e) t h
  | .exit id=>Q (.exit id) t h
  | .ret=>Q .ret t h
  | .no=>False
  | .cut x=>ih x Q t h) n
omit [Cur] in
theorem qdC(h:Hp)(b:Nat):L2 (qdB h b):=fun _ hk=>by
 obtain⟨r,ts,_,h2,h3⟩:=jd hk;exact⟨r,ts,h2,h3⟩
omit [Cur] in
theorem qcj(c:Code):L1 (qbZ c):=fun k hk=>by
 obtain⟨j,rfl,h⟩:=jV hk;exact⟨j,h,fun _ h=>h⟩
omit [Cur] in
theorem qgX{α β:Type}(s:LoopState){F:(α->β->Prop)->Prop}(hF:L2 F):L2 (fun k=>qcm s (F k)):=by
 cases s<;>first|exact hF|exact L2.no
omit [Cur] in
theorem LB.l2{ih:jw}(hi:LB ih){α β:Type}(c:ICode)(t:Tr AV)(h:Hp){F:X->Tr AV->Hp->(α->β->Prop)->Prop}(hF:∀e t h,L2 (F e t h)):L2 (fun k=>ih c (fun e t h=>F e t h k) t h):=fun k hk=>by
 obtain⟨e,t',h',h1,h2⟩:=hi _ _ _ _ hk;obtain⟨x,y,h3,h4⟩:=hF e t' h' _ h1;exact⟨x,y,h3,fun k' hk'=>h2 _ (h4 k' hk')⟩
theorem qmH(lc:z6){ih:jw}(hi:LB ih)(b:Nat)(us:List AV)(h:Hp):L2 (ylR lc ih b us h):=by
 unfold ylR;refine L2.b2 (qdC h b) fun r ts=>L1.b2 (qcj _) fun j=>?_
 cases hl:lc j with
 | none=>exact L2.no
 | some x =>
  obtain⟨ps,ai,bi⟩:=x;refine L2.wh _ (L1.b2 (fun k hk=>⟨mkT ts,qas.1 hk,fun k' hk'=>qas.2 hk'⟩) fun t=>L1.b2 (fun k hk=>⟨_,(jX hk).1,(jX hk).2⟩) fun t=>hi.l2 ai t h fun e t1 h1=>?_)
  cases e with
  | exit id=>exact L2.no
  | ret=>exact L2.no
  | normal =>
   refine L2.b2 (qdC h1 b) fun r1 ts1=>L1.b2 (qcj _) fun j1=>qgX _ (L1.b2 (xJ h1 b _) fun h2=>hi.l2 bi t1 h2 fun e t3 h3=>L2.b2 (qdC h3 b) fun r3 ts3=>L1.b2 (qcj _) fun j3=>?_)
   cases e with
   | normal=>exact L1.b2 (xJ h3 b _) fun h4=>L2.ret _ _
   | exit id=>exact L1.b2 (xJ h3 b _) fun h4=>L2.ret _ _
   | ret=>exact L1.b2 (xJ h3 b _) fun h4=>L2.ret _ _
theorem jh(env:Tr IFn)(ho:HookG)(lc:z6){ih:jw}(hi:LB ih):LC (qaP env ho lc ih):=by
 intro f vs h;cases f with
 | succ f=>exact qhF env ho hi f vs h
 | zero =>
  cases vs with
  | nil=>exact L2.no
  | cons v us =>
   cases v<;>first|exact L2.no|exact qmH lc hi _ us h
omit [Cur] in
theorem qey{b:Nat}{Q:X->Tr AV->Hp->Prop}{t:Tr AV}{h:Hp}(hk:qdP b Q t h):∃e h',Q e t h'∧∀Q',Q' e t h'->qdP b Q' t h:=by
 obtain⟨r,ts,h1,h2,h3⟩:=jd hk;obtain⟨g1,g2⟩:=qbS h2;obtain⟨g3,g4⟩:=(qC _ _ _ _).1 g2
 have back:∀Q':X->Tr AV->Hp->Prop,qdR Q' t r.pending (h.put b .dead)->qdP b Q' t h:=fun Q' hq=>by
  refine h3 _ ?_;show qdN r.state (qY h b .dead (fun h'=>qdR Q' t r.pending h'))
  have hp:=(qC h b .dead (fun h'=>qdR Q' t r.pending h')).2 ⟨g3,hq⟩
  cases hs:r.state<;>first|exact absurd hs g1|exact hp
 cases hp:r.pending with
 | none =>
  rw[hp] at g4;exact⟨.normal,_,g4,fun Q' hq=>back Q' (by rw[hp];exact hq)⟩
 | some c =>
  rw[hp] at g4;cases c<;>first|exact (g4:False).elim|skip
  ·exact⟨.exit _,_,g4,fun Q' hq=>back Q' (by rw[hp];exact hq)⟩
  ·exact⟨.ret,_,g4,fun Q' hq=>back Q' (by rw[hp];exact hq)⟩
omit [Cur] in
theorem qiQ(env:Tr IFn){ih:jw}(hi:LB ih){j:Nat}{t:Tr AV}{h:Hp}{Q:X->Tr AV->Hp->Prop}{g:AV}(hk:rfR env ih j t h Q g):∃e h',Q e t h'∧∀Q',Q' e t h'->rfR env ih j t h Q' g:=by
 cases g<;>try exact (hk:False).elim
 rename_i f first cap
 obtain⟨g3,g4⟩:=(qa _ _).1 hk;obtain⟨ts,g5,_,g7⟩:=qar t 0 1 [] _ g4;rw[qag,qv] at g5;obtain⟨v,h',q1,q2⟩:=qcD env hi _ _ _ _ g5;obtain⟨e,h'',q3,q4⟩:=qey q1;refine⟨e,h'',q3,fun Q' hQ=>(qa _ _).2 ⟨g3,g7 _ ?_⟩⟩
 rw[qag,qv];exact q2 _ (q4 Q' hQ)
theorem qdq(env:Tr IFn)(ho:HookG)(lc:z6):∀n,LB (fr env ho lc n)
 | 0=>fun _ _ _ _ h=>h.elim
 | n+1=>fun c Q t h hk=>by
  have ih:=qdq env ho lc n;cases c with
  | no=>exact hk.elim
  | rangeF j g ps x y =>
   obtain⟨v,g1,g2⟩:=qf t g _ hk;obtain⟨e,h',q1,q2⟩:=qiQ env ih g1;exact⟨e,t,h',q1,fun Q' hQ=>g2 _ (q2 Q' hQ)⟩
  | cut x=>exact ih _ _ _ _ hk
  | skip=>exact⟨_,_,_,hk,fun _ h=>h⟩
  | exit id=>exact⟨_,_,_,hk,fun _ h=>h⟩
  | ret=>exact⟨_,_,_,hk,fun _ h=>h⟩
  | reg draw ops =>
   obtain⟨t',h',h1,h2⟩:=jJ qi draw (jh env ho lc ih) ops t h _ hk;exact⟨_,_,_,h1,fun Q' hQ=>h2 (fun t h=>Q' .normal t h) hQ⟩
  | seq x y =>
   obtain⟨e,t1,h1,g1,g2⟩:=ih _ _ _ _ hk;cases e with
   | normal =>
    obtain⟨e2,t2,h2,g3,g4⟩:=ih _ _ _ _ g1;exact⟨e2,t2,h2,g3,fun Q' hQ=>g2 (fun e t h=>X.rec (motive:=fun _=>Prop) (fr env ho lc n y Q' t h) (fun id=>Q' (.exit id) t h) (Q' .ret t h) e) (g4 _ hQ)⟩
   | exit id=>exact⟨_,t1,h1,g1,fun Q' hQ=>g2 (fun e t h=>X.rec (motive:=fun _=>Prop) (fr env ho lc n y Q' t h) (fun id=>Q' (.exit id) t h) (Q' .ret t h) e) hQ⟩
   | ret=>exact⟨_,t1,h1,g1,fun Q' hQ=>g2 (fun e t h=>X.rec (motive:=fun _=>Prop) (fr env ho lc n y Q' t h) (fun id=>Q' (.exit id) t h) (Q' .ret t h) e) hQ⟩
  | cond c x y =>
   obtain⟨v,g1,g2⟩:=qf t c _ hk;obtain⟨b,g3,g4⟩:=qaw v _ g1;cases b with
   | true =>
    obtain⟨e,t1,h1,g5,g6⟩:=ih _ _ _ _ g3;exact⟨e,t1,h1,g5,fun Q' hQ=>g2 (fun v=>unB v (fun b=>Bool.rec (motive:=fun _=>Prop) (fr env ho lc n y Q' t h) (fr env ho lc n x Q' t h) b)) (g4 (fun b=>Bool.rec (motive:=fun _=>Prop) (fr env ho lc n y Q' t h) (fr env ho lc n x Q' t h) b) (g6 _ hQ))⟩
   | false =>
    obtain⟨e,t1,h1,g5,g6⟩:=ih _ _ _ _ g3;exact⟨e,t1,h1,g5,fun Q' hQ=>g2 (fun v=>unB v (fun b=>Bool.rec (motive:=fun _=>Prop) (fr env ho lc n y Q' t h) (fr env ho lc n x Q' t h) b)) (g4 (fun b=>Bool.rec (motive:=fun _=>Prop) (fr env ho lc n y Q' t h) (fr env ho lc n x Q' t h) b) (g6 _ hQ))⟩
  | blk id x =>
   obtain⟨e,t1,h1,g1,g2⟩:=ih _ _ _ _ hk;cases e with
   | normal=>exact⟨_,t1,h1,g1,fun Q' hQ=>g2 (fun e t h=>X.rec (motive:=fun _=>Prop) (Q' .normal t h) (fun id'=>Bool.rec (motive:=fun _=>Prop) (Q' (.exit id') t h) (Q' .normal t h) (Nat.beq id' id)) (Q' .ret t h) e) hQ⟩
   | ret=>exact⟨_,t1,h1,g1,fun Q' hQ=>g2 (fun e t h=>X.rec (motive:=fun _=>Prop) (Q' .normal t h) (fun id'=>Bool.rec (motive:=fun _=>Prop) (Q' (.exit id') t h) (Q' .normal t h) (Nat.beq id' id)) (Q' .ret t h) e) hQ⟩
   | exit id' =>
    have g1':(Bool.rec (motive:=fun _=>Prop) (Q (.exit id') t1 h1) (Q .normal t1 h1) (Nat.beq id' id):Prop):=g1
    cases hb:Nat.beq id' id with
    | true =>
     rw[hb] at g1';refine⟨_,t1,h1,g1',fun Q' hQ=>g2 (fun e t h=>X.rec (motive:=fun _=>Prop) (Q' .normal t h) (fun id'=>Bool.rec (motive:=fun _=>Prop) (Q' (.exit id') t h) (Q' .normal t h) (Nat.beq id' id)) (Q' .ret t h) e) ?_⟩
     show (Bool.rec (motive:=fun _=>Prop) (Q' (.exit id') t1 h1) (Q' .normal t1 h1) (Nat.beq id' id):Prop)
     rw[hb];exact hQ
    | false =>
     rw[hb] at g1';refine⟨_,t1,h1,g1',fun Q' hQ=>g2 (fun e t h=>X.rec (motive:=fun _=>Prop) (Q' .normal t h) (fun id'=>Bool.rec (motive:=fun _=>Prop) (Q' (.exit id') t h) (Q' .normal t h) (Nat.beq id' id)) (Q' .ret t h) e) ?_⟩
     show (Bool.rec (motive:=fun _=>Prop) (Q' (.exit id') t1 h1) (Q' .normal t1 h1) (Nat.beq id' id):Prop)
     rw[hb];exact hQ
  | loop x =>
   obtain⟨e,t1,h1,g1,g2⟩:=ih _ _ _ _ hk;cases e with
   | normal =>
    obtain⟨e2,t2,h2,g3,g4⟩:=ih _ _ _ _ g1;exact⟨e2,t2,h2,g3,fun Q' hQ=>g2 (fun e t h=>X.rec (motive:=fun _=>Prop) (fr env ho lc n (.loop x) Q' t h) (fun id=>Q' (.exit id) t h) (Q' .ret t h) e) (g4 _ hQ)⟩
   | exit id=>exact⟨_,t1,h1,g1,fun Q' hQ=>g2 (fun e t h=>X.rec (motive:=fun _=>Prop) (fr env ho lc n (.loop x) Q' t h) (fun id=>Q' (.exit id) t h) (Q' .ret t h) e) hQ⟩
   | ret=>exact⟨_,t1,h1,g1,fun Q' hQ=>g2 (fun e t h=>X.rec (motive:=fun _=>Prop) (fr env ho lc n (.loop x) Q' t h) (fun id=>Q' (.exit id) t h) (Q' .ret t h) e) hQ⟩

def SR(P:Program)(rs:List ROp)(Q:Tr AV->Hp->Prop)(t:Tr AV)(h:Hp):Prop:=∃C,xm P σ0 C∧x4 qi false C rs Q t h
def SDf(P:Program)(n fd:Nat):ICode->(X->Tr AV->Hp->Prop)->Tr AV->Hp->Prop
 | .seq (.reg _ rsA) (.seq (.reg _ rsB) (.seq (.reg _ (r0::_)) y)),Q,t,h=>SR P rsA (fun t h=>SR P rsB (fun t h=>SR P [r0] (fun t h=>qcd fd r0 t∧S P n y Q t h) t h) t h) t h
 | _,_,_,_=>False
theorem SC.mkDS{f fd:Nat}{i:IFn}{vs:List AV}{h:Hp}{k:AV->Hp->Prop}(hc:wj P f fd i=true)(hV:SDf P h.sz fd i.body (qcJ i.res k) (jz vs 0 .leaf) h):SC P f vs h k:=by
 unfold wj at hc;simp only[Bool.and_eq_true] at hc;obtain⟨hquiet,hc⟩:=hc;split at hc<;>try (cases hc;done)
 rename_i rsA rsB r0 rest y hbody;rw[hbody] at hV;split at hc<;>try (cases hc;done)
 rename_i fn hfn;simp only[Bool.and_eq_true,bne_iff_ne] at hc;obtain⟨⟨hname,hc⟩,hres⟩:=hc;split at hc<;>try (cases hc;done)
 rename_i iA oA iB oB iD oD c hcb;simp only[Bool.and_eq_true] at hc;obtain⟨⟨⟨hA,hB⟩,hD⟩,hcode⟩:=hc;split at hD<;>try (cases hD;done)
 rename_i o0 o1 d hl hd0;simp only[Bool.and_eq_true] at hD;obtain⟨⟨⟨⟨⟨hr0,hg0⟩,hf0⟩,hf1⟩,hdef⟩,hdst⟩:=hD;have sD:oD = #[o0,o1]:=by rw[← Array.toList_inj];exact hl
 subst sD;have hdst:o1.dst=none:=by simpa using hdst
 refine⟨trivial,fun ρ B w args r ha=>.inl ⟨⟨fn,hfn,hname,by rw[hcb];rfl⟩,?_⟩⟩
 have r00:=r
 have ht:TR σ0 ρ (jz vs 0 .leaf) (args++Array.replicate (fn.ntmps-args.size) undef):=by
  intro j v hv;rcases qaA _ _ _ _ _ hv with⟨_,h3⟩|h3
  ·simp only[Nat.sub_zero] at h3;obtain⟨v',h4,h5⟩:=ha.get h3
   have hn:j<args.size:=by
    have:=(zzS.1 h4).1;simpa using this
   refine⟨by simp;omega,?_⟩
   have:(args++Array.replicate (fn.ntmps-args.size) undef).getD j undef=v':=by
    rw[Array.getD_eq_getD_getElem?,Array.getElem?_append_left hn];rw[Array.getElem?_toList] at h4;rw[h4];rfl
   rw[this];exact h5
  ·simp at h3
 have hsize:fn.ntmps<=(args++Array.replicate (fn.ntmps-args.size) undef).size:=by simp;omega
 refine (callsIn_wide (n:=0)).1 (callsIn_of_wp_marks hfn hcb trivial ?_ rfl);obtain⟨CA,hCA,hV⟩:=hV;refine wpIn_seq (wpIn_region ?_);have hreg:=fun K hK=>qaL (ops:=oA) (nt:=fn.ntmps) (ro:=none) (K:=K) (ρ0:=ρ) (h0:=h) (w0:=w) (ds:=[]) (jq P) hCA hK oA.toList rsA 0 hA rfl _ h ρ w { tmps:=args++Array.replicate (fn.ntmps-args.size) undef,defers:=[] } hV ht hsize rfl r (Kept.refl _ _ _ _)
 rw[List.range_eq_range'];refine hreg _ ?_;intro a0 w0 t0 h0 ρ0 hq0 ht0 hs0 hd0' r0' k0';obtain⟨CB,hCB,hq0⟩:=hq0;refine wpIn_seq (wpIn_region ?_);have hreg2:=fun K hK=>qaL (ops:=oB) (nt:=fn.ntmps) (ro:=none) (K:=K) (ρ0:=ρ) (h0:=h) (w0:=w) (ds:=[]) (jq P) hCB hK oB.toList rsB 0 hB rfl _ h0 ρ0 w0 a0 hq0 ht0 hs0 hd0' r0' k0'
 rw[List.range_eq_range'];refine hreg2 _ ?_;intro a1 w1 t1 h1 ρ1 hq1 ht1 hs1 hd1 r1 k1;refine wpIn_seq (wpIn_region ?_);have l2:List.range (#[o0,o1]:Array Oper).size=[0,1]:=rfl;have g0:(#[o0,o1]:Array Oper)[0]?=some o0:=rfl;have g1:(#[o0,o1]:Array Oper)[1]?=some o1:=rfl;rw[l2];simp only[wpOpsIn,g0,jR hf0,if_true];obtain⟨dst,rk,g⟩:=r0;simp only[qdm,Bool.and_eq_true] at hr0;obtain⟨⟨hc1,hc2⟩,hc3⟩:=hr0;have hgn:g=none:=by simpa using hg0
 subst hgn;obtain⟨CD,hCD,hq1⟩:=hq1;refine qg1 (draw:=false) (jq P) hCD r1 ht1 hc3 hq1 _ _ ?_;intro v v' h2 ρ2 w2 p1 p2 r2 k2;obtain⟨t2,q1,ht2⟩:=(ht1.mono (k2.mono r1.dom)).put hs1 hc1 p2 p1;obtain⟨⟨d',cs,q3,q4⟩,q2⟩:=q1;rw[hd0] at q3;cases q3;obtain⟨z1,z2⟩:=ht2 d _ q4;obtain⟨a',c',z3,z4,z5⟩:=z2.un_fn
 have ha':a' = #[]:=by
  generalize hL:a'.toList=L at z3;cases z3;rw[← Array.toList_inj,hL]
 subst ha';generalize hA1:a1.put o0.dst v'=A1 at ht2 z1 z5;have hsA:fn.ntmps<=A1.tmps.size:=by rw[← hA1,zB];exact hs1
 have hdA:A1.defers=[]:=by rw[← hA1,zA];exact hd1
 have hev:A1.eval (.tmp d) = .func (.func fd) #[] c':=z5;change (if Region.wanted o1 (yielded #[o0,o1] A1.tmps)=true then o1.wpIn (Fr none) 0 P A1 w2 _ _ else _)
 rw[if_pos (jR hf1 _)];refine⟨fun _ _=>trivial,?_⟩
 have hsem:(o1.semAt (Fr none).round A1.eval).run P w2 = .ok (.defer { target:=.fn (.func fd) c',args:=#[] }) w2:=qeG hdef hev w2;rw[hsem,Oper.uponIn_defer,hdst];have hle:h.sz<=h2.sz:=Nat.le_trans k1.szle k2.szle;have hw:=q2 fn.ntmps c hcode hle none (.inl rfl) ρ2 B w2 { A1 with defers:={ target:=.fn (.func fd) c',args:=#[] }::A1.defers } ht2 hsA r2;refine wpIn_mono hw ?_;rintro e a w' ⟨x,t',h',ρ',rs,hx,hq,ht',_,hd,hm,hr',hkept⟩;have hkk:Kep h.sz ρ B h w ρ' h' w':=((k1.trans k2).kep (Nat.le_refl _)).trans hkept;have hww:w.heap.size<=w2.heap.size:=(k1.trans k2).wle
 have hcod:(callFunc fd (#[]++c')).run P=fun w=>.ok (.enter fd (#[]++c')) w:=by
  funext w;have hq:=hquiet;unfold qal at hq;split at hq<;>try (cases hq;done)
  rename_i fn' hfn';simp only[Bool.and_eq_true,bne_iff_ne] at hq;obtain⟨⟨q5,_⟩,q6⟩:=hq;split at q6<;>try (cases q6;done)
  rename_i cc hcc;exact xu hfn' q5 (by rw[hcc];rfl) _ w
 have key:∀(k':AV->Hp->Prop),zM t' h' i.res (fun vs=>k' (zz vs) h')->LeavesInM (Fr none) 0 P fn a.tmps (fun e w'=>∃v v' h' ρ',e = .returned v'∧k' v h'∧VR σ0 ρ' v v'∧Rel σ0 ρ' B h' w'∧Kept ρ B h w ρ' h' w') a.defers .returning w':=by
  intro k' hq';rw[hd,hdA];have hB:Rel σ0 ρ' B h' w':=hr'.lessB fun k hk=>.inl hk
  refine qbu ?_ rs (fun r hr=>hm.at' r hr) hm.nodup (fun r hr hb=>absurd (r00.base r hb) (Nat.not_lt.2 (Nat.le_trans hww (hm.new r hr)))) hB (hkk.kept r00.dn.1)
  intro w3 hr3 hk3;refine⟨by simp,.inr ⟨fun hh=>(by cases hh),.func fd,c',fd,#[]++c',rfl,?_,fun _ _=>trivial,?_⟩⟩
  ·show (callFunc fd (#[]++c')).run P w3=_;rw[hcod]
  ·refine (qgV ρ hquiet (#[]++c') w3).mono ?_;rintro e u' w4 ⟨rfl,rfl,rfl⟩;obtain⟨v,v',e1,e2,e3⟩:=qbE hr3 ht' hres hq';exact⟨v',e3,v,v',h',ρ',rfl,e1,e2,hr3,hk3⟩
 cases hx with
 | exit id=>exact hq.elim
 | normal=>exact key k hq
 | ret=>exact key k hq
def qJ(lc:z6):ICode->Prop
 | .seq x y=>qJ lc x∧qJ lc y
 | .cond _ x y=>qJ lc x∧qJ lc y
 | .blk _ x=>qJ lc x
 | .loop x=>qJ lc x
 | .cut x=>qJ lc x
 | .rangeF j _ ps x y=>lc j=some (ps,x,y)∧zY x=true∧zY y=true
 | _=>True
omit [Cur] in
theorem qJ.of_no{lc:z6}:∀{c:ICode},zY c=true->qJ lc c
 | .seq x y,h=>by
  have h:=(Bool.and_eq_true _ _ ▸ h:zY x=true∧zY y=true);exact⟨qJ.of_no h.1,qJ.of_no h.2⟩
 | .cond _ x y,h=>by
  have h:=(Bool.and_eq_true _ _ ▸ h:zY x=true∧zY y=true);exact⟨qJ.of_no h.1,qJ.of_no h.2⟩
 | .blk _ x,h=>qJ.of_no (c:=x) h
 | .loop x,h=>qJ.of_no (c:=x) h
 | .cut x,h=>qJ.of_no (c:=x) h
 | .rangeF _ _ _ _ _,h=>by cases h
 | .skip,_=>trivial
 | .reg _ _,_=>trivial
 | .exit _,_=>trivial
 | .ret,_=>trivial
 | .no,_=>trivial
structure SitesOk (P:Program) (env:Tr IFn) (lc:z6):Prop where
 into:∀j ps x y r,lc j=some (ps,x,y)->LoopOk P r ps x y->Cur.ok j r
 out:∀j ps x y r,lc j=some (ps,x,y)->Cur.ok j r->LoopOk P r ps x y
 flat:∀j ps x y,lc j=some (ps,x,y)->zY x=true∧zY y=true
 node:∀f i,env.get f=some i->qJ lc i.body
omit [Cur] in
theorem qeu{f fd:Nat}{i:IFn}(hc:wj P f fd i=true):qaR P f:=by
 unfold wj at hc;simp only[Bool.and_eq_true] at hc;obtain⟨_,hc⟩:=hc;split at hc<;>try (cases hc;done)
 split at hc<;>try (cases hc;done)
 rename_i fn hfn;simp only[Bool.and_eq_true,bne_iff_ne] at hc;obtain⟨⟨hname,hc⟩,_⟩:=hc;split at hc<;>try (cases hc;done)
 rename_i hcb;exact⟨fn,hfn,hname,by rw[hcb];rfl⟩
def qbR(rsA rsB:List ROp)(d fd:Nat)(caps:List O)(y:ICode):ICode:=.seq (.reg false rsA) (.seq (.reg false rsB) (.seq (.reg false [⟨some d,.op (.mkF fd [] caps),none⟩]) y))
def wg(P:Program)(env:Tr IFn):Prop:=∀f i,env.get f=some i->xo P f i=true∨∃rsA rsB d fd caps y,i.body=qbR rsA rsB d fd caps y∧wj P f fd i=true
structure RunOk (P:Program) (lc:z6) (ih:jw):Prop where
 s:∀c,qJ lc c->∀Q t h,ih c Q t h->∀n,S P n c Q t h
 d:∀rsA rsB d fd caps y,qJ lc y->∀Q t h,ih (qbR rsA rsB d fd caps y) Q t h->∀n,SDf P n fd (qbR rsA rsB d fd caps y) Q t h
theorem wd{env:Tr IFn}{lc:z6}(he:wg P env)(hs:SitesOk P env lc){ih:jw}(hi:RunOk P lc ih){f:Nat}{vs:List AV}{h:Hp}{k:AV->Hp->Prop}(hk:qaB env ih f vs h k):SC P f vs h k:=by
 obtain⟨fn,g1,g2⟩:=(Tr.getK_iff _ _ _).1 hk;have hn:=hs.node f _ g1;cases fn with
 | mk res body =>
  have g3:=qbQ.1 g2;rcases he f _ g1 with hc|⟨rsA,rsB,d,fd,caps,y,hb,hc⟩
  ·exact SC.mk hc (hi.s _ hn _ _ _ g3 h.sz)
  ·have hb:body=qbR rsA rsB d fd caps y:=hb;subst hb;exact SC.mkDS hc (hi.d _ _ _ _ _ _ hn.2.2.2 _ _ _ g3 h.sz)
theorem xf{env:Tr IFn}{ho:HookG}{lc:z6}(he:wg P env)(hh:HookGOk P ho)(hs:SitesOk P env lc){ih:jw}(hi:RunOk P lc ih):xm P σ0 (qaP env ho lc ih):=by
 refine⟨fun f vs h k hk=>?_,fun b us h k hk=>?_⟩
 ·have hk':qdL env ho ih f vs h k:=hk;unfold qdL at hk';cases hv:ho.a f vs with
  | none=>rw[hv] at hk';exact qaU (fun hk=>wd he hs hi hk) (hh.g f) hk'
  | some v=>rw[hv] at hk';exact hh.a f vs v hv h k hk'
 ·have hk':ylR lc ih b us h k:=hk;obtain⟨r,ts,hg,h2,_⟩:=jd hk';obtain⟨j,hj,h2⟩:=jV h2;obtain⟨ps,ai,bi,hl,h2⟩:=qe8 h2;obtain⟨hb,h2⟩:=(qa _ _).1 h2;simp only[Bool.and_eq_true] at hb;obtain⟨b1,b2,b3⟩:=hb;rw[xL] at b1 b2;have b1:=of_decide_eq_true b1;have b2:=of_decide_eq_true b2;have b3:=Nat.eq_of_beq_eq_true b3;have h2:=(jX (qas.1 h2)).1;obtain⟨fa,fb⟩:=hs.flat j ps ai bi hl;refine SY.mkL hg (ps:=ps) (ai:=ai) (bi:=bi) (fun r' hl'=>?_) b1 b2 b3 ?_
  ·rcases hl' with⟨_,h0⟩|⟨j',e1,e2,_,_⟩
   ·exact absurd hj (h0 j)
   ·rw[hj] at e1;cases e1;exact hs.out j ps ai bi r' hl e2
  ·refine (hi.s ai (qJ.of_no fa) _ _ _ h2 h.sz).mono fun e t1 h1 hq=>?_
   cases e with
   | exit id=>exact hq
   | ret=>exact hq
   | normal =>
    obtain⟨r1,ts1,g1,hq,_⟩:=jd hq;obtain⟨j1,hj1,hq⟩:=jV hq;obtain⟨hr1,hq⟩:=qdA hq;obtain⟨_,hq⟩:=(qC _ _ _ _).1 hq;refine⟨r1,ts1,tpl j1 .busy r1.pending,g1,hr1,fun q hlq=>?_,?_⟩
    ·have e:tpl j1 .busy r1.pending=tpl j1 .busy q.pending:=by rw[hlq.pending]
     rw[e];exact xq.tpl hj1 hlq .busy q.pending
    ·refine (hi.s bi (qJ.of_no fb) _ _ _ hq h.sz).mono fun e t3 h3 hq=>?_
     obtain⟨r3,ts3,g3,hq,_⟩:=jd hq;obtain⟨j3,hj3,hq⟩:=jV hq;cases e with
     | normal =>
      obtain⟨_,hq⟩:=(qC _ _ _ _).1 hq;exact⟨r3,ts3,_,g3,fun q hlq=>xq.tpl hj3 hlq .ready none,hq⟩
     | exit id =>
      obtain⟨_,hq⟩:=(qC _ _ _ _).1 hq;exact⟨r3,ts3,_,g3,fun q hlq=>xq.tpl hj3 hlq .done (some (.exit id)),hq⟩
     | ret =>
      obtain⟨_,hq⟩:=(qC _ _ _ _).1 hq;exact⟨r3,ts3,_,g3,fun q hlq=>xq.tpl hj3 hlq .done (some .ret),hq⟩
theorem qmT{env:Tr IFn}{ho:HookG}{lc:z6}(he:wg P env)(hh:HookGOk P ho)(hs:SitesOk P env lc):∀m,(∀m',m'<m->RunOk P lc (fr env ho lc m'))->∀rsA rsB d fd caps y,qJ lc y->∀Q t h,fr env ho lc m (qbR rsA rsB d fd caps y) Q t h->∀n,SDf P n fd (qbR rsA rsB d fd caps y) Q t h
 | 0,_,_,_,_,_,_,_,_,_,_,_,h=>fun _=>h.elim
 | 1,_,_,_,_,_,_,_,_,_,_,_,h=>fun _=>h.elim
 | 2,_,_,_,_,_,_,_,_,_,_,_,h=>fun _=>by
  have h':x4 qi false _ _ (fun t h=>False) _ _:=h
  obtain⟨_,_,hf,_⟩:=jJ qi false (jh env ho lc (qdq env ho lc 0)) _ _ _ _ h';exact hf.elim
 | 3,_,_,_,_,_,_,_,_,_,_,_,h=>fun _=>by
  have h':x4 qi false _ _ (fun t h=>x4 qi false _ _ (fun t h=>False) t h) _ _:=h
  obtain⟨_,_,hf,_⟩:=jJ qi false (jh env ho lc (qdq env ho lc 1)) _ _ _ _ h';obtain⟨_,_,hf,_⟩:=jJ qi false (jh env ho lc (qdq env ho lc 0)) _ _ _ _ hf;exact hf.elim
 | m+4,hr,rsA,rsB,d,fd,caps,y,hy,Q,t,h,hq=>fun n=>by
  have hq:x4 qi false (qaP env ho lc (fr env ho lc (m+2))) rsA (fun t h=>x4 qi false (qaP env ho lc (fr env ho lc (m+1))) rsB (fun t h=>x4 qi false (qaP env ho lc (fr env ho lc m)) [⟨some d,.op (.mkF fd [] caps),none⟩] (fun t h=>fr env ho lc (m+1) y Q t h) t h) t h) t h:=hq
  obtain⟨t1,h1,q1,b1⟩:=jJ qi false (jh env ho lc (qdq env ho lc (m+2))) _ _ _ _ hq;obtain⟨t2,h2,q2,b2⟩:=jJ qi false (jh env ho lc (qdq env ho lc (m+1))) _ _ _ _ q1;have sA:=xf he hh hs (hr (m+2) (by omega));have sB:=xf he hh hs (hr (m+1) (by omega));have sD:=xf he hh hs (hr m (by omega));refine⟨_,sA,b1 _ ⟨_,sB,b2 _ ⟨_,sD,?_⟩⟩⟩;have q3:zn t2 caps (fun cs=>zm t2 (some d) (.fn fd [] cs) (fun t'=>fr env ho lc (m+1) y Q t' h2)):=q2
  obtain⟨cs,q4,b4⟩:=jF _ _ _ q3;show zn t2 caps (fun cs=>zm t2 (some d) (.fn fd [] cs) (fun t'=>qcd fd _ t'∧S P n y Q t' h2))
  refine b4 _ ?_;have q5:=(Tr.setK_iff (t:=t2) (n:=d) (x:=AV.fn fd [] cs) (k:=fun t'=>fr env ho lc (m+1) y Q t' h2)).1 q4
  refine (Tr.setK_iff (t:=t2) (n:=d) (x:=AV.fn fd [] cs) (k:=fun t'=>qcd fd _ t'∧S P n y Q t' h2)).2 ⟨⟨d,cs,rfl,by simp[Tr.get_set]⟩,?_⟩
  exact (hr (m+1) (by omega)).s y hy _ _ _ q5 n
theorem qcQ{env:Tr IFn}{ho:HookG}{lc:z6}(he:wg P env)(hh:HookGOk P ho)(hs:SitesOk P env lc):∀m,(∀m',m'<=m->RunOk P lc (fr env ho lc m'))∧(∀x,qJ lc x->∀Q t h,fr env ho lc m (.loop x) Q t h->∀n,SL P n x Q t h)
 | 0 => ⟨fun m' hm => by obtain rfl:m'=0:=by omega
                         exact⟨fun _ _ _ _ _ h=>h.elim,fun _ _ _ _ _ _ _ _ _ _ h=>h.elim⟩,fun _ _ _ _ _ h=>h.elim⟩
 | m+1=>by
  obtain⟨ihA,ihl⟩:=qcQ he hh hs m;have ihR:=ihA m (Nat.le_refl _);have ih:=ihR.s
  have loop:∀x,qJ lc x->∀Q t h,fr env ho lc (m+1) (.loop x) Q t h->∀n,SL P n x Q t h:=by
   intro x hx Q t h hv n;have hv':fr env ho lc m x (fun e t h=>onX e (fr env ho lc m (.loop x) Q t h) (fun id=>Q (.exit id) t h) (Q .ret t h)) t h:=hv
   refine SL.of_S ((ih _ hx _ _ _ hv' n).mono ?_);intro e t h hq;cases e with
   | normal=>exact ihl x hx Q t h hq n
   | exit id=>exact hq
   | ret=>exact hq
  refine⟨fun m' hm=>?_,loop⟩
  rcases Nat.lt_or_eq_of_le hm with hm|rfl
  ·exact ihA m' (by omega)
  refine⟨fun c hc Q t h hv n=>?_,qmT he hh hs (m+1) (fun m' hm=>ihA m' (by omega))⟩
  cases c with
  | no=>exact hv.elim
  | rangeF j g ps x y =>
   obtain⟨hl,hx,hy⟩:=hc;obtain⟨v,g1,g2⟩:=qf t g _ hv;cases v<;>try exact (g1:False).elim
   rename_i f first cap
   obtain⟨g3,g4⟩:=(qa _ _).1 g1;rw[xL] at g3;obtain⟨ts,g5,g6,_⟩:=qar t 0 1 [] _ g4;rw[qag,qv] at g5;refine S.rangeFL (ts:=ts) (by simpa using g3) (fun p hp=>?_) ⟨hx,hy⟩ (g2 _ ?_)
   ·rcases g6 p hp with hp|⟨n,e1,e2⟩
    ·cases hp
    ·rw[e1];simpa using e2
   ·obtain⟨fn,e1,e2⟩:=(Tr.getK_iff _ _ _).1 g5;refine⟨(he f _ e1).elim qfJ (fun⟨_,_,_,_,_,_,_,hc⟩=>qeu hc),fun r0 hr0 hp0 hlo=>⟨tpl j .ready none,.inr ⟨j,rfl,hs.into j ps x y r0 hl hlo,hr0,hp0⟩,?_⟩⟩
    refine (wd he hs ihR g5).mono fun _ h' hq=>?_
    obtain⟨r,ts',q1,q2,_⟩:=jd hq;obtain⟨q3,q4⟩:=qbS q2;obtain⟨_,q5⟩:=(qC _ _ _ _).1 q4;refine⟨r,ts',q1,q3,?_⟩;cases hp:r.pending with
    | none=>rw[hp] at q5;exact q5
    | some c=>rw[hp] at q5;cases c<;>exact q5
  | cut x =>
   have hv':fr env ho lc m x Q t h:=hv;exact zr (c:=.cut x) (ih x hc _ _ _ hv' n)
  | skip=>exact zr (c:=.skip) hv
  | exit id=>exact zr (c:=.exit id) hv
  | ret=>exact zr (c:=.ret) hv
  | reg d ops=>exact S.reg (jh env ho lc (qdq env ho lc m)) (xf he hh hs ihR) hv
  | seq x y =>
   have hv':fr env ho lc m x (fun e t h=>onX e (fr env ho lc m y Q t h) (fun id=>Q (.exit id) t h) (Q .ret t h)) t h:=hv
   refine S.seq ((ih _ hc.1 _ _ _ hv' n).mono ?_);intro e t h hq;cases e with
   | normal=>exact ih y hc.2 Q t h hq n
   | exit id=>exact hq
   | ret=>exact hq
  | cond c x y =>
   obtain⟨v,g1,g2⟩:=qf t c _ hv;refine S.cond (g2 _ ?_);obtain⟨b,g3,g4⟩:=qaw v _ g1;refine g4 _ ?_;cases b with
   | true=>exact ih _ hc.1 _ _ _ g3 n
   | false=>exact ih _ hc.2 _ _ _ g3 n
  | blk id x =>
   have hv':fr env ho lc m x (fun e t h=>X.rec (motive:=fun _=>Prop) (Q .normal t h) (fun id'=>Bool.rec (motive:=fun _=>Prop) (Q (.exit id') t h) (Q .normal t h) (Nat.beq id' id)) (Q .ret t h) e) t h:=hv
   refine S.blk ((ih x hc _ _ _ hv' n).mono ?_);intro e t h hq;cases e with
   | normal=>exact hq
   | ret=>exact hq
   | exit i =>
    have hq':(Bool.rec (motive:=fun _=>Prop) (Q (.exit i) t h) (Q .normal t h) (Nat.beq i id):Prop):=hq
    show (if i=id then _ else _)
    by_cases hi:i=id
    ·subst hi;rw[Nat.beq_refl] at hq';rw[if_pos rfl];exact hq'
    ·rw[if_neg hi];cases hb:Nat.beq i id with
     | true=>exact absurd (Nat.eq_of_beq_eq_true hb) hi
     | false=>rw[hb] at hq';exact hq'
  | loop x=>exact S.loop (loop x hc Q t h hv n)
theorem SC.runR{env:Tr IFn}{ho:HookG}{lc:z6}(he:wg P env)(hh:HookGOk P ho)(hs:SitesOk P env lc)(m:Nat){f:Nat}{vs:List AV}{h:Hp}{k:AV->Hp->Prop}(hk:qaP env ho lc (fr env ho lc m) (Nat.succ f) vs h k):SC P f vs h k:=(xf he hh hs ((qcQ he hh hs m).1 m (Nat.le_refl _))).1 f vs h k hk
end Go.Kc
end
section
namespace Go.Kc
@[reducible] def qlY (P:Program) (lc:z6):Cur:=⟨fun j r=>∃ps x y,lc j=some (ps,x,y)∧LoopOk P r ps x y,fun _ _ ⟨ps,x,y,h1,h2⟩=>⟨ps,x,y,h1,⟨h2.params,h2.code,h2.flat,h2.real⟩⟩⟩
inductive AllT (p:Nat->IFn->Bool):Nat->Nat->Tr IFn->Prop where
 | leaf (a b:Nat):AllT p a b .leaf
 | no (a b:Nat) {l r:Tr IFn}:AllT p (2*a) (a+b) l->AllT p (2*a) (2*a+b) r->AllT p a b (.node none l r)
 | fn (a b:Nat) {i:IFn} {l r:Tr IFn}:p b i=true->AllT p (2*a) (a+b) l->AllT p (2*a) (2*a+b) r->AllT p a b (.node (some i) l r)

theorem AllT.get{p:Nat->IFn->Bool}{a b:Nat}{t:Tr IFn}(h:AllT p a b t):∀n i,t.get n=some i->p (a*n+b) i=true:=by
 induction h with
 | leaf=>intro n i h;simp at h
 | no a b hl hr ihl ihr =>
  intro n i h;cases n with
  | zero=>rw[Tr.get_node] at h;cases h
  | succ m =>
   rcases Nat.mod_two_eq_zero_or_one m with h0|h0
   ·obtain⟨j,rfl⟩:∃j,m=2*j:=⟨m / 2,by omega⟩
    rw[Tr.get_node] at h;simp only[h0,if_true,Nat.mul_div_cancel_left j (Nat.zero_lt_two)] at h;have:=ihl j i h;rwa [show 2*a*j+(a+b)=a*(2*j+1)+b from by rw[Nat.mul_add,Nat.mul_one,← Nat.mul_assoc,Nat.mul_comm a 2];omega] at this
   ·obtain⟨j,rfl⟩:∃j,m=2*j+1:=⟨m / 2,by omega⟩
    rw[Tr.get_node] at h;simp only[h0,Nat.one_ne_zero,if_false,show (2*j+1) / 2=j from by omega] at h
    have:=ihr j i h;rwa [show 2*a*j+(2*a+b)=a*(2*j+1+1)+b from by rw[Nat.mul_add,Nat.mul_add,Nat.mul_one,← Nat.mul_assoc,Nat.mul_comm a 2];omega] at this
 | fn a b hc hl hr ihl ihr =>
  intro n i h;cases n with
  | zero=>rw[Tr.get_node] at h;cases h;simpa using hc
  | succ m =>
   rcases Nat.mod_two_eq_zero_or_one m with h0|h0
   ·obtain⟨j,rfl⟩:∃j,m=2*j:=⟨m / 2,by omega⟩
    rw[Tr.get_node] at h;simp only[h0,if_true,Nat.mul_div_cancel_left j (Nat.zero_lt_two)] at h;have:=ihl j i h;rwa [show 2*a*j+(a+b)=a*(2*j+1)+b from by rw[Nat.mul_add,Nat.mul_one,← Nat.mul_assoc,Nat.mul_comm a 2];omega] at this
   ·obtain⟨j,rfl⟩:∃j,m=2*j+1:=⟨m / 2,by omega⟩
    rw[Tr.get_node] at h;simp only[h0,Nat.one_ne_zero,if_false,show (2*j+1) / 2=j from by omega] at h
    have:=ihr j i h;rwa [show 2*a*j+(2*a+b)=a*(2*j+1+1)+b from by rw[Nat.mul_add,Nat.mul_add,Nat.mul_one,← Nat.mul_assoc,Nat.mul_comm a 2];omega] at this

noncomputable def qde(p:Nat->IFn->Bool):Tr IFn->Nat->Nat->Bool:=fun t=>Tr.rec (motive:=fun _=>Nat->Nat->Bool) (fun _ _=>true) (fun v _ _ il ir a b=>(match v with|none=>true|some i=>p b i)&&(il (2*a) (a+b)&&ir (2*a) (2*a+b))) t
theorem jM{p:Nat->IFn->Bool}:∀(t:Tr IFn) (a b:Nat),qde p t a b=true->AllT p a b t
 | .leaf,a,b,_=>.leaf a b
 | .node none l r,a,b,h=>by
  have h':(true&&(qde p l (2*a) (a+b)&&qde p r (2*a) (2*a+b)))=true:=h;simp only[Bool.and_eq_true] at h';exact .no a b (jM l _ _ h'.2.1) (jM r _ _ h'.2.2)
 | .node (some i) l r,a,b,h=>by
  have h':(p b i&&(qde p l (2*a) (a+b)&&qde p r (2*a) (2*a+b)))=true:=h;simp only[Bool.and_eq_true] at h';exact .fn a b h'.1 (jM l _ _ h'.2.1) (jM r _ _ h'.2.2)
def qd5(l:List (List Nat×ICode×ICode)):z6:=fun j=>l[j]?
theorem qmK{P:Program}{env:Tr IFn}{l:List (List Nat×ICode×ICode)}{L:List Nat}(hflat:(l.all fun x=>zY x.2.1&&zY x.2.2)=true)(hn:qde (fun n i=>zY i.body||L.any (Nat.beq n)) env 1 0=true)
  (hL:∀f ∈ L,∀i,env.get f=some i->qJ (qd5 l) i.body):@SitesOk (qlY P (qd5 l)) P env (qd5 l):=by
 letI:=qlY P (qd5 l)
 refine⟨fun j ps x y r h1 h2=>⟨ps,x,y,h1,h2⟩,fun j ps x y r h1 ⟨ps',x',y',h2,h3⟩=>?_,fun j ps x y h=>?_,fun f i hg=>?_⟩
 ·rw[h1] at h2;cases h2;exact h3
 ·have:=List.all_eq_true.1 hflat _ (zzM h);simpa using this
 ·have h:=(jM env 1 0 hn).get f i hg;rw[Nat.one_mul] at h;rcases (Bool.or_eq_true _ _ ▸ h:zY i.body=true∨L.any (Nat.beq (f+0))=true) with h|h
  ·exact qJ.of_no h
  ·obtain⟨g,hg1,hg2⟩:=List.any_eq_true.1 h;have:=Nat.eq_of_beq_eq_true hg2;exact hL f (by have e:f=g:=this;rw[e];exact hg1) i hg
def qdG(fd:Nat)(i:IFn):Bool:=match i.body with
 | .seq (.reg false _) (.seq (.reg false _) (.seq (.reg false [⟨some _,.op (.mkF g [] _),none⟩]) _))=>Nat.beq g fd
 | _=>false
theorem qmO{P:Program}{env:Tr IFn}{D:List (Nat×Nat)}(h:qde (fun n i=>xo P n i||D.any fun p=>Nat.beq p.1 n&&(qdG p.2 i&&wj P n p.2 i)) env 1 0=true):wg P env:=by
 intro f i hg;have h:=(jM env 1 0 h).get f i hg;rw[Nat.one_mul,Nat.add_zero] at h;rcases (Bool.or_eq_true _ _ ▸ h:xo P f i=true∨(D.any fun p=>Nat.beq p.1 f&&(qdG p.2 i&&wj P f p.2 i))=true) with h|h
 ·exact .inl h
 ·obtain⟨p,_,hp⟩:=List.any_eq_true.1 h;simp only[Bool.and_eq_true] at hp;obtain⟨_,h1,h2⟩:=hp;refine .inr ?_;unfold qdG at h1;split at h1<;>try (cases h1;done)
  rename_i rsA rsB d g caps y hb;have e:=Nat.eq_of_beq_eq_true h1;rw[e] at hb;exact⟨rsA,rsB,d,p.2,caps,y,hb,h2⟩
end Go.Kc
end
section
namespace Go.Kc
variable [Cur]
variable {P:Program}
noncomputable def qj6(a b:qcv):qcv:=fun f vs=>Option.rec (motive:=fun _=>Option AV) (b f vs) (fun v=>some v) (a f vs)
theorem qlp{a b:qcv}(ha:qbf P a)(hb:qbf P b):qbf P (qj6 a b):=fun f vs v h=>by
 have h':(Option.rec (motive:=fun _=>Option AV) (b f vs) (fun v=>some v) (a f vs):Option AV)=some v:=h
 cases hv:a f vs with
 | none=>rw[hv] at h';exact hb f vs v h'
 | some u=>rw[hv] at h';cases h';exact ha f vs v hv
theorem zf.runK{env:Tr IFn}{ho:HookG}{lc:z6}(he:wg P env)(hh:HookGOk P ho)(hs:SitesOk P env lc)(m:Nat){f:Nat}{vs:List AV}{v:AV}(hcl:qbM vs=true)(hk:qaP env ho lc (fr env ho lc m) (Nat.succ f) vs H0 (fun v' h'=>tt (xa h' v v'))=True):zf P f vs v :=
 zf.of_SC hcl ((SC.runR he hh hs m (of_eq_true hk)).mono fun _ _ hv=>qdU _ _ (qmx hv))
end Go.Kc
end
section
namespace Go.Kc
variable [Cur]
variable {P:Program} {f:Nat}
theorem qhd(h:qbp P f Extern.BytealgCount.count)(a:List UInt8)(c:UInt8):zf P f [.s a,.i .u8 (c.toNat:Int)] (.i .i64 ((a.count c:Nat):Int)):=by
 refine h.pure ?_;intro ρ args w ha;generalize hl:args.toList=l at ha;cases ha with
 | cons _ _ x xs hx hxs =>
  cases hxs with
  | cons _ _ y ys hy hys =>
   cases hys;cases hx;cases hy;obtain rfl:args = #[.string ⟨a.toArray⟩,.int .u8 (c.toNat:Int)]:=by cases args;simp_all
   refine⟨_,Lib.run_countString _ _ _,?_⟩;have:(c.toNat:Int).toNat.toUInt8=c:=by simp
   rw[this];exact .i _ _
end Go.Kc
end
section
namespace Go.Kc
variable [Cur]
section
variable {k:IntKind} {l m:List Int} {j:Nat}
end
def rS(l:List (List UInt8)):List AV:=l.map .s
section
variable {l m:List (List UInt8)} {j:Nat}
theorem qk1:(rS l).length=l.length:=by simp[rS]
theorem qk0:(rS l)[j]?=(l[j]?).map .s:=by simp[rS]
end
end Go.Kc
end
section
namespace Go.Kc
variable [Cur]
open Go.RowKit
variable {P:Program} {f:Nat}
def qhf(P:Program)(f:Nat):Prop :=
 (∀(a:Option Addr) (c:Nat) (sep:ByteArray) (w:World),Calls P f #[.slice a 0 c,.string sep] w fun e w'=>e = .returned (.string ⟨#[]⟩)∧w'=w) ∧
 ∀(bk o c:Nat) (xs:List ByteArray) (sep:ByteArray) (w:World),(∀(j:Nat) x,xs[j]?=some x->w.cell? ⟨bk,o+j,none⟩=some (.string x))->bk<w.heap.size->xs.length<=140737488355328->xs.length<=c->
  (Lib.join (xs.map (·.data.toList)) sep.data.toList).length<=140737488355328->
  Calls P f #[.slice (some ⟨bk,o,none⟩) xs.length c,.string sep] w fun e w'=>e = .returned (.string ⟨(Lib.join (xs.map (·.data.toList)) sep.data.toList).toArray⟩)∧Below w.heap.size w w'
theorem Rel.below{ρ:Ren}{B:Nat->Prop}{h:Hp}{w w':World}(r:Rel σ0 ρ B h w)(hb:Below w.heap.size w w'):Rel σ0 ρ B h w':=by
 have hget:∀{k o},w.heap[k]?=some o->w'.heap[k]?=some o:=fun {k o} hk=>by rw[hb.block k (Array.getElem?_eq_some_iff.1 hk).1];exact hk
 refine⟨r.dom,fun b L e wf af cs h1 h2=>?_,fun b L es h1 h2=>?_,r.excl,r.exclm,r.app,r.flr,fun k hk=>Nat.lt_of_lt_of_le (r.base k hk) hb.size,fun k arr hk=>?_,⟨r.dn.1,fun b L h=>Nat.lt_of_lt_of_le (r.dn.2 b L h) hb.size⟩⟩
 ·obtain⟨e1,c,ty,fz,e2,e3⟩:=r.cells b L e wf af cs h1 h2;exact⟨e1,c,ty,fz,hget e2,e3⟩
 ·obtain⟨e1,o,e2,e3⟩:=r.maps b L es h1 h2;exact⟨e1,o,hget e2,e3⟩
 ·obtain⟨⟨ty,fz,e1⟩,e2⟩:=r.frz k arr hk;exact⟨⟨ty,fz,hget e1⟩,e2⟩
theorem Kept.below{ρ:Ren}{B:Nat->Prop}{h:Hp}{w w':World}(r:Rel σ0 ρ B h w)(hb:Below w.heap.size w w'):Kept ρ B h w ρ h w' :=
 ⟨fun _ _=>rfl,Nat.le_refl _,rfl,fun _ _ _=>rfl,fun k hk=>hb.block k (r.base k hk),hb.size,⟨hb.os,hb.output⟩,fun _ _ h=>h,fun _ _ h=>.inl h,Nat.le_refl _⟩
def qi8(sep:List UInt8)(xs:List (List UInt8)):List UInt8:=Lib.join xs sep
def qlT(P:Program)(f:Nat):Prop:=∀(xs:List (List UInt8)) (sep:List UInt8),xs.length<=140737488355328->(qi8 sep xs).length<=140737488355328->zf P f [.fz xs.length (rS xs),.s sep] (.s (qi8 sep xs))
theorem qmb(hcod:qaR P f)(hK:qhf P f):qlT P f:=by
 intro xs sep hx hj h k hk;refine⟨trivial,fun ρ B w args r ha=>?_⟩
 generalize hA:args.toList=L at ha;cases ha with
 | cons _ _ _ _ a1 a2 =>
  rename_i v1 vs1;cases a2 with
  | cons _ _ _ _ b1 b2 =>
   rename_i v2 vs2;cases b2;have hargs:args = #[v1,v2]:=by apply Array.ext';rw[hA]
   have e2:=b1.un_s;subst hargs e2;rcases a1.un_fz with⟨q,off,c,arr,rfl,hc,hq,hcs⟩|⟨h0,_,a,rfl⟩
   ·obtain⟨⟨ty,fz,hw⟩,_⟩:=r.frz q arr hq;have hl:xs.length=(xs.map fun x=>(⟨x.toArray⟩:ByteArray)).length:=by simp
    have hm:(xs.map fun x=>(⟨x.toArray⟩:ByteArray)).map (·.data.toList)=xs:=by
     rw[List.map_map];exact List.map_id' _
    have key:=hK.2 q off c (xs.map fun x=>⟨x.toArray⟩) ⟨sep.toArray⟩ w ?_ (Array.getElem?_eq_some_iff.1 hw).1 (by rw[← hl];exact hx) (by rw[← hl];exact hc) (by rw[hm];exact hj)
    ·rw[hm,← hl] at key;refine .inl ⟨hcod,key.mono ?_⟩;rintro e w' ⟨rfl,hb⟩;exact⟨_,_,h,ρ,rfl,hk,.s _,r.below hb,Kept.below r hb⟩
    ·intro j x hjx;rw[List.getElem?_map] at hjx;cases hxj:xs[j]? with
     | none=>rw[hxj] at hjx;cases hjx
     | some y =>
      rw[hxj] at hjx;cases hjx;obtain⟨v,h1,h2⟩:=hcs.get (j:=j) (a:=.s y) (by rw[qk0,hxj];rfl);cases h2;have hjl:j<(rS xs).length:=by rw[qk1];exact (zzS.1 hxj).1
      rw[List.getElem?_take,if_pos hjl,List.getElem?_drop,Array.getElem?_toList] at h1;show (match w.heap[q]? with|some (.cells c _ _)=>if (none:Option _).isSome then none else c[off+j]? | _=>none)=_
      rw[hw];exact h1
   ·have hnil:xs=[]:=List.eq_nil_of_length_eq_zero h0;subst hnil;refine .inl ⟨hcod,(hK.1 a 0 ⟨sep.toArray⟩ w).mono ?_⟩;rintro e w' ⟨rfl,rfl⟩;exact⟨_,_,h,ρ,rfl,hk,.s _,r,Kept.refl _ _ _ _⟩
end Go.Kc
end
section
namespace Go.Kc
variable [Cur]
structure GCall where
 name:List UInt8
 act:Int
structure GNote where
 file:List UInt8
 line:Int
 err:Int
 text:List UInt8
section
variable {l m:List GCall} {j:Nat}
end
section
variable {l m:List GNote} {j:Nat}
end
end Go.Kc
end
section
namespace Go.Kc
variable [Cur]
open Go.RowKit Go.Sort
variable {P:Program} {f:Nat}
def qkX:Array Value:=(Lib.pow10Tab.map fun z=>Value.int .u64 z).toArray
def qfc(P:Program)(f:Nat):Prop:=∀n:Int,-9223372036854775808<=n->n<=9223372036854775807->∀w:World,Lib.TabIs P w "internal/strconv.uint64pow10" .u64 Lib.pow10Tab->
 Calls P f #[.int .i64 n] w fun e w'=>e = .returned (.string ⟨(Lib.itoa n).toArray⟩)∧∃k os,w'=grow (w.drewN k) os
def qjC(P:Program)(f:Nat):Prop:=∀n:Int,-9223372036854775808<=n->n<=9223372036854775807->zf P f [.i .i64 n] (.s (Lib.itoa n))
theorem qlr{g:Nat}(hcod:qaR P f)(hg:P.globalNamed "internal/strconv.uint64pow10" = some g)(ht:tab g=some qkX)(hK:qfc P f):qjC P f:=by
 intro n h0 h1 h k hk;refine⟨trivial,fun ρ B w args r ha=>?_⟩
 generalize hA:args.toList=L at ha;cases ha with
 | cons _ _ _ _ a1 a2 =>
  rename_i v1 vs1;cases a2;have hargs:args = #[v1]:=by apply Array.ext';rw[hA]
  subst hargs;cases a1;obtain⟨⟨ty,fz,hw⟩,_⟩:=r.frz g _ (ρ.frz.ok g _ ht)
  have htab:Lib.TabIs P w "internal/strconv.uint64pow10" .u64 Lib.pow10Tab:=by
   unfold Lib.TabIs World.var?;rw[hg];show (match w.heap[g]? with|some (.cells cs _ _)=>some cs|_=>none)=_
   rw[hw];rfl
  refine .inl ⟨hcod,(hK n h0 h1 w htab).mono ?_⟩;rintro e w' ⟨rfl,q,os,rfl⟩;have hb:=Lib.below_grow w.heap.size w (Nat.le_refl _) q os;exact⟨_,_,h,ρ,rfl,hk,.s _,r.below hb,Kept.below r hb⟩
end Go.Kc
end
section
namespace Go.Kc
variable [Cur]
variable {P:Program} {f:Nat}






def qD:IFn:=⟨[.tmp 2],.seq (.r [.m 2 .F]) (.seq (.r [.n 3 0,.q 4 (.eqN false .ptr (.t 3)),.n 5 4,.z 6 0 5,.g 7 (.nilChk (.t 6)) 5 false,.h 8 0 7 5 false,.j 9 8 5 false,.g 10 (.un .not (.t 9)) 5 false,.o 11 5 10,.n 12 11,.z 13 0 12,.g 14 (.nilChk (.t 13)) 12 false,.h 15 1 14 12 false,.j 16 15 12 false,.o 17 12 16,.n 2 17]) (.ret))⟩
def qM(a b c d e g h:Nat):IFn:=⟨[.tmp 4],.seq (.r [.m 4 .N]) (.seq (.seq (.r [.n 8 0,.l 9 a [.t 8]]) (.cond (.t 9) (.seq (.r [.m 4 .N]) (.ret)) (.skip))) (.seq (.seq (.r [.n 10 1,.q 11 (.len true (.t 10)),.w 12 .gtr 11 2000,.n 13 12,.z 14 1 13,⟨(some 15),.callF b [.t 14,(.c (.s [10]))],(some (13,false))⟩,.o 16 13 15]) (.cond (.t 16) (.seq (.r [.l 17 c [.k 3],.n 4 17]) (.ret)) (.skip))) (.seq (.r [.n 18 1,.l 19 d [.t 18,(.c (.s [32]))],.l 20 e [.t 19,(.c (.fn g [] []))],.n 5 20]) (.seq (.seq (.r [.n 21 5,.e 22 21,.w 23 .eql 22 0]) (.cond (.t 23) (.seq (.r [.m 4 .N]) (.ret)) (.skip))) (.seq (.reg true [.l 25 h [],.n 26 5,.q 27 (.iAddrS 1 (.t 26) (.k 0)),.d 28 27,.q 29 (.lookM none true (.agg [.i .i64 0,.i .i64 0,.nilf]) (.t 25) (.t 28)),.n 24 29,.x 30 24 0,.x 31 24 1,.q 6 (.alloc [.i .i64 0,.i .i64 0,.nilf]),.u (.store 3 (.t 6) (.t 30)),.n 7 31]) (.seq (.seq (.r [.n 32 7,.q 33 (.un .not (.t 32)),.n 34 33,.z 35 5 34,.g 36 (.len false (.t 35)) 34 false,.g 37 (.bin .sub (.t 36) (.k 1)) 34 false,.h 38 0 6 34 false,.j 39 38 34 false,.g 40 (.bin .lss (.t 37) (.t 39)) 34 false,.o 41 34 40,.n 42 41,.z 43 5 42,.g 44 (.len false (.t 43)) 42 false,.g 45 (.bin .sub (.t 44) (.k 1)) 42 false,.h 46 1 6 42 false,.j 47 46 42 false,.g 48 (.bin .gtr (.t 45) (.t 47)) 42 false,.o 49 42 48]) (.cond (.t 49) (.seq (.r [.l 50 c [.k 2],.n 4 50]) (.ret)) (.skip))) (.seq (.reg true [.f 51 2 6,.d 52 51,.n 53 0,.n 54 5,.q 55 (.slcS 1 (.t 54) (some (.k 1)) none none),.n 56 1,⟨(some 57),.callV (.t 52) [.t 53,.t 55,.t 56],none⟩,.n 4 57]) (.ret))))))))⟩
def zo(a b c:Nat):IFn:=⟨[.tmp 2],.seq (.r [.m 2 .F]) (.seq (.seq (.r [.n 5 0,.q 6 (.len true (.t 5)),.w 7 .gtr 6 2100]) (.cond (.t 7) (.seq (.r [.m 2 .T]) (.ret)) (.skip))) (.seq (.r [.m 3 (.c (.nilp))]) (.seq (.r [.q 8 (.build [.b false,.b false,.nilp,.nils,.nilp,.nilp] []),.q 9 (.box (.t 8)),.n 4 9]) (.seq (.r [.n 10 3,.n 11 0,.l 12 a [.t 10,.t 11],.e 13 12,.w 14 .eql 13 0,.n 15 14,.y 16 4 15,.y 17 0 15,⟨(some 18),.callF a [.t 16,.t 17],(some (15,true))⟩,.g 19 (.len false (.t 18)) 15 true,.g 20 (.bin .eql (.t 19) (.k 0)) 15 true,.p 21 15 20,.n 22 21,.y 23 3 22,⟨(some 24),.callF b [.t 23],(some (22,true))⟩,.p 25 22 24,.n 26 25,.y 27 4 26,⟨(some 28),.callF b [.t 27],(some (26,true))⟩,.p 29 26 28,.n 30 29,⟨(some 31),.callF c [],(some (30,true))⟩,.p 32 30 31,.n 2 32]) (.ret)))))⟩
theorem qlZ(hc:xo P f qD=true):zf P f [.nilp] (.b true):=by
 refine zf.mk hc rfl ?_;simp only[qD,vI,simprocAttr];simp +decide only[↓vS,vT,simprocAttr];simp[vZ]
section
variable {g1 g2 g3 g4 g5 g6 g7:Nat}
theorem qmh(hc:xo P f (qM g1 g2 g3 g4 g5 g6 g7)=true)(h1:zf P g1 [.nilp] (.b true))(l:List UInt8):zf P f [.nilp,.s l] .nils:=by
 refine zf.mk hc rfl ?_;simp only[qM,vI,simprocAttr];simp +decide only[↓vS,vT,simprocAttr];refine h1.sc ?_;simp +decide only[↓vS,vT,simprocAttr];simp[vZ]
theorem qmX{d a fL:Nat}(hc:xo P f (zo fL d a)=true)(hL:xo P fL (qM d g2 g3 g4 g5 g6 g7)=true)(hD:xo P d qD=true)(ha:zf P a [] (.b true))(l:List UInt8):zf P f [.s l] (.b true):=by
 refine zf.mk hc rfl ?_;have hd:=qlZ hD;have hl:=qmh hL hd l;simp only[zo,vI,simprocAttr]
 by_cases h0:2100<l.length
 ·have h0':(2100:Int)<l.length:=by omega
  simp +decide only[↓vS,vT,simprocAttr,h0'];simp[vZ]
 have h0':¬(2100:Int)<l.length:=by omega
 simp +decide only[↓vS,vT,simprocAttr,h0'];refine hl.sc ?_;simp +decide only[↓vS,vT,simprocAttr];refine SC.mk hL (zr ?_);simp only[qM,vI,simprocAttr];simp +decide only[↓vS,vT,simprocAttr];refine SC.mk hD (zr ?_);simp only[qD,vI,simprocAttr];simp +decide only[↓vS,vT,simprocAttr];refine hd.sc ?_;simp +decide only[↓vS,vT,simprocAttr];refine SC.mk hD (zr ?_);simp only[qD,vI,simprocAttr];simp +decide only[↓vS,vT,simprocAttr];refine ha.sc ?_;simp +decide only[↓vS,vT,simprocAttr];simp[vZ]
end
end Go.Kc
end
