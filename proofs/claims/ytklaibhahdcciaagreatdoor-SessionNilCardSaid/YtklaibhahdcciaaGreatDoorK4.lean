/- Part 4 of the abstract machine and of the functions' walks. Conditions: with each theorem. -/
import Derived.Test.YtklaibhahdcciaaGreatDoorK3
set_option maxHeartbeats 4000000
set_option linter.unusedSectionVars false
set_option linter.unusedSimpArgs false
set_option linter.unusedVariables false
set_option linter.unnecessarySimpa false
section
namespace Go.Kc
variable [Cur]
variable {σ:Nat->Value} {ρ ρ':Ren} {P:Program} {orc:Orc}

def cut(ρ:Ren)(n:Nat):Ren:=⟨fun b=>if b<n then ρ b else none,ρ.frz,min ρ.n n⟩
omit [Cur] in
theorem qU{ρ:Ren}{n b:Nat}{L:Loc}(h:cut ρ n b=some L):b<n∧ρ b=some L:=by
 simp only[cut] at h;simp_all
omit [Cur] in
theorem qP{ρ:Ren}{n b:Nat}(h:b<n):cut ρ n b=ρ b:=by simp only[cut];rw[if_pos h]

section
variable {rs:List ROp} {T:Nat->Tr AV} {H:Nat->Hp} {G:Nat->Bool} {V:Nat->AV}

def IsW(rs:List ROp)(i:Nat):Prop:=∃r,rs[i]?=some r∧wr r.k=true
def IsD(rs:List ROp)(i x:Nat):Prop:=∃r,rs[i]?=some r∧r.dst=some x

structure Inv (σ:Nat->Value) (rs:List ROp) (T:Nat->Tr AV) (H:Nat->Hp) (nt:Nat) (ρ0:Ren) (B:Nat->Prop) (w0:World) (ds:List Deferred) (S:Nat->Prop) (a:Act) (w:World) (ρ:Ren):Prop where
 lt:∀i,S i->i<rs.length
 dom:∀b L,ρ b=some L->b<(H 0).sz∨∃j,S j∧(∀r,rs[j]?=some r->zT r.k=false)∧(H j).sz<=b∧b<(H (j+1)).sz
 rels:∀c,c<=rs.length->(∀j,IsW rs j->(S j↔j<c))->Rel σ (cut ρ (H c).sz) B (H c) w
 tmps:∀x j v,j<=rs.length->(∀k,IsD rs k x->(S k↔k<j))->(T j).get x=some v->x<a.tmps.size∧VR σ (cut ρ (H j).sz) v (a.tmps.getD x undef)
 ext:∀b,b<(H 0).sz->ρ b=ρ0 b
 pres:∀k,B k->w.heap[k]?=w0.heap[k]?
 wle:w0.heap.size<=w.heap.size
 io:w.os=w0.os∧w.output=w0.output
 base:∀k,B k->k<w.heap.size
 size:nt<=a.tmps.size
 defers:a.defers=ds
 big:(H rs.length).sz<=ρ.n
 frz:∀k a,ρ0.frz k=some a->ρ.frz k=some a
 fnew:∀k a,ρ.frz k=some a->ρ0.frz k=some a∨¬B k
 wlt:∀b L,ρ b=some L->L.blk<w.heap.size

omit [Cur] in
theorem qaf{C:qw}(hc:Canon orc C rs T H G V){x i j:Nat}(hij:i<=j)(hj:j<=rs.length)(hn:∀k,i<=k->k<j->¬IsD rs k x):(T j).get x=(T i).get x:=by
 induction j with
 | zero=>simp_all
 | succ j ih' =>
  rcases Nat.lt_or_eq_of_le hij with h|rfl
  ·rw[← ih' (by omega) (by omega) (by grind)];have hr:rs[j]?=some rs[j]:=by simp_all
   rw[qb6 hc hr,if_neg (fun hd=>hn j (by omega) (by omega) ⟨_,hr,hd⟩)]
  ·rfl

theorem Inv.next{C:qw}(hc:Canon orc C rs T H G V)(hf:∀j,j<rs.length->Fact rs H j){nt:Nat}{ρ0:Ren}{B:Nat->Prop}{w0:World}{ds:List Deferred}{S:Nat->Prop}{a:Act}{w:World}
  (I:Inv σ rs T H nt ρ0 B w0 ds S a w ρ) {i:Nat} {r:ROp} (hr:rs[i]?=some r) (hS:¬S i) {d:Option Tmp} (hd:qcG nt d r.dst=true)
  (hD:∀x,r.dst=some x->∀k,IsD rs k x->k≠i->(S k↔k<i)) {v':Value} {w':World} (hv:VR σ (cut ρ' (H (i+1)).sz) (V i) v')
  (hρ:∀b L,ρ b=some L->ρ' b=some L) (hρ0:∀b,b<(H 0).sz->ρ' b=ρ b) (hz:∀k a,ρ.frz k=some a->ρ'.frz k=some a) (hzn:∀k a,ρ'.frz k=some a->ρ.frz k=some a∨¬B k) (hbig:(H rs.length).sz<=ρ'.n) (hdom:∀b L,ρ' b=some L->ρ b=some L∨((∀r,rs[i]?=some r->zT r.k=false)∧(H i).sz<=b∧b<(H (i+1)).sz∧L.blk<w'.heap.size))
  (hrels:∀c,c<=rs.length->(∀j,IsW rs j->(S j∨j=i↔j<c))->Rel σ (cut ρ' (H c).sz) B (H c) w') (hpres:∀k,B k->w'.heap[k]?=w.heap[k]?) (hwle:w.heap.size<=w'.heap.size) (hio:w'.os=w.os∧w'.output=w.output) :
  Inv σ rs T H nt ρ0 B w0 ds (fun j=>S j∨j=i) (a.put d v') w' ρ':=by
 have hi:i<rs.length:=by grind
 refine⟨?_,?_,hrels,?_,?_,?_,Nat.le_trans I.wle hwle,by grind[Inv.io],qah I.base hwle,by rw[zB];exact I.size,by rw[zA];exact I.defers,hbig,by grind[Inv.frz],by grind[Inv.fnew],fun b L h=>(hdom b L h).elim (fun h=>Nat.lt_of_lt_of_le (I.wlt b L h) hwle) fun h=>h.2.2.2⟩
 ·rintro j (h|rfl)
  ·exact I.lt j h
  ·exact hi
 ·intro b L hb;rcases hdom b L hb with h|⟨h1,h2,h3,_⟩
  ·rcases I.dom b L h with h|⟨j,h1,h2⟩
   ·exact .inl h
   ·exact by grind
  ·exact by simp_all
 ·intro x j v hj hk hg;have hsj:=qz hf hj (Nat.le_refl _)
  have hmono:(cut ρ (H j).sz).le (cut ρ' (H j).sz):=by
   refine⟨fun b L hb=>?_,hz,?_⟩
   ·obtain⟨h1,h2⟩:=qU hb;rw[qP (by omega)];exact hρ b L h2
   ·show min ρ.n (H j).sz<=min ρ'.n (H j).sz;omega
  by_cases hx:r.dst=some x
  ·have hij:i<j:=(hk i ⟨r,hr,hx⟩).1 (.inr rfl);have hcon:(T j).get x=(T (i+1)).get x:=qaf hc hij hj (by grind);rw[hcon,qb6 hc hr,if_pos hx] at hg;cases hg;cases d with
   | none=>rw[hx] at hd;simp[qcG] at hd
   | some y =>
    rw[hx] at hd;simp only[qcG,Bool.and_eq_true] at hd;obtain⟨h1,h2⟩:=hd;obtain rfl:=eq_of_beq h1;have hlt:y<a.tmps.size:=Nat.lt_of_lt_of_le (by simp_all) I.size;refine⟨by simp[Act.put];exact hlt,?_⟩
    have e:(a.put (some y) v').tmps.getD y undef=v':=by simp[Act.put,Array.getD,hlt]
    rw[e]
    have hle:(cut ρ' (H (i+1)).sz).le (cut ρ' (H j).sz):=by
     have hs:(H (i+1)).sz<=(H j).sz:=qz hf hij hj;refine⟨fun b L hb=>?_,fun _ _ h=>h,?_⟩
     ·obtain⟨h3,h4⟩:=qU hb;rw[qP (by omega)];exact h4
     ·show min ρ'.n (H (i+1)).sz<=min ρ'.n (H j).sz;omega
    exact hv.mono hle
  ·have hk':∀k,IsD rs k x->(S k↔k<j):=by
    intro k hdk;have hne:k≠i:=by rintro rfl;obtain⟨r',h1,h2⟩:=hdk;rw[hr] at h1;cases h1;exact hx h2
    have:=hk k hdk;constructor
    ·intro h;exact this.1 (.inl h)
    ·intro h;rcases this.2 h with h|h
     ·exact h
     ·exact absurd h hne
   obtain⟨h1,h2⟩:=I.tmps x j v hj hk' hg;refine⟨by rw[zB];exact h1,?_⟩
   have e:(a.put d v').tmps.getD x undef=a.tmps.getD x undef:=by
    cases d with
    | none=>rfl
    | some y =>
     have hne:y≠x:=by
      rintro rfl;cases hrd:r.dst with
      | none=>rw[hrd] at hd;simp[qcG] at hd
      | some z =>
       rw[hrd] at hd;simp only[qcG,Bool.and_eq_true] at hd;exact by simp_all
     simp only[Act.put];rw[Array.getD_eq_getD_getElem?,Array.getD_eq_getD_getElem?,Array.getElem?_setIfInBounds,if_neg hne]
   rw[e];exact h2.mono hmono
 all_goals grind[Inv.ext,Inv.pres]

def qlG(σ:Nat->Value)(v:AV)(n:Nat):Prop:=∃(ρ:Ren) (v':Value),VR σ ρ v v'∧(∀b L,ρ b=some L->b<n)∧ρ.n<=n
mutual
theorem VR.small{ρ1 ρ2:Ren}{n:Nat}(hn:∀b L,ρ1 b=some L->b<n)(hn2:ρ1.n<=n):∀{x:AV} {v1 v2:Value},VR σ ρ1 x v1->VR σ ρ2 x v2->VR σ (cut ρ2 n) x v2
 | _,_,_,.undef _,_=>.undef _
 | _,_,_,.b _,h2=>by cases h2;exact .b _
 | _,_,_,.i _ _,h2=>by cases h2;exact .i _ _
 | _,_,_,.s _,h2=>by cases h2;exact .s _
 | _,_,_,.nilp,h2=>by cases h2;exact .nilp
 | _,_,_,.ptr b o L h,h2=>by
  cases h2 with
  | ptr _ _ L2 h'=>exact .ptr _ _ _ (by rw[qP (hn b L h)];exact h')
 | _,_,_,.nils,h2=>by cases h2;exact .nils
 | _,_,_,.sl b _ _ _ _ _ L h _,h2=>by
  cases h2 with
  | sl _ _ _ _ _ _ L2 h' hc=>exact .sl _ _ _ _ _ _ _ (by rw[qP (hn b L h)];exact h') hc
  | slz _ _ _ _ L2 h'=>exact .slz _ _ _ _ _ (by rw[qP (hn b L h)];exact h')
 | _,_,_,.slz b _ _ _ L h,h2=>by
  cases h2 with
  | sl _ _ _ _ _ _ L2 h' hc=>exact .sl _ _ _ _ _ _ _ (by rw[qP (hn b L h)];exact h') hc
  | slz _ _ _ _ L2 h'=>exact .slz _ _ _ _ _ (by rw[qP (hn b L h)];exact h')
 | _,_,_,.nilf,h2=>by cases h2;exact .nilf
 | _,_,_,.fn _ _ _ _ _ a1 a2,h2=>by
  cases h2 with
  | fn _ _ _ _ _ c1 c2=>exact .fn _ _ _ _ _ (VRs.small hn hn2 a1 c1) (VRs.small hn hn2 a2 c2)
 | _,_,_,.nili,h2=>by cases h2;exact .nili
 | _,_,_,.ifc _ _ _ a1,h2=>by
  cases h2 with
  | ifc _ _ _ c1=>exact .ifc _ _ _ (VR.small hn hn2 a1 c1)
 | _,_,_,.agg _ _ a1,h2=>by
  cases h2 with
  | agg _ _ c1=>exact .agg _ _ (VRs.small hn hn2 a1 c1)
 | _,_,_,.tup _ _ a1,h2=>by
  cases h2 with
  | tup _ _ c1=>exact .tup _ _ (VRs.small hn hn2 a1 c1)
 | _,_,_,.nilm,h2=>by cases h2;exact .nilm
 | _,_,_,.map b L h _,h2=>by
  cases h2 with
  | map _ L2 h' h0=>exact .map _ _ (by rw[qP (hn b L h)];exact h') h0
 | _,_,_,.sym _,h2=>by cases h2;exact .sym _
 | _,_,_,.fz _ _ _ _ _ _ _ _ _,h2=>by
  cases h2 with
  | fz _ _ _ _ _ _ q1 q2 q4=>exact .fz _ _ _ _ _ _ q1 q2 q4
  | fz0=>exact .fz0 _
 | _,_,_,.fz0 _,h2=>by
  cases h2 with
  | fz _ _ _ _ _ _ q1 q2 q4=>exact .fz _ _ _ _ _ _ q1 q2 q4
  | fz0=>exact .fz0 _
 | _,_,_,.pf _ _ _ _ _ _ _,h2=>by
  cases h2 with
  | pf _ _ _ _ _ q2 q4=>exact .pf _ _ _ _ _ q2 q4
 | _,_,_,.e0 _,h2=>by
  cases h2 with
  | e0=>exact .e0 _
 | _,_,_,.nz _ _,h2=>by
  cases h2 with
  | nz=>exact .nz _ _
 | _,_,_,.own0 b _ hb,h2=>by
  have hbn:b<n:=by omega
  cases h2 with
  | own0 _ _ q=>exact .own0 _ _ (Nat.lt_min.2 ⟨q,hbn⟩)
  | own _ _ _ L2 h' q1 q2=>exact .own _ _ _ _ (by rw[qP hbn];exact h') q1 q2
 | _,_,_,.own b _ _ L h _ _,h2=>by
  have hbn:b<n:=hn b L h;cases h2 with
  | own0 _ _ q=>exact .own0 _ _ (Nat.lt_min.2 ⟨q,hbn⟩)
  | own _ _ _ L2 h' q1 q2=>exact .own _ _ _ _ (by rw[qP hbn];exact h') q1 q2
 | _,_,_,.yl b L h,h2=>by
  cases h2 with
  | yl _ L2 h'=>exact .yl _ _ (by rw[qP (hn b L h)];exact h')
theorem VRs.small{ρ1 ρ2:Ren}{n:Nat}(hn:∀b L,ρ1 b=some L->b<n)(hn2:ρ1.n<=n):∀{x:List AV} {v1 v2:List Value},VRs σ ρ1 x v1->VRs σ ρ2 x v2->VRs σ (cut ρ2 n) x v2
 | _,_,_,.nil,h2=>by cases h2;exact .nil
 | _,_,_,.cons _ _ _ _ a1 a2,h2=>by
  cases h2 with
  | cons _ _ _ _ c1 c2=>exact .cons _ _ _ _ (VR.small hn hn2 a1 c1) (VRs.small hn hn2 a2 c2)
end
omit [Cur] in
theorem qjf{k:RK}(h:wr k=true):zT k=false:=by
 cases k<;>first|rfl|(rename_i o1;cases o1<;>first|rfl|(simp[wr] at h))
omit [Cur] in
theorem qdb(k:RK):wr (xQ k)=wr k:=by
 cases k<;>try rfl
 rename_i o1;cases o1<;>rfl
omit [Cur] in
theorem qbA(k:RK):zT (xQ k)=zT k:=by
 cases k<;>try rfl
 rename_i o1;cases o1<;>rfl
omit [Cur] in
theorem qet{o:Op}{k:RK}(h:jB P o k=true):jB P o (xQ k)=true:=by
 cases k with
 | callF=>exact h
 | callV=>exact h
 | callW=>exact h
 | callVW=>exact h
 | op o1 =>
  cases o1<;>try exact h
  ·rename_i n x v ps
   have h2:qaj P o (.storeD n x v ps)=true:=by
    unfold jB at h;split at h<;>simp_all
   have h3:∃t y u,o = .store t y u∧(qh y x&&qh u v&&qo P t n)=true:=by
    unfold qaj at h2;split at h2<;>try (cases h2;done)
    all_goals first
     | (rename_i heq;cases heq;exact by grind)
     | (rename_i heq;cases heq;done)
     | (unfold xD at h2;split at h2<;>simp_all)
   obtain⟨t,y,u,rfl,h4⟩:=h3;exact h4
  ·rename_i e y x v ps
   have h2:qaj P o (.appD e y x v ps)=true:=by
    unfold jB at h;split at h<;>simp_all
   have h3:qaj P o (.app e y true x v)=true:=by
    unfold qaj at h2 ⊢;split at h2<;>try (cases h2;done)
    all_goals first
     | (rename_i heq;cases heq;done)
     | skip
    unfold xD at h2 ⊢;split at h2<;>first|(rename_i heq;cases heq;done)|(cases h2;done)|skip
    simp_all
   show jB P o (.op (.app e y true x v))=true;unfold jB at h ⊢;split at h<;>simp_all
omit [Cur] in
theorem qaM{C:qw}{k:RK}{t:Tr AV}{h:Hp}{K:AV->Hp->Prop}(hk:wu orc true C k t h K):wu orc true C (xQ k) t h K:=by
 cases k with
 | callF=>exact hk
 | callV=>exact hk
 | callW=>exact hk
 | callVW=>exact hk
 | op o1 =>
  cases o1<;>try exact hk
  ·exact qav (orc:=orc) hk
  ·exact qcz (orc:=orc) hk
omit [Cur] in
theorem xN{a b:ROp}(h:zS a b=true):wr a.k=false∧wr b.k=true∧∃p d io,a.k = .op io∧a.dst=some d∧(io = .load1 (.t p)∨∃n,io = .loadN n (.t p))∧∃ps,((∃n x v,b.k = .op (.storeD n x v ps))∨∃e y x v,b.k = .op (.appD e y x v ps))∧p ∈ ps:=by
 unfold zS at h;split at h
 ·rename_i n x v ps hb;split at h
  ·rename_i p ha;simp only[Bool.and_eq_true,List.contains_iff_mem,Option.isSome_iff_exists] at h;obtain⟨h1,d,h2⟩:=h;exact⟨by rw[ha];rfl,by rw[hb];rfl,p,d,_,ha,h2,.inl rfl,ps,.inl ⟨n,x,v,hb⟩,h1⟩
  ·rename_i m p ha;simp only[Bool.and_eq_true,List.contains_iff_mem,Option.isSome_iff_exists] at h;obtain⟨h1,d,h2⟩:=h;exact⟨by rw[ha];rfl,by rw[hb];rfl,p,d,_,ha,h2,.inr ⟨m,rfl⟩,ps,.inl ⟨n,x,v,hb⟩,h1⟩
  ·cases h
 ·rename_i e y x v ps hb;split at h
  ·rename_i p ha;simp only[Bool.and_eq_true,List.contains_iff_mem,Option.isSome_iff_exists] at h;obtain⟨h1,d,h2⟩:=h;exact⟨by rw[ha];rfl,by rw[hb];rfl,p,d,_,ha,h2,.inl rfl,ps,.inr ⟨e,y,x,v,hb⟩,h1⟩
  ·rename_i m p ha;simp only[Bool.and_eq_true,List.contains_iff_mem,Option.isSome_iff_exists] at h;obtain⟨h1,d,h2⟩:=h;exact⟨by rw[ha];rfl,by rw[hb];rfl,p,d,_,ha,h2,.inr ⟨m,rfl⟩,ps,.inr ⟨e,y,x,v,hb⟩,h1⟩
  ·cases h
 grind
omit [Cur] in
theorem qdx{io:IOp}{p:Nat}(hio:io = .load1 (.t p)∨∃n,io = .loadN n (.t p)){t:Tr AV}{h:Hp}{K:AV->Hp->Prop}(hk:opK orc io t h K) :
  (∃b o x v,t.get p=some (.ptr b o)∧h.tr.get b=some x∧K v h∧∀h2 (K2:AV->Hp->Prop),h2.tr.get b=some x->K2 v h2->opK orc io t h2 K2) ∨
  (∃v,K v h∧∀h2 (K2:AV->Hp->Prop),K2 v h2->opK orc io t h2 K2):=by
 rcases hio with rfl|⟨n,rfl⟩
 ·have hk':t.getK p (fun q=>ldV h q (fun v=>K v h)):=hk
  obtain⟨y,h1,h2⟩:=(Tr.getK_iff _ _ _).1 hk';cases y<;>try exact h2.elim
  ·rename_i b o;obtain⟨e,w,a,cs,h3,h4⟩:=(qq h b _).1 h2;obtain⟨v,h5,h6⟩:=(qX _ _ _).1 h4;refine .inl ⟨b,o,_,v,h1,h3,h6,fun h2 K2 g1 g2=>?_⟩
   show t.getK p (fun q=>ldV h2 q (fun v=>K2 v h2))
   exact (Tr.getK_iff _ _ _).2 ⟨_,h1,(qq h2 b _).2 (by grind[qX])⟩
  ·rename_i cs o;obtain⟨v,h5,h6⟩:=(qX cs o _).1 h2;refine .inr ⟨v,h6,fun h2 K2 g2=>?_⟩
   show t.getK p (fun q=>ldV h2 q (fun v=>K2 v h2))
   exact (Tr.getK_iff _ _ _).2 ⟨_,h1,(qX cs o _).2 ⟨v,h5,g2⟩⟩
 ·have hk':t.getK p (fun q=>qa4 h q n (fun l=>K (.agg l) h)):=hk
  obtain⟨y,h1,h2⟩:=(Tr.getK_iff _ _ _).1 hk';cases y<;>try exact h2.elim
  ·rename_i b o;obtain⟨e,w,a,cs,h3,h4⟩:=(qq h b _).1 h2;obtain⟨h5,h6⟩:=(qA _ _ _).1 h4;obtain⟨h7,h8⟩:=(qt _ _ _).1 h6;refine .inl ⟨b,o,_,.agg ((cs.drop o).take n),h1,h3,h8,fun h2 K2 g1 g2=>?_⟩
   show t.getK p (fun q=>qa4 h2 q n (fun l=>K2 (.agg l) h2))
   exact (Tr.getK_iff _ _ _).2 ⟨_,h1,(qq h2 b _).2 (by grind[qA,qt])⟩
  ·rename_i cs o;obtain⟨h5,h6⟩:=(qA o cs _).1 h2;obtain⟨h7,h8⟩:=(qt _ _ _).1 h6;refine .inr ⟨.agg ((cs.drop o).take n),h8,fun h2 K2 g2=>?_⟩
   show t.getK p (fun q=>qa4 h2 q n (fun l=>K2 (.agg l) h2))
   exact (Tr.getK_iff _ _ _).2 ⟨_,h1,(qA o cs _).2 (by grind[qt])⟩
omit [Cur] in
theorem qcp{n:Nat}{x v:O}{ps:List Nat}{t:Tr AV}{h:Hp}{K:AV->Hp->Prop}(hk:opK orc (.storeD n x v ps) t h K) :
  ∃b y u,(∀q ∈ ps,(∃b' o',t.get q=some (.ptr b' o')∧b'≠b)∨∃cs o',t.get q=some (.pf cs o'))∧K u (h.put b y):=by
 obtain⟨p,h1,hh⟩:=qf t x _ hk;clear hh;cases p<;>try exact h1.elim
 rename_i b o;obtain⟨h2,h3⟩:=zK h1;obtain⟨u,h4,_⟩:=qf t v _ h2;obtain⟨_,h5⟩:=(qa _ _).1 h4;have h6:=(zp _ _).1 h5;obtain⟨_,h7⟩:=(qa _ _).1 h6;obtain⟨e,w,a,cs,h8,h9⟩:=(qq h b (fun e w a cs=>Bool.rec (motive:=fun _=>Prop) False (Bool.rec (motive:=fun _=>Prop) False (zd (cellsOf u) o cs (fun cs'=>qY h b (.cells e w a cs') (fun h'=>K .undef h'))) (qu (cellsOf u))) w)).1 h7
 cases w
 ·simp_all
 ·have h10:(Bool.rec (motive:=fun _=>Prop) False (zd (cellsOf u) o cs (fun cs'=>qY h b (.cells e true a cs') (fun h'=>K .undef h'))) (qu (cellsOf u)):Prop):=h9
  cases hco:qu (cellsOf u) with
  | false=>rw[hco] at h10;simp_all
  | true =>
   rw[hco] at h10
   grind[zi,qC]
omit [Cur] in
theorem qdg{esz bytes:Nat}{s x:O}{ps:List Nat}{t:Tr AV}{h:Hp}{K:AV->Hp->Prop}(hk:opK orc (.appD esz bytes s x ps) t h K) :
  ∃u h',(∀q ∈ ps,∀b' o',t.get q=some (.ptr b' o')->b'<h.sz->h'.tr.get b'=h.tr.get b')∧K u h':=by
 obtain⟨v,h1,_⟩:=qf t s _ hk;obtain⟨u,h2,_⟩:=qf t x _ h1
 have push:∀(h:Hp) (y:Blk) (b':Nat),b'<h.sz->(h.push y).tr.get b'=h.tr.get b':=by
  intro h y b' hb;simp only[Hp.push,Tr.get_set];rw[if_neg (by omega)]
 cases v<;>try exact h2.elim
 rotate_left
 ·rename_i b o len cap loose _;obtain⟨g1,g2⟩:=zK h2
  have ap:∀q ∈ ps,∀b' o',t.get q=some (.ptr b' o')->b'≠b:=by
   grind
  obtain⟨n,new,h3,_⟩:=jK h esz u _ g1;cases loose with
  | true =>
   have h3':=(Iff.of_eq (qg _ _)).1 h3;obtain⟨_,h4⟩:=(qa _ _).1 h3';obtain⟨_,h5⟩:=(qa _ _).1 h4;obtain⟨_,h6⟩:=(qa _ _).1 h5;obtain⟨e,w,a,cs,_,h7⟩:=(qq h b _).1 h6;obtain⟨_,h8⟩:=(qa _ _).1 h7;obtain⟨_,h9⟩:=(qa _ _).1 h8;obtain⟨_,h10⟩:=(qa _ _).1 h9;obtain⟨_,h11⟩:=(qa _ _).1 h10;have h12:=(zp _ _).1 h11;obtain⟨_,h13⟩:=(qa _ _).1 h12;obtain⟨_,h13⟩:=(qA _ _ _).1 h13;have h14:=(zl _ _ _).1 h13;obtain⟨_,h15⟩:=(qC _ _ _ _).1 h14;have h16:=(qv _ _ _).1 h15;refine⟨_,_,fun q hq b' o' hg hb=>?_,h16⟩
   have hne:=ap q hq b' o' hg;rw[push (h.put b .dead) _ b' hb];simp only[Hp.put,Tr.get_set];rw[if_neg hne]
  | false =>
  have h3:=(Iff.of_eq (qg _ _)).1 h3;cases hb:Nat.ble (Nat.add len n) cap with
  | false =>
   rw[hb] at h3;obtain⟨_,h4⟩:=(qa _ _).1 h3;obtain⟨_,h5⟩:=(qa _ _).1 h4;obtain⟨old,h6,_⟩:=wn _ _ _ _ _ h5;have h7:=(zl _ _ _).1 h6;have h8:=(qv _ _ _).1 h7
   grind
  | true =>
   rw[hb] at h3;cases n with
   | zero=>exact⟨_,_,by simp_all,h3⟩
   | succ n =>
    have h4:=(Iff.of_eq (qg _ _)).1 h3;obtain⟨e,w,a,cs,h8,h9⟩:=(qq h b (fun e w a cs=>Bool.rec (motive:=fun _=>Prop) False (Bool.rec (motive:=fun _=>Prop) False (zd new (Nat.add o (Nat.mul len esz)) cs (fun cs'=>qY h b (.cells e w a cs') (fun h'=>K (.sl b o (Nat.add len (n+1)) cap false) h'))) (qu new)) w)).1 h4
    cases w
    ·simp_all
    ·have h10:(Bool.rec (motive:=fun _=>Prop) False (zd new (Nat.add o (Nat.mul len esz)) cs (fun cs'=>qY h b (.cells e true a cs') (fun h'=>K (.sl b o (Nat.add len (n+1)) cap false) h'))) (qu new):Prop):=h9
     cases hco:qu new with
     | false=>rw[hco] at h10;simp_all
     | true =>
      rw[hco] at h10;obtain⟨_,h11⟩:=(zi _ _ _ _).1 h10;obtain⟨_,h12⟩:=(qC _ _ _ _).1 h11;refine⟨_,_,fun q hq b' o' hg hb=>?_,h12⟩
      simp only[Hp.put,Tr.get_set];rw[if_neg (ap q hq b' o' hg)]
 ·obtain⟨n,new,h3,_⟩:=jK h esz u (fun n _=>Nat.rec (motive:=fun _=>Prop) (K (.fz _ _) h) (fun _ _=>False) n) h2
  cases n with
  | zero=>exact⟨_,_,by simp_all,h3⟩
  | succ n=>simp_all
 rotate_right
 ·obtain⟨n,new,h3,_⟩:=jK h esz u (fun n new=>qb (Nat.ble n qk) (qb (Nat.ble (Nat.mul n bytes) qk) (qN h (.cells esz true true new) (fun b h'=>K (.own b n) h')))) h2
  grind[qa,qv]
 ·obtain⟨n,new,h3,_⟩:=jK h esz u (fun n new=>qb (Nat.ble n qk) (qb (Nat.ble (Nat.mul n bytes) qk) (qN h (.cells esz true true new) (fun b h'=>K (.own b n) h')))) h2
  grind[qa,qv]
 ·rename_i b m _;obtain⟨g1,g2⟩:=zK h2;obtain⟨n,new,h3,_⟩:=jK h esz u _ g1;have h3':=(Iff.of_eq (qg _ _)).1 h3;obtain⟨_,h4⟩:=(qa _ _).1 h3';obtain⟨_,h5⟩:=(qa _ _).1 h4;obtain⟨_,h6⟩:=(qa _ _).1 h5;obtain⟨e,w,a,cs,_,h7⟩:=(qq h b _).1 h6;obtain⟨_,h8⟩:=(qa _ _).1 h7;obtain⟨_,h9⟩:=(qa _ _).1 h8;obtain⟨_,h10⟩:=(qa _ _).1 h9;obtain⟨_,h11⟩:=(qa _ _).1 h10;have h12:=(zp _ _).1 h11;obtain⟨_,h13⟩:=(qa _ _).1 h12;have h14:=(zl _ _ _).1 h13;obtain⟨_,h15⟩:=(qC _ _ _ _).1 h14;have h16:=(qv _ _ _).1 h15;refine⟨_,_,fun q hq b' o' hg hb=>?_,h16⟩
  obtain⟨b2,o2,f4,f5⟩:=(g2 q hq).resolve_right (by grind);rw[hg] at f4;cases f4;rw[push (h.put b .dead) _ b' hb];simp only[Hp.put,Tr.get_set];rw[if_neg f5]
omit [Cur] in
theorem qbP{n:Nat}{x v:O}{ps:List Nat}{t:Tr AV}{h:Hp}{K:AV->Hp->Prop}(hk:opK orc (.storeD n x v ps) t h K) :
  ∃u h',(∀q ∈ ps,∀b' o',t.get q=some (.ptr b' o')->b'<h.sz->h'.tr.get b'=h.tr.get b')∧K u h':=by
 obtain⟨b,y,u,f1,f2⟩:=qcp hk;refine⟨_,_,fun q hq b' o' hg hb=>?_,f2⟩
 obtain⟨b2,o2,f4,f5⟩:=(f1 q hq).resolve_right (by simp_all);rw[hg] at f4;cases f4;simp only[Hp.put,Tr.get_set];rw[if_neg f5]
omit [Cur] in
theorem qa9{a b:ROp}(h:exc a b=true):wr a.k=false∧wr b.k=true:=by
 unfold exc at h;rcases Bool.or_eq_true _ _ ▸ h with h|h
 ·grind[xN]
 ·obtain⟨h1,h2⟩:=qbl h;refine⟨?_,?_⟩
  ·unfold jA at h1;split at h1
   ·rename_i e;rw[e];rfl
   ·rename_i e;rw[e];rfl
   ·rename_i e;rw[e];rfl
   simp_all
  ·unfold x5 at h2;split at h2
   ·rename_i e;rw[e];rfl
   simp_all
omit [Cur] in
theorem qcB{k:RK}(hb:jA k=true):∃io,k = .op io∧∀{t:Tr AV} {sz fl:Nat} {tr:Tr Blk} {K:AV->Hp->Prop},opK orc io t ⟨sz,fl,tr⟩ K->
  ∃v x,K v ⟨sz+1,fl,tr.set sz x⟩∧∀fl2 tr2 (K2:AV->Hp->Prop),K2 v ⟨sz+1,fl2,tr2.set sz x⟩->opK orc io t ⟨sz,fl2,tr2⟩ K2:=by
 unfold jA at hb;split at hb
 ·rename_i z;refine⟨_,rfl,fun {t sz fl tr K} hk=>?_⟩
  have h1:=(qv ⟨sz,fl,tr⟩ (.cells 0 true false z) (fun b h'=>K (.ptr b 0) h')).1 hk
  exact⟨.ptr sz 0,_,h1,fun fl2 tr2 K2 h2=>(qv ⟨sz,fl2,tr2⟩ (.cells 0 true false z) (fun b h'=>K2 (.ptr b 0) h')).2 h2⟩
 ·rename_i n z ps;refine⟨_,rfl,fun {t sz fl tr K} hk=>?_⟩
  obtain⟨cs,h1,h2⟩:=wt z n _ hk;obtain⟨cs',h3,h4⟩:=qan t ps cs _ h1;have h5:=(qv ⟨sz,fl,tr⟩ (.cells 0 true false cs') (fun b h'=>K (.sl b 0 n n false) h')).1 h3
  refine⟨.sl sz 0 n n false,_,h5,fun fl2 tr2 K2 h6=>?_⟩
  show qau z n (fun cs=>zu t ps cs (fun cs=>qN ⟨sz,fl2,tr2⟩ (.cells 0 true false cs) (fun b h'=>K2 (.sl b 0 n n false) h')))
  exact h2 _ (h4 _ ((qv ⟨sz,fl2,tr2⟩ (.cells 0 true false cs') (fun b h'=>K2 (.sl b 0 n n false) h')).2 h6))
 ·rename_i e bytes z len cap;refine⟨_,rfl,fun {t sz fl tr K} hk=>?_⟩
  obtain⟨v1,a1,a2⟩:=qf t len _ hk;obtain⟨v2,a3,a4⟩:=qf t cap _ a1;obtain⟨l,a5,a6⟩:=je v1 _ a3;obtain⟨c,a7,a8⟩:=je v2 _ a5;obtain⟨b1,a9⟩:=(qa _ _).1 a7;obtain⟨b2,a10⟩:=(qa _ _).1 a9;obtain⟨b3,a11⟩:=(qa _ _).1 a10;obtain⟨cs,h1,h2⟩:=wt z c _ a11;have h5:=(qv ⟨sz,fl,tr⟩ (.cells 0 true false cs) (fun b h'=>K (.sl b 0 l c false) h')).1 h1
  refine⟨.sl sz 0 l c false,_,h5,fun fl2 tr2 K2 h6=>?_⟩
  show evK t len (fun len=>evK t cap (fun cap=>unN len (fun l=>unN cap (fun c=>qb (Nat.ble l c) (qb (Nat.ble c qk) (qb (Nat.ble (Nat.mul bytes c) qk) (qau z c (fun cs=>qN ⟨sz,fl2,tr2⟩ (.cells 0 true false cs) (fun b h'=>K2 (.sl b 0 l c false) h')))))))))
  exact a2 _ (a4 _ (a6 _ (a8 _ ((qa _ _).2 ⟨b1,(qa _ _).2 ⟨b2,(qa _ _).2 ⟨b3,h2 _ ((qv ⟨sz,fl2,tr2⟩ (.cells 0 true false cs) (fun b h'=>K2 (.sl b 0 l c false) h')).2 h6)⟩⟩⟩))))
 simp_all
omit [Cur] in
theorem qcq{k:RK}{p:Nat}(hp:x5 k=some p){C:qw}{t:Tr AV}{h:Hp}{K:AV->Hp->Prop}(hk:wu orc true C k t h K):∃b o y u,t.get p=some (.ptr b o)∧K u (h.put b y):=by
 have st:∀{n:Nat} {v:O} {K:AV->Hp->Prop},opK orc (.store n (.t p) v) t h K->∃b o y u,t.get p=some (.ptr b o)∧K u (h.put b y):=by
  intro n v K hk;have hk':t.getK p (fun q=>unP q (fun b o=>evK t v (fun v=>qb (jD v) (jZ (cellsOf v) (fun m=>qb (Nat.beq m n) (stK h b o (cellsOf v) (fun h'=>K .undef h'))))))):=hk
  obtain⟨q,h0,h1⟩:=(Tr.getK_iff _ _ _).1 hk';cases q<;>try exact h1.elim
  rename_i b o;obtain⟨u,h4,_⟩:=qf t v _ h1;obtain⟨_,h5⟩:=(qa _ _).1 h4;have h6:=(zp _ _).1 h5;obtain⟨_,h7⟩:=(qa _ _).1 h6;obtain⟨e,w,a,cs,h8,h9⟩:=(qq h b (fun e w a cs=>Bool.rec (motive:=fun _=>Prop) False (Bool.rec (motive:=fun _=>Prop) False (zd (cellsOf u) o cs (fun cs'=>qY h b (.cells e w a cs') (fun h'=>K .undef h'))) (qu (cellsOf u))) w)).1 h7
  cases w
  ·exact h9.elim
  ·have h10:(Bool.rec (motive:=fun _=>Prop) False (zd (cellsOf u) o cs (fun cs'=>qY h b (.cells e true a cs') (fun h'=>K .undef h'))) (qu (cellsOf u)):Prop):=h9
   cases hco:qu (cellsOf u) with
   | false=>rw[hco] at h10;exact h10.elim
   | true =>
    rw[hco] at h10;obtain⟨_,h11⟩:=(zi _ _ _ _).1 h10;obtain⟨_,h12⟩:=(qC _ _ _ _).1 h11;exact by grind
 have hk2:=qaM hk;unfold x5 at hp;split at hp
 ·cases hp;exact st hk2
 simp_all
omit [Cur] in
theorem qfj{C:qw}(hc:Canon orc C rs T H G V){m:Nat}{p:Nat}{z:List AV}(h:rs[m]?=some ⟨some p,.op (.alloc z),none⟩):V m = .ptr (H m).sz 0:=by
 obtain⟨g1,_,g3⟩:=hc.step m _ h;have g1:true=G m:=g1;rcases g3 with⟨_,g3⟩|⟨g3,_⟩
 ·have hk2:=qaM g3;cases hH:H m with
  | mk sz fl tr =>
   rw[hH] at hk2;have h1:=(qv ⟨sz,fl,tr⟩ (.cells 0 true false z) (fun b h'=>(fun v h=>v=V m∧h=H (m+1)) (.ptr b 0) h')).1 hk2
   exact h1.1.symm
 simp_all
omit [Cur] in
theorem qcl{S:Nat->Prop}(hWW:∀j1 j2,IsW rs j1->IsW rs j2->j1<j2->S j2->S j1):∀c,(∀j,IsW rs j->S j->j<c)->∃c',c'<=c∧∀j,IsW rs j->(S j↔j<c')
 | 0,h=>by simp_all
 | c+1,h=>by
  by_cases hc:IsW rs c∧S c
  ·refine⟨c+1,Nat.le_refl _,fun j hj=>⟨fun hs=>h j hj hs,fun hs=>?_⟩⟩
   rcases Nat.lt_or_eq_of_le (Nat.lt_succ_iff.1 hs) with hlt|rfl
   ·exact hWW j c hj hc.1 hlt hc.2
   ·exact hc.2
  ·obtain⟨c',h1,h2⟩:=qcl hWW c (fun j hj hs=>by
    have:=h j hj hs
    grind)
   exact⟨c',Nat.le_succ_of_le h1,h2⟩

theorem Inv.step(horc:OrcOk P σ orc){C:qw}(hs:xm P σ C){nt:Nat}{ops:Array Oper}(hrs:xE P ops nt ops.toList rs=true)(hc:Canon orc C rs T H G V)(hf:∀j,j<rs.length->Fact rs H j)
  {ρ0:Ren} {B:Nat->Prop} {w0:World} {ds:List Deferred} {S:Nat->Prop} {a:Act} {w:World} (I:Inv σ rs T H nt ρ0 B w0 ds S a w ρ) {i:Nat} {r:ROp} (hr:rs[i]?=some r) (hS:¬S i)
  (hD:∀x,x ∈ qW r->∀k,IsD rs k x->k≠i->(S k↔k<i)) (hW:zT r.k=false->∀k q,rs[k]?=some q->wr q.k=true->k≠i->¬(i<k∧exc r q=true)->(S k↔k<i)) (hWx:wr r.k=true->∀k q,rs[k]?=some q->zT q.k=false->k≠i->¬(k<i∧exc q r=true)->(S k↔k<i))
  (hWW:∀j1 j2,IsW rs j1->IsW rs j2->j1<j2->S j2->S j1) (hSt:∀j q p,rs[j]?=some q->i<j->zS r q=true->qgQ r.k=some p->∀k,i<=k->k<j->¬IsD rs k p) (hSb:∀j q p,rs[j]?=some q->i<j->qbk r q=true->x5 q.k=some p->(∀k,i<=k->k<j->¬IsD rs k p)∨∃m z,i<m∧m<j∧rs[m]?=some ⟨some p,.op (.alloc z),none⟩∧∀k,m<k->k<j->¬IsD rs k p) (hPt:∀p b o,(T i).get p=some (.ptr b o)->b<(H i).sz) (hV:∀j q d,rs[j]?=some q->q.dst=some d->qlG σ (V j) (H (j+1)).sz)
  (K:Act->World->Prop) (Q:Exit->Act->World->Prop) {ro:Option Nat} (hK:∀a' w' ρ',Inv σ rs T H nt ρ0 B w0 ds (fun j=>S j∨j=i) a' w' ρ'->K a' w'):wpOpIn (Fr ro) 0 P ops Q i K a w:=by
 obtain⟨hlen,hget⟩:=jP hrs;have hi:i<rs.length:=(zzS.1 hr).1;have ho:ops[i]?=some (ops[i]'(by simp at hlen;omega)):=Array.getElem?_eq_getElem (by simp at hlen;omega);generalize ops[i]'(by simp at hlen;omega)=o at ho;have hchk:=hget i o r (by simpa using ho) hr;simp only[qdm,Bool.and_eq_true] at hchk;obtain⟨⟨hc1,hc2⟩,hc3⟩:=hchk;obtain⟨g1,g2,g3⟩:=hc.step i r hr
 -- the temporaries that it names
 have hself:∀x ∈ qW r,∀k,IsD rs k x->(S k↔k<i):=by
  intro x hx k hk
  by_cases hki:k=i
  ·subst hki;exact⟨fun h=>absurd h hS,fun h=>absurd h (Nat.lt_irrefl _)⟩
  ·exact hD x hx k hk hki
 have ht:TR σ (cut ρ (H i).sz) (only (T i) (qW r)) a.tmps:=by
  intro n v hv;rw[jG] at hv;split at hv
  ·exact I.tmps n i v (by omega) (hself n (by assumption)) hv
  ·cases hv
 have hsame:qae (T i) (only (T i) (qW r)) (qW r):=fun n hn=>by rw[jG,if_pos hn]
 have hsk:qae (T i) (only (T i) (qW r)) (jp (xQ r.k)):=hsame.sub fun n hn=>by simp[qW,hn]
 have hgo:G i=Region.wanted o (yielded ops a.tmps):=by
  have e:=qcT (g:=r.guard) (hsame.sub (fun n hn=>by simp only[qW,List.mem_append];exact .inl (.inr hn)))
  rw[← e] at g1;exact (qcU (ops:=ops) (o:=o) ht hc2 g1).symm
 have hDd:∀x,r.dst=some x->∀k,IsD rs k x->k≠i->(S k↔k<i):=fun x hx=>hD x (by simp[qW,hx])
 have hmonoc:∀{m n:Nat},m<=n->n<=rs.length->(cut ρ (H m).sz).le (cut ρ (H n).sz):=by
  intro m n hmn hn;have hs:=qz hf hmn hn;refine⟨fun b L hb=>?_,fun _ _ h=>h,?_⟩
  ·obtain⟨h1,h2⟩:=qU hb;rw[qP (Nat.lt_of_lt_of_le h1 hs)];exact h2
  ·show min ρ.n (H m).sz<=min ρ.n (H n).sz;omega
 -- which phases there are behind it,where it is no writer
 have phase:∀c,c<=rs.length->wr r.k=false->(∀j,IsW rs j->(S j∨j=i↔j<c))->∀j,IsW rs j->(S j↔j<c):=by
  intro c _ hwr h j hj;have hne:j≠i:=by rintro rfl;obtain⟨q,h1,h2⟩:=hj;rw[hr] at h1;cases h1;rw[hwr] at h2;cases h2
  have:=h j hj;constructor
  ·intro h';exact this.1 (.inl h')
  ·intro h';rcases this.2 h' with h'|h'
   ·exact h'
   ·exact absurd h' hne
 -- a writer: every phase behind it holds what it left
 have writer:wr r.k=true->∀{ρ2:Ren} {w2:World},Rel σ ρ2 B (H (i+1)) w2->(∀b L,ρ2 b=some L->b<(H (i+1)).sz)->∀c,c<=rs.length->(∀j,IsW rs j->(S j∨j=i↔j<c))->Rel σ ρ2 B (H c) w2:=by
  intro hwr ρ2 w2 r2 _ c hcl hph;have hic:i+1<=c:=(hph i ⟨r,hr,hwr⟩).1 (.inr rfl);refine r2.longer (qz hf hic hcl) (qcM hf hic hcl) (fun b hb=>qce hf hic hcl (fun k h1 h2 q hq=>?_) b hb)
  cases hwk:wr q.k with
  | false=>rfl
  | true =>
   have hW':=hWx hwr k q hq (qjf hwk) (by omega) (fun h=>by have:=(qa9 h.2).1;rw[hwk] at this;cases this)
   rcases (hph k ⟨q,hq,hwk⟩).2 h2 with h3|h3
   ·have:=hW'.1 h3;omega
   ·omega
 unfold wpOpIn;simp only[ho];rw[← hgo];rcases g3 with⟨hG,g3⟩|⟨hG,g3,g4⟩
 ·rw[hG];simp only[if_true];have g3:=qaM g3;rw[← qe6 hsk] at g3;have hc3:=qet hc3;cases hwr:wr r.k with
  | true =>
   -- a writer
   have hnp:zT r.k=false:=by
    cases hk:r.k<;>rw[hk] at hwr<;>first|rfl|skip
    rename_i o1;cases o1<;>first|rfl|(simp[wr] at hwr)
   have g3':xj orc C (xQ r.k) (only (T i) (qW r)) (H i) (fun v h=>v=V i∧h=H (i+1)):=by
    rcases (x6 _ _ _).1 g3 with⟨_,h⟩|⟨h,_⟩
    ·exact h
    ·simp[qdb,hwr] at h
   have hph:∀j,IsW rs j->(S j↔j<i):=by
    intro j hj
    by_cases hji:j=i
    ·subst hji;exact⟨fun h=>absurd h hS,fun h=>absurd h (Nat.lt_irrefl _)⟩
    ·obtain⟨q,hq,hwq⟩:=hj;exact hW hnp j q hq hwq hji (fun h=>by have:=(qa9 h.2).1;rw[hwr] at this;cases this)
   have ri:=I.rels i (by omega) hph;refine jY horc hs ri ht hc3 g3' _ _ ?_;rintro v v' h' ρ1 w' ⟨rfl,rfl⟩ q1 q2 q3
   -- nothing behind it was done: so nothing else is mapped
   have hnone:∀b L,ρ b=some L->b<(H i).sz:=by
    intro b L hb;rcases I.dom b L hb with h|⟨j,h1,h2,h3,h4⟩
    ·exact Nat.lt_of_lt_of_le h (qz hf (Nat.zero_le _) (by omega))
    ·have hjl:=I.lt j h1;have hq:rs[j]?=some rs[j]:=zzE hjl;have hji:j≠i:=by rintro rfl;exact hS h1
     have:j<i:=by
      by_cases hx:j<i∧exc rs[j] r=true
      ·exact hx.1
      ·exact (hWx hwr j _ hq (h2 _ hq) hji hx).1 h1
     exact Nat.lt_of_lt_of_le h4 (qz hf this (by omega))
   have hρ1:∀b L,ρ b=some L->ρ1 b=some L:=by
    intro b L hb;have hlt:=hnone b L hb;rw[q3.ext b hlt,qP hlt];exact hb
   have hbig:=I.big
   have hcut:∀c,i+1<=c->c<=rs.length->cut (ρ1.bump ρ.n) (H c).sz=ρ1.bump (H c).sz:=by
    intro c h1 h2;have hs1:=qz hf h1 h2;have hs2:=qz hf h2 (Nat.le_refl _);have hdn:=q2.dn.1;simp only[cut,Ren.bump]
    congr 1
    ·funext b;cases hb:ρ1 b with
     | none=>simp
     | some L=>rw[if_pos (Nat.lt_of_lt_of_le (q2.dom b L hb) hs1)]
    ·omega
   refine hK _ w' (ρ1.bump ρ.n) (Inv.next hc hf I hr hS hc1 hDd ?_ hρ1 ?_ q3.frz q3.fnew (Nat.le_trans hbig (Nat.le_max_right _ _)) ?_ ?_ q3.pres q3.wle q3.io)
   ·rw[hcut (i+1) (Nat.le_refl _) hi];exact q1.mono (ρ1.bump_le _)
   ·intro b hb;have hlt:=Nat.lt_of_lt_of_le hb (qz hf (Nat.zero_le i) (by omega));show ρ1 b=ρ b;rw[q3.ext b hlt,qP hlt]
   ·intro b L hb;have hb:ρ1 b=some L:=hb
    by_cases hlt:b<(H i).sz
    ·left;rw[q3.ext b hlt,qP hlt] at hb;exact hb
    ·right;exact⟨fun q hq=>by rw[hr] at hq;cases hq;exact hnp,Nat.le_of_not_lt hlt,q2.dom b L hb,q2.dn.2 b L hb⟩
   ·intro c hcl hph';have hic:i+1<=c:=(hph' i ⟨r,hr,hwr⟩).1 (.inr rfl);rw[hcut c hic hcl];exact (writer hwr q2 q2.dom c hcl hph').bump (Nat.le_refl _)
  | false =>
   have g3':jI (xj orc C (xQ r.k) (only (T i) (qW r))) (H i) (fun v h=>v=V i∧h=H (i+1)):=by
    rcases (x6 _ _ _).1 g3 with⟨h,_⟩|⟨_,h⟩
    ·simp[qdb,hwr] at h
    ·exact h
   cases hpure:zT r.k with
   | true =>
    -- nothing to do with memory
    obtain⟨io,hio⟩:∃io,xQ r.k = .op io:=by
     rw[← qbA] at hpure;cases hk:xQ r.k with
     | op io=>exact⟨io,rfl⟩
     | callF=>rw[hk] at hpure;simp[zT] at hpure
     | callV=>rw[hk] at hpure;simp[zT] at hpure
     | callW=>rw[hk] at hpure;simp[zT] at hpure
     | callVW=>rw[hk] at hpure;simp[zT] at hpure
    have hpure:zT (xQ r.k)=true:=by rw[qbA];exact hpure
    rw[hio] at g3' hpure hc3
    obtain⟨v,hv1,hv2,hv3⟩:∃v,v=V i∧H i=H (i+1)∧∀h2 (k2:AV->Hp->Prop),k2 v h2->opK orc io (only (T i) (qW r)) h2 k2:=by
     cases hHi:H i with
     | mk sz fl tr =>
      rw[hHi] at g3';have g4:opK orc io (only (T i) (qW r)) ⟨sz,sz,tr⟩ (fun v h'=>Hp.rec (motive:=fun _=>Prop) (fun sz' _ tr'=>v=V i∧(⟨sz',fl,tr'⟩:Hp)=H (i+1)) h'):=g3'
      obtain⟨v,h1,h2⟩:=qiM hpure g4;exact⟨v,h1.1,h1.2,h2⟩
    subst hv1
    have rr0:Rel σ (cut ρ (H i).sz) (low w.heap.size) ⟨(H i).sz,(H i).sz,.leaf⟩ w:=by
     obtain⟨c,hcl,hcph⟩:=qcl hWW rs.length (fun j _ hs=>I.lt j hs)
     have rc:=I.rels c hcl hcph;refine⟨fun b L hb=>(qU hb).1,?_,?_,?_,?_,?_,fun b L hb hh=>absurd (qU hb).1 (Nat.not_lt_of_le hh),fun _ h=>h,fun k arr hk=>⟨(rc.frz k arr hk).1,fun b L x _ hx=>by simp at hx⟩,⟨Nat.min_le_right _ _,fun b L h=>I.wlt b L (qU h).2⟩⟩
     ·intro b L e wf af cs _ hx;simp at hx
     ·intro b L es _ hx;simp at hx
     ·intro b L e af cs _ hx;simp at hx
     ·intro b L es _ hx;simp at hx
     ·intro b L e wf cs _ hx;simp at hx
    refine jY (rk:=.op io) (k:=fun v' h'=>v'=V i∧h'=⟨(H i).sz,(H i).sz,.leaf⟩) horc hs rr0 ht hc3 (by unfold xj;exact hv3 _ _ ⟨rfl,rfl⟩) _ _ ?_
    rintro v v' h' ρ1 w' ⟨rfl,rfl⟩ q1 q2 q3;have hbig:=I.big;have hsi:=qz hf (i:=i) (j:=rs.length) (by omega) (Nat.le_refl _)
    have e1:ρ1.le (cut ⟨ρ.loc,ρ1.frz,ρ.n⟩ (H i).sz):=by
     refine⟨fun b L hb=>?_,fun _ _ h=>h,?_⟩
     ·have hlt:b<(H i).sz:=q2.dom b L hb;rw[q3.ext b hlt] at hb;exact hb
     ·have hdn:ρ1.n<=(H i).sz:=q2.dn.1;show ρ1.n<=min ρ.n (H i).sz;omega
    refine hK _ w' ⟨ρ.loc,ρ1.frz,ρ.n⟩ (Inv.next hc hf I hr hS hc1 hDd ?_ (fun _ _ h=>h) (fun _ _=>rfl) q3.frz (fun k a h=>(q3.fnew k a h).imp id (fun hh=>xI I.base (Nat.not_lt.1 hh))) hbig (fun _ _ h=>.inl h) ?_ (fun k hk=>q3.pres k (I.base _ hk)) q3.wle q3.io)
    ·rw[← hv2];exact q1.mono e1
    ·intro c hcl hph;exact (I.rels c hcl (phase c hcl hwr hph)).frz' q3.pres q3.wle q3.frz (fun k a h=>(q3.fnew k a h).imp id Nat.not_lt.1) (fun k a h=>(q2.frz k a h).1)
   | false =>
    -- reads,calls,new memory
    by_cases hx:∃k q,rs[k]?=some q∧S k∧i<k∧zS r q=true
    ·-- a place is read that was not written by what is done already
     obtain⟨k0,q0,hq0,hS0,hik0,hex0⟩:=hx;obtain⟨_,hw0,p,d,io,hio,hdst,hload,_⟩:=xN hex0;obtain⟨c,hcl,hcph⟩:=qcl hWW rs.length (fun j _ hs=>I.lt j hs)
     have hic:i<c:=by
      have:=(hcph k0 ⟨q0,hq0,hw0⟩).1 hS0;omega
     have hpn:p ∈ qW r:=by
      simp only[qW,List.mem_append];right;rw[hio];rcases hload with rfl|⟨n,rfl⟩<;>simp[xQ,jp,qe,qI]
     have hpl:xQ r.k = .op io:=by rw[hio];rcases hload with rfl|⟨n,rfl⟩<;>rfl
     have hpt:qgQ r.k=some p:=by rw[hio];rcases hload with rfl|⟨n,rfl⟩<;>rfl
     rw[hpl] at g3' hc3;have ri:=I.rels c hcl hcph
     have hraise:jI (xj orc C (.op io) (only (T i) (qW r))) (H c) (fun v h=>v=V i∧h=H c):=by
      have hcase:(∃b' o' x,(only (T i) (qW r)).get p=some (.ptr b' o')∧(H i).tr.get b'=some x∧∀h2 (K2:AV->Hp->Prop),h2.tr.get b'=some x->K2 (V i) h2->opK orc io (only (T i) (qW r)) h2 K2)∨(∀h2 (K2:AV->Hp->Prop),K2 (V i) h2->opK orc io (only (T i) (qW r)) h2 K2):=by
       cases hHi:H i with
       | mk sz fl tr =>
        rw[hHi] at g3';have g4:opK orc io (only (T i) (qW r)) ⟨sz,sz,tr⟩ (fun v h'=>Hp.rec (motive:=fun _=>Prop) (fun sz' _ tr'=>v=V i∧(⟨sz',fl,tr'⟩:Hp)=H (i+1)) h'):=g3'
        rcases qdx hload g4 with⟨b,o,x,v,h1,h2,h3,h4⟩|⟨v,h3,h4⟩
        ·obtain⟨rfl,h6⟩:=h3;exact .inl ⟨b,o,x,h1,h2,h4⟩
        ·obtain⟨rfl,h6⟩:=h3;exact .inr h4
      rcases hcase with⟨b',o',x,hp,hb',hrun⟩|hrun
      ·have hTp:(T i).get p=some (.ptr b' o'):=by rw[jG,if_pos hpn] at hp;exact hp
       have hbl:b'<(H i).sz:=by
        obtain⟨_,hvr⟩:=ht p _ hp;obtain⟨L,h1,_⟩:=hvr.un_ptr;exact (qU h1).1
       have hkeepD:∀j,i<=j->j<=c->(H j).tr.get b'=(H i).tr.get b':=by
        intro j
        induction j with
        | zero => intro h1 _;obtain rfl:i=0:=by omega
                  rfl
        | succ j ihj =>
         intro h1 h2;rcases Nat.lt_or_eq_of_le h1 with h1|h1
         ·have hij:i<=j:=by omega
          rw[← ihj hij (by omega)];have hjl:j<rs.length:=by omega
          have hq:rs[j]?=some rs[j]:=zzE hjl;generalize rs[j]=q at hq;have hbj:b'<(H j).sz:=Nat.lt_of_lt_of_le hbl (qz hf hij (by omega));cases hwq:wr q.k with
          | false=>exact (hf j hjl).keep (fun q' hq'=>by rw[hq] at hq';cases hq';exact hwq) b' hbj
          | true =>
           have hSj:S j:=(hcph j ⟨q,hq,hwq⟩).2 (by omega);have hne:j≠i:=by rintro rfl;exact hS hSj
           have hnb:qbk r q=false:=by
            unfold qbk;rw[hio];rcases hload with rfl|⟨n,rfl⟩<;>rfl
           have hex:zS r q=true:=by
            cases he:zS r q with
            | true=>rfl
            | false =>
             have:=(hW hpure j q hq hwq hne (fun h=>by have:=h.2;unfold exc at this;rw[he,hnb] at this;cases this)).1 hSj
             omega
           obtain⟨_,_,p2,d2,io2,hio2,_,hload2,ps,hqk,hps⟩:=xN hex
           have hpp:p2=p:=by
            rw[hio] at hio2;cases hio2;rcases hload with rfl|⟨m,rfl⟩<;>rcases hload2 with h|⟨m2,h⟩<;>cases h<;>rfl
           subst hpp
           have hTj:(T j).get p2=some (.ptr b' o'):=by
            rw[← hTp];exact qaf hc hij (by omega) (fun k hk1 hk2=>hSt j q p2 hq (by omega) hex hpt k hk1 hk2)
           obtain⟨_,_,gj⟩:=hc.step j q hq;rcases gj with⟨_,gj⟩|⟨_,_,gj⟩
           ·have gj':∃u h',(∀q ∈ ps,∀b' o',(T j).get q=some (.ptr b' o')->b'<(H j).sz->h'.tr.get b'=(H j).tr.get b')∧u=V j∧h'=H (j+1):=by
             rcases hqk with⟨n,xx,vv,hqk⟩|⟨e,y,xx,vv,hqk⟩
             ·rw[hqk] at gj;exact qbP (orc:=orc) gj
             ·rw[hqk] at gj;exact qdg (orc:=orc) gj
            obtain⟨u,h',f1,_,f3⟩:=gj';rw[← f3];exact f1 p2 hps b' o' hTj hbj
           ·rw[gj]
         ·rw[← h1]
       have hHc:(H c).tr.get b'=some x:=(hkeepD c (by omega) (Nat.le_refl _)).trans hb';cases hHcc:H c with
       | mk sz fl tr =>
        rw[hHcc] at hHc;exact hrun ⟨sz,sz,tr⟩ (fun v h'=>Hp.rec (motive:=fun _=>Prop) (fun sz' _ tr'=>v=V i∧(⟨sz',fl,tr'⟩:Hp)=⟨sz,fl,tr⟩) h') hHc ⟨rfl,rfl⟩
      ·cases hHcc:H c with
       | mk sz fl tr =>
        exact hrun ⟨sz,sz,tr⟩ (fun v h'=>Hp.rec (motive:=fun _=>Prop) (fun sz' _ tr'=>v=V i∧(⟨sz',fl,tr'⟩:Hp)=⟨sz,fl,tr⟩) h') ⟨rfl,rfl⟩
     refine qat horc hs ri (ht.mono (hmonoc (Nat.le_of_lt hic) hcl)) hc3 hraise _ _ ?_;rintro v v' h' ρ1 w' ⟨rfl,rfl⟩ q1 q2 q3 q4 q5 q6 q7;have hbig:=I.big
     have e1:ρ1.le ⟨ρ.loc,ρ1.frz,ρ.n⟩:=by
      refine⟨fun b L hb=>?_,fun _ _ h=>h,?_⟩
      ·have hlt:b<(H c).sz:=q2.dom b L hb;rw[q3.ext b hlt] at hb;exact (qU hb).2
      ·have hdn:=q2.dn.1;have:=qz hf hcl (Nat.le_refl _);show ρ1.n<=ρ.n;omega
     obtain⟨ρs,vs,hsm1,hsm2,hsm3⟩:=hV i r d hr hdst;refine hK _ w' ⟨ρ.loc,ρ1.frz,ρ.n⟩ (Inv.next hc hf I hr hS hc1 hDd (VR.small hsm2 hsm3 hsm1 (q1.mono e1)) (fun _ _ h=>h) (fun _ _=>rfl) q3.frz q3.fnew hbig (fun _ _ h=>.inl h) ?_ (fun k hk=>q5 k (I.base _ hk)) q3.wle q3.io)
     intro c' hcl' hph';exact (I.rels c' hcl' (phase c' hcl' hwr hph')).frz' q5 q3.wle q3.frz q7 (fun k a h=>(q2.frz k a h).1)
    by_cases hx2:∃k q,rs[k]?=some q∧S k∧i<k∧qbk r q=true
    ·-- new memory,and a store behind it is done
     obtain⟨k0,q0,hq0,hS0,hik0,hex0⟩:=hx2
     have hbl:jA r.k=true:=by
      exact (qbl hex0).1
     have hw0:wr q0.k=true:=(qa9 (show exc r q0=true by unfold exc;rw[hex0,Bool.or_true])).2
     obtain⟨io,hio,hblind⟩:=qcB (orc:=orc) hbl
     have hpl:xQ r.k = .op io:=by
      unfold jA at hbl;split at hbl
      ·rename_i e;rw[hio] at e;cases e;rw[hio];rfl
      ·rename_i e;rw[hio] at e;cases e;rw[hio];rfl
      ·rename_i e;rw[hio] at e;cases e;rw[hio];rfl
      ·cases hbl
     rw[hpl] at g3' hc3
     obtain⟨v,x,hv1,hv2,hrun⟩:∃v x,v=V i∧H (i+1)=⟨(H i).sz+1,(H i).fl,(H i).tr.set (H i).sz x⟩∧∀fl2 tr2 (K2:AV->Hp->Prop),K2 v ⟨(H i).sz+1,fl2,tr2.set (H i).sz x⟩->opK orc io (only (T i) (qW r)) ⟨(H i).sz,fl2,tr2⟩ K2:=by
      cases hHi:H i with
      | mk sz fl tr =>
       rw[hHi] at g3';have g4:opK orc io (only (T i) (qW r)) ⟨sz,sz,tr⟩ (fun v h'=>Hp.rec (motive:=fun _=>Prop) (fun sz' _ tr'=>v=V i∧(⟨sz',fl,tr'⟩:Hp)=H (i+1)) h'):=g3'
       obtain⟨v,x,h1,h2⟩:=hblind g4;exact⟨v,x,h1.1,h1.2.symm,h2⟩
     subst hv1
     have rr0:Rel σ (cut ρ (H i).sz) (low w.heap.size) ⟨(H i).sz,(H i).sz,.leaf⟩ w:=by
      obtain⟨c,hcl,hcph⟩:=qcl hWW rs.length (fun j _ hs=>I.lt j hs)
      have rc:=I.rels c hcl hcph;refine⟨fun b L hb=>(qU hb).1,?_,?_,?_,?_,?_,fun b L hb hh=>absurd (qU hb).1 (Nat.not_lt_of_le hh),fun _ h=>h,fun k arr hk=>⟨(rc.frz k arr hk).1,fun b L x _ hx=>by simp at hx⟩,⟨Nat.min_le_right _ _,fun b L h=>I.wlt b L (qU h).2⟩⟩
      ·intro b L e wf af cs _ hx;simp at hx
      ·intro b L es _ hx;simp at hx
      ·intro b L e af cs _ hx;simp at hx
      ·intro b L es _ hx;simp at hx
      ·intro b L e wf cs _ hx;simp at hx
     refine jY (rk:=.op io) (k:=fun v' h'=>v'=V i∧h'=⟨(H i).sz+1,(H i).sz,Tr.leaf.set (H i).sz x⟩) horc hs rr0 ht hc3 (by unfold xj;exact hrun _ _ _ ⟨rfl,rfl⟩) _ _ ?_
     rintro v v' h' ρ1 w' ⟨rfl,rfl⟩ q1 q2 q3;have hbig:=I.big;have hsi:=qz hf (i:=i+1) (j:=rs.length) hi (Nat.le_refl _);have hs1:(H (i+1)).sz=(H i).sz+1:=by rw[hv2]
     have hfree:∀b L,ρ b=some L->b≠(H i).sz:=by
      rintro b L hb rfl;rcases I.dom _ L hb with h|⟨j,h3,_,h4,h5⟩
      ·have:=qz hf (Nat.zero_le i) (by omega);omega
      ·have hjl:=I.lt j h3;rcases Nat.lt_trichotomy j i with h|h|h
       ·have:=qz hf (i:=j+1) (j:=i) h (by omega);omega
       ·subst h;exact hS h3
       ·have:=qz hf (i:=i+1) (j:=j) h (by omega);omega
     let ρn:Ren:=⟨fun b=>if b=(H i).sz then ρ1 b else ρ b,ρ1.frz,ρ.n⟩
     have hρn:∀b L,ρ b=some L->ρn b=some L:=by
      intro b L hb;simp only[ρn];rw[if_neg (hfree b L hb)];exact hb
     have hρ1n:∀c,i+1<=c->c<=rs.length->∀b L,ρ1 b=some L->cut ρn (H c).sz b=some L:=by
      intro c h1 h2 b L hb;have hlt:b<(H i).sz+1:=q2.dom b L hb;have:=qz hf h1 h2;rw[qP (by omega)];simp only[ρn]
      by_cases h3:b=(H i).sz
      ·rw[if_pos h3];exact hb
      ·have hlt2:b<(H i).sz:=by omega
       rw[if_neg h3];rw[q3.ext b hlt2,qP hlt2] at hb;exact hb
     have hρ1l:∀c,i+1<=c->c<=rs.length->ρ1.le (cut ρn (H c).sz):=by
      intro c h1 h2;refine⟨hρ1n c h1 h2,fun _ _ h=>h,?_⟩
      have hdn:ρ1.n<=(H i).sz+1:=q2.dn.1;have:=qz hf h1 h2;have:=qz hf h2 (Nat.le_refl _);show ρ1.n<=min ρ.n (H c).sz;omega
     refine hK _ w' ρn (Inv.next hc hf I hr hS hc1 hDd (q1.mono (hρ1l (i+1) (Nat.le_refl _) hi)) hρn ?_ q3.frz (fun k a h=>(q3.fnew k a h).imp id (fun hh=>xI I.base (Nat.not_lt.1 hh))) hbig ?_ ?_ (fun k hk=>q3.pres k (I.base _ hk)) q3.wle q3.io)
     ·intro b hb;have:=qz hf (Nat.zero_le i) (by omega);simp only[ρn];rw[if_neg (by omega)]
     ·intro b L hb;simp only[ρn] at hb;split at hb
      ·rename_i h;exact .inr ⟨fun q hq=>by rw[hr] at hq;cases hq;exact hpure,by omega,by omega,q2.dn.2 b L hb⟩
      ·exact .inl hb
     ·intro c hcl hph';have hph0:=phase c hcl hwr hph';have rc:=I.rels c hcl hph0
      have hic:i<c:=by
       have:=(hph0 k0 ⟨q0,hq0,hw0⟩).1 hS0;omega
      have hcont:∀j,i+1<=j->j<=c->(H j).tr.get (H i).sz=some x:=by
       intro j
       induction j with
       | zero=>intro h1;omega
       | succ j ihj =>
        intro h1 h2;rcases Nat.lt_or_eq_of_le h1 with h1|h1
        ·have hij:i+1<=j:=by omega
         have hprev:=ihj hij (by omega);have hjl:j<rs.length:=by omega
         have hq:rs[j]?=some rs[j]:=zzE hjl;generalize rs[j]=q at hq;have hbj:(H i).sz<(H j).sz:=by have:=qz hf hij (by omega);omega
         cases hwq:wr q.k with
         | false=>rw[(hf j hjl).keep (fun q' hq'=>by rw[hq] at hq';cases hq';exact hwq) _ hbj];exact hprev
         | true =>
          have hSj:S j:=(hph0 j ⟨q,hq,hwq⟩).2 (by omega);have hne:j≠i:=by omega
          have hnx:zS r q=false:=by
           cases he:zS r q with
           | false=>rfl
           | true =>
            obtain⟨_,_,p,d,io2,hio2,_,hload,_⟩:=xN he;rw[hio] at hio2;cases hio2;unfold jA at hbl;rw[hio] at hbl;rcases hload with rfl|⟨n,rfl⟩<;>cases hbl
          have hex:qbk r q=true:=by
           cases he:qbk r q with
           | true=>rfl
           | false =>
            have:=(hW hpure j q hq hwq hne (fun h=>by have:=h.2;unfold exc at this;rw[he,hnx] at this;cases this)).1 hSj
            omega
          obtain⟨p,hp⟩:∃p,x5 q.k=some p:=by
           exact Option.isSome_iff_exists.1 (qbl hex).2
          obtain⟨_,_,gj⟩:=hc.step j q hq;rcases gj with⟨_,gj⟩|⟨_,_,gj⟩
          ·obtain⟨b',o',y,u,f1,f2,f3⟩:=qcq (orc:=orc) hp gj
           have hne2:b'≠(H i).sz:=by
            rcases hSb j q p hq (by omega) hex hp with hSb|⟨m,z,m1,m2,m3,m4⟩
            ·have hTi:(T i).get p=some (.ptr b' o'):=by
              rw[← f1];exact (qaf hc (by omega) (by omega) (fun k hk1 hk2=>hSb k hk1 hk2)).symm
             have hlt:=hPt p b' o' hTi;omega
            ·have hTm:(T (m+1)).get p=some (.ptr b' o'):=by
              rw[← f1];exact (qaf hc (by omega) (by omega) (fun k hk1 hk2=>m4 k (by omega) hk2)).symm
             rw[qb6 hc m3,if_pos rfl] at hTm;have hVm:=qfj hc m3;rw[hVm] at hTm;have hb':(H m).sz=b':=by injection hTm with e;injection e
             have:=qz hf (i:=i+1) (j:=m) (by omega) (by omega);rw[hv2] at this;have:(H i).sz+1<=(H m).sz:=this;omega
           rw[← f3];simp only[Hp.put,Tr.get_set];rw[if_neg (by omega)];exact hprev
          ·rw[gj];exact hprev
        ·rw[← h1,hv2];simp[Tr.get_set]
      have hnb:=hcont c hic (Nat.le_refl _);have hsc:=qz hf hcl (Nat.le_refl _);have hs2:=qz hf (i:=i+1) (j:=c) hic hcl;have hfn:∀k a,ρ1.frz k=some a->ρ.frz k=some a∨w.heap.size<=k:=fun k a h=>(q3.fnew k a h).imp id Nat.not_lt.1
      refine Rel.join2 (nb:=(H i).sz) rc q2 (fun n hn=>q3.pres n hn) q3.wle (by omega) (by rw[hnb];simp[Tr.get_set]) ?_ (hρ1n c hic hcl) q3.frz rfl (Nat.le_refl _) (hρ1l c hic hcl).2.2 (Nat.min_le_right _ _) hfn ?_
      ·intro b L hb;obtain⟨h1,h2⟩:=qU hb;rw[qP h1];exact hρn b L h2
      ·intro b L hb;obtain⟨h1,h2⟩:=qU hb;simp only[ρn] at h2;split at h2
       ·rename_i h;exact .inr ⟨h,h2,Nat.not_lt.1 (q2.flr b L h2 (by show (H i).sz<=b;omega))⟩
       ·left;rw[qP h1];exact h2
    have hph:∀j,IsW rs j->(S j↔j<i):=by
     intro j hj
     by_cases hji:j=i
     ·subst hji;obtain⟨q,h1,h2⟩:=hj;rw[hr] at h1;cases h1;rw[hwr] at h2;cases h2
     ·obtain⟨q,hq,hwq⟩:=hj
      by_cases he:i<j∧exc r q=true
      ·refine⟨fun h=>?_,fun h=>by omega⟩
       have he2:=he.2;unfold exc at he2;rcases (Bool.or_eq_true _ _ ▸ he2:zS r q=true∨qbk r q=true) with he2|he2
       ·exact absurd ⟨j,q,hq,h,he.1,he2⟩ hx
       ·exact absurd ⟨j,q,hq,h,he.1,he2⟩ hx2
      ·exact hW hpure j q hq hwq hji he
    have ri:=I.rels i (by omega) hph;refine qat horc hs ri ht hc3 g3' _ _ ?_;rintro v v' h' ρ1 w' ⟨rfl,rfl⟩ q1 q2 q3 q4 q5 q6 q7;have hbig:=I.big
    -- the new map
    let ρn:Ren:=⟨fun b=>if (H i).sz<=b∧b<(H (i+1)).sz then ρ1 b else ρ b,ρ1.frz,ρ.n⟩
    have hfree:∀b L,ρ b=some L->¬((H i).sz<=b∧b<(H (i+1)).sz):=by
     rintro b L hb ⟨h1,h2⟩;rcases I.dom b L hb with h|⟨j,h3,_,h4,h5⟩
     ·have:=qz hf (Nat.zero_le i) (by omega);omega
     ·have hjl:=I.lt j h3;rcases Nat.lt_trichotomy j i with h|h|h
      ·have:=qz hf (i:=j+1) (j:=i) h (by omega);omega
      ·subst h;exact hS h3
      ·have:=qz hf (i:=i+1) (j:=j) h (by omega);omega
    have hρn:∀b L,ρ b=some L->ρn b=some L:=by
     intro b L hb;simp only[ρn];rw[if_neg (hfree b L hb)];exact hb
    have hρ1n:∀c,i+1<=c->c<=rs.length->∀b L,ρ1 b=some L->cut ρn (H c).sz b=some L:=by
     intro c h1 h2 b L hb;have hlt:=q2.dom b L hb;rw[qP (Nat.lt_of_lt_of_le hlt (qz hf h1 h2))];simp only[ρn]
     by_cases h3:(H i).sz<=b
     ·rw[if_pos ⟨h3,hlt⟩];exact hb
     ·rw[if_neg (fun h=>h3 h.1)]
      rw[q3.ext b (Nat.lt_of_not_le h3),qP (Nat.lt_of_not_le h3)] at hb;exact hb
    have hρ1l:∀c,i+1<=c->c<=rs.length->ρ1.le (cut ρn (H c).sz):=by
     intro c h1 h2;refine⟨hρ1n c h1 h2,fun _ _ h=>h,?_⟩
     have hdn:=q2.dn.1;have:=qz hf h1 h2;have:=qz hf h2 (Nat.le_refl _);show ρ1.n<=min ρ.n (H c).sz;omega
    refine hK _ w' ρn (Inv.next hc hf I hr hS hc1 hDd ?_ hρn ?_ q3.frz q3.fnew hbig ?_ ?_ q3.pres q3.wle q3.io)
    ·exact q1.mono (hρ1l (i+1) (Nat.le_refl _) hi)
    ·intro b hb;have:=qz hf (Nat.zero_le i) (by omega);simp only[ρn];rw[if_neg (fun h=>by omega)]
    ·intro b L hb;simp only[ρn] at hb;split at hb
     ·rename_i h;exact .inr ⟨fun q hq=>by rw[hr] at hq;cases hq;exact hpure,h.1,h.2,q2.dn.2 b L hb⟩
     ·exact .inl hb
    ·intro c hcl hph';have hph0:=phase c hcl hwr hph';have rc:=I.rels c hcl hph0
     by_cases hci:c<=i
     ·have e:cut ρn (H c).sz=⟨(cut ρ (H c).sz).loc,ρ1.frz,(cut ρ (H c).sz).n⟩:=by
       simp only[cut,ρn]
       congr 1
       funext b;split
       ·have:=qz hf hci (by omega);rw[if_neg (fun h=>by omega)]
       ·rfl
      rw[e];exact rc.frz' q5 q3.wle q3.frz q7 (fun k a h=>(q2.frz k a h).1)
     ·have hic:i+1<=c:=by omega
      have hkeep:∀b,b<(H (i+1)).sz->(H c).tr.get b=(H (i+1)).tr.get b:=fun b hb=>qce hf hic hcl (fun k h1 h2 q hq=>by
       cases hwk:wr q.k with
       | false=>rfl
       | true =>
        have h3:=(hph0 k ⟨q,hq,hwk⟩).2 h2;have:=(hph k ⟨q,hq,hwk⟩).1 h3;omega) b hb
      have hsc:=qz hf hcl (Nat.le_refl _);refine Rel.join rc q2 q5 q3.wle (qz hf hic hcl) (qcM hf hic hcl) hkeep ?_ (hρ1n c hic hcl) q3.frz rfl (Nat.le_refl _) (hρ1l c hic hcl).2.2 (Nat.min_le_right _ _) q7 ?_
      ·intro b L hb;obtain⟨h1,h2⟩:=qU hb;rw[qP h1];exact hρn b L h2
      ·intro b L hb;obtain⟨h1,h2⟩:=qU hb;simp only[ρn] at h2;split at h2
       ·rename_i h;exact .inr ⟨h2,q6 b L h2 h.1⟩
       ·left;rw[qP h1];exact h2
 ·-- it isn't wanted
  rw[hG];simp only[Bool.false_eq_true,if_false];refine⟨fun _ _=>trivial,hK _ w ρ (Inv.next hc hf I hr hS hc1 hDd ?_ (fun _ _ h=>h) (fun _ _=>rfl) (fun _ _ h=>h) (fun _ _ h=>.inl h) I.big (fun _ _ h=>.inl h) ?_ (fun _ _=>rfl) (Nat.le_refl _) ⟨rfl,rfl⟩)⟩
  ·rw[g3];exact .tup [] #[] .nil
  ·intro c hcl hph;cases hwr:wr r.k with
   | false=>exact I.rels c hcl (phase c hcl hwr hph)
   | true =>
    have hnp:zT r.k=false:=by
     cases hk:r.k<;>rw[hk] at hwr<;>first|rfl|skip
     rename_i o1;cases o1<;>first|rfl|(simp[wr] at hwr)
    have hph0:∀j,IsW rs j->(S j↔j<i):=by
     intro j hj
     by_cases hji:j=i
     ·subst hji;exact⟨fun h=>absurd h hS,fun h=>absurd h (Nat.lt_irrefl _)⟩
     ·obtain⟨q,hq,hwq⟩:=hj;exact hW hnp j q hq hwq hji (fun h=>by have:=(qa9 h.2).1;rw[hwr] at this;cases this)
    have ri:=I.rels i (by omega) hph0;have hic:i+1<=c:=(hph i ⟨r,hr,hwr⟩).1 (.inr rfl);have hbig:=I.big;have hs1:=qz hf hic hcl;have hs2:=qz hf hcl (Nat.le_refl _);have hs3:(H i).sz<=(H (i+1)).sz:=qz hf (Nat.le_succ i) hi
    have e:cut ρ (H c).sz=(cut ρ (H i).sz).bump (H c).sz:=by
     simp only[cut,Ren.bump]
     congr 1
     rotate_left
     ·omega
     funext b;cases hb:ρ b with
     | none=>simp
     | some L =>
      have hlt:b<(H i).sz:=by
       rcases I.dom b L hb with h|⟨j,h1,h2,h3,h4⟩
       ·exact Nat.lt_of_lt_of_le h (qz hf (Nat.zero_le _) (by omega))
       ·have hjl:=I.lt j h1;have hq:rs[j]?=some rs[j]:=zzE hjl;have hji:j≠i:=by rintro rfl;exact hS h1
        have:j<i:=by
         by_cases hx:j<i∧exc rs[j] r=true
         ·exact hx.1
         ·exact (hWx hwr j _ hq (h2 _ hq) hji hx).1 h1
        exact Nat.lt_of_lt_of_le h4 (qz hf this (by omega))
      rw[if_pos hlt,if_pos (Nat.lt_of_lt_of_le hlt (Nat.le_trans hs3 hs1))]
    rw[e];have ri':Rel σ (cut ρ (H i).sz) B (H (i+1)) w:=by rw[g4];exact ri
    exact (writer hwr ri' ri'.dom c hcl hph).bump (Nat.le_refl _)
end

theorem qdO(horc:OrcOk P σ orc){C:qw}(hi:LC C)(hs:xm P σ C){ro:Option Nat}{nt:Nat}{ops:Array Oper}{id:Nat}{rs:List ROp}{Q:Tr AV->Hp->Prop}{K:Exit->Act->World->Prop}{B:Nat->Prop}{t:Tr AV}{h:Hp}{w:World}{a:Act}{ρ:Ren}
  (hrs:xE P ops nt ops.toList rs=true) (hmix:P.follows .mixedOrders=true) (hdr:qca ops rs=true) (hk:x4 orc true C rs Q t h) (ht:TR σ ρ t a.tmps) (hsz:nt<=a.tmps.size) (r:Rel σ ρ B h w)
  (hK:∀a' w' t' h' ρ',Q t' h'->TR σ ρ' t' a'.tmps->nt<=a'.tmps.size->a'.defers=a.defers->Rel σ ρ' B h' w'->Kept ρ B h w ρ' h' w'->K .normal a' w'):(Code.region id ops true).wpIn (Fr ro) 0 P K a w:=by
 obtain⟨T,H,G,V,rfl,rfl,hc,hQ⟩:=qcF hi rs t h hk;obtain⟨_,hf⟩:=xM horc hs hrs hc ht hsz r rs.length (Nat.le_refl _);obtain⟨hlen,hget⟩:=jP hrs;have hlen':ops.size=rs.length:=by simpa using hlen
 simp only[qca,Bool.and_eq_true] at hdr;obtain⟨⟨hd0,hd1⟩,hd2⟩:=hdr
 have hlt:∀(i:Nat) o,ops[i]?=some o->∀e ∈ o.after,Region.binds .any e=true->e.on<i:=by
  intro i o ho e he hb;have:=(List.all_eq_true.1 hd1) (o,i) (by rw[List.mem_zipIdx_iff_getElem?];simpa using ho);rw[Array.all_eq_true'] at this;have h2:=this e he;simp[hb] at h2;simpa[Nat.blt] using h2
 let S:Array Bool->Nat->Prop:=fun l i=>l[i]?=some true
 have main:∀(fuel:Nat) (listed:Array Bool) (a':Act) (w':World) (ρ':Ren),listed.size=ops.size->listed.toList.count false=fuel->(∀(i:Nat) o,S listed i->ops[i]?=some o->∀e ∈ o.after,Region.binds .any e=true->S listed e.on)->
   Inv σ rs T H nt ρ B w a.defers (S listed) a' w' ρ'->wpAnyIn (Fr ro) 0 P .any ops K fuel listed a' w':=by
  intro fuel
  have fin:∀(listed:Array Bool) (a':Act) (w':World) (ρ':Ren),listed.size=ops.size->(∀i,i<ops.size->S listed i)->Inv σ rs T H nt ρ B w a.defers (S listed) a' w' ρ'->K .normal a' w':=by
   intro listed a' w' ρ' hls hall I;have hall':∀i,i<rs.length->S listed i:=fun i hi=>hall i (by omega)
   have rn:=I.rels rs.length (Nat.le_refl _) (fun j hj=>by
    obtain⟨q,h1,_⟩:=hj;have:=(zzS.1 h1).1;exact⟨fun _=>this,fun _=>hall' j this⟩)
   refine hK a' w' _ _ (cut ρ' (H rs.length).sz) hQ (fun x v hv=>I.tmps x rs.length v (Nat.le_refl _) (fun k hk=>by
    obtain⟨q,h1,_⟩:=hk;have:=(zzS.1 h1).1;exact⟨fun _=>this,fun _=>hall' k this⟩) hv) I.size I.defers rn ?_
   exact⟨fun b hb=>by rw[qP (Nat.lt_of_lt_of_le hb (qz hf (Nat.zero_le _) (Nat.le_refl _)))];exact I.ext b hb,qz hf (Nat.zero_le _) (Nat.le_refl _),qcM hf (Nat.zero_le _) (Nat.le_refl _),
    fun b h1 h2=>qf1 hf (Nat.le_refl _) b h1 h2,I.pres,I.wle,I.io,I.frz,I.fnew,by
     have h1:=r.dn.1;have h2:=qz hf (Nat.zero_le rs.length) (Nat.le_refl _);have h3:=I.big;show ρ.n<=min ρ'.n (H rs.length).sz;omega⟩
  -- where nothing is ready all is done
  have done:∀(listed:Array Bool),listed.size=ops.size->Region.ready .any ops listed=[]->∀i,i<ops.size->S listed i:=by
   intro listed hls hre i
   induction i using Nat.strongRecOn with
   | _ i ihi =>
    intro hi;apply Classical.byContradiction;intro hns
    have hmem:i ∈ Region.ready .any ops listed:=by
     simp only[Region.ready,List.mem_filter,List.mem_range];have ho:ops[i]?=some ops[i]:=Array.getElem?_eq_getElem hi
     have hli:listed[i]?=some false:=by
      have h1:listed[i]?=some (listed[i]'(by omega)):=Array.getElem?_eq_getElem (by omega);cases hb:listed[i]'(by omega) with
      | false=>rw[h1,hb]
      | true=>exact absurd (show S listed i from by show listed[i]?=some true;rw[h1,hb]) hns
     refine⟨hi,?_⟩;rw[Array.getD_eq_getD_getElem?,hli,ho];simp only[Option.getD_some,Bool.not_false,Bool.true_and,Option.map_some,Array.all_eq_true'];intro e he
     by_cases hb:Region.binds .any e=true
     ·have hl:=hlt i _ ho e he hb;have:S listed e.on:=ihi e.on hl (by omega);have h2:listed[e.on]?=some true:=this;simp[Array.getD_eq_getD_getElem?,h2]
     ·simp[hb]
    rw[hre] at hmem;cases hmem
  induction fuel with
  | zero =>
   intro listed a' w' ρ' hls hcnt hcl I
   have hall:∀i,i<ops.size->S listed i:=by
    intro i hi;have h1:listed[i]?=some (listed[i]'(by omega)):=Array.getElem?_eq_getElem (by omega);cases hb:listed[i]'(by omega) with
    | true=>show listed[i]?=some true;rw[h1,hb]
    | false =>
     exfalso
     have:false ∈ listed.toList:=by
      rw[← hb];simp
     have:=List.count_pos_iff.2 this;omega
   refine⟨?_,fin listed a' w' ρ' hls hall I⟩;apply List.eq_nil_iff_forall_not_mem.2;intro i hi;simp only[Region.ready,List.mem_filter,List.mem_range] at hi;have h2:listed[i]?=some true:=hall i hi.1;have h3:=hi.2;rw[Array.getD_eq_getD_getElem?,h2] at h3;simp at h3
  | succ fuel ihf =>
   intro listed a' w' ρ' hls hcnt hcl I;refine⟨fun hre=>fin listed a' w' ρ' hls (done listed hls hre) I,?_⟩
   intro i hi;simp only[Region.ready,List.mem_filter,List.mem_range,Bool.and_eq_true,Bool.not_eq_true'] at hi;obtain⟨hin,hnl,hafter⟩:=hi;have ho:ops[i]?=some ops[i]:=Array.getElem?_eq_getElem hin
   have hli:listed[i]?=some false:=by
    have h1:listed[i]?=some (listed[i]'(by omega)):=Array.getElem?_eq_getElem (by omega);rw[Array.getD_eq_getD_getElem?,h1] at hnl;rw[h1];simpa using hnl
   have hS:¬S listed i:=by intro h;have h':listed[i]?=some true:=h;rw[hli] at h';cases h'
   rw[ho] at hafter;simp only[Option.map_some,Option.getD_some,Array.all_eq_true'] at hafter
   have hready:∀e ∈ ops[i].after,Region.binds .any e=true->S listed e.on:=by
    intro e he hb;have:=hafter e he;simp[hb] at this;show listed[e.on]?=some true;cases h:listed[e.on]? with
    | none=>rw[h] at this;simp at this
    | some b=>rw[h] at this;simp at this;rw[this]
   have hri:rs[i]?=some (rs[i]'(by omega)):=zzE (by omega);generalize rs[i]'(by omega)=rr at hri
   -- what must be before,is;what must be behind,isn't
   have hlow:∀k q,rs[k]?=some q->k<i->xO q rr=true->S listed k:=by
    intro k q hq hki hm;have hbit:=jW rs 0 hd2 rfl k i q rr hki (Nat.zero_le _) hq hri hm;exact qaI hlt hcl i _ ho hready k hbit
   have hhigh:∀k q,rs[k]?=some q->i<k->xO rr q=true->¬S listed k:=by
    intro k q hq hik hm hSk;have hkl:=(zzS.1 hq).1;have hbit:=jW rs 0 hd2 rfl i k rr q hik (Nat.zero_le _) hri hq hm;have hok:ops[k]?=some (ops[k]'(by omega)):=Array.getElem?_eq_getElem (by omega);exact hS (qaI hlt hcl k _ hok (hcl k _ hSk hok) i hbit)
   have hcmp:∀k q,rs[k]?=some q->k≠i->(k<i->xO q rr=true)->(i<k->xO rr q=true)->(S listed k↔k<i):=by
    intro k q hq hki h1 h2;rcases Nat.lt_or_gt_of_ne hki with h|h
    ·exact⟨fun _=>h,fun _=>hlow k q hq h (h1 h)⟩
    ·exact⟨fun hs=>absurd hs (hhigh k q hq h (h2 h)),fun hs=>by omega⟩
   have hback:∀j k q q',rs[j]?=some q->rs[k]?=some q'->k<j->xO q' q=true->S listed j->S listed k:=by
    intro j k q q' hq hq' hkj hm hSj;have hjl:=(zzS.1 hq).1;have hbit:=jW rs 0 hd2 rfl k j q' q hkj (Nat.zero_le _) hq' hq hm;have hok:ops[j]?=some (ops[j]'(by omega)):=Array.getElem?_eq_getElem (by omega);exact qaI hlt hcl j _ hok (hcl j _ hSj hok) k hbit
   refine Inv.step horc hs hrs hc hf I hri hS ?_ ?_ ?_ ?_ ?_ ?_ ?_ ?_ _ _ ?_
   ·rintro x hx k ⟨q,hq,hqd⟩ hki
    have hdn:dn q rr=true:=by
     simp only[dn,hqd];simpa using hx
    exact hcmp k q hq hki (fun _=>by simp[xO,hdn]) (fun _=>by simp[xO,hdn])
   ·intro hp k q hq hqw hki hne;refine hcmp k q hq hki (fun _=>by simp[xO,hp,hqw]) (fun h=>?_)
    have:exc rr q=false:=by
     cases he:exc rr q with
     | true=>exact absurd ⟨h,he⟩ hne
     | false=>rfl
    simp[xO,hp,hqw,this]
   ·intro hw k q hq hp hki hne;refine hcmp k q hq hki (fun h=>?_) (fun _=>by simp[xO,hp,hw])
    have:exc q rr=false:=by
     cases he:exc q rr with
     | true=>exact absurd ⟨h,he⟩ hne
     | false=>rfl
    simp[xO,hp,hw,this]
   ·rintro j1 j2 ⟨q1,hq1,hw1⟩ ⟨q2,hq2,hw2⟩ hj hs2;exact hback j2 j1 q2 q1 hq2 hq1 hj (by simp[xO,hw1,qjf hw2]) hs2
   ·rintro j q p hq hij hex hpt k hik hkj ⟨u,hu,hud⟩;have h1:=(List.all_eq_true.1 hd0) (q,j) (by rw[List.mem_zipIdx_iff_getElem?];exact hq);have h2:=(List.all_eq_true.1 h1) (rr,i) (by rw[List.mem_zipIdx_iff_getElem?,List.getElem?_take_of_lt hij];exact hri);simp only[hex,Bool.not_true,Bool.false_or,Bool.and_eq_true] at h2
    have h3:=(List.all_eq_true.1 h2.1) u (zzM (i:=k-i) (by
     rw[List.getElem?_drop,show i+(k-i)=k from by omega,List.getElem?_take_of_lt hkj];exact hu))
    simp[hud,hpt] at h3
   ·intro j q p hq hij hex hpt;have h1:=(List.all_eq_true.1 hd0) (q,j) (by rw[List.mem_zipIdx_iff_getElem?];exact hq);have h2:=(List.all_eq_true.1 h1) (rr,i) (by rw[List.mem_zipIdx_iff_getElem?,List.getElem?_take_of_lt hij];exact hri);simp only[hex,Bool.not_true,Bool.false_or,Bool.and_eq_true] at h2;rcases Bool.or_eq_true _ _ ▸ h2.2 with h2|h2
    ·left;rintro k hik hkj ⟨u,hu,hud⟩
     have h3:=(List.all_eq_true.1 h2) u (zzM (i:=k-i) (by
      rw[List.getElem?_drop,show i+(k-i)=k from by omega,List.getElem?_take_of_lt hkj];exact hu))
     simp[hud,hpt] at h3
    ·right;rw[hpt] at h2;obtain⟨n,z,n1,n2⟩:=qbT h2;have hnl:n<((rs.take j).drop (i+1)).length:=(zzS.1 n1).1;rw[List.length_drop,List.length_take] at hnl;rw[List.getElem?_drop,List.getElem?_take_of_lt (by omega)] at n1;refine⟨i+1+n,z,by omega,by omega,n1,?_⟩
     rintro k hk1 hk2 ⟨u,hu,hud⟩;exact n2 (k-(i+1)) u (by omega) (by rw[List.getElem?_drop,show i+1+(k-(i+1))=k from by omega,List.getElem?_take_of_lt hk2];exact hu) hud
   ·intro p b o hp;obtain⟨⟨ρ3,a3,w3,ht3,_,r3⟩,_⟩:=xM horc hs hrs hc ht hsz r i (by omega);obtain⟨L,h1,_⟩:=(ht3 p _ hp).2.un_ptr;exact r3.dom b L h1
   ·intro j q d hq hd;have hjl:=(zzS.1 hq).1;obtain⟨⟨ρ3,a3,w3,ht3,_,r3⟩,_⟩:=xM horc hs hrs hc ht hsz r (j+1) (by omega);have hg:(T (j+1)).get d=some (V j):=by rw[qb6 hc hq,if_pos hd]
    exact⟨ρ3,_,(ht3 d _ hg).2,fun b L hb=>r3.dom b L hb,r3.dn.1⟩
   ·intro a2 w2 ρ2 I2
    have hS2:S (listed.setIfInBounds i true)=fun j=>S listed j∨j=i:=by
     funext j;apply propext;show (listed.setIfInBounds i true)[j]?=some true↔(listed[j]?=some true∨j=i);rw[Array.getElem?_setIfInBounds]
     by_cases hji:i=j
     ·subst hji;simp;omega
     ·rw[if_neg hji];constructor
      ·exact .inl
      ·rintro (h|h)
       ·exact h
       ·exact absurd h.symm hji
    refine ihf (listed.setIfInBounds i true) a2 w2 ρ2 (by simp;exact hls) ?_ ?_ (by rw[hS2];exact I2)
    ·rw[Array.toList_setIfInBounds];have hil:i<listed.toList.length:=by simp;omega
     have hget0:listed.toList[i]=false:=by
      have:listed.toList[i]?=some false:=by simpa using hli
      rw[zzE hil] at this;simpa using this
     rw[List.count_set hil,hget0,hcnt];rfl
    ·intro j o' hSj ho' e he hb;rw[hS2] at hSj ⊢;rcases hSj with hSj|rfl
     ·exact .inl (hcl j o' hSj ho' e he hb)
     ·rw[ho] at ho';cases ho';exact .inl (hready e he hb)
 -- the beginning
 refine wpIn_region_any hmix (main ops.size (Array.replicate ops.size false) a _ (ρ.bump (H rs.length).sz) (by simp) (by simp) ?_ ?_)
 ·intro i o hS;have h':(Array.replicate ops.size false)[i]?=some true:=hS;simp[Array.getElem?_replicate] at h'
 ·have hno:∀i,¬S (Array.replicate ops.size false) i:=by
   intro i hS;have h':(Array.replicate ops.size false)[i]?=some true:=hS;simp[Array.getElem?_replicate] at h'
  have r':Rel σ ρ B (H 0) { w with drawn:=w.drawn+1 }:=r.heap rfl
  have hdom0:∀c,c<=rs.length->cut (ρ.bump (H rs.length).sz) (H c).sz=ρ.bump (H c).sz:=by
   intro c hcl;have h1:=qz hf hcl (Nat.le_refl _);have h2:=qz hf (Nat.zero_le c) hcl;have h3:=r.dn.1;simp only[cut,Ren.bump]
   congr 1
   ·funext b;cases hb:ρ b with
    | none=>simp[hb]
    | some L=>rw[if_pos (Nat.lt_of_lt_of_le (r.dom b L hb) h2)]
   ·omega
  refine⟨fun i h=>absurd h (hno i),fun b L hb=>.inl (r.dom b L hb),?_,?_,fun _ _=>rfl,fun _ _=>rfl,Nat.le_refl _,⟨rfl,rfl⟩,r.base,hsz,rfl,Nat.le_max_right _ _,fun _ _ h=>h,fun _ _ h=>.inl h,r.dn.2⟩
  ·intro c hcl hph;rw[hdom0 c hcl];refine (r'.longer (qz hf (Nat.zero_le _) hcl) (qcM hf (Nat.zero_le _) hcl) (fun b hb=>qce hf (Nat.zero_le _) hcl (fun k _ h2 q hq=>?_) b hb)).bump (Nat.le_refl _)
   cases hwk:wr q.k with
   | false=>rfl
   | true=>exact absurd ((hph k ⟨q,hq,hwk⟩).2 h2) (hno k)
  ·intro x j v hj hph hg;have e:(T j).get x=(T 0).get x:=qaf hc (Nat.zero_le _) hj (fun k _ h2 hdk=>absurd ((hph k hdk).2 h2) (hno k))
   rw[e] at hg;rw[hdom0 j hj];exact⟨(ht x v hg).1,(ht x v hg).2.mono (ρ.bump_le _)⟩
end Go.Kc
end
section
namespace Go.Kc
variable [Cur]

def σ0:Nat->Value:=fun _=>.bool false
def qi:Orc:=⟨fun _ _ _=>none,fun _=>none,fun _ _=>none⟩
omit [Cur] in
theorem jq(P:Program):OrcOk P σ0 qi :=
 ⟨fun _=>rfl,(fun _ _ _ _ h=>by cases h),(fun _ _ h=>by cases h),(fun _ _ _ h=>by cases h),fun _=>.inr (.inr ⟨false,rfl⟩)⟩

def xT(F:Fence)(n:Nat)(P:Program)(c:Code)(Q:Exit->Act->World->Prop)(a:Act)(w:World):Prop :=
 ∀(b:Frame) (k:List Item) (cs:List Frame),b.roundOf=F.round->F.fn b.fn->F.room (cs.length+1+n)->
  ∃e a' w',Q e a' w'∧ArrivesIn (Machine.fenced P F) P (lone (b.atR a (.code c :: .inLoop c::k)) cs w) b k cs e a' w'
omit [Cur] in
theorem qaZ{F:Fence}{n:Nat}{P:Program}{c:Code}{Q:Exit->Act->World->Prop}{a:Act}{w:World}(h:c.wpIn F n P (Exit.then (xT F n P c Q) Q) a w):xT F n P c Q a w:=by
 intro b k cs hro hb hr;obtain⟨e,a₁,w₁,hq,harr⟩:=h b (.inLoop c::k) cs hro hb hr;cases e with
 | normal =>
  obtain⟨e₂,a₂,w₂,hq₂,harr₂⟩:=hq b k cs hro hb hr;exact⟨e₂,a₂,w₂,hq₂,.of_steps (StepsIn.trans harr (.one (fenced_calm hb hr rfl) stepR_inLoop)) harr₂⟩
 | exit id=>exact⟨_,a₁,w₁,hq,.pass (x:=.inLoop c) rfl (by simp_all) harr⟩
 | goto l=>exact⟨_,a₁,w₁,hq,.pass (x:=.inLoop c) rfl (by simp_all) harr⟩
 | ret=>exact⟨_,a₁,w₁,hq,.pass (x:=.inLoop c) rfl (by simp_all) harr⟩
 | panic ch=>exact⟨_,a₁,w₁,hq,.pass (x:=.inLoop c) rfl (by simp_all) harr⟩
 | outgrown=>exact⟨_,a₁,w₁,hq,.pass (x:=.inLoop c) rfl (by simp_all) harr⟩
omit [Cur] in
theorem qbX{F:Fence}{n:Nat}{P:Program}{c:Code}{Q:Exit->Act->World->Prop}{a:Act}{w:World}(h:xT F n P c Q a w):(Code.loop c).wpIn F n P Q a w:=by
 intro b k cs hro hb hr;obtain⟨e,a',w',hq,harr⟩:=h b k cs hro hb hr;exact⟨e,a',w',hq,.of_steps (.one (fenced_calm hb hr rfl) stepR_loop) harr⟩
omit [Cur] in
theorem xT.mono{F:Fence}{n:Nat}{P:Program}{c:Code}{Q Q':Exit->Act->World->Prop}{a:Act}{w:World}(h:xT F n P c Q a w)(hq:∀e a w,Q e a w->Q' e a w):xT F n P c Q' a w :=
 fun b k cs h1 h2 h3=>let ⟨e,a',w',q,r⟩:=h b k cs h1 h2 h3;(by grind)

variable {P:Program} {n:Nat}
def zY:ICode->Bool
 | .seq x y=>zY x&&zY y
 | .cond _ x y=>zY x&&zY y
 | .blk _ x=>zY x
 | .loop x=>zY x
 | .cut x=>zY x
 | .rangeF _ _ _ _ _=>false
 | _=>true
omit [Cur] in
theorem nr1{ro:Option Nat}{x y:Bool}(h:ro=none∨(x&&y)=true):ro=none∨x=true:=by grind
omit [Cur] in
theorem nr2{ro:Option Nat}{x y:Bool}(h:ro=none∨(x&&y)=true):ro=none∨y=true:=by grind
def S(P:Program)(n:Nat)(c:ICode)(Q:X->Tr AV->Hp->Prop)(t:Tr AV)(h:Hp):Prop :=
 ∀nt code,qm P nt code c=true->n<=h.sz->∀ro,(ro=none∨zY c=true)->∀ρ B w (a:Act),TR σ0 ρ t a.tmps->nt<=a.tmps.size->Rel σ0 ρ B h w->code.wpIn (Fr ro) 0 P (xl σ0 Q nt n ρ B h w a.defers) a w
def SL(P:Program)(n:Nat)(c:ICode)(Q:X->Tr AV->Hp->Prop)(t:Tr AV)(h:Hp):Prop :=
 ∀nt code,qm P nt code c=true->n<=h.sz->∀ro,(ro=none∨zY c=true)->∀ρ B w (a:Act),TR σ0 ρ t a.tmps->nt<=a.tmps.size->Rel σ0 ρ B h w->xT (Fr ro) 0 P code (xl σ0 Q nt n ρ B h w a.defers) a w
def SC(P:Program)(f:Nat)(vs:List AV)(h:Hp)(k:AV->Hp->Prop):Prop :=
 qcE P f∧∀ρ B w (args:Array Value),Rel σ0 ρ B h w->VRs σ0 ρ vs args.toList->qdJ P σ0 f args ρ B h w k
def SY(P:Program)(b:Nat)(vs:List AV)(h:Hp)(k:AV->Hp->Prop):Prop :=
 ∀ρ B w (args:Array Value) L,ρ b=some L->Rel σ0 ρ B h w->VRs σ0 ρ vs args.toList->qcx P σ0 L.blk args ρ B h w k
def CC(P:Program):qw:=fun f vs h k=>match f with
 | 0=>(match vs with | .yl b::us=>SY P b us h k|_=>False)
 | f+1=>SC P f vs h k
theorem qfe(P:Program):xm P σ0 (CC P):=⟨fun _ _ _ _ hk=>hk,fun _ _ _ _ hk=>hk⟩

def onX(e:X)(n:Prop)(x:Nat->Prop)(r:Prop):Prop:=X.rec (motive:=fun _=>Prop) n x r e
omit [Cur] in
theorem qdy(n:Prop)(x:Nat->Prop)(r:Prop):onX .normal n x r=n:=rfl
omit [Cur] in
theorem qgB(i:Nat)(n:Prop)(x:Nat->Prop)(r:Prop):onX (.exit i) n x r=x i:=rfl
omit [Cur] in
theorem qiy(n:Prop)(x:Nat->Prop)(r:Prop):onX .ret n x r=r:=rfl
def VG(P:Program)(ops:List ROp)(Q:Tr AV->Hp->Prop)(t:Tr AV)(h:Hp):Prop:=x4 qi false (CC P) ops Q t h
def VD(P:Program)(ops:List ROp)(Q:Tr AV->Hp->Prop)(t:Tr AV)(h:Hp):Prop:=∃C,LC C∧xm P σ0 C∧x4 qi true C ops Q t h
def V(P:Program)(n:Nat):ICode->(X->Tr AV->Hp->Prop)->Tr AV->Hp->Prop
 | .skip,Q,t,h=>Q .normal t h
 | .reg d ops,Q,t,h=>if d=true then VD P ops (fun t h=>Q .normal t h) t h else VG P ops (fun t h=>Q .normal t h) t h
 | .seq x y,Q,t,h=>V P n x (fun e t h=>onX e (V P n y Q t h) (fun id=>Q (.exit id) t h) (Q .ret t h)) t h
 | .cond c x y,Q,t,h=>evK t c (fun v=>unB v (fun b=>if b=true then V P n x Q t h else V P n y Q t h))
 | .blk id x,Q,t,h=>V P n x (fun e t h=>onX e (Q .normal t h) (fun i=>if i=id then Q .normal t h else Q (.exit i) t h) (Q .ret t h)) t h
 | .loop x,Q,t,h=>SL P n x Q t h
 | .exit id,Q,t,h=>Q (.exit id) t h
 | .ret,Q,t,h=>Q .ret t h
 | .no,_,_,_=>False
 | .cut x,Q,t,h=>S P n x Q t h
 | .rangeF j g ps x y,Q,t,h=>S P n (.rangeF j g ps x y) Q t h

theorem zr:∀{c:ICode} {Q:X->Tr AV->Hp->Prop} {t:Tr AV} {h:Hp},V P n c Q t h->S P n c Q t h
 | .no,_,_,_,hv=>hv.elim
 | .rangeF _ _ _ _ _,_,_,_,hv=>hv
 | .cut x,Q,t,h,hv=>fun nt code hc hn ro hro=>hv nt code (by cases code<;>simpa only[qm] using hc) hn ro hro
 | .skip,Q,t,h,hv=>by
  intro nt code hc hn ro hro ρ B w a ht hsz r;cases code<;>first|(simp[qm] at hc;done)|skip
  exact wpIn_skip (xl.of .normal hv ht hsz rfl r (Kep.refl _ _ hn _))
 | .ret,Q,t,h,hv=>by
  intro nt code hc hn ro hro ρ B w a ht hsz r;cases code<;>first|(simp[qm] at hc;done)|skip
  exact wpIn_ret (xl.of .ret hv ht hsz rfl r (Kep.refl _ _ hn _))
 | .exit id,Q,t,h,hv=>by
  intro nt code hc hn ro hro ρ B w a ht hsz r;cases code<;>first|(simp[qm] at hc;done)|skip
  obtain rfl:=eq_of_beq (show (_==id)=true from by simpa[qm] using hc)
  exact wpIn_exit (xl.of (.exit _) hv ht hsz rfl r (Kep.refl _ _ hn _))
 | .reg d rs,Q,t,h,hv=>by
  intro nt code hc hn ro hro ρ B w a ht hsz r;cases code<;>first|(simp[qm] at hc;done)|skip
  rename_i id ops d';simp only[qm,Bool.and_eq_true] at hc;obtain⟨⟨h1,h2⟩,h3⟩:=hc;obtain rfl:=eq_of_beq h1;cases d' with
  | false =>
   have hv':VG P rs (fun t h=>Q .normal t h) t h:=hv
   refine wpIn_region ?_
   have:=qaL (ops:=ops) (nt:=nt) (ro:=ro) (K:=xl σ0 Q nt n ρ B h w a.defers) (ρ0:=ρ) (h0:=h) (w0:=w) (ds:=a.defers) (jq P) (qfe P) (fun a' w' t' h' ρ' g1 g2 g3 g4 g5 g6=>xl.of .normal g1 g2 g3 g4 g5 (g6.kep hn))
    ops.toList rs 0 h2 rfl t h ρ w a hv' ht hsz rfl r (Kept.refl _ _ _ _)
   rw[List.range_eq_range'];omega
  | true =>
   obtain⟨C,c1,c2,c3⟩:VD P rs (fun t h=>Q .normal t h) t h:=hv
   simp only[Bool.not_true,Bool.false_or,Bool.and_eq_true] at h3;exact qdO (jq P) c1 c2 h2 h3.1 h3.2 c3 ht hsz r (fun a' w' t' h' ρ' g1 g2 g3 g4 g5 g6=>xl.of .normal g1 g2 g3 g4 g5 (g6.kep hn))
 | .seq x y,Q,t,h,hv=>by
  intro nt code hc hn ro hro ρ B w a ht hsz r;cases code<;>first|(simp[qm] at hc;done)|skip
  rename_i cx cy;simp only[qm,Bool.and_eq_true] at hc;refine wpIn_seq (wpIn_mono (zr (c:=x) hv nt cx hc.1 hn ro (nr1 hro) ρ B w a ht hsz r) ?_);rintro e a1 w1 ⟨x1,t1,h1,ρ1,rs,hx,hq,ht1,hs1,hd1,hm,r1,k1⟩;cases hx with
  | normal=>exact wpIn_mono (zr (c:=y) hq nt cy hc.2 k1.szle ro (nr2 hro) ρ1 _ w1 a1 ht1 hs1 r1) (by grind[xl.trans,MarksOk.lt])
  | exit id=>exact⟨_,t1,h1,ρ1,rs,.exit id,hq,ht1,hs1,hd1,hm,r1,k1⟩
  | ret=>exact⟨_,t1,h1,ρ1,rs,.ret,hq,ht1,hs1,hd1,hm,r1,k1⟩
 | .cond c x y,Q,t,h,hv=>by
  intro nt code hc hn ro hro ρ B w a ht hsz r;cases code<;>first|(simp[qm] at hc;done)|skip
  rename_i cc cx cy;simp only[qm,Bool.and_eq_true] at hc;obtain⟨⟨h1,h2⟩,h3⟩:=hc;obtain⟨v,h4,h5⟩:=ql ht h1 hv;obtain⟨b,h6,h7⟩:=qbH h5 h4;cases b with
  | true=>exact wpIn_cond_true h6 (zr (c:=x) h7 nt cx h2 hn ro (nr1 hro) ρ B w a ht hsz r)
  | false=>exact wpIn_cond_false h6 (zr (c:=y) h7 nt cy h3 hn ro (nr2 hro) ρ B w a ht hsz r)
 | .blk id x,Q,t,h,hv=>by
  intro nt code hc hn ro hro ρ B w a ht hsz r;cases code<;>first|(simp[qm] at hc;done)|skip
  rename_i id' cx;simp only[qm,Bool.and_eq_true] at hc;obtain rfl:=eq_of_beq hc.1;refine wpIn_block (wpIn_mono (zr (c:=x) hv nt cx hc.2 hn ro hro ρ B w a ht hsz r) ?_);rintro e a1 w1 ⟨x1,t1,h1,ρ1,rs,hx,hq,ht1,hs1,hd1,hm,r1,k1⟩;cases hx with
  | normal=>exact⟨_,t1,h1,ρ1,rs,.normal,hq,ht1,hs1,hd1,hm,r1,k1⟩
  | ret=>exact⟨_,t1,h1,ρ1,rs,.ret,hq,ht1,hs1,hd1,hm,r1,k1⟩
  | exit id2 =>
   show (if id2=id' then _ else _)
   have hq':(if id2=id' then Q .normal t1 h1 else Q (.exit id2) t1 h1):=hq
   by_cases he:id2=id'
   ·rw[if_pos he] at hq' ⊢;exact⟨_,t1,h1,ρ1,rs,.normal,hq',ht1,hs1,hd1,hm,r1,k1⟩
   ·rw[if_neg he] at hq' ⊢;exact⟨_,t1,h1,ρ1,rs,.exit id2,hq',ht1,hs1,hd1,hm,r1,k1⟩
 | .loop x,Q,t,h,hv=>by
  intro nt code hc hn ro hro ρ B w a ht hsz r;cases code<;>first|(simp[qm] at hc;done)|skip
  rename_i cx;exact qbX (hv nt cx (by simpa[qm] using hc) hn ro hro ρ B w a ht hsz r)

theorem qhh{x:ICode}{Q:X->Tr AV->Hp->Prop}{t:Tr AV}{h:Hp}(hv:V P n x (fun e t h=>onX e (SL P n x Q t h) (fun id=>Q (.exit id) t h) (Q .ret t h)) t h):SL P n x Q t h:=by
 intro nt cx hc hn ro hro ρ B w a ht hsz r;refine qaZ (wpIn_mono (zr hv nt cx hc hn ro hro ρ B w a ht hsz r) ?_);rintro e a1 w1 ⟨x1,t1,h1,ρ1,rs,hx,hq,ht1,hs1,hd1,hm,r1,k1⟩;cases hx with
 | normal=>exact xT.mono (hq nt cx hc k1.szle ro hro ρ1 _ w1 a1 ht1 hs1 r1) (by grind[xl.trans,MarksOk.lt])
 | exit id=>exact⟨_,t1,h1,ρ1,rs,.exit id,hq,ht1,hs1,hd1,hm,r1,k1⟩
 | ret=>exact⟨_,t1,h1,ρ1,rs,.ret,hq,ht1,hs1,hd1,hm,r1,k1⟩

def Wk(n:Nat)(t:Tr AV)(h:Hp)(t':Tr AV)(h':Hp):Prop :=
 ∀ρ B w tm,TR σ0 ρ t tm->Rel σ0 ρ B h w->∃ρ',TR σ0 ρ' t' tm∧Rel σ0 ρ' B h' w∧Kep n ρ B h w ρ' h' w
theorem SL.weak{x:ICode}{Q:X->Tr AV->Hp->Prop}{t t':Tr AV}{h h':Hp}(hw:Wk n t h t' h')(hs:SL P n x Q t' h'):SL P n x Q t h:=by
 intro nt cx hc hn ro hro ρ B w a ht hsz r;obtain⟨ρ',h1,h2,h3⟩:=hw ρ B w a.tmps ht r;exact xT.mono (hs nt cx hc h3.szle ro hro ρ' B w a h1 hsz h2) (by grind[xl.weaken])
end Go.Kc
end
section
namespace Go.Kc
variable [Cur]
variable {P:Program} {n:Nat}

mutual
def clo:AV->Bool
 | .ptr _ _=>false
 | .sl _ _ _ _ _=>false
 | .map _=>false
 | .own _ _=>false
 | .fn _ a c=>qbM a&&qbM c
 | .ifc _ v=>clo v
 | .agg cs=>qbM cs
 | .tup cs=>qbM cs
 | .undef=>true | .b _=>true | .i _ _=>true | .s _=>true | .nilp=>true | .nils=>true | .nilf=>true | .nili=>true | .nilm=>true | .sym _=>false | .fz _ _=>true | .pf _ _=>true | .e0=>true | .nz=>true | .yl _=>false | .lp _=>false
def qbM:List AV->Bool
 | []=>true
 | v::vs=>clo v&&qbM vs
end
mutual
theorem VR.cr{ρ:Ren}:∀{a:AV} {v:Value},VR σ0 ρ a v->clo a=true->CR σ0 ρ.frz a v
 | _,_,.undef v,_=>.undef v
 | _,_,.b x,_=>.b x
 | _,_,.i k n,_=>.i k n
 | _,_,.s x,_=>.s x
 | _,_,.nilp,_=>.nilp
 | _,_,.ptr b o L h,hc=>by simp[clo] at hc
 | _,_,.nils,_=>.nils
 | _,_,.sl b o len cap c loose L h hc,hh=>by simp[clo] at hh
 | _,_,.slz b o x l L h,hh=>by simp[clo] at hh
 | _,_,.nilf,_=>.nilf
 | _,_,.fn f first cap first' cap' h1 h2,hc=>by
  simp only[clo,Bool.and_eq_true] at hc;exact .fn _ _ _ _ _ (h1.crs hc.1) (h2.crs hc.2)
 | _,_,.nili,_=>.nili
 | _,_,.ifc t v v' h,hc=>by simp only[clo] at hc;exact .ifc _ _ _ (h.cr hc)
 | _,_,.agg cs cs' h,hc=>by simp only[clo] at hc;exact .agg _ _ (h.crs hc)
 | _,_,.tup cs cs' h,hc=>by simp only[clo] at hc;exact .tup _ _ (h.crs hc)
 | _,_,.nilm,_=>.nilm
 | _,_,.map b L h h0,hc=>by simp[clo] at hc
 | _,_,.sym j,hc=>by simp[clo] at hc
 | _,_,.fz n off c cs k arr hn h hs,_=>.fz n off c cs k arr hn h hs
 | _,_,.fz0 a,_=>.fz0 a
 | _,_,.pf off base cs k arr h hs,_=>.pf off base cs k arr h hs
 | _,_,.e0 a,_=>.e0 a
 | _,_,.nz a c,_=>.nz a c
 | _,_,.own0 b a hb,hc=>by simp[clo] at hc
 | _,_,.own b n c L h hn hc',hc=>by simp[clo] at hc
 | _,_,.yl b L h,hc=>by simp[clo] at hc
theorem VRs.crs{ρ:Ren}:∀{a:List AV} {v:List Value},VRs σ0 ρ a v->qbM a=true->CRs σ0 ρ.frz a v
 | _,_,.nil,_=>.nil
 | _,_,.cons v vs v' vs' h hs,hc=>by
  simp only[qbM,Bool.and_eq_true] at hc;exact .cons _ _ _ _ (h.cr hc.1) (hs.crs hc.2)
end

mutual
inductive Frz (h:Hp):AV->AV->Prop where
 | undef (v:AV):Frz h v .undef
 | b (x:Bool):Frz h (.b x) (.b x)
 | i (k:IntKind) (n:Int):Frz h (.i k n) (.i k n)
 | s (x:List UInt8):Frz h (.s x) (.s x)
 | nilp:Frz h .nilp .nilp
 | nils:Frz h .nils .nils
 | nilz:Frz h .nils (.fz 0 [])
 | nilf:Frz h .nilf .nilf
 | nili:Frz h .nili .nili
 | nilm:Frz h .nilm .nilm
 | e0:Frz h .e0 .e0
 | nz:Frz h .nz .nz
 | e0z:Frz h .e0 (.fz 0 [])
 | fz (n:Nat) (cs:List AV):Frz h (.fz n cs) (.fz n cs)
 | pf (cs:List AV) (o:Nat):Frz h (.pf cs o) (.pf cs o)
 | fn (f:Nat) (a c a' c':List AV) (h1:Frzs h a a') (h2:Frzs h c c'):Frz h (.fn f a c) (.fn f a' c')
 | ifc (t:Nat) (v v':AV) (h1:Frz h v v'):Frz h (.ifc t v) (.ifc t v')
 | agg (cs cs':List AV) (h1:Frzs h cs cs'):Frz h (.agg cs) (.agg cs')
 | tup (cs cs':List AV) (h1:Frzs h cs cs'):Frz h (.tup cs) (.tup cs')
 | sl (b o n c:Nat) (l:Bool) (e:Nat) (af:Bool) (cs:List AV) (m:Nat) (cs':List AV) (hb:h.tr.get b=some (.cells e true af cs)) (hn:n<=c) (hm:o+m<=cs.length) (h0:c=0->m=0) (h1:Frzs h ((cs.drop o).take m) cs'):Frz h (.sl b o n c l) (.fz n cs')
 | own (b n:Nat) (e:Nat) (af:Bool) (ys cs':List AV) (hb:h.tr.get b=some (.cells e true af ys)) (h0:n=0->ys=[]) (h1:Frzs h ys cs'):Frz h (.own b n) (.fz n cs')
 | ptr (b o:Nat) (e:Nat) (af:Bool) (ys cs':List AV) (hb:h.tr.get b=some (.cells e true af ys)) (h1:Frzs h ys cs'):Frz h (.ptr b o) (.pf cs' o)
inductive Frzs (h:Hp):List AV->List AV->Prop where
 | nil:Frzs h [] []
 | cons (v v':AV) (vs vs':List AV) (h1:Frz h v v') (h2:Frzs h vs vs'):Frzs h (v::vs) (v'::vs')
end
omit [Cur] in
theorem Frzs.length{h:Hp}{as vs:List AV}(hf:Frzs h as vs):as.length=vs.length:=by
 induction as generalizing vs with
 | nil=>cases hf;rfl
 | cons a as ih=>cases hf<;>grind

open Classical in
noncomputable def qdr(ρ:Ren)(h:Hp)(w:World):Nat->Option (Array Value):=fun k =>
 match ρ.frz k with
 | some a=>some a
 | none=>match w.heap[k]? with
  | some (.cells arr _ _)=>if ∃b L e af cs,ρ b=some L∧h.tr.get b=some (.cells e true af cs)∧L.blk=k then some arr else none
  | _=>none
noncomputable def z7(ρ:Ren)(h:Hp)(w:World):Fz:=⟨qdr ρ h w,fun k a hk=>by simp[qdr,ρ.frz.ok k a hk]⟩
omit [Cur] in
theorem xb{ρ:Ren}{h:Hp}{w:World}{k:Nat}{a:Array Value}(hk:ρ.frz k=some a):z7 ρ h w k=some a:=by simp[z7,qdr,hk]
omit [Cur] in
theorem jl{ρ:Ren}{h:Hp}{w:World}{k:Nat}{a:Array Value}(hk:z7 ρ h w k=some a):ρ.frz k=some a∨((∃ty fz,w.heap[k]?=some (.cells a ty fz))∧∃b L e af cs,ρ b=some L∧h.tr.get b=some (.cells e true af cs)∧L.blk=k):=by
 change qdr ρ h w k=some a at hk;unfold qdr at hk;split at hk
 ·simp_all
 ·split at hk
  ·rename_i arr ty fz hh;split at hk
   ·rename_i hx;cases hk;exact by simp_all
   ·cases hk
  simp_all
theorem qaE{ρ:Ren}{B:Nat->Prop}{h:Hp}{w:World}(r:Rel σ0 ρ B h w){b:Nat}{L:Loc}{e:Nat}{af:Bool}{cs:List AV}(hb:ρ b=some L)(hg:h.tr.get b=some (.cells e true af cs)){c:Array Value}{ty:TypeId}{fz:Nat×Nat}(hc:w.heap[L.blk]?=some (.cells c ty fz)):z7 ρ h w L.blk=some c:=by
 have h0:ρ.frz L.blk=none:=by
  cases hf:ρ.frz L.blk<;>grind[Rel.frz]
 have hx:∃b' L' e' af' cs',ρ b'=some L'∧h.tr.get b'=some (.cells e' true af' cs')∧L'.blk=L.blk:=⟨b,L,e,af,cs,hb,hg,rfl⟩;show qdr ρ h w L.blk=some c;simp only[qdr,h0,hc,if_pos hx]

mutual
theorem Frz.ok{ρ:Ren}{B:Nat->Prop}{h:Hp}{w:World}(r:Rel σ0 ρ B h w):∀{v v':AV} {x:Value},Frz h v v'->VR σ0 ρ v x->CR σ0 (z7 ρ h w) v' x
 | _,_,_,.undef _,_=>.undef _
 | _,_,_,.b _,hv=>by cases hv;exact .b _
 | _,_,_,.i _ _,hv=>by cases hv;exact .i _ _
 | _,_,_,.s _,hv=>by cases hv;exact .s _
 | _,_,_,.nilp,hv=>by cases hv;exact .nilp
 | _,_,_,.nils,hv=>by cases hv;exact .nils
 | _,_,_,.nilz,hv=>by cases hv;exact .fz0 _
 | _,_,_,.nilf,hv=>by cases hv;exact .nilf
 | _,_,_,.nili,hv=>by cases hv;exact .nili
 | _,_,_,.nilm,hv=>by cases hv;exact .nilm
 | _,_,_,.e0,hv=>by
  cases hv with
  | e0=>exact .e0 _
 | _,_,_,.nz,hv=>by
  cases hv with
  | nz=>exact .nz _ _
 | _,_,_,.e0z,hv=>by
  cases hv with
  | e0=>exact .fz0 _
 | _,_,_,.fz _ _,hv=>by
  cases hv with
  | fz _ _ _ _ _ _ q1 q2 q4=>exact .fz _ _ _ _ _ _ q1 (xb q2) (by grind[CRs.mono,xb])
  | fz0=>exact .fz0 _
 | _,_,_,.pf _ _,hv=>by
  cases hv with
  | pf _ _ _ _ _ q2 q4=>exact .pf _ _ _ _ _ (xb q2) (by grind[CRs.mono,xb])
 | _,_,_,.fn _ _ _ _ _ h1 h2,hv=>by
  cases hv with
  | fn _ _ _ _ _ g1 g2=>exact .fn _ _ _ _ _ (h1.ok r g1) (h2.ok r g2)
 | _,_,_,.ifc _ _ _ h1,hv=>by
  cases hv with
  | ifc _ _ _ g1=>exact .ifc _ _ _ (h1.ok r g1)
 | _,_,_,.agg _ _ h1,hv=>by
  cases hv with
  | agg _ _ g1=>exact .agg _ _ (h1.ok r g1)
 | _,_,_,.tup _ _ h1,hv=>by
  cases hv with
  | tup _ _ g1=>exact .tup _ _ (h1.ok r g1)
 | _,_,_,.sl b o n c l e af cs m cs' hb hn hm h0 h1,hv=>by
  have hlen:=h1.length;rw[List.length_take,List.length_drop,Nat.min_eq_left (by omega)] at hlen;obtain⟨L,c',off,g1,rfl,g3⟩:=hv.un_sl;obtain⟨e1,arr,ty,fz,e2,e3,e4,e5,e6⟩:=r.cells b L e true af cs g1 hb;have hf:=qaE r g1 hb e2;rcases g3 with⟨rfl,g3⟩|⟨rfl,rfl,rfl⟩
  ·have hnc:n<=c':=by rcases g3 with g3|⟨_,g3,_⟩<;>omega
   refine .fz n _ c' cs' L.blk arr hnc hf (h1.ok r ?_)
   grind[VRs.of_get]
  ·have hm0:m=0:=h0 rfl;subst hm0;have hcs:cs'=[]:=by grind
   subst hcs;exact .fz 0 _ 0 [] L.blk arr (Nat.le_refl _) hf (by simp;exact .nil)
 | _,_,_,.own b n e af ys cs' hb h0 h1,hv=>by
  have hlen:=h1.length;rcases hv.un_own with⟨rfl,⟨a0,rfl⟩,_⟩|⟨L,c,g1,g2,g3,rfl⟩
  ·have:=h0 rfl;subst this;have hcs:cs'=[]:=by grind
   subst hcs;exact .fz0 _
  ·obtain⟨e1,arr,ty,fz,e2,e3,e4,e5,e6⟩:=r.cells b L e true af ys g1 hb;have hf:=qaE r g1 hb e2;refine .fz n _ c cs' L.blk arr g2 hf (h1.ok r ?_)
   grind[VRs.of_get]
 | _,_,_,.ptr b o e af ys cs' hb h1,hv=>by
  have hlen:=h1.length;obtain⟨L,g1,rfl⟩:=hv.un_ptr;obtain⟨e1,arr,ty,fz,e2,e3,e4,e5,e6⟩:=r.cells b L e true af ys g1 hb;have hf:=qaE r g1 hb e2;refine .pf o L.off cs' L.blk arr hf (h1.ok r ?_)
  grind[VRs.of_get]
theorem Frzs.ok{ρ:Ren}{B:Nat->Prop}{h:Hp}{w:World}(r:Rel σ0 ρ B h w):∀{v v':List AV} {x:List Value},Frzs h v v'->VRs σ0 ρ v x->CRs σ0 (z7 ρ h w) v' x
 | _,_,_,.nil,hv=>by cases hv;exact .nil
 | _,_,_,.cons _ _ _ _ h1 h2,hv=>by
  cases hv with
  | cons _ _ _ _ g1 g2=>exact .cons _ _ _ _ (h1.ok r g1) (h2.ok r g2)
end

noncomputable def jz:List AV->Nat->Tr AV->Tr AV
 | [],_,t=>t
 | v::l,n,t=>jz l (n+1) (t.set n v)
omit [Cur] in
theorem qaA:∀(l:List AV) (n:Nat) (t:Tr AV) (j:Nat) (v:AV),(jz l n t).get j=some v->(n<=j∧l[j-n]?=some v)∨t.get j=some v
 | [],_,_,_,_,h=>.inr h
 | x::l,n,t,j,v,h=>by
  rcases qaA l (n+1) _ j v h with⟨h3,h4⟩|h3
  all_goals grind[Tr.get_set]
def qcJ(res:List RV)(k:AV->Hp->Prop)(e:X)(t:Tr AV)(h:Hp):Prop:=onX e (zM t h res (fun vs=>k (zz vs) h)) (fun _=>False) (zM t h res (fun vs=>k (zz vs) h))
theorem Rel.lessB{ρ:Ren}{B B':Nat->Prop}{h:Hp}{w:World}(r:Rel σ0 ρ B' h w)(hb:∀k,B k->B' k):Rel σ0 ρ B h w :=
 ⟨r.dom,r.cells,r.maps,r.excl,r.exclm,r.app,by grind[Rel.flr],fun k hk=>r.base k (hb k hk),r.frz,r.dn⟩
theorem Rel.shut{ρ:Ren}{B:Nat->Prop}{h:Hp}{w:World}(r:Rel σ0 ρ B h w){q:Nat}{ds:Option (List Deferred)}(hq:w.heap[q]?=some (.deferred ds))(o:Obj):Rel σ0 ρ B h (w.putObj q o):=by
 have other:∀k,k≠q->(w.putObj q o).heap[k]?=w.heap[k]?:=fun k hk=>World.putObj_heap_other hk
 refine⟨r.dom,fun b L e wf af cs hb hg=>?_,fun b L es hb hg=>?_,r.excl,r.exclm,r.app,r.flr,fun k hk=>by simpa using r.base k hk,fun k arr hk=>?_,⟨r.dn.1,fun b L h=>by simpa using r.dn.2 b L h⟩⟩
 ·obtain⟨g1,c,ty,fz,g2,g3⟩:=r.cells b L e wf af cs hb hg;exact by grind
 ·obtain⟨g1,ob,g2,g3⟩:=r.maps b L es hb hg;refine⟨g1,ob,?_,g3⟩;rw[other _ ?_]
  ·exact g2
  ·rintro rfl;rw[hq] at g2;cases g2;rcases g3 with⟨_,_,_,h,_⟩|⟨_,_,_,h⟩|⟨_,_,_,_,h,_⟩|⟨_,_,_,_,_,_,h⟩<;>cases h
 ·obtain⟨⟨ty,fz,g1⟩,g2⟩:=r.frz k arr hk;exact⟨⟨ty,fz,by rw[other _ (by rintro rfl;rw[hq] at g1;cases g1)];exact g1⟩,g2⟩
theorem qaW{fn:Func}{f:Nat}{i:IFn}(hfn:P.funcs[f]?=some fn)(hres:z8 P fn.results.toList i.res=true){ρ ρ':Ren}{B:Nat->Prop}{h h':Hp}{w:World}{t':Tr AV}{tm:Array Value}(ht':TR σ0 ρ' t' tm){k:AV->Hp->Prop} :
  ∀(rs:List Nat) {w':World},(∀r ∈ rs,w'.heap[r]?=some (.deferred (some [])))->rs.Nodup->(∀r ∈ rs,¬B r)->Rel σ0 ρ' B h' w'->Kept ρ B h w ρ' h' w'->zM t' h' i.res (fun vs=>k (zz vs) h')->
   LeavesInM (Fr none) 0 P fn tm (fun e w'=>∃v v' h' ρ',e = .returned v'∧k v h'∧VR σ0 ρ' v v'∧Rel σ0 ρ' B h' w'∧Kept ρ B h w ρ' h' w') (qa0 rs) .returning w'
 | [],w',_,_,_,hr',hk,hq=>by
  obtain⟨v,v',g1,g2,g3⟩:=qbE hr' ht' hres hq;exact⟨v',g3,v,v',h',ρ',rfl,g1,g2,hr',hk⟩
 | r::rs,w',hm,hn,hB,hr',hk,hq=>by
  have h1:=hm r (by simp);refine⟨by simp,.inl ⟨r,w'.putObj r (.deferred none),rfl,run_takeDeferred h1,?_⟩⟩
  have hn2:=List.nodup_cons.1 hn;refine qaW hfn hres ht' rs (fun r' hr2=>?_) hn2.2 (fun r' hr2=>hB r' (by grind)) (hr'.shut h1 _) ?_ hq
  ·rw[World.putObj_heap_other (by rintro rfl;exact hn2.1 hr2)];simp_all
  ·exact⟨hk.ext,hk.szle,hk.fl,hk.akeep,fun k hb=>by rw[World.putObj_heap_other (by grind)];exact hk.pres k hb,by simpa using hk.wle,hk.io,hk.frz,hk.fnew,hk.nle⟩
theorem SC.mk{f:Nat}{i:IFn}{vs:List AV}{h:Hp}{k:AV->Hp->Prop}(hc:xo P f i=true)(hS:S P h.sz i.body (qcJ i.res k) (jz vs 0 .leaf) h):SC P f vs h k:=by
 unfold xo at hc;split at hc<;>try (cases hc;done)
 rename_i fn hfn;simp only[Bool.and_eq_true,bne_iff_ne] at hc;obtain⟨⟨hname,hbody⟩,hres⟩:=hc;split at hbody<;>try (cases hbody;done)
 rename_i c hcb;refine⟨trivial,fun ρ B w args r ha=>.inl ⟨⟨fn,hfn,hname,by rw[hcb];rfl⟩,?_⟩⟩
 have r0:=r
 have ht:TR σ0 ρ (jz vs 0 .leaf) (args++Array.replicate (fn.ntmps-args.size) undef):=by
  intro j v hv;rcases qaA _ _ _ _ _ hv with⟨_,h3⟩|h3
  ·simp only[Nat.sub_zero] at h3;obtain⟨v',h4,h5⟩:=ha.get h3
   have hn:j<args.size:=by
    have:=(zzS.1 h4).1;simpa using this
   refine⟨by simp;omega,?_⟩
   have:(args++Array.replicate (fn.ntmps-args.size) undef).getD j undef=v':=by
    rw[Array.getD_eq_getD_getElem?,Array.getElem?_append_left hn];rw[Array.getElem?_toList] at h4;rw[h4];rfl
   rw[this];exact h5
  simp_all
 have hsize:fn.ntmps<=(args++Array.replicate (fn.ntmps-args.size) undef).size:=by grind
 have hw:=hS fn.ntmps c hbody (Nat.le_refl _) none (.inl rfl) ρ B w { tmps:=args++Array.replicate (fn.ntmps-args.size) undef,defers:=[] } ht hsize r;refine (callsIn_wide (n:=0)).1 (callsIn_of_wp_marks hfn hcb trivial (wpIn_mono hw ?_) rfl);rintro e a w' ⟨x,t',h',ρ',rs,hx,hq,ht',_,hd,hm,hr',hkept⟩
 have key:∀(k':AV->Hp->Prop),zM t' h' i.res (fun vs=>k' (zz vs) h')->LeavesInM (Fr none) 0 P fn a.tmps (fun e w'=>∃v v' h' ρ',e = .returned v'∧k' v h'∧VR σ0 ρ' v v'∧Rel σ0 ρ' B h' w'∧Kept ρ B h w ρ' h' w') a.defers .returning w':=by
  intro k' hq';rw[hd,List.append_nil];have hB:Rel σ0 ρ' B h' w':=hr'.lessB fun k hk=>.inl hk
  exact qaW hfn hres ht' rs (fun r hr=>hm.at' r hr) hm.nodup (fun r hr hb=>absurd (r0.base r hb) (Nat.not_lt.2 (hm.new r hr))) hB (hkept.kept r0.dn.1) hq'
 cases hx with
 | exit id=>exact hq.elim
 | normal=>exact key k hq
 | ret=>exact key k hq
theorem SC.mono{f:Nat}{vs:List AV}{h:Hp}{k k':AV->Hp->Prop}(hc:SC P f vs h k)(hk:∀v h,k v h->k' v h):SC P f vs h k' :=
 ⟨hc.1,fun ρ B w args r ha=>jx.mono (hc.2 ρ B w args r ha) (by grind)⟩

def H0:Hp:=⟨0,0,.leaf⟩
theorem Rel.empty{ρ:Ren}{B:Nat->Prop}{h:Hp}{w:World}(r:Rel σ0 ρ B h w):Rel σ0 ⟨fun _=>none,ρ.frz,0⟩ (low w.heap.size) H0 w :=
 ⟨by simp_all,by grind,by simp_all,by simp_all,by simp_all,by simp_all,by simp_all,(fun _ h=>h),
  by grind[Rel.frz],by simp_all⟩

def zf(P:Program)(f:Nat)(vs:List AV)(v:AV):Prop:=∀(h:Hp) (k:AV->Hp->Prop),k v h->SC P f vs h k
theorem zf.of_SC{f:Nat}{vs:List AV}{v:AV}(hcl:qbM vs=true)(hs:SC P f vs H0 (fun v' h'=>Frz h' v' v)):zf P f vs v:=by
 intro h k hk;refine⟨hs.1,fun ρ B w args r ha=>?_⟩
 have hcr:=ha.crs hcl;refine jx.mono (hs.2 ⟨fun _=>none,ρ.frz,0⟩ (low w.heap.size) w args r.empty (by grind[CRs.vr])) ?_
 rintro e w' ⟨v0,v',h',ρ',rfl,g1,g2,g3,g4⟩;have hcv:=g1.ok g3 g2;have f1:∀k a,ρ.frz k=some a->z7 ρ' h' w' k=some a:=by grind[xb,Kept.frz]
 have f2:∀k a,z7 ρ' h' w' k=some a->ρ.frz k=some a∨w.heap.size<=k:=by
  intro k a hk;rcases jl hk with hk|⟨_,b,L,e,af,cs,h1,_,rfl⟩
  ·exact (g4.fnew k a hk).imp id Nat.not_lt.1
  ·exact .inr (Nat.not_lt.1 (g3.flr b L h1 (by rw[g4.fl];exact Nat.zero_le _)))
 have f3:∀k a,z7 ρ' h' w' k=some a->∃ty fz,w'.heap[k]?=some (.cells a ty fz):=by
  intro k a hk;rcases jl hk with hk|⟨hk,_⟩
  all_goals grind[Rel.frz]
 exact⟨v,v',h,⟨ρ.loc,z7 ρ' h' w',ρ.n⟩,rfl,hk,(by grind[CR.vr]),r.frz' g4.pres g4.wle f1 f2 f3,
  ⟨fun _ _=>rfl,Nat.le_refl _,rfl,fun _ _ _=>rfl,by grind[Kept.pres,Rel.base],g4.wle,g4.io,f1,fun k a hk=>(f2 k a hk).imp id (xI r.base),Nat.le_refl _⟩⟩
theorem zf.mk{f:Nat}{i:IFn}{vs:List AV}{v:AV}(hc:xo P f i=true)(hcl:qbM vs=true)(hV:V P 0 i.body (qcJ i.res (fun v' h'=>Frz h' v' v)) (jz vs 0 .leaf) H0):zf P f vs v :=
 zf.of_SC hcl (SC.mk hc (zr hV))


mutual
inductive NV (r:Nat->Nat) (m:Nat):AV->AV->Prop where
 | undef (v:AV):NV r m v .undef
 | clo (v:AV) (hc:clo v=true):NV r m v v
 | nilz:NV r m .nils (.fz 0 [])
 | e0z:NV r m .e0 (.fz 0 [])
 | slz (b o b':Nat) (hm:b'<m):NV r m (.sl b o 0 0 false) (.own b' 0)
 | e0own (b':Nat) (hm:b'<m):NV r m .e0 (.own b' 0)
 | ptr (b b' o:Nat) (hr:r b'=b) (hm:b'<m):NV r m (.ptr b o) (.ptr b' o)
 | sl (b b' o n c:Nat) (l:Bool) (hr:r b'=b) (hm:b'<m):NV r m (.sl b o n c l) (.sl b' o n c l)
 | own (b b' n:Nat) (hr:r b'=b) (hm:b'<m):NV r m (.own b n) (.own b' n)
 | nilown (b':Nat) (hm:b'<m):NV r m .nils (.own b' 0)
 | map (b b':Nat) (hr:r b'=b) (hm:b'<m):NV r m (.map b) (.map b')
 | yl (b b':Nat) (hr:r b'=b) (hm:b'<m):NV r m (.yl b) (.yl b')
 | fn (f:Nat) (a c a' c':List AV) (h1:NVs r m a a') (h2:NVs r m c c'):NV r m (.fn f a c) (.fn f a' c')
 | ifc (t:Nat) (v v':AV) (h1:NV r m v v'):NV r m (.ifc t v) (.ifc t v')
 | agg (cs cs':List AV) (h1:NVs r m cs cs'):NV r m (.agg cs) (.agg cs')
 | tup (cs cs':List AV) (h1:NVs r m cs cs'):NV r m (.tup cs) (.tup cs')
inductive NVs (r:Nat->Nat) (m:Nat):List AV->List AV->Prop where
 | nil:NVs r m [] []
 | cons (v v':AV) (vs vs':List AV) (h1:NV r m v v') (h2:NVs r m vs vs'):NVs r m (v::vs) (v'::vs')
end
omit [Cur] in
theorem NVs.length{r:Nat->Nat}{m:Nat}{as vs:List AV}(hf:NVs r m as vs):as.length=vs.length:=by
 induction as generalizing vs with
 | nil=>cases hf;rfl
 | cons a as ih=>cases hf<;>grind
omit [Cur] in
theorem NVs.get{r:Nat->Nat}{m:Nat}{as vs:List AV}(hf:NVs r m as vs){j:Nat}{v':AV}(h:vs[j]?=some v'):∃v,as[j]?=some v∧NV r m v v':=by
 induction as generalizing vs j with
 | nil=>cases hf<;>grind
 | cons a as ih =>
  cases hf<;>grind
def Ren.via(ρ:Ren)(r:Nat->Nat)(m:Nat):Ren:=⟨fun b'=>if b'<m then ρ (r b') else none,ρ.frz,m⟩
omit [Cur] in
theorem qax{ρ:Ren}{r:Nat->Nat}{m b':Nat}{L:Loc}(h:ρ.via r m b'=some L):b'<m∧ρ (r b')=some L:=by
 simp only[Ren.via] at h;simp_all
omit [Cur] in
theorem qac{ρ:Ren}{r:Nat->Nat}{m b':Nat}(h:b'<m):ρ.via r m b'=ρ (r b'):=by simp only[Ren.via];rw[if_pos h]
mutual
theorem NV.ok{ρ:Ren}{r:Nat->Nat}{m:Nat}:∀{v v':AV} {x:Value},NV r m v v'->VR σ0 ρ v x->VR σ0 (ρ.via r m) v' x
 | _,_,_,.undef _,_=>.undef _
 | _,_,_,.clo _ hc,hv=>CR.vr (ρ:=ρ.via r m) (hv.cr hc)
 | _,_,_,.nilz,hv=>by cases hv;exact .fz0 _
 | _,_,_,.e0z,hv=>by cases hv;exact .fz0 _
 | _,_,_,.e0own b' hm,hv=>by cases hv;exact .own0 _ _ hm
 | _,_,_,.slz b o b' hm,hv=>by
  cases hv with
  | sl _ _ _ _ c _ L h hc =>
   rcases hc with rfl|⟨hc,_⟩
   ·exact .own0 _ _ hm
   simp_all
  | slz=>exact .own0 _ _ hm
 | _,_,_,.ptr b b' o hr hm,hv=>by
  subst hr;obtain⟨L,h1,rfl⟩:=hv.un_ptr;exact .ptr _ _ _ (by rw[qac hm];exact h1)
 | _,_,_,.sl b b' o n c l hr hm,hv=>by
  subst hr;cases hv with
  | sl _ _ _ _ _ _ L h hc=>exact .sl _ _ _ _ _ _ L (by rw[qac hm];exact h) hc
  | slz _ _ _ _ L h=>exact .slz _ _ _ _ L (by rw[qac hm];exact h)
 | _,_,_,.own b b' n hr hm,hv=>by
  subst hr;cases hv with
  | own0 _ _ _=>exact .own0 _ _ hm
  | own _ _ _ L h hn hc=>exact .own _ _ _ L (by rw[qac hm];exact h) hn hc
 | _,_,_,.nilown b' hm,hv=>by cases hv;exact .own0 _ _ hm
 | _,_,_,.map b b' hr hm,hv=>by
  subst hr;cases hv with
  | map _ L h h0=>exact .map _ L (by rw[qac hm];exact h) h0
 | _,_,_,.yl b b' hr hm,hv=>by
  subst hr;cases hv with
  | yl _ L h=>exact .yl _ L (by rw[qac hm];exact h)
 | _,_,_,.fn _ _ _ _ _ h1 h2,hv=>by
  cases hv with
  | fn _ _ _ _ _ g1 g2=>exact .fn _ _ _ _ _ (h1.ok g1) (h2.ok g2)
 | _,_,_,.ifc _ _ _ h1,hv=>by
  cases hv with
  | ifc _ _ _ g1=>exact .ifc _ _ _ (h1.ok g1)
 | _,_,_,.agg _ _ h1,hv=>by
  cases hv with
  | agg _ _ g1=>exact .agg _ _ (h1.ok g1)
 | _,_,_,.tup _ _ h1,hv=>by
  cases hv with
  | tup _ _ g1=>exact .tup _ _ (h1.ok g1)
theorem NVs.ok{ρ:Ren}{r:Nat->Nat}{m:Nat}:∀{v v':List AV} {x:List Value},NVs r m v v'->VRs σ0 ρ v x->VRs σ0 (ρ.via r m) v' x
 | _,_,_,.nil,hv=>by cases hv;exact .nil
 | _,_,_,.cons _ _ _ _ h1 h2,hv=>by
  cases hv with
  | cons _ _ _ _ g1 g2=>exact .cons _ _ _ _ (h1.ok g1) (h2.ok g2)
end

def qc2:List (Nat×AV)->Nat->Option AV
 | [],_=>none
 | p::l,j=>if p.1=j then some p.2 else qc2 l j
omit [Cur] in
theorem qbW:∀{l:List (Nat×AV)} {j:Nat} {v:AV},qc2 l j=some v->(j,v) ∈ l
 | [],_,_,h=>by simp[qc2] at h
 | p::l,j,v,h=>by
  unfold qc2 at h;split at h
  ·grind
  ·exact List.mem_cons_of_mem _ (qbW h)
def TsW(r:Nat->Nat)(m:Nat)(ts ts':List (Nat×AV)):Prop:=∀p ∈ ts',∃v,qc2 ts p.1=some v∧NV r m v p.2
def EsW(r:Nat->Nat)(m:Nat)(es es':List (AV×AV)):Prop :=
 (es'=es∧∀e ∈ es,clo e.1=true∧clo e.2=true)∨∃lr ts ts',es=zJ lr ts∧es'=zJ lr ts'∧TsW r m ts ts'
def BW(h:Hp)(r:Nat->Nat)(m b:Nat)(x':Blk):Prop :=
 h.sz<=b∨x' = .dead∨(∃e w a cs w' a' cs',h.tr.get b=some (.cells e w a cs)∧x' = .cells e w' a' cs'∧(w'=true->w=true)∧(a'=true->a=true)∧NVs r m cs cs') ∨
 (∃es es',h.tr.get b=some (.map es)∧x' = .map es'∧EsW r m es es')
omit [Cur] in
theorem BW.map{h:Hp}{r:Nat->Nat}{m b:Nat}{es:List (AV×AV)}(hg:h.tr.get b=some (.map es))(hc:∀e ∈ es,clo e.1=true∧clo e.2=true):BW h r m b (.map es) :=
 .inr (.inr (.inr ⟨es,es,hg,rfl,.inl ⟨rfl,hc⟩⟩))

structure WkOk (n:Nat) (t:Tr AV) (h:Hp) (t':Tr AV) (h':Hp) (r:Nat->Nat):Prop where
 fl:h'.fl=h.fl
 blk:∀b' x',b'<h'.sz->h'.tr.get b'=some x'->BW h r h'.sz (r b') x'
 inj:∀b1 b2,b1<h'.sz->b2<h'.sz->(∃x,h'.tr.get b1=some x∧x≠.dead)->(∃x,h'.tr.get b2=some x∧x≠.dead)->r b1=r b2->r b1<h.sz->b1=b2
 flo:∀b',b'<h'.sz->h.fl<=b'->r b'<h.sz->h.fl<=r b'
 low:∀b,b<n->r b=b
 nle:n<=h'.sz
 ake:∀b,b<n->b<h.fl->h'.tr.get b=h.tr.get b
 tmp:∀j v',t'.get j=some v'->∃v,t.get j=some v∧NV r h'.sz v v'
theorem Wk.of{t t':Tr AV}{h h':Hp}{r:Nat->Nat}(k:WkOk n t h t' h' r):Wk n t h t' h':=by
 intro ρ B w tm ht rl
 have get:∀b' L x',ρ.via r h'.sz b'=some L->h'.tr.get b'=some x'->x'≠.dead->b'<h'.sz∧r b'<h.sz∧ρ (r b')=some L∧((∃e w a cs w' a' cs',h.tr.get (r b')=some (.cells e w a cs)∧x' = .cells e w' a' cs'∧(w'=true->w=true)∧(a'=true->a=true)∧NVs r h'.sz cs cs') ∨
   (∃es es',h.tr.get (r b')=some (.map es)∧x' = .map es'∧EsW r h'.sz es es')):=by
  intro b' L x' hb hg hd;obtain⟨h1,h2⟩:=qax hb;have h3:=rl.dom _ _ h2;refine⟨h1,h3,h2,?_⟩;rcases k.blk b' x' h1 hg with q|q|q|q
  all_goals grind
 refine⟨ρ.via r h'.sz,fun j v' hj=>?_,⟨fun b L hb=>(qax hb).1,?_,?_,?_,?_,?_,?_,rl.base,?_,⟨Nat.le_refl _,fun b L hb=>rl.dn.2 _ L (qax hb).2⟩⟩,⟨fun b hb=>?_,k.nle,k.fl,by grind[WkOk.ake],fun _ _=>rfl,Nat.le_refl _,⟨rfl,rfl⟩,fun _ _ h=>h,fun _ _ h=>.inl h,fun b hb _=>Nat.lt_of_lt_of_le hb k.nle⟩⟩
 ·obtain⟨v,h1,h2⟩:=k.tmp j v' hj;obtain⟨h3,h4⟩:=ht j v h1
  grind[NV.ok]
 ·intro b' L e wf af cs' hb hg;obtain⟨h1,h2,h3,h4⟩:=get b' L _ hb hg (by simp);rcases h4 with⟨e',w1,a1,cs,w',a',cs'',g1,g2,g3,g4,g5⟩|⟨es,es',_,g2,_⟩
  ·cases g2;obtain⟨q1,c,ty,fz,q2,q3,q4,q5,q6⟩:=rl.cells _ L e w1 a1 cs h3 g1;refine⟨q1,c,ty,fz,q2,q3,by rw[← g5.length];exact q4,fun j v' hv=>?_,fun hh=>q6 ?_⟩
   ·obtain⟨v,p1,p2⟩:=g5.get hv;obtain⟨x,p3,p4⟩:=q5 j v p1;exact⟨x,p3,p2.ok p4⟩
   ·simp only[Bool.or_eq_true] at hh ⊢;exact hh.imp g3 g4
  grind
 ·intro b' L es hb hg;obtain⟨h1,h2,h3,h4⟩:=get b' L _ hb hg (by simp);rcases h4 with⟨e',w1,a1,cs,w',a',cs'',g1,g2,g3,g4,g5⟩|⟨es,es',g1,g2,g3⟩
  ·cases g2
  ·cases g2;obtain⟨q1,o,q2,q3⟩:=rl.maps _ L es h3 g1;refine⟨q1,o,q2,?_⟩;rcases g3 with⟨rfl,g3⟩|⟨lr,ts,ts',rfl,rfl,g3⟩
   ·rcases q3 with⟨p1,vs,clk,p2,⟨p3,p4⟩,pb⟩|q3|⟨lr,lq,ts,rfl,p2,pk,p3⟩|⟨mq,mm,ms,ml,rfl,_,_⟩
    ·exact .inl ⟨p1,vs,clk,p2,⟨p3,fun j e he=>let ⟨v,a1,a2,a3⟩:=p4 j e he
      ⟨v,a1,CR.vr (ρ:=ρ.via r h'.sz) (a2.cr (by grind)),CR.vr (ρ:=ρ.via r h'.sz) (a3.cr (by grind))⟩⟩,pb⟩
    ·exact .inr (.inl q3)
    ·refine .inr (.inr (.inl ⟨lr,lq,ts,rfl,p2,pk,fun p hp=>⟨(p3 p hp).1,CR.vr (ρ:=ρ.via r h'.sz) ((p3 p hp).2.cr ?_)⟩⟩))
     exact (g3 (.i .i64 (Int.ofNat p.1),p.2) (List.mem_cons_of_mem _ (List.mem_map.2 ⟨p,hp,rfl⟩))).2
    ·cases (g3 _ (List.mem_cons_self ..)).2
   ·obtain⟨lq,p2,pk,p3⟩:=q3.rec';refine .inr (.inr (.inl ⟨lr,lq,ts',rfl,p2,pk,fun p hp=>?_⟩))
    obtain⟨v,a1,a2⟩:=g3 p hp;have a1:=qbW a1
    grind[NV.ok]
 ·intro b1 L1 e1 af1 cs1 hb1 hg1 b2 L2 x hb2 hx hd he;obtain⟨h1,h2,h3,h4⟩:=get b1 L1 _ hb1 hg1 (by simp);obtain⟨i1,i2,i3,i4⟩:=get b2 L2 _ hb2 hx hd;rcases h4 with⟨e',w1,a1,cs,w',a',cs'',g1,g2,g3,g4,g5⟩|⟨es,es',_,g2,_⟩
  ·cases g2;obtain rfl:=g3 rfl
   have:∃x0,h.tr.get (r b2)=some x0∧x0≠.dead:=by
    rcases i4 with⟨_,_,_,_,_,_,_,q,_⟩|⟨_,_,q,_⟩<;>exact⟨_,q,by simp⟩
   obtain⟨x0,q1,q2⟩:=this;have:=rl.excl _ L1 e1 a1 cs h3 g1 _ L2 x0 i3 q1 q2 he;exact k.inj b2 b1 i1 h1 ⟨_,hx,hd⟩ (by grind) this i2
  grind
 ·intro b1 L1 es1 hb1 hg1 b2 L2 x hb2 hx hd he;obtain⟨h1,h2,h3,h4⟩:=get b1 L1 _ hb1 hg1 (by simp);obtain⟨i1,i2,i3,i4⟩:=get b2 L2 _ hb2 hx hd;rcases h4 with⟨e',w1,a1,cs,w',a',cs'',g1,g2,_⟩|⟨es,es',g1,g2,g3⟩
  ·cases g2
  ·cases g2
   have:∃x0,h.tr.get (r b2)=some x0∧x0≠.dead:=by
    rcases i4 with⟨_,_,_,_,_,_,_,q,_⟩|⟨_,_,q,_⟩<;>exact⟨_,q,by simp⟩
   obtain⟨x0,q1,q2⟩:=this;have:=rl.exclm _ L1 es h3 g1 _ L2 x0 i3 q1 q2 he;exact k.inj b2 b1 i1 h1 ⟨_,hx,hd⟩ (by grind) this i2
 ·intro b1 L1 e1 wf1 cs1 hb1 hg1 b2 L2 e2 wf2 af2 cs2 hb2 hg2 he;obtain⟨h1,h2,h3,h4⟩:=get b1 L1 _ hb1 hg1 (by simp);obtain⟨i1,i2,i3,i4⟩:=get b2 L2 _ hb2 hg2 (by simp);rcases h4 with⟨e',w1,a1,cs,w',a',cs'',g1,g2,g3,g4,g5⟩|⟨es,es',_,g2,_⟩
  ·cases g2;obtain rfl:=g4 rfl;rcases i4 with⟨e'2,w12,a12,csx,w'2,a'2,cs''2,j1,j2,j3,j4,j5⟩|⟨es,es',_,j2,_⟩
   ·cases j2;have q:=rl.app _ L1 e1 w1 cs h3 g1 _ L2 e2 w12 a12 csx i3 j1 he;rw[← g5.length,← j5.length];exact⟨q.1,fun hh=>k.inj b2 b1 i1 h1 (by grind) (by grind) (q.2 (j4 hh)) i2⟩
   ·cases j2
  grind
 ·intro b' L hb hf;obtain⟨h1,h2⟩:=qax hb
  grind[Rel.flr,WkOk.flo,WkOk.fl,Rel.dom]
 ·intro kk arr hk;refine⟨(rl.frz kk arr hk).1,fun b L x hb hx hd=>?_⟩
  obtain⟨h1,h2,h3,h4⟩:=get b L x hb hx hd
  have:∃x0,h.tr.get (r b)=some x0∧x0≠.dead:=by
   rcases h4 with⟨_,_,_,_,_,_,_,q,_⟩|⟨_,_,q,_⟩<;>exact⟨_,q,by simp⟩
  obtain⟨x0,q1,q2⟩:=this;exact (rl.frz kk arr hk).2 _ L x0 h3 q1 q2
 ·show ρ.via r h'.sz b=ρ b;rw[qac (Nat.lt_of_lt_of_le hb k.nle),k.low b hb]

noncomputable def mkT:List (Nat×AV)->Tr AV
 | []=>.leaf
 | p::l=>(mkT l).set p.1 p.2
omit [Cur] in
theorem qbd{l:List (Nat×AV)}{j:Nat}{v:AV}(h:(mkT l).get j=some v):(j,v) ∈ l:=by
 induction l with
 | nil=>simp[mkT] at h
 | cons p l ih =>
  simp only[mkT,Tr.get_set] at h
  grind
noncomputable def trL:List Blk->Nat->Tr Blk->Tr Blk
 | [],_,t=>t
 | x::l,i,t=>trL l (i+1) (t.set i x)
omit [Cur] in
theorem qd7:∀(l:List Blk) (i:Nat) (t:Tr Blk) (b:Nat),(trL l i t).get b=if i<=b∧b<i+l.length then l[b-i]? else t.get b
 | [],i,t,b=>by simp[trL];omega
 | x::l,i,t,b=>by
  simp only[trL];rw[qd7 l (i+1)]
  grind[Tr.get_set]
noncomputable def mkH(fl:Nat)(l:List Blk):Hp:=⟨l.length,fl,trL l 0 .leaf⟩
omit [Cur] in
theorem qbc{fl:Nat}{l:List Blk}{b:Nat}:(mkH fl l).tr.get b=l[b]?:=by
 show (trL l 0 .leaf).get b=_;rw[qd7]
 simp_all
def rl(l:List Nat)(d:Nat):Nat->Nat:=fun b=>l.getD b d
def BWs(h:Hp)(r:Nat->Nat)(m:Nat):List Nat->List Blk->Prop
 | [],[]=>True
 | b::bs,x::xs=>BW h r m b x∧BWs h r m bs xs
 | _,_=>False
omit [Cur] in
theorem BWs.get{h:Hp}{r:Nat->Nat}{m:Nat}:∀{bs:List Nat} {xs:List Blk},BWs h r m bs xs->bs.length=xs.length∧∀(i:Nat) x,xs[i]?=some x->∃b,bs[i]?=some b∧BW h r m b x
 | [],[],_=>⟨rfl,by simp⟩
 | b::bs,x::xs,hh=>by
  obtain⟨h1,h2⟩:=hh;obtain⟨h3,h4⟩:=h2.get
  grind
 | [],_::_,hh=>hh.elim
 | _::_,[],hh=>hh.elim
def TWs(t:Tr AV)(r:Nat->Nat)(m:Nat):List (Nat×AV)->Prop
 | []=>True
 | p::l=>(∃v,t.get p.1=some v∧NV r m v p.2)∧TWs t r m l
omit [Cur] in
theorem TWs.get{t:Tr AV}{r:Nat->Nat}{m:Nat}:∀{l:List (Nat×AV)},TWs t r m l->∀p ∈ l,∃v,t.get p.1=some v∧NV r m v p.2
 | [],_,p,hp=>by cases hp
 | q::l,h,p,hp=>by
  rcases List.mem_cons.1 hp with rfl|hp
  ·exact h.1
  ·exact TWs.get h.2 p hp
theorem Wk.mk{t:Tr AV}{h:Hp}(ts:List (Nat×AV))(bl:List Blk)(src:List Nat)(hT:TWs t (rl src h.sz) bl.length ts)(hB:BWs h (rl src h.sz) bl.length src bl)
  (hI:((src.filter fun b=>decide (b<h.sz)).Nodup)) (hfl:h.fl=0):Wk 0 t h (mkT ts) (mkH 0 bl):=by
 obtain⟨hlen,hget⟩:=hB.get;refine Wk.of (r:=rl src h.sz) ⟨hfl.symm,fun b' x' hb hg=>?_,fun b1 b2 h1 h2 _ _ he hl=>?_,fun b' _ _ _=>by rw[hfl];omega,by omega,Nat.zero_le _,by omega,fun j v' hj=>?_⟩
 ·rw[qbc] at hg;obtain⟨b,q1,q2⟩:=hget b' x' hg;have:rl src h.sz b'=b:=by simp[rl,List.getD_eq_getElem?_getD,q1]
  rw[this];exact q2
 ·have h1:b1<src.length:=by rw[hlen];exact h1
  have h2:b2<src.length:=by rw[hlen];exact h2
  simp only[rl,List.getD_eq_getElem?_getD,zzE h1,zzE h2,Option.getD_some] at he hl;exact nodup_filter_inj hI h1 h2 he (by simp_all)
 ·exact hT.get _ (qbd hj)
where
 nodup_filter_inj {l:List Nat} {p:Nat->Bool} (hn:(l.filter p).Nodup) {i j:Nat} (hi:i<l.length) (hj:j<l.length) (he:l[i]=l[j]) (hp:p l[i]=true):i=j:=by
  induction l generalizing i j<;>grind
end Go.Kc
end
section
namespace Go.Kc
variable [Cur]
variable {P:Program} {n:Nat} {C:qw} {d:Bool} {Q:Tr AV->Hp->Prop} {t:Tr AV} {h:Hp}

def qL:Prop:=True
omit [Cur] in
theorem qeM:qL↔True:=⟨fun _=>trivial,fun _=>trivial⟩
@[congr] theorem qmJ {c:ICode} {Q:X->Tr AV->Hp->Prop} {mk:Prop} (_:qL=mk):V P n c Q t h=V P n c Q t h:=rfl
@[congr] theorem qlE {c:ICode} {Q:X->Tr AV->Hp->Prop} {mk:Prop} (_:qL=mk):SL P n c Q t h=SL P n c Q t h:=rfl
@[congr] theorem qlD {f:Nat} {vs vs':List AV} {k:AV->Hp->Prop} {mk:Prop} (_:qL=mk) (h':vs=vs'):SC P f vs h k=SC P f vs' h k:=by rw[h']
@[congr] theorem qlK {ops:List ROp} {mk:Prop} (_:qL=mk):VG P ops Q t h=VG P ops Q t h:=rfl
@[congr] theorem qlJ {ops:List ROp} {mk:Prop} (_:qL=mk):VD P ops Q t h=VD P ops Q t h:=rfl
@[congr] theorem qlw {o:IOp} {k:AV->Hp->Prop} {mk:Prop} (_:qL=mk):opK qi o t h k=opK qi o t h k:=rfl
@[congr] theorem qjq {e b:Nat} {c:Bool} {s x:AV} {k:AV->Hp->Prop} {mk:Prop} (_:qL=mk):jv h e b c s x k=jv h e b c s x k:=rfl
@[congr] theorem qi3 {e:Nat} {s x:AV} {k:AV->Hp->Prop} {mk:Prop} (_:qL=mk):qaS h e s x k=qaS h e s x k:=rfl
@[congr] theorem qk9 {e:Nat} {x:AV} {k:Nat->List AV->Prop} {mk:Prop} (_:qL=mk):zU h e x k=zU h e x k:=rfl
@[congr] theorem qjy {op:BinOp} {x y:AV} {k:AV->Prop} {mk:Prop} (_:qL=mk):qO qi op x y k=qO qi op x y k:=rfl
@[congr] theorem qlx {b o:Nat} {vs:List AV} {k:Hp->Prop} {mk:Prop} (_:qL=mk):stK h b o vs k=stK h b o vs k:=rfl
@[congr] theorem qlv {p:AV} {k:AV->Prop} {mk:Prop} (_:qL=mk):ldV h p k=ldV h p k:=rfl
@[congr] theorem qkg {p:AV} {n:Nat} {k:List AV->Prop} {mk:Prop} (_:qL=mk):qa4 h p n k=qa4 h p n k:=rfl
@[congr] theorem qlu {b o:Nat} {k:AV->Prop} {mk:Prop} (_:qL=mk):ldK h b o k=ldK h b o k:=rfl
@[congr] theorem qkf {b o n:Nat} {k:List AV->Prop} {mk:Prop} (_:qL=mk):zX h b o n k=zX h b o n k:=rfl
@[congr] theorem qjd {op:UnOp} {x:AV} {k:AV->Prop} {mk:Prop} (_:qL=mk):xS op x k=xS op x k:=rfl
@[congr] theorem qi2 {a b:Nat} {x y z:Option AV} {k:Nat->Nat->Nat->Prop} {mk:Prop} (_:qL=mk):qF a b x y z k=qF a b x y z k:=rfl
@[congr] theorem qi6 {i:AV} {es:List (AV×AV)} {k:Option AV->Prop} {mk:Prop} (_:qL=mk):xp qi i es k=xp qi i es k:=rfl
@[congr] theorem qlh {i v:AV} {es:List (AV×AV)} {k:List (AV×AV)->Prop} {mk:Prop} (_:qL=mk):wa qi i v es k=wa qi i v es k:=rfl
@[congr] theorem qg9 {cs:List AV} {k:List UInt8->Prop} {mk:Prop} (_:qL=mk):qK cs k=qK cs k:=rfl
@[congr] theorem qjP {rs:List RV} {k:AV->Hp->Prop} {e:X} {mk:Prop} (_:qL=mk):qcJ rs k e t h=qcJ rs k e t h:=rfl
@[congr] theorem qkx {x:Blk} {k:Nat->Hp->Prop} {mk:Prop} (_:qL=mk):qN h x k=qN h x k:=rfl
@[congr] theorem qkY {b:Nat} {x:Blk} {k:Hp->Prop} {mk:Prop} (_:qL=mk):qY h b x k=qY h b x k:=rfl
@[congr] theorem qi5 {ps:List (Nat×Nat×O)} {l:List AV} {k:List AV->Prop} {mk:Prop} (_:qL=mk):zu t ps l k=zu t ps l k:=rfl
@[congr] theorem qfE {qs:List PK} {x y:List AV} {k:Bool->Prop} {mk:Prop} (_:qL=mk):zh qs x y k=zh qs x y k:=rfl
@[congr] theorem qih {q:NK} {x:AV} {k:Bool->Prop} {mk:Prop} (_:qL=mk):qZ q x k=qZ q x k:=rfl

theorem qjp{Q:X->Tr AV->Hp->Prop}:V P n .skip Q t h↔Q .normal t h:=Iff.rfl
theorem qlQ{Q:X->Tr AV->Hp->Prop}:V P n .ret Q t h↔Q .ret t h:=Iff.rfl
theorem qjm{id:Nat}{Q:X->Tr AV->Hp->Prop}:V P n (.exit id) Q t h↔Q (.exit id) t h:=Iff.rfl
theorem qlR{x y:ICode}{Q:X->Tr AV->Hp->Prop}:V P n (.seq x y) Q t h↔V P n x (fun e t h=>onX e (V P n y Q t h) (fun id=>Q (.exit id) t h) (Q .ret t h)) t h:=Iff.rfl
theorem qjl{c:O}{x y:ICode}{Q:X->Tr AV->Hp->Prop}:V P n (.cond c x y) Q t h↔evK t c (fun v=>unB v (fun b=>if b=true then V P n x Q t h else V P n y Q t h)):=Iff.rfl
theorem qlN{id:Nat}{x:ICode}{Q:X->Tr AV->Hp->Prop}:V P n (.blk id x) Q t h↔V P n x (fun e t h=>onX e (Q .normal t h) (fun i=>if i=id then Q .normal t h else Q (.exit i) t h) (Q .ret t h)) t h:=Iff.rfl
theorem qjn{x:ICode}{Q:X->Tr AV->Hp->Prop}:V P n (.loop x) Q t h↔SL P n x Q t h:=Iff.rfl
theorem qfi{j:Nat}{g:O}{ps:List Nat}{x y:ICode}{Q:X->Tr AV->Hp->Prop}:V P n (.rangeF j g ps x y) Q t h↔S P n (.rangeF j g ps x y) Q t h:=Iff.rfl
theorem qlO{x:ICode}{Q:X->Tr AV->Hp->Prop}:V P n (.cut x) Q t h↔S P n x Q t h:=Iff.rfl
@[congr] theorem qmI {c:ICode} {Q:X->Tr AV->Hp->Prop} {mk:Prop} (_:qL=mk):S P n c Q t h=S P n c Q t h:=rfl
theorem qlP{ops:List ROp}{Q:X->Tr AV->Hp->Prop}:V P n (.reg false ops) Q t h↔VG P ops (fun t h=>Q .normal t h) t h:=by simp[V]
theorem qjo{ops:List ROp}{Q:X->Tr AV->Hp->Prop}:V P n (.reg true ops) Q t h↔VD P ops (fun t h=>Q .normal t h) t h:=by simp[V]

def evO(o:Option AV)(k:AV->Prop):Prop:=∃v,o=some v∧k v
omit [Cur] in
@[congr] theorem qln {o o':Option AV} {k:AV->Prop} {mk:Prop} (_:qL=mk) (h:o=o'):evO o k=evO o' k:=by rw[h]
theorem qfU{v:AV}{k:AV->Prop}:evO (some v) k↔k v:=by simp[evO]
omit [Cur] in
theorem ql3{t:Tr AV}{n:Nat}{k:AV->Prop}:evK t (.t n) k↔evO (t.get n) k:=Tr.getK_iff _ _ _
omit [Cur] in
theorem ql2{v:AV}{k:AV->Prop}:evK t (.c v) k↔k v:=Iff.rfl
omit [Cur] in
theorem qfV{k:List AV->Prop}:zn t [] k↔k []:=Iff.rfl
omit [Cur] in
theorem qeA{x:O}{xs:List O}{k:List AV->Prop}:zn t (x::xs) k↔evK t x (fun v=>zn t xs (fun vs=>k (v::vs))):=Iff.rfl
omit [Cur] in
theorem qeY{k:Option AV->Prop}:zI t none k↔k none:=Iff.rfl
omit [Cur] in
theorem qe0{x:O}{k:Option AV->Prop}:zI t (some x) k↔evK t x (fun v=>k (some v)):=Iff.rfl
omit [Cur] in
theorem qf4{n:Nat}{b:Bool}{k:Bool->Prop}:zE t (some (n,b)) k↔evO (t.get n) (fun v=>match v with | .b x=>qn (x==b) k | .tup _=>k false|_=>False):=Tr.getK_iff _ _ _
omit [Cur] in
theorem qew{v:AV}{k:Tr AV->Prop}:zm t none v k↔k t:=Iff.rfl
omit [Cur] in
theorem qex{n:Nat}{v:AV}{k:Tr AV->Prop}:zm t (some n) v k↔k (t.set n v):=Tr.setK_iff _ _ _ _
@[congr] theorem qjR {x:List O} {k:List AV->Prop} {mk:Prop} (_:qL=mk):zn t x k=zn t x k:=rfl
@[congr] theorem qkW {x:Option O} {k:Option AV->Prop} {mk:Prop} (_:qL=mk):zI t x k=zI t x k:=rfl
@[congr] theorem qjN {x:Option Nat} {v:AV} {k:Tr AV->Prop} {mk:Prop} (_:qL=mk):zm t x v k=zm t x v k:=rfl
@[congr] theorem qia {g:Option (Nat×Bool)} {k:Bool->Prop} {mk:Prop} (_:qL=mk):zE t g k=zE t g k:=rfl
theorem qji:VG P [] Q t h↔Q t h:=Iff.rfl
theorem qlM{dst:Option Nat}{o:IOp}{ops:List ROp}:VG P (⟨dst,.op o,none⟩::ops) Q t h↔opK qi o t h (fun v h'=>zm t dst v (fun t'=>VG P ops Q t' h')):=Iff.rfl
theorem qff{dst:Option Nat}{f:Nat}{args:List O}{ops:List ROp}:VG P (⟨dst,.callF f args,none⟩::ops) Q t h↔zn t args (fun vs=>SC P f vs h (fun v h'=>zm t dst v (fun t'=>VG P ops Q t' h'))):=Iff.rfl
theorem qfh{dst:Option Nat}{f:Nat}{args:List O}{ops:List ROp}:VG P (⟨dst,.callW f args,none⟩::ops) Q t h↔zn t args (fun vs=>SC P f vs h (fun v h'=>zm t dst v (fun t'=>VG P ops Q t' h'))):=Iff.rfl
def cvF(C:qw)(g:AV)(vs:List AV)(h:Hp)(k:AV->Hp->Prop):Prop:=match g with | .fn f a c=>C (Nat.succ f) (a++(vs++c)) h k | .yl b=>C 0 (.yl b::vs) h k|_=>False
@[congr] theorem qlF {b:Nat} {vs vs':List AV} {k:AV->Hp->Prop} {mk:Prop} (_:qL=mk) (h':vs=vs'):SY P b vs h k=SY P b vs' h k:=by rw[h']
theorem qjL{b:Nat}{vs:List AV}{k:AV->Hp->Prop}:cvF (CC P) (.yl b) vs h k↔SY P b vs h k:=Iff.rfl
theorem qjI{f:Nat}{a c vs:List AV}{k:AV->Hp->Prop}:cvF (CC P) (.fn f a c) vs h k↔SC P f (a++(vs++c)) h k:=Iff.rfl
theorem qfg{dst:Option Nat}{x:O}{args:List O}{ops:List ROp}:VG P (⟨dst,.callV x args,none⟩::ops) Q t h↔evK t x (fun g=>zn t args (fun vs=>cvF (CC P) g vs h (fun v h'=>zm t dst v (fun t'=>VG P ops Q t' h')))):=Iff.rfl
theorem qeb{dst:Option Nat}{x:O}{args:List O}{ops:List ROp}:VG P (⟨dst,.callVW x args,none⟩::ops) Q t h↔evK t x (fun g=>zn t args (fun vs=>cvF (CC P) g vs h (fun v h'=>zm t dst v (fun t'=>VG P ops Q t' h')))):=Iff.rfl
theorem qlL{dst:Option Nat}{r:RK}{n:Nat}{b:Bool}{ops:List ROp} :
  VG P (⟨dst,r,some (n,b)⟩::ops) Q t h↔zE t (some (n,b)) (fun go=>if go=true then VG P (⟨dst,r,none⟩::ops) Q t h else zm t dst (.tup []) (fun t'=>VG P ops Q t' h)):=by
 have e:∀(g:Bool) (p q:Prop),(Bool.rec (motive:=fun _=>Prop) q p g:Prop)=if g=true then p else q:=by simp_all
 show zE t (some (n,b)) (fun go=>Bool.rec (motive:=fun _=>Prop) (zm t dst (.tup []) (fun t'=>VG P ops Q t' h)) (VG P (⟨dst,r,none⟩::ops) Q t h) go)↔_
 simp only[e]

theorem zf.sc{f:Nat}{vs:List AV}{v:AV}{k:AV->Hp->Prop}(hp:zf P f vs v)(hk:k v h):SC P f vs h k:=hp h k hk
def VR'(C:qw)(ops:List ROp)(Q:Tr AV->Hp->Prop)(t:Tr AV)(h:Hp):Prop:=x4 qi true C ops Q t h
def Hp.up(h:Hp):Hp:=⟨h.sz,h.sz,h.tr⟩
def Hp.down(h:Hp)(fl:Nat):Hp:=⟨h.sz,fl,h.tr⟩
omit [Cur] in
theorem ws{F:Hp->(AV->Hp->Prop)->Prop}{k:AV->Hp->Prop}:jI F h k↔F h.up (fun v h'=>k v (h'.down h.fl)):=by
 cases h with
 | mk sz fl tr =>
  show F ⟨sz,sz,tr⟩ (fun v h'=>Hp.rec (motive:=fun _=>Prop) (fun sz' _ tr'=>k v ⟨sz',fl,tr'⟩) h')↔_
  have:(fun (v:AV) (h':Hp)=>(Hp.rec (motive:=fun _=>Prop) (fun sz' _ tr'=>k v ⟨sz',fl,tr'⟩) h':Prop))=fun v h'=>k v (h'.down fl):=by
   funext v h';cases h';rfl
  rw[this];exact Iff.rfl
omit [Cur] in
theorem qjk{dst:Option Nat}{o:IOp}{ops:List ROp}:VR' C (⟨dst,.op o,none⟩::ops) Q t h ↔
  if wr (.op o)=true then opK qi o t h (fun v h'=>zm t dst v (fun t'=>VR' C ops Q t' h')) else opK qi o t h.up (fun v h'=>zm t dst v (fun t'=>VR' C ops Q t' (h'.down h.fl))):=by
 have e:VR' C (⟨dst,.op o,none⟩::ops) Q t h↔wu qi true C (.op o) t h (fun v h'=>zm t dst v (fun t'=>VR' C ops Q t' h')):=Iff.rfl
 rw[e];unfold wu;cases hw:wr (.op o) with
 | true=>exact Iff.rfl
 | false =>
  rw[if_neg (by simp)];exact ws
omit [Cur] in
theorem qec{dst:Option Nat}{f:Nat}{args:List O}{ops:List ROp}:VR' C (⟨dst,.callF f args,none⟩::ops) Q t h↔zn t args (fun vs=>C (Nat.succ f) vs h.up (fun v h'=>zm t dst v (fun t'=>VR' C ops Q t' (h'.down h.fl)))):=by
 have e:VR' C (⟨dst,.callF f args,none⟩::ops) Q t h↔jI (xj qi C (.callF f args) t) h (fun v h'=>zm t dst v (fun t'=>VR' C ops Q t' h')):=Iff.rfl
 rw[e,ws];exact Iff.rfl
omit [Cur] in
theorem qed{dst:Option Nat}{x:O}{args:List O}{ops:List ROp}:VR' C (⟨dst,.callV x args,none⟩::ops) Q t h↔evK t x (fun g=>zn t args (fun vs=>cvF C g vs h.up (fun v h'=>zm t dst v (fun t'=>VR' C ops Q t' (h'.down h.fl))))):=by
 have e:VR' C (⟨dst,.callV x args,none⟩::ops) Q t h↔jI (xj qi C (.callV x args) t) h (fun v h'=>zm t dst v (fun t'=>VR' C ops Q t' h')):=Iff.rfl
 rw[e,ws];exact Iff.rfl
omit [Cur] in
theorem qee{dst:Option Nat}{f:Nat}{args:List O}{ops:List ROp}:VR' C (⟨dst,.callW f args,none⟩::ops) Q t h↔zn t args (fun vs=>C (Nat.succ f) vs h (fun v h'=>zm t dst v (fun t'=>VR' C ops Q t' h'))):=Iff.rfl
omit [Cur] in
theorem qdd{dst:Option Nat}{x:O}{args:List O}{ops:List ROp}:VR' C (⟨dst,.callVW x args,none⟩::ops) Q t h↔evK t x (fun g=>zn t args (fun vs=>cvF C g vs h (fun v h'=>zm t dst v (fun t'=>VR' C ops Q t' h')))):=Iff.rfl
omit [Cur] in
theorem qjj{dst:Option Nat}{r:RK}{n:Nat}{b:Bool}{ops:List ROp} :
  VR' C (⟨dst,r,some (n,b)⟩::ops) Q t h↔zE t (some (n,b)) (fun go=>if go=true then VR' C (⟨dst,r,none⟩::ops) Q t h else zm t dst (.tup []) (fun t'=>VR' C ops Q t' h)):=by
 have e:∀(g:Bool) (p q:Prop),(Bool.rec (motive:=fun _=>Prop) q p g:Prop)=if g=true then p else q:=by simp_all
 show zE t (some (n,b)) (fun go=>Bool.rec (motive:=fun _=>Prop) (zm t dst (.tup []) (fun t'=>VR' C ops Q t' h)) (VR' C (⟨dst,r,none⟩::ops) Q t h) go)↔_
 simp only[e]
end Go.Kc
end
