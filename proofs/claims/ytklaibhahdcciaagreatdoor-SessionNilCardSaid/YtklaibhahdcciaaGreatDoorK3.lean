/- Part 3 of the abstract machine and of the functions' walks. Conditions: with each theorem. -/
import Derived.Test.YtklaibhahdcciaaGreatDoorK2
import Derived.MapKept
import Derived.LoopNIn
import Derived.OrdersIn
import Derived.RangeFuncRecord
set_option maxHeartbeats 4000000
set_option linter.unusedSectionVars false
set_option linter.unusedSimpArgs false
set_option linter.unusedVariables false
set_option linter.unnecessarySimpa false
section
namespace Go.Kc
variable [Cur]
variable {σ:Nat->Value} {ρ ρ':Ren} {P:Program}

theorem Rel.newMap{B:Nat->Prop}{h:Hp}{w w':World}(r:Rel σ ρ B h w){es0:List (AV×AV)}{o:Obj}(hes:xr σ ρ es0 o)(hw:w'.heap=w.heap.push o)(hio:w'.os=w.os∧w'.output=w.output) :
  Rel σ (ρ.add h.sz ⟨w.heap.size,0,0,0⟩) B (h.push (.map es0)) w'∧Kept ρ B h w (ρ.add h.sz ⟨w.heap.size,0,0,0⟩) (h.push (.map es0)) w':=by
 have hold:∀k,k<w.heap.size->w'.heap[k]?=w.heap[k]?:=by intro k hk;rw[hw,Array.getElem?_push];rw[if_neg (by omega)]
 have hsz:w.heap.size<=w'.heap.size:=by rw[hw,Array.size_push];exact Nat.le_succ _
 have hnew:w'.heap[w.heap.size]?=some o:=by rw[hw];simp
 have hext:∀b L,ρ b=some L->(ρ.add h.sz ⟨w.heap.size,0,0,0⟩) b=some L:=by
  intro b L hb;have:=r.dom b L hb;simp only[Ren.add];rw[if_neg (by omega)];exact hb
 have hle:ρ.le (ρ.add h.sz ⟨w.heap.size,0,0,0⟩):=⟨hext,fun _ _ h=>h,Nat.le_max_left _ _⟩
 have hwf:=r.blk_lt
 have hget:∀b x,(h.push (.map es0)).tr.get b=some x->b≠h.sz->h.tr.get b=some x:=by
  intro b x hx hb;simp only[Hp.push,Tr.get_set] at hx;rwa [if_neg hb] at hx
 have hget':∀x,(h.push (.map es0)).tr.get h.sz=some x->x = .map es0:=by
  intro x hx;simp[Hp.push,Tr.get_set] at hx;exact hx.symm
 have hren:∀b L,(ρ.add h.sz ⟨w.heap.size,0,0,0⟩) b=some L->(b=h.sz∧L=⟨w.heap.size,0,0,0⟩)∨(b≠h.sz∧ρ b=some L):=by
  intro b L hb;simp only[Ren.add] at hb;split at hb
  ·left;exact by grind
  ·right;exact by grind
 refine⟨⟨?_,?_,?_,?_,?_,?_,?_,?_,?_,⟨Nat.max_le.2 ⟨Nat.le_succ_of_le r.dn.1,Nat.le_refl _⟩,?_⟩⟩,⟨?_,?_,rfl,?_,?_,?_,hio,fun _ _ h=>h,fun _ _ h=>.inl h,Nat.le_max_left _ _⟩⟩
 ·intro b L hb;rcases hren b L hb with⟨rfl,_⟩|⟨_,hb⟩
  ·exact Nat.lt_succ_self _
  ·exact Nat.lt_succ_of_lt (r.dom b L hb)
 ·intro b L e' wf' af' cs' hb hg;rcases hren b L hb with⟨rfl,rfl⟩|⟨hne,hb⟩
  ·cases hget' _ hg
  ·have hg':=hget _ _ hg hne;obtain⟨h1,c',ty',fz,h2,h3,h4,h5,h6⟩:=r.cells b L e' wf' af' cs' hb hg';refine⟨h1,c',ty',fz,?_,h3,h4,?_,h6⟩
   ·rw[hold _ (hwf b L hb _ hg' (by simp))];exact h2
   ·intro j v hv;obtain⟨v',h7,h8⟩:=h5 j v hv;exact by grind[VR.mono]
 ·intro b L es hb hg;rcases hren b L hb with⟨rfl,rfl⟩|⟨hne,hb⟩
  ·cases hget' _ hg;exact by grind[xr.mono]
  ·have hg':=hget _ _ hg hne;obtain⟨h0,ob,h2,h3⟩:=r.maps b L es hb hg';refine⟨h0,ob,?_,h3.mono hle⟩;rw[hold _ (hwf b L hb _ hg' (by simp))];exact h2
 ·intro b L e' af' cs' hb hg b' L' x hb' hx hd he;rcases hren b L hb with⟨rfl,rfl⟩|⟨hne,hb1⟩<;>rcases hren b' L' hb' with⟨rfl,rfl⟩|⟨hne',hb'⟩
  ·rfl
  ·have:=hwf b' L' hb' _ (hget _ _ hx hne') hd;simp only at he;omega
  ·have:=hwf b L hb1 _ (hget _ _ hg hne) (by simp);simp only at he;omega
  ·exact by grind[Rel.excl]
 ·intro b L es hb hg b' L' x hb' hx hd he;rcases hren b L hb with⟨rfl,rfl⟩|⟨hne,hb1⟩<;>rcases hren b' L' hb' with⟨rfl,rfl⟩|⟨hne',hb'⟩
  ·rfl
  ·have:=hwf b' L' hb' _ (hget _ _ hx hne') hd;simp only at he;omega
  ·have:=hwf b L hb1 _ (hget _ _ hg hne) (by simp);simp only at he;omega
  ·exact by grind[Rel.exclm]
 ·intro b L e' wf' cs' hb hg b' L' e2 wf2 af2 cs2 hb' hx he;rcases hren b L hb with⟨rfl,rfl⟩|⟨hne,hb1⟩<;>rcases hren b' L' hb' with⟨rfl,rfl⟩|⟨hne',hb'⟩
  ·cases hget' _ hg
  ·cases hget' _ hg
  ·cases hget' _ hx
  ·exact r.app b L e' wf' cs' hb1 (hget _ _ hg hne) b' L' e2 wf2 af2 cs2 hb' (hget _ _ hx hne') he
 ·intro b L hb hf;rcases hren b L hb with⟨rfl,rfl⟩|⟨_,hb⟩
  ·exact xI r.base (Nat.le_refl _)
  ·exact r.flr b L hb hf
 ·exact qah r.base hsz
 ·intro k arr hk;obtain⟨⟨ty',fz',h1⟩,h2⟩:=r.frz k arr hk;have hkl:k<w.heap.size:=by grind
  refine⟨⟨ty',fz',by rw[hold k hkl];exact h1⟩,fun b L x hb hx hd=>?_⟩
  rcases hren b L hb with⟨rfl,rfl⟩|⟨hne,hb⟩
  ·show w.heap.size≠k;omega
  ·exact by grind
 ·intro b L hb;rcases hren b L hb with⟨rfl,rfl⟩|⟨_,hb⟩
  ·show w.heap.size<_;rw[hw,Array.size_push];exact Nat.lt_succ_self _
  ·exact Nat.lt_of_lt_of_le (r.dn.2 b L hb) hsz
 ·intro b hb;simp only[Ren.add];rw[if_neg (by omega)]
 ·exact Nat.le_succ _
 ·intro b _ hb;simp only[Hp.push,Tr.get_set];rw[if_neg (by omega)]
 all_goals grind[Rel.base]

theorem Rel.putMap{B:Nat->Prop}{h:Hp}{w w':World}(r:Rel σ ρ B h w){b:Nat}{L:Loc}{es es':List (AV×AV)}(hb:ρ b=some L)(hg:h.tr.get b=some (.map es))(hf:h.fl<=b)
  {o:Obj} (ho:w.heap[L.blk]?=some o) {o':Obj} (hes:xr σ ρ es' o') (hw:w'.heap=w.heap.setIfInBounds L.blk o') (hio:w'.os=w.os∧w'.output=w.output) :
  Rel σ ρ B (h.put b (.map es')) w'∧Kept ρ B h w ρ (h.put b (.map es')) w':=by
 have hlt:L.blk<w.heap.size:=by grind
 have hold:∀k,k≠L.blk->w'.heap[k]?=w.heap[k]?:=by
  intro k hk;rw[hw,Array.getElem?_setIfInBounds];rw[if_neg (by omega)]
 have hnew:w'.heap[L.blk]?=some o':=by rw[hw,Array.getElem?_setIfInBounds];simp[hlt]
 have hget:∀b' x,(h.put b (.map es')).tr.get b'=some x->b'≠b->h.tr.get b'=some x:=by
  intro b' x hx hne;simp only[Hp.put,Tr.get_set] at hx;rwa [if_neg hne] at hx
 have hgb:∀x,(h.put b (.map es')).tr.get b=some x->x = .map es':=by
  intro x hx;simp[Hp.put,Tr.get_set] at hx;exact hx.symm
 have hother:∀b' L' x,ρ b'=some L'->h.tr.get b'=some x->x≠.dead->b'≠b->L'.blk≠L.blk :=
  fun b' L' x hb' hx hd hne he=>by grind[Rel.exclm]
 refine⟨⟨r.dom,?_,?_,?_,?_,?_,r.flr,?_,?_,⟨r.dn.1,fun b L hb=>by rw[hw,Array.size_setIfInBounds];exact r.dn.2 b L hb⟩⟩,⟨fun _ _=>rfl,Nat.le_refl _,rfl,?_,?_,?_,hio,fun _ _ h=>h,fun _ _ h=>.inl h,Nat.le_refl _⟩⟩
 ·intro b' L' e' wf' af' cs' hb' hg'
  by_cases hne:b'=b
  ·subst hne;cases hgb _ hg'
  ·have hg2:=hget _ _ hg' hne;obtain⟨h1,c,ty,fz,h2,h3⟩:=r.cells b' L' e' wf' af' cs' hb' hg2;exact by grind
 ·intro b' L' es2 hb' hg'
  by_cases hne:b'=b
  ·subst hne;rw[hb] at hb';cases hb';cases hgb _ hg';exact by grind[Rel.maps]
  ·have hg2:=hget _ _ hg' hne;obtain⟨h1,ob,h2,h3⟩:=r.maps b' L' es2 hb' hg2;exact by grind
 ·intro b1 L1 e1 af1 cs1 hb1 hg1 b2 L2 x hb2 hx hd he2
  by_cases m1:b1=b
  ·subst m1;cases hgb _ hg1
  ·have hg1':=hget _ _ hg1 m1
   by_cases m2:b2=b
   ·subst m2;rw[hb] at hb2;cases hb2;exact by grind
   ·exact r.excl b1 L1 e1 af1 cs1 hb1 hg1' b2 L2 x hb2 (hget _ _ hx m2) hd he2
 ·intro b1 L1 es1 hb1 hg1 b2 L2 x hb2 hx hd he2
  by_cases m1:b1=b
  ·subst m1;rw[hb] at hb1;cases hb1
   by_cases m2:b2=b1
   ·exact m2
   ·exact by grind
  ·have hg1':=hget _ _ hg1 m1
   by_cases m2:b2=b
   ·subst m2;rw[hb] at hb2;cases hb2;exact by grind
   ·exact r.exclm b1 L1 es1 hb1 hg1' b2 L2 x hb2 (hget _ _ hx m2) hd he2
 ·intro b1 L1 e1 wf1 cs1 hb1 hg1 b2 L2 e2 wf2 af2 cs2 hb2 hg2 he2
  by_cases m1:b1=b
  ·subst m1;cases hgb _ hg1
  ·by_cases m2:b2=b
   ·subst m2;cases hgb _ hg2
   ·exact r.app b1 L1 e1 wf1 cs1 hb1 (hget _ _ hg1 m1) b2 L2 e2 wf2 af2 cs2 hb2 (hget _ _ hg2 m2) he2
 ·rw[hw,Array.size_setIfInBounds];exact r.base
 ·intro k arr hk;obtain⟨⟨ty',fz',h6⟩,h7⟩:=r.frz k arr hk;have hne:L.blk≠k:=by grind
  refine⟨⟨ty',fz',by rw[hold k (by omega)];exact h6⟩,fun b' L' x hb' hx hd=>?_⟩
  by_cases hbb:b'=b
  ·subst hbb;rw[hb] at hb';cases hb';exact hne
  ·exact by grind
 ·intro b' hb' hs';simp only[Hp.put,Tr.get_set];rw[if_neg (by omega)]
 all_goals grind[Rel.flr]

omit [Cur] in
theorem zF.cons{e:AV×AV}{es:List (AV×AV)}{vs:List MapEntry}(h:zF σ ρ (e::es) vs):∃v us,vs=v::us∧VR σ ρ e.1 v.key∧VR σ ρ e.2 v.val∧zF σ ρ es us:=by
 cases vs with
 | nil=>cases h.1
 | cons v us =>
  obtain⟨v',h1,h2,h3⟩:=h.2 0 e rfl;simp at h1;subst h1;exact⟨v,us,rfl,h2,h3,by simpa using h.1,fun j e' he=>by simpa using h.2 (j+1) e' (by simp_all)⟩
omit [Cur] in
theorem zF.mk{e:AV×AV}{es:List (AV×AV)}{v:MapEntry}{us:List MapEntry}(h1:VR σ ρ e.1 v.key)(h2:VR σ ρ e.2 v.val)(h:zF σ ρ es us):zF σ ρ (e::es) (v::us):=by
 refine⟨by simp[h.1],fun j e' he=>?_⟩
 cases j with
 | zero=>simp_all
 | succ j=>simpa using h.2 j e' (by simp_all)
omit [Cur] in
theorem zF.nil:zF σ ρ [] []:=⟨rfl,fun j e' he=>by grind⟩

def xi:Option IntKind->TypeDesc
 | none=>.string
 | some q=>.int q
omit [Cur] in
theorem qgh{orc:Orc}(horc:OrcOk P σ orc){kd:Option IntKind}{i:AV}{i':Value}{p:Prop}(hi:VR σ ρ i i')(h:qa3 orc kd i p):MapKept.IsKey (xi kd) i'∧p:=by
 unfold qa3 at h;split at h
 ·have:=hi.un_s;subst this;cases kd
  ·exact⟨trivial,h⟩
  ·exact h.elim
 ·have:=hi.un_i;subst this;cases kd
  ·exact h.elim
  ·obtain⟨h1,h2⟩:=(qa _ _).1 h;exact⟨(of_decide_eq_true h1).symm,h2⟩
 ·rename_i j;cases kd
  ·cases hl:orc.len j with
   | none=>simp only[hl] at h;exact h.elim
   | some r =>
    simp only[hl] at h;obtain⟨s,h1,_⟩:=horc.len j r hl;have:=hi.un_sym;rw[this,h1];exact⟨trivial,h⟩
  ·exact h.elim
 simp_all
omit [Cur] in
theorem qc0{orc:Orc}(horc:OrcOk P σ orc){kd:Option IntKind}{x y:AV}{x' y':Value}(hx:VR σ ρ x x')(hy:VR σ ρ y y')(hk:MapKept.IsKey (xi kd) x'){k:Bool->Prop}(h:xW orc x y k) :
  ∃b,k b∧Instr.sameNow (xi kd) x' y'=some b:=by
 unfold xW at h;split at h
 ·rename_i c;have ey:=hy.un_s;subst ey;split at h
  ·rename_i a;have ex:=hx.un_s;subst ex;rw[qj] at h;cases kd
   ·refine⟨_,h,?_⟩;show some ((⟨a.toArray⟩:ByteArray)==⟨c.toArray⟩)=_;rw[zR]
    congr 1
    rw[Bool.eq_iff_iff,MapKept.bytes_beq,beq_iff_eq];constructor
    ·intro e;have:=congrArg (fun b=>b.data.toList) e;simpa using this
    ·intro e;rw[e]
   ·exact hk.elim
  ·rename_i j;cases hl:orc.len j with
   | none=>simp only[hl] at h;exact h.elim
   | some lv =>
   simp only[hl] at h;have h:wq (orc.bin .eql (.sym j) (.s c)) (fun v=>unB v k):=h
   cases hb:orc.bin .eql (.sym j) (.s c) with
   | none=>simp only[hb] at h;exact h.elim
   | some r =>
    simp only[hb] at h;obtain⟨r',h1,h2⟩:=horc.bin _ _ _ _ hb ρ x' _ hx hy;have h':unB r k:=h;unfold unB at h';split at h'<;>try exact h'.elim
    rename_i b;cases kd
    ·cases x'<;>try exact hk.elim
     rename_i s;have h3:=h2 P 0 (default:World);cases h1;refine⟨b,h',?_⟩;simp[binOp,Op.stringOp] at h3;show some (s==(⟨c.toArray⟩:ByteArray))=some b;rw[← h3]
     congr 1
     rw[Bool.eq_iff_iff,MapKept.bytes_beq,beq_iff_eq];constructor
     ·intro e;rw[e,ByteArray.toList_eq]
     ·intro e;rw[ByteArray.toList_eq] at e;rw[← e]
    ·obtain⟨s,h3,_⟩:=horc.len j lv hl;rw[hx.un_sym,h3] at hk;exact hk.elim
  ·exact h.elim
 ·rename_i q n;have ey:=hy.un_i;subst ey;split at h<;>try exact h.elim
  rename_i q' m;have ex:=hx.un_i;subst ex;obtain⟨h1,h2⟩:=(qa _ _).1 h;have h1:=of_decide_eq_true h1;subst h1;rw[qj] at h2;cases kd
  ·exact hk.elim
  ·refine⟨_,h2,?_⟩;have hk':q'=_:=hk;subst hk';simp[xi,Instr.sameNow,jE]
 simp_all
theorem qdT{orc:Orc}(horc:OrcOk P σ orc){kd:Option IntKind}{i:AV}{i':Value}(hi:VR σ ρ i i')(hk:MapKept.IsKey (xi kd) i') :
  ∀{es:List (AV×AV)} {vs:List MapEntry} (n:Nat),zF σ ρ es vs->∀{k:Option AV->Prop},xp orc i es k->
   (k none∧Instr.findNow (xi kd) i' vs n=some none)∨∃v m u,k (some v)∧VR σ ρ v u∧Instr.findNow (xi kd) i' vs n=some (some (m,u))
 | [],vs,n,he,k,h=>by
  have:vs=[]:=List.length_eq_zero_iff.1 he.1.symm;subst this;exact .inl ⟨h,rfl⟩
 | e::es,vs,n,he,k,h=>by
  obtain⟨v,us,rfl,h1,h2,h3⟩:=he.cons;have h':xW orc i e.1 (fun r=>Bool.rec (motive:=fun _=>Prop) (xp orc i es k) (k (some e.2)) r):=h
  obtain⟨b,h4,h5⟩:=qc0 horc hi h1 hk h';cases b with
  | true=>exact .inr ⟨e.2,n,v.val,h4,h2,by simp[Instr.findNow,h5]⟩
  | false =>
   rcases qdT horc hi hk (n+1) h3 h4 with⟨h6,h7⟩|⟨x,m,u,h6,h7,h8⟩
   ·exact .inl ⟨h6,by simp[Instr.findNow,h5,h7]⟩
   ·exact .inr ⟨x,m,u,h6,h7,by simp[Instr.findNow,h5,h8]⟩
theorem qhb{orc:Orc}(horc:OrcOk P σ orc){kd:Option IntKind}{i x:AV}{i' x':Value}(hu:i≠.undef∧∀r,i≠.lp r)(hi:VR σ ρ i i')(hx:VR σ ρ x x')(hk:MapKept.IsKey (xi kd) i') :
  ∀{es:List (AV×AV)} {vs:List MapEntry} (n:Nat),zF σ ρ es vs->∀{k:List (AV×AV)->Prop},wa orc i x es k->
   (∃es',k es'∧(qdc es->qdc es')∧Instr.findNow (xi kd) i' vs n=some none∧∀born,zF σ ρ es' (vs++[⟨i',x',born⟩])) ∨
    ∃es' j e,k es'∧(qdc es->qdc es')∧vs[j]?=some e∧Instr.findNow (xi kd) i' vs n=some (some (n+j,e.val))∧Instr.sameNow (xi kd) i' e.key=some true∧zF σ ρ es' (vs.set j { e with key:=i',val:=x' })
 | [],vs,n,he,k,h=>by
  have:vs=[]:=List.length_eq_zero_iff.1 he.1.symm;subst this;exact .inl ⟨[(i,x)],h,(fun _ e he=>by grind),rfl,by grind[zF.mk,zF.nil]⟩
 | e::es,vs,n,he,k,h=>by
  obtain⟨v,us,rfl,h1,h2,h3⟩:=he.cons;have h':xW orc i e.1 (fun r=>Bool.rec (motive:=fun _=>Prop) (wa orc i x es (fun l=>k (e::l))) (k ((i,x)::es)) r):=h
  obtain⟨b,h4,h5⟩:=qc0 horc hi h1 hk h';cases b with
  | true=>exact .inr ⟨(i,x)::es,0,v,h4,(fun _ e he=>by grind),rfl,by simp[Instr.findNow,h5],h5,by simp_all[zF.mk]⟩
  | false =>
   rcases qhb horc hu hi hx hk (n+1) h3 h4 with⟨es',h6,_,h7,h8⟩|⟨es',j,e',h6,_,h7,h8,h9,h10⟩
   ·exact .inl ⟨e::es',h6,(fun hh e' he=>by cases he;exact hh _ rfl),by simp[Instr.findNow,h5,h7],by grind[zF.mk]⟩
   ·exact .inr ⟨e::es',j+1,e',h6,(fun hh e' he=>by cases he;exact hh _ rfl),by simp_all,by simp[Instr.findNow,h5,h8];omega,h9,by simp_all[zF.mk]⟩
omit [Cur] in
theorem qe7{kd:Option IntKind}{a b:Value}(ha:MapKept.IsKey (xi kd) a)(h:Instr.sameNow (xi kd) a b=some true):∀n,Instr.sameBits n b a=true:=by
 intro n;cases kd
 ·cases a<;>try exact ha.elim
  cases b<;>simp[xi,Instr.sameNow] at h;rename_i s s';cases n<;>simp[Instr.sameBits,(MapKept.bytes_beq _ _).1 h,MapKept.bytes_beq]
 ·cases a<;>try exact ha.elim
  cases b<;>simp[xi,Instr.sameNow] at h;obtain⟨h1,h2⟩:=h;cases n<;>simp[Instr.sameBits,h1,h2]

omit [Cur] in
theorem jo{t k e:TypeId}(h:js P t=some (k,e)):P.underlying t=some (.map k e):=by
 unfold js at h;grind
omit [Cur] in
theorem qcg{t:TypeId}{kd:Option IntKind}(h:qcf P t kd=true):P.underlying t=some (xi kd):=by
 unfold qcf at h;split at h
 ·assumption
 ·obtain rfl:=of_decide_eq_true h;assumption
 grind
omit [Cur] in
theorem qaQ{t:TypeId}{kd:Option IntKind}(h:wk P t kd=true):∃k e,js P t=some (k,e)∧P.underlying t=some (.map k e)∧P.underlying k=some (xi kd):=by
 unfold wk at h;grind[jo,qcg]
theorem qdn{t:TypeId}{z:AV}(h:qdM P t z=true):∃i v,P.info? t=some i∧i.zero=some v∧VR σ ρ z v:=by
 unfold qdM at h;grind[qcu]
omit [Cur] in
theorem VR.un_nilm{v:Value}(h:VR σ ρ .nilm v):v = .map none:=by cases h;rfl
omit [Cur] in
theorem ja{h:Hp}{b:Nat}{k:List (AV×AV)->Prop}(hk:jn h b k):∃es,h.tr.get b=some (.map es)∧qdc es∧k es:=by
 obtain⟨x,h1,h2⟩:=(Tr.getK_iff _ _ _).1 hk;cases x with
 | cells=>simp_all
 | dead=>simp_all
 | map es=>exact⟨es,h1,qbq.1 h2⟩
section ops
variable {B:Nat->Prop} {h:Hp} {w:World} {a:Act} {t:Tr AV} {orc:Orc} {k:AV->Hp->Prop} {o:Oper}

theorem qgr(r:Rel σ ρ B h w){ty:TypeId}{rs:Option Operand}(ho:o.op = .makeMap ty rs)(hc:rs=none∨∃q n,rs=some (.const (.int q n))∧(js P ty).isSome=true)(hk:opK orc .mkM t h k):Res P σ ρ B h w (execOp a.eval o) k:=by
 have h1:k (.map h.sz) (h.push (.map [])):=(qv h (.map []) (fun b h'=>k (.map b) h')).1 hk
 obtain⟨r1,k1⟩:=r.newMap (w':=w.alloc (.map #[] 0)) (es0:=[]) (.inl ⟨(by intro e he;cases he),#[],0,rfl,zF.nil,rfl,fun j e h=>by simp at h⟩) rfl ⟨rfl,rfl⟩
 refine⟨.map h.sz,.map (some w.heap.size),_,_,w.alloc (.map #[] 0),h1,.inl ?_,.map _ _ (Ren.add_self _ _ _) rfl,r1,k1⟩;rcases hc with rfl|⟨q,n,rfl,hm⟩
 ·have e:(Instr.makeMap ty none).run P w = .ok (.map (some w.heap.size)) (w.alloc (.map #[] 0)):=rfl;simp[execOp,ho,e]
 ·obtain⟨⟨k',e'⟩,hm⟩:=Option.isSome_iff_exists.1 hm
  have e:(Instr.makeMap ty (some (.int q n))).run P w = .ok (.map (some w.heap.size)) (w.alloc (.map #[] 0)):=by
   simp[Instr.makeMap,qc (jo hm),asInt];rfl
  simp[execOp,ho,Act.eval,e]

omit [Cur] in
theorem qaY{ty key elem:TypeId}{kd:Option IntKind}(h4:P.underlying ty=some (.map key elem))(h5:P.underlying key=some (xi kd)){x i:Value}{vs:Array MapEntry}(hx:(x = .map none∧vs = #[])∨(∃b clk,x = .map (some b)∧w.heap[b]?=some (.map vs clk)))
  (g5:MapKept.IsKey (xi kd) i) {n:Nat} {u:Value} (hf:Instr.findNow (xi kd) i vs.toList 0=some (some (n,u))) (ok:Bool):(Instr.lookup ty x i ok).run P w = .ok (if ok then .tuple #[u,.bool true] else u) w:=by
 rcases hx with⟨rfl,rfl⟩|⟨b,clk,rfl,e2⟩
 ·simp[Instr.lookup,qc h4,MapKept.run_checkKey h5 g5,MapKept.run_findKey h5 hf]
 ·simp[Instr.lookup,qc h4,MapKept.run_getObj_map e2,MapKept.run_checkKey h5 g5,MapKept.run_findKey h5 hf]
omit [Cur] in
theorem qaX{ty key elem:TypeId}{kd:Option IntKind}(h4:P.underlying ty=some (.map key elem))(h5:P.underlying key=some (xi kd)){x i:Value}{vs:Array MapEntry}(hx:(x = .map none∧vs = #[])∨(∃b clk,x = .map (some b)∧w.heap[b]?=some (.map vs clk)))
  (g5:MapKept.IsKey (xi kd) i) (hf:Instr.findNow (xi kd) i vs.toList 0=some none) {info:TypeInfo} {zv:Value} (h6:P.info? elem=some info) (h7:info.zero=some zv) (ok:Bool):(Instr.lookup ty x i ok).run P w = .ok (if ok then .tuple #[zv,.bool false] else zv) w:=by
 rcases hx with⟨rfl,rfl⟩|⟨b,clk,rfl,e2⟩
 ·simp[Instr.lookup,qc h4,MapKept.run_checkKey h5 g5,MapKept.run_findKey h5 hf,xk h6 h7]
 ·simp[Instr.lookup,qc h4,MapKept.run_getObj_map e2,MapKept.run_checkKey h5 g5,MapKept.run_findKey h5 hf,xk h6 h7]
theorem qgn(horc:OrcOk P σ orc)(r:Rel σ ρ B h w)(ht:TR σ ρ t a.tmps){kd:Option IntKind}{ok:Bool}{z:AV}{x i:O}{x' i':Operand}{ty:TypeId}(ho:o.op = .lookup ty x' i' ok)(hc1:qh x' x=true)(hc2:qh i' i=true)
  (h1:wk P ty kd=true) (h2:(match js P ty with|some (_,e)=>qdM P e z|none=>false)=true) (hk:opK orc (.lookM kd ok z x i) t h k):Res P σ ρ B h w (execOp a.eval o) k:=by
 obtain⟨key,elem,h3,h4,h5⟩:=qaQ h1;rw[h3] at h2;obtain⟨info,zv,h6,h7,h8⟩:=qdn (σ:=σ) (ρ:=ρ) h2;obtain⟨u,g1,g2⟩:=ql ht hc1 hk;obtain⟨iv,g3,g4⟩:=ql ht hc2 g1;obtain⟨g5,g6⟩:=qgh horc g4 g3
 have fin:∀{vs:Array MapEntry} {m:Option AV},(a.eval x' = .map none∧vs = #[])∨(∃b clk,a.eval x' = .map (some b)∧w.heap[b]?=some (.map vs clk))->qaz ok z m (fun v=>k v h)->
   ((m=none∧Instr.findNow (xi kd) (a.eval i') vs.toList 0=some none)∨∃v n u,m=some v∧VR σ ρ v u∧Instr.findNow (xi kd) (a.eval i') vs.toList 0=some (some (n,u)))->Res P σ ρ B h w (execOp a.eval o) k:=by
  intro vs m hx ha hf;rcases hf with⟨rfl,hf⟩|⟨v,n,u,rfl,hv,hf⟩
  ·cases ok
   ·refine Res.pure r (v:=z) ha (v':=zv) ?_ h8;simp[execOp,ho,qaX h4 h5 hx g5 hf h6 h7]
   ·refine Res.pure r (v:=.tup [z,.b false]) ha (v':=.tuple #[zv,.bool false]) ?_ (.tup _ _ (.cons _ _ _ _ h8 (.cons _ _ _ _ (.b _) .nil)));simp[execOp,ho,qaX h4 h5 hx g5 hf h6 h7]
  ·cases ok
   ·refine Res.pure r (v:=v) ha (v':=u) ?_ hv;simp[execOp,ho,qaY h4 h5 hx g5 hf]
   ·refine Res.pure r (v:=.tup [v,.b true]) ha (v':=.tuple #[u,.bool true]) ?_ (.tup _ _ (.cons _ _ _ _ hv (.cons _ _ _ _ (.b _) .nil)));simp[execOp,ho,qaY h4 h5 hx g5 hf]
 cases u<;>try exact g6.elim
 ·exact fin (.inl ⟨g2.un_nilm,rfl⟩) g6 (.inl ⟨rfl,rfl⟩)
 ·rename_i b;obtain⟨es,e1,e0,e2⟩:=ja g6;obtain⟨L,e3,e4,e5⟩:=g2.un_map;obtain⟨e6,ob,e7,e9⟩:=r.maps b L es e3 e1;obtain⟨vs,clk,rfl,e8,hbr⟩:=e9.map e0;rcases qdT horc g4 g5 0 e8 e2 with⟨f1,f2⟩|⟨v,m,u,f1,f2,f3⟩
  ·grind
  ·exact fin (.inr ⟨_,clk,e5,e7⟩) f1 (.inr ⟨v,m,u,rfl,f2,f3⟩)

theorem qd9(horc:OrcOk P σ orc)(r:Rel σ ρ B h w)(ht:TR σ ρ t a.tmps){kd:Option IntKind}{x i v:O}{x' i' v':Operand}{ty:TypeId}(ho:o.op = .mapUpdate ty x' i' v'∨o.op = .insert ty x' i' v')(hc1:qh x' x=true)(hc2:qh i' i=true)(hc3:qh v' v=true)
  (h1:wk P ty kd=true) (hk:opK orc (.updM kd x i v) t h k):Res P σ ρ B h w (execOp a.eval o) k:=by
 obtain⟨key,elem,h3,h4,h5⟩:=qaQ h1;obtain⟨u,g1,g2⟩:=ql ht hc1 hk;obtain⟨iv,g3,g4⟩:=ql ht hc2 g1;obtain⟨vv,g7,g8⟩:=ql ht hc3 g3;obtain⟨g5,g6⟩:=qgh horc g4 g7;cases u<;>try exact g6.elim
 rename_i b;obtain⟨es,e1,e0,e2⟩:=ja g6;obtain⟨L,e3,e4,e5⟩:=g2.un_map;obtain⟨e6,ob,e7,e9⟩:=r.maps b L es e3 e1;obtain⟨vs,clk,rfl,e8,hbr⟩:=e9.map e0
 have exec:∀{w':World},(Instr.mapUpdate ty (a.eval x') (a.eval i') (a.eval v')).run P w = .ok () w'->(execOp a.eval o).run P w = .ok .skip w':=by
  intro w' hr;rcases ho with ho|ho<;>simp[execOp,ho,hr]
 have hu:iv≠.undef∧∀r,iv≠.lp r:=⟨by rintro rfl;exact g7.elim,by rintro r rfl;exact g7.elim⟩
 rcases qhb horc hu g4 g8 g5 0 e8 e2 with⟨es',f1,f0,f2,f3⟩|⟨es',j,e,f1,f0,f2,f3,f4,f5⟩
 ·obtain⟨f6,f7⟩:=(qC _ _ _ _).1 f1;obtain⟨r1,k1⟩:=r.putMap (w':={ w with heap:=w.heap.setIfInBounds L.blk (.map (vs.push ⟨a.eval i',a.eval v',clk⟩) (clk+1)) }) e3 e1 f6 e7 (.inl ⟨f0 e0,_,_,rfl,by rw[Array.toList_push];simp_all,hbr.push _ _⟩) rfl ⟨rfl,rfl⟩
  refine⟨.undef,undef,_,_,_,f7,.inr ⟨exec ?_,rfl⟩,.undef _,r1,k1⟩;simp[Instr.mapUpdate,qc h4,e5,MapKept.run_getObj_map e7,MapKept.run_checkKey h5 g5,MapKept.run_findKey h5 f2,MapKept.run_setObj_map _ e7]
 ·obtain⟨f6,f7⟩:=(qC _ _ _ _).1 f1
  have hm:(vs.modify j fun e=>{ e with key:=a.eval i',val:=a.eval v' }).toList=vs.toList.set j { e with key:=a.eval i',val:=a.eval v' }:=by
   have hj:vs[j]?=some e:=by simpa using f2
   have hlt:j<vs.size:=by grind
   apply List.ext_getElem?
   grind
  obtain⟨r1,k1⟩:=r.putMap (w':={ w with heap:=w.heap.setIfInBounds L.blk (.map (vs.modify j fun e=>{ e with key:=a.eval i',val:=a.eval v' }) clk) }) e3 e1 f6 e7 (.inl ⟨f0 e0,_,_,rfl,by rw[hm];exact f5,hbr.modify j (g:=fun e=>{ e with key:=a.eval i',val:=a.eval v' }) fun _=>rfl⟩) rfl ⟨rfl,rfl⟩
  refine⟨.undef,undef,_,_,_,f7,.inr ⟨exec ?_,rfl⟩,.undef _,r1,k1⟩;have hj:vs[j]?=some e:=by simp_all
  have f3':Instr.findNow (xi kd) (a.eval i') vs.toList 0=some (some (j,e.val)):=by simp_all
  simp[Instr.mapUpdate,qc h4,e5,MapKept.run_getObj_map e7,MapKept.run_checkKey h5 g5,MapKept.run_findKey h5 f3',hj,Instr.keyThatStays,qe7 g5 f4,MapKept.run_setObj_map _ e7]

theorem qip(r:Rel σ ρ B h w)(ht:TR σ ρ t a.tmps){x:O}{y:Operand}{ty:TypeId}{args:Array TypeId}{ops:Array Operand}(ho:o.op = .call ⟨.builtin .len,ops,args⟩)(hops:ops.toList=[y])(hr:args[0]?=some ty)(h1:(js P ty).isSome=true)(hc:qh y x=true)(hk:opK orc (.lenM x) t h k):Res P σ ρ B h w (execOp a.eval o) k:=by
 obtain⟨v,h2,h3⟩:=ql ht hc hk;obtain rfl:ops = #[y]:=by cases ops;simpa using hops
 obtain⟨⟨key,elem⟩,hm⟩:=Option.isSome_iff_exists.1 h1;have hu:=jo hm;cases v<;>try exact h2.elim
 ·have e':=h3.un_nilm;exact Res.pure r (v:=.i .i64 0) h2 (by simp[execOp,ho,resolve,invoke,builtin,Builtin.len_,hr,qc hu,e',goInt]) (.i _ _)
 ·rename_i b;obtain⟨es,e1,e0,e2⟩:=ja h2;obtain⟨L,e3,e4,e5⟩:=h3.un_map;obtain⟨e6,ob,e7,e11⟩:=r.maps b L es e3 e1;obtain⟨vs,clk,rfl,e8,hbr⟩:=e11.map e0;have e9:=(qbV _ _).1 e2;have e10:vs.size=es.length:=by have:=e8.1;simpa using this.symm
  exact Res.pure r (v:=.i .i64 (Int.ofNat es.length)) e9 (by simp[execOp,ho,resolve,invoke,builtin,Builtin.len_,hr,qc hu,e5,goInt,MapKept.run_getObj_map e7,e10]) (.i _ _)

theorem qkq(r:Rel σ ρ B h w)(ht:TR σ ρ t a.tmps){x y:O}{x' y':Operand}{args:Array TypeId}{ops:Array Operand}(ho:o.op = .call ⟨.builtin .min,ops,args⟩)(hops:ops.toList=[x',y'])(hc:qh x' x=true)(hc2:qh y' y=true)(hk:opK orc (.min x y) t h k):Res P σ ρ B h w (execOp a.eval o) k:=by
 obtain⟨u,h1,h2⟩:=ql ht hc hk;obtain⟨v,h3,h4⟩:=ql ht hc2 h1;obtain rfl:ops = #[x',y']:=by grind
 obtain⟨q,n,h5,h6⟩:=qct h2 h3;obtain⟨q',m,h7,h8⟩:=qct h4 h6
 have hrun:(execOp a.eval o).run P w = .ok (.value (.int q (if m<n then m else n))) w:=by
  simp[execOp,ho,resolve,invoke,builtin,Builtin.min_,Builtin.min2,h5,h7]
 rw[xn] at h8
 by_cases hlt:m<n
 ·simp only[hlt,decide_true] at h8;exact Res.pure r h8 (by rw[hrun,if_pos hlt]) (.i _ _)
 ·simp only[hlt,decide_false] at h8;exact Res.pure r h8 (by rw[hrun,if_neg hlt]) (.i _ _)

theorem qe5(r:Rel σ ρ B h w)(ht:TR σ ρ t a.tmps){x:O}{y:Operand}{ty:TypeId}(ho:o.op = .range ty y)(hc:qh y x=true)(hs:qV P ty=true)(hk:opK orc (.rangeS x) t h k):Res P σ ρ B h w (execOp a.eval o) k:=by
 obtain⟨v,h1,h2⟩:=ql ht hc hk;cases v<;>try exact h1.elim
 rename_i l;have e':=h2.un_s;have h3:k (.ptr h.sz 0) (h.push (.map (zc l 0))):=(qv h (.map (zc l 0)) (fun b h'=>k (.ptr b 0) h')).1 h1
 obtain⟨r1,k1⟩:=r.newMap (w':=w.alloc (.stringIter ⟨l.toArray⟩ 0)) (es0:=zc l 0) (.inr (.inl ⟨l,0,rfl,rfl⟩)) rfl ⟨rfl,rfl⟩;refine⟨.ptr h.sz 0,.pointer (some ⟨w.heap.size,0,none⟩),_,_,w.alloc (.stringIter ⟨l.toArray⟩ 0),h3,.inl ?_,.ptr _ _ _ (Ren.add_self _ _ _),r1,k1⟩;have hn:(newObj (.stringIter ⟨l.toArray⟩ 0)).run P w = .ok w.heap.size (w.alloc (.stringIter ⟨l.toArray⟩ 0)):=rfl;simp[execOp,ho,Instr.range,qc (qE hs),e',hn]

omit [Cur] in
theorem ju{r:Nat}{s:ByteArray}{n:Nat}(hb:w.heap[r]?=some (.stringIter s n)):(getObj r).run P w = .ok (.stringIter s n) w:=by
 simp[getObj,Sem.run,hb]
omit [Cur] in
theorem qa5{r:Nat}{s:ByteArray}{n:Nat}(o:Obj)(hb:w.heap[r]?=some (.stringIter s n)):(setObj r o).run P w = .ok () { w with heap:=w.heap.setIfInBounds r o }:=by
 simp[setObj,Sem.run,hb]
omit [Cur] in
theorem qam{l:List UInt8}{n:Nat}{c:UInt8}(h:l[n]?=some c)(hc:c.toNat<128):Utf8.decode ⟨l.toArray⟩ n=(c.toNat,1):=by
 have hn:n<l.length:=(zzS.1 h).1
 have hg:(ByteArray.mk l.toArray).get! n=c:=by
  show (l.toArray)[n]! = c;rw[getElem!_def,List.getElem?_toArray,h]
 simp only[Utf8.decode,Nat.add_zero,hg];rw[if_pos (by omega)]
theorem qgt(r:Rel σ ρ B h w)(ht:TR σ ρ t a.tmps){x:O}{y:Operand}(ho:o.op = .next y true)(hc:qh y x=true)(hk:opK orc (.nextS x) t h k):Res P σ ρ B h w (execOp a.eval o) k:=by
 obtain⟨v,h1,h2⟩:=ql ht hc hk;cases v<;>try exact h1.elim
 rename_i b o'
 have h1':qb (Nat.beq o' 0) (qbU h b (fun a n=>match a[n]? with
  | some c=>Bool.rec (motive:=fun _=>Prop)
    (qY h b (.map (zc a (Nat.add n (Utf8.decode ⟨a.toArray⟩ n).2))) (fun h'=>k (.tup [.b true,.i .i64 (Int.ofNat n),.i .i32 (Int.ofNat (Utf8.decode ⟨a.toArray⟩ n).1)]) h'))
    (qd (Nat.succ n) (fun m=>qY h b (.map (zc a m)) (fun h'=>k (.tup [.b true,.i .i64 (Int.ofNat n),.i .i32 (Int.ofNat c.toNat)]) h')))
    (Nat.ble (Nat.succ c.toNat) 128)
  | none=>k (.tup [.b false]) h)):=h1
 obtain⟨h3,h4⟩:=(qa _ _).1 h1';obtain rfl:=Nat.eq_of_beq_eq_true h3;obtain⟨l,n,h5,h6⟩:=jT.1 h4;obtain⟨L,e1,e2⟩:=h2.un_ptr;obtain⟨e3,ob,e4,e5⟩:=r.maps b L _ e1 h5;obtain rfl:=e5.iter;have e6:a.eval y = .pointer (some ⟨L.blk,0,none⟩):=by rw[e2,e3]
 cases hn:l[n]? with
 | none =>
  rw[hn] at h6;have hlen:¬n<(⟨l.toArray⟩:ByteArray).size:=by rw[jN];simpa using hn
  refine Res.pure r (v:=.tup [.b false]) h6 (v':=.tuple #[.bool false]) ?_ (.tup _ _ (.cons _ _ _ _ (.b _) .nil));simp[execOp,ho,Instr.next,e6,ju e4,hlen]
 | some c =>
  rw[hn] at h6;have hlen:n<(⟨l.toArray⟩:ByteArray).size:=by rw[jN];exact (zzS.1 hn).1
  have h7:qY h b (.map (zc l (n+(Utf8.decode ⟨l.toArray⟩ n).2))) (fun h'=>k (.tup [.b true,.i .i64 (Int.ofNat n),.i .i32 (Int.ofNat (Utf8.decode ⟨l.toArray⟩ n).1)]) h'):=by
   have h6':(Bool.rec (motive:=fun _=>Prop)
    (qY h b (.map (zc l (Nat.add n (Utf8.decode ⟨l.toArray⟩ n).2))) (fun h'=>k (.tup [.b true,.i .i64 (Int.ofNat n),.i .i32 (Int.ofNat (Utf8.decode ⟨l.toArray⟩ n).1)]) h'))
    (qd (Nat.succ n) (fun m=>qY h b (.map (zc l m)) (fun h'=>k (.tup [.b true,.i .i64 (Int.ofNat n),.i .i32 (Int.ofNat c.toNat)]) h')))
    (Nat.ble (Nat.succ c.toNat) 128):Prop):=h6
   cases hb:Nat.ble (Nat.succ c.toNat) 128 with
   | false=>rw[hb] at h6';exact h6'
   | true =>
    rw[hb] at h6';have h8:=(Iff.of_eq (qg _ _)).1 h6';have:=Nat.le_of_ble_eq_true hb;rw[qam hn (by omega)];exact h8
  obtain⟨f6,f7⟩:=(qC _ _ _ _).1 h7;obtain⟨r1,k1⟩:=r.putMap (w':={ w with heap:=w.heap.setIfInBounds L.blk (.stringIter ⟨l.toArray⟩ (n+(Utf8.decode ⟨l.toArray⟩ n).2)) }) e1 h5 f6 e4 (.inr (.inl ⟨l,_,rfl,rfl⟩)) rfl ⟨rfl,rfl⟩;refine⟨_,.tuple #[.bool true,.int .i64 n,.int .i32 (Utf8.decode ⟨l.toArray⟩ n).1],_,_,_,f7,.inl ?_,.tup _ _ (.cons _ _ _ _ (.b _) (.cons _ _ _ _ (.i _ _) (.cons _ _ _ _ (.i _ _) .nil))),r1,k1⟩;simp[execOp,ho,Instr.next,e6,ju e4,hlen,qa5 _ e4,goInt]
theorem qjM(r:Rel σ ρ B h w)(ht:TR σ ρ t a.tmps){x:O}{y:Operand}{s d:TypeId}{q:IntKind}(ho:o.op = .convert s d y)(hc:qh y x=true)(hs:P.underlying s=some (.int q))(hd:qV P d=true)(hk:opK orc (.cvR x) t h k):Res P σ ρ B h w (execOp a.eval o) k:=by
 obtain⟨v,h1,h2⟩:=ql ht hc hk;cases v<;>try exact h1.elim
 rename_i p n;have e:=h2.un_i;refine Res.pure r (v:=.s (Utf8.encode n).data.toList) h1 (v':=.string (Utf8.encode n)) ?_ ?_
 ·simp[execOp,ho,convert,qc hs,qc (qE hd),e,Conv.intToString]
 ·have:(Utf8.encode n)=⟨((Utf8.encode n).data.toList).toArray⟩:=by simp
  rw[this];exact .s _
omit [Cur] in
theorem zk{r m s l:Nat}{x:Array Nat}(hb:w.heap[r]?=some (.mapIter (some m) s x l)):(getObj r).run P w = .ok (.mapIter (some m) s x l) w:=by
 simp[getObj,Sem.run,hb]
omit [Cur] in
theorem qaa(o':Obj){r m s l:Nat}{x:Array Nat}(hb:w.heap[r]?=some (.mapIter (some m) s x l)):(setObj r o').run P w = .ok () { w with heap:=w.heap.setIfInBounds r o' }:=by
 simp[setObj,Sem.run,hb]
omit [Cur] in
theorem qb3{u v:AV}{vs:Array MapEntry}{clk:Nat}(h:zF σ ρ [(u,v)] vs.toList)(hb:Brn vs clk):∃ku kv,vs = #[⟨ku,kv,0⟩]∧clk=1∧VR σ ρ u ku∧VR σ ρ v kv:=by
 obtain⟨h1,h2⟩:=h;obtain⟨e,g1,g2,g3⟩:=h2 0 (u,v) rfl
 have hv:vs = #[e]:=by
  apply Array.ext';cases hl:vs.toList with
  | nil=>rw[hl] at h1;cases h1
  | cons a l =>
   rw[hl] at h1 g1;cases l with
   | cons=>simp at h1
   | nil=>cases g1;rfl
 have hbe:=hb.2 0 e (by rw[hv];rfl);cases e with
 | mk a b c =>
  cases hbe;exact⟨a,b,hv,by rw[hb.1,hv];rfl,g2,g3⟩
theorem qiR(r:Rel σ ρ B h w)(ht:TR σ ρ t a.tmps){x:O}{y:Operand}{ty:TypeId}(ho:o.op = .range ty y)(hc:qh y x=true)(h0:(js P ty).isSome=true)(hk:opK orc (.rngE x) t h k):Res P σ ρ B h w (execOp a.eval o) k:=by
 obtain⟨v,h1,h2⟩:=ql ht hc hk;cases v<;>try exact h1.elim
 rename_i b;obtain⟨⟨key,elem⟩,hm⟩:=Option.isSome_iff_exists.1 h0;have hu:=jo hm;obtain⟨es,e1,e0,e2⟩:=ja h1;obtain⟨L,e3,e4,e5⟩:=h2.un_map;obtain⟨e6,ob,e7,e11⟩:=r.maps b L es e3 e1;obtain⟨vs,clk,rfl,e8,hbr⟩:=e11.map e0;have hv:VR σ ρ (.map b) (.map (some L.blk)):=by rw[← e5];exact h2
 have fin:qN h (.map (itM b clk 0)) (fun b h'=>k (.ptr b 0) h')->Res P σ ρ B h w (execOp a.eval o) k:=by
  intro e2;have h3:k (.ptr h.sz 0) (h.push (.map (itM b clk 0))):=(qv h (.map (itM b clk 0)) (fun b h'=>k (.ptr b 0) h')).1 e2
  obtain⟨r1,k1⟩:=r.newMap (w':=w.alloc (.mapIter (some L.blk) clk #[] clk)) (es0:=itM b clk 0) (.inr (.inr (.inr ⟨b,clk,0,_,rfl,hv,rfl⟩))) rfl ⟨rfl,rfl⟩;refine⟨.ptr h.sz 0,.pointer (some ⟨w.heap.size,0,none⟩),_,_,w.alloc (.mapIter (some L.blk) clk #[] clk),h3,.inl ?_,.ptr _ _ _ (Ren.add_self _ _ _),r1,k1⟩;have hn:(newObj (.mapIter (some L.blk) clk #[] clk)).run P w = .ok w.heap.size (w.alloc (.mapIter (some L.blk) clk #[] clk)):=rfl;simp[execOp,ho,Instr.range,qc hu,e5,MapKept.run_getObj_map e7,hn]
 have hsz:clk=es.length:=by rw[hbr.1,e8.1];simp
 cases es with
 | nil=>subst hsz;exact fin e2
 | cons e es =>
  cases es with
  | nil=>subst hsz;exact fin e2
  | cons=>exact e2.elim
theorem qix(r:Rel σ ρ B h w)(ht:TR σ ρ t a.tmps){x:O}{y:Operand}(ho:o.op = .next y false)(hc:qh y x=true)(hk:opK orc (.nxtE x) t h k):Res P σ ρ B h w (execOp a.eval o) k:=by
 obtain⟨v,h1,h2⟩:=ql ht hc hk;cases v<;>try exact h1.elim
 rename_i b o';have h1':qb (Nat.beq o' 0) (qdv h b (fun r s n=>jn h r (fun es=>match es with | []=>k (.tup [.b false]) h | [(u,v)]=>qb (Nat.beq s 1) (Bool.rec (motive:=fun _=>Prop) (qb (Nat.beq n 1) (k (.tup [.b false]) h)) (qY h b (.map (itM r 1 1)) (fun h'=>k (.tup [.b true,u,v]) h')) (Nat.beq n 0))|_=>False))):=h1
 obtain⟨h3,h4⟩:=(qa _ _).1 h1';obtain rfl:=Nat.eq_of_beq_eq_true h3;obtain⟨q,s,n,h5,h6⟩:=qaq.1 h4;obtain⟨L,e1,e2⟩:=h2.un_ptr;obtain⟨e3,ob,e4,e5⟩:=r.maps b L _ e1 h5;obtain⟨m,e7,rfl⟩:=e5.itm;have e6:a.eval y = .pointer (some ⟨L.blk,0,none⟩):=by rw[e2,e3]
 obtain⟨es,g1,g0,g2⟩:=ja h6;obtain⟨M,f3,f4,f5⟩:=e7.un_map;obtain⟨f6,ob,f7,f11⟩:=r.maps q M es f3 g1;obtain⟨vs,clk,rfl,f8,hbr⟩:=f11.map g0;cases f5;cases es with
 | nil =>
  have hv:vs = #[]:=by have:=f8.1;simpa using this.symm
  subst hv;refine Res.pure r (v:=.tup [.b false]) g2 (v':=.tuple #[.bool false]) ?_ (.tup _ _ (.cons _ _ _ _ (.b _) .nil));simp[execOp,ho,Instr.next,e6,zk e4,MapKept.run_getObj_map f7,Question.forced]
 | cons e es =>
  cases es with
  | cons=>exact g2.elim
  | nil =>
   obtain⟨u,v⟩:=e;obtain⟨ku,kv,rfl,rfl,hu,hvv⟩:=qb3 f8 hbr;obtain⟨hs,g3⟩:=(qa _ _).1 g2;obtain rfl:=Nat.eq_of_beq_eq_true hs;cases hn:Nat.beq n 0 with
   | false =>
    rw[hn] at g3;obtain⟨hn1,g4⟩:=(qa _ _).1 g3;obtain rfl:=Nat.eq_of_beq_eq_true hn1;refine Res.pure r (v:=.tup [.b false]) g4 (v':=.tuple #[.bool false]) ?_ (.tup _ _ (.cons _ _ _ _ (.b _) .nil));simp[execOp,ho,Instr.next,e6,zk e4,MapKept.run_getObj_map f7,Question.forced]
   | true =>
    obtain rfl:=Nat.eq_of_beq_eq_true hn;have g4:qY h b (.map (itM q 1 1)) (fun h'=>k (.tup [.b true,u,v]) h'):=g3
    obtain⟨f6,g5⟩:=(qC _ _ _ _).1 g4;obtain⟨r1,k1⟩:=r.putMap (w':={ w with heap:=w.heap.setIfInBounds L.blk (.mapIter (some M.blk) 1 #[0] 1) }) e1 h5 f6 e4 (.inr (.inr (.inr ⟨q,1,1,_,rfl,e7,rfl⟩))) rfl ⟨rfl,rfl⟩;refine⟨_,.tuple #[.bool true,ku,kv],_,_,_,g5,.inl ?_,.tup _ _ (.cons _ _ _ _ (.b _) (.cons _ _ _ _ hu (.cons _ _ _ _ hvv .nil))),r1,k1⟩;simp[execOp,ho,Instr.next,e6,zk e4,MapKept.run_getObj_map f7,Question.forced,qaa _ e4]
    rfl
theorem qhV(r:Rel σ ρ B h w)(ht:TR σ ρ t a.tmps){x:O}{y:Operand}(ho:o.op = .entry y)(hc:qh y x=true)(hk:opK orc (.entE x) t h k):Res P σ ρ B h w (execOp a.eval o) k:=by
 obtain⟨v,h1,h2⟩:=ql ht hc hk;cases v<;>try exact h1.elim
 rename_i b o';have h1':qb (Nat.beq o' 0) (qdv h b (fun r s n=>jn h r (fun es=>match es with | [(u,v)]=>qb (Nat.beq s 1) (qb (Nat.beq n 1) (k (.tup [u,v]) h))|_=>False))):=h1
 obtain⟨h3,h4⟩:=(qa _ _).1 h1';obtain rfl:=Nat.eq_of_beq_eq_true h3;obtain⟨q,s,n,h5,h6⟩:=qaq.1 h4;obtain⟨L,e1,e2⟩:=h2.un_ptr;obtain⟨e3,ob,e4,e5⟩:=r.maps b L _ e1 h5;obtain⟨m,e7,rfl⟩:=e5.itm;have e6:a.eval y = .pointer (some ⟨L.blk,0,none⟩):=by rw[e2,e3]
 obtain⟨es,g1,g0,g2⟩:=ja h6;obtain⟨M,f3,f4,f5⟩:=e7.un_map;obtain⟨f6,ob,f7,f11⟩:=r.maps q M es f3 g1;obtain⟨vs,clk,rfl,f8,hbr⟩:=f11.map g0;cases f5;cases es with
 | nil=>exact g2.elim
 | cons e es =>
  cases es with
  | cons=>exact g2.elim
  | nil =>
   obtain⟨u,v⟩:=e;obtain⟨ku,kv,rfl,rfl,hu,hvv⟩:=qb3 f8 hbr;obtain⟨hs,g3⟩:=(qa _ _).1 g2;obtain rfl:=Nat.eq_of_beq_eq_true hs;obtain⟨hn,g4⟩:=(qa _ _).1 g3;obtain rfl:=Nat.eq_of_beq_eq_true hn;refine Res.pure r (v:=.tup [u,v]) g4 (v':=.tuple #[ku,kv]) ?_ (.tup _ _ (.cons _ _ _ _ hu (.cons _ _ _ _ hvv .nil)));have hbk:(Array.range 1).back?=some 0:=rfl;simp[execOp,ho,Instr.entry,e6,zk e4,MapKept.run_getObj_map f7,hbk]
end ops
section ops
variable {B:Nat->Prop} {h:Hp} {w:World} {a:Act} {t:Tr AV} {orc:Orc} {k:AV->Hp->Prop} {o:Oper}

omit [Cur] in
theorem zK{b:Nat}:∀{ps:List Nat} {p:Prop},ze t b ps p->p∧∀q ∈ ps,(∃b' o',t.get q=some (.ptr b' o')∧b'≠b)∨∃cs o',t.get q=some (.pf cs o')
 | [],p,h=>⟨h,(by intro q hq;cases hq)⟩
 | q::ps,p,h=>by
  have h':t.getK q (fun y=>match y with | .ptr b' _=>qb (not (Nat.beq b' b)) (ze t b ps p) | .pf _ _=>ze t b ps p|_=>False):=h
  obtain⟨y,h1,h2⟩:=(Tr.getK_iff _ _ _).1 h';cases y<;>try exact h2.elim
  ·rename_i b' o';obtain⟨h3,h4⟩:=(qa _ _).1 h2;obtain⟨h5,h6⟩:=zK h4;refine⟨h5,fun q' hq=>?_⟩
   rcases List.mem_cons.1 hq with rfl|hq
   ·refine .inl ⟨b',o',h1,?_⟩;rintro rfl;simp at h3
   ·exact h6 q' hq
  ·obtain⟨h5,h6⟩:=zK h2;refine⟨h5,fun q' hq=>?_⟩
   rcases List.mem_cons.1 hq with rfl|hq
   ·exact .inr ⟨_,_,h1⟩
   ·exact h6 q' hq
omit [Cur] in
theorem qc7{ps:List Nat}{s:AV}{p:Prop}(h:xc t ps s p):p:=by
 cases s<;>first|exact h|exact h.elim|exact (zK h).1
omit [Cur] in
theorem qcz{esz bytes:Nat}{s x:O}{ps:List Nat}(hk:opK orc (.appD esz bytes s x ps) t h k):opK orc (.app esz bytes true s x) t h k:=by
 obtain⟨v,h1,h2⟩:=qf t s _ hk;obtain⟨u,h3,h4⟩:=qf t x _ h1;exact h2 (fun s=>evK t x (fun x=>jv h esz bytes true s x k)) (h4 (fun x=>jv h esz bytes true v x k) (qc7 h3))
theorem qdk(horc:OrcOk P σ orc)(r:Rel σ ρ B h w)(ht:TR σ ρ t a.tmps){b:Builtin}{args:Array Operand}{argTypes:Array TypeId}{io:IOp}(ho:o.op = .call ⟨.builtin b,args,argTypes⟩)(hc:xD P b argTypes args.toList io=true)(hk:opK orc io t h k):Res P σ ρ B h w (execOp a.eval o) k:=by
 unfold xD at hc;split at hc
 ·rename_i y n hops;cases ha:argTypes[0]? with
  | none=>simp[ha] at hc
  | some ty =>
   simp only[ha,Option.bind_some] at hc;split at hc
   ·rename_i m e he;exact qeK r ho hops ha he (by simpa using hc) hk
   ·cases hc
 ·rename_i x str y hops;simp only[Bool.and_eq_true] at hc;cases ha:argTypes[0]? with
  | none=>simp[ha] at hc
  | some ty =>
   simp only[ha] at hc;exact qkj horc r ht ho hops ha hc.2 hc.1 hk
 ·rename_i x y hops;simp only[Bool.and_eq_true] at hc;cases ha:argTypes[0]? with
  | none=>simp[ha] at hc
  | some ty =>
   simp only[ha,Option.bind_some] at hc;exact qip r ht ho hops ha hc.2 hc.1 hk
 ·rename_i x y hops;simp only[Bool.and_eq_true] at hc;cases ha:argTypes[0]? with
  | none=>simp[ha] at hc
  | some ty =>
   simp only[ha] at hc;exact qjD r ht ho hops ha hc.2 hc.1 hk
 ·rename_i s x esz bytes consume s' x' hops;simp only[Bool.and_eq_true] at hc;cases h0:argTypes[0]? with
  | none=>simp[h0] at hc
  | some ts =>
   cases h1:argTypes[1]? with
   | none=>simp[h0,h1] at hc
   | some tx =>
    simp only[h0,h1] at hc;obtain⟨⟨hc1,hc2⟩,hc3⟩:=hc;cases he:qx P ts with
    | none=>simp[he] at hc3
    | some e =>
     simp only[he,Bool.and_eq_true] at hc3;obtain⟨⟨⟨hs,hb⟩,hz⟩,hx⟩:=hc3;split at hz<;>try (cases hz;done)
     rename_i i hi;split at hz<;>try (cases hz;done)
     rename_i z hzz
     have hx':P.underlying tx=some .string∨∃e,P.underlying tx=some (.slice e):=by
      rw[Bool.or_eq_true] at hx;rcases hx with hx|hx
      ·exact .inl (qE hx)
      ·obtain⟨e,hx⟩:=Option.isSome_iff_exists.1 hx;exact .inr ⟨e,qr hx⟩
     exact qdi horc.atoms r ht ho hops h0 h1 he hx' hs hb hi hzz (by simpa using hz) hc1 hc2 hk
 ·rename_i s x esz bytes s' x' hops;simp only[Bool.and_eq_true] at hc;cases h0:argTypes[0]? with
  | none=>simp[h0] at hc
  | some ts =>
   cases h1:argTypes[1]? with
   | none=>simp[h0,h1] at hc
   | some tx =>
    simp only[h0,h1] at hc;obtain⟨⟨hc1,hc2⟩,hc3⟩:=hc;cases he:qx P ts with
    | none=>simp[he] at hc3
    | some e =>
     simp only[he,Bool.and_eq_true] at hc3;obtain⟨⟨⟨hs,hb⟩,hz⟩,hx⟩:=hc3;split at hz<;>try (cases hz;done)
     rename_i i hi;split at hz<;>try (cases hz;done)
     rename_i z hzz
     have hx':P.underlying tx=some .string∨∃e,P.underlying tx=some (.slice e):=by
      rw[Bool.or_eq_true] at hx;rcases hx with hx|hx
      ·exact .inl (qE hx)
      ·obtain⟨e,hx⟩:=Option.isSome_iff_exists.1 hx;exact .inr ⟨e,qr hx⟩
     exact qdi horc.atoms r ht ho hops h0 h1 he hx' hs hb hi hzz (by simpa using hz) hc1 hc2 (orc:=orc) (consume:=true) hk
 ·rename_i s x esz bytes s' x' ps hops;simp only[Bool.and_eq_true] at hc;cases h0:argTypes[0]? with
  | none=>simp[h0] at hc
  | some ts =>
   cases h1:argTypes[1]? with
   | none=>simp[h0,h1] at hc
   | some tx =>
    simp only[h0,h1] at hc;obtain⟨⟨hc1,hc2⟩,hc3⟩:=hc;cases he:qx P ts with
    | none=>simp[he] at hc3
    | some e =>
     simp only[he,Bool.and_eq_true] at hc3;obtain⟨⟨⟨hs,hb⟩,hz⟩,hx⟩:=hc3;split at hz<;>try (cases hz;done)
     rename_i i hi;split at hz<;>try (cases hz;done)
     rename_i z hzz
     have hx':P.underlying tx=some .string∨∃e,P.underlying tx=some (.slice e):=by
      rw[Bool.or_eq_true] at hx;rcases hx with hx|hx
      ·exact .inl (qE hx)
      ·obtain⟨e,hx⟩:=Option.isSome_iff_exists.1 hx;exact .inr ⟨e,qr hx⟩
     exact qdi horc.atoms r ht ho hops h0 h1 he hx' hs hb hi hzz (by simpa using hz) hc1 hc2 (orc:=orc) (consume:=true) (qcz hk)
 ·rename_i s x esz bytes z s' x' hops;simp only[Bool.and_eq_true] at hc;cases h0:argTypes[0]? with
  | none=>simp[h0] at hc
  | some ts =>
   cases h1:argTypes[1]? with
   | none=>simp[h0,h1] at hc
   | some tx =>
    simp only[h0,h1] at hc;obtain⟨⟨hc1,hc2⟩,hc3⟩:=hc;cases he:qx P ts with
    | none=>simp[he] at hc3
    | some e =>
     simp only[he,Bool.and_eq_true] at hc3;obtain⟨⟨⟨hs,hb⟩,hz⟩,hx⟩:=hc3;exact qhj r ht ho hops h0 h1 he hx hs hb hz hc1 hc2 hk
 ·rename_i d s esz d' s' hops;simp only[Bool.and_eq_true] at hc;cases h0:argTypes[0]? with
  | none=>simp[h0] at hc
  | some td =>
   simp only[h0,Option.bind_some] at hc;obtain⟨⟨⟨hc1,hc2⟩,hc4⟩,hc3⟩:=hc;split at hc3<;>try (cases hc3;done)
   rename_i e he;exact qhP horc.atoms r ht ho hops h0 hc4 he hc3 hc1 hc2 hk
 ·rename_i x y x' y' hops;simp only[Bool.and_eq_true] at hc;exact qkp r ht ho hops hc.1 hc.2 hk
 ·rename_i x y x' y' hops;simp only[Bool.and_eq_true] at hc;exact qkq r ht ho hops hc.1 hc.2 hk
 ·rename_i x z y hops;simp only[Bool.and_eq_true] at hc;cases h0:argTypes[0]? with
  | none=>simp[h0] at hc
  | some td =>
   simp only[h0,Option.bind_some] at hc;obtain⟨hc1,hc3⟩:=hc;split at hc3<;>try (cases hc3;done)
   rename_i e he;exact qfG horc.atoms r ht ho hops h0 he hc3 hc1 hk
 ·cases hc

omit [Cur] in
theorem qav{n:Nat}{x v:O}{ps:List Nat}(hk:opK orc (.storeD n x v ps) t h k):opK orc (.store n x v) t h k:=by
 obtain⟨p,h1,h2⟩:=qf t x _ hk;cases p<;>try exact h1.elim
 exact h2 _ (zK h1).1
theorem qmq(horc:OrcOk P σ orc)(r:Rel σ ρ B h w)(ht:TR σ ρ t a.tmps){io:IOp}(hc:qaj P o.op io=true)(hk:opK orc io t h k):Res P σ ρ B h w (execOp a.eval o) k:=by
 generalize ho:o.op=oo at hc;unfold qaj at hc;split at hc
 ·exact qgs r ht (.inl ho) hc hk
 ·exact qgs r ht (.inr ho) hc hk
 ·simp only[Bool.and_eq_true] at hc;exact qiK r ht ho hc.1.1 hc.1.2 hc.2 hk
 ·exact qfk r ho hc hk
 ·exact qjB horc.atoms r ht ho hc hk
 ·simp only[Bool.and_eq_true] at hc;exact qfz horc.atoms r ht ho hc.1 hc.2 hk
 ·simp only[Bool.and_eq_true] at hc;obtain⟨hn,hc⟩:=hc;split at hc<;>try (cases hc;done)
  rename_i e he;simp only[Bool.and_eq_true] at hc;obtain⟨⟨h1,h2⟩,h3⟩:=hc;split at h3<;>try (cases h3;done)
  rename_i j hj;obtain rfl:=eq_of_beq hn;exact qek horc.atoms r ht ho he h1 (by simpa using h2) hj h3 hk
 ·simp only[Bool.and_eq_true,Bool.not_eq_true'] at hc;exact qgl r ht ho hc.1.1 hc.1.2 hc.2 hk
 ·simp only[Bool.and_eq_true] at hc;exact qgm r ht ho hc.1.1 hc.1.2 hc.2 hk
 ·simp only[Bool.and_eq_true] at hc;exact qda horc.atoms r ht ho hc.1.1 hc.1.2 hc.2 hk
 ·simp only[Bool.and_eq_true] at hc;exact qda horc.atoms r ht ho hc.1.1 hc.1.2 hc.2 (qav hk)
 ·exact qeP r ht ho hc hk
 ·simp only[Bool.and_eq_true,decide_eq_true_eq] at hc;obtain⟨⟨⟨rfl,h1⟩,h2⟩,_⟩:=hc;exact qjz horc r ht ho h1 h2 hk
 ·simp only[Bool.and_eq_true,Bool.not_eq_true'] at hc;exact qfO r ht (.inl ⟨rfl,hc.1.1.1⟩) ho hc.1.1.2 hc.1.2 hc.2 hk
 ·simp only[Bool.and_eq_true] at hc;exact qfO r ht (.inr ⟨rfl,hc.1.1.1⟩) ho hc.1.1.2 hc.1.2 hc.2 hk
 ·simp only[Bool.and_eq_true,Bool.or_eq_true,Bool.not_eq_true'] at hc;exact qfP r ht (.inl ⟨rfl,hc.1.1⟩) ho hc.1.2 hc.2 hk
 ·simp only[Bool.and_eq_true,Bool.or_eq_true] at hc;exact qfP r ht (.inr ⟨rfl,hc.1.1⟩) ho hc.1.2 hc.2 hk
 ·simp only[Bool.and_eq_true,Bool.not_eq_true'] at hc;exact qfN r ht (.inl ⟨rfl,hc.1.1.1⟩) ho hc.1.1.2 hc.1.2 hc.2 hk
 ·simp only[Bool.and_eq_true] at hc;exact qfN r ht (.inr ⟨rfl,hc.1.1.1⟩) ho hc.1.1.2 hc.1.2 hc.2 hk
 ·simp only[Bool.and_eq_true,decide_eq_true_eq] at hc;obtain⟨rfl,h1⟩:=hc;exact qmB r ht ho h1 hk
 ·simp only[Bool.and_eq_true] at hc;exact qfK horc r ht ho hc.1.1 hc.1.2 hc.2 hk
 ·simp only[Bool.and_eq_true] at hc;obtain⟨⟨h1,h2⟩,h3⟩:=hc;split at h2<;>try (cases h2;done)
  rename_i q hq;exact qjM r ht ho h1 hq h3 hk
 ·simp only[Bool.and_eq_true] at hc;exact qiR r ht ho hc.1 hc.2 hk
 ·exact qix r ht ho hc hk
 ·exact qhV r ht ho hc hk
 ·simp only[Bool.and_eq_true] at hc;exact qfL r ht ho hc.1.1 hc.1.2 hc.2 hk
 ·simp only[Bool.and_eq_true] at hc;obtain⟨⟨h1,h2⟩,h3⟩:=hc;split at h3<;>try (cases h3;done)
  rename_i e he;exact qk2 r ht ho h1 h2 he h3 hk
 ·simp only[Bool.and_eq_true] at hc;obtain⟨⟨h1,h2⟩,h3⟩:=hc;split at h3<;>try (cases h3;done)
  rename_i e he;exact qjw r ht ho h1 h2 he h3 hk
 ·simp only[Bool.and_eq_true] at hc;obtain⟨h1,h2⟩:=hc;split at h2<;>try (cases h2;done)
  rename_i fs hfs;split at h2<;>try (cases h2;done)
  rename_i fd hfd;simp only[Bool.and_eq_true,Bool.not_eq_true'] at h2;exact qfW r ht ho h1 hfs hfd (eq_of_beq h2.1.1) h2.1.2 h2.2 hk
 ·simp only[Bool.and_eq_true] at hc;exact qjX r ht ho hc.1 hc.2 hk
 ·simp only[Bool.and_eq_true] at hc;obtain⟨⟨h1,h2⟩,h3⟩:=hc;split at h3<;>try (cases h3;done)
  rename_i n e he;simp only[Bool.and_eq_true] at h3;obtain rfl:=eq_of_beq h3.1;exact qeC r ht ho h1 h2 he h3.2 hk
 ·simp only[Bool.and_eq_true] at hc;obtain⟨⟨h1,h2⟩,h3⟩:=hc;split at h3<;>try (cases h3;done)
  rename_i e he;exact qeD r ht ho h1 h2 he h3 hk
 ·simp only[Bool.and_eq_true] at hc;obtain⟨⟨h1,h2⟩,h3⟩:=hc;split at h3<;>try (cases h3;done)
  rename_i n e he;simp only[Bool.and_eq_true] at h3;obtain⟨⟨⟨h4,h5⟩,h6⟩,h7⟩:=h3;obtain rfl:=eq_of_beq h4;exact qid r ht ho h1 h2 he h5 (eq_of_beq h6) h7 hk
 ·simp only[Bool.and_eq_true] at hc;exact qie r ht ho hc.1.1 hc.1.2 hc.2 hk
 ·simp only[Bool.and_eq_true] at hc;obtain⟨⟨⟨⟨h1,h2⟩,h3⟩,h4⟩,h5⟩:=hc;split at h5<;>try (cases h5;done)
  rename_i e he;exact qiW r ht ho h1 h2 h3 h4 he h5 hk
 ·simp only[Bool.and_eq_true] at hc;exact qe9 r ht ho hc.1.1.1 hc.1.1.2 hc.1.2 hc.2 hk
 ·simp only[Bool.and_eq_true] at hc;obtain⟨⟨⟨⟨h1,h2⟩,h3⟩,h4⟩,h5⟩:=hc;split at h5<;>try (cases h5;done)
  rename_i n e he;simp only[Bool.and_eq_true] at h5;obtain rfl:=eq_of_beq h5.1;exact qiV r ht ho h1 h2 h3 h4 he h5.2 hk
 ·simp only[Bool.and_eq_true] at hc;obtain⟨h1,h2⟩:=hc;obtain rfl:=eq_of_beq h2;exact qjS r ht ho h1 hk
 ·simp only[Bool.and_eq_true] at hc;obtain⟨⟨h1,h2⟩,h3⟩:=hc;obtain rfl:=eq_of_beq h1;exact qkr r ht ho h2 h3 hk
 ·simp only[Bool.and_eq_true] at hc;obtain⟨⟨h1,h2⟩,h3⟩:=hc;split at h3<;>try (cases h3;done)
  rename_i e he;simp only[Bool.and_eq_true] at h3;exact qks r ht ho h1 h2 he h3.1.2 h3.2 hk
 ·exact qgr r ho (.inl rfl) hk
 ·exact qgr r ho (.inr ⟨_,_,rfl,hc⟩) hk
 ·simp only[Bool.and_eq_true,beq_iff_eq] at hc;obtain⟨⟨⟨⟨h1,h2⟩,rfl⟩,h3⟩,h4⟩:=hc;exact qgn horc r ht ho h1 h2 h3 h4 hk
 ·simp only[Bool.and_eq_true] at hc;exact qd9 horc r ht (.inl ho) hc.1.1.1 hc.1.1.2 hc.1.2 hc.2 hk
 ·simp only[Bool.and_eq_true] at hc;exact qd9 horc r ht (.inr ho) hc.1.1.1 hc.1.1.2 hc.1.2 hc.2 hk
 ·exact hk.elim
 ·simp only[Bool.and_eq_true] at hc;exact qe5 r ht ho hc.1 hc.2 hk
 ·exact qgt r ht ho hc hk
 ·exact qdk horc r ht ho hc hk
 ·cases hc
end ops
end Go.Kc
end
section
namespace Go.Kc
variable [Cur]
variable {σ:Nat->Value} {ρ ρ':Ren} {P:Program} {orc:Orc}

def qcG(nt:Nat):Option Tmp->Option Nat->Bool
 | none,none=>true
 | some a,some b=>a==b&&Nat.blt a nt
 | _,_=>false
def qfF(ops:Array Oper):Option (Nat×Bool)->Option (Nat×Bool)->Bool
 | none,none=>true
 | some (j,b),some (d,c)=>b==c&&((ops[j]?).bind (·.dst))==some d
 | _,_=>false
def qdm(P:Program)(ops:Array Oper)(nt:Nat)(o:Oper)(r:ROp):Bool:=qcG nt o.dst r.dst&&qfF ops o.guard r.guard&&jB P o.op r.k
def xE(P:Program)(ops:Array Oper)(nt:Nat):List Oper->List ROp->Bool
 | [],[]=>true
 | o::os,r::rs=>qdm P ops nt o r&&xE P ops nt os rs
 | _,_=>false
def qgp(o:Oper)(acc:List Nat):Nat:=o.after.toList.foldl (fun s e=>if Region.binds .any e then s ||| 2 ^ e.on ||| acc.getD e.on 0 else s) 0
def jt:List Oper->List Nat->List Nat
 | [],acc=>acc
 | o::os,acc=>jt os (acc++[qgp o acc])
def qI:O->List Nat
 | .t n=>[n]
 | .c _=>[]
def xd(xs:List O):List Nat:=xs.flatMap qI
def xG:Option O->List Nat
 | none=>[]
 | some x=>qI x
def qbz(ps:List (Nat×Nat×O)):List Nat:=ps.flatMap fun p=>qI p.2.2
def qe:IOp->List Nat
 | .mov x | .box x | .load1 x | .loadN _ x | .nilChk x | .eqN _ _ x | .un _ x | .cvInt _ x | .cvStr x | .s2b x | .b2s x | .fAddr _ x | .fld _ _ x | .ext x _ | .len _ x | .clear _ x | .lenM x | .rangeS x | .nextS x | .cvR x | .rngE x | .nxtE x | .entE x | .cap x=>qI x
 | .pick c x y=>qI c++qI x++qI y
 | .alloc _ | .mkM | .no=>[]
 | .updM _ x i v=>qI x++qI i++qI v
 | .build _ ps | .buildS _ _ ps=>qbz ps
 | .store _ x v=>qI x++qI v
 | .storeD _ x v ps=>qI x++qI v++ps
 | .appD _ _ s x ps=>qI s++qI x++ps
 | .bin _ x y | .eqB _ x y | .eqA _ _ x y | .iAddrA _ _ x y | .iAddrS _ x y | .idxA _ _ _ x y | .idxS x y | .mkS _ _ _ x y | .app _ _ _ x y | .appF _ _ x y | .appZ _ _ _ x y | .copy _ x y | .max x y | .min x y | .lookM _ _ _ x y=>qI x++qI y
 | .slcS _ x lo hi mx | .slcA _ _ x lo hi mx=>qI x++xG lo++xG hi++xG mx
 | .slcStr x lo hi=>qI x++xG lo++xG hi
 | .mkF _ a c=>xd a++xd c
def jp:RK->List Nat
 | .op o=>qe o
 | .callF _ args=>xd args
 | .callV x args=>qI x++xd args
 | .callW _ args=>xd args
 | .callVW x args=>qI x++xd args
def xQ:RK->RK
 | .op (.storeD n x v _)=>.op (.store n x v)
 | .op (.appD e y s x _)=>.op (.app e y true s x)
 | k=>k
def qW(r:ROp):List Nat:=r.dst.toList++(match r.guard with|some g=>[g.1]|none=>[])++jp (xQ r.k)
def zT:RK->Bool
 | .op o=>match o with
  | .mov _ | .pick .. | .bin .. | .eqB .. | .un .. | .cvInt .. | .fAddr .. | .ext .. | .iAddrA .. | .iAddrS .. | .nilChk _ | .eqN .. | .fld .. | .min .. | .max .. | .slcStr .. | .build .. | .len _ _=>true
  | _=>false
 | _=>false
def dn(a b:ROp):Bool:=match a.dst with|some d=>(qW b).contains d|none=>false
def zS(a b:ROp):Bool :=
 match b.k with
 | .op (.storeD _ _ _ ps)=>(match a.k with
  | .op (.load1 (.t p))=>ps.contains p&&a.dst.isSome
  | .op (.loadN _ (.t p))=>ps.contains p&&a.dst.isSome
  | _=>false)
 | .op (.appD _ _ _ _ ps)=>(match a.k with
  | .op (.load1 (.t p))=>ps.contains p&&a.dst.isSome
  | .op (.loadN _ (.t p))=>ps.contains p&&a.dst.isSome
  | _=>false)
 | _=>false
def jA:RK->Bool
 | .op (.alloc _) | .op (.buildS _ _ _) | .op (.mkS _ _ _ _ _)=>true
 | _=>false
def x5:RK->Option Nat
 | .op (.storeD _ (.t p) _ _)=>some p
 | _=>none
def qbk(a b:ROp):Bool:=(jA a.k&&(x5 b.k).isSome)&&a.dst != x5 b.k
omit [Cur] in
theorem qbl{a b:ROp}(h:qbk a b=true):jA a.k=true∧(x5 b.k).isSome=true:=by
 unfold qbk at h
 simp_all
def exc(a b:ROp):Bool:=zS a b||qbk a b
def xO(a b:ROp):Bool:=dn a b||dn b a ||
 (wr a.k && !zT b.k)||(!zT a.k&&wr b.k && !exc a b)
def qak(rs:List ROp)(ms:List Nat):Nat->List ROp->Bool
 | _,[]=>true
 | j,r::rest=>(rs.take j).zipIdx.all (fun q=>!xO q.1 r||(ms.getD j 0).testBit q.2)&&qak rs ms (j+1) rest
def qgQ:RK->Option Nat
 | .op (.load1 (.t p)) | .op (.loadN _ (.t p))=>some p
 | _=>none
def qj9(p:Option Nat)(u:ROp):Bool:=match u.k with
 | .op (.alloc _)=>u.dst==p&&u.guard.isNone
 | _=>false
def fresh(p:Option Nat):List ROp->Bool
 | []=>false
 | u::l=>fresh p l||(qj9 p u&&l.all fun w=>w.dst.isNone||w.dst != p)
omit [Cur] in
theorem qbT{p:Nat}:∀{l:List ROp},fresh (some p) l=true->∃(n:Nat) (z:List AV),l[n]?=some (ROp.mk (some p) (.op (.alloc z)) none)∧∀(k:Nat) (w:ROp),n<k->l[k]?=some w->w.dst≠some p
 | [],h=>by cases h
 | u::l,h=>by
  unfold fresh at h;rcases Bool.or_eq_true _ _ ▸ h with h|h
  ·obtain⟨n,z,h1,h2⟩:=qbT h;refine⟨n+1,z,by simpa using h1,fun k w hk hw=>?_⟩
   cases k with
   | zero=>omega
   | succ k=>exact h2 k w (by omega) (by simpa using hw)
  ·obtain⟨h1,h2⟩:=(by simp_all:qj9 (some p) u=true∧(l.all fun w=>w.dst.isNone||w.dst != some p)=true)
   unfold qj9 at h1;split at h1
   ·rename_i z hz;obtain⟨d,k,g⟩:=u;simp only[Bool.and_eq_true] at h1;obtain⟨h3,h4⟩:=h1;have h3:=eq_of_beq h3;cases g with
    | some _=>cases h4
    | none =>
     simp only at h3 hz;subst h3 hz;refine⟨0,z,rfl,fun k w hk hw=>?_⟩
     cases k with
     | zero=>omega
     | succ k =>
      have:=List.all_eq_true.1 h2 w (by grind);intro e;simp[e] at this
   simp_all
def qlU(rs:List ROp):Bool :=
 rs.zipIdx.all fun q=>(rs.take q.2).zipIdx.all fun r=>(!zS r.1 q.1||((rs.take q.2).drop r.2).all fun u=>u.dst.isNone||u.dst != qgQ r.1.k)&&(!qbk r.1 q.1||((((rs.take q.2).drop r.2).all fun u=>u.dst.isNone||u.dst != x5 q.1.k)||fresh (x5 q.1.k) ((rs.take q.2).drop (r.2+1))))
def qca(ops:Array Oper)(rs:List ROp):Bool :=
 qlU rs &&
 (ops.toList.zipIdx.all fun p=>p.1.after.all fun e=>!Region.binds .any e||Nat.blt e.on p.2)&&qak rs (jt ops.toList []) 0 rs
def qmo:Code->Bool
 | .goto _=>false
 | _=>true
def qm(P:Program)(nt:Nat):Code->ICode->Bool
 | _,.no=>true
 | c,.cut x=>qm P nt c x
 | .skip,.skip=>true
 | .region _ ops draw,.reg d rs=>draw==d&&xE P ops nt ops.toList rs&&(!d||(P.follows .mixedOrders&&qca ops rs))
 | .seq x y,.seq x' y'=>qm P nt x x'&&qm P nt y y'
 | .cond c x y,.cond c' x' y'=>qh c c'&&qm P nt x x'&&qm P nt y y'
 | .block id x,.blk id' x'=>id==id'&&qm P nt x x'
 | .loop x,.loop x'=>qm P nt x x'
 | .exit id,.exit id'=>id==id'
 | .ret,.ret=>true
 | .rangeFunc g ps x y,.rangeF _ g' ps' x' y'=>qh g g'&&ps.toList==ps'&&ps.toList.all (fun p=>Nat.blt p nt)&&qm P nt x x'&&qm P nt y y'&&qmo x
 | _,_=>false
def z8(P:Program):List ResultVar->List RV->Bool
 | [],[]=>true
 | .tmp n::xs,.tmp m::ys=>n==m&&z8 P xs ys
 | .cell n t::xs,.cell m size agg::ys=>n==m&&zy P t==agg&&(P.underlying t).isSome&&(!agg||qo P t size)&&z8 P xs ys
 | _,_=>false
def xo(P:Program)(f:Nat)(i:IFn):Bool :=
 match P.funcs[f]? with
 | some fn=>fn.name != "runtime.NumGoroutine" && (match fn.body with|some c=>qm P fn.ntmps c i.body|none=>false)&&z8 P fn.results.toList i.res
 | none=>false
inductive XR:X->Exit->Prop where
 | normal:XR .normal .normal
 | exit (id:Nat):XR (.exit id) (.exit id)
 | ret:XR .ret .ret
structure Kep (n:Nat) (ρ:Ren) (B:Nat->Prop) (h:Hp) (w:World) (ρ':Ren) (h':Hp) (w':World):Prop where
 ext:∀b,b<n->ρ' b=ρ b
 szle:n<=h'.sz
 fl:h'.fl=h.fl
 akeep:∀b,b<h.fl->b<n->h'.tr.get b=h.tr.get b
 pres:∀k,B k->w'.heap[k]?=w.heap[k]?
 wle:w.heap.size<=w'.heap.size
 io:w'.os=w.os∧w'.output=w.output
 frz:∀k a,ρ.frz k=some a->ρ'.frz k=some a
 fnew:∀k a,ρ'.frz k=some a->ρ.frz k=some a∨¬B k
 nle:∀b,b<n->b<ρ.n->b<ρ'.n
omit [Cur] in
theorem Kep.refl{n:Nat}(ρ:Ren)(B:Nat->Prop){h:Hp}(hn:n<=h.sz)(w:World):Kep n ρ B h w ρ h w :=
 ⟨fun _ _=>rfl,hn,rfl,fun _ _ _=>rfl,fun _ _=>rfl,Nat.le_refl _,⟨rfl,rfl⟩,fun _ _ h=>h,fun _ _ h=>.inl h,fun _ _ h=>h⟩
omit [Cur] in
theorem Kept.kep{n:Nat}{B:Nat->Prop}{h h':Hp}{w w':World}(k:Kept ρ B h w ρ' h' w')(hn:n<=h.sz):Kep n ρ B h w ρ' h' w' :=
 ⟨by grind[Kept.ext],Nat.le_trans hn k.szle,k.fl,by grind[Kept.akeep],k.pres,k.wle,k.io,k.frz,k.fnew,fun _ _ h=>Nat.lt_of_lt_of_le h k.nle⟩
omit [Cur] in
theorem Kep.kept{B:Nat->Prop}{h h':Hp}{w w':World}(k:Kep h.sz ρ B h w ρ' h' w')(hn:ρ.n<=h.sz):Kept ρ B h w ρ' h' w' :=
 ⟨k.ext,k.szle,k.fl,k.akeep,k.pres,k.wle,k.io,k.frz,k.fnew,Nat.le_of_not_lt fun hh=>absurd (k.nle ρ'.n (by omega) hh) (Nat.lt_irrefl _)⟩
omit [Cur] in
theorem Kep.trans{n:Nat}{ρ ρ1 ρ2:Ren}{B:Nat->Prop}{h h1 h2:Hp}{w w1 w2:World}(k1:Kep n ρ B h w ρ1 h1 w1)(k2:Kep n ρ1 B h1 w1 ρ2 h2 w2):Kep n ρ B h w ρ2 h2 w2 :=
 ⟨fun b hb=>(k2.ext b hb).trans (k1.ext b hb),k2.szle,k2.fl.trans k1.fl,fun b hb hb'=>(k2.akeep b (k1.fl ▸ hb) hb').trans (k1.akeep b hb hb'),fun k hk=>(k2.pres k hk).trans (k1.pres k hk),Nat.le_trans k1.wle k2.wle,
  ⟨k2.io.1.trans k1.io.1,k2.io.2.trans k1.io.2⟩,by grind[Kep.frz],by grind[Kep.fnew],fun b hb h=>k2.nle b hb (k1.nle b hb h)⟩
def qa0(rs:List Nat):List Deferred:=rs.map fun r=>{ target:=.collected r,args:=#[] }
def BM(B:Nat->Prop)(rs:List Nat):Nat->Prop:=fun k=>B k∨k ∈ rs
omit [Cur] in
theorem qjh(B:Nat->Prop):BM B []=B:=by funext k;simp[BM]
omit [Cur] in
theorem qjg(B:Nat->Prop)(rs rs':List Nat):BM (BM B rs) rs'=BM B (rs'++rs):=by
 funext k;simp only[BM,List.mem_append];grind
structure MarksOk (w w':World) (rs:List Nat):Prop where
 nodup:rs.Nodup
 new:∀r ∈ rs,w.heap.size<=r
 at':∀r ∈ rs,w'.heap[r]?=some (.deferred (some []))
omit [Cur] in
theorem MarksOk.nil(w w':World):MarksOk w w' []:=⟨.nil,by simp_all,by simp_all⟩
omit [Cur] in
theorem Kep.bm{n:Nat}{B:Nat->Prop}{rs:List Nat}{h h':Hp}{w w':World}(k:Kep n ρ (BM B rs) h w ρ' h' w'):Kep n ρ B h w ρ' h' w' :=
 ⟨k.ext,k.szle,k.fl,k.akeep,fun n hn=>k.pres n (.inl hn),k.wle,k.io,k.frz,fun n a h=>(k.fnew n a h).imp id fun hh hb=>hh (.inl hb),k.nle⟩
def xl(σ:Nat->Value)(Q:X->Tr AV->Hp->Prop)(nt n:Nat)(ρ:Ren)(B:Nat->Prop)(h:Hp)(w:World)(ds:List Deferred)(e:Exit)(a:Act)(w':World):Prop :=
 ∃x t' h' ρ' rs,XR x e∧Q x t' h'∧TR σ ρ' t' a.tmps∧nt<=a.tmps.size∧a.defers=qa0 rs++ds∧MarksOk w w' rs∧Rel σ ρ' (BM B rs) h' w'∧Kep n ρ B h w ρ' h' w'
theorem xl.of{Q:X->Tr AV->Hp->Prop}{nt n:Nat}{B:Nat->Prop}{h:Hp}{w:World}{ds:List Deferred}{e:Exit}{a:Act}{w':World}{x:X}{t':Tr AV}{h':Hp}(g1:XR x e)(g2:Q x t' h')(g3:TR σ ρ' t' a.tmps)(g4:nt<=a.tmps.size)(g5:a.defers=ds)(g6:Rel σ ρ' B h' w')(g7:Kep n ρ B h w ρ' h' w'):xl σ Q nt n ρ B h w ds e a w' :=
 ⟨x,t',h',ρ',[],g1,g2,g3,g4,g5,MarksOk.nil _ _,by rw[qjh];exact g6,g7⟩
def qaR(P:Program)(f:Nat):Prop:=∃fn,P.funcs[f]?=some fn∧fn.name≠"runtime.NumGoroutine"∧fn.body.isSome=true
def jx(P:Program)(f:FuncId)(args:Array Value)(w:World)(R:Ending->World->Prop):Prop :=
 (qaR P f∧Calls P f args w R)∨∃v w',(callFunc f args).run P w = .ok (.value v) w'∧R (.returned v) w'
omit [Cur] in
theorem jx.mono{P:Program}{f:FuncId}{args:Array Value}{w:World}{R R':Ending->World->Prop}(h:jx P f args w R)(hr:∀e w,R e w->R' e w):jx P f args w R':=by
 rcases h with⟨h1,h2⟩|⟨v,w',h1,h2⟩
 ·exact .inl ⟨h1,Calls.mono h2 hr⟩
 ·exact .inr (by grind)
def qdJ(P:Program)(σ:Nat->Value)(f:Nat)(args:Array Value)(ρ:Ren)(B:Nat->Prop)(h:Hp)(w:World)(k:AV->Hp->Prop):Prop :=
 jx P f args w fun e w'=>∃v v' h' ρ',e = .returned v'∧k v h'∧VR σ ρ' v v'∧Rel σ ρ' B h' w'∧Kept ρ B h w ρ' h' w'
def qcE(_:Program)(_:Nat):Prop:=True

def Fr(ro:Option Nat):Fence:={ Fence.wide with round:=ro }
def qcx(P:Program)(σ:Nat->Value)(l:Nat)(args:Array Value)(ρ:Ren)(B:Nat->Prop)(h:Hp)(w:World)(k:AV->Hp->Prop):Prop :=
 ∃fn tmps assign body,(Instr.yield l args).run P w = .ok (.round l fn tmps assign body) w ∧
  ∀ro,RoundIn (Fr ro) 0 P l fn tmps assign body w fun e w'=>∃v v' h' ρ',e = .returned v'∧k v h'∧VR σ ρ' v v'∧Rel σ ρ' B h' w'∧Kept ρ B h w ρ' h' w'
def xm(P:Program)(σ:Nat->Value)(C:qw):Prop :=
 (∀f vs h k,C (Nat.succ f) vs h k->qcE P f∧∀ρ B w (args:Array Value),Rel σ ρ B h w->VRs σ ρ vs args.toList->qdJ P σ f args ρ B h w k) ∧
 ∀b vs h k,C 0 (.yl b::vs) h k->∀ρ B w (args:Array Value) L,ρ b=some L->Rel σ ρ B h w->VRs σ ρ vs args.toList->qcx P σ L.blk args ρ B h w k
omit [Cur] in
theorem qcP{ro:Option Nat}{n:Nat}{f:FuncId}{args:Array Value}{w:World}{R:Ending->World->Prop}(h:Calls P f args w R):CallsIn (Fr ro) n P f args w R:=(callsIn_wide (n:=n)).2 h

omit [Cur] in
theorem zB(a:Act)(d:Option Tmp)(v:Value):(a.put d v).tmps.size=a.tmps.size:=by
 cases d<;>simp[Act.put]
omit [Cur] in
theorem zA(a:Act)(d:Option Tmp)(v:Value):(a.put d v).defers=a.defers:=by
 cases d<;>rfl
omit [Cur] in
theorem TR.put{t:Tr AV}{a:Act}(ht:TR σ ρ t a.tmps){nt:Nat}(hn:nt<=a.tmps.size){d:Option Tmp}{d':Option Nat}(hd:qcG nt d d'=true){v:AV}{v':Value}(hv:VR σ ρ v v'){k:Tr AV->Prop}(hk:zm t d' v k) :
  ∃t',k t'∧TR σ ρ t' (a.put d v').tmps:=by
 cases d<;>cases d'<;>simp[qcG] at hd
 ·exact⟨t,hk,ht⟩
 ·rename_i x y;obtain⟨rfl,hlt⟩:=hd;have hk':=(Tr.setK_iff _ _ _ _).1 hk;refine⟨_,hk',fun n u hu=>?_⟩
  rw[Tr.get_set] at hu;have hlt':x<a.tmps.size:=by grind
  simp only[Act.put,Array.size_setIfInBounds];split at hu
  ·simp_all
  ·rename_i hne;obtain⟨h1,h2⟩:=ht n u hu;refine⟨h1,?_⟩
   have:(a.tmps.setIfInBounds x v').getD n undef=a.tmps.getD n undef:=by
    rw[Array.getD_eq_getD_getElem?,Array.getD_eq_getD_getElem?,Array.getElem?_setIfInBounds,if_neg (by omega)]
   rw[this];exact h2

theorem qcU{t:Tr AV}{a:Act}(ht:TR σ ρ t a.tmps){ops:Array Oper}{o:Oper}{g:Option (Nat×Bool)}(hg:qfF ops o.guard g=true){k:Bool->Prop}(hk:zE t g k) :
  k (Region.wanted o (yielded ops a.tmps)):=by
 cases hog:o.guard with
 | none =>
  rw[hog] at hg;cases g with
  | none=>simp only[Region.wanted,hog];exact hk
  | some _=>simp[qfF] at hg
 | some jb =>
  obtain⟨j,b⟩:=jb;rw[hog] at hg;cases g with
  | none=>simp[qfF] at hg
  | some dc =>
   obtain⟨d,c⟩:=dc;simp only[qfF,Bool.and_eq_true] at hg;obtain⟨h1,h2⟩:=hg;obtain rfl:=eq_of_beq h1;have h2':=eq_of_beq h2
   have hk':t.getK d (fun v=>match v with
    | .b x=>qn (x==b) k
    | .tup _=>k false
    | _=>False):=hk
   obtain⟨v,hv,hk2⟩:=(Tr.getK_iff _ _ _).1 hk';obtain⟨hlt,hvr⟩:=ht d v hv
   have hy:yielded ops a.tmps j=match a.tmps.getD d undef with | .bool b=>some b|_=>none:=by
    have e1:a.tmps[d]?=some (a.tmps.getD d undef):=by
     rw[Array.getD_eq_getD_getElem?,Array.getElem?_eq_getElem hlt];rfl
    simp only[yielded,h2',Option.bind_some,e1];cases a.tmps.getD d undef<;>rfl
   simp only[Region.wanted,hog,hy];cases v<;>try exact hk2.elim
   ·rename_i x;rw[hvr.un_b];rw[show ((some x==some b))=(x==b) from rfl]
    exact by simp_all
   grind[VR.un_tup]

def qdD(tm:Array Value):ResultVar->Sem Value
 | .tmp t=>pure (tm.getD t undef)
 | .cell a t=>do loadVar t (← asAddr (tm.getD a undef))
omit [Cur] in
theorem qbD(fn:Func)(tm:Array Value):results fn tm=(do let vs ← fn.results.mapM (qdD tm);pure (if h:vs.size=1 then vs[0] else .tuple vs)):=by
 have:qdD tm=(fun
  | .tmp t=>pure (tm.getD t undef)
  | .cell a t=>do loadVar t (← asAddr (tm.getD a undef))):=by
  funext x;cases x<;>rfl
 rw[this];rfl
theorem qdE{B:Nat->Prop}{h:Hp}{w:World}(r:Rel σ ρ B h w){t:Tr AV}{tm:Array Value}(ht:TR σ ρ t tm):∀(rs:List ResultVar) (is:List RV),z8 P rs is=true->∀(k:List AV->Prop),zM t h is k->
  ∃vs vs',k vs∧VRs σ ρ vs vs'∧(rs.mapM (qdD tm)).run P w = .ok vs' w
 | [],is,hc,k,hk=>by
  cases is with
  | nil=>exact⟨[],[],hk,.nil,by simp⟩
  | cons=>simp[z8] at hc
 | x::rs,is,hc,k,hk=>by
  cases is with
  | nil=>cases x<;>simp[z8] at hc
  | cons y is =>
   cases x with
   | tmp n =>
    cases y with
    | tmp m =>
     simp only[z8,Bool.and_eq_true] at hc;obtain⟨h1,hc⟩:=hc;obtain rfl:=eq_of_beq h1;have hk':t.getK n (fun v=>zM t h is (fun vs=>k (v::vs))):=hk
     obtain⟨v,hv,hk2⟩:=(Tr.getK_iff _ _ _).1 hk';obtain⟨vs,vs',h2,h3,h4⟩:=qdE r ht rs is hc _ hk2;refine⟨v::vs,_::vs',h2,.cons _ _ _ _ (ht n v hv).2 h3,?_⟩;rw[List.mapM_cons];simp only[Sem.run_bind,qdD,Sem.run_pure,Result.andThen_ok];have h4':=h4
     simp_all
    | cell=>simp[z8] at hc
   | cell n ty =>
    cases y with
    | tmp=>simp[z8] at hc
    | cell m size agg =>
     simp only[z8,Bool.and_eq_true] at hc;obtain⟨⟨⟨⟨h1,h2⟩,h3⟩,h4⟩,hc⟩:=hc;obtain rfl:=eq_of_beq h1;have h2:=eq_of_beq h2;have hk':t.getK n (fun p=>unP p (fun b o=>Bool.rec (motive:=fun _=>Prop) (ldK h b o (fun v=>zM t h is (fun vs=>k (v::vs)))) (zX h b o size (fun cs=>zM t h is (fun vs=>k (.agg cs::vs)))) agg)):=hk
     obtain⟨p,hp,hk2⟩:=(Tr.getK_iff _ _ _).1 hk';obtain⟨b,o,L,g1,g2,g3⟩:=qdI (ht n p hp).2 hk2
     have hload:∃v v',VR σ ρ v v'∧zM t h is (fun vs=>k (v::vs))∧(loadVar ty ⟨L.blk,L.off+o,none⟩).run P w = .ok v' w:=by
      cases agg with
      | false =>
       obtain⟨v,v',g4,g5,g6⟩:=qja r g1 g3;exact⟨v,v',g5,g4,by simp[loadVar,xA h3,h2,g6]⟩
      | true =>
       obtain⟨cs,vs,g4,g5,g6,g7⟩:=xX r g1 g3;refine⟨.agg cs,.agg vs.toArray,.agg _ _ (by omega),g4,?_⟩;have hsz:qo P ty size=true:=by simp_all
       simp[loadVar,xA h3,h2,qy hsz,xe g6 g7]
     obtain⟨v,v',g4,g5,g6⟩:=hload;obtain⟨vs,vs',h5,h6,h7⟩:=qdE r ht rs is hc _ g5;refine⟨v::vs,v'::vs',h5,.cons _ _ _ _ g4 h6,?_⟩;rw[List.mapM_cons];have hx:(qdD tm (.cell n ty)).run P w = .ok v' w:=by simp[qdD,g2,asAddr,g6]
     rw[Sem.run_bind,hx,Result.andThen_ok,Sem.run_bind,h7];rfl

theorem qbE{B:Nat->Prop}{h:Hp}{w:World}(r:Rel σ ρ B h w){t:Tr AV}{tm:Array Value}(ht:TR σ ρ t tm){fn:Func}{is:List RV}(hc:z8 P fn.results.toList is=true){k:AV->Hp->Prop}(hk:zM t h is (fun vs=>k (zz vs) h)) :
  ∃v v',k v h∧VR σ ρ v v'∧(results fn tm).run P w = .ok v' w:=by
 obtain⟨vs,vs',h1,h2,h3⟩:=qdE r ht fn.results.toList is hc _ hk
 have hm:(fn.results.mapM (qdD tm)).run P w = .ok vs'.toArray w:=by
  rcases hfr:fn.results with⟨l⟩;rw[List.mapM_toArray];rw[hfr] at h3;simp only[Sem.run_map,h3,Result.andThen_ok]
 have hl:=h2.length;refine⟨_,if h:vs'.toArray.size=1 then vs'.toArray[0] else .tuple vs'.toArray,h1,?_,?_⟩
 ·cases h2 with
  | nil=>simpa[zz] using VR.tup (σ:=σ) (ρ:=ρ) [] #[] .nil
  | cons v vs v' vs' h4 h5 =>
   cases h5 with
   | nil=>simpa[zz] using h4
   | cons u us u' us' h6 h7 =>
    have:zz (v::u::us) = .tup (v::u::us):=rfl;rw[this,dif_neg (by simp)];exact .tup _ _ (by simpa using VRs.cons _ _ _ _ h4 (.cons _ _ _ _ h6 h7))
 simp_all[qbD]

omit [Cur] in
theorem xu{f:Nat}{fn:Func}(hf:P.funcs[f]?=some fn)(hn:fn.name≠"runtime.NumGoroutine")(hb:fn.body.isSome=true)(args:Array Value)(w:World):(callFunc f args).run P w = .ok (.enter f args) w:=by
 obtain⟨c,hc⟩:=Option.isSome_iff_exists.1 hb;simp[callFunc,hf,hn,hc]

omit [Cur] in
theorem qcH{c:Call}{io:IOp}(h:qaj P (.defer c) io=true):io = .no:=by
 cases io<;>first|rfl|exact absurd h Bool.false_ne_true
theorem jY(horc:OrcOk P σ orc){C:qw}(hs:xm P σ C){ro:Option Nat}{B:Nat->Prop}{h:Hp}{w:World}(r:Rel σ ρ B h w){t:Tr AV}{a:Act}(ht:TR σ ρ t a.tmps){o:Oper}{rk:RK}(hc:jB P o.op rk=true)
  {k:AV->Hp->Prop} (hk:xj orc C rk t h k) (next:Act->World->Prop) (Q:Exit->Act->World->Prop)
  (hn:∀v v' h' ρ' w',k v h'->VR σ ρ' v v'->Rel σ ρ' B h' w'->Kept ρ B h w ρ' h' w'->next (a.put o.dst v') w'):o.wpIn (Fr ro) 0 P a w next Q:=by
 refine⟨fun _ _=>trivial,?_⟩
 generalize hoo:o.op=oo at hc;unfold jB at hc
 have callCase:∀{f:Nat} {vs:List AV} {args:Array Value},(∀c,o.op≠.defer c)->C (Nat.succ f) vs h k->VRs σ ρ vs args.toList->((execOp a.eval o).run P w=(callFunc f args).run P w)->o.uponIn (Fr ro) 0 P a next Q ((o.semAt (Fr ro).round a.eval).run P w):=by
  intro f vs args hd h1 h2 h3;obtain⟨-,h5⟩:=hs.1 f vs h k h1;rw[Oper.semAt_eq _ _ _ hd,h3];rcases h5 ρ B w args r h2 with⟨⟨fn,g1,g2,g3⟩,h6⟩|⟨v0,w',h6,v,v',h',ρ',he,g1,g2,g3,g4⟩
  ·rw[xu g1 g2 g3,Oper.uponIn_enter];refine⟨fun hh=>(by cases hh),qcP (Calls.mono h6 ?_)⟩
   rintro e w' ⟨v,v',h',ρ',rfl,g1,g2,g3,g4⟩;exact by grind
  ·cases he;rw[h6,Oper.uponIn_value];exact by grind
 split at hc
 ·rename_i f args argTypes g bs;simp only[Bool.and_eq_true] at hc;obtain⟨h1,h2⟩:=hc;obtain rfl:=eq_of_beq h1;obtain⟨vs,h3,h4⟩:=wl ht h2 hk;refine callCase (by simp_all) h3 (args:=args.map a.eval) (by simpa using h4) ?_;simp[execOp,hoo,resolve,Act.eval,Deferred.ofValue,invoke]
 ·rename_i x args argTypes y bs;simp only[Bool.and_eq_true] at hc;obtain⟨h1,h2⟩:=hc;obtain⟨v,h3,h4⟩:=ql ht h1 hk;obtain⟨vs,h5,h6⟩:=wl ht h2 h3;cases v<;>try exact h5.elim
  rotate_left
  ·rename_i b;obtain⟨L,h7,h8⟩:=h4.un_yl;obtain⟨fn,tmps,as',bd,q1,q2⟩:=hs.2 b vs h k h5 ρ B w (args.map a.eval) L h7 r (by simpa using h6);rw[Oper.semAt_eq _ _ _ (by simp_all)]
   have e1:(execOp a.eval o).run P w = .ok (.round L.blk fn tmps as' bd) w:=by
    simp[execOp,hoo,resolve,h8,Deferred.ofValue,invoke,q1]
   rw[e1,Oper.uponIn_round];refine⟨fun hh=>(by cases hh),(q2 ro).mono ?_⟩
   rintro e w' ⟨v,v',h',ρ',rfl,g1,g2,g3,g4⟩;exact by grind
  rename_i f first cap
  obtain⟨a',c',h7,h8,h9⟩:=h4.un_fn;refine callCase (by simp_all) h5 (args:=a'++args.map a.eval++c') (by simpa using h7.append ((by simpa using h6:VRs σ ρ vs (args.map a.eval).toList).append h8)) ?_
  simp[execOp,hoo,resolve,h9,Deferred.ofValue,invoke]
 ·rename_i f args argTypes g bs;simp only[Bool.and_eq_true] at hc;obtain⟨h1,h2⟩:=hc;obtain rfl:=eq_of_beq h1;obtain⟨vs,h3,h4⟩:=wl ht h2 hk;refine callCase (by simp_all) h3 (args:=args.map a.eval) (by simpa using h4) ?_;simp[execOp,hoo,resolve,Act.eval,Deferred.ofValue,invoke]
 ·rename_i x args argTypes y bs;simp only[Bool.and_eq_true] at hc;obtain⟨h1,h2⟩:=hc;obtain⟨v,h3,h4⟩:=ql ht h1 hk;obtain⟨vs,h5,h6⟩:=wl ht h2 h3;cases v<;>try exact h5.elim
  rotate_left
  ·rename_i b;obtain⟨L,h7,h8⟩:=h4.un_yl;obtain⟨fn,tmps,as',bd,q1,q2⟩:=hs.2 b vs h k h5 ρ B w (args.map a.eval) L h7 r (by simpa using h6);rw[Oper.semAt_eq _ _ _ (by simp_all)]
   have e1:(execOp a.eval o).run P w = .ok (.round L.blk fn tmps as' bd) w:=by
    simp[execOp,hoo,resolve,h8,Deferred.ofValue,invoke,q1]
   rw[e1,Oper.uponIn_round];refine⟨fun hh=>(by cases hh),(q2 ro).mono ?_⟩
   rintro e w' ⟨v,v',h',ρ',rfl,g1,g2,g3,g4⟩;exact by grind
  rename_i f first cap
  obtain⟨a',c',h7,h8,h9⟩:=h4.un_fn;refine callCase (by simp_all) h5 (args:=a'++args.map a.eval++c') (by simpa using h7.append ((by simpa using h6:VRs σ ρ vs (args.map a.eval).toList).append h8)) ?_
  simp[execOp,hoo,resolve,h9,Deferred.ofValue,invoke]
 ·by_cases hd:∃c,o.op = .defer c
  ·obtain⟨c,hd⟩:=hd;rw[hoo] at hd;subst hd;have:=qcH hc;subst this;exact hk.elim
  obtain⟨v,v',h',ρ',w',g1,g2,g3,g4,g5⟩:=qmq (o:=o) horc r ht (by rw[hoo];exact hc) hk;rw[Oper.semAt_eq _ _ _ (by simp_all)];rcases g2 with g2|⟨g2,rfl⟩
  ·rw[g2,Oper.uponIn_value];exact by grind
  ·rw[g2,Oper.uponIn_skip];exact by grind
 simp_all

theorem qat(horc:OrcOk P σ orc){C:qw}(hs:xm P σ C){ro:Option Nat}{B:Nat->Prop}{h:Hp}{w:World}(r:Rel σ ρ B h w){t:Tr AV}{a:Act}(ht:TR σ ρ t a.tmps){o:Oper}{rk:RK}(hc:jB P o.op rk=true)
  {k:AV->Hp->Prop} (hk:jI (xj orc C rk t) h k) (next:Act->World->Prop) (Q:Exit->Act->World->Prop)
  (hn:∀v v' h' ρ' w',k v h'->VR σ ρ' v v'->Rel σ ρ' B h' w'->Kept ρ B h w ρ' h' w'->(∀b,b<h.sz->h'.tr.get b=h.tr.get b)->(∀n,n<w.heap.size->w'.heap[n]?=w.heap[n]?)->(∀b L,ρ' b=some L->h.sz<=b->w.heap.size<=L.blk)->(∀k a,ρ'.frz k=some a->ρ.frz k=some a∨w.heap.size<=k)->next (a.put o.dst v') w'):o.wpIn (Fr ro) 0 P a w next Q:=by
 cases h with
 | mk sz fl tr =>
  have hk':xj orc C rk t ⟨sz,sz,tr⟩ (fun v h'=>Hp.rec (motive:=fun _=>Prop) (fun sz' _ tr'=>k v ⟨sz',fl,tr'⟩) h'):=hk
  have r1:Rel σ ρ (low w.heap.size) ⟨sz,sz,tr⟩ w:=⟨r.dom,r.cells,r.maps,r.excl,r.exclm,r.app,fun b L hb hf=>absurd (r.dom b L hb) (by grind),fun _ h=>h,r.frz,r.dn⟩
  refine jY horc hs r1 ht hc hk' next Q ?_
  intro v v' h' ρ' w' g1 g2 g3 g4;cases h' with
  | mk sz' fl' tr' =>
   have e1:fl'=sz:=g4.fl;have hnew:∀b L,ρ' b=some L->sz<=b->w.heap.size<=L.blk:=fun b L hb hf=>by grind[Rel.flr]
   refine hn v v' ⟨sz',fl,tr'⟩ ρ' w' g1 g2 ⟨g3.dom,g3.cells,g3.maps,g3.excl,g3.exclm,g3.app,?_,qah r.base g4.wle,g3.frz,g3.dn⟩ ⟨g4.ext,g4.szle,rfl,fun b _ hb=>g4.akeep b hb hb,by grind[Kept.pres,Rel.base],g4.wle,g4.io,g4.frz,fun k a h=>(g4.fnew k a h).imp id (fun hh=>xI r.base (Nat.not_lt.1 hh)),g4.nle⟩ (fun b hb=>g4.akeep b hb hb) g4.pres hnew (by grind[Kept.fnew])
   intro b L hb hf
   by_cases hlt:b<sz
   ·exact r.flr b L (by grind[Kept.ext]) hf
   ·exact xI r.base (by grind)

theorem qg1(horc:OrcOk P σ orc){C:qw}(hs:xm P σ C){ro:Option Nat}{draw:Bool}{B:Nat->Prop}{h:Hp}{w:World}(r:Rel σ ρ B h w){t:Tr AV}{a:Act}(ht:TR σ ρ t a.tmps){o:Oper}{rk:RK}(hc:jB P o.op rk=true)
  {k:AV->Hp->Prop} (hk:wu orc draw C rk t h k) (next:Act->World->Prop) (Q:Exit->Act->World->Prop)
  (hn:∀v v' h' ρ' w',k v h'->VR σ ρ' v v'->Rel σ ρ' B h' w'->Kept ρ B h w ρ' h' w'->next (a.put o.dst v') w'):o.wpIn (Fr ro) 0 P a w next Q:=by
 rcases (x6 _ _ _).1 hk with⟨_,hk⟩|⟨_,hk⟩
 ·exact by grind[jY]
 grind[qat]

theorem qaL(horc:OrcOk P σ orc){C:qw}(hs:xm P σ C){ro:Option Nat}{nt:Nat}{ops:Array Oper}{Q:Tr AV->Hp->Prop}{K:Exit->Act->World->Prop}{ρ0:Ren}{B:Nat->Prop}{h0:Hp}{w0:World}{ds:List Deferred}
  (hK:∀a w t h ρ',Q t h->TR σ ρ' t a.tmps->nt<=a.tmps.size->a.defers=ds->Rel σ ρ' B h w->Kept ρ0 B h0 w0 ρ' h w->K .normal a w) :
  ∀(os:List Oper) (rs:List ROp) (i:Nat),xE P ops nt os rs=true->ops.toList.drop i=os->∀t h ρ w (a:Act),x4 orc false C rs Q t h->TR σ ρ t a.tmps->nt<=a.tmps.size->a.defers=ds->Rel σ ρ B h w->Kept ρ0 B h0 w0 ρ h w->
   wpOpsIn (Fr ro) 0 P ops K (List.range' i os.length) a w
 | [],rs,i,hc,hd,t,h,ρ,w,a,hk,ht,hsz,hds,r,hkept=>by
  cases rs with
  | nil=>exact hK a w t h ρ hk ht hsz hds r hkept
  | cons=>simp[xE] at hc
 | o::os,rs,i,hc,hd,t,h,ρ,w,a,hk,ht,hsz,hds,r,hkept=>by
  cases rs with
  | nil=>simp[xE] at hc
  | cons rr rs =>
   obtain⟨dst,rk,g⟩:=rr;simp only[xE,qdm,Bool.and_eq_true] at hc;obtain⟨⟨⟨hc1,hc2⟩,hc3⟩,hc⟩:=hc
   have ho:ops[i]?=some o:=by
    have:=congrArg (fun l=>l[0]?) hd
    grind
   have hd':ops.toList.drop (i+1)=os:=by
    rw[← List.drop_drop,hd];rfl
   have hk':zE t g (fun go=>Bool.rec (motive:=fun _=>Prop)
    (zm t dst (.tup []) (fun t'=>x4 orc false C rs Q t' h)) (wu orc false C rk t h (fun v h'=>zm t dst v (fun t'=>x4 orc false C rs Q t' h'))) go):=hk
   have hgo:=qcU (ops:=ops) (o:=o) ht hc2 hk';simp only[List.length_cons,List.range'_succ,wpOpsIn,ho];cases hw:Region.wanted o (yielded ops a.tmps) with
   | false =>
    rw[hw] at hgo;obtain⟨t',h1,h2⟩:=ht.put hsz hc1 (.tup [] #[] .nil) hgo;simp only[Bool.false_eq_true,if_false];exact⟨fun _ _=>trivial,qaL horc hs hK os rs (i+1) hc hd' t' h ρ w _ h1 h2 (by rw[zB];omega) (by rw[zA];omega) r hkept⟩
   | true =>
    rw[hw] at hgo;simp only[if_true];refine qg1 horc hs r ht hc3 hgo _ _ ?_;intro v v' h' ρ' w' g1 g2 g3 g4;obtain⟨t',h1,h2⟩:=(ht.mono (g4.mono r.dom)).put hsz hc1 g2 g1;exact qaL horc hs hK os rs (i+1) hc hd' t' h' ρ' w' _ h1 h2 (by rw[zB];omega) (by rw[zA];omega) g3 (hkept.trans g4)

theorem xl.weaken{Q:X->Tr AV->Hp->Prop}{nt n:Nat}{ρ0:Ren}{B:Nat->Prop}{h0:Hp}{w0:World}{ds:List Deferred}{h:Hp}{w:World}(hkept:Kep n ρ0 B h0 w0 ρ h w){e:Exit}{a:Act}{w':World}(hp:xl σ Q nt n ρ B h w ds e a w'):xl σ Q nt n ρ0 B h0 w0 ds e a w':=by
 obtain⟨x,t',h',ρ',rs,h1,h2,h3,h4,h5,h6,h7,h8⟩:=hp;exact⟨x,t',h',ρ',rs,h1,h2,h3,h4,h5,⟨h6.nodup,fun r hr=>Nat.le_trans hkept.wle (h6.new r hr),h6.at'⟩,h7,hkept.trans h8⟩
theorem xl.trans{Q:X->Tr AV->Hp->Prop}{nt n:Nat}{ρ0:Ren}{B:Nat->Prop}{h0:Hp}{w0:World}{ds ds1:List Deferred}{h:Hp}{w:World}{rs:List Nat}(hkept:Kep n ρ0 B h0 w0 ρ h w)(hm:MarksOk w0 w rs)(hd:ds1=qa0 rs++ds)(hr:∀r ∈ rs,r<w.heap.size)
  {e:Exit} {a:Act} {w':World} (hp:xl σ Q nt n ρ (BM B rs) h w ds1 e a w'):xl σ Q nt n ρ0 B h0 w0 ds e a w':=by
 obtain⟨x,t',h',ρ',rs',h1,h2,h3,h4,h5,h6,h7,h8⟩:=hp;refine⟨x,t',h',ρ',rs'++rs,h1,h2,h3,h4,by rw[h5,hd,qa0,qa0,qa0,List.map_append,List.append_assoc],⟨?_,?_,?_⟩,by rw[qjg] at h7;exact h7,hkept.trans h8.bm⟩
 ·refine List.nodup_append.2 ⟨h6.nodup,hm.nodup,?_⟩;rintro r h9 r' h10 rfl;have:=h6.new r h9;have:=hr r h10;omega
 ·intro r hr';rcases List.mem_append.1 hr' with h9|h9
  ·exact Nat.le_trans hkept.wle (h6.new r h9)
  ·exact hm.new r h9
 ·intro r hr';rcases List.mem_append.1 hr' with h9|h9
  ·exact h6.at' r h9
  ·rw[h8.pres r (.inr h9)];exact hm.at' r h9
omit [Cur] in
theorem MarksOk.lt{w w':World}{rs:List Nat}(h:MarksOk w w' rs):∀r ∈ rs,r<w'.heap.size:=fun r hr=>(Array.getElem?_eq_some_iff.1 (h.at' r hr)).1

def qae(t t':Tr AV)(ns:List Nat):Prop:=∀n ∈ ns,t'.get n=t.get n
omit [Cur] in
theorem qae.sub{t t':Tr AV}{ns ms:List Nat}(h:qae t t' ns)(hs:∀n ∈ ms,n ∈ ns):qae t t' ms:=fun n hn=>h n (hs n hn)
omit [Cur] in
theorem xh{t t':Tr AV}{x:O}(h:qae t t' (qI x)):evK t' x=evK t x:=by
 cases x with
 | c v=>rfl
 | t n =>
  funext k;apply propext;show t'.getK n k↔t.getK n k;rw[Tr.getK_iff,Tr.getK_iff,h n (by simp[qI])]
omit [Cur] in
theorem xz{t t':Tr AV}:∀{xs:List O} (_:qae t t' (xd xs)),zn t' xs=zn t xs
 | [],_=>rfl
 | x::xs,h=>by
  have e1:=xh (x:=x) (h.sub fun n hn=>by simp[xd,hn])
  have e2:=xz (xs:=xs) (h.sub fun n hn=>by simp only[xd,List.flatMap_cons,List.mem_append] at hn ⊢;simp_all)
  funext k;show evK t' x (fun v=>zn t' xs (fun vs=>k (v::vs)))=evK t x (fun v=>zn t xs (fun vs=>k (v::vs)))
  rw[e1,e2]
omit [Cur] in
theorem qeZ{t t':Tr AV}{x:Option O}(h:qae t t' (xG x)):zI t' x=zI t x:=by
 cases x with
 | none=>rfl
 | some x =>
  funext k;show evK t' x (fun v=>k (some v))=evK t x (fun v=>k (some v))
  rw[xh h]
omit [Cur] in
theorem qbm{t t':Tr AV}:∀{ps:List (Nat×Nat×O)} (_:qae t t' (qbz ps)),zu t' ps=zu t ps
 | [],_=>rfl
 | p::ps,h=>by
  have e1:=xh (x:=p.2.2) (h.sub fun n hn=>by simp[qbz,hn])
  have e2:=qbm (ps:=ps) (h.sub fun n hn=>by simp only[qbz,List.flatMap_cons,List.mem_append] at hn ⊢;simp_all)
  funext l k;show evK t' p.2.2 (fun v=>qb (jD v) (qd p.1 (fun off=>jZ (cellsOf v) (fun n=>qb (Nat.beq n p.2.1) (zd (cellsOf v) off l (fun l'=>zu t' ps l' k))))))=evK t p.2.2 (fun v=>qb (jD v) (qd p.1 (fun off=>jZ (cellsOf v) (fun n=>qb (Nat.beq n p.2.1) (zd (cellsOf v) off l (fun l'=>zu t ps l' k))))))
  rw[e1,e2]
omit [Cur] in
theorem jy{t t':Tr AV}(b:Nat):∀{ps:List Nat} (_:qae t t' ps),ze t' b ps=ze t b ps
 | [],_=>rfl
 | q::ps,h=>by
  have e1:t'.getK q=t.getK q:=xh (x:=.t q) (t:=t) (t':=t') (fun n hn=>h n (by simp[qI] at hn;grind))
  have e2:=jy b (ps:=ps) (h.sub fun n hn=>by grind)
  funext p;show t'.getK q (fun y=>match y with | .ptr b' _=>qb (not (Nat.beq b' b)) (ze t' b ps p) | .pf _ _=>ze t' b ps p|_=>False)=t.getK q (fun y=>match y with | .ptr b' _=>qb (not (Nat.beq b' b)) (ze t b ps p) | .pf _ _=>ze t b ps p|_=>False)
  rw[e1,e2]
omit [Cur] in
theorem qgC{t t':Tr AV}{o:IOp}(h:qae t t' (qe o)):opK orc o t'=opK orc o t:=by
 have hv:∀x,(∀n ∈ qI x,n ∈ qe o)->evK t' x=evK t x:=fun x hx=>xh (h.sub hx)
 have ho:∀x,(∀n ∈ xG x,n ∈ qe o)->zI t' x=zI t x:=fun x hx=>qeZ (h.sub hx)
 have hp:∀x,(∀n ∈ qbz x,n ∈ qe o)->zu t' x=zu t x:=fun x hx=>qbm (h.sub hx)
 have hs:∀x,(∀n ∈ xd x,n ∈ qe o)->zn t' x=zn t x:=fun x hx=>xz (h.sub hx)
 funext hh k;cases o<;>simp only[opK]
 case mov x=>rw[hv x (by simp[qe])]
 case pick c x y=>rw[hv c (by simp +contextual [qe]),hv x (by simp +contextual [qe]),hv y (by simp +contextual [qe])]
 case box x=>rw[hv x (by simp[qe])]
 case build z ps=>rw[hp ps (by simp[qe])]
 case buildS n z ps=>rw[hp ps (by simp[qe])]
 case load1 x=>rw[hv x (by simp[qe])]
 case loadN n x=>rw[hv x (by simp[qe])]
 case store n x v=>rw[hv x (by simp +contextual [qe]),hv v (by simp +contextual [qe])]
 case nilChk x=>rw[hv x (by simp[qe])]
 case bin op x y=>rw[hv x (by simp +contextual [qe]),hv y (by simp +contextual [qe])]
 case eqB neg x y=>rw[hv x (by simp +contextual [qe]),hv y (by simp +contextual [qe])]
 case eqN neg q x=>rw[hv x (by simp[qe])]
 case eqA neg ks x y=>rw[hv x (by simp +contextual [qe]),hv y (by simp +contextual [qe])]
 case un op x=>rw[hv x (by simp[qe])]
 case cvInt k x=>rw[hv x (by simp[qe])]
 case cvStr x=>rw[hv x (by simp[qe])]
 case s2b x=>rw[hv x (by simp[qe])]
 case b2s x=>rw[hv x (by simp[qe])]
 case fAddr off x=>rw[hv x (by simp[qe])]
 case fld off n x=>rw[hv x (by simp[qe])]
 case iAddrA len esz x i=>rw[hv x (by simp +contextual [qe]),hv i (by simp +contextual [qe])]
 case iAddrS esz x i=>rw[hv x (by simp +contextual [qe]),hv i (by simp +contextual [qe])]
 case idxA len esz agg x i=>rw[hv x (by simp +contextual [qe]),hv i (by simp +contextual [qe])]
 case idxS x i=>rw[hv x (by simp +contextual [qe]),hv i (by simp +contextual [qe])]
 case slcS esz x lo hi mx=>rw[hv x (by simp +contextual [qe]),ho lo (by simp +contextual [qe]),ho hi (by simp +contextual [qe]),ho mx (by simp +contextual [qe])]
 case slcStr x lo hi=>rw[hv x (by simp +contextual [qe]),ho lo (by simp +contextual [qe]),ho hi (by simp +contextual [qe])]
 case slcA len esz x lo hi mx=>rw[hv x (by simp +contextual [qe]),ho lo (by simp +contextual [qe]),ho hi (by simp +contextual [qe]),ho mx (by simp +contextual [qe])]
 case ext x i=>rw[hv x (by simp[qe])]
 case mkF f a c=>rw[hs a (by simp +contextual [qe]),hs c (by simp +contextual [qe])]
 case mkS esz bytes z len cap=>rw[hv len (by simp +contextual [qe]),hv cap (by simp +contextual [qe])]
 case len str x=>rw[hv x (by simp[qe])]
 case app esz bytes c s x=>rw[hv s (by simp +contextual [qe]),hv x (by simp +contextual [qe])]
 case copy esz d s=>rw[hv d (by simp +contextual [qe]),hv s (by simp +contextual [qe])]
 case max x y=>rw[hv x (by simp +contextual [qe]),hv y (by simp +contextual [qe])]
 case clear z x=>rw[hv x (by simp[qe])]
 case lookM kd ok z x i=>rw[hv x (by simp +contextual [qe]),hv i (by simp +contextual [qe])]
 case updM kd x i v=>rw[hv x (by simp +contextual [qe]),hv i (by simp +contextual [qe]),hv v (by simp +contextual [qe])]
 case lenM x=>rw[hv x (by simp[qe])]
 case cap x=>rw[hv x (by simp[qe])]
 case min x y=>rw[hv x (by simp +contextual [qe]),hv y (by simp +contextual [qe])]
 case rangeS x=>rw[hv x (by simp[qe])]
 case storeD n x v ps =>
  have e:=fun b=>jy (t:=t) (t':=t') b (ps:=ps) (h.sub fun n hn=>by simp[qe,hn])
  rw[hv x (by simp +contextual [qe]),hv v (by simp +contextual [qe])]
  simp_all
 case appD esz bytes s x ps =>
  have e:=fun b=>jy (t:=t) (t':=t') b (ps:=ps) (h.sub fun n hn=>by simp[qe,hn])
  rw[hv s (by simp +contextual [qe]),hv x (by simp +contextual [qe])];have e2:∀s p,xc t' ps s p=xc t ps s p:=fun s p=>by cases s<;>first|rfl|simp only[xc,e]
  simp_all
 case appZ esz bytes z s x=>rw[hv s (by simp +contextual [qe]),hv x (by simp +contextual [qe])]
 case appF esz bytes s x=>rw[hv s (by simp +contextual [qe]),hv x (by simp +contextual [qe])]
 case nextS x=>rw[hv x (by simp[qe])]
 case cvR x=>rw[hv x (by simp[qe])]
 case rngE x=>rw[hv x (by simp[qe])]
 case nxtE x=>rw[hv x (by simp[qe])]
 case entE x=>rw[hv x (by simp[qe])]
omit [Cur] in
theorem qdF{C:qw}{t t':Tr AV}{r:RK}(h:qae t t' (jp r)):xj orc C r t'=xj orc C r t:=by
 cases r with
 | op o=>exact qgC h
 | callF f args =>
  have e:=xz (xs:=args) h;funext hh k;show zn t' args (fun vs=>C (Nat.succ f) vs hh k)=zn t args (fun vs=>C (Nat.succ f) vs hh k)
  rw[e]
 | callV x args =>
  have e1:=xh (x:=x) (h.sub fun n hn=>by simp[jp,hn])
  have e2:=xz (xs:=args) (h.sub fun n hn=>by simp[jp,hn])
  funext hh k;simp only[xj,e1,e2]
 | callW f args =>
  have e:=xz (xs:=args) h;funext hh k;show zn t' args (fun vs=>C (Nat.succ f) vs hh k)=zn t args (fun vs=>C (Nat.succ f) vs hh k)
  rw[e]
 | callVW x args =>
  have e1:=xh (x:=x) (h.sub fun n hn=>by simp[jp,hn])
  have e2:=xz (xs:=args) (h.sub fun n hn=>by simp[jp,hn])
  funext hh k;simp only[xj,e1,e2]
omit [Cur] in
theorem qe6{C:qw}{t t':Tr AV}{draw:Bool}{r:RK}(h:qae t t' (jp r)):wu orc draw C r t'=wu orc draw C r t:=by
 funext hh k;simp only[wu,qdF h]
omit [Cur] in
theorem qcT{t t':Tr AV}{g:Option (Nat×Bool)}(h:qae t t' (match g with|some g=>[g.1]|none=>[])):zE t' g=zE t g:=by
 cases g with
 | none=>rfl
 | some g =>
  funext k;have e:=xh (x:=.t g.1) (t:=t) (t':=t') (fun n hn=>h n (by simpa[qI] using hn))
  have e':t'.getK g.1=t.getK g.1:=e;simp only[zE,e']
noncomputable def only(t:Tr AV):List Nat->Tr AV
 | []=>.leaf
 | n::ns=>match t.get n with|some v=>(only t ns).set n v|none=>only t ns
omit [Cur] in
theorem jG(t:Tr AV):∀(ns:List Nat) (n:Nat),(only t ns).get n=if n ∈ ns then t.get n else none
 | [],n=>by simp[only]
 | m::ns,n=>by
  simp only[only];cases h:t.get m with
  | none =>
   simp only;rw[jG t ns n]
   grind
  | some v =>
   simp only;rw[Tr.get_set,jG t ns n]
   grind

omit [Cur] in
theorem L3.b1'{α β γ δ:Type}{G:(α->β->γ->Prop)->Prop}{F:α->β->γ->(δ->Prop)->Prop}(hG:L3 G)(hF:∀x y z,L1 (F x y z)):L1 (fun k=>G (fun x y z=>F x y z k)):=fun _ h=>by
 obtain⟨x,y,z,h1,h2⟩:=hG _ h;obtain⟨u,h3,h4⟩:=hF x y z _ h1;grind
omit [Cur] in
theorem qiM{o:IOp}(hp:zT (.op o)=true){t:Tr AV}{h:Hp}{k:AV->Hp->Prop}(hk:opK orc o t h k):∃v,k v h∧∀h2 (k2:AV->Hp->Prop),k2 v h2->opK orc o t h2 k2:=by
 have mk:∀{G:(AV->Prop)->Prop},L1 G->G (fun v=>k v h)->∃v,k v h∧∀h2 (k2:AV->Hp->Prop),k2 v h2->G (fun v=>k2 v h2):=by
  intro G hG h1;obtain⟨v,h2,h3⟩:=hG _ h1
  grind
 cases o<;>first|(simp[zT] at hp;done)|skip
 case mov x=>exact mk (qf t x) hk
 case pick c x y=>exact mk (G:=fun k=>evK t c (fun c=>unB c (fun c=>Bool.rec (motive:=fun _=>Prop) (evK t y k) (evK t x k) c))) (L1.b1 (qf t c) fun c=>L1.b1 (qaw c) fun c=>L1.br _ (qf t y) (qf t x)) hk
 case bin op x y=>exact mk (G:=fun k=>evK t x (fun x=>evK t y (fun y=>qO orc op x y k))) (L1.b1 (qf t x) fun x=>L1.b1 (qf t y) (by grind[qfr])) hk
 case eqB neg x y=>exact mk (G:=fun k=>evK t x (fun x=>evK t y (fun y=>unB x (fun x=>unB y (fun y=>qn (xor neg (x==y)) (fun r=>k (.b r))))))) (L1.b1 (qf t x) fun x=>L1.b1 (qf t y) fun y=>L1.b1 (qaw x) fun x=>L1.b1 (qaw y) fun y=>L1.b1 (qG _) fun r=>L1.ret _) hk
 case un op x=>exact mk (G:=fun k=>evK t x (fun x=>xS op x k)) (L1.b1 (qf t x) fun x=>qd8 op x) hk
 case cvInt q x=>exact mk (G:=fun k=>evK t x (fun x=>cvK orc q x k)) (L1.b1 (qf t x) (by grind[qi4])) hk
 case fAddr off x=>exact mk (G:=fun k=>evK t x (fun p=>qaK p off k)) (L1.b1 (qf t x) fun p=>qck _ _) hk
 case iAddrA len esz x i=>exact mk (G:=fun k=>evK t x (fun p=>evK t i (fun i=>unN i (fun i=>qb (Nat.ble (Nat.succ i) len) (qaK p (Nat.mul i esz) k))))) (L1.b1 (qf t x) fun p=>L1.b1 (qf t i) fun i=>L1.b1 (je i) fun i=>L1.wh _ (qck _ _)) hk
 case iAddrS esz x i =>
  refine mk (G:=fun k=>evK t x (fun x=>match x with
   | .sl b o len _ _=>evK t i (fun i=>unN i (fun i=>qb (Nat.ble (Nat.succ i) len) (qd (Nat.add o (Nat.mul i esz)) (fun o'=>k (.ptr b o')))))
   | .fz len cs=>evK t i (fun i=>unN i (fun i=>qb (Nat.ble (Nat.succ i) len) (qd (Nat.mul i esz) (fun o'=>k (.pf cs o')))))
   | .own b len=>evK t i (fun i=>unN i (fun i=>qb (Nat.ble (Nat.succ i) len) (qd (Nat.mul i esz) (fun o'=>k (.ptr b o')))))
   | _=>False)) (L1.b1 (qf t x) fun x=>?_) hk
  cases x<;>dsimp only<;>first|exact L1.no|exact L1.b1 (qf t i) fun i=>L1.b1 (je i) fun i=>L1.wh _ (L1.b1 (qp _) fun o'=>L1.ret _)
 case nilChk x =>
  refine mk (G:=fun k=>evK t x (fun v=>match v with | .ptr b o=>k (.ptr b o) | .fn f a c=>k (.fn f a c) | .map r=>k (.map r) | .pf cs o=>k (.pf cs o) | .yl b=>k (.yl b)|_=>False)) (L1.b1 (qf t x) fun x=>?_) (show evK t x (fun v=>match v with | .ptr b o=>k (.ptr b o) h | .fn f a c=>k (.fn f a c) h | .map r=>k (.map r) h | .pf cs o=>k (.pf cs o) h | .yl b=>k (.yl b) h|_=>False) from hk)
  cases x<;>dsimp only<;>first|exact L1.no|exact L1.ret _
 case eqN neg q x=>exact mk (G:=fun k=>evK t x (fun x=>qZ q x (fun r=>qn (xor neg r) (fun r=>k (.b r))))) (L1.b1 (qf t x) fun x=>L1.b1 (qcY q x) fun r=>L1.b1 (qG _) fun r=>L1.ret _) hk
 case fld off n x =>
  refine mk (G:=fun k=>evK t x (fun x=>match x with
   | .agg cs=>Option.rec (motive:=fun _=>Prop) (wo cs off k) (fun n=>xg off cs (fun l=>zN n l (fun l=>k (.agg l)))) n
   | _=>False)) (L1.b1 (qf t x) fun x=>?_) hk
  cases x<;>dsimp only<;>try exact L1.no
  cases n
  all_goals simp_all[wp,L1.b1,jj,xw,L1.ret]
 case min x y=>exact mk (G:=fun k=>evK t x (fun x=>evK t y (fun y=>unI x (fun q n=>unI y (fun _ m=>Bool.rec (motive:=fun _=>Prop) (k (.i q n)) (k (.i q m)) (ltI m n)))))) (L1.b1 (qf t x) fun x=>L1.b1 (qf t y) fun y=>L2.b1 (qa1 x) fun q n=>L2.b1 (qa1 y) fun _ m=>L1.br _ (L1.ret _) (L1.ret _)) hk
 case max x y=>exact mk (G:=fun k=>evK t x (fun x=>evK t y (fun y=>unI x (fun q n=>unI y (fun _ m=>Bool.rec (motive:=fun _=>Prop) (k (.i q n)) (k (.i q m)) (ltI n m)))))) (L1.b1 (qf t x) fun x=>L1.b1 (qf t y) fun y=>L2.b1 (qa1 x) fun q n=>L2.b1 (qa1 y) fun _ m=>L1.br _ (L1.ret _) (L1.ret _)) hk
 case build z ps=>exact mk (G:=fun k=>zu t ps z (fun cs=>k (.agg cs))) (L1.b1 (qan t ps z) fun cs=>L1.ret _) hk
 case len b x =>
  cases b with
  | false =>
   have e:∀(h:Hp) (k:AV->Hp->Prop),opK orc (.len false x) t h k=evK t x (fun y=>match y with
    | .nils=>k (.i .i64 0) h
    | .e0=>k (.i .i64 0) h
    | .nz=>k (.i .i64 0) h
    | .fz n _=>k (.i .i64 (Int.ofNat n)) h
    | .own _ n=>k (.i .i64 (Int.ofNat n)) h
    | .sl _ _ n _ _=>k (.i .i64 (Int.ofNat n)) h
    | _=>False):=by
    intro h k;show evK t x _=evK t x _
    grind
   rw[e] at hk
   obtain⟨v,h1,h2⟩:=mk (G:=fun k=>evK t x (fun y=>match y with
    | .nils=>k (.i .i64 0)
    | .e0=>k (.i .i64 0)
    | .nz=>k (.i .i64 0)
    | .fz n _=>k (.i .i64 (Int.ofNat n))
    | .own _ n=>k (.i .i64 (Int.ofNat n))
    | .sl _ _ n _ _=>k (.i .i64 (Int.ofNat n))
    | _=>False)) (L1.b1 (qf t x) fun x=>by cases x<;>dsimp only<;>first|exact L1.no|exact L1.ret _) hk
   exact⟨v,h1,fun h3 k2 hk2=>by rw[e];simp_all⟩
  | true =>
   have e:∀(h:Hp) (k:AV->Hp->Prop),opK orc (.len true x) t h k=evK t x (fun y=>match y with
    | .s a=>qd a.length (fun n=>k (.i .i64 (Int.ofNat n)) h)
    | .sym j=>wq (orc.len j) (fun v=>k v h)
    | _=>False):=by
    intro h k;show evK t x _=evK t x _
    grind
   rw[e] at hk
   obtain⟨v,h1,h2⟩:=mk (G:=fun k=>evK t x (fun y=>match y with
    | .s a=>qd a.length (fun n=>k (.i .i64 (Int.ofNat n)))
    | .sym j=>wq (orc.len j) k
    | _=>False)) (L1.b1 (qf t x) fun x=>by cases x<;>dsimp only<;>first|exact L1.no|exact L1.b1 (qp _) fun n=>L1.ret _|exact jH _) hk
   exact⟨v,h1,fun h3 k2 hk2=>by rw[e];simp_all⟩
 case slcStr x lo hi =>
  refine mk (G:=fun k=>evK t x (fun x=>zI t lo (fun lo=>zI t hi (fun hi=>match x with
   | .s a=>qF a.length a.length lo hi none (fun l h' _=>k (.s ((a.take h').drop l)))
   | _=>False)))) (L1.b1 (qf t x) fun x=>L1.b1 (xY t lo) fun lo=>L1.b1 (xY t hi) fun hi=>?_) hk
  cases x<;>dsimp only<;>first|exact L1.no|simp_all[L3.b1',zO,L1.ret]
 case ext x i =>
  refine mk (G:=fun k=>evK t x (fun x=>match x with | .tup cs=>wo cs i k|_=>False)) (L1.b1 (qf t x) fun x=>?_) hk
  cases x<;>dsimp only<;>first|exact L1.no|grind[wp]

theorem Rel.join{ρ1 ρ2:Ren}{B:Nat->Prop}{h h2:Hp}{w w':World}(r1:Rel σ ρ1 B h w)(r2:Rel σ ρ2 B h2 w')(hw:∀n,n<w.heap.size->w'.heap[n]?=w.heap[n]?)(hsz:w.heap.size<=w'.heap.size)
  (hs:h2.sz<=h.sz) (hf:h.fl=h2.fl) (hg:∀b,b<h2.sz->h.tr.get b=h2.tr.get b) (h1ρ:∀b L,ρ1 b=some L->ρ' b=some L) (h2ρ:∀b L,ρ2 b=some L->ρ' b=some L)
  (hz1:∀k a,ρ1.frz k=some a->ρ2.frz k=some a) (hzf:ρ'.frz=ρ2.frz) (hn1:ρ1.n<=ρ'.n) (hn2:ρ2.n<=ρ'.n) (hn3:ρ'.n<=h.sz) (hzn:∀k a,ρ2.frz k=some a->ρ1.frz k=some a∨w.heap.size<=k)
  (hor:∀b L,ρ' b=some L->ρ1 b=some L∨(ρ2 b=some L∧w.heap.size<=L.blk)):Rel σ ρ' B h w':=by
 have r1':=r1.world hw hsz;have r2':=r2.longer hs hf hg;have old:∀b L x,ρ1 b=some L->h.tr.get b=some x->x≠.dead->L.blk<w.heap.size:=fun b L x hb hx hd=>r1.blk_lt b L hb x hx hd
 have l1:ρ1.le ρ':=⟨h1ρ,fun k a hk=>by rw[hzf];exact hz1 k a hk,hn1⟩
 have l2:ρ2.le ρ':=⟨h2ρ,fun k a hk=>by rw[hzf];exact hk,hn2⟩
 refine⟨?_,?_,?_,?_,?_,?_,?_,r1'.base,?_,⟨hn3,fun b L hb=>(hor b L hb).elim (fun h=>r1'.dn.2 b L h) fun h=>r2.dn.2 b L h.1⟩⟩
 rotate_right
 ·intro k arr hk;rw[hzf] at hk;obtain⟨g1,g2⟩:=r2'.frz k arr hk;refine⟨g1,fun b L x hb hx hd=>?_⟩
  rcases hor b L hb with hb|⟨hb,hn⟩
  ·rcases hzn k arr hk with hk|hk
   ·exact by grind[Rel.frz]
   ·have:=old b L x hb hx hd;omega
  ·exact g2 b L x hb hx hd
 ·intro b L hb;rcases hor b L hb with hb|⟨hb,_⟩
  ·exact r1'.dom b L hb
  ·exact r2'.dom b L hb
 ·intro b L e wf af cs hb hx;rcases hor b L hb with hb|⟨hb,_⟩
  ·obtain⟨g1,c,ty,fz,g2,g3,g4,g5,g6⟩:=r1'.cells b L e wf af cs hb hx;exact by grind[VR.mono]
  ·obtain⟨g1,c,ty,fz,g2,g3,g4,g5,g6⟩:=r2'.cells b L e wf af cs hb hx;exact by grind[VR.mono]
 ·intro b L es hb hx;rcases hor b L hb with hb|⟨hb,_⟩
  ·obtain⟨g1,ob,g2,g3⟩:=r1'.maps b L es hb hx;exact by grind[xr.mono]
  ·obtain⟨g1,ob,g2,g3⟩:=r2'.maps b L es hb hx;exact by grind[xr.mono]
 ·intro b L e af cs hb hx b' L' x hb' hx' hd he;rcases hor b L hb with hb|⟨hb,hn⟩<;>rcases hor b' L' hb' with hb'|⟨hb',hn'⟩
  ·exact by grind[Rel.excl]
  ·have:=old b L _ hb hx (by simp);omega
  ·have:=old b' L' _ hb' hx' hd;omega
  ·exact by grind[Rel.excl]
 ·intro b L es hb hx b' L' x hb' hx' hd he;rcases hor b L hb with hb|⟨hb,hn⟩<;>rcases hor b' L' hb' with hb'|⟨hb',hn'⟩
  ·exact by grind[Rel.exclm]
  ·have:=old b L _ hb hx (by simp);omega
  ·have:=old b' L' _ hb' hx' hd;omega
  ·exact by grind[Rel.exclm]
 ·intro b L e wf cs hb hx b' L' e' wf' af' cs' hb' hx' he;rcases hor b L hb with hb|⟨hb,hn⟩<;>rcases hor b' L' hb' with hb'|⟨hb',hn'⟩
  ·exact r1'.app b L e wf cs hb hx b' L' e' wf' af' cs' hb' hx' he
  ·have:=old b L _ hb hx (by simp);omega
  ·have:=old b' L' _ hb' hx' (by simp);omega
  ·exact r2'.app b L e wf cs hb hx b' L' e' wf' af' cs' hb' hx' he
 grind[Rel.flr]
theorem Rel.join2{ρ1 ρ2:Ren}{B B2:Nat->Prop}{h h2:Hp}{w w':World}{nb:Nat}(r1:Rel σ ρ1 B h w)(r2:Rel σ ρ2 B2 h2 w')(hw:∀n,n<w.heap.size->w'.heap[n]?=w.heap[n]?)(hsz:w.heap.size<=w'.heap.size)
  (hnb:nb<h.sz) (hg:h.tr.get nb=h2.tr.get nb) (h1ρ:∀b L,ρ1 b=some L->ρ' b=some L) (h2ρ:∀b L,ρ2 b=some L->ρ' b=some L)
  (hz1:∀k a,ρ1.frz k=some a->ρ2.frz k=some a) (hzf:ρ'.frz=ρ2.frz) (hn1:ρ1.n<=ρ'.n) (hn2:ρ2.n<=ρ'.n) (hn3:ρ'.n<=h.sz) (hzn:∀k a,ρ2.frz k=some a->ρ1.frz k=some a∨w.heap.size<=k)
  (hor:∀b L,ρ' b=some L->ρ1 b=some L∨(b=nb∧ρ2 b=some L∧w.heap.size<=L.blk)):Rel σ ρ' B h w':=by
 have r1':=r1.world hw hsz;have old:∀b L x,ρ1 b=some L->h.tr.get b=some x->x≠.dead->L.blk<w.heap.size:=fun b L x hb hx hd=>r1.blk_lt b L hb x hx hd
 have l1:ρ1.le ρ':=⟨h1ρ,fun k a hk=>by rw[hzf];simp_all,hn1⟩
 have l2:ρ2.le ρ':=⟨h2ρ,fun k a hk=>by rw[hzf];exact hk,hn2⟩
 have tr:∀{b x},b=nb->h.tr.get b=some x->h2.tr.get b=some x:=by
  simp_all
 refine⟨?_,?_,?_,?_,?_,?_,?_,r1'.base,?_,⟨hn3,fun b L hb=>(hor b L hb).elim (fun h=>r1'.dn.2 b L h) fun h=>r2.dn.2 b L h.2.1⟩⟩
 rotate_right
 ·grind[Rel.frz]
 ·intro b L hb;rcases hor b L hb with hb|⟨he,hb,_⟩
  ·exact r1'.dom b L hb
  omega
 ·intro b L e wf af cs hb hx;rcases hor b L hb with hb|⟨he,hb,_⟩
  ·obtain⟨g1,c,ty,fz,g2,g3,g4,g5,g6⟩:=r1'.cells b L e wf af cs hb hx;exact by grind[VR.mono]
  grind[Rel.cells,VR.mono]
 ·grind[Rel.maps,xr.mono]
 ·intro b L e af cs hb hx b' L' x hb' hx' hd he;rcases hor b L hb with hb|⟨hq,hb,hn⟩<;>rcases hor b' L' hb' with hb'|⟨hq',hb',hn'⟩
  ·exact by grind[Rel.excl]
  all_goals grind
 ·intro b L es hb hx b' L' x hb' hx' hd he;rcases hor b L hb with hb|⟨hq,hb,hn⟩<;>rcases hor b' L' hb' with hb'|⟨hq',hb',hn'⟩
  ·exact by grind[Rel.exclm]
  all_goals grind
 ·intro b L e wf cs hb hx b' L' e' wf' af' cs' hb' hx' he;rcases hor b L hb with hb|⟨hq,hb,hn⟩<;>rcases hor b' L' hb' with hb'|⟨hq',hb',hn'⟩
  ·exact r1'.app b L e wf cs hb hx b' L' e' wf' af' cs' hb' hx' he
  all_goals grind
 ·intro b L hb hh;rcases hor b L hb with hb|⟨_,_,hn⟩
  ·grind[Rel.flr]
  ·exact fun hB=>absurd (r1.base _ hB) (Nat.not_lt.2 hn)

omit [Cur] in
theorem jP{ops:Array Oper}{nt:Nat}:∀{os:List Oper} {rs:List ROp},xE P ops nt os rs=true->os.length=rs.length∧∀(i:Nat) o r,os[i]?=some o->rs[i]?=some r->qdm P ops nt o r=true
 | [],[],_=>⟨rfl,by simp⟩
 | o::os,r::rs,h=>by
  simp only[xE,Bool.and_eq_true] at h;obtain⟨h1,h2⟩:=h;obtain⟨h3,h4⟩:=jP h2
  grind
 | [],_::_,h=>by simp[xE] at h
 | _::_,[],h=>by simp[xE] at h

structure Canon (orc:Orc) (C:qw) (rs:List ROp) (T:Nat->Tr AV) (H:Nat->Hp) (G:Nat->Bool) (V:Nat->AV):Prop where
 step:∀(i:Nat) r,rs[i]?=some r->zE (T i) r.guard (fun g=>g=G i)∧zm (T i) r.dst (V i) (fun t=>t=T (i+1)) ∧
  ((G i=true∧wu orc true C r.k (T i) (H i) (fun v h=>v=V i∧h=H (i+1)))∨(G i=false∧V i = .tup []∧H (i+1)=H i))

omit [Cur] in
theorem qcF{C:qw}(hi:LC C){Q:Tr AV->Hp->Prop}:∀(rs:List ROp) (t:Tr AV) (h:Hp),x4 orc true C rs Q t h->
  ∃T H G V,T 0=t∧H 0=h∧Canon orc C rs T H G V∧Q (T rs.length) (H rs.length)
 | [],t,h,hk=>⟨fun _=>t,fun _=>h,fun _=>false,fun _=>.undef,rfl,rfl,⟨by simp⟩,hk⟩
 | ⟨dst,k,g⟩::rs,t,h,hk=>by
  have hk':zE t g (fun go=>Bool.rec (motive:=fun _=>Prop)
   (zm t dst (.tup []) (fun t'=>x4 orc true C rs Q t' h)) (wu orc true C k t h (fun v h'=>zm t dst v (fun t'=>x4 orc true C rs Q t' h'))) go):=hk
  obtain⟨go,h1,h2⟩:=qcS t g _ hk'
  have shift:∀(v:AV) (t1:Tr AV) (h1:Hp),zm t dst v (fun t'=>t'=t1)->((go=true∧wu orc true C k t h (fun v' h'=>v'=v∧h'=h1))∨(go=false∧v = .tup []∧h1=h))->x4 orc true C rs Q t1 h1->
    ∃T H G V,T 0=t∧H 0=h∧Canon orc C (⟨dst,k,g⟩::rs) T H G V∧Q (T (rs.length+1)) (H (rs.length+1)):=by
   intro v t1 hh1 hd hg hr;obtain⟨T,H,G,V,e1,e2,e3,e4⟩:=qcF hi rs t1 hh1 hr;refine⟨fun i=>match i with|0=>t|i+1=>T i,fun i=>match i with|0=>h|i+1=>H i,fun i=>match i with|0=>go|i+1=>G i,fun i=>match i with|0=>v|i+1=>V i,rfl,rfl,⟨?_⟩,e4⟩
   intro i r hri;cases i<;>grind[Canon.step]
  cases go with
  | false =>
   obtain⟨t1,h3,h4⟩:=qcb t dst _ _ h1
   grind
  | true =>
   obtain⟨v,hh,h3,h4⟩:=qg0 orc true hi k t h _ h1;obtain⟨t1,h5,h6⟩:=qcb t dst v _ h3
   grind

omit [Cur] in
theorem qb6{C:qw}{rs:List ROp}{T:Nat->Tr AV}{H:Nat->Hp}{G:Nat->Bool}{V:Nat->AV}(hc:Canon orc C rs T H G V){i:Nat}{r:ROp}(hr:rs[i]?=some r)(x:Nat) :
  (T (i+1)).get x=if r.dst=some x then some (V i) else (T i).get x:=by
 obtain⟨_,h2,_⟩:=hc.step i r hr;cases hd:r.dst with
 | none =>
  rw[hd] at h2;have h2':T i=T (i+1):=h2
  simp_all
 | some d =>
  rw[hd] at h2;have h2':(T i).setK d (V i) (fun t=>t=T (i+1)):=h2
  rw[Tr.setK_iff] at h2';rw[← h2',Tr.get_set]
  grind

omit [Cur] in
theorem qbK{o:Oper}{a:Act}{w:World}{F:Prop}(h:o.wpIn (Fr none) 0 P a w (fun _ _=>F) (fun _ _ _=>False)):F:=by
 obtain⟨_,h⟩:=h;generalize (o.semAt (Fr none).round a.eval).run P w=r at h;cases r with
 | ok n w' =>
  cases n<;>simp only[Oper.uponIn] at h
  case enter f args =>
   obtain⟨e,w'',fr,hR,_⟩:=h.2.2 [] (room_wide _);cases e with
   | returned v=>exact hR
   | panicked=>exact hR.elim
   | outgrown=>obtain⟨_,_,hh⟩:=hR;exact hh.elim
  case row row args =>
   obtain⟨v,w'',hR,_⟩:=h.2 default [] (room_wide _);exact hR
  case round l f tmps assign body =>
   obtain⟨e,w'',hR,_⟩:=h.2.2 default [] (room_wide _);cases e with
   | returned v=>exact hR
   | panicked=>exact hR.elim
   | outgrown=>obtain⟨_,_,hh⟩:=hR;exact hh.elim
  all_goals omega
 | halt x w'=>cases x<;>simp only[Oper.uponIn] at h

structure Fact (rs:List ROp) (H:Nat->Hp) (i:Nat):Prop where
 sz:(H i).sz<=(H (i+1)).sz
 fl:(H (i+1)).fl=(H i).fl
 keep:(∀r,rs[i]?=some r->wr r.k=false)->∀b,b<(H i).sz->(H (i+1)).tr.get b=(H i).tr.get b
 floor:∀b,b<(H i).fl->b<(H i).sz->(H (i+1)).tr.get b=(H i).tr.get b

theorem xM(horc:OrcOk P σ orc){C:qw}(hs:xm P σ C){nt:Nat}{ops:Array Oper}{rs:List ROp}(hrs:xE P ops nt ops.toList rs=true){T:Nat->Tr AV}{H:Nat->Hp}{G:Nat->Bool}{V:Nat->AV}(hc:Canon orc C rs T H G V)
  {B:Nat->Prop} {w:World} {a:Act} (ht:TR σ ρ (T 0) a.tmps) (hsz:nt<=a.tmps.size) (r:Rel σ ρ B (H 0) w):∀i,i<=rs.length->
  (∃(ρ':Ren) (a':Act) (w':World),TR σ ρ' (T i) a'.tmps∧nt<=a'.tmps.size∧Rel σ ρ' B (H i) w')∧∀j,j<i->Fact rs H j
 | 0,_=>by grind
 | i+1,hi=>by
  obtain⟨⟨ρ1,a1,w1,ht1,hs1,r1⟩,hf⟩:=xM horc hs hrs hc ht hsz r i (by omega);obtain⟨hlen,hget⟩:=jP hrs;have hri:rs[i]?=some rs[i]:=by simp_all
  have hoi:ops.toList[i]?=some (ops.toList[i]'(by omega)):=by simp_all
  have hchk:=hget i _ _ hoi hri;generalize rs[i]=rr at hri hchk;generalize ops.toList[i]'(by omega)=o at hoi hchk;simp only[qdm,Bool.and_eq_true] at hchk;obtain⟨⟨hc1,hc2⟩,hc3⟩:=hchk;obtain⟨g1,g2,g3⟩:=hc.step i rr hri
  have key:(∃(ρ':Ren) (a':Act) (w':World),TR σ ρ' (T (i+1)) a'.tmps∧nt<=a'.tmps.size∧Rel σ ρ' B (H (i+1)) w')∧Fact rs H i:=by
   rcases g3 with⟨_,g3⟩|⟨_,g3,g4⟩
   ·rcases (x6 _ _ _).1 g3 with⟨hb,g3⟩|⟨hb,g3⟩
    ·refine qbK (P:=P) (o:=o) (a:=a1) (w:=w1) (jY horc hs r1 ht1 hc3 g3 _ _ ?_);rintro v v' h' ρ' w' ⟨rfl,rfl⟩ q1 q2 q3;obtain⟨t',q4,q5⟩:=(ht1.mono (q3.mono r1.dom)).put hs1 hc1 q1 g2;subst q4;refine⟨by grind[zB],q3.szle,q3.fl,fun hw=>?_,q3.akeep⟩
     have:=hw rr hri;simp[this] at hb
    ·refine qbK (P:=P) (o:=o) (a:=a1) (w:=w1) (qat horc hs r1 ht1 hc3 g3 _ _ ?_);rintro v v' h' ρ' w' ⟨rfl,rfl⟩ q1 q2 q3 q6 _ _ _;obtain⟨t',q4,q5⟩:=(ht1.mono (q3.mono r1.dom)).put hs1 hc1 q1 g2;subst q4;exact⟨by grind[zB],q3.szle,q3.fl,fun _=>q6,q3.akeep⟩
   ·obtain⟨t',q4,q5⟩:=ht1.put hs1 hc1 (.tup [] #[] .nil) (by rw[g3] at g2;exact g2);subst q4;exact⟨by grind[zB],by rw[g4];exact Nat.le_refl _,by rw[g4],by simp_all,by simp_all⟩
  grind

section facts
variable {rs:List ROp} {H:Nat->Hp}
omit [Cur] in
theorem qz(hf:∀j,j<rs.length->Fact rs H j){i j:Nat}(hij:i<=j)(hj:j<=rs.length):(H i).sz<=(H j).sz:=by
 induction j<;>grind[Fact.sz]
omit [Cur] in
theorem qcM(hf:∀j,j<rs.length->Fact rs H j){i j:Nat}(hij:i<=j)(hj:j<=rs.length):(H j).fl=(H i).fl:=by
 induction j<;>grind[Fact.fl]
omit [Cur] in
theorem qce(hf:∀j,j<rs.length->Fact rs H j){i j:Nat}(hij:i<=j)(hj:j<=rs.length)(hw:∀k,i<=k->k<j->∀r,rs[k]?=some r->wr r.k=false)(b:Nat)(hb:b<(H i).sz):(H j).tr.get b=(H i).tr.get b:=by
 induction j with
 | zero=>simp_all
 | succ j ih =>
  rcases Nat.lt_or_eq_of_le hij with h|rfl
  ·rw[← ih (by omega) (by omega) (by grind)];exact (hf j (by omega)).keep (by grind) b (Nat.lt_of_lt_of_le hb (qz hf (by omega) (by omega)))
  ·rfl
omit [Cur] in
theorem qf1(hf:∀j,j<rs.length->Fact rs H j){j:Nat}(hj:j<=rs.length)(b:Nat)(hb:b<(H 0).fl)(hb2:b<(H 0).sz):(H j).tr.get b=(H 0).tr.get b:=by
 induction j with
 | zero=>rfl
 | succ j ih =>
  rw[← ih (by omega)];exact (hf j (by omega)).floor b (by rw[qcM hf (Nat.zero_le _) (by omega)];exact hb) (Nat.lt_of_lt_of_le hb2 (qz hf (Nat.zero_le _) (by omega)))
end facts

omit [Cur] in
omit [Cur] in
theorem qaJ:∀(os:List Oper) (acc:List Nat) (j:Nat),j<acc.length->(jt os acc)[j]?=acc[j]?
 | [],acc,j,h=>rfl
 | o::os,acc,j,h=>by rw[jt,qaJ os _ j (by grind),List.getElem?_append_left h]
omit [Cur] in
theorem qb0:∀(os:List Oper) (acc:List Nat) (i:Nat) (o:Oper),os[i]?=some o->(jt os acc)[acc.length+i]?=some (qgp o ((jt os acc).take (acc.length+i)))
 | [],_,_,_,h=>by grind
 | p::os,acc,i,o,h=>by
  cases i with
  | zero =>
   simp at h;subst h;rw[jt,Nat.add_zero]
   have e1:(jt os (acc++[qgp p acc])).take acc.length=acc:=by
    apply List.ext_getElem?
    grind[qaJ]
   rw[qaJ _ _ _ (by simp),e1];simp
  | succ i =>
   have:=qb0 os (acc++[qgp p acc]) i o (by simpa using h);rw[jt]
   grind
omit [Cur] in
theorem qgq{o:Oper}{acc:List Nat}{j:Nat}(h:(qgp o acc).testBit j=true):∃e ∈ o.after,Region.binds .any e=true∧(e.on=j∨(acc.getD e.on 0).testBit j=true):=by
 have key:∀(es:List Edge) (s:Nat),(es.foldl (fun s e=>if Region.binds .any e then s ||| 2 ^ e.on ||| acc.getD e.on 0 else s) s).testBit j=true->s.testBit j=true∨∃e ∈ es,Region.binds .any e=true∧(e.on=j∨(acc.getD e.on 0).testBit j=true):=by
  intro es
  induction es with
  | nil=>intro s h;exact .inl h
  | cons e es ih =>
   intro s h;rw[List.foldl_cons] at h;rcases ih _ h with h1|⟨e',h1,h2⟩
   ·by_cases hb:Region.binds .any e=true
    ·rw[if_pos hb] at h1;simp only[Nat.testBit_or,Bool.or_eq_true,Nat.testBit_two_pow,decide_eq_true_eq] at h1;rcases h1 with (h1|h1)|h1
     ·exact .inl h1
     ·exact by simp_all
     ·exact by simp_all
    ·rw[if_neg hb] at h1;exact .inl h1
   ·exact by grind
 rcases key _ 0 h with h1|⟨e,h1,h2⟩
 all_goals grind
omit [Cur] in
theorem qaI{ops:Array Oper}{S:Nat->Prop}(hlt:∀(i:Nat) o,ops[i]?=some o->∀e ∈ o.after,Region.binds .any e=true->e.on<i)(hcl:∀(i:Nat) o,S i->ops[i]?=some o->∀e ∈ o.after,Region.binds .any e=true->S e.on) :
  ∀(i:Nat) o,ops[i]?=some o->(∀e ∈ o.after,Region.binds .any e=true->S e.on)->∀j,((jt ops.toList []).getD i 0).testBit j=true->S j:=by
 intro i
 induction i using Nat.strongRecOn with
 | _ i ih =>
  intro o ho hr j hj;have hm:=qb0 ops.toList [] i o (by simp_all);simp only[List.length_nil,Nat.zero_add] at hm;rw[List.getD_eq_getElem?_getD,hm] at hj;obtain⟨e,he,hb,h1⟩:=qgq hj;have hle:=hlt i o ho e he hb;have hS:=hr e he hb;rcases h1 with rfl|h1
  ·exact hS
  ·have hi:i<ops.size:=by grind
   have e1:((jt ops.toList []).take i).getD e.on 0=(jt ops.toList []).getD e.on 0:=by
    rw[List.getD_eq_getElem?_getD,List.getD_eq_getElem?_getD,List.getElem?_take_of_lt hle]
   rw[e1] at h1;have ho':ops[e.on]?=some ops[e.on]:=by simp_all
   grind

omit [Cur] in
theorem jW{rs:List ROp}{ms:List Nat}:∀(rest:List ROp) (j:Nat),qak rs ms j rest=true->rs.drop j=rest->∀i k a b,i<k->j<=k->rs[i]?=some a->rs[k]?=some b->xO a b=true->(ms.getD k 0).testBit i=true
 | [],j,_,hd,i,k,a,b,_,hjk,_,hb,_=>by
  have:rs.length<=j:=by simp_all
  have:=(zzS.1 hb).1;omega
 | r::rest,j,hc,hd,i,k,a,b,hik,hjk,ha,hb,hm=>by
  simp only[qak,Bool.and_eq_true] at hc
  have hrj:rs[j]?=some r:=by
   have:=congrArg (fun l=>l[0]?) hd
   grind
  rcases Nat.lt_or_eq_of_le hjk with h|rfl
  ·exact jW rest (j+1) hc.2 (by rw[← List.drop_drop,hd];rfl) i k a b hik h ha hb hm
  ·rw[hrj] at hb;cases hb
   have:=(List.all_eq_true.1 hc.1) (a,i) (by
    rw[List.mem_zipIdx_iff_getElem?];simp only;rw[List.getElem?_take_of_lt hik];exact ha)
   simp_all
end Go.Kc
end
