/- Part 3 of the abstract machine and of the functions' walks. Conditions: with each theorem. -/
import Derived.Test.YtpgbjeabmkbmbaaGreatEK2
import Derived.MapKept
import Derived.LoopNIn
import Derived.OrdersIn
import Derived.RangeFuncRecord
set_option maxHeartbeats 4000000
set_option linter.unusedSectionVars false
set_option linter.unusedSimpArgs false
set_option linter.unusedVariables false
set_option linter.unnecessarySimpa false
section
namespace Go.Kc
variable [Cur]
variable {σ:Nat->Value} {ρ ρ':Ren} {P:Program}

theorem Rel.newMap{B:Nat->Prop}{h:Hp}{w w':World}(r:Rel σ ρ B h w){es0:List (AV×AV)}{o:Obj}(hes:kY σ ρ es0 o)(hw:w'.heap=w.heap.push o)(hio:w'.os=w.os∧w'.output=w.output) :
  Rel σ (ρ.add h.sz ⟨w.heap.size,0,0,0⟩) B (h.push (.map es0)) w'∧Kept ρ B h w (ρ.add h.sz ⟨w.heap.size,0,0,0⟩) (h.push (.map es0)) w':=by
 have hold:∀k,k<w.heap.size->w'.heap[k]?=w.heap[k]?:=by intro k hk;rw[hw,Array.getElem?_push];rw[if_neg (by omega)]
 have hsz:w.heap.size<=w'.heap.size:=by rw[hw,Array.size_push];exact Nat.le_succ _
 have hnew:w'.heap[w.heap.size]?=some o:=by rw[hw];simp
 have hext:∀b L,ρ b=some L->(ρ.add h.sz ⟨w.heap.size,0,0,0⟩) b=some L:=by
  intro b L hb;have:=r.dom b L hb;simp only[Ren.add];rw[if_neg (by omega)];exact hb
 have hle:ρ.le (ρ.add h.sz ⟨w.heap.size,0,0,0⟩):=⟨hext,fun _ _ h=>h,Nat.le_max_left _ _⟩
 have hwf:=r.blk_lt
 have hget:∀b x,(h.push (.map es0)).tr.get b=some x->b≠h.sz->h.tr.get b=some x:=by
  intro b x hx hb;simp only[Hp.push,Tr.get_set] at hx;rwa [if_neg hb] at hx
 have hget':∀x,(h.push (.map es0)).tr.get h.sz=some x->x = .map es0:=by
  intro x hx;simp[Hp.push,Tr.get_set] at hx;exact hx.symm
 have hren:∀b L,(ρ.add h.sz ⟨w.heap.size,0,0,0⟩) b=some L->(b=h.sz∧L=⟨w.heap.size,0,0,0⟩)∨(b≠h.sz∧ρ b=some L):=by
  intro b L hb;simp only[Ren.add] at hb;split at hb
  ·left;exact⟨by assumption,by simpa using hb.symm⟩
  ·right;exact⟨by assumption,hb⟩
 refine⟨⟨?_,?_,?_,?_,?_,?_,?_,?_,?_,⟨Nat.max_le.2 ⟨Nat.le_succ_of_le r.dn.1,Nat.le_refl _⟩,?_⟩⟩,⟨?_,?_,rfl,?_,?_,?_,hio,fun _ _ h=>h,fun _ _ h=>.inl h,Nat.le_max_left _ _⟩⟩
 ·intro b L hb;rcases hren b L hb with⟨rfl,_⟩|⟨_,hb⟩
  ·exact Nat.lt_succ_self _
  ·exact Nat.lt_succ_of_lt (r.dom b L hb)
 ·intro b L e' wf' af' cs' hb hg;rcases hren b L hb with⟨rfl,rfl⟩|⟨hne,hb⟩
  ·cases hget' _ hg
  ·have hg':=hget _ _ hg hne;obtain⟨h1,c',ty',fz,h2,h3,h4,h5,h6⟩:=r.cells b L e' wf' af' cs' hb hg';refine⟨h1,c',ty',fz,?_,h3,h4,?_,h6⟩
   ·rw[hold _ (hwf b L hb _ hg' (by simp))];exact h2
   ·intro j v hv;obtain⟨v',h7,h8⟩:=h5 j v hv;exact⟨v',h7,h8.mono hle⟩
 ·intro b L es hb hg;rcases hren b L hb with⟨rfl,rfl⟩|⟨hne,hb⟩
  ·cases hget' _ hg;exact⟨rfl,o,hnew,hes.mono hle⟩
  ·have hg':=hget _ _ hg hne;obtain⟨h0,ob,h2,h3⟩:=r.maps b L es hb hg';refine⟨h0,ob,?_,h3.mono hle⟩;rw[hold _ (hwf b L hb _ hg' (by simp))];exact h2
 ·intro b L e' af' cs' hb hg b' L' x hb' hx hd he;rcases hren b L hb with⟨rfl,rfl⟩|⟨hne,hb1⟩<;>rcases hren b' L' hb' with⟨rfl,rfl⟩|⟨hne',hb'⟩
  ·rfl
  ·have:=hwf b' L' hb' _ (hget _ _ hx hne') hd;simp only at he;omega
  ·have:=hwf b L hb1 _ (hget _ _ hg hne) (by simp);simp only at he;omega
  ·exact r.excl b L e' af' cs' hb1 (hget _ _ hg hne) b' L' x hb' (hget _ _ hx hne') hd he
 ·intro b L es hb hg b' L' x hb' hx hd he;rcases hren b L hb with⟨rfl,rfl⟩|⟨hne,hb1⟩<;>rcases hren b' L' hb' with⟨rfl,rfl⟩|⟨hne',hb'⟩
  ·rfl
  ·have:=hwf b' L' hb' _ (hget _ _ hx hne') hd;simp only at he;omega
  ·have:=hwf b L hb1 _ (hget _ _ hg hne) (by simp);simp only at he;omega
  ·exact r.exclm b L es hb1 (hget _ _ hg hne) b' L' x hb' (hget _ _ hx hne') hd he
 ·intro b L e' wf' cs' hb hg b' L' e2 wf2 af2 cs2 hb' hx he;rcases hren b L hb with⟨rfl,rfl⟩|⟨hne,hb1⟩<;>rcases hren b' L' hb' with⟨rfl,rfl⟩|⟨hne',hb'⟩
  ·cases hget' _ hg
  ·cases hget' _ hg
  ·cases hget' _ hx
  ·exact r.app b L e' wf' cs' hb1 (hget _ _ hg hne) b' L' e2 wf2 af2 cs2 hb' (hget _ _ hx hne') he
 ·intro b L hb hf;rcases hren b L hb with⟨rfl,rfl⟩|⟨_,hb⟩
  ·exact xG r.base (Nat.le_refl _)
  ·exact r.flr b L hb hf
 ·exact kr r.base hsz
 ·intro k arr hk;obtain⟨⟨ty',fz',h1⟩,h2⟩:=r.frz k arr hk;have hkl:k<w.heap.size:=(Array.getElem?_eq_some_iff.1 h1).1;refine⟨⟨ty',fz',by rw[hold k hkl];exact h1⟩,fun b L x hb hx hd=>?_⟩
  rcases hren b L hb with⟨rfl,rfl⟩|⟨hne,hb⟩
  ·show w.heap.size≠k;omega
  ·exact h2 b L x hb (hget _ _ hx hne) hd
 ·intro b L hb;rcases hren b L hb with⟨rfl,rfl⟩|⟨_,hb⟩
  ·show w.heap.size<_;rw[hw,Array.size_push];exact Nat.lt_succ_self _
  ·exact Nat.lt_of_lt_of_le (r.dn.2 b L hb) hsz
 ·intro b hb;simp only[Ren.add];rw[if_neg (by omega)]
 ·exact Nat.le_succ _
 ·intro b _ hb;simp only[Hp.push,Tr.get_set];rw[if_neg (by omega)]
 ·intro k hk;exact hold k (r.base _ hk)
 ·exact hsz

theorem Rel.putMap{B:Nat->Prop}{h:Hp}{w w':World}(r:Rel σ ρ B h w){b:Nat}{L:Loc}{es es':List (AV×AV)}(hb:ρ b=some L)(hg:h.tr.get b=some (.map es))(hf:h.fl<=b)
  {o:Obj} (ho:w.heap[L.blk]?=some o) {o':Obj} (hes:kY σ ρ es' o') (hw:w'.heap=w.heap.setIfInBounds L.blk o') (hio:w'.os=w.os∧w'.output=w.output) :
  Rel σ ρ B (h.put b (.map es')) w'∧Kept ρ B h w ρ (h.put b (.map es')) w':=by
 have hlt:L.blk<w.heap.size:=(Array.getElem?_eq_some_iff.1 ho).1
 have hold:∀k,k≠L.blk->w'.heap[k]?=w.heap[k]?:=by
  intro k hk;rw[hw,Array.getElem?_setIfInBounds];rw[if_neg (by omega)]
 have hnew:w'.heap[L.blk]?=some o':=by rw[hw,Array.getElem?_setIfInBounds];simp[hlt]
 have hget:∀b' x,(h.put b (.map es')).tr.get b'=some x->b'≠b->h.tr.get b'=some x:=by
  intro b' x hx hne;simp only[Hp.put,Tr.get_set] at hx;rwa [if_neg hne] at hx
 have hgb:∀x,(h.put b (.map es')).tr.get b=some x->x = .map es':=by
  intro x hx;simp[Hp.put,Tr.get_set] at hx;exact hx.symm
 have hother:∀b' L' x,ρ b'=some L'->h.tr.get b'=some x->x≠.dead->b'≠b->L'.blk≠L.blk :=
  fun b' L' x hb' hx hd hne he=>hne (r.exclm b L es hb hg b' L' x hb' hx hd he)
 refine⟨⟨r.dom,?_,?_,?_,?_,?_,r.flr,?_,?_,⟨r.dn.1,fun b L hb=>by rw[hw,Array.size_setIfInBounds];exact r.dn.2 b L hb⟩⟩,⟨fun _ _=>rfl,Nat.le_refl _,rfl,?_,?_,?_,hio,fun _ _ h=>h,fun _ _ h=>.inl h,Nat.le_refl _⟩⟩
 ·intro b' L' e' wf' af' cs' hb' hg'
  by_cases hne:b'=b
  ·subst hne;cases hgb _ hg'
  ·have hg2:=hget _ _ hg' hne;obtain⟨h1,c,ty,fz,h2,h3⟩:=r.cells b' L' e' wf' af' cs' hb' hg2;exact⟨h1,c,ty,fz,by rw[hold _ (hother b' L' _ hb' hg2 (by simp) hne)];exact h2,h3⟩
 ·intro b' L' es2 hb' hg'
  by_cases hne:b'=b
  ·subst hne;rw[hb] at hb';cases hb';cases hgb _ hg';exact⟨(r.maps _ _ _ hb hg).1,o',hnew,hes⟩
  ·have hg2:=hget _ _ hg' hne;obtain⟨h1,ob,h2,h3⟩:=r.maps b' L' es2 hb' hg2;exact⟨h1,ob,by rw[hold _ (hother b' L' _ hb' hg2 (by simp) hne)];exact h2,h3⟩
 ·intro b1 L1 e1 af1 cs1 hb1 hg1 b2 L2 x hb2 hx hd he2
  by_cases m1:b1=b
  ·subst m1;cases hgb _ hg1
  ·have hg1':=hget _ _ hg1 m1
   by_cases m2:b2=b
   ·subst m2;rw[hb] at hb2;cases hb2;exact absurd he2.symm (hother b1 L1 _ hb1 hg1' (by simp) m1)
   ·exact r.excl b1 L1 e1 af1 cs1 hb1 hg1' b2 L2 x hb2 (hget _ _ hx m2) hd he2
 ·intro b1 L1 es1 hb1 hg1 b2 L2 x hb2 hx hd he2
  by_cases m1:b1=b
  ·subst m1;rw[hb] at hb1;cases hb1
   by_cases m2:b2=b1
   ·exact m2
   ·exact absurd he2 (hother b2 L2 x hb2 (hget _ _ hx m2) hd m2)
  ·have hg1':=hget _ _ hg1 m1
   by_cases m2:b2=b
   ·subst m2;rw[hb] at hb2;cases hb2;exact absurd he2.symm (hother b1 L1 _ hb1 hg1' (by simp) m1)
   ·exact r.exclm b1 L1 es1 hb1 hg1' b2 L2 x hb2 (hget _ _ hx m2) hd he2
 ·intro b1 L1 e1 wf1 cs1 hb1 hg1 b2 L2 e2 wf2 af2 cs2 hb2 hg2 he2
  by_cases m1:b1=b
  ·subst m1;cases hgb _ hg1
  ·by_cases m2:b2=b
   ·subst m2;cases hgb _ hg2
   ·exact r.app b1 L1 e1 wf1 cs1 hb1 (hget _ _ hg1 m1) b2 L2 e2 wf2 af2 cs2 hb2 (hget _ _ hg2 m2) he2
 ·rw[hw,Array.size_setIfInBounds];exact r.base
 ·intro k arr hk;obtain⟨⟨ty',fz',h6⟩,h7⟩:=r.frz k arr hk;have hne:L.blk≠k:=h7 b L _ hb hg (by simp);refine⟨⟨ty',fz',by rw[hold k (by omega)];exact h6⟩,fun b' L' x hb' hx hd=>?_⟩
  by_cases hbb:b'=b
  ·subst hbb;rw[hb] at hb';cases hb';exact hne
  ·exact h7 b' L' x hb' (hget _ _ hx hbb) hd
 ·intro b' hb' hs';simp only[Hp.put,Tr.get_set];rw[if_neg (by omega)]
 ·intro k hk;exact hold k (fun he=>r.flr b L hb hf (by first|(rw[← he];exact hk)|(rw[he];exact hk)))
 ·rw[hw,Array.size_setIfInBounds];exact Nat.le_refl _

omit [Cur] in
theorem xX.cons{e:AV×AV}{es:List (AV×AV)}{vs:List MapEntry}(h:xX σ ρ (e::es) vs):∃v us,vs=v::us∧VR σ ρ e.1 v.key∧VR σ ρ e.2 v.val∧xX σ ρ es us:=by
 cases vs with
 | nil=>cases h.1
 | cons v us =>
  obtain⟨v',h1,h2,h3⟩:=h.2 0 e rfl;simp at h1;subst h1;exact⟨v,us,rfl,h2,h3,by simpa using h.1,fun j e' he=>by simpa using h.2 (j+1) e' (by simpa using he)⟩
omit [Cur] in
theorem xX.mk{e:AV×AV}{es:List (AV×AV)}{v:MapEntry}{us:List MapEntry}(h1:VR σ ρ e.1 v.key)(h2:VR σ ρ e.2 v.val)(h:xX σ ρ es us):xX σ ρ (e::es) (v::us):=by
 refine⟨by simp[h.1],fun j e' he=>?_⟩
 cases j with
 | zero=>simp at he;subst he;exact⟨v,rfl,h1,h2⟩
 | succ j=>simpa using h.2 j e' (by simpa using he)
omit [Cur] in
theorem xX.nil:xX σ ρ [] []:=⟨rfl,fun j e' he=>by simp at he⟩

def jX:Option IntKind->TypeDesc
 | none=>.string
 | some q=>.int q
omit [Cur] in
theorem qhX{orc:Orc}(horc:OrcOk P σ orc){kd:Option IntKind}{i:AV}{i':Value}{p:Prop}(hi:VR σ ρ i i')(h:Xd orc kd i p):MapKept.IsKey (jX kd) i'∧p:=by
 unfold Xd at h;split at h
 ·have:=hi.un_s;subst this;cases kd
  ·exact⟨trivial,h⟩
  ·exact h.elim
 ·have:=hi.un_i;subst this;cases kd
  ·exact h.elim
  ·obtain⟨h1,h2⟩:=(qa _ _).1 h;exact⟨(of_decide_eq_true h1).symm,h2⟩
 ·rename_i j;cases kd
  ·cases hl:orc.len j with
   | none=>simp only[hl] at h;exact h.elim
   | some r =>
    simp only[hl] at h;obtain⟨s,h1,_⟩:=horc.len j r hl;have:=hi.un_sym;rw[this,h1];exact⟨trivial,h⟩
  ·exact h.elim
 ·exact h.elim
omit [Cur] in
theorem qds{orc:Orc}(horc:OrcOk P σ orc){kd:Option IntKind}{x y:AV}{x' y':Value}(hx:VR σ ρ x x')(hy:VR σ ρ y y')(hk:MapKept.IsKey (jX kd) x'){k:Bool->Prop}(h:vD orc x y k) :
  ∃b,k b∧Instr.sameNow (jX kd) x' y'=some b:=by
 unfold vD at h;split at h
 ·rename_i c;have ey:=hy.un_s;subst ey;split at h
  ·rename_i a;have ex:=hx.un_s;subst ex;rw[qq] at h;cases kd
   ·refine⟨_,h,?_⟩;show some ((⟨a.toArray⟩:ByteArray)==⟨c.toArray⟩)=_;rw[je]
    congr 1
    rw[Bool.eq_iff_iff,MapKept.bytes_beq,beq_iff_eq];constructor
    ·intro e;have:=congrArg (fun b=>b.data.toList) e;simpa using this
    ·intro e;rw[e]
   ·exact hk.elim
  ·rename_i j;cases hl:orc.len j with
   | none=>simp only[hl] at h;exact h.elim
   | some lv =>
   simp only[hl] at h;have h:QX (orc.bin .eql (.sym j) (.s c)) (fun v=>unB v k):=h
   cases hb:orc.bin .eql (.sym j) (.s c) with
   | none=>simp only[hb] at h;exact h.elim
   | some r =>
    simp only[hb] at h;obtain⟨r',h1,h2⟩:=horc.bin _ _ _ _ hb ρ x' _ hx hy;have h':unB r k:=h;unfold unB at h';split at h'<;>try exact h'.elim
    rename_i b;cases kd
    ·cases x'<;>try exact hk.elim
     rename_i s;have h3:=h2 P 0 (default:World);cases h1;refine⟨b,h',?_⟩;simp[binOp,Op.stringOp] at h3;show some (s==(⟨c.toArray⟩:ByteArray))=some b;rw[← h3]
     congr 1
     rw[Bool.eq_iff_iff,MapKept.bytes_beq,beq_iff_eq];constructor
     ·intro e;rw[e,ByteArray.toList_eq]
     ·intro e;rw[ByteArray.toList_eq] at e;rw[← e]
    ·obtain⟨s,h3,_⟩:=horc.len j lv hl;rw[hx.un_sym,h3] at hk;exact hk.elim
  ·exact h.elim
 ·rename_i q n;have ey:=hy.un_i;subst ey;split at h<;>try exact h.elim
  rename_i q' m;have ex:=hx.un_i;subst ex;obtain⟨h1,h2⟩:=(qa _ _).1 h;have h1:=of_decide_eq_true h1;subst h1;rw[qq] at h2;cases kd
  ·exact hk.elim
  ·refine⟨_,h2,?_⟩;have hk':q'=_:=hk;subst hk';simp[jX,Instr.sameNow,yf]
 ·exact h.elim
theorem qeN{orc:Orc}(horc:OrcOk P σ orc){kd:Option IntKind}{i:AV}{i':Value}(hi:VR σ ρ i i')(hk:MapKept.IsKey (jX kd) i') :
  ∀{es:List (AV×AV)} {vs:List MapEntry} (n:Nat),xX σ ρ es vs->∀{k:Option AV->Prop},wi orc i es k->
   (k none∧Instr.findNow (jX kd) i' vs n=some none)∨∃v m u,k (some v)∧VR σ ρ v u∧Instr.findNow (jX kd) i' vs n=some (some (m,u))
 | [],vs,n,he,k,h=>by
  have:vs=[]:=List.length_eq_zero_iff.1 he.1.symm;subst this;exact .inl ⟨h,rfl⟩
 | e::es,vs,n,he,k,h=>by
  obtain⟨v,us,rfl,h1,h2,h3⟩:=he.cons;have h':vD orc i e.1 (fun r=>Bool.rec (motive:=fun _=>Prop) (wi orc i es k) (k (some e.2)) r):=h
  obtain⟨b,h4,h5⟩:=qds horc hi h1 hk h';cases b with
  | true=>exact .inr ⟨e.2,n,v.val,h4,h2,by simp[Instr.findNow,h5]⟩
  | false =>
   rcases qeN horc hi hk (n+1) h3 h4 with⟨h6,h7⟩|⟨x,m,u,h6,h7,h8⟩
   ·exact .inl ⟨h6,by simp[Instr.findNow,h5,h7]⟩
   ·exact .inr ⟨x,m,u,h6,h7,by simp[Instr.findNow,h5,h8]⟩
theorem qi4{orc:Orc}(horc:OrcOk P σ orc){kd:Option IntKind}{i x:AV}{i' x':Value}(hu:i≠.undef∧∀r,i≠.lp r)(hi:VR σ ρ i i')(hx:VR σ ρ x x')(hk:MapKept.IsKey (jX kd) i') :
  ∀{es:List (AV×AV)} {vs:List MapEntry} (n:Nat),xX σ ρ es vs->∀{k:List (AV×AV)->Prop},Qh orc i x es k->
   (∃es',k es'∧(qdV es->qdV es')∧Instr.findNow (jX kd) i' vs n=some none∧∀born,xX σ ρ es' (vs++[⟨i',x',born⟩])) ∨
    ∃es' j e,k es'∧(qdV es->qdV es')∧vs[j]?=some e∧Instr.findNow (jX kd) i' vs n=some (some (n+j,e.val))∧Instr.sameNow (jX kd) i' e.key=some true∧xX σ ρ es' (vs.set j { e with key:=i',val:=x' })
 | [],vs,n,he,k,h=>by
  have:vs=[]:=List.length_eq_zero_iff.1 he.1.symm;subst this;exact .inl ⟨[(i,x)],h,(fun _ e he=>by cases he;exact hu),rfl,fun born=>xX.mk hi hx xX.nil⟩
 | e::es,vs,n,he,k,h=>by
  obtain⟨v,us,rfl,h1,h2,h3⟩:=he.cons;have h':vD orc i e.1 (fun r=>Bool.rec (motive:=fun _=>Prop) (Qh orc i x es (fun l=>k (e::l))) (k ((i,x)::es)) r):=h
  obtain⟨b,h4,h5⟩:=qds horc hi h1 hk h';cases b with
  | true=>exact .inr ⟨(i,x)::es,0,v,h4,(fun _ e he=>by cases he;exact hu),rfl,by simp[Instr.findNow,h5],h5,by simpa using xX.mk (v:={ v with key:=i',val:=x' }) hi hx h3⟩
  | false =>
   rcases qi4 horc hu hi hx hk (n+1) h3 h4 with⟨es',h6,_,h7,h8⟩|⟨es',j,e',h6,_,h7,h8,h9,h10⟩
   ·exact .inl ⟨e::es',h6,(fun hh e' he=>by cases he;exact hh _ rfl),by simp[Instr.findNow,h5,h7],fun born=>xX.mk h1 h2 (h8 born)⟩
   ·exact .inr ⟨e::es',j+1,e',h6,(fun hh e' he=>by cases he;exact hh _ rfl),by simpa using h7,by simp[Instr.findNow,h5,h8];omega,h9,by simpa using xX.mk h1 h2 h10⟩
omit [Cur] in
theorem qgp{kd:Option IntKind}{a b:Value}(ha:MapKept.IsKey (jX kd) a)(h:Instr.sameNow (jX kd) a b=some true):∀n,Instr.sameBits n b a=true:=by
 intro n;cases kd
 ·cases a<;>try exact ha.elim
  cases b<;>simp[jX,Instr.sameNow] at h;rename_i s s';cases n<;>simp[Instr.sameBits,(MapKept.bytes_beq _ _).1 h,MapKept.bytes_beq]
 ·cases a<;>try exact ha.elim
  cases b<;>simp[jX,Instr.sameNow] at h;obtain⟨h1,h2⟩:=h;cases n<;>simp[Instr.sameBits,h1,h2]

omit [Cur] in
theorem QS{t k e:TypeId}(h:QF P t=some (k,e)):P.underlying t=some (.map k e):=by
 unfold QF at h;split at h
 ·simp at h;obtain⟨rfl,rfl⟩:=h;assumption
 ·cases h
omit [Cur] in
theorem qck{t:TypeId}{kd:Option IntKind}(h:qcj P t kd=true):P.underlying t=some (jX kd):=by
 unfold qcj at h;split at h
 ·assumption
 ·obtain rfl:=of_decide_eq_true h;assumption
 ·cases h
omit [Cur] in
theorem ZT{t:TypeId}{kd:Option IntKind}(h:QL P t kd=true):∃k e,QF P t=some (k,e)∧P.underlying t=some (.map k e)∧P.underlying k=some (jX kd):=by
 unfold QL at h;split at h
 ·rename_i k e he;exact⟨k,e,he,QS he,qck h⟩
 ·cases h
theorem qd5{t:TypeId}{z:AV}(h:qeG P t z=true):∃i v,P.info? t=some i∧i.zero=some v∧VR σ ρ z v:=by
 unfold qeG at h;split at h
 ·rename_i i hi;split at h
  ·rename_i v hv;exact⟨i,v,hi,hv,qcB _ _ h⟩
  ·cases h
 ·cases h
omit [Cur] in
theorem VR.un_nilm{v:Value}(h:VR σ ρ .nilm v):v = .map none:=by cases h;rfl
omit [Cur] in
theorem qaW{h:Hp}{b:Nat}{k:List (AV×AV)->Prop}(hk:Zp h b k):∃es,h.tr.get b=some (.map es)∧qdV es∧k es:=by
 obtain⟨x,h1,h2⟩:=(Tr.getK_iff _ _ _).1 hk;cases x with
 | cells=>exact h2.elim
 | dead=>exact h2.elim
 | map es=>exact⟨es,h1,QQ.1 h2⟩
section ops
variable {B:Nat->Prop} {h:Hp} {w:World} {a:Act} {t:Tr AV} {orc:Orc} {k:AV->Hp->Prop} {o:Oper}

theorem qib(r:Rel σ ρ B h w){ty:TypeId}{rs:Option Operand}(ho:o.op = .makeMap ty rs)(hc:rs=none∨∃q n,rs=some (.const (.int q n))∧(QF P ty).isSome=true)(hk:opK orc .mkM t h k):Res P σ ρ B h w (execOp a.eval o) k:=by
 have h1:k (.map h.sz) (h.push (.map [])):=(qS h (.map []) (fun b h'=>k (.map b) h')).1 hk
 obtain⟨r1,k1⟩:=r.newMap (w':=w.alloc (.map #[] 0)) (es0:=[]) (.inl ⟨(by intro e he;cases he),#[],0,rfl,xX.nil⟩) rfl ⟨rfl,rfl⟩;refine⟨.map h.sz,.map (some w.heap.size),_,_,w.alloc (.map #[] 0),h1,.inl ?_,.map _ _ (Ren.add_self _ _ _) rfl,r1,k1⟩;rcases hc with rfl|⟨q,n,rfl,hm⟩
 ·have e:(Instr.makeMap ty none).run P w = .ok (.map (some w.heap.size)) (w.alloc (.map #[] 0)):=rfl;simp[execOp,ho,e]
 ·obtain⟨⟨k',e'⟩,hm⟩:=Option.isSome_iff_exists.1 hm
  have e:(Instr.makeMap ty (some (.int q n))).run P w = .ok (.map (some w.heap.size)) (w.alloc (.map #[] 0)):=by
   simp[Instr.makeMap,qi (QS hm),asInt];rfl
  simp[execOp,ho,Act.eval,e]

omit [Cur] in
theorem Z4{ty key elem:TypeId}{kd:Option IntKind}(h4:P.underlying ty=some (.map key elem))(h5:P.underlying key=some (jX kd)){x i:Value}{vs:Array MapEntry}(hx:(x = .map none∧vs = #[])∨(∃b clk,x = .map (some b)∧w.heap[b]?=some (.map vs clk)))
  (g5:MapKept.IsKey (jX kd) i) {n:Nat} {u:Value} (hf:Instr.findNow (jX kd) i vs.toList 0=some (some (n,u))) (ok:Bool):(Instr.lookup ty x i ok).run P w = .ok (if ok then .tuple #[u,.bool true] else u) w:=by
 rcases hx with⟨rfl,rfl⟩|⟨b,clk,rfl,e2⟩
 ·simp[Instr.lookup,qi h4,MapKept.run_checkKey h5 g5,MapKept.run_findKey h5 hf]
 ·simp[Instr.lookup,qi h4,MapKept.run_getObj_map e2,MapKept.run_checkKey h5 g5,MapKept.run_findKey h5 hf]
omit [Cur] in
theorem Z3{ty key elem:TypeId}{kd:Option IntKind}(h4:P.underlying ty=some (.map key elem))(h5:P.underlying key=some (jX kd)){x i:Value}{vs:Array MapEntry}(hx:(x = .map none∧vs = #[])∨(∃b clk,x = .map (some b)∧w.heap[b]?=some (.map vs clk)))
  (g5:MapKept.IsKey (jX kd) i) (hf:Instr.findNow (jX kd) i vs.toList 0=some none) {info:TypeInfo} {zv:Value} (h6:P.info? elem=some info) (h7:info.zero=some zv) (ok:Bool):(Instr.lookup ty x i ok).run P w = .ok (if ok then .tuple #[zv,.bool false] else zv) w:=by
 rcases hx with⟨rfl,rfl⟩|⟨b,clk,rfl,e2⟩
 ·simp[Instr.lookup,qi h4,MapKept.run_checkKey h5 g5,MapKept.run_findKey h5 hf,j8 h6 h7]
 ·simp[Instr.lookup,qi h4,MapKept.run_getObj_map e2,MapKept.run_checkKey h5 g5,MapKept.run_findKey h5 hf,j8 h6 h7]
theorem qh5(horc:OrcOk P σ orc)(r:Rel σ ρ B h w)(ht:TR σ ρ t a.tmps){kd:Option IntKind}{ok:Bool}{z:AV}{x i:O}{x' i':Operand}{ty:TypeId}(ho:o.op = .lookup ty x' i' ok)(hc1:qo x' x=true)(hc2:qo i' i=true)
  (h1:QL P ty kd=true) (h2:(match QF P ty with|some (_,e)=>qeG P e z|none=>false)=true) (hk:opK orc (.lookM kd ok z x i) t h k):Res P σ ρ B h w (execOp a.eval o) k:=by
 obtain⟨key,elem,h3,h4,h5⟩:=ZT h1;rw[h3] at h2;obtain⟨info,zv,h6,h7,h8⟩:=qd5 (σ:=σ) (ρ:=ρ) h2;obtain⟨u,g1,g2⟩:=qy ht hc1 hk;obtain⟨iv,g3,g4⟩:=qy ht hc2 g1;obtain⟨g5,g6⟩:=qhX horc g4 g3
 have fin:∀{vs:Array MapEntry} {m:Option AV},(a.eval x' = .map none∧vs = #[])∨(∃b clk,a.eval x' = .map (some b)∧w.heap[b]?=some (.map vs clk))->ZC ok z m (fun v=>k v h)->
   ((m=none∧Instr.findNow (jX kd) (a.eval i') vs.toList 0=some none)∨∃v n u,m=some v∧VR σ ρ v u∧Instr.findNow (jX kd) (a.eval i') vs.toList 0=some (some (n,u)))->Res P σ ρ B h w (execOp a.eval o) k:=by
  intro vs m hx ha hf;rcases hf with⟨rfl,hf⟩|⟨v,n,u,rfl,hv,hf⟩
  ·cases ok
   ·refine Res.pure r (v:=z) ha (v':=zv) ?_ h8;simp[execOp,ho,Z3 h4 h5 hx g5 hf h6 h7]
   ·refine Res.pure r (v:=.tup [z,.b false]) ha (v':=.tuple #[zv,.bool false]) ?_ (.tup _ _ (.cons _ _ _ _ h8 (.cons _ _ _ _ (.b _) .nil)));simp[execOp,ho,Z3 h4 h5 hx g5 hf h6 h7]
  ·cases ok
   ·refine Res.pure r (v:=v) ha (v':=u) ?_ hv;simp[execOp,ho,Z4 h4 h5 hx g5 hf]
   ·refine Res.pure r (v:=.tup [v,.b true]) ha (v':=.tuple #[u,.bool true]) ?_ (.tup _ _ (.cons _ _ _ _ hv (.cons _ _ _ _ (.b _) .nil)));simp[execOp,ho,Z4 h4 h5 hx g5 hf]
 cases u<;>try exact g6.elim
 ·exact fin (.inl ⟨g2.un_nilm,rfl⟩) g6 (.inl ⟨rfl,rfl⟩)
 ·rename_i b;obtain⟨es,e1,e0,e2⟩:=qaW g6;obtain⟨L,e3,e4,e5⟩:=g2.un_map;obtain⟨e6,ob,e7,e9⟩:=r.maps b L es e3 e1;obtain⟨vs,clk,rfl,e8⟩:=e9.map e0;rcases qeN horc g4 g5 0 e8 e2 with⟨f1,f2⟩|⟨v,m,u,f1,f2,f3⟩
  ·exact fin (.inr ⟨_,clk,e5,e7⟩) f1 (.inl ⟨rfl,f2⟩)
  ·exact fin (.inr ⟨_,clk,e5,e7⟩) f1 (.inr ⟨v,m,u,rfl,f2,f3⟩)

theorem qfl(horc:OrcOk P σ orc)(r:Rel σ ρ B h w)(ht:TR σ ρ t a.tmps){kd:Option IntKind}{x i v:O}{x' i' v':Operand}{ty:TypeId}(ho:o.op = .mapUpdate ty x' i' v'∨o.op = .insert ty x' i' v')(hc1:qo x' x=true)(hc2:qo i' i=true)(hc3:qo v' v=true)
  (h1:QL P ty kd=true) (hk:opK orc (.updM kd x i v) t h k):Res P σ ρ B h w (execOp a.eval o) k:=by
 obtain⟨key,elem,h3,h4,h5⟩:=ZT h1;obtain⟨u,g1,g2⟩:=qy ht hc1 hk;obtain⟨iv,g3,g4⟩:=qy ht hc2 g1;obtain⟨vv,g7,g8⟩:=qy ht hc3 g3;obtain⟨g5,g6⟩:=qhX horc g4 g7;cases u<;>try exact g6.elim
 rename_i b;obtain⟨es,e1,e0,e2⟩:=qaW g6;obtain⟨L,e3,e4,e5⟩:=g2.un_map;obtain⟨e6,ob,e7,e9⟩:=r.maps b L es e3 e1;obtain⟨vs,clk,rfl,e8⟩:=e9.map e0
 have exec:∀{w':World},(Instr.mapUpdate ty (a.eval x') (a.eval i') (a.eval v')).run P w = .ok () w'->(execOp a.eval o).run P w = .ok .skip w':=by
  intro w' hr;rcases ho with ho|ho<;>simp[execOp,ho,hr]
 have hu:iv≠.undef∧∀r,iv≠.lp r:=⟨by rintro rfl;exact g7.elim,by rintro r rfl;exact g7.elim⟩
 rcases qi4 horc hu g4 g8 g5 0 e8 e2 with⟨es',f1,f0,f2,f3⟩|⟨es',j,e,f1,f0,f2,f3,f4,f5⟩
 ·obtain⟨f6,f7⟩:=(zf _ _ _ _).1 f1;obtain⟨r1,k1⟩:=r.putMap (w':={ w with heap:=w.heap.setIfInBounds L.blk (.map (vs.push ⟨a.eval i',a.eval v',clk⟩) (clk+1)) }) e3 e1 f6 e7 (.inl ⟨f0 e0,_,_,rfl,by rw[Array.toList_push];exact f3 clk⟩) rfl ⟨rfl,rfl⟩
  refine⟨.undef,undef,_,_,_,f7,.inr ⟨exec ?_,rfl⟩,.undef _,r1,k1⟩;simp[Instr.mapUpdate,qi h4,e5,MapKept.run_getObj_map e7,MapKept.run_checkKey h5 g5,MapKept.run_findKey h5 f2,MapKept.run_setObj_map _ e7]
 ·obtain⟨f6,f7⟩:=(zf _ _ _ _).1 f1
  have hm:(vs.modify j fun e=>{ e with key:=a.eval i',val:=a.eval v' }).toList=vs.toList.set j { e with key:=a.eval i',val:=a.eval v' }:=by
   have hj:vs[j]?=some e:=by simpa using f2
   have hlt:j<vs.size:=(Array.getElem?_eq_some_iff.1 hj).1;apply List.ext_getElem?;intro n;rw[List.getElem?_set,Array.getElem?_toList,Array.getElem?_modify]
   by_cases hn:j=n
   ·subst hn;simp only[hlt,Array.length_toList,if_true,hj,Option.map_some]
   ·simp only[hn,if_false,Array.getElem?_toList]
  obtain⟨r1,k1⟩:=r.putMap (w':={ w with heap:=w.heap.setIfInBounds L.blk (.map (vs.modify j fun e=>{ e with key:=a.eval i',val:=a.eval v' }) clk) }) e3 e1 f6 e7 (.inl ⟨f0 e0,_,_,rfl,by rw[hm];exact f5⟩) rfl ⟨rfl,rfl⟩
  refine⟨.undef,undef,_,_,_,f7,.inr ⟨exec ?_,rfl⟩,.undef _,r1,k1⟩;have hj:vs[j]?=some e:=by simpa using f2
  have f3':Instr.findNow (jX kd) (a.eval i') vs.toList 0=some (some (j,e.val)):=by simpa using f3
  simp[Instr.mapUpdate,qi h4,e5,MapKept.run_getObj_map e7,MapKept.run_checkKey h5 g5,MapKept.run_findKey h5 f3',hj,Instr.keyThatStays,qgp g5 f4,MapKept.run_setObj_map _ e7]

theorem qko(r:Rel σ ρ B h w)(ht:TR σ ρ t a.tmps){x:O}{y:Operand}{ty:TypeId}{args:Array TypeId}{ops:Array Operand}(ho:o.op = .call ⟨.builtin .len,ops,args⟩)(hops:ops.toList=[y])(hr:args[0]?=some ty)(h1:(QF P ty).isSome=true)(hc:qo y x=true)(hk:opK orc (.lenM x) t h k):Res P σ ρ B h w (execOp a.eval o) k:=by
 obtain⟨v,h2,h3⟩:=qy ht hc hk;obtain rfl:ops = #[y]:=by cases ops;simpa using hops
 obtain⟨⟨key,elem⟩,hm⟩:=Option.isSome_iff_exists.1 h1;have hu:=QS hm;cases v<;>try exact h2.elim
 ·have e':=h3.un_nilm;exact Res.pure r (v:=.i .i64 0) h2 (by simp[execOp,ho,resolve,invoke,builtin,Builtin.len_,hr,qi hu,e',goInt]) (.i _ _)
 ·rename_i b;obtain⟨es,e1,e0,e2⟩:=qaW h2;obtain⟨L,e3,e4,e5⟩:=h3.un_map;obtain⟨e6,ob,e7,e11⟩:=r.maps b L es e3 e1;obtain⟨vs,clk,rfl,e8⟩:=e11.map e0;have e9:=(ZI _ _).1 e2;have e10:vs.size=es.length:=by have:=e8.1;simpa using this.symm
  exact Res.pure r (v:=.i .i64 (Int.ofNat es.length)) e9 (by simp[execOp,ho,resolve,invoke,builtin,Builtin.len_,hr,qi hu,e5,goInt,MapKept.run_getObj_map e7,e10]) (.i _ _)

theorem qnp(r:Rel σ ρ B h w)(ht:TR σ ρ t a.tmps){x y:O}{x' y':Operand}{args:Array TypeId}{ops:Array Operand}(ho:o.op = .call ⟨.builtin .min,ops,args⟩)(hops:ops.toList=[x',y'])(hc:qo x' x=true)(hc2:qo y' y=true)(hk:opK orc (.min x y) t h k):Res P σ ρ B h w (execOp a.eval o) k:=by
 obtain⟨u,h1,h2⟩:=qy ht hc hk;obtain⟨v,h3,h4⟩:=qy ht hc2 h1;obtain rfl:ops = #[x',y']:=by cases ops;simpa using hops
 obtain⟨q,n,h5,h6⟩:=qcA h2 h3;obtain⟨q',m,h7,h8⟩:=qcA h4 h6
 have hrun:(execOp a.eval o).run P w = .ok (.value (.int q (if m<n then m else n))) w:=by
  simp[execOp,ho,resolve,invoke,builtin,Builtin.min_,Builtin.min2,h5,h7]
 rw[wb] at h8
 by_cases hlt:m<n
 ·simp only[hlt,decide_true] at h8;exact Res.pure r h8 (by rw[hrun,if_pos hlt]) (.i _ _)
 ·simp only[hlt,decide_false] at h8;exact Res.pure r h8 (by rw[hrun,if_neg hlt]) (.i _ _)

theorem qgn(r:Rel σ ρ B h w)(ht:TR σ ρ t a.tmps){x:O}{y:Operand}{ty:TypeId}(ho:o.op = .range ty y)(hc:qo y x=true)(hs:zX P ty=true)(hk:opK orc (.rangeS x) t h k):Res P σ ρ B h w (execOp a.eval o) k:=by
 obtain⟨v,h1,h2⟩:=qy ht hc hk;cases v<;>try exact h1.elim
 rename_i l;have e':=h2.un_s;have h3:k (.ptr h.sz 0) (h.push (.map (zu l 0))):=(qS h (.map (zu l 0)) (fun b h'=>k (.ptr b 0) h')).1 h1
 obtain⟨r1,k1⟩:=r.newMap (w':=w.alloc (.stringIter ⟨l.toArray⟩ 0)) (es0:=zu l 0) (.inr (.inl ⟨l,0,rfl,rfl⟩)) rfl ⟨rfl,rfl⟩;refine⟨.ptr h.sz 0,.pointer (some ⟨w.heap.size,0,none⟩),_,_,w.alloc (.stringIter ⟨l.toArray⟩ 0),h3,.inl ?_,.ptr _ _ _ (Ren.add_self _ _ _),r1,k1⟩;have hn:(newObj (.stringIter ⟨l.toArray⟩ 0)).run P w = .ok w.heap.size (w.alloc (.stringIter ⟨l.toArray⟩ 0)):=rfl;simp[execOp,ho,Instr.range,qi (zh hs),e',hn]

omit [Cur] in
theorem kR{r:Nat}{s:ByteArray}{n:Nat}(hb:w.heap[r]?=some (.stringIter s n)):(getObj r).run P w = .ok (.stringIter s n) w:=by
 simp[getObj,Sem.run,hb]
omit [Cur] in
theorem qaa{r:Nat}{s:ByteArray}{n:Nat}(o:Obj)(hb:w.heap[r]?=some (.stringIter s n)):(setObj r o).run P w = .ok () { w with heap:=w.heap.setIfInBounds r o }:=by
 simp[setObj,Sem.run,hb]
omit [Cur] in
theorem Zb{l:List UInt8}{n:Nat}{c:UInt8}(h:l[n]?=some c)(hc:c.toNat<128):Utf8.decode ⟨l.toArray⟩ n=(c.toNat,1):=by
 have hn:n<l.length:=(zzS.1 h).1
 have hg:(ByteArray.mk l.toArray).get! n=c:=by
  show (l.toArray)[n]! = c;rw[getElem!_def,List.getElem?_toArray,h]
 simp only[Utf8.decode,Nat.add_zero,hg];rw[if_pos (by omega)]
theorem qie(r:Rel σ ρ B h w)(ht:TR σ ρ t a.tmps){x:O}{y:Operand}(ho:o.op = .next y true)(hc:qo y x=true)(hk:opK orc (.nextS x) t h k):Res P σ ρ B h w (execOp a.eval o) k:=by
 obtain⟨v,h1,h2⟩:=qy ht hc hk;cases v<;>try exact h1.elim
 rename_i b o'
 have h1':qd (Nat.beq o' 0) (qbK h b (fun a n=>match a[n]? with
  | some c=>Bool.rec (motive:=fun _=>Prop)
    (xa h b (.map (zu a (Nat.add n (Utf8.decode ⟨a.toArray⟩ n).2))) (fun h'=>k (.tup [.b true,.i .i64 (Int.ofNat n),.i .i32 (Int.ofNat (Utf8.decode ⟨a.toArray⟩ n).1)]) h'))
    (qf (Nat.succ n) (fun m=>xa h b (.map (zu a m)) (fun h'=>k (.tup [.b true,.i .i64 (Int.ofNat n),.i .i32 (Int.ofNat c.toNat)]) h')))
    (Nat.ble (Nat.succ c.toNat) 128)
  | none=>k (.tup [.b false]) h)):=h1
 obtain⟨h3,h4⟩:=(qa _ _).1 h1';obtain rfl:=Nat.eq_of_beq_eq_true h3;obtain⟨l,n,h5,h6⟩:=y1.1 h4;obtain⟨L,e1,e2⟩:=h2.un_ptr;obtain⟨e3,ob,e4,e5⟩:=r.maps b L _ e1 h5;obtain rfl:=e5.iter;have e6:a.eval y = .pointer (some ⟨L.blk,0,none⟩):=by rw[e2,e3]
 cases hn:l[n]? with
 | none =>
  rw[hn] at h6;have hlen:¬n<(⟨l.toArray⟩:ByteArray).size:=by rw[yT];simpa using hn
  refine Res.pure r (v:=.tup [.b false]) h6 (v':=.tuple #[.bool false]) ?_ (.tup _ _ (.cons _ _ _ _ (.b _) .nil));simp[execOp,ho,Instr.next,e6,kR e4,hlen]
 | some c =>
  rw[hn] at h6;have hlen:n<(⟨l.toArray⟩:ByteArray).size:=by rw[yT];exact (zzS.1 hn).1
  have h7:xa h b (.map (zu l (n+(Utf8.decode ⟨l.toArray⟩ n).2))) (fun h'=>k (.tup [.b true,.i .i64 (Int.ofNat n),.i .i32 (Int.ofNat (Utf8.decode ⟨l.toArray⟩ n).1)]) h'):=by
   have h6':(Bool.rec (motive:=fun _=>Prop)
    (xa h b (.map (zu l (Nat.add n (Utf8.decode ⟨l.toArray⟩ n).2))) (fun h'=>k (.tup [.b true,.i .i64 (Int.ofNat n),.i .i32 (Int.ofNat (Utf8.decode ⟨l.toArray⟩ n).1)]) h'))
    (qf (Nat.succ n) (fun m=>xa h b (.map (zu l m)) (fun h'=>k (.tup [.b true,.i .i64 (Int.ofNat n),.i .i32 (Int.ofNat c.toNat)]) h')))
    (Nat.ble (Nat.succ c.toNat) 128):Prop):=h6
   cases hb:Nat.ble (Nat.succ c.toNat) 128 with
   | false=>rw[hb] at h6';exact h6'
   | true =>
    rw[hb] at h6';have h8:=(Iff.of_eq (qj _ _)).1 h6';have:=Nat.le_of_ble_eq_true hb;rw[Zb hn (by omega)];exact h8
  obtain⟨f6,f7⟩:=(zf _ _ _ _).1 h7;obtain⟨r1,k1⟩:=r.putMap (w':={ w with heap:=w.heap.setIfInBounds L.blk (.stringIter ⟨l.toArray⟩ (n+(Utf8.decode ⟨l.toArray⟩ n).2)) }) e1 h5 f6 e4 (.inr (.inl ⟨l,_,rfl,rfl⟩)) rfl ⟨rfl,rfl⟩;refine⟨_,.tuple #[.bool true,.int .i64 n,.int .i32 (Utf8.decode ⟨l.toArray⟩ n).1],_,_,_,f7,.inl ?_,.tup _ _ (.cons _ _ _ _ (.b _) (.cons _ _ _ _ (.i _ _) (.cons _ _ _ _ (.i _ _) .nil))),r1,k1⟩;simp[execOp,ho,Instr.next,e6,kR e4,hlen,qaa _ e4,goInt]
end ops
section ops
variable {B:Nat->Prop} {h:Hp} {w:World} {a:Act} {t:Tr AV} {orc:Orc} {k:AV->Hp->Prop} {o:Oper}

omit [Cur] in
theorem xV{b:Nat}:∀{ps:List Nat} {p:Prop},zW t b ps p->p∧∀q ∈ ps,(∃b' o',t.get q=some (.ptr b' o')∧b'≠b)∨∃cs o',t.get q=some (.pf cs o')
 | [],p,h=>⟨h,(by intro q hq;cases hq)⟩
 | q::ps,p,h=>by
  have h':t.getK q (fun y=>match y with | .ptr b' _=>qd (not (Nat.beq b' b)) (zW t b ps p) | .pf _ _=>zW t b ps p|_=>False):=h
  obtain⟨y,h1,h2⟩:=(Tr.getK_iff _ _ _).1 h';cases y<;>try exact h2.elim
  ·rename_i b' o';obtain⟨h3,h4⟩:=(qa _ _).1 h2;obtain⟨h5,h6⟩:=xV h4;refine⟨h5,fun q' hq=>?_⟩
   rcases List.mem_cons.1 hq with rfl|hq
   ·refine .inl ⟨b',o',h1,?_⟩;rintro rfl;simp at h3
   ·exact h6 q' hq
  ·obtain⟨h5,h6⟩:=xV h2;refine⟨h5,fun q' hq=>?_⟩
   rcases List.mem_cons.1 hq with rfl|hq
   ·exact .inr ⟨_,_,h1⟩
   ·exact h6 q' hq
omit [Cur] in
theorem qdI{ps:List Nat}{s:AV}{p:Prop}(h:jI t ps s p):p:=by
 cases s<;>first|exact h|exact h.elim|exact (xV h).1
omit [Cur] in
theorem qcE{esz bytes:Nat}{s x:O}{ps:List Nat}(hk:opK orc (.appD esz bytes s x ps) t h k):opK orc (.app esz bytes true s x) t h k:=by
 obtain⟨v,h1,h2⟩:=ql t s _ hk;obtain⟨u,h3,h4⟩:=ql t x _ h1;exact h2 (fun s=>evK t x (fun x=>kS h esz bytes true s x k)) (h4 (fun x=>kS h esz bytes true v x k) (qdI h3))
theorem qd4(horc:OrcOk P σ orc)(r:Rel σ ρ B h w)(ht:TR σ ρ t a.tmps){b:Builtin}{args:Array Operand}{argTypes:Array TypeId}{io:IOp}(ho:o.op = .call ⟨.builtin b,args,argTypes⟩)(hc:wH P b argTypes args.toList io=true)(hk:opK orc io t h k):Res P σ ρ B h w (execOp a.eval o) k:=by
 unfold wH at hc;split at hc
 ·rename_i y n hops;cases ha:argTypes[0]? with
  | none=>simp[ha] at hc
  | some ty =>
   simp only[ha,Option.bind_some] at hc;split at hc
   ·rename_i m e he;exact qf2 r ho hops ha he (by simpa using hc) hk
   ·cases hc
 ·rename_i x str y hops;simp only[Bool.and_eq_true] at hc;cases ha:argTypes[0]? with
  | none=>simp[ha] at hc
  | some ty =>
   simp only[ha] at hc;exact qng horc r ht ho hops ha hc.2 hc.1 hk
 ·rename_i x y hops;simp only[Bool.and_eq_true] at hc;cases ha:argTypes[0]? with
  | none=>simp[ha] at hc
  | some ty =>
   simp only[ha,Option.bind_some] at hc;exact qko r ht ho hops ha hc.2 hc.1 hk
 ·rename_i x y hops;simp only[Bool.and_eq_true] at hc;cases ha:argTypes[0]? with
  | none=>simp[ha] at hc
  | some ty =>
   simp only[ha] at hc;exact qmv r ht ho hops ha hc.2 hc.1 hk
 ·rename_i s x esz bytes consume s' x' hops;simp only[Bool.and_eq_true] at hc;cases h0:argTypes[0]? with
  | none=>simp[h0] at hc
  | some ts =>
   cases h1:argTypes[1]? with
   | none=>simp[h0,h1] at hc
   | some tx =>
    simp only[h0,h1] at hc;obtain⟨⟨hc1,hc2⟩,hc3⟩:=hc;cases he:qR P ts with
    | none=>simp[he] at hc3
    | some e =>
     simp only[he,Bool.and_eq_true] at hc3;obtain⟨⟨⟨hs,hb⟩,hz⟩,hx⟩:=hc3;split at hz<;>try (cases hz;done)
     rename_i i hi;split at hz<;>try (cases hz;done)
     rename_i z hzz
     have hx':P.underlying tx=some .string∨∃e,P.underlying tx=some (.slice e):=by
      rw[Bool.or_eq_true] at hx;rcases hx with hx|hx
      ·exact .inl (zh hx)
      ·obtain⟨e,hx⟩:=Option.isSome_iff_exists.1 hx;exact .inr ⟨e,qK hx⟩
     exact qd1 horc.atoms r ht ho hops h0 h1 he hx' hs hb hi hzz (by simpa using hz) hc1 hc2 hk
 ·rename_i s x esz bytes s' x' hops;simp only[Bool.and_eq_true] at hc;cases h0:argTypes[0]? with
  | none=>simp[h0] at hc
  | some ts =>
   cases h1:argTypes[1]? with
   | none=>simp[h0,h1] at hc
   | some tx =>
    simp only[h0,h1] at hc;obtain⟨⟨hc1,hc2⟩,hc3⟩:=hc;cases he:qR P ts with
    | none=>simp[he] at hc3
    | some e =>
     simp only[he,Bool.and_eq_true] at hc3;obtain⟨⟨⟨hs,hb⟩,hz⟩,hx⟩:=hc3;split at hz<;>try (cases hz;done)
     rename_i i hi;split at hz<;>try (cases hz;done)
     rename_i z hzz
     have hx':P.underlying tx=some .string∨∃e,P.underlying tx=some (.slice e):=by
      rw[Bool.or_eq_true] at hx;rcases hx with hx|hx
      ·exact .inl (zh hx)
      ·obtain⟨e,hx⟩:=Option.isSome_iff_exists.1 hx;exact .inr ⟨e,qK hx⟩
     exact qd1 horc.atoms r ht ho hops h0 h1 he hx' hs hb hi hzz (by simpa using hz) hc1 hc2 (orc:=orc) (consume:=true) hk
 ·rename_i s x esz bytes s' x' ps hops;simp only[Bool.and_eq_true] at hc;cases h0:argTypes[0]? with
  | none=>simp[h0] at hc
  | some ts =>
   cases h1:argTypes[1]? with
   | none=>simp[h0,h1] at hc
   | some tx =>
    simp only[h0,h1] at hc;obtain⟨⟨hc1,hc2⟩,hc3⟩:=hc;cases he:qR P ts with
    | none=>simp[he] at hc3
    | some e =>
     simp only[he,Bool.and_eq_true] at hc3;obtain⟨⟨⟨hs,hb⟩,hz⟩,hx⟩:=hc3;split at hz<;>try (cases hz;done)
     rename_i i hi;split at hz<;>try (cases hz;done)
     rename_i z hzz
     have hx':P.underlying tx=some .string∨∃e,P.underlying tx=some (.slice e):=by
      rw[Bool.or_eq_true] at hx;rcases hx with hx|hx
      ·exact .inl (zh hx)
      ·obtain⟨e,hx⟩:=Option.isSome_iff_exists.1 hx;exact .inr ⟨e,qK hx⟩
     exact qd1 horc.atoms r ht ho hops h0 h1 he hx' hs hb hi hzz (by simpa using hz) hc1 hc2 (orc:=orc) (consume:=true) (qcE hk)
 ·rename_i s x esz bytes z s' x' hops;simp only[Bool.and_eq_true] at hc;cases h0:argTypes[0]? with
  | none=>simp[h0] at hc
  | some ts =>
   cases h1:argTypes[1]? with
   | none=>simp[h0,h1] at hc
   | some tx =>
    simp only[h0,h1] at hc;obtain⟨⟨hc1,hc2⟩,hc3⟩:=hc;cases he:qR P ts with
    | none=>simp[he] at hc3
    | some e =>
     simp only[he,Bool.and_eq_true] at hc3;obtain⟨⟨⟨hs,hb⟩,hz⟩,hx⟩:=hc3;exact qjd r ht ho hops h0 h1 he hx hs hb hz hc1 hc2 hk
 ·rename_i d s esz d' s' hops;simp only[Bool.and_eq_true] at hc;cases h0:argTypes[0]? with
  | none=>simp[h0] at hc
  | some td =>
   simp only[h0,Option.bind_some] at hc;obtain⟨⟨⟨hc1,hc2⟩,hc4⟩,hc3⟩:=hc;split at hc3<;>try (cases hc3;done)
   rename_i e he;exact qjM horc.atoms r ht ho hops h0 hc4 he hc3 hc1 hc2 hk
 ·rename_i x y x' y' hops;simp only[Bool.and_eq_true] at hc;exact qnn r ht ho hops hc.1 hc.2 hk
 ·rename_i x y x' y' hops;simp only[Bool.and_eq_true] at hc;exact qnp r ht ho hops hc.1 hc.2 hk
 ·rename_i x z y hops;simp only[Bool.and_eq_true] at hc;cases h0:argTypes[0]? with
  | none=>simp[h0] at hc
  | some td =>
   simp only[h0,Option.bind_some] at hc;obtain⟨hc1,hc3⟩:=hc;split at hc3<;>try (cases hc3;done)
   rename_i e he;exact qhd horc.atoms r ht ho hops h0 he hc3 hc1 hk
 ·cases hc

omit [Cur] in
theorem Zv{n:Nat}{x v:O}{ps:List Nat}(hk:opK orc (.storeD n x v ps) t h k):opK orc (.store n x v) t h k:=by
 obtain⟨p,h1,h2⟩:=ql t x _ hk;cases p<;>try exact h1.elim
 exact h2 _ (xV h1).1
theorem qqs(horc:OrcOk P σ orc)(r:Rel σ ρ B h w)(ht:TR σ ρ t a.tmps){io:IOp}(hc:Q9 P o.op io=true)(hk:opK orc io t h k):Res P σ ρ B h w (execOp a.eval o) k:=by
 generalize ho:o.op=oo at hc;unfold Q9 at hc;split at hc
 ·exact qid r ht (.inl ho) hc hk
 ·exact qid r ht (.inr ho) hc hk
 ·simp only[Bool.and_eq_true] at hc;exact qkQ r ht ho hc.1.1 hc.1.2 hc.2 hk
 ·exact qgE r ho hc hk
 ·exact qml horc.atoms r ht ho hc hk
 ·simp only[Bool.and_eq_true] at hc;exact qgV horc.atoms r ht ho hc.1 hc.2 hk
 ·simp only[Bool.and_eq_true] at hc;obtain⟨hn,hc⟩:=hc;split at hc<;>try (cases hc;done)
  rename_i e he;simp only[Bool.and_eq_true] at hc;obtain⟨⟨h1,h2⟩,h3⟩:=hc;split at h3<;>try (cases h3;done)
  rename_i j hj;obtain rfl:=eq_of_beq hn;exact qfy horc.atoms r ht ho he h1 (by simpa using h2) hj h3 hk
 ·simp only[Bool.and_eq_true,Bool.not_eq_true'] at hc;exact qh2 r ht ho hc.1.1 hc.1.2 hc.2 hk
 ·simp only[Bool.and_eq_true] at hc;exact qh4 r ht ho hc.1.1 hc.1.2 hc.2 hk
 ·simp only[Bool.and_eq_true] at hc;exact qdQ horc.atoms r ht ho hc.1.1 hc.1.2 hc.2 hk
 ·simp only[Bool.and_eq_true] at hc;exact qdQ horc.atoms r ht ho hc.1.1 hc.1.2 hc.2 (Zv hk)
 ·exact qf8 r ht ho hc hk
 ·simp only[Bool.and_eq_true,decide_eq_true_eq] at hc;obtain⟨⟨⟨rfl,h1⟩,h2⟩,_⟩:=hc;exact qmj horc r ht ho h1 h2 hk
 ·simp only[Bool.and_eq_true,Bool.not_eq_true'] at hc;exact qhq r ht (.inl ⟨rfl,hc.1.1.1⟩) ho hc.1.1.2 hc.1.2 hc.2 hk
 ·simp only[Bool.and_eq_true] at hc;exact qhq r ht (.inr ⟨rfl,hc.1.1.1⟩) ho hc.1.1.2 hc.1.2 hc.2 hk
 ·simp only[Bool.and_eq_true,Bool.or_eq_true,Bool.not_eq_true'] at hc;exact qhr r ht (.inl ⟨rfl,hc.1.1⟩) ho hc.1.2 hc.2 hk
 ·simp only[Bool.and_eq_true,Bool.or_eq_true] at hc;exact qhr r ht (.inr ⟨rfl,hc.1.1⟩) ho hc.1.2 hc.2 hk
 ·simp only[Bool.and_eq_true,Bool.not_eq_true'] at hc;exact qhp r ht (.inl ⟨rfl,hc.1.1.1⟩) ho hc.1.1.2 hc.1.2 hc.2 hk
 ·simp only[Bool.and_eq_true] at hc;exact qhp r ht (.inr ⟨rfl,hc.1.1.1⟩) ho hc.1.1.2 hc.1.2 hc.2 hk
 ·simp only[Bool.and_eq_true,decide_eq_true_eq] at hc;obtain⟨rfl,h1⟩:=hc;exact qqG r ht ho h1 hk
 ·simp only[Bool.and_eq_true] at hc;exact qhj horc r ht ho hc.1.1 hc.1.2 hc.2 hk
 ·simp only[Bool.and_eq_true] at hc;exact qhk r ht ho hc.1.1 hc.1.2 hc.2 hk
 ·simp only[Bool.and_eq_true] at hc;obtain⟨⟨h1,h2⟩,h3⟩:=hc;split at h3<;>try (cases h3;done)
  rename_i e he;exact qop r ht ho h1 h2 he h3 hk
 ·simp only[Bool.and_eq_true] at hc;obtain⟨⟨h1,h2⟩,h3⟩:=hc;split at h3<;>try (cases h3;done)
  rename_i e he;exact qme r ht ho h1 h2 he h3 hk
 ·simp only[Bool.and_eq_true] at hc;obtain⟨h1,h2⟩:=hc;split at h2<;>try (cases h2;done)
  rename_i fs hfs;split at h2<;>try (cases h2;done)
  rename_i fd hfd;simp only[Bool.and_eq_true,Bool.not_eq_true'] at h2;exact qhy r ht ho h1 hfs hfd (eq_of_beq h2.1.1) h2.1.2 h2.2 hk
 ·simp only[Bool.and_eq_true] at hc;exact qmT r ht ho hc.1 hc.2 hk
 ·simp only[Bool.and_eq_true] at hc;obtain⟨⟨h1,h2⟩,h3⟩:=hc;split at h3<;>try (cases h3;done)
  rename_i n e he;simp only[Bool.and_eq_true] at h3;obtain rfl:=eq_of_beq h3.1;exact qfU r ht ho h1 h2 he h3.2 hk
 ·simp only[Bool.and_eq_true] at hc;obtain⟨⟨h1,h2⟩,h3⟩:=hc;split at h3<;>try (cases h3;done)
  rename_i e he;exact qfV r ht ho h1 h2 he h3 hk
 ·simp only[Bool.and_eq_true] at hc;obtain⟨⟨h1,h2⟩,h3⟩:=hc;split at h3<;>try (cases h3;done)
  rename_i n e he;simp only[Bool.and_eq_true] at h3;obtain⟨⟨⟨h4,h5⟩,h6⟩,h7⟩:=h3;obtain rfl:=eq_of_beq h4;exact qkb r ht ho h1 h2 he h5 (eq_of_beq h6) h7 hk
 ·simp only[Bool.and_eq_true] at hc;exact qkc r ht ho hc.1.1 hc.1.2 hc.2 hk
 ·simp only[Bool.and_eq_true] at hc;obtain⟨⟨⟨⟨h1,h2⟩,h3⟩,h4⟩,h5⟩:=hc;split at h5<;>try (cases h5;done)
  rename_i e he;exact qk7 r ht ho h1 h2 h3 h4 he h5 hk
 ·simp only[Bool.and_eq_true] at hc;exact qgr r ht ho hc.1.1.1 hc.1.1.2 hc.1.2 hc.2 hk
 ·simp only[Bool.and_eq_true] at hc;obtain⟨⟨⟨⟨h1,h2⟩,h3⟩,h4⟩,h5⟩:=hc;split at h5<;>try (cases h5;done)
  rename_i n e he;simp only[Bool.and_eq_true] at h5;obtain rfl:=eq_of_beq h5.1;exact qk6 r ht ho h1 h2 h3 h4 he h5.2 hk
 ·simp only[Bool.and_eq_true] at hc;obtain⟨h1,h2⟩:=hc;obtain rfl:=eq_of_beq h2;exact qmN r ht ho h1 hk
 ·simp only[Bool.and_eq_true] at hc;obtain⟨⟨h1,h2⟩,h3⟩:=hc;obtain rfl:=eq_of_beq h1;exact qnq r ht ho h2 h3 hk
 ·simp only[Bool.and_eq_true] at hc;obtain⟨⟨h1,h2⟩,h3⟩:=hc;split at h3<;>try (cases h3;done)
  rename_i e he;simp only[Bool.and_eq_true] at h3;exact qns r ht ho h1 h2 he h3.1.2 h3.2 hk
 ·exact qib r ho (.inl rfl) hk
 ·exact qib r ho (.inr ⟨_,_,rfl,hc⟩) hk
 ·simp only[Bool.and_eq_true,beq_iff_eq] at hc;obtain⟨⟨⟨⟨h1,h2⟩,rfl⟩,h3⟩,h4⟩:=hc;exact qh5 horc r ht ho h1 h2 h3 h4 hk
 ·simp only[Bool.and_eq_true] at hc;exact qfl horc r ht (.inl ho) hc.1.1.1 hc.1.1.2 hc.1.2 hc.2 hk
 ·simp only[Bool.and_eq_true] at hc;exact qfl horc r ht (.inr ho) hc.1.1.1 hc.1.1.2 hc.1.2 hc.2 hk
 ·exact hk.elim
 ·simp only[Bool.and_eq_true] at hc;exact qgn r ht ho hc.1 hc.2 hk
 ·exact qie r ht ho hc hk
 ·exact qd4 horc r ht ho hc hk
 ·cases hc
end ops
end Go.Kc
end
section
namespace Go.Kc
variable [Cur]
variable {σ:Nat->Value} {ρ ρ':Ren} {P:Program} {orc:Orc}

def qcZ(nt:Nat):Option Tmp->Option Nat->Bool
 | none,none=>true
 | some a,some b=>a==b&&Nat.blt a nt
 | _,_=>false
def qhb(ops:Array Oper):Option (Nat×Bool)->Option (Nat×Bool)->Bool
 | none,none=>true
 | some (j,b),some (d,c)=>b==c&&((ops[j]?).bind (·.dst))==some d
 | _,_=>false
def qc1(P:Program)(ops:Array Oper)(nt:Nat)(o:Oper)(r:ROp):Bool:=qcZ nt o.dst r.dst&&qhb ops o.guard r.guard&&k8 P o.op r.k
def wK(P:Program)(ops:Array Oper)(nt:Nat):List Oper->List ROp->Bool
 | [],[]=>true
 | o::os,r::rs=>qc1 P ops nt o r&&wK P ops nt os rs
 | _,_=>false
def mask(o:Oper)(acc:List Nat):Nat:=o.after.toList.foldl (fun s e=>if Region.binds .any e then s ||| 2 ^ e.on ||| acc.getD e.on 0 else s) 0
def kQ:List Oper->List Nat->List Nat
 | [],acc=>acc
 | o::os,acc=>kQ os (acc++[mask o acc])
def zi:O->List Nat
 | .t n=>[n]
 | .c _=>[]
def jK(xs:List O):List Nat:=xs.flatMap zi
def wU:Option O->List Nat
 | none=>[]
 | some x=>zi x
def qaX(ps:List (Nat×Nat×O)):List Nat:=ps.flatMap fun p=>zi p.2.2
def qk:IOp->List Nat
 | .mov x | .box x | .load1 x | .loadN _ x | .nilChk x | .eqN _ _ x | .un _ x | .cvInt _ x | .cvStr x | .s2b x | .b2s x | .fAddr _ x | .fld _ _ x | .ext x _ | .len _ x | .clear _ x | .lenM x | .rangeS x | .nextS x | .cap x=>zi x
 | .pick c x y=>zi c++zi x++zi y
 | .alloc _ | .mkM | .no=>[]
 | .updM _ x i v=>zi x++zi i++zi v
 | .build _ ps | .buildS _ _ ps=>qaX ps
 | .store _ x v=>zi x++zi v
 | .storeD _ x v ps=>zi x++zi v++ps
 | .appD _ _ s x ps=>zi s++zi x++ps
 | .bin _ x y | .eqB _ x y | .eqA _ _ x y | .iAddrA _ _ x y | .iAddrS _ x y | .idxA _ _ _ x y | .idxS x y | .mkS _ _ _ x y | .app _ _ _ x y | .appF _ _ x y | .appZ _ _ _ x y | .copy _ x y | .max x y | .min x y | .lookM _ _ _ x y=>zi x++zi y
 | .slcS _ x lo hi mx | .slcA _ _ x lo hi mx=>zi x++wU lo++wU hi++wU mx
 | .slcStr x lo hi=>zi x++wU lo++wU hi
 | .mkF _ a c=>jK a++jK c
def kE:RK->List Nat
 | .op o=>qk o
 | .callF _ args=>jK args
 | .callV x args=>zi x++jK args
 | .callW _ args=>jK args
 | .callVW x args=>zi x++jK args
def vn:RK->RK
 | .op (.storeD n x v _)=>.op (.store n x v)
 | .op (.appD e y s x _)=>.op (.app e y true s x)
 | k=>k
def zI(r:ROp):List Nat:=r.dst.toList++(match r.guard with|some g=>[g.1]|none=>[])++kE (vn r.k)
def jp:RK->Bool
 | .op o=>match o with
  | .mov _ | .pick .. | .bin .. | .eqB .. | .un .. | .cvInt .. | .fAddr .. | .ext .. | .iAddrA .. | .iAddrS .. | .nilChk _ | .eqN .. | .fld .. | .min .. | .max .. | .slcStr .. | .build .. | .len _ _=>true
  | _=>false
 | _=>false
def dn(a b:ROp):Bool:=match a.dst with|some d=>(zI b).contains d|none=>false
def jg(a b:ROp):Bool :=
 match b.k with
 | .op (.storeD _ _ _ ps)=>(match a.k with
  | .op (.load1 (.t p))=>ps.contains p&&a.dst.isSome
  | .op (.loadN _ (.t p))=>ps.contains p&&a.dst.isSome
  | _=>false)
 | .op (.appD _ _ _ _ ps)=>(match a.k with
  | .op (.load1 (.t p))=>ps.contains p&&a.dst.isSome
  | .op (.loadN _ (.t p))=>ps.contains p&&a.dst.isSome
  | _=>false)
 | _=>false
def k6:RK->Bool
 | .op (.alloc _) | .op (.buildS _ _ _) | .op (.mkS _ _ _ _ _)=>true
 | _=>false
def v5:RK->Option Nat
 | .op (.storeD _ (.t p) _ _)=>some p
 | _=>none
def qaF(a b:ROp):Bool:=(k6 a.k&&(v5 b.k).isSome)&&a.dst != v5 b.k
omit [Cur] in
theorem qaG{a b:ROp}(h:qaF a b=true):k6 a.k=true∧(v5 b.k).isSome=true:=by
 unfold qaF at h;simp only[Bool.and_eq_true] at h;exact h.1
def exc(a b:ROp):Bool:=jg a b||qaF a b
def vl(a b:ROp):Bool:=dn a b||dn b a ||
 (wr a.k && !jp b.k)||(!jp a.k&&wr b.k && !exc a b)
def Za(rs:List ROp)(ms:List Nat):Nat->List ROp->Bool
 | _,[]=>true
 | j,r::rest=>(rs.take j).zipIdx.all (fun q=>!vl q.1 r||(ms.getD j 0).testBit q.2)&&Za rs ms (j+1) rest
def qiG:RK->Option Nat
 | .op (.load1 (.t p)) | .op (.loadN _ (.t p))=>some p
 | _=>none
def qm6(p:Option Nat)(u:ROp):Bool:=match u.k with
 | .op (.alloc _)=>u.dst==p&&u.guard.isNone
 | _=>false
def fresh(p:Option Nat):List ROp->Bool
 | []=>false
 | u::l=>fresh p l||(qm6 p u&&l.all fun w=>w.dst.isNone||w.dst != p)
omit [Cur] in
theorem qbD{p:Nat}:∀{l:List ROp},fresh (some p) l=true->∃(n:Nat) (z:List AV),l[n]?=some (ROp.mk (some p) (.op (.alloc z)) none)∧∀(k:Nat) (w:ROp),n<k->l[k]?=some w->w.dst≠some p
 | [],h=>by cases h
 | u::l,h=>by
  unfold fresh at h;rcases Bool.or_eq_true _ _ ▸ h with h|h
  ·obtain⟨n,z,h1,h2⟩:=qbD h;refine⟨n+1,z,by simpa using h1,fun k w hk hw=>?_⟩
   cases k with
   | zero=>omega
   | succ k=>exact h2 k w (by omega) (by simpa using hw)
  ·obtain⟨h1,h2⟩:=(Bool.and_eq_true _ _ ▸ h:qm6 (some p) u=true∧(l.all fun w=>w.dst.isNone||w.dst != some p)=true)
   unfold qm6 at h1;split at h1
   ·rename_i z hz;obtain⟨d,k,g⟩:=u;simp only[Bool.and_eq_true] at h1;obtain⟨h3,h4⟩:=h1;have h3:=eq_of_beq h3;cases g with
    | some _=>cases h4
    | none =>
     simp only at h3 hz;subst h3 hz;refine⟨0,z,rfl,fun k w hk hw=>?_⟩
     cases k with
     | zero=>omega
     | succ k =>
      have:=List.all_eq_true.1 h2 w (zzM (by simpa using hw));intro e;simp[e] at this
   ·cases h1
def qpK(rs:List ROp):Bool :=
 rs.zipIdx.all fun q=>(rs.take q.2).zipIdx.all fun r=>(!jg r.1 q.1||((rs.take q.2).drop r.2).all fun u=>u.dst.isNone||u.dst != qiG r.1.k)&&(!qaF r.1 q.1||((((rs.take q.2).drop r.2).all fun u=>u.dst.isNone||u.dst != v5 q.1.k)||fresh (v5 q.1.k) ((rs.take q.2).drop (r.2+1))))
def qca(ops:Array Oper)(rs:List ROp):Bool :=
 qpK rs &&
 (ops.toList.zipIdx.all fun p=>p.1.after.all fun e=>!Region.binds .any e||Nat.blt e.on p.2)&&Za rs (kQ ops.toList []) 0 rs
def qqi:Code->Bool
 | .goto _=>false
 | _=>true
def qw(P:Program)(nt:Nat):Code->ICode->Bool
 | _,.no=>true
 | c,.cut x=>qw P nt c x
 | .skip,.skip=>true
 | .region _ ops draw,.reg d rs=>draw==d&&wK P ops nt ops.toList rs&&(!d||(P.follows .mixedOrders&&qca ops rs))
 | .seq x y,.seq x' y'=>qw P nt x x'&&qw P nt y y'
 | .cond c x y,.cond c' x' y'=>qo c c'&&qw P nt x x'&&qw P nt y y'
 | .block id x,.blk id' x'=>id==id'&&qw P nt x x'
 | .loop x,.loop x'=>qw P nt x x'
 | .exit id,.exit id'=>id==id'
 | .ret,.ret=>true
 | .rangeFunc g ps x y,.rangeF _ g' ps' x' y'=>qo g g'&&ps.toList==ps'&&ps.toList.all (fun p=>Nat.blt p nt)&&qw P nt x x'&&qw P nt y y'&&qqi x
 | _,_=>false
def jC(P:Program):List ResultVar->List RV->Bool
 | [],[]=>true
 | .tmp n::xs,.tmp m::ys=>n==m&&jC P xs ys
 | .cell n t::xs,.cell m size agg::ys=>n==m&&xF P t==agg&&(P.underlying t).isSome&&(!agg||qD P t size)&&jC P xs ys
 | _,_=>false
def qh(P:Program)(f:Nat)(i:IFn):Bool :=
 match P.funcs[f]? with
 | some fn=>fn.name != "runtime.NumGoroutine" && (match fn.body with|some c=>qw P fn.ntmps c i.body|none=>false)&&jC P fn.results.toList i.res
 | none=>false
inductive XR:X->Exit->Prop where
 | normal:XR .normal .normal
 | exit (id:Nat):XR (.exit id) (.exit id)
 | ret:XR .ret .ret
structure Kep (n:Nat) (ρ:Ren) (B:Nat->Prop) (h:Hp) (w:World) (ρ':Ren) (h':Hp) (w':World):Prop where
 ext:∀b,b<n->ρ' b=ρ b
 szle:n<=h'.sz
 fl:h'.fl=h.fl
 akeep:∀b,b<h.fl->b<n->h'.tr.get b=h.tr.get b
 pres:∀k,B k->w'.heap[k]?=w.heap[k]?
 wle:w.heap.size<=w'.heap.size
 io:w'.os=w.os∧w'.output=w.output
 frz:∀k a,ρ.frz k=some a->ρ'.frz k=some a
 fnew:∀k a,ρ'.frz k=some a->ρ.frz k=some a∨¬B k
 nle:∀b,b<n->b<ρ.n->b<ρ'.n
omit [Cur] in
theorem Kep.refl{n:Nat}(ρ:Ren)(B:Nat->Prop){h:Hp}(hn:n<=h.sz)(w:World):Kep n ρ B h w ρ h w :=
 ⟨fun _ _=>rfl,hn,rfl,fun _ _ _=>rfl,fun _ _=>rfl,Nat.le_refl _,⟨rfl,rfl⟩,fun _ _ h=>h,fun _ _ h=>.inl h,fun _ _ h=>h⟩
omit [Cur] in
theorem Kept.kep{n:Nat}{B:Nat->Prop}{h h':Hp}{w w':World}(k:Kept ρ B h w ρ' h' w')(hn:n<=h.sz):Kep n ρ B h w ρ' h' w' :=
 ⟨fun b hb=>k.ext b (Nat.lt_of_lt_of_le hb hn),Nat.le_trans hn k.szle,k.fl,fun b hb hb'=>k.akeep b hb (Nat.lt_of_lt_of_le hb' hn),k.pres,k.wle,k.io,k.frz,k.fnew,fun _ _ h=>Nat.lt_of_lt_of_le h k.nle⟩
omit [Cur] in
theorem Kep.kept{B:Nat->Prop}{h h':Hp}{w w':World}(k:Kep h.sz ρ B h w ρ' h' w')(hn:ρ.n<=h.sz):Kept ρ B h w ρ' h' w' :=
 ⟨k.ext,k.szle,k.fl,k.akeep,k.pres,k.wle,k.io,k.frz,k.fnew,Nat.le_of_not_lt fun hh=>absurd (k.nle ρ'.n (by omega) hh) (Nat.lt_irrefl _)⟩
omit [Cur] in
theorem Kep.trans{n:Nat}{ρ ρ1 ρ2:Ren}{B:Nat->Prop}{h h1 h2:Hp}{w w1 w2:World}(k1:Kep n ρ B h w ρ1 h1 w1)(k2:Kep n ρ1 B h1 w1 ρ2 h2 w2):Kep n ρ B h w ρ2 h2 w2 :=
 ⟨fun b hb=>(k2.ext b hb).trans (k1.ext b hb),k2.szle,k2.fl.trans k1.fl,fun b hb hb'=>(k2.akeep b (k1.fl ▸ hb) hb').trans (k1.akeep b hb hb'),fun k hk=>(k2.pres k hk).trans (k1.pres k hk),Nat.le_trans k1.wle k2.wle,
  ⟨k2.io.1.trans k1.io.1,k2.io.2.trans k1.io.2⟩,fun k a h=>k2.frz k a (k1.frz k a h),fun k a h=>(k2.fnew k a h).elim (k1.fnew k a) .inr,fun b hb h=>k2.nle b hb (k1.nle b hb h)⟩
def Z6(rs:List Nat):List Deferred:=rs.map fun r=>{ target:=.collected r,args:=#[] }
def BM(B:Nat->Prop)(rs:List Nat):Nat->Prop:=fun k=>B k∨k ∈ rs
omit [Cur] in
theorem qlV(B:Nat->Prop):BM B []=B:=by funext k;simp[BM]
omit [Cur] in
theorem qlU(B:Nat->Prop)(rs rs':List Nat):BM (BM B rs) rs'=BM B (rs'++rs):=by
 funext k;simp only[BM,List.mem_append];exact propext ⟨fun h=>h.elim (fun h=>h.elim .inl fun h=>.inr (.inr h)) fun h=>.inr (.inl h),fun h=>h.elim (fun h=>.inl (.inl h)) fun h=>h.elim .inr fun h=>.inl (.inr h)⟩
structure MarksOk (w w':World) (rs:List Nat):Prop where
 nodup:rs.Nodup
 new:∀r ∈ rs,w.heap.size<=r
 at':∀r ∈ rs,w'.heap[r]?=some (.deferred (some []))
omit [Cur] in
theorem MarksOk.nil(w w':World):MarksOk w w' []:=⟨.nil,fun _ h=>absurd h (by simp),fun _ h=>absurd h (by simp)⟩
omit [Cur] in
theorem Kep.bm{n:Nat}{B:Nat->Prop}{rs:List Nat}{h h':Hp}{w w':World}(k:Kep n ρ (BM B rs) h w ρ' h' w'):Kep n ρ B h w ρ' h' w' :=
 ⟨k.ext,k.szle,k.fl,k.akeep,fun n hn=>k.pres n (.inl hn),k.wle,k.io,k.frz,fun n a h=>(k.fnew n a h).imp id fun hh hb=>hh (.inl hb),k.nle⟩
def jO(σ:Nat->Value)(Q:X->Tr AV->Hp->Prop)(nt n:Nat)(ρ:Ren)(B:Nat->Prop)(h:Hp)(w:World)(ds:List Deferred)(e:Exit)(a:Act)(w':World):Prop :=
 ∃x t' h' ρ' rs,XR x e∧Q x t' h'∧TR σ ρ' t' a.tmps∧nt<=a.tmps.size∧a.defers=Z6 rs++ds∧MarksOk w w' rs∧Rel σ ρ' (BM B rs) h' w'∧Kep n ρ B h w ρ' h' w'
theorem jO.of{Q:X->Tr AV->Hp->Prop}{nt n:Nat}{B:Nat->Prop}{h:Hp}{w:World}{ds:List Deferred}{e:Exit}{a:Act}{w':World}{x:X}{t':Tr AV}{h':Hp}(g1:XR x e)(g2:Q x t' h')(g3:TR σ ρ' t' a.tmps)(g4:nt<=a.tmps.size)(g5:a.defers=ds)(g6:Rel σ ρ' B h' w')(g7:Kep n ρ B h w ρ' h' w'):jO σ Q nt n ρ B h w ds e a w' :=
 ⟨x,t',h',ρ',[],g1,g2,g3,g4,g5,MarksOk.nil _ _,by rw[qlV];exact g6,g7⟩
def qby(P:Program)(f:Nat):Prop:=∃fn,P.funcs[f]?=some fn∧fn.name≠"runtime.NumGoroutine"∧fn.body.isSome=true
def jA(P:Program)(f:FuncId)(args:Array Value)(w:World)(R:Ending->World->Prop):Prop :=
 (qby P f∧Calls P f args w R)∨∃v w',(callFunc f args).run P w = .ok (.value v) w'∧R (.returned v) w'
omit [Cur] in
theorem jA.mono{P:Program}{f:FuncId}{args:Array Value}{w:World}{R R':Ending->World->Prop}(h:jA P f args w R)(hr:∀e w,R e w->R' e w):jA P f args w R':=by
 rcases h with⟨h1,h2⟩|⟨v,w',h1,h2⟩
 ·exact .inl ⟨h1,Calls.mono h2 hr⟩
 ·exact .inr ⟨v,w',h1,hr _ _ h2⟩
def qex(P:Program)(σ:Nat->Value)(f:Nat)(args:Array Value)(ρ:Ren)(B:Nat->Prop)(h:Hp)(w:World)(k:AV->Hp->Prop):Prop :=
 jA P f args w fun e w'=>∃v v' h' ρ',e = .returned v'∧k v h'∧VR σ ρ' v v'∧Rel σ ρ' B h' w'∧Kept ρ B h w ρ' h' w'
def qcX(_:Program)(_:Nat):Prop:=True

def Fr(ro:Option Nat):Fence:={ Fence.wide with round:=ro }
def qcC(P:Program)(σ:Nat->Value)(l:Nat)(args:Array Value)(ρ:Ren)(B:Nat->Prop)(h:Hp)(w:World)(k:AV->Hp->Prop):Prop :=
 ∃fn tmps assign body,(Instr.yield l args).run P w = .ok (.round l fn tmps assign body) w ∧
  ∀ro,RoundIn (Fr ro) 0 P l fn tmps assign body w fun e w'=>∃v v' h' ρ',e = .returned v'∧k v h'∧VR σ ρ' v v'∧Rel σ ρ' B h' w'∧Kept ρ B h w ρ' h' w'
def x8(P:Program)(σ:Nat->Value)(C:qO):Prop :=
 (∀f vs h k,C (Nat.succ f) vs h k->qcX P f∧∀ρ B w (args:Array Value),Rel σ ρ B h w->VRs σ ρ vs args.toList->qex P σ f args ρ B h w k) ∧
 ∀b vs h k,C 0 (.yl b::vs) h k->∀ρ B w (args:Array Value) L,ρ b=some L->Rel σ ρ B h w->VRs σ ρ vs args.toList->qcC P σ L.blk args ρ B h w k
omit [Cur] in
theorem qdd{ro:Option Nat}{n:Nat}{f:FuncId}{args:Array Value}{w:World}{R:Ending->World->Prop}(h:Calls P f args w R):CallsIn (Fr ro) n P f args w R:=(callsIn_wide (n:=n)).2 h

omit [Cur] in
theorem xk(a:Act)(d:Option Tmp)(v:Value):(a.put d v).tmps.size=a.tmps.size:=by
 cases d<;>simp[Act.put]
omit [Cur] in
theorem xe(a:Act)(d:Option Tmp)(v:Value):(a.put d v).defers=a.defers:=by
 cases d<;>rfl
omit [Cur] in
theorem TR.put{t:Tr AV}{a:Act}(ht:TR σ ρ t a.tmps){nt:Nat}(hn:nt<=a.tmps.size){d:Option Tmp}{d':Option Nat}(hd:qcZ nt d d'=true){v:AV}{v':Value}(hv:VR σ ρ v v'){k:Tr AV->Prop}(hk:xc t d' v k) :
  ∃t',k t'∧TR σ ρ t' (a.put d v').tmps:=by
 cases d<;>cases d'<;>simp[qcZ] at hd
 ·exact⟨t,hk,ht⟩
 ·rename_i x y;obtain⟨rfl,hlt⟩:=hd;have hk':=(Tr.setK_iff _ _ _ _).1 hk;refine⟨_,hk',fun n u hu=>?_⟩
  rw[Tr.get_set] at hu;have hlt':x<a.tmps.size:=Nat.lt_of_lt_of_le hlt hn;simp only[Act.put,Array.size_setIfInBounds];split at hu
  ·subst_vars;cases hu;exact⟨hlt',by simpa[Array.getD,hlt'] using hv⟩
  ·rename_i hne;obtain⟨h1,h2⟩:=ht n u hu;refine⟨h1,?_⟩
   have:(a.tmps.setIfInBounds x v').getD n undef=a.tmps.getD n undef:=by
    rw[Array.getD_eq_getD_getElem?,Array.getD_eq_getD_getElem?,Array.getElem?_setIfInBounds,if_neg (fun h=>hne h.symm)]
   rw[this];exact h2

theorem qdl{t:Tr AV}{a:Act}(ht:TR σ ρ t a.tmps){ops:Array Oper}{o:Oper}{g:Option (Nat×Bool)}(hg:qhb ops o.guard g=true){k:Bool->Prop}(hk:xN t g k) :
  k (Region.wanted o (yielded ops a.tmps)):=by
 cases hog:o.guard with
 | none =>
  rw[hog] at hg;cases g with
  | none=>simp only[Region.wanted,hog];exact hk
  | some _=>simp[qhb] at hg
 | some jb =>
  obtain⟨j,b⟩:=jb;rw[hog] at hg;cases g with
  | none=>simp[qhb] at hg
  | some dc =>
   obtain⟨d,c⟩:=dc;simp only[qhb,Bool.and_eq_true] at hg;obtain⟨h1,h2⟩:=hg;obtain rfl:=eq_of_beq h1;have h2':=eq_of_beq h2
   have hk':t.getK d (fun v=>match v with
    | .b x=>qz (x==b) k
    | .tup _=>k false
    | _=>False):=hk
   obtain⟨v,hv,hk2⟩:=(Tr.getK_iff _ _ _).1 hk';obtain⟨hlt,hvr⟩:=ht d v hv
   have hy:yielded ops a.tmps j=match a.tmps.getD d undef with | .bool b=>some b|_=>none:=by
    have e1:a.tmps[d]?=some (a.tmps.getD d undef):=by
     rw[Array.getD_eq_getD_getElem?,Array.getElem?_eq_getElem hlt];rfl
    simp only[yielded,h2',Option.bind_some,e1];cases a.tmps.getD d undef<;>rfl
   simp only[Region.wanted,hog,hy];cases v<;>try exact hk2.elim
   ·rename_i x;rw[hvr.un_b];rw[show ((some x==some b))=(x==b) from rfl]
    exact (Iff.of_eq (qq (x==b) k)).1 hk2
   ·obtain⟨vs,_,e⟩:=hvr.un_tup;rw[e];exact hk2

def qen(tm:Array Value):ResultVar->Sem Value
 | .tmp t=>pure (tm.getD t undef)
 | .cell a t=>do loadVar t (← asAddr (tm.getD a undef))
omit [Cur] in
theorem qbd(fn:Func)(tm:Array Value):results fn tm=(do let vs ← fn.results.mapM (qen tm);pure (if h:vs.size=1 then vs[0] else .tuple vs)):=by
 have:qen tm=(fun
  | .tmp t=>pure (tm.getD t undef)
  | .cell a t=>do loadVar t (← asAddr (tm.getD a undef))):=by
  funext x;cases x<;>rfl
 rw[this];rfl
theorem qeo{B:Nat->Prop}{h:Hp}{w:World}(r:Rel σ ρ B h w){t:Tr AV}{tm:Array Value}(ht:TR σ ρ t tm):∀(rs:List ResultVar) (is:List RV),jC P rs is=true->∀(k:List AV->Prop),xS t h is k->
  ∃vs vs',k vs∧VRs σ ρ vs vs'∧(rs.mapM (qen tm)).run P w = .ok vs' w
 | [],is,hc,k,hk=>by
  cases is with
  | nil=>exact⟨[],[],hk,.nil,by simp⟩
  | cons=>simp[jC] at hc
 | x::rs,is,hc,k,hk=>by
  cases is with
  | nil=>cases x<;>simp[jC] at hc
  | cons y is =>
   cases x with
   | tmp n =>
    cases y with
    | tmp m =>
     simp only[jC,Bool.and_eq_true] at hc;obtain⟨h1,hc⟩:=hc;obtain rfl:=eq_of_beq h1;have hk':t.getK n (fun v=>xS t h is (fun vs=>k (v::vs))):=hk
     obtain⟨v,hv,hk2⟩:=(Tr.getK_iff _ _ _).1 hk';obtain⟨vs,vs',h2,h3,h4⟩:=qeo r ht rs is hc _ hk2;refine⟨v::vs,_::vs',h2,.cons _ _ _ _ (ht n v hv).2 h3,?_⟩;rw[List.mapM_cons];simp only[Sem.run_bind,qen,Sem.run_pure,Result.andThen_ok];have h4':=h4;simp only[h4',Result.andThen_ok]
    | cell=>simp[jC] at hc
   | cell n ty =>
    cases y with
    | tmp=>simp[jC] at hc
    | cell m size agg =>
     simp only[jC,Bool.and_eq_true] at hc;obtain⟨⟨⟨⟨h1,h2⟩,h3⟩,h4⟩,hc⟩:=hc;obtain rfl:=eq_of_beq h1;have h2:=eq_of_beq h2;have hk':t.getK n (fun p=>unP p (fun b o=>Bool.rec (motive:=fun _=>Prop) (ldK h b o (fun v=>xS t h is (fun vs=>k (v::vs)))) (jw h b o size (fun cs=>xS t h is (fun vs=>k (.agg cs::vs)))) agg)):=hk
     obtain⟨p,hp,hk2⟩:=(Tr.getK_iff _ _ _).1 hk';obtain⟨b,o,L,g1,g2,g3⟩:=qeu (ht n p hp).2 hk2
     have hload:∃v v',VR σ ρ v v'∧xS t h is (fun vs=>k (v::vs))∧(loadVar ty ⟨L.blk,L.off+o,none⟩).run P w = .ok v' w:=by
      cases agg with
      | false =>
       obtain⟨v,v',g4,g5,g6⟩:=qlC r g1 g3;exact⟨v,v',g5,g4,by simp[loadVar,wD h3,h2,g6]⟩
      | true =>
       obtain⟨cs,vs,g4,g5,g6,g7⟩:=vG r g1 g3;refine⟨.agg cs,.agg vs.toArray,.agg _ _ (by simpa using g5),g4,?_⟩;have hsz:qD P ty size=true:=by simpa using h4
       simp[loadVar,wD h3,h2,qT hsz,jN g6 g7]
     obtain⟨v,v',g4,g5,g6⟩:=hload;obtain⟨vs,vs',h5,h6,h7⟩:=qeo r ht rs is hc _ g5;refine⟨v::vs,v'::vs',h5,.cons _ _ _ _ g4 h6,?_⟩;rw[List.mapM_cons];have hx:(qen tm (.cell n ty)).run P w = .ok v' w:=by simp[qen,g2,asAddr,g6]
     rw[Sem.run_bind,hx,Result.andThen_ok,Sem.run_bind,h7];rfl

theorem Q0{B:Nat->Prop}{h:Hp}{w:World}(r:Rel σ ρ B h w){t:Tr AV}{tm:Array Value}(ht:TR σ ρ t tm){fn:Func}{is:List RV}(hc:jC P fn.results.toList is=true){k:AV->Hp->Prop}(hk:xS t h is (fun vs=>k (xw vs) h)) :
  ∃v v',k v h∧VR σ ρ v v'∧(results fn tm).run P w = .ok v' w:=by
 obtain⟨vs,vs',h1,h2,h3⟩:=qeo r ht fn.results.toList is hc _ hk
 have hm:(fn.results.mapM (qen tm)).run P w = .ok vs'.toArray w:=by
  rcases hfr:fn.results with⟨l⟩;rw[List.mapM_toArray];rw[hfr] at h3;simp only[Sem.run_map,h3,Result.andThen_ok]
 have hl:=h2.length;refine⟨_,if h:vs'.toArray.size=1 then vs'.toArray[0] else .tuple vs'.toArray,h1,?_,?_⟩
 ·cases h2 with
  | nil=>simpa[xw] using VR.tup (σ:=σ) (ρ:=ρ) [] #[] .nil
  | cons v vs v' vs' h4 h5 =>
   cases h5 with
   | nil=>simpa[xw] using h4
   | cons u us u' us' h6 h7 =>
    have:xw (v::u::us) = .tup (v::u::us):=rfl;rw[this,dif_neg (by simp)];exact .tup _ _ (by simpa using VRs.cons _ _ _ _ h4 (.cons _ _ _ _ h6 h7))
 ·rw[qbd,Sem.run_bind,hm];rfl

omit [Cur] in
theorem ja{f:Nat}{fn:Func}(hf:P.funcs[f]?=some fn)(hn:fn.name≠"runtime.NumGoroutine")(hb:fn.body.isSome=true)(args:Array Value)(w:World):(callFunc f args).run P w = .ok (.enter f args) w:=by
 obtain⟨c,hc⟩:=Option.isSome_iff_exists.1 hb;simp[callFunc,hf,hn,hc]

omit [Cur] in
theorem qc0{c:Call}{io:IOp}(h:Q9 P (.defer c) io=true):io = .no:=by
 cases io<;>first|rfl|exact absurd h Bool.false_ne_true
theorem y9(horc:OrcOk P σ orc){C:qO}(hs:x8 P σ C){ro:Option Nat}{B:Nat->Prop}{h:Hp}{w:World}(r:Rel σ ρ B h w){t:Tr AV}{a:Act}(ht:TR σ ρ t a.tmps){o:Oper}{rk:RK}(hc:k8 P o.op rk=true)
  {k:AV->Hp->Prop} (hk:jY orc C rk t h k) (next:Act->World->Prop) (Q:Exit->Act->World->Prop)
  (hn:∀v v' h' ρ' w',k v h'->VR σ ρ' v v'->Rel σ ρ' B h' w'->Kept ρ B h w ρ' h' w'->next (a.put o.dst v') w'):o.wpIn (Fr ro) 0 P a w next Q:=by
 refine⟨fun _ _=>trivial,?_⟩
 generalize hoo:o.op=oo at hc;unfold k8 at hc
 have callCase:∀{f:Nat} {vs:List AV} {args:Array Value},(∀c,o.op≠.defer c)->C (Nat.succ f) vs h k->VRs σ ρ vs args.toList->((execOp a.eval o).run P w=(callFunc f args).run P w)->o.uponIn (Fr ro) 0 P a next Q ((o.semAt (Fr ro).round a.eval).run P w):=by
  intro f vs args hd h1 h2 h3;obtain⟨-,h5⟩:=hs.1 f vs h k h1;rw[Oper.semAt_eq _ _ _ hd,h3];rcases h5 ρ B w args r h2 with⟨⟨fn,g1,g2,g3⟩,h6⟩|⟨v0,w',h6,v,v',h',ρ',he,g1,g2,g3,g4⟩
  ·rw[ja g1 g2 g3,Oper.uponIn_enter];refine⟨fun hh=>(by cases hh),qdd (Calls.mono h6 ?_)⟩
   rintro e w' ⟨v,v',h',ρ',rfl,g1,g2,g3,g4⟩;exact hn v v' h' ρ' w' g1 g2 g3 g4
  ·cases he;rw[h6,Oper.uponIn_value];exact hn v _ h' ρ' w' g1 g2 g3 g4
 split at hc
 ·rename_i f args argTypes g bs;simp only[Bool.and_eq_true] at hc;obtain⟨h1,h2⟩:=hc;obtain rfl:=eq_of_beq h1;obtain⟨vs,h3,h4⟩:=QM ht h2 hk;refine callCase (fun c hh=>by rw[hoo] at hh;cases hh) h3 (args:=args.map a.eval) (by simpa using h4) ?_
  simp[execOp,hoo,resolve,Act.eval,Deferred.ofValue,invoke]
 ·rename_i x args argTypes y bs;simp only[Bool.and_eq_true] at hc;obtain⟨h1,h2⟩:=hc;obtain⟨v,h3,h4⟩:=qy ht h1 hk;obtain⟨vs,h5,h6⟩:=QM ht h2 h3;cases v<;>try exact h5.elim
  rotate_left
  ·rename_i b;obtain⟨L,h7,h8⟩:=h4.un_yl;obtain⟨fn,tmps,as',bd,q1,q2⟩:=hs.2 b vs h k h5 ρ B w (args.map a.eval) L h7 r (by simpa using h6);rw[Oper.semAt_eq _ _ _ (fun c hh=>by rw[hoo] at hh;cases hh)]
   have e1:(execOp a.eval o).run P w = .ok (.round L.blk fn tmps as' bd) w:=by
    simp[execOp,hoo,resolve,h8,Deferred.ofValue,invoke,q1]
   rw[e1,Oper.uponIn_round];refine⟨fun hh=>(by cases hh),(q2 ro).mono ?_⟩
   rintro e w' ⟨v,v',h',ρ',rfl,g1,g2,g3,g4⟩;exact hn v v' h' ρ' w' g1 g2 g3 g4
  rename_i f first cap
  obtain⟨a',c',h7,h8,h9⟩:=h4.un_fn;refine callCase (fun c hh=>by rw[hoo] at hh;cases hh) h5 (args:=a'++args.map a.eval++c') (by simpa using h7.append ((by simpa using h6:VRs σ ρ vs (args.map a.eval).toList).append h8)) ?_
  simp[execOp,hoo,resolve,h9,Deferred.ofValue,invoke]
 ·rename_i f args argTypes g bs;simp only[Bool.and_eq_true] at hc;obtain⟨h1,h2⟩:=hc;obtain rfl:=eq_of_beq h1;obtain⟨vs,h3,h4⟩:=QM ht h2 hk;refine callCase (fun c hh=>by rw[hoo] at hh;cases hh) h3 (args:=args.map a.eval) (by simpa using h4) ?_
  simp[execOp,hoo,resolve,Act.eval,Deferred.ofValue,invoke]
 ·rename_i x args argTypes y bs;simp only[Bool.and_eq_true] at hc;obtain⟨h1,h2⟩:=hc;obtain⟨v,h3,h4⟩:=qy ht h1 hk;obtain⟨vs,h5,h6⟩:=QM ht h2 h3;cases v<;>try exact h5.elim
  rotate_left
  ·rename_i b;obtain⟨L,h7,h8⟩:=h4.un_yl;obtain⟨fn,tmps,as',bd,q1,q2⟩:=hs.2 b vs h k h5 ρ B w (args.map a.eval) L h7 r (by simpa using h6);rw[Oper.semAt_eq _ _ _ (fun c hh=>by rw[hoo] at hh;cases hh)]
   have e1:(execOp a.eval o).run P w = .ok (.round L.blk fn tmps as' bd) w:=by
    simp[execOp,hoo,resolve,h8,Deferred.ofValue,invoke,q1]
   rw[e1,Oper.uponIn_round];refine⟨fun hh=>(by cases hh),(q2 ro).mono ?_⟩
   rintro e w' ⟨v,v',h',ρ',rfl,g1,g2,g3,g4⟩;exact hn v v' h' ρ' w' g1 g2 g3 g4
  rename_i f first cap
  obtain⟨a',c',h7,h8,h9⟩:=h4.un_fn;refine callCase (fun c hh=>by rw[hoo] at hh;cases hh) h5 (args:=a'++args.map a.eval++c') (by simpa using h7.append ((by simpa using h6:VRs σ ρ vs (args.map a.eval).toList).append h8)) ?_
  simp[execOp,hoo,resolve,h9,Deferred.ofValue,invoke]
 ·by_cases hd:∃c,o.op = .defer c
  ·obtain⟨c,hd⟩:=hd;rw[hoo] at hd;subst hd;have:=qc0 hc;subst this;exact hk.elim
  obtain⟨v,v',h',ρ',w',g1,g2,g3,g4,g5⟩:=qqs (o:=o) horc r ht (by rw[hoo];exact hc) hk;rw[Oper.semAt_eq _ _ _ (fun c hh=>hd ⟨c,hh⟩)]
  rcases g2 with g2|⟨g2,rfl⟩
  ·rw[g2,Oper.uponIn_value];exact hn v v' h' ρ' w' g1 g3 g4 g5
  ·rw[g2,Oper.uponIn_skip];exact hn v _ h' ρ' w' g1 g3 g4 g5
 ·cases hc

theorem Zt(horc:OrcOk P σ orc){C:qO}(hs:x8 P σ C){ro:Option Nat}{B:Nat->Prop}{h:Hp}{w:World}(r:Rel σ ρ B h w){t:Tr AV}{a:Act}(ht:TR σ ρ t a.tmps){o:Oper}{rk:RK}(hc:k8 P o.op rk=true)
  {k:AV->Hp->Prop} (hk:yM (jY orc C rk t) h k) (next:Act->World->Prop) (Q:Exit->Act->World->Prop)
  (hn:∀v v' h' ρ' w',k v h'->VR σ ρ' v v'->Rel σ ρ' B h' w'->Kept ρ B h w ρ' h' w'->(∀b,b<h.sz->h'.tr.get b=h.tr.get b)->(∀n,n<w.heap.size->w'.heap[n]?=w.heap[n]?)->(∀b L,ρ' b=some L->h.sz<=b->w.heap.size<=L.blk)->(∀k a,ρ'.frz k=some a->ρ.frz k=some a∨w.heap.size<=k)->next (a.put o.dst v') w'):o.wpIn (Fr ro) 0 P a w next Q:=by
 cases h with
 | mk sz fl tr =>
  have hk':jY orc C rk t ⟨sz,sz,tr⟩ (fun v h'=>Hp.rec (motive:=fun _=>Prop) (fun sz' _ tr'=>k v ⟨sz',fl,tr'⟩) h'):=hk
  have r1:Rel σ ρ (low w.heap.size) ⟨sz,sz,tr⟩ w:=⟨r.dom,r.cells,r.maps,r.excl,r.exclm,r.app,fun b L hb hf=>absurd (r.dom b L hb) (by simp at hf ⊢;omega),fun _ h=>h,r.frz,r.dn⟩
  refine y9 horc hs r1 ht hc hk' next Q ?_
  intro v v' h' ρ' w' g1 g2 g3 g4;cases h' with
  | mk sz' fl' tr' =>
   have e1:fl'=sz:=g4.fl;have hnew:∀b L,ρ' b=some L->sz<=b->w.heap.size<=L.blk:=fun b L hb hf=>Nat.not_lt.1 (g3.flr b L hb (by rw[e1];exact hf))
   refine hn v v' ⟨sz',fl,tr'⟩ ρ' w' g1 g2 ⟨g3.dom,g3.cells,g3.maps,g3.excl,g3.exclm,g3.app,?_,kr r.base g4.wle,g3.frz,g3.dn⟩ ⟨g4.ext,g4.szle,rfl,fun b _ hb=>g4.akeep b hb hb,fun n hn'=>g4.pres n (r.base n hn'),g4.wle,g4.io,g4.frz,fun k a h=>(g4.fnew k a h).imp id (fun hh=>xG r.base (Nat.not_lt.1 hh)),g4.nle⟩ (fun b hb=>g4.akeep b hb hb) g4.pres hnew (fun k a h=>(g4.fnew k a h).imp id Nat.not_lt.1)
   intro b L hb hf
   by_cases hlt:b<sz
   ·exact r.flr b L ((g4.ext b hlt).symm.trans hb) hf
   ·exact xG r.base (hnew b L hb (Nat.le_of_not_lt hlt))

theorem qeq(horc:OrcOk P σ orc){C:qO}(hs:x8 P σ C){ro:Option Nat}{draw:Bool}{B:Nat->Prop}{h:Hp}{w:World}(r:Rel σ ρ B h w){t:Tr AV}{a:Act}(ht:TR σ ρ t a.tmps){o:Oper}{rk:RK}(hc:k8 P o.op rk=true)
  {k:AV->Hp->Prop} (hk:Qe orc draw C rk t h k) (next:Act->World->Prop) (Q:Exit->Act->World->Prop)
  (hn:∀v v' h' ρ' w',k v h'->VR σ ρ' v v'->Rel σ ρ' B h' w'->Kept ρ B h w ρ' h' w'->next (a.put o.dst v') w'):o.wpIn (Fr ro) 0 P a w next Q:=by
 rcases (v8 _ _ _).1 hk with⟨_,hk⟩|⟨_,hk⟩
 ·exact y9 horc hs r ht hc hk next Q hn
 ·exact Zt horc hs r ht hc hk next Q (fun v v' h' ρ' w' g1 g2 g3 g4 _ _ _ _=>hn v v' h' ρ' w' g1 g2 g3 g4)

theorem yO(horc:OrcOk P σ orc){C:qO}(hs:x8 P σ C){ro:Option Nat}{nt:Nat}{ops:Array Oper}{Q:Tr AV->Hp->Prop}{K:Exit->Act->World->Prop}{ρ0:Ren}{B:Nat->Prop}{h0:Hp}{w0:World}{ds:List Deferred}
  (hK:∀a w t h ρ',Q t h->TR σ ρ' t a.tmps->nt<=a.tmps.size->a.defers=ds->Rel σ ρ' B h w->Kept ρ0 B h0 w0 ρ' h w->K .normal a w) :
  ∀(os:List Oper) (rs:List ROp) (i:Nat),wK P ops nt os rs=true->ops.toList.drop i=os->∀t h ρ w (a:Act),v4 orc false C rs Q t h->TR σ ρ t a.tmps->nt<=a.tmps.size->a.defers=ds->Rel σ ρ B h w->Kept ρ0 B h0 w0 ρ h w->
   wpOpsIn (Fr ro) 0 P ops K (List.range' i os.length) a w
 | [],rs,i,hc,hd,t,h,ρ,w,a,hk,ht,hsz,hds,r,hkept=>by
  cases rs with
  | nil=>exact hK a w t h ρ hk ht hsz hds r hkept
  | cons=>simp[wK] at hc
 | o::os,rs,i,hc,hd,t,h,ρ,w,a,hk,ht,hsz,hds,r,hkept=>by
  cases rs with
  | nil=>simp[wK] at hc
  | cons rr rs =>
   obtain⟨dst,rk,g⟩:=rr;simp only[wK,qc1,Bool.and_eq_true] at hc;obtain⟨⟨⟨hc1,hc2⟩,hc3⟩,hc⟩:=hc
   have ho:ops[i]?=some o:=by
    have:=congrArg (fun l=>l[0]?) hd
    simpa using this
   have hd':ops.toList.drop (i+1)=os:=by
    rw[← List.drop_drop,hd];rfl
   have hk':xN t g (fun go=>Bool.rec (motive:=fun _=>Prop)
    (xc t dst (.tup []) (fun t'=>v4 orc false C rs Q t' h)) (Qe orc false C rk t h (fun v h'=>xc t dst v (fun t'=>v4 orc false C rs Q t' h'))) go):=hk
   have hgo:=qdl (ops:=ops) (o:=o) ht hc2 hk';simp only[List.length_cons,List.range'_succ,wpOpsIn,ho];cases hw:Region.wanted o (yielded ops a.tmps) with
   | false =>
    rw[hw] at hgo;obtain⟨t',h1,h2⟩:=ht.put hsz hc1 (.tup [] #[] .nil) hgo;simp only[Bool.false_eq_true,if_false];exact⟨fun _ _=>trivial,yO horc hs hK os rs (i+1) hc hd' t' h ρ w _ h1 h2 (by rw[xk];exact hsz) (by rw[xe];exact hds) r hkept⟩
   | true =>
    rw[hw] at hgo;simp only[if_true];refine qeq horc hs r ht hc3 hgo _ _ ?_;intro v v' h' ρ' w' g1 g2 g3 g4;obtain⟨t',h1,h2⟩:=(ht.mono (g4.mono r.dom)).put hsz hc1 g2 g1;exact yO horc hs hK os rs (i+1) hc hd' t' h' ρ' w' _ h1 h2 (by rw[xk];exact hsz) (by rw[xe];exact hds) g3 (hkept.trans g4)

theorem jO.weaken{Q:X->Tr AV->Hp->Prop}{nt n:Nat}{ρ0:Ren}{B:Nat->Prop}{h0:Hp}{w0:World}{ds:List Deferred}{h:Hp}{w:World}(hkept:Kep n ρ0 B h0 w0 ρ h w){e:Exit}{a:Act}{w':World}(hp:jO σ Q nt n ρ B h w ds e a w'):jO σ Q nt n ρ0 B h0 w0 ds e a w':=by
 obtain⟨x,t',h',ρ',rs,h1,h2,h3,h4,h5,h6,h7,h8⟩:=hp;exact⟨x,t',h',ρ',rs,h1,h2,h3,h4,h5,⟨h6.nodup,fun r hr=>Nat.le_trans hkept.wle (h6.new r hr),h6.at'⟩,h7,hkept.trans h8⟩
theorem jO.trans{Q:X->Tr AV->Hp->Prop}{nt n:Nat}{ρ0:Ren}{B:Nat->Prop}{h0:Hp}{w0:World}{ds ds1:List Deferred}{h:Hp}{w:World}{rs:List Nat}(hkept:Kep n ρ0 B h0 w0 ρ h w)(hm:MarksOk w0 w rs)(hd:ds1=Z6 rs++ds)(hr:∀r ∈ rs,r<w.heap.size)
  {e:Exit} {a:Act} {w':World} (hp:jO σ Q nt n ρ (BM B rs) h w ds1 e a w'):jO σ Q nt n ρ0 B h0 w0 ds e a w':=by
 obtain⟨x,t',h',ρ',rs',h1,h2,h3,h4,h5,h6,h7,h8⟩:=hp;refine⟨x,t',h',ρ',rs'++rs,h1,h2,h3,h4,by rw[h5,hd,Z6,Z6,Z6,List.map_append,List.append_assoc],⟨?_,?_,?_⟩,by rw[qlU] at h7;exact h7,hkept.trans h8.bm⟩
 ·refine List.nodup_append.2 ⟨h6.nodup,hm.nodup,?_⟩;rintro r h9 r' h10 rfl;have:=h6.new r h9;have:=hr r h10;omega
 ·intro r hr';rcases List.mem_append.1 hr' with h9|h9
  ·exact Nat.le_trans hkept.wle (h6.new r h9)
  ·exact hm.new r h9
 ·intro r hr';rcases List.mem_append.1 hr' with h9|h9
  ·exact h6.at' r h9
  ·rw[h8.pres r (.inr h9)];exact hm.at' r h9
omit [Cur] in
theorem MarksOk.lt{w w':World}{rs:List Nat}(h:MarksOk w w' rs):∀r ∈ rs,r<w'.heap.size:=fun r hr=>(Array.getElem?_eq_some_iff.1 (h.at' r hr)).1

def Q4(t t':Tr AV)(ns:List Nat):Prop:=∀n ∈ ns,t'.get n=t.get n
omit [Cur] in
theorem Q4.sub{t t':Tr AV}{ns ms:List Nat}(h:Q4 t t' ns)(hs:∀n ∈ ms,n ∈ ns):Q4 t t' ms:=fun n hn=>h n (hs n hn)
omit [Cur] in
theorem jS{t t':Tr AV}{x:O}(h:Q4 t t' (zi x)):evK t' x=evK t x:=by
 cases x with
 | c v=>rfl
 | t n =>
  funext k;apply propext;show t'.getK n k↔t.getK n k;rw[Tr.getK_iff,Tr.getK_iff,h n (by simp[zi])]
omit [Cur] in
theorem wB{t t':Tr AV}:∀{xs:List O} (_:Q4 t t' (jK xs)),xh t' xs=xh t xs
 | [],_=>rfl
 | x::xs,h=>by
  have e1:=jS (x:=x) (h.sub fun n hn=>by simp[jK,hn])
  have e2:=wB (xs:=xs) (h.sub fun n hn=>by simp only[jK,List.flatMap_cons,List.mem_append] at hn ⊢;exact .inr hn)
  funext k;show evK t' x (fun v=>xh t' xs (fun vs=>k (v::vs)))=evK t x (fun v=>xh t xs (fun vs=>k (v::vs)))
  rw[e1,e2]
omit [Cur] in
theorem qgj{t t':Tr AV}{x:Option O}(h:Q4 t t' (wU x)):xR t' x=xR t x:=by
 cases x with
 | none=>rfl
 | some x =>
  funext k;show evK t' x (fun v=>k (some v))=evK t x (fun v=>k (some v))
  rw[jS h]
omit [Cur] in
theorem qaH{t t':Tr AV}:∀{ps:List (Nat×Nat×O)} (_:Q4 t t' (qaX ps)),xt t' ps=xt t ps
 | [],_=>rfl
 | p::ps,h=>by
  have e1:=jS (x:=p.2.2) (h.sub fun n hn=>by simp[qaX,hn])
  have e2:=qaH (ps:=ps) (h.sub fun n hn=>by simp only[qaX,List.flatMap_cons,List.mem_append] at hn ⊢;exact .inr hn)
  funext l k;show evK t' p.2.2 (fun v=>qd (yd v) (qf p.1 (fun off=>Qd (cellsOf v) (fun n=>qd (Nat.beq n p.2.1) (zU (cellsOf v) off l (fun l'=>xt t' ps l' k))))))=evK t p.2.2 (fun v=>qd (yd v) (qf p.1 (fun off=>Qd (cellsOf v) (fun n=>qd (Nat.beq n p.2.1) (zU (cellsOf v) off l (fun l'=>xt t ps l' k))))))
  rw[e1,e2]
omit [Cur] in
theorem kZ{t t':Tr AV}(b:Nat):∀{ps:List Nat} (_:Q4 t t' ps),zW t' b ps=zW t b ps
 | [],_=>rfl
 | q::ps,h=>by
  have e1:t'.getK q=t.getK q:=jS (x:=.t q) (t:=t) (t':=t') (fun n hn=>h n (by simp[zi] at hn;simp[hn]))
  have e2:=kZ b (ps:=ps) (h.sub fun n hn=>by simp[hn])
  funext p;show t'.getK q (fun y=>match y with | .ptr b' _=>qd (not (Nat.beq b' b)) (zW t' b ps p) | .pf _ _=>zW t' b ps p|_=>False)=t.getK q (fun y=>match y with | .ptr b' _=>qd (not (Nat.beq b' b)) (zW t b ps p) | .pf _ _=>zW t b ps p|_=>False)
  rw[e1,e2]
omit [Cur] in
theorem qiq{t t':Tr AV}{o:IOp}(h:Q4 t t' (qk o)):opK orc o t'=opK orc o t:=by
 have hv:∀x,(∀n ∈ zi x,n ∈ qk o)->evK t' x=evK t x:=fun x hx=>jS (h.sub hx)
 have ho:∀x,(∀n ∈ wU x,n ∈ qk o)->xR t' x=xR t x:=fun x hx=>qgj (h.sub hx)
 have hp:∀x,(∀n ∈ qaX x,n ∈ qk o)->xt t' x=xt t x:=fun x hx=>qaH (h.sub hx)
 have hs:∀x,(∀n ∈ jK x,n ∈ qk o)->xh t' x=xh t x:=fun x hx=>wB (h.sub hx)
 funext hh k;cases o<;>simp only[opK]
 case mov x=>rw[hv x (by simp[qk])]
 case pick c x y=>rw[hv c (by simp +contextual [qk]),hv x (by simp +contextual [qk]),hv y (by simp +contextual [qk])]
 case box x=>rw[hv x (by simp[qk])]
 case build z ps=>rw[hp ps (by simp[qk])]
 case buildS n z ps=>rw[hp ps (by simp[qk])]
 case load1 x=>rw[hv x (by simp[qk])]
 case loadN n x=>rw[hv x (by simp[qk])]
 case store n x v=>rw[hv x (by simp +contextual [qk]),hv v (by simp +contextual [qk])]
 case nilChk x=>rw[hv x (by simp[qk])]
 case bin op x y=>rw[hv x (by simp +contextual [qk]),hv y (by simp +contextual [qk])]
 case eqB neg x y=>rw[hv x (by simp +contextual [qk]),hv y (by simp +contextual [qk])]
 case eqN neg q x=>rw[hv x (by simp[qk])]
 case eqA neg ks x y=>rw[hv x (by simp +contextual [qk]),hv y (by simp +contextual [qk])]
 case un op x=>rw[hv x (by simp[qk])]
 case cvInt k x=>rw[hv x (by simp[qk])]
 case cvStr x=>rw[hv x (by simp[qk])]
 case s2b x=>rw[hv x (by simp[qk])]
 case b2s x=>rw[hv x (by simp[qk])]
 case fAddr off x=>rw[hv x (by simp[qk])]
 case fld off n x=>rw[hv x (by simp[qk])]
 case iAddrA len esz x i=>rw[hv x (by simp +contextual [qk]),hv i (by simp +contextual [qk])]
 case iAddrS esz x i=>rw[hv x (by simp +contextual [qk]),hv i (by simp +contextual [qk])]
 case idxA len esz agg x i=>rw[hv x (by simp +contextual [qk]),hv i (by simp +contextual [qk])]
 case idxS x i=>rw[hv x (by simp +contextual [qk]),hv i (by simp +contextual [qk])]
 case slcS esz x lo hi mx=>rw[hv x (by simp +contextual [qk]),ho lo (by simp +contextual [qk]),ho hi (by simp +contextual [qk]),ho mx (by simp +contextual [qk])]
 case slcStr x lo hi=>rw[hv x (by simp +contextual [qk]),ho lo (by simp +contextual [qk]),ho hi (by simp +contextual [qk])]
 case slcA len esz x lo hi mx=>rw[hv x (by simp +contextual [qk]),ho lo (by simp +contextual [qk]),ho hi (by simp +contextual [qk]),ho mx (by simp +contextual [qk])]
 case ext x i=>rw[hv x (by simp[qk])]
 case mkF f a c=>rw[hs a (by simp +contextual [qk]),hs c (by simp +contextual [qk])]
 case mkS esz bytes z len cap=>rw[hv len (by simp +contextual [qk]),hv cap (by simp +contextual [qk])]
 case len str x=>rw[hv x (by simp[qk])]
 case app esz bytes c s x=>rw[hv s (by simp +contextual [qk]),hv x (by simp +contextual [qk])]
 case copy esz d s=>rw[hv d (by simp +contextual [qk]),hv s (by simp +contextual [qk])]
 case max x y=>rw[hv x (by simp +contextual [qk]),hv y (by simp +contextual [qk])]
 case clear z x=>rw[hv x (by simp[qk])]
 case lookM kd ok z x i=>rw[hv x (by simp +contextual [qk]),hv i (by simp +contextual [qk])]
 case updM kd x i v=>rw[hv x (by simp +contextual [qk]),hv i (by simp +contextual [qk]),hv v (by simp +contextual [qk])]
 case lenM x=>rw[hv x (by simp[qk])]
 case cap x=>rw[hv x (by simp[qk])]
 case min x y=>rw[hv x (by simp +contextual [qk]),hv y (by simp +contextual [qk])]
 case rangeS x=>rw[hv x (by simp[qk])]
 case storeD n x v ps =>
  have e:=fun b=>kZ (t:=t) (t':=t') b (ps:=ps) (h.sub fun n hn=>by simp[qk,hn])
  rw[hv x (by simp +contextual [qk]),hv v (by simp +contextual [qk])];simp only[e]
 case appD esz bytes s x ps =>
  have e:=fun b=>kZ (t:=t) (t':=t') b (ps:=ps) (h.sub fun n hn=>by simp[qk,hn])
  rw[hv s (by simp +contextual [qk]),hv x (by simp +contextual [qk])];have e2:∀s p,jI t' ps s p=jI t ps s p:=fun s p=>by cases s<;>first|rfl|simp only[jI,e]
  simp only[e2]
 case appZ esz bytes z s x=>rw[hv s (by simp +contextual [qk]),hv x (by simp +contextual [qk])]
 case appF esz bytes s x=>rw[hv s (by simp +contextual [qk]),hv x (by simp +contextual [qk])]
 case nextS x=>rw[hv x (by simp[qk])]
omit [Cur] in
theorem qep{C:qO}{t t':Tr AV}{r:RK}(h:Q4 t t' (kE r)):jY orc C r t'=jY orc C r t:=by
 cases r with
 | op o=>exact qiq h
 | callF f args =>
  have e:=wB (xs:=args) h;funext hh k;show xh t' args (fun vs=>C (Nat.succ f) vs hh k)=xh t args (fun vs=>C (Nat.succ f) vs hh k)
  rw[e]
 | callV x args =>
  have e1:=jS (x:=x) (h.sub fun n hn=>by simp[kE,hn])
  have e2:=wB (xs:=args) (h.sub fun n hn=>by simp[kE,hn])
  funext hh k;simp only[jY,e1,e2]
 | callW f args =>
  have e:=wB (xs:=args) h;funext hh k;show xh t' args (fun vs=>C (Nat.succ f) vs hh k)=xh t args (fun vs=>C (Nat.succ f) vs hh k)
  rw[e]
 | callVW x args =>
  have e1:=jS (x:=x) (h.sub fun n hn=>by simp[kE,hn])
  have e2:=wB (xs:=args) (h.sub fun n hn=>by simp[kE,hn])
  funext hh k;simp only[jY,e1,e2]
omit [Cur] in
theorem qgo{C:qO}{t t':Tr AV}{draw:Bool}{r:RK}(h:Q4 t t' (kE r)):Qe orc draw C r t'=Qe orc draw C r t:=by
 funext hh k;simp only[Qe,qep h]
omit [Cur] in
theorem qdk{t t':Tr AV}{g:Option (Nat×Bool)}(h:Q4 t t' (match g with|some g=>[g.1]|none=>[])):xN t' g=xN t g:=by
 cases g with
 | none=>rfl
 | some g =>
  funext k;have e:=jS (x:=.t g.1) (t:=t) (t':=t') (fun n hn=>h n (by simpa[zi] using hn))
  have e':t'.getK g.1=t.getK g.1:=e;simp only[xN,e']
noncomputable def only(t:Tr AV):List Nat->Tr AV
 | []=>.leaf
 | n::ns=>match t.get n with|some v=>(only t ns).set n v|none=>only t ns
omit [Cur] in
theorem yK(t:Tr AV):∀(ns:List Nat) (n:Nat),(only t ns).get n=if n ∈ ns then t.get n else none
 | [],n=>by simp[only]
 | m::ns,n=>by
  simp only[only];cases h:t.get m with
  | none =>
   simp only;rw[yK t ns n]
   by_cases hn:n=m
   ·subst hn;simp[h]
   ·simp[hn]
  | some v =>
   simp only;rw[Tr.get_set,yK t ns n]
   by_cases hn:n=m
   ·subst hn;simp[h]
   ·simp[hn]

omit [Cur] in
theorem L3.b1'{α β γ δ:Type}{G:(α->β->γ->Prop)->Prop}{F:α->β->γ->(δ->Prop)->Prop}(hG:L3 G)(hF:∀x y z,L1 (F x y z)):L1 (fun k=>G (fun x y z=>F x y z k)):=fun _ h=>by
 obtain⟨x,y,z,h1,h2⟩:=hG _ h;obtain⟨u,h3,h4⟩:=hF x y z _ h1;exact⟨u,h3,fun k' hk'=>h2 _ (h4 k' hk')⟩
omit [Cur] in
theorem qkT{o:IOp}(hp:jp (.op o)=true){t:Tr AV}{h:Hp}{k:AV->Hp->Prop}(hk:opK orc o t h k):∃v,k v h∧∀h2 (k2:AV->Hp->Prop),k2 v h2->opK orc o t h2 k2:=by
 have mk:∀{G:(AV->Prop)->Prop},L1 G->G (fun v=>k v h)->∃v,k v h∧∀h2 (k2:AV->Hp->Prop),k2 v h2->G (fun v=>k2 v h2):=by
  intro G hG h1;obtain⟨v,h2,h3⟩:=hG _ h1;exact⟨v,h2,fun h2 k2 hk2=>h3 _ hk2⟩
 cases o<;>first|(simp[jp] at hp;done)|skip
 case mov x=>exact mk (ql t x) hk
 case pick c x y=>exact mk (G:=fun k=>evK t c (fun c=>unB c (fun c=>Bool.rec (motive:=fun _=>Prop) (evK t y k) (evK t x k) c))) (L1.b1 (ql t c) fun c=>L1.b1 (Zy c) fun c=>L1.br _ (ql t y) (ql t x)) hk
 case bin op x y=>exact mk (G:=fun k=>evK t x (fun x=>evK t y (fun y=>zq orc op x y k))) (L1.b1 (ql t x) fun x=>L1.b1 (ql t y) fun y=>qgN orc op x y) hk
 case eqB neg x y=>exact mk (G:=fun k=>evK t x (fun x=>evK t y (fun y=>unB x (fun x=>unB y (fun y=>qz (xor neg (x==y)) (fun r=>k (.b r))))))) (L1.b1 (ql t x) fun x=>L1.b1 (ql t y) fun y=>L1.b1 (Zy x) fun x=>L1.b1 (Zy y) fun y=>L1.b1 (zb _) fun r=>L1.ret _) hk
 case un op x=>exact mk (G:=fun k=>evK t x (fun x=>vq op x k)) (L1.b1 (ql t x) fun x=>qfk op x) hk
 case cvInt q x=>exact mk (G:=fun k=>evK t x (fun x=>cvK orc q x k)) (L1.b1 (ql t x) fun x=>qlr orc q x) hk
 case fAddr off x=>exact mk (G:=fun k=>evK t x (fun p=>QT p off k)) (L1.b1 (ql t x) fun p=>qcn _ _) hk
 case iAddrA len esz x i=>exact mk (G:=fun k=>evK t x (fun p=>evK t i (fun i=>unN i (fun i=>qd (Nat.ble (Nat.succ i) len) (QT p (Nat.mul i esz) k))))) (L1.b1 (ql t x) fun p=>L1.b1 (ql t i) fun i=>L1.b1 (kp i) fun i=>L1.wh _ (qcn _ _)) hk
 case iAddrS esz x i =>
  refine mk (G:=fun k=>evK t x (fun x=>match x with
   | .sl b o len _ _=>evK t i (fun i=>unN i (fun i=>qd (Nat.ble (Nat.succ i) len) (qf (Nat.add o (Nat.mul i esz)) (fun o'=>k (.ptr b o')))))
   | .fz len cs=>evK t i (fun i=>unN i (fun i=>qd (Nat.ble (Nat.succ i) len) (qf (Nat.mul i esz) (fun o'=>k (.pf cs o')))))
   | .own b len=>evK t i (fun i=>unN i (fun i=>qd (Nat.ble (Nat.succ i) len) (qf (Nat.mul i esz) (fun o'=>k (.ptr b o')))))
   | _=>False)) (L1.b1 (ql t x) fun x=>?_) hk
  cases x<;>dsimp only<;>first|exact L1.no|exact L1.b1 (ql t i) fun i=>L1.b1 (kp i) fun i=>L1.wh _ (L1.b1 (qA _) fun o'=>L1.ret _)
 case nilChk x =>
  refine mk (G:=fun k=>evK t x (fun v=>match v with | .ptr b o=>k (.ptr b o) | .fn f a c=>k (.fn f a c) | .map r=>k (.map r) | .pf cs o=>k (.pf cs o) | .yl b=>k (.yl b)|_=>False)) (L1.b1 (ql t x) fun x=>?_) (show evK t x (fun v=>match v with | .ptr b o=>k (.ptr b o) h | .fn f a c=>k (.fn f a c) h | .map r=>k (.map r) h | .pf cs o=>k (.pf cs o) h | .yl b=>k (.yl b) h|_=>False) from hk)
  cases x<;>dsimp only<;>first|exact L1.no|exact L1.ret _
 case eqN neg q x=>exact mk (G:=fun k=>evK t x (fun x=>zN q x (fun r=>qz (xor neg r) (fun r=>k (.b r))))) (L1.b1 (ql t x) fun x=>L1.b1 (qdp q x) fun r=>L1.b1 (zb _) fun r=>L1.ret _) hk
 case fld off n x =>
  refine mk (G:=fun k=>evK t x (fun x=>match x with
   | .agg cs=>Option.rec (motive:=fun _=>Prop) (QU cs off k) (fun n=>jR off cs (fun l=>x6 n l (fun l=>k (.agg l)))) n
   | _=>False)) (L1.b1 (ql t x) fun x=>?_) hk
  cases x<;>dsimp only<;>try exact L1.no
  cases n
  ·exact QV _ _
  ·exact L1.b1 (kw _ _) fun l=>L1.b1 (wy _ _) fun l=>L1.ret _
 case min x y=>exact mk (G:=fun k=>evK t x (fun x=>evK t y (fun y=>unI x (fun q n=>unI y (fun _ m=>Bool.rec (motive:=fun _=>Prop) (k (.i q n)) (k (.i q m)) (ltI m n)))))) (L1.b1 (ql t x) fun x=>L1.b1 (ql t y) fun y=>L2.b1 (Z8 x) fun q n=>L2.b1 (Z8 y) fun _ m=>L1.br _ (L1.ret _) (L1.ret _)) hk
 case max x y=>exact mk (G:=fun k=>evK t x (fun x=>evK t y (fun y=>unI x (fun q n=>unI y (fun _ m=>Bool.rec (motive:=fun _=>Prop) (k (.i q n)) (k (.i q m)) (ltI n m)))))) (L1.b1 (ql t x) fun x=>L1.b1 (ql t y) fun y=>L2.b1 (Z8 x) fun q n=>L2.b1 (Z8 y) fun _ m=>L1.br _ (L1.ret _) (L1.ret _)) hk
 case build z ps=>exact mk (G:=fun k=>xt t ps z (fun cs=>k (.agg cs))) (L1.b1 (Zd t ps z) fun cs=>L1.ret _) hk
 case len b x =>
  cases b with
  | false =>
   have e:∀(h:Hp) (k:AV->Hp->Prop),opK orc (.len false x) t h k=evK t x (fun y=>match y with
    | .nils=>k (.i .i64 0) h
    | .e0=>k (.i .i64 0) h
    | .nz=>k (.i .i64 0) h
    | .fz n _=>k (.i .i64 (Int.ofNat n)) h
    | .own _ n=>k (.i .i64 (Int.ofNat n)) h
    | .sl _ _ n _ _=>k (.i .i64 (Int.ofNat n)) h
    | _=>False):=by
    intro h k;show evK t x _=evK t x _
    congr 1
    funext y;cases y<;>rfl
   rw[e] at hk
   obtain⟨v,h1,h2⟩:=mk (G:=fun k=>evK t x (fun y=>match y with
    | .nils=>k (.i .i64 0)
    | .e0=>k (.i .i64 0)
    | .nz=>k (.i .i64 0)
    | .fz n _=>k (.i .i64 (Int.ofNat n))
    | .own _ n=>k (.i .i64 (Int.ofNat n))
    | .sl _ _ n _ _=>k (.i .i64 (Int.ofNat n))
    | _=>False)) (L1.b1 (ql t x) fun x=>by cases x<;>dsimp only<;>first|exact L1.no|exact L1.ret _) hk
   exact⟨v,h1,fun h3 k2 hk2=>by rw[e];exact h2 h3 k2 hk2⟩
  | true =>
   have e:∀(h:Hp) (k:AV->Hp->Prop),opK orc (.len true x) t h k=evK t x (fun y=>match y with
    | .s a=>qf a.length (fun n=>k (.i .i64 (Int.ofNat n)) h)
    | .sym j=>QX (orc.len j) (fun v=>k v h)
    | _=>False):=by
    intro h k;show evK t x _=evK t x _
    congr 1
    funext y;cases y<;>rfl
   rw[e] at hk
   obtain⟨v,h1,h2⟩:=mk (G:=fun k=>evK t x (fun y=>match y with
    | .s a=>qf a.length (fun n=>k (.i .i64 (Int.ofNat n)))
    | .sym j=>QX (orc.len j) k
    | _=>False)) (L1.b1 (ql t x) fun x=>by cases x<;>dsimp only<;>first|exact L1.no|exact L1.b1 (qA _) fun n=>L1.ret _|exact kF _) hk
   exact⟨v,h1,fun h3 k2 hk2=>by rw[e];exact h2 h3 k2 hk2⟩
 case slcStr x lo hi =>
  refine mk (G:=fun k=>evK t x (fun x=>xR t lo (fun lo=>xR t hi (fun hi=>match x with
   | .s a=>zd a.length a.length lo hi none (fun l h' _=>k (.s ((a.take h').drop l)))
   | _=>False)))) (L1.b1 (ql t x) fun x=>L1.b1 (vH t lo) fun lo=>L1.b1 (vH t hi) fun hi=>?_) hk
  cases x<;>dsimp only<;>first|exact L1.no|exact L3.b1' (x9 _ _ _ _ _) fun l h' _=>L1.ret _
 case ext x i =>
  refine mk (G:=fun k=>evK t x (fun x=>match x with | .tup cs=>QU cs i k|_=>False)) (L1.b1 (ql t x) fun x=>?_) hk
  cases x<;>dsimp only<;>first|exact L1.no|exact QV _ _

theorem Rel.join{ρ1 ρ2:Ren}{B:Nat->Prop}{h h2:Hp}{w w':World}(r1:Rel σ ρ1 B h w)(r2:Rel σ ρ2 B h2 w')(hw:∀n,n<w.heap.size->w'.heap[n]?=w.heap[n]?)(hsz:w.heap.size<=w'.heap.size)
  (hs:h2.sz<=h.sz) (hf:h.fl=h2.fl) (hg:∀b,b<h2.sz->h.tr.get b=h2.tr.get b) (h1ρ:∀b L,ρ1 b=some L->ρ' b=some L) (h2ρ:∀b L,ρ2 b=some L->ρ' b=some L)
  (hz1:∀k a,ρ1.frz k=some a->ρ2.frz k=some a) (hzf:ρ'.frz=ρ2.frz) (hn1:ρ1.n<=ρ'.n) (hn2:ρ2.n<=ρ'.n) (hn3:ρ'.n<=h.sz) (hzn:∀k a,ρ2.frz k=some a->ρ1.frz k=some a∨w.heap.size<=k)
  (hor:∀b L,ρ' b=some L->ρ1 b=some L∨(ρ2 b=some L∧w.heap.size<=L.blk)):Rel σ ρ' B h w':=by
 have r1':=r1.world hw hsz;have r2':=r2.longer hs hf hg;have old:∀b L x,ρ1 b=some L->h.tr.get b=some x->x≠.dead->L.blk<w.heap.size:=fun b L x hb hx hd=>r1.blk_lt b L hb x hx hd
 have l1:ρ1.le ρ':=⟨h1ρ,fun k a hk=>by rw[hzf];exact hz1 k a hk,hn1⟩
 have l2:ρ2.le ρ':=⟨h2ρ,fun k a hk=>by rw[hzf];exact hk,hn2⟩
 refine⟨?_,?_,?_,?_,?_,?_,?_,r1'.base,?_,⟨hn3,fun b L hb=>(hor b L hb).elim (fun h=>r1'.dn.2 b L h) fun h=>r2.dn.2 b L h.1⟩⟩
 rotate_right
 ·intro k arr hk;rw[hzf] at hk;obtain⟨g1,g2⟩:=r2'.frz k arr hk;refine⟨g1,fun b L x hb hx hd=>?_⟩
  rcases hor b L hb with hb|⟨hb,hn⟩
  ·rcases hzn k arr hk with hk|hk
   ·exact (r1'.frz k arr hk).2 b L x hb hx hd
   ·have:=old b L x hb hx hd;omega
  ·exact g2 b L x hb hx hd
 ·intro b L hb;rcases hor b L hb with hb|⟨hb,_⟩
  ·exact r1'.dom b L hb
  ·exact r2'.dom b L hb
 ·intro b L e wf af cs hb hx;rcases hor b L hb with hb|⟨hb,_⟩
  ·obtain⟨g1,c,ty,fz,g2,g3,g4,g5,g6⟩:=r1'.cells b L e wf af cs hb hx;exact⟨g1,c,ty,fz,g2,g3,g4,fun j v hv=>let ⟨v',a,b⟩:=g5 j v hv;⟨v',a,b.mono l1⟩,g6⟩
  ·obtain⟨g1,c,ty,fz,g2,g3,g4,g5,g6⟩:=r2'.cells b L e wf af cs hb hx;exact⟨g1,c,ty,fz,g2,g3,g4,fun j v hv=>let ⟨v',a,b⟩:=g5 j v hv;⟨v',a,b.mono l2⟩,g6⟩
 ·intro b L es hb hx;rcases hor b L hb with hb|⟨hb,_⟩
  ·obtain⟨g1,ob,g2,g3⟩:=r1'.maps b L es hb hx;exact⟨g1,ob,g2,g3.mono l1⟩
  ·obtain⟨g1,ob,g2,g3⟩:=r2'.maps b L es hb hx;exact⟨g1,ob,g2,g3.mono l2⟩
 ·intro b L e af cs hb hx b' L' x hb' hx' hd he;rcases hor b L hb with hb|⟨hb,hn⟩<;>rcases hor b' L' hb' with hb'|⟨hb',hn'⟩
  ·exact r1'.excl b L e af cs hb hx b' L' x hb' hx' hd he
  ·have:=old b L _ hb hx (by simp);omega
  ·have:=old b' L' _ hb' hx' hd;omega
  ·exact r2'.excl b L e af cs hb hx b' L' x hb' hx' hd he
 ·intro b L es hb hx b' L' x hb' hx' hd he;rcases hor b L hb with hb|⟨hb,hn⟩<;>rcases hor b' L' hb' with hb'|⟨hb',hn'⟩
  ·exact r1'.exclm b L es hb hx b' L' x hb' hx' hd he
  ·have:=old b L _ hb hx (by simp);omega
  ·have:=old b' L' _ hb' hx' hd;omega
  ·exact r2'.exclm b L es hb hx b' L' x hb' hx' hd he
 ·intro b L e wf cs hb hx b' L' e' wf' af' cs' hb' hx' he;rcases hor b L hb with hb|⟨hb,hn⟩<;>rcases hor b' L' hb' with hb'|⟨hb',hn'⟩
  ·exact r1'.app b L e wf cs hb hx b' L' e' wf' af' cs' hb' hx' he
  ·have:=old b L _ hb hx (by simp);omega
  ·have:=old b' L' _ hb' hx' (by simp);omega
  ·exact r2'.app b L e wf cs hb hx b' L' e' wf' af' cs' hb' hx' he
 ·intro b L hb hh;rcases hor b L hb with hb|⟨hb,_⟩
  ·exact r1'.flr b L hb hh
  ·exact r2'.flr b L hb hh
theorem Rel.join2{ρ1 ρ2:Ren}{B B2:Nat->Prop}{h h2:Hp}{w w':World}{nb:Nat}(r1:Rel σ ρ1 B h w)(r2:Rel σ ρ2 B2 h2 w')(hw:∀n,n<w.heap.size->w'.heap[n]?=w.heap[n]?)(hsz:w.heap.size<=w'.heap.size)
  (hnb:nb<h.sz) (hg:h.tr.get nb=h2.tr.get nb) (h1ρ:∀b L,ρ1 b=some L->ρ' b=some L) (h2ρ:∀b L,ρ2 b=some L->ρ' b=some L)
  (hz1:∀k a,ρ1.frz k=some a->ρ2.frz k=some a) (hzf:ρ'.frz=ρ2.frz) (hn1:ρ1.n<=ρ'.n) (hn2:ρ2.n<=ρ'.n) (hn3:ρ'.n<=h.sz) (hzn:∀k a,ρ2.frz k=some a->ρ1.frz k=some a∨w.heap.size<=k)
  (hor:∀b L,ρ' b=some L->ρ1 b=some L∨(b=nb∧ρ2 b=some L∧w.heap.size<=L.blk)):Rel σ ρ' B h w':=by
 have r1':=r1.world hw hsz;have old:∀b L x,ρ1 b=some L->h.tr.get b=some x->x≠.dead->L.blk<w.heap.size:=fun b L x hb hx hd=>r1.blk_lt b L hb x hx hd
 have l1:ρ1.le ρ':=⟨h1ρ,fun k a hk=>by rw[hzf];exact hz1 k a hk,hn1⟩
 have l2:ρ2.le ρ':=⟨h2ρ,fun k a hk=>by rw[hzf];exact hk,hn2⟩
 have tr:∀{b x},b=nb->h.tr.get b=some x->h2.tr.get b=some x:=by
  rintro b x rfl hx;rw[← hg];exact hx
 refine⟨?_,?_,?_,?_,?_,?_,?_,r1'.base,?_,⟨hn3,fun b L hb=>(hor b L hb).elim (fun h=>r1'.dn.2 b L h) fun h=>r2.dn.2 b L h.2.1⟩⟩
 rotate_right
 ·intro k arr hk;rw[hzf] at hk;obtain⟨g1,g2⟩:=r2.frz k arr hk;refine⟨g1,fun b L x hb hx hd=>?_⟩
  rcases hor b L hb with hb|⟨he,hb,hn⟩
  ·rcases hzn k arr hk with hk|hk
   ·exact (r1'.frz k arr hk).2 b L x hb hx hd
   ·have:=old b L x hb hx hd;omega
  ·exact g2 b L x hb (tr he hx) hd
 ·intro b L hb;rcases hor b L hb with hb|⟨he,hb,_⟩
  ·exact r1'.dom b L hb
  ·rw[he];exact hnb
 ·intro b L e wf af cs hb hx;rcases hor b L hb with hb|⟨he,hb,_⟩
  ·obtain⟨g1,c,ty,fz,g2,g3,g4,g5,g6⟩:=r1'.cells b L e wf af cs hb hx;exact⟨g1,c,ty,fz,g2,g3,g4,fun j v hv=>let ⟨v',a,b⟩:=g5 j v hv;⟨v',a,b.mono l1⟩,g6⟩
  ·obtain⟨g1,c,ty,fz,g2,g3,g4,g5,g6⟩:=r2.cells b L e wf af cs hb (tr he hx);exact⟨g1,c,ty,fz,g2,g3,g4,fun j v hv=>let ⟨v',a,b⟩:=g5 j v hv;⟨v',a,b.mono l2⟩,g6⟩
 ·intro b L es hb hx;rcases hor b L hb with hb|⟨he,hb,_⟩
  ·obtain⟨g1,ob,g2,g3⟩:=r1'.maps b L es hb hx;exact⟨g1,ob,g2,g3.mono l1⟩
  ·obtain⟨g1,ob,g2,g3⟩:=r2.maps b L es hb (tr he hx);exact⟨g1,ob,g2,g3.mono l2⟩
 ·intro b L e af cs hb hx b' L' x hb' hx' hd he;rcases hor b L hb with hb|⟨hq,hb,hn⟩<;>rcases hor b' L' hb' with hb'|⟨hq',hb',hn'⟩
  ·exact r1'.excl b L e af cs hb hx b' L' x hb' hx' hd he
  ·have:=old b L _ hb hx (by simp);omega
  ·have:=old b' L' _ hb' hx' hd;omega
  ·rw[hq,hq']
 ·intro b L es hb hx b' L' x hb' hx' hd he;rcases hor b L hb with hb|⟨hq,hb,hn⟩<;>rcases hor b' L' hb' with hb'|⟨hq',hb',hn'⟩
  ·exact r1'.exclm b L es hb hx b' L' x hb' hx' hd he
  ·have:=old b L _ hb hx (by simp);omega
  ·have:=old b' L' _ hb' hx' hd;omega
  ·rw[hq,hq']
 ·intro b L e wf cs hb hx b' L' e' wf' af' cs' hb' hx' he;rcases hor b L hb with hb|⟨hq,hb,hn⟩<;>rcases hor b' L' hb' with hb'|⟨hq',hb',hn'⟩
  ·exact r1'.app b L e wf cs hb hx b' L' e' wf' af' cs' hb' hx' he
  ·have:=old b L _ hb hx (by simp);omega
  ·have:=old b' L' _ hb' hx' (by simp);omega
  ·exact r2.app b L e wf cs hb (tr hq hx) b' L' e' wf' af' cs' hb' (tr hq' hx') he
 ·intro b L hb hh;rcases hor b L hb with hb|⟨_,_,hn⟩
  ·exact r1'.flr b L hb hh
  ·exact fun hB=>absurd (r1.base _ hB) (Nat.not_lt.2 hn)

omit [Cur] in
theorem yX{ops:Array Oper}{nt:Nat}:∀{os:List Oper} {rs:List ROp},wK P ops nt os rs=true->os.length=rs.length∧∀(i:Nat) o r,os[i]?=some o->rs[i]?=some r->qc1 P ops nt o r=true
 | [],[],_=>⟨rfl,by simp⟩
 | o::os,r::rs,h=>by
  simp only[wK,Bool.and_eq_true] at h;obtain⟨h1,h2⟩:=h;obtain⟨h3,h4⟩:=yX h2;refine⟨by simp[h3],fun i o' r' ho hr=>?_⟩
  cases i with
  | zero=>simp at ho hr;subst ho;subst hr;exact h1
  | succ i=>exact h4 i o' r' (by simpa using ho) (by simpa using hr)
 | [],_::_,h=>by simp[wK] at h
 | _::_,[],h=>by simp[wK] at h

structure Canon (orc:Orc) (C:qO) (rs:List ROp) (T:Nat->Tr AV) (H:Nat->Hp) (G:Nat->Bool) (V:Nat->AV):Prop where
 step:∀(i:Nat) r,rs[i]?=some r->xN (T i) r.guard (fun g=>g=G i)∧xc (T i) r.dst (V i) (fun t=>t=T (i+1)) ∧
  ((G i=true∧Qe orc true C r.k (T i) (H i) (fun v h=>v=V i∧h=H (i+1)))∨(G i=false∧V i = .tup []∧H (i+1)=H i))

omit [Cur] in
theorem qcY{C:qO}(hi:LC C){Q:Tr AV->Hp->Prop}:∀(rs:List ROp) (t:Tr AV) (h:Hp),v4 orc true C rs Q t h->
  ∃T H G V,T 0=t∧H 0=h∧Canon orc C rs T H G V∧Q (T rs.length) (H rs.length)
 | [],t,h,hk=>⟨fun _=>t,fun _=>h,fun _=>false,fun _=>.undef,rfl,rfl,⟨by simp⟩,hk⟩
 | ⟨dst,k,g⟩::rs,t,h,hk=>by
  have hk':xN t g (fun go=>Bool.rec (motive:=fun _=>Prop)
   (xc t dst (.tup []) (fun t'=>v4 orc true C rs Q t' h)) (Qe orc true C k t h (fun v h'=>xc t dst v (fun t'=>v4 orc true C rs Q t' h'))) go):=hk
  obtain⟨go,h1,h2⟩:=qdj t g _ hk'
  have shift:∀(v:AV) (t1:Tr AV) (h1:Hp),xc t dst v (fun t'=>t'=t1)->((go=true∧Qe orc true C k t h (fun v' h'=>v'=v∧h'=h1))∨(go=false∧v = .tup []∧h1=h))->v4 orc true C rs Q t1 h1->
    ∃T H G V,T 0=t∧H 0=h∧Canon orc C (⟨dst,k,g⟩::rs) T H G V∧Q (T (rs.length+1)) (H (rs.length+1)):=by
   intro v t1 hh1 hd hg hr;obtain⟨T,H,G,V,e1,e2,e3,e4⟩:=qcY hi rs t1 hh1 hr;refine⟨fun i=>match i with|0=>t|i+1=>T i,fun i=>match i with|0=>h|i+1=>H i,fun i=>match i with|0=>go|i+1=>G i,fun i=>match i with|0=>v|i+1=>V i,rfl,rfl,⟨?_⟩,e4⟩
   intro i r hri;cases i with
   | zero =>
    simp at hri;subst hri;refine⟨h2 _ rfl,?_,?_⟩
    ·show xc t dst v (fun t'=>t'=T 0);rw[e1];exact hd
    ·show (go=true∧Qe orc true C k t h (fun v' h'=>v'=v∧h'=H 0))∨(go=false∧v = .tup []∧H 0=h)
     rw[e2];exact hg
   | succ i=>exact e3.step i r (by simpa using hri)
  cases go with
  | false =>
   obtain⟨t1,h3,h4⟩:=qcc t dst _ _ h1;exact shift _ t1 h (h4 _ rfl) (.inr ⟨rfl,rfl,rfl⟩) h3
  | true =>
   obtain⟨v,hh,h3,h4⟩:=qiN orc true hi k t h _ h1;obtain⟨t1,h5,h6⟩:=qcc t dst v _ h3;exact shift v t1 hh (h6 _ rfl) (.inl ⟨rfl,h4 _ ⟨rfl,rfl⟩⟩) h5

omit [Cur] in
theorem qb4{C:qO}{rs:List ROp}{T:Nat->Tr AV}{H:Nat->Hp}{G:Nat->Bool}{V:Nat->AV}(hc:Canon orc C rs T H G V){i:Nat}{r:ROp}(hr:rs[i]?=some r)(x:Nat) :
  (T (i+1)).get x=if r.dst=some x then some (V i) else (T i).get x:=by
 obtain⟨_,h2,_⟩:=hc.step i r hr;cases hd:r.dst with
 | none =>
  rw[hd] at h2;have h2':T i=T (i+1):=h2;simp[← h2']
 | some d =>
  rw[hd] at h2;have h2':(T i).setK d (V i) (fun t=>t=T (i+1)):=h2
  rw[Tr.setK_iff] at h2';rw[← h2',Tr.get_set]
  by_cases hx:x=d
  ·subst hx;simp
  ·have:¬(some d=some x):=fun h=>hx (Option.some.inj h).symm
   rw[if_neg hx,if_neg this]

omit [Cur] in
theorem qbq{o:Oper}{a:Act}{w:World}{F:Prop}(h:o.wpIn (Fr none) 0 P a w (fun _ _=>F) (fun _ _ _=>False)):F:=by
 obtain⟨_,h⟩:=h;generalize (o.semAt (Fr none).round a.eval).run P w=r at h;cases r with
 | ok n w' =>
  cases n<;>simp only[Oper.uponIn] at h
  case enter f args =>
   obtain⟨e,w'',fr,hR,_⟩:=h.2.2 [] (room_wide _);cases e with
   | returned v=>exact hR
   | panicked=>exact hR.elim
   | outgrown=>obtain⟨_,_,hh⟩:=hR;exact hh.elim
  case row row args =>
   obtain⟨v,w'',hR,_⟩:=h.2 default [] (room_wide _);exact hR
  case round l f tmps assign body =>
   obtain⟨e,w'',hR,_⟩:=h.2.2 default [] (room_wide _);cases e with
   | returned v=>exact hR
   | panicked=>exact hR.elim
   | outgrown=>obtain⟨_,_,hh⟩:=hR;exact hh.elim
  all_goals first|exact h|exact h.elim
 | halt x w'=>cases x<;>simp only[Oper.uponIn] at h

structure Fact (rs:List ROp) (H:Nat->Hp) (i:Nat):Prop where
 sz:(H i).sz<=(H (i+1)).sz
 fl:(H (i+1)).fl=(H i).fl
 keep:(∀r,rs[i]?=some r->wr r.k=false)->∀b,b<(H i).sz->(H (i+1)).tr.get b=(H i).tr.get b
 floor:∀b,b<(H i).fl->b<(H i).sz->(H (i+1)).tr.get b=(H i).tr.get b

theorem w8(horc:OrcOk P σ orc){C:qO}(hs:x8 P σ C){nt:Nat}{ops:Array Oper}{rs:List ROp}(hrs:wK P ops nt ops.toList rs=true){T:Nat->Tr AV}{H:Nat->Hp}{G:Nat->Bool}{V:Nat->AV}(hc:Canon orc C rs T H G V)
  {B:Nat->Prop} {w:World} {a:Act} (ht:TR σ ρ (T 0) a.tmps) (hsz:nt<=a.tmps.size) (r:Rel σ ρ B (H 0) w):∀i,i<=rs.length->
  (∃(ρ':Ren) (a':Act) (w':World),TR σ ρ' (T i) a'.tmps∧nt<=a'.tmps.size∧Rel σ ρ' B (H i) w')∧∀j,j<i->Fact rs H j
 | 0,_=>⟨⟨ρ,a,w,ht,hsz,r⟩,fun j hj=>absurd hj (Nat.not_lt_zero _)⟩
 | i+1,hi=>by
  obtain⟨⟨ρ1,a1,w1,ht1,hs1,r1⟩,hf⟩:=w8 horc hs hrs hc ht hsz r i (by omega);obtain⟨hlen,hget⟩:=yX hrs;have hri:rs[i]?=some rs[i]:=zzE (by omega);have hoi:ops.toList[i]?=some (ops.toList[i]'(by omega)):=zzE (by omega);have hchk:=hget i _ _ hoi hri;generalize rs[i]=rr at hri hchk;generalize ops.toList[i]'(by omega)=o at hoi hchk;simp only[qc1,Bool.and_eq_true] at hchk;obtain⟨⟨hc1,hc2⟩,hc3⟩:=hchk;obtain⟨g1,g2,g3⟩:=hc.step i rr hri
  have key:(∃(ρ':Ren) (a':Act) (w':World),TR σ ρ' (T (i+1)) a'.tmps∧nt<=a'.tmps.size∧Rel σ ρ' B (H (i+1)) w')∧Fact rs H i:=by
   rcases g3 with⟨_,g3⟩|⟨_,g3,g4⟩
   ·rcases (v8 _ _ _).1 g3 with⟨hb,g3⟩|⟨hb,g3⟩
    ·refine qbq (P:=P) (o:=o) (a:=a1) (w:=w1) (y9 horc hs r1 ht1 hc3 g3 _ _ ?_);rintro v v' h' ρ' w' ⟨rfl,rfl⟩ q1 q2 q3;obtain⟨t',q4,q5⟩:=(ht1.mono (q3.mono r1.dom)).put hs1 hc1 q1 g2;subst q4;refine⟨⟨ρ',_,w',q5,by rw[xk];exact hs1,q2⟩,q3.szle,q3.fl,fun hw=>?_,q3.akeep⟩
     have:=hw rr hri;simp[this] at hb
    ·refine qbq (P:=P) (o:=o) (a:=a1) (w:=w1) (Zt horc hs r1 ht1 hc3 g3 _ _ ?_);rintro v v' h' ρ' w' ⟨rfl,rfl⟩ q1 q2 q3 q6 _ _ _;obtain⟨t',q4,q5⟩:=(ht1.mono (q3.mono r1.dom)).put hs1 hc1 q1 g2;subst q4;exact⟨⟨ρ',_,w',q5,by rw[xk];exact hs1,q2⟩,q3.szle,q3.fl,fun _=>q6,q3.akeep⟩
   ·obtain⟨t',q4,q5⟩:=ht1.put hs1 hc1 (.tup [] #[] .nil) (by rw[g3] at g2;exact g2);subst q4;exact⟨⟨ρ1,_,w1,q5,by rw[xk];exact hs1,by rw[g4];exact r1⟩,by rw[g4];exact Nat.le_refl _,by rw[g4],fun _ _ _=>by rw[g4],fun _ _ _=>by rw[g4]⟩
  refine⟨key.1,fun j hj=>?_⟩
  rcases Nat.lt_succ_iff_lt_or_eq.1 hj with hj|rfl
  ·exact hf j hj
  ·exact key.2

section facts
variable {rs:List ROp} {H:Nat->Hp}
omit [Cur] in
theorem qU(hf:∀j,j<rs.length->Fact rs H j){i j:Nat}(hij:i<=j)(hj:j<=rs.length):(H i).sz<=(H j).sz:=by
 induction j with
 | zero => obtain rfl:i=0:=by omega
           exact Nat.le_refl _
 | succ j ih =>
  rcases Nat.lt_or_eq_of_le hij with h|rfl
  ·exact Nat.le_trans (ih (by omega) (by omega)) (hf j (by omega)).sz
  ·exact Nat.le_refl _
omit [Cur] in
theorem qda(hf:∀j,j<rs.length->Fact rs H j){i j:Nat}(hij:i<=j)(hj:j<=rs.length):(H j).fl=(H i).fl:=by
 induction j with
 | zero => obtain rfl:i=0:=by omega
           rfl
 | succ j ih =>
  rcases Nat.lt_or_eq_of_le hij with h|rfl
  ·exact (hf j (by omega)).fl.trans (ih (by omega) (by omega))
  ·rfl
omit [Cur] in
theorem qci(hf:∀j,j<rs.length->Fact rs H j){i j:Nat}(hij:i<=j)(hj:j<=rs.length)(hw:∀k,i<=k->k<j->∀r,rs[k]?=some r->wr r.k=false)(b:Nat)(hb:b<(H i).sz):(H j).tr.get b=(H i).tr.get b:=by
 induction j with
 | zero => obtain rfl:i=0:=by omega
           rfl
 | succ j ih =>
  rcases Nat.lt_or_eq_of_le hij with h|rfl
  ·rw[← ih (by omega) (by omega) (fun k h1 h2=>hw k h1 (by omega))]
   exact (hf j (by omega)).keep (hw j (by omega) (by omega)) b (Nat.lt_of_lt_of_le hb (qU hf (by omega) (by omega)))
  ·rfl
omit [Cur] in
theorem qhF(hf:∀j,j<rs.length->Fact rs H j){j:Nat}(hj:j<=rs.length)(b:Nat)(hb:b<(H 0).fl)(hb2:b<(H 0).sz):(H j).tr.get b=(H 0).tr.get b:=by
 induction j with
 | zero=>rfl
 | succ j ih =>
  rw[← ih (by omega)];exact (hf j (by omega)).floor b (by rw[qda hf (Nat.zero_le _) (by omega)];exact hb) (Nat.lt_of_lt_of_le hb2 (qU hf (Nat.zero_le _) (by omega)))
end facts

omit [Cur] in
omit [Cur] in
theorem ZL:∀(os:List Oper) (acc:List Nat) (j:Nat),j<acc.length->(kQ os acc)[j]?=acc[j]?
 | [],acc,j,h=>rfl
 | o::os,acc,j,h=>by rw[kQ,ZL os _ j (by simp;omega),List.getElem?_append_left h]
omit [Cur] in
theorem qbR:∀(os:List Oper) (acc:List Nat) (i:Nat) (o:Oper),os[i]?=some o->(kQ os acc)[acc.length+i]?=some (mask o ((kQ os acc).take (acc.length+i)))
 | [],_,_,_,h=>by simp at h
 | p::os,acc,i,o,h=>by
  cases i with
  | zero =>
   simp at h;subst h;rw[kQ,Nat.add_zero]
   have e1:(kQ os (acc++[mask p acc])).take acc.length=acc:=by
    apply List.ext_getElem?;intro j;rw[List.getElem?_take];split
    ·rw[ZL _ _ _ (by simp;omega),List.getElem?_append_left (by assumption)]
    ·rw[List.getElem?_eq_none (by omega)]
   rw[ZL _ _ _ (by simp),e1];simp
  | succ i =>
   have:=qbR os (acc++[mask p acc]) i o (by simpa using h);rw[kQ];simp only[List.length_append,List.length_cons,List.length_nil] at this;rw[show acc.length+(i+1)=acc.length+(0+1)+i from by omega]
   exact this
omit [Cur] in
theorem qh7{o:Oper}{acc:List Nat}{j:Nat}(h:(mask o acc).testBit j=true):∃e ∈ o.after,Region.binds .any e=true∧(e.on=j∨(acc.getD e.on 0).testBit j=true):=by
 have key:∀(es:List Edge) (s:Nat),(es.foldl (fun s e=>if Region.binds .any e then s ||| 2 ^ e.on ||| acc.getD e.on 0 else s) s).testBit j=true->s.testBit j=true∨∃e ∈ es,Region.binds .any e=true∧(e.on=j∨(acc.getD e.on 0).testBit j=true):=by
  intro es
  induction es with
  | nil=>intro s h;exact .inl h
  | cons e es ih =>
   intro s h;rw[List.foldl_cons] at h;rcases ih _ h with h1|⟨e',h1,h2⟩
   ·by_cases hb:Region.binds .any e=true
    ·rw[if_pos hb] at h1;simp only[Nat.testBit_or,Bool.or_eq_true,Nat.testBit_two_pow,decide_eq_true_eq] at h1;rcases h1 with (h1|h1)|h1
     ·exact .inl h1
     ·exact .inr ⟨e,by simp,hb,.inl h1⟩
     ·exact .inr ⟨e,by simp,hb,.inr h1⟩
    ·rw[if_neg hb] at h1;exact .inl h1
   ·exact .inr ⟨e',by simp[h1],h2⟩
 rcases key _ 0 h with h1|⟨e,h1,h2⟩
 ·simp at h1
 ·exact⟨e,by simpa using h1,h2⟩
omit [Cur] in
theorem ZK{ops:Array Oper}{S:Nat->Prop}(hlt:∀(i:Nat) o,ops[i]?=some o->∀e ∈ o.after,Region.binds .any e=true->e.on<i)(hcl:∀(i:Nat) o,S i->ops[i]?=some o->∀e ∈ o.after,Region.binds .any e=true->S e.on) :
  ∀(i:Nat) o,ops[i]?=some o->(∀e ∈ o.after,Region.binds .any e=true->S e.on)->∀j,((kQ ops.toList []).getD i 0).testBit j=true->S j:=by
 intro i
 induction i using Nat.strongRecOn with
 | _ i ih =>
  intro o ho hr j hj;have hm:=qbR ops.toList [] i o (by simpa using ho);simp only[List.length_nil,Nat.zero_add] at hm;rw[List.getD_eq_getElem?_getD,hm] at hj;obtain⟨e,he,hb,h1⟩:=qh7 hj;have hle:=hlt i o ho e he hb;have hS:=hr e he hb;rcases h1 with rfl|h1
  ·exact hS
  ·have hi:i<ops.size:=(Array.getElem?_eq_some_iff.1 ho).1
   have e1:((kQ ops.toList []).take i).getD e.on 0=(kQ ops.toList []).getD e.on 0:=by
    rw[List.getD_eq_getElem?_getD,List.getD_eq_getElem?_getD,List.getElem?_take_of_lt hle]
   rw[e1] at h1;have ho':ops[e.on]?=some ops[e.on]:=Array.getElem?_eq_getElem (by omega);exact ih e.on hle _ ho' (hcl e.on _ hS ho') j h1

omit [Cur] in
theorem y6{rs:List ROp}{ms:List Nat}:∀(rest:List ROp) (j:Nat),Za rs ms j rest=true->rs.drop j=rest->∀i k a b,i<k->j<=k->rs[i]?=some a->rs[k]?=some b->vl a b=true->(ms.getD k 0).testBit i=true
 | [],j,_,hd,i,k,a,b,_,hjk,_,hb,_=>by
  have:rs.length<=j:=by simpa using hd
  have:=(zzS.1 hb).1;omega
 | r::rest,j,hc,hd,i,k,a,b,hik,hjk,ha,hb,hm=>by
  simp only[Za,Bool.and_eq_true] at hc
  have hrj:rs[j]?=some r:=by
   have:=congrArg (fun l=>l[0]?) hd
   simpa using this
  rcases Nat.lt_or_eq_of_le hjk with h|rfl
  ·exact y6 rest (j+1) hc.2 (by rw[← List.drop_drop,hd];rfl) i k a b hik h ha hb hm
  ·rw[hrj] at hb;cases hb
   have:=(List.all_eq_true.1 hc.1) (a,i) (by
    rw[List.mem_zipIdx_iff_getElem?];simp only;rw[List.getElem?_take_of_lt hik];exact ha)
   simpa[hm] using this
end Go.Kc
end
