/- Part 2 of the proof. No condition. -/
import Derived.Test.YtjllccjpflmjfaaGreatDoorVK1
import Derived.MapKept
import Derived.LoopNIn
import Derived.OrdersIn
import Derived.RangeFuncRecord
set_option maxHeartbeats 4000000
set_option maxRecDepth 1000000
set_option linter.defProp false
set_option linter.unusedSectionVars false
set_option linter.unusedSimpArgs false
set_option linter.unusedVariables false
set_option linter.unnecessarySimpa false
namespace Go.Kc
noncomputable section
section
variable [Cur]
variable {σ:Nat->Value}{Z Z':Ren}{P:Program}
def Rel.newMap{B:Nat->Prop}{h:Hp}{w w':World}(r:Rel σ Z B h w){es0:List (AV×AV)}{o:Obj}(hes:qbw σ Z es0 o)(hw:w'.heap=w.heap.push o)(hio:w'.os=w.os/\w'.output=w.output) :
  Rel σ (Z.add h.sz ⟨w.heap.size,0,0,0⟩) B (h.push (.map es0)) w'/\Kept Z B h w (Z.add h.sz ⟨w.heap.size,0,0,0⟩) (h.push (.map es0)) w':=by
 have hold:∀k,k<w.heap.size->w'.heap[k]?=w.heap[k]?:=by intro k hk;rw[hw,Array.getElem?_push];rw[if_neg Ac]
 have hsz:w.heap.size<=w'.heap.size:=by rw[hw,Array.size_push];exact Nat.le_succ _
 have hnew:w'.heap[w.heap.size]?=some o:=by rw[hw];simp
 have hext:∀b L,Z b=some L->(Z.add h.sz ⟨w.heap.size,0,0,0⟩) b=some L:=by
  intro b L hb;have:=r.dom b L hb;simp only[Ren.add];rw[if_neg Ac];exact hb
 have hle:Z.le (Z.add h.sz ⟨w.heap.size,0,0,0⟩):=⟨hext,λ_ _ h=>h,Nat.le_max_left _ _⟩
 have hwf:=r.blk_lt
 have hget:∀b x,(h.push (.map es0)).tr.get b=some x->b≠h.sz->h.tr.get b=some x:=by
  intro b x hx hb;simp only[Hp.push,zz4]at hx;rwa [if_neg hb]at hx
 have hget':∀x,(h.push (.map es0)).tr.get h.sz=some x->x = .map es0:=by
  intro x hx;simp[Hp.push,zz4]at hx;exact hx.symm
 have hren:∀b L,(Z.add h.sz ⟨w.heap.size,0,0,0⟩) b=some L->(b=h.sz/\L=⟨w.heap.size,0,0,0⟩)\/(b≠h.sz/\Z b=some L):=by
  intro b L hb;simp only[Ren.add]at hb;split at hb
  .left;exact Ah
  .right;exact Ah
 refine⟨⟨?_,?_,?_,?_,?_,?_,?_,?_,?_,⟨Nat.max_le.2 ⟨Nat.le_succ_of_le r.dn.1,zzL _⟩,?_⟩⟩,⟨?_,?_,rfl,?_,?_,?_,hio,λ_ _ h=>h,λ_ _ h=>.inl h,Nat.le_max_left _ _⟩⟩
 .intro b L hb;exact Dw
 .intro b L e' wf' af' cs' hb hg;rcases hren b L hb with⟨rfl,rfl⟩|⟨hne,hb⟩
  .cases hget' _ hg
  .exact Bd
 .intro b L es hb hg;rcases hren b L hb with⟨rfl,rfl⟩|⟨hne,hb⟩
  .cases hget' _ hg;exact D4
  .exact Cl
 .intro b L e' af' cs' hb hg b' L' x hb' hx hd he;rcases hren b L hb with⟨rfl,rfl⟩|⟨hne,hb1⟩<;>rcases hren b' L' hb' with⟨rfl,rfl⟩|⟨hne',hb'⟩
  .rfl
  .have:=hwf b' L' hb' _ (hget _ _ hx hne') hd;simp only at he;exact Ac
  .have:=hwf b L hb1 _ (hget _ _ hg hne) (by simp);simp only at he;exact Ac
  .exact Dc
 .intro b L es hb hg b' L' x hb' hx hd he;rcases hren b L hb with⟨rfl,rfl⟩|⟨hne,hb1⟩<;>rcases hren b' L' hb' with⟨rfl,rfl⟩|⟨hne',hb'⟩
  .rfl
  .have:=hwf b' L' hb' _ (hget _ _ hx hne') hd;simp only at he;exact Ac
  .have:=hwf b L hb1 _ (hget _ _ hg hne) (by simp);simp only at he;exact Ac
  .exact C0
 .intro b L e' wf' cs' hb hg b' L' e2 wf2 af2 cs2 hb' hx he;rcases hren b L hb with⟨rfl,rfl⟩|⟨hne,hb1⟩<;>rcases hren b' L' hb' with⟨rfl,rfl⟩|⟨hne',hb'⟩
  .cases hget' _ hg
  .cases hget' _ hg
  .cases hget' _ hx
  .exact Ex
 .intro b L hb hf;rcases hren b L hb with⟨rfl,rfl⟩|⟨_,hb⟩
  .exact wJ r.base (zzL _)
  .exact r.flr b L hb hf
 .exact qfT r.base hsz
 .intro k arr hk;obtain⟨⟨ty',fz',h1⟩,h2⟩:=r.frz k arr hk;have hkl:k<w.heap.size:=Ah
  refine⟨⟨ty',fz',by rw[hold k hkl];exact h1⟩,λb L x hb hx hd=>?_⟩
  rcases hren b L hb with⟨rfl,rfl⟩|⟨hne,hb⟩
  .show w.heap.size≠k;exact Ac
  .exact Ah
 .intro b L hb;rcases hren b L hb with⟨rfl,rfl⟩|⟨_,hb⟩
  .show w.heap.size<_;rw[hw,Array.size_push];exact Nat.lt_succ_self _
  .exact zzh (r.dn.2 b L hb) hsz
 .intro b hb;simp only[Ren.add];rw[if_neg Ac]
 .exact Nat.le_succ _
 .intro b _ hb;simp only[Hp.push,zz4];rw[if_neg Ac]
 all_goals grind[Rel.base]
def Rel.putMap{B:Nat->Prop}{h:Hp}{w w':World}(r:Rel σ Z B h w){b:Nat}{L:Loc}{es es':List (AV×AV)}(hb:Z b=some L)(hg:h.tr.get b=some (.map es))(hf:h.fl<=b)
  {o:Obj}(ho:w.heap[L.blk]?=some o) {o':Obj}(hes:qbw σ Z es' o') (hw:w'.heap=w.heap.setIfInBounds L.blk o') (hio:w'.os=w.os/\w'.output=w.output) :
  Rel σ Z B (h.put b (.map es')) w'/\Kept Z B h w Z (h.put b (.map es')) w':=by
 have hlt:L.blk<w.heap.size:=Ah
 have hold:∀k,k≠L.blk->w'.heap[k]?=w.heap[k]?:=by
  intro k hk;rw[hw,zzw];rw[if_neg Ac]
 have hnew:w'.heap[L.blk]?=some o':=H1
 have hget:∀b' x,(h.put b (.map es')).tr.get b'=some x->b'≠b->h.tr.get b'=some x:=by
  intro b' x hx hne;simp only[Hp.put,zz4]at hx;rwa [if_neg hne]at hx
 have hgb:∀x,(h.put b (.map es')).tr.get b=some x->x = .map es':=by
  intro x hx;simp[Hp.put,zz4]at hx;exact hx.symm
 have hother:∀b' L' x,Z b'=some L'->h.tr.get b'=some x->x≠.dead->b'≠b->L'.blk≠L.blk :=
  λb' L' x hb' hx hd hne he=>C0
 refine⟨⟨r.dom,?_,?_,?_,?_,?_,r.flr,?_,?_,⟨r.dn.1,λb L hb=>Gz⟩⟩,⟨λ_ _=>rfl,zzL _,rfl,?_,?_,?_,hio,λ_ _ h=>h,λ_ _ h=>.inl h,zzL _⟩⟩
 .intro b' L' e' wf' af' cs' hb' hg'
  by_cases hne:b'=b
  .subst hne;cases hgb _ hg'
  .have hg2:=hget _ _ hg' hne;obtain⟨h1,c,ty,fz,h2,h3⟩:=r.cells b' L' e' wf' af' cs' hb' hg2;exact Ah
 .intro b' L' es2 hb' hg'
  by_cases hne:b'=b
  .subst hne;rw[hb]at hb';cases hb';cases hgb _ hg';exact by grind[Rel.maps]
  .have hg2:=hget _ _ hg' hne;obtain⟨h1,ob,h2,h3⟩:=r.maps b' L' es2 hb' hg2;exact Ah
 .intro b1 L1 e1 af1 cs1 hb1 hg1 b2 L2 x hb2 hx hd he2
  by_cases m1:b1=b
  .subst m1;cases hgb _ hg1
  .have hg1':=hget _ _ hg1 m1
   by_cases m2:b2=b
   .subst m2;rw[hb]at hb2;cases hb2;exact Ah
   .exact r.excl b1 L1 e1 af1 cs1 hb1 hg1' b2 L2 x hb2 (hget _ _ hx m2) hd he2
 .intro b1 L1 es1 hb1 hg1 b2 L2 x hb2 hx hd he2
  by_cases m1:b1=b
  .subst m1;rw[hb]at hb1;cases hb1
   by_cases m2:b2=b1
   .exact m2
   .exact Ah
  .have hg1':=hget _ _ hg1 m1
   by_cases m2:b2=b
   .subst m2;rw[hb]at hb2;cases hb2;exact Ah
   .exact r.exclm b1 L1 es1 hb1 hg1' b2 L2 x hb2 (hget _ _ hx m2) hd he2
 .intro b1 L1 e1 wf1 cs1 hb1 hg1 b2 L2 e2 wf2 af2 cs2 hb2 hg2 he2
  by_cases m1:b1=b
  .subst m1;cases hgb _ hg1
  .by_cases m2:b2=b
   .subst m2;cases hgb _ hg2
   .exact r.app b1 L1 e1 wf1 cs1 hb1 (hget _ _ hg1 m1) b2 L2 e2 wf2 af2 cs2 hb2 (hget _ _ hg2 m2) he2
 .rw[hw,Array.size_setIfInBounds];exact r.base
 .intro k arr hk;obtain⟨⟨ty',fz',h6⟩,h7⟩:=r.frz k arr hk;have hne:L.blk≠k:=Ah
  refine⟨⟨ty',fz',by rw[hold k Ac];exact h6⟩,λb' L' x hb' hx hd=>?_⟩
  by_cases hbb:b'=b
  .subst hbb;rw[hb]at hb';cases hb';exact hne
  .exact Ah
 .intro b' hb' hs';simp only[Hp.put,zz4];rw[if_neg Ac]
 all_goals grind[Rel.flr]
omit [Cur] in
theorem qbj.cons{e:AV×AV}{es:List (AV×AV)}{vs:List MapEntry}(h:qbj σ Z (e::es) vs):∃v us,vs=v::us/\VR σ Z e.1 v.key/\VR σ Z e.2 v.val/\qbj σ Z es us:=by
 cases vs with
 | nil=>cases h.1
 | cons v us =>
  obtain⟨v',h1,h2,h3⟩:=h.2 0 e rfl;simp at h1;subst h1;exact⟨v,us,rfl,h2,h3,by simpa using h.1,λj e' he=>by simpa using h.2 (j+1) e' Ad⟩
omit [Cur] in
theorem qbj.mk{e:AV×AV}{es:List (AV×AV)}{v:MapEntry}{us:List MapEntry}(h1:VR σ Z e.1 v.key)(h2:VR σ Z e.2 v.val)(h:qbj σ Z es us):qbj σ Z (e::es) (v::us):=by
 refine⟨by simp[h.1],λj e' he=>?_⟩
 cases j with
 | zero=>exact Ad
 | succ j=>simpa using h.2 j e' Ad
omit [Cur] in
theorem qbj.nil:qbj σ Z [] []:=⟨rfl,λj e' he=>Ah⟩
def qcV:Option IntKind->TypeDesc
 | none=>.string
 | some q=>.int q
omit [Cur] in
def qyk{orc:Orc}(horc:OrcOk P σ orc){kd:Option IntKind}{i:AV}{i':Value}{p:Prop}(hi:VR σ Z i i')(h:qlJ orc kd i p):MapKept.IsKey (qcV kd) i'/\p:=by
 unfold qlJ at h;split at h
 .have:=hi.un_s;subst this;cases kd
  .exact⟨trivial,h⟩
  .exact h.elim
 .have:=hi.un_i;subst this;cases kd
  .exact h.elim
  .obtain⟨h1,h2⟩:=(qc _ _).1 h;exact⟨(of_decide_eq_true h1).symm,h2⟩
 .rename_i j;cases kd
  .cases hl:orc.len j with
   | none=>simp only[hl]at h;exact h.elim
   | some r =>
    simp only[hl]at h;obtain⟨s,h1,_⟩:=horc.len j r hl;have:=hi.un_sym;rw[this,h1];exact⟨trivial,h⟩
  .exact h.elim
 exact Ad
omit [Cur] in
def qq9{orc:Orc}(horc:OrcOk P σ orc){kd:Option IntKind}{x y:AV}{x' y':Value}(hx:VR σ Z x x')(hy:VR σ Z y y')(hk:MapKept.IsKey (qcV kd) x'){k:Bool->Prop}(h:qe2 orc x y k) :
  ∃b,k b/\Instr.sameNow (qcV kd) x' y'=some b:=by
 unfold qe2 at h;split at h
 .rename_i c;have ey:=hy.un_s;subst ey;split at h
  .rename_i a;have ex:=hx.un_s;subst ex;rw[qV]at h;cases kd
   .refine⟨_,h,?_⟩;show some ((⟨a.toArray⟩:ByteArray)==⟨c.toArray⟩)=_;rw[qcg]
    congr 1
    rw[Bool.eq_iff_iff,MapKept.bytes_beq,beq_iff_eq];constructor
    .intro e;have:=congrArg (λb=>b.data.toList) e;exact D0
    .intro e;rw[e]
   .exact Gy
  .rename_i j;cases hl:orc.len j with
   | none=>simp only[hl]at h;exact h.elim
   | some lv =>
   simp only[hl]at h;have h:qjk (orc.bin .eql (.sym j) (.s c)) (λv=>unB v k):=h
   cases hb:orc.bin .eql (.sym j) (.s c)with
   | none=>simp only[hb]at h;exact h.elim
   | some r =>
    simp only[hb]at h;obtain⟨r',h1,h2⟩:=horc.bin _ _ _ _ hb Z x' _ hx hy;have h':unB r k:=h;unfold unB at h';split at h'<;>try exact h'.elim
    rename_i b;cases kd
    .cases x'<;>try exact hk.elim
     rename_i s;have h3:=h2 P 0 (default:World);cases h1;refine⟨b,h',?_⟩;simp[binOp,Op.stringOp]at h3;show some (s==(⟨c.toArray⟩:ByteArray))=some b;rw[<- h3]
     congr 1
     rw[Bool.eq_iff_iff,MapKept.bytes_beq,beq_iff_eq];constructor
     .intro e;rw[e,ByteArray.toList_eq]
     .intro e;rw[ByteArray.toList_eq]at e;rw[<- e]
    .obtain⟨s,h3,_⟩:=horc.len j lv hl;rw[hx.un_sym,h3]at hk;exact Gy
  .exact h.elim
 .rename_i q n;have ey:=hy.un_i;subst ey;split at h<;>try exact h.elim
  rename_i q' m;have ex:=hx.un_i;subst ex;obtain⟨h1,h2⟩:=(qc _ _).1 h;have h1:=of_decide_eq_true h1;subst h1;rw[qV]at h2;cases kd
  .exact Gy
  .refine⟨_,h2,?_⟩;have hk':q'=_:=hk;subst hk';simp[qcV,Instr.sameNow,qi7]
 exact Ad
def qta{orc:Orc}(horc:OrcOk P σ orc){kd:Option IntKind}{i:AV}{i':Value}(hi:VR σ Z i i')(hk:MapKept.IsKey (qcV kd) i') :
  ∀{es:List (AV×AV)}{vs:List MapEntry}(n:Nat),qbj σ Z es vs->∀{k:Option AV->Prop},qcO orc i es k->
   (k none/\Instr.findNow (qcV kd) i' vs n=some none)\/∃v m u,k (some v)/\VR σ Z v u/\Instr.findNow (qcV kd) i' vs n=some (some (m,u))
 | [],vs,n,he,k,h=>by
  have:vs=[]:=List.length_eq_zero_iff.1 he.1.symm;subst this;exact .inl ⟨h,rfl⟩
 | e::es,vs,n,he,k,h=>by
  obtain⟨v,us,rfl,h1,h2,h3⟩:=he.cons;have h':qe2 orc i e.1 (λr=>Bool.rec (motive:=λ_=>Prop) (qcO orc i es k) (k (some e.2)) r):=h
  obtain⟨b,h4,h5⟩:=qq9 horc hi h1 hk h';cases b with
  | true=>exact .inr ⟨e.2,n,v.val,h4,h2,by simp[Instr.findNow,h5]⟩
  | false =>
   rcases qta horc hi hk (n+1) h3 h4 with⟨h6,h7⟩|⟨x,m,u,h6,h7,h8⟩
   .exact .inl ⟨h6,by simp[Instr.findNow,h5,h7]⟩
   .exact .inr ⟨x,m,u,h6,h7,by simp[Instr.findNow,h5,h8]⟩
def qAf{orc:Orc}(horc:OrcOk P σ orc){kd:Option IntKind}{i x:AV}{i' x':Value}(hu:i≠.undef/\∀r,i≠.lp r)(hi:VR σ Z i i')(hx:VR σ Z x x')(hk:MapKept.IsKey (qcV kd) i') :
  ∀{es:List (AV×AV)}{vs:List MapEntry}(n:Nat),qbj σ Z es vs->∀{k:List (AV×AV)->Prop},qhT orc i x es k->
   (∃es',k es'/\(qrV es->qrV es')/\Instr.findNow (qcV kd) i' vs n=some none/\∀born,qbj σ Z es' (vs++[⟨i',x',born⟩])) \/
    ∃es' j e,k es'/\(qrV es->qrV es')/\vs[j]?=some e/\Instr.findNow (qcV kd) i' vs n=some (some (n+j,e.val))/\Instr.sameNow (qcV kd) i' e.key=some true/\qbj σ Z es' (vs.set j { e with key:=i',val:=x' })
 | [],vs,n,he,k,h=>by
  have:vs=[]:=List.length_eq_zero_iff.1 he.1.symm;subst this;exact .inl ⟨[(i,x)],h,(λ_ e he=>Ah),rfl,by grind[qbj.mk,qbj.nil]⟩
 | e::es,vs,n,he,k,h=>by
  obtain⟨v,us,rfl,h1,h2,h3⟩:=he.cons;have h':qe2 orc i e.1 (λr=>Bool.rec (motive:=λ_=>Prop) (qhT orc i x es (λl=>k (e::l))) (k ((i,x)::es)) r):=h
  obtain⟨b,h4,h5⟩:=qq9 horc hi h1 hk h';cases b with
  | true=>exact .inr ⟨(i,x)::es,0,v,h4,(λ_ e he=>Ah),rfl,by simp[Instr.findNow,h5],h5,by simp_all[qbj.mk]⟩
  | false =>
   rcases qAf horc hu hi hx hk (n+1) h3 h4 with⟨es',h6,_,h7,h8⟩|⟨es',j,e',h6,_,h7,h8,h9,h10⟩
   .exact .inl ⟨e::es',h6,(λhh e' he=>by cases he;exact hh _ rfl),by simp[Instr.findNow,h5,h7],by grind[qbj.mk]⟩
   .exact .inr ⟨e::es',j+1,e',h6,(λhh e' he=>by cases he;exact hh _ rfl),Ad,by simp[Instr.findNow,h5,h8];exact Ac,h9,by simp_all[qbj.mk]⟩
omit [Cur] in
def qvT{kd:Option IntKind}{a b:Value}(ha:MapKept.IsKey (qcV kd) a)(h:Instr.sameNow (qcV kd) a b=some true):∀n,Instr.sameBits n b a=true:=by
 intro n;cases kd
 .cases a<;>try exact ha.elim
  cases b<;>simp[qcV,Instr.sameNow]at h;rename_i s s';cases n<;>simp[Instr.sameBits,(MapKept.bytes_beq _ _).1 h,MapKept.bytes_beq]
 .cases a<;>try exact ha.elim
  cases b<;>simp[qcV,Instr.sameNow]at h;obtain⟨h1,h2⟩:=h;cases n<;>simp[Instr.sameBits,h1,h2]
omit [Cur] in
theorem qjf{t k e:TypeId}(h:qhH P t=some (k,e)):P.underlying t=some (.map k e):=by
 unfold qhH at h;exact Ah
omit [Cur] in
theorem qpw{t:TypeId}{kd:Option IntKind}(h:qpv P t kd=true):P.underlying t=some (qcV kd):=by
 unfold qpv at h;split at h
 .assumption
 .obtain rfl:=of_decide_eq_true h;assumption
 exact Ah
omit [Cur] in
def qlh{t:TypeId}{kd:Option IntKind}(h:qi5 P t kd=true):∃k e,qhH P t=some (k,e)/\P.underlying t=some (.map k e)/\P.underlying k=some (qcV kd):=by
 unfold qi5 at h;grind[qjf,qpw]
def qr9{t:TypeId}{z:AV}(h:qsW P t z=true):∃i v,P.info? t=some i/\i.zero=some v/\VR σ Z z v:=by
 unfold qsW at h;grind[qp2]
omit [Cur] in
def VR.un_nilm{v:Value}(h:VR σ Z .nilm v):v = .map none:=by cases h;rfl
omit [Cur] in
def qki{h:Hp}{b:Nat}{k:List (AV×AV)->Prop}(hk:qip h b k):∃es,h.tr.get b=some (.map es)/\qrV es/\k es:=by
 obtain⟨x,h1,h2⟩:=(Tr.getK_iff _ _ _).1 hk;cases x with
 | cells=>exact Ad
 | dead=>exact Ad
 | map es=>exact⟨es,h1,qmT.1 h2⟩
section ops
variable {B:Nat->Prop}{h:Hp}{w:World}{a:Act}{t:Tr AV}{orc:Orc}{k:AV->Hp->Prop}{o:Oper}
def qyG(r:Rel σ Z B h w){ty:TypeId}{rs:Option Operand}(ho:o.op = .makeMap ty rs)(hc:rs=none\/∃q n,rs=some (.const (.int q n))/\(qhH P ty).isSome=true)(hk:opK orc .mkM t h k):Res P σ Z B h w (execOp a.eval o) k:=by
 have h1:k (.map h.sz) (h.push (.map [])):=(zD h (.map []) (λb h'=>k (.map b) h')).1 hk
 obtain⟨r1,k1⟩:=r.newMap (w':=w.alloc (.map #[] 0)) (es0:=[]) (.inl ⟨(by intro e he;cases he),#[],0,rfl,qbj.nil⟩) rfl ⟨rfl,rfl⟩;refine⟨.map h.sz,.map (some w.heap.size),_,_,w.alloc (.map #[] 0),h1,.inl ?_,.map _ _ (Ren.add_self _ _ _) rfl,r1,k1⟩;rcases hc with rfl|⟨q,n,rfl,hm⟩
 .have e:(Instr.makeMap ty none).run P w = .ok (.map (some w.heap.size)) (w.alloc (.map #[] 0)):=rfl;simp[execOp,ho,e]
 .obtain⟨⟨k',e'⟩,hm⟩:=zzx.1 hm
  have e:(Instr.makeMap ty (some (.int q n))).run P w = .ok (.map (some w.heap.size)) (w.alloc (.map #[] 0)):=by
   simp[Instr.makeMap,qt (qjf hm),asInt];rfl
  simp[execOp,ho,Act.eval,e]
omit [Cur] in
def qly{ty key elem:TypeId}{kd:Option IntKind}(h4:P.underlying ty=some (.map key elem))(h5:P.underlying key=some (qcV kd)){x i:Value}{vs:Array MapEntry}(hx:(x = .map none/\vs = #[])\/(∃b clk,x = .map (some b)/\w.heap[b]?=some (.map vs clk)))
  (g5:MapKept.IsKey (qcV kd) i) {n:Nat}{u:Value}(hf:Instr.findNow (qcV kd) i vs.toList 0=some (some (n,u))) (ok:Bool):(Instr.lookup ty x i ok).run P w = .ok (if ok then .tuple #[u,.bool true]else u) w:=by
 rcases hx with⟨rfl,rfl⟩|⟨b,clk,rfl,e2⟩
 .simp[Instr.lookup,qt h4,MapKept.run_checkKey h5 g5,MapKept.run_findKey h5 hf]
 .simp[Instr.lookup,qt h4,MapKept.run_getObj_map e2,MapKept.run_checkKey h5 g5,MapKept.run_findKey h5 hf]
omit [Cur] in
def qlx{ty key elem:TypeId}{kd:Option IntKind}(h4:P.underlying ty=some (.map key elem))(h5:P.underlying key=some (qcV kd)){x i:Value}{vs:Array MapEntry}(hx:(x = .map none/\vs = #[])\/(∃b clk,x = .map (some b)/\w.heap[b]?=some (.map vs clk)))
  (g5:MapKept.IsKey (qcV kd) i) (hf:Instr.findNow (qcV kd) i vs.toList 0=some none) {info:TypeInfo}{zv:Value}(h6:P.info? elem=some info) (h7:info.zero=some zv) (ok:Bool):(Instr.lookup ty x i ok).run P w = .ok (if ok then .tuple #[zv,.bool false]else zv) w:=by
 rcases hx with⟨rfl,rfl⟩|⟨b,clk,rfl,e2⟩
 .simp[Instr.lookup,qt h4,MapKept.run_checkKey h5 g5,MapKept.run_findKey h5 hf,qc3 h6 h7]
 .simp[Instr.lookup,qt h4,MapKept.run_getObj_map e2,MapKept.run_checkKey h5 g5,MapKept.run_findKey h5 hf,qc3 h6 h7]
def qyA(horc:OrcOk P σ orc)(r:Rel σ Z B h w)(ht:TR σ Z t a.tmps){kd:Option IntKind}{ok:Bool}{z:AV}{x i:O}{x' i':Operand}{ty:TypeId}(ho:o.op = .lookup ty x' i' ok)(hc1:qA x' x=true)(hc2:qA i' i=true)
  (h1:qi5 P ty kd=true) (h2:(match qhH P ty with|some (_,e)=>qsW P e z|none=>false)=true) (hk:opK orc (.lookM kd ok z x i) t h k):Res P σ Z B h w (execOp a.eval o) k:=by
 obtain⟨key,elem,h3,h4,h5⟩:=qlh h1;rw[h3]at h2;obtain⟨info,zv,h6,h7,h8⟩:=qr9 (σ:=σ) (Z:=Z) h2;obtain⟨u,g1,g2⟩:=qR ht hc1 hk;obtain⟨iv,g3,g4⟩:=qR ht hc2 g1;obtain⟨g5,g6⟩:=qyk horc g4 g3
 have fin:∀{vs:Array MapEntry}{m:Option AV},(a.eval x' = .map none/\vs = #[])\/(∃b clk,a.eval x' = .map (some b)/\w.heap[b]?=some (.map vs clk))->qik ok z m (λv=>k v h)->
   ((m=none/\Instr.findNow (qcV kd) (a.eval i') vs.toList 0=some none)\/∃v n u,m=some v/\VR σ Z v u/\Instr.findNow (qcV kd) (a.eval i') vs.toList 0=some (some (n,u)))->Res P σ Z B h w (execOp a.eval o) k:=by
  intro vs m hx ha hf;rcases hf with⟨rfl,hf⟩|⟨v,n,u,rfl,hv,hf⟩
  .cases ok
   .refine Res.pure r (v:=z) ha (v':=zv) ?_ h8;simp[execOp,ho,qlx h4 h5 hx g5 hf h6 h7]
   .refine Res.pure r (v:=.tup [z,.b false]) ha (v':=.tuple #[zv,.bool false]) ?_ (.tup _ _ (.cons _ _ _ _ h8 (.cons _ _ _ _ (.b _) .nil)));simp[execOp,ho,qlx h4 h5 hx g5 hf h6 h7]
  .cases ok
   .refine Res.pure r (v:=v) ha (v':=u) ?_ hv;simp[execOp,ho,qly h4 h5 hx g5 hf]
   .refine Res.pure r (v:=.tup [v,.b true]) ha (v':=.tuple #[u,.bool true]) ?_ (.tup _ _ (.cons _ _ _ _ hv (.cons _ _ _ _ (.b _) .nil)));simp[execOp,ho,qly h4 h5 hx g5 hf]
 cases u<;>try exact g6.elim
 .exact fin (.inl ⟨g2.un_nilm,rfl⟩) g6 (.inl ⟨rfl,rfl⟩)
 .rename_i b;obtain⟨es,e1,e0,e2⟩:=qki g6;obtain⟨L,e3,e4,e5⟩:=g2.un_map;obtain⟨e6,ob,e7,e9⟩:=r.maps b L es e3 e1;obtain⟨vs,clk,rfl,e8⟩:=e9.map e0;rcases qta horc g4 g5 0 e8 e2 with⟨f1,f2⟩|⟨v,m,u,f1,f2,f3⟩
  .exact Ah
  .exact fin (.inr ⟨_,clk,e5,e7⟩) f1 (.inr ⟨v,m,u,rfl,f2,f3⟩)
def qug(horc:OrcOk P σ orc)(r:Rel σ Z B h w)(ht:TR σ Z t a.tmps){kd:Option IntKind}{x i v:O}{x' i' v':Operand}{ty:TypeId}(ho:o.op = .mapUpdate ty x' i' v'\/o.op = .insert ty x' i' v')(hc1:qA x' x=true)(hc2:qA i' i=true)(hc3:qA v' v=true)
  (h1:qi5 P ty kd=true) (hk:opK orc (.updM kd x i v) t h k):Res P σ Z B h w (execOp a.eval o) k:=by
 obtain⟨key,elem,h3,h4,h5⟩:=qlh h1;obtain⟨u,g1,g2⟩:=qR ht hc1 hk;obtain⟨iv,g3,g4⟩:=qR ht hc2 g1;obtain⟨vv,g7,g8⟩:=qR ht hc3 g3;obtain⟨g5,g6⟩:=qyk horc g4 g7;cases u<;>try exact g6.elim
 rename_i b;obtain⟨es,e1,e0,e2⟩:=qki g6;obtain⟨L,e3,e4,e5⟩:=g2.un_map;obtain⟨e6,ob,e7,e9⟩:=r.maps b L es e3 e1;obtain⟨vs,clk,rfl,e8⟩:=e9.map e0
 have exec:∀{w':World},(Instr.mapUpdate ty (a.eval x') (a.eval i') (a.eval v')).run P w = .ok () w'->(execOp a.eval o).run P w = .ok .skip w':=by
  intro w' hr;rcases ho with ho|ho<;>simp[execOp,ho,hr]
 have hu:iv≠.undef/\∀r,iv≠.lp r:=⟨by rintro rfl;exact g7.elim,by rintro r rfl;exact g7.elim⟩
 rcases qAf horc hu g4 g8 g5 0 e8 e2 with⟨es',f1,f0,f2,f3⟩|⟨es',j,e,f1,f0,f2,f3,f4,f5⟩
 .obtain⟨f6,f7⟩:=(xb _ _ _ _).1 f1;obtain⟨r1,k1⟩:=r.putMap (w':={ w with heap:=w.heap.setIfInBounds L.blk (.map (vs.push ⟨a.eval i',a.eval v',clk⟩) (clk+1)) }) e3 e1 f6 e7 (.inl ⟨f0 e0,_,_,rfl,by rw[Array.toList_push];exact Ad⟩) rfl ⟨rfl,rfl⟩
  refine⟨.undef,undef,_,_,_,f7,.inr ⟨exec ?_,rfl⟩,.undef _,r1,k1⟩;simp[Instr.mapUpdate,qt h4,e5,MapKept.run_getObj_map e7,MapKept.run_checkKey h5 g5,MapKept.run_findKey h5 f2,MapKept.run_setObj_map _ e7]
 .obtain⟨f6,f7⟩:=(xb _ _ _ _).1 f1
  have hm:(vs.modify j λe=>{ e with key:=a.eval i',val:=a.eval v' }).toList=vs.toList.set j { e with key:=a.eval i',val:=a.eval v' }:=by
   have hj:vs[j]?=some e:=by simpa using f2
   have hlt:j<vs.size:=Ah
   apply List.ext_getElem?
   exact Ah
  obtain⟨r1,k1⟩:=r.putMap (w':={ w with heap:=w.heap.setIfInBounds L.blk (.map (vs.modify j λe=>{ e with key:=a.eval i',val:=a.eval v' }) clk) }) e3 e1 f6 e7 (.inl ⟨f0 e0,_,_,rfl,by rw[hm];exact f5⟩) rfl ⟨rfl,rfl⟩
  refine⟨.undef,undef,_,_,_,f7,.inr ⟨exec ?_,rfl⟩,.undef _,r1,k1⟩;have hj:vs[j]?=some e:=Ad
  have f3':Instr.findNow (qcV kd) (a.eval i') vs.toList 0=some (some (j,e.val)):=Ad
  simp[Instr.mapUpdate,qt h4,e5,MapKept.run_getObj_map e7,MapKept.run_checkKey h5 g5,MapKept.run_findKey h5 f3',hj,Instr.keyThatStays,qvT g5 f4,MapKept.run_setObj_map _ e7]
def qGx(r:Rel σ Z B h w)(ht:TR σ Z t a.tmps){x y:O}{x' y':Operand}{args:Array TypeId}{ops:Array Operand}(ho:o.op = .call ⟨.builtin .min,ops,args⟩)(hops:ops.toList=[x',y'])(hc:qA x' x=true)(hc2:qA y' y=true)(hk:opK orc (.min x y) t h k):Res P σ Z B h w (execOp a.eval o) k:=by
 obtain⟨u,h1,h2⟩:=qR ht hc hk;obtain⟨v,h3,h4⟩:=qR ht hc2 h1;obtain rfl:ops = #[x',y']:=Ah
 obtain⟨q,n,h5,h6⟩:=qp0 h2 h3;obtain⟨q',m,h7,h8⟩:=qp0 h4 h6
 have hrun:(execOp a.eval o).run P w = .ok (.value (.int q (if m<n then m else n))) w:=by
  simp[execOp,ho,resolve,invoke,builtin,Builtin.min_,Builtin.min2,h5,h7]
 rw[qde]at h8
 by_cases hlt:m<n
 .exact E9
 .exact E7
def qvO(r:Rel σ Z B h w)(ht:TR σ Z t a.tmps){x:O}{y:Operand}{ty:TypeId}(ho:o.op = .range ty y)(hc:qA y x=true)(hs:qad P ty=true)(hk:opK orc (.rangeS x) t h k):Res P σ Z B h w (execOp a.eval o) k:=by
 obtain⟨v,h1,h2⟩:=qR ht hc hk;cases v<;>try exact h1.elim
 rename_i l;have e':=h2.un_s;have h3:k (.ptr h.sz 0) (h.push (.map (xI l 0))):=(zD h (.map (xI l 0)) (λb h'=>k (.ptr b 0) h')).1 h1
 obtain⟨r1,k1⟩:=r.newMap (w':=w.alloc (.stringIter ⟨l.toArray⟩ 0)) (es0:=xI l 0) (.inr (.inl ⟨l,0,rfl,rfl⟩)) rfl ⟨rfl,rfl⟩;refine⟨.ptr h.sz 0,.pointer (some ⟨w.heap.size,0,none⟩),_,_,w.alloc (.stringIter ⟨l.toArray⟩ 0),h3,.inl ?_,.ptr _ _ _ (Ren.add_self _ _ _),r1,k1⟩;have hn:(newObj (.stringIter ⟨l.toArray⟩ 0)).run P w = .ok w.heap.size (w.alloc (.stringIter ⟨l.toArray⟩ 0)):=rfl;simp[execOp,ho,Instr.range,qt (xZ hs),e',hn]
omit [Cur] in
def qgK{r:Nat}{s:ByteArray}{n:Nat}(hb:w.heap[r]?=some (.stringIter s n)):(getObj r).run P w = .ok (.stringIter s n) w:=by
 simp[getObj,Sem.run,hb]
omit [Cur] in
def qlM{r:Nat}{s:ByteArray}{n:Nat}(o:Obj)(hb:w.heap[r]?=some (.stringIter s n)):(setObj r o).run P w = .ok () { w with heap:=w.heap.setIfInBounds r o }:=by
 simp[setObj,Sem.run,hb]
omit [Cur] in
def qjP{l:List UInt8}{n:Nat}{c:UInt8}(h:l[n]?=some c)(hc:c.toNat<128):Utf8.decode ⟨l.toArray⟩ n=(c.toNat,1):=by
 have hn:n<l.length:=(zzS.1 h).1
 have hg:(ByteArray.mk l.toArray).get! n=c:=by
  show(l.toArray)[n]! = c;rw[getElem!_def,List.getElem?_toArray,h]
 simp only[Utf8.decode,Nat.add_zero,hg];rw[if_pos Ac]
def qyK(r:Rel σ Z B h w)(ht:TR σ Z t a.tmps){x:O}{y:Operand}(ho:o.op = .next y true)(hc:qA y x=true)(hk:opK orc (.nextS x) t h k):Res P σ Z B h w (execOp a.eval o) k:=by
 obtain⟨v,h1,h2⟩:=qR ht hc hk;cases v<;>try exact h1.elim
 rename_i b o'
 have h1':qn (Nat.beq o' 0) (qop h b (λa n=>match a[n]? with
  | some c=>Bool.rec (motive:=λ_=>Prop)
    (jG h b (.map (xI a (Nat.add n (Utf8.decode ⟨a.toArray⟩ n).2))) (λh'=>k (.tup [.b true,.i .i64 (Int.ofNat n),.i .i32 (Int.ofNat (Utf8.decode ⟨a.toArray⟩ n).1)]) h'))
    (qq (Nat.succ n) (λm=>jG h b (.map (xI a m)) (λh'=>k (.tup [.b true,.i .i64 (Int.ofNat n),.i .i32 (Int.ofNat c.toNat)]) h')))
    (Nat.ble (Nat.succ c.toNat) 128)
  | none=>k (.tup [.b false]) h)):=h1
 obtain⟨h3,h4⟩:=(qc _ _).1 h1';obtain rfl:=Nat.eq_of_beq_eq_true h3;obtain⟨l,n,h5,h6⟩:=qh6.1 h4;obtain⟨L,e1,e2⟩:=h2.un_ptr;obtain⟨e3,ob,e4,e5⟩:=r.maps b L _ e1 h5;obtain rfl:=e5.iter;have e6:a.eval y = .pointer (some ⟨L.blk,0,none⟩):=by rw[e2,e3]
 cases hn:l[n]? with
 | none =>
  rw[hn]at h6;have hlen:¬n<(⟨l.toArray⟩:ByteArray).size:=by rw[qhY];simpa using hn
  refine Res.pure r (v:=.tup [.b false]) h6 (v':=.tuple #[.bool false]) ?_ (.tup _ _ (.cons _ _ _ _ (.b _) .nil));simp[execOp,ho,Instr.next,e6,qgK e4,hlen]
 | some c =>
  rw[hn]at h6;have hlen:n<(⟨l.toArray⟩:ByteArray).size:=by rw[qhY];exact(zzS.1 hn).1
  have h7:jG h b (.map (xI l (n+(Utf8.decode ⟨l.toArray⟩ n).2))) (λh'=>k (.tup [.b true,.i .i64 (Int.ofNat n),.i .i32 (Int.ofNat (Utf8.decode ⟨l.toArray⟩ n).1)]) h'):=by
   have h6':(Bool.rec (motive:=λ_=>Prop)
    (jG h b (.map (xI l (Nat.add n (Utf8.decode ⟨l.toArray⟩ n).2))) (λh'=>k (.tup [.b true,.i .i64 (Int.ofNat n),.i .i32 (Int.ofNat (Utf8.decode ⟨l.toArray⟩ n).1)]) h'))
    (qq (Nat.succ n) (λm=>jG h b (.map (xI l m)) (λh'=>k (.tup [.b true,.i .i64 (Int.ofNat n),.i .i32 (Int.ofNat c.toNat)]) h')))
    (Nat.ble (Nat.succ c.toNat) 128):Prop):=h6
   cases hb:Nat.ble (Nat.succ c.toNat) 128 with
   | false=>rw[hb]at h6';exact h6'
   | true =>
    rw[hb]at h6';have h8:=(Iff.of_eq (qy _ _)).1 h6';have:=Nat.le_of_ble_eq_true hb;rw[qjP hn Ac];exact h8
  obtain⟨f6,f7⟩:=(xb _ _ _ _).1 h7;obtain⟨r1,k1⟩:=r.putMap (w':={ w with heap:=w.heap.setIfInBounds L.blk (.stringIter ⟨l.toArray⟩ (n+(Utf8.decode ⟨l.toArray⟩ n).2)) }) e1 h5 f6 e4 (.inr (.inl ⟨l,_,rfl,rfl⟩)) rfl ⟨rfl,rfl⟩;refine⟨_,.tuple #[.bool true,.int .i64 n,.int .i32 (Utf8.decode ⟨l.toArray⟩ n).1],_,_,_,f7,.inl ?_,.tup _ _ (.cons _ _ _ _ (.b _) (.cons _ _ _ _ (.i _ _) (.cons _ _ _ _ (.i _ _) .nil))),r1,k1⟩;simp[execOp,ho,Instr.next,e6,qgK e4,hlen,qlM _ e4,goInt]
def qFz(r:Rel σ Z B h w)(ht:TR σ Z t a.tmps){x:O}{y:Operand}{s d:TypeId}{q:IntKind}(ho:o.op = .convert s d y)(hc:qA y x=true)(hs:P.underlying s=some (.int q))(hd:qad P d=true)(hk:opK orc (.cvR x) t h k):Res P σ Z B h w (execOp a.eval o) k:=by
 obtain⟨v,h1,h2⟩:=qR ht hc hk;cases v<;>try exact h1.elim
 rename_i p n;have e:=h2.un_i;refine Res.pure r (v:=.s (Utf8.encode n).data.toList) h1 (v':=.string (Utf8.encode n)) ?_ ?_
 .simp[execOp,ho,convert,qt hs,qt (xZ hd),e,Conv.intToString]
 .have:(Utf8.encode n)=⟨((Utf8.encode n).data.toList).toArray⟩:=by simp
  rw[this];exact .s _
omit [Cur] in
def qjp{r m s l:Nat}{x:Array Nat}(hb:w.heap[r]?=some (.mapIter (some m) s x l)):(getObj r).run P w = .ok (.mapIter (some m) s x l) w:=by
 simp[getObj,Sem.run,hb]
def qDd(r:Rel σ Z B h w)(ht:TR σ Z t a.tmps){x:O}{y:Operand}{ty:TypeId}(ho:o.op = .range ty y)(hc:qA y x=true)(h0:(qhH P ty).isSome=true)(hk:opK orc (.rngE x) t h k):Res P σ Z B h w (execOp a.eval o) k:=by
 obtain⟨v,h1,h2⟩:=qR ht hc hk;cases v<;>try exact h1.elim
 rename_i b;obtain⟨⟨key,elem⟩,hm⟩:=zzx.1 h0;have hu:=qjf hm;obtain⟨es,e1,e0,e2⟩:=qki h1;cases es with
 | cons=>exact e2.elim
 | nil =>
  obtain⟨L,e3,e4,e5⟩:=h2.un_map;obtain⟨e6,ob,e7,e11⟩:=r.maps b L [] e3 e1;obtain⟨vs,clk,rfl,e8⟩:=e11.map e0;have h3:k (.ptr h.sz 0) (h.push (.map (itM b))):=(zD h (.map (itM b)) (λb h'=>k (.ptr b 0) h')).1 e2
  have hv:VR σ Z (.map b) (.map (some L.blk)):=by rw[<- e5];exact h2
  obtain⟨r1,k1⟩:=r.newMap (w':=w.alloc (.mapIter (some L.blk) clk #[] clk)) (es0:=itM b) (.inr (.inr (.inr ⟨b,_,_,_,rfl,hv,rfl⟩))) rfl ⟨rfl,rfl⟩;refine⟨.ptr h.sz 0,.pointer (some ⟨w.heap.size,0,none⟩),_,_,w.alloc (.mapIter (some L.blk) clk #[] clk),h3,.inl ?_,.ptr _ _ _ (Ren.add_self _ _ _),r1,k1⟩;have hn:(newObj (.mapIter (some L.blk) clk #[] clk)).run P w = .ok w.heap.size (w.alloc (.mapIter (some L.blk) clk #[] clk)):=rfl;simp[execOp,ho,Instr.range,qt hu,e5,MapKept.run_getObj_map e7,hn]
def qCz(r:Rel σ Z B h w)(ht:TR σ Z t a.tmps){x:O}{y:Operand}(ho:o.op = .next y false)(hc:qA y x=true)(hk:opK orc (.nxtE x) t h k):Res P σ Z B h w (execOp a.eval o) k:=by
 obtain⟨v,h1,h2⟩:=qR ht hc hk;cases v<;>try exact h1.elim
 rename_i b o';have h1':qn (Nat.beq o' 0) (qyf h b (λr=>qip h r (λes=>match es with | []=>k (.tup [.b false]) h|_=>False))):=h1
 obtain⟨h3,h4⟩:=(qc _ _).1 h1';obtain rfl:=Nat.eq_of_beq_eq_true h3;obtain⟨q,h5,h6⟩:=qmW.1 h4;obtain⟨L,e1,e2⟩:=h2.un_ptr;obtain⟨e3,ob,e4,e5⟩:=r.maps b L _ e1 h5;obtain⟨m,s,l,e7,rfl⟩:=e5.itm;have e6:a.eval y = .pointer (some ⟨L.blk,0,none⟩):=by rw[e2,e3]
 obtain⟨es,g1,g0,g2⟩:=qki h6;cases es with
 | cons=>exact g2.elim
 | nil =>
  obtain⟨M,f3,f4,f5⟩:=e7.un_map;obtain⟨f6,ob,f7,f11⟩:=r.maps q M [] f3 g1;obtain⟨vs,clk,rfl,f8⟩:=f11.map g0;have hv:vs = #[]:=by have:=f8.1;simpa using this.symm
  subst hv;cases f5;refine Res.pure r (v:=.tup [.b false]) g2 (v':=.tuple #[.bool false]) ?_ (.tup _ _ (.cons _ _ _ _ (.b _) .nil));simp[execOp,ho,Instr.next,e6,qjp e4,MapKept.run_getObj_map f7,Question.forced]
end ops
section ops
variable {B:Nat->Prop}{h:Hp}{w:World}{a:Act}{t:Tr AV}{orc:Orc}{k:AV->Hp->Prop}{o:Oper}
omit [Cur] in
def qa2{b:Nat}:∀{ps:List Nat}{p:Prop},jC t b ps p->p/\∀q ∈ ps,(∃b' o',t.get q=some (.ptr b' o')/\b'≠b)\/∃cs o',t.get q=some (.pf cs o')
 | [],p,h=>⟨h,(by intro q hq;cases hq)⟩
 | q::ps,p,h=>by
  have h':t.getK q (λy=>match y with | .ptr b' _=>qn (not (Nat.beq b' b)) (jC t b ps p) | .pf _ _=>jC t b ps p|_=>False):=h
  obtain⟨y,h1,h2⟩:=(Tr.getK_iff _ _ _).1 h';cases y<;>try exact h2.elim
  .rename_i b' o';obtain⟨h3,h4⟩:=(qc _ _).1 h2;obtain⟨h5,h6⟩:=qa2 h4;refine⟨h5,λq' hq=>?_⟩
   rcases zzc.1 hq with rfl|hq
   .refine .inl ⟨b',o',h1,?_⟩;rintro rfl;simp at h3
   .exact h6 q' hq
  .obtain⟨h5,h6⟩:=qa2 h2;refine⟨h5,λq' hq=>?_⟩
   rcases zzc.1 hq with rfl|hq
   .exact .inr ⟨_,_,h1⟩
   .exact h6 q' hq
omit [Cur] in
def qrE{ps:List Nat}{s:AV}{p:Prop}(h:qcx t ps s p):p:=by
 cases s<;>first|exact h|exact h.elim|exact(qa2 h).1
omit [Cur] in
def qqe{esz bytes:Nat}{s x:O}{ps:List Nat}(hk:opK orc (.appD esz bytes s x ps) t h k):opK orc (.app esz bytes true s x) t h k:=by
 obtain⟨v,h1,h2⟩:=qw t s _ hk;obtain⟨u,h3,h4⟩:=qw t x _ h1;exact h2 (λs=>evK t x (λx=>qil h esz bytes true s x k)) (h4 (λx=>qil h esz bytes true v x k) (qrE h3))
def qr6(horc:OrcOk P σ orc)(r:Rel σ Z B h w)(ht:TR σ Z t a.tmps){b:Builtin}{args:Array Operand}{argTypes:Array TypeId}{io:IOp}(ho:o.op = .call ⟨.builtin b,args,argTypes⟩)(hc:qdM P b argTypes args.toList io=true)(hk:opK orc io t h k):Res P σ Z B h w (execOp a.eval o) k:=by
 unfold qdM at hc;split at hc
 .rename_i y n hops;cases ha:argTypes[0]? with
  | none=>simp[ha]at hc
  | some ty =>
   simp only[ha,Option.bind_some]at hc;split at hc
   .rename_i m e he;exact qvd r ho hops ha he (by simpa using hc) hk
   .cases hc
 .rename_i x str y hops;simp only[zzB]at hc;cases ha:argTypes[0]? with
  | none=>simp[ha]at hc
  | some ty =>
   simp only[ha]at hc;exact qGe horc r ht ho hops ha hc.2 hc.1 hk
 .rename_i x y hops;simp only[zzB]at hc;cases ha:argTypes[0]? with
  | none=>simp[ha]at hc
  | some ty =>
   simp only[ha]at hc;exact qFj r ht ho hops ha hc.2 hc.1 hk
 .rename_i s x esz bytes consume s' x' hops;simp only[zzB]at hc;cases h0:argTypes[0]? with
  | none=>simp[h0]at hc
  | some ts =>
   cases h1:argTypes[1]? with
   | none=>simp[h0,h1]at hc
   | some tx =>
    simp only[h0,h1]at hc;obtain⟨⟨hc1,hc2⟩,hc3⟩:=hc;cases he:zS P ts with
    | none=>simp[he]at hc3
    | some e =>
     simp only[he,zzB]at hc3;obtain⟨⟨⟨hs,hb⟩,hz⟩,hx⟩:=hc3;split at hz<;>try (cases hz;done)
     rename_i i hi;split at hz<;>try (cases hz;done)
     rename_i z hzz
     have hx':P.underlying tx=some .string\/∃e,P.underlying tx=some (.slice e):=Ci
     exact qwr horc.atoms r ht ho hops h0 h1 he hx' hs hb hi hzz (by simpa using hz) hc1 hc2 hk
 .rename_i s x esz bytes s' x' ps hops;simp only[zzB]at hc;cases h0:argTypes[0]? with
  | none=>simp[h0]at hc
  | some ts =>
   cases h1:argTypes[1]? with
   | none=>simp[h0,h1]at hc
   | some tx =>
    simp only[h0,h1]at hc;obtain⟨⟨hc1,hc2⟩,hc3⟩:=hc;cases he:zS P ts with
    | none=>simp[he]at hc3
    | some e =>
     simp only[he,zzB]at hc3;obtain⟨⟨⟨hs,hb⟩,hz⟩,hx⟩:=hc3;split at hz<;>try (cases hz;done)
     rename_i i hi;split at hz<;>try (cases hz;done)
     rename_i z hzz
     have hx':P.underlying tx=some .string\/∃e,P.underlying tx=some (.slice e):=Ci
     exact qwr horc.atoms r ht ho hops h0 h1 he hx' hs hb hi hzz (by simpa using hz) hc1 hc2 (orc:=orc) (consume:=true) (qqe hk)
 .rename_i s x esz bytes z s' x' hops;simp only[zzB]at hc;cases h0:argTypes[0]? with
  | none=>simp[h0]at hc
  | some ts =>
   cases h1:argTypes[1]? with
   | none=>simp[h0,h1]at hc
   | some tx =>
    simp only[h0,h1]at hc;obtain⟨⟨hc1,hc2⟩,hc3⟩:=hc;cases he:zS P ts with
    | none=>simp[he]at hc3
    | some e =>
     simp only[he,zzB]at hc3;obtain⟨⟨⟨hs,hb⟩,hz⟩,hx⟩:=hc3;exact qAE r ht ho hops h0 h1 he hx hs hb hz hc1 hc2 hk
 .rename_i d s esz d' s' hops;simp only[zzB]at hc;cases h0:argTypes[0]? with
  | none=>simp[h0]at hc
  | some td =>
   simp only[h0,Option.bind_some]at hc;obtain⟨⟨⟨hc1,hc2⟩,hc4⟩,hc3⟩:=hc;split at hc3<;>try (cases hc3;done)
   rename_i e he;exact qBr horc.atoms r ht ho hops h0 hc4 he hc3 hc1 hc2 hk
 .rename_i x y x' y' hops;simp only[zzB]at hc;exact qGq r ht ho hops hc.1 hc.2 hk
 .rename_i x y x' y' hops;simp only[zzB]at hc;exact qGx r ht ho hops hc.1 hc.2 hk
 .rename_i x z y hops;simp only[zzB]at hc;cases h0:argTypes[0]? with
  | none=>simp[h0]at hc
  | some td =>
   simp only[h0,Option.bind_some]at hc;obtain⟨hc1,hc3⟩:=hc;split at hc3<;>try (cases hc3;done)
   rename_i e he;exact qxb horc.atoms r ht ho hops h0 he hc3 hc1 hk
 .cases hc
omit [Cur] in
def qkD{n:Nat}{x v:O}{ps:List Nat}(hk:opK orc (.storeD n x v ps) t h k):opK orc (.store n x v) t h k:=by
 obtain⟨p,h1,h2⟩:=qw t x _ hk;cases p<;>try exact h1.elim
 exact h2 _ (qa2 h1).1
def qKy(horc:OrcOk P σ orc)(r:Rel σ Z B h w)(ht:TR σ Z t a.tmps){io:IOp}(hc:qjM P o.op io=true)(hk:opK orc io t h k):Res P σ Z B h w (execOp a.eval o) k:=by
 generalize ho:o.op=oo at hc;unfold qjM at hc;split at hc
 .exact qyH r ht (.inl ho) hc hk
 .exact qyH r ht (.inr ho) hc hk
 .simp only[zzB]at hc;exact qCP r ht ho hc.1.1 hc.1.2 hc.2 hk
 .exact qwi r ho hc hk
 .exact qE7 horc.atoms r ht ho hc hk
 .simp only[zzB]at hc;exact qwM horc.atoms r ht ho hc.1 hc.2 hk
 .simp only[zzB]at hc;obtain⟨hn,hc⟩:=hc;split at hc<;>try (cases hc;done)
  rename_i e he;simp only[zzB]at hc;obtain⟨⟨h1,h2⟩,h3⟩:=hc;split at h3<;>try (cases h3;done)
  rename_i j hj;obtain rfl:=eq_of_beq hn;exact quB horc.atoms r ht ho he h1 F0 hj h3 hk
 .simp only[zzB,Bool.not_eq_true']at hc;exact qyx r ht ho hc.1.1 hc.1.2 hc.2 hk
 .simp only[zzB]at hc;exact qyz r ht ho hc.1.1 hc.1.2 hc.2 hk
 .simp only[zzB]at hc;exact qrL horc.atoms r ht ho hc.1.1 hc.1.2 hc.2 hk
 .simp only[zzB]at hc;exact qrL horc.atoms r ht ho hc.1.1 hc.1.2 hc.2 (qkD hk)
 .exact qvu r ht ho hc hk
 .simp only[zzB,zzb]at hc;obtain⟨⟨⟨rfl,h1⟩,h2⟩,_⟩:=hc;exact qE5 horc r ht ho h1 h2 hk
 .simp only[zzB,Bool.not_eq_true']at hc;exact qxv r ht (.inl ⟨rfl,hc.1.1.1⟩) ho hc.1.1.2 hc.1.2 hc.2 hk
 .simp only[zzB]at hc;exact qxv r ht (.inr ⟨rfl,hc.1.1.1⟩) ho hc.1.1.2 hc.1.2 hc.2 hk
 .simp only[zzB,zzO,Bool.not_eq_true']at hc;exact qxw r ht (.inl ⟨rfl,hc.1.1⟩) ho hc.1.2 hc.2 hk
 .simp only[zzB,zzO]at hc;exact qxw r ht (.inr ⟨rfl,hc.1.1⟩) ho hc.1.2 hc.2 hk
 .simp only[zzB,zzb]at hc;obtain⟨rfl,h1⟩:=hc;exact qKY r ht ho h1 hk
 .simp only[zzB]at hc;exact qxn horc r ht ho hc.1.1 hc.1.2 hc.2 hk
 .simp only[zzB]at hc;obtain⟨⟨h1,h2⟩,h3⟩:=hc;split at h2<;>try (cases h2;done)
  rename_i q hq;exact qFz r ht ho h1 hq h3 hk
 .simp only[zzB]at hc;exact qDd r ht ho hc.1 hc.2 hk
 .exact qCz r ht ho hc hk
 .simp only[zzB]at hc;obtain⟨⟨h1,h2⟩,h3⟩:=hc;split at h3<;>try (cases h3;done)
  rename_i e he;exact qHH r ht ho h1 h2 he h3 hk
 .simp only[zzB]at hc;obtain⟨⟨h1,h2⟩,h3⟩:=hc;split at h3<;>try (cases h3;done)
  rename_i e he;exact qE0 r ht ho h1 h2 he h3 hk
 .simp only[zzB]at hc;obtain⟨h1,h2⟩:=hc;split at h2<;>try (cases h2;done)
  rename_i fs hfs;split at h2<;>try (cases h2;done)
  rename_i fd hfd;simp only[zzB,Bool.not_eq_true']at h2;exact qxD r ht ho h1 hfs hfd (eq_of_beq h2.1.1) h2.1.2 h2.2 hk
 .simp only[zzB]at hc;exact qFQ r ht ho hc.1 hc.2 hk
 .simp only[zzB]at hc;obtain⟨⟨h1,h2⟩,h3⟩:=hc;split at h3<;>try (cases h3;done)
  rename_i n e he;simp only[zzB]at h3;obtain rfl:=eq_of_beq h3.1;exact qu6 r ht ho h1 h2 he h3.2 hk
 .simp only[zzB]at hc;obtain⟨⟨h1,h2⟩,h3⟩:=hc;split at h3<;>try (cases h3;done)
  rename_i e he;exact qu7 r ht ho h1 h2 he h3 hk
 .simp only[zzB]at hc;obtain⟨⟨h1,h2⟩,h3⟩:=hc;split at h3<;>try (cases h3;done)
  rename_i n e he;simp only[zzB]at h3;obtain⟨⟨⟨h4,h5⟩,h6⟩,h7⟩:=h3;obtain rfl:=eq_of_beq h4;exact qBZ r ht ho h1 h2 he h5 (eq_of_beq h6) h7 hk
 .simp only[zzB]at hc;exact qB0 r ht ho hc.1.1 hc.1.2 hc.2 hk
 .simp only[zzB]at hc;obtain⟨⟨⟨⟨h1,h2⟩,h3⟩,h4⟩,h5⟩:=hc;split at h5<;>try (cases h5;done)
  rename_i e he;exact qDp r ht ho h1 h2 h3 h4 he h5 hk
 .simp only[zzB]at hc;exact qvV r ht ho hc.1.1.1 hc.1.1.2 hc.1.2 hc.2 hk
 .simp only[zzB]at hc;obtain⟨⟨⟨⟨h1,h2⟩,h3⟩,h4⟩,h5⟩:=hc;split at h5<;>try (cases h5;done)
  rename_i n e he;simp only[zzB]at h5;obtain rfl:=eq_of_beq h5.1;exact qDo r ht ho h1 h2 h3 h4 he h5.2 hk
 .simp only[zzB]at hc;obtain⟨h1,h2⟩:=hc;obtain rfl:=eq_of_beq h2;exact qFJ r ht ho h1 hk
 .simp only[zzB]at hc;obtain⟨⟨h1,h2⟩,h3⟩:=hc;obtain rfl:=eq_of_beq h1;exact qGy r ht ho h2 h3 hk
 .simp only[zzB]at hc;obtain⟨⟨h1,h2⟩,h3⟩:=hc;split at h3<;>try (cases h3;done)
  rename_i e he;simp only[zzB]at h3;exact qGA r ht ho h1 h2 he h3.1.2 h3.2 hk
 .exact qyG r ho (.inl rfl) hk
 .exact qyG r ho (.inr ⟨_,_,rfl,hc⟩) hk
 .simp only[zzB,beq_iff_eq]at hc;obtain⟨⟨⟨⟨h1,h2⟩,rfl⟩,h3⟩,h4⟩:=hc;exact qyA horc r ht ho h1 h2 h3 h4 hk
 .simp only[zzB]at hc;exact qug horc r ht (.inl ho) hc.1.1.1 hc.1.1.2 hc.1.2 hc.2 hk
 .simp only[zzB]at hc;exact qug horc r ht (.inr ho) hc.1.1.1 hc.1.1.2 hc.1.2 hc.2 hk
 .exact Gy
 .simp only[zzB]at hc;exact qvO r ht ho hc.1 hc.2 hk
 .exact qyK r ht ho hc hk
 .exact qr6 horc r ht ho hc hk
 .cases hc
end ops
end
section
variable [Cur]
variable {σ:Nat->Value}{Z Z':Ren}{P:Program}{orc:Orc}
def qqv(nt:Nat):Option Tmp->Option Nat->Bool
 | none,none=>true
 | some a,some b=>a==b&&Nat.blt a nt
 | _,_=>false
def qw9(ops:Array Oper):Option (Nat×Bool)->Option (Nat×Bool)->Bool
 | none,none=>true
 | some (j,b),some (d,c)=>b==c&&((ops[j]?).bind (·.dst))==some d
 | _,_=>false
def qqx(P:Program)(ops:Array Oper)(nt:Nat)(o:Oper)(r:ROp):Bool:=qqv nt o.dst r.dst&&qw9 ops o.guard r.guard&&qg2 P o.op r.k
def qdP(P:Program)(ops:Array Oper)(nt:Nat):List Oper->List ROp->Bool
 | [],[]=>true
 | o::os,r::rs=>qqx P ops nt o r&&qdP P ops nt os rs
 | _,_=>false
def mask(o:Oper)(acc:List Nat):Nat:=o.after.toList.foldl (λs e=>if Region.binds .any e then s ||| 2 ^ e.on ||| acc.getD e.on 0 else s) 0
def qfA:List Oper->List Nat->List Nat
 | [],acc=>acc
 | o::os,acc=>qfA os (acc++[mask o acc])
def xm:O->List Nat
 | .t n=>[n]
 | .c _=>[]
def qcB(xs:List O):List Nat:=xs.flatMap xm
def qea:Option O->List Nat
 | none=>[]
 | some x=>xm x
def qm8(ps:List (Nat×Nat×O)):List Nat:=ps.flatMap λp=>xm p.2.2
def qx:IOp->List Nat
 | .mov x | .box x | .load1 x | .loadN _ x | .nilChk x | .eqN _ _ x | .un _ x | .cvInt _ x | .s2b x | .b2s x | .fAddr _ x | .fld _ _ x | .ext x _ | .len _ x | .clear _ x | .rangeS x | .nextS x | .cvR x | .rngE x | .nxtE x | .cap x=>xm x
 | .pick c x y=>xm c++xm x++xm y
 | .alloc _ | .mkM | .no=>[]
 | .updM _ x i v=>xm x++xm i++xm v
 | .build _ ps | .buildS _ _ ps=>qm8 ps
 | .store _ x v=>xm x++xm v
 | .storeD _ x v ps=>xm x++xm v++ps
 | .appD _ _ s x ps=>xm s++xm x++ps
 | .bin _ x y | .eqB _ x y | .iAddrA _ _ x y | .iAddrS _ x y | .idxA _ _ _ x y | .idxS x y | .mkS _ _ _ x y | .app _ _ _ x y | .appZ _ _ _ x y | .copy _ x y | .max x y | .min x y | .lookM _ _ _ x y=>xm x++xm y
 | .slcS _ x lo hi mx | .slcA _ _ x lo hi mx=>xm x++qea lo++qea hi++qea mx
 | .slcStr x lo hi=>xm x++qea lo++qea hi
 | .mkF _ a c=>qcB a++qcB c
def qgb:RK->List Nat
 | .op o=>qx o
 | .callF _ args=>qcB args
 | .callV x args=>xm x++qcB args
 | .callW _ args=>qcB args
 | .callVW x args=>xm x++qcB args
def qeJ:RK->RK
 | .op (.storeD n x v _)=>.op (.store n x v)
 | .op (.appD e y s x _)=>.op (.app e y true s x)
 | k=>k
def jk(r:ROp):List Nat:=r.dst.toList++(match r.guard with|some g=>[g.1]|none=>[])++qgb (qeJ r.k)
def qbU:RK->Bool
 | .op o=>match o with
  | .mov _ | .pick .. | .bin .. | .eqB .. | .un .. | .cvInt .. | .fAddr .. | .ext .. | .iAddrA .. | .iAddrS .. | .nilChk _ | .eqN .. | .fld .. | .min .. | .max .. | .slcStr .. | .build .. | .len _ _=>true
  | _=>false
 | _=>false
def dn(a b:ROp):Bool:=match a.dst with|some d=>(jk b).contains d|none=>false
def qbH(a b:ROp):Bool :=
 match b.k with
 | .op (.storeD _ _ _ ps)=>(match a.k with
  | .op (.load1 (.t p))=>ps.contains p&&a.dst.isSome
  | .op (.loadN _ (.t p))=>ps.contains p&&a.dst.isSome
  | _=>false)
 | .op (.appD _ _ _ _ ps)=>(match a.k with
  | .op (.load1 (.t p))=>ps.contains p&&a.dst.isSome
  | .op (.loadN _ (.t p))=>ps.contains p&&a.dst.isSome
  | _=>false)
 | _=>false
def qgY:RK->Bool
 | .op (.alloc _) | .op (.buildS _ _ _) | .op (.mkS _ _ _ _ _)=>true
 | _=>false
def qfa:RK->Option Nat
 | .op (.storeD _ (.t p) _ _)=>some p
 | _=>none
def qmB(a b:ROp):Bool:=(qgY a.k&&(qfa b.k).isSome)&&a.dst != qfa b.k
omit [Cur] in
def qmC{a b:ROp}(h:qmB a b=true):qgY a.k=true/\(qfa b.k).isSome=true:=by
 unfold qmB at h
 exact Ad
def exc(a b:ROp):Bool:=qbH a b||qmB a b
def qeG(a b:ROp):Bool:=dn a b||dn b a ||
 (wr a.k && !qbU b.k)||(!qbU a.k&&wr b.k && !exc a b)
def qjN(rs:List ROp)(ms:List Nat):Nat->List ROp->Bool
 | _,[]=>true
 | j,r::rest=>(rs.take j).zipIdx.all (λq=>!qeG q.1 r||(ms.getD j 0).testBit q.2)&&qjN rs ms (j+1) rest
def qzj:RK->Option Nat
 | .op (.load1 (.t p)) | .op (.loadN _ (.t p))=>some p
 | _=>none
def qF2(p:Option Nat)(u:ROp):Bool:=match u.k with
 | .op (.alloc _)=>u.dst==p&&u.guard.isNone
 | _=>false
def fresh(p:Option Nat):List ROp->Bool
 | []=>false
 | u::l=>fresh p l||(qF2 p u&&l.all λw=>w.dst.isNone||w.dst != p)
omit [Cur] in
def qof{p:Nat}:∀{l:List ROp},fresh (some p) l=true->∃(n:Nat) (z:List AV),l[n]?=some (ROp.mk (some p) (.op (.alloc z)) none)/\∀(k:Nat) (w:ROp),n<k->l[k]?=some w->w.dst≠some p
 | [],h=>by cases h
 | u::l,h=>by
  unfold fresh at h;rcases zzO _ _ ▸ h with h|h
  .obtain⟨n,z,h1,h2⟩:=qof h;refine⟨n+1,z,Eb,λk w hk hw=>?_⟩
   cases k with
   | zero=>exact Ac
   | succ k=>exact h2 k w Ac (by simpa using hw)
  .obtain⟨h1,h2⟩:=(Ad:qF2 (some p) u=true/\(l.all λw=>w.dst.isNone||w.dst != some p)=true)
   unfold qF2 at h1;split at h1
   .rename_i z hz;obtain⟨d,k,g⟩:=u;simp only[zzB]at h1;obtain⟨h3,h4⟩:=h1;have h3:=eq_of_beq h3;cases g with
    | some _=>cases h4
    | none =>
     simp only at h3 hz;subst h3 hz;refine⟨0,z,rfl,λk w hk hw=>?_⟩
     cases k with
     | zero=>exact Ac
     | succ k =>
      have:=zzy.1 h2 w Ah;intro e;simp[e]at this
   exact Ad
def qJD(rs:List ROp):Bool :=
 rs.zipIdx.all λq=>(rs.take q.2).zipIdx.all λr=>(!qbH r.1 q.1||((rs.take q.2).drop r.2).all λu=>u.dst.isNone||u.dst != qzj r.1.k)&&(!qmB r.1 q.1||((((rs.take q.2).drop r.2).all λu=>u.dst.isNone||u.dst != qfa q.1.k)||fresh (qfa q.1.k) ((rs.take q.2).drop (r.2+1))))
def qpj(ops:Array Oper)(rs:List ROp):Bool :=
 qJD rs &&
 (ops.toList.zipIdx.all λp=>p.1.after.all λe=>!Region.binds .any e||Nat.blt e.on p.2)&&qjN rs (qfA ops.toList []) 0 rs
def qKk:Code->Bool
 | .goto _=>false
 | _=>true
def qP(P:Program)(nt:Nat):Code->ICode->Bool
 | _,.no=>true
 | c,.cut x=>qP P nt c x
 | .skip,.skip=>true
 | .region _ ops draw,.reg d rs=>draw==d&&qdP P ops nt ops.toList rs&&(!d||(P.follows .mixedOrders&&qpj ops rs))
 | .seq x y,.seq x' y'=>qP P nt x x'&&qP P nt y y'
 | .cond c x y,.cond c' x' y'=>qA c c'&&qP P nt x x'&&qP P nt y y'
 | .block id x,.blk id' x'=>id==id'&&qP P nt x x'
 | .loop x,.loop x'=>qP P nt x x'
 | .exit id,.exit id'=>id==id'
 | .ret,.ret=>true
 | .rangeFunc g ps x y,.rangeF _ g' ps' x' y'=>qA g g'&&ps.toList==ps'&&ps.toList.all (λp=>Nat.blt p nt)&&qP P nt x x'&&qP P nt y y'&&qKk x
 | _,_=>false
def qcf(P:Program):List ResultVar->List RV->Bool
 | [],[]=>true
 | .tmp n::xs,.tmp m::ys=>n==m&&qcf P xs ys
 | .cell n t::xs,.cell m size agg::ys=>n==m&&wi P t==agg&&(P.underlying t).isSome&&(!agg||qZ P t size)&&qcf P xs ys
 | _,_=>false
def qdN(P:Program)(f:Nat)(i:IFn):Bool :=
 match P.funcs[f]? with
 | some fn=>fn.name != "runtime.NumGoroutine" && (match fn.body with|some c=>qP P fn.ntmps c i.body|none=>false)&&qcf P fn.results.toList i.res
 | none=>false
abbrev Ck (P:Program) (f:Nat) (i:IFn):Prop:=qdN P f i=true
inductive XR:X->Exit->Prop where
 | normal:XR .normal .normal
 | exit (id:Nat):XR (.exit id) (.exit id)
 | ret:XR .ret .ret
structure Kep (n:Nat) (Z:Ren) (B:Nat->Prop) (h:Hp) (w:World) (Z':Ren) (h':Hp) (w':World):Prop where
 ext:∀b,b<n->Z' b=Z b
 szle:n<=h'.sz
 fl:h'.fl=h.fl
 akeep:∀b,b<h.fl->b<n->h'.tr.get b=h.tr.get b
 pres:∀k,B k->w'.heap[k]?=w.heap[k]?
 wle:w.heap.size<=w'.heap.size
 io:w'.os=w.os/\w'.output=w.output
 frz:∀k a,Z.frz k=some a->Z'.frz k=some a
 fnew:∀k a,Z'.frz k=some a->Z.frz k=some a\/¬B k
 nle:∀b,b<n->b<Z.n->b<Z'.n
omit [Cur] in
theorem Kep.refl{n:Nat}(Z:Ren)(B:Nat->Prop){h:Hp}(hn:n<=h.sz)(w:World):Kep n Z B h w Z h w :=
 ⟨λ_ _=>rfl,hn,rfl,λ_ _ _=>rfl,λ_ _=>rfl,zzL _,⟨rfl,rfl⟩,λ_ _ h=>h,λ_ _ h=>.inl h,λ_ _ h=>h⟩
omit [Cur] in
def Kept.kep{n:Nat}{B:Nat->Prop}{h h':Hp}{w w':World}(k:Kept Z B h w Z' h' w')(hn:n<=h.sz):Kep n Z B h w Z' h' w' :=
 ⟨by grind[Kept.ext],zzg hn k.szle,k.fl,by grind[Kept.akeep],k.pres,k.wle,k.io,k.frz,k.fnew,λ_ _ h=>zzh h k.nle⟩
omit [Cur] in
def Kep.kept{B:Nat->Prop}{h h':Hp}{w w':World}(k:Kep h.sz Z B h w Z' h' w')(hn:Z.n<=h.sz):Kept Z B h w Z' h' w' :=
 ⟨k.ext,k.szle,k.fl,k.akeep,k.pres,k.wle,k.io,k.frz,k.fnew,Nat.le_of_not_lt λhh=>absurd (k.nle Z'.n Ac hh) (Nat.lt_irrefl _)⟩
omit [Cur] in
theorem Kep.trans{n:Nat}{Z Z1 Z2:Ren}{B:Nat->Prop}{h h1 h2:Hp}{w w1 w2:World}(k1:Kep n Z B h w Z1 h1 w1)(k2:Kep n Z1 B h1 w1 Z2 h2 w2):Kep n Z B h w Z2 h2 w2 :=
 ⟨λb hb=>(k2.ext b hb).trans (k1.ext b hb),k2.szle,k2.fl.trans k1.fl,λb hb hb'=>(k2.akeep b (k1.fl ▸ hb) hb').trans (k1.akeep b hb hb'),λk hk=>(k2.pres k hk).trans (k1.pres k hk),zzg k1.wle k2.wle,
  ⟨k2.io.1.trans k1.io.1,k2.io.2.trans k1.io.2⟩,by grind[Kep.frz],by grind[Kep.fnew],λb hb h=>k2.nle b hb (k1.nle b hb h)⟩
def qlA(rs:List Nat):List Deferred:=rs.map λr=>{ target:=.collected r,args:=#[] }
def BM(B:Nat->Prop)(rs:List Nat):Nat->Prop:=λk=>B k\/k ∈ rs
omit [Cur] in
def qED(B:Nat->Prop):BM B []=B:=by funext k;simp[BM]
omit [Cur] in
def qEC(B:Nat->Prop)(rs rs':List Nat):BM (BM B rs) rs'=BM B (rs'++rs):=by
 funext k;simp only[BM,zzd];exact Ah
structure MarksOk (w w':World) (rs:List Nat):Prop where
 nodup:rs.Nodup
 new:∀r ∈ rs,w.heap.size<=r
 at':∀r ∈ rs,w'.heap[r]?=some (.deferred (some []))
omit [Cur] in
theorem MarksOk.nil(w w':World):MarksOk w w' []:=⟨.nil,Ad,Ad⟩
omit [Cur] in
def Kep.bm{n:Nat}{B:Nat->Prop}{rs:List Nat}{h h':Hp}{w w':World}(k:Kep n Z (BM B rs) h w Z' h' w'):Kep n Z B h w Z' h' w' :=
 ⟨k.ext,k.szle,k.fl,k.akeep,λn hn=>k.pres n (.inl hn),k.wle,k.io,k.frz,λn a h=>(k.fnew n a h).imp id λhh hb=>hh (.inl hb),k.nle⟩
def qcF(σ:Nat->Value)(Q:X->Tr AV->Hp->Prop)(nt n:Nat)(Z:Ren)(B:Nat->Prop)(h:Hp)(w:World)(ds:List Deferred)(e:Exit)(a:Act)(w':World):Prop :=
 ∃x t' h' Z' rs,XR x e/\Q x t' h'/\TR σ Z' t' a.tmps/\nt<=a.tmps.size/\a.defers=qlA rs++ds/\MarksOk w w' rs/\Rel σ Z' (BM B rs) h' w'/\Kep n Z B h w Z' h' w'
def qcF.of{Q:X->Tr AV->Hp->Prop}{nt n:Nat}{B:Nat->Prop}{h:Hp}{w:World}{ds:List Deferred}{e:Exit}{a:Act}{w':World}{x:X}{t':Tr AV}{h':Hp}(g1:XR x e)(g2:Q x t' h')(g3:TR σ Z' t' a.tmps)(g4:nt<=a.tmps.size)(g5:a.defers=ds)(g6:Rel σ Z' B h' w')(g7:Kep n Z B h w Z' h' w'):qcF σ Q nt n Z B h w ds e a w' :=
 ⟨x,t',h',Z',[],g1,g2,g3,g4,g5,MarksOk.nil _ _,by rw[qED];exact g6,g7⟩
def qiv(P:Program)(f:Nat):Prop:=∃fn,P.funcs[f]?=some fn/\fn.name≠"runtime.NumGoroutine"/\fn.body.isSome=true
def qcb(P:Program)(f:FuncId)(args:Array Value)(w:World)(R:Ending->World->Prop):Prop :=
 (qiv P f/\Calls P f args w R)\/∃v w',(callFunc f args).run P w = .ok (.value v) w'/\R (.returned v) w'
omit [Cur] in
theorem qcb.mono{P:Program}{f:FuncId}{args:Array Value}{w:World}{R R':Ending->World->Prop}(h:qcb P f args w R)(hr:∀e w,R e w->R' e w):qcb P f args w R':=by
 rcases h with⟨h1,h2⟩|⟨v,w',h1,h2⟩
 .exact .inl ⟨h1,Calls.mono h2 hr⟩
 .exact .inr Ah
def qo1(P:Program)(σ:Nat->Value)(f:Nat)(args:Array Value)(Z:Ren)(B:Nat->Prop)(h:Hp)(w:World)(k:AV->Hp->Prop):Prop :=
 qcb P f args w λe w'=>∃v v' h' Z',e = .returned v'/\k v h'/\VR σ Z' v v'/\Rel σ Z' B h' w'/\Kept Z B h w Z' h' w'
def qqt(_:Program)(_:Nat):Prop:=True
def Fr(ro:Option Nat):Fence:={ Fence.wide with round:=ro }
def qp6(P:Program)(σ:Nat->Value)(l:Nat)(args:Array Value)(Z:Ren)(B:Nat->Prop)(h:Hp)(w:World)(k:AV->Hp->Prop):Prop :=
 ∃fn tmps assign body,(Instr.yield l args).run P w = .ok (.round l fn tmps assign body) w /\
  ∀ro,RoundIn (Fr ro) 0 P l fn tmps assign body w λe w'=>∃v v' h' Z',e = .returned v'/\k v h'/\VR σ Z' v v'/\Rel σ Z' B h' w'/\Kept Z B h w Z' h' w'
def qby(P:Program)(σ:Nat->Value)(C:zA):Prop :=
 (∀f vs h k,C (Nat.succ f) vs h k->qqt P f/\∀Z B w (args:Array Value),Rel σ Z B h w->VRs σ Z vs args.toList->qo1 P σ f args Z B h w k) /\
 ∀b vs h k,C 0 (.yl b::vs) h k->∀Z B w (args:Array Value) L,Z b=some L->Rel σ Z B h w->VRs σ Z vs args.toList->qp6 P σ L.blk args Z B h w k
omit [Cur] in
def qqN{ro:Option Nat}{n:Nat}{f:FuncId}{args:Array Value}{w:World}{R:Ending->World->Prop}(h:Calls P f args w R):CallsIn (Fr ro) n P f args w R:=(callsIn_wide (n:=n)).2 h
omit [Cur] in
theorem wK(a:Act)(d:Option Tmp)(v:Value):(a.put d v).tmps.size=a.tmps.size:=by
 cases d<;>simp[Act.put]
omit [Cur] in
def wn(a:Act)(d:Option Tmp)(v:Value):(a.put d v).defers=a.defers:=by
 cases d<;>rfl
omit [Cur] in
def TR.put{t:Tr AV}{a:Act}(ht:TR σ Z t a.tmps){nt:Nat}(hn:nt<=a.tmps.size){d:Option Tmp}{d':Option Nat}(hd:qqv nt d d'=true){v:AV}{v':Value}(hv:VR σ Z v v'){k:Tr AV->Prop}(hk:wu t d' v k) :
  ∃t',k t'/\TR σ Z t' (a.put d v').tmps:=by
 cases d<;>cases d'<;>simp[qqv]at hd
 .exact⟨t,hk,ht⟩
 .rename_i x y;obtain⟨rfl,hlt⟩:=hd;have hk':=(Tr.setK_iff _ _ _ _).1 hk;refine⟨_,hk',λn u hu=>?_⟩
  rw[zz4]at hu;have hlt':x<a.tmps.size:=Ah
  simp only[Act.put,Array.size_setIfInBounds];split at hu
  .exact Ad
  .rename_i hne;obtain⟨h1,h2⟩:=ht n u hu;refine⟨h1,?_⟩
   have:(a.tmps.setIfInBounds x v').getD n undef=a.tmps.getD n undef:=by
    rw[Array.getD_eq_getD_getElem?,Array.getD_eq_getD_getElem?,zzw,if_neg Ac]
   rw[this];exact h2
def qqX{t:Tr AV}{a:Act}(ht:TR σ Z t a.tmps){ops:Array Oper}{o:Oper}{g:Option (Nat×Bool)}(hg:qw9 ops o.guard g=true){k:Bool->Prop}(hk:qaO t g k) :
  k (Region.wanted o (yielded ops a.tmps)):=by
 cases hog:o.guard with
 | none =>
  rw[hog]at hg;cases g with
  | none=>simp only[Region.wanted,hog];exact hk
  | some _=>simp[qw9]at hg
 | some jb =>
  obtain⟨j,b⟩:=jb;rw[hog]at hg;cases g with
  | none=>simp[qw9]at hg
  | some dc =>
   obtain⟨d,c⟩:=dc;simp only[qw9,zzB]at hg;obtain⟨h1,h2⟩:=hg;obtain rfl:=eq_of_beq h1;have h2':=eq_of_beq h2
   have hk':t.getK d (λv=>match v with
    | .b x=>qX (x==b) k
    | .tup _=>k false
    | _=>False):=hk
   obtain⟨v,hv,hk2⟩:=(Tr.getK_iff _ _ _).1 hk';obtain⟨hlt,hvr⟩:=ht d v hv
   have hy:yielded ops a.tmps j=match a.tmps.getD d undef with | .bool b=>some b|_=>none:=by
    have e1:a.tmps[d]?=some (a.tmps.getD d undef):=by
     rw[Array.getD_eq_getD_getElem?,Array.getElem?_eq_getElem hlt];rfl
    simp only[yielded,h2',Option.bind_some,e1];cases a.tmps.getD d undef<;>rfl
   simp only[Region.wanted,hog,hy];cases v<;>try exact hk2.elim
   .rename_i x;rw[hvr.un_b];rw[show((some x==some b))=(x==b)from rfl]
    exact Ad
   grind[VR.un_tup]
def qsx(tm:Array Value):ResultVar->Sem Value
 | .tmp t=>pure (tm.getD t undef)
 | .cell a t=>do loadVar t (<- asAddr (tm.getD a undef))
omit [Cur] in
def qnk(fn:Func)(tm:Array Value):results fn tm=(do let vs <- fn.results.mapM (qsx tm);pure (if h:vs.size=1 then vs[0]else .tuple vs)):=by
 have:qsx tm=(fun
  | .tmp t=>pure (tm.getD t undef)
  | .cell a t=>do loadVar t (<- asAddr (tm.getD a undef))):=by
  funext x;cases x<;>rfl
 rw[this];rfl
def qsy{B:Nat->Prop}{h:Hp}{w:World}(r:Rel σ Z B h w){t:Tr AV}{tm:Array Value}(ht:TR σ Z t tm):∀(rs:List ResultVar) (is:List RV),qcf P rs is=true->∀(k:List AV->Prop),qaW t h is k->
  ∃vs vs',k vs/\VRs σ Z vs vs'/\(rs.mapM (qsx tm)).run P w = .ok vs' w
 | [],is,hc,k,hk=>by
  cases is with
  | nil=>exact⟨[],[],hk,.nil,by simp⟩
  | cons=>simp[qcf]at hc
 | x::rs,is,hc,k,hk=>by
  cases is with
  | nil=>cases x<;>simp[qcf]at hc
  | cons y is =>
   cases x with
   | tmp n =>
    cases y with
    | tmp m =>
     simp only[qcf,zzB]at hc;obtain⟨h1,hc⟩:=hc;obtain rfl:=eq_of_beq h1;have hk':t.getK n (λv=>qaW t h is (λvs=>k (v::vs))):=hk
     obtain⟨v,hv,hk2⟩:=(Tr.getK_iff _ _ _).1 hk';obtain⟨vs,vs',h2,h3,h4⟩:=qsy r ht rs is hc _ hk2;refine⟨v::vs,_::vs',h2,.cons _ _ _ _ (ht n v hv).2 h3,?_⟩;rw[List.mapM_cons];simp only[Sem.run_bind,qsx,Sem.run_pure,Result.andThen_ok];have h4':=h4
     exact Ad
    | cell=>simp[qcf]at hc
   | cell n ty =>
    cases y with
    | tmp=>simp[qcf]at hc
    | cell m size agg =>
     simp only[qcf,zzB]at hc;obtain⟨⟨⟨⟨h1,h2⟩,h3⟩,h4⟩,hc⟩:=hc;obtain rfl:=eq_of_beq h1;have h2:=eq_of_beq h2;have hk':t.getK n (λp=>unP p (λb o=>Bool.rec (motive:=λ_=>Prop) (ldK h b o (λv=>qaW t h is (λvs=>k (v::vs)))) (qb4 h b o size (λcs=>qaW t h is (λvs=>k (.agg cs::vs)))) agg)):=hk
     obtain⟨p,hp,hk2⟩:=(Tr.getK_iff _ _ _).1 hk';obtain⟨b,o,L,g1,g2,g3⟩:=qsG (ht n p hp).2 hk2
     have hload:∃v v',VR σ Z v v'/\qaW t h is (λvs=>k (v::vs))/\(loadVar ty ⟨L.blk,L.off+o,none⟩).run P w = .ok v' w:=by
      cases agg with
      | false =>
       obtain⟨v,v',g4,g5,g6⟩:=qEc r g1 g3;exact⟨v,v',g5,g4,by simp[loadVar,qdC h3,h2,g6]⟩
      | true =>
       obtain⟨cs,vs,g4,g5,g6,g7⟩:=qe3 r g1 g3;refine⟨.agg cs,.agg vs.toArray,.agg _ _ Ac,g4,?_⟩;have hsz:qZ P ty size=true:=Ad
       simp[loadVar,qdC h3,h2,zM hsz,qcD g6 g7]
     obtain⟨v,v',g4,g5,g6⟩:=hload;obtain⟨vs,vs',h5,h6,h7⟩:=qsy r ht rs is hc _ g5;refine⟨v::vs,v'::vs',h5,.cons _ _ _ _ g4 h6,?_⟩;rw[List.mapM_cons];have hx:(qsx tm (.cell n ty)).run P w = .ok v' w:=by simp[qsx,g2,asAddr,g6]
     rw[Sem.run_bind,hx,Result.andThen_ok,Sem.run_bind,h7];rfl
def qjn{B:Nat->Prop}{h:Hp}{w:World}(r:Rel σ Z B h w){t:Tr AV}{tm:Array Value}(ht:TR σ Z t tm){fn:Func}{is:List RV}(hc:qcf P fn.results.toList is=true){k:AV->Hp->Prop}(hk:qaW t h is (λvs=>k (qao vs) h)) :
  ∃v v',k v h/\VR σ Z v v'/\(results fn tm).run P w = .ok v' w:=by
 obtain⟨vs,vs',h1,h2,h3⟩:=qsy r ht fn.results.toList is hc _ hk
 have hm:(fn.results.mapM (qsx tm)).run P w = .ok vs'.toArray w:=by
  rcases hfr:fn.results with⟨l⟩;rw[List.mapM_toArray];rw[hfr]at h3;simp only[Sem.run_map,h3,Result.andThen_ok]
 have hl:=h2.length;refine⟨_,if h:vs'.toArray.size=1 then vs'.toArray[0]else .tuple vs'.toArray,h1,?_,?_⟩
 .cases h2 with
  | nil=>simpa[qao]using VR.tup (σ:=σ) (Z:=Z) [] #[] .nil
  | cons v vs v' vs' h4 h5 =>
   cases h5 with
   | nil=>simpa[qao]using h4
   | cons u us u' us' h6 h7 =>
    have:qao (v::u::us) = .tup (v::u::us):=rfl;rw[this,dif_neg (by simp)];exact .tup _ _ (by simpa using VRs.cons _ _ _ _ h4 (.cons _ _ _ _ h6 h7))
 simp_all[qnk]
omit [Cur] in
theorem qaD{f:Nat}{fn:Func}(hf:P.funcs[f]?=some fn)(hn:fn.name≠"runtime.NumGoroutine")(hb:fn.body.isSome=true)(args:Array Value)(w:World):(callFunc f args).run P w = .ok (.enter f args) w:=by
 obtain⟨c,hc⟩:=zzx.1 hb;simp[callFunc,hf,hn,hc]
omit [Cur] in
def qqw{c:Call}{io:IOp}(h:qjM P (.defer c) io=true):io = .no:=by
 cases io<;>first|rfl|exact absurd h Bool.false_ne_true
theorem qih(horc:OrcOk P σ orc){C:zA}(hs:qby P σ C){ro:Option Nat}{B:Nat->Prop}{h:Hp}{w:World}(r:Rel σ Z B h w){t:Tr AV}{a:Act}(ht:TR σ Z t a.tmps){o:Oper}{rk:RK}(hc:qg2 P o.op rk=true)
  {k:AV->Hp->Prop}(hk:qcZ orc C rk t h k) (next:Act->World->Prop) (Q:Exit->Act->World->Prop)
  (hn:∀v v' h' Z' w',k v h'->VR σ Z' v v'->Rel σ Z' B h' w'->Kept Z B h w Z' h' w'->next (a.put o.dst v') w'):o.wpIn (Fr ro) 0 P a w next Q:=by
 refine⟨λ_ _=>trivial,?_⟩
 generalize hoo:o.op=oo at hc;unfold qg2 at hc
 have callCase:∀{f:Nat}{vs:List AV}{args:Array Value},(∀c,o.op≠.defer c)->C (Nat.succ f) vs h k->VRs σ Z vs args.toList->((execOp a.eval o).run P w=(callFunc f args).run P w)->o.uponIn (Fr ro) 0 P a next Q ((o.semAt (Fr ro).round a.eval).run P w):=by
  intro f vs args hd h1 h2 h3;obtain⟨-,h5⟩:=hs.1 f vs h k h1;rw[Oper.semAt_eq _ _ _ hd,h3];rcases h5 Z B w args r h2 with⟨⟨fn,g1,g2,g3⟩,h6⟩|⟨v0,w',h6,v,v',h',Z',he,g1,g2,g3,g4⟩
  .rw[qaD g1 g2 g3,Oper.uponIn_enter];refine⟨λhh=>(by cases hh),qqN (Calls.mono h6 ?_)⟩
   rintro e w' ⟨v,v',h',Z',rfl,g1,g2,g3,g4⟩;exact Ah
  .cases he;rw[h6,Oper.uponIn_value];exact Ah
 split at hc
 .rename_i f args argTypes g bs;simp only[zzB]at hc;obtain⟨h1,h2⟩:=hc;obtain rfl:=eq_of_beq h1;obtain⟨vs,h3,h4⟩:=qi8 ht h2 hk;refine callCase Ad h3 (args:=args.map a.eval) (by simpa using h4) ?_;exact H5
 .rename_i x args argTypes y bs;simp only[zzB]at hc;obtain⟨h1,h2⟩:=hc;obtain⟨v,h3,h4⟩:=qR ht h1 hk;obtain⟨vs,h5,h6⟩:=qi8 ht h2 h3;cases v<;>try exact h5.elim
  rotate_left
  .rename_i b;obtain⟨L,h7,h8⟩:=h4.un_yl;obtain⟨fn,tmps,as',bd,q1,q2⟩:=hs.2 b vs h k h5 Z B w (args.map a.eval) L h7 r (by simpa using h6);rw[Oper.semAt_eq _ _ _ Ad]
   have e1:(execOp a.eval o).run P w = .ok (.round L.blk fn tmps as' bd) w:=Fn
   rw[e1,Oper.uponIn_round];refine⟨λhh=>(by cases hh),(q2 ro).mono ?_⟩
   rintro e w' ⟨v,v',h',Z',rfl,g1,g2,g3,g4⟩;exact Ah
  rename_i f first cap
  obtain⟨a',c',h7,h8,h9⟩:=h4.un_fn;refine callCase Ad h5 (args:=a'++args.map a.eval++c') D2 ?_
  simp[execOp,hoo,resolve,h9,Deferred.ofValue,invoke]
 .rename_i f args argTypes g bs;simp only[zzB]at hc;obtain⟨h1,h2⟩:=hc;obtain rfl:=eq_of_beq h1;obtain⟨vs,h3,h4⟩:=qi8 ht h2 hk;refine callCase Ad h3 (args:=args.map a.eval) (by simpa using h4) ?_;exact H5
 .rename_i x args argTypes y bs;simp only[zzB]at hc;obtain⟨h1,h2⟩:=hc;obtain⟨v,h3,h4⟩:=qR ht h1 hk;obtain⟨vs,h5,h6⟩:=qi8 ht h2 h3;cases v<;>try exact h5.elim
  rotate_left
  .rename_i b;obtain⟨L,h7,h8⟩:=h4.un_yl;obtain⟨fn,tmps,as',bd,q1,q2⟩:=hs.2 b vs h k h5 Z B w (args.map a.eval) L h7 r (by simpa using h6);rw[Oper.semAt_eq _ _ _ Ad]
   have e1:(execOp a.eval o).run P w = .ok (.round L.blk fn tmps as' bd) w:=Fn
   rw[e1,Oper.uponIn_round];refine⟨λhh=>(by cases hh),(q2 ro).mono ?_⟩
   rintro e w' ⟨v,v',h',Z',rfl,g1,g2,g3,g4⟩;exact Ah
  rename_i f first cap
  obtain⟨a',c',h7,h8,h9⟩:=h4.un_fn;refine callCase Ad h5 (args:=a'++args.map a.eval++c') D2 ?_
  simp[execOp,hoo,resolve,h9,Deferred.ofValue,invoke]
 .by_cases hd:∃c,o.op = .defer c
  .obtain⟨c,hd⟩:=hd;rw[hoo]at hd;subst hd;have:=qqw hc;subst this;exact Gy
  obtain⟨v,v',h',Z',w',g1,g2,g3,g4,g5⟩:=qKy (o:=o) horc r ht (by rw[hoo];exact hc) hk;rw[Oper.semAt_eq _ _ _ Ad];rcases g2 with g2|⟨g2,rfl⟩
  .rw[g2,Oper.uponIn_value];exact Ah
  .rw[g2,Oper.uponIn_skip];exact Ah
 exact Ad
theorem qkv(horc:OrcOk P σ orc){C:zA}(hs:qby P σ C){ro:Option Nat}{B:Nat->Prop}{h:Hp}{w:World}(r:Rel σ Z B h w){t:Tr AV}{a:Act}(ht:TR σ Z t a.tmps){o:Oper}{rk:RK}(hc:qg2 P o.op rk=true)
  {k:AV->Hp->Prop}(hk:qhO (qcZ orc C rk t) h k) (next:Act->World->Prop) (Q:Exit->Act->World->Prop)
  (hn:∀v v' h' Z' w',k v h'->VR σ Z' v v'->Rel σ Z' B h' w'->Kept Z B h w Z' h' w'->(∀b,b<h.sz->h'.tr.get b=h.tr.get b)->(∀n,n<w.heap.size->w'.heap[n]?=w.heap[n]?)->(∀b L,Z' b=some L->h.sz<=b->w.heap.size<=L.blk)->(∀k a,Z'.frz k=some a->Z.frz k=some a\/w.heap.size<=k)->next (a.put o.dst v') w'):o.wpIn (Fr ro) 0 P a w next Q:=by
 cases h with
 | mk sz fl tr =>
  have hk':qcZ orc C rk t ⟨sz,sz,tr⟩ (λv h'=>Hp.rec (motive:=λ_=>Prop) (λsz' _ tr'=>k v ⟨sz',fl,tr'⟩) h'):=hk
  have r1:Rel σ Z (low w.heap.size) ⟨sz,sz,tr⟩ w:=⟨r.dom,r.cells,r.maps,r.excl,r.exclm,r.app,λb L hb hf=>absurd (r.dom b L hb) Ah,λ_ h=>h,r.frz,r.dn⟩
  refine qih horc hs r1 ht hc hk' next Q ?_
  intro v v' h' Z' w' g1 g2 g3 g4;cases h' with
  | mk sz' fl' tr' =>
   have e1:fl'=sz:=g4.fl;have hnew:∀b L,Z' b=some L->sz<=b->w.heap.size<=L.blk:=λb L hb hf=>H8
   refine hn v v' ⟨sz',fl,tr'⟩ Z' w' g1 g2 ⟨g3.dom,g3.cells,g3.maps,g3.excl,g3.exclm,g3.app,?_,qfT r.base g4.wle,g3.frz,g3.dn⟩ ⟨g4.ext,g4.szle,rfl,λb _ hb=>g4.akeep b hb hb,Ce,g4.wle,g4.io,g4.frz,λk a h=>(g4.fnew k a h).imp id (λhh=>wJ r.base (Nat.not_lt.1 hh)),g4.nle⟩ (λb hb=>g4.akeep b hb hb) g4.pres hnew (by grind[Kept.fnew])
   intro b L hb hf
   by_cases hlt:b<sz
   .exact r.flr b L (by grind[Kept.ext]) hf
   .exact wJ r.base Ah
def qsB(horc:OrcOk P σ orc){C:zA}(hs:qby P σ C){ro:Option Nat}{draw:Bool}{B:Nat->Prop}{h:Hp}{w:World}(r:Rel σ Z B h w){t:Tr AV}{a:Act}(ht:TR σ Z t a.tmps){o:Oper}{rk:RK}(hc:qg2 P o.op rk=true)
  {k:AV->Hp->Prop}(hk:qjo orc draw C rk t h k) (next:Act->World->Prop) (Q:Exit->Act->World->Prop)
  (hn:∀v v' h' Z' w',k v h'->VR σ Z' v v'->Rel σ Z' B h' w'->Kept Z B h w Z' h' w'->next (a.put o.dst v') w'):o.wpIn (Fr ro) 0 P a w next Q:=by
 rcases(qff _ _ _).1 hk with⟨_,hk⟩|⟨_,hk⟩
 .exact by grind[qih]
 grind[qkv]
def qhP(horc:OrcOk P σ orc){C:zA}(hs:qby P σ C){ro:Option Nat}{nt:Nat}{ops:Array Oper}{Q:Tr AV->Hp->Prop}{K:Exit->Act->World->Prop}{Z0:Ren}{B:Nat->Prop}{h0:Hp}{w0:World}{ds:List Deferred}
  (hK:∀a w t h Z',Q t h->TR σ Z' t a.tmps->nt<=a.tmps.size->a.defers=ds->Rel σ Z' B h w->Kept Z0 B h0 w0 Z' h w->K .normal a w) :
  ∀(os:List Oper) (rs:List ROp) (i:Nat),qdP P ops nt os rs=true->ops.toList.drop i=os->∀t h Z w (a:Act),qel orc false C rs Q t h->TR σ Z t a.tmps->nt<=a.tmps.size->a.defers=ds->Rel σ Z B h w->Kept Z0 B h0 w0 Z h w->
   wpOpsIn (Fr ro) 0 P ops K (List.range' i os.length) a w
 | [],rs,i,hc,hd,t,h,Z,w,a,hk,ht,hsz,hds,r,hkept=>by
  cases rs with
  | nil=>exact hK a w t h Z hk ht hsz hds r hkept
  | cons=>simp[qdP]at hc
 | o::os,rs,i,hc,hd,t,h,Z,w,a,hk,ht,hsz,hds,r,hkept=>by
  cases rs with
  | nil=>simp[qdP]at hc
  | cons rr rs =>
   obtain⟨dst,rk,g⟩:=rr;simp only[qdP,qqx,zzB]at hc;obtain⟨⟨⟨hc1,hc2⟩,hc3⟩,hc⟩:=hc
   have ho:ops[i]?=some o:=by
    have:=congrArg (λl=>l[0]?) hd
    exact Ah
   have hd':ops.toList.drop (i+1)=os:=Fi
   have hk':qaO t g (λgo=>Bool.rec (motive:=λ_=>Prop)
    (wu t dst (.tup []) (λt'=>qel orc false C rs Q t' h)) (qjo orc false C rk t h (λv h'=>wu t dst v (λt'=>qel orc false C rs Q t' h'))) go):=hk
   have hgo:=qqX (ops:=ops) (o:=o) ht hc2 hk';simp only[zze,List.range'_succ,wpOpsIn,ho];cases hw:Region.wanted o (yielded ops a.tmps)with
   | false =>
    rw[hw]at hgo;obtain⟨t',h1,h2⟩:=ht.put hsz hc1 (.tup [] #[] .nil) hgo;simp only[Bool.false_eq_true,if_false];exact⟨λ_ _=>trivial,qhP horc hs hK os rs (i+1) hc hd' t' h Z w _ h1 h2 (by rw[wK];exact Ac) (by rw[wn];exact Ac) r hkept⟩
   | true =>
    rw[hw]at hgo;simp only[if_true];refine qsB horc hs r ht hc3 hgo _ _ ?_;intro v v' h' Z' w' g1 g2 g3 g4;obtain⟨t',h1,h2⟩:=(ht.mono (g4.mono r.dom)).put hsz hc1 g2 g1;exact qhP horc hs hK os rs (i+1) hc hd' t' h' Z' w' _ h1 h2 (by rw[wK];exact Ac) (by rw[wn];exact Ac) g3 (hkept.trans g4)
theorem qcF.weaken{Q:X->Tr AV->Hp->Prop}{nt n:Nat}{Z0:Ren}{B:Nat->Prop}{h0:Hp}{w0:World}{ds:List Deferred}{h:Hp}{w:World}(hkept:Kep n Z0 B h0 w0 Z h w){e:Exit}{a:Act}{w':World}(hp:qcF σ Q nt n Z B h w ds e a w'):qcF σ Q nt n Z0 B h0 w0 ds e a w':=by
 obtain⟨x,t',h',Z',rs,h1,h2,h3,h4,h5,h6,h7,h8⟩:=hp;exact⟨x,t',h',Z',rs,h1,h2,h3,h4,h5,⟨h6.nodup,λr hr=>zzg hkept.wle (h6.new r hr),h6.at'⟩,h7,hkept.trans h8⟩
theorem qcF.trans{Q:X->Tr AV->Hp->Prop}{nt n:Nat}{Z0:Ren}{B:Nat->Prop}{h0:Hp}{w0:World}{ds ds1:List Deferred}{h:Hp}{w:World}{rs:List Nat}(hkept:Kep n Z0 B h0 w0 Z h w)(hm:MarksOk w0 w rs)(hd:ds1=qlA rs++ds)(hr:∀r ∈ rs,r<w.heap.size)
  {e:Exit}{a:Act}{w':World}(hp:qcF σ Q nt n Z (BM B rs) h w ds1 e a w'):qcF σ Q nt n Z0 B h0 w0 ds e a w':=by
 obtain⟨x,t',h',Z',rs',h1,h2,h3,h4,h5,h6,h7,h8⟩:=hp;refine⟨x,t',h',Z',rs'++rs,h1,h2,h3,h4,by rw[h5,hd,qlA,qlA,qlA,List.map_append,zzi],⟨?_,?_,?_⟩,by rw[qEC]at h7;exact h7,hkept.trans h8.bm⟩
 .refine List.nodup_append.2 ⟨h6.nodup,hm.nodup,?_⟩;rintro r h9 r' h10 rfl;have:=h6.new r h9;have:=hr r h10;exact Ac
 .intro r hr';rcases zzd.1 hr' with h9|h9
  .exact zzg hkept.wle (h6.new r h9)
  .exact hm.new r h9
 .intro r hr';rcases zzd.1 hr' with h9|h9
  .exact h6.at' r h9
  .rw[h8.pres r (.inr h9)];exact hm.at' r h9
omit [Cur] in
theorem MarksOk.lt{w w':World}{rs:List Nat}(h:MarksOk w w' rs):∀r ∈ rs,r<w'.heap.size:=λr hr=>(Array.getElem?_eq_some_iff.1 (h.at' r hr)).1
def qjx(t t':Tr AV)(ns:List Nat):Prop:=∀n ∈ ns,t'.get n=t.get n
omit [Cur] in
theorem qjx.sub{t t':Tr AV}{ns ms:List Nat}(h:qjx t t' ns)(hs:∀n ∈ ms,n ∈ ns):qjx t t' ms:=λn hn=>h n (hs n hn)
omit [Cur] in
def qcN{t t':Tr AV}{x:O}(h:qjx t t' (xm x)):evK t' x=evK t x:=by
 cases x with
 | c v=>rfl
 | t n =>
  funext k;apply propext;show t'.getK n k↔t.getK n k;rw[Tr.getK_iff,Tr.getK_iff,h n (by simp[xm])]
omit [Cur] in
def qdA{t t':Tr AV}:∀{xs:List O}(_:qjx t t' (qcB xs)),ww t' xs=ww t xs
 | [],_=>rfl
 | x::xs,h=>by
  have e1:=qcN (x:=x) (h.sub λn hn=>by simp[qcB,hn])
  have e2:=qdA (xs:=xs) (h.sub λn hn=>by simp only[qcB,zzv,zzd]at hn ⊢;exact Ad)
  funext k;show evK t' x (λv=>ww t' xs (λvs=>k (v::vs)))=evK t x (λv=>ww t xs (λvs=>k (v::vs)))
  rw[e1,e2]
omit [Cur] in
def qvF{t t':Tr AV}{x:Option O}(h:qjx t t' (qea x)):qaV t' x=qaV t x:=by
 cases x with
 | none=>rfl
 | some x =>
  funext k;show evK t' x (λv=>k (some v))=evK t x (λv=>k (some v))
  rw[qcN h]
omit [Cur] in
def qmD{t t':Tr AV}:∀{ps:List (Nat×Nat×O)}(_:qjx t t' (qm8 ps)),qaj t' ps=qaj t ps
 | [],_=>rfl
 | p::ps,h=>by
  have e1:=qcN (x:=p.2.2) (h.sub λn hn=>by simp[qm8,hn])
  have e2:=qmD (ps:=ps) (h.sub λn hn=>by simp only[qm8,zzv,zzd]at hn ⊢;exact Ad)
  funext l k;show evK t' p.2.2 (λv=>qn (qc7 v) (qq p.1 (λoff=>qio (cellsOf v) (λn=>qn (Nat.beq n p.2.1) (jB (cellsOf v) off l (λl'=>qaj t' ps l' k))))))=evK t p.2.2 (λv=>qn (qc7 v) (qq p.1 (λoff=>qio (cellsOf v) (λn=>qn (Nat.beq n p.2.1) (jB (cellsOf v) off l (λl'=>qaj t ps l' k))))))
  rw[e1,e2]
omit [Cur] in
def qgV{t t':Tr AV}(b:Nat):∀{ps:List Nat}(_:qjx t t' ps),jC t' b ps=jC t b ps
 | [],_=>rfl
 | q::ps,h=>by
  have e1:t'.getK q=t.getK q:=qcN (x:=.t q) (t:=t) (t':=t') (λn hn=>h n (by simp[xm]at hn;exact Ah))
  have e2:=qgV b (ps:=ps) (h.sub λn hn=>Ah)
  funext p;show t'.getK q (λy=>match y with | .ptr b' _=>qn (not (Nat.beq b' b)) (jC t' b ps p) | .pf _ _=>jC t' b ps p|_=>False)=t.getK q (λy=>match y with | .ptr b' _=>qn (not (Nat.beq b' b)) (jC t b ps p) | .pf _ _=>jC t b ps p|_=>False)
  rw[e1,e2]
omit [Cur] in
def qy0{t t':Tr AV}{o:IOp}(h:qjx t t' (qx o)):opK orc o t'=opK orc o t:=by
 have hv:∀x,(∀n ∈ xm x,n ∈ qx o)->evK t' x=evK t x:=λx hx=>qcN (h.sub hx)
 have ho:∀x,(∀n ∈ qea x,n ∈ qx o)->qaV t' x=qaV t x:=λx hx=>qvF (h.sub hx)
 have hp:∀x,(∀n ∈ qm8 x,n ∈ qx o)->qaj t' x=qaj t x:=λx hx=>qmD (h.sub hx)
 have hs:∀x,(∀n ∈ qcB x,n ∈ qx o)->ww t' x=ww t x:=λx hx=>qdA (h.sub hx)
 funext hh k;cases o<;>simp only[opK]
 case mov x=>exact Bf
 case pick c x y=>rw[hv c Ai,hv x Ai,hv y Ai]
 case box x=>exact Bf
 case build z ps=>rw[hp ps (by simp[qx])]
 case buildS n z ps=>rw[hp ps (by simp[qx])]
 case load1 x=>exact Bf
 case loadN n x=>exact Bf
 case store n x v=>rw[hv x Ai,hv v Ai]
 case nilChk x=>exact Bf
 case bin op x y=>rw[hv x Ai,hv y Ai]
 case eqB neg x y=>rw[hv x Ai,hv y Ai]
 case eqN neg q x=>exact Bf
 case un op x=>exact Bf
 case cvInt k x=>exact Bf
 case s2b x=>exact Bf
 case b2s x=>exact Bf
 case fAddr off x=>exact Bf
 case fld off n x=>exact Bf
 case iAddrA len esz x i=>rw[hv x Ai,hv i Ai]
 case iAddrS esz x i=>rw[hv x Ai,hv i Ai]
 case idxA len esz agg x i=>rw[hv x Ai,hv i Ai]
 case idxS x i=>rw[hv x Ai,hv i Ai]
 case slcS esz x lo hi mx=>rw[hv x Ai,ho lo Ai,ho hi Ai,ho mx Ai]
 case slcStr x lo hi=>rw[hv x Ai,ho lo Ai,ho hi Ai]
 case slcA len esz x lo hi mx=>rw[hv x Ai,ho lo Ai,ho hi Ai,ho mx Ai]
 case ext x i=>exact Bf
 case mkF f a c=>rw[hs a Ai,hs c Ai]
 case mkS esz bytes z len cap=>rw[hv len Ai,hv cap Ai]
 case len str x=>exact Bf
 case app esz bytes c s x=>rw[hv s Ai,hv x Ai]
 case copy esz d s=>rw[hv d Ai,hv s Ai]
 case max x y=>rw[hv x Ai,hv y Ai]
 case clear z x=>exact Bf
 case lookM kd ok z x i=>rw[hv x Ai,hv i Ai]
 case updM kd x i v=>rw[hv x Ai,hv i Ai,hv v Ai]
 case cap x=>exact Bf
 case min x y=>rw[hv x Ai,hv y Ai]
 case rangeS x=>exact Bf
 case storeD n x v ps =>
  have e:=λb=>qgV (t:=t) (t':=t') b (ps:=ps) (h.sub λn hn=>by simp[qx,hn])
  rw[hv x Ai,hv v Ai]
  exact Ad
 case appD esz bytes s x ps =>
  have e:=λb=>qgV (t:=t) (t':=t') b (ps:=ps) (h.sub λn hn=>by simp[qx,hn])
  rw[hv s Ai,hv x Ai];have e2:∀s p,qcx t' ps s p=qcx t ps s p:=λs p=>by cases s<;>first|rfl|simp only[qcx,e]
  exact Ad
 case appZ esz bytes z s x=>rw[hv s Ai,hv x Ai]
 case nextS x=>exact Bf
 case cvR x=>exact Bf
 case rngE x=>exact Bf
 case nxtE x=>exact Bf
omit [Cur] in
def qsA{C:zA}{t t':Tr AV}{r:RK}(h:qjx t t' (qgb r)):qcZ orc C r t'=qcZ orc C r t:=by
 cases r with
 | op o=>exact qy0 h
 | callF f args =>
  exact De
 | callV x args =>
  exact Cy
 | callW f args =>
  exact De
 | callVW x args =>
  exact Cy
omit [Cur] in
def qvQ{C:zA}{t t':Tr AV}{draw:Bool}{r:RK}(h:qjx t t' (qgb r)):qjo orc draw C r t'=qjo orc draw C r t:=by
 funext hh k;simp only[qjo,qsA h]
omit [Cur] in
def qqV{t t':Tr AV}{g:Option (Nat×Bool)}(h:qjx t t' (match g with|some g=>[g.1]|none=>[])):qaO t' g=qaO t g:=by
 cases g with
 | none=>rfl
 | some g =>
  funext k;have e:=qcN (x:=.t g.1) (t:=t) (t':=t') (λn hn=>h n (by simpa[xm]using hn))
  have e':t'.getK g.1=t.getK g.1:=e;simp only[qaO,e']
def only(t:Tr AV):List Nat->Tr AV
 | []=>.leaf
 | n::ns=>match t.get n with|some v=>(only t ns).set n v|none=>only t ns
omit [Cur] in
def qhI(t:Tr AV):∀(ns:List Nat) (n:Nat),(only t ns).get n=if n ∈ ns then t.get n else none
 | [],n=>by simp[only]
 | m::ns,n=>by
  simp only[only];cases h:t.get m with
  | none =>
   simp only;rw[qhI t ns n]
   exact Ah
  | some v =>
   simp only;rw[zz4,qhI t ns n]
   exact Ah
omit [Cur] in
def L3.b1'{α β γ δ:Type}{G:(α->β->γ->Prop)->Prop}{F:α->β->γ->(δ->Prop)->Prop}(hG:L3 G)(hF:∀x y z,L1 (F x y z)):L1 (λk=>G (λx y z=>F x y z k)):=λ_ h=>by
 obtain⟨x,y,z,h1,h2⟩:=hG _ h;obtain⟨u,h3,h4⟩:=hF x y z _ h1;exact Ah
omit [Cur] in
def qCT{o:IOp}(hp:qbU (.op o)=true){t:Tr AV}{h:Hp}{k:AV->Hp->Prop}(hk:opK orc o t h k):∃v,k v h/\∀h2 (k2:AV->Hp->Prop),k2 v h2->opK orc o t h2 k2:=by
 have mk:∀{G:(AV->Prop)->Prop},L1 G->G (λv=>k v h)->∃v,k v h/\∀h2 (k2:AV->Hp->Prop),k2 v h2->G (λv=>k2 v h2):=by
  intro G hG h1;obtain⟨v,h2,h3⟩:=hG _ h1
  exact Ah
 cases o<;>first|(simp[qbU]at hp;done)|skip
 case mov x=>exact mk (qw t x) hk
 case pick c x y=>exact mk (G:=λk=>evK t c (λc=>unB c (λc=>Bool.rec (motive:=λ_=>Prop) (evK t y k) (evK t x k) c))) (L1.b1 (qw t c) λc=>L1.b1 (qhS c) λc=>L1.br _ (qw t y) (qw t x)) hk
 case bin op x y=>exact mk (G:=λk=>evK t x (λx=>evK t y (λy=>xE orc op x y k))) (L1.b1 (qw t x) λx=>L1.b1 (qw t y) (by grind[qwy])) hk
 case eqB neg x y=>exact mk (G:=λk=>evK t x (λx=>evK t y (λy=>unB x (λx=>unB y (λy=>qX (xor neg (x==y)) (λr=>k (.b r))))))) (L1.b1 (qw t x) λx=>L1.b1 (qw t y) λy=>L1.b1 (qhS x) λx=>L1.b1 (qhS y) λy=>L1.b1 (xn _) λr=>L1.ret _) hk
 case un op x=>exact mk (G:=λk=>evK t x (λx=>qeP op x k)) (L1.b1 (qw t x) λx=>quf op x) hk
 case cvInt q x=>exact mk (G:=λk=>evK t x (λx=>cvK orc q x k)) (L1.b1 (qw t x) (by grind[qDZ])) hk
 case fAddr off x=>exact mk (G:=λk=>evK t x (λp=>qjg p off k)) (L1.b1 (qw t x) λp=>qpB _ _) hk
 case iAddrA len esz x i=>exact mk (G:=λk=>evK t x (λp=>evK t i (λi=>unN i (λi=>qn (Nat.ble (Nat.succ i) len) (qjg p (Nat.mul i esz) k))))) (L1.b1 (qw t x) λp=>L1.b1 (qw t i) λi=>L1.b1 (qfP i) λi=>L1.wh _ (qpB _ _)) hk
 case iAddrS esz x i =>
  refine mk (G:=λk=>evK t x (λx=>match x with
   | .sl b o len _ _=>evK t i (λi=>unN i (λi=>qn (Nat.ble (Nat.succ i) len) (qq (Nat.add o (Nat.mul i esz)) (λo'=>k (.ptr b o')))))
   | .fz len cs=>evK t i (λi=>unN i (λi=>qn (Nat.ble (Nat.succ i) len) (qq (Nat.mul i esz) (λo'=>k (.pf cs o')))))
   | .own b len=>evK t i (λi=>unN i (λi=>qn (Nat.ble (Nat.succ i) len) (qq (Nat.mul i esz) (λo'=>k (.ptr b o')))))
   | _=>False)) (L1.b1 (qw t x) λx=>?_) hk
  cases x<;>dsimp only<;>first|exact L1.no|exact L1.b1 (qw t i) λi=>L1.b1 (qfP i) λi=>L1.wh _ (L1.b1 (zd _) λo'=>L1.ret _)
 case nilChk x =>
  refine mk (G:=λk=>evK t x (λv=>match v with | .ptr b o=>k (.ptr b o) | .fn f a c=>k (.fn f a c) | .map r=>k (.map r) | .pf cs o=>k (.pf cs o) | .yl b=>k (.yl b)|_=>False)) (L1.b1 (qw t x) λx=>?_) (show evK t x (λv=>match v with | .ptr b o=>k (.ptr b o) h | .fn f a c=>k (.fn f a c) h | .map r=>k (.map r) h | .pf cs o=>k (.pf cs o) h | .yl b=>k (.yl b) h|_=>False)from hk)
  cases x<;>dsimp only<;>first|exact L1.no|exact L1.ret _
 case eqN neg q x=>exact mk (G:=λk=>evK t x (λx=>ju q x (λr=>qX (xor neg r) (λr=>k (.b r))))) (L1.b1 (qw t x) λx=>L1.b1 (qq6 q x) λr=>L1.b1 (xn _) λr=>L1.ret _) hk
 case fld off n x =>
  refine mk (G:=λk=>evK t x (λx=>match x with
   | .agg cs=>Option.rec (motive:=λ_=>Prop) (qjh cs off k) (λn=>qcM off cs (λl=>qbu n l (λl=>k (.agg l)))) n
   | _=>False)) (L1.b1 (qw t x) λx=>?_) hk
  cases x<;>dsimp only<;>try exact L1.no
  cases n
  all_goals simp_all[qji,L1.b1,qf0,qdv,L1.ret]
 case min x y=>exact mk (G:=λk=>evK t x (λx=>evK t y (λy=>unI x (λq n=>unI y (λ_ m=>Bool.rec (motive:=λ_=>Prop) (k (.i q n)) (k (.i q m)) (ltI m n)))))) (L1.b1 (qw t x) λx=>L1.b1 (qw t y) λy=>L2.b1 (qlF x) λq n=>L2.b1 (qlF y) λ_ m=>L1.br _ (L1.ret _) (L1.ret _)) hk
 case max x y=>exact mk (G:=λk=>evK t x (λx=>evK t y (λy=>unI x (λq n=>unI y (λ_ m=>Bool.rec (motive:=λ_=>Prop) (k (.i q n)) (k (.i q m)) (ltI n m)))))) (L1.b1 (qw t x) λx=>L1.b1 (qw t y) λy=>L2.b1 (qlF x) λq n=>L2.b1 (qlF y) λ_ m=>L1.br _ (L1.ret _) (L1.ret _)) hk
 case build z ps=>exact mk (G:=λk=>qaj t ps z (λcs=>k (.agg cs))) (L1.b1 (qjS t ps z) λcs=>L1.ret _) hk
 case len b x =>
  cases b with
  | false =>
   have e:∀(h:Hp) (k:AV->Hp->Prop),opK orc (.len false x) t h k=evK t x (λy=>match y with
    | .nils=>k (.i .i64 0) h
    | .e0=>k (.i .i64 0) h
    | .nz=>k (.i .i64 0) h
    | .fz n _=>k (.i .i64 (Int.ofNat n)) h
    | .own _ n=>k (.i .i64 (Int.ofNat n)) h
    | .sl _ _ n _ _=>k (.i .i64 (Int.ofNat n)) h
    | _=>False):=by
    intro h k;show evK t x _=evK t x _
    exact Ah
   rw[e]at hk
   obtain⟨v,h1,h2⟩:=mk (G:=λk=>evK t x (λy=>match y with
    | .nils=>k (.i .i64 0)
    | .e0=>k (.i .i64 0)
    | .nz=>k (.i .i64 0)
    | .fz n _=>k (.i .i64 (Int.ofNat n))
    | .own _ n=>k (.i .i64 (Int.ofNat n))
    | .sl _ _ n _ _=>k (.i .i64 (Int.ofNat n))
    | _=>False)) (L1.b1 (qw t x) λx=>by cases x<;>dsimp only<;>first|exact L1.no|exact L1.ret _) hk
   exact⟨v,h1,λh3 k2 hk2=>by rw[e];exact Ad⟩
  | true =>
   have e:∀(h:Hp) (k:AV->Hp->Prop),opK orc (.len true x) t h k=evK t x (λy=>match y with
    | .s a=>qq a.length (λn=>k (.i .i64 (Int.ofNat n)) h)
    | .sym j=>qjk (orc.len j) (λv=>k v h)
    | _=>False):=by
    intro h k;show evK t x _=evK t x _
    exact Ah
   rw[e]at hk
   obtain⟨v,h1,h2⟩:=mk (G:=λk=>evK t x (λy=>match y with
    | .s a=>qq a.length (λn=>k (.i .i64 (Int.ofNat n)))
    | .sym j=>qjk (orc.len j) k
    | _=>False)) (L1.b1 (qw t x) λx=>by cases x<;>dsimp only<;>first|exact L1.no|exact L1.b1 (zd _) λn=>L1.ret _|exact qhJ _) hk
   exact⟨v,h1,λh3 k2 hk2=>by rw[e];exact Ad⟩
 case slcStr x lo hi =>
  refine mk (G:=λk=>evK t x (λx=>qaV t lo (λlo=>qaV t hi (λhi=>match x with
   | .s a=>xg a.length a.length lo hi none (λl h' _=>k (.s ((a.take h').drop l)))
   | _=>False)))) (L1.b1 (qw t x) λx=>L1.b1 (qe4 t lo) λlo=>L1.b1 (qe4 t hi) λhi=>?_) hk
  cases x<;>dsimp only<;>first|exact L1.no|simp_all[L3.b1',qbA,L1.ret]
 case ext x i =>
  refine mk (G:=λk=>evK t x (λx=>match x with | .tup cs=>qjh cs i k|_=>False)) (L1.b1 (qw t x) λx=>?_) hk
  cases x<;>dsimp only<;>first|exact L1.no|grind[qji]
def Rel.join{Z1 Z2:Ren}{B:Nat->Prop}{h h2:Hp}{w w':World}(r1:Rel σ Z1 B h w)(r2:Rel σ Z2 B h2 w')(hw:∀n,n<w.heap.size->w'.heap[n]?=w.heap[n]?)(hsz:w.heap.size<=w'.heap.size)
  (hs:h2.sz<=h.sz) (hf:h.fl=h2.fl) (hg:∀b,b<h2.sz->h.tr.get b=h2.tr.get b) (h1Z:∀b L,Z1 b=some L->Z' b=some L) (h2Z:∀b L,Z2 b=some L->Z' b=some L)
  (hz1:∀k a,Z1.frz k=some a->Z2.frz k=some a) (hzf:Z'.frz=Z2.frz) (hn1:Z1.n<=Z'.n) (hn2:Z2.n<=Z'.n) (hn3:Z'.n<=h.sz) (hzn:∀k a,Z2.frz k=some a->Z1.frz k=some a\/w.heap.size<=k)
  (hor:∀b L,Z' b=some L->Z1 b=some L\/(Z2 b=some L/\w.heap.size<=L.blk)):Rel σ Z' B h w':=by
 have r1':=r1.world hw hsz;have r2':=r2.longer hs hf hg;have old:∀b L x,Z1 b=some L->h.tr.get b=some x->x≠.dead->L.blk<w.heap.size:=λb L x hb hx hd=>r1.blk_lt b L hb x hx hd
 have l1:Z1.le Z':=⟨h1Z,λk a hk=>by rw[hzf];exact hz1 k a hk,hn1⟩
 have l2:Z2.le Z':=⟨h2Z,λk a hk=>by rw[hzf];exact hk,hn2⟩
 refine⟨?_,?_,?_,?_,?_,?_,?_,r1'.base,?_,⟨hn3,λb L hb=>(hor b L hb).elim (λh=>r1'.dn.2 b L h) λh=>r2.dn.2 b L h.1⟩⟩
 rotate_right
 .intro k arr hk;rw[hzf]at hk;obtain⟨g1,g2⟩:=r2'.frz k arr hk;refine⟨g1,λb L x hb hx hd=>?_⟩
  rcases hor b L hb with hb|⟨hb,hn⟩
  .rcases hzn k arr hk with hk|hk
   .exact Dz
   .have:=old b L x hb hx hd;exact Ac
  .exact g2 b L x hb hx hd
 .intro b L hb;rcases hor b L hb with hb|⟨hb,_⟩
  .exact r1'.dom b L hb
  .exact r2'.dom b L hb
 .intro b L e wf af cs hb hx;rcases hor b L hb with hb|⟨hb,_⟩
  .obtain⟨g1,c,ty,fz,g2,g3,g4,g5,g6⟩:=r1'.cells b L e wf af cs hb hx;exact Dj
  .obtain⟨g1,c,ty,fz,g2,g3,g4,g5,g6⟩:=r2'.cells b L e wf af cs hb hx;exact Dj
 .intro b L es hb hx;rcases hor b L hb with hb|⟨hb,_⟩
  .obtain⟨g1,ob,g2,g3⟩:=r1'.maps b L es hb hx;exact D4
  .obtain⟨g1,ob,g2,g3⟩:=r2'.maps b L es hb hx;exact D4
 .intro b L e af cs hb hx b' L' x hb' hx' hd he;rcases hor b L hb with hb|⟨hb,hn⟩<;>rcases hor b' L' hb' with hb'|⟨hb',hn'⟩
  .exact Dc
  .have:=old b L _ hb hx (by simp);exact Ac
  .have:=old b' L' _ hb' hx' hd;exact Ac
  .exact Dc
 .intro b L es hb hx b' L' x hb' hx' hd he;rcases hor b L hb with hb|⟨hb,hn⟩<;>rcases hor b' L' hb' with hb'|⟨hb',hn'⟩
  .exact C0
  .have:=old b L _ hb hx (by simp);exact Ac
  .have:=old b' L' _ hb' hx' hd;exact Ac
  .exact C0
 .intro b L e wf cs hb hx b' L' e' wf' af' cs' hb' hx' he;rcases hor b L hb with hb|⟨hb,hn⟩<;>rcases hor b' L' hb' with hb'|⟨hb',hn'⟩
  .exact Hi
  .have:=old b L _ hb hx (by simp);exact Ac
  .have:=old b' L' _ hb' hx' (by simp);exact Ac
  .exact r2'.app b L e wf cs hb hx b' L' e' wf' af' cs' hb' hx' he
 exact H8
def Rel.join2{Z1 Z2:Ren}{B B2:Nat->Prop}{h h2:Hp}{w w':World}{nb:Nat}(r1:Rel σ Z1 B h w)(r2:Rel σ Z2 B2 h2 w')(hw:∀n,n<w.heap.size->w'.heap[n]?=w.heap[n]?)(hsz:w.heap.size<=w'.heap.size)
  (hnb:nb<h.sz) (hg:h.tr.get nb=h2.tr.get nb) (h1Z:∀b L,Z1 b=some L->Z' b=some L) (h2Z:∀b L,Z2 b=some L->Z' b=some L)
  (hz1:∀k a,Z1.frz k=some a->Z2.frz k=some a) (hzf:Z'.frz=Z2.frz) (hn1:Z1.n<=Z'.n) (hn2:Z2.n<=Z'.n) (hn3:Z'.n<=h.sz) (hzn:∀k a,Z2.frz k=some a->Z1.frz k=some a\/w.heap.size<=k)
  (hor:∀b L,Z' b=some L->Z1 b=some L\/(b=nb/\Z2 b=some L/\w.heap.size<=L.blk)):Rel σ Z' B h w':=by
 have r1':=r1.world hw hsz;have old:∀b L x,Z1 b=some L->h.tr.get b=some x->x≠.dead->L.blk<w.heap.size:=λb L x hb hx hd=>r1.blk_lt b L hb x hx hd
 have l1:Z1.le Z':=⟨h1Z,λk a hk=>by rw[hzf];exact Ad,hn1⟩
 have l2:Z2.le Z':=⟨h2Z,λk a hk=>by rw[hzf];exact hk,hn2⟩
 have tr:∀{b x},b=nb->h.tr.get b=some x->h2.tr.get b=some x:=Ad
 refine⟨?_,?_,?_,?_,?_,?_,?_,r1'.base,?_,⟨hn3,λb L hb=>(hor b L hb).elim (λh=>r1'.dn.2 b L h) λh=>r2.dn.2 b L h.2.1⟩⟩
 rotate_right
 .exact Dz
 .intro b L hb;rcases hor b L hb with hb|⟨he,hb,_⟩
  .exact r1'.dom b L hb
  exact Ac
 .intro b L e wf af cs hb hx;rcases hor b L hb with hb|⟨he,hb,_⟩
  .obtain⟨g1,c,ty,fz,g2,g3,g4,g5,g6⟩:=r1'.cells b L e wf af cs hb hx;exact Dj
  grind[Rel.cells,VR.mono]
 .grind[Rel.maps,qbw.mono]
 .intro b L e af cs hb hx b' L' x hb' hx' hd he;rcases hor b L hb with hb|⟨hq,hb,hn⟩<;>rcases hor b' L' hb' with hb'|⟨hq',hb',hn'⟩
  .exact Dc
  all_goals grind
 .intro b L es hb hx b' L' x hb' hx' hd he;rcases hor b L hb with hb|⟨hq,hb,hn⟩<;>rcases hor b' L' hb' with hb'|⟨hq',hb',hn'⟩
  .exact C0
  all_goals grind
 .intro b L e wf cs hb hx b' L' e' wf' af' cs' hb' hx' he;rcases hor b L hb with hb|⟨hq,hb,hn⟩<;>rcases hor b' L' hb' with hb'|⟨hq',hb',hn'⟩
  .exact Hi
  all_goals grind
 .intro b L hb hh;rcases hor b L hb with hb|⟨_,_,hn⟩
  .exact H8
  .exact λhB=>absurd (r1.base _ hB) (Nat.not_lt.2 hn)
omit [Cur] in
def qh3{ops:Array Oper}{nt:Nat}:∀{os:List Oper}{rs:List ROp},qdP P ops nt os rs=true->os.length=rs.length/\∀(i:Nat) o r,os[i]?=some o->rs[i]?=some r->qqx P ops nt o r=true
 | [],[],_=>⟨rfl,by simp⟩
 | o::os,r::rs,h=>by
  simp only[qdP,zzB]at h;obtain⟨h1,h2⟩:=h;obtain⟨h3,h4⟩:=qh3 h2
  exact Ah
 | [],_::_,h=>by simp[qdP]at h
 | _::_,[],h=>by simp[qdP]at h
structure Canon (orc:Orc) (C:zA) (rs:List ROp) (T:Nat->Tr AV) (H:Nat->Hp) (G:Nat->Bool) (V:Nat->AV):Prop where
 step:∀(i:Nat) r,rs[i]?=some r->qaO (T i) r.guard (λg=>g=G i)/\wu (T i) r.dst (V i) (λt=>t=T (i+1)) /\
  ((G i=true/\qjo orc true C r.k (T i) (H i) (λv h=>v=V i/\h=H (i+1)))\/(G i=false/\V i = .tup []/\H (i+1)=H i))
omit [Cur] in
def qqu{C:zA}(hi:LC C){Q:Tr AV->Hp->Prop}:∀(rs:List ROp) (t:Tr AV) (h:Hp),qel orc true C rs Q t h->
  ∃T H G V,T 0=t/\H 0=h/\Canon orc C rs T H G V/\Q (T rs.length) (H rs.length)
 | [],t,h,hk=>⟨λ_=>t,λ_=>h,λ_=>false,λ_=>.undef,rfl,rfl,⟨by simp⟩,hk⟩
 | ⟨dst,k,g⟩::rs,t,h,hk=>by
  have hk':qaO t g (λgo=>Bool.rec (motive:=λ_=>Prop)
   (wu t dst (.tup []) (λt'=>qel orc true C rs Q t' h)) (qjo orc true C k t h (λv h'=>wu t dst v (λt'=>qel orc true C rs Q t' h'))) go):=hk
  obtain⟨go,h1,h2⟩:=qqU t g _ hk'
  have shift:∀(v:AV) (t1:Tr AV) (h1:Hp),wu t dst v (λt'=>t'=t1)->((go=true/\qjo orc true C k t h (λv' h'=>v'=v/\h'=h1))\/(go=false/\v = .tup []/\h1=h))->qel orc true C rs Q t1 h1->
    ∃T H G V,T 0=t/\H 0=h/\Canon orc C (⟨dst,k,g⟩::rs) T H G V/\Q (T (rs.length+1)) (H (rs.length+1)):=by
   intro v t1 hh1 hd hg hr;obtain⟨T,H,G,V,e1,e2,e3,e4⟩:=qqu hi rs t1 hh1 hr;refine⟨λi=>match i with|0=>t|i+1=>T i,λi=>match i with|0=>h|i+1=>H i,λi=>match i with|0=>go|i+1=>G i,λi=>match i with|0=>v|i+1=>V i,rfl,rfl,⟨?_⟩,e4⟩
   intro i r hri;cases i<;>grind[Canon.step]
  cases go with
  | false =>
   obtain⟨t1,h3,h4⟩:=qpo t dst _ _ h1
   exact Ah
  | true =>
   obtain⟨v,hh,h3,h4⟩:=qzK orc true hi k t h _ h1;obtain⟨t1,h5,h6⟩:=qpo t dst v _ h3
   exact Ah
omit [Cur] in
def qo3{C:zA}{rs:List ROp}{T:Nat->Tr AV}{H:Nat->Hp}{G:Nat->Bool}{V:Nat->AV}(hc:Canon orc C rs T H G V){i:Nat}{r:ROp}(hr:rs[i]?=some r)(x:Nat) :
  (T (i+1)).get x=if r.dst=some x then some (V i)else(T i).get x:=by
 obtain⟨_,h2,_⟩:=hc.step i r hr;cases hd:r.dst with
 | none =>
  rw[hd]at h2;have h2':T i=T (i+1):=h2
  exact Ad
 | some d =>
  rw[hd]at h2;have h2':(T i).setK d (V i) (λt=>t=T (i+1)):=h2
  rw[Tr.setK_iff]at h2';rw[<- h2',zz4]
  exact Ah
omit [Cur] in
def qnI{o:Oper}{a:Act}{w:World}{F:Prop}(h:o.wpIn (Fr none) 0 P a w (λ_ _=>F) (λ_ _ _=>False)):F:=by
 obtain⟨_,h⟩:=h;generalize(o.semAt (Fr none).round a.eval).run P w=r at h;cases r with
 | ok n w' =>
  cases n<;>simp only[Oper.uponIn]at h
  case enter f args =>
   obtain⟨e,w'',fr,hR,_⟩:=h.2.2 [] (room_wide _);cases e with
   | returned v=>exact hR
   | panicked=>exact hR.elim
   | outgrown=>obtain⟨_,_,hh⟩:=hR;exact hh.elim
  case row row args =>
   obtain⟨v,w'',hR,_⟩:=h.2 default [] (room_wide _);exact hR
  case round l f tmps assign body =>
   obtain⟨e,w'',hR,_⟩:=h.2.2 default [] (room_wide _);cases e with
   | returned v=>exact hR
   | panicked=>exact hR.elim
   | outgrown=>obtain⟨_,_,hh⟩:=hR;exact hh.elim
  all_goals omega
 | halt x w'=>cases x<;>simp only[Oper.uponIn]at h
structure Fact (rs:List ROp) (H:Nat->Hp) (i:Nat):Prop where
 sz:(H i).sz<=(H (i+1)).sz
 fl:(H (i+1)).fl=(H i).fl
 keep:(∀r,rs[i]?=some r->wr r.k=false)->∀b,b<(H i).sz->(H (i+1)).tr.get b=(H i).tr.get b
 floor:∀b,b<(H i).fl->b<(H i).sz->(H (i+1)).tr.get b=(H i).tr.get b
def qep(horc:OrcOk P σ orc){C:zA}(hs:qby P σ C){nt:Nat}{ops:Array Oper}{rs:List ROp}(hrs:qdP P ops nt ops.toList rs=true){T:Nat->Tr AV}{H:Nat->Hp}{G:Nat->Bool}{V:Nat->AV}(hc:Canon orc C rs T H G V)
  {B:Nat->Prop}{w:World}{a:Act}(ht:TR σ Z (T 0) a.tmps) (hsz:nt<=a.tmps.size) (r:Rel σ Z B (H 0) w):∀i,i<=rs.length->
  (∃(Z':Ren) (a':Act) (w':World),TR σ Z' (T i) a'.tmps/\nt<=a'.tmps.size/\Rel σ Z' B (H i) w')/\∀j,j<i->Fact rs H j
 | 0,_=>Ah
 | i+1,hi=>by
  obtain⟨⟨Z1,a1,w1,ht1,hs1,r1⟩,hf⟩:=qep horc hs hrs hc ht hsz r i Ac;obtain⟨hlen,hget⟩:=qh3 hrs;have hri:rs[i]?=some rs[i]:=Ad
  have hoi:ops.toList[i]?=some (ops.toList[i]' Ac):=Ad
  have hchk:=hget i _ _ hoi hri;generalize rs[i]=rr at hri hchk;generalize ops.toList[i]' Ac=o at hoi hchk;simp only[qqx,zzB]at hchk;obtain⟨⟨hc1,hc2⟩,hc3⟩:=hchk;obtain⟨g1,g2,g3⟩:=hc.step i rr hri
  have key:(∃(Z':Ren) (a':Act) (w':World),TR σ Z' (T (i+1)) a'.tmps/\nt<=a'.tmps.size/\Rel σ Z' B (H (i+1)) w')/\Fact rs H i:=by
   rcases g3 with⟨_,g3⟩|⟨_,g3,g4⟩
   .rcases (qff _ _ _).1 g3 with⟨hb,g3⟩|⟨hb,g3⟩
    .refine qnI (P:=P) (o:=o) (a:=a1) (w:=w1) (qih horc hs r1 ht1 hc3 g3 _ _ ?_);rintro v v' h' Z' w' ⟨rfl,rfl⟩ q1 q2 q3;obtain⟨t',q4,q5⟩:=(ht1.mono (q3.mono r1.dom)).put hs1 hc1 q1 g2;subst q4;refine⟨by grind[wK],q3.szle,q3.fl,λhw=>?_,q3.akeep⟩
     have:=hw rr hri;simp[this]at hb
    .refine qnI (P:=P) (o:=o) (a:=a1) (w:=w1) (qkv horc hs r1 ht1 hc3 g3 _ _ ?_);rintro v v' h' Z' w' ⟨rfl,rfl⟩ q1 q2 q3 q6 _ _ _;obtain⟨t',q4,q5⟩:=(ht1.mono (q3.mono r1.dom)).put hs1 hc1 q1 g2;subst q4;exact⟨by grind[wK],q3.szle,q3.fl,λ_=>q6,q3.akeep⟩
   .obtain⟨t',q4,q5⟩:=ht1.put hs1 hc1 (.tup [] #[] .nil) (by rw[g3]at g2;exact g2);subst q4;exact⟨by grind[wK],by rw[g4];exact zzL _,by rw[g4],Ad,Ad⟩
  exact Ah
section facts
variable {rs:List ROp}{H:Nat->Hp}
omit [Cur] in
def zN(hf:∀j,j<rs.length->Fact rs H j){i j:Nat}(hij:i<=j)(hj:j<=rs.length):(H i).sz<=(H j).sz:=by
 induction j<;>grind[Fact.sz]
omit [Cur] in
def qqI(hf:∀j,j<rs.length->Fact rs H j){i j:Nat}(hij:i<=j)(hj:j<=rs.length):(H j).fl=(H i).fl:=by
 induction j<;>grind[Fact.fl]
omit [Cur] in
def qpu(hf:∀j,j<rs.length->Fact rs H j){i j:Nat}(hij:i<=j)(hj:j<=rs.length)(hw:∀k,i<=k->k<j->∀r,rs[k]?=some r->wr r.k=false)(b:Nat)(hb:b<(H i).sz):(H j).tr.get b=(H i).tr.get b:=by
 induction j with
 | zero=>exact Ad
 | succ j ih =>
  rcases Nat.lt_or_eq_of_le hij with h|rfl
  .rw[<- ih Ac Ac Ah];exact(hf j Ac).keep Ah b (zzh hb (zN hf Ac Ac))
  .rfl
omit [Cur] in
def qxM(hf:∀j,j<rs.length->Fact rs H j){j:Nat}(hj:j<=rs.length)(b:Nat)(hb:b<(H 0).fl)(hb2:b<(H 0).sz):(H j).tr.get b=(H 0).tr.get b:=by
 induction j with
 | zero=>rfl
 | succ j ih =>
  rw[<- ih Ac];exact(hf j Ac).floor b (by rw[qqI hf (zzu _) Ac];exact hb) (zzh hb2 (zN hf (zzu _) Ac))
end facts
omit [Cur] in
omit [Cur] in
theorem qk0:∀(os:List Oper) (acc:List Nat) (j:Nat),j<acc.length->(qfA os acc)[j]?=acc[j]?
 | [],acc,j,h=>rfl
 | o::os,acc,j,h=>by rw[qfA,qk0 os _ j Ah,zzj h]
omit [Cur] in
def qox:∀(os:List Oper) (acc:List Nat) (i:Nat) (o:Oper),os[i]?=some o->(qfA os acc)[acc.length+i]?=some (mask o ((qfA os acc).take (acc.length+i)))
 | [],_,_,_,h=>Ah
 | p::os,acc,i,o,h=>by
  cases i with
  | zero =>
   simp at h;subst h;rw[qfA,Nat.add_zero]
   have e1:(qfA os (acc++[mask p acc])).take acc.length=acc:=by
    apply List.ext_getElem?
    grind[qk0]
   rw[qk0 _ _ _ (by simp),e1];simp
  | succ i =>
   have:=qox os (acc++[mask p acc]) i o G0;rw[qfA]
   exact Ah
omit [Cur] in
def qyE{o:Oper}{acc:List Nat}{j:Nat}(h:(mask o acc).testBit j=true):∃e ∈ o.after,Region.binds .any e=true/\(e.on=j\/(acc.getD e.on 0).testBit j=true):=by
 have key:∀(es:List Edge) (s:Nat),(es.foldl (λs e=>if Region.binds .any e then s ||| 2 ^ e.on ||| acc.getD e.on 0 else s) s).testBit j=true->s.testBit j=true\/∃e ∈ es,Region.binds .any e=true/\(e.on=j\/(acc.getD e.on 0).testBit j=true):=by
  intro es
  induction es with
  | nil=>intro s h;exact .inl h
  | cons e es ih =>
   intro s h;rw[List.foldl_cons]at h;rcases ih _ h with h1|⟨e',h1,h2⟩
   .by_cases hb:Region.binds .any e=true
    .rw[if_pos hb]at h1;simp only[Nat.testBit_or,zzO,Nat.testBit_two_pow,zzb]at h1;rcases h1 with(h1|h1)|h1
     .exact .inl h1
     .exact Ad
     .exact Ad
    .rw[if_neg hb]at h1;exact .inl h1
   .exact Ah
 rcases key _ 0 h with h1|⟨e,h1,h2⟩
 all_goals grind
omit [Cur] in
def qkZ{ops:Array Oper}{S:Nat->Prop}(hlt:∀(i:Nat) o,ops[i]?=some o->∀e ∈ o.after,Region.binds .any e=true->e.on<i)(hcl:∀(i:Nat) o,S i->ops[i]?=some o->∀e ∈ o.after,Region.binds .any e=true->S e.on) :
  ∀(i:Nat) o,ops[i]?=some o->(∀e ∈ o.after,Region.binds .any e=true->S e.on)->∀j,((qfA ops.toList []).getD i 0).testBit j=true->S j:=by
 intro i
 induction i using Nat.strongRecOn with
 | _ i ih =>
  intro o ho hr j hj;have hm:=qox ops.toList [] i o Ad;simp only[List.length_nil,Nat.zero_add]at hm;rw[zzs,hm]at hj;obtain⟨e,he,hb,h1⟩:=qyE hj;have hle:=hlt i o ho e he hb;have hS:=hr e he hb;rcases h1 with rfl|h1
  .exact hS
  .have hi:i<ops.size:=Ah
   have e1:((qfA ops.toList []).take i).getD e.on 0=(qfA ops.toList []).getD e.on 0:=by
    rw[zzs,zzs,zzq hle]
   rw[e1]at h1;have ho':ops[e.on]?=some ops[e.on]:=Ad
   exact Ah
omit [Cur] in
def qid{rs:List ROp}{ms:List Nat}:∀(rest:List ROp) (j:Nat),qjN rs ms j rest=true->rs.drop j=rest->∀i k a b,i<k->j<=k->rs[i]?=some a->rs[k]?=some b->qeG a b=true->(ms.getD k 0).testBit i=true
 | [],j,_,hd,i,k,a,b,_,hjk,_,hb,_=>by
  have:rs.length<=j:=Ad
  have:=(zzS.1 hb).1;exact Ac
 | r::rest,j,hc,hd,i,k,a,b,hik,hjk,ha,hb,hm=>by
  simp only[qjN,zzB]at hc
  have hrj:rs[j]?=some r:=by
   have:=congrArg (λl=>l[0]?) hd
   exact Ah
  rcases Nat.lt_or_eq_of_le hjk with h|rfl
  .exact qid rest (j+1) hc.2 Fi i k a b hik h ha hb hm
  .rw[hrj]at hb;cases hb
   have:=(zzy.1 hc.1) (a,i) (by
    rw[List.mem_zipIdx_iff_getElem?];simp only;rw[zzq hik];exact ha)
   exact Ad
def cut(Z:Ren)(n:Nat):Ren:=⟨λb=>if b<n then Z b else none,Z.frz,min Z.n n⟩
omit [Cur] in
def x8{Z:Ren}{n b:Nat}{L:Loc}(h:cut Z n b=some L):b<n/\Z b=some L:=by
 simp only[cut]at h;exact Ad
omit [Cur] in
def xX{Z:Ren}{n b:Nat}(h:b<n):cut Z n b=Z b:=by simp only[cut];rw[if_pos h]
section
variable {rs:List ROp}{T:Nat->Tr AV}{H:Nat->Hp}{G:Nat->Bool}{V:Nat->AV}
def IsW(rs:List ROp)(i:Nat):Prop:=∃r,rs[i]?=some r/\wr r.k=true
def IsD(rs:List ROp)(i x:Nat):Prop:=∃r,rs[i]?=some r/\r.dst=some x
structure Inv (σ:Nat->Value) (rs:List ROp) (T:Nat->Tr AV) (H:Nat->Hp) (nt:Nat) (Z0:Ren) (B:Nat->Prop) (w0:World) (ds:List Deferred) (S:Nat->Prop) (a:Act) (w:World) (Z:Ren):Prop where
 lt:∀i,S i->i<rs.length
 dom:∀b L,Z b=some L->b<(H 0).sz\/∃j,S j/\(∀r,rs[j]?=some r->qbU r.k=false)/\(H j).sz<=b/\b<(H (j+1)).sz
 rels:∀c,c<=rs.length->(∀j,IsW rs j->(S j↔j<c))->Rel σ (cut Z (H c).sz) B (H c) w
 tmps:∀x j v,j<=rs.length->(∀k,IsD rs k x->(S k↔k<j))->(T j).get x=some v->x<a.tmps.size/\VR σ (cut Z (H j).sz) v (a.tmps.getD x undef)
 ext:∀b,b<(H 0).sz->Z b=Z0 b
 pres:∀k,B k->w.heap[k]?=w0.heap[k]?
 wle:w0.heap.size<=w.heap.size
 io:w.os=w0.os/\w.output=w0.output
 base:∀k,B k->k<w.heap.size
 size:nt<=a.tmps.size
 defers:a.defers=ds
 big:(H rs.length).sz<=Z.n
 frz:∀k a,Z0.frz k=some a->Z.frz k=some a
 fnew:∀k a,Z.frz k=some a->Z0.frz k=some a\/¬B k
 wlt:∀b L,Z b=some L->L.blk<w.heap.size
omit [Cur] in
def qjy{C:zA}(hc:Canon orc C rs T H G V){x i j:Nat}(hij:i<=j)(hj:j<=rs.length)(hn:∀k,i<=k->k<j->¬IsD rs k x):(T j).get x=(T i).get x:=by
 induction j with
 | zero=>exact Ad
 | succ j ih' =>
  rcases Nat.lt_or_eq_of_le hij with h|rfl
  .rw[<- ih' Ac Ac Ah];have hr:rs[j]?=some rs[j]:=Ad
   rw[qo3 hc hr,if_neg (λhd=>hn j Ac Ac ⟨_,hr,hd⟩)]
  .rfl
def Inv.next{C:zA}(hc:Canon orc C rs T H G V)(hf:∀j,j<rs.length->Fact rs H j){nt:Nat}{Z0:Ren}{B:Nat->Prop}{w0:World}{ds:List Deferred}{S:Nat->Prop}{a:Act}{w:World}
  (I:Inv σ rs T H nt Z0 B w0 ds S a w Z) {i:Nat}{r:ROp}(hr:rs[i]?=some r) (hS:¬S i) {d:Option Tmp}(hd:qqv nt d r.dst=true)
  (hD:∀x,r.dst=some x->∀k,IsD rs k x->k≠i->(S k↔k<i)) {v':Value}{w':World}(hv:VR σ (cut Z' (H (i+1)).sz) (V i) v')
  (hZ:∀b L,Z b=some L->Z' b=some L) (hZ0:∀b,b<(H 0).sz->Z' b=Z b) (hz:∀k a,Z.frz k=some a->Z'.frz k=some a) (hzn:∀k a,Z'.frz k=some a->Z.frz k=some a\/¬B k) (hbig:(H rs.length).sz<=Z'.n) (hdom:∀b L,Z' b=some L->Z b=some L\/((∀r,rs[i]?=some r->qbU r.k=false)/\(H i).sz<=b/\b<(H (i+1)).sz/\L.blk<w'.heap.size))
  (hrels:∀c,c<=rs.length->(∀j,IsW rs j->(S j\/j=i↔j<c))->Rel σ (cut Z' (H c).sz) B (H c) w') (hpres:∀k,B k->w'.heap[k]?=w.heap[k]?) (hwle:w.heap.size<=w'.heap.size) (hio:w'.os=w.os/\w'.output=w.output) :
  Inv σ rs T H nt Z0 B w0 ds (λj=>S j\/j=i) (a.put d v') w' Z':=by
 have hi:i<rs.length:=Ah
 refine⟨?_,?_,hrels,?_,?_,?_,zzg I.wle hwle,by grind[Inv.io],qfT I.base hwle,by rw[wK];exact I.size,by rw[wn];exact I.defers,hbig,by grind[Inv.frz],by grind[Inv.fnew],λb L h=>(hdom b L h).elim (λh=>zzh (I.wlt b L h) hwle) λh=>h.2.2.2⟩
 .rintro j (h|rfl)
  .exact I.lt j h
  .exact hi
 .intro b L hb;rcases hdom b L hb with h|⟨h1,h2,h3,_⟩
  .rcases I.dom b L h with h|⟨j,h1,h2⟩
   .exact .inl h
   .exact Ah
  .exact Ad
 .intro x j v hj hk hg;have hsj:=zN hf hj (zzL _)
  have hmono:(cut Z (H j).sz).le (cut Z' (H j).sz):=by
   refine⟨λb L hb=>?_,hz,?_⟩
   .obtain⟨h1,h2⟩:=x8 hb;rw[xX Ac];exact hZ b L h2
   .show min Z.n (H j).sz<=min Z'.n (H j).sz;exact Ac
  by_cases hx:r.dst=some x
  .have hij:i<j:=(hk i ⟨r,hr,hx⟩).1 (.inr rfl);have hcon:(T j).get x=(T (i+1)).get x:=qjy hc hij hj Ah;rw[hcon,qo3 hc hr,if_pos hx]at hg;cases hg;cases d with
   | none=>rw[hx]at hd;simp[qqv]at hd
   | some y =>
    rw[hx]at hd;simp only[qqv,zzB]at hd;obtain⟨h1,h2⟩:=hd;obtain rfl:=eq_of_beq h1;have hlt:y<a.tmps.size:=zzh Ad I.size;refine⟨by simp[Act.put];exact hlt,?_⟩
    have e:(a.put (some y) v').tmps.getD y undef=v':=by simp[Act.put,Array.getD,hlt]
    rw[e]
    have hle:(cut Z' (H (i+1)).sz).le (cut Z' (H j).sz):=by
     have hs:(H (i+1)).sz<=(H j).sz:=zN hf hij hj;refine⟨λb L hb=>?_,λ_ _ h=>h,?_⟩
     .obtain⟨h3,h4⟩:=x8 hb;rw[xX Ac];exact h4
     .show min Z'.n (H (i+1)).sz<=min Z'.n (H j).sz;exact Ac
    exact hv.mono hle
  .have hk':∀k,IsD rs k x->(S k↔k<j):=by
    intro k hdk;have hne:k≠i:=by rintro rfl;obtain⟨r',h1,h2⟩:=hdk;rw[hr]at h1;cases h1;exact hx h2
    have:=hk k hdk;constructor
    .intro h;exact this.1 (.inl h)
    .intro h;rcases this.2 h with h|h
     .exact h
     .exact absurd h hne
   obtain⟨h1,h2⟩:=I.tmps x j v hj hk' hg;refine⟨by rw[wK];exact h1,?_⟩
   have e:(a.put d v').tmps.getD x undef=a.tmps.getD x undef:=by
    cases d with
    | none=>rfl
    | some y =>
     have hne:y≠x:=by
      rintro rfl;cases hrd:r.dst with
      | none=>rw[hrd]at hd;simp[qqv]at hd
      | some z =>
       rw[hrd]at hd;simp only[qqv,zzB]at hd;exact Ad
     simp only[Act.put];rw[Array.getD_eq_getD_getElem?,Array.getD_eq_getD_getElem?,zzw,if_neg hne]
   rw[e];exact h2.mono hmono
 all_goals grind[Inv.ext,Inv.pres]
def qI9(σ:Nat->Value)(v:AV)(n:Nat):Prop:=∃(Z:Ren) (v':Value),VR σ Z v v'/\(∀b L,Z b=some L->b<n)/\Z.n<=n
mutual
def VR.small{Z1 Z2:Ren}{n:Nat}(hn:∀b L,Z1 b=some L->b<n)(hn2:Z1.n<=n):∀{x:AV}{v1 v2:Value},VR σ Z1 x v1->VR σ Z2 x v2->VR σ (cut Z2 n) x v2
 | _,_,_,.undef _,_=>.undef _
 | _,_,_,.b _,h2=>by cases h2;exact .b _
 | _,_,_,.i _ _,h2=>by cases h2;exact .i _ _
 | _,_,_,.s _,h2=>by cases h2;exact .s _
 | _,_,_,.nilp,h2=>by cases h2;exact .nilp
 | _,_,_,.ptr b o L h,h2=>by
  cases h2 with
  | ptr _ _ L2 h'=>exact .ptr _ _ _ B1
 | _,_,_,.nils,h2=>by cases h2;exact .nils
 | _,_,_,.sl b _ _ _ _ _ L h _,h2=>by
  cases h2 with
  | sl _ _ _ _ _ _ L2 h' hc=>exact .sl _ _ _ _ _ _ _ B1 hc
  | slz _ _ _ _ L2 h'=>exact .slz _ _ _ _ _ B1
 | _,_,_,.slz b _ _ _ L h,h2=>by
  cases h2 with
  | sl _ _ _ _ _ _ L2 h' hc=>exact .sl _ _ _ _ _ _ _ B1 hc
  | slz _ _ _ _ L2 h'=>exact .slz _ _ _ _ _ B1
 | _,_,_,.nilf,h2=>by cases h2;exact .nilf
 | _,_,_,.fn _ _ _ _ _ a1 a2,h2=>by
  cases h2 with
  | fn _ _ _ _ _ c1 c2=>exact .fn _ _ _ _ _ (VRs.small hn hn2 a1 c1) (VRs.small hn hn2 a2 c2)
 | _,_,_,.nili,h2=>by cases h2;exact .nili
 | _,_,_,.ifc _ _ _ a1,h2=>by
  cases h2 with
  | ifc _ _ _ c1=>exact .ifc _ _ _ (VR.small hn hn2 a1 c1)
 | _,_,_,.agg _ _ a1,h2=>by
  cases h2 with
  | agg _ _ c1=>exact .agg _ _ (VRs.small hn hn2 a1 c1)
 | _,_,_,.tup _ _ a1,h2=>by
  cases h2 with
  | tup _ _ c1=>exact .tup _ _ (VRs.small hn hn2 a1 c1)
 | _,_,_,.nilm,h2=>by cases h2;exact .nilm
 | _,_,_,.map b L h _,h2=>by
  cases h2 with
  | map _ L2 h' h0=>exact .map _ _ B1 h0
 | _,_,_,.sym _,h2=>by cases h2;exact .sym _
 | _,_,_,.fz _ _ _ _ _ _ _ _ _,h2=>by
  cases h2 with
  | fz _ _ _ _ _ _ q1 q2 q4=>exact .fz _ _ _ _ _ _ q1 q2 q4
  | fz0=>exact .fz0 _
 | _,_,_,.fz0 _,h2=>by
  cases h2 with
  | fz _ _ _ _ _ _ q1 q2 q4=>exact .fz _ _ _ _ _ _ q1 q2 q4
  | fz0=>exact .fz0 _
 | _,_,_,.pf _ _ _ _ _ _ _,h2=>by
  cases h2 with
  | pf _ _ _ _ _ q2 q4=>exact .pf _ _ _ _ _ q2 q4
 | _,_,_,.e0 _,h2=>by
  cases h2 with
  | e0=>exact .e0 _
 | _,_,_,.nz _ _,h2=>by
  cases h2 with
  | nz=>exact .nz _ _
 | _,_,_,.own0 b _ hb,h2=>by
  have hbn:b<n:=Ac
  cases h2 with
  | own0 _ _ q=>exact .own0 _ _ (Nat.lt_min.2 ⟨q,hbn⟩)
  | own _ _ _ L2 h' q1 q2=>exact .own _ _ _ _ (by rw[xX hbn];exact h') q1 q2
 | _,_,_,.own b _ _ L h _ _,h2=>by
  have hbn:b<n:=hn b L h;cases h2 with
  | own0 _ _ q=>exact .own0 _ _ (Nat.lt_min.2 ⟨q,hbn⟩)
  | own _ _ _ L2 h' q1 q2=>exact .own _ _ _ _ (by rw[xX hbn];exact h') q1 q2
 | _,_,_,.yl b L h,h2=>by
  cases h2 with
  | yl _ L2 h'=>exact .yl _ _ B1
def VRs.small{Z1 Z2:Ren}{n:Nat}(hn:∀b L,Z1 b=some L->b<n)(hn2:Z1.n<=n):∀{x:List AV}{v1 v2:List Value},VRs σ Z1 x v1->VRs σ Z2 x v2->VRs σ (cut Z2 n) x v2
 | _,_,_,.nil,h2=>by cases h2;exact .nil
 | _,_,_,.cons _ _ _ _ a1 a2,h2=>by
  cases h2 with
  | cons _ _ _ _ c1 c2=>exact .cons _ _ _ _ (VR.small hn hn2 a1 c1) (VRs.small hn hn2 a2 c2)
end
omit [Cur] in
def qEz{k:RK}(h:wr k=true):qbU k=false:=by
 cases k<;>first|rfl|(rename_i o1;cases o1<;>first|rfl|(simp[wr]at h))
omit [Cur] in
def qrT(k:RK):wr (qeJ k)=wr k:=by
 cases k<;>try rfl
 rename_i o1;cases o1<;>rfl
omit [Cur] in
def qne(k:RK):qbU (qeJ k)=qbU k:=by
 cases k<;>try rfl
 rename_i o1;cases o1<;>rfl
omit [Cur] in
def quL{o:Op}{k:RK}(h:qg2 P o k=true):qg2 P o (qeJ k)=true:=by
 cases k with
 | callF=>exact h
 | callV=>exact h
 | callW=>exact h
 | callVW=>exact h
 | op o1 =>
  cases o1<;>try exact h
  .rename_i n x v ps
   have h2:qjM P o (.storeD n x v ps)=true:=Hj
   have h3:∃t y u,o = .store t y u/\(qA y x&&qA u v&&qZ P t n)=true:=by
    unfold qjM at h2;split at h2<;>try (cases h2;done)
    all_goals first
     | (rename_i heq;cases heq;exact Ah)
     | (rename_i heq;cases heq;done)
     | (unfold qdM at h2;split at h2<;>simp_all)
   obtain⟨t,y,u,rfl,h4⟩:=h3;exact h4
  .rename_i e y x v ps
   have h2:qjM P o (.appD e y x v ps)=true:=Hj
   have h3:qjM P o (.app e y true x v)=true:=by
    unfold qjM at h2 ⊢;split at h2<;>try (cases h2;done)
    all_goals first
     | (rename_i heq;cases heq;done)
     | skip
    unfold qdM at h2 ⊢;split at h2<;>first|(rename_i heq;cases heq;done)|(cases h2;done)|skip
    exact Ad
   show qg2 P o (.op (.app e y true x v))=true;unfold qg2 at h ⊢;split at h<;>simp_all
omit [Cur] in
def qk7{C:zA}{k:RK}{t:Tr AV}{h:Hp}{K:AV->Hp->Prop}(hk:qjo orc true C k t h K):qjo orc true C (qeJ k) t h K:=by
 cases k with
 | callF=>exact hk
 | callV=>exact hk
 | callW=>exact hk
 | callVW=>exact hk
 | op o1 =>
  cases o1<;>try exact hk
  .exact qkD (orc:=orc) hk
  .exact qqe (orc:=orc) hk
omit [Cur] in
theorem qeq{a b:ROp}(h:qbH a b=true):wr a.k=false/\wr b.k=true/\∃p d io,a.k = .op io/\a.dst=some d/\(io = .load1 (.t p)\/∃n,io = .loadN n (.t p))/\∃ps,((∃n x v,b.k = .op (.storeD n x v ps))\/∃e y x v,b.k = .op (.appD e y x v ps))/\p ∈ ps:=by
 unfold qbH at h;split at h
 .rename_i n x v ps hb;split at h
  .rename_i p ha;simp only[zzB,List.contains_iff_mem,zzx]at h;obtain⟨h1,d,h2⟩:=h;exact⟨by rw[ha];rfl,by rw[hb];rfl,p,d,_,ha,h2,.inl rfl,ps,.inl ⟨n,x,v,hb⟩,h1⟩
  .rename_i m p ha;simp only[zzB,List.contains_iff_mem,zzx]at h;obtain⟨h1,d,h2⟩:=h;exact⟨by rw[ha];rfl,by rw[hb];rfl,p,d,_,ha,h2,.inr ⟨m,rfl⟩,ps,.inl ⟨n,x,v,hb⟩,h1⟩
  .cases h
 .rename_i e y x v ps hb;split at h
  .rename_i p ha;simp only[zzB,List.contains_iff_mem,zzx]at h;obtain⟨h1,d,h2⟩:=h;exact⟨by rw[ha];rfl,by rw[hb];rfl,p,d,_,ha,h2,.inl rfl,ps,.inr ⟨e,y,x,v,hb⟩,h1⟩
  .rename_i m p ha;simp only[zzB,List.contains_iff_mem,zzx]at h;obtain⟨h1,d,h2⟩:=h;exact⟨by rw[ha];rfl,by rw[hb];rfl,p,d,_,ha,h2,.inr ⟨m,rfl⟩,ps,.inr ⟨e,y,x,v,hb⟩,h1⟩
  .cases h
 exact Ah
omit [Cur] in
def qsi{io:IOp}{p:Nat}(hio:io = .load1 (.t p)\/∃n,io = .loadN n (.t p)){t:Tr AV}{h:Hp}{K:AV->Hp->Prop}(hk:opK orc io t h K) :
  (∃b o x v,t.get p=some (.ptr b o)/\h.tr.get b=some x/\K v h/\∀h2 (K2:AV->Hp->Prop),h2.tr.get b=some x->K2 v h2->opK orc io t h2 K2) \/
  (∃v,K v h/\∀h2 (K2:AV->Hp->Prop),K2 v h2->opK orc io t h2 K2):=by
 rcases hio with rfl|⟨n,rfl⟩
 .have hk':t.getK p (λq=>ldV h q (λv=>K v h)):=hk
  obtain⟨y,h1,h2⟩:=(Tr.getK_iff _ _ _).1 hk';cases y<;>try exact h2.elim
  .rename_i b o;obtain⟨e,w,a,cs,h3,h4⟩:=(zh h b _).1 h2;obtain⟨v,h5,h6⟩:=(jn _ _ _).1 h4;refine .inl ⟨b,o,_,v,h1,h3,h6,λh2 K2 g1 g2=>?_⟩
   show t.getK p (λq=>ldV h2 q (λv=>K2 v h2))
   exact(Tr.getK_iff _ _ _).2 ⟨_,h1,(zh h2 b _).2 (by grind[jn])⟩
  .rename_i cs o;obtain⟨v,h5,h6⟩:=(jn cs o _).1 h2;refine .inr ⟨v,h6,λh2 K2 g2=>?_⟩
   show t.getK p (λq=>ldV h2 q (λv=>K2 v h2))
   exact(Tr.getK_iff _ _ _).2 ⟨_,h1,(jn cs o _).2 ⟨v,h5,g2⟩⟩
 .have hk':t.getK p (λq=>qlK h q n (λl=>K (.agg l) h)):=hk
  obtain⟨y,h1,h2⟩:=(Tr.getK_iff _ _ _).1 hk';cases y<;>try exact h2.elim
  .rename_i b o;obtain⟨e,w,a,cs,h3,h4⟩:=(zh h b _).1 h2;obtain⟨h5,h6⟩:=(zP _ _ _).1 h4;obtain⟨h7,h8⟩:=(zk _ _ _).1 h6;refine .inl ⟨b,o,_,.agg ((cs.drop o).take n),h1,h3,h8,λh2 K2 g1 g2=>?_⟩
   show t.getK p (λq=>qlK h2 q n (λl=>K2 (.agg l) h2))
   exact(Tr.getK_iff _ _ _).2 ⟨_,h1,(zh h2 b _).2 (by grind[zP,zk])⟩
  .rename_i cs o;obtain⟨h5,h6⟩:=(zP o cs _).1 h2;obtain⟨h7,h8⟩:=(zk _ _ _).1 h6;refine .inr ⟨.agg ((cs.drop o).take n),h8,λh2 K2 g2=>?_⟩
   show t.getK p (λq=>qlK h2 q n (λl=>K2 (.agg l) h2))
   exact(Tr.getK_iff _ _ _).2 ⟨_,h1,(zP o cs _).2 (by grind[zk])⟩
omit [Cur] in
def qpT{n:Nat}{x v:O}{ps:List Nat}{t:Tr AV}{h:Hp}{K:AV->Hp->Prop}(hk:opK orc (.storeD n x v ps) t h K) :
  ∃b y u,(∀q ∈ ps,(∃b' o',t.get q=some (.ptr b' o')/\b'≠b)\/∃cs o',t.get q=some (.pf cs o'))/\K u (h.put b y):=by
 obtain⟨p,h1,hh⟩:=qw t x _ hk;clear hh;cases p<;>try exact h1.elim
 rename_i b o;obtain⟨h2,h3⟩:=qa2 h1;obtain⟨u,h4,_⟩:=qw t v _ h2;obtain⟨_,h5⟩:=(qc _ _).1 h4;have h6:=(wF _ _).1 h5;obtain⟨_,h7⟩:=(qc _ _).1 h6;obtain⟨e,w,a,cs,h8,h9⟩:=(zh h b (λe w a cs=>Bool.rec (motive:=λ_=>Prop) False (Bool.rec (motive:=λ_=>Prop) False (jB (cellsOf u) o cs (λcs'=>jG h b (.cells e w a cs') (λh'=>K .undef h'))) (qF (cellsOf u))) w)).1 h7
 cases w
 .exact Ad
 .have h10:(Bool.rec (motive:=λ_=>Prop) False (jB (cellsOf u) o cs (λcs'=>jG h b (.cells e true a cs') (λh'=>K .undef h'))) (qF (cellsOf u)):Prop):=h9
  cases hco:qF (cellsOf u)with
  | false=>rw[hco]at h10;exact Ad
  | true =>
   rw[hco]at h10
   grind[jW,xb]
omit [Cur] in
def qr1{esz bytes:Nat}{s x:O}{ps:List Nat}{t:Tr AV}{h:Hp}{K:AV->Hp->Prop}(hk:opK orc (.appD esz bytes s x ps) t h K) :
  ∃u h',(∀q ∈ ps,∀b' o',t.get q=some (.ptr b' o')->b'<h.sz->h'.tr.get b'=h.tr.get b')/\K u h':=by
 obtain⟨v,h1,_⟩:=qw t s _ hk;obtain⟨u,h2,_⟩:=qw t x _ h1
 have push:∀(h:Hp) (y:Blk) (b':Nat),b'<h.sz->(h.push y).tr.get b'=h.tr.get b':=by
  intro h y b' hb;simp only[Hp.push,zz4];rw[if_neg Ac]
 cases v<;>try exact h2.elim
 rotate_left
 .rename_i b o len cap loose _;obtain⟨g1,g2⟩:=qa2 h2
  have ap:∀q ∈ ps,∀b' o',t.get q=some (.ptr b' o')->b'≠b:=Ah
  obtain⟨n,new,h3,_⟩:=qhR h esz u _ g1;cases loose with
  | true =>
   have h3':=(Iff.of_eq (qy _ _)).1 h3;obtain⟨_,h4⟩:=(qc _ _).1 h3';obtain⟨_,h5⟩:=(qc _ _).1 h4;obtain⟨_,h6⟩:=(qc _ _).1 h5;obtain⟨e,w,a,cs,_,h7⟩:=(zh h b _).1 h6;obtain⟨_,h8⟩:=(qc _ _).1 h7;obtain⟨_,h9⟩:=(qc _ _).1 h8;obtain⟨_,h10⟩:=(qc _ _).1 h9;obtain⟨_,h11⟩:=(qc _ _).1 h10;have h12:=(wF _ _).1 h11;obtain⟨_,h13⟩:=(qc _ _).1 h12;obtain⟨_,h13⟩:=(zP _ _ _).1 h13;have h14:=(wp _ _ _).1 h13;obtain⟨_,h15⟩:=(xb _ _ _ _).1 h14;have h16:=(zD _ _ _).1 h15;refine⟨_,_,λq hq b' o' hg hb=>?_,h16⟩
   have hne:=ap q hq b' o' hg;rw[push (h.put b .dead) _ b' hb];simp only[Hp.put,zz4];rw[if_neg hne]
  | false =>
  have h3:=(Iff.of_eq (qy _ _)).1 h3;cases hb:Nat.ble (Nat.add len n) cap with
  | false =>
   rw[hb]at h3;obtain⟨_,h4⟩:=(qc _ _).1 h3;obtain⟨_,h5⟩:=(qc _ _).1 h4;obtain⟨old,h6,_⟩:=qjd _ _ _ _ _ h5;have h7:=(wp _ _ _).1 h6;have h8:=(zD _ _ _).1 h7
   exact Ah
  | true =>
   rw[hb]at h3;cases n with
   | zero=>exact⟨_,_,Ad,h3⟩
   | succ n =>
    have h4:=(Iff.of_eq (qy _ _)).1 h3;obtain⟨e,w,a,cs,h8,h9⟩:=(zh h b (λe w a cs=>Bool.rec (motive:=λ_=>Prop) False (Bool.rec (motive:=λ_=>Prop) False (jB new (Nat.add o (Nat.mul len esz)) cs (λcs'=>jG h b (.cells e w a cs') (λh'=>K (.sl b o (Nat.add len (n+1)) cap false) h'))) (qF new)) w)).1 h4
    cases w
    .exact Ad
    .have h10:(Bool.rec (motive:=λ_=>Prop) False (jB new (Nat.add o (Nat.mul len esz)) cs (λcs'=>jG h b (.cells e true a cs') (λh'=>K (.sl b o (Nat.add len (n+1)) cap false) h'))) (qF new):Prop):=h9
     cases hco:qF new with
     | false=>rw[hco]at h10;exact Ad
     | true =>
      rw[hco]at h10;obtain⟨_,h11⟩:=(jW _ _ _ _).1 h10;obtain⟨_,h12⟩:=(xb _ _ _ _).1 h11;refine⟨_,_,λq hq b' o' hg hb=>?_,h12⟩
      simp only[Hp.put,zz4];rw[if_neg (ap q hq b' o' hg)]
 .obtain⟨n,new,h3,_⟩:=qhR h esz u (λn _=>Nat.rec (motive:=λ_=>Prop) (K (.fz _ _) h) (λ_ _=>False) n) h2
  cases n with
  | zero=>exact⟨_,_,Ad,h3⟩
  | succ n=>exact Ad
 rotate_right
 .exact B8
 .exact B8
 .rename_i b m _;obtain⟨g1,g2⟩:=qa2 h2;obtain⟨n,new,h3,_⟩:=qhR h esz u _ g1;have h3':=(Iff.of_eq (qy _ _)).1 h3;obtain⟨_,h4⟩:=(qc _ _).1 h3';obtain⟨_,h5⟩:=(qc _ _).1 h4;obtain⟨_,h6⟩:=(qc _ _).1 h5;obtain⟨e,w,a,cs,_,h7⟩:=(zh h b _).1 h6;obtain⟨_,h8⟩:=(qc _ _).1 h7;obtain⟨_,h9⟩:=(qc _ _).1 h8;obtain⟨_,h10⟩:=(qc _ _).1 h9;obtain⟨_,h11⟩:=(qc _ _).1 h10;have h12:=(wF _ _).1 h11;obtain⟨_,h13⟩:=(qc _ _).1 h12;have h14:=(wp _ _ _).1 h13;obtain⟨_,h15⟩:=(xb _ _ _ _).1 h14;have h16:=(zD _ _ _).1 h15;refine⟨_,_,λq hq b' o' hg hb=>?_,h16⟩
  obtain⟨b2,o2,f4,f5⟩:=(g2 q hq).resolve_right Ah;rw[hg]at f4;cases f4;rw[push (h.put b .dead) _ b' hb];simp only[Hp.put,zz4];rw[if_neg f5]
omit [Cur] in
def qnR{n:Nat}{x v:O}{ps:List Nat}{t:Tr AV}{h:Hp}{K:AV->Hp->Prop}(hk:opK orc (.storeD n x v ps) t h K) :
  ∃u h',(∀q ∈ ps,∀b' o',t.get q=some (.ptr b' o')->b'<h.sz->h'.tr.get b'=h.tr.get b')/\K u h':=by
 obtain⟨b,y,u,f1,f2⟩:=qpT hk;refine⟨_,_,λq hq b' o' hg hb=>?_,f2⟩
 obtain⟨b2,o2,f4,f5⟩:=(f1 q hq).resolve_right Ad;rw[hg]at f4;cases f4;simp only[Hp.put,zz4];rw[if_neg f5]
omit [Cur] in
def qlW{a b:ROp}(h:exc a b=true):wr a.k=false/\wr b.k=true:=by
 unfold exc at h;rcases zzO _ _ ▸ h with h|h
 .grind[qeq]
 .obtain⟨h1,h2⟩:=qmC h;refine⟨?_,?_⟩
  .unfold qgY at h1;split at h1
   .rename_i e;exact Eq
   .rename_i e;exact Eq
   .rename_i e;exact Eq
   exact Ad
  .unfold qfa at h2;split at h2
   .rename_i e;exact Eq
   exact Ad
omit [Cur] in
def qql{k:RK}(hb:qgY k=true):∃io,k = .op io/\∀{t:Tr AV}{sz fl:Nat}{tr:Tr Blk}{K:AV->Hp->Prop},opK orc io t ⟨sz,fl,tr⟩ K->
  ∃v x,K v ⟨sz+1,fl,tr.set sz x⟩/\∀fl2 tr2 (K2:AV->Hp->Prop),K2 v ⟨sz+1,fl2,tr2.set sz x⟩->opK orc io t ⟨sz,fl2,tr2⟩ K2:=by
 unfold qgY at hb;split at hb
 .rename_i z;refine⟨_,rfl,λ{t sz fl tr K} hk=>?_⟩
  have h1:=(zD ⟨sz,fl,tr⟩ (.cells 0 true false z) (λb h'=>K (.ptr b 0) h')).1 hk
  exact⟨.ptr sz 0,_,h1,λfl2 tr2 K2 h2=>(zD ⟨sz,fl2,tr2⟩ (.cells 0 true false z) (λb h'=>K2 (.ptr b 0) h')).2 h2⟩
 .rename_i n z ps;refine⟨_,rfl,λ{t sz fl tr K} hk=>?_⟩
  obtain⟨cs,h1,h2⟩:=qjm z n _ hk;obtain⟨cs',h3,h4⟩:=qjS t ps cs _ h1;have h5:=(zD ⟨sz,fl,tr⟩ (.cells 0 true false cs') (λb h'=>K (.sl b 0 n n false) h')).1 h3
  refine⟨.sl sz 0 n n false,_,h5,λfl2 tr2 K2 h6=>?_⟩
  show qkw z n (λcs=>qaj t ps cs (λcs=>x6 ⟨sz,fl2,tr2⟩ (.cells 0 true false cs) (λb h'=>K2 (.sl b 0 n n false) h')))
  exact h2 _ (h4 _ ((zD ⟨sz,fl2,tr2⟩ (.cells 0 true false cs') (λb h'=>K2 (.sl b 0 n n false) h')).2 h6))
 .rename_i e bytes z len cap;refine⟨_,rfl,λ{t sz fl tr K} hk=>?_⟩
  obtain⟨v1,a1,a2⟩:=qw t len _ hk;obtain⟨v2,a3,a4⟩:=qw t cap _ a1;obtain⟨l,a5,a6⟩:=qfP v1 _ a3;obtain⟨c,a7,a8⟩:=qfP v2 _ a5;obtain⟨b1,a9⟩:=(qc _ _).1 a7;obtain⟨b2,a10⟩:=(qc _ _).1 a9;obtain⟨b3,a11⟩:=(qc _ _).1 a10;obtain⟨cs,h1,h2⟩:=qjm z c _ a11;have h5:=(zD ⟨sz,fl,tr⟩ (.cells 0 true false cs) (λb h'=>K (.sl b 0 l c false) h')).1 h1
  refine⟨.sl sz 0 l c false,_,h5,λfl2 tr2 K2 h6=>?_⟩
  show evK t len (λlen=>evK t cap (λcap=>unN len (λl=>unN cap (λc=>qn (Nat.ble l c) (qn (Nat.ble c qe) (qn (Nat.ble (Nat.mul bytes c) qe) (qkw z c (λcs=>x6 ⟨sz,fl2,tr2⟩ (.cells 0 true false cs) (λb h'=>K2 (.sl b 0 l c false) h')))))))))
  exact a2 _ (a4 _ (a6 _ (a8 _ ((qc _ _).2 ⟨b1,(qc _ _).2 ⟨b2,(qc _ _).2 ⟨b3,h2 _ ((zD ⟨sz,fl2,tr2⟩ (.cells 0 true false cs) (λb h'=>K2 (.sl b 0 l c false) h')).2 h6)⟩⟩⟩))))
 exact Ad
omit [Cur] in
def qpU{k:RK}{p:Nat}(hp:qfa k=some p){C:zA}{t:Tr AV}{h:Hp}{K:AV->Hp->Prop}(hk:qjo orc true C k t h K):∃b o y u,t.get p=some (.ptr b o)/\K u (h.put b y):=by
 have st:∀{n:Nat}{v:O}{K:AV->Hp->Prop},opK orc (.store n (.t p) v) t h K->∃b o y u,t.get p=some (.ptr b o)/\K u (h.put b y):=by
  intro n v K hk;have hk':t.getK p (λq=>unP q (λb o=>evK t v (λv=>qn (qc7 v) (qio (cellsOf v) (λm=>qn (Nat.beq m n) (stK h b o (cellsOf v) (λh'=>K .undef h'))))))):=hk
  obtain⟨q,h0,h1⟩:=(Tr.getK_iff _ _ _).1 hk';cases q<;>try exact h1.elim
  rename_i b o;obtain⟨u,h4,_⟩:=qw t v _ h1;obtain⟨_,h5⟩:=(qc _ _).1 h4;have h6:=(wF _ _).1 h5;obtain⟨_,h7⟩:=(qc _ _).1 h6;obtain⟨e,w,a,cs,h8,h9⟩:=(zh h b (λe w a cs=>Bool.rec (motive:=λ_=>Prop) False (Bool.rec (motive:=λ_=>Prop) False (jB (cellsOf u) o cs (λcs'=>jG h b (.cells e w a cs') (λh'=>K .undef h'))) (qF (cellsOf u))) w)).1 h7
  cases w
  .exact h9.elim
  .have h10:(Bool.rec (motive:=λ_=>Prop) False (jB (cellsOf u) o cs (λcs'=>jG h b (.cells e true a cs') (λh'=>K .undef h'))) (qF (cellsOf u)):Prop):=h9
   cases hco:qF (cellsOf u)with
   | false=>rw[hco]at h10;exact h10.elim
   | true =>
    rw[hco]at h10;obtain⟨_,h11⟩:=(jW _ _ _ _).1 h10;obtain⟨_,h12⟩:=(xb _ _ _ _).1 h11;exact Ah
 have hk2:=qk7 hk;unfold qfa at hp;split at hp
 .cases hp;exact st hk2
 exact Ad
omit [Cur] in
def qwh{C:zA}(hc:Canon orc C rs T H G V){m:Nat}{p:Nat}{z:List AV}(h:rs[m]?=some ⟨some p,.op (.alloc z),none⟩):V m = .ptr (H m).sz 0:=by
 obtain⟨g1,_,g3⟩:=hc.step m _ h;have g1:true=G m:=g1;rcases g3 with⟨_,g3⟩|⟨g3,_⟩
 .have hk2:=qk7 g3;cases hH:H m with
  | mk sz fl tr =>
   rw[hH]at hk2;have h1:=(zD ⟨sz,fl,tr⟩ (.cells 0 true false z) (λb h'=>(λv h=>v=V m/\h=H (m+1)) (.ptr b 0) h')).1 hk2
   exact h1.1.symm
 exact Ad
omit [Cur] in
def qpD{S:Nat->Prop}(hWW:∀j1 j2,IsW rs j1->IsW rs j2->j1<j2->S j2->S j1):∀c,(∀j,IsW rs j->S j->j<c)->∃c',c'<=c/\∀j,IsW rs j->(S j↔j<c')
 | 0,h=>Ad
 | c+1,h=>by
  by_cases hc:IsW rs c/\S c
  .refine⟨c+1,zzL _,λj hj=>⟨λhs=>h j hj hs,λhs=>?_⟩⟩
   rcases Nat.lt_or_eq_of_le (Nat.lt_succ_iff.1 hs)with hlt|rfl
   .exact hWW j c hj hc.1 hlt hc.2
   .exact hc.2
  .obtain⟨c',h1,h2⟩:=qpD hWW c (λj hj hs=>by
    have:=h j hj hs
    exact Ah)
   exact⟨c',Nat.le_succ_of_le h1,h2⟩
theorem Inv.step(horc:OrcOk P σ orc){C:zA}(hs:qby P σ C){nt:Nat}{ops:Array Oper}(hrs:qdP P ops nt ops.toList rs=true)(hc:Canon orc C rs T H G V)(hf:∀j,j<rs.length->Fact rs H j)
  {Z0:Ren}{B:Nat->Prop}{w0:World}{ds:List Deferred}{S:Nat->Prop}{a:Act}{w:World}(I:Inv σ rs T H nt Z0 B w0 ds S a w Z) {i:Nat}{r:ROp}(hr:rs[i]?=some r) (hS:¬S i)
  (hD:∀x,x ∈ jk r->∀k,IsD rs k x->k≠i->(S k↔k<i)) (hW:qbU r.k=false->∀k q,rs[k]?=some q->wr q.k=true->k≠i->¬(i<k/\exc r q=true)->(S k↔k<i)) (hWx:wr r.k=true->∀k q,rs[k]?=some q->qbU q.k=false->k≠i->¬(k<i/\exc q r=true)->(S k↔k<i))
  (hWW:∀j1 j2,IsW rs j1->IsW rs j2->j1<j2->S j2->S j1) (hSt:∀j q p,rs[j]?=some q->i<j->qbH r q=true->qzj r.k=some p->∀k,i<=k->k<j->¬IsD rs k p) (hSb:∀j q p,rs[j]?=some q->i<j->qmB r q=true->qfa q.k=some p->(∀k,i<=k->k<j->¬IsD rs k p)\/∃m z,i<m/\m<j/\rs[m]?=some ⟨some p,.op (.alloc z),none⟩/\∀k,m<k->k<j->¬IsD rs k p) (hPt:∀p b o,(T i).get p=some (.ptr b o)->b<(H i).sz) (hV:∀j q d,rs[j]?=some q->q.dst=some d->qI9 σ (V j) (H (j+1)).sz)
  (K:Act->World->Prop) (Q:Exit->Act->World->Prop) {ro:Option Nat}(hK:∀a' w' Z',Inv σ rs T H nt Z0 B w0 ds (λj=>S j\/j=i) a' w' Z'->K a' w'):wpOpIn (Fr ro) 0 P ops Q i K a w:=by
 obtain⟨hlen,hget⟩:=qh3 hrs;have hi:i<rs.length:=(zzS.1 hr).1;have ho:ops[i]?=some (ops[i]'(by simp at hlen;exact Ac)):=Array.getElem?_eq_getElem (by simp at hlen;exact Ac);generalize ops[i]'(by simp at hlen;exact Ac)=o at ho;have hchk:=hget i o r (by simpa using ho) hr;simp only[qqx,zzB]at hchk;obtain⟨⟨hc1,hc2⟩,hc3⟩:=hchk;obtain⟨g1,g2,g3⟩:=hc.step i r hr
 -- the temporaries that it names
 have hself:∀x ∈ jk r,∀k,IsD rs k x->(S k↔k<i):=by
  intro x hx k hk
  by_cases hki:k=i
  .subst hki;exact⟨λh=>absurd h hS,λh=>absurd h (Nat.lt_irrefl _)⟩
  .exact hD x hx k hk hki
 have ht:TR σ (cut Z (H i).sz) (only (T i) (jk r)) a.tmps:=by
  intro n v hv;rw[qhI]at hv;split at hv
  .exact I.tmps n i v Ac (hself n (by assumption)) hv
  .cases hv
 have hsame:qjx (T i) (only (T i) (jk r)) (jk r):=λn hn=>by rw[qhI,if_pos hn]
 have hsk:qjx (T i) (only (T i) (jk r)) (qgb (qeJ r.k)):=hsame.sub λn hn=>by simp[jk,hn]
 have hgo:G i=Region.wanted o (yielded ops a.tmps):=by
  have e:=qqV (g:=r.guard) (hsame.sub (λn hn=>by simp only[jk,zzd];exact .inl (.inr hn)))
  rw[<- e]at g1;exact(qqX (ops:=ops) (o:=o) ht hc2 g1).symm
 have hDd:∀x,r.dst=some x->∀k,IsD rs k x->k≠i->(S k↔k<i):=λx hx=>hD x (by simp[jk,hx])
 have hmonoc:∀{m n:Nat},m<=n->n<=rs.length->(cut Z (H m).sz).le (cut Z (H n).sz):=by
  intro m n hmn hn;have hs:=zN hf hmn hn;refine⟨λb L hb=>?_,λ_ _ h=>h,?_⟩
  .obtain⟨h1,h2⟩:=x8 hb;rw[xX (zzh h1 hs)];exact h2
  .show min Z.n (H m).sz<=min Z.n (H n).sz;exact Ac
 -- which phases there are behind it,where it is no writer
 have phase:∀c,c<=rs.length->wr r.k=false->(∀j,IsW rs j->(S j\/j=i↔j<c))->∀j,IsW rs j->(S j↔j<c):=by
  intro c _ hwr h j hj;have hne:j≠i:=by rintro rfl;exact Hf
  have:=h j hj;constructor
  .intro h';exact this.1 (.inl h')
  .intro h';rcases this.2 h' with h'|h'
   .exact h'
   .exact absurd h' hne
 -- a writer: every phase behind it holds what it left
 have writer:wr r.k=true->∀{Z2:Ren}{w2:World},Rel σ Z2 B (H (i+1)) w2->(∀b L,Z2 b=some L->b<(H (i+1)).sz)->∀c,c<=rs.length->(∀j,IsW rs j->(S j\/j=i↔j<c))->Rel σ Z2 B (H c) w2:=by
  intro hwr Z2 w2 r2 _ c hcl hph;have hic:i+1<=c:=(hph i ⟨r,hr,hwr⟩).1 (.inr rfl);refine r2.longer (zN hf hic hcl) (qqI hf hic hcl) (λb hb=>qpu hf hic hcl (λk h1 h2 q hq=>?_) b hb)
  cases hwk:wr q.k with
  | false=>rfl
  | true =>
   have hW':=hWx hwr k q hq (qEz hwk) Ac (λh=>by have:=(qlW h.2).1;rw[hwk]at this;cases this)
   rcases(hph k ⟨q,hq,hwk⟩).2 h2 with h3|h3
   .have:=hW'.1 h3;exact Ac
   .exact Ac
 unfold wpOpIn;simp only[ho];rw[<- hgo];rcases g3 with⟨hG,g3⟩|⟨hG,g3,g4⟩
 .rw[hG];simp only[if_true];have g3:=qk7 g3;rw[<- qvQ hsk]at g3;have hc3:=quL hc3;cases hwr:wr r.k with
  | true =>
   -- a writer
   have hnp:qbU r.k=false:=by
    cases hk:r.k<;>rw[hk]at hwr<;>first|rfl|skip
    rename_i o1;cases o1<;>first|rfl|(simp[wr]at hwr)
   have g3':qcZ orc C (qeJ r.k) (only (T i) (jk r)) (H i) (λv h=>v=V i/\h=H (i+1)):=by
    rcases(qff _ _ _).1 g3 with⟨_,h⟩|⟨h,_⟩
    .exact h
    .simp[qrT,hwr]at h
   have hph:∀j,IsW rs j->(S j↔j<i):=by
    intro j hj
    exact Bt
   have ri:=I.rels i Ac hph;refine qih horc hs ri ht hc3 g3' _ _ ?_;rintro v v' h' Z1 w' ⟨rfl,rfl⟩ q1 q2 q3
   -- nothing behind it was done: so nothing else is mapped
   have hnone:∀b L,Z b=some L->b<(H i).sz:=by
    intro b L hb;rcases I.dom b L hb with h|⟨j,h1,h2,h3,h4⟩
    .exact zzh h (zN hf (zzu _) Ac)
    .have hjl:=I.lt j h1;have hq:rs[j]?=some rs[j]:=zzE hjl;have hji:j≠i:=by rintro rfl;exact hS h1
     have:j<i:=Cp
     exact zzh h4 (zN hf this Ac)
   have hZ1:∀b L,Z b=some L->Z1 b=some L:=by
    intro b L hb;have hlt:=hnone b L hb;rw[q3.ext b hlt,xX hlt];exact hb
   have hbig:=I.big
   have hcut:∀c,i+1<=c->c<=rs.length->cut (Z1.bump Z.n) (H c).sz=Z1.bump (H c).sz:=by
    intro c h1 h2;have hs1:=zN hf h1 h2;have hs2:=zN hf h2 (zzL _);have hdn:=q2.dn.1;simp only[cut,Ren.bump]
    congr 1
    .funext b;cases hb:Z1 b with
     | none=>simp
     | some L=>rw[if_pos (zzh (q2.dom b L hb) hs1)]
    .exact Ac
   refine hK _ w' (Z1.bump Z.n) (Inv.next hc hf I hr hS hc1 hDd ?_ hZ1 ?_ q3.frz q3.fnew (zzg hbig (Nat.le_max_right _ _)) ?_ ?_ q3.pres q3.wle q3.io)
   .rw[hcut (i+1) (zzL _) hi];exact q1.mono (Z1.bump_le _)
   .intro b hb;have hlt:=zzh hb (zN hf (zzu i) Ac);show Z1 b=Z b;rw[q3.ext b hlt,xX hlt]
   .intro b L hb;have hb:Z1 b=some L:=hb
    by_cases hlt:b<(H i).sz
    .left;rw[q3.ext b hlt,xX hlt]at hb;exact hb
    .right;exact⟨λq hq=>by rw[hr]at hq;cases hq;exact hnp,Nat.le_of_not_lt hlt,q2.dom b L hb,q2.dn.2 b L hb⟩
   .intro c hcl hph';have hic:i+1<=c:=(hph' i ⟨r,hr,hwr⟩).1 (.inr rfl);rw[hcut c hic hcl];exact(writer hwr q2 q2.dom c hcl hph').bump (zzL _)
  | false =>
   have g3':qhO (qcZ orc C (qeJ r.k) (only (T i) (jk r))) (H i) (λv h=>v=V i/\h=H (i+1)):=by
    rcases(qff _ _ _).1 g3 with⟨h,_⟩|⟨_,h⟩
    .simp[qrT,hwr]at h
    .exact h
   cases hpure:qbU r.k with
   | true =>
    -- nothing to do with memory
    obtain⟨io,hio⟩:∃io,qeJ r.k = .op io:=by
     rw[<- qne]at hpure;cases hk:qeJ r.k with
     | op io=>exact⟨io,rfl⟩
     | callF=>exact Fu
     | callV=>exact Fu
     | callW=>exact Fu
     | callVW=>exact Fu
    have hpure:qbU (qeJ r.k)=true:=by rw[qne];exact hpure
    rw[hio]at g3' hpure hc3
    obtain⟨v,hv1,hv2,hv3⟩:∃v,v=V i/\H i=H (i+1)/\∀h2 (k2:AV->Hp->Prop),k2 v h2->opK orc io (only (T i) (jk r)) h2 k2:=by
     cases hHi:H i with
     | mk sz fl tr =>
      rw[hHi]at g3';have g4:opK orc io (only (T i) (jk r)) ⟨sz,sz,tr⟩ (λv h'=>Hp.rec (motive:=λ_=>Prop) (λsz' _ tr'=>v=V i/\(⟨sz',fl,tr'⟩:Hp)=H (i+1)) h'):=g3'
      obtain⟨v,h1,h2⟩:=qCT hpure g4;exact⟨v,h1.1,h1.2,h2⟩
    subst hv1
    have rr0:Rel σ (cut Z (H i).sz) (low w.heap.size) ⟨(H i).sz,(H i).sz,.leaf⟩ w:=Ar
    refine qih (rk:=.op io) (k:=λv' h'=>v'=V i/\h'=⟨(H i).sz,(H i).sz,.leaf⟩) horc hs rr0 ht hc3 (by unfold qcZ;exact hv3 _ _ ⟨rfl,rfl⟩) _ _ ?_
    rintro v v' h' Z1 w' ⟨rfl,rfl⟩ q1 q2 q3;have hbig:=I.big;have hsi:=zN hf (i:=i) (j:=rs.length) Ac (zzL _)
    have e1:Z1.le (cut ⟨Z.loc,Z1.frz,Z.n⟩ (H i).sz):=by
     refine⟨λb L hb=>?_,λ_ _ h=>h,?_⟩
     .have hlt:b<(H i).sz:=q2.dom b L hb;rw[q3.ext b hlt]at hb;exact hb
     .have hdn:Z1.n<=(H i).sz:=q2.dn.1;show Z1.n<=min Z.n (H i).sz;exact Ac
    refine hK _ w' ⟨Z.loc,Z1.frz,Z.n⟩ (Inv.next hc hf I hr hS hc1 hDd ?_ (λ_ _ h=>h) (λ_ _=>rfl) q3.frz (λk a h=>(q3.fnew k a h).imp id (λhh=>wJ I.base (Nat.not_lt.1 hh))) hbig (λ_ _ h=>.inl h) ?_ (λk hk=>q3.pres k (I.base _ hk)) q3.wle q3.io)
    .rw[<- hv2];exact q1.mono e1
    .intro c hcl hph;exact(I.rels c hcl (phase c hcl hwr hph)).frz' q3.pres q3.wle q3.frz (λk a h=>(q3.fnew k a h).imp id Nat.not_lt.1) (λk a h=>(q2.frz k a h).1)
   | false =>
    -- reads,calls,new memory
    by_cases hx:∃k q,rs[k]?=some q/\S k/\i<k/\qbH r q=true
    .-- a place is read that was not written by what is done already
     obtain⟨k0,q0,hq0,hS0,hik0,hex0⟩:=hx;obtain⟨_,hw0,p,d,io,hio,hdst,hload,_⟩:=qeq hex0;obtain⟨c,hcl,hcph⟩:=qpD hWW rs.length (λj _ hs=>I.lt j hs)
     have hic:i<c:=by
      have:=(hcph k0 ⟨q0,hq0,hw0⟩).1 hS0;exact Ac
     have hpn:p ∈ jk r:=by
      simp only[jk,zzd];right;rw[hio];rcases hload with rfl|⟨n,rfl⟩<;>simp[qeJ,qgb,qx,xm]
     have hpl:qeJ r.k = .op io:=Ef
     have hpt:qzj r.k=some p:=Ef
     rw[hpl]at g3' hc3;have ri:=I.rels c hcl hcph
     have hraise:qhO (qcZ orc C (.op io) (only (T i) (jk r))) (H c) (λv h=>v=V i/\h=H c):=by
      have hcase:(∃b' o' x,(only (T i) (jk r)).get p=some (.ptr b' o')/\(H i).tr.get b'=some x/\∀h2 (K2:AV->Hp->Prop),h2.tr.get b'=some x->K2 (V i) h2->opK orc io (only (T i) (jk r)) h2 K2)\/(∀h2 (K2:AV->Hp->Prop),K2 (V i) h2->opK orc io (only (T i) (jk r)) h2 K2):=by
       cases hHi:H i with
       | mk sz fl tr =>
        rw[hHi]at g3';have g4:opK orc io (only (T i) (jk r)) ⟨sz,sz,tr⟩ (λv h'=>Hp.rec (motive:=λ_=>Prop) (λsz' _ tr'=>v=V i/\(⟨sz',fl,tr'⟩:Hp)=H (i+1)) h'):=g3'
        rcases qsi hload g4 with⟨b,o,x,v,h1,h2,h3,h4⟩|⟨v,h3,h4⟩
        .obtain⟨rfl,h6⟩:=h3;exact .inl ⟨b,o,x,h1,h2,h4⟩
        .obtain⟨rfl,h6⟩:=h3;exact .inr h4
      rcases hcase with⟨b',o',x,hp,hb',hrun⟩|hrun
      .have hTp:(T i).get p=some (.ptr b' o'):=by rw[qhI,if_pos hpn]at hp;exact hp
       have hbl:b'<(H i).sz:=by
        obtain⟨_,hvr⟩:=ht p _ hp;obtain⟨L,h1,_⟩:=hvr.un_ptr;exact(x8 h1).1
       have hkeepD:∀j,i<=j->j<=c->(H j).tr.get b'=(H i).tr.get b':=by
        intro j
        induction j with
        | zero => intro h1 _;obtain rfl:i=0:=Ac
                  rfl
        | succ j ihj =>
         intro h1 h2;rcases Nat.lt_or_eq_of_le h1 with h1|h1
         .have hij:i<=j:=Ac
          rw[<- ihj hij Ac];have hjl:j<rs.length:=Ac
          have hq:rs[j]?=some rs[j]:=zzE hjl;generalize rs[j]=q at hq;have hbj:b'<(H j).sz:=zzh hbl (zN hf hij Ac);cases hwq:wr q.k with
          | false=>exact(hf j hjl).keep (λq' hq'=>by rw[hq]at hq';cases hq';exact hwq) b' hbj
          | true =>
           have hSj:S j:=(hcph j ⟨q,hq,hwq⟩).2 Ac;have hne:j≠i:=by rintro rfl;exact hS hSj
           have hnb:qmB r q=false:=by
            unfold qmB;exact Ef
           have hex:qbH r q=true:=by
            cases he:qbH r q with
            | true=>rfl
            | false =>
             have:=(hW hpure j q hq hwq hne (λh=>by have:=h.2;unfold exc at this;rw[he,hnb]at this;cases this)).1 hSj
             exact Ac
           obtain⟨_,_,p2,d2,io2,hio2,_,hload2,ps,hqk,hps⟩:=qeq hex
           have hpp:p2=p:=by
            rw[hio]at hio2;cases hio2;rcases hload with rfl|⟨m,rfl⟩<;>rcases hload2 with h|⟨m2,h⟩<;>cases h<;>rfl
           subst hpp
           have hTj:(T j).get p2=some (.ptr b' o'):=by
            rw[<- hTp];exact qjy hc hij Ac (λk hk1 hk2=>hSt j q p2 hq Ac hex hpt k hk1 hk2)
           obtain⟨_,_,gj⟩:=hc.step j q hq;rcases gj with⟨_,gj⟩|⟨_,_,gj⟩
           .have gj':∃u h',(∀q ∈ ps,∀b' o',(T j).get q=some (.ptr b' o')->b'<(H j).sz->h'.tr.get b'=(H j).tr.get b')/\u=V j/\h'=H (j+1):=by
             rcases hqk with⟨n,xx,vv,hqk⟩|⟨e,y,xx,vv,hqk⟩
             .rw[hqk]at gj;exact qnR (orc:=orc) gj
             .rw[hqk]at gj;exact qr1 (orc:=orc) gj
            obtain⟨u,h',f1,_,f3⟩:=gj';rw[<- f3];exact f1 p2 hps b' o' hTj hbj
           .rw[gj]
         .rw[<- h1]
       have hHc:(H c).tr.get b'=some x:=(hkeepD c Ac (zzL _)).trans hb';cases hHcc:H c with
       | mk sz fl tr =>
        rw[hHcc]at hHc;exact hrun ⟨sz,sz,tr⟩ (λv h'=>Hp.rec (motive:=λ_=>Prop) (λsz' _ tr'=>v=V i/\(⟨sz',fl,tr'⟩:Hp)=⟨sz,fl,tr⟩) h') hHc ⟨rfl,rfl⟩
      .cases hHcc:H c with
       | mk sz fl tr =>
        exact hrun ⟨sz,sz,tr⟩ (λv h'=>Hp.rec (motive:=λ_=>Prop) (λsz' _ tr'=>v=V i/\(⟨sz',fl,tr'⟩:Hp)=⟨sz,fl,tr⟩) h') ⟨rfl,rfl⟩
     refine qkv horc hs ri (ht.mono (hmonoc (Nat.le_of_lt hic) hcl)) hc3 hraise _ _ ?_;rintro v v' h' Z1 w' ⟨rfl,rfl⟩ q1 q2 q3 q4 q5 q6 q7;have hbig:=I.big
     have e1:Z1.le ⟨Z.loc,Z1.frz,Z.n⟩:=by
      refine⟨λb L hb=>?_,λ_ _ h=>h,?_⟩
      .have hlt:b<(H c).sz:=q2.dom b L hb;rw[q3.ext b hlt]at hb;exact(x8 hb).2
      .have hdn:=q2.dn.1;have:=zN hf hcl (zzL _);show Z1.n<=Z.n;exact Ac
     obtain⟨Zs,vs,hsm1,hsm2,hsm3⟩:=hV i r d hr hdst;refine hK _ w' ⟨Z.loc,Z1.frz,Z.n⟩ (Inv.next hc hf I hr hS hc1 hDd (VR.small hsm2 hsm3 hsm1 (q1.mono e1)) (λ_ _ h=>h) (λ_ _=>rfl) q3.frz q3.fnew hbig (λ_ _ h=>.inl h) ?_ (λk hk=>q5 k (I.base _ hk)) q3.wle q3.io)
     intro c' hcl' hph';exact(I.rels c' hcl' (phase c' hcl' hwr hph')).frz' q5 q3.wle q3.frz q7 (λk a h=>(q2.frz k a h).1)
    by_cases hx2:∃k q,rs[k]?=some q/\S k/\i<k/\qmB r q=true
    .-- new memory,and a store behind it is done
     obtain⟨k0,q0,hq0,hS0,hik0,hex0⟩:=hx2
     have hbl:qgY r.k=true:=by
      exact(qmC hex0).1
     have hw0:wr q0.k=true:=(qlW (show exc r q0=true by unfold exc;rw[hex0,Bool.or_true])).2
     obtain⟨io,hio,hblind⟩:=qql (orc:=orc) hbl
     have hpl:qeJ r.k = .op io:=by
      unfold qgY at hbl;split at hbl
      .exact F4
      .exact F4
      .exact F4
      .cases hbl
     rw[hpl]at g3' hc3
     obtain⟨v,x,hv1,hv2,hrun⟩:∃v x,v=V i/\H (i+1)=⟨(H i).sz+1,(H i).fl,(H i).tr.set (H i).sz x⟩/\∀fl2 tr2 (K2:AV->Hp->Prop),K2 v ⟨(H i).sz+1,fl2,tr2.set (H i).sz x⟩->opK orc io (only (T i) (jk r)) ⟨(H i).sz,fl2,tr2⟩ K2:=by
      cases hHi:H i with
      | mk sz fl tr =>
       rw[hHi]at g3';have g4:opK orc io (only (T i) (jk r)) ⟨sz,sz,tr⟩ (λv h'=>Hp.rec (motive:=λ_=>Prop) (λsz' _ tr'=>v=V i/\(⟨sz',fl,tr'⟩:Hp)=H (i+1)) h'):=g3'
       obtain⟨v,x,h1,h2⟩:=hblind g4;exact⟨v,x,h1.1,h1.2.symm,h2⟩
     subst hv1
     have rr0:Rel σ (cut Z (H i).sz) (low w.heap.size) ⟨(H i).sz,(H i).sz,.leaf⟩ w:=Ar
     refine qih (rk:=.op io) (k:=λv' h'=>v'=V i/\h'=⟨(H i).sz+1,(H i).sz,Tr.leaf.set (H i).sz x⟩) horc hs rr0 ht hc3 (by unfold qcZ;exact hrun _ _ _ ⟨rfl,rfl⟩) _ _ ?_
     rintro v v' h' Z1 w' ⟨rfl,rfl⟩ q1 q2 q3;have hbig:=I.big;have hsi:=zN hf (i:=i+1) (j:=rs.length) hi (zzL _);have hs1:(H (i+1)).sz=(H i).sz+1:=by rw[hv2]
     have hfree:∀b L,Z b=some L->b≠(H i).sz:=by
      rintro b L hb rfl;rcases I.dom _ L hb with h|⟨j,h3,_,h4,h5⟩
      .have:=zN hf (zzu i) Ac;exact Ac
      .have hjl:=I.lt j h3;rcases Nat.lt_trichotomy j i with h|h|h
       .have:=zN hf (i:=j+1) (j:=i) h Ac;exact Ac
       .subst h;exact hS h3
       .have:=zN hf (i:=i+1) (j:=j) h Ac;exact Ac
     let Zn:Ren:=⟨λb=>if b=(H i).sz then Z1 b else Z b,Z1.frz,Z.n⟩
     have hZn:∀b L,Z b=some L->Zn b=some L:=by
      intro b L hb;simp only[Zn];rw[if_neg (hfree b L hb)];exact hb
     have hZ1n:∀c,i+1<=c->c<=rs.length->∀b L,Z1 b=some L->cut Zn (H c).sz b=some L:=by
      intro c h1 h2 b L hb;have hlt:b<(H i).sz+1:=q2.dom b L hb;have:=zN hf h1 h2;rw[xX Ac];simp only[Zn]
      by_cases h3:b=(H i).sz
      .rw[if_pos h3];exact hb
      .have hlt2:b<(H i).sz:=Ac
       rw[if_neg h3];rw[q3.ext b hlt2,xX hlt2]at hb;exact hb
     have hZ1l:∀c,i+1<=c->c<=rs.length->Z1.le (cut Zn (H c).sz):=by
      intro c h1 h2;refine⟨hZ1n c h1 h2,λ_ _ h=>h,?_⟩
      have hdn:Z1.n<=(H i).sz+1:=q2.dn.1;have:=zN hf h1 h2;have:=zN hf h2 (zzL _);show Z1.n<=min Z.n (H c).sz;exact Ac
     refine hK _ w' Zn (Inv.next hc hf I hr hS hc1 hDd (q1.mono (hZ1l (i+1) (zzL _) hi)) hZn ?_ q3.frz (λk a h=>(q3.fnew k a h).imp id (λhh=>wJ I.base (Nat.not_lt.1 hh))) hbig ?_ ?_ (λk hk=>q3.pres k (I.base _ hk)) q3.wle q3.io)
     .intro b hb;have:=zN hf (zzu i) Ac;simp only[Zn];rw[if_neg Ac]
     .intro b L hb;simp only[Zn]at hb;split at hb
      .rename_i h;exact .inr ⟨λq hq=>by rw[hr]at hq;cases hq;exact hpure,Ac,Ac,q2.dn.2 b L hb⟩
      .exact .inl hb
     .intro c hcl hph';have hph0:=phase c hcl hwr hph';have rc:=I.rels c hcl hph0
      have hic:i<c:=by
       have:=(hph0 k0 ⟨q0,hq0,hw0⟩).1 hS0;exact Ac
      have hcont:∀j,i+1<=j->j<=c->(H j).tr.get (H i).sz=some x:=by
       intro j
       induction j with
       | zero=>intro h1;exact Ac
       | succ j ihj =>
        intro h1 h2;rcases Nat.lt_or_eq_of_le h1 with h1|h1
        .have hij:i+1<=j:=Ac
         have hprev:=ihj hij Ac;have hjl:j<rs.length:=Ac
         have hq:rs[j]?=some rs[j]:=zzE hjl;generalize rs[j]=q at hq;have hbj:(H i).sz<(H j).sz:=by have:=zN hf hij Ac;exact Ac
         cases hwq:wr q.k with
         | false=>rw[(hf j hjl).keep (λq' hq'=>by rw[hq]at hq';cases hq';exact hwq) _ hbj];exact hprev
         | true =>
          have hSj:S j:=(hph0 j ⟨q,hq,hwq⟩).2 Ac;have hne:j≠i:=Ac
          have hnx:qbH r q=false:=by
           cases he:qbH r q with
           | false=>rfl
           | true =>
            obtain⟨_,_,p,d,io2,hio2,_,hload,_⟩:=qeq he;rw[hio]at hio2;cases hio2;unfold qgY at hbl;rw[hio]at hbl;rcases hload with rfl|⟨n,rfl⟩<;>cases hbl
          have hex:qmB r q=true:=by
           cases he:qmB r q with
           | true=>rfl
           | false =>
            have:=(hW hpure j q hq hwq hne (λh=>by have:=h.2;unfold exc at this;rw[he,hnx]at this;cases this)).1 hSj
            exact Ac
          obtain⟨p,hp⟩:∃p,qfa q.k=some p:=by
           exact zzx.1 (qmC hex).2
          obtain⟨_,_,gj⟩:=hc.step j q hq;rcases gj with⟨_,gj⟩|⟨_,_,gj⟩
          .obtain⟨b',o',y,u,f1,f2,f3⟩:=qpU (orc:=orc) hp gj
           have hne2:b'≠(H i).sz:=by
            rcases hSb j q p hq Ac hex hp with hSb|⟨m,z,m1,m2,m3,m4⟩
            .have hTi:(T i).get p=some (.ptr b' o'):=by
              rw[<- f1];exact(qjy hc Ac Ac (λk hk1 hk2=>hSb k hk1 hk2)).symm
             have hlt:=hPt p b' o' hTi;exact Ac
            .have hTm:(T (m+1)).get p=some (.ptr b' o'):=by
              rw[<- f1];exact(qjy hc Ac Ac (λk hk1 hk2=>m4 k Ac hk2)).symm
             rw[qo3 hc m3,if_pos rfl]at hTm;have hVm:=qwh hc m3;rw[hVm]at hTm;have hb':(H m).sz=b':=by injection hTm with e;injection e
             have:=zN hf (i:=i+1) (j:=m) Ac Ac;rw[hv2]at this;have:(H i).sz+1<=(H m).sz:=this;exact Ac
           rw[<- f3];simp only[Hp.put,zz4];rw[if_neg Ac];exact hprev
          .rw[gj];exact hprev
        .rw[<- h1,hv2];exact Bn
      have hnb:=hcont c hic (zzL _);have hsc:=zN hf hcl (zzL _);have hs2:=zN hf (i:=i+1) (j:=c) hic hcl;have hfn:∀k a,Z1.frz k=some a->Z.frz k=some a\/w.heap.size<=k:=λk a h=>(q3.fnew k a h).imp id Nat.not_lt.1
      refine Rel.join2 (nb:=(H i).sz) rc q2 (λn hn=>q3.pres n hn) q3.wle Ac (by rw[hnb];exact Bn) ?_ (hZ1n c hic hcl) q3.frz rfl (zzL _) (hZ1l c hic hcl).2.2 (Nat.min_le_right _ _) hfn ?_
      .intro b L hb;obtain⟨h1,h2⟩:=x8 hb;rw[xX h1];exact hZn b L h2
      .intro b L hb;obtain⟨h1,h2⟩:=x8 hb;simp only[Zn]at h2;split at h2
       .rename_i h;exact .inr ⟨h,h2,Nat.not_lt.1 (q2.flr b L h2 (by show(H i).sz<=b;exact Ac))⟩
       .left;rw[xX h1];exact h2
    have hph:∀j,IsW rs j->(S j↔j<i):=by
     intro j hj
     by_cases hji:j=i
     .subst hji;exact Hf
     .obtain⟨q,hq,hwq⟩:=hj
      by_cases he:i<j/\exc r q=true
      .refine⟨λh=>?_,λh=>Ac⟩
       have he2:=he.2;unfold exc at he2;rcases(zzO _ _ ▸ he2:qbH r q=true\/qmB r q=true)with he2|he2
       .exact absurd ⟨j,q,hq,h,he.1,he2⟩ hx
       .exact absurd ⟨j,q,hq,h,he.1,he2⟩ hx2
      .exact hW hpure j q hq hwq hji he
    have ri:=I.rels i Ac hph;refine qkv horc hs ri ht hc3 g3' _ _ ?_;rintro v v' h' Z1 w' ⟨rfl,rfl⟩ q1 q2 q3 q4 q5 q6 q7;have hbig:=I.big
    -- the new map
    let Zn:Ren:=⟨λb=>if(H i).sz<=b/\b<(H (i+1)).sz then Z1 b else Z b,Z1.frz,Z.n⟩
    have hfree:∀b L,Z b=some L->¬((H i).sz<=b/\b<(H (i+1)).sz):=by
     rintro b L hb ⟨h1,h2⟩;rcases I.dom b L hb with h|⟨j,h3,_,h4,h5⟩
     .have:=zN hf (zzu i) Ac;exact Ac
     .have hjl:=I.lt j h3;rcases Nat.lt_trichotomy j i with h|h|h
      .have:=zN hf (i:=j+1) (j:=i) h Ac;exact Ac
      .subst h;exact hS h3
      .have:=zN hf (i:=i+1) (j:=j) h Ac;exact Ac
    have hZn:∀b L,Z b=some L->Zn b=some L:=by
     intro b L hb;simp only[Zn];rw[if_neg (hfree b L hb)];exact hb
    have hZ1n:∀c,i+1<=c->c<=rs.length->∀b L,Z1 b=some L->cut Zn (H c).sz b=some L:=by
     intro c h1 h2 b L hb;have hlt:=q2.dom b L hb;rw[xX (zzh hlt (zN hf h1 h2))];simp only[Zn]
     by_cases h3:(H i).sz<=b
     .rw[if_pos ⟨h3,hlt⟩];exact hb
     .rw[if_neg (λh=>h3 h.1)]
      rw[q3.ext b (Nat.lt_of_not_le h3),xX (Nat.lt_of_not_le h3)]at hb;exact hb
    have hZ1l:∀c,i+1<=c->c<=rs.length->Z1.le (cut Zn (H c).sz):=by
     intro c h1 h2;refine⟨hZ1n c h1 h2,λ_ _ h=>h,?_⟩
     have hdn:=q2.dn.1;have:=zN hf h1 h2;have:=zN hf h2 (zzL _);show Z1.n<=min Z.n (H c).sz;exact Ac
    refine hK _ w' Zn (Inv.next hc hf I hr hS hc1 hDd ?_ hZn ?_ q3.frz q3.fnew hbig ?_ ?_ q3.pres q3.wle q3.io)
    .exact q1.mono (hZ1l (i+1) (zzL _) hi)
    .intro b hb;have:=zN hf (zzu i) Ac;simp only[Zn];rw[if_neg (λh=>Ac)]
    .intro b L hb;simp only[Zn]at hb;split at hb
     .rename_i h;exact .inr ⟨λq hq=>by rw[hr]at hq;cases hq;exact hpure,h.1,h.2,q2.dn.2 b L hb⟩
     .exact .inl hb
    .intro c hcl hph';have hph0:=phase c hcl hwr hph';have rc:=I.rels c hcl hph0
     by_cases hci:c<=i
     .have e:cut Zn (H c).sz=⟨(cut Z (H c).sz).loc,Z1.frz,(cut Z (H c).sz).n⟩:=by
       simp only[cut,Zn]
       congr 1
       funext b;split
       .have:=zN hf hci Ac;rw[if_neg (λh=>Ac)]
       .rfl
      rw[e];exact rc.frz' q5 q3.wle q3.frz q7 (λk a h=>(q2.frz k a h).1)
     .have hic:i+1<=c:=Ac
      have hkeep:∀b,b<(H (i+1)).sz->(H c).tr.get b=(H (i+1)).tr.get b:=λb hb=>qpu hf hic hcl (λk h1 h2 q hq=>by
       cases hwk:wr q.k with
       | false=>rfl
       | true =>
        have h3:=(hph0 k ⟨q,hq,hwk⟩).2 h2;have:=(hph k ⟨q,hq,hwk⟩).1 h3;exact Ac) b hb
      have hsc:=zN hf hcl (zzL _);refine Rel.join rc q2 q5 q3.wle (zN hf hic hcl) (qqI hf hic hcl) hkeep ?_ (hZ1n c hic hcl) q3.frz rfl (zzL _) (hZ1l c hic hcl).2.2 (Nat.min_le_right _ _) q7 ?_
      .intro b L hb;obtain⟨h1,h2⟩:=x8 hb;rw[xX h1];exact hZn b L h2
      .intro b L hb;obtain⟨h1,h2⟩:=x8 hb;simp only[Zn]at h2;split at h2
       .rename_i h;exact .inr ⟨h2,q6 b L h2 h.1⟩
       .left;rw[xX h1];exact h2
 .-- it isn't wanted
  rw[hG];simp only[Bool.false_eq_true,if_false];refine⟨λ_ _=>trivial,hK _ w Z (Inv.next hc hf I hr hS hc1 hDd ?_ (λ_ _ h=>h) (λ_ _=>rfl) (λ_ _ h=>h) (λ_ _ h=>.inl h) I.big (λ_ _ h=>.inl h) ?_ (λ_ _=>rfl) (zzL _) ⟨rfl,rfl⟩)⟩
  .rw[g3];exact .tup [] #[] .nil
  .intro c hcl hph;cases hwr:wr r.k with
   | false=>exact I.rels c hcl (phase c hcl hwr hph)
   | true =>
    have hnp:qbU r.k=false:=by
     cases hk:r.k<;>rw[hk]at hwr<;>first|rfl|skip
     rename_i o1;cases o1<;>first|rfl|(simp[wr]at hwr)
    have hph0:∀j,IsW rs j->(S j↔j<i):=by
     intro j hj
     exact Bt
    have ri:=I.rels i Ac hph0;have hic:i+1<=c:=(hph i ⟨r,hr,hwr⟩).1 (.inr rfl);have hbig:=I.big;have hs1:=zN hf hic hcl;have hs2:=zN hf hcl (zzL _);have hs3:(H i).sz<=(H (i+1)).sz:=zN hf (Nat.le_succ i) hi
    have e:cut Z (H c).sz=(cut Z (H i).sz).bump (H c).sz:=by
     simp only[cut,Ren.bump]
     congr 1
     rotate_left
     .exact Ac
     funext b;cases hb:Z b with
     | none=>simp
     | some L =>
      have hlt:b<(H i).sz:=by
       rcases I.dom b L hb with h|⟨j,h1,h2,h3,h4⟩
       .exact zzh h (zN hf (zzu _) Ac)
       .have hjl:=I.lt j h1;have hq:rs[j]?=some rs[j]:=zzE hjl;have hji:j≠i:=by rintro rfl;exact hS h1
        have:j<i:=Cp
        exact zzh h4 (zN hf this Ac)
      rw[if_pos hlt,if_pos (zzh hlt (zzg hs3 hs1))]
    rw[e];have ri':Rel σ (cut Z (H i).sz) B (H (i+1)) w:=by rw[g4];exact ri
    exact(writer hwr ri' ri'.dom c hcl hph).bump (zzL _)
end
def qs0(horc:OrcOk P σ orc){C:zA}(hi:LC C)(hs:qby P σ C){ro:Option Nat}{nt:Nat}{ops:Array Oper}{id:Nat}{rs:List ROp}{Q:Tr AV->Hp->Prop}{K:Exit->Act->World->Prop}{B:Nat->Prop}{t:Tr AV}{h:Hp}{w:World}{a:Act}{Z:Ren}
  (hrs:qdP P ops nt ops.toList rs=true) (hmix:P.follows .mixedOrders=true) (hdr:qpj ops rs=true) (hk:qel orc true C rs Q t h) (ht:TR σ Z t a.tmps) (hsz:nt<=a.tmps.size) (r:Rel σ Z B h w)
  (hK:∀a' w' t' h' Z',Q t' h'->TR σ Z' t' a'.tmps->nt<=a'.tmps.size->a'.defers=a.defers->Rel σ Z' B h' w'->Kept Z B h w Z' h' w'->K .normal a' w'):(Code.region id ops true).wpIn (Fr ro) 0 P K a w:=by
 obtain⟨T,H,G,V,rfl,rfl,hc,hQ⟩:=qqu hi rs t h hk;obtain⟨_,hf⟩:=qep horc hs hrs hc ht hsz r rs.length (zzL _);obtain⟨hlen,hget⟩:=qh3 hrs;have hlen':ops.size=rs.length:=by simpa using hlen
 simp only[qpj,zzB]at hdr;obtain⟨⟨hd0,hd1⟩,hd2⟩:=hdr
 have hlt:∀(i:Nat) o,ops[i]?=some o->∀e ∈ o.after,Region.binds .any e=true->e.on<i:=by
  intro i o ho e he hb;have:=(zzy.1 hd1) (o,i) (by rw[List.mem_zipIdx_iff_getElem?];simpa using ho);rw[Array.all_eq_true']at this;have h2:=this e he;simp[hb]at h2;simpa[Nat.blt]using h2
 let S:Array Bool->Nat->Prop:=λl i=>l[i]?=some true
 have main:∀(fuel:Nat) (listed:Array Bool) (a':Act) (w':World) (Z':Ren),listed.size=ops.size->listed.toList.count false=fuel->(∀(i:Nat) o,S listed i->ops[i]?=some o->∀e ∈ o.after,Region.binds .any e=true->S listed e.on)->
   Inv σ rs T H nt Z B w a.defers (S listed) a' w' Z'->wpAnyIn (Fr ro) 0 P .any ops K fuel listed a' w':=by
  intro fuel
  have fin:∀(listed:Array Bool) (a':Act) (w':World) (Z':Ren),listed.size=ops.size->(∀i,i<ops.size->S listed i)->Inv σ rs T H nt Z B w a.defers (S listed) a' w' Z'->K .normal a' w':=by
   intro listed a' w' Z' hls hall I;have hall':∀i,i<rs.length->S listed i:=λi hi=>hall i Ac
   have rn:=I.rels rs.length (zzL _) (λj hj=>by
    obtain⟨q,h1,_⟩:=hj;have:=(zzS.1 h1).1;exact⟨λ_=>this,λ_=>hall' j this⟩)
   refine hK a' w' _ _ (cut Z' (H rs.length).sz) hQ (λx v hv=>I.tmps x rs.length v (zzL _) (λk hk=>by
    obtain⟨q,h1,_⟩:=hk;have:=(zzS.1 h1).1;exact⟨λ_=>this,λ_=>hall' k this⟩) hv) I.size I.defers rn ?_
   exact⟨λb hb=>by rw[xX (zzh hb (zN hf (zzu _) (zzL _)))];exact I.ext b hb,zN hf (zzu _) (zzL _),qqI hf (zzu _) (zzL _),
    λb h1 h2=>qxM hf (zzL _) b h1 h2,I.pres,I.wle,I.io,I.frz,I.fnew,by
     have h1:=r.dn.1;have h2:=zN hf (zzu rs.length) (zzL _);have h3:=I.big;show Z.n<=min Z'.n (H rs.length).sz;exact Ac⟩
  -- where nothing is ready all is done
  have done:∀(listed:Array Bool),listed.size=ops.size->Region.ready .any ops listed=[]->∀i,i<ops.size->S listed i:=by
   intro listed hls hre i
   induction i using Nat.strongRecOn with
   | _ i ihi =>
    intro hi;apply Classical.byContradiction;intro hns
    have hmem:i ∈ Region.ready .any ops listed:=by
     simp only[Region.ready,List.mem_filter,List.mem_range];have ho:ops[i]?=some ops[i]:=Array.getElem?_eq_getElem hi
     have hli:listed[i]?=some false:=by
      have h1:listed[i]?=some (listed[i]' Ac):=Array.getElem?_eq_getElem Ac;cases hb:listed[i]' Ac with
      | false=>rw[h1,hb]
      | true=>exact absurd (show S listed i from by show listed[i]?=some true;rw[h1,hb]) hns
     refine⟨hi,?_⟩;rw[Array.getD_eq_getD_getElem?,hli,ho];simp only[Option.getD_some,Bool.not_false,Bool.true_and,zza,Array.all_eq_true'];intro e he
     by_cases hb:Region.binds .any e=true
     .have hl:=hlt i _ ho e he hb;have:S listed e.on:=ihi e.on hl Ac;have h2:listed[e.on]?=some true:=this;simp[Array.getD_eq_getD_getElem?,h2]
     .simp[hb]
    rw[hre]at hmem;cases hmem
  induction fuel with
  | zero =>
   intro listed a' w' Z' hls hcnt hcl I
   have hall:∀i,i<ops.size->S listed i:=by
    intro i hi;have h1:listed[i]?=some (listed[i]' Ac):=Array.getElem?_eq_getElem Ac;cases hb:listed[i]' Ac with
    | true=>show listed[i]?=some true;rw[h1,hb]
    | false =>
     exfalso
     have:false ∈ listed.toList:=by
      rw[<- hb];simp
     have:=List.count_pos_iff.2 this;exact Ac
   refine⟨?_,fin listed a' w' Z' hls hall I⟩;apply List.eq_nil_iff_forall_not_mem.2;intro i hi;simp only[Region.ready,List.mem_filter,List.mem_range]at hi;have h2:listed[i]?=some true:=hall i hi.1;have h3:=hi.2;rw[Array.getD_eq_getD_getElem?,h2]at h3;simp at h3
  | succ fuel ihf =>
   intro listed a' w' Z' hls hcnt hcl I;refine⟨λhre=>fin listed a' w' Z' hls (done listed hls hre) I,?_⟩
   intro i hi;simp only[Region.ready,List.mem_filter,List.mem_range,zzB,Bool.not_eq_true']at hi;obtain⟨hin,hnl,hafter⟩:=hi;have ho:ops[i]?=some ops[i]:=Array.getElem?_eq_getElem hin
   have hli:listed[i]?=some false:=by
    have h1:listed[i]?=some (listed[i]' Ac):=Array.getElem?_eq_getElem Ac;rw[Array.getD_eq_getD_getElem?,h1]at hnl;rw[h1];simpa using hnl
   have hS:¬S listed i:=by intro h;have h':listed[i]?=some true:=h;rw[hli]at h';cases h'
   rw[ho]at hafter;simp only[zza,Option.getD_some,Array.all_eq_true']at hafter
   have hready:∀e ∈ ops[i].after,Region.binds .any e=true->S listed e.on:=by
    intro e he hb;have:=hafter e he;simp[hb]at this;show listed[e.on]?=some true;cases h:listed[e.on]? with
    | none=>rw[h]at this;simp at this
    | some b=>rw[h]at this;simp at this;rw[this]
   have hri:rs[i]?=some (rs[i]' Ac):=zzE Ac;generalize rs[i]' Ac=rr at hri
   -- what must be before,is;what must be behind,isn't
   have hlow:∀k q,rs[k]?=some q->k<i->qeG q rr=true->S listed k:=by
    intro k q hq hki hm;have hbit:=qid rs 0 hd2 rfl k i q rr hki (zzu _) hq hri hm;exact qkZ hlt hcl i _ ho hready k hbit
   have hhigh:∀k q,rs[k]?=some q->i<k->qeG rr q=true->¬S listed k:=by
    intro k q hq hik hm hSk;have hkl:=(zzS.1 hq).1;have hbit:=qid rs 0 hd2 rfl i k rr q hik (zzu _) hri hq hm;have hok:ops[k]?=some (ops[k]' Ac):=Array.getElem?_eq_getElem Ac;exact hS (qkZ hlt hcl k _ hok (hcl k _ hSk hok) i hbit)
   have hcmp:∀k q,rs[k]?=some q->k≠i->(k<i->qeG q rr=true)->(i<k->qeG rr q=true)->(S listed k↔k<i):=by
    intro k q hq hki h1 h2;rcases Nat.lt_or_gt_of_ne hki with h|h
    .exact⟨λ_=>h,λ_=>hlow k q hq h (h1 h)⟩
    .exact⟨λhs=>absurd hs (hhigh k q hq h (h2 h)),λhs=>Ac⟩
   have hback:∀j k q q',rs[j]?=some q->rs[k]?=some q'->k<j->qeG q' q=true->S listed j->S listed k:=by
    intro j k q q' hq hq' hkj hm hSj;have hjl:=(zzS.1 hq).1;have hbit:=qid rs 0 hd2 rfl k j q' q hkj (zzu _) hq' hq hm;have hok:ops[j]?=some (ops[j]' Ac):=Array.getElem?_eq_getElem Ac;exact qkZ hlt hcl j _ hok (hcl j _ hSj hok) k hbit
   refine Inv.step horc hs hrs hc hf I hri hS ?_ ?_ ?_ ?_ ?_ ?_ ?_ ?_ _ _ ?_
   .rintro x hx k ⟨q,hq,hqd⟩ hki
    have hdn:dn q rr=true:=by
     simp only[dn,hqd];exact C3
    exact hcmp k q hq hki (λ_=>by simp[qeG,hdn]) (λ_=>by simp[qeG,hdn])
   .intro hp k q hq hqw hki hne;refine hcmp k q hq hki (λ_=>by simp[qeG,hp,hqw]) (λh=>?_)
    have:exc rr q=false:=by
     cases he:exc rr q with
     | true=>exact absurd ⟨h,he⟩ hne
     | false=>rfl
    simp[qeG,hp,hqw,this]
   .intro hw k q hq hp hki hne;refine hcmp k q hq hki (λh=>?_) (λ_=>by simp[qeG,hp,hw])
    have:exc q rr=false:=by
     cases he:exc q rr with
     | true=>exact absurd ⟨h,he⟩ hne
     | false=>rfl
    simp[qeG,hp,hw,this]
   .rintro j1 j2 ⟨q1,hq1,hw1⟩ ⟨q2,hq2,hw2⟩ hj hs2;exact hback j2 j1 q2 q1 hq2 hq1 hj (by simp[qeG,hw1,qEz hw2]) hs2
   .rintro j q p hq hij hex hpt k hik hkj ⟨u,hu,hud⟩;have h1:=(zzy.1 hd0) (q,j) Hk;have h2:=(zzy.1 h1) (rr,i) Gg;simp only[hex,Bool.not_true,Bool.false_or,zzB]at h2
    have h3:=(zzy.1 h2.1) u (zzM (i:=k-i) (by
     rw[zzp,show i+(k-i)=k from Ac,zzq hkj];exact hu))
    simp[hud,hpt]at h3
   .intro j q p hq hij hex hpt;have h1:=(zzy.1 hd0) (q,j) Hk;have h2:=(zzy.1 h1) (rr,i) Gg;simp only[hex,Bool.not_true,Bool.false_or,zzB]at h2;rcases zzO _ _ ▸ h2.2 with h2|h2
    .left;rintro k hik hkj ⟨u,hu,hud⟩
     have h3:=(zzy.1 h2) u (zzM (i:=k-i) (by
      rw[zzp,show i+(k-i)=k from Ac,zzq hkj];exact hu))
     simp[hud,hpt]at h3
    .right;rw[hpt]at h2;obtain⟨n,z,n1,n2⟩:=qof h2;have hnl:n<((rs.take j).drop (i+1)).length:=(zzS.1 n1).1;rw[List.length_drop,zzm]at hnl;rw[zzp,zzq Ac]at n1;refine⟨i+1+n,z,Ac,Ac,n1,?_⟩
     rintro k hk1 hk2 ⟨u,hu,hud⟩;exact n2 (k-(i+1)) u Ac (by rw[zzp,show i+1+(k-(i+1))=k from Ac,zzq hk2];exact hu) hud
   .intro p b o hp;obtain⟨⟨Z3,a3,w3,ht3,_,r3⟩,_⟩:=qep horc hs hrs hc ht hsz r i Ac;obtain⟨L,h1,_⟩:=(ht3 p _ hp).2.un_ptr;exact r3.dom b L h1
   .intro j q d hq hd;have hjl:=(zzS.1 hq).1;obtain⟨⟨Z3,a3,w3,ht3,_,r3⟩,_⟩:=qep horc hs hrs hc ht hsz r (j+1) Ac;have hg:(T (j+1)).get d=some (V j):=by rw[qo3 hc hq,if_pos hd]
    exact⟨Z3,_,(ht3 d _ hg).2,λb L hb=>r3.dom b L hb,r3.dn.1⟩
   .intro a2 w2 Z2 I2
    have hS2:S (listed.setIfInBounds i true)=λj=>S listed j\/j=i:=by
     funext j;apply propext;show(listed.setIfInBounds i true)[j]?=some true↔(listed[j]?=some true\/j=i);rw[zzw]
     by_cases hji:i=j
     .subst hji;simp;exact Ac
     .rw[if_neg hji];constructor
      .exact .inl
      .rintro (h|h)
       .exact h
       .exact absurd h.symm hji
    refine ihf (listed.setIfInBounds i true) a2 w2 Z2 (by simp;exact hls) ?_ ?_ (by rw[hS2];exact I2)
    .rw[Array.toList_setIfInBounds];have hil:i<listed.toList.length:=by simp;exact Ac
     have hget0:listed.toList[i]=false:=by
      have:listed.toList[i]?=some false:=by simpa using hli
      rw[zzE hil]at this;exact D0
     rw[List.count_set hil,hget0,hcnt];rfl
    .intro j o' hSj ho' e he hb;rw[hS2]at hSj ⊢;rcases hSj with hSj|rfl
     .exact .inl (hcl j o' hSj ho' e he hb)
     .rw[ho]at ho';cases ho';exact .inl (hready e he hb)
 -- the beginning
 refine wpIn_region_any hmix (main ops.size (Array.replicate ops.size false) a _ (Z.bump (H rs.length).sz) (by simp) (by simp) ?_ ?_)
 .intro i o hS;have h':(Array.replicate ops.size false)[i]?=some true:=hS;simp[Array.getElem?_replicate]at h'
 .have hno:∀i,¬S (Array.replicate ops.size false) i:=by
   intro i hS;have h':(Array.replicate ops.size false)[i]?=some true:=hS;simp[Array.getElem?_replicate]at h'
  have r':Rel σ Z B (H 0) { w with drawn:=w.drawn+1 }:=r.heap rfl
  have hdom0:∀c,c<=rs.length->cut (Z.bump (H rs.length).sz) (H c).sz=Z.bump (H c).sz:=by
   intro c hcl;have h1:=zN hf hcl (zzL _);have h2:=zN hf (zzu c) hcl;have h3:=r.dn.1;simp only[cut,Ren.bump]
   congr 1
   .funext b;cases hb:Z b with
    | none=>simp[hb]
    | some L=>rw[if_pos (zzh (r.dom b L hb) h2)]
   .exact Ac
  refine⟨λi h=>absurd h (hno i),λb L hb=>.inl (r.dom b L hb),?_,?_,λ_ _=>rfl,λ_ _=>rfl,zzL _,⟨rfl,rfl⟩,r.base,hsz,rfl,Nat.le_max_right _ _,λ_ _ h=>h,λ_ _ h=>.inl h,r.dn.2⟩
  .intro c hcl hph;rw[hdom0 c hcl];refine(r'.longer (zN hf (zzu _) hcl) (qqI hf (zzu _) hcl) (λb hb=>qpu hf (zzu _) hcl (λk _ h2 q hq=>?_) b hb)).bump (zzL _)
   cases hwk:wr q.k with
   | false=>rfl
   | true=>exact absurd ((hph k ⟨q,hq,hwk⟩).2 h2) (hno k)
  .intro x j v hj hph hg;have e:(T j).get x=(T 0).get x:=qjy hc (zzu _) hj (λk _ h2 hdk=>absurd ((hph k hdk).2 h2) (hno k))
   rw[e]at hg;rw[hdom0 j hj];exact⟨(ht x v hg).1,(ht x v hg).2.mono (Z.bump_le _)⟩
end
section
variable [Cur]
def σ0:Nat->Value:=λ_=>.bool false
def qB:Orc:=⟨λ_ _ _=>none,λ_=>none,λ_ _=>none⟩
omit [Cur] in
def qcC(P:Program):OrcOk P σ0 qB :=
 ⟨λ_=>rfl,(λ_ _ _ _ h=>by cases h),(λ_ _ h=>by cases h),(λ_ _ _ h=>by cases h),λ_=>.inr (.inr ⟨false,rfl⟩)⟩
def qeQ(F:Fence)(n:Nat)(P:Program)(c:Code)(Q:Exit->Act->World->Prop)(a:Act)(w:World):Prop :=
 ∀(b:Frame) (k:List Item) (cs:List Frame),b.roundOf=F.round->F.fn b.fn->F.room (cs.length+1+n)->
  ∃e a' w',Q e a' w'/\ArrivesIn (Machine.fenced P F) P (lone (b.atR a (.code c :: .inLoop c::k)) cs w) b k cs e a' w'
omit [Cur] in
def qlz{F:Fence}{n:Nat}{P:Program}{c:Code}{Q:Exit->Act->World->Prop}{a:Act}{w:World}(h:c.wpIn F n P (Exit.then (qeQ F n P c Q) Q) a w):qeQ F n P c Q a w:=by
 intro b k cs hro hb hr;obtain⟨e,a₁,w₁,hq,harr⟩:=h b (.inLoop c::k) cs hro hb hr;cases e with
 | normal =>
  obtain⟨e₂,a₂,w₂,hq₂,harr₂⟩:=hq b k cs hro hb hr;exact⟨e₂,a₂,w₂,hq₂,.of_steps (StepsIn.trans harr (.one (fenced_calm hb hr rfl) stepR_inLoop)) harr₂⟩
 | exit id=>exact⟨_,a₁,w₁,hq,.pass (x:=.inLoop c) rfl Ad harr⟩
 | goto l=>exact⟨_,a₁,w₁,hq,.pass (x:=.inLoop c) rfl Ad harr⟩
 | ret=>exact⟨_,a₁,w₁,hq,.pass (x:=.inLoop c) rfl Ad harr⟩
 | panic ch=>exact⟨_,a₁,w₁,hq,.pass (x:=.inLoop c) rfl Ad harr⟩
 | outgrown=>exact⟨_,a₁,w₁,hq,.pass (x:=.inLoop c) rfl Ad harr⟩
omit [Cur] in
def qor{F:Fence}{n:Nat}{P:Program}{c:Code}{Q:Exit->Act->World->Prop}{a:Act}{w:World}(h:qeQ F n P c Q a w):(Code.loop c).wpIn F n P Q a w:=by
 intro b k cs hro hb hr;obtain⟨e,a',w',hq,harr⟩:=h b k cs hro hb hr;exact⟨e,a',w',hq,.of_steps (.one (fenced_calm hb hr rfl) stepR_loop) harr⟩
omit [Cur] in
theorem qeQ.mono{F:Fence}{n:Nat}{P:Program}{c:Code}{Q Q':Exit->Act->World->Prop}{a:Act}{w:World}(h:qeQ F n P c Q a w)(hq:∀e a w,Q e a w->Q' e a w):qeQ F n P c Q' a w :=
 λb k cs h1 h2 h3=>let ⟨e,a',w',q,r⟩:=h b k cs h1 h2 h3;Ah
variable {P:Program}{n:Nat}
def qb5:ICode->Bool
 | .seq x y=>qb5 x&&qb5 y
 | .cond _ x y=>qb5 x&&qb5 y
 | .blk _ x=>qb5 x
 | .loop x=>qb5 x
 | .cut x=>qb5 x
 | .rangeF _ _ _ _ _=>false
 | _=>true
omit [Cur] in
theorem nr1{ro:Option Nat}{x y:Bool}(h:ro=none\/(x&&y)=true):ro=none\/x=true:=Ah
omit [Cur] in
def nr2{ro:Option Nat}{x y:Bool}(h:ro=none\/(x&&y)=true):ro=none\/y=true:=Ah
def S(P:Program)(n:Nat)(c:ICode)(Q:X->Tr AV->Hp->Prop)(t:Tr AV)(h:Hp):Prop :=
 ∀nt code,qP P nt code c=true->n<=h.sz->∀ro,(ro=none\/qb5 c=true)->∀Z B w (a:Act),TR σ0 Z t a.tmps->nt<=a.tmps.size->Rel σ0 Z B h w->code.wpIn (Fr ro) 0 P (qcF σ0 Q nt n Z B h w a.defers) a w
def SL(P:Program)(n:Nat)(c:ICode)(Q:X->Tr AV->Hp->Prop)(t:Tr AV)(h:Hp):Prop :=
 ∀nt code,qP P nt code c=true->n<=h.sz->∀ro,(ro=none\/qb5 c=true)->∀Z B w (a:Act),TR σ0 Z t a.tmps->nt<=a.tmps.size->Rel σ0 Z B h w->qeQ (Fr ro) 0 P code (qcF σ0 Q nt n Z B h w a.defers) a w
def SC(P:Program)(f:Nat)(vs:List AV)(h:Hp)(k:AV->Hp->Prop):Prop :=
 qqt P f/\∀Z B w (args:Array Value),Rel σ0 Z B h w->VRs σ0 Z vs args.toList->qo1 P σ0 f args Z B h w k
def SY(P:Program)(b:Nat)(vs:List AV)(h:Hp)(k:AV->Hp->Prop):Prop :=
 ∀Z B w (args:Array Value) L,Z b=some L->Rel σ0 Z B h w->VRs σ0 Z vs args.toList->qp6 P σ0 L.blk args Z B h w k
def CC(P:Program):zA:=λf vs h k=>match f with
 | 0=>(match vs with | .yl b::us=>SY P b us h k|_=>False)
 | f+1=>SC P f vs h k
def qfc(P:Program):qby P σ0 (CC P):=⟨λ_ _ _ _ hk=>hk,λ_ _ _ _ hk=>hk⟩
def onX(e:X)(n:Prop)(x:Nat->Prop)(r:Prop):Prop:=X.rec (motive:=λ_=>Prop) n x r e
omit [Cur] in
def qjj(n:Prop)(x:Nat->Prop)(r:Prop):onX .normal n x r=n:=rfl
omit [Cur] in
def qyZ(i:Nat)(n:Prop)(x:Nat->Prop)(r:Prop):onX (.exit i) n x r=x i:=rfl
omit [Cur] in
def qCB(n:Prop)(x:Nat->Prop)(r:Prop):onX .ret n x r=r:=rfl
def VG(P:Program)(ops:List ROp)(Q:Tr AV->Hp->Prop)(t:Tr AV)(h:Hp):Prop:=qel qB false (CC P) ops Q t h
def VD(P:Program)(ops:List ROp)(Q:Tr AV->Hp->Prop)(t:Tr AV)(h:Hp):Prop:=∃C,LC C/\qby P σ0 C/\qel qB true C ops Q t h
def V(P:Program)(n:Nat):ICode->(X->Tr AV->Hp->Prop)->Tr AV->Hp->Prop
 | .skip,Q,t,h=>Q .normal t h
 | .reg d ops,Q,t,h=>if d=true then VD P ops (λt h=>Q .normal t h) t h else VG P ops (λt h=>Q .normal t h) t h
 | .seq x y,Q,t,h=>V P n x (λe t h=>onX e (V P n y Q t h) (λid=>Q (.exit id) t h) (Q .ret t h)) t h
 | .cond c x y,Q,t,h=>evK t c (λv=>unB v (λb=>if b=true then V P n x Q t h else V P n y Q t h))
 | .blk id x,Q,t,h=>V P n x (λe t h=>onX e (Q .normal t h) (λi=>if i=id then Q .normal t h else Q (.exit i) t h) (Q .ret t h)) t h
 | .loop x,Q,t,h=>SL P n x Q t h
 | .exit id,Q,t,h=>Q (.exit id) t h
 | .ret,Q,t,h=>Q .ret t h
 | .no,_,_,_=>False
 | .cut x,Q,t,h=>S P n x Q t h
 | .rangeF j g ps x y,Q,t,h=>S P n (.rangeF j g ps x y) Q t h
def qj:∀{c:ICode}{Q:X->Tr AV->Hp->Prop}{t:Tr AV}{h:Hp},V P n c Q t h->S P n c Q t h
 | .no,_,_,_,hv=>hv.elim
 | .rangeF _ _ _ _ _,_,_,_,hv=>hv
 | .cut x,Q,t,h,hv=>λnt code hc hn ro hro=>hv nt code (by cases code<;>simpa only[qP]using hc) hn ro hro
 | .skip,Q,t,h,hv=>by
  intro nt code hc hn ro hro Z B w a ht hsz r;cases code<;>first|(simp[qP]at hc;done)|skip
  exact wpIn_skip (qcF.of .normal hv ht hsz rfl r (Kep.refl _ _ hn _))
 | .ret,Q,t,h,hv=>by
  intro nt code hc hn ro hro Z B w a ht hsz r;cases code<;>first|(simp[qP]at hc;done)|skip
  exact wpIn_ret (qcF.of .ret hv ht hsz rfl r (Kep.refl _ _ hn _))
 | .exit id,Q,t,h,hv=>by
  intro nt code hc hn ro hro Z B w a ht hsz r;cases code<;>first|(simp[qP]at hc;done)|skip
  obtain rfl:=eq_of_beq (show(_==id)=true from by simpa[qP]using hc)
  exact wpIn_exit (qcF.of (.exit _) hv ht hsz rfl r (Kep.refl _ _ hn _))
 | .reg d rs,Q,t,h,hv=>by
  intro nt code hc hn ro hro Z B w a ht hsz r;cases code<;>first|(simp[qP]at hc;done)|skip
  rename_i id ops d';simp only[qP,zzB]at hc;obtain⟨⟨h1,h2⟩,h3⟩:=hc;obtain rfl:=eq_of_beq h1;cases d' with
  | false =>
   have hv':VG P rs (λt h=>Q .normal t h) t h:=hv
   refine wpIn_region ?_
   have:=qhP (ops:=ops) (nt:=nt) (ro:=ro) (K:=qcF σ0 Q nt n Z B h w a.defers) (Z0:=Z) (h0:=h) (w0:=w) (ds:=a.defers) (qcC P) (qfc P) (λa' w' t' h' Z' g1 g2 g3 g4 g5 g6=>qcF.of .normal g1 g2 g3 g4 g5 (g6.kep hn))
    ops.toList rs 0 h2 rfl t h Z w a hv' ht hsz rfl r (Kept.refl _ _ _ _)
   rw[List.range_eq_range'];exact Ac
  | true =>
   obtain⟨C,c1,c2,c3⟩:VD P rs (λt h=>Q .normal t h) t h:=hv
   simp only[Bool.not_true,Bool.false_or,zzB]at h3;exact qs0 (qcC P) c1 c2 h2 h3.1 h3.2 c3 ht hsz r (λa' w' t' h' Z' g1 g2 g3 g4 g5 g6=>qcF.of .normal g1 g2 g3 g4 g5 (g6.kep hn))
 | .seq x y,Q,t,h,hv=>by
  intro nt code hc hn ro hro Z B w a ht hsz r;cases code<;>first|(simp[qP]at hc;done)|skip
  rename_i cx cy;simp only[qP,zzB]at hc;refine wpIn_seq (wpIn_mono (qj (c:=x) hv nt cx hc.1 hn ro (nr1 hro) Z B w a ht hsz r) ?_);rintro e a1 w1 ⟨x1,t1,h1,Z1,rs,hx,hq,ht1,hs1,hd1,hm,r1,k1⟩;cases hx with
  | normal=>exact wpIn_mono (qj (c:=y) hq nt cy hc.2 k1.szle ro (nr2 hro) Z1 _ w1 a1 ht1 hs1 r1) (by grind[qcF.trans,MarksOk.lt])
  | exit id=>exact Cn
  | ret=>exact Bo
 | .cond c x y,Q,t,h,hv=>by
  intro nt code hc hn ro hro Z B w a ht hsz r;cases code<;>first|(simp[qP]at hc;done)|skip
  rename_i cc cx cy;simp only[qP,zzB]at hc;obtain⟨⟨h1,h2⟩,h3⟩:=hc;obtain⟨v,h4,h5⟩:=qR ht h1 hv;obtain⟨b,h6,h7⟩:=qny h5 h4;cases b with
  | true=>exact wpIn_cond_true h6 (qj (c:=x) h7 nt cx h2 hn ro (nr1 hro) Z B w a ht hsz r)
  | false=>exact wpIn_cond_false h6 (qj (c:=y) h7 nt cy h3 hn ro (nr2 hro) Z B w a ht hsz r)
 | .blk id x,Q,t,h,hv=>by
  intro nt code hc hn ro hro Z B w a ht hsz r;cases code<;>first|(simp[qP]at hc;done)|skip
  rename_i id' cx;simp only[qP,zzB]at hc;obtain rfl:=eq_of_beq hc.1;refine wpIn_block (wpIn_mono (qj (c:=x) hv nt cx hc.2 hn ro hro Z B w a ht hsz r) ?_);rintro e a1 w1 ⟨x1,t1,h1,Z1,rs,hx,hq,ht1,hs1,hd1,hm,r1,k1⟩;cases hx with
  | normal=>exact H9
  | ret=>exact Bo
  | exit id2 =>
   exact A8
 | .loop x,Q,t,h,hv=>by
  intro nt code hc hn ro hro Z B w a ht hsz r;cases code<;>first|(simp[qP]at hc;done)|skip
  exact Fj
def qcz{x:ICode}{Q:X->Tr AV->Hp->Prop}{t:Tr AV}{h:Hp}(hv:V P n x (λe t h=>onX e (SL P n x Q t h) (λid=>Q (.exit id) t h) (Q .ret t h)) t h):SL P n x Q t h:=by
 intro nt cx hc hn ro hro Z B w a ht hsz r;refine qlz (wpIn_mono (qj hv nt cx hc hn ro hro Z B w a ht hsz r) ?_);rintro e a1 w1 ⟨x1,t1,h1,Z1,rs,hx,hq,ht1,hs1,hd1,hm,r1,k1⟩;cases hx with
 | normal=>exact qeQ.mono (hq nt cx hc k1.szle ro hro Z1 _ w1 a1 ht1 hs1 r1) (by grind[qcF.trans,MarksOk.lt])
 | exit id=>exact Cn
 | ret=>exact Bo
def Wk(n:Nat)(t:Tr AV)(h:Hp)(t':Tr AV)(h':Hp):Prop :=
 ∀Z B w tm,TR σ0 Z t tm->Rel σ0 Z B h w->∃Z',TR σ0 Z' t' tm/\Rel σ0 Z' B h' w/\Kep n Z B h w Z' h' w
def SL.weak{x:ICode}{Q:X->Tr AV->Hp->Prop}{t t':Tr AV}{h h':Hp}(hw:Wk n t h t' h')(hs:SL P n x Q t' h'):SL P n x Q t h:=by
 intro nt cx hc hn ro hro Z B w a ht hsz r;obtain⟨Z',h1,h2,h3⟩:=hw Z B w a.tmps ht r;exact qeQ.mono (hs nt cx hc h3.szle ro hro Z' B w a h1 hsz h2) (by grind[qcF.weaken])
def S.weak{x:ICode}{Q:X->Tr AV->Hp->Prop}{t t':Tr AV}{h h':Hp}(hw:Wk n t h t' h')(hs:S P n x Q t' h'):S P n x Q t h:=by
 intro nt cx hc hn ro hro Z B w a ht hsz r;obtain⟨Z',h1,h2,h3⟩:=hw Z B w a.tmps ht r;exact wpIn_mono (hs nt cx hc h3.szle ro hro Z' B w a h1 hsz h2) (by grind[qcF.weaken])
end
section
variable [Cur]
variable {P:Program}{n:Nat}
mutual
def clo:AV->Bool
 | .ptr _ _=>false
 | .sl _ _ _ _ _=>false
 | .map _=>false
 | .own _ _=>false
 | .fn _ a c=>qu a&&qu c
 | .ifc _ v=>clo v
 | .agg cs=>qu cs
 | .tup cs=>qu cs
 | .undef=>true | .b _=>true | .i _ _=>true | .s _=>true | .nilp=>true | .nils=>true | .nilf=>true | .nili=>true | .nilm=>true | .sym _=>false | .fz _ _=>true | .pf _ _=>true | .e0=>true | .nz=>true | .yl _=>false | .lp _=>false
def qu:List AV->Bool
 | []=>true
 | v::vs=>clo v&&qu vs
end
mutual
def VR.cr{Z:Ren}:∀{a:AV}{v:Value},VR σ0 Z a v->clo a=true->CR σ0 Z.frz a v
 | _,_,.undef v,_=>.undef v
 | _,_,.b x,_=>.b x
 | _,_,.i k n,_=>.i k n
 | _,_,.s x,_=>.s x
 | _,_,.nilp,_=>.nilp
 | _,_,.ptr b o L h,hc=>B3
 | _,_,.nils,_=>.nils
 | _,_,.sl b o len cap c loose L h hc,hh=>by simp[clo]at hh
 | _,_,.slz b o x l L h,hh=>by simp[clo]at hh
 | _,_,.nilf,_=>.nilf
 | _,_,.fn f first cap first' cap' h1 h2,hc=>by
  simp only[clo,zzB]at hc;exact .fn _ _ _ _ _ (h1.crs hc.1) (h2.crs hc.2)
 | _,_,.nili,_=>.nili
 | _,_,.ifc t v v' h,hc=>by simp only[clo]at hc;exact .ifc _ _ _ (h.cr hc)
 | _,_,.agg cs cs' h,hc=>by simp only[clo]at hc;exact .agg _ _ (h.crs hc)
 | _,_,.tup cs cs' h,hc=>by simp only[clo]at hc;exact .tup _ _ (h.crs hc)
 | _,_,.nilm,_=>.nilm
 | _,_,.map b L h h0,hc=>B3
 | _,_,.sym j,hc=>B3
 | _,_,.fz n off c cs k arr hn h hs,_=>.fz n off c cs k arr hn h hs
 | _,_,.fz0 a,_=>.fz0 a
 | _,_,.pf off base cs k arr h hs,_=>.pf off base cs k arr h hs
 | _,_,.e0 a,_=>.e0 a
 | _,_,.nz a c,_=>.nz a c
 | _,_,.own0 b a hb,hc=>B3
 | _,_,.own b n c L h hn hc',hc=>B3
 | _,_,.yl b L h,hc=>B3
def VRs.crs{Z:Ren}:∀{a:List AV}{v:List Value},VRs σ0 Z a v->qu a=true->CRs σ0 Z.frz a v
 | _,_,.nil,_=>.nil
 | _,_,.cons v vs v' vs' h hs,hc=>by
  simp only[qu,zzB]at hc;exact .cons _ _ _ _ (h.cr hc.1) (hs.crs hc.2)
end
mutual
inductive Frz (h:Hp):AV->AV->Prop where
 | undef (v:AV):Frz h v .undef
 | b (x:Bool):Frz h (.b x) (.b x)
 | i (k:IntKind) (n:Int):Frz h (.i k n) (.i k n)
 | s (x:List UInt8):Frz h (.s x) (.s x)
 | nilp:Frz h .nilp .nilp
 | nils:Frz h .nils .nils
 | nilz:Frz h .nils (.fz 0 [])
 | nilf:Frz h .nilf .nilf
 | nili:Frz h .nili .nili
 | nilm:Frz h .nilm .nilm
 | e0:Frz h .e0 .e0
 | nz:Frz h .nz .nz
 | e0z:Frz h .e0 (.fz 0 [])
 | fz (n:Nat) (cs:List AV):Frz h (.fz n cs) (.fz n cs)
 | pf (cs:List AV) (o:Nat):Frz h (.pf cs o) (.pf cs o)
 | fn (f:Nat) (a c a' c':List AV) (h1:Frzs h a a') (h2:Frzs h c c'):Frz h (.fn f a c) (.fn f a' c')
 | ifc (t:Nat) (v v':AV) (h1:Frz h v v'):Frz h (.ifc t v) (.ifc t v')
 | agg (cs cs':List AV) (h1:Frzs h cs cs'):Frz h (.agg cs) (.agg cs')
 | tup (cs cs':List AV) (h1:Frzs h cs cs'):Frz h (.tup cs) (.tup cs')
 | sl (b o n c:Nat) (l:Bool) (e:Nat) (af:Bool) (cs:List AV) (m:Nat) (cs':List AV) (hb:h.tr.get b=some (.cells e true af cs)) (hn:n<=c) (hm:o+m<=cs.length) (h0:c=0->m=0) (h1:Frzs h ((cs.drop o).take m) cs'):Frz h (.sl b o n c l) (.fz n cs')
 | own (b n:Nat) (e:Nat) (af:Bool) (ys cs':List AV) (hb:h.tr.get b=some (.cells e true af ys)) (h0:n=0->ys=[]) (h1:Frzs h ys cs'):Frz h (.own b n) (.fz n cs')
 | ptr (b o:Nat) (e:Nat) (af:Bool) (ys cs':List AV) (hb:h.tr.get b=some (.cells e true af ys)) (h1:Frzs h ys cs'):Frz h (.ptr b o) (.pf cs' o)
inductive Frzs (h:Hp):List AV->List AV->Prop where
 | nil:Frzs h [] []
 | cons (v v':AV) (vs vs':List AV) (h1:Frz h v v') (h2:Frzs h vs vs'):Frzs h (v::vs) (v'::vs')
end
omit [Cur] in
def Frzs.length{h:Hp}{zy vs:List AV}(hf:Frzs h zy vs):zy.length=vs.length:=D5
open Classical in
def qse(Z:Ren)(h:Hp)(w:World):Nat->Option (Array Value):=λk =>
 match Z.frz k with
 | some a=>some a
 | none=>match w.heap[k]? with
  | some (.cells arr _ _)=>if ∃b L e af cs,Z b=some L/\h.tr.get b=some (.cells e true af cs)/\L.blk=k then some arr else none
  | _=>none
def wA(Z:Ren)(h:Hp)(w:World):Fz:=⟨qse Z h w,λk a hk=>by simp[qse,Z.frz.ok k a hk]⟩
omit [Cur] in
theorem wN{Z:Ren}{h:Hp}{w:World}{k:Nat}{a:Array Value}(hk:Z.frz k=some a):wA Z h w k=some a:=by simp[wA,qse,hk]
omit [Cur] in
def qdT{Z:Ren}{h:Hp}{w:World}{k:Nat}{a:Array Value}(hk:wA Z h w k=some a):Z.frz k=some a\/((∃ty fz,w.heap[k]?=some (.cells a ty fz))/\∃b L e af cs,Z b=some L/\h.tr.get b=some (.cells e true af cs)/\L.blk=k):=by
 change qse Z h w k=some a at hk;unfold qse at hk;split at hk
 .exact Ad
 .split at hk
  .rename_i arr ty fz hh;split at hk
   .rename_i hx;cases hk;exact Ad
   .cases hk
  exact Ad
def qkR{Z:Ren}{B:Nat->Prop}{h:Hp}{w:World}(r:Rel σ0 Z B h w){b:Nat}{L:Loc}{e:Nat}{af:Bool}{cs:List AV}(hb:Z b=some L)(hg:h.tr.get b=some (.cells e true af cs)){c:Array Value}{ty:TypeId}{fz:Nat×Nat}(hc:w.heap[L.blk]?=some (.cells c ty fz)):wA Z h w L.blk=some c:=by
 have h0:Z.frz L.blk=none:=by
  cases hf:Z.frz L.blk<;>grind[Rel.frz]
 have hx:∃b' L' e' af' cs',Z b'=some L'/\h.tr.get b'=some (.cells e' true af' cs')/\L'.blk=L.blk:=⟨b,L,e,af,cs,hb,hg,rfl⟩;show qse Z h w L.blk=some c;simp only[qse,h0,hc,if_pos hx]
mutual
theorem Frz.ok{Z:Ren}{B:Nat->Prop}{h:Hp}{w:World}(r:Rel σ0 Z B h w):∀{v v':AV}{x:Value},Frz h v v'->VR σ0 Z v x->CR σ0 (wA Z h w) v' x
 | _,_,_,.undef _,_=>.undef _
 | _,_,_,.b _,hv=>by cases hv;exact .b _
 | _,_,_,.i _ _,hv=>by cases hv;exact .i _ _
 | _,_,_,.s _,hv=>by cases hv;exact .s _
 | _,_,_,.nilp,hv=>by cases hv;exact .nilp
 | _,_,_,.nils,hv=>by cases hv;exact .nils
 | _,_,_,.nilz,hv=>by cases hv;exact .fz0 _
 | _,_,_,.nilf,hv=>by cases hv;exact .nilf
 | _,_,_,.nili,hv=>by cases hv;exact .nili
 | _,_,_,.nilm,hv=>by cases hv;exact .nilm
 | _,_,_,.e0,hv=>by
  cases hv with
  | e0=>exact .e0 _
 | _,_,_,.nz,hv=>by
  cases hv with
  | nz=>exact .nz _ _
 | _,_,_,.e0z,hv=>by
  cases hv with
  | e0=>exact .fz0 _
 | _,_,_,.fz _ _,hv=>by
  cases hv with
  | fz _ _ _ _ _ _ q1 q2 q4=>exact .fz _ _ _ _ _ _ q1 (wN q2) (by grind[CRs.mono,wN])
  | fz0=>exact .fz0 _
 | _,_,_,.pf _ _,hv=>by
  cases hv with
  | pf _ _ _ _ _ q2 q4=>exact .pf _ _ _ _ _ (wN q2) (by grind[CRs.mono,wN])
 | _,_,_,.fn _ _ _ _ _ h1 h2,hv=>by
  cases hv with
  | fn _ _ _ _ _ g1 g2=>exact .fn _ _ _ _ _ (h1.ok r g1) (h2.ok r g2)
 | _,_,_,.ifc _ _ _ h1,hv=>by
  cases hv with
  | ifc _ _ _ g1=>exact .ifc _ _ _ (h1.ok r g1)
 | _,_,_,.agg _ _ h1,hv=>by
  cases hv with
  | agg _ _ g1=>exact .agg _ _ (h1.ok r g1)
 | _,_,_,.tup _ _ h1,hv=>by
  cases hv with
  | tup _ _ g1=>exact .tup _ _ (h1.ok r g1)
 | _,_,_,.sl b o n c l e af cs m cs' hb hn hm h0 h1,hv=>by
  have hlen:=h1.length;rw[zzm,List.length_drop,Nat.min_eq_left Ac]at hlen;obtain⟨L,c',off,g1,rfl,g3⟩:=hv.un_sl;obtain⟨e1,arr,ty,fz,e2,e3,e4,e5,e6⟩:=r.cells b L e true af cs g1 hb;have hf:=qkR r g1 hb e2;rcases g3 with⟨rfl,g3⟩|⟨rfl,rfl,rfl⟩
  .have hnc:n<=c':=by rcases g3 with g3|⟨_,g3,_⟩<;>omega
   refine .fz n _ c' cs' L.blk arr hnc hf (h1.ok r ?_)
   grind[VRs.of_get]
  .have hm0:m=0:=h0 rfl;subst hm0;have hcs:cs'=[]:=Ah
   subst hcs;exact .fz 0 _ 0 [] L.blk arr (zzL _) hf Fx
 | _,_,_,.own b n e af ys cs' hb h0 h1,hv=>by
  have hlen:=h1.length;rcases hv.un_own with⟨rfl,⟨a0,rfl⟩,_⟩|⟨L,c,g1,g2,g3,rfl⟩
  .have:=h0 rfl;subst this;have hcs:cs'=[]:=Ah
   subst hcs;exact .fz0 _
  .obtain⟨e1,arr,ty,fz,e2,e3,e4,e5,e6⟩:=r.cells b L e true af ys g1 hb;have hf:=qkR r g1 hb e2;refine .fz n _ c cs' L.blk arr g2 hf (h1.ok r ?_)
   grind[VRs.of_get]
 | _,_,_,.ptr b o e af ys cs' hb h1,hv=>by
  have hlen:=h1.length;obtain⟨L,g1,rfl⟩:=hv.un_ptr;obtain⟨e1,arr,ty,fz,e2,e3,e4,e5,e6⟩:=r.cells b L e true af ys g1 hb;have hf:=qkR r g1 hb e2;refine .pf o L.off cs' L.blk arr hf (h1.ok r ?_)
  grind[VRs.of_get]
theorem Frzs.ok{Z:Ren}{B:Nat->Prop}{h:Hp}{w:World}(r:Rel σ0 Z B h w):∀{v v':List AV}{x:List Value},Frzs h v v'->VRs σ0 Z v x->CRs σ0 (wA Z h w) v' x
 | _,_,_,.nil,hv=>by cases hv;exact .nil
 | _,_,_,.cons _ _ _ _ h1 h2,hv=>by
  cases hv with
  | cons _ _ _ _ g1 g2=>exact .cons _ _ _ _ (h1.ok r g1) (h2.ok r g2)
end
def qaS:List AV->Nat->Tr AV->Tr AV
 | [],_,t=>t
 | v::l,n,t=>qaS l (n+1) (t.set n v)
omit [Cur] in
def qhX:∀(l:List AV) (n:Nat) (t:Tr AV) (j:Nat) (v:AV),(qaS l n t).get j=some v->(n<=j/\l[j-n]?=some v)\/t.get j=some v
 | [],_,_,_,_,h=>.inr h
 | x::l,n,t,j,v,h=>by
  rcases qhX l (n+1) _ j v h with⟨h3,h4⟩|h3
  all_goals grind[Tr.get_set]
def xG(res:List RV)(k:AV->Hp->Prop)(e:X)(t:Tr AV)(h:Hp):Prop:=onX e (qaW t h res (λvs=>k (qao vs) h)) (λ_=>False) (qaW t h res (λvs=>k (qao vs) h))
def Rel.lessB{Z:Ren}{B B':Nat->Prop}{h:Hp}{w:World}(r:Rel σ0 Z B' h w)(hb:∀k,B k->B' k):Rel σ0 Z B h w :=
 ⟨r.dom,r.cells,r.maps,r.excl,r.exclm,r.app,H8,λk hk=>r.base k (hb k hk),r.frz,r.dn⟩
def Rel.shut{Z:Ren}{B:Nat->Prop}{h:Hp}{w:World}(r:Rel σ0 Z B h w){q:Nat}{ds:Option (List Deferred)}(hq:w.heap[q]?=some (.deferred ds))(o:Obj):Rel σ0 Z B h (w.putObj q o):=by
 have other:∀k,k≠q->(w.putObj q o).heap[k]?=w.heap[k]?:=λk hk=>World.putObj_heap_other hk
 refine⟨r.dom,λb L e wf af cs hb hg=>?_,λb L es hb hg=>?_,r.excl,r.exclm,r.app,r.flr,λk hk=>by simpa using r.base k hk,λk arr hk=>?_,⟨r.dn.1,λb L h=>by simpa using r.dn.2 b L h⟩⟩
 .obtain⟨g1,c,ty,fz,g2,g3⟩:=r.cells b L e wf af cs hb hg;exact Ah
 .obtain⟨g1,ob,g2,g3⟩:=r.maps b L es hb hg;refine⟨g1,ob,?_,g3⟩;rw[other _ ?_]
  .exact g2
  .rintro rfl;rw[hq]at g2;cases g2;rcases g3 with⟨_,_,_,h,_⟩|⟨_,_,_,h⟩|⟨_,_,_,_,h,_⟩|⟨_,_,_,_,_,_,h⟩<;>cases h
 .obtain⟨⟨ty,fz,g1⟩,g2⟩:=r.frz k arr hk;exact⟨⟨ty,fz,by rw[other _ (by rintro rfl;rw[hq]at g1;cases g1)];exact g1⟩,g2⟩
def qlv{fn:Func}{f:Nat}{i:IFn}(hfn:P.funcs[f]?=some fn)(hres:qcf P fn.results.toList i.res=true){Z Z':Ren}{B:Nat->Prop}{h h':Hp}{w:World}{t':Tr AV}{tm:Array Value}(ht':TR σ0 Z' t' tm){k:AV->Hp->Prop} :
  ∀(rs:List Nat) {w':World},(∀r ∈ rs,w'.heap[r]?=some (.deferred (some [])))->rs.Nodup->(∀r ∈ rs,¬B r)->Rel σ0 Z' B h' w'->Kept Z B h w Z' h' w'->qaW t' h' i.res (λvs=>k (qao vs) h')->
   LeavesInM (Fr none) 0 P fn tm (λe w'=>∃v v' h' Z',e = .returned v'/\k v h'/\VR σ0 Z' v v'/\Rel σ0 Z' B h' w'/\Kept Z B h w Z' h' w') (qlA rs) .returning w'
 | [],w',_,_,_,hr',hk,hq=>by
  obtain⟨v,v',g1,g2,g3⟩:=qjn hr' ht' hres hq;exact⟨v',g3,v,v',h',Z',rfl,g1,g2,hr',hk⟩
 | r::rs,w',hm,hn,hB,hr',hk,hq=>by
  have h1:=hm r (by simp);refine⟨by simp,.inl ⟨r,w'.putObj r (.deferred none),rfl,run_takeDeferred h1,?_⟩⟩
  have hn2:=List.nodup_cons.1 hn;refine qlv hfn hres ht' rs (λr' hr2=>?_) hn2.2 (λr' hr2=>hB r' Ah) (hr'.shut h1 _) ?_ hq
  .rw[World.putObj_heap_other (by rintro rfl;exact hn2.1 hr2)];exact Ad
  .exact⟨hk.ext,hk.szle,hk.fl,hk.akeep,λk hb=>by rw[World.putObj_heap_other Ah];exact hk.pres k hb,by simpa using hk.wle,hk.io,hk.frz,hk.fnew,hk.nle⟩
theorem SC.mk{f:Nat}{i:IFn}{vs:List AV}{h:Hp}{k:AV->Hp->Prop}(hc:qdN P f i=true)(hS:S P h.sz i.body (xG i.res k) (qaS vs 0 .leaf) h):SC P f vs h k:=by
 unfold qdN at hc;split at hc<;>try (cases hc;done)
 rename_i fn hfn;simp only[zzB,bne_iff_ne]at hc;obtain⟨⟨hname,hbody⟩,hres⟩:=hc;split at hbody<;>try (cases hbody;done)
 rename_i c hcb;refine⟨trivial,λZ B w args r ha=>.inl ⟨⟨fn,hfn,hname,Hq⟩,?_⟩⟩
 have r0:=r
 have ht:TR σ0 Z (qaS vs 0 .leaf) (args++Array.replicate (fn.ntmps-args.size) undef):=by
  intro j v hv;rcases qhX _ _ _ _ _ hv with⟨_,h3⟩|h3
  .simp only[Nat.sub_zero]at h3;obtain⟨v',h4,h5⟩:=ha.get h3
   have hn:j<args.size:=by
    have:=(zzS.1 h4).1;exact D0
   refine⟨by simp;exact Ac,?_⟩
   exact Ax
  exact Ad
 have hsize:fn.ntmps<=(args++Array.replicate (fn.ntmps-args.size) undef).size:=Ah
 have hw:=hS fn.ntmps c hbody (zzL _) none (.inl rfl) Z B w { tmps:=args++Array.replicate (fn.ntmps-args.size) undef,defers:=[] } ht hsize r;refine(callsIn_wide (n:=0)).1 (callsIn_of_wp_marks hfn hcb trivial (wpIn_mono hw ?_) rfl);rintro e a w' ⟨x,t',h',Z',rs,hx,hq,ht',_,hd,hm,hr',hkept⟩
 have key:∀(k':AV->Hp->Prop),qaW t' h' i.res (λvs=>k' (qao vs) h')->LeavesInM (Fr none) 0 P fn a.tmps (λe w'=>∃v v' h' Z',e = .returned v'/\k' v h'/\VR σ0 Z' v v'/\Rel σ0 Z' B h' w'/\Kept Z B h w Z' h' w') a.defers .returning w':=by
  intro k' hq';rw[hd,List.append_nil];have hB:Rel σ0 Z' B h' w':=hr'.lessB λk hk=>.inl hk
  exact qlv hfn hres ht' rs (λr hr=>hm.at' r hr) hm.nodup (λr hr hb=>absurd (r0.base r hb) (Nat.not_lt.2 (hm.new r hr))) hB (hkept.kept r0.dn.1) hq'
 cases hx with
 | exit id=>exact hq.elim
 | normal=>exact key k hq
 | ret=>exact key k hq
theorem SC.mono{f:Nat}{vs:List AV}{h:Hp}{k k':AV->Hp->Prop}(hc:SC P f vs h k)(hk:∀v h,k v h->k' v h):SC P f vs h k' :=
 ⟨hc.1,λZ B w args r ha=>qcb.mono (hc.2 Z B w args r ha) Ah⟩
def H0:Hp:=⟨0,0,.leaf⟩
def Rel.empty{Z:Ren}{B:Nat->Prop}{h:Hp}{w:World}(r:Rel σ0 Z B h w):Rel σ0 ⟨λ_=>none,Z.frz,0⟩ (low w.heap.size) H0 w :=
 ⟨Ad,Ah,Ad,Ad,Ad,Ad,Ad,(λ_ h=>h),
  Dz,Ad⟩
def qa(P:Program)(f:Nat)(vs:List AV)(v:AV):Prop:=∀(h:Hp) (k:AV->Hp->Prop),k v h->SC P f vs h k
def qa.of_SC{f:Nat}{vs:List AV}{v:AV}(hcl:qu vs=true)(hs:SC P f vs H0 (λv' h'=>Frz h' v' v)):qa P f vs v:=by
 intro h k hk;refine⟨hs.1,λZ B w args r ha=>?_⟩
 have hcr:=ha.crs hcl;refine qcb.mono (hs.2 ⟨λ_=>none,Z.frz,0⟩ (low w.heap.size) w args r.empty Fo) ?_
 rintro e w' ⟨v0,v',h',Z',rfl,g1,g2,g3,g4⟩;have hcv:=g1.ok g3 g2;have f1:∀k a,Z.frz k=some a->wA Z' h' w' k=some a:=by grind[wN,Kept.frz]
 have f2:∀k a,wA Z' h' w' k=some a->Z.frz k=some a\/w.heap.size<=k:=by
  intro k a hk;rcases qdT hk with hk|⟨_,b,L,e,af,cs,h1,_,rfl⟩
  .exact (g4.fnew k a hk).imp id Nat.not_lt.1
  .exact .inr (Nat.not_lt.1 (g3.flr b L h1 (by rw[g4.fl];exact zzu _)))
 have f3:∀k a,wA Z' h' w' k=some a->∃ty fz,w'.heap[k]?=some (.cells a ty fz):=by
  intro k a hk;exact F5
 exact⟨v,v',h,⟨Z.loc,wA Z' h' w',Z.n⟩,rfl,hk,(by grind[CR.vr]),r.frz' g4.pres g4.wle f1 f2 f3,
  ⟨λ_ _=>rfl,zzL _,rfl,λ_ _ _=>rfl,Ce,g4.wle,g4.io,f1,λk a hk=>(f2 k a hk).imp id (wJ r.base),zzL _⟩⟩
theorem qa.mk{f:Nat}{i:IFn}{vs:List AV}{v:AV}(hc:qdN P f i=true)(hcl:qu vs=true)(hV:V P 0 i.body (xG i.res (λv' h'=>Frz h' v' v)) (qaS vs 0 .leaf) H0):qa P f vs v :=
 qa.of_SC hcl (SC.mk hc (qj hV))
mutual
inductive NV (r:Nat->Nat) (m:Nat):AV->AV->Prop where
 | undef (v:AV):NV r m v .undef
 | clo (v:AV) (hc:clo v=true):NV r m v v
 | nilz:NV r m .nils (.fz 0 [])
 | e0z:NV r m .e0 (.fz 0 [])
 | slz (b o b':Nat) (hm:b'<m):NV r m (.sl b o 0 0 false) (.own b' 0)
 | e0own (b':Nat) (hm:b'<m):NV r m .e0 (.own b' 0)
 | ptr (b b' o:Nat) (hr:r b'=b) (hm:b'<m):NV r m (.ptr b o) (.ptr b' o)
 | sl (b b' o n c:Nat) (l:Bool) (hr:r b'=b) (hm:b'<m):NV r m (.sl b o n c l) (.sl b' o n c l)
 | own (b b' n:Nat) (hr:r b'=b) (hm:b'<m):NV r m (.own b n) (.own b' n)
 | nilown (b':Nat) (hm:b'<m):NV r m .nils (.own b' 0)
 | map (b b':Nat) (hr:r b'=b) (hm:b'<m):NV r m (.map b) (.map b')
 | yl (b b':Nat) (hr:r b'=b) (hm:b'<m):NV r m (.yl b) (.yl b')
 | fn (f:Nat) (a c a' c':List AV) (h1:NVs r m a a') (h2:NVs r m c c'):NV r m (.fn f a c) (.fn f a' c')
 | ifc (t:Nat) (v v':AV) (h1:NV r m v v'):NV r m (.ifc t v) (.ifc t v')
 | agg (cs cs':List AV) (h1:NVs r m cs cs'):NV r m (.agg cs) (.agg cs')
 | tup (cs cs':List AV) (h1:NVs r m cs cs'):NV r m (.tup cs) (.tup cs')
inductive NVs (r:Nat->Nat) (m:Nat):List AV->List AV->Prop where
 | nil:NVs r m [] []
 | cons (v v':AV) (vs vs':List AV) (h1:NV r m v v') (h2:NVs r m vs vs'):NVs r m (v::vs) (v'::vs')
end
omit [Cur] in
def NVs.length{r:Nat->Nat}{m:Nat}{zy vs:List AV}(hf:NVs r m zy vs):zy.length=vs.length:=D5
omit [Cur] in
theorem NVs.get{r:Nat->Nat}{m:Nat}{zy vs:List AV}(hf:NVs r m zy vs){j:Nat}{v':AV}(h:vs[j]?=some v'):∃v,zy[j]?=some v/\NV r m v v':=by
 induction zy generalizing vs j with
 | nil=>cases hf<;>grind
 | cons a zy ih =>
  cases hf<;>grind
omit [Cur] in
theorem NVs.refl{r:Nat->Nat}{m:Nat}:∀{vs:List AV},qu vs=true->NVs r m vs vs
 | [],_=>.nil
 | v::vs,h=>by
  simp only[qu,zzB]at h;exact .cons _ _ _ _ (.clo _ h.1) (NVs.refl h.2)
def Ren.via(Z:Ren)(r:Nat->Nat)(m:Nat):Ren:=⟨λb'=>if b'<m then Z (r b')else none,Z.frz,m⟩
omit [Cur] in
def qkG{Z:Ren}{r:Nat->Nat}{m b':Nat}{L:Loc}(h:Z.via r m b'=some L):b'<m/\Z (r b')=some L:=by
 simp only[Ren.via]at h;exact Ad
omit [Cur] in
def qjs{Z:Ren}{r:Nat->Nat}{m b':Nat}(h:b'<m):Z.via r m b'=Z (r b'):=by simp only[Ren.via];rw[if_pos h]
mutual
theorem NV.ok{Z:Ren}{r:Nat->Nat}{m:Nat}:∀{v v':AV}{x:Value},NV r m v v'->VR σ0 Z v x->VR σ0 (Z.via r m) v' x
 | _,_,_,.undef _,_=>.undef _
 | _,_,_,.clo _ hc,hv=>CR.vr (Z:=Z.via r m) (hv.cr hc)
 | _,_,_,.nilz,hv=>by cases hv;exact .fz0 _
 | _,_,_,.e0z,hv=>by cases hv;exact .fz0 _
 | _,_,_,.e0own b' hm,hv=>by cases hv;exact .own0 _ _ hm
 | _,_,_,.slz b o b' hm,hv=>by
  cases hv with
  | sl _ _ _ _ c _ L h hc =>
   rcases hc with rfl|⟨hc,_⟩
   .exact .own0 _ _ hm
   exact Ad
  | slz=>exact .own0 _ _ hm
 | _,_,_,.ptr b b' o hr hm,hv=>by
  subst hr;obtain⟨L,h1,rfl⟩:=hv.un_ptr;exact .ptr _ _ _ (by rw[qjs hm];exact h1)
 | _,_,_,.sl b b' o n c l hr hm,hv=>by
  subst hr;cases hv with
  | sl _ _ _ _ _ _ L h hc=>exact .sl _ _ _ _ _ _ L Em hc
  | slz _ _ _ _ L h=>exact .slz _ _ _ _ L Em
 | _,_,_,.own b b' n hr hm,hv=>by
  subst hr;cases hv with
  | own0 _ _ _=>exact .own0 _ _ hm
  | own _ _ _ L h hn hc=>exact .own _ _ _ L Em hn hc
 | _,_,_,.nilown b' hm,hv=>by cases hv;exact .own0 _ _ hm
 | _,_,_,.map b b' hr hm,hv=>by
  subst hr;cases hv with
  | map _ L h h0=>exact .map _ L Em h0
 | _,_,_,.yl b b' hr hm,hv=>by
  subst hr;cases hv with
  | yl _ L h=>exact .yl _ L Em
 | _,_,_,.fn _ _ _ _ _ h1 h2,hv=>by
  cases hv with
  | fn _ _ _ _ _ g1 g2=>exact .fn _ _ _ _ _ (h1.ok g1) (h2.ok g2)
 | _,_,_,.ifc _ _ _ h1,hv=>by
  cases hv with
  | ifc _ _ _ g1=>exact .ifc _ _ _ (h1.ok g1)
 | _,_,_,.agg _ _ h1,hv=>by
  cases hv with
  | agg _ _ g1=>exact .agg _ _ (h1.ok g1)
 | _,_,_,.tup _ _ h1,hv=>by
  cases hv with
  | tup _ _ g1=>exact .tup _ _ (h1.ok g1)
theorem NVs.ok{Z:Ren}{r:Nat->Nat}{m:Nat}:∀{v v':List AV}{x:List Value},NVs r m v v'->VRs σ0 Z v x->VRs σ0 (Z.via r m) v' x
 | _,_,_,.nil,hv=>by cases hv;exact .nil
 | _,_,_,.cons _ _ _ _ h1 h2,hv=>by
  cases hv with
  | cons _ _ _ _ g1 g2=>exact .cons _ _ _ _ (h1.ok g1) (h2.ok g2)
end
def qlw:List (Nat×AV)->Nat->Option AV
 | [],_=>none
 | p::l,j=>if p.1=j then some p.2 else qlw l j
omit [Cur] in
def qoq:∀{l:List (Nat×AV)}{j:Nat}{v:AV},qlw l j=some v->(j,v) ∈ l
 | [],_,_,h=>by simp[qlw]at h
 | p::l,j,v,h=>by
  unfold qlw at h;split at h
  .exact Ah
  .exact List.mem_cons_of_mem _ (qoq h)
def TsW(r:Nat->Nat)(m:Nat)(ts ts':List (Nat×AV)):Prop:=∀p ∈ ts',∃v,qlw ts p.1=some v/\NV r m v p.2
def EsW(r:Nat->Nat)(m:Nat)(es es':List (AV×AV)):Prop :=
 (es'=es/\∀e ∈ es,clo e.1=true/\clo e.2=true)\/∃lr ts ts',es=zu lr ts/\es'=zu lr ts'/\TsW r m ts ts'
def BW(h:Hp)(r:Nat->Nat)(m b:Nat)(x':Blk):Prop :=
 h.sz<=b\/x' = .dead\/(∃e w a cs w' a' cs',h.tr.get b=some (.cells e w a cs)/\x' = .cells e w' a' cs'/\(w'=true->w=true)/\(a'=true->a=true)/\NVs r m cs cs') \/
 (∃es es',h.tr.get b=some (.map es)/\x' = .map es'/\EsW r m es es')
omit [Cur] in
theorem BW.cells{h:Hp}{r:Nat->Nat}{m b e:Nat}{w a:Bool}{cs cs':List AV}(hg:h.tr.get b=some (.cells e w a cs))(hs:NVs r m cs cs'):BW h r m b (.cells e w a cs') :=
 .inr (.inr (.inl ⟨e,w,a,cs,w,a,cs',hg,rfl,id,id,hs⟩))
structure WkOk (n:Nat) (t:Tr AV) (h:Hp) (t':Tr AV) (h':Hp) (r:Nat->Nat):Prop where
 fl:h'.fl=h.fl
 blk:∀b' x',b'<h'.sz->h'.tr.get b'=some x'->BW h r h'.sz (r b') x'
 inj:∀b1 b2,b1<h'.sz->b2<h'.sz->(∃x,h'.tr.get b1=some x/\x≠.dead)->(∃x,h'.tr.get b2=some x/\x≠.dead)->r b1=r b2->r b1<h.sz->b1=b2
 flo:∀b',b'<h'.sz->h.fl<=b'->r b'<h.sz->h.fl<=r b'
 low:∀b,b<n->r b=b
 nle:n<=h'.sz
 ake:∀b,b<n->b<h.fl->h'.tr.get b=h.tr.get b
 tmp:∀j v',t'.get j=some v'->∃v,t.get j=some v/\NV r h'.sz v v'
def Wk.of{t t':Tr AV}{h h':Hp}{r:Nat->Nat}(k:WkOk n t h t' h' r):Wk n t h t' h':=by
 intro Z B w tm ht rl
 have get:∀b' L x',Z.via r h'.sz b'=some L->h'.tr.get b'=some x'->x'≠.dead->b'<h'.sz/\r b'<h.sz/\Z (r b')=some L/\((∃e w a cs w' a' cs',h.tr.get (r b')=some (.cells e w a cs)/\x' = .cells e w' a' cs'/\(w'=true->w=true)/\(a'=true->a=true)/\NVs r h'.sz cs cs') \/
   (∃es es',h.tr.get (r b')=some (.map es)/\x' = .map es'/\EsW r h'.sz es es')):=by
  intro b' L x' hb hg hd;obtain⟨h1,h2⟩:=qkG hb;have h3:=rl.dom _ _ h2;refine⟨h1,h3,h2,?_⟩;rcases k.blk b' x' h1 hg with q|q|q|q
  all_goals grind
 refine⟨Z.via r h'.sz,λj v' hj=>?_,⟨λb L hb=>(qkG hb).1,?_,?_,?_,?_,?_,?_,rl.base,?_,⟨zzL _,λb L hb=>rl.dn.2 _ L (qkG hb).2⟩⟩,⟨λb hb=>?_,k.nle,k.fl,by grind[WkOk.ake],λ_ _=>rfl,zzL _,⟨rfl,rfl⟩,λ_ _ h=>h,λ_ _ h=>.inl h,λb hb _=>zzh hb k.nle⟩⟩
 .obtain⟨v,h1,h2⟩:=k.tmp j v' hj;obtain⟨h3,h4⟩:=ht j v h1
  grind[NV.ok]
 .intro b' L e wf af cs' hb hg;obtain⟨h1,h2,h3,h4⟩:=get b' L _ hb hg (by simp);rcases h4 with⟨e',w1,a1,cs,w',a',cs'',g1,g2,g3,g4,g5⟩|⟨es,es',_,g2,_⟩
  .cases g2;obtain⟨q1,c,ty,fz,q2,q3,q4,q5,q6⟩:=rl.cells _ L e w1 a1 cs h3 g1;refine⟨q1,c,ty,fz,q2,q3,by rw[<- g5.length];exact q4,λj v' hv=>?_,λhh=>q6 ?_⟩
   .obtain⟨v,p1,p2⟩:=g5.get hv;obtain⟨x,p3,p4⟩:=q5 j v p1;exact⟨x,p3,p2.ok p4⟩
   .simp only[zzO]at hh ⊢;exact hh.imp g3 g4
  exact Ah
 .intro b' L es hb hg;obtain⟨h1,h2,h3,h4⟩:=get b' L _ hb hg (by simp);rcases h4 with⟨e',w1,a1,cs,w',a',cs'',g1,g2,g3,g4,g5⟩|⟨es,es',g1,g2,g3⟩
  .cases g2
  .cases g2;obtain⟨q1,o,q2,q3⟩:=rl.maps _ L es h3 g1;refine⟨q1,o,q2,?_⟩;rcases g3 with⟨rfl,g3⟩|⟨lr,ts,ts',rfl,rfl,g3⟩
   .rcases q3 with⟨p1,vs,clk,p2,p3,p4⟩|q3|⟨lr,lq,ts,rfl,p2,pk,p3⟩|⟨mq,mm,ms,ml,rfl,_,_⟩
    .exact .inl ⟨p1,vs,clk,p2,p3,λj e he=>let ⟨v,a1,a2,a3⟩:=p4 j e he
      ⟨v,a1,CR.vr (Z:=Z.via r h'.sz) (a2.cr Ah),CR.vr (Z:=Z.via r h'.sz) (a3.cr Ah)⟩⟩
    .exact .inr (.inl q3)
    .refine .inr (.inr (.inl ⟨lr,lq,ts,rfl,p2,pk,λp hp=>⟨(p3 p hp).1,CR.vr (Z:=Z.via r h'.sz) ((p3 p hp).2.cr ?_)⟩⟩))
     exact(g3 (.i .i64 (Int.ofNat p.1),p.2) (List.mem_cons_of_mem _ (zzl.2 ⟨p,hp,rfl⟩))).2
    .cases (g3 _ (List.mem_cons_self ..)).2
   .obtain⟨lq,p2,pk,p3⟩:=q3.rec';refine .inr (.inr (.inl ⟨lr,lq,ts',rfl,p2,pk,λp hp=>?_⟩))
    obtain⟨v,a1,a2⟩:=g3 p hp;have a1:=qoq a1
    grind[NV.ok]
 .intro b1 L1 e1 af1 cs1 hb1 hg1 b2 L2 x hb2 hx hd he;obtain⟨h1,h2,h3,h4⟩:=get b1 L1 _ hb1 hg1 (by simp);obtain⟨i1,i2,i3,i4⟩:=get b2 L2 _ hb2 hx hd;rcases h4 with⟨e',w1,a1,cs,w',a',cs'',g1,g2,g3,g4,g5⟩|⟨es,es',_,g2,_⟩
  .cases g2;obtain rfl:=g3 rfl
   have:∃x0,h.tr.get (r b2)=some x0/\x0≠.dead:=Ei
   obtain⟨x0,q1,q2⟩:=this;have:=rl.excl _ L1 e1 a1 cs h3 g1 _ L2 x0 i3 q1 q2 he;exact k.inj b2 b1 i1 h1 ⟨_,hx,hd⟩ Ah this i2
  exact Ah
 .intro b1 L1 es1 hb1 hg1 b2 L2 x hb2 hx hd he;obtain⟨h1,h2,h3,h4⟩:=get b1 L1 _ hb1 hg1 (by simp);obtain⟨i1,i2,i3,i4⟩:=get b2 L2 _ hb2 hx hd;rcases h4 with⟨e',w1,a1,cs,w',a',cs'',g1,g2,_⟩|⟨es,es',g1,g2,g3⟩
  .cases g2
  .cases g2
   have:∃x0,h.tr.get (r b2)=some x0/\x0≠.dead:=Ei
   obtain⟨x0,q1,q2⟩:=this;have:=rl.exclm _ L1 es h3 g1 _ L2 x0 i3 q1 q2 he;exact k.inj b2 b1 i1 h1 ⟨_,hx,hd⟩ Ah this i2
 .intro b1 L1 e1 wf1 cs1 hb1 hg1 b2 L2 e2 wf2 af2 cs2 hb2 hg2 he;obtain⟨h1,h2,h3,h4⟩:=get b1 L1 _ hb1 hg1 (by simp);obtain⟨i1,i2,i3,i4⟩:=get b2 L2 _ hb2 hg2 (by simp);rcases h4 with⟨e',w1,a1,cs,w',a',cs'',g1,g2,g3,g4,g5⟩|⟨es,es',_,g2,_⟩
  .cases g2;obtain rfl:=g4 rfl;rcases i4 with⟨e'2,w12,a12,csx,w'2,a'2,cs''2,j1,j2,j3,j4,j5⟩|⟨es,es',_,j2,_⟩
   .cases j2;have q:=rl.app _ L1 e1 w1 cs h3 g1 _ L2 e2 w12 a12 csx i3 j1 he;rw[<- g5.length,<- j5.length];exact⟨q.1,λhh=>k.inj b2 b1 i1 h1 Ah Ah (q.2 (j4 hh)) i2⟩
   .cases j2
  exact Ah
 .intro b' L hb hf;obtain⟨h1,h2⟩:=qkG hb
  grind[Rel.flr,WkOk.flo,WkOk.fl,Rel.dom]
 .intro kk arr hk;refine⟨(rl.frz kk arr hk).1,λb L x hb hx hd=>?_⟩
  obtain⟨h1,h2,h3,h4⟩:=get b L x hb hx hd
  have:∃x0,h.tr.get (r b)=some x0/\x0≠.dead:=by
   rcases h4 with⟨_,_,_,_,_,_,_,q,_⟩|⟨_,_,q,_⟩<;>exact⟨_,q,by simp⟩
  obtain⟨x0,q1,q2⟩:=this;exact(rl.frz kk arr hk).2 _ L x0 h3 q1 q2
 .show Z.via r h'.sz b=Z b;rw[qjs (zzh hb k.nle),k.low b hb]
def mkT:List (Nat×AV)->Tr AV
 | []=>.leaf
 | p::l=>(mkT l).set p.1 p.2
omit [Cur] in
def qeH{l:List (Nat×AV)}{j:Nat}{v:AV}(h:(mkT l).get j=some v):(j,v) ∈ l:=by
 induction l with
 | nil=>simp[mkT]at h
 | cons p l ih =>
  simp only[mkT,zz4]at h
  exact Ah
def trL:List Blk->Nat->Tr Blk->Tr Blk
 | [],_,t=>t
 | x::l,i,t=>trL l (i+1) (t.set i x)
omit [Cur] in
def que:∀(l:List Blk) (i:Nat) (t:Tr Blk) (b:Nat),(trL l i t).get b=if i<=b/\b<i+l.length then l[b-i]? else t.get b
 | [],i,t,b=>by simp[trL];exact Ac
 | x::l,i,t,b=>by
  simp only[trL];rw[que l (i+1)]
  exact Ay
def mkH(fl:Nat)(l:List Blk):Hp:=⟨l.length,fl,trL l 0 .leaf⟩
omit [Cur] in
theorem qGz{fl:Nat}{l:List Blk}:(mkH fl l).sz=l.length:=rfl
omit [Cur] in
theorem qan{fl:Nat}{l:List Blk}{b:Nat}:(mkH fl l).tr.get b=l[b]?:=by
 show(trL l 0 .leaf).get b=_;rw[que]
 exact Ad
def rl(l:List Nat)(d:Nat):Nat->Nat:=λb=>l.getD b d
def BWs(h:Hp)(r:Nat->Nat)(m:Nat):List Nat->List Blk->Prop
 | [],[]=>True
 | b::bs,x::xs=>BW h r m b x/\BWs h r m bs xs
 | _,_=>False
omit [Cur] in
theorem BWs.get{h:Hp}{r:Nat->Nat}{m:Nat}:∀{bs:List Nat}{xs:List Blk},BWs h r m bs xs->bs.length=xs.length/\∀(i:Nat) x,xs[i]?=some x->∃b,bs[i]?=some b/\BW h r m b x
 | [],[],_=>⟨rfl,by simp⟩
 | b::bs,x::xs,hh=>by
  obtain⟨h1,h2⟩:=hh;obtain⟨h3,h4⟩:=h2.get
  exact Ah
 | [],_::_,hh=>hh.elim
 | _::_,[],hh=>hh.elim
def TWs(t:Tr AV)(r:Nat->Nat)(m:Nat):List (Nat×AV)->Prop
 | []=>True
 | p::l=>(∃v,t.get p.1=some v/\NV r m v p.2)/\TWs t r m l
omit [Cur] in
theorem TWs.get{t:Tr AV}{r:Nat->Nat}{m:Nat}:∀{l:List (Nat×AV)},TWs t r m l->∀p ∈ l,∃v,t.get p.1=some v/\NV r m v p.2
 | [],_,p,hp=>by cases hp
 | q::l,h,p,hp=>by
  rcases zzc.1 hp with rfl|hp
  .exact h.1
  .exact TWs.get h.2 p hp
theorem Wk.mk{t:Tr AV}{h:Hp}(ts:List (Nat×AV))(bl:List Blk)(src:List Nat)(hT:TWs t (rl src h.sz) bl.length ts)(hB:BWs h (rl src h.sz) bl.length src bl)
  (hI:((src.filter λb=>decide (b<h.sz)).Nodup)) (hfl:h.fl=0):Wk 0 t h (mkT ts) (mkH 0 bl):=by
 obtain⟨hlen,hget⟩:=hB.get;refine Wk.of (r:=rl src h.sz) ⟨hfl.symm,λb' x' hb hg=>?_,λb1 b2 h1 h2 _ _ he hl=>?_,λb' _ _ _=>by rw[hfl];exact Ac,Ac,zzu _,Ac,λj v' hj=>?_⟩
 .exact Bv
 .have h1:b1<src.length:=by rw[hlen];exact h1
  have h2:b2<src.length:=by rw[hlen];exact h2
  simp only[rl,zzs,zzE h1,zzE h2,Option.getD_some]at he hl;exact nodup_filter_inj hI h1 h2 he Ad
 .exact hT.get _ (qeH hj)
where
 nodup_filter_inj {l:List Nat}{p:Nat->Bool}(hn:(l.filter p).Nodup) {i j:Nat}(hi:i<l.length) (hj:j<l.length) (he:l[i]=l[j]) (hp:p l[i]=true):i=j:=by
  induction l generalizing i j<;>grind
end
section
variable [Cur]
variable {P:Program}{n:Nat}{C:zA}{d:Bool}{Q:Tr AV->Hp->Prop}{t:Tr AV}{h:Hp}
def z8:Prop:=True
omit [Cur] in
def qvp:z8↔True:=⟨λ_=>trivial,λ_=>trivial⟩
@[congr] theorem qK6 {c:ICode}{Q:X->Tr AV->Hp->Prop}{mk:Prop}(_:z8=mk):V P n c Q t h=V P n c Q t h:=rfl
@[congr] theorem qI7 {c:ICode}{Q:X->Tr AV->Hp->Prop}{mk:Prop}(_:z8=mk):SL P n c Q t h=SL P n c Q t h:=rfl
@[congr] theorem qI6 {f:Nat}{vs vs':List AV}{k:AV->Hp->Prop}{mk:Prop}(_:z8=mk) (h':vs=vs'):SC P f vs h k=SC P f vs' h k:=by rw[h']
@[congr] theorem qJc {ops:List ROp}{mk:Prop}(_:z8=mk):VG P ops Q t h=VG P ops Q t h:=rfl
@[congr] theorem qJa {ops:List ROp}{mk:Prop}(_:z8=mk):VD P ops Q t h=VD P ops Q t h:=rfl
@[congr] theorem qIK {o:IOp}{k:AV->Hp->Prop}{mk:Prop}(_:z8=mk):opK qB o t h k=opK qB o t h k:=rfl
@[congr] theorem qES {e b:Nat}{c:Bool}{s x:AV}{k:AV->Hp->Prop}{mk:Prop}(_:z8=mk):qil h e b c s x k=qil h e b c s x k:=rfl
@[congr] theorem qDY {e:Nat}{s x:AV}{k:AV->Hp->Prop}{mk:Prop}(_:z8=mk):qli h e s x k=qli h e s x k:=rfl
@[congr] theorem qHV {e:Nat}{x:AV}{k:Nat->List AV->Prop}{mk:Prop}(_:z8=mk):qbY h e x k=qbY h e x k:=rfl
@[congr] theorem qE4 {op:BinOp}{x y:AV}{k:AV->Prop}{mk:Prop}(_:z8=mk):xE qB op x y k=xE qB op x y k:=rfl
@[congr] theorem qIS {b o:Nat}{vs:List AV}{k:Hp->Prop}{mk:Prop}(_:z8=mk):stK h b o vs k=stK h b o vs k:=rfl
@[congr] theorem qIE {p:AV}{k:AV->Prop}{mk:Prop}(_:z8=mk):ldV h p k=ldV h p k:=rfl
@[congr] theorem qGb {p:AV}{n:Nat}{k:List AV->Prop}{mk:Prop}(_:z8=mk):qlK h p n k=qlK h p n k:=rfl
@[congr] theorem qID {b o:Nat}{k:AV->Prop}{mk:Prop}(_:z8=mk):ldK h b o k=ldK h b o k:=rfl
@[congr] theorem qGa {b o n:Nat}{k:List AV->Prop}{mk:Prop}(_:z8=mk):qb4 h b o n k=qb4 h b o n k:=rfl
@[congr] theorem qEs {op:UnOp}{x:AV}{k:AV->Prop}{mk:Prop}(_:z8=mk):qeP op x k=qeP op x k:=rfl
@[congr] theorem qDN {a b:Nat}{x y z:Option AV}{k:Nat->Nat->Nat->Prop}{mk:Prop}(_:z8=mk):xg a b x y z k=xg a b x y z k:=rfl
@[congr] theorem qD4 {i:AV}{es:List (AV×AV)}{k:Option AV->Prop}{mk:Prop}(_:z8=mk):qcO qB i es k=qcO qB i es k:=rfl
@[congr] theorem qIc {i v:AV}{es:List (AV×AV)}{k:List (AV×AV)->Prop}{mk:Prop}(_:z8=mk):qhT qB i v es k=qhT qB i v es k:=rfl
@[congr] theorem qz6 {cs:List AV}{k:List UInt8->Prop}{mk:Prop}(_:z8=mk):xJ cs k=xJ cs k:=rfl
@[congr] theorem qFF {rs:List RV}{k:AV->Hp->Prop}{e:X}{mk:Prop}(_:z8=mk):xG rs k e t h=xG rs k e t h:=rfl
@[congr] theorem qGG {x:Blk}{k:Nat->Hp->Prop}{mk:Prop}(_:z8=mk):x6 h x k=x6 h x k:=rfl
@[congr] theorem qHu {b:Nat}{x:Blk}{k:Hp->Prop}{mk:Prop}(_:z8=mk):jG h b x k=jG h b x k:=rfl
@[congr] theorem qD3 {ps:List (Nat×Nat×O)}{l:List AV}{k:List AV->Prop}{mk:Prop}(_:z8=mk):qaj t ps l k=qaj t ps l k:=rfl
@[congr] theorem qw7 {qs:List PK}{x y:List AV}{k:Bool->Prop}{mk:Prop}(_:z8=mk):qcI qs x y k=qcI qs x y k:=rfl
@[congr] theorem qB3 {q:NK}{x:AV}{k:Bool->Prop}{mk:Prop}(_:z8=mk):ju q x k=ju q x k:=rfl
def qEL{Q:X->Tr AV->Hp->Prop}:V P n .skip Q t h↔Q .normal t h:=Iff.rfl
def qJi{Q:X->Tr AV->Hp->Prop}:V P n .ret Q t h↔Q .ret t h:=Iff.rfl
def qEI{id:Nat}{Q:X->Tr AV->Hp->Prop}:V P n (.exit id) Q t h↔Q (.exit id) t h:=Iff.rfl
def qJj{x y:ICode}{Q:X->Tr AV->Hp->Prop}:V P n (.seq x y) Q t h↔V P n x (λe t h=>onX e (V P n y Q t h) (λid=>Q (.exit id) t h) (Q .ret t h)) t h:=Iff.rfl
def qEH{c:O}{x y:ICode}{Q:X->Tr AV->Hp->Prop}:V P n (.cond c x y) Q t h↔evK t c (λv=>unB v (λb=>if b=true then V P n x Q t h else V P n y Q t h)):=Iff.rfl
def qJf{id:Nat}{x:ICode}{Q:X->Tr AV->Hp->Prop}:V P n (.blk id x) Q t h↔V P n x (λe t h=>onX e (Q .normal t h) (λi=>if i=id then Q .normal t h else Q (.exit i) t h) (Q .ret t h)) t h:=Iff.rfl
def qEJ{x:ICode}{Q:X->Tr AV->Hp->Prop}:V P n (.loop x) Q t h↔SL P n x Q t h:=Iff.rfl
def qwc{j:Nat}{g:O}{ps:List Nat}{x y:ICode}{Q:X->Tr AV->Hp->Prop}:V P n (.rangeF j g ps x y) Q t h↔S P n (.rangeF j g ps x y) Q t h:=Iff.rfl
def qJg{x:ICode}{Q:X->Tr AV->Hp->Prop}:V P n (.cut x) Q t h↔S P n x Q t h:=Iff.rfl
@[congr] theorem qK5 {c:ICode}{Q:X->Tr AV->Hp->Prop}{mk:Prop}(_:z8=mk):S P n c Q t h=S P n c Q t h:=rfl
theorem qJh{ops:List ROp}{Q:X->Tr AV->Hp->Prop}:V P n (.reg false ops) Q t h↔VG P ops (λt h=>Q .normal t h) t h:=by simp[V]
def qEK{ops:List ROp}{Q:X->Tr AV->Hp->Prop}:V P n (.reg true ops) Q t h↔VD P ops (λt h=>Q .normal t h) t h:=by simp[V]
def evO(o:Option AV)(k:AV->Prop):Prop:=∃v,o=some v/\k v
omit [Cur] in
@[congr] theorem qIv {o o':Option AV}{k:AV->Prop}{mk:Prop}(_:z8=mk) (h:o=o'):evO o k=evO o' k:=Hr
theorem qxB{v:AV}{k:AV->Prop}:evO (some v) k↔k v:=by simp[evO]
omit [Cur] in
def qlk{t:Tr AV}{n:Nat}{k:AV->Prop}:evK t (.t n) k↔evO (t.get n) k:=Tr.getK_iff _ _ _
omit [Cur] in
def qJO{v:AV}{k:AV->Prop}:evK t (.c v) k↔k v:=Iff.rfl
omit [Cur] in
def qxC{k:List AV->Prop}:ww t [] k↔k []:=Iff.rfl
omit [Cur] in
def quX{x:O}{xs:List O}{k:List AV->Prop}:ww t (x::xs) k↔evK t x (λv=>ww t xs (λvs=>k (v::vs))):=Iff.rfl
omit [Cur] in
def qvE{k:Option AV->Prop}:qaV t none k↔k none:=Iff.rfl
omit [Cur] in
def qvG{x:O}{k:Option AV->Prop}:qaV t (some x) k↔evK t x (λv=>k (some v)):=Iff.rfl
omit [Cur] in
def qxX{n:Nat}{b:Bool}{k:Bool->Prop}:qaO t (some (n,b)) k↔evO (t.get n) (λv=>match v with | .b x=>qX (x==b) k | .tup _=>k false|_=>False):=Tr.getK_iff _ _ _
omit [Cur] in
def quS{v:AV}{k:Tr AV->Prop}:wu t none v k↔k t:=Iff.rfl
omit [Cur] in
def quT{n:Nat}{v:AV}{k:Tr AV->Prop}:wu t (some n) v k↔k (t.set n v):=Tr.setK_iff _ _ _ _
@[congr] theorem qFI {x:List O}{k:List AV->Prop}{mk:Prop}(_:z8=mk):ww t x k=ww t x k:=rfl
@[congr] theorem qHk {x:Option O}{k:Option AV->Prop}{mk:Prop}(_:z8=mk):qaV t x k=qaV t x k:=rfl
@[congr] theorem qFD {x:Option Nat}{v:AV}{k:Tr AV->Prop}{mk:Prop}(_:z8=mk):wu t x v k=wu t x v k:=rfl
@[congr] theorem qBV {g:Option (Nat×Bool)}{k:Bool->Prop}{mk:Prop}(_:z8=mk):qaO t g k=qaO t g k:=rfl
theorem qEE:VG P [] Q t h↔Q t h:=Iff.rfl
def qJe{dst:Option Nat}{o:IOp}{ops:List ROp}:VG P (⟨dst,.op o,none⟩::ops) Q t h↔opK qB o t h (λv h'=>wu t dst v (λt'=>VG P ops Q t' h')):=Iff.rfl
def qv9{dst:Option Nat}{f:Nat}{args:List O}{ops:List ROp}:VG P (⟨dst,.callF f args,none⟩::ops) Q t h↔ww t args (λvs=>SC P f vs h (λv h'=>wu t dst v (λt'=>VG P ops Q t' h'))):=Iff.rfl
def qwb{dst:Option Nat}{f:Nat}{args:List O}{ops:List ROp}:VG P (⟨dst,.callW f args,none⟩::ops) Q t h↔ww t args (λvs=>SC P f vs h (λv h'=>wu t dst v (λt'=>VG P ops Q t' h'))):=Iff.rfl
def cvF(C:zA)(g:AV)(vs:List AV)(h:Hp)(k:AV->Hp->Prop):Prop:=match g with | .fn f a c=>C (Nat.succ f) (a++(vs++c)) h k | .yl b=>C 0 (.yl b::vs) h k|_=>False
omit [Cur] in
@[congr] theorem qIn {g:AV}{vs:List AV}{k:AV->Hp->Prop}{mk:Prop}(_:z8=mk):cvF C g vs h k=cvF C g vs h k:=rfl
@[congr] theorem qI8 {b:Nat}{vs vs':List AV}{k:AV->Hp->Prop}{mk:Prop}(_:z8=mk) (h':vs=vs'):SY P b vs h k=SY P b vs' h k:=by rw[h']
theorem qFy{b:Nat}{vs:List AV}{k:AV->Hp->Prop}:cvF (CC P) (.yl b) vs h k↔SY P b vs h k:=Iff.rfl
def qFv{f:Nat}{a c vs:List AV}{k:AV->Hp->Prop}:cvF (CC P) (.fn f a c) vs h k↔SC P f (a++(vs++c)) h k:=Iff.rfl
def qwa{dst:Option Nat}{x:O}{args:List O}{ops:List ROp}:VG P (⟨dst,.callV x args,none⟩::ops) Q t h↔evK t x (λg=>ww t args (λvs=>cvF (CC P) g vs h (λv h'=>wu t dst v (λt'=>VG P ops Q t' h')))):=Iff.rfl
def quj{dst:Option Nat}{x:O}{args:List O}{ops:List ROp}:VG P (⟨dst,.callVW x args,none⟩::ops) Q t h↔evK t x (λg=>ww t args (λvs=>cvF (CC P) g vs h (λv h'=>wu t dst v (λt'=>VG P ops Q t' h')))):=Iff.rfl
def qJd{dst:Option Nat}{r:RK}{n:Nat}{b:Bool}{ops:List ROp} :
  VG P (⟨dst,r,some (n,b)⟩::ops) Q t h↔qaO t (some (n,b)) (λgo=>if go=true then VG P (⟨dst,r,none⟩::ops) Q t h else wu t dst (.tup []) (λt'=>VG P ops Q t' h)):=by
 have e:∀(g:Bool) (p q:Prop),(Bool.rec (motive:=λ_=>Prop) q p g:Prop)=if g=true then p else q:=Ad
 show qaO t (some (n,b)) (λgo=>Bool.rec (motive:=λ_=>Prop) (wu t dst (.tup []) (λt'=>VG P ops Q t' h)) (VG P (⟨dst,r,none⟩::ops) Q t h) go)↔_
 simp only[e]
def qa.sc{f:Nat}{vs:List AV}{v:AV}{k:AV->Hp->Prop}(hp:qa P f vs v)(hk:k v h):SC P f vs h k:=hp h k hk
def VR'(C:zA)(ops:List ROp)(Q:Tr AV->Hp->Prop)(t:Tr AV)(h:Hp):Prop:=qel qB true C ops Q t h
def qJb{ops:List ROp}(hl:LC C)(hs:qby P σ0 C)(hr:VR' C ops Q t h):VD P ops Q t h:=⟨_,hl,hs,hr⟩
def Hp.up(h:Hp):Hp:=⟨h.sz,h.sz,h.tr⟩
def Hp.down(h:Hp)(fl:Nat):Hp:=⟨h.sz,fl,h.tr⟩
omit [Cur] in
def qjl{F:Hp->(AV->Hp->Prop)->Prop}{k:AV->Hp->Prop}:qhO F h k↔F h.up (λv h'=>k v (h'.down h.fl)):=by
 cases h with
 | mk sz fl tr =>
  show F ⟨sz,sz,tr⟩ (λv h'=>Hp.rec (motive:=λ_=>Prop) (λsz' _ tr'=>k v ⟨sz',fl,tr'⟩) h')↔_
  have:(λ(v:AV) (h':Hp)=>(Hp.rec (motive:=λ_=>Prop) (λsz' _ tr'=>k v ⟨sz',fl,tr'⟩) h':Prop))=λv h'=>k v (h'.down fl):=by
   funext v h';cases h';rfl
  rw[this];exact Bm
omit [Cur] in
def qEG{dst:Option Nat}{o:IOp}{ops:List ROp}:VR' C (⟨dst,.op o,none⟩::ops) Q t h ↔
  if wr (.op o)=true then opK qB o t h (λv h'=>wu t dst v (λt'=>VR' C ops Q t' h'))else opK qB o t h.up (λv h'=>wu t dst v (λt'=>VR' C ops Q t' (h'.down h.fl))):=by
 have e:VR' C (⟨dst,.op o,none⟩::ops) Q t h↔qjo qB true C (.op o) t h (λv h'=>wu t dst v (λt'=>VR' C ops Q t' h')):=Iff.rfl
 rw[e];unfold qjo;cases hw:wr (.op o)with
 | true=>exact Bm
 | false =>
  rw[if_neg (by simp)];exact qjl
omit [Cur] in
def quk{dst:Option Nat}{f:Nat}{args:List O}{ops:List ROp}:VR' C (⟨dst,.callF f args,none⟩::ops) Q t h↔ww t args (λvs=>C (Nat.succ f) vs h.up (λv h'=>wu t dst v (λt'=>VR' C ops Q t' (h'.down h.fl)))):=by
 have e:VR' C (⟨dst,.callF f args,none⟩::ops) Q t h↔qhO (qcZ qB C (.callF f args) t) h (λv h'=>wu t dst v (λt'=>VR' C ops Q t' h')):=Iff.rfl
 rw[e,qjl];exact Bm
omit [Cur] in
def qul{dst:Option Nat}{x:O}{args:List O}{ops:List ROp}:VR' C (⟨dst,.callV x args,none⟩::ops) Q t h↔evK t x (λg=>ww t args (λvs=>cvF C g vs h.up (λv h'=>wu t dst v (λt'=>VR' C ops Q t' (h'.down h.fl))))):=by
 have e:VR' C (⟨dst,.callV x args,none⟩::ops) Q t h↔qhO (qcZ qB C (.callV x args) t) h (λv h'=>wu t dst v (λt'=>VR' C ops Q t' h')):=Iff.rfl
 rw[e,qjl];exact Bm
omit [Cur] in
def qum{dst:Option Nat}{f:Nat}{args:List O}{ops:List ROp}:VR' C (⟨dst,.callW f args,none⟩::ops) Q t h↔ww t args (λvs=>C (Nat.succ f) vs h (λv h'=>wu t dst v (λt'=>VR' C ops Q t' h'))):=Iff.rfl
omit [Cur] in
def qrW{dst:Option Nat}{x:O}{args:List O}{ops:List ROp}:VR' C (⟨dst,.callVW x args,none⟩::ops) Q t h↔evK t x (λg=>ww t args (λvs=>cvF C g vs h (λv h'=>wu t dst v (λt'=>VR' C ops Q t' h')))):=Iff.rfl
omit [Cur] in
def qEF{dst:Option Nat}{r:RK}{n:Nat}{b:Bool}{ops:List ROp} :
  VR' C (⟨dst,r,some (n,b)⟩::ops) Q t h↔qaO t (some (n,b)) (λgo=>if go=true then VR' C (⟨dst,r,none⟩::ops) Q t h else wu t dst (.tup []) (λt'=>VR' C ops Q t' h)):=by
 have e:∀(g:Bool) (p q:Prop),(Bool.rec (motive:=λ_=>Prop) q p g:Prop)=if g=true then p else q:=Ad
 show qaO t (some (n,b)) (λgo=>Bool.rec (motive:=λ_=>Prop) (wu t dst (.tup []) (λt'=>VR' C ops Q t' h)) (VR' C (⟨dst,r,none⟩::ops) Q t h) go)↔_
 simp only[e]
end
section
variable [Cur]
variable {P:Program}{n:Nat}{C:zA}{d:Bool}{Q:Tr AV->Hp->Prop}{t:Tr AV}{h:Hp}{k:AV->Hp->Prop}
def evA(v:AV)(k:AV->Prop):Prop:=k v
omit [Cur] in
@[congr] theorem qIr {v v':AV}{k:AV->Prop}{mk:Prop}(_:z8=mk) (h:v=v'):evA v k=evA v' k:=Hr
theorem qBB{v:AV}{k:AV->Prop}:evA v k↔k v:=Iff.rfl
def evL(v:List AV)(k:List AV->Prop):Prop:=k v
omit [Cur] in
@[congr] theorem qIt {v v':List AV}{k:List AV->Prop}{mk:Prop}(_:z8=mk) (h:v=v'):evL v k=evL v' k:=Hr
theorem qBC{v:List AV}{k:List AV->Prop}:evL v k↔k v:=Iff.rfl
def evN(v:Nat)(k:Nat->Prop):Prop:=k v
omit [Cur] in
@[congr] theorem qIu {v v':Nat}{k:Nat->Prop}{mk:Prop}(_:z8=mk) (h:v=v'):evN v k=evN v' k:=Hr
theorem qBD{v:Nat}{k:Nat->Prop}:evN v k↔k v:=Iff.rfl
def evT(v:Bool)(k:Bool->Prop):Prop:=k v
omit [Cur] in
@[congr] theorem qIw {v v':Bool}{k:Bool->Prop}{mk:Prop}(_:z8=mk) (h:v=v'):evT v k=evT v' k:=Hr
theorem qBE{v:Bool}{k:Bool->Prop}:evT v k↔k v:=Iff.rfl
def evB(o:Option Blk)(k:Blk->Prop):Prop:=∃v,o=some v/\k v
omit [Cur] in
@[congr] theorem qIs {o o':Option Blk}{k:Blk->Prop}{mk:Prop}(_:z8=mk) (h:o=o'):evB o k=evB o' k:=Hr
theorem qxA{v:Blk}{k:Blk->Prop}:evB (some v) k↔k v:=by simp[evB]
def ifK(c:Prop)(p:Prop):Prop:=c/\p
omit [Cur] in
@[congr] theorem qIy {c c' p:Prop}{mk:Prop}(_:z8=mk) (h:c=c'):ifK c p=ifK c' p:=Hr
theorem qq1{p:Prop}:ifK True p↔p:=by simp[ifK]
omit [Cur] in
def qB1{c c' p:Prop}:ifK (c/\c') p↔ifK c (ifK c' p):=by simp[ifK,and_assoc]
omit [Cur] in
def qui{x:Bool}{p:Prop}:qn x p↔ifK (x=true) p:=qc _ _
omit [Cur] in
def x5{n:Nat}{k:Nat->Prop}:qq n k↔evN n k:=by rw[qy];exact Bm
omit [Cur] in
theorem qkQ{n:Bool}{k:Bool->Prop}:qX n k↔evT n k:=by rw[qV];exact Bm
@[congr] theorem qBI {n:Bool}{k:Bool->Prop}{mk:Prop}(_:z8=mk):qX n k=qX n k:=rfl
@[congr] theorem qEx {n:Bool}{k:Prop}{mk:Prop}(_:z8=mk):qn n k=qn n k:=rfl
theorem qKV{x:Bool}{k:Bool->Prop}:unB (.b x) k↔k x:=Iff.rfl
omit [Cur] in
def qDG{b o:Nat}{k:Nat->Nat->Prop}:unP (.ptr b o) k↔k b o:=Iff.rfl
omit [Cur] in
def qKW{q:IntKind}{z:Int}{k:IntKind->Int->Prop}:unI (.i q z) k↔k q z:=Iff.rfl
omit [Cur] in
def qKX{q:IntKind}{z:Int}{k:Nat->Prop}:unN (.i q z) k↔ifK (0<=z) (evN z.toNat k):=by
 cases z with
 | ofNat m=>exact⟨λh=>⟨Ad,h⟩,λh=>h.2⟩
 | negSucc m=>exact⟨λh=>h.elim,λh=>absurd h.1 Ac⟩
omit [Cur] in
@[congr] theorem qIX {x:AV}{k:Bool->Prop}{mk:Prop}(_:z8=mk):unB x k=unB x k:=rfl
@[congr] theorem qI0 {x:AV}{k:Nat->Nat->Prop}{mk:Prop}(_:z8=mk):unP x k=unP x k:=rfl
@[congr] theorem qIY {x:AV}{k:IntKind->Int->Prop}{mk:Prop}(_:z8=mk):unI x k=unI x k:=rfl
@[congr] theorem qIZ {x:AV}{k:Nat->Prop}{mk:Prop}(_:z8=mk):unN x k=unN x k:=rfl
section
variable {q q':IntKind}{n m:Int}{a c:List UInt8}{k:AV->Prop}
omit [Cur] in
def qqM{z:Int}:xY (qkH q z) (λr=>k (.i q r))↔evA (.i q (q.wrap z)) k:=by
 rw[zH,qeh];exact Bm
omit [Cur] in
def qAP:xE qB .lss (.i q n) (.i q m) k↔evA (.b (decide (n<m))) k:=by simp[xE,xy,qc,qde,evA]
omit [Cur] in
def qAN:xE qB .gtr (.i q n) (.i q m) k↔evA (.b (decide (m<n))) k:=by simp[xE,xy,qc,qde,evA]
omit [Cur] in
def qAM:xE qB .geq (.i q n) (.i q m) k↔evA (.b (decide (m<=n))) k:=Ey
omit [Cur] in
def qAO:xE qB .leq (.i q n) (.i q m) k↔evA (.b (decide (n<=m))) k:=Ey
omit [Cur] in
def qAL:xE qB .eql (.i q n) (.i q m) k↔evA (.b (decide (n=m))) k:=Di
omit [Cur] in
def qAR:xE qB .neq (.i q n) (.i q m) k↔evA (.b (!decide (n=m))) k:=Di
omit [Cur] in
def qAI:xE qB .add (.i q n) (.i q m) k↔evA (.i q (q.wrap (n+m))) k:=by
 simp only[xE,xy,qc,qeh,zH,decide_true,true_and];exact Bm
omit [Cur] in
def qAU:xE qB .sub (.i q n) (.i q m) k↔evA (.i q (q.wrap (n-m))) k:=by
 simp only[xE,xy,qc,qeh,zH,decide_true,true_and];exact Bm
omit [Cur] in
def qAQ:xE qB .mul (.i q n) (.i q m) k↔evA (.i q (q.wrap (n*m))) k:=by
 simp only[xE,xy,qc,qeh,zH,decide_true,true_and];exact Bm
def orI(q:IntKind)(x y:Int):Int:=q.wrap (BitVec.ofInt q.bits x ||| BitVec.ofInt q.bits y).toNat
def xK(q:IntKind)(x y:Int):Int:=q.wrap (BitVec.ofInt q.bits x &&& BitVec.ofInt q.bits y).toNat
def qIi(q:IntKind)(x y:Int):Int:=q.wrap (BitVec.ofInt q.bits x ^^^ BitVec.ofInt q.bits y).toNat
def qaN(q:IntKind)(x y:Int):Int:=q.wrap (BitVec.ofInt q.bits x &&& ~~~ (BitVec.ofInt q.bits y)).toNat
omit [Cur] in
def qE6:xE qB .or (.i q n) (.i q m) k↔evA (.i q (orI q n m)) k:=by
 simp only[xE,xy,qc,zH,decide_true,true_and,orI,evA]
omit [Cur] in
def qAJ:xE qB .and (.i q n) (.i q m) k↔evA (.i q (xK q n m)) k:=by
 simp only[xE,xy,qc,zH,decide_true,true_and,xK,evA]
omit [Cur] in
def qAV:xE qB .xor (.i q n) (.i q m) k↔evA (.i q (qIi q n m)) k:=by
 simp only[xE,xy,qc,zH,decide_true,true_and,qIi,evA]
omit [Cur] in
def qAK:xE qB .andNot (.i q n) (.i q m) k↔evA (.i q (qaN q n m)) k:=by
 simp only[xE,xy,qc,zH,decide_true,true_and,qaN,evA]
def qzV(q:IntKind)(x m:Int):Int:=x.fdiv (2 ^ min m.toNat q.bits)
def qzU(q:IntKind)(x m:Int):Int:=q.wrap (x*2 ^ min m.toNat q.bits)
omit [Cur] in
def qAT{q2:IntKind}:xE qB .shr (.i q n) (.i q2 m) k↔ifK (0<=m) (evA (.i q (qzV q n m)) k):=by
 cases m with
 | ofNat m =>
  show qq (min m q.bits) (λa=>xY (n.fdiv (p2 a)) (λr=>k (.i q r)))↔_
  rw[qy,zH,qtJ];exact⟨λh=>⟨Ad,h⟩,λh=>h.2⟩
 | negSucc m=>exact⟨λh=>h.elim,λh=>absurd h.1 Ac⟩
omit [Cur] in
def qAS{q2:IntKind}:xE qB .shl (.i q n) (.i q2 m) k↔ifK (0<=m) (evA (.i q (qzU q n m)) k):=by
 cases m with
 | ofNat m =>
  show qq (min m q.bits) (λa=>xY (q.wrap (n*p2 a)) (λr=>k (.i q r)))↔_
  rw[qy,zH,qtJ];exact⟨λh=>⟨Ad,h⟩,λh=>h.2⟩
 | negSucc m=>exact⟨λh=>h.elim,λh=>absurd h.1 Ac⟩
omit [Cur] in
def qmA(x y:Int):eqI x y=decide (x=y):=by rw[qi7,Bool.eq_iff_iff];simp
omit [Cur] in
def qlQ(h:m≠0):xE qB .quo (.i q n) (.i q m) k↔evA (.i q (q.wrap (n.tdiv m))) k:=by
 simp only[xE,xy,qc,qeh,zH,decide_true,true_and,qmA,decide_eq_false h];exact Bm
omit [Cur] in
def qen(h:m≠0):xE qB .rem (.i q n) (.i q m) k↔evA (.i q (n.tmod m)) k:=by
 simp only[xE,xy,qc,zH,decide_true,true_and,qmA,decide_eq_false h];exact Bm
omit [Cur] in
def qwA:xE qB .eql (.s a) (.s c) k↔evA (.b (decide (a=c))) k:=A9
omit [Cur] in
def qwF:xE qB .neq (.s a) (.s c) k↔evA (.b (!decide (a=c))) k:=A9
omit [Cur] in
def qwz:xE qB .add (.s a) (.s c) k↔ifK (a.length+c.length<=9223372036854775807) (evA (.s (a++c)) k):=by
 show(Bool.rec (motive:=λ_=>Prop) False (k (.s (a++c))) (Nat.ble (a.length+c.length) 9223372036854775807):Prop)↔_
 rw[show(a.length+c.length<=9223372036854775807)=(Nat.ble (a.length+c.length) 9223372036854775807=true)from Ad]
 cases Nat.ble (a.length+c.length) 9223372036854775807
 .exact⟨False.elim,λh=>by cases h.1⟩
 .exact⟨λh=>⟨rfl,h⟩,λh=>h.2⟩
omit [Cur] in
def qwE:xE qB .lss (.s a) (.s c) k↔evA (.b (ltS a c)) k:=by simp only[xE,qbZ,qV,evA]
omit [Cur] in
def qwB:xE qB .geq (.s a) (.s c) k↔evA (.b (!ltS a c)) k:=by simp only[xE,qbZ,qV,evA]
omit [Cur] in
def qwD:xE qB .leq (.s a) (.s c) k↔evA (.b (ltS a c||decide (a=c))) k:=A9
omit [Cur] in
def qwC:xE qB .gtr (.s a) (.s c) k↔evA (.b (!(ltS a c||decide (a=c)))) k:=A9
omit [Cur] in
def qIa{x:Bool}:qeP .not (.b x) k↔evA (.b (!x)) k:=by simp only[qeP,qV,evA]
omit [Cur] in
def qH9:qeP .neg (.i q n) k↔evA (.i q (q.wrap (0-n))) k:=by simp only[qeP,zH,evA]
omit [Cur] in
theorem qE{x:Int}(h1:-9223372036854775808<=x)(h2:x<=9223372036854775807):IntKind.wrap .i64 x=x:=by
 refine Cb ?_;exact Ac
omit [Cur] in
def wS(n:Nat)(h:n<9223372036854775807:=by omega):IntKind.wrap .i64 ((n:Int)+1)=((n+1:Nat):Int):=by rw[qE (by omega) (by omega)];omega
omit [Cur] in
theorem qb3{x:Int}(h1:0<=x)(h2:x<=18446744073709551615):IntKind.wrap .u64 x=x:=by
 refine Cb ?_;exact Ac
omit [Cur] in
theorem qdw{x:Int}(h1:0<=x)(h2:x<=4294967295):IntKind.wrap .u32 x=x:=by
 refine Cb ?_;exact Ac
omit [Cur] in
theorem qAl{x:Int}(h1:0<=x)(h2:x<=255):IntKind.wrap .u8 x=x:=by
 refine Cb ?_;exact Ac
omit [Cur] in
def qLz:cvK qB q (.i q' n) k↔evA (.i q (q.wrap n)) k:=by
 show xY (qkH q n) (λr=>k (.i q r))↔_
 exact qqM
end
omit [Cur] in
def qGH{s f:Nat}{tr:Tr Blk}{x:Blk}{k:Nat->Hp->Prop}:x6 ⟨s,f,tr⟩ x k↔evN (s+1) (λs'=>k s ⟨s',f,tr.set s x⟩):=by
 rw[zD];exact Bm
omit [Cur] in
def qHv{s f b:Nat}{tr:Tr Blk}{x:Blk}{k:Hp->Prop}:jG ⟨s,f,tr⟩ b x k↔ifK (f<=b) (k ⟨s,f,tr.set b x⟩):=xb _ _ _ _
omit [Cur] in
def qEu{s f:Nat}{tr:Tr Blk}:Hp.up ⟨s,f,tr⟩=⟨s,s,tr⟩:=rfl
omit [Cur] in
def qsZ{s f f':Nat}{tr:Tr Blk}:Hp.down ⟨s,f,tr⟩ f'=⟨s,f',tr⟩:=rfl
def qa3(x:Blk)(k:Nat->Bool->Bool->List AV->Prop):Prop:=match x with | .cells e w a cs=>k e w a cs|_=>False
omit [Cur] in
@[congr] theorem qBb {x x':Blk}{k:Nat->Bool->Bool->List AV->Prop}{mk:Prop}(_:z8=mk) (h:x=x'):qa3 x k=qa3 x' k:=Hr
theorem qpg{e:Nat}{w a:Bool}{cs:List AV}{k:Nat->Bool->Bool->List AV->Prop}:qa3 (.cells e w a cs) k↔k e w a cs:=Iff.rfl
omit [Cur] in
def qh2{b:Nat}{k:Nat->Bool->Bool->List AV->Prop}:qas h b k↔evB (h.tr.get b) (λx=>qa3 x k):=by
 rw[zh];constructor
 .rintro⟨e,w,a,cs,h1,h2⟩;exact⟨_,h1,h2⟩
 .rintro⟨x,h1,h2⟩;cases x with
  | cells e w a cs=>exact⟨e,w,a,cs,h1,h2⟩
  | dead=>exact Fk
  | map es=>exact Fk
def qg5(cs:List AV)(o n:Nat)(k:List AV->Prop):Prop:=o<=cs.length/\n<=(cs.drop o).length/\k ((cs.drop o).take n)
def qBu{cs:List AV}{o n:Nat}{k:List AV->Prop}:qg5 cs o n k↔ifK (o+n<=cs.length) (evL ((cs.drop o).take n) k):=by
 unfold qg5 ifK;rw[List.length_drop];exact⟨fun⟨h1,h2,h3⟩=>⟨Ac,h3⟩,fun⟨h1,h2⟩=>⟨Ac,Ac,h2⟩⟩
omit [Cur] in
theorem drop_take{cs:List AV}{o n:Nat}{k:List AV->Prop}:qcM o cs (λl=>qbu n l k)↔qg5 cs o n k:=by
 rw[zP,zk];exact Bm
omit [Cur] in
def qyn{b o:Nat}{k:AV->Prop}:ldV h (.ptr b o) k↔evB (h.tr.get b) (λx=>qa3 x (λ_ _ _ cs=>evO cs[o]? k)):=by
 show qas h b (λ_ _ _ cs=>qjh cs o k)↔_
 rw[qh2]
 have:(λ(_:Nat) (_ _:Bool) (cs:List AV)=>qjh cs o k)=λ_ _ _ cs=>evO cs[o]? k:=by
  funext _ _ _ cs;exact propext (jn _ _ _)
 rw[this]
omit [Cur] in
def qJ9{cs:List AV}{o:Nat}{k:AV->Prop}:ldV h (.pf cs o) k↔evO cs[o]? k:=jn _ _ _
omit [Cur] in
def qJ7{b o:Nat}{k:AV->Prop}:ldK h b o k↔evB (h.tr.get b) (λx=>qa3 x (λ_ _ _ cs=>evO cs[o]? k)):=qyn
omit [Cur] in
def qyo{b o n:Nat}{k:List AV->Prop}:qb4 h b o n k↔evB (h.tr.get b) (λx=>qa3 x (λ_ _ _ cs=>qg5 cs o n k)):=by
 show qas h b (λ_ _ _ cs=>qcM o cs (λl=>qbu n l k))↔_
 rw[qh2]
 grind[drop_take]
omit [Cur] in
def qB9{b o n:Nat}{k:List AV->Prop}:qlK h (.ptr b o) n k↔evB (h.tr.get b) (λx=>qa3 x (λ_ _ _ cs=>qg5 cs o n k)):=qyo
omit [Cur] in
def qGd{cs:List AV}{o n:Nat}{k:List AV->Prop}:qlK h (.pf cs o) n k↔qg5 cs o n k:=drop_take
omit [Cur] in
def qCl{b o n:Nat}{k:AV->Prop}:qjg (.ptr b o) n k↔evN (o+n) (λo'=>k (.ptr b o')):=x5 (n:=o+n) (k:=λo'=>k (.ptr b o'))
omit [Cur] in
def qGD{cs:List AV}{o n:Nat}{k:AV->Prop}:qjg (.pf cs o) n k↔evN (o+n) (λo'=>k (.pf cs o')):=x5 (n:=o+n) (k:=λo'=>k (.pf cs o'))
omit [Cur] in
@[congr] theorem qGC {p:AV}{n:Nat}{k:AV->Prop}{mk:Prop}(_:z8=mk):qjg p n k=qjg p n k:=rfl
theorem qMa{b o:Nat}{vs:List AV}{k:Hp->Prop}:stK h b o vs k↔evB (h.tr.get b) (λx=>qa3 x (λe w a cs=>ifK (w=true/\qF vs=true/\o+vs.length<=cs.length) (evL (cs.take o++(vs++cs.drop (o+vs.length))) (λcs'=>jG h b (.cells e true a cs') k)))):=by
 show qas h b _↔_;rw[qh2]
 have:(λ(e:Nat) (w a:Bool) (cs:List AV)=>(Bool.rec (motive:=λ_=>Prop) False (Bool.rec (motive:=λ_=>Prop) False (jB vs o cs (λcs'=>jG h b (.cells e w a cs') k)) (qF vs)) w:Prop)) =
   λe w a cs=>ifK (w=true/\qF vs=true/\o+vs.length<=cs.length) (evL (cs.take o++(vs++cs.drop (o+vs.length))) (λcs'=>jG h b (.cells e true a cs') k)):=by
  funext e w a cs;refine propext ?_;cases w with
  | false=>exact⟨False.elim,λhh=>by have:=hh.1.1;exact Ah⟩
  | true =>
   cases hc:qF vs with
   | false=>exact⟨False.elim,λhh=>by have:=hh.1.2.1;exact Ah⟩
   | true=>exact(jW _ _ _ _).trans ⟨fun⟨h1,h2⟩=>⟨⟨rfl,rfl,h1⟩,h2⟩,fun⟨⟨_,_,h1⟩,h2⟩=>⟨h1,h2⟩⟩
 rw[this]
def stV(h:Hp)(b o:Nat)(v:AV)(n:Nat)(k:Hp->Prop):Prop:=qn (qc7 v) (qio (cellsOf v) (λm=>qn (Nat.beq m n) (stK h b o (cellsOf v) k)))
def qfU{x y:Nat}:Nat.beq x y=true↔x=y:=Ad
def qDr{b o:Nat}{v:AV}{n:Nat}{k:Hp->Prop}:stV h b o v n k↔ifK (qc7 v=true) (evL (cellsOf v) (λcs=>ifK (cs.length=n) (stK h b o cs k))):=by
 unfold stV;rw[qc,wF,qc,qfU];exact Bm
omit [Cur] in
def jx{x y:Nat}:Nat.ble x y=true↔x<=y:=Ad
omit [Cur] in
def qHg{x:O}:opK qB (.mov x) t h k↔evK t x (λv=>k v h):=Iff.rfl
omit [Cur] in
def qe9{b:Bool}{p q:Prop}:(Bool.rec (motive:=λ_=>Prop) q p b:Prop)↔if b=true then p else q:=by cases b<;>simp
omit [Cur] in
def qCH{c x y:O}:opK qB (.pick c x y) t h k↔evK t c (λc=>unB c (λc=>if c=true then evK t x (λv=>k v h)else evK t y (λv=>k v h))):=by
 show evK t c (λc=>unB c (λc=>Bool.rec (motive:=λ_=>Prop) (evK t y (λv=>k v h)) (evK t x (λv=>k v h)) c))↔_
 simp only[qe9]
omit [Cur] in
def qy1{z:List AV}:opK qB (.alloc z) t h k↔x6 h (.cells 0 true false z) (λb h'=>k (.ptr b 0) h'):=Iff.rfl
omit [Cur] in
def qG4{x:O}:opK qB (.box x) t h k↔evK t x (λv=>qn (qc7 v) (evL (cellsOf v) (λcs=>x6 h (.cells 0 true false cs) (λb h'=>k (.ptr b 0) h')))):=Iff.rfl
omit [Cur] in
def qy2{z:List AV}{ps:List (Nat×Nat×O)}:opK qB (.build z ps) t h k↔qaj t ps z (λcs=>k (.agg cs) h):=Iff.rfl
omit [Cur] in
def qvx{n:Nat}{z:List AV}{ps:List (Nat×Nat×O)}:opK qB (.buildS n z ps) t h k↔evL (List.replicate n z).flatten (λcs=>qaj t ps cs (λcs=>x6 h (.cells 0 true false cs) (λb h'=>k (.sl b 0 n n false) h'))):=by
 show qkw z n _↔_;rw[qaz];exact Bm
omit [Cur] in
def qy6{x:O}:opK qB (.load1 x) t h k↔evK t x (λp=>ldV h p (λv=>k v h)):=Iff.rfl
omit [Cur] in
def qy7{n:Nat}{x:O}:opK qB (.loadN n x) t h k↔evK t x (λp=>qlK h p n (λcs=>k (.agg cs) h)):=Iff.rfl
omit [Cur] in
def qza{n:Nat}{x v:O}:opK qB (.store n x v) t h k↔evK t x (λp=>unP p (λb o=>evK t v (λv=>stV h b o v n (λh'=>k .undef h')))):=Iff.rfl
def qlB(v:AV)(k:AV->Prop):Prop:=match v with | .ptr b o=>k (.ptr b o) | .fn f a c=>k (.fn f a c) | .map r=>k (.map r) | .pf cs o=>k (.pf cs o) | .yl b=>k (.yl b)|_=>False
omit [Cur] in
@[congr] theorem qEi {v:AV}{k:AV->Prop}{mk:Prop}(_:z8=mk):qlB v k=qlB v k:=rfl
theorem qvA{x:O}:opK qB (.nilChk x) t h k↔evK t x (λv=>qlB v (λv=>k v h)):=by
 show evK t x (λv=>_)↔_
 refine iff_of_eq (congrArg _ (funext λv=>?_))
 cases v<;>rfl
omit [Cur] in
def qG3{op:BinOp}{x y:O}:opK qB (.bin op x y) t h k↔evK t x (λx=>evK t y (λy=>xE qB op x y (λv=>k v h))):=Iff.rfl
omit [Cur] in
def qG6{neg:Bool}{x y:O}:opK qB (.eqB neg x y) t h k↔evK t x (λx=>evK t y (λy=>unB x (λx=>unB y (λy=>evT (xor neg (x==y)) (λr=>k (.b r) h))))):=by
 show evK t x (λx=>evK t y (λy=>unB x (λx=>unB y (λy=>qX _ _))))↔_
 simp only[qkQ]
omit [Cur] in
def qG7{neg:Bool}{q:NK}{x:O}:opK qB (.eqN neg q x) t h k↔evK t x (λx=>ju q x (λr=>evT (xor neg r) (λr=>k (.b r) h))):=by
 show evK t x (λx=>ju q x (λr=>qX _ _))↔_
 grind[qkQ]
omit [Cur] in
def qKz{op:UnOp}{x:O}:opK qB (.un op x) t h k↔evK t x (λx=>qeP op x (λv=>k v h)):=Iff.rfl
omit [Cur] in
def qy4{q:IntKind}{x:O}:opK qB (.cvInt q x) t h k↔evK t x (λx=>cvK qB q x (λv=>k v h)):=Iff.rfl
omit [Cur] in
def qHh{x:O}:opK qB (.s2b x) t h k↔evK t x (λx=>match x with | .s a=>x6 h (.cells 1 true true (a.map λc=>.i .u8 (Int.ofNat c.toNat))) (λb h'=>k (.own b a.length) h')|_=>False):=by
 refine Es ?_
 refine iff_of_eq (congrArg _ (funext λv=>?_))
 cases v<;>first|rfl|exact qy _ _
omit [Cur] in
def qG2{x:O}:opK qB (.b2s x) t h k↔evK t x (λx=>match x with
  | .nils=>k (.s []) h
  | .sl b o n _ _=>qb4 h b o n (λcs=>xJ cs (λl=>k (.s l) h))
  | .fz n cs=>qg5 cs 0 n (λcs=>xJ cs (λl=>k (.s l) h))
  | .e0=>k (.s []) h
  | .own b n=>qb4 h b 0 n (λcs=>xJ cs (λl=>k (.s l) h))
  | _=>False):=by
 refine Es ?_
 refine iff_of_eq (congrArg _ (funext λv=>?_))
 cases v<;>first|rfl|exact propext ((zk _ _ _).trans ⟨λhh=>⟨zzu _,by simpa using hh⟩,λhh=>by simpa using hh.2⟩)
omit [Cur] in
def qy5{off:Nat}{x:O}:opK qB (.fAddr off x) t h k↔evK t x (λp=>qjg p off (λv=>k v h)):=Iff.rfl
def qxJ(off:Nat)(n:Option Nat)(x:AV)(k:AV->Prop):Prop:=match x with
 | .agg cs=>(match n with|none=>evO cs[off]? k|some n=>qg5 cs off n (λl=>k (.agg l)))
 | _=>False
omit [Cur] in
@[congr] theorem qFP {off:Nat}{n:Option Nat}{x:AV}{k:AV->Prop}{mk:Prop}(_:z8=mk):qxJ off n x k=qxJ off n x k:=rfl
theorem qxK{off:Nat}{cs:List AV}{k:AV->Prop}:qxJ off none (.agg cs) k↔evO cs[off]? k:=Iff.rfl
omit [Cur] in
def qxL{off n:Nat}{cs:List AV}{k:AV->Prop}:qxJ off (some n) (.agg cs) k↔qg5 cs off n (λl=>k (.agg l)):=Iff.rfl
omit [Cur] in
def qG9{off:Nat}{n:Option Nat}{x:O}:opK qB (.fld off n x) t h k↔evK t x (λx=>qxJ off n x (λv=>k v h)):=by
 refine Es ?_
 refine iff_of_eq (congrArg _ (funext λv=>?_))
 cases v<;>first|rfl|skip
 cases n with
 | none=>exact propext (jn _ _ _)
 | some n=>exact propext drop_take
omit [Cur] in
def qvy{len esz:Nat}{x i:O}:opK qB (.iAddrA len esz x i) t h k↔evK t x (λp=>evK t i (λi=>unN i (λi=>ifK (i<len) (evN (i*esz) (λo=>qjg p o (λv=>k v h)))))):=by
 show evK t x (λp=>evK t i (λi=>unN i (λi=>qn (Nat.ble (Nat.succ i) len) _)))↔_
 simp only[qc,jx];exact Bm
def ixK(esz:Nat)(x:AV)(i:Nat)(k:AV->Prop):Prop:=match x with
 | .sl b o len _ _=>ifK (i<len) (evN (o+i*esz) (λo'=>k (.ptr b o')))
 | .fz len cs=>ifK (i<len) (evN (i*esz) (λo'=>k (.pf cs o')))
 | .own b len=>ifK (i<len) (evN (i*esz) (λo'=>k (.ptr b o')))
 | _=>False
def qJ3{esz i b o len cap:Nat}{l:Bool}{k:AV->Prop}:ixK esz (.sl b o len cap l) i k↔ifK (i<len) (evN (o+i*esz) (λo'=>k (.ptr b o'))):=Iff.rfl
omit [Cur] in
def qJ2{esz i len:Nat}{cs:List AV}{k:AV->Prop}:ixK esz (.fz len cs) i k↔ifK (i<len) (evN (i*esz) (λo'=>k (.pf cs o'))):=Iff.rfl
omit [Cur] in
def qF5{esz i b len:Nat}{k:AV->Prop}:ixK esz (.own b len) i k↔ifK (i<len) (evN (i*esz) (λo'=>k (.ptr b o'))):=Iff.rfl
def qoo(x:AV)(p:Prop):Prop:=match x with | .sl _ _ _ _ _=>p | .fz _ _=>p | .own _ _=>p|_=>False
omit [Cur] in
@[congr] theorem qD9 {x:AV}{p:Prop}{mk:Prop}(_:z8=mk):qoo x p=qoo x p:=rfl
theorem qye{b o len cap:Nat}{l:Bool}{p:Prop}:qoo (.sl b o len cap l) p↔p:=Iff.rfl
omit [Cur] in
def qyd{len:Nat}{cs:List AV}{p:Prop}:qoo (.fz len cs) p↔p:=Iff.rfl
omit [Cur] in
def qva{b len:Nat}{p:Prop}:qoo (.own b len) p↔p:=Iff.rfl
omit [Cur] in
def qvz{esz:Nat}{x i:O}:opK qB (.iAddrS esz x i) t h k↔evK t x (λx=>qoo x (evK t i (λi=>unN i (λi=>ixK esz x i (λv=>k v h))))):=by
 refine Es ?_
 refine iff_of_eq (congrArg _ (funext λv=>?_))
 cases v<;>first|rfl|(simp only[qc,jx,x5];rfl)
omit [Cur] in
def qCF{len esz:Nat}{agg:Bool}{x i:O}:opK qB (.idxA len esz agg x i) t h k↔evK t x (λx=>match x with
  | .agg cs=>evK t i (λi=>unN i (λi=>ifK (i<len) (evN (i*esz) (λo=>if agg=true then qg5 cs o esz (λl=>k (.agg l) h)else evO cs[o]? (λv=>k v h)))))
  | _=>False):=by
 refine Es ?_
 refine iff_of_eq (congrArg _ (funext λv=>?_))
 cases v<;>first|rfl|skip
 simp only[qc,jx,x5,qe9,drop_take];have:∀(cs:List AV) (o:Nat),qjh cs o (λv=>k v h)=evO cs[o]? (λv=>k v h):=λcs o=>propext (jn _ _ _)
 simp only[this];rfl
def evC(o:Option UInt8)(k:UInt8->Prop):Prop:=∃v,o=some v/\k v
def qqF{v:UInt8}{k:UInt8->Prop}:evC (some v) k↔k v:=by simp[evC]
def qCG{x i:O}:opK qB (.idxS x i) t h k↔evK t x (λx=>match x with
  | .s a=>evK t i (λi=>unN i (λi=>evC a[i]? (λc=>k (.i .u8 (c.toNat:Int)) h)))
  | _=>False):=by
 refine Es ?_
 refine iff_of_eq (congrArg _ (funext λv=>?_))
 cases v<;>first|rfl|skip
 rename_i a
 have e:∀(j:Nat),(Option.rec (motive:=λ_=>Prop) False (λc=>k (.i .u8 (Int.ofNat c.toNat)) h) (a[j]?):Prop)=evC a[j]? (λc=>k (.i .u8 (c.toNat:Int)) h):=by
  intro j;cases ha:a[j]? with
  | none=>exact propext ⟨False.elim,fun⟨_,h1,_⟩=>by cases h1⟩
  | some c=>exact(propext (qqF (k:=λc=>k (.i .u8 (c.toNat:Int)) h) (v:=c))).symm
 exact Ad
def bdK(x:Option AV)(dflt top:Nat)(k:Nat->Prop):Prop:=qjI x dflt top k
def qlP{a b:Nat}{k:Nat->Prop}:bdK none a b k↔k a:=Iff.rfl
omit [Cur] in
def qsQ{v:AV}{a b:Nat}{k:Nat->Prop}:bdK (some v) a b k↔unN v (λn=>ifK (n<=b) (k n)):=by
 show unN v (λn=>qn (Nat.ble n b) (qq n k))↔_
 simp only[qc,jx,qy];exact Bm
omit [Cur] in
def qAY{len cap:Nat}{lo:Option AV}{k:Nat->Nat->Nat->Prop}:xg len cap lo none none k↔ifK (len<=cap) (bdK lo 0 len (λl=>k l len cap)):=by
 show qn (Nat.ble len cap) (qjI lo 0 len (λl=>k l len cap))↔_
 rw[qc,jx];exact Bm
omit [Cur] in
def qsR{len cap:Nat}{lo:Option AV}{hi:AV}{k:Nat->Nat->Nat->Prop}:xg len cap lo (some hi) none k↔unN hi (λu=>ifK (u<=cap) (bdK lo 0 u (λl=>k l u cap))):=by
 show unN hi (λu=>qn (Nat.ble u cap) (qq u (λu=>qjI lo 0 u (λl=>k l u cap))))↔_
 simp only[qc,jx,qy];exact Bm
omit [Cur] in
def qlS{len cap:Nat}{lo:Option AV}{hi mx:AV}{k:Nat->Nat->Nat->Prop}:xg len cap lo (some hi) (some mx) k↔unN mx (λm=>ifK (m<=cap) (unN hi (λu=>ifK (u<=m) (bdK lo 0 u (λl=>k l u m))))):=by
 show unN mx (λm=>qn (Nat.ble m cap) (qq m (λm=>unN hi (λu=>qn (Nat.ble u m) (qq u (λu=>qjI lo 0 u (λl=>k l u m)))))))↔_
 simp only[qc,jx,qy];exact Bm
def slK(esz:Nat)(lo hi mx:Option AV)(x:AV)(h:Hp)(k:AV->Prop):Prop:=match x with
 | .nils=>xg 0 0 lo hi mx (λ_ _ _=>k .nils)
 | .e0=>xg 0 0 lo hi mx (λ_ _ _=>k .e0)
 | .fz n cs=>xg n n lo hi mx (λl h' m=>if(mx.isSome&&Nat.beq m l)=true then k .e0 else evN (l*esz) (λo=>evN (h'-l) (λlen'=>evN (len'*esz) (λz=>qg5 cs o z (λl2=>k (.fz len' l2))))))
 | .sl b o len cap loose=>xg len cap lo hi mx (λl h' m=>evN (if(loose&&mx.isNone)=false/\m=l then o else o+l*esz) (λo'=>evN (h'-l) (λlen'=>evN (m-l) (λcap'=>qlH h b esz (loose&&mx.isNone) (k (.sl b o' len' cap' (loose&&mx.isNone)))))))
 | .own b n=>match mx with
  | none=>if n=0 then xg 0 0 lo hi none (λ_ _ _=>k (.own b 0))else xg n n lo hi none (λl h' m=>evN (l*esz) (λo'=>evN (h'-l) (λlen'=>evN (m-l) (λcap'=>qlH h b esz true (k (.sl b o' len' cap' true))))))
  | some u=>if n=0 then xg 0 0 lo hi (some u) (λ_ _ _=>k (.own b 0))else xg n n lo hi (some u) (λl h' m=>evN (if m=l then 0 else l*esz) (λo'=>evN (h'-l) (λlen'=>evN (m-l) (λcap'=>k (.sl b o' len' cap' false)))))
 | _=>False
omit [Cur] in
@[congr] theorem qIR {esz:Nat}{lo hi mx:Option AV}{x:AV}{k:AV->Prop}{mk:Prop}(_:z8=mk):slK esz lo hi mx x h k=slK esz lo hi mx x h k:=rfl
@[congr] theorem qFH {b esz:Nat}{c:Bool}{p:Prop}{mk:Prop}(_:z8=mk):qlH h b esz c p=qlH h b esz c p:=rfl
theorem quW{b esz:Nat}{p:Prop}:qlH h b esz false p↔p:=Iff.rfl
def qxz{b esz:Nat}{p:Prop}:qlH h b esz true p↔evB (h.tr.get b) (λx=>qa3 x (λe _ _ _=>ifK (e=esz) p)):=by
 show qas h b (λe _ _ _=>qn (Nat.beq e esz) p)↔_
 rw[qh2];simp only[qc,qfU];exact Bm
omit [Cur] in
def qDn{esz:Nat}{lo hi mx:Option AV}{k:AV->Prop}:slK esz lo hi mx .nils h k↔xg 0 0 lo hi mx (λ_ _ _=>k .nils):=Iff.rfl
omit [Cur] in
def qKN{esz:Nat}{lo hi mx:Option AV}{k:AV->Prop}:slK esz lo hi mx .e0 h k↔xg 0 0 lo hi mx (λ_ _ _=>k .e0):=Iff.rfl
omit [Cur] in
def qKO{esz n:Nat}{cs:List AV}{lo hi:Option AV}{k:AV->Prop}:slK esz lo hi none (.fz n cs) h k↔xg n n lo hi none (λl h' _=>evN (l*esz) (λo=>evN (h'-l) (λlen'=>evN (len'*esz) (λz=>qg5 cs o z (λl2=>k (.fz len' l2)))))):=by
 simp only[slK,Option.isSome_none,Bool.false_and,Bool.false_eq_true,if_false]
omit [Cur] in
def qHR{esz b o len cap:Nat}{lo hi mx:Option AV}{k:AV->Prop}:slK esz lo hi mx (.sl b o len cap false) h k↔xg len cap lo hi mx (λl1 h' m=>evN (if m=l1 then o else o+l1*esz) (λo'=>evN (h'-l1) (λlen'=>evN (m-l1) (λcap'=>k (.sl b o' len' cap' false))))):=by
 simp only[slK,Bool.false_and,true_and];exact Bm
omit [Cur] in
def qHS{esz b o len cap:Nat}{lo hi:Option AV}{k:AV->Prop}:slK esz lo hi none (.sl b o len cap true) h k↔xg len cap lo hi none (λl1 h' m=>evN (o+l1*esz) (λo'=>evN (h'-l1) (λlen'=>evN (m-l1) (λcap'=>qlH h b esz true (k (.sl b o' len' cap' true)))))):=by
 simp only[slK,Option.isNone_none,Bool.and_self,Bool.true_eq_false,false_and,if_false]
omit [Cur] in
def qHQ{esz b n:Nat}{lo hi:Option AV}{k:AV->Prop}:slK esz lo hi none (.own b n) h k↔if n=0 then xg 0 0 lo hi none (λ_ _ _=>k (.own b 0))else xg n n lo hi none (λl h' m=>evN (l*esz) (λo'=>evN (h'-l) (λlen'=>evN (m-l) (λcap'=>qlH h b esz true (k (.sl b o' len' cap' true)))))):=Bm
omit [Cur] in
def qCJ{esz:Nat}{x:O}{lo hi mx:Option O}:opK qB (.slcS esz x lo hi mx) t h k↔evK t x (λx=>qaV t lo (λlo=>qaV t hi (λhi=>qaV t mx (λmx=>slK esz lo hi mx x h (λv=>k v h))))):=by
 refine Es ?_
 refine iff_of_eq (congrArg _ (funext λv=>congrArg _ (funext λlo=>congrArg _ (funext λhi=>congrArg _ (funext λmx=>?_)))))
 cases v<;>first|rfl|skip
 .simp only[slK,x5];rfl
 .have e:∀(cs:List AV) (o m:Nat),qcM o cs (λl1=>evN m (λlen'=>qbu (Nat.mul len' esz) l1 (λl2=>k (.fz len' l2) h)))=evN m (λlen'=>evN (len'*esz) (λz=>qg5 cs o z (λl2=>k (.fz len' l2) h))):=by
   intro cs o m;refine propext ⟨λhh=>?_,λhh=>?_⟩
   .obtain⟨h1,h2⟩:=(zP _ _ _).1 hh;obtain⟨h3,h4⟩:=(zk _ _ _).1 h2;exact⟨h1,h3,h4⟩
   .obtain⟨h1,h3,h4⟩:=hh;exact(zP _ _ _).2 ⟨h1,(zk _ _ _).2 ⟨h3,h4⟩⟩
  simp only[slK,x5,qe9,e];rfl
 .rename_i b n;cases mx with
  | some m =>
   cases n with
   | zero=>simp only[slK,if_true];rfl
   | succ n=>simp only[slK,Nat.succ_ne_zero,if_false,x5];rfl
  | none =>
   cases n with
   | zero=>simp only[slK,if_true];rfl
   | succ n=>simp only[slK,Nat.succ_ne_zero,if_false,x5];rfl
omit [Cur] in
def qvC{x:O}{lo hi:Option O}:opK qB (.slcStr x lo hi) t h k↔evK t x (λx=>qaV t lo (λlo=>qaV t hi (λhi=>match x with
  | .s a=>xg a.length a.length lo hi none (λl h' _=>evA (.s ((a.take h').drop l)) (λv=>k v h))
  | _=>False))):=Iff.rfl
omit [Cur] in
def qCI{len esz:Nat}{x:O}{lo hi mx:Option O}:opK qB (.slcA len esz x lo hi mx) t h k↔evK t x (λp=>unP p (λb o=>qaV t lo (λlo=>qaV t hi (λhi=>qaV t mx (λmx =>
   xg len len lo hi mx (λl h' m=>evN (if m=l then o else o+l*esz) (λo'=>evN (h'-l) (λlen'=>evN (m-l) (λcap'=>k (.sl b o' len' cap' false) h))))))))):=by
 show evK t x (λp=>unP p (λb o=>qaV t lo (λlo=>qaV t hi (λhi=>qaV t mx (λmx=>xg len len lo hi mx (λl h' m=>qq (if m=l then o else Nat.add o (Nat.mul l esz)) _))))))↔_
 simp only[x5];exact Ad
omit [Cur] in
def qG8{x:O}{i:Nat}:opK qB (.ext x i) t h k↔evK t x (λx=>match x with | .tup cs=>evO cs[i]? (λv=>k v h)|_=>False):=by
 refine Es ?_
 refine iff_of_eq (congrArg _ (funext λv=>?_))
 cases v<;>first|rfl|exact propext (jn _ _ _)
omit [Cur] in
def qHd{f:Nat}{a c:List O}:opK qB (.mkF f a c) t h k↔ww t a (λa=>ww t c (λc=>k (.fn f a c) h)):=Iff.rfl
omit [Cur] in
def qHf{e bytes:Nat}{z:List AV}{len cap:O}:opK qB (.mkS e bytes z len cap) t h k↔evK t len (λlen=>evK t cap (λcap=>unN len (λl=>unN cap (λc=>ifK (l<=c) (ifK (c<=qe) (ifK (bytes*c<=qe) (evL (List.replicate c z).flatten (λcs=>x6 h (.cells 0 true false cs) (λb h'=>k (.sl b 0 l c false) h'))))))))):=by
 show evK t len (λlen=>evK t cap (λcap=>unN len (λl=>unN cap (λc=>qn (Nat.ble l c) (qn (Nat.ble c qe) (qn (Nat.ble (Nat.mul bytes c) qe) (qkw z c _)))))))↔_
 simp only[qc,jx,qaz];exact Bm
def lnK(str:Bool)(x:AV)(k:AV->Prop):Prop:=match x,str with
 | .nils,false=>k (.i .i64 0)
 | .e0,false=>k (.i .i64 0)
 | .nz,false=>k (.i .i64 0)
 | .fz n _,false=>evA (.i .i64 (n:Int)) k
 | .own _ n,false=>evA (.i .i64 (n:Int)) k
 | .sl _ _ n _ _,false=>evA (.i .i64 (n:Int)) k
 | .s a,true=>evA (.i .i64 (a.length:Int)) k
 | _,_=>False
omit [Cur] in
@[congr] theorem qIF {b:Bool}{x:AV}{k:AV->Prop}{mk:Prop}(_:z8=mk):lnK b x k=lnK b x k:=rfl
theorem qHa{str:Bool}{x:O}:opK qB (.len str x) t h k↔evK t x (λx=>lnK str x (λv=>k v h)):=by
 refine Es ?_
 refine iff_of_eq (congrArg _ (funext λv=>?_))
 cases v<;>cases str<;>first|rfl|exact qy _ _
omit [Cur] in
def qCc{k:AV->Prop}:lnK false .nils k↔k (.i .i64 0):=Iff.rfl
omit [Cur] in
def qKc{k:AV->Prop}:lnK false .nz k↔k (.i .i64 0):=Iff.rfl
omit [Cur] in
def qKa{k:AV->Prop}:lnK false .e0 k↔k (.i .i64 0):=Iff.rfl
omit [Cur] in
def qKb{n:Nat}{cs:List AV}{k:AV->Prop}:lnK false (.fz n cs) k↔evA (.i .i64 (n:Int)) k:=Iff.rfl
omit [Cur] in
def qGk{b n:Nat}{k:AV->Prop}:lnK false (.own b n) k↔evA (.i .i64 (n:Int)) k:=Iff.rfl
omit [Cur] in
def qKd{b o n c:Nat}{l:Bool}{k:AV->Prop}:lnK false (.sl b o n c l) k↔evA (.i .i64 (n:Int)) k:=Iff.rfl
omit [Cur] in
def qLQ{a:List UInt8}{k:AV->Prop}:lnK true (.s a) k↔evA (.i .i64 (a.length:Int)) k:=Iff.rfl
omit [Cur] in
def qG1{esz bytes:Nat}{c:Bool}{s x:O}:opK qB (.app esz bytes c s x) t h k↔evK t s (λs=>evK t x (λx=>qil h esz bytes c s x k)):=Iff.rfl
def qws(esz bytes:Nat)(z:List AV)(h:Hp)(s:AV)(n:Nat)(k:AV->Hp->Prop):Prop:=match s with
  | .sl b o len cap false=>evN (len+n) (λneed=>ifK (cap<need) (ifK (need<=qe) (ifK (need*bytes<=qe) (evN (len*esz) (λm=>qb4 h b o m (λold=>evL (old++(List.replicate n z).flatten) (λcs=>x6 h (.cells esz true true cs) (λb' h'=>k (.own b' need) h'))))))))
  | .nils=>ifK (1<=n) (ifK (n<=qe) (ifK (n*bytes<=qe) (evL ((List.replicate n z).flatten) (λcs=>x6 h (.cells esz true true cs) (λb' h'=>k (.own b' n) h')))))
  | _=>False
def qEX{esz bytes b o len cap n:Nat}{z:List AV}:qws esz bytes z h (.sl b o len cap false) n k↔evN (len+n) (λneed=>ifK (cap<need) (ifK (need<=qe) (ifK (need*bytes<=qe) (evN (len*esz) (λm=>qb4 h b o m (λold=>evL (old++(List.replicate n z).flatten) (λcs=>x6 h (.cells esz true true cs) (λb' h'=>k (.own b' need) h')))))))):=Iff.rfl
omit [Cur] in
def qwt{esz bytes n:Nat}{z:List AV}:qws esz bytes z h .nils n k↔ifK (1<=n) (ifK (n<=qe) (ifK (n*bytes<=qe) (evL ((List.replicate n z).flatten) (λcs=>x6 h (.cells esz true true cs) (λb' h'=>k (.own b' n) h'))))):=Iff.rfl
omit [Cur] in
def qCD{esz bytes:Nat}{z:List AV}{s x:O}:opK qB (.appZ esz bytes z s x) t h k↔evK t s (λs=>evK t x (λx=>unN x (λn=>qws esz bytes z h s n k))):=by
 show evK t s (λs=>evK t x (λx=>unN x (λn=>_)))↔_
 refine iff_of_eq (congrArg _ (funext λv=>congrArg _ (funext λx=>congrArg _ (funext λn=>propext ?_))))
 cases v<;>first|exact Iff.rfl|skip
 .simp only[qws,qc,jx,qaz,ifK,evL];rfl
 rename_i b o len cap loose;cases loose with
 | true=>exact⟨λhh=>absurd ((qc (!true) _).1 hh).1 (by simp),False.elim⟩
 | false =>
  simp only[qws,qc,jx,qaz,wp,Bool.not_false,true_and,evN,ifK,evL];rfl
omit [Cur] in
def qCE{esz:Nat}{s x:O}:opK qB (.copy esz s x) t h k↔evK t s (λs=>evK t x (λx=>qli h esz s x k)):=Iff.rfl
omit [Cur] in
def quO{esz:Nat}{s:AV}:qli h esz .nils s k↔qbY h esz s (λ_ _=>k (.i .i64 0) h):=Iff.rfl
omit [Cur] in
def qBs{esz b o len c:Nat}{l:Bool}{s:AV}:qli h esz (.sl b o len c l) s k↔qbY h esz s (λn new=>evN (min n len) (λm=>evN (m*esz) (λz=>qg5 new 0 z (λcs=>stK h b o cs (λh'=>evA (.i .i64 (m:Int)) (λv=>k v h')))))):=by
 show qbY h esz s (λn new=>qq (min n len) (λm=>qbu (Nat.mul m esz) new (λcs=>stK h b o cs (λh'=>k (.i .i64 (Int.ofNat m)) h'))))↔_
 simp only[x5];refine iff_of_eq (congrArg _ (funext λn=>funext λnew=>congrArg _ (funext λm=>propext ?_)))
 exact(zk _ _ _).trans ⟨λhh=>⟨zzu _,by simpa[evA]using hh⟩,λhh=>by simpa[evN,qg5,evA]using hh⟩
omit [Cur] in
def qHc{x y:O}:opK qB (.min x y) t h k↔evK t x (λx=>evK t y (λy=>unI x (λq n=>unI y (λ_ m=>evA (.i q (if m<n then m else n)) (λv=>k v h))))):=by
 have e:∀(q:IntKind) (n m:Int),(Bool.rec (motive:=λ_=>Prop) (k (.i q n) h) (k (.i q m) h) (ltI m n):Prop)=evA (.i q (if m<n then m else n)) (λv=>k v h):=by
  intro q n m;rw[qde]
  by_cases hlt:m<n
  .rw[decide_eq_true hlt,if_pos hlt];rfl
  .rw[decide_eq_false hlt,if_neg hlt];rfl
 show evK t x (λx=>evK t y (λy=>unI x (λq n=>unI y (λ_ m=>Bool.rec (motive:=λ_=>Prop) (k (.i q n) h) (k (.i q m) h) (ltI m n)))))↔_
 exact Ad
omit [Cur] in
def qHb{x y:O}:opK qB (.max x y) t h k↔evK t x (λx=>evK t y (λy=>unI x (λq n=>unI y (λ_ m=>evA (.i q (if n<m then m else n)) (λv=>k v h))))):=by
 have e:∀(q:IntKind) (n m:Int),(Bool.rec (motive:=λ_=>Prop) (k (.i q n) h) (k (.i q m) h) (ltI n m):Prop)=evA (.i q (if n<m then m else n)) (λv=>k v h):=by
  intro q n m;rw[qde]
  by_cases hlt:n<m
  .rw[decide_eq_true hlt,if_pos hlt];rfl
  .rw[decide_eq_false hlt,if_neg hlt];rfl
 show evK t x (λx=>evK t y (λy=>unI x (λq n=>unI y (λ_ m=>Bool.rec (motive:=λ_=>Prop) (k (.i q n) h) (k (.i q m) h) (ltI n m)))))↔_
 exact Ad
def qxc(z:List AV)(x:AV)(h:Hp)(k:AV->Hp->Prop):Prop:=match x with
  | .nils=>k (.tup []) h
  | .sl b o n _ _=>if n=0 then k (.tup []) h else evL (List.replicate n z).flatten (λcs=>stK h b o cs (λh'=>k (.tup []) h'))
  | _=>False
def qxe{z:List AV}:qxc z .nils h k↔k (.tup []) h:=Iff.rfl
omit [Cur] in
def qFr{z:List AV}{b o n c:Nat}{l:Bool}:qxc z (.sl b o n c l) h k↔if n=0 then k (.tup []) h else evL (List.replicate n z).flatten (λcs=>stK h b o cs (λh'=>k (.tup []) h')):=Iff.rfl
omit [Cur] in
def qy3{z:List AV}{x:O}:opK qB (.clear z x) t h k↔evK t x (λx=>qxc z x h k):=by
 refine Es ?_
 refine iff_of_eq (congrArg _ (funext λv=>?_))
 cases v<;>first|rfl|skip
 rename_i b o n c l;cases n with
 | zero=>simp only[qxc,if_true];rfl
 | succ n=>simp only[qxc,qaz];rfl
omit [Cur] in
def qHe:opK qB .mkM t h k↔x6 h (.map []) (λb h'=>k (.map b) h'):=Iff.rfl
omit [Cur] in
def qvD{n:Nat}{x v:O}{ps:List Nat}:opK qB (.storeD n x v ps) t h k↔evK t x (λp=>unP p (λb o=>jC t b ps (evK t v (λv=>stV h b o v n (λh'=>k .undef h'))))):=Iff.rfl
omit [Cur] in
def qCC{esz bytes:Nat}{s x:O}{ps:List Nat}:opK qB (.appD esz bytes s x ps) t h k↔evK t s (λs=>evK t x (λx=>qcx t ps s (qil h esz bytes true s x k))):=Iff.rfl
def qDh{ps:List Nat}{b m:Nat}{p:Prop}:qcx t ps (.own b m) p↔jC t b ps p:=Iff.rfl
omit [Cur] in
def qHK{ps:List Nat}{b o m c:Nat}{l:Bool}{p:Prop}:qcx t ps (.sl b o m c l) p↔jC t b ps p:=Iff.rfl
omit [Cur] in
def qHJ{ps:List Nat}{m:Nat}{cs:List AV}{p:Prop}:qcx t ps (.fz m cs) p↔p:=Iff.rfl
omit [Cur] in
def qzO{ps:List Nat}{p:Prop}:qcx t ps .nils p↔p:=Iff.rfl
omit [Cur] in
def qHI{ps:List Nat}{p:Prop}:qcx t ps .e0 p↔p:=Iff.rfl
def quv{b:Nat}{p:Prop}:jC t b [] p↔p:=Iff.rfl
def neK(b:Nat)(y:AV)(p:Prop):Prop:=match y with | .ptr b' _=>ifK (¬b'=b) p | .pf _ _=>p|_=>False
def qGE{b b' o:Nat}{p:Prop}:neK b (.ptr b' o) p↔ifK (¬b'=b) p:=Iff.rfl
omit [Cur] in
def qKj{b o:Nat}{cs:List AV}{p:Prop}:neK b (.pf cs o) p↔p:=Iff.rfl
def qr0{b q:Nat}{ps:List Nat}{p:Prop}:jC t b (q::ps) p↔evO (t.get q) (λy=>neK b y (jC t b ps p)):=by
 refine(Tr.getK_iff _ _ _).trans (iff_of_eq (congrArg _ (funext λv=>?_)))
 refine congrArg _ ?_;cases v<;>first|rfl|skip
 rename_i b' o;refine propext ((qc _ _).trans ?_);show _/\_↔_/\_
 have:(!Nat.beq b' b)=true↔¬b'=b:=by
  rw[Bool.not_eq_true',<- Bool.not_eq_true,qfU]
 rw[this];exact Bm
def cpK(x:AV)(k:AV->Prop):Prop:=match x with
  | .nils=>k (.i .i64 0)
  | .e0=>k (.i .i64 0)
  | .sl _ _ _ c false=>evA (.i .i64 (c:Int)) k
  | _=>False
def qG5{x:O}:opK qB (.cap x) t h k↔evK t x (λx=>cpK x (λv=>k v h)):=by
 refine Es ?_
 refine iff_of_eq (congrArg _ (funext λv=>?_))
 cases v<;>first|rfl|skip
 rename_i l;cases l<;>rfl
omit [Cur] in
def qBt{k:AV->Prop}:cpK .nils k↔k (.i .i64 0):=Iff.rfl
omit [Cur] in
def qJG{k:AV->Prop}:cpK .e0 k↔k (.i .i64 0):=Iff.rfl
omit [Cur] in
def qJH{b o n c:Nat}{k:AV->Prop}:cpK (.sl b o n c false) k↔evA (.i .i64 (c:Int)) k:=Iff.rfl
omit [Cur] in
def qxE{l:List AV}{k:List AV->Prop}:qaj t [] l k↔k l:=Iff.rfl
def qu1{off m:Nat}{x:O}{ps:List (Nat×Nat×O)}{l:List AV}{k:List AV->Prop}:qaj t ((off,m,x)::ps) l k↔evK t x (λv=>ifK (qc7 v=true) (evL (cellsOf v) (λcs=>ifK (cs.length=m/\off+cs.length<=l.length) (evL (l.take off++(cs++l.drop (off+cs.length))) (λl=>qaj t ps l k))))):=by
 show evK t x (λv=>qn (qc7 v) (qq off (λoff=>qio (cellsOf v) (λn=>qn (Nat.beq n m) (jB (cellsOf v) off l (λl'=>qaj t ps l' k))))))↔_
 simp only[qc,qy,wF,jW,qfU,ifK,evL,and_assoc]
omit [Cur] in
def qzZ{esz:Nat}{k:Nat->List AV->Prop}:qbY h esz .nils k↔k 0 []:=Iff.rfl
omit [Cur] in
def qHY{esz:Nat}{k:Nat->List AV->Prop}:qbY h esz .nz k↔k 0 []:=Iff.rfl
omit [Cur] in
def qHW{esz:Nat}{k:Nat->List AV->Prop}:qbY h esz .e0 k↔k 0 []:=Iff.rfl
omit [Cur] in
def qHZ{esz b o n c:Nat}{l:Bool}{k:Nat->List AV->Prop}:qbY h esz (.sl b o n c l) k↔evN (n*esz) (λm=>qb4 h b o m (λcs=>k n cs)):=Iff.rfl
omit [Cur] in
def qDq{esz b n:Nat}{k:Nat->List AV->Prop}:qbY h esz (.own b n) k↔evN (n*esz) (λm=>qb4 h b 0 m (λcs=>k n cs)):=Iff.rfl
omit [Cur] in
def qHX{esz n:Nat}{cs:List AV}{k:Nat->List AV->Prop}:qbY h esz (.fz n cs) k↔evN (n*esz) (λm=>qg5 cs 0 m (λcs=>k n cs)):=by
 refine(zk _ _ _).trans ⟨λhh=>⟨zzu _,Ad⟩,λhh=>by simpa[evN,qg5]using hh⟩
def qKQ{esz:Nat}{a:List UInt8}{k:Nat->List AV->Prop}:qbY h esz (.s a) k↔ifK (esz=1) (k a.length (a.map λc=>.i .u8 (Int.ofNat c.toNat))):=by
 show qn (Nat.beq esz 1) (qq a.length _)↔_;rw[qc,qfU,qy];exact Bm
omit [Cur] in
def qwq{esz bytes:Nat}{c:Bool}{x:AV}:qil h esz bytes c .nils x k↔qbY h esz x (λn new=>ifK (n<=qe) (ifK (n*bytes<=qe) (x6 h (.cells esz true true new) (λb h'=>k (.own b n) h')))):=by
 refine G5 ?_;exact Bm
omit [Cur] in
def qEU{esz bytes:Nat}{c:Bool}{x:AV}:qil h esz bytes c .e0 x k↔qbY h esz x (λn new=>ifK (n<=qe) (ifK (n*bytes<=qe) (x6 h (.cells esz true true new) (λb h'=>k (.own b n) h')))):=by
 refine G5 ?_;exact Bm
def qAF{esz bytes b m:Nat}{x:AV}:qil h esz bytes true (.own b m) x k↔qbY h esz x (λn new=>evN (m+n) (λneed=>ifK (need<=qe) (ifK (need*bytes<=qe) (evB (h.tr.get b) (λy=>qa3 y (λe w a ys =>
  ifK (qF new=true/\w=true/\a=true/\e=esz/\ys.length=m*esz) (evL (ys++new) (λcs'=>jG h b .dead (λh1=>x6 h1 (.cells esz true true cs') (λb' h'=>k (.own b' need) h')))))))))):=by
 show qbY h esz x (λn new=>qq (Nat.add m n) (λneed=>qn (Nat.ble need qe) (qn (Nat.ble (Nat.mul need bytes) qe) (qas h b (λe w a ys=>_)))))↔_
 simp only[x5,qc,jx,qfU,qh2,wF,wp];refine iff_of_eq (congrArg _ (funext λn=>funext λnew=>?_))
 simp only[ifK,evN,evL,and_assoc];rfl
omit [Cur] in
def qEW{esz bytes b o len cap:Nat}{c:Bool}{x:AV}:qil h esz bytes c (.sl b o len cap false) x k↔qbY h esz x (λn new=>evN (len+n) (λneed=>if need<=cap then
  (if n=0 then k (.sl b o need cap false) h else evN (o+len*esz) (λat_=>stK h b at_ new (λh'=>k (.sl b o need cap false) h')))
  else ifK (need<=qe) (ifK (need*bytes<=qe) (evN (len*esz) (λm=>qb4 h b o m (λold=>evL (old++new) (λcs=>x6 h (.cells esz true true cs) (λb' h'=>k (.own b' need) h')))))))):=by
 have e:∀(n:Nat) (p q:Prop),(Nat.rec (motive:=λ_=>Prop) p (λ_ _=>q) n:Prop)↔if n=0 then p else q:=by
  intro n p q;cases n with
  | zero=>rw[if_pos rfl];exact Bm
  | succ n=>rw[if_neg Ac]
 unfold qil;dsimp only;simp only[Bool.not_false,x5,qui,jx,qe9,wp,e,qq1];exact Bm
omit [Cur] in
def qEV{esz bytes m:Nat}{c:Bool}{cs:List AV}{x:AV}:qil h esz bytes c (.fz m cs) x k↔qbY h esz x (λn _=>ifK (n=0) (k (.fz m cs) h)):=by
 show qbY h esz x (λn _=>Nat.rec (motive:=λ_=>Prop) (k (.fz m cs) h) (λ_ _=>False) n)↔_
 refine iff_of_eq (congrArg _ (funext λn=>funext λnew=>?_))
 cases n<;>simp[ifK];rfl
omit [Cur] in
def qyQ{k:Bool->Prop}:ju .ptr .nilp k↔k true:=Iff.rfl
omit [Cur] in
def qCo{b o:Nat}{k:Bool->Prop}:ju .ptr (.ptr b o) k↔k false:=Iff.rfl
omit [Cur] in
def qGL{cs:List AV}{o:Nat}{k:Bool->Prop}:ju .ptr (.pf cs o) k↔k false:=Iff.rfl
omit [Cur] in
def qGK{k:Bool->Prop}:ju .slice .nz k↔k false:=Iff.rfl
omit [Cur] in
def qyR{k:Bool->Prop}:ju .slice .nils k↔k true:=Iff.rfl
omit [Cur] in
def qGM{b o n c:Nat}{l:Bool}{k:Bool->Prop}:ju .slice (.sl b o n c l) k↔k false:=Iff.rfl
omit [Cur] in
def qGJ{n:Nat}{cs:List AV}{k:Bool->Prop}:ju .slice (.fz n cs) k↔ifK (1<=n) (k false):=by
 show qn (Nat.ble 1 n) (k false)↔_;rw[qc,jx];exact Bm
omit [Cur] in
def qCn{b n:Nat}{k:Bool->Prop}:ju .slice (.own b n) k↔ifK (1<=n) (k false):=by
 show qn (Nat.ble 1 n) (k false)↔_;rw[qc,jx];exact Bm
omit [Cur] in
def qyO{k:Bool->Prop}:ju .func .nilf k↔k true:=Iff.rfl
omit [Cur] in
def qGI{f:Nat}{a c:List AV}{k:Bool->Prop}:ju .func (.fn f a c) k↔k false:=Iff.rfl
omit [Cur] in
def qyP{k:Bool->Prop}:ju .iface .nili k↔k true:=Iff.rfl
omit [Cur] in
def qCm{t:Nat}{v:AV}{k:Bool->Prop}:ju .iface (.ifc t v) k↔k false:=Iff.rfl
omit [Cur] in
def qBz{x y:List AV}{k:Bool->Prop}:qcI [] x y k↔k true:=Iff.rfl
omit [Cur] in
def qxx{q:PK}{qs:List PK}{u v:AV}{us vs:List AV}{k:Bool->Prop}:qcI (q::qs) (u::us) (v::vs) k↔qdq q u v (λe=>if e=true then qcI qs us vs k else k false):=by
 show qdq q u v (λe=>Bool.rec (motive:=λ_=>Prop) (k false) (qcI qs us vs k) e)↔_
 simp only[qe9]
def qLF{q:IntKind}{n m:Int}{k:Bool->Prop}:qdq .i (.i q n) (.i q m) k↔evT (decide (n=m)) k:=by
 show qn (decide (q=q)) (qX (eqI n m) k)↔_;rw[qc,qmA,qV];simp[evT]
omit [Cur] in
def qLG{a c:List UInt8}{k:Bool->Prop}:qdq .s (.s a) (.s c) k↔evT (decide (a=c)) k:=by
 show qX (eqS a c) k↔_;rw[qV,qcg,show(a==c)=decide (a=c)from by rw[Bool.eq_iff_iff];simp];exact Bm
omit [Cur] in
def qLE{a c:Bool}{k:Bool->Prop}:qdq .b (.b a) (.b c) k↔evT (a==c) k:=by
 show qX (a==c) k↔_;rw[qV];exact Bm
omit [Cur] in
def qxu{rs:List RV}{k:AV->Hp->Prop}:xG rs k .ret t h↔qaW t h rs (λvs=>k (qao vs) h):=Iff.rfl
omit [Cur] in
def qqE{rs:List RV}{k:AV->Hp->Prop}:xG rs k .normal t h↔qaW t h rs (λvs=>k (qao vs) h):=Iff.rfl
def qDa{k:List AV->Prop}:qaW t h [] k↔k []:=Iff.rfl
omit [Cur] in
def qDb{n:Nat}{rs:List RV}{k:List AV->Prop}:qaW t h (.tmp n::rs) k↔evO (t.get n) (λv=>qaW t h rs (λvs=>k (v::vs))):=Tr.getK_iff _ _ _
omit [Cur] in
def qzH{n size:Nat}{agg:Bool}{rs:List RV}{k:List AV->Prop}:qaW t h (.cell n size agg::rs) k↔evO (t.get n) (λv=>unP v (λb o=>if agg=true then qb4 h b o size (λcs=>qaW t h rs (λvs=>k (.agg cs::vs)))else ldK h b o (λv=>qaW t h rs (λvs=>k (v::vs))))):=by
 refine(Tr.getK_iff _ _ _).trans (iff_of_eq (congrArg _ (funext λv=>congrArg _ ?_)))
 cases v<;>first|rfl|skip
 cases agg<;>rfl
end
end
end Go.Kc
