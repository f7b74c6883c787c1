/- Part 10 of the abstract machine and of the functions' walks. Conditions: with each theorem. -/
import Derived.Test.YtpopmjgimhmciaaGreatDoorK9
import Derived.Lib.Join
import Derived.Below
import Derived.Lib.ItoaLen
set_option linter.unusedSimpArgs false
set_option linter.unusedVariables false
set_option linter.unnecessarySimpa false
section
/- What assignments come to, one behind the other: it may be. No condition. -/
namespace Go.Kc
def WT:List UInt8:=[83,101,114,118,105,99,101]
theorem qbd(is:Int->Bool):∀(l:List Int) (o:Option Int),zJ is o l=true↔(∀x ∈ l,is x=true)∧l.Pairwise (· < ·)∧∀b,o=some b->∀x ∈ l,b<x
 | [],o=>by simp[zJ]
 | x::l,o=>by
  rw[zJ,Bool.and_eq_true,Bool.and_eq_true,qbd is l (some x)];constructor
  ·rintro⟨⟨h1,h2⟩,h3,h4,h5⟩;refine⟨by simpa using⟨h1,h3⟩,List.pairwise_cons.2 ⟨h5 x rfl,h4⟩,?_⟩
   rintro b rfl;have hb:b<x:=by simpa using h2
   intro y hy;rcases List.mem_cons.1 hy with rfl|hy
   ·exact hb
   ·exact Int.lt_trans hb (h5 x rfl y hy)
  ·rintro⟨h1,h2,h3⟩;obtain⟨h4,h5⟩:=List.pairwise_cons.1 h2;refine⟨⟨h1 x (by simp),?_⟩,fun y hy=>h1 y (by simp[hy]),h5,?_⟩
   ·cases o with
    | none=>rfl
    | some b=>simpa using h3 b rfl x (by simp)
   ·rintro b hb y hy;cases hb;exact h4 y hy
structure PMay (p:Pol):Prop where
 own:∀c ∈ p.log.calls,c.act=0
 deny:XK p.deny=true
 mode:p.fmode<=2∧(p.fmode≠0∨p.fams=[])
 ar:∀a ∈ p.arches,0<=a∧a<6
 ap:p.arches.Pairwise (· < ·)
 fr:∀n ∈ p.fams,XB n=true
 fp:p.fams.Pairwise (· < ·)
 fil:zF p.filter=true
 log:zF p.log=true
 sp:yH .u64 p.spaces 2114060416=0
theorem qdV(p:Pol):Wj p=true↔PMay p:=by
 unfold Wj yi WX;simp only[Bool.and_eq_true,Bool.not_eq_true',List.any_eq_false,decide_eq_true_eq,Decidable.not_not,Bool.or_eq_true,qbd];constructor
 ·rintro⟨⟨⟨⟨⟨h1,h2⟩,h3⟩,h4,h5,_⟩,h6,h7,_⟩,⟨h8,h9⟩,h10⟩;exact⟨h1,h2,h3,h4,h5,h6,h7,h8,h9,h10⟩
 ·rintro⟨h1,h2,h3,h4,h5,h6,h7,h8,h9,h10⟩;exact⟨⟨⟨⟨⟨h1,h2⟩,h3⟩,h4,h5,by simp⟩,h6,h7,by simp⟩,⟨h8,h9⟩,h10⟩
structure PI (p:Pol):Prop where
 may:PMay p
 f0:0<=p.filter.mode
 l0:0<=p.log.mode
 m0:0<=p.fmode
 s0:0<=p.spaces∧p.spaces<18446744073709551616
theorem qa5{l:List Int}(h:l.Pairwise (· < ·)):l.Nodup:=h.imp fun h e=>by omega
theorem qdv{n:Int}(h:XB n=true):n ∈ qn.map (·.2):=by
 unfold XB at h;have h':zd n qn≠[]:=by simpa using h
 have:∀(t:List (List UInt8×Int)),zd n t≠[]->n ∈ t.map (·.2):=by
  intro t
  induction t with
  | nil=>intro h;exact absurd rfl h
  | cons x t ih =>
   intro h;unfold zd at h;split at h
   ·rename_i e;simp[e]
   ·exact List.mem_cons_of_mem _ (ih h)
 exact this _ h'
theorem qc7{a:Int}(h:0<=a∧a<6):a ∈ ([0,1,2,3,4,5]:List Int):=by
 have:a=0∨a=1∨a=2∨a=3∨a=4∨a=5:=by omega
 simpa using this
theorem PMay.lens{p:Pol}(h:PMay p):p.arches.length<=6∧p.fams.length<=8∧p.filter.calls.length<=40∧p.log.calls.length<=40 :=
 ⟨JC (t:=[0,1,2,3,4,5]) (qa5 h.ap) fun x hx=>qc7 (h.ar x hx),JC (t:=qn.map (·.2)) (qa5 h.fp) fun x hx=>qdv (h.fr x hx),JA h.fil,JA h.log⟩
theorem PI.ok{p:Pol}(h:PI p):PolOk p:=by
 obtain⟨h1,h2,h3,h4⟩:=h.may.lens;exact⟨by omega,by omega,by omega,by omega⟩
def QC:Pol:={ y7 with deny:=2147483648 }
theorem PI.new:PI QC:=by
 refine⟨⟨?_,?_,?_,?_,?_,?_,?_,?_,?_,?_⟩,?_,?_,?_,?_⟩
 ·intro c hc;simp[QC,y7] at hc
 ·decide
 ·exact⟨by decide,.inr rfl⟩
 ·intro c hc;simp[QC,y7] at hc
 ·exact List.Pairwise.nil
 ·intro c hc;simp[QC,y7] at hc
 ·exact List.Pairwise.nil
 ·rfl
 ·rfl
 ·decide
 ·decide
 ·decide
 ·decide
 ·decide
theorem qhd{l:GList}(hm:zF l=true){s:List UInt8}(h:∀c ∈ l.calls,c.act=0):∀c ∈ (W0 l s 0).calls,c.act=0:=by
 intro c hc;unfold W0 at hc;rw[if_pos hm] at hc;rcases qfA ((zV l).1 hm).2.2 hc with rfl|hc
 ·rfl
 ·exact h c hc
theorem qe4{l:GList}{s:List UInt8}(h:∀c ∈ l.calls,c.act=0):∀c ∈ (Q1 l s).calls,c.act=0:=by
 intro c hc;unfold Q1 at hc;split at hc
 ·exact h c (List.mem_filter.1 hc).1
 ·exact h c hc
theorem VZ:∀{os:List (List UInt8×Option Int)} {l:GList},zF l=true->l.mode≠0->(∀o ∈ os,okO o)->(∀o ∈ os,o.2=none∨o.2=some 0)->(∀c ∈ l.calls,c.act=0)->∀c ∈ (os.foldl QE l).calls,c.act=0
 | [],_,_,_,_,_,h=>h
 | o::os,l,hm,h0,hk,ho,h=>by
  rw[List.foldl_cons];obtain⟨k1,k2,_⟩:=qcg hm h0 (hk o (by simp));refine VZ k1 (by rw[k2];exact h0) (fun x hx=>hk x (by simp[hx])) (fun x hx=>ho x (by simp[hx])) ?_
  unfold QE;rcases ho o (by simp) with e|e
  ·rw[e];exact qe4 h
  ·rw[e];exact qhd hm h
variable {E:List UInt8->List (List UInt8)×Int}
theorem qeR(t:Bool)(mode:Int)(w:List UInt8):∀o ∈ qbz E false t mode w,o.2=none∨o.2=some 0:=by
 intro o ho;unfold qbz at ho;split at ho
 ·simp at ho
 split at ho
 ·simp at ho
 ·obtain⟨n,_,rfl⟩:=List.mem_map.1 ho;simp only[Bool.false_eq_true,false_and,and_false,if_false];split<;>split<;>simp
theorem qee(hE:ku E){l:GList}(h:zF l=true)(v:List UInt8)(ho:∀c ∈ l.calls,c.act=0):∀c ∈ (zn E l v false).1.calls,c.act=0:=by
 by_cases hw:ql v=[]
 ·rw[qbi h false hw];intro c hc;simp at hc
 rw[W9 h hw];refine VZ (qa0 h _) (JB _ _) (fun o hx=>?_) (fun o hx=>?_) ho
 ·obtain⟨w,_,hw2⟩:=List.mem_flatMap.1 hx;exact qfE hE _ _ _ w o hw2
 ·obtain⟨w,_,hw2⟩:=List.mem_flatMap.1 hx;exact qeR _ _ w o hw2
theorem Kd{l:GList}(h:zF l=true)(v:List UInt8)(fl:Bool)(h0:0<=l.mode):0<=(zn E l v fl).1.mode:=by
 by_cases hw:ql v=[]
 ·rw[qbi h fl hw];exact Int.le_refl 0
 ·rw[qbh h fl hw];unfold yX;split
  ·split<;>decide
  ·exact h0
theorem qka(hE:ku E){p:Pol}(h:PI p)(k v:List UInt8):PI (kN E p k v).1:=by
 unfold kN;split
 ·exact⟨{ h.may with fil:=VJ hE h.may.fil v true },Kd h.may.fil v true h.f0,h.l0,h.m0,h.s0⟩
 split
 ·exact⟨{ h.may with log:=VJ hE h.may.log v false,own:=qee hE h.may.log v h.may.own },h.f0,Kd h.may.log v false h.l0,h.m0,h.s0⟩
 split
 ·split
  ·rename_i hz;refine⟨{ h.may with deny:=?_ },h.f0,h.l0,h.m0,h.s0⟩;show XK (kX v).1=true;unfold kX at hz ⊢;split
   ·decide
   ·rename_i hk;rw[if_neg hk] at hz;split
    ·obtain⟨q0,q1,_⟩:=Zo v;unfold XK;simp only[Bool.or_eq_true,Bool.and_eq_true,decide_eq_true_eq];right;omega
    ·rename_i hk2;rw[if_neg hk2] at hz;exact absurd hz (by decide)
  ·exact h
 ·exact h
theorem qci{l:List Int}{n x:Int}{is:Bool}(h:x ∈ jl l n is):x=n∨x ∈ l:=by
 unfold jl at h;dsimp only at h;split at h
 ·rcases List.mem_append.1 h with h|h
  ·exact .inr (List.mem_filter.1 (List.mem_of_mem_take h)).1
  ·rcases List.mem_cons.1 h with h|h
   ·exact .inl h
   ·exact .inr (List.mem_filter.1 (List.mem_of_mem_drop h)).1
 ·exact .inr (List.mem_filter.1 h).1
theorem qga{w:List UInt8}(h:(jB w).2=0):0<=(jB w).1∧(jB w).1<6:=by
 have idx:∀(q:List UInt8×Int->Bool) (t:List (List UInt8×Int)) (j:Nat),jf q t j = -1∨((j:Int)<=jf q t j∧jf q t j<j+t.length):=by
  intro q t
  induction t with
  | nil=>intro j;left;rfl
  | cons x t ih =>
   intro j;unfold jf;split
   ·right;simp;omega
   ·rcases ih (j+1) with h|⟨h1,h2⟩
    ·exact .inl h
    ·right;simp at h1 h2 ⊢;omega
 unfold jB at h ⊢;split at h
 ·rename_i e;rw[if_pos e];decide
 ·rename_i e;rw[if_neg e];split at h
  ·exact absurd h (by decide)
  ·rename_i e2;rw[if_neg e2];have hl:zK.length=6:=rfl;rcases idx (fun x=>decide (x.1=w)) zK 0 with h|h
   ·rw[h] at e2;exact absurd (by decide) e2
   ·rw[hl] at h;simp at h ⊢;omega
theorem WA:∀(ws:List (List UInt8)) (s:List Int×List (Int×List UInt8)),(∀x ∈ s.1,0<=x∧x<6)->∀x ∈ (ws.foldl zp s).1,0<=x∧x<6
 | [],_,h=>h
 | w::ws,s,h=>by
  rw[List.foldl_cons];refine WA ws _ ?_;unfold zp;split
  ·rename_i hz;intro x hx;rcases qci (show x ∈ jl s.1 (jB w).1 true from hx) with rfl|hx
   ·exact qga hz
   ·exact h x hx
  ·exact h
theorem qeD{w:List UInt8}(h:(JK w).2=0):XB (JK w).1=true:=by
 have f:∀t:List (List UInt8×Int),(xe w 180 t).2=0->(xe w 180 t).1 ∈ t.map (·.2):=by
  intro t
  induction t with
  | nil=>intro h;exact absurd (show (180:Int)=0 from h) (by decide)
  | cons x t ih =>
   intro h;unfold xe at h ⊢;split
   ·simp
   ·rename_i e;rw[if_neg e] at h;exact List.mem_cons_of_mem _ (ih h)
 have all:∀n ∈ qn.map (·.2),XB n=true:=by decide +kernel
 exact all _ (f _ h)
theorem VV(b:Bool):∀(ws:List (List UInt8)) (s:List Int×List (Int×List UInt8)),(∀x ∈ s.1,XB x=true)->∀x ∈ (ws.foldl (xn b) s).1,XB x=true
 | [],_,h=>h
 | w::ws,s,h=>by
  rw[List.foldl_cons];refine VV b ws _ ?_;unfold xn;split
  ·rename_i hz;intro x hx;rcases qci hx with rfl|hx
   ·exact qeD hz
   ·exact h x hx
  ·exact h
theorem qfX(q:Nat)(h:q<18446744073709551616):IntKind.wrap .u64 (q:Int)=q:=Vh (by omega) (by omega)
theorem qez(a b:Int):∃q:Nat,yH .u64 a b=q∧q<18446744073709551616∧q=(BitVec.ofInt 64 a &&& ~~~ (BitVec.ofInt 64 b)).toNat:=by
 refine⟨(BitVec.ofInt 64 a &&& ~~~ (BitVec.ofInt 64 b)).toNat,?_,(BitVec.ofInt 64 a &&& ~~~ (BitVec.ofInt 64 b)).isLt,rfl⟩;exact qfX _ (BitVec.isLt _)
theorem qnA(a b:Int):∃q:Nat,orI .u64 a b=q∧q<18446744073709551616∧q=(BitVec.ofInt 64 a ||| BitVec.ofInt 64 b).toNat:=by
 refine⟨(BitVec.ofInt 64 a ||| BitVec.ofInt 64 b).toNat,?_,(BitVec.ofInt 64 a ||| BitVec.ofInt 64 b).isLt,rfl⟩
 exact qfX _ (BitVec.isLt _)
theorem qb7(v:BitVec 64):BitVec.ofInt 64 ((v.toNat:Nat):Int)=v:=by
 rw[BitVec.ofInt_natCast,BitVec.ofNat_toNat,BitVec.setWidth_eq]
theorem WG(a b:Int):yH .u64 a b=0↔BitVec.ofInt 64 a &&& ~~~ (BitVec.ofInt 64 b)=0#64:=by
 obtain⟨q,h1,_,h3⟩:=qez a b;rw[h1];constructor
 ·intro h;have:q=0:=by omega
  rw[this] at h3;exact BitVec.eq_of_toNat_eq (by rw[← h3];rfl)
 ·intro h;rw[h] at h3;simp at h3;omega
theorem qos{a b m:Int}(ha:yH .u64 a m=0)(hb:yH .u64 b m=0):yH .u64 (orI .u64 a b) m=0:=by
 rw[WG] at ha hb ⊢;obtain⟨q,h1,_,h3⟩:=qnA a b;rw[h1,h3,qb7]
 have:∀x y z:BitVec 64,(x ||| y) &&& z=(x &&& z) ||| (y &&& z):=by
  intro x y z;ext i hi;simp[Bool.and_or_distrib_right]
 rw[this,ha,hb];rfl
theorem qld{a m:Int}:yH .u64 (yH .u64 m a) m=0:=by
 rw[WG];obtain⟨q,h1,_,h3⟩:=qez m a;rw[h1,h3,qb7]
 ext i hi
 simp;intro h1 h2;simp[h1]
theorem qqk(w:List UInt8):yH .u64 (spM w).1 2114060416=0:=by
 have f:∀t:List (List UInt8×Int),(xe w 181 t).1=0∨(xe w 181 t).1 ∈ t.map (·.2):=by
  intro t
  induction t with
  | nil=>exact .inl rfl
  | cons x t ih =>
   unfold xe;split
   ·right;simp
   ·rcases ih with h|h
    ·exact .inl h
    ·exact .inr (List.mem_cons_of_mem _ h)
 have all:∀n ∈ qk.map (·.2),yH .u64 n 2114060416=0:=by decide +kernel
 rcases f qk with h|h
 ·show yH .u64 (xe w 181 qk).1 2114060416=0;rw[h];decide
 ·exact all _ h
theorem qcc:∀(ws:List (List UInt8)) (s:Int×List (Int×List UInt8)),yH .u64 s.1 2114060416=0->(0<=s.1∧s.1<18446744073709551616)->yH .u64 (ws.foldl xz s).1 2114060416=0∧(0<=(ws.foldl xz s).1∧(ws.foldl xz s).1<18446744073709551616)
 | [],_,h,h2=>⟨h,h2⟩
 | w::ws,s,h,_=>by
  rw[List.foldl_cons];obtain⟨q,h1,h2,_⟩:=qnA s.1 (spM w).1;refine qcc ws _ (qos h (qqk w)) ?_;show 0<=orI .u64 s.1 (spM w).1∧orI .u64 s.1 (spM w).1<18446744073709551616;rw[h1];omega
theorem W7(p:Pol)(h:PI p)(a b c d:Bool):PI { p with we:=a,pe:=b,rt:=c,np:=d }:=⟨⟨h.may.own,h.may.deny,h.may.mode,h.may.ar,h.may.ap,h.may.fr,h.may.fp,h.may.fil,h.may.log,h.may.sp⟩,h.f0,h.l0,h.m0,h.s0⟩
theorem qes{p:Pol}(h:PI p)(v:List UInt8):PI (xO p v).1:=by
 unfold xO;dsimp only
 have h1:∀x ∈ (if ql v=[] then ([]:List Int) else p.arches),0<=x∧x<6:=by
  split
  ·intro x hx;simp at hx
  ·exact h.may.ar
 have h2:(if ql v=[] then ([]:List Int) else p.arches).Pairwise (· < ·):=by
  split
  ·exact List.Pairwise.nil
  ·exact h.may.ap
 refine⟨{ h.may with ar:=?_,ap:=?_ },h.f0,h.l0,h.m0,h.s0⟩
 ·exact WA _ _ h1
 ·exact qaw _ _ h2
theorem qcD{p:Pol}(h:PI p)(v:List UInt8):PI (zb p v).1:=by
 unfold zb;split
 ·refine⟨{ h.may with mode:=⟨show (0:Int)<=2 by decide,.inr rfl⟩,fr:=fun x hx=>?_,fp:=List.Pairwise.nil },h.f0,h.l0,Int.le_refl 0,h.s0⟩
  simp at hx
 split
 ·refine⟨{ h.may with mode:=⟨show (1:Int)<=2 by decide,.inr rfl⟩,fr:=fun x hx=>?_,fp:=List.Pairwise.nil },h.f0,h.l0,show (0:Int)<=1 by decide,h.s0⟩
  simp at hx
 ·dsimp only
  have hm:0<=kT p.fmode (qZ v).2∧kT p.fmode (qZ v).2<=2∧kT p.fmode (qZ v).2≠0:=by
   have:=h.m0;have:=h.may.mode.1;unfold kT;split
   ·split<;>decide
   ·refine⟨by omega,by omega,by assumption⟩
  refine⟨{ h.may with mode:=⟨hm.2.1,.inl hm.2.2⟩,fr:=?_,fp:=?_ },h.f0,h.l0,hm.1,h.s0⟩
  ·exact VV _ _ _ h.may.fr
  ·exact qbw _ _ _ h.may.fp
theorem qa2{p:Pol}(h:PI p)(v:List UInt8):PI (zc p v).1:=by
 unfold zc;split
 ·exact⟨{ h.may with sp:=show yH .u64 0 2114060416=0 by decide },h.f0,h.l0,h.m0,show (0:Int)<=0∧(0:Int)<18446744073709551616 by decide⟩
 split
 ·exact⟨{ h.may with sp:=show yH .u64 0 2114060416=0 by decide },h.f0,h.l0,h.m0,show (0:Int)<=0∧(0:Int)<18446744073709551616 by decide⟩
 split
 ·exact⟨{ h.may with sp:=show yH .u64 wk 2114060416=0 by decide },h.f0,h.l0,h.m0,show 0<=wk∧wk<18446744073709551616 by decide⟩
 ·dsimp only;obtain⟨k1,k2⟩:=qcc (ql (qZ v).1) (0,[]) (by decide) (by decide);generalize (ql (qZ v).1).foldl xz (0,[])=r at k1 k2;unfold qbf;split
  ·split
   ·exact⟨{ h.may with sp:=k1 },h.f0,h.l0,h.m0,k2⟩
   ·obtain⟨q,q1,q2,_⟩:=qez wk r.1;refine⟨{ h.may with sp:=qld },h.f0,h.l0,h.m0,?_⟩;show 0<=yH .u64 wk r.1∧yH .u64 wk r.1<_;rw[q1];omega
  ·exact h
theorem qkc{p:Pol}(h:PI p)(k v:List UInt8):PI (xE p k v).1:=by
 unfold xE;split
 ·exact qes h v
 split
 ·exact qcD h v
 split
 ·exact qa2 h v
 split
 ·exact W7 p h _ _ _ _
 split
 ·exact W7 p h _ _ _ _
 split
 ·exact W7 p h _ _ _ _
 split
 ·exact W7 p h _ _ _ _
 ·exact h
variable (E)
noncomputable def doM(p:Pol)(a:Asg):Pol×List GNote :=
 if a.sec≠WT then (p,[⟨a.file,a.line,100,a.sec.take 60⟩])
 else if qgJ a.key=true then ((kN E p a.key a.val).1,(kN E p a.key a.val).2.map (jV a))
 else if qgK a.key=true then ((xE p a.key a.val).1,(xE p a.key a.val).2.map (qN a))
 else (p,[⟨a.file,a.line,100,a.key.take 60⟩])
noncomputable def doS(s:Pol×List GNote)(a:Asg):Pol×List GNote:=((doM E s.1 a).1,s.2++(doM E s.1 a).2)
noncomputable def zM(l:List Asg):Pol×List GNote:=l.foldl (doS E) (QC,[])
def jZ(ns:List GNote):Bool:=ns.any fun n=>!Ve n.err
noncomputable def kM(l:List Asg):Pol×List GNote:=if jZ (zM E l).2=true then (y7,(zM E l).2) else zM E l
variable {E}
theorem qlm(hE:ku E){p:Pol}(h:PI p)(a:Asg):PI (doM E p a).1:=by
 unfold doM;split
 ·exact h
 split
 ·exact qka hE h _ _
 split
 ·exact qkc h _ _
 ·exact h
theorem WH(hE:ku E):∀(l:List Asg) (s:Pol×List GNote),PI s.1->PI (l.foldl (doS E) s).1
 | [],_,h=>h
 | a::l,s,h=>WH hE l _ (qlm hE h a)
theorem qhk(p:Pol)(k v:List UInt8):(xE p k v).2.length<=v.length+1:=by
 have h1:=vc v;have h2:=vc (qZ v).1;have h3:=ZG v;have a1:=WB (ql v);have a2:=fun b=>VW b (ql (qZ v).1)
 have a3:=qbg (ql (qZ v).1)
 have hs:(zH v).2.length<=1:=by
  unfold zH
  repeat' split
  all_goals simp
 unfold xE;split
 ·have:=(a1 (if ql v=[] then [] else p.arches,[])).2
  simp at this;show ((ql v).foldl zp (if ql v=[] then [] else p.arches,[])).2.length<=_
  omega
 split
 ·unfold zb;split
  ·simp
  split
  ·simp
  ·have:=(a2 ((qZ v).2==decide (kT p.fmode (qZ v).2=2)) (p.fams,[])).2;simp at this;dsimp only;simp;omega
 split
 ·unfold zc;split
  ·simp
  split
  ·simp
  split
  ·simp
  ·have:=a3 (0,[]);simp at this;dsimp only;omega
 split
 ·show (zH v).2.length<=_;omega
 split
 ·show (zH v).2.length<=_;omega
 split
 ·show (zH v).2.length<=_;omega
 split
 ·show (zH v).2.length<=_;omega
 ·simp
theorem qfo(E:List UInt8->List (List UInt8)×Int)(p:Pol)(a:Asg):(doM E p a).2.length<=a.val.length+1:=by
 have h1:=qkb E p a.key a.val;have h2:=qhk p a.key a.val;unfold doM;split
 ·simp
 split
 ·simpa using h1
 split
 ·simpa using h2
 ·simp
theorem qcw(E:List UInt8->List (List UInt8)×Int):∀(l:List Asg) (s:Pol×List GNote),(∀a ∈ l,a.val.length<=1000)->(l.foldl (doS E) s).2.length<=s.2.length+1001*l.length
 | [],_,_=>by simp
 | a::l,s,h=>by
  rw[List.foldl_cons];have h1:=qcw E l (doS E s a) fun x hx=>h x (by simp[hx])
  have h2:=qfo E s.1 a;have h3:=h a (by simp);have h4:(doS E s a).2.length=s.2.length+(doM E s.1 a).2.length:=by simp[doS]
  simp only[List.length_cons];omega
end Go.Kc
end
section
/- Lists that are equal, policies that are the same, notes with errors. Condition: the functions' texts are these. -/
namespace Go.Kc
variable {P:Program} {f:Nat}
instance:DecidableEq GCall:=fun a b=>if h:a.name=b.name∧a.act=b.act then isTrue (by obtain⟨h1,h2⟩:=h;cases a;cases b;simp_all) else isFalse (by rintro rfl;exact h ⟨rfl,rfl⟩)
theorem VL{α:Type}{l m:List α}{j:Nat}{x y:α}(hx:l[j]?=some x)(hy:m[j]?=some y)(h:l.take j=m.take j)(e:x=y):l.take (j+1)=m.take (j+1):=by
 rw[List.take_add_one,List.take_add_one,hx,hy,h,e]
def kg:IFn:=⟨[.tmp 4],.seq (.r [.m 4 .F]) (.seq (.seq (.r [.n 6 0,.e 7 6,.n 8 1,.e 9 8,.b 10 .neq 7 9]) (.cond (.t 10) (.seq (.r [.m 4 .F]) (.ret)) (.skip))) (.seq (.seq (.r [.n 11 0,.e 12 11,.m 13 (.k 0)]) (.blk 0 (.loop (.seq (.r [.s 14 13 12]) (.seq (.cond (.t 14) (.skip) (.exit 0)) (.seq (.blk 1 (.seq (.r [.n 15 13,.n 5 15]) (.seq (.reg true [.n 16 0,.n 17 5,.i 18 1 16 17,.d 19 18,.n 20 1,.n 21 5,.i 22 1 20 21,.d 23 22,.b 24 .neq 19 23]) (.cond (.t 24) (.seq (.r [.m 4 .F]) (.ret)) (.skip))))) (.r [.a 25 13 1,.n 13 25]))))))) (.seq (.r [.m 4 .T]) (.ret))))⟩
theorem qqS(hc:qj P f kg=true)(l m:List Int)(hl:l.length<=100000):qc P f [.fz l.length (rI .i64 l),.fz m.length (rI .i64 m)] (.b (decide (l=m))):=by
 refine qc.mk hc (by simp[qt,clo,qh]) ?_;simp only[kg,vI,simprocAttr]
 by_cases hlen:l.length=m.length
 ·have hli:(l.length:Int)=m.length:=by omega
  simp only[↓vS,vT,simprocAttr,hli];refine SL.loop (α:=Nat) (fun j=>[(0,.fz l.length (rI .i64 l)),(1,.fz m.length (rI .i64 m)),(12,.i .i64 l.length),(13,.i .i64 j)]) (fun _=>[]) (fun j=>j<=l.length∧l.take j=m.take j) (fun j=>l.length-j) 0 [] ?_ ?_ ?_ rfl ?_ ?_
  ·simp[vw,qh,hli]
  ·trivial
  ·simp
  ·exact⟨Nat.zero_le _,by simp⟩
  rintro j ⟨hj,hI⟩ G ih;simp only[vI,simprocAttr]
  by_cases hlt:j<l.length
  ·have hlm:j<m.length:=by omega
   have hx:l[j]?=some l[j]:=List.getElem?_eq_getElem hlt;have hy:m[j]?=some m[j]:=List.getElem?_eq_getElem hlm;have hw:IntKind.wrap .i64 ((j:Int)+1)=((j+1:Nat):Int):=by rw[qB (by omega) (by omega)];omega
   by_cases e:l[j]=m[j]
   ·simp only[↓vS,vT,simprocAttr,hlt,hlm];refine zQ ?_;simp (decide:=true) only [↓vS,vT,simprocAttr,hlt,hlm,Nat.mul_one,x9,hx,hy,Option.map_some,e,hw,ne_eq,not_true_eq_false];refine ih (j+1) ⟨by omega,VL hx hy hI e⟩ (by omega) _ _ (Wk.mk _ _ [] ?_ ?_ ?_ rfl)
    ·simp[vw,qh]
    ·trivial
    ·simp
   ·have hne:l≠m:=by
     intro h;subst h;exact e rfl
    simp only[↓vS,vT,simprocAttr,hlt,hlm];refine zQ ?_;simp (decide:=true) only [↓vS,vT,simprocAttr,hlt,hlm,Nat.mul_one,x9,hx,hy,Option.map_some,e,hw,ne_eq,not_false_eq_true];simp[vZ,hne]
  ·have he:l=m:=by
    rw[List.take_of_length_le (by omega),List.take_of_length_le (by omega)] at hI;exact hI
   simp only[↓vS,vT,simprocAttr,hlt];simp[vZ,he]
 ·have hli:¬(l.length:Int)=m.length:=by omega
  have hne:l≠m:=fun h=>hlen (by rw[h])
  simp only[↓vS,vT,simprocAttr,hli];simp[vZ,hne]
def jT:IFn:=⟨[.tmp 4],.seq (.r [.m 4 .F]) (.seq (.seq (.r [.n 6 0,.e 7 6,.n 8 1,.e 9 8,.b 10 .neq 7 9]) (.cond (.t 10) (.seq (.r [.m 4 .F]) (.ret)) (.skip))) (.seq (.seq (.r [.n 11 0,.e 12 11,.m 13 (.k 0)]) (.blk 0 (.loop (.seq (.r [.s 14 13 12]) (.seq (.cond (.t 14) (.skip) (.exit 0)) (.seq (.blk 1 (.seq (.r [.n 15 13,.n 5 15]) (.seq (.reg true [.n 16 0,.n 17 5,.i 18 1 16 17,.d 19 18,.n 20 1,.n 21 5,.i 22 1 20 21,.d 23 22,.b 24 .neq 19 23]) (.cond (.t 24) (.seq (.r [.m 4 .F]) (.ret)) (.skip))))) (.r [.a 25 13 1,.n 13 25]))))))) (.seq (.r [.m 4 .T]) (.ret))))⟩
theorem qqT(hc:qj P f jT=true)(l m:List Int)(hl:l.length<=100000):qc P f [.fz l.length (rI .u32 l),.fz m.length (rI .u32 m)] (.b (decide (l=m))):=by
 refine qc.mk hc (by simp[qt,clo,qh]) ?_;simp only[jT,vI,simprocAttr]
 by_cases hlen:l.length=m.length
 ·have hli:(l.length:Int)=m.length:=by omega
  simp only[↓vS,vT,simprocAttr,hli];refine SL.loop (α:=Nat) (fun j=>[(0,.fz l.length (rI .u32 l)),(1,.fz m.length (rI .u32 m)),(12,.i .i64 l.length),(13,.i .i64 j)]) (fun _=>[]) (fun j=>j<=l.length∧l.take j=m.take j) (fun j=>l.length-j) 0 [] ?_ ?_ ?_ rfl ?_ ?_
  ·simp[vw,qh,hli]
  ·trivial
  ·simp
  ·exact⟨Nat.zero_le _,by simp⟩
  rintro j ⟨hj,hI⟩ G ih;simp only[vI,simprocAttr]
  by_cases hlt:j<l.length
  ·have hlm:j<m.length:=by omega
   have hx:l[j]?=some l[j]:=List.getElem?_eq_getElem hlt;have hy:m[j]?=some m[j]:=List.getElem?_eq_getElem hlm;have hw:IntKind.wrap .i64 ((j:Int)+1)=((j+1:Nat):Int):=by rw[qB (by omega) (by omega)];omega
   by_cases e:l[j]=m[j]
   ·simp only[↓vS,vT,simprocAttr,hlt,hlm];refine zQ ?_;simp (decide:=true) only [↓vS,vT,simprocAttr,hlt,hlm,Nat.mul_one,x9,hx,hy,Option.map_some,e,hw,ne_eq,not_true_eq_false];refine ih (j+1) ⟨by omega,VL hx hy hI e⟩ (by omega) _ _ (Wk.mk _ _ [] ?_ ?_ ?_ rfl)
    ·simp[vw,qh]
    ·trivial
    ·simp
   ·have hne:l≠m:=by
     intro h;subst h;exact e rfl
    simp only[↓vS,vT,simprocAttr,hlt,hlm];refine zQ ?_;simp (decide:=true) only [↓vS,vT,simprocAttr,hlt,hlm,Nat.mul_one,x9,hx,hy,Option.map_some,e,hw,ne_eq,not_false_eq_true];simp[vZ,hne]
  ·have he:l=m:=by
    rw[List.take_of_length_le (by omega),List.take_of_length_le (by omega)] at hI;exact hI
   simp only[↓vS,vT,simprocAttr,hlt];simp[vZ,he]
 ·have hli:¬(l.length:Int)=m.length:=by omega
  have hne:l≠m:=fun h=>hlen (by rw[h])
  simp only[↓vS,vT,simprocAttr,hli];simp[vZ,hne]
def xZ:IFn:=⟨[.tmp 4],.seq (.r [.m 4 .F]) (.seq (.seq (.r [.n 6 0,.e 7 6,.n 8 1,.e 9 8,.b 10 .neq 7 9]) (.cond (.t 10) (.seq (.r [.m 4 .F]) (.ret)) (.skip))) (.seq (.seq (.r [.n 11 0,.e 12 11,.m 13 (.k 0)]) (.blk 0 (.loop (.seq (.r [.s 14 13 12]) (.seq (.cond (.t 14) (.skip) (.exit 0)) (.seq (.blk 1 (.seq (.r [.n 15 13,.n 5 15]) (.seq (.reg true [.n 16 0,.n 17 5,.i 18 2 16 17,.v 19 2 18,.n 20 1,.n 21 5,.i 22 2 20 21,.v 23 2 22,.q 24 (.eqA true [.s,.i] (.t 19) (.t 23))]) (.cond (.t 24) (.seq (.r [.m 4 .F]) (.ret)) (.skip))))) (.r [.a 25 13 1,.n 13 25]))))))) (.seq (.r [.m 4 .T]) (.ret))))⟩
theorem qoC(hc:qj P f xZ=true)(l m:List GCall)(hl:l.length<=100000):qc P f [.fz l.length (rC l),.fz m.length (rC m)] (.b (decide (l=m))):=by
 refine qc.mk hc (by simp[qt,clo,qg]) ?_;simp only[xZ,vI,simprocAttr]
 by_cases hlen:l.length=m.length
 ·have hli:(l.length:Int)=m.length:=by omega
  simp only[↓vS,vT,simprocAttr,hli];refine SL.loop (α:=Nat) (fun j=>[(0,.fz l.length (rC l)),(1,.fz m.length (rC m)),(12,.i .i64 l.length),(13,.i .i64 j)]) (fun _=>[]) (fun j=>j<=l.length∧l.take j=m.take j) (fun j=>l.length-j) 0 [] ?_ ?_ ?_ rfl ?_ ?_
  ·simp[vw,qg,hli]
  ·trivial
  ·simp
  ·exact⟨Nat.zero_le _,by simp⟩
  rintro j ⟨hj,hI⟩ G ih;simp only[vI,simprocAttr]
  by_cases hlt:j<l.length
  ·have hlm:j<m.length:=by omega
   have hx:l[j]?=some l[j]:=List.getElem?_eq_getElem hlt;have hy:m[j]?=some m[j]:=List.getElem?_eq_getElem hlm;have hw:IntKind.wrap .i64 ((j:Int)+1)=((j+1:Nat):Int):=by rw[qB (by omega) (by omega)];omega
   have ex:=Z6 hx;have ey:=Z6 hy;have bx:=yz hlt;have bY:=yz hlm;have hst:=fun e=>VL hx hy hI e
   have hne:l[j]≠m[j]->l≠m:=by
    intro e h;subst h;exact e rfl
   generalize l[j]=a at ex hst hne;generalize m[j]=b at ey hst hne
   by_cases e1:a.name=b.name
   ·by_cases e2:a.act=b.act
    ·have e:a=b:=by cases a;cases b;simp_all
     simp only[↓vS,vT,simprocAttr,hlt,hlm];refine zQ ?_;simp (decide:=true) only [↓vS,vT,simprocAttr,hlt,hlm,ex,ey,bx,bY,zt,e1,e2,hw,beq_self_eq_true];refine ih (j+1) ⟨by omega,hst e⟩ (by omega) _ _ (Wk.mk _ _ [] ?_ ?_ ?_ rfl)
     ·simp[vw,qg]
     ·trivial
     ·simp
    ·have hn:=hne (by rintro rfl;exact e2 rfl);simp only[↓vS,vT,simprocAttr,hlt,hlm];refine zQ ?_;simp (decide:=true) only [↓vS,vT,simprocAttr,hlt,hlm,ex,ey,bx,bY,zt,e1,e2,hw,beq_self_eq_true];simp[vZ,hn]
   ·have hn:=hne (by rintro rfl;exact e1 rfl);simp only[↓vS,vT,simprocAttr,hlt,hlm];refine zQ ?_;simp (decide:=true) only [↓vS,vT,simprocAttr,hlt,hlm,ex,ey,bx,bY,zt,e1,hw];simp[vZ,hn]
  ·have he:l=m:=by
    rw[List.take_of_length_le (by omega),List.take_of_length_le (by omega)] at hI;exact hI
   simp only[↓vS,vT,simprocAttr,hlt];simp[vZ,he]
 ·have hli:¬(l.length:Int)=m.length:=by omega
  have hne:l≠m:=fun h=>hlen (by rw[h])
  simp only[↓vS,vT,simprocAttr,hli];simp[vZ,hne]
def Jk(a b:GList):Bool:=decide (a.mode=b.mode)&&decide (a.calls=b.calls)
def Zu(a:Nat):IFn:=⟨[.tmp 4],.seq (.r [.q 2 (.box (.t 0)),.q 3 (.box (.t 1)),.m 4 .F]) (.seq (.r [.f 5 0 2,.d 6 5,.f 7 0 3,.d 8 7,.b 9 .eql 6 8,.n 10 9,.h 11 1 2 10 true,.j 12 11 10 true,.h 13 1 3 10 true,.j 14 13 10 true,⟨(some 15),.callF a [.t 12,.t 14],(some (10,true))⟩,.p 16 10 15,.n 4 16]) (.ret))⟩
theorem qtp{g:Nat}(hc:qj P f (Zu g)=true)(hg:∀l m:List GCall,l.length<=100000->qc P g [.fz l.length (rC l),.fz m.length (rC m)] (.b (decide (l=m))))(a b:GList)(hl:a.calls.length<=100000):qc P f [.agg (qv a),.agg (qv b)] (.b (Jk a b)):=by
 refine qc.mk hc rfl ?_;simp only[Zu,qv,vI,simprocAttr]
 by_cases h:a.mode=b.mode
 ·simp only[↓vS,vT,simprocAttr,h];refine (hg a.calls b.calls hl).sc ?_;simp only[↓vS,vT,simprocAttr];simp[vZ,Jk,h]
 ·simp only[↓vS,vT,simprocAttr,h];simp[vZ,Jk,h]
def W6(p q:Pol):Bool:=decide (p.arches=q.arches)&&decide (p.fams=q.fams)&&Jk p.filter q.filter&&Jk p.log q.log&&((p.we==q.we)&&(p.pe==q.pe)&&(p.rt==q.rt)&&(p.np==q.np))&&decide (p.deny=q.deny)&&decide (p.fmode=q.fmode)&&decide (p.spaces=q.spaces)
theorem qd5(p q:Pol):W6 p q=true↔p=q:=by
 obtain⟨a1,⟨b1,c1⟩,d1,⟨e1,f1⟩,g1,h1,i1,j1,k1,l1,m1⟩:=p;obtain⟨a2,⟨b2,c2⟩,d2,⟨e2,f2⟩,g2,h2,i2,j2,k2,l2,m2⟩:=q;simp only[W6,Jk,Bool.and_eq_true,decide_eq_true_eq,beq_iff_eq,Pol.mk.injEq,GList.mk.injEq];constructor
 ·rintro⟨⟨⟨⟨⟨⟨⟨h,h'⟩,h2,h3⟩,h4,h5⟩,⟨⟨h6,h7⟩,h8⟩,h9⟩,h10⟩,h11⟩,h12⟩;exact⟨h,⟨h2,h3⟩,h10,⟨h4,h5⟩,h',h11,h12,h6,h7,h8,h9⟩
 ·rintro⟨h,⟨h2,h3⟩,h10,⟨h4,h5⟩,h',h11,h12,h6,h7,h8,h9⟩;exact⟨⟨⟨⟨⟨⟨⟨h,h'⟩,h2,h3⟩,h4,h5⟩,⟨⟨h6,h7⟩,h8⟩,h9⟩,h10⟩,h11⟩,h12⟩
theorem Xa(p:Pol):W6 p p=true:=(qd5 p p).2 rfl
def wv(a b c:Nat):ICode:=.seq (.r [.n 62 6,.n 63 62,.y 64 7 63,.p 65 63 64,.n 66 65,.h 67 3 2 66 true,.j 68 67 66 true,.h 69 3 3 66 true,.j 70 69 66 true,.g 71 (.bin .eql (.t 68) (.t 70)) 66 true,.p 72 66 71,.n 73 72,.h 74 7 2 73 true,.j 75 74 73 true,.h 76 7 3 73 true,.j 77 76 73 true,.g 78 (.bin .eql (.t 75) (.t 77)) 73 true,.p 79 73 78,.n 80 79,.h 81 8 2 80 true,.j 82 81 80 true,.h 83 8 3 80 true,.j 84 83 80 true,.g 85 (.bin .eql (.t 82) (.t 84)) 80 true,.p 86 80 85,.n 4 86]) (.ret)
def wu(a b c:Nat):ICode:=.seq (.r [.f 36 9 2,.d 37 36,.f 38 9 3,.d 39 38,.q 40 (.eqB false (.t 37) (.t 39)),.n 41 40,.h 42 10 2 41 true,.j 43 42 41 true,.h 44 10 3 41 true,.j 45 44 41 true,.g 46 (.eqB false (.t 43) (.t 45)) 41 true,.p 47 41 46,.n 48 47,.h 49 11 2 48 true,.j 50 49 48 true,.h 51 11 3 48 true,.j 52 51 48 true,.g 53 (.eqB false (.t 50) (.t 52)) 48 true,.p 54 48 53,.n 55 54,.h 56 12 2 55 true,.j 57 56 55 true,.h 58 12 3 55 true,.j 59 58 55 true,.g 60 (.eqB false (.t 57) (.t 59)) 55 true,.p 61 55 60,.n 7 61]) (.cut (wv a b c))
def X4(a b c:Nat):IFn:=⟨[.tmp 4],.seq (.r [.q 2 (.box (.t 0)),.q 3 (.box (.t 1)),.m 4 .F]) (.seq (.r [.m 5 (.c (.fn a [] []))]) (.seq (.r [.f 8 0 2,.d 9 8,.f 10 0 3,.d 11 10,.l 12 b [.t 9,.t 11],.n 13 12,.h 14 6 2 13 true,.j 15 14 13 true,.h 16 6 3 13 true,.j 17 16 13 true,⟨(some 18),.callF c [.t 15,.t 17],(some (13,true))⟩,.p 19 13 18,.n 20 19,.y 21 5 20,.h 22 1 2 20 true,.g 23 (.loadN 2 (.t 22)) 20 true,.h 24 1 3 20 true,.g 25 (.loadN 2 (.t 24)) 20 true,⟨(some 26),.callV (.t 21) [.t 23,.t 25],(some (20,true))⟩,.p 27 20 26,.n 28 27,.y 29 5 28,.h 30 4 2 28 true,.g 31 (.loadN 2 (.t 30)) 28 true,.h 32 4 3 28 true,.g 33 (.loadN 2 (.t 32)) 28 true,⟨(some 34),.callV (.t 29) [.t 31,.t 33],(some (28,true))⟩,.p 35 28 34,.n 6 35]) (.cut (wu a b c))))⟩
theorem qjT(g1 g2 g3:Nat)(p q:Pol)(lists says:Bool){t':Tr AV}{h':Hp}(hw:Wk 0 t' h' (mkT [(2,.ptr 0 0),(3,.ptr 1 0),(6,.b lists),(7,.b says)]) (mkH 0 [.cells 0 true false (qo p),.cells 0 true false (qo q)])) :
  S P 0 (wv g1 g2 g3) (wE [.tmp 4] fun v' h'=>Frz h' v' (.b (lists&&says&&decide (p.deny=q.deny)&&decide (p.fmode=q.fmode)&&decide (p.spaces=q.spaces)))) t' h':=by
 refine S.weak hw (qq ?_);simp only[wv,qo,vI,simprocAttr];cases lists with
 | false =>
  simp only[↓vS,vT,simprocAttr];simp[vZ]
 | true =>
  cases says with
  | false =>
   simp only[↓vS,vT,simprocAttr];simp[vZ]
  | true =>
   by_cases d1:p.deny=q.deny
   ·by_cases d2:p.fmode=q.fmode
    ·by_cases d3:p.spaces=q.spaces
     ·simp only[↓vS,vT,simprocAttr,d1,d2,d3];simp[vZ]
     ·simp only[↓vS,vT,simprocAttr,d1,d2,d3];simp[vZ]
    ·simp only[↓vS,vT,simprocAttr,d1,d2];simp[vZ]
   ·simp only[↓vS,vT,simprocAttr,d1];simp[vZ]
theorem qjS(g1 g2 g3:Nat)(p q:Pol)(lists:Bool){t':Tr AV}{h':Hp}(hw:Wk 0 t' h' (mkT [(2,.ptr 0 0),(3,.ptr 1 0),(6,.b lists)]) (mkH 0 [.cells 0 true false (qo p),.cells 0 true false (qo q)])) :
  S P 0 (wu g1 g2 g3) (wE [.tmp 4] fun v' h'=>Frz h' v' (.b (lists&&((p.we==q.we)&&(p.pe==q.pe)&&(p.rt==q.rt)&&(p.np==q.np))&&decide (p.deny=q.deny)&&decide (p.fmode=q.fmode)&&decide (p.spaces=q.spaces)))) t' h':=by
 refine S.weak hw (qq ?_)
 have go:∀s,s=((p.we==q.we)&&(p.pe==q.pe)&&(p.rt==q.rt)&&(p.np==q.np))->∀{t':Tr AV} {h':Hp},Wk 0 t' h' (mkT [(2,.ptr 0 0),(3,.ptr 1 0),(6,.b lists),(7,.b s)]) (mkH 0 [.cells 0 true false (qo p),.cells 0 true false (qo q)])->
   S P 0 (wv g1 g2 g3) (wE [.tmp 4] fun v' h'=>Frz h' v' (.b (lists&&((p.we==q.we)&&(p.pe==q.pe)&&(p.rt==q.rt)&&(p.np==q.np))&&decide (p.deny=q.deny)&&decide (p.fmode=q.fmode)&&decide (p.spaces=q.spaces)))) t' h':=by
  rintro s rfl t' h' hw;exact qjT g1 g2 g3 p q lists _ hw
 simp only[wu,qo,vI,simprocAttr]
 by_cases w1:p.we=q.we
 ·by_cases w2:p.pe=q.pe
  ·by_cases w3:p.rt=q.rt
   ·by_cases w4:p.np=q.np
    ·simp (decide:=true) only [↓vS,vT,simprocAttr,w1,w2,w3,w4,beq_self_eq_true];refine go true (by simp[w1,w2,w3,w4]) (Wk.mk _ _ [0,1] ?_ ?_ ?_ rfl)
     ·simp[vw]
     ·simp[vw,qo,qh,qg,w1,w2,w3,w4]
     ·simp
    ·have e:(p.np==q.np)=false:=by simpa using w4
     simp (decide:=true) only [↓vS,vT,simprocAttr,w1,w2,w3,e,beq_self_eq_true];refine go false (by simp[w1,w2,w3,w4]) (Wk.mk _ _ [0,1] ?_ ?_ ?_ rfl)
     ·simp[vw]
     ·simp[vw,qo,qh,qg,w1,w2,w3]
     ·simp
   ·have e:(p.rt==q.rt)=false:=by simpa using w3
    simp (decide:=true) only [↓vS,vT,simprocAttr,w1,w2,e,beq_self_eq_true];refine go false (by simp[w1,w2,w3]) (Wk.mk _ _ [0,1] ?_ ?_ ?_ rfl)
    ·simp[vw]
    ·simp[vw,qo,qh,qg,w1,w2]
    ·simp
  ·have e:(p.pe==q.pe)=false:=by simpa using w2
   simp (decide:=true) only [↓vS,vT,simprocAttr,w1,e,beq_self_eq_true];refine go false (by simp[w1,w2]) (Wk.mk _ _ [0,1] ?_ ?_ ?_ rfl)
   ·simp[vw]
   ·simp[vw,qo,qh,qg,w1]
   ·simp
 ·have e:(p.we==q.we)=false:=by simpa using w1
  simp (decide:=true) only [↓vS,vT,simprocAttr,e];refine go false (by simp[w1]) (Wk.mk _ _ [0,1] ?_ ?_ ?_ rfl)
  ·simp[vw]
  ·simp[vw,qo,qh,qg]
  ·simp
def qcn(P:Program)(f:Nat):Prop:=∀p q:Pol,PolOk p->qc P f [.agg (qo p),.agg (qo q)] (.b (W6 p q))
theorem qun{g1 g2 g3:Nat}(hc:qj P f (X4 g1 g2 g3)=true)(h1:∀a b:GList,a.calls.length<=100000->qc P g1 [.agg (qv a),.agg (qv b)] (.b (Jk a b)))
  (h2:∀l m:List Int,l.length<=100000->qc P g2 [.fz l.length (rI .i64 l),.fz m.length (rI .i64 m)] (.b (decide (l=m)))) (h3:∀l m:List Int,l.length<=100000->qc P g3 [.fz l.length (rI .u32 l),.fz m.length (rI .u32 m)] (.b (decide (l=m)))):qcn P f:=by
 intro p q hp;have ha:=hp.a;have hf:=hp.f;have hcc:=hp.c;have hl:=hp.l;refine qc.mk hc rfl ?_
 have go:∀s,s=(decide (p.arches=q.arches)&&decide (p.fams=q.fams)&&Jk p.filter q.filter&&Jk p.log q.log)->∀{t':Tr AV} {h':Hp},Wk 0 t' h' (mkT [(2,.ptr 0 0),(3,.ptr 1 0),(6,.b s)]) (mkH 0 [.cells 0 true false (qo p),.cells 0 true false (qo q)])->
   S P 0 (wu g1 g2 g3) (wE [.tmp 4] fun v' h'=>Frz h' v' (.b (W6 p q))) t' h':=by
  rintro s rfl t' h' hw;exact qjS g1 g2 g3 p q _ hw
 simp only[X4,qo,vI,simprocAttr];simp only[↓vS,vT,simprocAttr];refine (h2 p.arches q.arches (by omega)).sc ?_;cases k1:decide (p.arches=q.arches) with
 | false =>
  simp only[↓vS,vT,simprocAttr];refine go false (by simp[k1]) (Wk.mk _ _ [0,1] ?_ ?_ ?_ rfl)
  ·simp[vw]
  ·simp[vw,qo,qh,qg]
  ·simp
 | true =>
  simp only[↓vS,vT,simprocAttr];refine (h3 p.fams q.fams (by omega)).sc ?_;cases k2:decide (p.fams=q.fams) with
  | false =>
   simp only[↓vS,vT,simprocAttr];refine go false (by simp[k2]) (Wk.mk _ _ [0,1] ?_ ?_ ?_ rfl)
   ·simp[vw]
   ·simp[vw,qo,qh,qg]
   ·simp
  | true =>
   simp only[↓vS,vT,simprocAttr];refine (h1 p.filter q.filter (by omega)).sc ?_;cases k3:Jk p.filter q.filter with
   | false =>
    simp only[↓vS,vT,simprocAttr];refine go false (by simp[k3]) (Wk.mk _ _ [0,1] ?_ ?_ ?_ rfl)
    ·simp[vw]
    ·simp[vw,qo,qh,qg]
    ·simp
   | true =>
    simp only[↓vS,vT,simprocAttr];refine (h1 p.log q.log (by omega)).sc ?_;simp only[↓vS,vT,simprocAttr];refine go (Jk p.log q.log) (by rw[k1,k2,k3];simp) (Wk.mk _ _ [0,1] ?_ ?_ ?_ rfl)
    ·simp[vw]
    ·simp[vw,qo,qh,qg]
    ·simp
def xr:IFn:=⟨[.tmp 4],.seq (.r [.m 4 (.k 0)]) (.seq (.seq (.r [.n 6 0,.e 7 6,.m 8 (.k 0)]) (.blk 0 (.loop (.seq (.r [.s 9 8 7]) (.seq (.cond (.t 9) (.skip) (.exit 0)) (.seq (.blk 1 (.seq (.r [.n 10 8,.n 5 10]) (.seq (.r [.n 11 1,.n 12 0,.n 13 5,.i 14 4 12 13,.v 15 4 14,⟨(some 16),.callV (.t 11) [.t 15],none⟩]) (.cond (.t 16) (.seq (.r [.n 17 5,.n 4 17]) (.ret)) (.skip))))) (.r [.a 18 8 1,.n 8 18]))))))) (.seq (.r [.q 4 (.mov (.c (.i .i64 (-1))))]) (.ret)))⟩
theorem qfx(hc:qj P f xr=true):ZO 4 P f:=by
 intro α enc p g a c l hlen ha hc' hl hp;refine qc.mk hc (by simp[qt,clo,ha,hc']) ?_;simp only[xr,vI,simprocAttr];simp only[↓vS,vT,simprocAttr];refine SL.loop (α:=Nat) (fun j=>[(0,.fz l.length (l.flatMap enc)),(1,.fn g a c),(7,.i .i64 l.length),(8,.i .i64 j)]) (fun _=>[]) (fun j=>j<=l.length∧jf p l 0=jf p (l.drop j) j) (fun j=>l.length-j) 0 [] ?_ ?_ ?_ rfl ?_ ?_
 ·simp[vw,qa,ha,hc']
 ·trivial
 ·simp
 ·simp
 rintro j ⟨hj,hI⟩ G ih;simp only[vI,simprocAttr]
 by_cases hlt:j<l.length
 ·have hx:l[j]?=some l[j]:=List.getElem?_eq_getElem hlt;have hw:IntKind.wrap .i64 ((j:Int)+1)=(j:Int)+1:=qB (by omega) (by have:=hl;simp only[qf] at this;omega)
  have he:=xc hlen hx;have hb:j*4+4<=(l.flatMap enc).length:=by rw[zY hlen];omega
  rw[List.drop_eq_getElem_cons hlt,jf] at hI;simp only[↓vS,vT,simprocAttr,hlt,hb,he,hw];refine (hp l[j] (List.getElem_mem hlt)).sc ?_
  by_cases hpx:p l[j]=true
  ·rw[if_pos hpx] at hI;simp only[↓vS,vT,simprocAttr,hpx,vZ,hI]
  ·rw[if_neg hpx] at hI;simp only[↓vS,vT,simprocAttr,hpx,hw];refine ih (j+1) ⟨by omega,hI⟩ (by omega) _ _ (Wk.mk _ _ [] ?_ ?_ ?_ rfl)
   ·simp[vw,qa,ha,hc']
   ·trivial
   ·simp
 ·simp only[↓vS,vT,simprocAttr,hlt];rw[List.drop_eq_nil_of_le (by omega)] at hI;simp[hI,jf,vZ]
def xb(a:Nat):IFn:=⟨[.tmp 4],.seq (.r [.m 4 .F]) (.seq (.r [.n 5 0,.n 6 1,.l 7 a [.t 5,.t 6],.w 8 .geq 7 0,.n 4 8]) (.ret))⟩
theorem qij{g:Nat}(hc:qj P f (xb g)=true)(h:ZO 4 P g)(l:List GNote)(k:Nat)(p:GNote->Bool)(hk:∀c,qc P k [.agg (Xf c)] (.b (p c)))(hl:l.length<=qf):qc P f [.fz l.length (rN l),.fn k [] []] (.b (l.any p)):=by
 refine qc.mk hc (by simp[qt,clo,qb]) ?_;simp only[xb,vI,simprocAttr];simp only[↓vS,vT,simprocAttr];refine (h Xf p k [] [] l Vj rfl rfl hl fun x _=>hk x).sc ?_
 simp only[↓vS,vT,simprocAttr];simp[vZ,← qaT p l 0]
def Qr(a:Nat):IFn:=⟨[.tmp 2],.seq (.r [.q 1 (.box (.t 0)),.m 2 .F]) (.seq (.r [.f 3 2 1,.d 4 3,.l 5 a [.t 4],.q 6 (.un .not (.t 5)),.n 2 6]) (.ret))⟩
theorem qr4{g:Nat}(hc:qj P f (Qr g)=true)(hg:∀x,qc P g [.i .i64 x] (.b (Ve x)))(n:GNote):qc P f [.agg (Xf n)] (.b (!Ve n.err)):=by
 refine qc.mk hc rfl ?_;simp only[Qr,Xf,vI,simprocAttr];simp only[↓vS,vT,simprocAttr];refine (hg n.err).sc ?_;simp only[↓vS,vT,simprocAttr];simp[vZ]
def Zt(a b:Nat):IFn:=⟨[.tmp 2],.seq (.r [.m 2 .F]) (.seq (.r [.n 3 0,.l 4 a [.t 3,(.c (.fn b [] []))],.n 2 4]) (.ret))⟩
theorem qth{g1 g2:Nat}(hc:qj P f (Zt g1 g2)=true)(h1:∀(l:List GNote) (k:Nat) (p:GNote->Bool),(∀c,qc P k [.agg (Xf c)] (.b (p c)))->l.length<=qf->qc P g1 [.fz l.length (rN l),.fn k [] []] (.b (l.any p)))
  (h2:∀n,qc P g2 [.agg (Xf n)] (.b (!Ve n.err))) (l:List GNote) (hl:l.length<=qf):qc P f [.fz l.length (rN l)] (.b (jZ l)):=by
 refine qc.mk hc (by simp[qt,clo,qb]) ?_;simp only[Zt,vI,simprocAttr];simp only[↓vS,vT,simprocAttr];refine (h1 l g2 _ h2 hl).sc ?_;simp only[↓vS,vT,simprocAttr];simp[vZ,jZ]
end Go.Kc
end
section
/- What policy.do and policy.Resolve answer. Condition: the functions' texts are these. -/
namespace Go.Kc
variable {P:Program} {f:Nat}
theorem qay(a:Asg):(xl a).length=5:=rfl
def rA(l:List Asg):List AV:=l.flatMap xl
section
variable {l m:List Asg} {j:Nat}
theorem VE:(rA l).length=l.length*5:=zY qay l
theorem xT:qt (rA l)=true:=Zn fun _=>rfl
theorem qsP:qJ (rA l)=true:=J8 fun _=>rfl
theorem qfK{c:Asg}(h:l[j]?=some c):((rA l).drop (j*5)).take 5=xl c:=xc qay h
theorem qjV{c:Asg}(h:l[j]?=some c){i:Nat}(hi:i<5):(rA l)[j*5+i]?=(xl c)[i]?:=qdy qay h hi
theorem qd0(h:j<l.length):j*5+5<=(rA l).length:=by rw[VE];omega
end
def WY(a:Asg)(u:List UInt8):GNote:=⟨a.file,a.line,100,u.take 60⟩
def yK(a b c d:Nat):ICode:=.seq (.reg true [.v 33 13 2,.f 34 0 3,.d 35 34,.f 36 1 3,.d 37 36,.n 38 6,.n 39 6,.q 40 (.len true (.t 39)),.q 41 (.min (.t 40) (.k 60)),.q 42 (.slcStr (.t 38) none (some (.t 41))),.q 43 (.build [.s [],.i .i64 0,.i .i64 0,.s []] [(0,1,(.t 35)),(1,1,(.t 37)),(2,1,(.k 100)),(3,1,(.t 42))]),.q 44 (.buildS 1 [.s [],.i .i64 0,.i .i64 0,.s []] [(0,4,(.t 43))]),.u (.storeD 13 (.t 4) (.t 33) [34,36]),.n 5 44]) (.ret)
def WR(a b c d:Nat):IFn:=⟨[.cell 4 13 true,.tmp 5],.seq (.r [.q 2 (.box (.t 0)),.q 3 (.box (.t 1)),.q 4 (.alloc [.nils,.i .u8 0,.nils,.i .u32 0,.i .u8 0,.nils,.nils,.i .u8 0,.i .u64 0,.b false,.b false,.b false,.b false]),.m 5 .N]) (.seq (.r [.f 7 3 3,.d 8 7,.n 6 8]) (.seq (.blk 0 (.seq (.r [.f 10 2 3,.d 11 10,.q 12 (.bin .neq (.t 11) (.c (.s [83,101,114,118,105,99,101]))),.n 9 12]) (.cond (.t 9) (.r [.f 13 2 3,.d 14 13,.n 6 14]) (.seq (.r [.f 16 3 3,.d 17 16,.l 18 a [.t 17],.n 15 18]) (.cond (.t 15) (.seq (.r [.v 19 13 2,.v 20 5 3,.l 21 b [.t 19,.t 20],.x 22 21 0,.x 23 21 1,.u (.store 13 (.t 4) (.t 22)),.n 5 23]) (.ret)) (.seq (.r [.f 25 3 3,.d 26 25,.l 27 c [.t 26],.n 24 27]) (.cond (.t 24) (.seq (.r [.v 28 13 2,.v 29 5 3,.l 30 d [.t 28,.t 29],.x 31 30 0,.x 32 30 1,.u (.store 13 (.t 4) (.t 31)),.n 5 32]) (.ret)) (.skip)))))))) (.cut (yK a b c d))))⟩
theorem qni(g1 g2 g3 g4:Nat)(p:Pol)(a:Asg)(u:List UInt8){t':Tr AV}{h':Hp}(hw:Wk 0 t' h' (mkT [(2,.ptr 0 0),(3,.ptr 1 0),(4,.ptr 2 0),(6,.s u)]) (mkH 0 [.cells 0 true false (qo p),.cells 0 true false (xl a),.cells 0 true false xu])) :
  S P 0 (yK g1 g2 g3 g4) (wE [.cell 4 13 true,.tmp 5] fun v' h'=>Frz h' v' (.tup [.agg (qo p),.fz 1 (rN [WY a u])])) t' h':=by
 refine S.weak hw (qq ?_);simp only[yK,qo,xl,xu,vI,simprocAttr];refine zQ ?_;have e:rN [WY a u]=[AV.s a.file,.i .i64 a.line,.i .i64 100,.s (u.take 60)]:=rfl;rw[e]
 by_cases h60:(60:Int)<u.length
 ·have h1:60<=u.length:=by omega
  simp (decide:=true) only [↓vS,vT,simprocAttr,h60,h1,List.drop_zero];simp[vZ,vP,Tr.get_set,qo,qh,qE,qb,qg];refine Frz.cut 4 rfl (Nat.le_refl _) ?_;simp[vP,Tr.get_set,vZ]
 ·have h1:u.take 60=u:=List.take_of_length_le (by omega);rw[h1];simp (decide:=true) only [↓vS,vT,simprocAttr,h60,List.take_length,List.drop_zero];simp[vZ,vP,Tr.get_set,qo,qh,qE,qb,qg];refine Frz.cut 4 rfl (Nat.le_refl _) ?_;simp[vP,Tr.get_set,vZ]
def cDo(E:List UInt8->List (List UInt8)×Int)(P:Program)(f:Nat):Prop:=∀(p:Pol) (a:Asg),PI p->a.val.length<=1000->
 qc P f [.agg (qo p),.agg (xl a)] (.tup [.agg (qo (doM E p a).1),.fz (doM E p a).2.length (rN (doM E p a).2)])
theorem qtf{E:List UInt8->List (List UInt8)×Int}{g1 g2 g3 g4:Nat}(hc:qj P f (WR g1 g2 g3 g4)=true)(h1:∀k,qc P g1 [.s k] (.b (qgJ k)))(h2:qnf E P g2)(h3:∀k,qc P g3 [.s k] (.b (qgK k)))(h4:qrV P g4):cDo E P f:=by
 intro p a hp hv;refine qc.mk hc rfl ?_;generalize hT:AV.tup [.agg (qo (doM E p a).1),.fz (doM E p a).2.length (rN (doM E p a).2)]=tgt;simp only[WR,qo,xl,vI,simprocAttr]
 by_cases n0:a.sec=WT
 ·have n0':a.sec=[83,101,114,118,105,99,101]:=n0;simp (decide:=true) only [↓vS,vT,simprocAttr,n0',ne_eq,not_true_eq_false];refine (h1 a.key).sc ?_;cases k1:qgJ a.key with
  | true =>
   have hM:doM E p a=((kN E p a.key a.val).1,(kN E p a.key a.val).2.map (jV a)):=by unfold doM;rw[if_neg (by simp[n0]),if_pos k1]
   subst hT;rw[hM];simp (decide:=true) only [↓vS,vT,simprocAttr];have:=(h2 p a hp.ok ⟨hp.f0,hp.l0⟩ hv);simp only[qo,xl,n0'] at this;refine this.sc ?_;simp (decide:=true) only [↓vS,vT,simprocAttr,qo];simp[vZ,vP,Tr.get_set,qo,qh,qE,qb,qg]
  | false =>
   simp (decide:=true) only [↓vS,vT,simprocAttr];refine (h3 a.key).sc ?_;cases k2:qgK a.key with
   | true =>
    have hM:doM E p a=((xE p a.key a.val).1,(xE p a.key a.val).2.map (qN a)):=by unfold doM;rw[if_neg (by simp[n0]),if_neg (by simp[k1]),if_pos k2]
    subst hT;rw[hM];simp (decide:=true) only [↓vS,vT,simprocAttr];have:=(h4 p a hp.ok hv);simp only[qo,xl,n0'] at this;refine this.sc ?_;simp (decide:=true) only [↓vS,vT,simprocAttr,qo];simp[vZ,vP,Tr.get_set,qo,qh,qE,qb,qg]
   | false =>
    have hM:doM E p a=(p,[WY a a.key]):=by unfold doM;rw[if_neg (by simp[n0]),if_neg (by simp[k1]),if_neg (by simp[k2])];rfl
    subst hT;rw[hM];simp (decide:=true) only [↓vS,vT,simprocAttr];refine qni g1 g2 g3 g4 p a a.key (Wk.mk _ _ [0,1,2] ?_ ?_ ?_ rfl)
    ·simp[vw]
    ·simp[vw,qo,xl,xu,qa,qh,qg,n0']
     try decide
    ·simp
 ·have n0':¬a.sec=[83,101,114,118,105,99,101]:=n0;have hM:doM E p a=(p,[WY a a.sec]):=by unfold doM;rw[if_pos n0];rfl
  subst hT;rw[hM];simp (decide:=true) only [↓vS,vT,simprocAttr,n0',ne_eq,not_false_eq_true];refine qni g1 g2 g3 g4 p a a.sec (Wk.mk _ _ [0,1,2] ?_ ?_ ?_ rfl)
  ·simp[vw]
  ·simp[vw,qo,xl,xu,qa,qh,qg]
   try decide
  ·simp
def J0:IFn:=⟨[.cell 0 13 true],.seq (.r [.q 0 (.alloc [.nils,.i .u8 0,.nils,.i .u32 0,.i .u8 0,.nils,.nils,.i .u8 0,.i .u64 0,.b false,.b false,.b false,.b false])]) (.seq (.r [.q 1 (.build [.nils,.i .u8 0,.nils,.i .u32 0,.i .u8 0,.nils,.nils,.i .u8 0,.i .u64 0,.b false,.b false,.b false,.b false] [(3,1,(.c (.i .u32 2147483648)))]),.u (.store 13 (.t 0) (.t 1))]) (.ret))⟩
theorem qsB(hc:qj P f J0=true):qc P f [] (.agg (qo QC)):=by
 refine qc.mk hc rfl ?_;simp only[J0,vI,simprocAttr];simp (decide:=true) only [↓vS,vT,simprocAttr];simp[vZ,qo,QC,y7,rI,rC]
noncomputable def QO(E:List UInt8->List (List UInt8)×Int)(l:List Asg)(j:Nat):Pol×List GNote:=(l.take j).foldl (doS E) (QC,[])
theorem qeG{E:List UInt8->List (List UInt8)×Int}{l:List Asg}{j:Nat}{a:Asg}(h:l[j]?=some a):QO E l (j+1)=doS E (QO E l j) a:=by
 unfold QO;rw[List.take_add_one,h,List.foldl_append];rfl
def qoi(E:List UInt8->List (List UInt8)×Int)(P:Program)(f:Nat):Prop:=∀l:List Asg,l.length<=90->(∀a ∈ l,a.val.length<=1000)->
 qc P f [.fz l.length (rA l)] (.tup [.agg (qo (kM E l).1),.fz (kM E l).2.length (rN (kM E l).2)])
def wN(a b c:Nat):ICode:=.seq (.seq (.r [.n 28 5,.l 29 c [.t 28]]) (.cond (.t 29) (.seq (.r [.q 30 (.build [.nils,.i .u8 0,.nils,.i .u32 0,.i .u8 0,.nils,.nils,.i .u8 0,.i .u64 0,.b false,.b false,.b false,.b false] []),.n 31 5,.u (.store 13 (.t 2) (.t 30)),.n 3 31]) (.ret)) (.skip))) (.seq (.r [.v 32 13 4,.n 33 5,.u (.store 13 (.t 2) (.t 32)),.n 3 33]) (.ret))
def QR(a b c:Nat):IFn:=⟨[.cell 2 13 true,.tmp 3],.seq (.r [.q 2 (.alloc [.nils,.i .u8 0,.nils,.i .u32 0,.i .u8 0,.nils,.nils,.i .u8 0,.i .u64 0,.b false,.b false,.b false,.b false]),.m 3 .N]) (.seq (.r [.l 10 a [],.q 4 (.alloc [.nils,.i .u8 0,.nils,.i .u32 0,.i .u8 0,.nils,.nils,.i .u8 0,.i .u64 0,.b false,.b false,.b false,.b false]),.u (.store 13 (.t 4) (.t 10))]) (.seq (.r [.m 5 .N]) (.seq (.seq (.r [.n 11 0,.e 12 11,.m 13 (.k 0)]) (.blk 0 (.loop (.seq (.r [.s 14 13 12]) (.seq (.cond (.t 14) (.skip) (.exit 0)) (.seq (.blk 1 (.seq (.r [.i 15 5 11 13,.v 16 5 15,.q 7 (.alloc [.s [],.i .i64 0,.s [],.s [],.s []]),.u (.store 5 (.t 7) (.t 16))]) (.seq (.r [.v 18 13 4,.v 19 5 7,.l 20 b [.t 18,.t 19],.n 17 20,.x 21 17 0,.x 22 17 1,.q 8 (.alloc [.nils,.i .u8 0,.nils,.i .u32 0,.i .u8 0,.nils,.nils,.i .u8 0,.i .u64 0,.b false,.b false,.b false,.b false]),.u (.store 13 (.t 8) (.t 21)),.n 9 22]) (.reg true [.v 23 13 8,.n 24 5,.n 25 9,.q 26 (.appD 4 48 (.t 24) (.t 25) [8]),.u (.store 13 (.t 4) (.t 23)),.n 5 26])))) (.r [.a 27 13 1,.n 13 27]))))))) (.cut (wN a b c)))))⟩
theorem qp1{E:List UInt8->List (List UInt8)×Int}{g1 g2 g3:Nat}(h3:∀l:List GNote,l.length<=qf->qc P g3 [.fz l.length (rN l)] (.b (jZ l)))(l:List Asg)(p:Pol)(ns:List GNote)(hns:ns.length<=100000)(hl:zM E l=(p,ns)){t':Tr AV}{h':Hp}
  (hw:Wk 0 t' h' (mkT [(2,.ptr 0 0),(4,.ptr 1 0),(5,.fz ns.length (rN ns))]) (mkH 0 [.cells 0 true false xu,.cells 0 true false (qo p)])) :
  S P 0 (wN g1 g2 g3) (wE [.cell 2 13 true,.tmp 3] fun v' h'=>Frz h' v' (.tup [.agg (qo (kM E l).1),.fz (kM E l).2.length (rN (kM E l).2)])) t' h':=by
 refine S.weak hw (qq ?_);simp only[wN,qo,xu,vI,simprocAttr];simp only[↓vS,vT,simprocAttr];refine (h3 ns (by simp only[qf];omega)).sc ?_;cases k:jZ ns with
 | true =>
  have e:kM E l=(y7,ns):=by unfold kM;rw[hl,if_pos k]
  rw[e];simp (decide:=true) only [↓vS,vT,simprocAttr];simp[vZ,vP,Tr.get_set,qo,y7,rI,rC,qE,qb]
 | false =>
  have e:kM E l=(p,ns):=by unfold kM;rw[hl,if_neg (by simp[k])]
  rw[e];simp (decide:=true) only [↓vS,vT,simprocAttr];simp[vZ,vP,Tr.get_set,qo,qh,qE,qb,qg]
theorem qsS{E:List UInt8->List (List UInt8)×Int}{g1 g2 g3:Nat}(hE:ku E)(hc:qj P f (QR g1 g2 g3)=true)(h1:qc P g1 [] (.agg (qo QC)))(h2:cDo E P g2)(h3:∀l:List GNote,l.length<=qf->qc P g3 [.fz l.length (rN l)] (.b (jZ l))):qoi E P f:=by
 intro l hl hv;refine qc.mk hc (by simp[qt,clo,xT]) ?_;simp only[QR,vI,simprocAttr];simp only[↓vS,vT,simprocAttr];refine h1.sc ?_;simp (decide:=true) only [↓vS,vT,simprocAttr,qo]
 refine SL.loop (α:=Nat) (fun j=>[(2,.ptr 0 0),(4,.ptr 1 0),(5,.own 2 (QO E l j).2.length),(11,.fz l.length (rA l)),(12,.i .i64 l.length),(13,.i .i64 j)])
  (fun j=>[.cells 0 true false xu,.cells 0 true false (qo (QO E l j).1),.cells 4 true true (rN (QO E l j).2)]) (fun j=>j<=l.length) (fun j=>l.length-j) 0 [0,1,99] ?_ ?_ ?_ rfl ?_ ?_
 ·simp[vw,xT,QO]
 ·simp[vw,xu,qo,QO,QC,y7,rI,rC,rN,qa]
  try decide
 ·simp
 ·exact Nat.zero_le _
 rintro j hj G ih;have hinv:PI (QO E l j).1:=WH hE _ _ PI.new
 have hlen:(QO E l j).2.length<=1001*j:=by
  have:=qcw E (l.take j) (QC,[]) fun a ha=>hv a (List.mem_of_mem_take ha)
  simp at this;unfold QO;have h2:min j l.length<=j:=Nat.min_le_left _ _;have:=Nat.le_trans this (Nat.mul_le_mul_left 1001 h2);simpa using this
 simp only[vI,simprocAttr,xu]
 by_cases hlt:j<l.length
 ·have hx:l[j]?=some l[j]:=List.getElem?_eq_getElem hlt;have hw:IntKind.wrap .i64 ((j:Int)+1)=((j+1:Nat):Int):=by rw[qB (by omega) (by omega)];omega
  have he:=qfK hx;have hb:=qd0 hlt;have hva:=hv _ (List.getElem_mem hlt);have hnext:=qeG (E:=E) hx;have ih2:=ih (j+1);rw[hnext] at ih2;generalize QO E l j=s at hinv hlen ih2;obtain⟨p,ns⟩:=s;dsimp only at hinv hlen ih2 ⊢;generalize l[j]=a at he hva ih2;have hdl:=qfo E p a;simp only[doS] at ih2;have hr1:ns.length+(doM E p a).2.length<=qf:=by simp only[qf];omega
  have hr2:(ns.length+(doM E p a).2.length)*48<=qf:=by simp only[qf];omega
  simp (decide:=true) only [↓vS,vT,simprocAttr,hlt,he,hb,xl,qo];refine (h2 p a hinv hva).sc ?_;generalize doM E p a=r at ih2 hdl hr1 hr2;obtain⟨q,new⟩:=r;dsimp only at ih2 hdl hr1 hr2 ⊢;simp (decide:=true) only [↓vS,vT,simprocAttr,qo];refine zQ ?_;have htk:(rN new).take (new.length*4)=rN new:=List.take_of_length_le (by rw[vD];omega);have htk2:(rN ns).take (ns.length*4)=rN ns:=List.take_of_length_le (by rw[vD];omega);have hap:rN ns++rN new=rN (ns++new):=VF;have hla:ns.length+new.length=(ns++new).length:=by simp
  simp (decide:=true) only [↓vS,vT,simprocAttr,qo,hr1,hr2,htk,htk2,qsQ,vD,hap,hw];refine ih2 (by omega) (by omega) _ _ (Wk.mk _ _ [0,1,5] ?_ ?_ ?_ rfl)
  ·simp[vw,xT]
  ·simp[vw,xu,qo,qa,qh,qg,qb]
   try decide
  ·simp
 ·have hj':j=l.length:=by omega
  subst hj';have e:QO E l l.length=zM E l:=by unfold QO zM;rw[List.take_length]
  rw[e] at hlen ⊢;generalize hp:zM E l=s at hlen;obtain⟨p,ns⟩:=s;dsimp only at hlen ⊢;clear ih;simp only[↓vS,vT,simprocAttr,hlt,qo];refine S.weak (Wk.mk [(2,.ptr 0 0),(4,.ptr 1 0),(5,.own 2 ns.length)] [.cells 0 true false xu,.cells 0 true false (qo p),.cells 4 true true (rN ns)] [0,1,2] ?_ ?_ ?_ rfl) ?_
  ·simp[vw]
  ·simp[vw,xu,qo,qa,qh,qg,qb]
   try decide
  ·simp
  refine S.weak (Wk.freeze 2 4 4 rfl qb (Nat.zero_le _) (by simp)) ?_;refine qp1 h3 l p ns (by omega) hp (Wk.mk _ _ [0,1] ?_ ?_ ?_ rfl)
  ·simp[vw,mkT,fzv,yp]
   try (intro h0;rw[h0];rfl)
  ·simp[vw,mkH,trL,fzB,yp,fzv,qo,xu,qa,qh,qg]
   try decide
  ·simp[mkH]
end Go.Kc
end
section
/- PolicyOther: what the law answers. Condition: the functions' texts are these. -/
namespace Go.Kc
variable {P:Program} {f:Nat}
def JP(a:Asg):Bool:=je y7 a||decide (200<a.sec.length)
def VK(l:List Asg):Nat:=(l.map fun a=>a.val.length).sum
def j0(l:List Asg):Bool:=decide (60<l.length)||l.any JP||decide (6000<VK l)
theorem XQ{p:Pol}{a:Asg}(h:je p a=false):a.val.length<=1000:=by
 simp only[je,Bool.or_eq_false_iff,decide_eq_false_iff_not] at h;omega
theorem qhs{l:List Asg}{j:Nat}{a:Asg}(h:l[j]?=some a):VK (l.take (j+1))=VK (l.take j)+a.val.length:=by
 unfold VK;rw[List.take_add_one,h];simp
theorem qm1{l:List Asg}(h:∀a ∈ l,a.val.length<=1000):VK l<=1000*l.length:=by
 induction l with
 | nil=>simp[VK]
 | cons a l ih =>
  have h1:=ih fun x hx=>h x (by simp[hx])
  have h2:=h a (by simp);unfold VK at *;simp only[List.map_cons,List.sum_cons,List.length_cons];omega
theorem qaQ{l:List Asg}(h:j0 l=false):l.length<=60∧(∀a ∈ l,a.val.length<=1000)∧∀a ∈ l,je y7 a=false:=by
 simp only[j0,Bool.or_eq_false_iff,decide_eq_false_iff_not,List.any_eq_false] at h;obtain⟨⟨h1,h2⟩,_⟩:=h
 have h3:∀a ∈ l,je y7 a=false:=fun a ha=>by
  have:=h2 a ha;simp only[JP,Bool.or_eq_true,not_or,Bool.not_eq_true] at this;exact this.1
 exact⟨by omega,fun a ha=>XQ (h3 a ha),h3⟩
def kj(a:Nat):IFn:=⟨[.tmp 2],.seq (.r [.m 2 .F]) (.seq (.seq (.r [.n 5 0,.e 6 5,.w 7 .gtr 6 60]) (.cond (.t 7) (.seq (.r [.m 2 .T]) (.ret)) (.skip))) (.seq (.r [.m 3 (.k 0)]) (.seq (.seq (.r [.m 4 (.k 0)]) (.blk 0 (.loop (.seq (.seq (.r [.n 8 4,.n 9 0,.e 10 9,.s 11 8 10]) (.cond (.t 11) (.skip) (.exit 0))) (.seq (.blk 1 (.seq (.seq (.r [.q 14 (.build [.nils,.i .u8 0,.nils,.i .u32 0,.i .u8 0,.nils,.nils,.i .u8 0,.i .u64 0,.b false,.b false,.b false,.b false] []),.n 15 0,.n 16 4,.i 17 5 15 16,.v 18 5 17,.l 19 a [.t 14,.t 18],.n 20 19,.z 21 0 20,.z 22 4 20,.g 23 (.iAddrS 5 (.t 21) (.t 22)) 20 false,.h 24 2 23 20 false,.j 25 24 20 false,.g 26 (.len true (.t 25)) 20 false,.g 27 (.bin .gtr (.t 26) (.k 200)) 20 false,.o 28 20 27]) (.cond (.t 28) (.seq (.r [.m 2 .T]) (.ret)) (.skip))) (.r [.n 29 3,.n 30 0,.n 31 4,.i 32 5 30 31,.f 33 4 32,.d 34 33,.q 35 (.len true (.t 34)),.b 36 .add 29 35,.n 3 36]))) (.r [.n 12 4,.a 13 12 1,.n 4 13])))))) (.seq (.r [.n 37 3,.w 38 .gtr 37 6000,.n 2 38]) (.ret)))))⟩
theorem qlL{g:Nat}(hc:qj P f (kj g)=true)(h1:∀p a,qc P g [.agg (qo p),.agg (xl a)] (.b (je p a)))(l:List Asg):qc P f [.fz l.length (rA l)] (.b (j0 l)):=by
 have h1z:∀a,qc P g [.agg [.nils,.i .u8 0,.nils,.i .u32 0,.i .u8 0,.nils,.nils,.i .u8 0,.i .u64 0,.b false,.b false,.b false,.b false],.agg (xl a)] (.b (je y7 a)):=fun a=>(h1 y7 a).coe fun h=>by
  simp[vZ,qo,y7,rI,rC,xl]
 refine qc.mk hc (by simp[qt,clo,xT]) ?_;simp only[kj,vI,simprocAttr]
 by_cases k1:(60:Int)<l.length
 ·have hw:j0 l=true:=by simp[j0,(by omega:60<l.length)]
  simp only[↓vS,vT,simprocAttr,k1];simp[vZ,hw]
 simp only[↓vS,vT,simprocAttr,k1];refine SL.loop (α:=Nat) (fun j=>[(0,.fz l.length (rA l)),(3,.i .i64 (VK (l.take j):Nat)),(4,.i .i64 j)]) (fun _=>[]) (fun j=>j<=l.length∧∀a ∈ l.take j,JP a=false) (fun j=>l.length-j) 0 [] ?_ ?_ ?_ rfl ?_ ?_
 ·simp[vw,xT,VK]
 ·trivial
 ·simp
 ·exact⟨Nat.zero_le _,by simp⟩
 rintro j ⟨hj,hI⟩ G ih;simp only[vI,simprocAttr]
 by_cases hlt:j<l.length
 ·have hx:l[j]?=some l[j]:=List.getElem?_eq_getElem hlt;have hw:IntKind.wrap .i64 ((j:Int)+1)=((j+1:Nat):Int):=by rw[qB (by omega) (by omega)];omega
  have he:=qfK hx;have hb:=qd0 hlt;have hsum:=qhs hx
  have hle:VK (l.take j)<=1000*j:=by
   have h2:=qm1 (l:=l.take j) fun a ha=>by
    have:=hI a ha;simp only[JP,Bool.or_eq_false_iff] at this;exact XQ this.1
   have h3:(l.take j).length=j:=by simp;omega
   rw[h3] at h2;exact h2
  have hin:l[j] ∈ l:=List.getElem_mem hlt;have g2:(rA l)[j*5+2]?=some (.s l[j].sec):=qjV hx (i:=2) (by decide);have g4:(rA l)[j*5+4]?=some (.s l[j].val):=qjV hx (i:=4) (by decide);generalize ha:l[j]=a at he hsum g2 g4 hin hx;simp (decide:=true) only [↓vS,vT,simprocAttr,hlt,he,hb];refine (h1z a).sc ?_;cases k2:je y7 a with
  | true =>
   have hw:j0 l=true:=by
    have:l.any JP=true:=List.any_eq_true.2 ⟨a,hin,by simp[JP,k2]⟩
    simp[j0,this]
   simp only[↓vS,vT,simprocAttr];simp[vZ,hw]
  | false =>
   by_cases k3:(200:Int)<a.sec.length
   ·have hw:j0 l=true:=by
     have:l.any JP=true:=List.any_eq_true.2 ⟨a,hin,by simp[JP,(by omega:200<a.sec.length)]⟩
     simp[j0,this]
    simp (decide:=true) only [↓vS,vT,simprocAttr,hlt,g2,k3];simp[vZ,hw]
   ·have hv:=XQ k2;have hw2:IntKind.wrap .i64 ((VK (l.take j):Nat)+(a.val.length:Int))=((VK (l.take (j+1)):Nat):Int):=by rw[hsum,qB (by omega) (by omega)];omega
    simp (decide:=true) only [↓vS,vT,simprocAttr,hlt,g2,g4,k3,hw,hw2];refine ih (j+1) ⟨by omega,fun b hb=>?_⟩ (by omega) _ _ (Wk.mk _ _ [] ?_ ?_ ?_ rfl)
    ·rw[List.take_add_one,hx] at hb;rcases List.mem_append.1 hb with hb|hb
     ·exact hI b hb
     ·simp at hb;subst hb;simp[JP,k2];omega
    ·simp[vw,xT]
    ·trivial
    ·simp
 ·have hjl:l.take j=l:=List.take_of_length_le (by omega);rw[hjl] at hI ⊢;have hany:l.any JP=false:=List.any_eq_false.2 fun a ha=>by simp[hI a ha]
  have e:j0 l=decide ((6000:Int)<(VK l:Nat)):=by
   unfold j0;rw[hany,decide_eq_false (by omega:¬60<l.length)];simp only[Bool.or_self,Bool.false_or];exact decide_eq_decide.2 ⟨by omega,by omega⟩
  rw[e];simp only[↓vS,vT,simprocAttr,hlt];simp[vZ]
variable {E:List UInt8->List (List UInt8)×Int}
theorem qcv:∀(l:List Asg) (p:Pol) (ns:List GNote),l.foldl (doS E) (p,ns)=((l.foldl (doS E) (p,[])).1,ns++(l.foldl (doS E) (p,[])).2)
 | [],p,ns=>by simp
 | a::l,p,ns=>by
  rw[List.foldl_cons,List.foldl_cons];have e1:doS E (p,ns) a=((doM E p a).1,ns++(doM E p a).2):=rfl;have e2:doS E (p,[]) a=((doM E p a).1,[]++(doM E p a).2):=rfl;rw[e1,e2,qcv l,qcv l _ ([]++_)];simp
section
variable {g1 g2 g3 g4:Nat}
end
end Go.Kc
end
section
/- What the document's functions of stage 18 answer: the small ones. Condition: the functions' texts are these. -/
namespace Go.Kc
variable {P:Program} {f:Nat}
end Go.Kc
end
section
/- What the document's Set of stage 18 answers: architectures. Condition: the functions' texts are these. -/
namespace Go.Kc
variable {P:Program} {f:Nat}
end Go.Kc
end
section
/- What the document's Set of stage 18 answers: families. Condition: the functions' texts are these. -/
namespace Go.Kc
variable {P:Program} {f:Nat}
section
variable {is:Bool} {L:List Int} {W:List (List UInt8)} {j:Nat}
end
end Go.Kc
end
section
/- What the document's Set of stage 18 answers: namespaces, and all keys. Condition: the functions' texts are these. -/
namespace Go.Kc
variable {P:Program} {f:Nat}
noncomputable def spT(W:List (List UInt8))(j:Nat):Int×List (Int×List UInt8):=(W.take j).foldl xz (0,[])
end Go.Kc
end
section
/- What the document's Resolve answers, and the law PolicyResolves. Condition: the functions' texts are these. -/
namespace Go.Kc
variable {P:Program} {f:Nat} {E:List UInt8->List (List UInt8)×Int}
section
variable {g1 g2 g3 g4 g5 g6 g7 g8:Nat}
end
end Go.Kc
end
section
/- The kit's law of strings.Join, as a contract. No condition. -/
namespace Go.Kc
open Go.RowKit
variable {P:Program} {f:Nat}
def qkA(P:Program)(f:Nat):Prop :=
 (∀(a:Option Addr) (c:Nat) (sep:ByteArray) (w:World),Calls P f #[.slice a 0 c,.string sep] w fun e w'=>e = .returned (.string ⟨#[]⟩)∧w'=w) ∧
 ∀(bk o c:Nat) (xs:List ByteArray) (sep:ByteArray) (w:World),(∀(j:Nat) x,xs[j]?=some x->w.cell? ⟨bk,o+j,none⟩=some (.string x))->bk<w.heap.size->xs.length<=140737488355328->xs.length<=c->
  (Lib.join (xs.map (·.data.toList)) sep.data.toList).length<=140737488355328->
  Calls P f #[.slice (some ⟨bk,o,none⟩) xs.length c,.string sep] w fun e w'=>e = .returned (.string ⟨(Lib.join (xs.map (·.data.toList)) sep.data.toList).toArray⟩)∧Below w.heap.size w w'
theorem Rel.below{ρ:Ren}{B:Nat->Prop}{h:Hp}{w w':World}(r:Rel σ0 ρ B h w)(hb:Below w.heap.size w w'):Rel σ0 ρ B h w':=by
 have hget:∀{k o},w.heap[k]?=some o->w'.heap[k]?=some o:=fun {k o} hk=>by rw[hb.block k (Array.getElem?_eq_some_iff.1 hk).1];exact hk
 refine⟨r.dom,fun b L e wf af cs h1 h2=>?_,fun b L es h1 h2=>?_,r.excl,r.exclm,r.app,r.flr,fun k hk=>Nat.lt_of_lt_of_le (r.base k hk) hb.size,fun k arr hk=>?_,r.dn⟩
 ·obtain⟨e1,c,ty,fz,e2,e3⟩:=r.cells b L e wf af cs h1 h2;exact⟨e1,c,ty,fz,hget e2,e3⟩
 ·obtain⟨e1,o,e2,e3⟩:=r.maps b L es h1 h2;exact⟨e1,o,hget e2,e3⟩
 ·obtain⟨⟨ty,fz,e1⟩,e2⟩:=r.frz k arr hk;exact⟨⟨ty,fz,hget e1⟩,e2⟩
theorem Kept.below{ρ:Ren}{B:Nat->Prop}{h:Hp}{w w':World}(r:Rel σ0 ρ B h w)(hb:Below w.heap.size w w'):Kept ρ B h w ρ h w' :=
 ⟨fun _ _=>rfl,Nat.le_refl _,rfl,fun _ _ _=>rfl,fun k hk=>hb.block k (r.base k hk),hb.size,⟨hb.os,hb.output⟩,fun _ _ h=>h,fun _ _ h=>.inl h,Nat.le_refl _⟩
def zx(sep:List UInt8)(xs:List (List UInt8)):List UInt8:=Lib.join xs sep
def qnc(P:Program)(f:Nat):Prop:=∀(xs:List (List UInt8)) (sep:List UInt8),xs.length<=140737488355328->(zx sep xs).length<=140737488355328->qc P f [.fz xs.length (rS xs),.s sep] (.s (zx sep xs))
theorem qsi(hcod:qdo P f)(hK:qkA P f):qnc P f:=by
 intro xs sep hx hj h k hk;refine⟨trivial,fun ρ B w args r ha=>?_⟩
 generalize hA:args.toList=L at ha;cases ha with
 | cons _ _ _ _ a1 a2 =>
  rename_i v1 vs1;cases a2 with
  | cons _ _ _ _ b1 b2 =>
   rename_i v2 vs2;cases b2;have hargs:args = #[v1,v2]:=by apply Array.ext';rw[hA]
   have e2:=b1.un_s;subst hargs e2;rcases a1.un_fz with⟨q,off,c,arr,rfl,hc,hq,hcs⟩|⟨h0,_,a,rfl⟩
   ·obtain⟨⟨ty,fz,hw⟩,_⟩:=r.frz q arr hq;have hl:xs.length=(xs.map fun x=>(⟨x.toArray⟩:ByteArray)).length:=by simp
    have hm:(xs.map fun x=>(⟨x.toArray⟩:ByteArray)).map (·.data.toList)=xs:=by
     rw[List.map_map];exact List.map_id' _
    have key:=hK.2 q off c (xs.map fun x=>⟨x.toArray⟩) ⟨sep.toArray⟩ w ?_ (Array.getElem?_eq_some_iff.1 hw).1 (by rw[← hl];exact hx) (by rw[← hl];exact hc) (by rw[hm];exact hj)
    ·rw[hm,← hl] at key;refine .inl ⟨hcod,key.mono ?_⟩;rintro e w' ⟨rfl,hb⟩;exact⟨_,_,h,ρ,rfl,hk,.s _,r.below hb,Kept.below r hb⟩
    ·intro j x hjx;rw[List.getElem?_map] at hjx;cases hxj:xs[j]? with
     | none=>rw[hxj] at hjx;cases hjx
     | some y =>
      rw[hxj] at hjx;cases hjx;obtain⟨v,h1,h2⟩:=hcs.get (j:=j) (a:=.s y) (by rw[Z8,hxj];rfl);cases h2;have hjl:j<(rS xs).length:=by rw[Wq];exact (List.getElem?_eq_some_iff.1 hxj).1
      rw[List.getElem?_take,if_pos hjl,List.getElem?_drop,Array.getElem?_toList] at h1;show (match w.heap[q]? with|some (.cells c _ _)=>if (none:Option _).isSome then none else c[off+j]? | _=>none)=_
      rw[hw];exact h1
   ·have hnil:xs=[]:=List.eq_nil_of_length_eq_zero h0;subst hnil;refine .inl ⟨hcod,(hK.1 a 0 ⟨sep.toArray⟩ w).mono ?_⟩;rintro e w' ⟨rfl,rfl⟩;exact⟨_,_,h,ρ,rfl,hk,.s _,r,Kept.refl _ _ _ _⟩
end Go.Kc
end
section
/- What policy's writer does: its lines. Condition: the functions' texts are these. -/
namespace Go.Kc
variable {P:Program} {f:Nat}
def Qs:IFn:=⟨[.tmp 4],.seq (.r [.m 4 .N]) (.seq (.r [.m 5 .N]) (.seq (.seq (.r [.n 8 0,.e 9 8,.m 10 (.k 0)]) (.blk 0 (.loop (.seq (.r [.s 11 10 9]) (.seq (.cond (.t 11) (.skip) (.exit 0)) (.seq (.blk 1 (.seq (.r [.i 12 1 8 10,.d 13 12,.n 7 13]) (.r [.n 14 5,.n 15 1,.n 16 7,⟨(some 17),.callV (.t 15) [.t 16],none⟩,.q 18 (.buildS 1 [.s []] [(0,1,(.t 17))]),.q 19 (.app 1 16 true (.t 14) (.t 18)),.n 5 19]))) (.r [.a 20 10 1,.n 10 20]))))))) (.seq (.r [.n 21 5,.n 4 21]) (.ret))))⟩
theorem qsZ(hc:qj P f Qs=true){g:Nat}{nm:Int->List UInt8}(l:List Int)(hl:l.length<=100000)(hg:∀x ∈ l,qc P g [.i .i64 x] (.s (nm x))):qc P f [.fz l.length (rI .i64 l),.fn g [] []] (.fz l.length (rS (l.map nm))):=by
 refine qc.mk hc (by simp[qt,clo,qh]) ?_;simp only[Qs,vI,simprocAttr];simp only[↓vS,vT,simprocAttr];refine SL.loop (α:=Nat) (fun j=>[(1,.fn g [] []),(5,.own 0 j),(8,.fz l.length (rI .i64 l)),(9,.i .i64 l.length),(10,.i .i64 j)]) (fun j=>[.cells 1 true true (rS ((l.take j).map nm))]) (fun j=>j<=l.length) (fun j=>l.length-j) 0 [99] ?_ ?_ ?_ rfl ?_ ?_
 ·simp[vw,qh]
 ·simp[vw,Z9]
 ·simp
 ·exact Nat.zero_le _
 rintro j hj G ih;simp only[vI,simprocAttr]
 by_cases hlt:j<l.length
 ·have hx:l[j]?=some l[j]:=List.getElem?_eq_getElem hlt;have hw:IntKind.wrap .i64 ((j:Int)+1)=((j+1:Nat):Int):=by rw[qB (by omega) (by omega)];omega
  have hgx:=hg _ (List.getElem_mem hlt);have ht:(l.take (j+1)).map nm=(l.take j).map nm++[nm l[j]]:=by rw[List.take_add_one,hx,List.map_append];rfl
  have hml:((l.take j).map nm).length=j:=by simp;omega
  have ih2:=ih (j+1);rw[ht] at ih2;generalize l[j]=x at hx hgx ih2;generalize (l.take j).map nm=A at hml ih2 ⊢;have hr1:j+1<=qf:=by simp only[qf];omega
  have hr2:(j+1)*16<=qf:=by simp only[qf];omega
  have hap:rS A++[AV.s (nm x)]=rS (A++[nm x]):=by rw[← qa9];rfl
  have hlr:(rS A).length=j:=by rw[Wq,hml]
  simp (decide:=true) only [↓vS,vT,simprocAttr,hlt,Nat.mul_one,x9,hx,Option.map_some];refine hgx.sc ?_;simp (decide:=true) only [↓vS,vT,simprocAttr,hr1,hr2,hlr,hap,hw,Nat.mul_one];refine ih2 (by omega) (by omega) _ _ (Wk.mk _ _ [2] ?_ ?_ ?_ rfl)
  ·simp[vw,qh]
  ·simp[vw,qa,qi]
  ·simp
 ·have hj':j=l.length:=by omega
  subst hj';clear ih;rw[List.take_length];simp (decide:=true) only [↓vS,vT,simprocAttr,hlt];simp[vZ,vP,Tr.get_set,qE qi]
  try (intro h0;rw[h0];rfl)
def kO:IFn:=⟨[.tmp 4],.seq (.r [.m 4 .N]) (.seq (.r [.m 5 .N]) (.seq (.seq (.r [.n 8 0,.e 9 8,.m 10 (.k 0)]) (.blk 0 (.loop (.seq (.r [.s 11 10 9]) (.seq (.cond (.t 11) (.skip) (.exit 0)) (.seq (.blk 1 (.seq (.r [.i 12 1 8 10,.d 13 12,.n 7 13]) (.r [.n 14 5,.n 15 1,.n 16 7,⟨(some 17),.callV (.t 15) [.t 16],none⟩,.q 18 (.buildS 1 [.s []] [(0,1,(.t 17))]),.q 19 (.app 1 16 true (.t 14) (.t 18)),.n 5 19]))) (.r [.a 20 10 1,.n 10 20]))))))) (.seq (.r [.n 21 5,.n 4 21]) (.ret))))⟩
theorem qs0(hc:qj P f kO=true){g:Nat}{nm:Int->List UInt8}(l:List Int)(hl:l.length<=100000)(hg:∀x ∈ l,qc P g [.i .u32 x] (.s (nm x))):qc P f [.fz l.length (rI .u32 l),.fn g [] []] (.fz l.length (rS (l.map nm))):=by
 refine qc.mk hc (by simp[qt,clo,qh]) ?_;simp only[kO,vI,simprocAttr];simp only[↓vS,vT,simprocAttr];refine SL.loop (α:=Nat) (fun j=>[(1,.fn g [] []),(5,.own 0 j),(8,.fz l.length (rI .u32 l)),(9,.i .i64 l.length),(10,.i .i64 j)]) (fun j=>[.cells 1 true true (rS ((l.take j).map nm))]) (fun j=>j<=l.length) (fun j=>l.length-j) 0 [99] ?_ ?_ ?_ rfl ?_ ?_
 ·simp[vw,qh]
 ·simp[vw,Z9]
 ·simp
 ·exact Nat.zero_le _
 rintro j hj G ih;simp only[vI,simprocAttr]
 by_cases hlt:j<l.length
 ·have hx:l[j]?=some l[j]:=List.getElem?_eq_getElem hlt;have hw:IntKind.wrap .i64 ((j:Int)+1)=((j+1:Nat):Int):=by rw[qB (by omega) (by omega)];omega
  have hgx:=hg _ (List.getElem_mem hlt);have ht:(l.take (j+1)).map nm=(l.take j).map nm++[nm l[j]]:=by rw[List.take_add_one,hx,List.map_append];rfl
  have hml:((l.take j).map nm).length=j:=by simp;omega
  have ih2:=ih (j+1);rw[ht] at ih2;generalize l[j]=x at hx hgx ih2;generalize (l.take j).map nm=A at hml ih2 ⊢;have hr1:j+1<=qf:=by simp only[qf];omega
  have hr2:(j+1)*16<=qf:=by simp only[qf];omega
  have hap:rS A++[AV.s (nm x)]=rS (A++[nm x]):=by rw[← qa9];rfl
  have hlr:(rS A).length=j:=by rw[Wq,hml]
  simp (decide:=true) only [↓vS,vT,simprocAttr,hlt,Nat.mul_one,x9,hx,Option.map_some];refine hgx.sc ?_;simp (decide:=true) only [↓vS,vT,simprocAttr,hr1,hr2,hlr,hap,hw,Nat.mul_one];refine ih2 (by omega) (by omega) _ _ (Wk.mk _ _ [2] ?_ ?_ ?_ rfl)
  ·simp[vw,qh]
  ·simp[vw,qa,qi]
  ·simp
 ·have hj':j=l.length:=by omega
  subst hj';clear ih;rw[List.take_length];simp (decide:=true) only [↓vS,vT,simprocAttr,hlt];simp[vZ,vP,Tr.get_set,qE qi]
  try (intro h0;rw[h0];rfl)
def kP:IFn:=⟨[.tmp 4],.seq (.r [.m 4 .N]) (.seq (.r [.m 5 .N]) (.seq (.seq (.r [.n 8 0,.e 9 8,.m 10 (.k 0)]) (.blk 0 (.loop (.seq (.r [.s 11 10 9]) (.seq (.cond (.t 11) (.skip) (.exit 0)) (.seq (.blk 1 (.seq (.r [.i 12 1 8 10,.d 13 12,.n 7 13]) (.r [.n 14 5,.n 15 1,.n 16 7,⟨(some 17),.callV (.t 15) [.t 16],none⟩,.q 18 (.buildS 1 [.s []] [(0,1,(.t 17))]),.q 19 (.app 1 16 true (.t 14) (.t 18)),.n 5 19]))) (.r [.a 20 10 1,.n 10 20]))))))) (.seq (.r [.n 21 5,.n 4 21]) (.ret))))⟩
theorem qs1(hc:qj P f kP=true){g:Nat}{nm:Int->List UInt8}(l:List Int)(hl:l.length<=100000)(hg:∀x ∈ l,qc P g [.i .u64 x] (.s (nm x))):qc P f [.fz l.length (rI .u64 l),.fn g [] []] (.fz l.length (rS (l.map nm))):=by
 refine qc.mk hc (by simp[qt,clo,qh]) ?_;simp only[kP,vI,simprocAttr];simp only[↓vS,vT,simprocAttr];refine SL.loop (α:=Nat) (fun j=>[(1,.fn g [] []),(5,.own 0 j),(8,.fz l.length (rI .u64 l)),(9,.i .i64 l.length),(10,.i .i64 j)]) (fun j=>[.cells 1 true true (rS ((l.take j).map nm))]) (fun j=>j<=l.length) (fun j=>l.length-j) 0 [99] ?_ ?_ ?_ rfl ?_ ?_
 ·simp[vw,qh]
 ·simp[vw,Z9]
 ·simp
 ·exact Nat.zero_le _
 rintro j hj G ih;simp only[vI,simprocAttr]
 by_cases hlt:j<l.length
 ·have hx:l[j]?=some l[j]:=List.getElem?_eq_getElem hlt;have hw:IntKind.wrap .i64 ((j:Int)+1)=((j+1:Nat):Int):=by rw[qB (by omega) (by omega)];omega
  have hgx:=hg _ (List.getElem_mem hlt);have ht:(l.take (j+1)).map nm=(l.take j).map nm++[nm l[j]]:=by rw[List.take_add_one,hx,List.map_append];rfl
  have hml:((l.take j).map nm).length=j:=by simp;omega
  have ih2:=ih (j+1);rw[ht] at ih2;generalize l[j]=x at hx hgx ih2;generalize (l.take j).map nm=A at hml ih2 ⊢;have hr1:j+1<=qf:=by simp only[qf];omega
  have hr2:(j+1)*16<=qf:=by simp only[qf];omega
  have hap:rS A++[AV.s (nm x)]=rS (A++[nm x]):=by rw[← qa9];rfl
  have hlr:(rS A).length=j:=by rw[Wq,hml]
  simp (decide:=true) only [↓vS,vT,simprocAttr,hlt,Nat.mul_one,x9,hx,Option.map_some];refine hgx.sc ?_;simp (decide:=true) only [↓vS,vT,simprocAttr,hr1,hr2,hlr,hap,hw,Nat.mul_one];refine ih2 (by omega) (by omega) _ _ (Wk.mk _ _ [2] ?_ ?_ ?_ rfl)
  ·simp[vw,qh]
  ·simp[vw,qa,qi]
  ·simp
 ·have hj':j=l.length:=by omega
  subst hj';clear ih;rw[List.take_length];simp (decide:=true) only [↓vS,vT,simprocAttr,hlt];simp[vZ,vP,Tr.get_set,qE qi]
  try (intro h0;rw[h0];rfl)
def wi(k a:List UInt8)(ws:List (List UInt8)):List UInt8:=k++[61]++a++zx [32] ws
def wB0(ls:List (List UInt8)):List Blk:=[.cells 0 true false [.own 1 ls.length],.cells 1 true true (rS ls)]
def wB1(ls:List (List UInt8)):List Blk:=[.cells 0 true false [.own 2 ls.length],.dead,.cells 1 true true (rS ls)]
def QU(k a:List UInt8)(ws:List (List UInt8)):Prop:=k.length<=100∧a.length<=100∧ws.length<=100000∧(zx [32] ws).length<=1000000
def QL(P:Program)(f:Nat):Prop:=∀(k a:List UInt8) (ws ls:List (List UInt8)),ls.length<=100000->QU k a ws->
 Upd P f [.ptr 0 0,.s k,.s a,.fz ws.length (rS ws)] (wB0 ls) (.tup []) (wB1 (ls++[wi k a ws]))
def kQ(a:Nat):IFn:=⟨[],.reg true [.n 8 0,.n 9 0,.q 10 (.nilChk (.t 9)),.d 11 10,.n 12 1,.q 13 (.bin .add (.t 12) (.c (.s [61]))),.n 14 2,.b 15 .add 13 14,.n 16 3,.l 17 a [.t 16,(.c (.s [32]))],.b 18 .add 15 17,.q 19 (.buildS 1 [.s []] [(0,1,(.t 18))]),.q 20 (.app 1 16 true (.t 11) (.t 19)),.q 21 (.nilChk (.t 8)),.u (.store 1 (.t 21) (.t 20))]⟩
theorem qss{g:Nat}(hc:qj P f (kQ g)=true)(hg:qnc P g):QL P f:=by
 intro k a ws ls hls ⟨h1,h2,h3,h4⟩;refine Upd.mkd hc (by simp[z8,bnd,wB0,qP,clo,qi]) (by simp[wB0,wB1]) ?_;simp only[kQ,wB0,vI,simprocAttr];refine zQ ?_;have hc1:k.length+1<=9223372036854775807:=by omega
 have hc2:k.length+1+a.length<=9223372036854775807:=by omega
 have hc3:k.length+(a.length+1)+(zx [32] ws).length<=9223372036854775807:=by omega
 have hr1:ls.length+1<=qf:=by simp only[qf];omega
 have hr2:(ls.length+1)*16<=qf:=by simp only[qf];omega
 have hlm:wi k a ws=k++61::(a++zx [32] ws):=by simp[wi]
 have hap:rS ls++[AV.s (k++61::(a++zx [32] ws))]=rS (ls++[wi k a ws]):=by rw[← qa9,hlm];rfl
 simp (decide:=true) only [↓vS,vT,simprocAttr,List.length_append,hc1,hc2];refine (hg ws [32] (by omega) (by omega)).pc ?_;simp (decide:=true) only [↓vS,vT,simprocAttr,List.length_append,hc1,hc2,hc3,hr1,hr2,Wq,hap,Nat.mul_one];intro _;refine⟨[0,1,3],?_⟩;simp[vw,wB1,hap,qa,qi,jh,rl];intro b hb;have:b=0∨b=1:=by omega
 rcases this with rfl|rfl<;>rfl
def ZI(k:List UInt8)(is:Bool):List (List UInt8):=if is=true then [wi k [] [[121,101,115]]] else []
theorem ye(sep w:List UInt8):zx sep [w]=w:=Lib.join_one w sep
def wO(a:Nat):IFn:=⟨[],.seq (.r [.n 6 2]) (.cond (.t 6) (.r [.n 7 0,.n 8 1,.q 9 (.buildS 1 [.s []] [(0,1,(.c (.s [121,101,115])))]),⟨(some 10),.callW a [.t 7,.t 8,(.c (.s [])),.t 9],none⟩]) (.skip))⟩
theorem qtt{g:Nat}(hc:qj P f (wO g)=true)(hg:QL P g)(k:List UInt8)(is:Bool)(ls:List (List UInt8))(hls:ls.length<=100000)(hk:k.length<=100) :
  Upd P f [.ptr 0 0,.s k,.b is] (wB0 ls) (.tup []) (if is=true then wB1 (ls++[wi k [] [[121,101,115]]]) else wB0 ls):=by
 have hok:QU k [] [[121,101,115]]:=⟨hk,by simp,by simp,by rw[ye];decide⟩
 cases is with
 | false =>
  refine Upd.mk hc (by simp[z8,bnd,wB0,qP,clo,qi]) (by simp[wB0]) ?_;simp only[wO,wB0,vI,simprocAttr];simp only[↓vS,vT,simprocAttr];intro _;refine⟨[0,1],?_⟩;simp[vw,wB0,qa,qi]
  try decide
 | true =>
  refine Upd.mkd hc (by simp[z8,bnd,wB0,qP,clo,qi]) (by simp[wB0,wB1]) ?_;simp only[wO,wB0,vI,simprocAttr];simp (decide:=true) only [↓vS,vT,simprocAttr];refine SC.give (vs':=[.ptr 0 0,.s k,.s [],.fz 1 (rS [[121,101,115]])]) [(2,.cells 0 true false [.s [121,101,115]])] ?_ ?_ ?_
  ·intro q hq;simp at hq;subst hq;simp[Tr.get_set]
  ·refine .keep _ _ _ (.keep _ _ _ (.keep _ _ _ (.fz _ _ _ _ (.cut 1 rfl (Nat.le_refl _) ?_) .nil)));simp[vw,trP,rS]
  simp only[Zz,ZA,ZX];refine (hg k [] [[121,101,115]] ls hls hok).sc (vs:=[.ptr 0 0,.s k,.s [],.fz 1 (rS [[121,101,115]])]) [0,1] (Lent.of (by decide) ?_) ?_
  ·simp[vL,vw,wB0,qr qi,qe qi]
  simp only[vK,simprocAttr,wB1,qe qi];simp only[↓vS,vT,simprocAttr];intro _
  trace_state
  refine⟨[0,1,3],?_⟩;simp[vw,wB1,qa,qi,jh,rl];intro b hb;have:b=0∨b=1:=by omega
  rcases this with rfl|rfl<;>rfl
end Go.Kc
end
section
/- The words of a policy's lines. Itoa's contract is taken as given. Condition: the functions' texts are these. -/
namespace Go.Kc
variable {P:Program} {f:Nat}
def XA(n:Int):List UInt8:=Lib.itoa n
def qnb(P:Program)(f:Nat):Prop:=∀n:Int,0<=n->n<=4095->qc P f [.i .i64 n] (.s (XA n))
def QJ(n:Int):List UInt8:=if zd n qI=[]∧n<=4095 then XA n else zd n qI
def Qn(a b c:Nat):IFn:=⟨[.tmp 2],.seq (.r [.m 2 (.c (.s []))]) (.seq (.r [.l 5 a [],.q 3 (.alloc [.s [],.i .u32 0,.s [],.i .u32 0,.s [],.i .u32 0,.s [],.i .u32 0,.s [],.i .u32 0,.s [],.i .u32 0,.s [],.i .u32 0,.s [],.i .u32 0,.s [],.i .u32 0,.s [],.i .u32 0,.s [],.i .u32 0,.s [],.i .u32 0,.s [],.i .u32 0,.s [],.i .u32 0,.s [],.i .u32 0]),.u (.store 30 (.t 3) (.t 5))]) (.seq (.r [.q 6 (.slcA 15 2 (.t 3) none none none),.n 7 0,.l 8 b [.t 6,.t 7],.n 4 8]) (.seq (.seq (.r [.n 9 4,.q 10 (.bin .eql (.t 9) (.c (.s []))),.n 11 10,.y 12 0 11,.g 13 (.bin .leq (.t 12) (.c (.i .u32 4095))) 11 true,.p 14 11 13]) (.cond (.t 14) (.seq (.r [.n 15 0,.q 16 (.cvInt .i64 (.t 15)),.l 17 c [.t 16],.n 2 17]) (.ret)) (.skip))) (.seq (.r [.n 18 4,.n 2 18]) (.ret)))))⟩
theorem qqU{g1 g2 g3:Nat}(hc:qj P f (Qn g1 g2 g3)=true)(h1:qc P g1 [] (.agg (qI.flatMap (zo .u32))))(h2:∀(l:List (List UInt8×Int)) (n:Int),l.length<=qf->qc P g2 [.fz l.length (l.flatMap (zo .u32)),.i .u32 n] (.s (zd n l)))(h3:qnb P g3)(n:Int)(h0:0<=n)(hn:n<=4294967295):qc P f [.i .u32 n] (.s (QJ n)):=by
 refine qc.mk hc rfl ?_;have h2':=h2 qI n (by decide);have hw:IntKind.wrap .i64 n=n:=qB (by omega) (by omega);unfold QJ;generalize zd n qI=s at h2' ⊢;simp only[Qn,vI,simprocAttr];simp only[↓vS,vT,simprocAttr];refine h1.sc ?_;simp only[↓vS,vT,simprocAttr,qI,zo,List.flatMap_cons,List.flatMap_nil];refine h2'.lend (vs':=[.fz 15 (qI.flatMap (zo .u32)),.i .u32 n]) ?_ rfl ?_
 ·refine .cons _ _ _ _ (.cut 2 rfl (Nat.le_refl _) ?_) (.cons _ _ _ _ (.i _ _) .nil);simp[vw,qI,zo]
 by_cases hs:s=[]
 ·by_cases h4:n<=4095
  ·simp (decide:=true) only [↓vS,vT,simprocAttr,hs,h4,hw];refine (h3 n h0 h4).sc ?_;simp only[↓vS,vT,simprocAttr];simp[vZ,hs,h4]
  ·simp (decide:=true) only [↓vS,vT,simprocAttr,hs,h4];simp[vZ,hs,h4]
 ·simp (decide:=true) only [↓vS,vT,simprocAttr,hs];simp[vZ,hs]
def Qo(a b:Nat):IFn:=⟨[.tmp 2],.seq (.r [.m 2 (.c (.s []))]) (.seq (.r [.l 4 a [],.q 3 (.alloc [.s [],.i .u64 0,.s [],.i .u64 0,.s [],.i .u64 0,.s [],.i .u64 0,.s [],.i .u64 0,.s [],.i .u64 0,.s [],.i .u64 0,.s [],.i .u64 0]),.u (.store 16 (.t 3) (.t 4))]) (.seq (.r [.q 5 (.slcA 8 2 (.t 3) none none none),.n 6 0,.l 7 b [.t 5,.t 6],.n 2 7]) (.ret)))⟩
theorem qrp{g1 g2:Nat}(hc:qj P f (Qo g1 g2)=true)(h1:qc P g1 [] (.agg (qk.flatMap (zo .u64))))(h2:∀(l:List (List UInt8×Int)) (n:Int),l.length<=qf->qc P g2 [.fz l.length (l.flatMap (zo .u64)),.i .u64 n] (.s (zd n l)))(n:Int):qc P f [.i .u64 n] (.s (zd n qk)):=by
 refine qc.mk hc rfl ?_;simp only[Qo,vI,simprocAttr];simp only[↓vS,vT,simprocAttr];refine h1.sc ?_;simp only[↓vS,vT,simprocAttr,qk,zo,List.flatMap_cons,List.flatMap_nil];refine (h2 qk n (by decide)).lend (vs':=[.fz 8 (qk.flatMap (zo .u64)),.i .u64 n]) ?_ rfl ?_
 ·refine .cons _ _ _ _ (.cut 2 rfl (Nat.le_refl _) ?_) (.cons _ _ _ _ (.i _ _) .nil);simp[vw,qk,zo]
 simp only[↓vS,vT,simprocAttr,vZ,and_self,qk]
def wC(c:GCall):List UInt8:=if c.act=0 then c.name else if c.act=2147483648 then c.name++[58,107,105,108,108] else if wD .u32 c.act 4294901760=327680 then c.name++58::QJ (wD .u32 c.act 65535) else c.name++[58]
theorem Wz(a b:Int):0<=wD .u32 a b∧wD .u32 a b<=4294967295:=by
 have h:0<=wD .u32 a b∧wD .u32 a b<4294967296:=by
  unfold wD;exact⟨Int.emod_nonneg _ (by decide),Int.emod_lt_of_pos _ (by decide)⟩
 omega
theorem qip{n:Int}(h0:0<=n)(h:n<=4095):(XA n).length<=21:=Lib.itoa_length_le n (by omega) (by omega)
theorem qgX(n:Int):(zd n qI).length<=21:=by
 have:∀l:List (List UInt8×Int),(∀p ∈ l,p.1.length<=21)->(zd n l).length<=21:=by
  intro l
  induction l with
  | nil=>intro _;simp[zd]
  | cons p l ih =>
   intro h;simp only[zd];split
   ·exact h p (by simp)
   ·exact ih fun q hq=>h q (by simp[hq])
 exact this _ (by decide)
theorem WI{n:Int}(h0:0<=n):(QJ n).length<=21:=by
 unfold QJ;split
 ·rename_i h;exact qip h0 h.2
 ·exact qgX n
def X8(a:Nat):IFn:=⟨[.tmp 2],.seq (.r [.q 1 (.box (.t 0)),.m 2 (.c (.s []))]) (.seq (.blk 0 (.seq (.r [.f 4 2 1,.d 5 4,.q 6 (.un .not (.t 5)),.n 3 6]) (.cond (.t 3) (.seq (.r [.f 7 0 1,.d 8 7,.n 2 8]) (.ret)) (.seq (.r [.f 10 1 1,.d 11 10,.q 12 (.bin .eql (.t 11) (.c (.i .u32 2147483648))),.n 9 12]) (.cond (.t 9) (.seq (.r [.f 13 0 1,.d 14 13,.q 15 (.bin .add (.t 14) (.c (.s [58,107,105,108,108]))),.n 2 15]) (.ret)) (.seq (.r [.f 17 1 1,.d 18 17,.q 19 (.bin .and (.t 18) (.c (.i .u32 4294901760))),.q 20 (.bin .eql (.t 19) (.c (.i .u32 327680))),.n 16 20]) (.cond (.t 16) (.seq (.reg true [.f 21 0 1,.d 22 21,.q 23 (.bin .add (.t 22) (.c (.s [58]))),.f 24 1 1,.d 25 24,.q 26 (.bin .and (.t 25) (.c (.i .u32 65535))),.l 27 a [.t 26],.b 28 .add 23 27,.n 2 28]) (.ret)) (.skip)))))))) (.seq (.r [.f 29 0 1,.d 30 29,.q 31 (.bin .add (.t 30) (.c (.s [58]))),.n 2 31]) (.ret)))⟩
def qk2(c:GCall):List AV:=[.s c.name,.i .u32 c.act,.b (decide (c.act≠0))]
theorem qru{g:Nat}(hc:qj P f (X8 g)=true)(hg:∀n:Int,0<=n->n<=4294967295->qc P g [.i .u32 n] (.s (QJ n)))(c:GCall)(hl:c.name.length<=1000000):qc P f [.agg (qk2 c)] (.s (wC c)):=by
 refine qc.mk hc rfl ?_;have h1:c.name.length+5<=9223372036854775807:=by omega
 have h2:c.name.length+1<=9223372036854775807:=by omega
 simp only[X8,qk2,vI,simprocAttr];unfold wC
 by_cases a0:c.act=0
 ·simp (decide:=true) only [↓vS,vT,simprocAttr,a0];simp[vZ,a0]
 have hb:decide (c.act≠0)=true:=by simpa using a0
 rw[hb]
 by_cases a1:c.act=2147483648
 ·simp (decide:=true) only [↓vS,vT,simprocAttr,a0,a1,h1];simp[vZ,a0,a1]
 by_cases a2:wD .u32 c.act 4294901760=327680
 ·have hr:=Wz c.act 65535;have hel:=WI (n:=wD .u32 c.act 65535) hr.1;have hg':=hg _ hr.1 hr.2;have h3:c.name.length+1+(QJ (wD .u32 c.act 65535)).length<=9223372036854775807:=by omega
  simp (decide:=true) only [↓vS,vT,simprocAttr,a0,a1,a2];refine zQ ?_;simp (decide:=true) only [↓vS,vT,simprocAttr,h2];refine hg'.pc ?_;simp (decide:=true) only [↓vS,vT,simprocAttr,List.length_append,h2,h3];simp[vZ,a0,a1,a2]
 ·simp (decide:=true) only [↓vS,vT,simprocAttr,a0,a1,a2,h2];simp[vZ,a0,a1,a2]
end Go.Kc
end
section
/- What policy's writer lists. Condition: the functions' texts are these. -/
namespace Go.Kc
variable {P:Program} {f:Nat}
def zC(q:GCall->Bool)(l:List GCall):List (List UInt8):=(l.filter q).map wC
theorem qgs{q:GCall->Bool}{l:List GCall}{j:Nat}{c:GCall}(h:l[j]?=some c):zC q (l.take (j+1))=zC q (l.take j)++(if q c=true then [wC c] else []):=by
 unfold zC;rw[List.take_add_one,h,List.filter_append,List.map_append]
 by_cases hc:q c=true<;>simp[hc]
theorem XL(q:GCall->Bool)(l:List GCall):(zC q l).length<=l.length:=by
 unfold zC;rw[List.length_map];exact List.length_filter_le _ _
def Zj(P:Program)(f:Nat):Prop:=∀(g:Nat) (q:GCall->Bool) (l:GList),l.calls.length<=100000->(∀c ∈ l.calls,c.name.length<=1000000)->(∀c,qc P g [.agg (zt c)] (.b (q c)))->
 qc P f [.fn g [] [],.pf (qv l) 0] (.fz (zC q l.calls).length (rS (zC q l.calls)))
def v6(a:Nat):IFn:=⟨[.tmp 3],.seq (.r [.m 3 .N]) (.seq (.r [.m 4 .N]) (.seq (.seq (.r [.f 7 1 1,.d 8 7,.e 9 8,.m 10 (.k 0)]) (.blk 0 (.loop (.seq (.r [.s 11 10 9]) (.seq (.cond (.t 11) (.skip) (.exit 0)) (.seq (.blk 1 (.seq (.r [.i 12 2 8 10,.v 13 2 12,.q 6 (.alloc [.s [],.i .u32 0]),.u (.store 2 (.t 6) (.t 13))]) (.seq (.r [.n 14 0,.v 15 2 6,⟨(some 16),.callV (.t 14) [.t 15],none⟩]) (.cond (.t 16) (.r [.n 17 4,.f 18 0 6,.d 19 18,.f 20 1 6,.d 21 20,.f 22 1 6,.d 23 22,.q 24 (.bin .neq (.t 23) (.c (.i .u32 0))),.q 25 (.build [.s [],.i .u32 0,.b false] [(0,1,(.t 19)),(1,1,(.t 21)),(2,1,(.t 24))]),.l 26 a [.t 25],.q 27 (.buildS 1 [.s []] [(0,1,(.t 26))]),.q 28 (.app 1 16 true (.t 17) (.t 27)),.n 4 28]) (.skip))))) (.r [.a 29 10 1,.n 10 29]))))))) (.seq (.r [.n 30 4,.n 3 30]) (.ret))))⟩
theorem qln{g1:Nat}(hc:qj P f (v6 g1)=true)(h1:∀c:GCall,c.name.length<=1000000->qc P g1 [.agg (qk2 c)] (.s (wC c))):Zj P f:=by
 intro g q l hl hn hg;refine qc.mk hc (by simp[qt,clo,qv,qg]) ?_;simp only[v6,qv,vI,simprocAttr];simp only[↓vS,vT,simprocAttr]
 refine SL.loop (α:=Nat) (fun j=>[(0,.fn g [] []),(4,.own 0 (zC q (l.calls.take j)).length),(8,.fz l.calls.length (rC l.calls)),(9,.i .i64 l.calls.length),(10,.i .i64 j)])
  (fun j=>[.cells 1 true true (rS (zC q (l.calls.take j)))]) (fun j=>j<=l.calls.length) (fun j=>l.calls.length-j) 0 [99] ?_ ?_ ?_ rfl ?_ ?_
 ·simp[vw,qg,zC]
 ·simp[vw,Z9,zC]
 ·simp
 ·exact Nat.zero_le _
 rintro j hj G ih;simp only[vI,simprocAttr];have hlen:=XL q (l.calls.take j);rw[List.length_take,Nat.min_eq_left hj] at hlen
 by_cases hlt:j<l.calls.length
 ·have hx:l.calls[j]?=some l.calls[j]:=List.getElem?_eq_getElem hlt;have hw:IntKind.wrap .i64 ((j:Int)+1)=((j+1:Nat):Int):=by rw[qB (by omega) (by omega)];omega
  have he:=Z6 hx;have hb:=yz hlt;have hnc:=hn l.calls[j] (List.getElem_mem hlt);have hnx:=qgs (q:=q) hx;have ih2:=ih (j+1);rw[hnx] at ih2;generalize l.calls[j]=c at he hnc ih2;generalize zC q (l.calls.take j)=A at hlen ih2 ⊢;have hgc:=hg c;have h1c:=h1 c hnc;simp only[zt] at hgc;simp only[qk2] at h1c;have hr1:A.length+1<=qf:=by simp only[qf];omega
  have hr2:(A.length+1)*16<=qf:=by simp only[qf];omega
  have hap:rS A++[AV.s (wC c)]=rS (A++[wC c]):=by rw[← qa9];rfl
  simp (decide:=true) only [↓vS,vT,simprocAttr,hlt,he,hb,zt];refine hgc.sc ?_;cases hq:q c with
  | false =>
   rw[hq,if_neg (by decide),List.append_nil] at ih2;simp (decide:=true) only [↓vS,vT,simprocAttr,hw];refine ih2 (by omega) (by omega) _ _ (Wk.mk _ _ [0] ?_ ?_ ?_ rfl)
   ·simp[vw,qg]
   ·simp[vw,qa,qi]
   ·simp
  | true =>
   rw[hq,if_pos rfl] at ih2
   by_cases ha:c.act=0
   ·have hd:decide (c.act≠0)=false:=by simp[ha]
    rw[hd,ha] at h1c;simp (decide:=true) only [↓vS,vT,simprocAttr,ha];refine h1c.sc ?_;simp (decide:=true) only [↓vS,vT,simprocAttr,hr1,hr2,Wq,hap,hw,Nat.mul_one];refine ih2 (by omega) (by omega) _ _ (Wk.mk _ _ [3] ?_ ?_ ?_ rfl)
    ·simp[vw,qg]
    ·simp[vw,qa,qi]
    ·simp
   ·have hd:decide (c.act≠0)=true:=by simp[ha]
    rw[hd] at h1c;simp (decide:=true) only [↓vS,vT,simprocAttr,ha];refine h1c.sc ?_;simp (decide:=true) only [↓vS,vT,simprocAttr,hr1,hr2,Wq,hap,hw,Nat.mul_one];refine ih2 (by omega) (by omega) _ _ (Wk.mk _ _ [3] ?_ ?_ ?_ rfl)
    ·simp[vw,qg]
    ·simp[vw,qa,qi]
    ·simp
 ·have hjl:l.calls.take j=l.calls:=List.take_of_length_le (by omega);rw[hjl];clear ih;simp (decide:=true) only [↓vS,vT,simprocAttr,hlt];simp[vZ,vP,Tr.get_set,qE qi]
  try (intro h0;rw[h0];rfl)
end Go.Kc
end
section
/- policy's writer: a list's lines. Condition: the functions' texts are these. -/
namespace Go.Kc
variable {P:Program} {f:Nat}
def qV:List UInt8:=[114,101,97,100]
def qA(_:GCall):Bool:=true
def qR(c:GCall):Bool:=decide (c.name=qV)&&decide (c.act=0)
def qO(c:GCall):Bool:=!decide (c.name=qV)&&decide (c.act=0)
def qW(c:GCall):Bool:=decide (c.act≠0)
def v7:IFn:=⟨[.tmp 2],.seq (.r [.q 1 (.box (.t 0)),.m 2 .F]) (.seq (.r [.m 2 .T]) (.ret))⟩
theorem qtN(hc:qj P f v7=true)(c:GCall):qc P f [.agg (zt c)] (.b (qA c)):=by
 refine qc.mk hc rfl ?_;simp only[v7,zt,vI,simprocAttr];simp only[↓vS,vT,simprocAttr];simp[vZ,qA]
def v8:IFn:=⟨[.tmp 2],.seq (.r [.q 1 (.box (.t 0)),.m 2 .F]) (.seq (.r [.f 3 0 1,.d 4 3,.q 5 (.bin .eql (.t 4) (.c (.s [114,101,97,100]))),.n 6 5,.h 7 1 1 6 true,.j 8 7 6 true,.g 9 (.bin .eql (.t 8) (.c (.i .u32 0))) 6 true,.p 10 6 9,.n 2 10]) (.ret))⟩
theorem qtO(hc:qj P f v8=true)(c:GCall):qc P f [.agg (zt c)] (.b (qR c)):=by
 refine qc.mk hc rfl ?_;simp only[v8,zt,vI,simprocAttr]
 by_cases h1:c.name=[114,101,97,100]
 ·by_cases h2:c.act=0 <;>
  ·simp (decide:=true) only [↓vS,vT,simprocAttr,h1,h2];simp[vZ,qR,qV,h1,h2]
 ·simp (decide:=true) only [↓vS,vT,simprocAttr,h1];simp[vZ,qR,qV,h1]
def ka:IFn:=⟨[.tmp 2],.seq (.r [.q 1 (.box (.t 0)),.m 2 .F]) (.seq (.r [.f 3 0 1,.d 4 3,.q 5 (.bin .neq (.t 4) (.c (.s [114,101,97,100]))),.n 6 5,.h 7 1 1 6 true,.j 8 7 6 true,.g 9 (.bin .eql (.t 8) (.c (.i .u32 0))) 6 true,.p 10 6 9,.n 2 10]) (.ret))⟩
theorem qtP(hc:qj P f ka=true)(c:GCall):qc P f [.agg (zt c)] (.b (qO c)):=by
 refine qc.mk hc rfl ?_;simp only[ka,zt,vI,simprocAttr]
 by_cases h1:c.name=[114,101,97,100]
 ·simp (decide:=true) only [↓vS,vT,simprocAttr,h1];simp[vZ,qO,qV,h1]
 ·by_cases h2:c.act=0 <;>
  ·simp (decide:=true) only [↓vS,vT,simprocAttr,h1,h2];simp[vZ,qO,qV,h1,h2]
def kb:IFn:=⟨[.tmp 2],.seq (.r [.q 1 (.box (.t 0)),.m 2 .F]) (.seq (.r [.f 3 1 1,.d 4 3,.q 5 (.bin .neq (.t 4) (.c (.i .u32 0))),.n 2 5]) (.ret))⟩
theorem qtQ(hc:qj P f kb=true)(c:GCall):qc P f [.agg (zt c)] (.b (qW c)):=by
 refine qc.mk hc rfl ?_;simp only[kb,zt,vI,simprocAttr]
 by_cases h2:c.act=0 <;>
 ·simp (decide:=true) only [↓vS,vT,simprocAttr,h2];simp[vZ,qW,h2]
def sB0(ls:List (List UInt8)):List Blk:=[.cells 0 true false [.ptr 1 0],.cells 0 true false [.own 2 ls.length],.cells 1 true true (rS ls)]
def sB1(ls:List (List UInt8)):List Blk:=[.cells 0 true false [.ptr 1 0],.cells 0 true false [.own 3 ls.length],.dead,.cells 1 true true (rS ls)]
def qT(a:Nat):IFn:=⟨[],.seq (.r [.n 6 1,.e 7 6,.w 8 .gtr 7 0]) (.cond (.t 8) (.r [.d 9 2,.d 10 3,.n 11 0,.n 12 1,.l 13 a [.t 9,.t 10,.t 11,.t 12]]) (.skip))⟩
theorem qfR{g:Nat}(hc:qj P f (qT g)=true)(k a:List UInt8)(ls:List (List UInt8)):Upd P f [.s a,.fz 0 [],.ptr 0 0,.pf [.s k] 0] (sB0 ls) (.tup []) (sB0 ls):=by
 refine Upd.mk hc (by simp[z8,bnd,sB0,qP,clo,qt]) (by simp[sB0]) ?_;simp only[qT,sB0,vI,simprocAttr];simp only[↓vS,vT,simprocAttr];intro _;refine⟨[0,1,2],?_⟩;simp[vw,sB0,qa,qi]
 try decide
theorem qd9{g:Nat}(hc:qj P f (qT g)=true)(hg:QL P g)(k a:List UInt8)(ws ls:List (List UInt8))(hw:ws≠[])(hls:ls.length<=100000)(hok:QU k a ws) :
  Upd P f [.s a,.fz ws.length (rS ws),.ptr 0 0,.pf [.s k] 0] (sB0 ls) (.tup []) (sB1 (ls++[wi k a ws])):=by
 have hpos:(0:Int)<ws.length:=by have:=List.length_pos_iff.2 hw;omega
 refine Upd.mkd hc (by simp[z8,bnd,sB0,qP,clo,qt,qi]) (by simp[sB0,sB1]) ?_;simp only[qT,sB0,vI,simprocAttr];simp (decide:=true) only [↓vS,vT,simprocAttr,hpos];refine (hg k a ws ls hls hok).sc (vs:=[.ptr 0 0,.s k,.s a,.fz ws.length (rS ws)]) [1,2] (Lent.of (by decide) ?_) ?_
 ·simp[vL,vw,wB0,qr qi,qe qi]
 simp only[vK,simprocAttr,wB1,qe qi];simp only[↓vS,vT,simprocAttr];intro _;refine⟨[0,1,2,3],?_⟩;simp[vw,sB1,qa,qi,jh,rl];intro b hb;have:b=0∨b=1∨b=2:=by omega
 rcases this with rfl|rfl|rfl<;>rfl
theorem qbp{bs2:List Blk}{h':Hp}{n:Nat}(hw:Wk n (mkT []) h' (mkT []) (mkH 0 bs2)):ZJ n (.tup []) bs2 (.tup []) h':=by
 intro _ ρ B w tm ht r;obtain⟨ρ',_,g2,g3⟩:=hw ρ B w tm (fun j v hj=>by simp[mkT] at hj) r
 refine⟨ρ',fun j v hj=>?_,g2,g3⟩
 have h2:=ht j v hj;simp only[mkT,Tr.get_set] at hj;split at hj
 ·cases hj;exact⟨h2.1,h2.2.flat rfl⟩
 ·simp at hj
def yW(k:List UInt8)(l:GList)(e1 e2:Nat):List (Nat×AV):=[(3,.ptr 3 0),(4,.pf [.s k] 0),(6,.fn e1 [] [.pf (qv l) 0]),(7,.fn e2 [] [.ptr 3 0,.pf [.s k] 0])]
def xN(ls:List (List UInt8)):List Blk:=[.cells 0 true false [.own 2 ls.length],.dead,.cells 1 true true (rS ls),.cells 0 true false [.ptr 0 0]]
def XC(k a:List UInt8)(ws:List (List UInt8)):List (List UInt8):=if ws=[] then [] else [wi k a ws]
structure LOkP (k:List UInt8) (l:GList):Prop where
 k100:k.length<=100
 n:l.calls.length<=1000
 nm:∀c ∈ l.calls,c.name.length<=1000000
 ok:∀(q:GCall->Bool) (a:List UInt8),a.length<=1->QU k a (zC q l.calls)
def x8(a b c d e g h:Nat):ICode:=.r [.n 37 7,.n 38 6,⟨(some 39),.callV (.t 38) [(.c (.fn h [] []))],none⟩,⟨(some 40),.callV (.t 37) [(.c (.s [126])),.t 39],none⟩]
def x7(a b c d e g h:Nat):ICode:=.seq (.r [.n 33 7,.n 34 6,⟨(some 35),.callV (.t 34) [(.c (.fn g [] []))],none⟩,⟨(some 36),.callV (.t 33) [(.c (.s [])),.t 35],none⟩]) (.cut (x8 a b c d e g h))
def x6(a b c d e g h:Nat):ICode:=.seq (.seq (.r [.n 25 6,⟨(some 26),.callV (.t 25) [(.c (.fn e [] []))],none⟩,.e 27 26,.w 28 .eql 27 0]) (.cond (.t 28) (.r [.d 29 3,.d 30 4,.q 31 (.buildS 1 [.s []] [(0,1,(.c (.s [114,101,97,100])))]),⟨(some 32),.callW d [.t 29,.t 30,(.c (.s [126])),.t 31],none⟩]) (.skip))) (.cut (x7 a b c d e g h))
def zI(a b c d e g h:Nat):ICode:=.seq (.r [.q 8 (.mkF a [] [.t 5]),.n 6 8]) (.seq (.r [.q 9 (.mkF b [] [.t 3,.t 4]),.n 7 9]) (.seq (.r [.f 10 0 5,.d 11 10]) (.blk 0 (.seq (.r [.q 13 (.bin .eql (.t 11) (.c (.i .u8 2))),.n 12 13]) (.cond (.t 12) (.reg true [.d 14 3,.d 15 4,.n 16 6,⟨(some 17),.callV (.t 16) [(.c (.fn c [] []))],none⟩,⟨(some 18),.callW d [.t 14,.t 15,(.c (.s [126])),.t 17],none⟩]) (.seq (.r [.q 20 (.bin .eql (.t 11) (.c (.i .u8 1))),.n 19 20]) (.cond (.t 19) (.seq (.r [.d 21 3,.d 22 4,.q 23 (.buildS 1 [.s []] [(0,1,(.c (.s [114,101,97,100])))]),⟨(some 24),.callW d [.t 21,.t 22,(.c (.s [])),.t 23],none⟩]) (.cut (x6 a b c d e g h))) (.skip))))))))
def kR(a b c d e g h:Nat):IFn:=⟨[],.seq (.r [.q 3 (.box (.t 0)),.q 4 (.box (.t 1)),.q 5 (.box (.t 2))]) (.cut (zI a b c d e g h))⟩
section
variable {e1 e2 g3 g4 g5 g6 g7:Nat}
theorem qjg{Q:X->Tr AV->Hp->Prop}(h1:Zj P e1)(h2:qj P e2 (qT g4)=true)(hg:QL P g4)(h7:∀c,qc P g7 [.agg (zt c)] (.b (qW c)))(k:List UInt8)(l:GList)(hk:LOkP k l)(ls:List (List UInt8))(hls:ls.length<=1000)
  (hQ:∀t' h',Wk 2 (mkT []) h' (mkT []) (mkH 0 (wB1 (ls++XC k [126] (zC qW l.calls))))->Q .normal t' h') {t':Tr AV} {h':Hp} (hw:Wk 2 t' h' (mkT (yW k l e1 e2)) (mkH 0 (xN ls))) :
  S P 2 (x8 e1 e2 g3 g4 g5 g6 g7) Q t' h':=by
 refine S.weak hw (qq ?_);have hE:=h1 g7 qW l (by have:=hk.n;omega) hk.nm h7
 have hok:=hk.ok qW [126] (by simp);have hlen:=XL qW l.calls;simp only[x8,yW,xN,vI,simprocAttr];simp only[↓vS,vT,simprocAttr];refine hE.sc ?_;generalize zC qW l.calls=ws at hok hlen hQ ⊢;simp only[↓vS,vT,simprocAttr]
 by_cases he:ws=[]
 ·subst he;simp only[List.length_nil,Z9];refine (qfR h2 k [126] ls).sc (vs:=[.s [126],.fz 0 [],.ptr 0 0,.pf [.s k] 0]) [3,0,2] (Lent.of (by decide) ?_) ?_
  ·simp[vL,vw,sB0,qr qi,qe qi]
  simp only[vK,simprocAttr,sB0,qe qi];simp only[↓vS,vT,simprocAttr];refine hQ _ _ (Wk.mkd [] _ [0,1,2] ?_ ?_ ?_ rfl (by simp[wB1]) ?_)
  ·trivial
  ·simp[vw,wB1,XC,qa,qi]
  ·simp[jh,wB1]
  ·intro b hb;have:b=0∨b=1:=by omega
   rcases this with rfl|rfl<;>simp[rl]
 ·refine (qd9 h2 hg k [126] ws ls he (by omega) hok).sc (vs:=[.s [126],.fz ws.length (rS ws),.ptr 0 0,.pf [.s k] 0]) [3,0,2] (Lent.of (by decide) ?_) ?_
  ·simp[vL,vw,sB0,qr qi,qe qi]
  simp only[vK,simprocAttr,sB1,qe qi];simp only[↓vS,vT,simprocAttr];refine hQ _ _ (Wk.mkd [] _ [0,1,4] ?_ ?_ ?_ rfl (by simp[wB1]) ?_)
  ·trivial
  ·simp[vw,wB1,XC,he,qa,qi]
  ·simp[jh,wB1]
  ·intro b hb;have:b=0∨b=1:=by omega
   rcases this with rfl|rfl<;>simp[rl]
theorem qa4(k a:List UInt8)(ws:List (List UInt8)):(XC k a ws).length<=1:=by unfold XC;split<;>simp
theorem qjf{Q:X->Tr AV->Hp->Prop}(h1:Zj P e1)(h2:qj P e2 (qT g4)=true)(hg:QL P g4)(h6:∀c,qc P g6 [.agg (zt c)] (.b (qO c)))(h7:∀c,qc P g7 [.agg (zt c)] (.b (qW c)))(k:List UInt8)(l:GList)(hk:LOkP k l)(ls:List (List UInt8))(hls:ls.length<=900)
  (hQ:∀t' h',Wk 2 (mkT []) h' (mkT []) (mkH 0 (wB1 (ls++XC k [] (zC qO l.calls)++XC k [126] (zC qW l.calls))))->Q .normal t' h') {t':Tr AV} {h':Hp} (hw:Wk 2 t' h' (mkT (yW k l e1 e2)) (mkH 0 (xN ls))) :
  S P 2 (x7 e1 e2 g3 g4 g5 g6 g7) Q t' h':=by
 refine S.weak hw (qq ?_);have hE:=h1 g6 qO l (by have:=hk.n;omega) hk.nm h6
 have hok:=hk.ok qO [] (by simp);have hlen:=XL qO l.calls;have hol:=qa4 k [] (zC qO l.calls);have tail:=fun {t' h'}=>qjg (g3:=g3) (g5:=g5) (g6:=g6) h1 h2 hg h7 k l hk (ls++XC k [] (zC qO l.calls)) (by rw[List.length_append];omega) hQ (t':=t') (h':=h')
 simp only[x7,yW,xN,vI,simprocAttr] at tail ⊢;simp only[↓vS,vT,simprocAttr];refine hE.sc ?_;generalize zC qO l.calls=ws at hok hlen hQ tail ⊢;simp only[↓vS,vT,simprocAttr]
 by_cases he:ws=[]
 ·subst he;simp only[List.length_nil,Z9];refine (qfR h2 k [] ls).sc (vs:=[.s [],.fz 0 [],.ptr 0 0,.pf [.s k] 0]) [3,0,2] (Lent.of (by decide) ?_) ?_
  ·simp[vL,vw,sB0,qr qi,qe qi]
  simp only[vK,simprocAttr,sB0,qe qi];simp only[↓vS,vT,simprocAttr];refine tail (Wk.mkd (yW k l e1 e2) (xN _) [0,1,2,3] ?_ ?_ ?_ rfl (by simp[xN]) ?_)
  ·simp[vw,yW,xN,clo,qt,qv,qg]
  ·simp[vw,xN,XC,qa,qi]
  ·simp[jh,xN]
  ·intro b hb;have:b=0∨b=1:=by omega
   rcases this with rfl|rfl<;>simp[rl]
 ·refine (qd9 h2 hg k [] ws ls he (by omega) hok).sc (vs:=[.s [],.fz ws.length (rS ws),.ptr 0 0,.pf [.s k] 0]) [3,0,2] (Lent.of (by decide) ?_) ?_
  ·simp[vL,vw,sB0,qr qi,qe qi]
  simp only[vK,simprocAttr,sB1,qe qi];simp only[↓vS,vT,simprocAttr];refine tail (Wk.mkd (yW k l e1 e2) (xN _) [0,1,4,3] ?_ ?_ ?_ rfl (by simp[xN]) ?_)
  ·simp[vw,yW,xN,clo,qt,qv,qg]
  ·simp[vw,xN,XC,he,qa,qi]
  ·simp[jh,xN]
  ·intro b hb;have:b=0∨b=1:=by omega
   rcases this with rfl|rfl<;>simp[rl]
def Jj(k:List UInt8)(ws:List (List UInt8)):List (List UInt8):=if ws=[] then [wi k [126] [qV]] else []
theorem qfM{k a:List UInt8}(hk:k.length<=100)(ha:a.length<=100):QU k a [qV]:=⟨hk,ha,by simp,by rw[ye];decide⟩
theorem qje{Q:X->Tr AV->Hp->Prop}(h1:Zj P e1)(h2:qj P e2 (qT g4)=true)(hg:QL P g4)(h5:∀c,qc P g5 [.agg (zt c)] (.b (qR c)))(h6:∀c,qc P g6 [.agg (zt c)] (.b (qO c)))(h7:∀c,qc P g7 [.agg (zt c)] (.b (qW c)))(k:List UInt8)(l:GList)(hk:LOkP k l)(ls:List (List UInt8))(hls:ls.length<=800)
  (hQ:∀t' h',Wk 2 (mkT []) h' (mkT []) (mkH 0 (wB1 (ls++Jj k (zC qR l.calls)++XC k [] (zC qO l.calls)++XC k [126] (zC qW l.calls))))->Q .normal t' h') {t':Tr AV} {h':Hp} (hw:Wk 2 t' h' (mkT (yW k l e1 e2)) (mkH 0 (xN ls))) :
  S P 2 (x6 e1 e2 g3 g4 g5 g6 g7) Q t' h':=by
 refine S.weak hw (qq ?_);have hE:=h1 g5 qR l (by have:=hk.n;omega) hk.nm h5
 have hok:=qfM (a:=[126]) hk.k100 (by simp);have hol:(Jj k (zC qR l.calls)).length<=1:=by unfold Jj;split<;>simp
 have tail:=fun {t' h'}=>qjf (g3:=g3) (g5:=g5) h1 h2 hg h6 h7 k l hk (ls++Jj k (zC qR l.calls)) (by rw[List.length_append];omega) hQ (t':=t') (h':=h')
 simp only[x6,yW,xN,vI,simprocAttr] at tail ⊢;simp only[↓vS,vT,simprocAttr];refine hE.sc ?_;generalize zC qR l.calls=ws at hQ tail ⊢;simp only[↓vS,vT,simprocAttr]
 by_cases he:ws=[]
 ·subst he;simp (decide:=true) only [↓vS,vT,simprocAttr,List.length_nil,Z9];refine SC.give (vs':=[.ptr 0 0,.s k,.s [126],.fz 1 (rS [qV])]) [(4,.cells 0 true false [.s qV])] ?_ ?_ ?_
  ·intro q hq;simp at hq;subst hq;simp[Tr.get_set,qV]
  ·refine .keep _ _ _ (.keep _ _ _ (.keep _ _ _ (.fz _ _ _ _ (.cut 1 rfl (Nat.le_refl _) ?_) .nil)));simp[vw,trP,rS,qV]
  simp only[Zz,ZA,ZX];refine (hg k [126] [qV] ls (by omega) hok).sc (vs:=[.ptr 0 0,.s k,.s [126],.fz 1 (rS [qV])]) [0,2] (Lent.of (by decide) ?_) ?_
  ·simp[vL,vw,wB0,qr qi,qe qi]
  simp only[vK,simprocAttr,wB1,qe qi];simp only[↓vS,vT,simprocAttr];refine tail (Wk.mkd (yW k l e1 e2) (xN _) [0,1,5,3] ?_ ?_ ?_ rfl (by simp[xN]) ?_)
  ·simp[vw,yW,xN,clo,qt,qv,qg]
  ·simp[vw,xN,Jj,qa,qi]
  ·simp[jh,xN]
  ·intro b hb;have:b=0∨b=1:=by omega
   rcases this with rfl|rfl<;>simp[rl]
 ·have hn:¬(ws.length:Int)=0:=fun h=>he (List.eq_nil_of_length_eq_zero (by omega))
  simp (decide:=true) only [↓vS,vT,simprocAttr,hn];refine tail (Wk.mkd (yW k l e1 e2) (xN _) [0,1,2,3] ?_ ?_ ?_ rfl (by simp[xN]) ?_)
  ·simp[vw,yW,xN,clo,qt,qv,qg]
  ·simp[vw,xN,Jj,he,qa,qi]
  ·simp[jh,xN]
  ·intro b hb;have:b=0∨b=1:=by omega
   rcases this with rfl|rfl<;>simp[rl]
def yy(k:List UInt8)(l:GList):List (List UInt8) :=
 if l.mode=2 then [wi k [126] (zC qA l.calls)]
 else if l.mode=1 then [wi k [] [qV]]++Jj k (zC qR l.calls)++XC k [] (zC qO l.calls)++XC k [126] (zC qW l.calls)
 else []
theorem qmb(h1:Zj P e1)(h2:qj P e2 (qT g4)=true)(h3:∀c,qc P g3 [.agg (zt c)] (.b (qA c)))(hg:QL P g4)(h5:∀c,qc P g5 [.agg (zt c)] (.b (qR c)))(h6:∀c,qc P g6 [.agg (zt c)] (.b (qO c)))(h7:∀c,qc P g7 [.agg (zt c)] (.b (qW c)))(k:List UInt8)(l:GList)(hk:LOkP k l)(ls:List (List UInt8))(hls:ls.length<=700)
  {t':Tr AV} {h':Hp} (hw:Wk 2 t' h' (mkT [(3,.ptr 2 0),(4,.pf [.s k] 0),(5,.pf (qv l) 0)]) (mkH 0 [.cells 0 true false [.own 1 ls.length],.cells 1 true true (rS ls),.cells 0 true false [.ptr 0 0]])) :
  S P 2 (zI e1 e2 g3 g4 g5 g6 g7) (wE [] (ZJ 2 (.tup []) (wB1 (ls++yy k l)))) t' h':=by
 refine S.weak hw (qq ?_)
 by_cases m2:l.mode=2
 ·have hE:=h1 g3 qA l (by have:=hk.n;omega) hk.nm h3
  have hok:=hk.ok qA [126] (by simp);have hM:yy k l=[wi k [126] (zC qA l.calls)]:=by unfold yy;rw[if_pos m2]
  rw[hM];simp only[zI,qv,vI,simprocAttr] at hE ⊢;simp (decide:=true) only [↓vS,vT,simprocAttr,m2] at hE ⊢;refine zQ ?_;simp (decide:=true) only [↓vS,vT,simprocAttr];refine hE.pc ?_;generalize zC qA l.calls=ws at hok ⊢;simp (decide:=true) only [↓vS,vT,simprocAttr];simp only[qkm,qcy];refine (hg k [126] ws ls (by omega) hok).pc (vs:=[.ptr 0 0,.s k,.s [126],.fz ws.length (rS ws)]) [0,1] (Lent.of (by decide) ?_) ?_
  ·simp[vL,vw,wB0,qr qi,qe qi]
  simp only[vK,simprocAttr,wB1,qe qi];simp (decide:=true) only [↓vS,vT,simprocAttr];refine qbp (Wk.mkd [] _ [0,1,3] ?_ ?_ ?_ rfl (by simp) ?_)
  ·trivial
  ·simp[vw,qa,qi]
  ·simp[jh]
  ·intro b hb;have:b=0∨b=1:=by omega
   rcases this with rfl|rfl<;>simp[rl]
 ·by_cases m1:l.mode=1
  ·have hok:=qfM (a:=[]) hk.k100 (by simp);have hM:yy k l=[wi k [] [qV]]++Jj k (zC qR l.calls)++XC k [] (zC qO l.calls)++XC k [126] (zC qW l.calls):=by unfold yy;rw[if_neg m2,if_pos m1]
   rw[hM];have tail:=fun {Q:X->Tr AV->Hp->Prop} {t' h'} hQ=>qje (g3:=g3) (Q:=Q) h1 h2 hg h5 h6 h7 k l hk (ls++[wi k [] [qV]]) (by simp;omega) hQ (t':=t') (h':=h')
   simp only[zI,qv,vI,simprocAttr];simp (decide:=true) only [↓vS,vT,simprocAttr,m2,m1];refine SC.give (vs':=[.ptr 0 0,.s k,.s [],.fz 1 (rS [qV])]) [(3,.cells 0 true false [.s qV])] ?_ ?_ ?_
   ·intro q hq;simp at hq;subst hq;simp[Tr.get_set,qV]
   ·refine .keep _ _ _ (.keep _ _ _ (.keep _ _ _ (.fz _ _ _ _ (.cut 1 rfl (Nat.le_refl _) ?_) .nil)));simp[vw,trP,rS,qV]
   simp only[Zz,ZA,ZX];refine (hg k [] [qV] ls (by omega) hok).sc (vs:=[.ptr 0 0,.s k,.s [],.fz 1 (rS [qV])]) [0,1] (Lent.of (by decide) ?_) ?_
   ·simp[vL,vw,wB0,qr qi,qe qi]
   simp only[vK,simprocAttr,wB1,qe qi];simp only[↓vS,vT,simprocAttr];refine tail ?_ (Wk.mkd (yW k l e1 e2) (xN _) [0,1,4,2] ?_ ?_ ?_ rfl (by simp[xN]) ?_)
   ·intro t' h' hw;simp only[List.append_assoc] at hw ⊢;exact qbp hw
   ·simp[vw,yW,xN,clo,qt,qv,qg,m1]
   ·simp[vw,xN,qa,qi]
   ·simp[jh,xN]
   ·intro b hb;have:b=0∨b=1:=by omega
    rcases this with rfl|rfl<;>simp[rl]
  ·have hM:yy k l=[]:=by unfold yy;rw[if_neg m2,if_neg m1]
   rw[hM,List.append_nil];simp only[zI,qv,vI,simprocAttr];simp (decide:=true) only [↓vS,vT,simprocAttr,m2,m1];refine qbp (Wk.mkd [] _ [0,1,1] ?_ ?_ ?_ rfl (by simp[wB1]) ?_)
   ·trivial
   ·simp[vw,wB1,qa,qi]
   ·simp[jh,wB1]
   ·intro b hb;have:b=0∨b=1:=by omega
    rcases this with rfl|rfl<;>simp[rl]
def qcm(P:Program)(f:Nat):Prop:=∀(k:List UInt8) (l:GList) (ls:List (List UInt8)),LOkP k l->ls.length<=700->Upd P f [.ptr 0 0,.s k,.agg (qv l)] (wB0 ls) (.tup []) (wB1 (ls++yy k l))
theorem qst(hc:qj P f (kR e1 e2 g3 g4 g5 g6 g7)=true)(h1:Zj P e1)(h2:qj P e2 (qT g4)=true)(h3:∀c,qc P g3 [.agg (zt c)] (.b (qA c)))(hg:QL P g4)(h5:∀c,qc P g5 [.agg (zt c)] (.b (qR c)))(h6:∀c,qc P g6 [.agg (zt c)] (.b (qO c)))(h7:∀c,qc P g7 [.agg (zt c)] (.b (qW c))):qcm P f:=by
 intro k l ls hk hls;refine Upd.mkS hc (by simp[z8,bnd,wB0,qP,clo,qt,qv,qg]) (by simp[wB0,wB1]) (qq ?_);simp only[kR,wB0,qv,vI,simprocAttr];simp (decide:=true) only [↓vS,vT,simprocAttr];refine S.weak (Wk.mkn [(3,.ptr 2 0),(4,.ptr 3 0),(5,.ptr 4 0)] [.cells 0 true false [.own 1 ls.length],.cells 1 true true (rS ls),.cells 0 true false [.ptr 0 0],.cells 0 true false [.s k],.cells 0 true false (qv l)] [0,1,2,3,4] ?_ ?_ ?_ rfl (by simp) ?_) ?_
 ·simp[vw]
 ·simp[vw,qv,qa,qi,qg]
 ·simp
 ·intro b hb;have hb':b<2:=hb;have:b=0∨b=1:=by omega
  rcases this with rfl|rfl<;>rfl
 refine S.weak (Wk.freeze 3 1 0 rfl (by simp[qt,clo]) (by simp) (by simp)) ?_;refine S.weak (Wk.freeze 4 2 0 rfl (by simp[qt,clo,qv,fzv,yp,qg]) (by simp) (by simp[fzB])) ?_;refine qmb h1 h2 h3 hg h5 h6 h7 k l hk ls hls (Wk.mkn _ _ [0,1,2] ?_ ?_ ?_ rfl (by simp) ?_)
 ·simp[vw,mkT,fzv,yp,qv]
 ·simp[vw,mkH,trL,fzB,yp,fzv,qaM qi,qa,qi]
 ·simp[mkH]
 ·intro b hb;have:b=0∨b=1:=by omega
  rcases this with rfl|rfl<;>rfl
end
end Go.Kc
end
section
/- policy.Lines. Itoa's contract is taken as given. Condition: the functions' texts are these. -/
namespace Go.Kc
variable {P:Program} {f:Nat}
def zw:List (Nat×AV):=[(1,.ptr 0 0),(4,.ptr 1 0)]
def qK(p:Pol)(ls:List (List UInt8)):List Blk:=[.cells 0 true false (qo p),.cells 0 true false [.own 2 ls.length],.cells 1 true true (rS ls)]
def qh5(P:Program)(f:Nat):Prop:=∀(k:List UInt8) (is:Bool) (ls:List (List UInt8)),ls.length<=100000->k.length<=100->Upd P f [.ptr 0 0,.s k,.b is] (wB0 ls) (.tup []) (if is=true then wB1 (ls++[wi k [] [[121,101,115]]]) else wB0 ls)
def jA(a b c d e g h i j k l m:Nat):ICode:=.seq (.r [.d 77 4,.n 2 77,.m 3 (.k 0)]) (.ret)
def jz(a b c d e g h i j k l m:Nat):ICode:=.seq (.r [.f 74 12 1,.d 75 74,.l 76 m [.t 4,(.c (.s [78,111,78,101,119,80,114,105,118,105,108,101,103,101,115])),.t 75]]) (.cut (jA a b c d e g h i j k l m))
def jy(a b c d e g h i j k l m:Nat):ICode:=.seq (.r [.f 71 11 1,.d 72 71,.l 73 m [.t 4,(.c (.s [82,101,115,116,114,105,99,116,82,101,97,108,116,105,109,101])),.t 72]]) (.cut (jz a b c d e g h i j k l m))
def jx(a b c d e g h i j k l m:Nat):ICode:=.seq (.r [.f 68 10 1,.d 69 68,.l 70 m [.t 4,(.c (.s [76,111,99,107,80,101,114,115,111,110,97,108,105,116,121])),.t 69]]) (.cut (jy a b c d e g h i j k l m))
def jw(a b c d e g h i j k l m:Nat):ICode:=.seq (.r [.f 65 9 1,.d 66 65,.l 67 m [.t 4,(.c (.s [77,101,109,111,114,121,68,101,110,121,87,114,105,116,101,69,120,101,99,117,116,101])),.t 66]]) (.cut (jx a b c d e g h i j k l m))
def xK(a b c d e g h i j k l m:Nat):ICode:=.seq (.seq (.r [.f 57 8 1,.d 58 57,.q 59 (.bin .neq (.t 58) (.c (.i .u64 0)))]) (.cond (.t 59) (.r [.f 60 8 1,.d 61 60,.l 62 j [.t 61],.l 63 k [.t 62,(.c (.fn l [] []))],.l 64 d [.t 4,(.c (.s [82,101,115,116,114,105,99,116,78,97,109,101,115,112,97,99,101,115])),(.c (.s [126])),.t 63]]) (.skip))) (.cut (jw a b c d e g h i j k l m))
def vy(a b c d e g h i j k l m:Nat):ICode:=.seq (.blk 0 (.seq (.r [.f 36 7 1,.d 37 36,.q 38 (.bin .eql (.t 37) (.c (.i .u8 2))),.n 35 38]) (.cond (.t 35) (.r [.n 39 5,.l 40 d [.t 4,(.c (.s [82,101,115,116,114,105,99,116,65,100,100,114,101,115,115,70,97,109,105,108,105,101,115])),(.c (.s [126])),.t 39]]) (.seq (.r [.f 42 7 1,.d 43 42,.q 44 (.bin .eql (.t 43) (.c (.i .u8 1))),.n 45 44,.y 46 5 45,.g 47 (.len false (.t 46)) 45 true,.g 48 (.bin .eql (.t 47) (.k 0)) 45 true,.p 49 45 48,.n 41 49]) (.cond (.t 41) (.r [.l 50 d [.t 4,(.c (.s [82,101,115,116,114,105,99,116,65,100,100,114,101,115,115,70,97,109,105,108,105,101,115])),(.c (.s [110,111,110,101])),.N]]) (.seq (.r [.f 52 7 1,.d 53 52,.q 54 (.bin .eql (.t 53) (.c (.i .u8 1))),.n 51 54]) (.cond (.t 51) (.r [.n 55 5,.l 56 d [.t 4,(.c (.s [82,101,115,116,114,105,99,116,65,100,100,114,101,115,115,70,97,109,105,108,105,101,115])),(.c (.s [])),.t 55]]) (.skip)))))))) (.cut (xK a b c d e g h i j k l m))
def j9(a b c d e g h i j k l m:Nat):ICode:=.seq (.r [.f 32 6 1,.d 33 32,.l 34 h [.t 33,(.c (.fn i [] []))],.n 5 34]) (.cut (vy a b c d e g h i j k l m))
def j8(a b c d e g h i j k l m:Nat):ICode:=.seq (.r [.f 29 4 1,.v 30 2 29,.l 31 e [.t 4,(.c (.s [83,121,115,116,101,109,67,97,108,108,76,111,103])),.t 30]]) (.cut (j9 a b c d e g h i j k l m))
def j7(a b c d e g h i j k l m:Nat):ICode:=.seq (.seq (.r [.f 20 3 1,.d 21 20,.q 22 (.bin .neq (.t 21) (.c (.i .u32 2147483648)))]) (.cond (.t 22) (.r [.f 23 3 1,.d 24 23,.q 25 (.bin .and (.t 24) (.c (.i .u32 65535))),.l 26 g [.t 25],.q 27 (.buildS 1 [.s []] [(0,1,(.t 26))]),.l 28 d [.t 4,(.c (.s [83,121,115,116,101,109,67,97,108,108,69,114,114,111,114,78,117,109,98,101,114])),(.c (.s [])),.t 27]]) (.skip))) (.cut (j8 a b c d e g h i j k l m))
def j6(a b c d e g h i j k l m:Nat):ICode:=.seq (.r [.f 17 1 1,.v 18 2 17,.l 19 e [.t 4,(.c (.s [83,121,115,116,101,109,67,97,108,108,70,105,108,116,101,114])),.t 18]]) (.cut (j7 a b c d e g h i j k l m))
def vx(a b c d e g h i j k l m:Nat):ICode:=.seq (.seq (.r [.f 9 0 1,.d 10 9,.e 11 10,.w 12 .gtr 11 0]) (.cond (.t 12) (.r [.f 13 0 1,.d 14 13,.l 15 b [.t 14,(.c (.fn c [] []))],.l 16 d [.t 4,(.c (.s [83,121,115,116,101,109,67,97,108,108,65,114,99,104,105,116,101,99,116,117,114,101,115])),(.c (.s [])),.t 15]]) (.skip))) (.cut (j6 a b c d e g h i j k l m))
def Xp(a b c d e g h i j k l m:Nat):IFn:=⟨[.tmp 2,.tmp 3],.seq (.r [.q 1 (.box (.t 0)),.m 2 .N,.m 3 (.k 0)]) (.seq (.seq (.r [.v 6 13 1,.l 7 a [.t 6],.q 8 (.un .not (.t 7))]) (.cond (.t 8) (.seq (.r [.m 2 .N,.m 3 (.k 2)]) (.ret)) (.skip))) (.seq (.r [.q 4 (.alloc [.nils])]) (.cut (vx a b c d e g h i j k l m))))⟩
section
variable {g1 g2 g3 g4 g5 g6 g7 g8 g9 g10 g11 g12:Nat}
theorem qgT(p:Pol)(ls:List (List UInt8)){t':Tr AV}{h':Hp}(hw:Wk 0 t' h' (mkT zw) (mkH 0 (qK p ls))) :
  S P 0 (jA g1 g2 g3 g4 g5 g6 g7 g8 g9 g10 g11 g12) (wE [.tmp 2,.tmp 3] fun v' h'=>Frz h' v' (.tup [.fz ls.length (rS ls),.i .i64 0])) t' h':=by
 refine S.weak hw (qq ?_);simp only[jA,zw,qK,vI,simprocAttr];simp (decide:=true) only [↓vS,vT,simprocAttr];simp[vZ,vP,Tr.get_set,qE qi]
 try (intro h0;rw[h0];rfl)
theorem qgS{Q:X->Tr AV->Hp->Prop}(hy:qh5 P g12)(p:Pol)(ls:List (List UInt8))(hls:ls.length<=1000)
  (hQ:∀{t':Tr AV} {h':Hp},Wk 0 t' h' (mkT zw) (mkH 0 (qK p (ls++ZI kNp p.np)))->S P 0 (jA g1 g2 g3 g4 g5 g6 g7 g8 g9 g10 g11 g12) Q t' h')
  {t':Tr AV} {h':Hp} (hw:Wk 0 t' h' (mkT zw) (mkH 0 (qK p ls))):S P 0 (jz g1 g2 g3 g4 g5 g6 g7 g8 g9 g10 g11 g12) Q t' h':=by
 refine S.weak hw (qq ?_);have hu:=hy kNp p.np ls (by omega) (by decide);simp only[jz,zw,qK,qo,vI,simprocAttr];simp only[kNp] at hu;simp (decide:=true) only [↓vS,vT,simprocAttr];refine hu.sc (vs:=[.ptr 0 0,.s kNp,.b p.np]) [1,2] (Lent.of (by decide) ?_) ?_
 ·simp[vL,vw,wB0,qr qi,qe qi]
 cases hf:p.np with
 | true =>
  rw[hf] at hQ;simp only[if_true,vK,simprocAttr,wB1,qe qi];simp only[↓vS,vT,simprocAttr];refine hQ (Wk.mk zw (qK p _) [0,1,3] ?_ ?_ ?_ rfl)
  ·simp[vw,zw,qK]
  ·simp[vw,qK,qo,ZI,kNp,hf,qa,qi,qh,qg]
  ·simp[qK]
 | false =>
  rw[hf] at hQ;simp only[Bool.false_eq_true,if_false,vK,simprocAttr,wB0,qe qi];simp only[↓vS,vT,simprocAttr];refine hQ (Wk.mk zw (qK p _) [0,1,2] ?_ ?_ ?_ rfl)
  ·simp[vw,zw,qK]
  ·simp[vw,qK,qo,ZI,hf,qa,qi,qh,qg]
  ·simp[qK]
theorem qgR{Q:X->Tr AV->Hp->Prop}(hy:qh5 P g12)(p:Pol)(ls:List (List UInt8))(hls:ls.length<=1000)
  (hQ:∀{t':Tr AV} {h':Hp},Wk 0 t' h' (mkT zw) (mkH 0 (qK p (ls++ZI kRt p.rt)))->S P 0 (jz g1 g2 g3 g4 g5 g6 g7 g8 g9 g10 g11 g12) Q t' h')
  {t':Tr AV} {h':Hp} (hw:Wk 0 t' h' (mkT zw) (mkH 0 (qK p ls))):S P 0 (jy g1 g2 g3 g4 g5 g6 g7 g8 g9 g10 g11 g12) Q t' h':=by
 refine S.weak hw (qq ?_);have hu:=hy kRt p.rt ls (by omega) (by decide);simp only[jy,zw,qK,qo,vI,simprocAttr];simp only[kRt] at hu;simp (decide:=true) only [↓vS,vT,simprocAttr];refine hu.sc (vs:=[.ptr 0 0,.s kRt,.b p.rt]) [1,2] (Lent.of (by decide) ?_) ?_
 ·simp[vL,vw,wB0,qr qi,qe qi]
 cases hf:p.rt with
 | true =>
  rw[hf] at hQ;simp only[if_true,vK,simprocAttr,wB1,qe qi];simp only[↓vS,vT,simprocAttr];refine hQ (Wk.mk zw (qK p _) [0,1,3] ?_ ?_ ?_ rfl)
  ·simp[vw,zw,qK]
  ·simp[vw,qK,qo,ZI,kRt,hf,qa,qi,qh,qg]
  ·simp[qK]
 | false =>
  rw[hf] at hQ;simp only[Bool.false_eq_true,if_false,vK,simprocAttr,wB0,qe qi];simp only[↓vS,vT,simprocAttr];refine hQ (Wk.mk zw (qK p _) [0,1,2] ?_ ?_ ?_ rfl)
  ·simp[vw,zw,qK]
  ·simp[vw,qK,qo,ZI,hf,qa,qi,qh,qg]
  ·simp[qK]
theorem qgQ{Q:X->Tr AV->Hp->Prop}(hy:qh5 P g12)(p:Pol)(ls:List (List UInt8))(hls:ls.length<=1000)
  (hQ:∀{t':Tr AV} {h':Hp},Wk 0 t' h' (mkT zw) (mkH 0 (qK p (ls++ZI kPe p.pe)))->S P 0 (jy g1 g2 g3 g4 g5 g6 g7 g8 g9 g10 g11 g12) Q t' h')
  {t':Tr AV} {h':Hp} (hw:Wk 0 t' h' (mkT zw) (mkH 0 (qK p ls))):S P 0 (jx g1 g2 g3 g4 g5 g6 g7 g8 g9 g10 g11 g12) Q t' h':=by
 refine S.weak hw (qq ?_);have hu:=hy kPe p.pe ls (by omega) (by decide);simp only[jx,zw,qK,qo,vI,simprocAttr];simp only[kPe] at hu;simp (decide:=true) only [↓vS,vT,simprocAttr];refine hu.sc (vs:=[.ptr 0 0,.s kPe,.b p.pe]) [1,2] (Lent.of (by decide) ?_) ?_
 ·simp[vL,vw,wB0,qr qi,qe qi]
 cases hf:p.pe with
 | true =>
  rw[hf] at hQ;simp only[if_true,vK,simprocAttr,wB1,qe qi];simp only[↓vS,vT,simprocAttr];refine hQ (Wk.mk zw (qK p _) [0,1,3] ?_ ?_ ?_ rfl)
  ·simp[vw,zw,qK]
  ·simp[vw,qK,qo,ZI,kPe,hf,qa,qi,qh,qg]
  ·simp[qK]
 | false =>
  rw[hf] at hQ;simp only[Bool.false_eq_true,if_false,vK,simprocAttr,wB0,qe qi];simp only[↓vS,vT,simprocAttr];refine hQ (Wk.mk zw (qK p _) [0,1,2] ?_ ?_ ?_ rfl)
  ·simp[vw,zw,qK]
  ·simp[vw,qK,qo,ZI,hf,qa,qi,qh,qg]
  ·simp[qK]
theorem qgP{Q:X->Tr AV->Hp->Prop}(hy:qh5 P g12)(p:Pol)(ls:List (List UInt8))(hls:ls.length<=1000)
  (hQ:∀{t':Tr AV} {h':Hp},Wk 0 t' h' (mkT zw) (mkH 0 (qK p (ls++ZI kWe p.we)))->S P 0 (jx g1 g2 g3 g4 g5 g6 g7 g8 g9 g10 g11 g12) Q t' h')
  {t':Tr AV} {h':Hp} (hw:Wk 0 t' h' (mkT zw) (mkH 0 (qK p ls))):S P 0 (jw g1 g2 g3 g4 g5 g6 g7 g8 g9 g10 g11 g12) Q t' h':=by
 refine S.weak hw (qq ?_);have hu:=hy kWe p.we ls (by omega) (by decide);simp only[jw,zw,qK,qo,vI,simprocAttr];simp only[kWe] at hu;simp (decide:=true) only [↓vS,vT,simprocAttr];refine hu.sc (vs:=[.ptr 0 0,.s kWe,.b p.we]) [1,2] (Lent.of (by decide) ?_) ?_
 ·simp[vL,vw,wB0,qr qi,qe qi]
 cases hf:p.we with
 | true =>
  rw[hf] at hQ;simp only[if_true,vK,simprocAttr,wB1,qe qi];simp only[↓vS,vT,simprocAttr];refine hQ (Wk.mk zw (qK p _) [0,1,3] ?_ ?_ ?_ rfl)
  ·simp[vw,zw,qK]
  ·simp[vw,qK,qo,ZI,kWe,hf,qa,qi,qh,qg]
  ·simp[qK]
 | false =>
  rw[hf] at hQ;simp only[Bool.false_eq_true,if_false,vK,simprocAttr,wB0,qe qi];simp only[↓vS,vT,simprocAttr];refine hQ (Wk.mk zw (qK p _) [0,1,2] ?_ ?_ ?_ rfl)
  ·simp[vw,zw,qK]
  ·simp[vw,qK,qo,ZI,hf,qa,qi,qh,qg]
  ·simp[qK]
theorem qja{Q:X->Tr AV->Hp->Prop}(hy:qcm P g5)(p:Pol)(hk:LOkP Qx p.log)(ls:List (List UInt8))(hls:ls.length<=100)
  (hQ:∀{t':Tr AV} {h':Hp},Wk 0 t' h' (mkT zw) (mkH 0 (qK p (ls++yy Qx p.log)))->S P 0 (j9 g1 g2 g3 g4 g5 g6 g7 g8 g9 g10 g11 g12) Q t' h')
  {t':Tr AV} {h':Hp} (hw:Wk 0 t' h' (mkT zw) (mkH 0 (qK p ls))):S P 0 (j8 g1 g2 g3 g4 g5 g6 g7 g8 g9 g10 g11 g12) Q t' h':=by
 refine S.weak hw (qq ?_);have hu:=hy Qx p.log ls hk (by omega);simp only[j8,zw,qK,qo,vI,simprocAttr];simp only[Qx,qv] at hu;simp (decide:=true) only [↓vS,vT,simprocAttr];refine hu.sc (vs:=[.ptr 0 0,.s Qx,.agg [.i .u8 p.log.mode,.fz p.log.calls.length (rC p.log.calls)]]) [1,2] (Lent.of (by decide) ?_) ?_
 ·simp[vL,vw,wB0,qr qi,qe qi]
 simp only[vK,simprocAttr,wB1,qe qi];simp only[↓vS,vT,simprocAttr];refine hQ (Wk.mk zw (qK p _) [0,1,3] ?_ ?_ ?_ rfl)
 ·simp[vw,zw,qK]
 ·simp[vw,qK,qo,Qx,qa,qi,qh,qg]
 ·simp[qK]
theorem qi8{Q:X->Tr AV->Hp->Prop}(hy:qcm P g5)(p:Pol)(hk:LOkP zU p.filter)(ls:List (List UInt8))(hls:ls.length<=100)
  (hQ:∀{t':Tr AV} {h':Hp},Wk 0 t' h' (mkT zw) (mkH 0 (qK p (ls++yy zU p.filter)))->S P 0 (j7 g1 g2 g3 g4 g5 g6 g7 g8 g9 g10 g11 g12) Q t' h')
  {t':Tr AV} {h':Hp} (hw:Wk 0 t' h' (mkT zw) (mkH 0 (qK p ls))):S P 0 (j6 g1 g2 g3 g4 g5 g6 g7 g8 g9 g10 g11 g12) Q t' h':=by
 refine S.weak hw (qq ?_);have hu:=hy zU p.filter ls hk (by omega);simp only[j6,zw,qK,qo,vI,simprocAttr];simp only[zU,qv] at hu;simp (decide:=true) only [↓vS,vT,simprocAttr];refine hu.sc (vs:=[.ptr 0 0,.s zU,.agg [.i .u8 p.filter.mode,.fz p.filter.calls.length (rC p.filter.calls)]]) [1,2] (Lent.of (by decide) ?_) ?_
 ·simp[vL,vw,wB0,qr qi,qe qi]
 simp only[vK,simprocAttr,wB1,qe qi];simp only[↓vS,vT,simprocAttr];refine hQ (Wk.mk zw (qK p _) [0,1,3] ?_ ?_ ?_ rfl)
 ·simp[vw,zw,qK]
 ·simp[vw,qK,qo,zU,qa,qi,qh,qg]
 ·simp[qK]
def arL(p:Pol):List (List UInt8):=if p.arches=[] then [] else [wi Qw [] (p.arches.map xU)]
theorem qi7{Q:X->Tr AV->Hp->Prop}(ht:∀l:List Int,l.length<=100000->qc P g2 [.fz l.length (rI .i64 l),.fn g3 [] []] (.fz l.length (rS (l.map xU))))(hg:QL P g4)(p:Pol)(hp:PolOk p)(hk:QU Qw [] (p.arches.map xU))(ls:List (List UInt8))(hls:ls.length<=100)
  (hQ:∀{t':Tr AV} {h':Hp},Wk 0 t' h' (mkT zw) (mkH 0 (qK p (ls++arL p)))->S P 0 (j6 g1 g2 g3 g4 g5 g6 g7 g8 g9 g10 g11 g12) Q t' h')
  {t':Tr AV} {h':Hp} (hw:Wk 0 t' h' (mkT zw) (mkH 0 (qK p ls))):S P 0 (vx g1 g2 g3 g4 g5 g6 g7 g8 g9 g10 g11 g12) Q t' h':=by
 refine S.weak hw (qq ?_);have hpa:=hp.a;have hu:=hg Qw [] (p.arches.map xU) ls (by omega) hk;have htl:=ht p.arches (by omega);rw[List.length_map] at hu;simp only[vx,zw,qK,qo,vI,simprocAttr];simp only[Qw] at hu
 by_cases he:p.arches=[]
 ·have hn:¬(0:Int)<p.arches.length:=by rw[he];simp
  simp (decide:=true) only [↓vS,vT,simprocAttr,hn];refine hQ (Wk.mk zw (qK p _) [0,1,2] ?_ ?_ ?_ rfl)
  ·simp[vw,zw,qK]
  ·simp[vw,qK,qo,arL,he,qa,qi,qh,qg]
  ·simp[qK]
 ·have hn:(0:Int)<p.arches.length:=by have:=List.length_pos_iff.2 he;omega
  simp (decide:=true) only [↓vS,vT,simprocAttr,hn];refine htl.sc ?_;simp (decide:=true) only [↓vS,vT,simprocAttr];refine hu.sc (vs:=[.ptr 0 0,.s Qw,.s [],.fz p.arches.length (rS (p.arches.map xU))]) [1,2] (Lent.of (by decide) ?_) ?_
  ·simp[vL,vw,wB0,qr qi,qe qi]
  simp only[vK,simprocAttr,wB1,qe qi];simp only[↓vS,vT,simprocAttr];refine hQ (Wk.mk zw (qK p _) [0,1,3] ?_ ?_ ?_ rfl)
  ·simp[vw,zw,qK]
  ·simp[vw,qK,qo,arL,he,Qw,qa,qi,qh,qg]
  ·simp[qK]
def erL(p:Pol):List (List UInt8):=if p.deny=2147483648 then [] else [wi Zx [] [QJ (wD .u32 p.deny 65535)]]
theorem qi9{Q:X->Tr AV->Hp->Prop}(he:∀n:Int,0<=n->n<=4294967295->qc P g6 [.i .u32 n] (.s (QJ n)))(hg:QL P g4)(p:Pol)(ls:List (List UInt8))(hls:ls.length<=100)
  (hQ:∀{t':Tr AV} {h':Hp},Wk 0 t' h' (mkT zw) (mkH 0 (qK p (ls++erL p)))->S P 0 (j8 g1 g2 g3 g4 g5 g6 g7 g8 g9 g10 g11 g12) Q t' h')
  {t':Tr AV} {h':Hp} (hw:Wk 0 t' h' (mkT zw) (mkH 0 (qK p ls))):S P 0 (j7 g1 g2 g3 g4 g5 g6 g7 g8 g9 g10 g11 g12) Q t' h':=by
 refine S.weak hw (qq ?_);have hr:=Wz p.deny 65535;have hn:=he _ hr.1 hr.2;have hel:=WI (n:=wD .u32 p.deny 65535) hr.1;have hok:QU Zx [] [QJ (wD .u32 p.deny 65535)]:=⟨by decide,by decide,by simp,by rw[ye];omega⟩
 have hu:=hg Zx [] [QJ (wD .u32 p.deny 65535)] ls (by omega) hok;simp only[j7,zw,qK,qo,vI,simprocAttr];simp only[Zx] at hu
 by_cases hd:p.deny=2147483648
 ·simp (decide:=true) only [↓vS,vT,simprocAttr,hd];refine hQ (Wk.mk zw (qK p _) [0,1,2] ?_ ?_ ?_ rfl)
  ·simp[vw,zw,qK]
  ·simp[vw,qK,qo,erL,hd,qa,qi,qh,qg]
  ·simp[qK]
 ·simp (decide:=true) only [↓vS,vT,simprocAttr,hd];refine hn.sc ?_;simp (decide:=true) only [↓vS,vT,simprocAttr];refine SC.give (vs':=[.ptr 1 0,.s Zx,.s [],.fz 1 (rS [QJ (wD .u32 p.deny 65535)])]) [(3,.cells 0 true false [.s (QJ (wD .u32 p.deny 65535))])] ?_ ?_ ?_
  ·intro q hq;simp at hq;subst hq;simp[Tr.get_set]
  ·refine .keep _ _ _ (.keep _ _ _ (.keep _ _ _ (.fz _ _ _ _ (.cut 1 rfl (Nat.le_refl _) ?_) .nil)));simp[vw,trP,rS]
  simp only[Zz,ZA,ZX];refine hu.sc (vs:=[.ptr 0 0,.s Zx,.s [],.fz 1 (rS [QJ (wD .u32 p.deny 65535)])]) [1,2] (Lent.of (by decide) ?_) ?_
  ·simp[vL,vw,wB0,qr qi,qe qi]
  simp only[vK,simprocAttr,wB1,qe qi];simp only[↓vS,vT,simprocAttr];refine hQ (Wk.mk zw (qK p _) [0,1,4] ?_ ?_ ?_ rfl)
  ·simp[vw,zw,qK]
  ·simp[vw,qK,qo,erL,hd,Zx,qa,qi,qh,qg]
  ·simp[qK]
def spW(p:Pol):List (List UInt8):=(wL p.spaces).map fun n=>zd n qk
def spL(p:Pol):List (List UInt8):=if p.spaces=0 then [] else [wi kSp [126] (spW p)]
theorem XN(s:Int):(wL s).length<=8:=by unfold wL;exact Nat.le_trans (List.length_filter_le _ _) (by decide)
theorem qjd{Q:X->Tr AV->Hp->Prop}(hf:∀s,qc P g9 [.i .u64 s] (.fz (wL s).length (rI .u64 (wL s))))(ht:∀l:List Int,l.length<=100000->qc P g10 [.fz l.length (rI .u64 l),.fn g11 [] []] (.fz l.length (rS (l.map fun n=>zd n qk))))(hg:QL P g4)(p:Pol)(hk:QU kSp [126] (spW p))(ls:List (List UInt8))(hls:ls.length<=100)
  (hQ:∀{t':Tr AV} {h':Hp},Wk 0 t' h' (mkT zw) (mkH 0 (qK p (ls++spL p)))->S P 0 (jw g1 g2 g3 g4 g5 g6 g7 g8 g9 g10 g11 g12) Q t' h')
  {t':Tr AV} {h':Hp} (hw:Wk 0 t' h' (mkT zw) (mkH 0 (qK p ls))):S P 0 (xK g1 g2 g3 g4 g5 g6 g7 g8 g9 g10 g11 g12) Q t' h':=by
 refine S.weak hw (qq ?_);have hfl:=XN p.spaces;have h9:=hf p.spaces;have h10:=ht (wL p.spaces) (by omega);have hu:=hg kSp [126] (spW p) ls (by omega) hk;have hwl:(spW p).length=(wL p.spaces).length:=List.length_map _;rw[hwl] at hu;simp only[xK,zw,qK,qo,vI,simprocAttr];simp only[kSp] at hu
 by_cases hd:p.spaces=0
 ·simp (decide:=true) only [↓vS,vT,simprocAttr,hd];refine hQ (Wk.mk zw (qK p _) [0,1,2] ?_ ?_ ?_ rfl)
  ·simp[vw,zw,qK]
  ·simp[vw,qK,qo,spL,hd,qa,qi,qh,qg]
  ·simp[qK]
 ·simp (decide:=true) only [↓vS,vT,simprocAttr,hd];refine h9.sc ?_;simp (decide:=true) only [↓vS,vT,simprocAttr];refine h10.sc ?_;simp (decide:=true) only [↓vS,vT,simprocAttr];refine hu.sc (vs:=[.ptr 0 0,.s kSp,.s [126],.fz (wL p.spaces).length (rS (spW p))]) [1,2] (Lent.of (by decide) ?_) ?_
  ·simp[vL,vw,wB0,qr qi,qe qi]
  simp only[vK,simprocAttr,wB1,qe qi];simp only[↓vS,vT,simprocAttr];refine hQ (Wk.mk zw (qK p _) [0,1,3] ?_ ?_ ?_ rfl)
  ·simp[vw,zw,qK]
  ·simp[vw,qK,qo,spL,hd,kSp,qa,qi,qh,qg]
  ·simp[qK]
def faW(p:Pol):List (List UInt8):=p.fams.map fun n=>zd n qn
def faL(p:Pol):List (List UInt8):=if p.fmode=2 then [wi vz [126] (faW p)] else if p.fmode=1 then (if p.fams=[] then [wi vz km []] else [wi vz [] (faW p)]) else []
theorem qjc{Q:X->Tr AV->Hp->Prop}(hg:QL P g4)(p:Pol)(hk:∀a:List UInt8,a.length<=1->QU vz a (faW p))(ls:List (List UInt8))(hls:ls.length<=100)
  (hQ:∀{t':Tr AV} {h':Hp},Wk 0 t' h' (mkT zw) (mkH 0 (qK p (ls++faL p)))->S P 0 (xK g1 g2 g3 g4 g5 g6 g7 g8 g9 g10 g11 g12) Q t' h')
  {t':Tr AV} {h':Hp} (hw:Wk 0 t' h' (mkT [(1,.ptr 0 0),(4,.ptr 1 0),(5,.fz p.fams.length (rS (faW p)))]) (mkH 0 (qK p ls))):S P 0 (vy g1 g2 g3 g4 g5 g6 g7 g8 g9 g10 g11 g12) Q t' h':=by
 refine S.weak hw (qq ?_);have hwl:(faW p).length=p.fams.length:=List.length_map _;simp only[vy,qK,qo,vI,simprocAttr]
 by_cases m2:p.fmode=2
 ·have hu:=hg vz [126] (faW p) ls (by omega) (hk [126] (by simp));rw[hwl] at hu;simp only[vz] at hu;simp (decide:=true) only [↓vS,vT,simprocAttr,m2];refine hu.sc (vs:=[.ptr 0 0,.s vz,.s [126],.fz p.fams.length (rS (faW p))]) [1,2] (Lent.of (by decide) ?_) ?_
  ·simp[vL,vw,wB0,qr qi,qe qi]
  simp only[vK,simprocAttr,wB1,qe qi];simp only[↓vS,vT,simprocAttr];refine hQ (Wk.mk zw (qK p _) [0,1,3] ?_ ?_ ?_ rfl)
  ·simp[vw,zw,qK]
  ·simp[vw,qK,qo,faL,m2,vz,qa,qi,qh,qg]
  ·simp[qK]
 by_cases m1:p.fmode=1
 ·by_cases he:p.fams=[]
  ·have hu:=hg vz km [] ls (by omega) ⟨by decide,by decide,by simp,by decide⟩
   have hz:(p.fams.length:Int)=0:=by rw[he];rfl
   simp only[vz,km,List.length_nil,Z9] at hu;simp (decide:=true) only [↓vS,vT,simprocAttr,m2,m1,hz];refine SC.give (vs':=[.ptr 1 0,.s vz,.s km,.fz 0 []]) [] ?_ ?_ ?_
   ·intro q hq;simp at hq
   ·exact .keep _ _ _ (.keep _ _ _ (.keep _ _ _ (.fz _ _ _ _ .nilz .nil)))
   simp only[ZA];refine hu.sc (vs:=[.ptr 0 0,.s vz,.s km,.fz 0 []]) [1,2] (Lent.of (by decide) ?_) ?_
   ·simp[vL,vw,wB0,qr qi,qe qi]
   simp only[vK,simprocAttr,wB1,qe qi];simp only[↓vS,vT,simprocAttr];refine hQ (Wk.mk zw (qK p _) [0,1,3] ?_ ?_ ?_ rfl)
   ·simp[vw,zw,qK]
   ·simp[vw,qK,qo,faL,m1,he,vz,km,qa,qi,qh,qg]
   ·simp[qK]
  ·have hu:=hg vz [] (faW p) ls (by omega) (hk [] (by simp));rw[hwl] at hu;have hz:¬(p.fams.length:Int)=0:=fun h=>he (List.eq_nil_of_length_eq_zero (by omega))
   simp only[vz] at hu;simp (decide:=true) only [↓vS,vT,simprocAttr,m2,m1,hz];refine hu.sc (vs:=[.ptr 0 0,.s vz,.s [],.fz p.fams.length (rS (faW p))]) [1,2] (Lent.of (by decide) ?_) ?_
   ·simp[vL,vw,wB0,qr qi,qe qi]
   simp only[vK,simprocAttr,wB1,qe qi];simp only[↓vS,vT,simprocAttr];refine hQ (Wk.mk zw (qK p _) [0,1,3] ?_ ?_ ?_ rfl)
   ·simp[vw,zw,qK]
   ·simp[vw,qK,qo,faL,m1,he,vz,qa,qi,qh,qg]
   ·simp[qK]
 ·simp (decide:=true) only [↓vS,vT,simprocAttr,m2,m1];refine hQ (Wk.mk zw (qK p _) [0,1,2] ?_ ?_ ?_ rfl)
  ·simp[vw,zw,qK]
  ·simp[vw,qK,qo,faL,m1,m2,qa,qi,qh,qg]
  ·simp[qK]
theorem qjb{Q:X->Tr AV->Hp->Prop}(ht:∀l:List Int,l.length<=100000->qc P g7 [.fz l.length (rI .u32 l),.fn g8 [] []] (.fz l.length (rS (l.map fun n=>zd n qn))))(hg:QL P g4)(p:Pol)(hp:PolOk p)(hk:∀a:List UInt8,a.length<=1->QU vz a (faW p))(ls:List (List UInt8))(hls:ls.length<=100)
  (hQ:∀{t':Tr AV} {h':Hp},Wk 0 t' h' (mkT zw) (mkH 0 (qK p (ls++faL p)))->S P 0 (xK g1 g2 g3 g4 g5 g6 g7 g8 g9 g10 g11 g12) Q t' h')
  {t':Tr AV} {h':Hp} (hw:Wk 0 t' h' (mkT zw) (mkH 0 (qK p ls))):S P 0 (j9 g1 g2 g3 g4 g5 g6 g7 g8 g9 g10 g11 g12) Q t' h':=by
 refine S.weak hw (qq ?_);have hpf:=hp.f;have htl:=ht p.fams (by omega);simp only[j9,zw,qK,qo,vI,simprocAttr];simp (decide:=true) only [↓vS,vT,simprocAttr];refine htl.sc ?_;simp (decide:=true) only [↓vS,vT,simprocAttr];refine qjc hg p hk ls hls hQ (Wk.mk _ _ [0,1,2] ?_ ?_ ?_ rfl)
 ·simp[vw,qK,faW,qi]
 ·simp[vw,qK,qo,qa,qi,qh,qg]
 ·simp[qK]
def Je(p:Pol):List (List UInt8):=[]++arL p++yy zU p.filter++erL p++yy Qx p.log++faL p++spL p++ZI kWe p.we++ZI kPe p.pe++ZI kRt p.rt++ZI kNp p.np
theorem qhf(k:List UInt8)(ws:List (List UInt8)):(Jj k ws).length<=1:=by unfold Jj;split<;>simp
theorem qbY(k:List UInt8)(l:GList):(yy k l).length<=4:=by
 unfold yy;split
 ·simp
 split
 ·have h1:=qhf k (zC qR l.calls);have h2:=qa4 k [] (zC qO l.calls);have h3:=qa4 k [126] (zC qW l.calls);simp only[List.length_append,List.length_cons,List.length_nil];omega
 ·simp
theorem qjD(p:Pol):(arL p).length<=1∧(erL p).length<=1∧(faL p).length<=1∧(spL p).length<=1∧∀k b,(ZI k b).length<=1:=by
 refine⟨?_,?_,?_,?_,fun k b=>?_⟩
 ·unfold arL;split<;>simp
 ·unfold erL;split<;>simp
 ·unfold faL;split
  ·simp
  ·split
   ·split<;>simp
   ·simp
 ·unfold spL;split<;>simp
 ·unfold ZI;split<;>simp
structure LinOk (p:Pol):Prop where
 ar:QU Qw [] (p.arches.map xU)
 fil:LOkP zU p.filter
 log:LOkP Qx p.log
 fam:∀a:List UInt8,a.length<=1->QU vz a (faW p)
 sp:QU kSp [126] (spW p)
theorem qpa(hc:qj P f (Xp g1 g2 g3 g4 g5 g6 g7 g8 g9 g10 g11 g12)=true)(hm:∀p,PolOk p->qc P g1 [.agg (qo p)] (.b (Wj p)))(ht1:∀l:List Int,l.length<=100000->qc P g2 [.fz l.length (rI .i64 l),.fn g3 [] []] (.fz l.length (rS (l.map xU))))(hg:QL P g4)(hl:qcm P g5)
  (he:∀n:Int,0<=n->n<=4294967295->qc P g6 [.i .u32 n] (.s (QJ n))) (ht2:∀l:List Int,l.length<=100000->qc P g7 [.fz l.length (rI .u32 l),.fn g8 [] []] (.fz l.length (rS (l.map fun n=>zd n qn)))) (hf:∀s,qc P g9 [.i .u64 s] (.fz (wL s).length (rI .u64 (wL s)))) (ht3:∀l:List Int,l.length<=100000->qc P g10 [.fz l.length (rI .u64 l),.fn g11 [] []] (.fz l.length (rS (l.map fun n=>zd n qk)))) (hy:qh5 P g12)
  (p:Pol) (hp:PolOk p) (ok:Wj p=true->LinOk p):qc P f [.agg (qo p)] (if Wj p=true then .tup [.fz (Je p).length (rS (Je p)),.i .i64 0] else .tup [.fz 0 [],.i .i64 2]):=by
 refine qc.mk hc rfl ?_;have k1:=hm p hp;generalize hT:(if Wj p=true then AV.tup [.fz (Je p).length (rS (Je p)),.i .i64 0] else .tup [.fz 0 [],.i .i64 2])=tgt
 simp only[Xp,qo,vI,simprocAttr] at k1 ⊢;simp only[↓vS,vT,simprocAttr];refine k1.sc ?_;cases hmp:Wj p with
 | false =>
  rw[if_neg (by simp[hmp])] at hT;subst hT;simp (decide:=true) only [↓vS,vT,simprocAttr];simp[vZ]
 | true =>
  rw[if_pos hmp] at hT;subst hT;have ok:=ok hmp;obtain⟨l1,l2,l3,l4,l5⟩:=qjD p;have l6:=qbY zU p.filter;have l7:=qbY Qx p.log;have l8:=l5 kWe p.we;have l9:=l5 kPe p.pe;have l10:=l5 kRt p.rt;simp (decide:=true) only [↓vS,vT,simprocAttr];refine qi7 ht1 hg p hp ok.ar [] (by simp) (fun w3=>qi8 hl p ok.fil _ ?_ (fun w4=>qi9 he hg p _ ?_ (fun w5=>qja hl p ok.log _ ?_ (fun w6=>qjb ht2 hg p hp ok.fam _ ?_ (fun w7=>qjd hf ht3 hg p ok.sp _ ?_ (fun w9=>qgP hy p _ ?_ (fun w10=>qgQ hy p _ ?_ (fun w11=>qgR hy p _ ?_ (fun w12=>qgS hy p _ ?_ (fun w13=>qgT p _ w13) w12) w11) w10) w9) w7) w6) w5) w4) w3) (Wk.mk zw (qK p []) [0,1,99] ?_ ?_ ?_ rfl)
  all_goals first
   | (simp only[List.length_append,List.length_nil];omega)
   | skip
  ·simp[vw,zw,qK]
  ·simp[vw,qK,qo,qa,Z9,qh,qg]
  ·simp[qK]
end
end Go.Kc
end
section
/- The document's writer: join. Condition: the functions' texts are these. -/
namespace Go.Kc
variable {P:Program} {f:Nat}
theorem Vs(sep:List UInt8):zx sep []=[]:=rfl
end Go.Kc
end
section
/- The document's words of numbers. Condition: the functions' texts are these. -/
namespace Go.Kc
variable {P:Program} {f:Nat}
theorem qaF(u:Nat):XA u=Lib.decDigits u:=by
 unfold XA Lib.itoa;rw[if_neg (by omega),Int.toNat_natCast]
theorem kW{u:Nat}(h:u<10):XA u=[UInt8.ofNat (48+u)]:=by
 rw[qaF,Lib.decDigits,dif_pos h]
theorem qdp{u:Nat}(h:¬u<10):XA u=XA ((u / 10:Nat):Int)++XA ((u % 10:Nat):Int):=by
 rw[kW (Nat.mod_lt _ (by decide)),qaF,qaF,Lib.decDigits,dif_neg h]
end Go.Kc
end
section
/- The document's text of an entry. Condition: the functions' texts are these. -/
namespace Go.Kc
variable {P:Program} {f:Nat}
theorem qhY(x y:BitVec 32):(x &&& ~~~y)+(x &&& y)=x:=by
 rw[BitVec.add_eq_or_of_and_eq_zero]
 ·ext i hi
  simp only[BitVec.getElem_or,BitVec.getElem_and,BitVec.getElem_not];cases x[i]<;>cases y[i]<;>rfl
 ·ext i hi
  simp only[BitVec.getElem_and,BitVec.getElem_not,BitVec.getElem_zero];cases x[i]<;>cases y[i]<;>rfl
theorem qbC(x:BitVec 32):(x &&& 65535#32).toNat=x.toNat % 65536:=by
 rw[BitVec.toNat_and];exact Nat.and_two_pow_sub_one_eq_mod x.toNat 16
theorem qen(x:BitVec 32):(x &&& 4294901760#32).toNat=x.toNat-x.toNat % 65536:=by
 have h:=congrArg BitVec.toNat (qhY x 65535#32);have h2: ~~~(65535#32)=4294901760#32:=by decide
 rw[h2,BitVec.toNat_add,qbC] at h;have h3:(x &&& 4294901760#32).toNat<=x.toNat:=by rw[BitVec.toNat_and];exact Nat.and_le_left
 have h4:=x.isLt;omega
theorem Vi{a:Int}(h0:0<=a)(h1:a<=4294967295):wD .u32 a 65535=a.tmod 65536∧(wD .u32 a 4294901760=327680↔a.tdiv 65536=5):=by
 obtain⟨n,rfl⟩:∃n:Nat,a=n:=⟨a.toNat,by omega⟩
 have hx:(BitVec.ofInt 32 (n:Int)).toNat=n:=by
  rw[BitVec.toNat_ofInt];omega
 have e1:wD .u32 (n:Int) 65535=((n % 65536:Nat):Int):=by
  show IntKind.wrap .u32 (((BitVec.ofInt 32 (n:Int) &&& 65535#32).toNat:Nat):Int)=_;rw[qbC,hx,Vg (by omega) (by omega)]
 have e2:wD .u32 (n:Int) 4294901760=((n-n % 65536:Nat):Int):=by
  show IntKind.wrap .u32 (((BitVec.ofInt 32 (n:Int) &&& 4294901760#32).toNat:Nat):Int)=_;rw[qen,hx,Vg (by omega) (by omega)]
 rw[e1,e2,Int.tdiv_eq_ediv_of_nonneg (by omega),Int.tmod_eq_emod_of_nonneg (by omega)];omega
end Go.Kc
end
section
/- The document's lines of a list. Condition: the functions' texts are these. -/
namespace Go.Kc
variable {P:Program} {f g1 g2:Nat}
end Go.Kc
end
section
/- The document's lines of a list: the end. Condition: the functions' texts are these. -/
namespace Go.Kc
variable {P:Program} {f g1 g2:Nat}
end Go.Kc
end
section
/- The document's lines of a policy. Condition: the functions' texts are these. -/
namespace Go.Kc
variable {P:Program} {f:Nat}
section
variable {g1 g2 g3 g4 g5 g6 g7 g8 g9:Nat}
end
end Go.Kc
end
section
/- The document's lines of a policy: architectures. Condition: the functions' texts are these. -/
namespace Go.Kc
section
variable {P:Program} {f g1 g2 g3 g4 g5 g6 g7 g8 g9:Nat}
end
end Go.Kc
end
section
/- The document's lines of a policy: joined. Condition: the functions' texts are these. -/
namespace Go.Kc
section
variable {P:Program} {f g1 g2 g3 g4 g5 g6 g7 g8 g9:Nat}
structure Lin19 (p:Pol):Prop where
 arch:∀n ∈ p.arches,0<=n∧n<6
 sp:p.spaces=0↔wL p.spaces=[]
 fl:∀c ∈ p.filter.calls,0<=c.act∧c.act<=4294967295
 lg:∀c ∈ p.log.calls,0<=c.act∧c.act<=4294967295
end
end Go.Kc
end
section
/- The lines of a policy that may be are not too long. No condition. -/
namespace Go.Kc
theorem Ja(sep:List UInt8){m:Nat}{xs:List (List UInt8)}(h:∀x ∈ xs,x.length<=m):(zx sep xs).length<=xs.length*(m+sep.length):=by
 have hl:Lib.lens xs<=xs.length*m:=by
  induction xs with
  | nil=>simp[Lib.lens]
  | cons x r ih =>
   have h1:=h x (by simp);have h2:=ih fun y hy=>h y (by simp[hy])
   simp only[Lib.lens,List.map_cons,List.sum_cons,List.length_cons,Nat.succ_mul] at h2 ⊢;omega
 cases xs with
 | nil=>simp[Vs]
 | cons x r =>
  show (Lib.join (x::r) sep).length<=_;rw[Lib.join_length,List.length_cons,Nat.mul_add];have:sep.length*r.length<=(r.length+1)*sep.length:=by rw[Nat.mul_comm];exact Nat.mul_le_mul_right _ (by omega)
  simp only[List.length_cons] at hl;omega
theorem WZ{m:Nat}(n:Int){l:List (List UInt8×Int)}(h:∀p ∈ l,p.1.length<=m):(zd n l).length<=m:=by
 induction l with
 | nil=>simp[zd]
 | cons p l ih =>
  simp only[zd];split
  ·exact h p (by simp)
  ·exact ih fun q hq=>h q (by simp[hq])
theorem qbD(a:Int):(xU a).length<=21:=by
 unfold xU;split
 ·simp
 ·have h:∀p ∈ zK,p.1.length<=21:=by decide
  rw[List.getD_eq_getElem?_getD];cases hx:zK[a.toNat]? with
  | none=>simp
  | some p=>exact h p (List.mem_of_getElem? hx)
theorem qgL{s:List UInt8}(h:xM s=true):s.length<=40:=by
 unfold xM at h;obtain⟨x,hx⟩:=Option.isSome_iff_exists.1 h;have h1:∀p ∈ zm,p.1.length<=40:=by decide
 have h2:=List.find?_some hx;simp only[decide_eq_true_eq] at h2;rw[← h2];exact h1 x (List.mem_of_find?_eq_some hx)
theorem qht{c:GCall}(h:c.name.length<=40):(wC c).length<=70:=by
 unfold wC;split
 ·omega
 split
 ·simp;omega
 split
 ·have:=WI (n:=wD .u32 c.act 65535) (Wz _ _).1;simp only[List.length_append,List.length_cons];omega
 ·simp;omega
theorem qfy{k:List UInt8}(hk:k.length<=100){l:GList}(h:zF l=true):LOkP k l:=by
 have hn:=JA h;obtain⟨_,hc,_⟩:=(zV l).1 h
 have hnm:∀c ∈ l.calls,c.name.length<=40:=fun c hx=>by
  have:=hc c hx;simp only[okC,Bool.and_eq_true] at this;exact qgL this.1
 refine⟨hk,by omega,fun c hx=>by have:=hnm c hx;omega,fun q a ha=>?_⟩
 have hl:=XL q l.calls
 have hj:=Ja [32] (m:=70) (xs:=zC q l.calls) fun x hx=>by
  obtain⟨c,h1,rfl⟩:=List.mem_map.1 hx;exact qht (hnm c (List.mem_filter.1 h1).1)
 simp only[List.length_singleton] at hj;have:(zC q l.calls).length*71<=40*71:=Nat.mul_le_mul_right _ (by omega);exact⟨hk,by omega,by omega,by omega⟩
theorem qeP{k a:List UInt8}(hk:k.length<=100)(ha:a.length<=1)(g:Int->List UInt8)(l:List Int)(hl:l.length<=1000)(hg:∀n,(g n).length<=21):QU k a (l.map g):=by
 have hj:=Ja [32] (m:=21) (xs:=l.map g) fun x hx=>by
  obtain⟨n,_,rfl⟩:=List.mem_map.1 hx;exact hg n
 simp only[List.length_singleton,List.length_map] at hj;have:l.length*22<=1000*22:=Nat.mul_le_mul_right _ hl;exact⟨hk,by omega,by rw[List.length_map];omega,by omega⟩
theorem qi6{p:Pol}(hp:PolOk p)(h:Wj p=true):LinOk p:=by
 simp only[Wj,yi,Bool.and_eq_true] at h;obtain⟨_,⟨h1,h2⟩,_⟩:=h;exact⟨qeP (by decide) (by simp) _ _ hp.a qbD,qfy (by decide) h1,qfy (by decide) h2,fun a ha=>qeP (by decide) ha _ _ hp.f (fun n=>WZ n (by decide)),qeP (by decide) (by simp) _ _ (Nat.le_trans (XN _) (by decide)) (fun n=>WZ n (by decide))⟩
end Go.Kc
end
