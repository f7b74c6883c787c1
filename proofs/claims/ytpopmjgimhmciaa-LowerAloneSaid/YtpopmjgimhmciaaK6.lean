/- Part 6 of the abstract machine and of the functions' walks. Conditions: with each theorem. -/
import Derived.Test.YtpopmjgimhmciaaK5
import Derived.Laws.Externs
import Derived.Lib.Overlaps
import GoSem.ClaimChange
import Derived.ChangeArms
import Derived.ReadAgain
import Derived.ChangeOld
import Derived.ChangeBears
set_option linter.unusedSimpArgs false
set_option linter.unusedVariables false
set_option linter.unnecessarySimpa false
set_option linter.defProp false
section
/- Frames, written out. No condition. -/
namespace Go.Kc
variable {P:Program} {h:Hp}

def kt (h:Hp) (g:Nat → Nat) (m:Nat):List Nat → List Blk → Prop
 | [],[]=>True
 | b :: at',.cells e true a cs :: xs=>(z6 m cs = true ∧ evB (h.tr.get b) (fun y=>y = Blk.cells e true a (zJ g cs)) ∧ h.fl ≤ b ∧ b < h.sz) ∧ kt h g m at' xs
 | _,_=>False
theorem kt.get {g:Nat → Nat} {m:Nat}:∀ {at':List Nat} {bs:List Blk},kt h g m at' bs → at'.length = bs.length ∧ ∀ (i:Nat) (x:Blk),bs[i]? = some x → ∃ b e a cs,at'[i]? = some b ∧ x = .cells e true a cs ∧ z6 m cs = true ∧ h.tr.get b = some (.cells e true a (zJ g cs)) ∧ h.fl ≤ b ∧ b < h.sz
 | [],[],_=>⟨rfl,by simp⟩
 | [],_ :: _,hh=>by simp [kt] at hh
 | _ :: _,[],hh=>by simp [kt] at hh
 | b :: at',.dead :: xs,hh=>by simp [kt] at hh
 | b :: at',.map _ :: xs,hh=>by simp [kt] at hh
 | b :: at',.cells e false a cs :: xs,hh=>by simp [kt] at hh
 | b :: at',.cells e true a cs :: xs,hh=>by
  obtain ⟨⟨h1,⟨y,h2,h3⟩,h4,h5⟩,h6⟩:=hh
  subst h3
  obtain ⟨h7,h8⟩:=kt.get h6
  refine ⟨by simp [h7],fun i x hx=>?_⟩
  cases i with
  | zero=>simp at hx; subst hx; exact ⟨b,e,a,cs,rfl,rfl,h1,h2,h4,h5⟩
  | succ i=>simpa using h8 i x (by simpa using hx)
theorem Lent.of {at':List Nat} {bs:List Blk} (hn:at'.Nodup) (hl:kt h (gAt at' h.sz) bs.length at' bs):Lent h at' bs:=by
 obtain ⟨h1,h2⟩:=hl.get
 refine ⟨h1,hn,fun i x hx=>?_⟩
 obtain ⟨b,e,a,cs,q1,q2,q3,q4,q5,q6⟩:=h2 i x hx
 have hi:i < at'.length:=(List.getElem?_eq_some_iff.1 q1).1
 have e1:gAt at' h.sz i = b:=by
  rw [v8 hi]
  exact (List.getElem?_eq_some_iff.1 q1).2
 exact ⟨e,a,cs,q2,q3,by rw [e1]; exact q4,by rw [e1]; exact q5,by rw [e1]; exact q6⟩
theorem qgT {g:Nat → Nat} {m:Nat}:kt h g m [] [] ↔ True:=Iff.rfl
theorem qe4 {g:Nat → Nat} {m b e:Nat} {at':List Nat} {a:Bool} {cs:List AV} {xs:List Blk}:kt h g m (b :: at') (.cells e true a cs :: xs) ↔ (z6 m cs = true ∧ evB (h.tr.get b) (fun y=>y = Blk.cells e true a (zJ g cs)) ∧ h.fl ≤ b ∧ b < h.sz) ∧ kt h g m at' xs:=Iff.rfl
theorem zK {s f b:Nat} {tr:Tr Blk} {x:Blk}:Hp.put ⟨s,f,tr⟩ b x = ⟨s,f,tr.set b x⟩:=rfl
theorem qc0 {xs:List Blk}:ke h [] xs = h:=by simp [ke]
theorem qbt {b:Nat} {at':List Nat} {x:Blk} {xs:List Blk}:ke h (b :: at') (x :: xs) = ke (h.put b x) at' xs:=rfl
theorem qj6 {g:Nat → Nat} {v:AV} (hv:clo v = true):rnv g v = v:=by
 have key:(∀ v:AV,clo v = true → rnv g v = v):=fun v=>by
  refine AV.rec (motive_1:=fun v=>clo v = true → rnv g v = v) (motive_2:=fun vs=>qK vs = true → zJ g vs = vs) ?_ ?_ ?_ ?_ ?_ ?_ ?_ ?_ ?_ ?_ ?_ ?_ ?_ ?_ ?_ ?_ ?_ ?_ ?_ ?_ ?_ ?_ ?_ ?_ ?_ ?_ v
  all_goals first
   | (intros; rfl)
   | (intros; rename_i hh; simp [clo] at hh; done)
   | skip
  ·intro f a c h1 h2 hh
   simp only [clo,Bool.and_eq_true] at hh
   simp only [rnv,h1 hh.1,h2 hh.2]
  ·intro t v h1 hh
   simp only [clo] at hh
   simp only [rnv,h1 hh]
  ·intro cs h1 hh
   simp only [clo] at hh
   simp only [rnv,h1 hh]
  ·intro cs h1 hh
   simp only [clo] at hh
   simp only [rnv,h1 hh]
  ·intro v vs h1 h2 hh
   simp only [qK,Bool.and_eq_true] at hh
   simp only [zJ,h1 hh.1,h2 hh.2]
 exact key v hv
theorem qm {g:Nat → Nat}:∀ {vs:List AV},qK vs = true → zJ g vs = vs
 | [],_=>rfl
 | v :: vs,h=>by
  simp only [qK,Bool.and_eq_true] at h
  simp only [zJ,qj6 h.1,qm h.2]
def zz:Blk → Bool
 | .dead=>false
 | _=>true
theorem qbs {α β:Type} {f:α → β} {p:α → Bool}:∀ {l:List α},((l.filter p).map f).Nodup → ∀ {i j:Nat} {x y:α},l[i]? = some x → l[j]? = some y → p x = true → p y = true → f x = f y → i = j
 | [],_,i,j,x,y,hi,_,_,_,_=>by simp at hi
 | a :: l,hn,i,j,x,y,hi,hj,hx,hy,he=>by
  have tail:((l.filter p).map f).Nodup:=by
   rw [List.filter_cons] at hn
   split at hn
   ·exact (List.nodup_cons.1 hn).2
   ·exact hn
  have no:∀ {z:α} {m:Nat},l[m]? = some z → p z = true → p a = true → f a = f z → False:=by
   intro z m hz hpz hpa hfz
   rw [List.filter_cons,if_pos hpa] at hn
   exact (List.nodup_cons.1 hn).1 (hfz ▸ List.mem_map_of_mem (List.mem_filter.2 ⟨List.mem_of_getElem? hz,hpz⟩))
  cases i with
  | zero =>
   simp at hi; subst hi
   cases j with
   | zero=>rfl
   | succ j=>exact (no (by simpa using hj) hy hx he).elim
  | succ i =>
   cases j with
   | zero=>simp at hj; subst hj; exact (no (by simpa using hi) hx hy he.symm).elim
   | succ j =>
    have hij:i = j:=qbs tail (i:=i) (j:=j) (by simpa using hi) (by simpa using hj) hx hy he
    rw [hij]
theorem Wk.mkd {n:Nat} {t:Tr AV} (ts:List (Nat × AV)) (bl:List Blk) (src:List Nat) (hT:TWs t (rl src h.sz) bl.length ts) (hB:BWs h (rl src h.sz) bl.length src bl)
  (hI:(((src.zip bl).filter fun p=>decide (p.1 < h.sz) && zz p.2).map Prod.fst).Nodup) (hfl:h.fl = 0) (hn:n ≤ bl.length) (hlow:∀ b,b < n → rl src h.sz b = b):Wk n t h (mkT ts) (mkH 0 bl):=by
 obtain ⟨hlen,hget⟩:=hB.get
 refine Wk.of (r:=rl src h.sz) ⟨hfl.symm,fun b' x' hb hg=>?_,fun b1 b2 h1 h2 l1 l2 he hl=>?_,fun b' _ _ _=>by rw [hfl]; exact Nat.zero_le _,hlow,hn,fun b _ hb=>by rw [hfl] at hb; exact absurd hb (Nat.not_lt_zero _),fun j v' hj=>?_⟩
 ·rw [zT] at hg
  obtain ⟨b,q1,q2⟩:=hget b' x' hg
  have:rl src h.sz b' = b:=by simp [rl,List.getD_eq_getElem?_getD,q1]
  rw [this]; exact q2
 ·obtain ⟨x1,g1,d1⟩:=l1
  obtain ⟨x2,g2,d2⟩:=l2
  rw [zT] at g1 g2
  obtain ⟨c1,q1,_⟩:=hget b1 x1 g1
  obtain ⟨c2,q2,_⟩:=hget b2 x2 g2
  have e1:rl src h.sz b1 = c1:=by simp [rl,List.getD_eq_getElem?_getD,q1]
  have e2:rl src h.sz b2 = c2:=by simp [rl,List.getD_eq_getElem?_getD,q2]
  rw [e1,e2] at he
  rw [e1] at hl
  have v1:zz x1 = true:=by cases x1 <;> first | rfl | exact absurd rfl d1
  have v2:zz x2 = true:=by cases x2 <;> first | rfl | exact absurd rfl d2
  refine qbs hI (i:=b1) (j:=b2) (x:=(c1,x1)) (y:=(c2,x2)) ?_ ?_ ?_ ?_ he
  ·rw [List.getElem?_zip_eq_some]; exact ⟨q1,g1⟩
  ·rw [List.getElem?_zip_eq_some]; exact ⟨q2,g2⟩
  ·simp [hl,v1]
  ·simp [← he,hl,v2]
 ·exact hT.get _ (kQ hj)
theorem qfa {b o:Nat} {k:AV → Prop}:ZD (.ptr b o) k ↔ k (.ptr b o):=Iff.rfl
theorem qhb {cs:List AV} {o:Nat} {k:AV → Prop}:ZD (.pf cs o) k ↔ k (.pf cs o):=Iff.rfl
theorem qe9 {b:Nat} {k:AV → Prop}:ZD (.map b) k ↔ k (.map b):=Iff.rfl
theorem qhc {b:Nat} {k:AV → Prop}:ZD (.yl b) k ↔ k (.yl b):=Iff.rfl
theorem qha {f:Nat} {a c:List AV} {k:AV → Prop}:ZD (.fn f a c) k ↔ k (.fn f a c):=Iff.rfl
theorem qkr {C:ze} {ops:List ROp} {Q:Tr AV → Hp → Prop} {t:Tr AV} {s f f':Nat} {tr:Tr Blk}:VR' C ops Q t (Hp.down ⟨s,f,tr⟩ f') ↔ VR' C ops Q t ⟨s,f',tr⟩:=Iff.rfl
theorem qpk {C:ze} {ops:List ROp} {Q:Tr AV → Hp → Prop} {t:Tr AV} {s f:Nat} {tr:Tr Blk} {dst:Option Nat} {o:IOp}:VR' C (⟨dst,.op o,none⟩ :: ops) Q t ⟨s,f,tr⟩ ↔
  if wr (.op o) = true then opK qB o t ⟨s,f,tr⟩ (fun v h'=>xR t dst v (fun t'=>VR' C ops Q t' h')) else opK qB o t ⟨s,s,tr⟩ (fun v h'=>xR t dst v (fun t'=>VR' C ops Q t' (h'.down f))):=qkX
theorem qnl {C:ze} {Q:Tr AV → Hp → Prop} {t:Tr AV} {s f:Nat} {tr:Tr Blk}:VR' C [] Q t ⟨s,f,tr⟩ ↔ Q t ⟨s,f,tr⟩:=Iff.rfl
theorem qit {m:Nat}:∀ {v:AV},clo v = true → bnd m v = true:=by
 intro v
 refine AV.rec (motive_1:=fun v=>clo v = true → bnd m v = true) (motive_2:=fun vs=>qK vs = true → z6 m vs = true) ?_ ?_ ?_ ?_ ?_ ?_ ?_ ?_ ?_ ?_ ?_ ?_ ?_ ?_ ?_ ?_ ?_ ?_ ?_ ?_ ?_ ?_ ?_ ?_ ?_ ?_ v
 all_goals first
  | (intros; rfl)
  | (intros; rename_i hh; simp [clo] at hh; done)
  | skip
 ·intro f a c h1 h2 hh
  simp only [clo,Bool.and_eq_true] at hh
  simp only [bnd,h1 hh.1,h2 hh.2,Bool.and_self]
 ·intro t v h1 hh
  simp only [clo] at hh
  simp only [bnd,h1 hh]
 ·intro cs h1 hh
  simp only [clo] at hh
  simp only [bnd,h1 hh]
 ·intro cs h1 hh
  simp only [clo] at hh
  simp only [bnd,h1 hh]
 ·intro v vs h1 h2 hh
  simp only [qK,Bool.and_eq_true] at hh
  simp only [z6,h1 hh.1,h2 hh.2,Bool.and_self]
theorem qD {m:Nat}:∀ {vs:List AV},qK vs = true → z6 m vs = true
 | [],_=>rfl
 | v :: vs,h=>by
  simp only [qK,Bool.and_eq_true] at h
  simp only [z6,qit h.1,qD h.2,Bool.and_self]
end Go.Kc
end
section
/- One name for the lemmas that every walk names. No condition. -/
namespace Go.Kc
def vQ:=And.intro @List.map_cons.{0,0} (And.intro @List.map_nil.{0,0} (And.intro @Bool.and_true (And.intro @Bool.true_and (And.intro @Bool.and_self (And.intro @and_self (And.intro @Tr.get_set (And.intro @decide_eq_true_eq (And.intro @Bool.false_eq_true (And.intro @true_and (And.intro @and_true (And.intro @List.getElem?_cons_zero.{0} (And.intro @List.getElem?_cons_succ.{0} (And.intro @List.length_cons.{0} (And.intro @List.length_nil.{0} (And.intro @List.take_zero.{0} (And.intro @List.take_succ_cons.{0} (And.intro @List.drop_zero.{0} (And.intro @List.drop_succ_cons.{0} (And.intro @List.drop_nil.{0} (And.intro @List.take_nil.{0} (And.intro @List.nil_append.{0} (And.intro @List.cons_append.{0} (And.intro @List.append_nil.{0} (And.intro @Nat.zero_add (And.intro @Nat.add_zero (And.intro @Nat.le_refl (And.intro @Nat.zero_le (And.intro @Int.toNat_natCast (And.intro @Int.natCast_nonneg (And.intro @Int.ofNat_lt (And.intro @Bool.not_true (And.intro @Bool.not_false (And.intro @decide_true (And.intro @decide_false (And.intro @Bool.xor_false (And.intro @Bool.xor_true (And.intro @Bool.false_xor (And.intro @Bool.true_xor (And.intro @Nat.lt_irrefl (And.intro @List.replicate_succ.{0} (And.intro @List.replicate_zero.{0} (And.intro @List.flatten_cons.{0} (And.intro @List.flatten_nil.{0} (And.intro @Nat.succ_eq_add_one (And.intro @Option.isNone_none.{0} (And.intro @Option.isSome_none.{0} (And.intro @Bool.false_and (And.intro @Bool.and_false (And.intro @Nat.sub_zero (And.intro @qc0 (And.intro @qbt (And.intro @zK (And.intro @qjj (And.intro @qai (And.intro @yY (And.intro @kS @List.append_assoc.{0}))))))))))))))))))))))))))))))))))))))))))))))))))))))))
def vX:=And.intro @qkr (And.intro @qpk (And.intro @qnl (And.intro @qhC (And.intro @qhD (And.intro @qfh (And.intro @qhx (And.intro @qfa (And.intro @qhb (And.intro @qe9 (And.intro @qhc @qha))))))))))
def vS:=And.intro vA (And.intro vE (And.intro vO (And.intro vB (And.intro vF (And.intro vM (And.intro vR vX))))))
def vT:=And.intro @qlv (And.intro @qlw (And.intro vP (And.intro vC (And.intro vQ (And.intro @qel (And.intro @qc6 (And.intro not_false_eq_true (And.intro @eq_self.{1} @Int.cast_ofNat_Int))))))))
def vw:=And.intro vW (And.intro @qiR (And.intro @qov (And.intro @qou (And.intro @qlA (And.intro @qiS (And.intro @qkn (And.intro @qhX (And.intro @qdx (And.intro @qli (And.intro @qbq (And.intro @qe6 (And.intro @qdz (And.intro @ZB (And.intro vP (And.intro vZ @Tr.get_set)))))))))))))))
def vK:=And.intro @List.cons_append.{0} (And.intro @List.nil_append.{0} (And.intro @List.length_cons.{0} (And.intro @List.length_nil.{0} (And.intro Nat.zero_add (And.intro @List.take_succ_cons.{0} (And.intro @List.take_zero.{0} (And.intro @List.drop_succ_cons.{0} (And.intro @List.drop_zero.{0} (And.intro @List.map_cons.{0,0} (And.intro @List.map_nil.{0,0} (And.intro @List.getD_cons_zero.{0} (And.intro @List.getD_cons_succ.{0} (And.intro @qbt (And.intro @qc0 (And.intro @kS (And.intro @yY (And.intro @zK @qai)))))))))))))))))
def vJ:=And.intro @kS (And.intro @yY (And.intro @qai (And.intro @qel (And.intro @qc6 (And.intro @List.map_cons.{0,0} (And.intro @List.map_nil.{0,0} (And.intro @qkP (And.intro @qdU Nat.zero_add))))))))
def vL:=And.intro @qe4 (And.intro @qgT (And.intro @kS (And.intro @yY @qai)))
def ROp.q (n:Nat) (o:IOp):ROp:=⟨some n,.op o,none⟩
def ROp.m (n:Nat) (x:O):ROp:=⟨some n,.op (.mov x),none⟩
def ROp.g (n:Nat) (o:IOp) (c:Nat) (b:Bool):ROp:=⟨some n,.op o,some (c,b)⟩
def ROp.l (n f:Nat) (xs:List O):ROp:=⟨some n,.callF f xs,none⟩
def ROp.u (o:IOp):ROp:=⟨none,.op o,none⟩
def ICode.r (ops:List ROp):ICode:=.reg false ops
def O.k (n:Int):O:=.c (.i .i64 n)
theorem q_q {n:Nat} {o:IOp}:ROp.q n o = ⟨some n,.op o,none⟩:=rfl
theorem q_m {n:Nat} {x:O}:ROp.m n x = ⟨some n,.op (.mov x),none⟩:=rfl
theorem q_g {n:Nat} {o:IOp} {c:Nat} {b:Bool}:ROp.g n o c b = ⟨some n,.op o,some (c,b)⟩:=rfl
theorem q_l {n f:Nat} {xs:List O}:ROp.l n f xs = ⟨some n,.callF f xs,none⟩:=rfl
theorem q_u {o:IOp}:ROp.u o = ⟨none,.op o,none⟩:=rfl
theorem q_r {ops:List ROp}:ICode.r ops = .reg false ops:=rfl
theorem q_k {n:Int}:O.k n = .c (.i .i64 n):=rfl
def vI:=And.intro @List.length_cons.{0} (And.intro @List.length_nil.{0} (And.intro Nat.zero_add (And.intro @q_q (And.intro @q_m (And.intro @q_g (And.intro @q_l (And.intro @q_u (And.intro @q_r @q_k))))))))
end Go.Kc
end
section
/- A row that is written no more becomes a row that stays as it is. No condition. -/
namespace Go.Kc
variable {P:Program}

mutual
def fzv (b e:Nat) (cs:List AV):AV → AV
 | .own b' n=>if b' = b then .fz n (if n = 0 then [] else cs) else .own b' n
 | .ptr b' o=>if b' = b then .pf cs o else .ptr b' o
 | .sl b' o n c l=>if b' = b then (if n ≤ c then .fz n ((cs.drop o).take (n * e)) else .undef) else .sl b' o n c l
 | .map b'=>if b' = b then .undef else .map b'
 | .yl b'=>if b' = b then .undef else .yl b'
 | .fn f x c=>.fn f (y3 b e cs x) (y3 b e cs c)
 | .ifc t v=>.ifc t (fzv b e cs v)
 | .agg l=>.agg (y3 b e cs l)
 | .tup l=>.tup (y3 b e cs l)
 | v=>v
def y3 (b e:Nat) (cs:List AV):List AV → List AV
 | []=>[]
 | v :: vs=>fzv b e cs v :: y3 b e cs vs
end
def fzE (b e:Nat) (cs:List AV) (es:List (AV × AV)):List (AV × AV):=es.map fun p=>(p.1,fzv b e cs p.2)
def fzB (b e:Nat) (cs:List AV):Blk → Blk
 | .cells k w a l=>.cells k w a (y3 b e cs l)
 | .dead=>.dead
 | .map es=>.map (fzE b e cs es)
theorem qaE {b e:Nat} {cs:List AV}:∀ {vs:List AV} {j:Nat},(y3 b e cs vs)[j]? = (vs[j]?).map (fzv b e cs)
 | [],j=>by simp [y3]
 | v :: vs,0=>by simp [y3]
 | v :: vs,j + 1=>by simpa [y3] using qaE (vs:=vs) (j:=j)
theorem xY {b e:Nat} {cs:List AV}:∀ {vs:List AV},(y3 b e cs vs).length = vs.length
 | []=>rfl
 | v :: vs=>by simp [y3,xY (vs:=vs)]
theorem qd2 {b e:Nat} {cs:List AV} {v:AV} (hv:clo v = true):fzv b e cs v = v:=by
 refine AV.rec (motive_1:=fun v=>clo v = true → fzv b e cs v = v) (motive_2:=fun vs=>qK vs = true → y3 b e cs vs = vs) ?_ ?_ ?_ ?_ ?_ ?_ ?_ ?_ ?_ ?_ ?_ ?_ ?_ ?_ ?_ ?_ ?_ ?_ ?_ ?_ ?_ ?_ ?_ ?_ ?_ ?_ v hv
 all_goals first
  | (intros; rfl)
  | (intros; rename_i hh; simp [clo] at hh; done)
  | skip
 ·intro f a c h1 h2 hh
  simp only [clo,Bool.and_eq_true] at hh
  simp only [fzv,h1 hh.1,h2 hh.2]
 ·intro t v h1 hh
  simp only [clo] at hh
  simp only [fzv,h1 hh]
 ·intro cs h1 hh
  simp only [clo] at hh
  simp only [fzv,h1 hh]
 ·intro cs h1 hh
  simp only [clo] at hh
  simp only [fzv,h1 hh]
 ·intro v vs h1 h2 hh
  simp only [qK,Bool.and_eq_true] at hh
  simp only [y3,h1 hh.1,h2 hh.2]
theorem CRs.cut {φ:Nat → Option (Array Value)}:∀ {cs:List AV} {vs:List Value} (o m:Nat),CRs σ0 φ cs (vs.take cs.length) → CRs σ0 φ ((cs.drop o).take m) ((vs.drop o).take ((cs.drop o).take m).length)
 | [],vs,o,m,h=>by simp; exact .nil
 | c :: cs,[],o,m,h=>by simp at h; cases h
 | c :: cs,v :: vs,0,0,h=>by simp; exact .nil
 | c :: cs,v :: vs,0,m + 1,h=>by
  simp only [List.length_cons,List.take_succ_cons] at h
  cases h with
  | cons _ _ _ _ h1 h2 =>
   have:=CRs.cut 0 m h2
   simp only [List.drop_zero] at this
   simp only [List.drop_zero,List.take_succ_cons,List.length_cons]
   exact .cons _ _ _ _ h1 this
 | c :: cs,v :: vs,o + 1,m,h=>by
  simp only [List.length_cons,List.take_succ_cons] at h
  cases h with
  | cons _ _ _ _ h1 h2=>simpa using CRs.cut o m h2
def Ren.iced (ρ:Ren) (b k:Nat) (arr:Array Value):Ren:=⟨fun b'=>if b' = b then none else ρ b',fun k'=>if k' = k then some arr else ρ.frz k',ρ.n⟩
mutual
theorem VR.iced {ρ:Ren} {b e:Nat} {cs:List AV} {L:Loc} {arr:Array Value} (hL:∀ L',ρ b = some L' → L' = L) (hf:∀ k a,ρ.frz k = some a → (ρ.iced b L.blk arr).frz k = some a)
  (hs:CRs σ0 (ρ.iced b L.blk arr).frz cs ((arr.toList.drop L.off).take cs.length)):∀ {v:AV} {x:Value},VR σ0 ρ v x → VR σ0 (ρ.iced b L.blk arr) (fzv b e cs v) x
 | _,_,.undef v=>.undef v
 | _,_,.b x=>.b x
 | _,_,.i k n=>.i k n
 | _,_,.s x=>.s x
 | _,_,.nilp=>.nilp
 | _,_,.ptr b' o L' h=>by
  simp only [fzv]
  split
  ·rename_i hb; subst hb
   obtain rfl:=hL _ h
   refine .pf o L'.off cs L'.blk arr (by simp [Ren.iced]) hs
  ·rename_i hb
   exact .ptr _ _ L' (by simp only [Ren.iced]; rw [if_neg hb]; exact h)
 | _,_,.nils=>.nils
 | _,_,.sl b' o n cap c l L' h hc=>by
  simp only [fzv]
  split
  ·rename_i hb; subst hb
   obtain rfl:=hL _ h
   split
   ·rename_i hn
    refine .fz n (L'.off + o) c _ L'.blk arr (by omega) (by simp [Ren.iced]) ?_
    have:=CRs.cut o (n * e) hs
    rw [List.drop_drop] at this
    exact this
   ·exact .undef _
  ·rename_i hb
   exact .sl _ _ _ _ _ _ L' (by simp only [Ren.iced]; rw [if_neg hb]; exact h) hc
 | _,_,.slz b' o x l L' h=>by
  simp only [fzv]
  split
  ·simp; exact .fz0 _
  ·rename_i hb
   exact .slz _ _ _ _ L' (by simp only [Ren.iced]; rw [if_neg hb]; exact h)
 | _,_,.nilf=>.nilf
 | _,_,.fn f first cap first' cap' h1 h2=>.fn _ _ _ _ _ (VRs.iced hL hf hs h1) (VRs.iced hL hf hs h2)
 | _,_,.nili=>.nili
 | _,_,.ifc t v v' h=>.ifc _ _ _ (VR.iced hL hf hs h)
 | _,_,.agg l l' h=>.agg _ _ (VRs.iced hL hf hs h)
 | _,_,.tup l l' h=>.tup _ _ (VRs.iced hL hf hs h)
 | _,_,.nilm=>.nilm
 | _,_,.map b' L' h h0=>by
  simp only [fzv]
  split
  ·exact .undef _
  ·rename_i hb
   exact .map _ L' (by simp only [Ren.iced]; rw [if_neg hb]; exact h) h0
 | _,_,.sym j=>.sym j
 | _,_,.fz n off c l k a hn h h2=>.fz n off c l k a hn (hf _ _ h) (h2.mono hf)
 | _,_,.fz0 a=>.fz0 a
 | _,_,.pf off base l k a h h2=>.pf off base l k a (hf _ _ h) (h2.mono hf)
 | _,_,.e0 a=>.e0 a
 | _,_,.nz a c=>.nz a c
 | _,_,.own0 b' a hb=>by
  simp only [fzv]
  split
  ·simp; exact .fz0 _
  ·exact .own0 _ _ hb
 | _,_,.yl b' L' h=>by
  simp only [fzv]
  split
  ·exact .undef _
  ·rename_i hb
   exact .yl _ L' (by simp only [Ren.iced]; rw [if_neg hb]; exact h)
 | _,_,.own b' n c L' h hn hc=>by
  simp only [fzv]
  split
  ·rename_i hb; subst hb
   obtain rfl:=hL _ h
   split
   ·rename_i h0
    subst h0
    exact .fz 0 L'.off c [] L'.blk arr (by omega) (by simp [Ren.iced]) (by simp; exact .nil)
   ·exact .fz n L'.off c cs L'.blk arr hn (by simp [Ren.iced]) hs
  ·rename_i hb
   exact .own _ _ _ L' (by simp only [Ren.iced]; rw [if_neg hb]; exact h) hn hc
theorem VRs.iced {ρ:Ren} {b e:Nat} {cs:List AV} {L:Loc} {arr:Array Value} (hL:∀ L',ρ b = some L' → L' = L) (hf:∀ k a,ρ.frz k = some a → (ρ.iced b L.blk arr).frz k = some a)
  (hs:CRs σ0 (ρ.iced b L.blk arr).frz cs ((arr.toList.drop L.off).take cs.length)):∀ {v:List AV} {x:List Value},VRs σ0 ρ v x → VRs σ0 (ρ.iced b L.blk arr) (y3 b e cs v) x
 | _,_,.nil=>.nil
 | _,_,.cons v vs v' vs' h h2=>.cons _ _ _ _ (VR.iced hL hf hs h) (VRs.iced hL hf hs h2)
end
mutual
theorem VR.iced0 {ρ:Ren} {b e:Nat} {cs:List AV} (hL:ρ b = none):∀ {v:AV} {x:Value},VR σ0 ρ v x → VR σ0 ρ (fzv b e cs v) x
 | _,_,.undef v=>.undef v
 | _,_,.b x=>.b x
 | _,_,.i k n=>.i k n
 | _,_,.s x=>.s x
 | _,_,.nilp=>.nilp
 | _,_,.ptr b' o L' h=>by
  simp only [fzv]
  split
  ·rename_i hb; subst hb; rw [hL] at h; cases h
  ·exact .ptr _ _ L' h
 | _,_,.nils=>.nils
 | _,_,.sl b' o n cap c l L' h hc=>by
  simp only [fzv]
  split
  ·rename_i hb; subst hb; rw [hL] at h; cases h
  ·exact .sl _ _ _ _ _ _ L' h hc
 | _,_,.slz b' o x l L' h=>by
  simp only [fzv]
  split
  ·simp; exact .fz0 _
  ·exact .slz _ _ _ _ L' h
 | _,_,.nilf=>.nilf
 | _,_,.fn f first cap first' cap' h1 h2=>.fn _ _ _ _ _ (VRs.iced0 hL h1) (VRs.iced0 hL h2)
 | _,_,.nili=>.nili
 | _,_,.ifc t v v' h=>.ifc _ _ _ (VR.iced0 hL h)
 | _,_,.agg l l' h=>.agg _ _ (VRs.iced0 hL h)
 | _,_,.tup l l' h=>.tup _ _ (VRs.iced0 hL h)
 | _,_,.nilm=>.nilm
 | _,_,.map b' L' h h0=>by
  simp only [fzv]
  split
  ·exact .undef _
  ·exact .map _ L' h h0
 | _,_,.sym j=>.sym j
 | _,_,.fz n off c l k a hn h h2=>.fz n off c l k a hn h h2
 | _,_,.fz0 a=>.fz0 a
 | _,_,.pf off base l k a h h2=>.pf off base l k a h h2
 | _,_,.e0 a=>.e0 a
 | _,_,.nz a c=>.nz a c
 | _,_,.own0 b' a hb=>by
  simp only [fzv]
  split
  ·simp; exact .fz0 _
  ·exact .own0 _ _ hb
 | _,_,.yl b' L' h=>by
  simp only [fzv]
  split
  ·exact .undef _
  ·exact .yl _ L' h
 | _,_,.own b' n c L' h hn hc=>by
  simp only [fzv]
  split
  ·rename_i hb; subst hb; rw [hL] at h; cases h
  ·exact .own _ _ _ L' h hn hc
theorem VRs.iced0 {ρ:Ren} {b e:Nat} {cs:List AV} (hL:ρ b = none):∀ {v:List AV} {x:List Value},VRs σ0 ρ v x → VRs σ0 ρ (y3 b e cs v) x
 | _,_,.nil=>.nil
 | _,_,.cons v vs v' vs' h h2=>.cons _ _ _ _ (VR.iced0 hL h) (VRs.iced0 hL h2)
end
def qkF (es:List (AV × AV)):Prop:=vk es ∨ ∃ r ts,es = xD r ts
theorem qd1 {b e:Nat} {cs:List AV}:∀ {es:List (AV × AV)},vk es → fzE b e cs es = es
 | [],_=>rfl
 | p :: es,h=>by
  have h2:=ZB.1 h
  show (p.1,fzv b e cs p.2) :: fzE b e cs es = _
  rw [qd1 h2.2,qd2 h2.1.2]
theorem qi6 {b e:Nat} {cs:List AV} {r:Loop} {ts:List (Nat × AV)}:fzE b e cs (xD r ts) = xD r (ts.map fun p=>(p.1,fzv b e cs p.2)):=by simp [fzE,xD,fzv]
theorem kh.ice {ρ ρ':Ren} {b e:Nat} {cs:List AV} (hv:∀ {v:AV} {x:Value},VR σ0 ρ v x → VR σ0 ρ' (fzv b e cs v) x) {es:List (AV × AV)} {o:Obj} (hm:qkF es) (h:kh σ0 ρ es o):kh σ0 ρ' (fzE b e cs es) o:=by
 rcases hm with hm | ⟨r,ts,rfl⟩
 ·rw [qd1 hm]
  have hv':∀ {v:AV} {x:Value},clo v = true → VR σ0 ρ v x → VR σ0 ρ' v x:=fun hc h=>by have:=hv h; rwa [qd2 hc] at this
  rcases h with ⟨p1,vs,clk,p2,p3,p4⟩ | p3 | ⟨r,ts,rfl,p2,p3⟩
  ·exact .inl ⟨p1,vs,clk,p2,p3,fun j e0 he=>let ⟨v,a1,a2,a3⟩:=p4 j e0 he
    ⟨v,a1,hv' (hm e0 (List.mem_of_getElem? he)).1 a2,hv' (hm e0 (List.mem_of_getElem? he)).2 a3⟩⟩
  ·exact .inr (.inl p3)
  ·exact absurd (hm (.lp r,.undef) (by simp [xD])).1 (by simp [clo])
 ·obtain ⟨p2,p3⟩:=h.rec'
  rw [qi6]
  refine .inr (.inr ⟨r,_,rfl,p2,fun p hp=>?_⟩)
  obtain ⟨q,hq,rfl⟩:=List.mem_map.1 hp
  exact ⟨(p3 q hq).1,hv (p3 q hq).2⟩
theorem Wk.freeze {n:Nat} {ts:List (Nat × AV)} {bl:List Blk} (b e e':Nat) {a:Bool} {cs:List AV} (hb:bl[b]? = some (.cells e' true a cs)) (hc:qK cs = true) (hn:n ≤ b) (hm:∀ es,Blk.map es ∈ bl → qkF es) :
  Wk n (mkT ts) (mkH 0 bl) (mkT (ts.map fun p=>(p.1,fzv b e cs p.2))) (mkH 0 ((bl.map (fzB b e cs)).set b .dead)):=by
 intro ρ B w tm ht r
 have hlt:b < bl.length:=(List.getElem?_eq_some_iff.1 hb).1
 have hgb:(mkH 0 bl).tr.get b = some (.cells e' true a cs):=by rw [zT]; exact hb
 have tget:∀ (ts:List (Nat × AV)) (j:Nat),(mkT (ts.map fun p=>(p.1,fzv b e cs p.2))).get j = ((mkT ts).get j).map (fzv b e cs):=by
  intro ts j
  induction ts with
  | nil=>simp [mkT]
  | cons p l ih =>
   simp only [List.map_cons,mkT,Tr.get_set]
   split
   ·rfl
   ·exact ih
 have hget:∀ b',b' ≠ b → (mkH 0 ((bl.map (fzB b e cs)).set b .dead)).tr.get b' = ((mkH 0 bl).tr.get b').map (fzB b e cs):=by
  intro b' hne
  rw [zT,zT,List.getElem?_set_ne (Ne.symm hne),List.getElem?_map]
 have hgd:(mkH 0 ((bl.map (fzB b e cs)).set b .dead)).tr.get b = some .dead:=by
  rw [zT,List.getElem?_set_self (by simpa using hlt)]
 -- a live block of the new heap comes from one of the old
 have zz:∀ b' x,(mkH 0 ((bl.map (fzB b e cs)).set b .dead)).tr.get b' = some x → x ≠ .dead → b' ≠ b ∧ ∃ y,(mkH 0 bl).tr.get b' = some y ∧ x = fzB b e cs y ∧ y ≠ .dead:=by
  intro b' x hx hd
  have hne:b' ≠ b:=by
   rintro rfl; rw [hgd] at hx; cases hx; exact hd rfl
  rw [hget b' hne] at hx
  cases hy:(mkH 0 bl).tr.get b' with
  | none=>rw [hy] at hx; simp at hx
  | some y =>
   rw [hy] at hx
   simp at hx
   exact ⟨hne,y,rfl,hx.symm,by rintro rfl; subst hx; exact hd rfl⟩
 have hsz:(mkH 0 ((bl.map (fzB b e cs)).set b .dead)).sz = bl.length:=by simp [qdB]
 cases hρ:ρ b with
 | none =>
  refine ⟨ρ,fun j v hj=>?_,⟨?_,?_,?_,?_,?_,?_,?_,r.base,?_,?_⟩,⟨fun _ _=>rfl,by rw [hsz]; omega,rfl,fun b' hb'=>by simp [qg6] at hb',fun _ _=>rfl,Nat.le_refl _,⟨rfl,rfl⟩,fun _ _ h=>h,fun _ _ h=>.inl h,fun _ _ h=>h⟩⟩
  ·rw [tget] at hj
   cases hv:(mkT ts).get j with
   | none=>rw [hv] at hj; simp at hj
   | some v0 =>
    rw [hv] at hj; simp at hj; subst hj
    exact ⟨(ht j v0 hv).1,VR.iced0 hρ (ht j v0 hv).2⟩
  ·intro b' L h1; rw [hsz]; exact r.dom b' L h1
  ·intro b' L e1 wf af cs' h1 h2
   obtain ⟨h3,y,h4,h5,h6⟩:=zz b' _ h2 (by simp)
   cases y with
   | cells k w0 a0 l =>
    simp only [fzB,Blk.cells.injEq] at h5
    obtain ⟨rfl,rfl,rfl,rfl⟩:=h5
    obtain ⟨q1,c,ty,fz,q2,q3,q4,q5,q6⟩:=r.cells b' L _ _ _ l h1 h4
    refine ⟨q1,c,ty,fz,q2,q3,by rw [xY]; exact q4,fun j v hv=>?_,q6⟩
    rw [qaE] at hv
    cases hj:l[j]? with
    | none=>rw [hj] at hv; simp at hv
    | some v0 =>
     rw [hj] at hv; simp at hv; subst hv
     obtain ⟨v',g1,g2⟩:=q5 j v0 hj
     exact ⟨v',g1,VR.iced0 hρ g2⟩
   | dead=>simp [fzB] at h5
   | map es=>simp [fzB] at h5
  ·intro b' L es h1 h2
   obtain ⟨h3,y,h4,h5,h6⟩:=zz b' _ h2 (by simp)
   cases y with
   | cells k w0 a0 l=>simp [fzB] at h5
   | dead=>simp [fzB] at h5
   | map es' =>
    simp only [fzB,Blk.map.injEq] at h5; subst h5
    obtain ⟨p1,o,p2,p3⟩:=r.maps b' L _ h1 h4
    exact ⟨p1,o,p2,p3.ice (fun h=>VR.iced0 hρ h) (hm es' (by rw [zT] at h4; exact List.mem_of_getElem? h4))⟩
  ·intro b1 L1 e1 af1 cs1 h1 h2 b2 L2 x h3 h4 h5 h6
   obtain ⟨g1,y,g2,g3,g4⟩:=zz b1 _ h2 (by simp)
   obtain ⟨i1,y2,i2,i3,i4⟩:=zz b2 _ h4 h5
   cases y with
   | cells k w0 a0 l =>
    simp only [fzB,Blk.cells.injEq] at g3
    obtain ⟨rfl,rfl,rfl,rfl⟩:=g3
    exact r.excl b1 L1 _ _ l h1 g2 b2 L2 y2 h3 i2 i4 h6
   | dead=>simp [fzB] at g3
   | map es=>simp [fzB] at g3
  ·intro b1 L1 es h1 h2 b2 L2 x h3 h4 h5 h6
   obtain ⟨g1,y,g2,g3,g4⟩:=zz b1 _ h2 (by simp)
   obtain ⟨i1,y2,i2,i3,i4⟩:=zz b2 _ h4 h5
   cases y with
   | cells k w0 a0 l=>simp [fzB] at g3
   | dead=>simp [fzB] at g3
   | map es'=>simp only [fzB,Blk.map.injEq] at g3; subst g3; exact r.exclm b1 L1 _ h1 g2 b2 L2 y2 h3 i2 i4 h6
  ·intro b1 L1 e1 wf1 cs1 h1 h2 b2 L2 e2 wf2 af2 cs2 h3 h4 h6
   obtain ⟨g1,y,g2,g3,g4⟩:=zz b1 _ h2 (by simp)
   obtain ⟨i1,y2,i2,i3,i4⟩:=zz b2 _ h4 (by simp)
   cases y <;> simp only [fzB,Blk.cells.injEq,reduceCtorEq] at g3
   cases y2 <;> simp only [fzB,Blk.cells.injEq,reduceCtorEq] at i3
   obtain ⟨rfl,rfl,rfl,rfl⟩:=g3
   obtain ⟨rfl,rfl,rfl,rfl⟩:=i3
   rw [xY,xY]
   exact r.app b1 L1 _ _ _ h1 g2 b2 L2 _ _ _ _ h3 i2 h6
  ·intro b' L h1 h2; exact r.flr b' L h1 (Nat.zero_le _)
  ·intro k arr hk
   refine ⟨(r.frz k arr hk).1,fun b' L x h1 h2 h3=>?_⟩
   obtain ⟨g1,y,g2,g3,g4⟩:=zz b' _ h2 h3
   exact (r.frz k arr hk).2 b' L y h1 g2 g4
  ·rw [hsz]; exact r.dn
 | some L =>
  obtain ⟨q1,c,ty,fz,q2,q3,q4,q5,q6⟩:=r.cells b L _ _ _ cs hρ hgb
  have hf:∀ k a,ρ.frz k = some a → (ρ.iced b L.blk c).frz k = some a:=by
   intro k a' hk
   simp only [Ren.iced]
   rw [if_neg (fun hh=>(r.frz k a' hk).2 b L _ hρ hgb (by simp) hh.symm)]
   exact hk
  have hLs:∀ L',ρ b = some L' → L' = L:=by intro L' h; rw [hρ] at h; cases h; rfl
  have hcr:∀ (l:List AV) (j:Nat),(∀ i v,l[i]? = some v → ∃ v',c.toList[j + i]? = some v' ∧ VR σ0 ρ v v') → qK l = true → CRs σ0 (ρ.iced b L.blk c).frz l ((c.toList.drop j).take l.length):=by
   intro l
   induction l with
   | nil=>intro j _ _; simp; exact .nil
   | cons v l ih =>
    intro j hh hcl
    simp only [qK,Bool.and_eq_true] at hcl
    obtain ⟨v',g1,g2⟩:=hh 0 v rfl
    simp only [Nat.add_zero] at g1
    obtain ⟨hj,rfl⟩:=List.getElem?_eq_some_iff.1 g1
    rw [List.drop_eq_getElem_cons hj,List.length_cons,List.take_succ_cons]
    refine .cons _ _ _ _ ((g2.cr hcl.1).mono hf) (ih (j + 1) (fun i v hi=>?_) hcl.2)
    obtain ⟨v',k1,k2⟩:=hh (i + 1) v (by simpa using hi)
    exact ⟨v',by rw [show j + 1 + i = j + (i + 1) from by omega]; exact k1,k2⟩
  have hs:CRs σ0 (ρ.iced b L.blk c).frz cs ((c.toList.drop L.off).take cs.length):=hcr cs L.off (fun i v hi=>by
   obtain ⟨v',g1,g2⟩:=q5 i v hi
   exact ⟨v',by simpa using g1,g2⟩) hc
  have old:∀ b' L',(ρ.iced b L.blk c) b' = some L' → b' ≠ b ∧ ρ b' = some L':=by
   intro b' L' h
   by_cases hbb:b' = b
   ·subst hbb; simp [Ren.iced] at h
   ·refine ⟨hbb,?_⟩
    simp only [Ren.iced] at h
    rw [if_neg hbb] at h; exact h
  refine ⟨ρ.iced b L.blk c,fun j v hj=>?_,⟨?_,?_,?_,?_,?_,?_,?_,r.base,?_,?_⟩,⟨fun b' hb'=>by simp only [Ren.iced]; rw [if_neg (by omega)],by rw [hsz]; omega,rfl,fun b' hb'=>by simp [qg6] at hb',fun _ _=>rfl,Nat.le_refl _,⟨rfl,rfl⟩,hf,fun k a' hk=>?_,fun _ _ h=>h⟩⟩
  ·rw [tget] at hj
   cases hv:(mkT ts).get j with
   | none=>rw [hv] at hj; simp at hj
   | some v0 =>
    rw [hv] at hj; simp at hj; subst hj
    exact ⟨(ht j v0 hv).1,VR.iced hLs hf hs (ht j v0 hv).2⟩
  ·intro b' L' h1; rw [hsz]; exact r.dom b' L' (old _ _ h1).2
  ·intro b' L' e1 wf af cs' h1 h2
   obtain ⟨h3,y,h4,h5,h6⟩:=zz b' _ h2 (by simp)
   cases y with
   | cells k w0 a0 l =>
    simp only [fzB,Blk.cells.injEq] at h5
    obtain ⟨rfl,rfl,rfl,rfl⟩:=h5
    obtain ⟨p1,c',ty',fz',p2,p3,p4,p5,p6⟩:=r.cells b' L' _ _ _ l (old _ _ h1).2 h4
    refine ⟨p1,c',ty',fz',p2,p3,by rw [xY]; exact p4,fun j v hv=>?_,p6⟩
    rw [qaE] at hv
    cases hj:l[j]? with
    | none=>rw [hj] at hv; simp at hv
    | some v0 =>
     rw [hj] at hv; simp at hv; subst hv
     obtain ⟨v',g1,g2⟩:=p5 j v0 hj
     exact ⟨v',g1,VR.iced hLs hf hs g2⟩
   | dead=>simp [fzB] at h5
   | map es=>simp [fzB] at h5
  ·intro b' L' es h1 h2
   obtain ⟨h3,y,h4,h5,h6⟩:=zz b' _ h2 (by simp)
   cases y with
   | cells k w0 a0 l=>simp [fzB] at h5
   | dead=>simp [fzB] at h5
   | map es' =>
    simp only [fzB,Blk.map.injEq] at h5; subst h5
    obtain ⟨p1,o,p2,p3⟩:=r.maps b' L' _ (old _ _ h1).2 h4
    exact ⟨p1,o,p2,p3.ice (fun h=>VR.iced hLs hf hs h) (hm es' (by rw [zT] at h4; exact List.mem_of_getElem? h4))⟩
  ·intro b1 L1 e1 af1 cs1 h1 h2 b2 L2 x h3 h4 h5 h6
   obtain ⟨g1,y,g2,g3,g4⟩:=zz b1 _ h2 (by simp)
   obtain ⟨i1,y2,i2,i3,i4⟩:=zz b2 _ h4 h5
   cases y <;> simp only [fzB,Blk.cells.injEq,reduceCtorEq] at g3
   obtain ⟨rfl,rfl,rfl,rfl⟩:=g3
   exact r.excl b1 L1 _ _ _ (old _ _ h1).2 g2 b2 L2 y2 (old _ _ h3).2 i2 i4 h6
  ·intro b1 L1 es h1 h2 b2 L2 x h3 h4 h5 h6
   obtain ⟨g1,y,g2,g3,g4⟩:=zz b1 _ h2 (by simp)
   obtain ⟨i1,y2,i2,i3,i4⟩:=zz b2 _ h4 h5
   cases y <;> simp only [fzB,Blk.map.injEq,reduceCtorEq] at g3
   subst g3
   exact r.exclm b1 L1 _ (old _ _ h1).2 g2 b2 L2 y2 (old _ _ h3).2 i2 i4 h6
  ·intro b1 L1 e1 wf1 cs1 h1 h2 b2 L2 e2 wf2 af2 cs2 h3 h4 h6
   obtain ⟨g1,y,g2,g3,g4⟩:=zz b1 _ h2 (by simp)
   obtain ⟨i1,y2,i2,i3,i4⟩:=zz b2 _ h4 (by simp)
   cases y <;> simp only [fzB,Blk.cells.injEq,reduceCtorEq] at g3
   cases y2 <;> simp only [fzB,Blk.cells.injEq,reduceCtorEq] at i3
   obtain ⟨rfl,rfl,rfl,rfl⟩:=g3
   obtain ⟨rfl,rfl,rfl,rfl⟩:=i3
   rw [xY,xY]
   exact r.app b1 L1 _ _ _ (old _ _ h1).2 g2 b2 L2 _ _ _ _ (old _ _ h3).2 i2 h6
  ·intro b' L' h1 h2; exact r.flr b' L' (old _ _ h1).2 (Nat.zero_le _)
  ·intro k arr hk
   by_cases hkk:k = L.blk
   ·subst hkk
    simp [Ren.iced] at hk
    subst hk
    refine ⟨⟨ty,fz,q2⟩,fun b' L' x h1 h2 h3 h6=>?_⟩
    obtain ⟨g1,y,g2,g3,g4⟩:=zz b' _ h2 h3
    exact g1 (r.excl b L _ _ _ hρ hgb b' L' y (old _ _ h1).2 g2 g4 h6)
   ·simp only [Ren.iced] at hk
    rw [if_neg hkk] at hk
    refine ⟨(r.frz k arr hk).1,fun b' L' x h1 h2 h3=>?_⟩
    obtain ⟨g1,y,g2,g3,g4⟩:=zz b' _ h2 h3
    exact (r.frz k arr hk).2 b' L' y (old _ _ h1).2 g2 g4
  ·rw [hsz]; exact r.dn
  ·simp only [Ren.iced] at hk
   split at hk
   ·rename_i hkk; subst hkk
    exact .inr (r.flr b L hρ (Nat.zero_le _))
   ·exact .inl hk

theorem Own.pure {f:Nat} {vs:List AV} {v v':AV} {bs:List Blk} (hcl:qK vs = true) (ho:Own P f vs v bs) (hf:Frz (xO H0 (bs.map (shb 0))) (shv 0 v) v'):qg P f vs v' :=
 qg.of_SC hcl (ho H0 _ hf)
end Go.Kc
end
section
/- Rows of one's own opened to their capacity, and closed again; functions that the model itself answers. No condition. -/
namespace Go.Kc
variable {P:Program} {n:Nat} {t:Tr AV} {h:Hp}

theorem Wk.trans {t1 t2:Tr AV} {h1 h2:Hp} (a:Wk n t h t1 h1) (b:Wk n t1 h1 t2 h2):Wk n t h t2 h2:=by
 intro ρ B w tm ht r
 obtain ⟨ρ1,g1,g2,g3⟩:=a ρ B w tm ht r
 obtain ⟨ρ2,k1,k2,k3⟩:=b ρ1 B w tm g1 g2
 exact ⟨ρ2,k1,k2,g3.trans k3⟩
theorem S.open {x:ICode} {Q:X → Tr AV → Hp → Prop} (j b m e:Nat) {a:Bool} {cs:List AV} (ht:t.get j = some (.own b m)) (hb:h.tr.get b = some (.cells e true a cs)) (hl:cs.length = m * e) (hfl:h.fl ≤ b) (hbs:b < h.sz)
  (h0:m = 0 → S P n x Q (t.set j .e0) h) (h1:∀ c,m ≤ c → S P n x Q (t.set j (.sl b 0 m c false)) ⟨h.sz,h.fl,h.tr.set b (.cells e true false (cs ++ List.replicate ((c - m) * e) .undef))⟩):S P n x Q t h:=by
 intro nt code hc hn ro hro ρ B w ac htr hsz r
 obtain ⟨g1,g2⟩:=htr _ _ ht
 generalize hgv:ac.tmps.getD j undef = gv at g2
 cases g2 with
 | own0 _ ad hbn =>
  refine h0 rfl nt code hc hn ro hro ρ B w ac (fun i v hv=>?_) hsz r
  rw [Tr.get_set] at hv
  split at hv
  ·rename_i hij; subst hij; cases hv
   exact ⟨g1,by rw [hgv]; exact .e0 _⟩
  ·exact htr i v hv
 | own _ _ c L h3 h4 h5 =>
  obtain ⟨q1,co,ty,fz,q2,q3,q4,q5,q6⟩:=r.cells b L _ _ _ cs h3 hb
  have old:∀ b' y,((h.tr.set b (.cells e true false (cs ++ List.replicate ((c - m) * e) .undef))).get b' = some y) → (b' = b ∧ y = .cells e true false (cs ++ List.replicate ((c - m) * e) .undef)) ∨ (b' ≠ b ∧ h.tr.get b' = some y):=by
   intro b' y hx
   rw [Tr.get_set] at hx
   split at hx
   ·rename_i h1; cases hx; exact .inl ⟨h1,rfl⟩
   ·rename_i h1; exact .inr ⟨h1,hx⟩
  have olive:∀ b' y,((h.tr.set b (.cells e true false (cs ++ List.replicate ((c - m) * e) .undef))).get b' = some y) → y ≠ .dead → ∃ z,h.tr.get b' = some z ∧ z ≠ .dead:=by
   intro b' y hx hd
   rcases old b' y hx with ⟨rfl,rfl⟩ | ⟨_,g⟩
   ·exact ⟨_,hb,by simp⟩
   ·exact ⟨y,g,hd⟩
  have hlen:(cs ++ List.replicate ((c - m) * e) AV.undef).length = c * e:=by
   simp [hl]; rw [← Nat.add_mul]; congr 1; omega
  have r' : Rel σ0 ρ B ⟨h.sz,h.fl,h.tr.set b (.cells e true false (cs ++ List.replicate ((c - m) * e) .undef))⟩ w:=by
   refine ⟨r.dom,?_,?_,?_,?_,?_,r.flr,r.base,?_,r.dn⟩
   ·intro b' L' e1 wf af cs' k1 k2
    rcases old b' _ k2 with ⟨rfl,g⟩ | ⟨_,g⟩
    ·cases g
     rw [h3] at k1; cases k1
     refine ⟨q1,co,ty,fz,q2,q3,by rw [hlen,← q1]; exact h5,fun i v hv=>?_,fun _=>q6 (by simp)⟩
     by_cases hi:i < cs.length
     ·rw [List.getElem?_append_left hi] at hv
      exact q5 i v hv
     ·have hlt:=(List.getElem?_eq_some_iff.1 hv).1
      rw [List.getElem?_append_right (by omega),List.getElem?_replicate] at hv
      split at hv
      ·cases hv
       rw [hlen] at hlt
       have hlt2:L.off + i < co.size:=by rw [q3]; rw [q1] at h5; omega
       exact ⟨co[L.off + i],by simp [hlt2],.undef _⟩
      ·cases hv
    ·exact r.cells _ L' _ _ _ _ k1 g
   ·intro b' L' es k1 k2
    rcases old b' _ k2 with ⟨rfl,g⟩ | ⟨_,g⟩
    ·cases g
    ·exact r.maps b' L' es k1 g
   ·intro b1 L1 e1 af1 cs1 k1 k2 b2 L2 y k3 k4 k5 k6
    obtain ⟨y2,i1,i2⟩:=olive b2 y k4 k5
    rcases old b1 _ k2 with ⟨rfl,g⟩ | ⟨_,g⟩
    ·exact r.excl _ L1 _ _ cs k1 hb b2 L2 y2 k3 i1 i2 k6
    ·exact r.excl _ L1 _ _ _ k1 g b2 L2 y2 k3 i1 i2 k6
   ·intro b1 L1 es k1 k2 b2 L2 y k3 k4 k5 k6
    obtain ⟨y2,i1,i2⟩:=olive b2 y k4 k5
    rcases old b1 _ k2 with ⟨rfl,g⟩ | ⟨_,g⟩
    ·cases g
    ·exact r.exclm _ L1 _ k1 g b2 L2 y2 k3 i1 i2 k6
   ·intro b1 L1 e1 wf1 cs1 k1 k2 b2 L2 e2 wf2 af2 cs2 k3 k4 k6
    rcases old b1 _ k2 with ⟨rfl,g⟩ | ⟨hne,g⟩
    ·cases g
    ·rcases old b2 _ k4 with ⟨rfl,g'⟩ | ⟨hne',g'⟩
     ·cases g'
      exact absurd (r.excl _ L2 _ _ cs k3 hb b1 L1 _ k1 g (by simp) k6.symm) hne
     ·exact r.app b1 L1 _ _ _ k1 g b2 L2 _ _ _ _ k3 g' k6
   ·intro k arr hk
    refine ⟨(r.frz k arr hk).1,fun b' L' y k1 k2 k3=>?_⟩
    obtain ⟨y2,i1,i2⟩:=olive b' y k2 k3
    exact (r.frz k arr hk).2 b' L' y2 k1 i1 i2
  refine wpIn_mono (h1 c h4 nt code hc hn ro hro ρ B w ac (fun i v hv=>?_) hsz r') ?_
  ·rw [Tr.get_set] at hv
   split at hv
   ·rename_i hij; subst hij; cases hv
    refine ⟨g1,?_⟩
    rw [hgv]
    exact .sl b 0 m c c false L h3 (.inl rfl)
   ·exact htr i v hv
  ·intro e2 a2 w2 hp
   have kk:Kep n ρ B h w ρ ⟨h.sz,h.fl,h.tr.set b (.cells e true false (cs ++ List.replicate ((c - m) * e) .undef))⟩ w:=by
    refine ⟨fun _ _=>rfl,hn,rfl,fun b' k1 k2=>?_,fun _ _=>rfl,Nat.le_refl _,⟨rfl,rfl⟩,fun _ _ h=>h,fun _ _ h=>.inl h,fun _ _ h=>h⟩
    show (h.tr.set b _).get b' = _
    rw [Tr.get_set,if_neg (by omega)]
   exact wo.weaken kk hp
end Go.Kc
end
section
/- Functions that the model itself answers: an index of a byte, how strings compare, whether rows overlap. Condition: the functions are these. -/
namespace Go.Kc
variable {P:Program} {f:Nat}

def qd6 (P:Program) (f:Nat) (e:Array Value → Sem Value):Prop:=∀ args w,(callFunc f args).run P w = ((e args).run P w).andThen fun v w'=>.ok (.value v) w'
theorem qd6.of {fn:Func} {e:Array Value → Sem Value} (hf:P.funcs[f]? = some fn) (hname:(fn.name == "runtime.NumGoroutine") = false) (hb:fn.body.isNone = true) (hn:Extern.findNext fn = none) (he:Extern.find fn = some e):qd6 P f e :=
 fun args w=>run_callFunc_extern hf hname hb hn he args w
theorem qd6.pure {e:Array Value → Sem Value} {vs:List AV} {v:AV} (h:qd6 P f e) (hr:∀ ρ (args:Array Value) w,VRs σ0 ρ vs args.toList → ∃ v',(e args).run P w = .ok v' w ∧ VR σ0 ρ v v'):qg P f vs v:=by
 intro hp k hk
 refine ⟨trivial,fun ρ B w args r ha=>?_⟩
 obtain ⟨v',h1,h2⟩:=hr ρ args w ha
 exact .inr ⟨v',w,by rw [h,h1]; rfl,v,v',hp,ρ,rfl,hk,h2,r,Kept.refl _ _ _ _⟩

theorem qjs {y:List UInt8}:ltS [] y = !y.isEmpty:=by cases y <;> rfl
theorem qcU {c:UInt8} {x:List UInt8}:ltS (c :: x) [] = false:=rfl
theorem qcT {c d:UInt8} {x y:List UInt8}:ltS (c :: x) (d :: y) = if c < d then true else if c = d then ltS x y else false:=by
 rw [Zf,Zf]
 simp only [Op.bytesLess]
 by_cases h1:c < d
 ·simp [h1]
 ·by_cases h2:c = d
  ·simp [h2]
  ·simp [h1,h2]
end Go.Kc
end
section
/- Calls that shrink a row lent. No condition. -/
namespace Go.Kc
variable {P:Program}
end Go.Kc
end
section
/- Pure calls to which rows of one's own are given for good. No condition. -/
namespace Go.Kc
variable {P:Program} {h:Hp}

noncomputable def trP:List (Nat × Blk) → Tr Blk
 | []=>.leaf
 | p :: l=>(trP l).set p.1 p.2
theorem Q1:∀ {l:List (Nat × Blk)} {b:Nat} {x:Blk},(trP l).get b = some x → (b,x) ∈ l
 | [],b,x,h=>by simp [trP] at h
 | p :: l,b,x,h=>by
  simp only [trP,Tr.get_set] at h
  split at h
  ·cases h; subst_vars; simp
  ·exact List.mem_cons_of_mem _ (Q1 h)
noncomputable def kr (h:Hp):List (Nat × Blk) → Hp
 | []=>h
 | p :: l=>kr (h.put p.1 .dead) l
theorem QR:∀ {l:List (Nat × Blk)} {h:Hp},(kr h l).sz = h.sz
 | [],_=>rfl
 | _ :: l,h=>(QR (l:=l)).trans rfl
theorem QQ:∀ {l:List (Nat × Blk)} {h:Hp},(kr h l).fl = h.fl
 | [],_=>rfl
 | _ :: l,h=>(QQ (l:=l)).trans rfl
theorem yF:∀ {l:List (Nat × Blk)} {h:Hp} {b:Nat},(kr h l).tr.get b = if b ∈ l.map Prod.fst then some .dead else h.tr.get b
 | [],_,_=>by simp [kr]
 | p :: l,h,b=>by
  simp only [kr]
  rw [yF]
  by_cases h1:b ∈ l.map Prod.fst
  ·rw [if_pos h1,if_pos (by simp only [List.map_cons,List.mem_cons]; exact .inr h1)]
  ·rw [if_neg h1]
   show (h.tr.set p.1 .dead).get b = _
   rw [Tr.get_set]
   by_cases h2:b = p.1
   ·rw [if_pos h2,if_pos (by simp only [List.map_cons,List.mem_cons]; exact .inl h2)]
   ·rw [if_neg h2,if_neg (by simp only [List.map_cons,List.mem_cons,not_or]; exact ⟨h2,h1⟩)]
theorem zn:kr h [] = h:=rfl
theorem zh {b:Nat} {x:Blk} {l:List (Nat × Blk)}:kr h ((b,x) :: l) = kr (h.put b .dead) l:=rfl
theorem Rel.sub {ρ:Ren} {B:Nat → Prop} {h h':Hp} {w:World} (r:Rel σ0 ρ B h w) (hs:h'.sz = h.sz) (hf:h'.fl = h.fl) (hg:∀ b x,h'.tr.get b = some x → x ≠ .dead → h.tr.get b = some x):Rel σ0 ρ B h' w :=
 ⟨fun b L hb=>by rw [hs]; exact r.dom b L hb,fun b L e wf af cs hb hx=>r.cells b L e wf af cs hb (hg _ _ hx (by simp)),fun b L es hb hx=>r.maps b L es hb (hg _ _ hx (by simp)),
  fun b L e af cs hb hx b' L' x hb' hx' hd=>r.excl b L e af cs hb (hg _ _ hx (by simp)) b' L' x hb' (hg _ _ hx' hd) hd,fun b L es hb hx b' L' x hb' hx' hd=>r.exclm b L es hb (hg _ _ hx (by simp)) b' L' x hb' (hg _ _ hx' hd) hd,
  fun b L e wf cs hb hx b' L' e' wf' af' cs' hb' hx'=>r.app b L e wf cs hb (hg _ _ hx (by simp)) b' L' e' wf' af' cs' hb' (hg _ _ hx' (by simp)),fun b L hb hf'=>r.flr b L hb (by rw [← hf]; exact hf'),r.base,
  fun k arr hk=>⟨(r.frz k arr hk).1,fun b L x hb hx hd=>(r.frz k arr hk).2 b L x hb (hg _ _ hx hd) hd⟩,by rw [hs]; exact r.dn⟩
theorem qg.give {f:Nat} {vs vs':List AV} {v:AV} {k:AV → Hp → Prop} (DB:List (Nat × Blk)) (hg:∀ p ∈ DB,h.tr.get p.1 = some p.2 ∧ h.fl ≤ p.1) (hp:qg P f vs' v) (hv:clo v = true) (hf:Frzs ⟨h.sz,h.fl,trP DB⟩ vs vs') (hk:k v (kr h DB)):SC P f vs h k:=by
 refine ⟨trivial,fun ρ B w args r ha=>?_⟩
 have hp0:=hp H0 (fun v' h'=>v' = v ∧ h' = H0) ⟨rfl,rfl⟩
 have r0:Rel σ0 ρ B ⟨h.sz,h.fl,trP DB⟩ w:=r.sub rfl rfl (fun b x hx _=>(hg _ (Q1 hx)).1)
 have hcr:=hf.ok r0 ha
 have fnew:∀ kk a,zU ρ ⟨h.sz,h.fl,trP DB⟩ w kk = some a → ρ.frz kk = some a ∨ ((∃ ty fz,w.heap[kk]? = some (.cells a ty fz)) ∧ ∃ b L e af cs,b ∈ DB.map Prod.fst ∧ ρ b = some L ∧ h.tr.get b = some (.cells e true af cs) ∧ L.blk = kk ∧ h.fl ≤ b):=by
  intro kk a hkk
  rcases vf hkk with h1 | ⟨h1,b,L,e,af,cs,h2,h3,h4⟩
  ·exact .inl h1
  ·have hm:=Q1 h3
   exact .inr ⟨h1,b,L,e,af,cs,List.mem_map_of_mem (f:=Prod.fst) hm,h2,(hg _ hm).1,h4,(hg _ hm).2⟩
 -- the rows given are frozen,their blocks dead
 have r1:Rel σ0 ⟨ρ.loc,zU ρ ⟨h.sz,h.fl,trP DB⟩ w,ρ.n⟩ B (kr h DB) w:=by
  have le:ρ.le ⟨ρ.loc,zU ρ ⟨h.sz,h.fl,trP DB⟩ w,ρ.n⟩:=⟨fun _ _ h=>h,fun _ _ h=>xQ h,Nat.le_refl _⟩
  have zz:∀ b x,(kr h DB).tr.get b = some x → x ≠ .dead → b ∉ DB.map Prod.fst ∧ h.tr.get b = some x:=by
   intro b x hx hd
   rw [yF] at hx
   split at hx
   ·cases hx; exact absurd rfl hd
   ·exact ⟨by assumption,hx⟩
  have rs:Rel σ0 ρ B (kr h DB) w:=r.sub QR QQ (fun b x hx hd=>(zz b x hx hd).2)
  refine ⟨rs.dom,fun b L e wf af cs hb hx=>?_,fun b L es hb hx=>?_,rs.excl,rs.exclm,rs.app,rs.flr,rs.base,fun kk arr hkk=>?_,rs.dn⟩
  ·obtain ⟨q1,c,ty,fz,q2,q3,q4,q5,q6⟩:=rs.cells b L e wf af cs hb hx
   exact ⟨q1,c,ty,fz,q2,q3,q4,fun j v hv=>let ⟨v',k1,k2⟩:=q5 j v hv; ⟨v',k1,k2.mono le⟩,q6⟩
  ·obtain ⟨q1,o,q2,q3⟩:=rs.maps b L es hb hx
   exact ⟨q1,o,q2,q3.mono le⟩
  ·rcases fnew kk arr hkk with h1 | ⟨h1,b,L,e,af,cs,h2,h3,h4,h5,_⟩
   ·exact rs.frz kk arr h1
   ·refine ⟨h1,fun b' L' x hb' hx hd he=>?_⟩
    obtain ⟨g1,g2⟩:=zz b' x hx hd
    have:=r.excl b L e af cs h3 h4 b' L' x hb' g2 hd (by rw [he,h5])
    subst this
    exact g1 h2
 refine wH.mono (hp0.2 ⟨fun _=>none,zU ρ ⟨h.sz,h.fl,trP DB⟩ w,0⟩ (low w.heap.size) w args
  ⟨(fun _ _ hb=>by cases hb),(fun _ _ _ _ _ _ hb=>by cases hb),(fun _ _ _ hb=>by cases hb),(fun _ _ _ _ _ hb=>by cases hb),(fun _ _ _ hb=>by cases hb),(fun _ _ _ _ _ hb=>by cases hb),(fun _ _ hb=>by cases hb),(fun _ h=>h),
   (fun k arr hk=>⟨(r1.frz k arr hk).1,fun _ _ _ hb=>by cases hb⟩),Nat.le_refl _⟩ (CRs.vr (ρ:=⟨fun _=>none,zU ρ ⟨h.sz,h.fl,trP DB⟩ w,0⟩) hcr)) ?_
 rintro e w' ⟨v0,v',h',ρ',rfl,⟨rfl,rfl⟩,g2,g3,g4⟩
 have f1:∀ k a,zU ρ ⟨h.sz,h.fl,trP DB⟩ w k = some a → ρ'.frz k = some a:=g4.frz
 have f2:∀ k a,ρ'.frz k = some a → zU ρ ⟨h.sz,h.fl,trP DB⟩ w k = some a ∨ w.heap.size ≤ k:=fun k a hk=>(g4.fnew k a hk).imp id Nat.not_lt.1
 have f3:∀ k a,ρ'.frz k = some a → ∃ ty fz,w'.heap[k]? = some (.cells a ty fz):=fun k a hk=>(g3.frz k a hk).1
 have r2:=r1.frz' g4.pres g4.wle f1 f2 f3
 refine ⟨v0,v',kr h DB,⟨ρ.loc,ρ'.frz,ρ.n⟩,rfl,hk,CR.vr (ρ:=⟨ρ.loc,ρ'.frz,ρ.n⟩) (g2.cr hv),r2,?_⟩
 refine ⟨fun _ _=>rfl,by rw [QR]; exact Nat.le_refl _,QQ,fun b hb _=>?_,fun k hk=>g4.pres k (r.base _ hk),g4.wle,g4.io,fun k a hk=>f1 k a (xQ hk),fun k a hk=>?_,Nat.le_refl _⟩
 ·rw [yF,if_neg]
  intro hm
  obtain ⟨p,hp1,hp2⟩:=List.mem_map.1 hm
  have:=(hg p hp1).2
  omega
 ·rcases f2 k a hk with h1 | h1
  ·rcases fnew k a h1 with h2 | ⟨_,b,L,_,_,_,_,h3,_,h5,h6⟩
   ·exact .inl h2
   ·right; rw [← h5]; exact r.flr b L h3 h6
  ·exact .inr (jY r.base h1)
end Go.Kc
end
section
/- The last step from the abstract machine to a row: what a run keeps of the world; the tree of the code; a law's call. No condition. -/
namespace Go.Kc
variable {P:Program} {env:Tr IFn} {ho:yZ}

inductive OkT (P:Program):Nat → Nat → Tr IFn → Prop where
 | leaf (a b:Nat):OkT P a b .leaf
 | no (a b:Nat) {l r:Tr IFn}:OkT P (2 * a) (a + b) l → OkT P (2 * a) (2 * a + b) r → OkT P a b (.node none l r)
 | fn (a b:Nat) {i:IFn} {l r:Tr IFn}:qw P b i = true → OkT P (2 * a) (a + b) l → OkT P (2 * a) (2 * a + b) r → OkT P a b (.node (some i) l r)

theorem OkT.get {a b:Nat} {t:Tr IFn} (h:OkT P a b t):∀ n i,t.get n = some i → qw P (a * n + b) i = true:=by
 induction h with
 | leaf=>intro n i h; simp at h
 | no a b hl hr ihl ihr =>
  intro n i h
  cases n with
  | zero=>rw [Tr.get_node] at h; cases h
  | succ m =>
   rcases Nat.mod_two_eq_zero_or_one m with h0 | h0
   ·obtain ⟨j,rfl⟩:∃ j,m = 2 * j:=⟨m / 2,by omega⟩
    rw [Tr.get_node] at h
    simp only [h0,if_true,Nat.mul_div_cancel_left j (Nat.zero_lt_two)] at h
    have:=ihl j i h
    rwa [show 2 * a * j + (a + b) = a * (2 * j + 1) + b from by rw [Nat.mul_add,Nat.mul_one,← Nat.mul_assoc,Nat.mul_comm a 2]; omega] at this
   ·obtain ⟨j,rfl⟩:∃ j,m = 2 * j + 1:=⟨m / 2,by omega⟩
    rw [Tr.get_node] at h
    simp only [h0,Nat.one_ne_zero,if_false,show (2 * j + 1) / 2 = j from by omega] at h
    have:=ihr j i h
    rwa [show 2 * a * j + (2 * a + b) = a * (2 * j + 1 + 1) + b from by rw [Nat.mul_add,Nat.mul_add,Nat.mul_one,← Nat.mul_assoc,Nat.mul_comm a 2]; omega] at this
 | fn a b hc hl hr ihl ihr =>
  intro n i h
  cases n with
  | zero=>rw [Tr.get_node] at h; cases h; simpa using hc
  | succ m =>
   rcases Nat.mod_two_eq_zero_or_one m with h0 | h0
   ·obtain ⟨j,rfl⟩:∃ j,m = 2 * j:=⟨m / 2,by omega⟩
    rw [Tr.get_node] at h
    simp only [h0,if_true,Nat.mul_div_cancel_left j (Nat.zero_lt_two)] at h
    have:=ihl j i h
    rwa [show 2 * a * j + (a + b) = a * (2 * j + 1) + b from by rw [Nat.mul_add,Nat.mul_one,← Nat.mul_assoc,Nat.mul_comm a 2]; omega] at this
   ·obtain ⟨j,rfl⟩:∃ j,m = 2 * j + 1:=⟨m / 2,by omega⟩
    rw [Tr.get_node] at h
    simp only [h0,Nat.one_ne_zero,if_false,show (2 * j + 1) / 2 = j from by omega] at h
    have:=ihr j i h
    rwa [show 2 * a * j + (2 * a + b) = a * (2 * j + 1 + 1) + b from by rw [Nat.mul_add,Nat.mul_add,Nat.mul_one,← Nat.mul_assoc,Nat.mul_comm a 2]; omega] at this

theorem OkT.envOk {t:Tr IFn} (h:OkT P 1 0 t):qak P t:=fun f i hg=>by
 have:=h.get f i hg
 rwa [Nat.one_mul] at this

theorem Kept.same {ρ ρ':Ren} {h h':Hp} {w w':World} (k:Kept ρ (low w.heap.size) h w ρ' h' w') (may:MemPlace → Prop):w.keptBut w' may:=by
 refine ⟨k.io.1,k.io.2,fun i hi=>?_⟩
 have e:=k.pres i hi
 rw [e]
 cases w.heap[i]? with
 | none=>rfl
 | some o=>cases o <;> simp
noncomputable def ice (w:World):Ren:=⟨fun _=>none,fun k=>match w.heap[k]? with | some (.cells arr _ _)=>some arr | _=>none,0⟩
theorem qd3 {w:World} {k:Nat} {arr:Array Value}:(ice w).frz k = some arr ↔ ∃ ty fz,w.heap[k]? = some (.cells arr ty fz):=by
 show (match w.heap[k]? with | some (.cells arr _ _)=>some arr | _=>none) = some arr ↔ _
 cases w.heap[k]? with
 | none=>simp
 | some o=>cases o <;> simp
theorem Rel.ice (w:World):Rel σ0 (ice w) (low w.heap.size) H0 w :=
 ⟨(fun _ _ hb=>by cases hb),(fun _ _ _ _ _ _ hb=>by cases hb),(fun _ _ _ hb=>by cases hb),(fun _ _ _ _ _ hb=>by cases hb),(fun _ _ _ hb=>by cases hb),(fun _ _ _ _ _ hb=>by cases hb),(fun _ _ hb=>by cases hb),(fun _ h=>h),
  (fun k arr hk=>⟨qd3.1 hk,fun _ _ _ hb=>by cases hb⟩),Nat.le_refl _⟩
theorem qg.law {f:Nat} {vs:List AV} {args:Array Value} (hp:qg P f vs (.b true)) (hc:qdT P f) (w:World) (ha:VRs σ0 (ice w) vs args.toList):Calls P f args w fun e w'=>e = .returned (.bool true) ∧ ∀ may,w.keptBut w' may:=by
 have h:=(hp H0 (fun v _=>v = .b true) rfl).2 (ice w) (low w.heap.size) w args (Rel.ice w) ha
 rcases h with ⟨_,h⟩ | ⟨v,w',h,_⟩
 ·refine h.mono fun e w' hh=>?_
  obtain ⟨v,v',h',ρ',rfl,rfl,hv,_,hk⟩:=hh
  cases hv
  exact ⟨rfl,fun may=>hk.same may⟩
 ·obtain ⟨fn,h1,h2,h3⟩:=hc
  rw [kG h1 h2 h3] at h
  cases h
end Go.Kc
end
section
/- Arguments of structs and rows, opened: what reads as data is a value of the abstract machine; what stays reads as before. Conditions: on the types, with each theorem. -/
namespace Go.Kc
section
variable {H:Type} {enc:TypeId × Value → H} {P:Program} {w:World} {α β:Type} {t e:TypeId}
theorem CRs.app {φ:Nat → Option (Array Value)}:∀ {as bs:List AV} {us vs:List Value},CRs σ0 φ as us → CRs σ0 φ bs vs → CRs σ0 φ (as ++ bs) (us ++ vs)
 | _,_,_,_,.nil,h=>h
 | _,_,_,_,.cons v l v' l' h hs,h2=>.cons _ _ _ _ h (CRs.app hs h2)
def kW (enc:TypeId × Value → H) (P:Program) (w:World) (t:TypeId) (I:α → Prop) (E:α → List AV):Prop :=
 ∀ (fuel:Nat) (cs:List Value) x,DataW.trod enc P w 0 (fun _=>true) true fuel t cs = some x → ∃ a,I a ∧ CRs σ0 (ice w).frz (E a) cs
theorem qnN {k:IntKind} (ht:P.underlying t = some (.int k)):kW enc P w t (fun n:Int=>(Lit.int k n).wf = true) (fun n=>[.i k n]):=by
 intro fuel cs x h
 obtain ⟨n,rfl,_,hw⟩:=DataW.trod_int ht h
 exact ⟨n,hw,.cons _ _ _ _ (.i _ _) .nil⟩
theorem qmQ (ht:P.underlying t = some .bool):kW enc P w t (fun _:Bool=>True) (fun b=>[.b b]):=by
 intro fuel cs x h
 obtain ⟨b,rfl,_⟩:=DataW.trod_bool ht h
 exact ⟨b,trivial,.cons _ _ _ _ (.b _) .nil⟩
theorem qnO (ht:P.underlying t = some .string):kW enc P w t (fun s:List UInt8=>s.length ≤ maxLen) (fun s=>[.s s]):=by
 intro fuel cs x h
 obtain ⟨s,rfl,_,hw⟩:=DataW.trod_string ht h
 obtain ⟨⟨l⟩⟩:=s
 exact ⟨l,hw,.cons _ _ _ _ (.s _) .nil⟩
theorem qiE {a:Addr} {v:Value} (h:w.cell? a = some v):a.spot = none ∧ ∃ arr ty fz,w.heap[a.block]? = some (.cells arr ty fz) ∧ arr[a.off]? = some v:=by
 unfold World.cell? at h
 split at h
 ·rename_i c ty fz hc
  split at h
  ·cases h
  ·rename_i hs
   refine ⟨by simpa using hs,c,ty,fz,hc,h⟩
 ·cases h
theorem qkK {I:α → Prop} {E:α → List AV} {m:Nat} (ht:P.underlying t = some (.slice e)) (he:kW enc P w e I E) (hE:∀ a,(E a).length = m) (hc:P.cellsOf e = m) (hm:0 < m) :
  kW enc P w t (fun l:List α=>l.length ≤ maxLen ∧ ∀ a ∈ l,I a) (fun l=>[.fz l.length (l.flatMap E)]):=by
 intro fuel cs x h
 rcases DataW.trod_slice ht h with ⟨rfl,_⟩ | ⟨a,len,cap,elems,rest,n,_,rfl,_,_,hl,hmx,hlen,hel,hsp,_⟩
 ·exact ⟨[],⟨Nat.zero_le _,fun _ h=>by cases h⟩,.cons _ _ _ _ (.fz0 none) .nil⟩
 obtain ⟨hrl,hr⟩:=hsp rfl
 rcases Nat.eq_zero_or_pos cap with h0 | hpos
 ·subst h0
  obtain rfl:len = 0:=by omega
  exact ⟨[],⟨Nat.zero_le _,fun _ h=>by cases h⟩,.cons _ _ _ _ (.fz0 (some a)) .nil⟩
 have first:∃ v,w.cell? a = some v:=by
  have:∃ cs',w.cells? 0 (a.add (0 * P.cellsOf e)) (P.cellsOf e) = some cs':=by
   rcases Nat.eq_zero_or_pos len with h1 | h1
   ·have:=hr 0 (by omega)
    have hlt:0 < rest.length:=by omega
    rw [List.getElem?_eq_getElem hlt,Option.bind_eq_some_iff] at this
    obtain ⟨c,hc',_⟩:=this
    subst h1
    exact ⟨c,hc'⟩
   ·have:=hel 0 h1
    have hlt:0 < elems.length:=by omega
    rw [List.getElem?_eq_getElem hlt,Option.bind_eq_some_iff] at this
    obtain ⟨c,hc',_⟩:=this
    exact ⟨c,hc'⟩
  obtain ⟨cs',h2⟩:=this
  obtain ⟨_,q1,q2⟩:=World.cells?_some h2
  have:=q2 0 (by omega)
  rw [List.getElem?_eq_getElem (by omega)] at this
  simp only [Nat.zero_mul,Addr.add,if_true] at this
  exact ⟨_,this⟩
 obtain ⟨v0,hv0⟩:=first
 obtain ⟨hs,arr,ty,fz,hb,_⟩:=qiE hv0
 have key : ∀ k, k ≤ len → ∃ l:List α,l.length = k ∧ (∀ b ∈ l,I b) ∧ CRs σ0 (ice w).frz (l.flatMap E) ((arr.toList.drop a.off).take (k * m)):=by
  intro k
  induction k with
  | zero=>intro _; exact ⟨[],rfl,(fun _ h=>by cases h),by simpa using .nil⟩
  | succ k ih =>
   intro hk
   obtain ⟨l,h1,h2,h3⟩:=ih (by omega)
   have hk':=hel k (by omega)
   have hlt:k < elems.length:=by omega
   rw [List.getElem?_eq_getElem hlt,Option.bind_eq_some_iff] at hk'
   obtain ⟨c,hcs,htr⟩:=hk'
   obtain ⟨_,q1,q2⟩:=World.cells?_some hcs
   obtain ⟨b,hb1,hb2⟩:=he _ _ _ htr
   have e1 : c = ((arr.toList.drop a.off).drop (k * m)).take m:=by
    refine List.ext_getElem? fun j=>?_
    by_cases hj:j < m
    ·have := q2 j (by omega)
     rw [← this]
     have e2 : w.cell? ((a.add (k * P.cellsOf e)).add j) = arr[a.off + (k * m + j)]?:=by
      have ha:(a.add (k * P.cellsOf e)).add j = ⟨a.block,a.off + (k * m + j),none⟩:=by
       unfold Addr.add
       rw [hc]
       split
       ·split
        ·rename_i h4 h5
         rw [h4,h5]
         cases a; simp_all
        ·rename_i h4 h5
         rw [h4]
         simp [hs]
       ·split
        ·rename_i h4 h5
         rw [h5]
         cases a; simp_all
        ·simp; omega
      rw [ha]
      simp [World.cell?,hb]
     rw [e2,List.getElem?_take_of_lt hj,List.getElem?_drop,List.getElem?_drop]
     simp [Array.getElem?_toList]
    ·rw [List.getElem?_eq_none (by omega),List.getElem?_eq_none]
     simp; omega
   refine ⟨l ++ [b],by simp [h1],fun x hx=>?_,?_⟩
   ·rcases List.mem_append.1 hx with hx | hx
    ·exact h2 x hx
    ·obtain rfl:=List.mem_singleton.1 hx; exact hb1
   ·rw [List.flatMap_append,Nat.succ_mul,List.take_add,← e1]
    simpa using h3.app hb2
 obtain ⟨l,h1,h2,h3⟩:=key len (Nat.le_refl _)
 refine ⟨l,⟨by omega,h2⟩,.cons _ _ _ _ ?_ .nil⟩
 have hfl:(l.flatMap E).length = len * m:=by
  rw [← h1]
  clear h1 h2 h3
  induction l with
  | nil=>simp
  | cons x l ih=>simp [hE,ih,Nat.succ_mul,Nat.add_comm]
 obtain ⟨blk,off,spot⟩:=a
 cases hs
 rw [h1]
 exact .fz len off cap _ blk arr hl (qd3.2 ⟨ty,fz,hb⟩) (by rw [hfl]; exact h3)
def qby (enc:TypeId × Value → H) (P:Program) (w:World) (fs:List Field) (o n:Nat) (I:α → Prop) (E:α → List AV):Prop :=
 (∀ a,(E a).length = n) ∧ ∀ (fuel:Nat) (cs:List Value),(∀ f ∈ fs,∃ x,DataW.trod enc P w 0 (fun _=>true) true fuel f.type ((cs.drop f.offset).take (P.cellsOf f.type)) = some x) → ∃ a,I a ∧ CRs σ0 (ice w).frz (E a) ((cs.drop o).take n)
theorem qmP {o:Nat}:qby enc P w [] o 0 (fun _:Unit=>True) (fun _=>[]):=⟨fun _=>rfl,fun _ cs _=>⟨(),trivial,by simpa using .nil⟩⟩
theorem qkJ {f:Field} {fs:List Field} {o m n:Nat} {I:α → Prop} {E:α → List AV} {J:β → Prop} {F:β → List AV} (h:kW enc P w f.type I E) (hE:∀ a,(E a).length = m) (ho:f.offset = o) (hc:P.cellsOf f.type = m)
  (hr:qby enc P w fs (o + m) n J F):qby enc P w (f :: fs) o (m + n) (fun p:α × β=>I p.1 ∧ J p.2) (fun p=>E p.1 ++ F p.2):=by
 refine ⟨fun p=>by simp [hE,hr.1],fun fuel cs hf=>?_⟩
 obtain ⟨x,hx⟩:=hf f (List.mem_cons_self ..)
 obtain ⟨a,ha,h1⟩:=h _ _ _ hx
 obtain ⟨b,hb,h2⟩:=hr.2 fuel cs fun g hg=>hf g (List.mem_cons_of_mem _ hg)
 refine ⟨(a,b),⟨ha,hb⟩,?_⟩
 rw [ho,hc] at h1
 rw [List.take_add,List.drop_drop]
 exact h1.app h2
theorem qjV {fs:Array Field} {n:Nat} {I:α → Prop} {E:α → List AV} (ht:P.underlying t = some (.struct fs)) (hc:P.cellsOf t = n) (h:qby enc P w fs.toList 0 n I E):kW enc P w t I E:=by
 intro fuel cs x hx
 obtain ⟨xs,m,rfl,_,hl,hxs,hf⟩:=DataW.trod_struct ht hx
 obtain ⟨a,ha,h1⟩:=h.2 m cs fun f hfm=>by
  obtain ⟨i,hi⟩:=List.getElem?_of_mem hfm
  have hi':fs[i]? = some f:=by simpa using hi
  have:=hf i f hi'
  have hlt:i < xs.length:=by
   rw [hxs]
   exact (Array.getElem?_eq_some_iff.1 hi').1
  rw [List.getElem?_eq_getElem hlt] at this
  exact ⟨_,this⟩
 refine ⟨a,ha,?_⟩
 rwa [List.drop_zero,List.take_of_length_le (by omega)] at h1
theorem kW.map {I:α → Prop} {E:α → List AV} {J:β → Prop} {F:β → List AV} (h:kW enc P w t I E) (g:α → β) (hg:∀ a,I a → J (g a) ∧ F (g a) = E a):kW enc P w t J F:=by
 intro fuel cs x hx
 obtain ⟨a,ha,h1⟩:=h _ _ _ hx
 exact ⟨g a,(hg a ha).1,by rw [(hg a ha).2]; exact h1⟩
theorem kW.agg {I:α → Prop} {E:α → List AV} (h:kW enc P w t I E) {v:Value} {d:DataW H} {p:List MemPlace} (ha:∃ cs,v = .agg cs) (hd:DataW.Trod enc P w 0 (fun _=>true) true t v d p):∃ a,I a ∧ VR σ0 (ice w) (.agg (E a)) v:=by
 obtain ⟨cs,rfl⟩:=ha
 obtain ⟨fuel,hd⟩:=hd
 obtain ⟨a,h1,h2⟩:=h _ _ _ hd
 exact ⟨a,h1,.agg _ _ h2.vr⟩
theorem qb4 {w':World} (hk:∀ may,w.keptBut w' may) {p:MemPlace} (hp:p.block < w.heap.size):w.sameAt w' p:=by
 have h:=(hk fun _=>False).2.2 p.block hp
 have h0:w.heap[p.block]? = some w.heap[p.block]:=Array.getElem?_eq_getElem hp
 cases p with
 | cell b off =>
  show w'.cell? ⟨b,off,none⟩ = w.cell? ⟨b,off,none⟩
  simp only [MemPlace.block] at h h0 hp
  unfold World.cell?
  split at h
  ·rename_i c1 t1 f1 c2 t2 f2 e1 e2
   dsimp only
   rw [e1,e2]
   simpa using h.2.2.2 off (fun hh=>hh)
  ·rename_i e1 e2
   dsimp only
   rw [e1,e2]
  ·dsimp only
   rw [h]
 | map b =>
  show w'.heap[b]? = w.heap[b]?
  simp only [MemPlace.block] at h h0 hp
  split at h
  ·rename_i c1 t1 f1 c2 t2 f2 e1 e2
   have:c2 = c1:=by
    apply Array.ext_getElem?
    intro j; exact h.2.2.2 j (fun hh=>hh)
   rw [e1,e2,h.1,h.2.1,this]
  ·rename_i e1 e2
   rcases h with hh | ⟨h1,h2⟩
   ·exact hh.elim
   ·rw [e1,e2,h1,h2]
  ·exact h
theorem Trod.stay {w':World} {T:TypeId → Prop} (K:Kids P T) (hz:∀ t e,T t → P.underlying t = some (.slice e) → 0 < P.cellsOf e) {ts:List TypeId} {vs:List Value} {ds:List (DataW H)} {ps:List MemPlace} (hT:∀ t ∈ ts,T t)
  (h:DataW.TrodAll enc P w 0 (fun _=>true) true ts vs ds ps) (hk:∀ may,w.keptBut w' may):DataW.TrodAll enc P w' 0 (fun b=>decide (b < w.heap.size)) true ts vs ds ps:=by
 have hlt:=DataW.TrodAll.lt h
 have h1:DataW.TrodAll enc P w 0 (fun b=>decide (b < w.heap.size)) true ts vs ds ps:=h.respare K hz hT fun p hp=>decide_eq_true (hlt p hp)
 clear h
 induction ts generalizing vs ds ps with
 | nil =>
  cases vs <;> cases ds <;> first | exact h1 | exact h1.elim
 | cons t ts ih =>
  cases vs with
  | nil=>exact h1.elim
  | cons v vs =>
   cases ds with
   | nil=>exact h1.elim
   | cons d ds =>
    obtain ⟨p,q,⟨fuel,h2⟩,h3,e⟩:=h1
    subst e
    refine ⟨p,q,⟨fuel,DataW.trod_carry _ _ _ _ h2 fun x hx=>qb4 hk (hlt x (List.mem_append_left _ hx))⟩,?_,rfl⟩
    exact ih (fun t ht=>hT t (List.mem_cons_of_mem _ ht)) (fun x hx=>hlt x (List.mem_append_right _ hx)) h3
end
end Go.Kc
namespace Go.Kc
theorem qmV {k:IntKind} {l:List Int}:l.flatMap (fun n=>[AV.i k n]) = l.map (.i k):=by
 induction l with
 | nil=>rfl
 | cons x l ih=>simp [ih]
theorem qjZ {P:Program} {H:Type} {enc:TypeId × Value → H} {f:Func} {s:ChangeSpec} {apart fresh handsOn:Bool} {W W':World} {args:Array Value} {v:Value} {ds gs:List (DataW H)} {before pv:List MemPlace}
  (hW:DataW.Whole enc P f.params.toList s.vars apart W args.toList ds gs before) (hs:(s.fn H (ds ++ gs)).args = ds)
  {T:TypeId → Prop} (K:Kids P T) (hz:∀ t e,T t → P.underlying t = some (.slice e) → 0 < P.cellsOf e) (hT:∀ t ∈ f.params.toList,T t)
  (hres:∀ (b:Nat) (sp:Nat → Bool) (hd:Bool),DataW.TrodAll enc P W' b sp hd f.resultTypes.toList (v.resultList f.resultTypes.size) (s.fn H (ds ++ gs)).results [])
  (hvars:∀ sp:Nat → Bool,DataW.TrodVars enc P W' sp s.vars (s.fn H (ds ++ gs)).vars pv)
  (hk:∀ may,W.keptBut W' may):s.post enc P f apart fresh handsOn false W args v W':=by
 have hW':=hW
 obtain ⟨p,q,hA,_,_⟩:=hW'
 exact ⟨ds,gs,before,[],p,pv,hW,hres _ _ _,by rw [hs]; exact Trod.stay K hz hT hA hk,hvars _,hk _,fun h=>by cases h⟩
end Go.Kc
end
section
/- A call on known data whose answer the kernel compares with a value that names no block. No condition. -/
namespace Go.Kc
variable {P:Program} {env:Tr IFn} {ho:yZ}
def kOf:IntKind → Nat
 | .i8=>0 | .i16=>1 | .i32=>2 | .i64=>3 | .u8=>4 | .u16=>5 | .u32=>6 | .u64=>7
theorem qjl {a b:IntKind} (h:Nat.beq (kOf a) (kOf b) = true):a = b:=by
 cases a <;> cases b <;> first | rfl | cases h
def qoE:Int → Int → Bool
 | .ofNat a,.ofNat b=>Nat.beq a b
 | .negSucc a,.negSucc b=>Nat.beq a b
 | _,_=>false
theorem qjc:∀ {a b:Int},qoE a b = true → a = b
 | .ofNat a,.ofNat b,h=>by rw [Nat.eq_of_beq_eq_true h]
 | .negSucc a,.negSucc b,h=>by rw [Nat.eq_of_beq_eq_true h]
 | .ofNat _,.negSucc _,h=>by cases h
 | .negSucc _,.ofNat _,h=>by cases h
mutual
noncomputable def wp (h:Hp):AV → AV → Bool
 | .b x,v=>match v with | .b y=>(x && y) || (!x && !y) | _=>false
 | .i k n,v=>match v with | .i k' m=>Nat.beq (kOf k) (kOf k') && qoE n m | _=>false
 | .s x,v=>match v with | .s y=>eqS x y | _=>false
 | .nils,v=>match v with | .nils=>true | _=>false
 | .nilp,v=>match v with | .nilp=>true | _=>false
 | .nilf,v=>match v with | .nilf=>true | _=>false
 | .nili,v=>match v with | .nili=>true | _=>false
 | .nilm,v=>match v with | .nilm=>true | _=>false
 | .agg cs',v=>match v with | .agg cs=>Zs h cs' cs | _=>false
 | .tup cs',v=>match v with | .tup cs=>Zs h cs' cs | _=>false
 | .fz n cs',v=>match v with
  | .nils=>Nat.beq n 0 && cs'.isEmpty
  | .sl b o m c _=>Nat.beq n m && Nat.ble m c && !(Nat.beq c 0) && (match h.tr.get b with | some (.cells _ true _ cs)=>Nat.ble (o + cs'.length) cs.length && Zs h cs' ((cs.drop o).take cs'.length) | _=>false)
  | .own b m=>Nat.beq n m && !(Nat.beq m 0) && (match h.tr.get b with | some (.cells _ true _ ys)=>Zs h cs' ys | _=>false)
  | _=>false
 | _,_=>false
noncomputable def Zs (h:Hp):List AV → List AV → Bool
 | [],vs=>vs.isEmpty
 | v' :: vs',vs=>match vs with | v :: vs=>wp h v' v && Zs h vs' vs | []=>false
end
theorem qiP {x y:List UInt8} (h:eqS x y = true):x = y:=by
 rw [jO] at h; simpa using h
mutual
theorem qd0 {h:Hp}:∀ (v' v:AV),wp h v' v = true → Frz h v v'
 | .b x,v,hb=>by
  unfold wp at hb; split at hb <;> first | (cases hb; done) | skip
  rename_i y
  have:y = x:=by cases x <;> cases y <;> first | rfl | cases hb
  subst this; exact .b _
 | .i k n,v,hb=>by
  unfold wp at hb; split at hb <;> first | (cases hb; done) | skip
  simp only [Bool.and_eq_true] at hb
  obtain rfl:=qjl hb.1
  obtain rfl:=qjc hb.2
  exact .i _ _
 | .s x,v,hb=>by
  unfold wp at hb; split at hb <;> first | (cases hb; done) | skip
  obtain rfl:=qiP hb
  exact .s _
 | .nils,v,hb=>by unfold wp at hb; split at hb <;> first | (cases hb; done) | exact .nils
 | .nilp,v,hb=>by unfold wp at hb; split at hb <;> first | (cases hb; done) | exact .nilp
 | .nilf,v,hb=>by unfold wp at hb; split at hb <;> first | (cases hb; done) | exact .nilf
 | .nili,v,hb=>by unfold wp at hb; split at hb <;> first | (cases hb; done) | exact .nili
 | .nilm,v,hb=>by unfold wp at hb; split at hb <;> first | (cases hb; done) | exact .nilm
 | .agg cs',v,hb=>by
  unfold wp at hb; split at hb <;> first | (cases hb; done) | skip
  exact .agg _ _ (yt cs' _ hb)
 | .tup cs',v,hb=>by
  unfold wp at hb; split at hb <;> first | (cases hb; done) | skip
  exact .tup _ _ (yt cs' _ hb)
 | .fz n cs',v,hb=>by
  unfold wp at hb; split at hb <;> first | (cases hb; done) | skip
  ·simp only [Bool.and_eq_true] at hb
   obtain rfl:=Nat.eq_of_beq_eq_true hb.1
   have:cs' = []:=by simpa using hb.2
   rw [this]; exact .nilz
  ·simp only [Bool.and_eq_true] at hb
   obtain ⟨⟨⟨h1,h2⟩,h3⟩,h4⟩:=hb
   obtain rfl:=Nat.eq_of_beq_eq_true h1
   split at h4 <;> first | (cases h4; done) | skip
   rename_i hg
   simp only [Bool.and_eq_true] at h4
   refine .sl _ _ _ _ _ _ _ _ cs'.length _ hg (Nat.le_of_ble_eq_true h2) (Nat.le_of_ble_eq_true h4.1) (fun h0=>?_) (yt cs' _ h4.2)
   subst h0; cases h3
  ·simp only [Bool.and_eq_true] at hb
   obtain ⟨⟨h1,h2⟩,h4⟩:=hb
   obtain rfl:=Nat.eq_of_beq_eq_true h1
   split at h4 <;> first | (cases h4; done) | skip
   rename_i hg
   refine .own _ _ _ _ _ _ hg (fun h0=>?_) (yt cs' _ h4)
   subst h0; cases h2
 | .undef,v,hb=>by unfold wp at hb; cases hb
 | .ptr _ _,v,hb=>by unfold wp at hb; cases hb
 | .sl _ _ _ _ _,v,hb=>by unfold wp at hb; cases hb
 | .fn _ _ _,v,hb=>by unfold wp at hb; cases hb
 | .ifc _ _,v,hb=>by unfold wp at hb; cases hb
 | .map _,v,hb=>by unfold wp at hb; cases hb
 | .sym _,v,hb=>by unfold wp at hb; cases hb
 | .pf _ _,v,hb=>by unfold wp at hb; cases hb
 | .e0,v,hb=>by unfold wp at hb; cases hb
 | .own _ _,v,hb=>by unfold wp at hb; cases hb
 | .nz,v,hb=>by unfold wp at hb; cases hb
 | .yl _,v,hb=>by unfold wp at hb; cases hb
 | .lp _,v,hb=>by unfold wp at hb; cases hb
theorem yt {h:Hp}:∀ (vs' vs:List AV),Zs h vs' vs = true → Frzs h vs vs'
 | [],vs,hb=>by
  unfold Zs at hb
  have:vs = []:=by simpa using hb
  rw [this]; exact .nil
 | v' :: vs',vs,hb=>by
  unfold Zs at hb; split at hb <;> first | (cases hb; done) | skip
  simp only [Bool.and_eq_true] at hb
  exact .cons _ _ _ _ (qd0 v' _ hb.1) (yt vs' _ hb.2)
end
noncomputable def tt (b:Bool):Prop:=Bool.rec (motive:=fun _=>Prop) False True b
theorem qpd {b:Bool} (h:tt b):b = true:=by cases b with | true=>rfl | false=>exact h.elim
theorem qg.runF (he:qak P env) (hh:Qg P ho) (m:Nat) {f:Nat} {vs:List AV} {v:AV} (hcl:qK vs = true) (hk:y7 env ho (fv env ho m) f vs H0 (fun v' h'=>tt (wp h' v v')) = True):qg P f vs v :=
 qg.of_SC hcl ((SC.run he hh m (of_eq_true hk)).mono fun v' h' hv=>qd0 _ _ (qpd hv))
end Go.Kc
end
section
/- Calls that answer rows of one's own, their arguments lent. No condition. -/
namespace Go.Kc
variable {P:Program}
mutual
def vc:AV → Bool
 | .map _=>false
 | .fz _ _=>false
 | .pf _ _=>false
 | .sym _=>false
 | .fn _ a c=>vd a && vd c
 | .ifc _ v=>vc v
 | .agg cs=>vd cs
 | .tup cs=>vd cs
 | .ptr _ _=>true | .sl _ _ _ _ _=>true | .own _ _=>true
 | .undef=>true | .b _=>true | .i _ _=>true | .s _=>true | .nilp=>true | .nils=>true | .nilf=>true | .nili=>true | .nilm=>true | .e0=>true | .nz=>true | .yl _=>true | .lp _=>true
def vd:List AV → Bool
 | []=>true
 | v :: vs=>vc v && vd vs
end
mutual
theorem VR.thaw {ρ:Ren} {φ:Nat → Option (Array Value)}:∀ {a:AV} {v:Value},VR σ0 ρ a v → vc a = true → VR σ0 ⟨ρ.loc,φ,ρ.n⟩ a v
 | _,_,.undef v,_=>.undef v
 | _,_,.b x,_=>.b x
 | _,_,.i k n,_=>.i k n
 | _,_,.s x,_=>.s x
 | _,_,.nilp,_=>.nilp
 | _,_,.ptr b o L h,_=>.ptr b o L h
 | _,_,.nils,_=>.nils
 | _,_,.sl b o len cap c loose L h hc,_=>.sl b o len cap c loose L h hc
 | _,_,.slz b o x l L h,_=>.slz b o x l L h
 | _,_,.nilf,_=>.nilf
 | _,_,.fn f first cap first' cap' h1 h2,hc=>by
  simp only [vc,Bool.and_eq_true] at hc
  exact .fn _ _ _ _ _ (h1.thaw hc.1) (h2.thaw hc.2)
 | _,_,.nili,_=>.nili
 | _,_,.ifc t v v' h,hc=>by simp only [vc] at hc; exact .ifc _ _ _ (h.thaw hc)
 | _,_,.agg cs cs' h,hc=>by simp only [vc] at hc; exact .agg _ _ (h.thaw hc)
 | _,_,.tup cs cs' h,hc=>by simp only [vc] at hc; exact .tup _ _ (h.thaw hc)
 | _,_,.nilm,_=>.nilm
 | _,_,.map b L h h0,hc=>by simp [vc] at hc
 | _,_,.sym j,hc=>by simp [vc] at hc
 | _,_,.fz n off c cs k arr hn h hs,hc=>by simp [vc] at hc
 | _,_,.fz0 a,hc=>by simp [vc] at hc
 | _,_,.pf off base cs k arr h hs,hc=>by simp [vc] at hc
 | _,_,.e0 a,_=>.e0 a
 | _,_,.nz a c,_=>.nz a c
 | _,_,.own0 b a hb,_=>.own0 b a hb
 | _,_,.own b n c L h hn hc,_=>.own b n c L h hn hc
 | _,_,.yl b L h,_=>.yl b L h
theorem VRs.thaw {ρ:Ren} {φ:Nat → Option (Array Value)}:∀ {a:List AV} {v:List Value},VRs σ0 ρ a v → vd a = true → VRs σ0 ⟨ρ.loc,φ,ρ.n⟩ a v
 | _,_,.nil,_=>.nil
 | _,_,.cons v vs v' vs' h hs,hc=>by
  simp only [vd,Bool.and_eq_true] at hc
  exact .cons _ _ _ _ (h.thaw hc.1) (hs.thaw hc.2)
end
theorem qaB:∀ {cs:List AV} {j:Nat} {v:AV},vd cs = true → cs[j]? = some v → vc v = true
 | [],_,_,_,h=>by simp at h
 | c :: cs,0,v,hf,h=>by
  simp only [vd,Bool.and_eq_true] at hf
  simp at h; rw [← h]; exact hf.1
 | c :: cs,j + 1,v,hf,h=>by
  simp only [vd,Bool.and_eq_true] at hf
  exact qaB hf.2 (by simpa using h)
def qgB:Blk → Bool
 | .cells _ _ _ cs=>vd cs
 | _=>false
theorem Rel.thaw {ρ:Ren} {φ:Nat → Option (Array Value)} {B:Nat → Prop} {h:Hp} {w:World} (r:Rel σ0 ρ B h w) (hφ:∀ k a,φ k = some a → ρ.frz k = some a) (hh:∀ b x,h.tr.get b = some x → qgB x = true):Rel σ0 ⟨ρ.loc,φ,ρ.n⟩ B h w:=by
 refine ⟨r.dom,fun b L e wf af cs hb hg=>?_,fun b L es hb hg=>?_,r.excl,r.exclm,r.app,r.flr,r.base,fun k arr hk=>r.frz k arr (hφ k arr hk),r.dn⟩
 ·obtain ⟨g1,c,ty,fz,g2,g3,g4,g5,g6⟩:=r.cells b L e wf af cs hb hg
  exact ⟨g1,c,ty,fz,g2,g3,g4,fun j v hv=>let ⟨v',g7,g8⟩:=g5 j v hv; ⟨v',g7,g8.thaw (qaB (hh b _ hg) hv)⟩,g6⟩
 ·have:=hh b _ hg
  cases this
theorem qal.own {f:Nat} {vs:List AV} {v:AV} {bs:List Blk} (ho:qal P f vs v bs) (hc:qK vs = true):Own P f vs v bs:=fun h k hk=>ho h vs k (Frzs.self hc) hk
theorem qal.sc {f:Nat} {vs vs':List AV} {v:AV} {bs:List Blk} {h:Hp} {k:AV → Hp → Prop} (ho:qal P f vs' v bs) (hf:Frzs h vs vs') (hk:k (shv h.sz v) (xO h (bs.map (shb h.sz)))):SC P f vs h k:=ho h vs k hf hk
theorem qal.of_SC {f:Nat} {vs':List AV} {v:AV} {bs:List Blk} (hv:vc v = true) (hbs:bs.all qgB = true) (hs:SC P f vs' H0 (qh7 v bs)):qal P f vs' v bs:=by
 intro h vs k hf hk
 refine ⟨hs.1,fun ρ B w args r ha=>?_⟩
 have hcr:=hf.ok r ha
 refine wH.mono (hs.2 ⟨fun _=>none,zU ρ h w,0⟩ (low w.heap.size) w args r.bare (CRs.vr (ρ:=⟨fun _=>none,zU ρ h w,0⟩) hcr)) ?_
 rintro e w1 ⟨v0,v',h1,ρ1,rfl,g1,g2,g3,g4⟩
 obtain ⟨src,s1,s2,s3⟩:=g1 g4.fl
 have hw:Wk 0 (mkT [(0,v0)]) h1 (mkT [(0,v)]) (mkH 0 bs):=Wk.mk [(0,v)] bs src ⟨⟨v0,by simp [mkT,Tr.get_set],s1⟩,trivial⟩ s2 s3 g4.fl
 obtain ⟨ρ2,t2,r2,k2⟩:=hw ρ1 (low w.heap.size) w1 #[v'] (fun j x hj=>by
  have:=kQ hj
  simp at this
  obtain ⟨rfl,rfl⟩:=this
  exact ⟨by simp,by simpa using g2⟩) g3
 have hv2:VR σ0 ρ2 v v':=by
  have:=(t2 0 v (by simp [mkT,Tr.get_set])).2
  simpa using this
 have hφ:∀ k a,ρ.frz k = some a → ρ2.frz k = some a:=fun k a hk=>k2.frz k a (g4.frz k a (xQ hk))
 have r3:=r2.thaw (φ:=ρ.frz) hφ (fun b x hx=>by
  rw [zT] at hx
  exact List.all_eq_true.1 hbs x (List.mem_of_getElem? hx))
 have hv3:=hv2.thaw (φ:=ρ.frz) hv
 refine ⟨_,v',_,ρ.join ⟨ρ2.loc,ρ.frz,ρ2.n⟩ h.sz bs.length,rfl,hk,hv3.sh r3.dn,Rel.joinH r r3 g4.pres g4.wle (fun _ _ h=>h) (fun _ _ h=>.inl h),?_⟩
 refine ⟨fun b hb=>qag hb,by rw [ky]; omega,yL,fun b _ hb=>by rw [jI,if_pos hb],fun k hk=>g4.pres k (r.base _ hk),g4.wle,g4.io,fun _ _ h=>h,fun _ _ h=>.inl h,?_⟩
 exact Nat.le_trans r.dn (Nat.le_add_right _ _)
theorem qal.mk {f:Nat} {i:IFn} {vs:List AV} {v:AV} {bs:List Blk} (hc:qw P f i = true) (hv:vc v = true) (hbs:bs.all qgB = true) (hV:V P 0 i.body (je i.res (qh7 v bs)) (qi vs 0 .leaf) H0):qal P f vs v bs :=
 qal.of_SC hv hbs (SC.mk hc (qL hV))
end Go.Kc
end
section
/- Ranges over functions: the rules. No condition. -/
namespace Go.Kc
variable {P:Program} {n:Nat} {h:Hp}
def bsy (r:Loop):Loop:={ r with state:=.busy }
def rdy (r:Loop):Loop:={ r with state:=.ready,pending:=none }
def dne (r:Loop) (c:Code):Loop:={ r with state:=.done,pending:=some c }
structure LoopOk (P:Program) (r:Loop) (ps:List Nat) (ai bi:ICode):Prop where
 params:r.params.toList = ps
 code:∃ nt,qG P nt r.assign ai = true ∧ qG P nt r.body bi = true ∧ nt ≤ r.tmps.size ∧ ∀ p ∈ ps,p < nt
 flat:Zi ai = true ∧ Zi bi = true
theorem LoopOk.bsy {r:Loop} {ps:List Nat} {ai bi:ICode} (h:LoopOk P r ps ai bi):LoopOk P (bsy r) ps ai bi:=⟨h.params,h.code,h.flat⟩
theorem LoopOk.rdy {r:Loop} {ps:List Nat} {ai bi:ICode} (h:LoopOk P r ps ai bi):LoopOk P (rdy r) ps ai bi:=⟨h.params,h.code,h.flat⟩
noncomputable def qj1:List Nat → List AV → Tr AV → Tr AV
 | p :: ps,u :: us,t=>qj1 ps us (t.set p u)
 | _,_,t=>t
def qpE (b:Nat) (k:AV → Hp → Prop) (x:X) (_:Tr AV) (h:Hp):Prop :=
 ∃ r ts,h.tr.get b = some (.map (xD r ts)) ∧ onX x (k (.b true) (h.put b (.map (xD (rdy r) ts)))) (fun id=>k (.b false) (h.put b (.map (xD (dne r (.exit id)) ts)))) (k (.b false) (h.put b (.map (xD (dne r .ret) ts))))
def qpD (P:Program) (n b:Nat) (r:Loop) (bi:ICode) (Q:X → Tr AV → Hp → Prop) (x:X) (t:Tr AV) (h:Hp):Prop :=
 onX x (∃ ts,h.tr.get b = some (.map (xD r ts)) ∧ S P n bi Q t (h.put b (.map (xD (bsy r) ts)))) (fun _=>False) False
theorem qeg {ρ:Ren}:∀ {ps:List Nat} {us:List AV} {t:Tr AV} {tm:Array Value} {args:List Value},VRs σ0 ρ us args → ps.length = us.length → (∀ p ∈ ps,p < tm.size) → TR σ0 ρ t tm →
  TR σ0 ρ (qj1 ps us t) ((ps.zip args).foldl (fun tm (p,v)=>tm.setIfInBounds p v) tm)
 | [],[],_,_,_,hv,_,_,ht=>by cases hv; exact ht
 | [],_ :: _,_,_,_,_,hl,_,_=>by simp at hl
 | _ :: _,[],_,_,_,_,hl,_,_=>by simp at hl
 | p :: ps,u :: us,t,tm,args,hv,hl,hp,ht=>by
  cases hv with
  | cons _ _ v vs h1 h2 =>
   have hlt:=hp p (by simp)
   refine qeg (ps:=ps) h2 (by simpa using hl) (fun q hq=>by simpa using hp q (by simp [hq])) (fun j x hj=>?_)
   rw [Tr.get_set] at hj
   split at hj
   ·rename_i he; subst he; cases hj
    exact ⟨by simpa using hlt,by simpa [Array.getD,hlt] using h1⟩
   ·rename_i he
    obtain ⟨g1,g2⟩:=ht j x hj
    refine ⟨by simpa using g1,?_⟩
    rw [Array.getD_eq_getD_getElem?,Array.getElem?_setIfInBounds,if_neg (fun e=>he e.symm),← Array.getD_eq_getD_getElem?]
    exact g2
theorem qo6 {ρ:Ren} {tm:Array Value}:∀ {ts:List (Nat × AV)},(∀ p ∈ ts,p.1 < tm.size ∧ VR σ0 ρ p.2 (tm.getD p.1 undef)) → TR σ0 ρ (mkT ts) tm :=
 fun h j v hj=>h (j,v) (kQ hj)
theorem qea:∀ {ts:List (Nat × AV)},(ts.map Prod.fst).Nodup → ∀ {p:Nat × AV},p ∈ ts → (mkT ts).get p.1 = some p.2
 | [],_,_,hp=>by cases hp
 | q :: ts,hn,p,hp=>by
  simp only [mkT,Tr.get_set]
  have hn2:=List.nodup_cons.1 hn
  rcases List.mem_cons.1 hp with rfl | hp
  ·rw [if_pos rfl]
  ·rw [if_neg (fun e=>hn2.1 (List.mem_map.2 ⟨p,hp,e⟩))]
   exact qea hn2.2 hp
theorem QM:∀ (l:List (Nat × Value)) (tm:Array Value),(l.foldl (fun tm (p,v)=>tm.setIfInBounds p v) tm).size = tm.size
 | [],_=>rfl
 | p :: l,tm=>by rw [List.foldl_cons,QM l]; simp
theorem SY.mk {b:Nat} {us:List AV} {k:AV → Hp → Prop} {r:Loop} {ts:List (Nat × AV)} {ps:List Nat} {ai bi:ICode} (hg:h.tr.get b = some (.map (xD r ts))) (hr:r.state = .ready) (hok:LoopOk P r ps ai bi) (hfl:h.fl ≤ b) (hbs:b < h.sz) (hl:ps.length = us.length)
  (hA:S P h.sz ai (qpD P h.sz b r bi (qpE b k)) (qj1 ps us (mkT ts)) h):SY P b us h k:=by
 intro ρ B w args L hL rl hargs
 obtain ⟨L0,ob,hob,hrec⟩:=rl.maps b L _ hL hg
 obtain ⟨rfl,hts⟩:=hrec.rec'
 obtain ⟨nt,hca,hcb,hnt,hps⟩:=hok.code
 have hsz:args.size = r.params.size:=by
  have:=hargs.length
  have h2:r.params.size = ps.length:=by rw [← hok.params]; simp
  rw [h2,hl,this]; simp
 refine ⟨r.fn,_,r.assign,r.body,run_yield hob hsz,fun ro=>roundIn_of_wpIn trivial ?_⟩
 have hfold:(r.params.zip args).foldl (fun tmps (t,a)=>tmps.setIfInBounds t a) r.tmps = (ps.zip args.toList).foldl (fun tm (p,v)=>tm.setIfInBounds p v) r.tmps:=by
  rw [← Array.foldl_toList,Array.toList_zip,hok.params]
 rw [hfold]
 have hT:TR σ0 ρ (qj1 ps us (mkT ts)) ((ps.zip args.toList).foldl (fun tm (p,v)=>tm.setIfInBounds p v) r.tmps) :=
  qeg hargs hl (fun p hp=>Nat.lt_of_lt_of_le (hps p hp) hnt) (qo6 hts)
 have hS:=hA nt r.assign hca (Nat.le_refl _) (some L.blk) (.inr hok.flat.1) ρ B w { tmps:=(ps.zip args.toList).foldl (fun tm (p,v)=>tm.setIfInBounds p v) r.tmps,defers:=[] } hT (by rw [QM]; exact hnt) rl
 refine wpIn_mono hS ?_
 rintro e a1 w1 ⟨x1,t1,h1,ρ1,rs,hx,hq,ht1,hs1,hd1,hm,r1,k1⟩
 cases hx with
 | exit id=>exact hq.elim
 | ret=>exact hq.elim
 | normal =>
  obtain ⟨ts1,hg1,hB⟩:=hq
  have r1:=r1.lessB (B:=B) fun k hk=>.inl hk
  have hL1:ρ1 b = some L:=(k1.ext b hbs).trans hL
  obtain ⟨_,ob1,hob1,hrec1⟩:=r1.maps b L _ hL1 hg1
  obtain ⟨rfl,hts1⟩:=hrec1.rec'
  refine ⟨w1.putObj L.blk (.loop (Go.Kc.bsy r)),run_beginRound hob1 hr,?_⟩
  obtain ⟨r2,k2⟩:=r1.putMap (w':=w1.putObj L.blk (.loop (Go.Kc.bsy r))) hL1 hg1 (by rw [k1.fl]; exact hfl) hob1 (es':=xD (Go.Kc.bsy r) ts1) (.inr (.inr ⟨_,_,rfl,rfl,hts1⟩)) rfl ⟨rfl,rfl⟩
  have hSb:=hB nt r.body hcb k1.szle (some L.blk) (.inr hok.flat.2) ρ1 B _ a1 ht1 hs1 r2
  refine wpIn_mono hSb ?_
  rintro e a3 w3 ⟨x3,t3,h3,ρ3,rs3,hx3,hq3,ht3,hs3,hd3,hm3,r3,k3⟩
  have r3:=r3.lessB (B:=B) fun k hk=>.inl hk
  have kk:=(k1.trans (k2.kep k1.szle)).trans k3
  obtain ⟨r',ts',hg3,hq3⟩:=hq3
  have hL3:ρ3 b = some L:=(kk.ext b hbs).trans hL
  obtain ⟨_,ob3,hob3,hrec3⟩:=r3.maps b L _ hL3 hg3
  obtain ⟨rfl,hts3⟩:=hrec3.rec'
  have fin:∀ (lp:Loop) (y:Bool),lp.tmps = r'.tmps → k (.b y) (h3.put b (.map (xD lp ts'))) → (∃ v v0 h' ρ',Ending.returned (Value.bool y) = .returned v0 ∧ k v h' ∧ VR σ0 ρ' v v0 ∧ Rel σ0 ρ' B h' (w3.putObj L.blk (.loop lp)) ∧ Kept ρ B h w ρ' h' (w3.putObj L.blk (.loop lp))):=by
   intro lp y htm hk
   obtain ⟨r4,k4⟩:=r3.putMap (w':=w3.putObj L.blk (.loop lp)) hL3 hg3 (by rw [kk.fl]; exact hfl) hob3 (es':=xD lp ts') (.inr (.inr ⟨_,_,rfl,rfl,by rw [htm]; exact hts3⟩)) rfl ⟨rfl,rfl⟩
   exact ⟨.b y,.bool y,_,ρ3,rfl,hk,.b _,r4,(kk.trans (k4.kep kk.szle)).kept rl.dn⟩
  cases hx3 with
  | normal=>exact ⟨_,_,run_endRound none hob3,fin (Go.Kc.rdy r') true rfl hq3⟩
  | exit id=>exact ⟨_,_,run_endRound (some (.exit id)) hob3,fin (dne r' (.exit id)) false rfl hq3⟩
  | ret=>exact ⟨_,_,run_endRound (some .ret) hob3,fin (dne r' .ret) false rfl hq3⟩
def qot (b:Nat) (Q:X → Tr AV → Hp → Prop) (t:Tr AV) (_:AV) (h:Hp):Prop :=
 ∃ r ts,h.tr.get b = some (.map (xD r ts)) ∧ r.state ≠ .busy ∧
  match r.pending with
  | none=>Q .normal t (h.put b .dead)
  | some .ret=>Q .ret t (h.put b .dead)
  | some (.exit id)=>Q (.exit id) t (h.put b .dead)
  | _=>False
def rfK (P:Program) (ps:List Nat) (ai bi:ICode) (Q:X → Tr AV → Hp → Prop) (t:Tr AV) (ts:List (Nat × AV)) (h:Hp) (g:AV):Prop :=
 match g with
 | .fn f first cap=>qdT P f ∧ ∀ r0,r0.state = .ready → r0.pending = none → LoopOk P r0 ps ai bi → SC P f (first ++ (.yl h.sz :: cap)) (h.push (.map (xD r0 ts))) (qot h.sz Q t)
 | _=>False
set_option maxHeartbeats 1000000 in
theorem S.rangeF {g:O} {ps:List Nat} {ai bi:ICode} {Q:X → Tr AV → Hp → Prop} {ts:List (Nat × AV)} {bl:List Blk} (hlive:bl.all zz = true) (hnd:(ts.map Prod.fst).Nodup) (hnr:Zi ai = true ∧ Zi bi = true) (hk:evK (mkT ts) g (rfK P ps ai bi Q (mkT ts) ts (mkH 0 bl))):S P n (.rangeF g ps ai bi) Q (mkT ts) (mkH 0 bl):=by
 intro nt code hc hn ro hro ρ B w a ht hsz r
 obtain rfl:ro = none:=by
  rcases hro with h | h
  ·exact h
  ·cases h
 cases code <;> first | (simp [qG] at hc; done) | skip
 rename_i og ops oa ob
 simp only [qG,Bool.and_eq_true] at hc
 obtain ⟨⟨⟨⟨h1,h2⟩,h3⟩,h4⟩,h5⟩:=hc
 have h2:=eq_of_beq h2
 obtain ⟨gv,hgv,hk2⟩:=qF ht h1 hk
 cases gv <;> try exact hgv.elim
 rename_i f first cap
 obtain ⟨⟨fn0,c1,c2,c3⟩,hS⟩:=hgv
 obtain ⟨a',c',q1,q2,q3⟩:=hk2.un_fn
 have hLd:∀ b L,ρ b = some L → L.blk < w.heap.size:=by
  intro b L hb
  have hlt:=r.dom b L hb
  rw [qdB] at hlt
  have hx:(mkH 0 bl).tr.get b = some bl[b]:=by rw [zT]; exact List.getElem?_eq_getElem hlt
  have hlv:=List.all_eq_true.1 hlive bl[b] (List.getElem_mem hlt)
  exact r.blk_lt b L hb _ hx (by intro he; rw [he] at hlv; cases hlv)
 refine wpIn_rangeFunc fun fn _=>?_
 let r0:Loop:={ state:=.ready,pending:=none,fn,tmps:=a.tmps,params:=ops,assign:=oa,body:=ob,defers:=w.heap.size }
 let W1:World:=(w.alloc (.deferred (some []))).alloc (.loop r0)
 have hold:∀ k,k < w.heap.size → (w.alloc (.deferred (some []))).heap[k]? = w.heap[k]?:=fun k hk=>by
  show (w.heap.push _)[k]? = _
  rw [Array.getElem?_push,if_neg (by omega)]
 have hD:(w.alloc (.deferred (some []))).heap[w.heap.size]? = some (.deferred (some [])):=World.alloc_heap_new w _
 have r1:Rel σ0 ρ (BM B [w.heap.size]) (mkH 0 bl) (w.alloc (.deferred (some []))):=by
  have r':=r.world (w':=w.alloc (.deferred (some []))) hold (by simp)
  refine ⟨r'.dom,r'.cells,r'.maps,r'.excl,r'.exclm,r'.app,fun b L hb hf hB=>?_,fun k hk=>?_,r'.frz,r'.dn⟩
  ·rcases hB with hB | hB
   ·exact r.flr b L hb hf hB
   ·have:=hLd b L hb
    rw [List.mem_singleton] at hB
    omega
  ·rcases hk with hk | hk
   ·have:=r.base k hk; simp; omega
   ·rw [List.mem_singleton] at hk; simp; omega
 have hts:∀ p ∈ ts,p.1 < r0.tmps.size ∧ VR σ0 ρ p.2 (r0.tmps.getD p.1 undef):=fun p hp=>ht p.1 p.2 (qea hnd hp)
 obtain ⟨r2,k2⟩:=r1.newMap (w':=W1) (es0:=xD r0 ts) (o:=.loop r0) (.inr (.inr ⟨_,_,rfl,rfl,hts⟩)) rfl ⟨rfl,rfl⟩
 have hl:(w.alloc (.deferred (some []))).heap.size = w.heap.size + 1:=by simp
 rw [hl] at r2 k2
 obtain ⟨Lc,hLc⟩:∃ Lc:Loc,Lc = ⟨w.heap.size + 1,0,0,0⟩:=⟨_,rfl⟩
 rw [← hLc] at r2 k2
 have hself:(ρ.add (mkH 0 bl).sz Lc) (mkH 0 bl).sz = some Lc:=Ren.add_self _ _ _
 have hle2:=k2.mono r1.dom
 have hSC:=hS r0 rfl rfl ⟨h2,⟨nt,h4,h5,hsz,fun p hp=>by rw [← h2] at hp; have:=List.all_eq_true.1 h3 p hp; exact Nat.lt_of_succ_le (Nat.le_of_ble_eq_true this)⟩,hnr⟩
 have hargs:VRs σ0 (ρ.add (mkH 0 bl).sz Lc) (first ++ (.yl (mkH 0 bl).sz :: cap)) (a' ++ #[Value.func (.yield (w.heap.size + 1)) #[] #[]] ++ c').toList:=by
  have hy:VR σ0 (ρ.add (mkH 0 bl).sz Lc) (.yl (mkH 0 bl).sz) (.func (.yield Lc.blk) #[] #[]):=.yl _ Lc hself
  have e2:Lc.blk = w.heap.size + 1:=by rw [hLc]
  rw [e2] at hy
  have:=(q1.mono hle2).append (VRs.cons _ _ _ _ hy (q2.mono hle2))
  simpa using this
 have hcf:=kG (P:=P) c1 c2 c3
 have hcalls:Calls P f (a' ++ #[Value.func (.yield (w.heap.size + 1)) #[] #[]] ++ c') W1 fun e w'=>∃ v v' h' ρ',e = .returned v' ∧ qot (mkH 0 bl).sz Q (mkT ts) v h' ∧ VR σ0 ρ' v v' ∧ Rel σ0 ρ' (BM B [w.heap.size]) h' w' ∧ Kept (ρ.add (mkH 0 bl).sz Lc) (BM B [w.heap.size]) ((mkH 0 bl).push (.map (xD r0 ts))) W1 ρ' h' w':=by
  rcases hSC.2 _ _ _ _ r2 hargs with ⟨_,hh⟩ | ⟨v,w',hh,_⟩
  ·exact hh
  ·rw [hcf] at hh; cases hh
 have hev:(({ a with defers:=qaQ [w.heap.size] ++ a.defers }:Act)).eval og = .func (.func f) a' c':=q3
 refine ⟨w.heap.size + 1,[{ target:=.collected w.heap.size,args:=#[] }],W1,{ target:=.fn (.func f) c',args:=a' ++ #[Value.func (.yield (w.heap.size + 1)) #[] #[]] },W1,f,a' ++ #[Value.func (.yield (w.heap.size + 1)) #[] #[]] ++ c',W1,run_enterLoop_outer _ _ _ _ _,?_,fun _ _=>trivial,?_,fun hh=>(by cases hh),qcB (Calls.mono hcalls ?_)⟩
 ·simp only [resolve,q3]
  simp [go_sem,Deferred.ofValue,q3]
 ·simp [invoke,hcf]
 rintro e w2 ⟨v,v',h2',ρ2,rfl,hend,hv,r3,k3⟩
 obtain ⟨r',ts',hg',hst,hmt⟩:=hend
 have hL2:ρ2 (mkH 0 bl).sz = some Lc:=(k3.ext _ (by show _ < Nat.succ _; exact Nat.lt_succ_self _)).trans hself
 obtain ⟨_,ob2,hob2,hrec2⟩:=r3.maps _ Lc _ hL2 hg'
 obtain ⟨rfl,hts2⟩:=hrec2.rec'
 have hob3:w2.heap[w.heap.size + 1]? = some (.loop r'):=by rw [hLc] at hob2; exact hob2
 have hfl2:h2'.fl = 0:=k3.fl
 obtain ⟨re,hre⟩:∃ re:Loop,re = { r' with state:=.exhausted }:=⟨_,rfl⟩
 have hts4:∀ p ∈ ts',p.1 < re.tmps.size ∧ VR σ0 ρ2 p.2 (re.tmps.getD p.1 undef):=by rw [hre]; exact hts2
 have hend2:=run_endLoop (P:=P) hob3 hst
 rw [← hre] at hend2
 clear hre
 obtain ⟨r4,k4⟩:=r3.putMap (w':=w2.putObj (w.heap.size + 1) (.loop re)) hL2 hg' (by rw [hfl2]; exact Nat.zero_le _) hob2 (es':=xD re ts') (.inr (.inr ⟨_,_,rfl,rfl,hts4⟩)) (by rw [hLc]; rfl) ⟨rfl,rfl⟩
 have r5:Rel σ0 ρ2 (BM B [w.heap.size]) (h2'.put (mkH 0 bl).sz .dead) (w2.putObj (w.heap.size + 1) (.loop re)):=by
  refine r4.sub rfl rfl fun b x hx hd=>?_
  simp only [Hp.put,Tr.get_set] at hx ⊢
  split at hx
  ·cases hx; exact absurd rfl hd
  ·rename_i hne; rw [if_neg hne]; exact hx
 have hD1:W1.heap[w.heap.size]? = some (.deferred (some [])):=by
  show ((w.alloc (.deferred (some []))).heap.push _)[w.heap.size]? = _
  rw [Array.getElem?_push,if_neg (by rw [hl]; omega)]; exact hD
 have hD2:(w2.putObj (w.heap.size + 1) (.loop re)).heap[w.heap.size]? = some (.deferred (some [])):=by
  rw [World.putObj_heap_other (by omega),k3.pres _ (.inr (by simp))]; exact hD1
 have k0:Kep n ρ B (mkH 0 bl) w ρ (mkH 0 bl) (w.alloc (.deferred (some []))):=⟨fun _ _=>rfl,hn,rfl,fun _ _ _=>rfl,fun k hk=>hold k (r.base k hk),by simp,⟨rfl,rfl⟩,fun _ _ h=>h,fun _ _ h=>.inl h,fun _ _ h=>h⟩
 have hn2:n ≤ ((mkH 0 bl).push (.map (xD r0 ts))).sz:=Nat.le_trans hn (Nat.le_succ _)
 have hn3:n ≤ h2'.sz:=Nat.le_trans hn2 k3.szle
 have k5:Kep n ρ2 (BM B [w.heap.size]) h2' w2 ρ2 (h2'.put (mkH 0 bl).sz .dead) (w2.putObj (w.heap.size + 1) (.loop re)) :=
  ⟨fun _ _=>rfl,hn3,rfl,fun b hb _=>absurd hb (by rw [hfl2]; exact Nat.not_lt_zero _),k4.pres,k4.wle,k4.io,fun _ _ h=>h,fun _ _ h=>.inl h,fun _ _ h=>h⟩
 have kk:Kep n ρ B (mkH 0 bl) w ρ2 (h2'.put (mkH 0 bl).sz .dead) (w2.putObj (w.heap.size + 1) (.loop re)):=((k0.trans (k2.kep hn).bm).trans (k3.kep hn2).bm).trans k5.bm
 have fin:∀ (x:X) (e:Exit),XR x e → Q x (mkT ts) (h2'.put (mkH 0 bl).sz .dead) → wo σ0 Q nt n ρ B (mkH 0 bl) w a.defers e { a with defers:=[{ target:=.collected w.heap.size,args:=#[] }] ++ a.defers } (w2.putObj (w.heap.size + 1) (.loop re)):=fun x e hx hq =>
  ⟨x,mkT ts,_,ρ2,[w.heap.size],hx,hq,ht.mono (Ren.le_trans hle2 (k3.mono r2.dom)),hsz,rfl,⟨by simp,fun q hq=>by rw [List.mem_singleton] at hq; omega,fun q hq=>by rw [List.mem_singleton] at hq; subst hq; exact hD2⟩,r5,kk⟩
 refine ⟨r'.pending,_,hend2,?_⟩
 clear hend2
 generalize r'.pending = pd at hmt ⊢
 cases pd with
 | none=>exact fin .normal _ .normal hmt
 | some c =>
  cases c <;> first | exact hmt.elim | skip
  ·exact wpIn_exit (fin _ _ (.exit _) hmt)
  ·exact wpIn_ret (fin _ _ .ret hmt)
end Go.Kc
end
section
/- Rows of one's own given for good, in any call; an updating call in a region that draws. No condition. -/
namespace Go.Kc
variable {P:Program} {h:Hp}
inductive Gvs (h:Hp):List AV → List AV → Prop where
 | nil:Gvs h [] []
 | keep (v:AV) (vs vs':List AV) (h1:Gvs h vs vs'):Gvs h (v :: vs) (v :: vs')
 | fz (v v':AV) (vs vs':List AV) (hf:Frz h v v') (h1:Gvs h vs vs'):Gvs h (v :: vs) (v' :: vs')
theorem Gvs.ok {ρ:Ren} {B:Nat → Prop} {w:World} (hle:ρ.le ⟨ρ.loc,zU ρ h w,ρ.n⟩) (r:Rel σ0 ρ B h w):∀ {vs vs':List AV} {xs:List Value},Gvs h vs vs' → VRs σ0 ρ vs xs → VRs σ0 ⟨ρ.loc,zU ρ h w,ρ.n⟩ vs' xs
 | _,_,_,.nil,hv=>by cases hv; exact .nil
 | _,_,_,.keep _ _ _ h1,hv=>by
  cases hv with
  | cons _ _ _ _ a1 a2=>exact .cons _ _ _ _ (a1.mono hle) (Gvs.ok hle r h1 a2)
 | _,_,_,.fz _ _ _ _ hf h1,hv=>by
  cases hv with
  | cons _ _ _ _ a1 a2=>exact .cons _ _ _ _ (CR.vr (ρ:=⟨ρ.loc,zU ρ h w,ρ.n⟩) (hf.ok r a1)) (Gvs.ok hle r h1 a2)
theorem SC.give {f:Nat} {vs vs':List AV} {k:AV → Hp → Prop} (DB:List (Nat × Blk)) (hg:∀ p ∈ DB,h.tr.get p.1 = some p.2 ∧ h.fl ≤ p.1) (hf:Gvs ⟨h.sz,h.fl,trP DB⟩ vs vs') (hk:SC P f vs' (kr h DB) k):SC P f vs h k:=by
 refine ⟨hk.1,fun ρ B w args r ha=>?_⟩
 have r0:Rel σ0 ρ B ⟨h.sz,h.fl,trP DB⟩ w:=r.sub rfl rfl (fun b x hx _=>(hg _ (Q1 hx)).1)
 have le:ρ.le ⟨ρ.loc,zU ρ ⟨h.sz,h.fl,trP DB⟩ w,ρ.n⟩:=⟨fun _ _ h=>h,fun _ _ h=>xQ h,Nat.le_refl _⟩
 have hcr:=hf.ok le r0 ha
 have fnew:∀ kk a,zU ρ ⟨h.sz,h.fl,trP DB⟩ w kk = some a → ρ.frz kk = some a ∨ ((∃ ty fz,w.heap[kk]? = some (.cells a ty fz)) ∧ ∃ b L e af cs,b ∈ DB.map Prod.fst ∧ ρ b = some L ∧ h.tr.get b = some (.cells e true af cs) ∧ L.blk = kk ∧ h.fl ≤ b):=by
  intro kk a hkk
  rcases vf hkk with h1 | ⟨h1,b,L,e,af,cs,h2,h3,h4⟩
  ·exact .inl h1
  ·have hm:=Q1 h3
   exact .inr ⟨h1,b,L,e,af,cs,List.mem_map_of_mem (f:=Prod.fst) hm,h2,(hg _ hm).1,h4,(hg _ hm).2⟩
 have zz:∀ b x,(kr h DB).tr.get b = some x → x ≠ .dead → b ∉ DB.map Prod.fst ∧ h.tr.get b = some x:=by
  intro b x hx hd
  rw [yF] at hx
  split at hx
  ·cases hx; exact absurd rfl hd
  ·exact ⟨by assumption,hx⟩
 have r1:Rel σ0 ⟨ρ.loc,zU ρ ⟨h.sz,h.fl,trP DB⟩ w,ρ.n⟩ B (kr h DB) w:=by
  have rs:Rel σ0 ρ B (kr h DB) w:=r.sub QR QQ (fun b x hx hd=>(zz b x hx hd).2)
  refine ⟨rs.dom,fun b L e wf af cs hb hx=>?_,fun b L es hb hx=>?_,rs.excl,rs.exclm,rs.app,rs.flr,rs.base,fun kk arr hkk=>?_,rs.dn⟩
  ·obtain ⟨q1,c,ty,fz,q2,q3,q4,q5,q6⟩:=rs.cells b L e wf af cs hb hx
   exact ⟨q1,c,ty,fz,q2,q3,q4,fun j v hv=>let ⟨v',k1,k2⟩:=q5 j v hv; ⟨v',k1,k2.mono le⟩,q6⟩
  ·obtain ⟨q1,o,q2,q3⟩:=rs.maps b L es hb hx
   exact ⟨q1,o,q2,q3.mono le⟩
  ·rcases fnew kk arr hkk with h1 | ⟨h1,b,L,e,af,cs,h2,h3,h4,h5,_⟩
   ·exact rs.frz kk arr h1
   ·refine ⟨h1,fun b' L' x hb' hx hd he=>?_⟩
    obtain ⟨g1,g2⟩:=zz b' x hx hd
    have:=r.excl b L e af cs h3 h4 b' L' x hb' g2 hd (by rw [he,h5])
    subst this
    exact g1 h2
 have k0:Kept ρ B h w ⟨ρ.loc,zU ρ ⟨h.sz,h.fl,trP DB⟩ w,ρ.n⟩ (kr h DB) w:=by
  refine ⟨fun _ _=>rfl,by rw [QR]; exact Nat.le_refl _,QQ,fun b hb _=>?_,fun _ _=>rfl,Nat.le_refl _,⟨rfl,rfl⟩,fun k a hk=>xQ hk,fun k a hk=>?_,Nat.le_refl _⟩
  ·rw [yF,if_neg]
   intro hm
   obtain ⟨p,hp1,hp2⟩:=List.mem_map.1 hm
   have:=(hg p hp1).2
   omega
  ·rcases fnew k a hk with h2 | ⟨_,b,L,_,_,_,_,h3,_,h5,h6⟩
   ·exact .inl h2
   ·right; rw [← h5]; exact r.flr b L h3 h6
 refine wH.mono (hk.2 _ B w args r1 hcr) ?_
 rintro e w' ⟨v0,v',h',ρ',he,g1,g2,g3,g4⟩
 exact ⟨v0,v',h',ρ',he,g1,g2,g3,k0.trans g4⟩
theorem PC.give {f:Nat} {vs vs':List AV} {k:AV → Hp → Prop} (DB:List (Nat × Blk)) (hg:∀ p ∈ DB,h.tr.get p.1 = some p.2 ∧ h.fl ≤ p.1) (hf:Gvs ⟨h.sz,h.fl,trP DB⟩ vs vs') (hk:PC P f vs' (kr h DB) k):PC P f vs h k:=by
 obtain ⟨v,h',h1,h2⟩:=hk
 exact ⟨v,h',fun k' hk'=>SC.give DB hg hf (h1 k' hk'),h2⟩
theorem Upd.pc {f:Nat} {vs:List AV} {bs bs2:List Blk} {v:AV} {k:AV → Hp → Prop} (at':List Nat) (hu:Upd P f vs bs v bs2) (l:Lent h at' bs) (hk:k (rnv (gAt at' h.sz) v) (xm h at' bs2)):PC P f (zJ (gAt at' h.sz) vs) h k :=
 ⟨_,_,fun _ h'=>hu.sc at' l h',hk⟩
end Go.Kc
end
section
/- Blocks by new names where dead ones do not count. No condition. -/
namespace Go.Kc
variable {P:Program} {h:Hp} {t:Tr AV}
theorem SL.loopd {n:Nat} {α:Type} {x:ICode} {Q:X → Tr AV → Hp → Prop} (T:α → List (Nat × AV)) (B:α → List Blk) (I:α → Prop) (μ:α → Nat) (a0:α) (src:List Nat)
  (hT:TWs t (rl src h.sz) (B a0).length (T a0)) (hB:BWs h (rl src h.sz) (B a0).length src (B a0)) (hI:(List.map Prod.fst (List.filter (fun p=>decide (p.fst < h.sz) && zz p.snd) (src.zip (B a0)))).Nodup) (hfl:h.fl = 0) (hn:n ≤ (B a0).length) (hlow:∀ b,b < n → rl src h.sz b = b) (h0:I a0)
  (step:∀ a,I a → ∀ G:Tr AV → Hp → Prop,(∀ b,I b → μ b < μ a → ∀ t' h',Wk n t' h' (mkT (T b)) (mkH 0 (B b)) → G t' h') →
   V P n x (fun e t h=>onX e (G t h) (fun id=>Q (.exit id) t h) (Q .ret t h)) (mkT (T a)) (mkH 0 (B a))):SL P n x Q t h:=by
 have main:∀ m a,μ a = m → I a → SL P n x Q (mkT (T a)) (mkH 0 (B a)):=by
  intro m
  induction m using Nat.strongRecOn with
  | ind m ih =>
   intro a ha hi
   exact wt (step a hi (fun t h=>SL P n x Q t h) fun b hb hlt t' h' hw=>SL.weak hw (ih (μ b) (ha ▸ hlt) b rfl hb))
 exact SL.weak (Wk.mkd (T a0) (B a0) src hT hB hI hfl hn hlow) (main _ a0 rfl h0)
def qdf (m:Nat) (v:AV) (bs2:List Blk) (v':AV) (h':Hp):Prop:=h'.fl = 0 → ∃ src:List Nat,NV (rl src h'.sz) bs2.length v' v ∧ BWs h' (rl src h'.sz) bs2.length src bs2 ∧ (List.map Prod.fst (List.filter (fun p=>decide (p.fst < h'.sz) && zz p.snd) (src.zip bs2))).Nodup ∧ ∀ b,b < m → rl src h'.sz b = b
theorem qdf.w {m:Nat} {v:AV} {bs2:List Blk} {v':AV} {h':Hp} (hz:qdf m v bs2 v' h') (hle:m ≤ bs2.length):qfB m v bs2 v' h':=by
 intro hfl
 obtain ⟨src,s1,s2,s3,s4⟩:=hz hfl
 exact Wk.mkd [(0,v)] bs2 src ⟨⟨v',by simp [mkT,Tr.get_set],s1⟩,trivial⟩ s2 s3 hfl hle s4
theorem Upd.mkd {f:Nat} {i:IFn} {vs:List AV} {v:AV} {bs bs2:List Blk} (hc:qw P f i = true) (hb:z6 bs.length vs = true) (hl:bs.length ≤ bs2.length) (hV:V P bs.length i.body (je i.res (qdf bs.length v bs2)) (qi vs 0 .leaf) (mkH 0 bs)):Upd P f vs bs v bs2 :=
 ⟨hb,hl,(SC.mk hc (qL hV)).mono fun _ _ hz=>hz.w hl⟩
end Go.Kc
end
section
/- What functions of strings and names answer. Condition: the functions' texts are these. -/
namespace Go.Kc
variable {P:Program} {f:Nat}
end Go.Kc
end
section
/- What searches in lists answer. Condition: the functions' texts are these. -/
namespace Go.Kc
variable {P:Program} {f:Nat}
end Go.Kc
end
section
/- What names of errors, families and namespaces answer. Condition: the functions' texts are these. -/
namespace Go.Kc
variable {P:Program} {f:Nat}
def zp (q:IntKind) (p:List UInt8 × Int):List AV:=[.s p.1,.i q p.2]
theorem kz {q:IntKind} (p:List UInt8 × Int):(zp q p).length = 2:=rfl
def yc:IFn:=⟨[.cell 0 16 true],.seq (.r [.q 0 (.alloc [.s [],.i .u64 0,.s [],.i .u64 0,.s [],.i .u64 0,.s [],.i .u64 0,.s [],.i .u64 0,.s [],.i .u64 0,.s [],.i .u64 0,.s [],.i .u64 0])]) (.seq (.r [.q 1 (.build [.s [],.i .u64 0] [(0,1,(.c (.s [116,105,109,101]))),(1,1,(.c (.i .u64 128)))]),.q 2 (.build [.s [],.i .u64 0] [(0,1,(.c (.s [109,110,116]))),(1,1,(.c (.i .u64 131072)))]),.q 3 (.build [.s [],.i .u64 0] [(0,1,(.c (.s [99,103,114,111,117,112]))),(1,1,(.c (.i .u64 33554432)))]),.q 4 (.build [.s [],.i .u64 0] [(0,1,(.c (.s [117,116,115]))),(1,1,(.c (.i .u64 67108864)))]),.q 5 (.build [.s [],.i .u64 0] [(0,1,(.c (.s [105,112,99]))),(1,1,(.c (.i .u64 134217728)))]),.q 6 (.build [.s [],.i .u64 0] [(0,1,(.c (.s [117,115,101,114]))),(1,1,(.c (.i .u64 268435456)))]),.q 7 (.build [.s [],.i .u64 0] [(0,1,(.c (.s [112,105,100]))),(1,1,(.c (.i .u64 536870912)))]),.q 8 (.build [.s [],.i .u64 0] [(0,1,(.c (.s [110,101,116]))),(1,1,(.c (.i .u64 1073741824)))]),.q 9 (.build [.s [],.i .u64 0,.s [],.i .u64 0,.s [],.i .u64 0,.s [],.i .u64 0,.s [],.i .u64 0,.s [],.i .u64 0,.s [],.i .u64 0,.s [],.i .u64 0] [(0,2,(.t 1)),(2,2,(.t 2)),(4,2,(.t 3)),(6,2,(.t 4)),(8,2,(.t 5)),(10,2,(.t 6)),(12,2,(.t 7)),(14,2,(.t 8))]),.u (.store 16 (.t 0) (.t 9))]) (.ret))⟩
def qp:List (List UInt8 × Int):=[([116,105,109,101],128),([109,110,116],131072),([99,103,114,111,117,112],33554432),([117,116,115],67108864),([105,112,99],134217728),([117,115,101,114],268435456),([112,105,100],536870912),([110,101,116],1073741824)]
theorem qkN (hc:qw P f yc = true):qg P f [] (.agg (qp.flatMap (zp .u64))):=by
 refine qg.mk hc rfl ?_
 simp only [yc,qi,H0,mkT,mkH,trL,vI,simprocAttr]
 simp only [↓vS,vT,shb,shv,qb,qc,cellsOf,wr,qa,simprocAttr,qp,zp,List.flatMap_cons,List.flatMap_nil,vZ]
def vz:IFn:=⟨[.cell 0 16 true],.seq (.r [.q 0 (.alloc [.s [],.i .u32 0,.s [],.i .u32 0,.s [],.i .u32 0,.s [],.i .u32 0,.s [],.i .u32 0,.s [],.i .u32 0,.s [],.i .u32 0,.s [],.i .u32 0])]) (.seq (.r [.q 1 (.build [.s [],.i .u32 0] [(0,1,(.c (.s [65,70,95,85,78,73,88]))),(1,1,(.c (.i .u32 1)))]),.q 2 (.build [.s [],.i .u32 0] [(0,1,(.c (.s [65,70,95,73,78,69,84]))),(1,1,(.c (.i .u32 2)))]),.q 3 (.build [.s [],.i .u32 0] [(0,1,(.c (.s [65,70,95,73,78,69,84,54]))),(1,1,(.c (.i .u32 10)))]),.q 4 (.build [.s [],.i .u32 0] [(0,1,(.c (.s [65,70,95,78,69,84,76,73,78,75]))),(1,1,(.c (.i .u32 16)))]),.q 5 (.build [.s [],.i .u32 0] [(0,1,(.c (.s [65,70,95,80,65,67,75,69,84]))),(1,1,(.c (.i .u32 17)))]),.q 6 (.build [.s [],.i .u32 0] [(0,1,(.c (.s [65,70,95,66,76,85,69,84,79,79,84,72]))),(1,1,(.c (.i .u32 31)))]),.q 7 (.build [.s [],.i .u32 0] [(0,1,(.c (.s [65,70,95,65,76,71]))),(1,1,(.c (.i .u32 38)))]),.q 8 (.build [.s [],.i .u32 0] [(0,1,(.c (.s [65,70,95,86,83,79,67,75]))),(1,1,(.c (.i .u32 40)))]),.q 9 (.build [.s [],.i .u32 0,.s [],.i .u32 0,.s [],.i .u32 0,.s [],.i .u32 0,.s [],.i .u32 0,.s [],.i .u32 0,.s [],.i .u32 0,.s [],.i .u32 0] [(0,2,(.t 1)),(2,2,(.t 2)),(4,2,(.t 3)),(6,2,(.t 4)),(8,2,(.t 5)),(10,2,(.t 6)),(12,2,(.t 7)),(14,2,(.t 8))]),.u (.store 16 (.t 0) (.t 9))]) (.ret))⟩
def qJ:List (List UInt8 × Int):=[([65,70,95,85,78,73,88],1),([65,70,95,73,78,69,84],2),([65,70,95,73,78,69,84,54],10),([65,70,95,78,69,84,76,73,78,75],16),([65,70,95,80,65,67,75,69,84],17),([65,70,95,66,76,85,69,84,79,79,84,72],31),([65,70,95,65,76,71],38),([65,70,95,86,83,79,67,75],40)]
theorem qh3 (hc:qw P f vz = true):qg P f [] (.agg (qJ.flatMap (zp .u32))):=by
 refine qg.mk hc rfl ?_
 simp only [vz,qi,H0,mkT,mkH,trL,vI,simprocAttr]
 simp only [↓vS,vT,shb,shv,qb,qc,cellsOf,wr,qa,simprocAttr,qJ,zp,List.flatMap_cons,List.flatMap_nil,vZ]
def yb (f_names_spaces:Nat):IFn:=⟨[.tmp 0],.seq (.r [.m 0 (.c (.i .u64 0))]) (.seq (.r [.m 1 (.c (.i .u64 0))]) (.seq (.seq (.r [.l 4 f_names_spaces [],.m 5 (.k 0)]) (.blk 0 (.loop (.seq (.r [.q 6 (.bin .lss (.t 5) (.k 8))]) (.seq (.cond (.t 6) (.skip) (.exit 0)) (.seq (.blk 1 (.seq (.r [.q 7 (.idxA 8 2 true (.t 4) (.t 5)),.q 3 (.alloc [.s [],.i .u64 0]),.u (.store 2 (.t 3) (.t 7))]) (.r [.m 8 (.t 1),.q 9 (.fAddr 1 (.t 3)),.q 10 (.load1 (.t 9)),.q 11 (.bin .or (.t 8) (.t 10)),.m 1 (.t 11)]))) (.r [.q 12 (.bin .add (.t 5) (.k 1)),.m 5 (.t 12)]))))))) (.seq (.r [.m 13 (.t 1),.m 0 (.t 13)]) (.ret))))⟩
theorem qm9 {g1:Nat} (hc:qw P f (yb g1) = true) (h1:qg P g1 [] (.agg (qp.flatMap (zp .u64)))):qg P f [] (.i .u64 2114060416):=by
 refine qg.mk hc rfl ?_
 simp only [yb,qi,H0,mkT,mkH,trL,vI,simprocAttr]
 simp only [↓vS,vT,shb,shv,qb,qc,cellsOf,wr,qa,simprocAttr]
 refine h1.sc ?_
 simp only [↓vS,vT,shb,shv,qb,qc,cellsOf,wr,qa,simprocAttr]
 iterate 8
  refine wt ?_
  simp only [↓vS,vT,shb,shv,qb,qc,cellsOf,wr,qa,simprocAttr,qp,zp,List.flatMap_cons,List.flatMap_nil,Int.reduceLT,Int.reduceAdd,Int.reduceNeg,qz,(by decide:orI .u64 0 128 = 128),(by decide:orI .u64 128 131072 = 131200),(by decide:orI .u64 131200 33554432 = 33685632),(by decide:orI .u64 33685632 67108864 = 100794496),(by decide:orI .u64 100794496 134217728 = 235012224),(by decide:orI .u64 235012224 268435456 = 503447680),(by decide:orI .u64 503447680 536870912 = 1040318592),(by decide:orI .u64 1040318592 1073741824 = 2114060416)]
 refine wt ?_
 simp only [↓vS,vT,shb,shv,qb,qc,cellsOf,wr,qa,simprocAttr,Int.reduceLT,vZ,and_self]
end Go.Kc
end
section
/- What slices.Clone answers: a row of one's own. Condition: the functions' texts are these. -/
namespace Go.Kc
variable {P:Program} {f:Nat}
def qbC (P:Program) (g esz bytes:Nat):Prop:=∀ (n:Nat) (rows:List AV),rows.length = n * esz → qK rows = true → qM rows = true → n ≤ qh → n * bytes ≤ qh → Own P g [.fz n rows] (.own 0 n) [.cells esz true true rows]
end Go.Kc
end
section
/- What strings.FieldsFunc answers, of any string and any predicate. Condition: the string is not too great; the functions' texts are these. -/
namespace Go.Kc
variable {P:Program} {f:Nat}
def qnf (b:Bool) (st:Option Nat) (i:Nat):Option Nat:=if b = true then none else (match st with | some s=>some s | none=>some i)
def qkm (b:Bool) (st:Option Nat) (i:Nat) (acc:List (Nat × Nat)):List (Nat × Nat):=if b = true then (match st with | some s=>acc ++ [(s,i)] | none=>acc) else acc
def qm5 (p:Int → Bool) (l:List UInt8) (i:Nat) (st:Option Nat) (acc:List (Nat × Nat)):List (Nat × Nat) × Option Nat :=
 if i < l.length then qm5 p l (i + (kg l i).2) (qnf (p (kg l i).1) st i) (qkm (p (kg l i).1) st i acc) else (acc,st)
termination_by l.length - i
decreasing_by have:=qmZ l i; omega
def qp3 (l:List UInt8) (st:Option Nat) (z:Int) (i:Nat):Prop:=match st with | some s=>z = (s:Int) ∧ s ≤ i ∧ s < l.length | none=>z < 0
structure St where
 i:Nat
 st:Option Nat
 acc:List (Nat × Nat)
 z:Int
structure StI (p:Int → Bool) (l:List UInt8) (a:St):Prop where
 z:qp3 l a.st a.z a.i
 lo:-1000001 ≤ a.z
 n:a.acc.length ≤ a.i
 m:a.acc.length ≤ l.length
 sp:∀ q ∈ a.acc,q.1 ≤ q.2 ∧ q.2 ≤ l.length
 eq:qm5 p l a.i a.st a.acc = qm5 p l 0 none []
end Go.Kc
end
section
/- What values.Words answers. Condition: the functions' texts are these. -/
namespace Go.Kc
variable {P:Program} {f:Nat}
end Go.Kc
end
section
/- Words, byte by byte. No condition. -/
namespace Go.Kc
end Go.Kc
end
section
/- Rows of numbers, of strings. No condition. -/
namespace Go.Kc
def rI (k:IntKind) (l:List Int):List AV:=l.map (.i k)
section
variable {k:IntKind} {l m:List Int} {j:Nat}
theorem qbW:(rI k l).length = l.length:=by simp [rI]
theorem qd:qK (rI k l) = true:=qcs fun _=>rfl
theorem zF:(rI k l)[j]? = (l[j]?).map (.i k):=by simp [rI]
theorem qdF:rI k l ++ rI k m = rI k (l ++ m):=by simp [rI]
end
def rS (l:List (List UInt8)):List AV:=l.map .s
section
variable {l m:List (List UInt8)} {j:Nat}
theorem qbZ:qK (rS l) = true:=qcs fun _=>rfl
theorem qmW:(rS l)[j]? = (l[j]?).map .s:=by simp [rS]
end
end Go.Kc
end
section
/- What searches by a function answer. Condition: the functions' texts are these. -/
namespace Go.Kc
variable {P:Program} {f:Nat}
def vu {α:Type} (p:α → Bool):List α → Nat → Int
 | [],_=>-1
 | x :: xs,j=>if p x = true then (j:Int) else vu p xs (j + 1)
theorem Zd {α:Type} (p:α → Bool):∀ (l:List α) (j:Nat),(vu p l j = -1 ∧ l.find? p = none) ∨ ∃ i x,vu p l j = ((j + i:Nat):Int) ∧ l[i]? = some x ∧ p x = true ∧ l.find? p = some x ∧ ∀ k y,k < i → l[k]? = some y → p y = false
 | [],j=>.inl ⟨rfl,rfl⟩
 | x :: xs,j=>by
  by_cases h:p x = true
  ·refine .inr ⟨0,x,by simp [vu,h],rfl,h,by simp [h],fun k y hk=>by omega⟩
  ·rcases Zd p xs (j + 1) with ⟨h1,h2⟩ | ⟨i,y,h1,h2,h3,h4,h5⟩
   ·exact .inl ⟨by simp [vu,h,h1],by simp [h,h2]⟩
   ·refine .inr ⟨i + 1,y,?_,by simpa using h2,h3,by simp [h,h4],?_⟩
    ·rw [vu,if_neg h,h1]; omega
    ·intro k z hk hz
     cases k with
     | zero=>simp at hz; subst hz; simpa using h
     | succ k=>exact h5 k z (by omega) (by simpa using hz)
def Q5 (m:Nat) (P:Program) (f:Nat):Prop:=∀ {α:Type} (enc:α → List AV) (p:α → Bool) (g:Nat) (a c:List AV) (l:List α),(∀ x,(enc x).length = m) → qK a = true → qK c = true → l.length ≤ qh →
 (∀ x ∈ l,qg P g (a ++ ([.agg (enc x)] ++ c)) (.b (p x))) → qg P f [.fz l.length (l.flatMap enc),.fn g a c] (.i .i64 (vu p l 0))
def zq:IFn:=⟨[.tmp 4],.seq (.r [.m 4 (.k 0)]) (.seq (.seq (.r [.m 6 (.t 0),.q 7 (.len false (.t 6)),.m 8 (.k 0)]) (.blk 0 (.loop (.seq (.r [.q 9 (.bin .lss (.t 8) (.t 7))]) (.seq (.cond (.t 9) (.skip) (.exit 0)) (.seq (.blk 1 (.seq (.r [.m 10 (.t 8),.m 5 (.t 10)]) (.seq (.r [.m 11 (.t 1),.m 12 (.t 0),.m 13 (.t 5),.q 14 (.iAddrS 7 (.t 12) (.t 13)),.q 15 (.loadN 7 (.t 14)),⟨(some 16),.callV (.t 11) [.t 15],none⟩]) (.cond (.t 16) (.seq (.r [.m 17 (.t 5),.m 4 (.t 17)]) (.ret)) (.skip))))) (.r [.q 18 (.bin .add (.t 8) (.k 1)),.m 8 (.t 18)]))))))) (.seq (.r [.q 4 (.mov (.c (.i .i64 (-1))))]) (.ret)))⟩
theorem qgK (hc:qw P f zq = true):Q5 7 P f:=by
 intro α enc p g a c l hlen ha hc' hl hp
 refine qg.mk hc (by simp [qK,clo,ha,hc']) ?_
 simp only [zq,qi,H0,mkT,mkH,trL,vI,simprocAttr]
 simp only [↓vS,vT,shb,shv,qb,qc,cellsOf,wr,qa,simprocAttr]
 refine SL.loop (α:=Nat) (fun j=>[(0,.fz l.length (l.flatMap enc)),(1,.fn g a c),(7,.i .i64 l.length),(8,.i .i64 j)]) (fun _=>[]) (fun j=>j ≤ l.length ∧ vu p l 0 = vu p (l.drop j) j) (fun j=>l.length - j) 0 [] ?_ ?_ ?_ rfl ?_ ?_
 ·simp [vw,qk,ha,hc']
 ·trivial
 ·simp
 ·simp
 rintro j ⟨hj,hI⟩ G ih
 simp only [qi,H0,mkT,mkH,trL,vI,simprocAttr]
 by_cases hlt:j < l.length
 ·have hx:l[j]? = some l[j]:=List.getElem?_eq_getElem hlt
  have hw:IntKind.wrap .i64 ((j:Int) + 1) = (j:Int) + 1:=qz (by omega) (by have:=hl; simp only [qh] at this; omega)
  have he:=xz hlen hx
  have hb:j * 7 + 7 ≤ (l.flatMap enc).length:=by rw [xc hlen]; omega
  rw [List.drop_eq_getElem_cons hlt,vu] at hI
  simp only [↓vS,vT,shb,shv,qb,qc,cellsOf,wr,qa,simprocAttr,hlt,hb,he,hw]
  refine (hp l[j] (List.getElem_mem hlt)).sc ?_
  by_cases hpx:p l[j] = true
  ·rw [if_pos hpx] at hI
   simp only [↓vS,vT,shb,shv,qb,qc,cellsOf,wr,qa,simprocAttr,hpx,vZ,hI]
  ·rw [if_neg hpx] at hI
   simp only [↓vS,vT,shb,shv,qb,qc,cellsOf,wr,qa,simprocAttr,hpx,hw]
   refine ih (j + 1) ⟨by omega,hI⟩ (by omega) _ _ (Wk.mk _ _ [] ?_ ?_ ?_ rfl)
   ·simp [vw,qk,ha,hc']
   ·trivial
   ·simp
 ·simp only [↓vS,vT,shb,shv,qb,qc,cellsOf,wr,qa,simprocAttr,hlt]
  rw [List.drop_eq_nil_of_le (by omega)] at hI
  simp [hI,vu,vZ]
def zL:IFn:=⟨[.tmp 4],.seq (.r [.m 4 (.k 0)]) (.seq (.seq (.r [.m 6 (.t 0),.q 7 (.len false (.t 6)),.m 8 (.k 0)]) (.blk 0 (.loop (.seq (.r [.q 9 (.bin .lss (.t 8) (.t 7))]) (.seq (.cond (.t 9) (.skip) (.exit 0)) (.seq (.blk 1 (.seq (.r [.m 10 (.t 8),.m 5 (.t 10)]) (.seq (.r [.m 11 (.t 1),.m 12 (.t 0),.m 13 (.t 5),.q 14 (.iAddrS 2 (.t 12) (.t 13)),.q 15 (.loadN 2 (.t 14)),⟨(some 16),.callV (.t 11) [.t 15],none⟩]) (.cond (.t 16) (.seq (.r [.m 17 (.t 5),.m 4 (.t 17)]) (.ret)) (.skip))))) (.r [.q 18 (.bin .add (.t 8) (.k 1)),.m 8 (.t 18)]))))))) (.seq (.r [.q 4 (.mov (.c (.i .i64 (-1))))]) (.ret)))⟩
theorem qd4 (hc:qw P f zL = true):Q5 2 P f:=by
 intro α enc p g a c l hlen ha hc' hl hp
 refine qg.mk hc (by simp [qK,clo,ha,hc']) ?_
 simp only [zL,qi,H0,mkT,mkH,trL,vI,simprocAttr]
 simp only [↓vS,vT,shb,shv,qb,qc,cellsOf,wr,qa,simprocAttr]
 refine SL.loop (α:=Nat) (fun j=>[(0,.fz l.length (l.flatMap enc)),(1,.fn g a c),(7,.i .i64 l.length),(8,.i .i64 j)]) (fun _=>[]) (fun j=>j ≤ l.length ∧ vu p l 0 = vu p (l.drop j) j) (fun j=>l.length - j) 0 [] ?_ ?_ ?_ rfl ?_ ?_
 ·simp [vw,qk,ha,hc']
 ·trivial
 ·simp
 ·simp
 rintro j ⟨hj,hI⟩ G ih
 simp only [qi,H0,mkT,mkH,trL,vI,simprocAttr]
 by_cases hlt:j < l.length
 ·have hx:l[j]? = some l[j]:=List.getElem?_eq_getElem hlt
  have hw:IntKind.wrap .i64 ((j:Int) + 1) = (j:Int) + 1:=qz (by omega) (by have:=hl; simp only [qh] at this; omega)
  have he:=xz hlen hx
  have hb:j * 2 + 2 ≤ (l.flatMap enc).length:=by rw [xc hlen]; omega
  rw [List.drop_eq_getElem_cons hlt,vu] at hI
  simp only [↓vS,vT,shb,shv,qb,qc,cellsOf,wr,qa,simprocAttr,hlt,hb,he,hw]
  refine (hp l[j] (List.getElem_mem hlt)).sc ?_
  by_cases hpx:p l[j] = true
  ·rw [if_pos hpx] at hI
   simp only [↓vS,vT,shb,shv,qb,qc,cellsOf,wr,qa,simprocAttr,hpx,vZ,hI]
  ·rw [if_neg hpx] at hI
   simp only [↓vS,vT,shb,shv,qb,qc,cellsOf,wr,qa,simprocAttr,hpx,hw]
   refine ih (j + 1) ⟨by omega,hI⟩ (by omega) _ _ (Wk.mk _ _ [] ?_ ?_ ?_ rfl)
   ·simp [vw,qk,ha,hc']
   ·trivial
   ·simp
 ·simp only [↓vS,vT,shb,shv,qb,qc,cellsOf,wr,qa,simprocAttr,hlt]
  rw [List.drop_eq_nil_of_le (by omega)] at hI
  simp [hI,vu,vZ]
end Go.Kc
end
section
/- What slices.DeleteFunc makes of a row of one's own. Condition: the functions' texts are these. -/
namespace Go.Kc
variable {P:Program} {f:Nat}
end Go.Kc
end
section
/- What slices.Insert makes of a row of one's own. Condition: the functions' texts are these. -/
namespace Go.Kc
variable {P:Program} {f:Nat}
end Go.Kc
end
section
/- What binary searches answer; a list with a number more or less. Condition: the functions' texts are these. -/
namespace Go.Kc
variable {P:Program} {f:Nat}
def qdc:IFn:=⟨[.tmp 2],.seq (.r [.m 2 (.c (.b false))]) (.seq (.r [.m 3 (.t 0),.m 4 (.t 0),.q 5 (.bin .neq (.t 3) (.t 4)),.m 2 (.t 5)]) (.ret))⟩
end Go.Kc
end
section
/- A list with a number more or less, as the program makes it. Condition: the functions' texts are these. -/
namespace Go.Kc
variable {P:Program} {f:Nat}
end Go.Kc
end
section
/- What arch.Parse answers. Condition: the functions' texts are these. -/
namespace Go.Kc
variable {P:Program} {f:Nat}
def kA:List (List UInt8 × Int):=[([120,56,54,45,54,52],3221225534),([120,56,54],1073741827),([120,51,50],3221225534),([97,114,109],1073741864),([97,114,109,54,52],3221225655),([114,105,115,99,118,54,52],3221225715)]
def y8:IFn:=⟨[.cell 0 12 true],.seq (.r [.q 0 (.alloc [.s [],.i .u32 0,.s [],.i .u32 0,.s [],.i .u32 0,.s [],.i .u32 0,.s [],.i .u32 0,.s [],.i .u32 0])]) (.seq (.r [.q 1 (.build [.s [],.i .u32 0] [(0,1,(.c (.s [120,56,54,45,54,52]))),(1,1,(.c (.i .u32 3221225534)))]),.q 2 (.build [.s [],.i .u32 0] [(0,1,(.c (.s [120,56,54]))),(1,1,(.c (.i .u32 1073741827)))]),.q 3 (.build [.s [],.i .u32 0] [(0,1,(.c (.s [120,51,50]))),(1,1,(.c (.i .u32 3221225534)))]),.q 4 (.build [.s [],.i .u32 0] [(0,1,(.c (.s [97,114,109]))),(1,1,(.c (.i .u32 1073741864)))]),.q 5 (.build [.s [],.i .u32 0] [(0,1,(.c (.s [97,114,109,54,52]))),(1,1,(.c (.i .u32 3221225655)))]),.q 6 (.build [.s [],.i .u32 0] [(0,1,(.c (.s [114,105,115,99,118,54,52]))),(1,1,(.c (.i .u32 3221225715)))]),.q 7 (.build [.s [],.i .u32 0,.s [],.i .u32 0,.s [],.i .u32 0,.s [],.i .u32 0,.s [],.i .u32 0,.s [],.i .u32 0] [(0,2,(.t 1)),(2,2,(.t 2)),(4,2,(.t 3)),(6,2,(.t 4)),(8,2,(.t 5)),(10,2,(.t 6))]),.u (.store 12 (.t 0) (.t 7))]) (.ret))⟩
theorem qlb (hc:qw P f y8 = true):qg P f [] (.agg (kA.flatMap (zp .u32))):=by
 refine qg.mk hc rfl ?_
 simp only [y8,qi,H0,mkT,mkH,trL,vI,simprocAttr]
 simp only [↓vS,vT,shb,shv,qb,qc,cellsOf,wr,qa,simprocAttr,kA,zp,List.flatMap_cons,List.flatMap_nil,vZ]
end Go.Kc
end
section
/- Calls, lists, policies, assignments, notes: the program's structs as Lean's. No condition. -/
namespace Go.Kc
structure GCall where
 name:List UInt8
 act:Int
def kj (c:GCall):List AV:=[.s c.name,.i .u32 c.act]
structure GNote where
 file:List UInt8
 line:Int
 err:Int
 text:List UInt8
structure Asg where
 file:List UInt8
 line:Int
 sec:List UInt8
 key:List UInt8
 val:List UInt8
def qf2 (a:Asg):List AV:=[.s a.file,.i .i64 a.line,.s a.sec,.s a.key,.s a.val]
theorem yS (c:GCall):(kj c).length = 2:=rfl
def rC (l:List GCall):List AV:=l.flatMap kj
section
variable {l m:List GCall} {j:Nat}
theorem qmU:(rC l).length = l.length * 2:=xc yS l
theorem qf:qK (rC l) = true:=ko fun _=>rfl
theorem qbV {c:GCall} (h:l[j]? = some c):((rC l).drop (j * 2)).take 2 = kj c:=xz yS h
theorem kT {c:GCall} (h:l[j]? = some c) {i:Nat} (hi:i < 2):(rC l)[j * 2 + i]? = (kj c)[i]?:=ve yS h hi
theorem qaV (h:j < l.length):j * 2 + 2 ≤ (rC l).length:=by rw [qmU]; omega
end
section
variable {l m:List GNote} {j:Nat}
end
structure GList where
 mode:Int
 calls:List GCall
def zj (l:GList):List AV:=[.i .u8 l.mode,.fz l.calls.length (rC l.calls)]
structure Pol where
 arches:List Int
 filter:GList
 deny:Int
 log:GList
 fams:List Int
 fmode:Int
 spaces:Int
 we:Bool
 pe:Bool
 rt:Bool
 np:Bool
def qj (p:Pol):List AV:=[.fz p.arches.length (rI .i64 p.arches),.i .u8 p.filter.mode,.fz p.filter.calls.length (rC p.filter.calls),.i .u32 p.deny,.i .u8 p.log.mode,.fz p.log.calls.length (rC p.log.calls),
 .fz p.fams.length (rI .u32 p.fams),.i .u8 p.fmode,.i .u64 p.spaces,.b p.we,.b p.pe,.b p.rt,.b p.np]
end Go.Kc
end
section
/- What the setter's methods do: notes, yes and no. Condition: the functions' texts are these. -/
namespace Go.Kc
variable {P:Program} {f:Nat}
end Go.Kc
end
section
/- What the setter's methods do: yes and no by their keys; architectures. Condition: the functions' texts are these. -/
namespace Go.Kc
variable {P:Program} {f:Nat}
end Go.Kc
end
section
/- What the setter makes of families. Condition: the functions' texts are these. -/
namespace Go.Kc
variable {P:Program} {f:Nat}
end Go.Kc
end
section
/- What the setter makes of namespaces. Condition: the functions' texts are these. -/
namespace Go.Kc
variable {P:Program} {f:Nat}
end Go.Kc
end
section
/- What restrict.Set answers. Condition: the functions' texts are these. -/
namespace Go.Kc
variable {P:Program} {f:Nat}
theorem qbC.pure {g esz by':Nat} (h:qbC P g esz by') {n:Nat} {rows:List AV} (hl:rows.length = n * esz) (hc:qK rows = true) (ho:qM rows = true) (h1:n ≤ qh) (h2:n * by' ≤ qh):qg P g [.fz n rows] (.fz n rows):=by
 refine (h n rows hl hc ho h1 h2).pure (by simp [qK,clo]) ?_
 refine .own 0 n esz true rows rows ?_ (fun h0=>?_) (Frzs.self hc)
 ·simp [xO,Hp.push,shb,H0,Tr.get_set,j7 hc]
 ·subst h0; exact List.eq_nil_of_length_eq_zero (by omega)
structure PolOk (p:Pol):Prop where
 a:p.arches.length ≤ 1000
 f:p.fams.length ≤ 1000
 c:p.filter.calls.length ≤ 1000
 l:p.log.calls.length ≤ 1000
end Go.Kc
end
section
/- What restrict.Set and restrict.Key answer. Condition: the functions' texts are these. -/
namespace Go.Kc
variable {P:Program} {f:Nat}
end Go.Kc
end
section
/- The law RestrictSpaces. Condition: the functions' texts are these. -/
namespace Go.Kc
variable {P:Program} {f:Nat}
end Go.Kc
end
section
/- What a setter leaves: lists that rise still rise, only the named field differs, every note tells of a fault. No condition. -/
namespace Go.Kc
def qn4 (p:Pol):Prop:=p.arches.Pairwise (· < ·) ∧ p.fams.Pairwise (· < ·)
instance (p:Pol):Decidable (qn4 p):=inferInstanceAs (Decidable (_ ∧ _))
end Go.Kc
end
section
/- What the small functions of the law RestrictOwn answer. Condition: the functions' texts are these. -/
namespace Go.Kc
variable {P:Program} {f:Nat}
def jD:IFn:=⟨[.tmp 2],.seq (.r [.q 1 (.box (.t 0)),.m 2 (.c (.b false))]) (.seq (.r [.q 3 (.fAddr 1 (.t 1)),.q 4 (.load1 (.t 3)),.q 5 (.len false (.t 4)),.q 6 (.bin .gtr (.t 5) (.k 100)),.m 2 (.t 6)]) (.ret))⟩
def wU (l:GList):Bool:=decide (100 < l.calls.length)
theorem qi7 (hc:qw P f jD = true) (l:GList):qg P f [.agg (zj l)] (.b (wU l)):=by
 refine qg.mk hc rfl ?_
 simp only [jD,zj,qi,H0,mkT,mkH,trL,vI,simprocAttr]
 by_cases h:(100:Int) < l.calls.length
 ·have h':100 < l.calls.length:=by omega
  simp only [↓vS,vT,shb,shv,qb,qc,cellsOf,wr,qa,simprocAttr,h,wU,h',vZ]
 ·have h':¬ 100 < l.calls.length:=by omega
  simp only [↓vS,vT,shb,shv,qb,qc,cellsOf,wr,qa,simprocAttr,h,wU,h',vZ]
def jE (f_vestibulelaw16_Great:Nat):IFn:=⟨[.tmp 4],.seq (.r [.q 2 (.box (.t 0)),.q 3 (.box (.t 1)),.m 4 (.c (.b false))]) (.seq (.r [.q 5 (.fAddr 0 (.t 2)),.q 6 (.load1 (.t 5)),.q 7 (.len false (.t 6)),.q 8 (.bin .gtr (.t 7) (.k 20)),.m 9 (.t 8),.g 10 (.fAddr 6 (.t 2)) 9 false,.g 11 (.load1 (.t 10)) 9 false,.g 12 (.len false (.t 11)) 9 false,.g 13 (.bin .gtr (.t 12) (.k 20)) 9 false,.q 14 (.pick (.t 9) (.c (.b true)) (.t 13)),.m 15 (.t 14),.g 16 (.fAddr 1 (.t 2)) 15 false,.g 17 (.loadN 2 (.t 16)) 15 false,⟨(some 18),.callF f_vestibulelaw16_Great [.t 17],(some (15,false))⟩,.q 19 (.pick (.t 15) (.c (.b true)) (.t 18)),.m 20 (.t 19),.g 21 (.fAddr 4 (.t 2)) 20 false,.g 22 (.loadN 2 (.t 21)) 20 false,⟨(some 23),.callF f_vestibulelaw16_Great [.t 22],(some (20,false))⟩,.q 24 (.pick (.t 20) (.c (.b true)) (.t 23)),.m 25 (.t 24),.g 26 (.fAddr 4 (.t 3)) 25 false,.g 27 (.load1 (.t 26)) 25 false,.g 28 (.len true (.t 27)) 25 false,.g 29 (.bin .gtr (.t 28) (.k 1000)) 25 false,.q 30 (.pick (.t 25) (.c (.b true)) (.t 29)),.m 31 (.t 30),.g 32 (.fAddr 3 (.t 3)) 31 false,.g 33 (.load1 (.t 32)) 31 false,.g 34 (.len true (.t 33)) 31 false,.g 35 (.bin .gtr (.t 34) (.k 200)) 31 false,.q 36 (.pick (.t 31) (.c (.b true)) (.t 35)),.m 37 (.t 36),.g 38 (.fAddr 0 (.t 3)) 37 false,.g 39 (.load1 (.t 38)) 37 false,.g 40 (.len true (.t 39)) 37 false,.g 41 (.bin .gtr (.t 40) (.k 200)) 37 false,.q 42 (.pick (.t 37) (.c (.b true)) (.t 41)),.m 4 (.t 42)]) (.ret))⟩
def zS (p:Pol) (a:Asg):Bool:=decide (20 < p.arches.length) || decide (20 < p.fams.length) || wU p.filter || wU p.log || decide (1000 < a.val.length) || decide (200 < a.key.length) || decide (200 < a.file.length)
theorem qi8 {g:Nat} (hc:qw P f (jE g) = true) (hg:∀ l,qg P g [.agg (zj l)] (.b (wU l))) (p:Pol) (a:Asg):qg P f [.agg (qj p),.agg (qf2 a)] (.b (zS p a)):=by
 have cast:∀ (n m:Nat),((n:Int) < (m:Int)) = (n < m):=fun n m=>by simp
 refine qg.mk hc rfl ?_
 simp only [jE,qj,qf2,qi,H0,mkT,mkH,trL,vI,simprocAttr]
 by_cases h1:(20:Int) < p.arches.length
 ·have h1':20 < p.arches.length:=by omega
  simp only [↓vS,vT,shb,shv,qb,qc,cellsOf,wr,qa,simprocAttr,h1,zS,h1',vZ]
  simp
 have h1':¬ 20 < p.arches.length:=by omega
 by_cases h2:(20:Int) < p.fams.length
 ·have h2':20 < p.fams.length:=by omega
  simp only [↓vS,vT,shb,shv,qb,qc,cellsOf,wr,qa,simprocAttr,h1,h2,zS,h1',h2',vZ]
  simp
 have h2':¬ 20 < p.fams.length:=by omega
 simp only [↓vS,vT,shb,shv,qb,qc,cellsOf,wr,qa,simprocAttr,h1,h2]
 refine (hg p.filter).sc ?_
 cases h3:wU p.filter
 case true =>
  simp only [↓vS,vT,shb,shv,qb,qc,cellsOf,wr,qa,simprocAttr]
  simp [zS,h3,vZ]
 simp only [↓vS,vT,shb,shv,qb,qc,cellsOf,wr,qa,simprocAttr]
 refine (hg p.log).sc ?_
 cases h4:wU p.log
 case true =>
  simp only [↓vS,vT,shb,shv,qb,qc,cellsOf,wr,qa,simprocAttr]
  simp [zS,h4,vZ]
 by_cases h5:(1000:Int) < a.val.length
 ·have h5':1000 < a.val.length:=by omega
  simp only [↓vS,vT,shb,shv,qb,qc,cellsOf,wr,qa,simprocAttr,h5]
  simp [zS,h5',vZ]
 have h5':¬ 1000 < a.val.length:=by omega
 by_cases h6:(200:Int) < a.key.length
 ·have h6':200 < a.key.length:=by omega
  simp only [↓vS,vT,shb,shv,qb,qc,cellsOf,wr,qa,simprocAttr,h5,h6]
  simp [zS,h6',vZ]
 have h6':¬ 200 < a.key.length:=by omega
 by_cases h7:(200:Int) < a.file.length
 ·have h7':200 < a.file.length:=by omega
  simp only [↓vS,vT,shb,shv,qb,qc,cellsOf,wr,qa,simprocAttr,h5,h6,h7]
  simp [zS,h7',vZ]
 have h7':¬ 200 < a.file.length:=by omega
 simp only [↓vS,vT,shb,shv,qb,qc,cellsOf,wr,qa,simprocAttr,h5,h6,h7]
 simp [zS,h1',h2',h3,h4,h5',h6',h7',vZ]
end Go.Kc
end
section
/- Does a policy rise. Condition: the function's text is this. -/
namespace Go.Kc
variable {P:Program} {f:Nat}
end Go.Kc
end
section
/- The law RestrictOwn: whatever the policy and the assignment, true comes back. Condition: the functions' texts are these. -/
namespace Go.Kc
variable {P:Program} {f:Nat}
theorem qaI {p:Pol} {a:Asg} (h:zS p a = false):p.arches.length ≤ 20 ∧ p.fams.length ≤ 20 ∧ PolOk p ∧ a.val.length ≤ 1000:=by
 simp only [zS,wU,Bool.or_eq_false_iff,decide_eq_false_iff_not] at h
 obtain ⟨⟨⟨⟨⟨⟨h1,h2⟩,h3⟩,h4⟩,h5⟩,h6⟩,h7⟩:=h
 exact ⟨by omega,by omega,⟨by omega,by omega,by omega,by omega⟩,by omega⟩
end Go.Kc
end
section
/- What the names of faults answer, the program's and the reference's. Condition: the functions' texts are these. -/
namespace Go.Kc
variable {P:Program} {f:Nat}
end Go.Kc
end
section
/- The law FilterKeys: the program's way. Condition: the functions' texts are these. -/
namespace Go.Kc
variable {P:Program} {f:Nat}
end Go.Kc
end
section
/- The small functions of fold: what they answer. Condition: the functions' texts are these. -/
namespace Go.Kc
variable {P:Program} {f:Nat}
def yz:IFn:=⟨[.tmp 2],.seq (.r [.m 2 (.c (.b false))]) (.seq (.r [.m 3 (.t 0),.q 4 (.bin .eql (.t 3) (.c (.i .u32 0))),.m 5 (.t 4),.g 6 (.mov (.t 0)) 5 false,.g 7 (.bin .eql (.t 6) (.c (.i .u32 2147483648))) 5 false,.q 8 (.pick (.t 5) (.c (.b true)) (.t 7)),.m 9 (.t 8),.g 10 (.mov (.t 0)) 9 false,.g 11 (.bin .geq (.t 10) (.c (.i .u32 327680))) 9 false,.g 12 (.mov (.t 11)) 9 false,.g 13 (.mov (.t 0)) 12 true,.g 14 (.bin .leq (.t 13) (.c (.i .u32 331775))) 12 true,.g 15 (.pick (.t 12) (.t 14) (.c (.b false))) 9 false,.q 16 (.pick (.t 9) (.c (.b true)) (.t 15)),.m 2 (.t 16)]) (.ret))⟩
def yk (n:Int):Bool:=decide (n = 0) || decide (n = 2147483648) || (decide (327680 ≤ n) && decide (n ≤ 331775))
theorem qks (hc:qw P f yz = true) (n:Int):qg P f [.i .u32 n] (.b (yk n)):=by
 refine qg.mk hc rfl ?_
 simp only [yz,qi,H0,mkT,mkH,trL,vI,simprocAttr]
 by_cases h1:n = 0
 ·simp only [↓vS,vT,shb,shv,qb,qc,cellsOf,wr,qa,simprocAttr,h1]
  simp [vZ,yk,h1]
 by_cases h2:n = 2147483648
 ·simp only [↓vS,vT,shb,shv,qb,qc,cellsOf,wr,qa,simprocAttr,h1,h2]
  simp [vZ,yk,h2]
 by_cases h3:327680 ≤ n
 ·by_cases h4:n ≤ 331775
  ·simp only [↓vS,vT,shb,shv,qb,qc,cellsOf,wr,qa,simprocAttr,h1,h2,h3,h4]
   simp [vZ,yk,h3,h4]
  ·simp only [↓vS,vT,shb,shv,qb,qc,cellsOf,wr,qa,simprocAttr,h1,h2,h3,h4]
   simp [vZ,yk,h1,h2,h4]
 ·simp only [↓vS,vT,shb,shv,qb,qc,cellsOf,wr,qa,simprocAttr,h1,h2,h3]
  simp [vZ,yk,h1,h2,h3]
def xy (l:List GCall) (s:List UInt8):Option GCall:=l.find? (fun c=>decide (c.name = s))
end Go.Kc
end
section
/- A binary search among calls by a function; a list of calls without some. Condition: the functions' texts are these. -/
namespace Go.Kc
variable {P:Program} {f:Nat}
end Go.Kc
end
section
/- What slices.DeleteFunc makes of a row of calls of one's own. Condition: the functions' texts are these. -/
namespace Go.Kc
variable {P:Program} {f:Nat}
end Go.Kc
end
section
/- Is a call known. Condition: the functions' texts are these. -/
namespace Go.Kc
variable {P:Program} {f:Nat}
def qH:List (List UInt8 × List Int):=[([98,105,110,100],[49,361,49,282,200,200]),([98,112,102],[321,357,321,386,280,280]),([98,114,107],[12,45,12,45,214,214]),([99,108,111,99,107,95,115,101,116,116,105,109,101],[227,264,227,262,112,112]),([99,108,111,110,101],[56,120,56,120,220,220]),([99,108,111,110,101,51],[435,435,(-1),435,435,435]),([99,108,111,115,101],[3,6,3,6,57,57]),([99,111,110,110,101,99,116],[42,362,42,283,203,203]),([100,101,108,101,116,101,95,109,111,100,117,108,101],[176,129,176,129,106,106]),([101,120,101,99,118,101],[59,11,520,11,221,221]),([101,120,105,116],[60,1,60,1,93,93]),([102,105,110,105,116,95,109,111,100,117,108,101],[313,350,313,379,273,273]),([102,111,114,107],[57,2,57,2,(-1),(-1)]),([103,101,116,117,105,100],[102,24,102,24,174,174]),([105,110,105,116,95,109,111,100,117,108,101],[175,128,(-1),128,105,105]),([105,111,99,116,108],[16,54,514,54,29,29]),([107,105,108,108],[62,37,62,37,129,129]),([108,105,115,116,101,110],[50,363,50,284,201,201]),([109,109,97,112],[9,90,9,(-1),222,222]),([109,111,117,110,116],[165,21,165,21,40,40]),([109,112,114,111,116,101,99,116],[10,125,10,125,226,226]),([109,117,110,109,97,112],[11,91,11,91,215,215]),([111,112,101,110],[2,5,2,5,(-1),(-1)]),([111,112,101,110,97,116],[257,295,257,322,56,56]),([112,101,114,115,111,110,97,108,105,116,121],[135,136,135,136,92,92]),([112,107,101,121,95,109,112,114,111,116,101,99,116],[329,380,329,394,288,(-1)]),([112,116,114,97,99,101],[101,26,521,26,117,117]),([114,101,97,100],[0,3,0,3,63,63]),([114,101,98,111,111,116],[169,88,169,88,142,142]),([115,99,104,101,100,95,115,101,116,97,116,116,114],[314,351,314,380,274,274]),([115,99,104,101,100,95,115,101,116,115,99,104,101,100,117,108,101,114],[144,156,144,156,119,119]),([115,101,99,99,111,109,112],[317,354,317,383,277,277]),([115,101,116,110,115],[308,346,308,375,268,268]),([115,101,116,116,105,109,101,111,102,100,97,121],[164,79,164,79,170,170]),([115,101,116,117,105,100],[105,23,105,23,146,146]),([115,104,109,97,116],[30,397,(-1),305,196,196]),([115,111,99,107,101,116],[41,359,41,281,198,198]),([117,109,111,117,110,116,50],[166,52,166,52,39,39]),([117,110,115,104,97,114,101],[272,310,272,337,97,97]),([119,114,105,116,101],[1,4,1,4,64,64])]
def xP (x:List UInt8 × List Int):List AV:=[.s x.1,.i .i64 (x.2.getD 0 0),.i .i64 (x.2.getD 1 0),.i .i64 (x.2.getD 2 0),.i .i64 (x.2.getD 3 0),.i .i64 (x.2.getD 4 0),.i .i64 (x.2.getD 5 0)]
theorem qc3 (x:List UInt8 × List Int):(xP x).length = 7:=rfl
def yy:IFn:=⟨[.cell 0 280 true],.seq (.r [.q 0 (.alloc [.s [],.i .i64 0,.i .i64 0,.i .i64 0,.i .i64 0,.i .i64 0,.i .i64 0,.s [],.i .i64 0,.i .i64 0,.i .i64 0,.i .i64 0,.i .i64 0,.i .i64 0,.s [],.i .i64 0,.i .i64 0,.i .i64 0,.i .i64 0,.i .i64 0,.i .i64 0,.s [],.i .i64 0,.i .i64 0,.i .i64 0,.i .i64 0,.i .i64 0,.i .i64 0,.s [],.i .i64 0,.i .i64 0,.i .i64 0,.i .i64 0,.i .i64 0,.i .i64 0,.s [],.i .i64 0,.i .i64 0,.i .i64 0,.i .i64 0,.i .i64 0,.i .i64 0,.s [],.i .i64 0,.i .i64 0,.i .i64 0,.i .i64 0,.i .i64 0,.i .i64 0,.s [],.i .i64 0,.i .i64 0,.i .i64 0,.i .i64 0,.i .i64 0,.i .i64 0,.s [],.i .i64 0,.i .i64 0,.i .i64 0,.i .i64 0,.i .i64 0,.i .i64 0,.s [],.i .i64 0,.i .i64 0,.i .i64 0,.i .i64 0,.i .i64 0,.i .i64 0,.s [],.i .i64 0,.i .i64 0,.i .i64 0,.i .i64 0,.i .i64 0,.i .i64 0,.s [],.i .i64 0,.i .i64 0,.i .i64 0,.i .i64 0,.i .i64 0,.i .i64 0,.s [],.i .i64 0,.i .i64 0,.i .i64 0,.i .i64 0,.i .i64 0,.i .i64 0,.s [],.i .i64 0,.i .i64 0,.i .i64 0,.i .i64 0,.i .i64 0,.i .i64 0,.s [],.i .i64 0,.i .i64 0,.i .i64 0,.i .i64 0,.i .i64 0,.i .i64 0,.s [],.i .i64 0,.i .i64 0,.i .i64 0,.i .i64 0,.i .i64 0,.i .i64 0,.s [],.i .i64 0,.i .i64 0,.i .i64 0,.i .i64 0,.i .i64 0,.i .i64 0,.s [],.i .i64 0,.i .i64 0,.i .i64 0,.i .i64 0,.i .i64 0,.i .i64 0,.s [],.i .i64 0,.i .i64 0,.i .i64 0,.i .i64 0,.i .i64 0,.i .i64 0,.s [],.i .i64 0,.i .i64 0,.i .i64 0,.i .i64 0,.i .i64 0,.i .i64 0,.s [],.i .i64 0,.i .i64 0,.i .i64 0,.i .i64 0,.i .i64 0,.i .i64 0,.s [],.i .i64 0,.i .i64 0,.i .i64 0,.i .i64 0,.i .i64 0,.i .i64 0,.s [],.i .i64 0,.i .i64 0,.i .i64 0,.i .i64 0,.i .i64 0,.i .i64 0,.s [],.i .i64 0,.i .i64 0,.i .i64 0,.i .i64 0,.i .i64 0,.i .i64 0,.s [],.i .i64 0,.i .i64 0,.i .i64 0,.i .i64 0,.i .i64 0,.i .i64 0,.s [],.i .i64 0,.i .i64 0,.i .i64 0,.i .i64 0,.i .i64 0,.i .i64 0,.s [],.i .i64 0,.i .i64 0,.i .i64 0,.i .i64 0,.i .i64 0,.i .i64 0,.s [],.i .i64 0,.i .i64 0,.i .i64 0,.i .i64 0,.i .i64 0,.i .i64 0,.s [],.i .i64 0,.i .i64 0,.i .i64 0,.i .i64 0,.i .i64 0,.i .i64 0,.s [],.i .i64 0,.i .i64 0,.i .i64 0,.i .i64 0,.i .i64 0,.i .i64 0,.s [],.i .i64 0,.i .i64 0,.i .i64 0,.i .i64 0,.i .i64 0,.i .i64 0,.s [],.i .i64 0,.i .i64 0,.i .i64 0,.i .i64 0,.i .i64 0,.i .i64 0,.s [],.i .i64 0,.i .i64 0,.i .i64 0,.i .i64 0,.i .i64 0,.i .i64 0,.s [],.i .i64 0,.i .i64 0,.i .i64 0,.i .i64 0,.i .i64 0,.i .i64 0,.s [],.i .i64 0,.i .i64 0,.i .i64 0,.i .i64 0,.i .i64 0,.i .i64 0,.s [],.i .i64 0,.i .i64 0,.i .i64 0,.i .i64 0,.i .i64 0,.i .i64 0,.s [],.i .i64 0,.i .i64 0,.i .i64 0,.i .i64 0,.i .i64 0,.i .i64 0,.s [],.i .i64 0,.i .i64 0,.i .i64 0,.i .i64 0,.i .i64 0,.i .i64 0,.s [],.i .i64 0,.i .i64 0,.i .i64 0,.i .i64 0,.i .i64 0,.i .i64 0,.s [],.i .i64 0,.i .i64 0,.i .i64 0,.i .i64 0,.i .i64 0,.i .i64 0])]) (.seq (.r [.q 1 (.build [.i .i64 0,.i .i64 0,.i .i64 0,.i .i64 0,.i .i64 0,.i .i64 0] [(0,1,(.k 49)),(1,1,(.k 361)),(2,1,(.k 49)),(3,1,(.k 282)),(4,1,(.k 200)),(5,1,(.k 200))]),.q 2 (.build [.s [],.i .i64 0,.i .i64 0,.i .i64 0,.i .i64 0,.i .i64 0,.i .i64 0] [(0,1,(.c (.s [98,105,110,100]))),(1,6,(.t 1))]),.q 3 (.build [.i .i64 0,.i .i64 0,.i .i64 0,.i .i64 0,.i .i64 0,.i .i64 0] [(0,1,(.k 321)),(1,1,(.k 357)),(2,1,(.k 321)),(3,1,(.k 386)),(4,1,(.k 280)),(5,1,(.k 280))]),.q 4 (.build [.s [],.i .i64 0,.i .i64 0,.i .i64 0,.i .i64 0,.i .i64 0,.i .i64 0] [(0,1,(.c (.s [98,112,102]))),(1,6,(.t 3))]),.q 5 (.build [.i .i64 0,.i .i64 0,.i .i64 0,.i .i64 0,.i .i64 0,.i .i64 0] [(0,1,(.k 12)),(1,1,(.k 45)),(2,1,(.k 12)),(3,1,(.k 45)),(4,1,(.k 214)),(5,1,(.k 214))]),.q 6 (.build [.s [],.i .i64 0,.i .i64 0,.i .i64 0,.i .i64 0,.i .i64 0,.i .i64 0] [(0,1,(.c (.s [98,114,107]))),(1,6,(.t 5))]),.q 7 (.build [.i .i64 0,.i .i64 0,.i .i64 0,.i .i64 0,.i .i64 0,.i .i64 0] [(0,1,(.k 227)),(1,1,(.k 264)),(2,1,(.k 227)),(3,1,(.k 262)),(4,1,(.k 112)),(5,1,(.k 112))]),.q 8 (.build [.s [],.i .i64 0,.i .i64 0,.i .i64 0,.i .i64 0,.i .i64 0,.i .i64 0] [(0,1,(.c (.s [99,108,111,99,107,95,115,101,116,116,105,109,101]))),(1,6,(.t 7))]),.q 9 (.build [.i .i64 0,.i .i64 0,.i .i64 0,.i .i64 0,.i .i64 0,.i .i64 0] [(0,1,(.k 56)),(1,1,(.k 120)),(2,1,(.k 56)),(3,1,(.k 120)),(4,1,(.k 220)),(5,1,(.k 220))]),.q 10 (.build [.s [],.i .i64 0,.i .i64 0,.i .i64 0,.i .i64 0,.i .i64 0,.i .i64 0] [(0,1,(.c (.s [99,108,111,110,101]))),(1,6,(.t 9))]),.q 11 (.build [.i .i64 0,.i .i64 0,.i .i64 0,.i .i64 0,.i .i64 0,.i .i64 0] [(0,1,(.k 435)),(1,1,(.k 435)),(2,1,(.c (.i .i64 (-1)))),(3,1,(.k 435)),(4,1,(.k 435)),(5,1,(.k 435))]),.q 12 (.build [.s [],.i .i64 0,.i .i64 0,.i .i64 0,.i .i64 0,.i .i64 0,.i .i64 0] [(0,1,(.c (.s [99,108,111,110,101,51]))),(1,6,(.t 11))]),.q 13 (.build [.i .i64 0,.i .i64 0,.i .i64 0,.i .i64 0,.i .i64 0,.i .i64 0] [(0,1,(.k 3)),(1,1,(.k 6)),(2,1,(.k 3)),(3,1,(.k 6)),(4,1,(.k 57)),(5,1,(.k 57))]),.q 14 (.build [.s [],.i .i64 0,.i .i64 0,.i .i64 0,.i .i64 0,.i .i64 0,.i .i64 0] [(0,1,(.c (.s [99,108,111,115,101]))),(1,6,(.t 13))]),.q 15 (.build [.i .i64 0,.i .i64 0,.i .i64 0,.i .i64 0,.i .i64 0,.i .i64 0] [(0,1,(.k 42)),(1,1,(.k 362)),(2,1,(.k 42)),(3,1,(.k 283)),(4,1,(.k 203)),(5,1,(.k 203))]),.q 16 (.build [.s [],.i .i64 0,.i .i64 0,.i .i64 0,.i .i64 0,.i .i64 0,.i .i64 0] [(0,1,(.c (.s [99,111,110,110,101,99,116]))),(1,6,(.t 15))]),.q 17 (.build [.i .i64 0,.i .i64 0,.i .i64 0,.i .i64 0,.i .i64 0,.i .i64 0] [(0,1,(.k 176)),(1,1,(.k 129)),(2,1,(.k 176)),(3,1,(.k 129)),(4,1,(.k 106)),(5,1,(.k 106))]),.q 18 (.build [.s [],.i .i64 0,.i .i64 0,.i .i64 0,.i .i64 0,.i .i64 0,.i .i64 0] [(0,1,(.c (.s [100,101,108,101,116,101,95,109,111,100,117,108,101]))),(1,6,(.t 17))]),.q 19 (.build [.i .i64 0,.i .i64 0,.i .i64 0,.i .i64 0,.i .i64 0,.i .i64 0] [(0,1,(.k 59)),(1,1,(.k 11)),(2,1,(.k 520)),(3,1,(.k 11)),(4,1,(.k 221)),(5,1,(.k 221))]),.q 20 (.build [.s [],.i .i64 0,.i .i64 0,.i .i64 0,.i .i64 0,.i .i64 0,.i .i64 0] [(0,1,(.c (.s [101,120,101,99,118,101]))),(1,6,(.t 19))]),.q 21 (.build [.i .i64 0,.i .i64 0,.i .i64 0,.i .i64 0,.i .i64 0,.i .i64 0] [(0,1,(.k 60)),(1,1,(.k 1)),(2,1,(.k 60)),(3,1,(.k 1)),(4,1,(.k 93)),(5,1,(.k 93))]),.q 22 (.build [.s [],.i .i64 0,.i .i64 0,.i .i64 0,.i .i64 0,.i .i64 0,.i .i64 0] [(0,1,(.c (.s [101,120,105,116]))),(1,6,(.t 21))]),.q 23 (.build [.i .i64 0,.i .i64 0,.i .i64 0,.i .i64 0,.i .i64 0,.i .i64 0] [(0,1,(.k 313)),(1,1,(.k 350)),(2,1,(.k 313)),(3,1,(.k 379)),(4,1,(.k 273)),(5,1,(.k 273))]),.q 24 (.build [.s [],.i .i64 0,.i .i64 0,.i .i64 0,.i .i64 0,.i .i64 0,.i .i64 0] [(0,1,(.c (.s [102,105,110,105,116,95,109,111,100,117,108,101]))),(1,6,(.t 23))]),.q 25 (.build [.i .i64 0,.i .i64 0,.i .i64 0,.i .i64 0,.i .i64 0,.i .i64 0] [(0,1,(.k 57)),(1,1,(.k 2)),(2,1,(.k 57)),(3,1,(.k 2)),(4,1,(.c (.i .i64 (-1)))),(5,1,(.c (.i .i64 (-1))))]),.q 26 (.build [.s [],.i .i64 0,.i .i64 0,.i .i64 0,.i .i64 0,.i .i64 0,.i .i64 0] [(0,1,(.c (.s [102,111,114,107]))),(1,6,(.t 25))]),.q 27 (.build [.i .i64 0,.i .i64 0,.i .i64 0,.i .i64 0,.i .i64 0,.i .i64 0] [(0,1,(.k 102)),(1,1,(.k 24)),(2,1,(.k 102)),(3,1,(.k 24)),(4,1,(.k 174)),(5,1,(.k 174))]),.q 28 (.build [.s [],.i .i64 0,.i .i64 0,.i .i64 0,.i .i64 0,.i .i64 0,.i .i64 0] [(0,1,(.c (.s [103,101,116,117,105,100]))),(1,6,(.t 27))]),.q 29 (.build [.i .i64 0,.i .i64 0,.i .i64 0,.i .i64 0,.i .i64 0,.i .i64 0] [(0,1,(.k 175)),(1,1,(.k 128)),(2,1,(.c (.i .i64 (-1)))),(3,1,(.k 128)),(4,1,(.k 105)),(5,1,(.k 105))]),.q 30 (.build [.s [],.i .i64 0,.i .i64 0,.i .i64 0,.i .i64 0,.i .i64 0,.i .i64 0] [(0,1,(.c (.s [105,110,105,116,95,109,111,100,117,108,101]))),(1,6,(.t 29))]),.q 31 (.build [.i .i64 0,.i .i64 0,.i .i64 0,.i .i64 0,.i .i64 0,.i .i64 0] [(0,1,(.k 16)),(1,1,(.k 54)),(2,1,(.k 514)),(3,1,(.k 54)),(4,1,(.k 29)),(5,1,(.k 29))]),.q 32 (.build [.s [],.i .i64 0,.i .i64 0,.i .i64 0,.i .i64 0,.i .i64 0,.i .i64 0] [(0,1,(.c (.s [105,111,99,116,108]))),(1,6,(.t 31))]),.q 33 (.build [.i .i64 0,.i .i64 0,.i .i64 0,.i .i64 0,.i .i64 0,.i .i64 0] [(0,1,(.k 62)),(1,1,(.k 37)),(2,1,(.k 62)),(3,1,(.k 37)),(4,1,(.k 129)),(5,1,(.k 129))]),.q 34 (.build [.s [],.i .i64 0,.i .i64 0,.i .i64 0,.i .i64 0,.i .i64 0,.i .i64 0] [(0,1,(.c (.s [107,105,108,108]))),(1,6,(.t 33))]),.q 35 (.build [.i .i64 0,.i .i64 0,.i .i64 0,.i .i64 0,.i .i64 0,.i .i64 0] [(0,1,(.k 50)),(1,1,(.k 363)),(2,1,(.k 50)),(3,1,(.k 284)),(4,1,(.k 201)),(5,1,(.k 201))]),.q 36 (.build [.s [],.i .i64 0,.i .i64 0,.i .i64 0,.i .i64 0,.i .i64 0,.i .i64 0] [(0,1,(.c (.s [108,105,115,116,101,110]))),(1,6,(.t 35))]),.q 37 (.build [.i .i64 0,.i .i64 0,.i .i64 0,.i .i64 0,.i .i64 0,.i .i64 0] [(0,1,(.k 9)),(1,1,(.k 90)),(2,1,(.k 9)),(3,1,(.c (.i .i64 (-1)))),(4,1,(.k 222)),(5,1,(.k 222))]),.q 38 (.build [.s [],.i .i64 0,.i .i64 0,.i .i64 0,.i .i64 0,.i .i64 0,.i .i64 0] [(0,1,(.c (.s [109,109,97,112]))),(1,6,(.t 37))]),.q 39 (.build [.i .i64 0,.i .i64 0,.i .i64 0,.i .i64 0,.i .i64 0,.i .i64 0] [(0,1,(.k 165)),(1,1,(.k 21)),(2,1,(.k 165)),(3,1,(.k 21)),(4,1,(.k 40)),(5,1,(.k 40))]),.q 40 (.build [.s [],.i .i64 0,.i .i64 0,.i .i64 0,.i .i64 0,.i .i64 0,.i .i64 0] [(0,1,(.c (.s [109,111,117,110,116]))),(1,6,(.t 39))]),.q 41 (.build [.i .i64 0,.i .i64 0,.i .i64 0,.i .i64 0,.i .i64 0,.i .i64 0] [(0,1,(.k 10)),(1,1,(.k 125)),(2,1,(.k 10)),(3,1,(.k 125)),(4,1,(.k 226)),(5,1,(.k 226))]),.q 42 (.build [.s [],.i .i64 0,.i .i64 0,.i .i64 0,.i .i64 0,.i .i64 0,.i .i64 0] [(0,1,(.c (.s [109,112,114,111,116,101,99,116]))),(1,6,(.t 41))]),.q 43 (.build [.i .i64 0,.i .i64 0,.i .i64 0,.i .i64 0,.i .i64 0,.i .i64 0] [(0,1,(.k 11)),(1,1,(.k 91)),(2,1,(.k 11)),(3,1,(.k 91)),(4,1,(.k 215)),(5,1,(.k 215))]),.q 44 (.build [.s [],.i .i64 0,.i .i64 0,.i .i64 0,.i .i64 0,.i .i64 0,.i .i64 0] [(0,1,(.c (.s [109,117,110,109,97,112]))),(1,6,(.t 43))]),.q 45 (.build [.i .i64 0,.i .i64 0,.i .i64 0,.i .i64 0,.i .i64 0,.i .i64 0] [(0,1,(.k 2)),(1,1,(.k 5)),(2,1,(.k 2)),(3,1,(.k 5)),(4,1,(.c (.i .i64 (-1)))),(5,1,(.c (.i .i64 (-1))))]),.q 46 (.build [.s [],.i .i64 0,.i .i64 0,.i .i64 0,.i .i64 0,.i .i64 0,.i .i64 0] [(0,1,(.c (.s [111,112,101,110]))),(1,6,(.t 45))]),.q 47 (.build [.i .i64 0,.i .i64 0,.i .i64 0,.i .i64 0,.i .i64 0,.i .i64 0] [(0,1,(.k 257)),(1,1,(.k 295)),(2,1,(.k 257)),(3,1,(.k 322)),(4,1,(.k 56)),(5,1,(.k 56))]),.q 48 (.build [.s [],.i .i64 0,.i .i64 0,.i .i64 0,.i .i64 0,.i .i64 0,.i .i64 0] [(0,1,(.c (.s [111,112,101,110,97,116]))),(1,6,(.t 47))]),.q 49 (.build [.i .i64 0,.i .i64 0,.i .i64 0,.i .i64 0,.i .i64 0,.i .i64 0] [(0,1,(.k 135)),(1,1,(.k 136)),(2,1,(.k 135)),(3,1,(.k 136)),(4,1,(.k 92)),(5,1,(.k 92))]),.q 50 (.build [.s [],.i .i64 0,.i .i64 0,.i .i64 0,.i .i64 0,.i .i64 0,.i .i64 0] [(0,1,(.c (.s [112,101,114,115,111,110,97,108,105,116,121]))),(1,6,(.t 49))]),.q 51 (.build [.i .i64 0,.i .i64 0,.i .i64 0,.i .i64 0,.i .i64 0,.i .i64 0] [(0,1,(.k 329)),(1,1,(.k 380)),(2,1,(.k 329)),(3,1,(.k 394)),(4,1,(.k 288)),(5,1,(.c (.i .i64 (-1))))]),.q 52 (.build [.s [],.i .i64 0,.i .i64 0,.i .i64 0,.i .i64 0,.i .i64 0,.i .i64 0] [(0,1,(.c (.s [112,107,101,121,95,109,112,114,111,116,101,99,116]))),(1,6,(.t 51))]),.q 53 (.build [.i .i64 0,.i .i64 0,.i .i64 0,.i .i64 0,.i .i64 0,.i .i64 0] [(0,1,(.k 101)),(1,1,(.k 26)),(2,1,(.k 521)),(3,1,(.k 26)),(4,1,(.k 117)),(5,1,(.k 117))]),.q 54 (.build [.s [],.i .i64 0,.i .i64 0,.i .i64 0,.i .i64 0,.i .i64 0,.i .i64 0] [(0,1,(.c (.s [112,116,114,97,99,101]))),(1,6,(.t 53))]),.q 55 (.build [.i .i64 0,.i .i64 0,.i .i64 0,.i .i64 0,.i .i64 0,.i .i64 0] [(0,1,(.k 0)),(1,1,(.k 3)),(2,1,(.k 0)),(3,1,(.k 3)),(4,1,(.k 63)),(5,1,(.k 63))]),.q 56 (.build [.s [],.i .i64 0,.i .i64 0,.i .i64 0,.i .i64 0,.i .i64 0,.i .i64 0] [(0,1,(.c (.s [114,101,97,100]))),(1,6,(.t 55))]),.q 57 (.build [.i .i64 0,.i .i64 0,.i .i64 0,.i .i64 0,.i .i64 0,.i .i64 0] [(0,1,(.k 169)),(1,1,(.k 88)),(2,1,(.k 169)),(3,1,(.k 88)),(4,1,(.k 142)),(5,1,(.k 142))]),.q 58 (.build [.s [],.i .i64 0,.i .i64 0,.i .i64 0,.i .i64 0,.i .i64 0,.i .i64 0] [(0,1,(.c (.s [114,101,98,111,111,116]))),(1,6,(.t 57))]),.q 59 (.build [.i .i64 0,.i .i64 0,.i .i64 0,.i .i64 0,.i .i64 0,.i .i64 0] [(0,1,(.k 314)),(1,1,(.k 351)),(2,1,(.k 314)),(3,1,(.k 380)),(4,1,(.k 274)),(5,1,(.k 274))]),.q 60 (.build [.s [],.i .i64 0,.i .i64 0,.i .i64 0,.i .i64 0,.i .i64 0,.i .i64 0] [(0,1,(.c (.s [115,99,104,101,100,95,115,101,116,97,116,116,114]))),(1,6,(.t 59))]),.q 61 (.build [.i .i64 0,.i .i64 0,.i .i64 0,.i .i64 0,.i .i64 0,.i .i64 0] [(0,1,(.k 144)),(1,1,(.k 156)),(2,1,(.k 144)),(3,1,(.k 156)),(4,1,(.k 119)),(5,1,(.k 119))]),.q 62 (.build [.s [],.i .i64 0,.i .i64 0,.i .i64 0,.i .i64 0,.i .i64 0,.i .i64 0] [(0,1,(.c (.s [115,99,104,101,100,95,115,101,116,115,99,104,101,100,117,108,101,114]))),(1,6,(.t 61))]),.q 63 (.build [.i .i64 0,.i .i64 0,.i .i64 0,.i .i64 0,.i .i64 0,.i .i64 0] [(0,1,(.k 317)),(1,1,(.k 354)),(2,1,(.k 317)),(3,1,(.k 383)),(4,1,(.k 277)),(5,1,(.k 277))]),.q 64 (.build [.s [],.i .i64 0,.i .i64 0,.i .i64 0,.i .i64 0,.i .i64 0,.i .i64 0] [(0,1,(.c (.s [115,101,99,99,111,109,112]))),(1,6,(.t 63))]),.q 65 (.build [.i .i64 0,.i .i64 0,.i .i64 0,.i .i64 0,.i .i64 0,.i .i64 0] [(0,1,(.k 308)),(1,1,(.k 346)),(2,1,(.k 308)),(3,1,(.k 375)),(4,1,(.k 268)),(5,1,(.k 268))]),.q 66 (.build [.s [],.i .i64 0,.i .i64 0,.i .i64 0,.i .i64 0,.i .i64 0,.i .i64 0] [(0,1,(.c (.s [115,101,116,110,115]))),(1,6,(.t 65))]),.q 67 (.build [.i .i64 0,.i .i64 0,.i .i64 0,.i .i64 0,.i .i64 0,.i .i64 0] [(0,1,(.k 164)),(1,1,(.k 79)),(2,1,(.k 164)),(3,1,(.k 79)),(4,1,(.k 170)),(5,1,(.k 170))]),.q 68 (.build [.s [],.i .i64 0,.i .i64 0,.i .i64 0,.i .i64 0,.i .i64 0,.i .i64 0] [(0,1,(.c (.s [115,101,116,116,105,109,101,111,102,100,97,121]))),(1,6,(.t 67))]),.q 69 (.build [.i .i64 0,.i .i64 0,.i .i64 0,.i .i64 0,.i .i64 0,.i .i64 0] [(0,1,(.k 105)),(1,1,(.k 23)),(2,1,(.k 105)),(3,1,(.k 23)),(4,1,(.k 146)),(5,1,(.k 146))]),.q 70 (.build [.s [],.i .i64 0,.i .i64 0,.i .i64 0,.i .i64 0,.i .i64 0,.i .i64 0] [(0,1,(.c (.s [115,101,116,117,105,100]))),(1,6,(.t 69))]),.q 71 (.build [.i .i64 0,.i .i64 0,.i .i64 0,.i .i64 0,.i .i64 0,.i .i64 0] [(0,1,(.k 30)),(1,1,(.k 397)),(2,1,(.c (.i .i64 (-1)))),(3,1,(.k 305)),(4,1,(.k 196)),(5,1,(.k 196))]),.q 72 (.build [.s [],.i .i64 0,.i .i64 0,.i .i64 0,.i .i64 0,.i .i64 0,.i .i64 0] [(0,1,(.c (.s [115,104,109,97,116]))),(1,6,(.t 71))]),.q 73 (.build [.i .i64 0,.i .i64 0,.i .i64 0,.i .i64 0,.i .i64 0,.i .i64 0] [(0,1,(.k 41)),(1,1,(.k 359)),(2,1,(.k 41)),(3,1,(.k 281)),(4,1,(.k 198)),(5,1,(.k 198))]),.q 74 (.build [.s [],.i .i64 0,.i .i64 0,.i .i64 0,.i .i64 0,.i .i64 0,.i .i64 0] [(0,1,(.c (.s [115,111,99,107,101,116]))),(1,6,(.t 73))]),.q 75 (.build [.i .i64 0,.i .i64 0,.i .i64 0,.i .i64 0,.i .i64 0,.i .i64 0] [(0,1,(.k 166)),(1,1,(.k 52)),(2,1,(.k 166)),(3,1,(.k 52)),(4,1,(.k 39)),(5,1,(.k 39))]),.q 76 (.build [.s [],.i .i64 0,.i .i64 0,.i .i64 0,.i .i64 0,.i .i64 0,.i .i64 0] [(0,1,(.c (.s [117,109,111,117,110,116,50]))),(1,6,(.t 75))]),.q 77 (.build [.i .i64 0,.i .i64 0,.i .i64 0,.i .i64 0,.i .i64 0,.i .i64 0] [(0,1,(.k 272)),(1,1,(.k 310)),(2,1,(.k 272)),(3,1,(.k 337)),(4,1,(.k 97)),(5,1,(.k 97))]),.q 78 (.build [.s [],.i .i64 0,.i .i64 0,.i .i64 0,.i .i64 0,.i .i64 0,.i .i64 0] [(0,1,(.c (.s [117,110,115,104,97,114,101]))),(1,6,(.t 77))]),.q 79 (.build [.i .i64 0,.i .i64 0,.i .i64 0,.i .i64 0,.i .i64 0,.i .i64 0] [(0,1,(.k 1)),(1,1,(.k 4)),(2,1,(.k 1)),(3,1,(.k 4)),(4,1,(.k 64)),(5,1,(.k 64))]),.q 80 (.build [.s [],.i .i64 0,.i .i64 0,.i .i64 0,.i .i64 0,.i .i64 0,.i .i64 0] [(0,1,(.c (.s [119,114,105,116,101]))),(1,6,(.t 79))]),.q 81 (.build [.s [],.i .i64 0,.i .i64 0,.i .i64 0,.i .i64 0,.i .i64 0,.i .i64 0,.s [],.i .i64 0,.i .i64 0,.i .i64 0,.i .i64 0,.i .i64 0,.i .i64 0,.s [],.i .i64 0,.i .i64 0,.i .i64 0,.i .i64 0,.i .i64 0,.i .i64 0,.s [],.i .i64 0,.i .i64 0,.i .i64 0,.i .i64 0,.i .i64 0,.i .i64 0,.s [],.i .i64 0,.i .i64 0,.i .i64 0,.i .i64 0,.i .i64 0,.i .i64 0,.s [],.i .i64 0,.i .i64 0,.i .i64 0,.i .i64 0,.i .i64 0,.i .i64 0,.s [],.i .i64 0,.i .i64 0,.i .i64 0,.i .i64 0,.i .i64 0,.i .i64 0,.s [],.i .i64 0,.i .i64 0,.i .i64 0,.i .i64 0,.i .i64 0,.i .i64 0,.s [],.i .i64 0,.i .i64 0,.i .i64 0,.i .i64 0,.i .i64 0,.i .i64 0,.s [],.i .i64 0,.i .i64 0,.i .i64 0,.i .i64 0,.i .i64 0,.i .i64 0,.s [],.i .i64 0,.i .i64 0,.i .i64 0,.i .i64 0,.i .i64 0,.i .i64 0,.s [],.i .i64 0,.i .i64 0,.i .i64 0,.i .i64 0,.i .i64 0,.i .i64 0,.s [],.i .i64 0,.i .i64 0,.i .i64 0,.i .i64 0,.i .i64 0,.i .i64 0,.s [],.i .i64 0,.i .i64 0,.i .i64 0,.i .i64 0,.i .i64 0,.i .i64 0,.s [],.i .i64 0,.i .i64 0,.i .i64 0,.i .i64 0,.i .i64 0,.i .i64 0,.s [],.i .i64 0,.i .i64 0,.i .i64 0,.i .i64 0,.i .i64 0,.i .i64 0,.s [],.i .i64 0,.i .i64 0,.i .i64 0,.i .i64 0,.i .i64 0,.i .i64 0,.s [],.i .i64 0,.i .i64 0,.i .i64 0,.i .i64 0,.i .i64 0,.i .i64 0,.s [],.i .i64 0,.i .i64 0,.i .i64 0,.i .i64 0,.i .i64 0,.i .i64 0,.s [],.i .i64 0,.i .i64 0,.i .i64 0,.i .i64 0,.i .i64 0,.i .i64 0,.s [],.i .i64 0,.i .i64 0,.i .i64 0,.i .i64 0,.i .i64 0,.i .i64 0,.s [],.i .i64 0,.i .i64 0,.i .i64 0,.i .i64 0,.i .i64 0,.i .i64 0,.s [],.i .i64 0,.i .i64 0,.i .i64 0,.i .i64 0,.i .i64 0,.i .i64 0,.s [],.i .i64 0,.i .i64 0,.i .i64 0,.i .i64 0,.i .i64 0,.i .i64 0,.s [],.i .i64 0,.i .i64 0,.i .i64 0,.i .i64 0,.i .i64 0,.i .i64 0,.s [],.i .i64 0,.i .i64 0,.i .i64 0,.i .i64 0,.i .i64 0,.i .i64 0,.s [],.i .i64 0,.i .i64 0,.i .i64 0,.i .i64 0,.i .i64 0,.i .i64 0,.s [],.i .i64 0,.i .i64 0,.i .i64 0,.i .i64 0,.i .i64 0,.i .i64 0,.s [],.i .i64 0,.i .i64 0,.i .i64 0,.i .i64 0,.i .i64 0,.i .i64 0,.s [],.i .i64 0,.i .i64 0,.i .i64 0,.i .i64 0,.i .i64 0,.i .i64 0,.s [],.i .i64 0,.i .i64 0,.i .i64 0,.i .i64 0,.i .i64 0,.i .i64 0,.s [],.i .i64 0,.i .i64 0,.i .i64 0,.i .i64 0,.i .i64 0,.i .i64 0,.s [],.i .i64 0,.i .i64 0,.i .i64 0,.i .i64 0,.i .i64 0,.i .i64 0,.s [],.i .i64 0,.i .i64 0,.i .i64 0,.i .i64 0,.i .i64 0,.i .i64 0,.s [],.i .i64 0,.i .i64 0,.i .i64 0,.i .i64 0,.i .i64 0,.i .i64 0,.s [],.i .i64 0,.i .i64 0,.i .i64 0,.i .i64 0,.i .i64 0,.i .i64 0,.s [],.i .i64 0,.i .i64 0,.i .i64 0,.i .i64 0,.i .i64 0,.i .i64 0,.s [],.i .i64 0,.i .i64 0,.i .i64 0,.i .i64 0,.i .i64 0,.i .i64 0,.s [],.i .i64 0,.i .i64 0,.i .i64 0,.i .i64 0,.i .i64 0,.i .i64 0,.s [],.i .i64 0,.i .i64 0,.i .i64 0,.i .i64 0,.i .i64 0,.i .i64 0] [(0,7,(.t 2)),(7,7,(.t 4)),(14,7,(.t 6)),(21,7,(.t 8)),(28,7,(.t 10)),(35,7,(.t 12)),(42,7,(.t 14)),(49,7,(.t 16)),(56,7,(.t 18)),(63,7,(.t 20)),(70,7,(.t 22)),(77,7,(.t 24)),(84,7,(.t 26)),(91,7,(.t 28)),(98,7,(.t 30)),(105,7,(.t 32)),(112,7,(.t 34)),(119,7,(.t 36)),(126,7,(.t 38)),(133,7,(.t 40)),(140,7,(.t 42)),(147,7,(.t 44)),(154,7,(.t 46)),(161,7,(.t 48)),(168,7,(.t 50)),(175,7,(.t 52)),(182,7,(.t 54)),(189,7,(.t 56)),(196,7,(.t 58)),(203,7,(.t 60)),(210,7,(.t 62)),(217,7,(.t 64)),(224,7,(.t 66)),(231,7,(.t 68)),(238,7,(.t 70)),(245,7,(.t 72)),(252,7,(.t 74)),(259,7,(.t 76)),(266,7,(.t 78)),(273,7,(.t 80))]),.u (.store 280 (.t 0) (.t 81))]) (.ret))⟩
set_option maxRecDepth 20000 in
theorem qng (hc:qw P f yy = true):qg P f [] (.agg (qH.flatMap xP)):=by
 refine qg.mk hc rfl ?_
 simp only [yy,qi,H0,mkT,mkH,trL,vI,simprocAttr]
 simp only [↓vS,vT,shb,shv,qb,qc,cellsOf,wr,qa,simprocAttr,qH,xP,List.flatMap_cons,List.flatMap_nil,List.getD_cons_zero,List.getD_cons_succ,vZ]
def kp:IFn:=⟨[.tmp 3],.seq (.r [.q 2 (.box (.t 0)),.m 3 (.c (.b false))]) (.seq (.r [.q 4 (.fAddr 0 (.t 2)),.q 5 (.load1 (.t 4)),.q 6 (.load1 (.t 1)),.q 7 (.bin .eql (.t 5) (.t 6)),.m 3 (.t 7)]) (.ret))⟩
theorem qkA (hc:qw P f kp = true) (s:List UInt8) (x:List UInt8 × List Int):qg P f [.agg (xP x),.pf [.s s] 0] (.b (decide (x.1 = s))):=by
 refine qg.mk hc (by simp [qK,clo,xP]) ?_
 simp only [kp,xP,qi,H0,mkT,mkH,trL,vI,simprocAttr]
 simp only [↓vS,vT,shb,shv,qb,qc,cellsOf,wr,qa,simprocAttr,vZ]
def Qa (f_calls_table f_slices_IndexFunc_calls_call_calls_call:Nat):IFn:=⟨[.cell 2 7 true,.tmp 3],.seq (.r [.q 2 (.alloc [.s [],.i .i64 0,.i .i64 0,.i .i64 0,.i .i64 0,.i .i64 0,.i .i64 0]),.m 3 (.c (.b false))]) (.seq (.r [.l 6 f_calls_table [],.q 4 (.alloc [.s [],.i .i64 0,.i .i64 0,.i .i64 0,.i .i64 0,.i .i64 0,.i .i64 0,.s [],.i .i64 0,.i .i64 0,.i .i64 0,.i .i64 0,.i .i64 0,.i .i64 0,.s [],.i .i64 0,.i .i64 0,.i .i64 0,.i .i64 0,.i .i64 0,.i .i64 0,.s [],.i .i64 0,.i .i64 0,.i .i64 0,.i .i64 0,.i .i64 0,.i .i64 0,.s [],.i .i64 0,.i .i64 0,.i .i64 0,.i .i64 0,.i .i64 0,.i .i64 0,.s [],.i .i64 0,.i .i64 0,.i .i64 0,.i .i64 0,.i .i64 0,.i .i64 0,.s [],.i .i64 0,.i .i64 0,.i .i64 0,.i .i64 0,.i .i64 0,.i .i64 0,.s [],.i .i64 0,.i .i64 0,.i .i64 0,.i .i64 0,.i .i64 0,.i .i64 0,.s [],.i .i64 0,.i .i64 0,.i .i64 0,.i .i64 0,.i .i64 0,.i .i64 0,.s [],.i .i64 0,.i .i64 0,.i .i64 0,.i .i64 0,.i .i64 0,.i .i64 0,.s [],.i .i64 0,.i .i64 0,.i .i64 0,.i .i64 0,.i .i64 0,.i .i64 0,.s [],.i .i64 0,.i .i64 0,.i .i64 0,.i .i64 0,.i .i64 0,.i .i64 0,.s [],.i .i64 0,.i .i64 0,.i .i64 0,.i .i64 0,.i .i64 0,.i .i64 0,.s [],.i .i64 0,.i .i64 0,.i .i64 0,.i .i64 0,.i .i64 0,.i .i64 0,.s [],.i .i64 0,.i .i64 0,.i .i64 0,.i .i64 0,.i .i64 0,.i .i64 0,.s [],.i .i64 0,.i .i64 0,.i .i64 0,.i .i64 0,.i .i64 0,.i .i64 0,.s [],.i .i64 0,.i .i64 0,.i .i64 0,.i .i64 0,.i .i64 0,.i .i64 0,.s [],.i .i64 0,.i .i64 0,.i .i64 0,.i .i64 0,.i .i64 0,.i .i64 0,.s [],.i .i64 0,.i .i64 0,.i .i64 0,.i .i64 0,.i .i64 0,.i .i64 0,.s [],.i .i64 0,.i .i64 0,.i .i64 0,.i .i64 0,.i .i64 0,.i .i64 0,.s [],.i .i64 0,.i .i64 0,.i .i64 0,.i .i64 0,.i .i64 0,.i .i64 0,.s [],.i .i64 0,.i .i64 0,.i .i64 0,.i .i64 0,.i .i64 0,.i .i64 0,.s [],.i .i64 0,.i .i64 0,.i .i64 0,.i .i64 0,.i .i64 0,.i .i64 0,.s [],.i .i64 0,.i .i64 0,.i .i64 0,.i .i64 0,.i .i64 0,.i .i64 0,.s [],.i .i64 0,.i .i64 0,.i .i64 0,.i .i64 0,.i .i64 0,.i .i64 0,.s [],.i .i64 0,.i .i64 0,.i .i64 0,.i .i64 0,.i .i64 0,.i .i64 0,.s [],.i .i64 0,.i .i64 0,.i .i64 0,.i .i64 0,.i .i64 0,.i .i64 0,.s [],.i .i64 0,.i .i64 0,.i .i64 0,.i .i64 0,.i .i64 0,.i .i64 0,.s [],.i .i64 0,.i .i64 0,.i .i64 0,.i .i64 0,.i .i64 0,.i .i64 0,.s [],.i .i64 0,.i .i64 0,.i .i64 0,.i .i64 0,.i .i64 0,.i .i64 0,.s [],.i .i64 0,.i .i64 0,.i .i64 0,.i .i64 0,.i .i64 0,.i .i64 0,.s [],.i .i64 0,.i .i64 0,.i .i64 0,.i .i64 0,.i .i64 0,.i .i64 0,.s [],.i .i64 0,.i .i64 0,.i .i64 0,.i .i64 0,.i .i64 0,.i .i64 0,.s [],.i .i64 0,.i .i64 0,.i .i64 0,.i .i64 0,.i .i64 0,.i .i64 0,.s [],.i .i64 0,.i .i64 0,.i .i64 0,.i .i64 0,.i .i64 0,.i .i64 0,.s [],.i .i64 0,.i .i64 0,.i .i64 0,.i .i64 0,.i .i64 0,.i .i64 0,.s [],.i .i64 0,.i .i64 0,.i .i64 0,.i .i64 0,.i .i64 0,.i .i64 0,.s [],.i .i64 0,.i .i64 0,.i .i64 0,.i .i64 0,.i .i64 0,.i .i64 0,.s [],.i .i64 0,.i .i64 0,.i .i64 0,.i .i64 0,.i .i64 0,.i .i64 0,.s [],.i .i64 0,.i .i64 0,.i .i64 0,.i .i64 0,.i .i64 0,.i .i64 0]),.u (.store 280 (.t 4) (.t 6))]) (.seq (.r [.q 7 (.slcA 40 7 (.t 4) none none none),.m 8 (.t 0),.l 9 f_slices_IndexFunc_calls_call_calls_call [.t 7,.t 8],.m 5 (.t 9)]) (.seq (.seq (.r [.m 10 (.t 5),.q 11 (.bin .lss (.t 10) (.k 0))]) (.cond (.t 11) (.seq (.r [.q 12 (.build [.s [],.i .i64 0,.i .i64 0,.i .i64 0,.i .i64 0,.i .i64 0,.i .i64 0] []),.u (.store 7 (.t 2) (.t 12)),.m 3 (.c (.b false))]) (.ret)) (.skip))) (.seq (.r [.m 13 (.t 5),.q 14 (.iAddrA 40 7 (.t 4) (.t 13)),.q 15 (.loadN 7 (.t 14)),.u (.store 7 (.t 2) (.t 15)),.m 3 (.c (.b true))]) (.ret)))))⟩
def ZJ (p:List UInt8 × List Int → Bool):AV:=match qH.find? p with | some x=>.tup [.agg (xP x),.b true] | none=>.tup [.agg [.s [],.i .i64 0,.i .i64 0,.i .i64 0,.i .i64 0,.i .i64 0,.i .i64 0],.b false]
set_option maxRecDepth 20000 in
theorem qlp {g1 g2:Nat} (hc:qw P f (Qa g1 g2) = true) (h1:qg P g1 [] (.agg (qH.flatMap xP))) (h2:Q5 7 P g2) (p:List UInt8 × List Int → Bool) (g:Nat) (a c:List AV) (ha:qK a = true) (hcc:qK c = true)
  (hp:∀ x ∈ qH,qg P g (a ++ ([.agg (xP x)] ++ c)) (.b (p x))):qg P f [.fn g a c] (ZJ p):=by
 refine qg.mk hc (by simp [qK,clo,ha,hcc]) ?_
 simp only [Qa,qi,H0,mkT,mkH,trL,vI,simprocAttr]
 simp only [↓vS,vT,shb,shv,qb,qc,cellsOf,wr,qa,simprocAttr]
 refine h1.sc ?_
 have hlen:(qH.flatMap xP).length = 280:=by decide
 have hok:qM (qH.flatMap xP) = true:=by decide
 have hcl:qK (qH.flatMap xP) = true:=by decide
 generalize hT:qH.flatMap xP = T at hlen hok hcl
 have htk:T.take 280 = T:=List.take_of_length_le (by omega)
 simp only [↓vS,vT,shb,shv,qb,qc,cellsOf,wr,qa,simprocAttr,hlen,hok]
 refine (h2 xP p g a c qH qc3 ha hcc (by decide) hp).lend (vs':=[.fz 40 (qH.flatMap xP),.fn g a c]) ?_ rfl ?_
 ·refine .cons _ _ _ _ (.cut 7 rfl (Nat.le_refl _) ?_) (.cons _ _ _ _ (.fn _ _ _ _ _ (Frzs.self ha) (Frzs.self hcc)) .nil)
  rw [hT]
  simp [vw,hlen,htk,qeV hcl]
 rcases Zd p qH 0 with ⟨e1,e2⟩ | ⟨i,x,e1,e2,e3,e4,e5⟩
 ·rw [e1]
  simp only [↓vS,vT,shb,shv,qb,qc,cellsOf,wr,qa,simprocAttr]
  simp [vZ,ZJ,e2]
 ·have hi:i < 40:=(List.getElem?_eq_some_iff.1 e2).1
  have hn:¬ (i:Int) < 0:=by omega
  have he:(T.drop (i * 7)).take 7 = xP x:=by rw [← hT]; exact xz (f:=xP) (m:=7) qc3 e2
  have hb:i * 7 ≤ 273:=by omega
  rw [e1,Nat.zero_add]
  simp only [↓vS,vT,shb,shv,qb,qc,cellsOf,wr,qa,simprocAttr,hn,hi,he,hb,hlen,xP]
  simp [vZ,ZJ,e4,xP]
def yx (f_calls_Known_1 f_calls_find:Nat):IFn:=⟨[.tmp 2],.seq (.r [.q 1 (.box (.t 0)),.m 2 (.c (.b false))]) (.seq (.r [.q 6 (.mkF f_calls_Known_1 [] [.t 1]),.l 7 f_calls_find [.t 6],.m 5 (.t 7),.q 8 (.ext (.t 5) 0),.q 9 (.ext (.t 5) 1),.q 3 (.alloc [.s [],.i .i64 0,.i .i64 0,.i .i64 0,.i .i64 0,.i .i64 0,.i .i64 0]),.u (.store 7 (.t 3) (.t 8)),.m 4 (.t 9)]) (.seq (.r [.m 10 (.t 4),.m 2 (.t 10)]) (.ret)))⟩
def jl (s:List UInt8):Bool:=(qH.find? (fun x=>decide (x.1 = s))).isSome
theorem qlX {g1 g2:Nat} (hc:qw P f (yx g1 g2) = true) (h1:∀ s x,qg P g1 [.agg (xP x),.pf [.s s] 0] (.b (decide (x.1 = s))))
  (h2:∀ (p:List UInt8 × List Int → Bool) (g:Nat) (a c:List AV),qK a = true → qK c = true → (∀ x ∈ qH,qg P g (a ++ ([.agg (xP x)] ++ c)) (.b (p x))) → qg P g2 [.fn g a c] (ZJ p)) (s:List UInt8):qg P f [.s s] (.b (jl s)):=by
 refine qg.mk hc rfl ?_
 simp only [yx,qi,H0,mkT,mkH,trL,vI,simprocAttr]
 simp only [↓vS,vT,shb,shv,qb,qc,cellsOf,wr,qa,simprocAttr]
 refine (h2 (fun x=>decide (x.1 = s)) g1 [] [.pf [.s s] 0] rfl rfl (fun x _=>h1 s x)).lend (vs':=[.fn g1 [] [.pf [.s s] 0]]) ?_ ?_ ?_
 ·simp [vZ,vP,Tr.get_set]
 ·unfold ZJ; split <;> rfl
 unfold ZJ jl
 cases qH.find? (fun x=>decide (x.1 = s)) with
 | none =>
  simp only [↓vS,vT,shb,shv,qb,qc,cellsOf,wr,qa,simprocAttr]
  simp [vZ]
 | some x =>
  simp only [↓vS,vT,shb,shv,qb,qc,cellsOf,wr,qa,simprocAttr,xP]
  simp [vZ]
end Go.Kc
end
