/- Part 6 of the abstract machine and of the functions' walks. Conditions: with each theorem. -/
import Derived.Test.YtdmjpfekglajoaaGreatK5
import Derived.Laws.Externs
import Derived.Lib.Overlaps
import GoSem.ClaimChange
import Derived.ChangeArms
import Derived.ReadAgain
import Derived.ChangeOld
import Derived.ChangeBears
set_option linter.unusedSimpArgs false
set_option linter.unusedVariables false
set_option linter.unnecessarySimpa false
set_option linter.defProp false
section
/- Frames, written out. No condition. -/
namespace Go.Kc
variable {P:Program} {h:Hp}

def ye (h:Hp) (g:Nat → Nat) (m:Nat):List Nat → List Blk → Prop
  | [],[]=>True
  | b :: at',.cells e true a cs :: xs=>(zZ m cs = true ∧ evB (h.tr.get b) (fun y=>y = Blk.cells e true a (zG g cs)) ∧ h.fl ≤ b ∧ b < h.sz) ∧ ye h g m at' xs
  | _,_=>False
theorem ye.get {g:Nat → Nat} {m:Nat}:∀ {at':List Nat} {bs:List Blk},ye h g m at' bs → at'.length = bs.length ∧ ∀ (i:Nat) (x:Blk),bs[i]? = some x → ∃ b e a cs,at'[i]? = some b ∧ x = .cells e true a cs ∧ zZ m cs = true ∧ h.tr.get b = some (.cells e true a (zG g cs)) ∧ h.fl ≤ b ∧ b < h.sz
  | [],[],_=>⟨rfl,by simp⟩
  | [],_ :: _,hh=>by simp [ye] at hh
  | _ :: _,[],hh=>by simp [ye] at hh
  | b :: at',.dead :: xs,hh=>by simp [ye] at hh
  | b :: at',.map _ :: xs,hh=>by simp [ye] at hh
  | b :: at',.cells e false a cs :: xs,hh=>by simp [ye] at hh
  | b :: at',.cells e true a cs :: xs,hh=>by
    obtain ⟨⟨h1,⟨y,h2,h3⟩,h4,h5⟩,h6⟩:=hh
    subst h3
    obtain ⟨h7,h8⟩:=ye.get h6
    refine ⟨by simp [h7],fun i x hx=>?_⟩
    cases i with
    | zero=>simp at hx; subst hx; exact ⟨b,e,a,cs,rfl,rfl,h1,h2,h4,h5⟩
    | succ i=>simpa using h8 i x (by simpa using hx)
theorem Lent.of {at':List Nat} {bs:List Blk} (hn:at'.Nodup) (hl:ye h (gAt at' h.sz) bs.length at' bs):Lent h at' bs:=by
  obtain ⟨h1,h2⟩:=hl.get
  refine ⟨h1,hn,fun i x hx=>?_⟩
  obtain ⟨b,e,a,cs,q1,q2,q3,q4,q5,q6⟩:=h2 i x hx
  have hi:i < at'.length:=(List.getElem?_eq_some_iff.1 q1).1
  have e1:gAt at' h.sz i = b:=by
    rw [kQ hi]
    exact (List.getElem?_eq_some_iff.1 q1).2
  exact ⟨e,a,cs,q2,q3,by rw [e1]; exact q4,by rw [e1]; exact q5,by rw [e1]; exact q6⟩
theorem qiU {g:Nat → Nat} {m:Nat}:ye h g m [] [] ↔ True:=Iff.rfl
theorem qhG {g:Nat → Nat} {m b e:Nat} {at':List Nat} {a:Bool} {cs:List AV} {xs:List Blk}:ye h g m (b :: at') (.cells e true a cs :: xs) ↔ (zZ m cs = true ∧ evB (h.tr.get b) (fun y=>y = Blk.cells e true a (zG g cs)) ∧ h.fl ≤ b ∧ b < h.sz) ∧ ye h g m at' xs:=Iff.rfl
theorem qgT {s f b:Nat} {tr:Tr Blk} {x:Blk}:Hp.put ⟨s,f,tr⟩ b x = ⟨s,f,tr.set b x⟩:=rfl
theorem qeR {xs:List Blk}:kL h [] xs = h:=by simp [kL]
theorem qdm {b:Nat} {at':List Nat} {x:Blk} {xs:List Blk}:kL h (b :: at') (x :: xs) = kL (h.put b x) at' xs:=rfl
theorem zd {g:Nat → Nat} {v:AV} (hv:clo v = true):rnv g v = v:=by
  have key:(∀ v:AV,clo v = true → rnv g v = v):=fun v=>by
    refine AV.rec (motive_1:=fun v=>clo v = true → rnv g v = v) (motive_2:=fun vs=>qC vs = true → zG g vs = vs) ?_ ?_ ?_ ?_ ?_ ?_ ?_ ?_ ?_ ?_ ?_ ?_ ?_ ?_ ?_ ?_ ?_ ?_ ?_ ?_ ?_ ?_ ?_ ?_ v
    all_goals first
      | (intros; rfl)
      | (intros; rename_i hh; simp [clo] at hh; done)
      | skip
    · intro f a c h1 h2 hh
      simp only [clo,Bool.and_eq_true] at hh
      simp only [rnv,h1 hh.1,h2 hh.2]
    · intro t v h1 hh
      simp only [clo] at hh
      simp only [rnv,h1 hh]
    · intro cs h1 hh
      simp only [clo] at hh
      simp only [rnv,h1 hh]
    · intro cs h1 hh
      simp only [clo] at hh
      simp only [rnv,h1 hh]
    · intro v vs h1 h2 hh
      simp only [qC,Bool.and_eq_true] at hh
      simp only [zG,h1 hh.1,h2 hh.2]
  exact key v hv
theorem qv {g:Nat → Nat}:∀ {vs:List AV},qC vs = true → zG g vs = vs
  | [],_=>rfl
  | v :: vs,h=>by
    simp only [qC,Bool.and_eq_true] at h
    simp only [zG,zd h.1,qv h.2]
def vl:Blk → Bool
  | .dead=>false
  | _=>true
theorem qdu {α β:Type} {f:α → β} {p:α → Bool}:∀ {l:List α},((l.filter p).map f).Nodup → ∀ {i j:Nat} {x y:α},l[i]? = some x → l[j]? = some y → p x = true → p y = true → f x = f y → i = j
  | [],_,i,j,x,y,hi,_,_,_,_=>by simp at hi
  | a :: l,hn,i,j,x,y,hi,hj,hx,hy,he=>by
    have tail:((l.filter p).map f).Nodup:=by
      rw [List.filter_cons] at hn
      split at hn
      · exact (List.nodup_cons.1 hn).2
      · exact hn
    have no:∀ {z:α} {m:Nat},l[m]? = some z → p z = true → p a = true → f a = f z → False:=by
      intro z m hz hpz hpa hfz
      rw [List.filter_cons,if_pos hpa] at hn
      exact (List.nodup_cons.1 hn).1 (hfz ▸ List.mem_map_of_mem (List.mem_filter.2 ⟨List.mem_of_getElem? hz,hpz⟩))
    cases i with
    | zero =>
      simp at hi; subst hi
      cases j with
      | zero=>rfl
      | succ j=>exact (no (by simpa using hj) hy hx he).elim
    | succ i =>
      cases j with
      | zero=>simp at hj; subst hj; exact (no (by simpa using hi) hx hy he.symm).elim
      | succ j =>
        have hij:i = j:=qdu tail (i:=i) (j:=j) (by simpa using hi) (by simpa using hj) hx hy he
        rw [hij]
theorem Wk.mkd {n:Nat} {t:Tr AV} (ts:List (Nat × AV)) (bl:List Blk) (src:List Nat) (hT:TWs t (rl src h.sz) bl.length ts) (hB:BWs h (rl src h.sz) bl.length src bl)
    (hI:(((src.zip bl).filter fun p=>decide (p.1 < h.sz) && vl p.2).map Prod.fst).Nodup) (hfl:h.fl = 0) (hn:n ≤ bl.length) (hlow:∀ b,b < n → rl src h.sz b = b):Wk n t h (mkT ts) (mkH 0 bl):=by
  obtain ⟨hlen,hget⟩:=hB.get
  refine Wk.of (r:=rl src h.sz) ⟨hfl.symm,fun b' x' hb hg=>?_,fun b1 b2 h1 h2 l1 l2 he hl=>?_,fun b' _ _ _=>by rw [hfl]; exact Nat.zero_le _,hlow,hn,fun b _ hb=>by rw [hfl] at hb; exact absurd hb (Nat.not_lt_zero _),fun j v' hj=>?_⟩
  · rw [xC] at hg
    obtain ⟨b,q1,q2⟩:=hget b' x' hg
    have:rl src h.sz b' = b:=by simp [rl,List.getD_eq_getElem?_getD,q1]
    rw [this]; exact q2
  · obtain ⟨x1,g1,d1⟩:=l1
    obtain ⟨x2,g2,d2⟩:=l2
    rw [xC] at g1 g2
    obtain ⟨c1,q1,_⟩:=hget b1 x1 g1
    obtain ⟨c2,q2,_⟩:=hget b2 x2 g2
    have e1:rl src h.sz b1 = c1:=by simp [rl,List.getD_eq_getElem?_getD,q1]
    have e2:rl src h.sz b2 = c2:=by simp [rl,List.getD_eq_getElem?_getD,q2]
    rw [e1,e2] at he
    rw [e1] at hl
    have v1:vl x1 = true:=by cases x1 <;> first | rfl | exact absurd rfl d1
    have v2:vl x2 = true:=by cases x2 <;> first | rfl | exact absurd rfl d2
    refine qdu hI (i:=b1) (j:=b2) (x:=(c1,x1)) (y:=(c2,x2)) ?_ ?_ ?_ ?_ he
    · rw [List.getElem?_zip_eq_some]; exact ⟨q1,g1⟩
    · rw [List.getElem?_zip_eq_some]; exact ⟨q2,g2⟩
    · simp [hl,v1]
    · simp [← he,hl,v2]
  · exact hT.get _ (Qv hj)
theorem qhe {b o:Nat} {k:AV → Prop}:qcT (.ptr b o) k ↔ k (.ptr b o):=Iff.rfl
theorem qjx {cs:List AV} {o:Nat} {k:AV → Prop}:qcT (.pf cs o) k ↔ k (.pf cs o):=Iff.rfl
theorem qhb {b:Nat} {k:AV → Prop}:qcT (.map b) k ↔ k (.map b):=Iff.rfl
theorem qku {f:Nat} {a c:List AV} {k:AV → Prop}:qcT (.fn f a c) k ↔ k (.fn f a c):=Iff.rfl
theorem qlH {C:zu} {ops:List ROp} {Q:Tr AV → Hp → Prop} {t:Tr AV} {s f f':Nat} {tr:Tr Blk}:VR' C ops Q t (Hp.down ⟨s,f,tr⟩ f') ↔ VR' C ops Q t ⟨s,f',tr⟩:=Iff.rfl
theorem qqJ {C:zu} {ops:List ROp} {Q:Tr AV → Hp → Prop} {t:Tr AV} {s f:Nat} {tr:Tr Blk} {dst:Option Nat} {o:IOp}:VR' C (⟨dst,.op o,none⟩ :: ops) Q t ⟨s,f,tr⟩ ↔
    if wr (.op o) = true then opK qz o t ⟨s,f,tr⟩ (fun v h'=>jC t dst v (fun t'=>VR' C ops Q t' h')) else opK qz o t ⟨s,s,tr⟩ (fun v h'=>jC t dst v (fun t'=>VR' C ops Q t' (h'.down f))):=qn1
theorem qoc {C:zu} {Q:Tr AV → Hp → Prop} {t:Tr AV} {s f:Nat} {tr:Tr Blk}:VR' C [] Q t ⟨s,f,tr⟩ ↔ Q t ⟨s,f,tr⟩:=Iff.rfl
theorem xc {m:Nat}:∀ {v:AV},clo v = true → bnd m v = true:=by
  intro v
  refine AV.rec (motive_1:=fun v=>clo v = true → bnd m v = true) (motive_2:=fun vs=>qC vs = true → zZ m vs = true) ?_ ?_ ?_ ?_ ?_ ?_ ?_ ?_ ?_ ?_ ?_ ?_ ?_ ?_ ?_ ?_ ?_ ?_ ?_ ?_ ?_ ?_ ?_ ?_ v
  all_goals first
    | (intros; rfl)
    | (intros; rename_i hh; simp [clo] at hh; done)
    | skip
  · intro f a c h1 h2 hh
    simp only [clo,Bool.and_eq_true] at hh
    simp only [bnd,h1 hh.1,h2 hh.2,Bool.and_self]
  · intro t v h1 hh
    simp only [clo] at hh
    simp only [bnd,h1 hh]
  · intro cs h1 hh
    simp only [clo] at hh
    simp only [bnd,h1 hh]
  · intro cs h1 hh
    simp only [clo] at hh
    simp only [bnd,h1 hh]
  · intro v vs h1 h2 hh
    simp only [qC,Bool.and_eq_true] at hh
    simp only [zZ,h1 hh.1,h2 hh.2,Bool.and_self]
theorem qX {m:Nat}:∀ {vs:List AV},qC vs = true → zZ m vs = true
  | [],_=>rfl
  | v :: vs,h=>by
    simp only [qC,Bool.and_eq_true] at h
    simp only [zZ,xc h.1,qX h.2,Bool.and_self]
end Go.Kc
end
section
/- One name for the lemmas that every walk names. No condition. -/
namespace Go.Kc
def vQ:=And.intro @List.map_cons.{0,0} (And.intro @List.map_nil.{0,0} (And.intro @Bool.and_true (And.intro @Bool.true_and (And.intro @Bool.and_self (And.intro @and_self (And.intro @Tr.get_set (And.intro @decide_eq_true_eq (And.intro @Bool.false_eq_true (And.intro @true_and (And.intro @and_true (And.intro @List.getElem?_cons_zero.{0} (And.intro @List.getElem?_cons_succ.{0} (And.intro @List.length_cons.{0} (And.intro @List.length_nil.{0} (And.intro @List.take_zero.{0} (And.intro @List.take_succ_cons.{0} (And.intro @List.drop_zero.{0} (And.intro @List.drop_succ_cons.{0} (And.intro @List.drop_nil.{0} (And.intro @List.take_nil.{0} (And.intro @List.nil_append.{0} (And.intro @List.cons_append.{0} (And.intro @List.append_nil.{0} (And.intro @Nat.zero_add (And.intro @Nat.add_zero (And.intro @Nat.le_refl (And.intro @Nat.zero_le (And.intro @Int.toNat_natCast (And.intro @Int.natCast_nonneg (And.intro @Int.ofNat_lt (And.intro @Bool.not_true (And.intro @Bool.not_false (And.intro @decide_true (And.intro @decide_false (And.intro @Bool.xor_false (And.intro @Bool.xor_true (And.intro @Bool.false_xor (And.intro @Bool.true_xor (And.intro @Nat.lt_irrefl (And.intro @List.replicate_succ.{0} (And.intro @List.replicate_zero.{0} (And.intro @List.flatten_cons.{0} (And.intro @List.flatten_nil.{0} (And.intro @Nat.succ_eq_add_one (And.intro @Option.isNone_none.{0} (And.intro @Option.isSome_none.{0} (And.intro @Bool.false_and (And.intro @Bool.and_false (And.intro @Nat.sub_zero (And.intro @qeR (And.intro @qdm (And.intro @qgT (And.intro @qmf (And.intro @qcc (And.intro @Qx (And.intro @yo @List.append_assoc.{0}))))))))))))))))))))))))))))))))))))))))))))))))))))))))
def vX:=And.intro @qlH (And.intro @qqJ (And.intro @qoc (And.intro @qjE (And.intro @qhn (And.intro @qjF (And.intro @qhe (And.intro @qjx (And.intro @qhb @qku))))))))
def vS:=And.intro vA (And.intro vE (And.intro vO (And.intro vB (And.intro vF (And.intro vM (And.intro vR vX))))))
def vT:=And.intro @qoZ (And.intro vP (And.intro vC (And.intro vQ (And.intro @qgE (And.intro @qeE (And.intro not_false_eq_true (And.intro @eq_self.{1} @Int.cast_ofNat_Int)))))))
def vw:=And.intro vW (And.intro @qnE (And.intro @qdE (And.intro @qhS (And.intro @qgg (And.intro @qfj (And.intro vP (And.intro vZ @Tr.get_set)))))))
def vK:=And.intro @List.cons_append.{0} (And.intro @List.nil_append.{0} (And.intro @List.length_cons.{0} (And.intro @List.length_nil.{0} (And.intro Nat.zero_add (And.intro @List.take_succ_cons.{0} (And.intro @List.take_zero.{0} (And.intro @List.drop_succ_cons.{0} (And.intro @List.drop_zero.{0} (And.intro @List.map_cons.{0,0} (And.intro @List.map_nil.{0,0} (And.intro @List.getD_cons_zero.{0} (And.intro @List.getD_cons_succ.{0} (And.intro @qdm (And.intro @qeR (And.intro @yo (And.intro @Qx (And.intro @qgT @qcc)))))))))))))))))
def vJ:=And.intro @yo (And.intro @Qx (And.intro @qcc (And.intro @qgE (And.intro @qeE (And.intro @List.map_cons.{0,0} (And.intro @List.map_nil.{0,0} (And.intro @qm5 (And.intro @qgs Nat.zero_add))))))))
def vL:=And.intro @qhG (And.intro @qiU (And.intro @yo (And.intro @Qx @qcc)))
def vI:=And.intro @List.length_cons.{0} (And.intro @List.length_nil.{0} Nat.zero_add)
end Go.Kc
end
section
/- A row that is written no more becomes a row that stays as it is. No condition. -/
namespace Go.Kc
variable {P:Program}

mutual
def fzv (b e:Nat) (cs:List AV):AV → AV
  | .own b' n=>if b' = b then .fz n (if n = 0 then [] else cs) else .own b' n
  | .ptr b' o=>if b' = b then .pf cs o else .ptr b' o
  | .sl b' o n c l=>if b' = b then (if n ≤ c then .fz n ((cs.drop o).take (n * e)) else .undef) else .sl b' o n c l
  | .map b'=>if b' = b then .undef else .map b'
  | .fn f x c=>.fn f (wI b e cs x) (wI b e cs c)
  | .ifc t v=>.ifc t (fzv b e cs v)
  | .agg l=>.agg (wI b e cs l)
  | .tup l=>.tup (wI b e cs l)
  | v=>v
def wI (b e:Nat) (cs:List AV):List AV → List AV
  | []=>[]
  | v :: vs=>fzv b e cs v :: wI b e cs vs
end
def fzB (b e:Nat) (cs:List AV):Blk → Blk
  | .cells k w a l=>.cells k w a (wI b e cs l)
  | .dead=>.dead
  | .map es=>.map es
theorem qcl {b e:Nat} {cs:List AV}:∀ {vs:List AV} {j:Nat},(wI b e cs vs)[j]? = (vs[j]?).map (fzv b e cs)
  | [],j=>by simp [wI]
  | v :: vs,0=>by simp [wI]
  | v :: vs,j + 1=>by simpa [wI] using qcl (vs:=vs) (j:=j)
theorem jh {b e:Nat} {cs:List AV}:∀ {vs:List AV},(wI b e cs vs).length = vs.length
  | []=>rfl
  | v :: vs=>by simp [wI,jh (vs:=vs)]
theorem qlG {b e:Nat} {cs:List AV} {v:AV} (hv:clo v = true):fzv b e cs v = v:=by
  refine AV.rec (motive_1:=fun v=>clo v = true → fzv b e cs v = v) (motive_2:=fun vs=>qC vs = true → wI b e cs vs = vs) ?_ ?_ ?_ ?_ ?_ ?_ ?_ ?_ ?_ ?_ ?_ ?_ ?_ ?_ ?_ ?_ ?_ ?_ ?_ ?_ ?_ ?_ ?_ ?_ v hv
  all_goals first
    | (intros; rfl)
    | (intros; rename_i hh; simp [clo] at hh; done)
    | skip
  · intro f a c h1 h2 hh
    simp only [clo,Bool.and_eq_true] at hh
    simp only [fzv,h1 hh.1,h2 hh.2]
  · intro t v h1 hh
    simp only [clo] at hh
    simp only [fzv,h1 hh]
  · intro cs h1 hh
    simp only [clo] at hh
    simp only [fzv,h1 hh]
  · intro cs h1 hh
    simp only [clo] at hh
    simp only [fzv,h1 hh]
  · intro v vs h1 h2 hh
    simp only [qC,Bool.and_eq_true] at hh
    simp only [wI,h1 hh.1,h2 hh.2]
theorem kq {b e:Nat} {cs:List AV}:∀ {vs:List AV},qC vs = true → wI b e cs vs = vs
  | [],_=>rfl
  | v :: vs,h=>by
    simp only [qC,Bool.and_eq_true] at h
    simp only [wI,qlG h.1,kq h.2]
theorem CRs.cut {φ:Nat → Option (Array Value)}:∀ {cs:List AV} {vs:List Value} (o m:Nat),CRs σ0 φ cs (vs.take cs.length) → CRs σ0 φ ((cs.drop o).take m) ((vs.drop o).take ((cs.drop o).take m).length)
  | [],vs,o,m,h=>by simp; exact .nil
  | c :: cs,[],o,m,h=>by simp at h; cases h
  | c :: cs,v :: vs,0,0,h=>by simp; exact .nil
  | c :: cs,v :: vs,0,m + 1,h=>by
    simp only [List.length_cons,List.take_succ_cons] at h
    cases h with
    | cons _ _ _ _ h1 h2 =>
      have:=CRs.cut 0 m h2
      simp only [List.drop_zero] at this
      simp only [List.drop_zero,List.take_succ_cons,List.length_cons]
      exact .cons _ _ _ _ h1 this
  | c :: cs,v :: vs,o + 1,m,h=>by
    simp only [List.length_cons,List.take_succ_cons] at h
    cases h with
    | cons _ _ _ _ h1 h2=>simpa using CRs.cut o m h2
def Ren.iced (ρ:Ren) (b k:Nat) (arr:Array Value):Ren:=⟨fun b'=>if b' = b then none else ρ b',fun k'=>if k' = k then some arr else ρ.frz k',ρ.n⟩
mutual
theorem VR.iced {ρ:Ren} {b e:Nat} {cs:List AV} {L:Loc} {arr:Array Value} (hL:∀ L',ρ b = some L' → L' = L) (hf:∀ k a,ρ.frz k = some a → (ρ.iced b L.blk arr).frz k = some a)
    (hs:CRs σ0 (ρ.iced b L.blk arr).frz cs ((arr.toList.drop L.off).take cs.length)):∀ {v:AV} {x:Value},VR σ0 ρ v x → VR σ0 (ρ.iced b L.blk arr) (fzv b e cs v) x
  | _,_,.undef v=>.undef v
  | _,_,.b x=>.b x
  | _,_,.i k n=>.i k n
  | _,_,.s x=>.s x
  | _,_,.nilp=>.nilp
  | _,_,.ptr b' o L' h=>by
    simp only [fzv]
    split
    · rename_i hb; subst hb
      obtain rfl:=hL _ h
      refine .pf o L'.off cs L'.blk arr (by simp [Ren.iced]) hs
    · rename_i hb
      exact .ptr _ _ L' (by simp only [Ren.iced]; rw [if_neg hb]; exact h)
  | _,_,.nils=>.nils
  | _,_,.sl b' o n cap c l L' h hc=>by
    simp only [fzv]
    split
    · rename_i hb; subst hb
      obtain rfl:=hL _ h
      split
      · rename_i hn
        refine .fz n (L'.off + o) c _ L'.blk arr (by omega) (by simp [Ren.iced]) ?_
        have:=CRs.cut o (n * e) hs
        rw [List.drop_drop] at this
        exact this
      · exact .undef _
    · rename_i hb
      exact .sl _ _ _ _ _ _ L' (by simp only [Ren.iced]; rw [if_neg hb]; exact h) hc
  | _,_,.slz b' o x l L' h=>by
    simp only [fzv]
    split
    · simp; exact .fz0 _
    · rename_i hb
      exact .slz _ _ _ _ L' (by simp only [Ren.iced]; rw [if_neg hb]; exact h)
  | _,_,.nilf=>.nilf
  | _,_,.fn f first cap first' cap' h1 h2=>.fn _ _ _ _ _ (VRs.iced hL hf hs h1) (VRs.iced hL hf hs h2)
  | _,_,.nili=>.nili
  | _,_,.ifc t v v' h=>.ifc _ _ _ (VR.iced hL hf hs h)
  | _,_,.agg l l' h=>.agg _ _ (VRs.iced hL hf hs h)
  | _,_,.tup l l' h=>.tup _ _ (VRs.iced hL hf hs h)
  | _,_,.nilm=>.nilm
  | _,_,.map b' L' h h0=>by
    simp only [fzv]
    split
    · exact .undef _
    · rename_i hb
      exact .map _ L' (by simp only [Ren.iced]; rw [if_neg hb]; exact h) h0
  | _,_,.sym j=>.sym j
  | _,_,.fz n off c l k a hn h h2=>.fz n off c l k a hn (hf _ _ h) (h2.mono hf)
  | _,_,.fz0 a=>.fz0 a
  | _,_,.pf off base l k a h h2=>.pf off base l k a (hf _ _ h) (h2.mono hf)
  | _,_,.e0 a=>.e0 a
  | _,_,.nz a c=>.nz a c
  | _,_,.own0 b' a hb=>by
    simp only [fzv]
    split
    · simp; exact .fz0 _
    · exact .own0 _ _ hb
  | _,_,.own b' n c L' h hn hc=>by
    simp only [fzv]
    split
    · rename_i hb; subst hb
      obtain rfl:=hL _ h
      split
      · rename_i h0
        subst h0
        exact .fz 0 L'.off c [] L'.blk arr (by omega) (by simp [Ren.iced]) (by simp; exact .nil)
      · exact .fz n L'.off c cs L'.blk arr hn (by simp [Ren.iced]) hs
    · rename_i hb
      exact .own _ _ _ L' (by simp only [Ren.iced]; rw [if_neg hb]; exact h) hn hc
theorem VRs.iced {ρ:Ren} {b e:Nat} {cs:List AV} {L:Loc} {arr:Array Value} (hL:∀ L',ρ b = some L' → L' = L) (hf:∀ k a,ρ.frz k = some a → (ρ.iced b L.blk arr).frz k = some a)
    (hs:CRs σ0 (ρ.iced b L.blk arr).frz cs ((arr.toList.drop L.off).take cs.length)):∀ {v:List AV} {x:List Value},VRs σ0 ρ v x → VRs σ0 (ρ.iced b L.blk arr) (wI b e cs v) x
  | _,_,.nil=>.nil
  | _,_,.cons v vs v' vs' h h2=>.cons _ _ _ _ (VR.iced hL hf hs h) (VRs.iced hL hf hs h2)
end
mutual
theorem VR.iced0 {ρ:Ren} {b e:Nat} {cs:List AV} (hL:ρ b = none):∀ {v:AV} {x:Value},VR σ0 ρ v x → VR σ0 ρ (fzv b e cs v) x
  | _,_,.undef v=>.undef v
  | _,_,.b x=>.b x
  | _,_,.i k n=>.i k n
  | _,_,.s x=>.s x
  | _,_,.nilp=>.nilp
  | _,_,.ptr b' o L' h=>by
    simp only [fzv]
    split
    · rename_i hb; subst hb; rw [hL] at h; cases h
    · exact .ptr _ _ L' h
  | _,_,.nils=>.nils
  | _,_,.sl b' o n cap c l L' h hc=>by
    simp only [fzv]
    split
    · rename_i hb; subst hb; rw [hL] at h; cases h
    · exact .sl _ _ _ _ _ _ L' h hc
  | _,_,.slz b' o x l L' h=>by
    simp only [fzv]
    split
    · simp; exact .fz0 _
    · exact .slz _ _ _ _ L' h
  | _,_,.nilf=>.nilf
  | _,_,.fn f first cap first' cap' h1 h2=>.fn _ _ _ _ _ (VRs.iced0 hL h1) (VRs.iced0 hL h2)
  | _,_,.nili=>.nili
  | _,_,.ifc t v v' h=>.ifc _ _ _ (VR.iced0 hL h)
  | _,_,.agg l l' h=>.agg _ _ (VRs.iced0 hL h)
  | _,_,.tup l l' h=>.tup _ _ (VRs.iced0 hL h)
  | _,_,.nilm=>.nilm
  | _,_,.map b' L' h h0=>by
    simp only [fzv]
    split
    · exact .undef _
    · exact .map _ L' h h0
  | _,_,.sym j=>.sym j
  | _,_,.fz n off c l k a hn h h2=>.fz n off c l k a hn h h2
  | _,_,.fz0 a=>.fz0 a
  | _,_,.pf off base l k a h h2=>.pf off base l k a h h2
  | _,_,.e0 a=>.e0 a
  | _,_,.nz a c=>.nz a c
  | _,_,.own0 b' a hb=>by
    simp only [fzv]
    split
    · simp; exact .fz0 _
    · exact .own0 _ _ hb
  | _,_,.own b' n c L' h hn hc=>by
    simp only [fzv]
    split
    · rename_i hb; subst hb; rw [hL] at h; cases h
    · exact .own _ _ _ L' h hn hc
theorem VRs.iced0 {ρ:Ren} {b e:Nat} {cs:List AV} (hL:ρ b = none):∀ {v:List AV} {x:List Value},VRs σ0 ρ v x → VRs σ0 ρ (wI b e cs v) x
  | _,_,.nil=>.nil
  | _,_,.cons v vs v' vs' h h2=>.cons _ _ _ _ (VR.iced0 hL h) (VRs.iced0 hL h2)
end
theorem Wk.freeze {n:Nat} {ts:List (Nat × AV)} {bl:List Blk} (b e e':Nat) {a:Bool} {cs:List AV} (hb:bl[b]? = some (.cells e' true a cs)) (hc:qC cs = true) (hn:n ≤ b) (hm:∀ es,Blk.map es ∈ bl → Qh es) :
    Wk n (mkT ts) (mkH 0 bl) (mkT (ts.map fun p=>(p.1,fzv b e cs p.2))) (mkH 0 ((bl.map (fzB b e cs)).set b .dead)):=by
  intro ρ B w tm ht r
  have hlt:b < bl.length:=(List.getElem?_eq_some_iff.1 hb).1
  have hgb:(mkH 0 bl).tr.get b = some (.cells e' true a cs):=by rw [xC]; exact hb
  have tget:∀ (ts:List (Nat × AV)) (j:Nat),(mkT (ts.map fun p=>(p.1,fzv b e cs p.2))).get j = ((mkT ts).get j).map (fzv b e cs):=by
    intro ts j
    induction ts with
    | nil=>simp [mkT]
    | cons p l ih =>
      simp only [List.map_cons,mkT,Tr.get_set]
      split
      · rfl
      · exact ih
  have hget:∀ b',b' ≠ b → (mkH 0 ((bl.map (fzB b e cs)).set b .dead)).tr.get b' = ((mkH 0 bl).tr.get b').map (fzB b e cs):=by
    intro b' hne
    rw [xC,xC,List.getElem?_set_ne (Ne.symm hne),List.getElem?_map]
  have hgd:(mkH 0 ((bl.map (fzB b e cs)).set b .dead)).tr.get b = some .dead:=by
    rw [xC,List.getElem?_set_self (by simpa using hlt)]
  -- a live block of the new heap comes from one of the old
  have vl:∀ b' x,(mkH 0 ((bl.map (fzB b e cs)).set b .dead)).tr.get b' = some x → x ≠ .dead → b' ≠ b ∧ ∃ y,(mkH 0 bl).tr.get b' = some y ∧ x = fzB b e cs y ∧ y ≠ .dead:=by
    intro b' x hx hd
    have hne:b' ≠ b:=by
      rintro rfl; rw [hgd] at hx; cases hx; exact hd rfl
    rw [hget b' hne] at hx
    cases hy:(mkH 0 bl).tr.get b' with
    | none=>rw [hy] at hx; simp at hx
    | some y =>
      rw [hy] at hx
      simp at hx
      exact ⟨hne,y,rfl,hx.symm,by rintro rfl; subst hx; exact hd rfl⟩
  have hsz:(mkH 0 ((bl.map (fzB b e cs)).set b .dead)).sz = bl.length:=by simp [qgd]
  cases hρ:ρ b with
  | none =>
    refine ⟨ρ,fun j v hj=>?_,⟨?_,?_,?_,?_,?_,?_,?_,r.base,?_,?_⟩,⟨fun _ _=>rfl,by rw [hsz]; omega,rfl,fun b' hb'=>by simp [qjp] at hb',fun _ _=>rfl,Nat.le_refl _,⟨rfl,rfl⟩,fun _ _ h=>h,fun _ _ h=>.inl h,fun _ _ h=>h⟩⟩
    · rw [tget] at hj
      cases hv:(mkT ts).get j with
      | none=>rw [hv] at hj; simp at hj
      | some v0 =>
        rw [hv] at hj; simp at hj; subst hj
        exact ⟨(ht j v0 hv).1,VR.iced0 hρ (ht j v0 hv).2⟩
    · intro b' L h1; rw [hsz]; exact r.dom b' L h1
    · intro b' L e1 wf af cs' h1 h2
      obtain ⟨h3,y,h4,h5,h6⟩:=vl b' _ h2 (by simp)
      cases y with
      | cells k w0 a0 l =>
        simp only [fzB,Blk.cells.injEq] at h5
        obtain ⟨rfl,rfl,rfl,rfl⟩:=h5
        obtain ⟨q1,c,ty,fz,q2,q3,q4,q5,q6⟩:=r.cells b' L _ _ _ l h1 h4
        refine ⟨q1,c,ty,fz,q2,q3,by rw [jh]; exact q4,fun j v hv=>?_,q6⟩
        rw [qcl] at hv
        cases hj:l[j]? with
        | none=>rw [hj] at hv; simp at hv
        | some v0 =>
          rw [hj] at hv; simp at hv; subst hv
          obtain ⟨v',g1,g2⟩:=q5 j v0 hj
          exact ⟨v',g1,VR.iced0 hρ g2⟩
      | dead=>simp [fzB] at h5
      | map es=>simp [fzB] at h5
    · intro b' L es h1 h2
      obtain ⟨h3,y,h4,h5,h6⟩:=vl b' _ h2 (by simp)
      cases y with
      | cells k w0 a0 l=>simp [fzB] at h5
      | dead=>simp [fzB] at h5
      | map es'=>simp only [fzB,Blk.map.injEq] at h5; subst h5; exact r.maps b' L _ h1 h4
    · intro b1 L1 e1 af1 cs1 h1 h2 b2 L2 x h3 h4 h5 h6
      obtain ⟨g1,y,g2,g3,g4⟩:=vl b1 _ h2 (by simp)
      obtain ⟨i1,y2,i2,i3,i4⟩:=vl b2 _ h4 h5
      cases y with
      | cells k w0 a0 l =>
        simp only [fzB,Blk.cells.injEq] at g3
        obtain ⟨rfl,rfl,rfl,rfl⟩:=g3
        exact r.excl b1 L1 _ _ l h1 g2 b2 L2 y2 h3 i2 i4 h6
      | dead=>simp [fzB] at g3
      | map es=>simp [fzB] at g3
    · intro b1 L1 es h1 h2 b2 L2 x h3 h4 h5 h6
      obtain ⟨g1,y,g2,g3,g4⟩:=vl b1 _ h2 (by simp)
      obtain ⟨i1,y2,i2,i3,i4⟩:=vl b2 _ h4 h5
      cases y with
      | cells k w0 a0 l=>simp [fzB] at g3
      | dead=>simp [fzB] at g3
      | map es'=>simp only [fzB,Blk.map.injEq] at g3; subst g3; exact r.exclm b1 L1 _ h1 g2 b2 L2 y2 h3 i2 i4 h6
    · intro b1 L1 e1 wf1 cs1 h1 h2 b2 L2 e2 wf2 af2 cs2 h3 h4 h6
      obtain ⟨g1,y,g2,g3,g4⟩:=vl b1 _ h2 (by simp)
      obtain ⟨i1,y2,i2,i3,i4⟩:=vl b2 _ h4 (by simp)
      cases y <;> simp only [fzB,Blk.cells.injEq,reduceCtorEq] at g3
      cases y2 <;> simp only [fzB,Blk.cells.injEq,reduceCtorEq] at i3
      obtain ⟨rfl,rfl,rfl,rfl⟩:=g3
      obtain ⟨rfl,rfl,rfl,rfl⟩:=i3
      rw [jh,jh]
      exact r.app b1 L1 _ _ _ h1 g2 b2 L2 _ _ _ _ h3 i2 h6
    · intro b' L h1 h2; exact r.flr b' L h1 (Nat.zero_le _)
    · intro k arr hk
      refine ⟨(r.frz k arr hk).1,fun b' L x h1 h2 h3=>?_⟩
      obtain ⟨g1,y,g2,g3,g4⟩:=vl b' _ h2 h3
      exact (r.frz k arr hk).2 b' L y h1 g2 g4
    · rw [hsz]; exact r.dn
  | some L =>
    obtain ⟨q1,c,ty,fz,q2,q3,q4,q5,q6⟩:=r.cells b L _ _ _ cs hρ hgb
    have hf:∀ k a,ρ.frz k = some a → (ρ.iced b L.blk c).frz k = some a:=by
      intro k a' hk
      simp only [Ren.iced]
      rw [if_neg (fun hh=>(r.frz k a' hk).2 b L _ hρ hgb (by simp) hh.symm)]
      exact hk
    have hLs:∀ L',ρ b = some L' → L' = L:=by intro L' h; rw [hρ] at h; cases h; rfl
    have hcr:∀ (l:List AV) (j:Nat),(∀ i v,l[i]? = some v → ∃ v',c.toList[j + i]? = some v' ∧ VR σ0 ρ v v') → qC l = true → CRs σ0 (ρ.iced b L.blk c).frz l ((c.toList.drop j).take l.length):=by
      intro l
      induction l with
      | nil=>intro j _ _; simp; exact .nil
      | cons v l ih =>
        intro j hh hcl
        simp only [qC,Bool.and_eq_true] at hcl
        obtain ⟨v',g1,g2⟩:=hh 0 v rfl
        simp only [Nat.add_zero] at g1
        obtain ⟨hj,rfl⟩:=List.getElem?_eq_some_iff.1 g1
        rw [List.drop_eq_getElem_cons hj,List.length_cons,List.take_succ_cons]
        refine .cons _ _ _ _ ((g2.cr hcl.1).mono hf) (ih (j + 1) (fun i v hi=>?_) hcl.2)
        obtain ⟨v',k1,k2⟩:=hh (i + 1) v (by simpa using hi)
        exact ⟨v',by rw [show j + 1 + i = j + (i + 1) from by omega]; exact k1,k2⟩
    have hs:CRs σ0 (ρ.iced b L.blk c).frz cs ((c.toList.drop L.off).take cs.length):=hcr cs L.off (fun i v hi=>by
      obtain ⟨v',g1,g2⟩:=q5 i v hi
      exact ⟨v',by simpa using g1,g2⟩) hc
    have old:∀ b' L',(ρ.iced b L.blk c) b' = some L' → b' ≠ b ∧ ρ b' = some L':=by
      intro b' L' h
      by_cases hbb:b' = b
      · subst hbb; simp [Ren.iced] at h
      · refine ⟨hbb,?_⟩
        simp only [Ren.iced] at h
        rw [if_neg hbb] at h; exact h
    refine ⟨ρ.iced b L.blk c,fun j v hj=>?_,⟨?_,?_,?_,?_,?_,?_,?_,r.base,?_,?_⟩,⟨fun b' hb'=>by simp only [Ren.iced]; rw [if_neg (by omega)],by rw [hsz]; omega,rfl,fun b' hb'=>by simp [qjp] at hb',fun _ _=>rfl,Nat.le_refl _,⟨rfl,rfl⟩,hf,fun k a' hk=>?_,fun _ _ h=>h⟩⟩
    · rw [tget] at hj
      cases hv:(mkT ts).get j with
      | none=>rw [hv] at hj; simp at hj
      | some v0 =>
        rw [hv] at hj; simp at hj; subst hj
        exact ⟨(ht j v0 hv).1,VR.iced hLs hf hs (ht j v0 hv).2⟩
    · intro b' L' h1; rw [hsz]; exact r.dom b' L' (old _ _ h1).2
    · intro b' L' e1 wf af cs' h1 h2
      obtain ⟨h3,y,h4,h5,h6⟩:=vl b' _ h2 (by simp)
      cases y with
      | cells k w0 a0 l =>
        simp only [fzB,Blk.cells.injEq] at h5
        obtain ⟨rfl,rfl,rfl,rfl⟩:=h5
        obtain ⟨p1,c',ty',fz',p2,p3,p4,p5,p6⟩:=r.cells b' L' _ _ _ l (old _ _ h1).2 h4
        refine ⟨p1,c',ty',fz',p2,p3,by rw [jh]; exact p4,fun j v hv=>?_,p6⟩
        rw [qcl] at hv
        cases hj:l[j]? with
        | none=>rw [hj] at hv; simp at hv
        | some v0 =>
          rw [hj] at hv; simp at hv; subst hv
          obtain ⟨v',g1,g2⟩:=p5 j v0 hj
          exact ⟨v',g1,VR.iced hLs hf hs g2⟩
      | dead=>simp [fzB] at h5
      | map es=>simp [fzB] at h5
    · intro b' L' es h1 h2
      obtain ⟨h3,y,h4,h5,h6⟩:=vl b' _ h2 (by simp)
      cases y with
      | cells k w0 a0 l=>simp [fzB] at h5
      | dead=>simp [fzB] at h5
      | map es' =>
        simp only [fzB,Blk.map.injEq] at h5; subst h5
        obtain ⟨p1,o,p2,p3⟩:=r.maps b' L' _ (old _ _ h1).2 h4
        refine ⟨p1,o,p2,?_⟩
        have hcm:Qh es:=hm es (by rw [xC] at h4; exact List.mem_of_getElem? h4)
        rcases p3 with ⟨p1,vs,clk,p2,p3,p4⟩ | p3
        · exact .inl ⟨p1,vs,clk,p2,p3,fun j e0 he=>let ⟨v,a1,a2,a3⟩:=p4 j e0 he
            ⟨v,a1,CR.vr (ρ:=ρ.iced b L.blk c) ((a2.cr (hcm e0 (List.mem_of_getElem? he)).1).mono hf),CR.vr (ρ:=ρ.iced b L.blk c) ((a3.cr (hcm e0 (List.mem_of_getElem? he)).2).mono hf)⟩⟩
        · exact .inr p3
    · intro b1 L1 e1 af1 cs1 h1 h2 b2 L2 x h3 h4 h5 h6
      obtain ⟨g1,y,g2,g3,g4⟩:=vl b1 _ h2 (by simp)
      obtain ⟨i1,y2,i2,i3,i4⟩:=vl b2 _ h4 h5
      cases y <;> simp only [fzB,Blk.cells.injEq,reduceCtorEq] at g3
      obtain ⟨rfl,rfl,rfl,rfl⟩:=g3
      exact r.excl b1 L1 _ _ _ (old _ _ h1).2 g2 b2 L2 y2 (old _ _ h3).2 i2 i4 h6
    · intro b1 L1 es h1 h2 b2 L2 x h3 h4 h5 h6
      obtain ⟨g1,y,g2,g3,g4⟩:=vl b1 _ h2 (by simp)
      obtain ⟨i1,y2,i2,i3,i4⟩:=vl b2 _ h4 h5
      cases y <;> simp only [fzB,Blk.map.injEq,reduceCtorEq] at g3
      subst g3
      exact r.exclm b1 L1 _ (old _ _ h1).2 g2 b2 L2 y2 (old _ _ h3).2 i2 i4 h6
    · intro b1 L1 e1 wf1 cs1 h1 h2 b2 L2 e2 wf2 af2 cs2 h3 h4 h6
      obtain ⟨g1,y,g2,g3,g4⟩:=vl b1 _ h2 (by simp)
      obtain ⟨i1,y2,i2,i3,i4⟩:=vl b2 _ h4 (by simp)
      cases y <;> simp only [fzB,Blk.cells.injEq,reduceCtorEq] at g3
      cases y2 <;> simp only [fzB,Blk.cells.injEq,reduceCtorEq] at i3
      obtain ⟨rfl,rfl,rfl,rfl⟩:=g3
      obtain ⟨rfl,rfl,rfl,rfl⟩:=i3
      rw [jh,jh]
      exact r.app b1 L1 _ _ _ (old _ _ h1).2 g2 b2 L2 _ _ _ _ (old _ _ h3).2 i2 h6
    · intro b' L' h1 h2; exact r.flr b' L' (old _ _ h1).2 (Nat.zero_le _)
    · intro k arr hk
      by_cases hkk:k = L.blk
      · subst hkk
        simp [Ren.iced] at hk
        subst hk
        refine ⟨⟨ty,fz,q2⟩,fun b' L' x h1 h2 h3 h6=>?_⟩
        obtain ⟨g1,y,g2,g3,g4⟩:=vl b' _ h2 h3
        exact g1 (r.excl b L _ _ _ hρ hgb b' L' y (old _ _ h1).2 g2 g4 h6)
      · simp only [Ren.iced] at hk
        rw [if_neg hkk] at hk
        refine ⟨(r.frz k arr hk).1,fun b' L' x h1 h2 h3=>?_⟩
        obtain ⟨g1,y,g2,g3,g4⟩:=vl b' _ h2 h3
        exact (r.frz k arr hk).2 b' L' y (old _ _ h1).2 g2 g4
    · rw [hsz]; exact r.dn
    · simp only [Ren.iced] at hk
      split at hk
      · rename_i hkk; subst hkk
        exact .inr (r.flr b L hρ (Nat.zero_le _))
      · exact .inl hk

theorem Own.pure {f:Nat} {vs:List AV} {v v':AV} {bs:List Blk} (hcl:qC vs = true) (ho:Own P f vs v bs) (hf:Frz (xU H0 (bs.map (shb 0))) (shv 0 v) v'):qg P f vs v' :=
  qg.of_SC hcl (ho H0 _ hf)
end Go.Kc
end
section
/- Rows of one's own opened to their capacity, and closed again; functions that the model itself answers. No condition. -/
namespace Go.Kc
variable {P:Program} {n:Nat} {t:Tr AV} {h:Hp}

theorem Wk.trans {t1 t2:Tr AV} {h1 h2:Hp} (a:Wk n t h t1 h1) (b:Wk n t1 h1 t2 h2):Wk n t h t2 h2:=by
  intro ρ B w tm ht r
  obtain ⟨ρ1,g1,g2,g3⟩:=a ρ B w tm ht r
  obtain ⟨ρ2,k1,k2,k3⟩:=b ρ1 B w tm g1 g2
  exact ⟨ρ2,k1,k2,g3.trans k3⟩
theorem Wk.close (j b x c e q:Nat) {l a:Bool} {cs:List AV} (ht:t.get j = some (.sl b 0 x c l)) (hb:h.tr.get b = some (.cells e true a cs)) (hc:c * e ≤ cs.length) (hx:x ≤ c) (hq:q ≤ cs.length) (hfl:h.fl ≤ b) (hbs:b < h.sz) (hn:n ≤ h.sz) :
    Wk n t h (t.set j (.own b x)) ⟨h.sz,h.fl,h.tr.set b (.cells e true true (cs.take q))⟩:=by
  intro ρ B w tm htr r
  have le:ρ.le ⟨ρ.loc,ρ.frz,h.sz⟩:=⟨fun _ _ h=>h,fun _ _ h=>h,r.dn⟩
  have old:∀ b' x,((h.tr.set b (.cells e true true (cs.take q))).get b' = some x) → (b' = b ∧ x = .cells e true true (cs.take q)) ∨ (b' ≠ b ∧ h.tr.get b' = some x):=by
    intro b' x hx
    rw [Tr.get_set] at hx
    split at hx
    · rename_i h1; cases hx; exact .inl ⟨h1,rfl⟩
    · rename_i h1; exact .inr ⟨h1,hx⟩
  have olive:∀ b' x,((h.tr.set b (.cells e true true (cs.take q))).get b' = some x) → x ≠ .dead → ∃ y,h.tr.get b' = some y ∧ y ≠ .dead:=by
    intro b' x hx hd
    rcases old b' x hx with ⟨rfl,rfl⟩ | ⟨_,g⟩
    · exact ⟨_,hb,by simp⟩
    · exact ⟨x,g,hd⟩
  refine ⟨⟨ρ.loc,ρ.frz,h.sz⟩,fun i v hv=>?_,⟨r.dom,?_,?_,?_,?_,?_,r.flr,r.base,?_,Nat.le_refl _⟩,⟨fun _ _=>rfl,hn,rfl,fun b' h1 h2=>?_,fun _ _=>rfl,Nat.le_refl _,⟨rfl,rfl⟩,fun _ _ h=>h,fun _ _ h=>.inl h,fun b' h1 h2=>Nat.lt_of_lt_of_le h1 hn⟩⟩
  · rw [Tr.get_set] at hv
    split at hv
    · rename_i hij; subst hij; cases hv
      obtain ⟨h1,h2⟩:=htr _ _ ht
      refine ⟨h1,?_⟩
      generalize tm.getD i undef = gv at h2
      cases h2 with
      | sl _ _ _ _ c' _ L h3 h4 =>
        obtain ⟨q1,co,ty,fz,q2,q3,q4,q5,q6⟩:=r.cells b L _ _ _ cs h3 hb
        refine .own _ _ _ L h3 (by rcases h4 with h4 | h4 <;> omega) ?_
        rcases h4 with rfl | ⟨_,_,h4⟩
        · rw [q1]; omega
        · simpa using h4
      | slz=>exact .own0 _ _ hbs
    · obtain ⟨h1,h2⟩:=htr _ _ hv
      exact ⟨h1,h2.mono le⟩
  · intro b' L e1 wf af cs' h1 h2
    rcases old b' _ h2 with ⟨rfl,g⟩ | ⟨_,g⟩
    · cases g
      obtain ⟨q1,co,ty,fz,q2,q3,q4,q5,q6⟩:=r.cells _ L _ _ _ cs h1 hb
      refine ⟨q1,co,ty,fz,q2,q3,by simp; omega,fun i v hv=>?_,fun _=>q6 (by simp)⟩
      obtain ⟨v',k1,k2⟩:=q5 i v (by
        rw [List.getElem?_take] at hv
        split at hv
        · exact hv
        · cases hv)
      exact ⟨v',k1,k2.mono le⟩
    · obtain ⟨q1,co,ty,fz,q2,q3,q4,q5,q6⟩:=r.cells _ L _ _ _ _ h1 g
      exact ⟨q1,co,ty,fz,q2,q3,q4,fun i v hv=>let ⟨v',k1,k2⟩:=q5 i v hv; ⟨v',k1,k2.mono le⟩,q6⟩
  · intro b' L es h1 h2
    rcases old b' _ h2 with ⟨rfl,g⟩ | ⟨_,g⟩
    · cases g
    · obtain ⟨q1,o,q2,q3⟩:=r.maps b' L es h1 g
      exact ⟨q1,o,q2,q3.mono le⟩
  · intro b1 L1 e1 af1 cs1 h1 h2 b2 L2 y h3 h4 h5 h6
    obtain ⟨y2,i1,i2⟩:=olive b2 y h4 h5
    rcases old b1 _ h2 with ⟨rfl,g⟩ | ⟨_,g⟩
    · exact r.excl _ L1 _ _ cs h1 hb b2 L2 y2 h3 i1 i2 h6
    · exact r.excl _ L1 _ _ _ h1 g b2 L2 y2 h3 i1 i2 h6
  · intro b1 L1 es h1 h2 b2 L2 y h3 h4 h5 h6
    obtain ⟨y2,i1,i2⟩:=olive b2 y h4 h5
    rcases old b1 _ h2 with ⟨rfl,g⟩ | ⟨_,g⟩
    · cases g
    · exact r.exclm _ L1 _ h1 g b2 L2 y2 h3 i1 i2 h6
  · intro b1 L1 e1 wf1 cs1 h1 h2 b2 L2 e2 wf2 af2 cs2 h3 h4 h6
    rcases old b1 _ h2 with ⟨rfl,g⟩ | ⟨hne,g⟩ <;> rcases old b2 _ h4 with ⟨rfl,g'⟩ | ⟨hne',g'⟩
    · cases g; cases g'
      have:L1 = L2:=by rw [h1] at h3; cases h3; rfl
      subst this
      exact ⟨Nat.le_refl _,fun _=>rfl⟩
    · cases g
      exact absurd (r.excl _ L1 _ _ cs h1 hb b2 L2 _ h3 g' (by simp) h6) hne'
    · cases g'
      exact absurd (r.excl _ L2 _ _ cs h3 hb b1 L1 _ h1 g (by simp) h6.symm) hne
    · exact r.app b1 L1 _ _ _ h1 g b2 L2 _ _ _ _ h3 g' h6
  · intro k arr hk
    refine ⟨(r.frz k arr hk).1,fun b' L y h1 h2 h3=>?_⟩
    obtain ⟨y2,i1,i2⟩:=olive b' y h2 h3
    exact (r.frz k arr hk).2 b' L y2 h1 i1 i2
  · show (h.tr.set b _).get b' = _
    rw [Tr.get_set,if_neg (by omega)]
theorem S.open {x:ICode} {Q:X → Tr AV → Hp → Prop} (j b m e:Nat) {a:Bool} {cs:List AV} (ht:t.get j = some (.own b m)) (hb:h.tr.get b = some (.cells e true a cs)) (hl:cs.length = m * e) (hfl:h.fl ≤ b) (hbs:b < h.sz)
    (h0:m = 0 → S P n x Q (t.set j .e0) h) (h1:∀ c,m ≤ c → S P n x Q (t.set j (.sl b 0 m c false)) ⟨h.sz,h.fl,h.tr.set b (.cells e true false (cs ++ List.replicate ((c - m) * e) .undef))⟩):S P n x Q t h:=by
  intro nt code hc hn ro ρ B w ac htr hsz r
  obtain ⟨g1,g2⟩:=htr _ _ ht
  generalize hgv:ac.tmps.getD j undef = gv at g2
  cases g2 with
  | own0 _ ad hbn =>
    refine h0 rfl nt code hc hn ro ρ B w ac (fun i v hv=>?_) hsz r
    rw [Tr.get_set] at hv
    split at hv
    · rename_i hij; subst hij; cases hv
      exact ⟨g1,by rw [hgv]; exact .e0 _⟩
    · exact htr i v hv
  | own _ _ c L h3 h4 h5 =>
    obtain ⟨q1,co,ty,fz,q2,q3,q4,q5,q6⟩:=r.cells b L _ _ _ cs h3 hb
    have old:∀ b' y,((h.tr.set b (.cells e true false (cs ++ List.replicate ((c - m) * e) .undef))).get b' = some y) → (b' = b ∧ y = .cells e true false (cs ++ List.replicate ((c - m) * e) .undef)) ∨ (b' ≠ b ∧ h.tr.get b' = some y):=by
      intro b' y hx
      rw [Tr.get_set] at hx
      split at hx
      · rename_i h1; cases hx; exact .inl ⟨h1,rfl⟩
      · rename_i h1; exact .inr ⟨h1,hx⟩
    have olive:∀ b' y,((h.tr.set b (.cells e true false (cs ++ List.replicate ((c - m) * e) .undef))).get b' = some y) → y ≠ .dead → ∃ z,h.tr.get b' = some z ∧ z ≠ .dead:=by
      intro b' y hx hd
      rcases old b' y hx with ⟨rfl,rfl⟩ | ⟨_,g⟩
      · exact ⟨_,hb,by simp⟩
      · exact ⟨y,g,hd⟩
    have hlen:(cs ++ List.replicate ((c - m) * e) AV.undef).length = c * e:=by
      simp [hl]; rw [← Nat.add_mul]; congr 1; omega
    have r' : Rel σ0 ρ B ⟨h.sz,h.fl,h.tr.set b (.cells e true false (cs ++ List.replicate ((c - m) * e) .undef))⟩ w:=by
      refine ⟨r.dom,?_,?_,?_,?_,?_,r.flr,r.base,?_,r.dn⟩
      · intro b' L' e1 wf af cs' k1 k2
        rcases old b' _ k2 with ⟨rfl,g⟩ | ⟨_,g⟩
        · cases g
          rw [h3] at k1; cases k1
          refine ⟨q1,co,ty,fz,q2,q3,by rw [hlen,← q1]; exact h5,fun i v hv=>?_,fun _=>q6 (by simp)⟩
          by_cases hi:i < cs.length
          · rw [List.getElem?_append_left hi] at hv
            exact q5 i v hv
          · have hlt:=(List.getElem?_eq_some_iff.1 hv).1
            rw [List.getElem?_append_right (by omega),List.getElem?_replicate] at hv
            split at hv
            · cases hv
              rw [hlen] at hlt
              have hlt2:L.off + i < co.size:=by rw [q3]; rw [q1] at h5; omega
              exact ⟨co[L.off + i],by simp [hlt2],.undef _⟩
            · cases hv
        · exact r.cells _ L' _ _ _ _ k1 g
      · intro b' L' es k1 k2
        rcases old b' _ k2 with ⟨rfl,g⟩ | ⟨_,g⟩
        · cases g
        · exact r.maps b' L' es k1 g
      · intro b1 L1 e1 af1 cs1 k1 k2 b2 L2 y k3 k4 k5 k6
        obtain ⟨y2,i1,i2⟩:=olive b2 y k4 k5
        rcases old b1 _ k2 with ⟨rfl,g⟩ | ⟨_,g⟩
        · exact r.excl _ L1 _ _ cs k1 hb b2 L2 y2 k3 i1 i2 k6
        · exact r.excl _ L1 _ _ _ k1 g b2 L2 y2 k3 i1 i2 k6
      · intro b1 L1 es k1 k2 b2 L2 y k3 k4 k5 k6
        obtain ⟨y2,i1,i2⟩:=olive b2 y k4 k5
        rcases old b1 _ k2 with ⟨rfl,g⟩ | ⟨_,g⟩
        · cases g
        · exact r.exclm _ L1 _ k1 g b2 L2 y2 k3 i1 i2 k6
      · intro b1 L1 e1 wf1 cs1 k1 k2 b2 L2 e2 wf2 af2 cs2 k3 k4 k6
        rcases old b1 _ k2 with ⟨rfl,g⟩ | ⟨hne,g⟩
        · cases g
        · rcases old b2 _ k4 with ⟨rfl,g'⟩ | ⟨hne',g'⟩
          · cases g'
            exact absurd (r.excl _ L2 _ _ cs k3 hb b1 L1 _ k1 g (by simp) k6.symm) hne
          · exact r.app b1 L1 _ _ _ k1 g b2 L2 _ _ _ _ k3 g' k6
      · intro k arr hk
        refine ⟨(r.frz k arr hk).1,fun b' L' y k1 k2 k3=>?_⟩
        obtain ⟨y2,i1,i2⟩:=olive b' y k2 k3
        exact (r.frz k arr hk).2 b' L' y2 k1 i1 i2
    refine wpIn_mono (h1 c h4 nt code hc hn ro ρ B w ac (fun i v hv=>?_) hsz r') ?_
    · rw [Tr.get_set] at hv
      split at hv
      · rename_i hij; subst hij; cases hv
        refine ⟨g1,?_⟩
        rw [hgv]
        exact .sl b 0 m c c false L h3 (.inl rfl)
      · exact htr i v hv
    · intro e2 a2 w2 hp
      have kk:Kep n ρ B h w ρ ⟨h.sz,h.fl,h.tr.set b (.cells e true false (cs ++ List.replicate ((c - m) * e) .undef))⟩ w:=by
        refine ⟨fun _ _=>rfl,hn,rfl,fun b' k1 k2=>?_,fun _ _=>rfl,Nat.le_refl _,⟨rfl,rfl⟩,fun _ _ h=>h,fun _ _ h=>.inl h,fun _ _ h=>h⟩
        show (h.tr.set b _).get b' = _
        rw [Tr.get_set,if_neg (by omega)]
      exact qa5.weaken kk hp
end Go.Kc
end
section
/- Functions that the model itself answers: an index of a byte, how strings compare, whether rows overlap. Condition: the functions are these. -/
namespace Go.Kc
variable {P:Program} {f:Nat}

def yF (P:Program) (f:Nat) (e:Array Value → Sem Value):Prop:=∀ args w,(callFunc f args).run P w = ((e args).run P w).andThen fun v w'=>.ok (.value v) w'
theorem yF.of {fn:Func} {e:Array Value → Sem Value} (hf:P.funcs[f]? = some fn) (hname:(fn.name == "runtime.NumGoroutine") = false) (hb:fn.body.isNone = true) (hn:Extern.findNext fn = none) (he:Extern.find fn = some e):yF P f e :=
  fun args w=>run_callFunc_extern hf hname hb hn he args w
theorem yF.pure {e:Array Value → Sem Value} {vs:List AV} {v:AV} (h:yF P f e) (hr:∀ ρ (args:Array Value) w,VRs σ0 ρ vs args.toList → ∃ v',(e args).run P w = .ok v' w ∧ VR σ0 ρ v v'):qg P f vs v:=by
  intro hp k hk
  refine ⟨trivial,fun ρ B w args r ha=>?_⟩
  obtain ⟨v',h1,h2⟩:=hr ρ args w ha
  exact .inr ⟨v',w,by rw [h,h1]; rfl,v,v',hp,ρ,rfl,hk,h2,r,Kept.refl _ _ _ _⟩

def wb (c:UInt8):List UInt8 → Nat → Int
  | [],_=>-1
  | x :: xs,j=>if x = c then (j:Int) else wb c xs (j + 1)
theorem qdf (a:List UInt8) (c:UInt8):firstIdx ⟨a.toArray⟩ c = wb c a 0:=by
  have key:∀ (l:List UInt8) (j:Nat),a.drop j = l → j ≤ a.length → (match (List.range' j l.length).find? (fun i=>(⟨a.toArray⟩:ByteArray)[i]! == c) with | some i=>(i:Int) | none=>-1) = wb c l j:=by
    intro l
    induction l with
    | nil=>intro j _ _; simp [wb]
    | cons x xs ih =>
      intro j hd hj
      have hlt:j < a.length:=by
        have:=congrArg List.length hd
        simp at this; omega
      have hx:a[j] = x:=by
        have:=List.drop_eq_getElem_cons hlt
        rw [hd] at this; exact (List.cons.inj this).1.symm
      have hget:(⟨a.toArray⟩:ByteArray)[j]! = x:=by
        have:j < (⟨a.toArray⟩:ByteArray).size:=by simpa [ByteArray.size] using hlt
        rw [getElem!_pos (⟨a.toArray⟩:ByteArray) j this]
        show a.toArray[j] = x
        simpa using hx
      rw [List.length_cons,List.range'_succ,List.find?_cons,hget]
      by_cases he:x = c
      · subst he; simp [wb]
      · have:(x == c) = false:=by simpa using he
        rw [this,wb,if_neg he]
        exact ih (j + 1) (by rw [← List.drop_drop,hd]; rfl) (by omega)
  have:=key a 0 rfl (Nat.zero_le _)
  rw [← this]
  unfold firstIdx
  rw [List.range_eq_range']
  have:(⟨a.toArray⟩:ByteArray).size = a.length:=by simp [ByteArray.size]
  rw [this]
  split <;> rename_i h1 <;> split <;> rename_i h2 <;> simp_all
theorem qaf (h:yF P f Extern.BytealgIndexByte.indexByte) (a:List UInt8) (c:UInt8):qg P f [.s a,.i .u8 (c.toNat:Int)] (.i .i64 (wb c a 0)):=by
  refine h.pure ?_
  intro ρ args w ha
  generalize hl:args.toList = l at ha
  cases ha with
  | cons _ _ x xs hx hxs =>
    cases hxs with
    | cons _ _ y ys hy hys =>
      cases hys
      cases hx; cases hy
      obtain rfl:args = #[.string ⟨a.toArray⟩,.int .u8 (c.toNat:Int)]:=by cases args; simp_all
      refine ⟨_,run_indexByte_string _ _ _,?_⟩
      have:(c.toNat:Int).toNat.toUInt8 = c:=by simp
      rw [this,qdf]
      exact .i _ _

noncomputable def zz (a b:List UInt8):Int:=if a = b then 0 else if ltS a b = true then -1 else 1
theorem qgk {y:List UInt8}:ltS [] y = !y.isEmpty:=by cases y <;> rfl
theorem qcu {c:UInt8} {x:List UInt8}:ltS (c :: x) [] = false:=rfl
theorem ko {c d:UInt8} {x y:List UInt8}:ltS (c :: x) (d :: y) = if c < d then true else if c = d then ltS x y else false:=by
  rw [qbh,qbh]
  simp only [Op.bytesLess]
  by_cases h1:c < d
  · simp [h1]
  · by_cases h2:c = d
    · simp [h2]
    · simp [h1,h2]
theorem qkQ (a b:List UInt8):Extern.BytealgCompare.cmp ⟨a.toArray⟩ ⟨b.toArray⟩ = zz a b:=by
  have hs:∀ l:List UInt8,(⟨l.toArray⟩:ByteArray).size = l.length:=fun l=>by simp [ByteArray.size]
  have hg:∀ (l:List UInt8) (j:Nat) (hj:j < l.length),(⟨l.toArray⟩:ByteArray)[j]! = l[j]:=by
    intro l j hj
    have:j < (⟨l.toArray⟩:ByteArray).size:=by rw [hs]; exact hj
    rw [getElem!_pos (⟨l.toArray⟩:ByteArray) j this]
    show l.toArray[j] = l[j]
    simp
  have key:∀ (n:Nat) (x y:List UInt8) (j:Nat),a.drop j = x → b.drop j = y → j ≤ a.length → j ≤ b.length → min x.length y.length = n →
      (match (List.range' j n).find? (fun i=>(⟨a.toArray⟩:ByteArray)[i]! != (⟨b.toArray⟩:ByteArray)[i]!) with
        | some i=>if (⟨a.toArray⟩:ByteArray)[i]! < (⟨b.toArray⟩:ByteArray)[i]! then (-1:Int) else 1
        | none=>if a.length < b.length then -1 else if a.length > b.length then 1 else 0) = zz x y:=by
    intro n
    induction n with
    | zero =>
      intro x y j hx hy ha hb hm
      have la:x.length = a.length - j:=by rw [← hx]; simp
      have lb:y.length = b.length - j:=by rw [← hy]; simp
      cases x with
      | nil =>
        cases y with
        | nil =>
          simp at la lb
          have:a.length = b.length:=by omega
          simp [zz,this]
        | cons d ds =>
          simp at la lb
          have:a.length < b.length:=by omega
          simp [zz,this,qgk]
      | cons c cs =>
        cases y with
        | nil =>
          simp at la lb
          have h1:¬ a.length < b.length:=by omega
          have h2:b.length < a.length:=by omega
          simp [zz,h1,h2,qcu]
        | cons d ds=>simp at hm
    | succ n ih =>
      intro x y j hx hy ha hb hm
      cases x with
      | nil=>simp at hm
      | cons c cs =>
        cases y with
        | nil=>simp at hm
        | cons d ds =>
          have la:j < a.length:=by have:=congrArg List.length hx; simp at this; omega
          have lb:j < b.length:=by have:=congrArg List.length hy; simp at this; omega
          have ec:a[j] = c:=by have:=List.drop_eq_getElem_cons la; rw [hx] at this; exact (List.cons.inj this).1.symm
          have ed:b[j] = d:=by have:=List.drop_eq_getElem_cons lb; rw [hy] at this; exact (List.cons.inj this).1.symm
          rw [List.range'_succ,List.find?_cons,hg a j la,hg b j lb,ec,ed]
          by_cases he:c = d
          · subst he
            simp only [bne_self_eq_false]
            refine (ih cs ds (j + 1) (by rw [← List.drop_drop,hx]; rfl) (by rw [← List.drop_drop,hy]; rfl) (by omega) (by omega) (by simp at hm; omega)).trans ?_
            simp [zz,ko]
          · have h1:(c != d) = true:=by simpa using he
            simp only [h1]
            rw [hg a j la,hg b j lb,ec,ed]
            by_cases hlt:c < d
            · simp [zz,ko,hlt,he]
            · simp [zz,ko,hlt,he]
  have:=key (min a.length b.length) a b 0 rfl rfl (Nat.zero_le _) (Nat.zero_le _) rfl
  rw [← this]
  unfold Extern.BytealgCompare.cmp
  rw [List.range_eq_range',hs,hs]
  rfl
theorem qad (h:yF P f Extern.BytealgCompare.compare) (a b:List UInt8):qg P f [.s a,.s b] (.i .i64 (zz a b)):=by
  refine h.pure ?_
  intro ρ args w ha
  generalize hl:args.toList = l at ha
  cases ha with
  | cons _ _ x xs hx hxs =>
    cases hxs with
    | cons _ _ y ys hy hys =>
      cases hys
      cases hx; cases hy
      obtain rfl:args = #[.string ⟨a.toArray⟩,.string ⟨b.toArray⟩]:=by cases args; simp_all
      refine ⟨.int .i64 (zz a b),?_,.i _ _⟩
      change Sem.run P (do
        let x ← Extern.Bytes.bytesOf (.string ⟨a.toArray⟩)
        let y ← Extern.Bytes.bytesOf (.string ⟨b.toArray⟩)
        pure (goInt (Extern.BytealgCompare.cmp x y))) w = _
      simp [Extern.Bytes.bytesOf,qkQ,goInt]

def qqh (P:Program) (f:Nat):Prop:=∃ tS tR e size,P.underlying tS = some (.slice e) ∧ (∀ w,(sizeOf e).run P w = .ok size w) ∧ yF P f (Extern.SlicesOverlaps.overlaps #[tS,tS] #[tR])
theorem qep (ho:qqh P f) {h:Hp} {b1 o1 n1 c1 b2 o2 n2 c2 e2:Nat} {a1 a2:Bool} {cs1 cs2:List AV} (h1:h.tr.get b1 = some (.cells 0 true a1 cs1)) (h2:h.tr.get b2 = some (.cells e2 true a2 cs2)) (hne:b1 ≠ b2)
    (hc1:c1 ≠ 0) (hc2:c2 ≠ 0) (hl1:o1 ≤ cs1.length) (hl2:cs2 ≠ []) {k:AV → Hp → Prop} (hk:k (.b false) h):SC P f [.sl b1 o1 n1 c1 false,.sl b2 o2 n2 c2 false] h k:=by
  refine ⟨trivial,fun ρ B w args r ha=>?_⟩
  obtain ⟨tS,tR,e,size,ht,hz,hx⟩:=ho
  generalize hl:args.toList = l at ha
  cases ha with
  | cons _ _ x xs hx1 hxs =>
    cases hxs with
    | cons _ _ y ys hy hys =>
      cases hys
      obtain ⟨L1,c,off,g1,g2,g3⟩:=hx1.un_sl
      obtain ⟨L2,c',off',k1,k2,k3⟩:=hy.un_sl
      subst g2 k2
      obtain rfl:args = #[.slice (some ⟨L1.blk,off,none⟩) n1 c,.slice (some ⟨L2.blk,off',none⟩) n2 c']:=by cases args; simp_all
      obtain ⟨q1,co,ty,fz,q2,q3,q4,q5,q6⟩:=r.cells b1 L1 _ _ _ cs1 g1 h1
      obtain ⟨p1,co',ty',fz',p2,p3,p4,p5,p6⟩:=r.cells b2 L2 _ _ _ cs2 k1 h2
      have hblk:L1.blk ≠ L2.blk:=fun hh=>hne (r.excl b2 L2 _ _ cs2 k1 h2 b1 L1 _ g1 h1 (by simp) hh)
      have hoff:off = L1.off + o1:=by
        rcases g3 with ⟨rfl,_⟩ | ⟨_,g4,_⟩
        · rfl
        · exact absurd g4 hc1
      have hnf:∀ j,j ≤ L1.size → ¬ (fz.1 ≤ j ∧ j < fz.2):=fun j hj=>q6 (by simp) j (by rcases Nat.lt_or_eq_of_le hj with h | h; exact .inl h; exact .inr ⟨rfl,h⟩)
      have hrun:=Lib.run_overlaps_apart (P:=P) w tS tR e ht size hz ⟨L1.blk,off,none⟩ ⟨L2.blk,off',none⟩ n1 c n2 c' hblk ty ty' co.size co'.size (by simp [World.shape?,q2]) (by simp [World.shape?,p2])
        (by
          have:0 < cs2.length:=List.length_pos_iff.2 hl2
          omega)
        (by rw [kg q2]; simpa using hnf off (by omega)) (by
          rw [kg q2]; simpa using hnf co.size (by omega))
      exact .inr ⟨.bool false,w,by rw [hx,hrun]; rfl,.b false,.bool false,h,ρ,rfl,hk,.b _,r,Kept.refl _ _ _ _⟩
end Go.Kc
end
section
/- Calls that shrink a row lent. No condition. -/
namespace Go.Kc
variable {P:Program}
theorem qdc.closed {h':Hp} {e x c:Nat} {a l:Bool} {cs cs':List AV} (hb:h'.tr.get 0 = some (.cells e true a cs)) (hsz:h'.sz = 1) (hc:c * e ≤ cs.length) (hx:x ≤ c) (hq:cs.take (x * e) = cs') (hcl:qC cs' = true):qdc 1 (.own 0 x) [.cells e true true cs'] (.sl 0 0 x c l) h':=by
  intro hfl
  have hxe:x * e ≤ cs.length:=Nat.le_trans (Nat.mul_le_mul_right _ hx) hc
  refine Wk.trans (Wk.close (n:=1) (l:=l) 0 0 x c e (x * e) (by simp [mkT,Tr.get_set]) hb hc hx hxe (by omega) (by omega) (by omega)) ?_
  refine Wk.mkn [(0,.own 0 x)] [.cells e true true cs'] [0] ?_ ?_ ?_ hfl (Nat.le_refl _) ?_
  · refine ⟨⟨.own 0 x,by simp [Tr.get_set],?_⟩,trivial⟩
    exact .own 0 0 x rfl (Nat.zero_lt_one)
  · refine ⟨?_,trivial⟩
    refine BW.cells (by rw [Tr.get_set,if_pos rfl,hq]) (NVs.refl hcl)
  · simp [hsz]
  · intro b hb; obtain rfl:b = 0:=by omega
    rfl
theorem qdc.closedI {h':Hp} {e x c e1:Nat} {a l w1 a1:Bool} {cs cs' cs1:List AV} (hb:h'.tr.get 0 = some (.cells e true a cs)) (hy:h'.tr.get 1 = some (.cells e1 w1 a1 cs1)) (hsz:2 ≤ h'.sz) (hc:c * e ≤ cs.length) (hx:x ≤ c) (hq:cs.take (x * e) = cs') (hcl:qC cs' = true) (hcl1:qC cs1 = true) :
    qdc 2 (.own 2 x) [.dead,.cells e1 w1 a1 cs1,.cells e true true cs'] (.sl 0 0 x c l) h':=by
  intro hfl
  have hxe:x * e ≤ cs.length:=Nat.le_trans (Nat.mul_le_mul_right _ hx) hc
  refine Wk.trans (Wk.close (n:=2) (l:=l) 0 0 x c e (x * e) (by simp [mkT,Tr.get_set]) hb hc hx hxe (by omega) (by omega) hsz) ?_
  refine Wk.mkd [(0,.own 2 x)] [.dead,.cells e1 w1 a1 cs1,.cells e true true cs'] [0,1,0] ?_ ?_ ?_ hfl (by simp) ?_
  · refine ⟨⟨.own 0 x,by simp [Tr.get_set],?_⟩,trivial⟩
    exact .own 0 2 x rfl (by simp)
  · refine ⟨.inr (.inl rfl),?_,?_,trivial⟩
    · exact BW.cells (by rw [Tr.get_set,if_neg (by decide)]; exact hy) (NVs.refl hcl1)
    · exact BW.cells (by rw [Tr.get_set,if_pos rfl,hq]) (NVs.refl hcl)
  · have:0 < h'.sz:=by omega
    have h1:1 < h'.sz:=by omega
    simp [vl,this,h1]
  · intro b hb
    have:b = 0 ∨ b = 1:=by omega
    rcases this with rfl | rfl <;> rfl
end Go.Kc
end
section
/- Pure calls to which rows of one's own are given for good. No condition. -/
namespace Go.Kc
variable {P:Program} {h:Hp}

theorem Rel.sub {ρ:Ren} {B:Nat → Prop} {h h':Hp} {w:World} (r:Rel σ0 ρ B h w) (hs:h'.sz = h.sz) (hf:h'.fl = h.fl) (hg:∀ b x,h'.tr.get b = some x → x ≠ .dead → h.tr.get b = some x):Rel σ0 ρ B h' w :=
  ⟨fun b L hb=>by rw [hs]; exact r.dom b L hb,fun b L e wf af cs hb hx=>r.cells b L e wf af cs hb (hg _ _ hx (by simp)),fun b L es hb hx=>r.maps b L es hb (hg _ _ hx (by simp)),
   fun b L e af cs hb hx b' L' x hb' hx' hd=>r.excl b L e af cs hb (hg _ _ hx (by simp)) b' L' x hb' (hg _ _ hx' hd) hd,fun b L es hb hx b' L' x hb' hx' hd=>r.exclm b L es hb (hg _ _ hx (by simp)) b' L' x hb' (hg _ _ hx' hd) hd,
   fun b L e wf cs hb hx b' L' e' wf' af' cs' hb' hx'=>r.app b L e wf cs hb (hg _ _ hx (by simp)) b' L' e' wf' af' cs' hb' (hg _ _ hx' (by simp)),fun b L hb hf'=>r.flr b L hb (by rw [← hf]; exact hf'),r.base,
   fun k arr hk=>⟨(r.frz k arr hk).1,fun b L x hb hx hd=>(r.frz k arr hk).2 b L x hb (hg _ _ hx hd) hd⟩,by rw [hs]; exact r.dn⟩
end Go.Kc
end
section
/- The last step from the abstract machine to a row: what a run keeps of the world; the tree of the code; a law's call. No condition. -/
namespace Go.Kc
variable {P:Program} {env:Tr IFn} {ho:qaI}

inductive OkT (P:Program):Nat → Nat → Tr IFn → Prop where
  | leaf (a b:Nat):OkT P a b .leaf
  | no (a b:Nat) {l r:Tr IFn}:OkT P (2 * a) (a + b) l → OkT P (2 * a) (2 * a + b) r → OkT P a b (.node none l r)
  | fn (a b:Nat) {i:IFn} {l r:Tr IFn}:qh P b i = true → OkT P (2 * a) (a + b) l → OkT P (2 * a) (2 * a + b) r → OkT P a b (.node (some i) l r)

theorem OkT.get {a b:Nat} {t:Tr IFn} (h:OkT P a b t):∀ n i,t.get n = some i → qh P (a * n + b) i = true:=by
  induction h with
  | leaf=>intro n i h; simp at h
  | no a b hl hr ihl ihr =>
    intro n i h
    cases n with
    | zero=>rw [Tr.get_node] at h; cases h
    | succ m =>
      rcases Nat.mod_two_eq_zero_or_one m with h0 | h0
      · obtain ⟨j,rfl⟩:∃ j,m = 2 * j:=⟨m / 2,by omega⟩
        rw [Tr.get_node] at h
        simp only [h0,if_true,Nat.mul_div_cancel_left j (Nat.zero_lt_two)] at h
        have:=ihl j i h
        rwa [show 2 * a * j + (a + b) = a * (2 * j + 1) + b from by rw [Nat.mul_add,Nat.mul_one,← Nat.mul_assoc,Nat.mul_comm a 2]; omega] at this
      · obtain ⟨j,rfl⟩:∃ j,m = 2 * j + 1:=⟨m / 2,by omega⟩
        rw [Tr.get_node] at h
        simp only [h0,Nat.one_ne_zero,if_false,show (2 * j + 1) / 2 = j from by omega] at h
        have:=ihr j i h
        rwa [show 2 * a * j + (2 * a + b) = a * (2 * j + 1 + 1) + b from by rw [Nat.mul_add,Nat.mul_add,Nat.mul_one,← Nat.mul_assoc,Nat.mul_comm a 2]; omega] at this
  | fn a b hc hl hr ihl ihr =>
    intro n i h
    cases n with
    | zero=>rw [Tr.get_node] at h; cases h; simpa using hc
    | succ m =>
      rcases Nat.mod_two_eq_zero_or_one m with h0 | h0
      · obtain ⟨j,rfl⟩:∃ j,m = 2 * j:=⟨m / 2,by omega⟩
        rw [Tr.get_node] at h
        simp only [h0,if_true,Nat.mul_div_cancel_left j (Nat.zero_lt_two)] at h
        have:=ihl j i h
        rwa [show 2 * a * j + (a + b) = a * (2 * j + 1) + b from by rw [Nat.mul_add,Nat.mul_one,← Nat.mul_assoc,Nat.mul_comm a 2]; omega] at this
      · obtain ⟨j,rfl⟩:∃ j,m = 2 * j + 1:=⟨m / 2,by omega⟩
        rw [Tr.get_node] at h
        simp only [h0,Nat.one_ne_zero,if_false,show (2 * j + 1) / 2 = j from by omega] at h
        have:=ihr j i h
        rwa [show 2 * a * j + (2 * a + b) = a * (2 * j + 1 + 1) + b from by rw [Nat.mul_add,Nat.mul_add,Nat.mul_one,← Nat.mul_assoc,Nat.mul_comm a 2]; omega] at this

theorem OkT.envOk {t:Tr IFn} (h:OkT P 1 0 t):qbL P t:=fun f i hg=>by
  have:=h.get f i hg
  rwa [Nat.one_mul] at this

theorem Kept.same {ρ ρ':Ren} {h h':Hp} {w w':World} (k:Kept ρ (low w.heap.size) h w ρ' h' w') (may:MemPlace → Prop):w.keptBut w' may:=by
  refine ⟨k.io.1,k.io.2,fun i hi=>?_⟩
  have e:=k.pres i hi
  rw [e]
  cases w.heap[i]? with
  | none=>rfl
  | some o=>cases o <;> simp
noncomputable def ice (w:World):Ren:=⟨fun _=>none,fun k=>match w.heap[k]? with | some (.cells arr _ _)=>some arr | _=>none,0⟩
theorem qgm {w:World} {k:Nat} {arr:Array Value}:(ice w).frz k = some arr ↔ ∃ ty fz,w.heap[k]? = some (.cells arr ty fz):=by
  show (match w.heap[k]? with | some (.cells arr _ _)=>some arr | _=>none) = some arr ↔ _
  cases w.heap[k]? with
  | none=>simp
  | some o=>cases o <;> simp
theorem Rel.ice (w:World):Rel σ0 (ice w) (low w.heap.size) H0 w :=
  ⟨(fun _ _ hb=>by cases hb),(fun _ _ _ _ _ _ hb=>by cases hb),(fun _ _ _ hb=>by cases hb),(fun _ _ _ _ _ hb=>by cases hb),(fun _ _ _ hb=>by cases hb),(fun _ _ _ _ _ hb=>by cases hb),(fun _ _ hb=>by cases hb),(fun _ h=>h),
   (fun k arr hk=>⟨qgm.1 hk,fun _ _ _ hb=>by cases hb⟩),Nat.le_refl _⟩
theorem qg.law {f:Nat} {vs:List AV} {args:Array Value} (hp:qg P f vs (.b true)) (hc:qm9 P f) (w:World) (ha:VRs σ0 (ice w) vs args.toList):Calls P f args w fun e w'=>e = .returned (.bool true) ∧ ∀ may,w.keptBut w' may:=by
  have h:=(hp H0 (fun v _=>v = .b true) rfl).2 (ice w) (low w.heap.size) w args (Rel.ice w) ha
  rcases h with ⟨_,h⟩ | ⟨v,w',h,_⟩
  · refine h.mono fun e w' hh=>?_
    obtain ⟨v,v',h',ρ',rfl,rfl,hv,_,hk⟩:=hh
    cases hv
    exact ⟨rfl,fun may=>hk.same may⟩
  · obtain ⟨fn,h1,h2,h3⟩:=hc
    rw [qaV h1 h2 h3] at h
    cases h
end Go.Kc
end
section
/- Arguments of structs and rows, opened: what reads as data is a value of the abstract machine; what stays reads as before. Conditions: on the types, with each theorem. -/
namespace Go.Kc
section
variable {H:Type} {enc:TypeId × Value → H} {P:Program} {w:World} {α β:Type} {t e:TypeId}
theorem CRs.app {φ:Nat → Option (Array Value)}:∀ {as bs:List AV} {us vs:List Value},CRs σ0 φ as us → CRs σ0 φ bs vs → CRs σ0 φ (as ++ bs) (us ++ vs)
  | _,_,_,_,.nil,h=>h
  | _,_,_,_,.cons v l v' l' h hs,h2=>.cons _ _ _ _ h (CRs.app hs h2)
def wH (enc:TypeId × Value → H) (P:Program) (w:World) (t:TypeId) (I:α → Prop) (E:α → List AV):Prop :=
  ∀ (fuel:Nat) (cs:List Value) x,DataW.trod enc P w 0 (fun _=>true) true fuel t cs = some x → ∃ a,I a ∧ CRs σ0 (ice w).frz (E a) cs
theorem jV {k:IntKind} (ht:P.underlying t = some (.int k)):wH enc P w t (fun n:Int=>(Lit.int k n).wf = true) (fun n=>[.i k n]):=by
  intro fuel cs x h
  obtain ⟨n,rfl,_,hw⟩:=DataW.trod_int ht h
  exact ⟨n,hw,.cons _ _ _ _ (.i _ _) .nil⟩
theorem yk (ht:P.underlying t = some .bool):wH enc P w t (fun _:Bool=>True) (fun b=>[.b b]):=by
  intro fuel cs x h
  obtain ⟨b,rfl,_⟩:=DataW.trod_bool ht h
  exact ⟨b,trivial,.cons _ _ _ _ (.b _) .nil⟩
theorem kW (ht:P.underlying t = some .string):wH enc P w t (fun s:List UInt8=>s.length ≤ maxLen) (fun s=>[.s s]):=by
  intro fuel cs x h
  obtain ⟨s,rfl,_,hw⟩:=DataW.trod_string ht h
  obtain ⟨⟨l⟩⟩:=s
  exact ⟨l,hw,.cons _ _ _ _ (.s _) .nil⟩
theorem qmb {a:Addr} {v:Value} (h:w.cell? a = some v):a.spot = none ∧ ∃ arr ty fz,w.heap[a.block]? = some (.cells arr ty fz) ∧ arr[a.off]? = some v:=by
  unfold World.cell? at h
  split at h
  · rename_i c ty fz hc
    split at h
    · cases h
    · rename_i hs
      refine ⟨by simpa using hs,c,ty,fz,hc,h⟩
  · cases h
theorem yQ {I:α → Prop} {E:α → List AV} {m:Nat} (ht:P.underlying t = some (.slice e)) (he:wH enc P w e I E) (hE:∀ a,(E a).length = m) (hc:P.cellsOf e = m) (hm:0 < m) :
    wH enc P w t (fun l:List α=>l.length ≤ maxLen ∧ ∀ a ∈ l,I a) (fun l=>[.fz l.length (l.flatMap E)]):=by
  intro fuel cs x h
  rcases DataW.trod_slice ht h with ⟨rfl,_⟩ | ⟨a,len,cap,elems,rest,n,_,rfl,_,_,hl,hmx,hlen,hel,hsp,_⟩
  · exact ⟨[],⟨Nat.zero_le _,fun _ h=>by cases h⟩,.cons _ _ _ _ (.fz0 none) .nil⟩
  obtain ⟨hrl,hr⟩:=hsp rfl
  rcases Nat.eq_zero_or_pos cap with h0 | hpos
  · subst h0
    obtain rfl:len = 0:=by omega
    exact ⟨[],⟨Nat.zero_le _,fun _ h=>by cases h⟩,.cons _ _ _ _ (.fz0 (some a)) .nil⟩
  have first:∃ v,w.cell? a = some v:=by
    have:∃ cs',w.cells? 0 (a.add (0 * P.cellsOf e)) (P.cellsOf e) = some cs':=by
      rcases Nat.eq_zero_or_pos len with h1 | h1
      · have:=hr 0 (by omega)
        have hlt:0 < rest.length:=by omega
        rw [List.getElem?_eq_getElem hlt,Option.bind_eq_some_iff] at this
        obtain ⟨c,hc',_⟩:=this
        subst h1
        exact ⟨c,hc'⟩
      · have:=hel 0 h1
        have hlt:0 < elems.length:=by omega
        rw [List.getElem?_eq_getElem hlt,Option.bind_eq_some_iff] at this
        obtain ⟨c,hc',_⟩:=this
        exact ⟨c,hc'⟩
    obtain ⟨cs',h2⟩:=this
    obtain ⟨_,q1,q2⟩:=World.cells?_some h2
    have:=q2 0 (by omega)
    rw [List.getElem?_eq_getElem (by omega)] at this
    simp only [Nat.zero_mul,Addr.add,if_true] at this
    exact ⟨_,this⟩
  obtain ⟨v0,hv0⟩:=first
  obtain ⟨hs,arr,ty,fz,hb,_⟩:=qmb hv0
  have key : ∀ k, k ≤ len → ∃ l:List α,l.length = k ∧ (∀ b ∈ l,I b) ∧ CRs σ0 (ice w).frz (l.flatMap E) ((arr.toList.drop a.off).take (k * m)):=by
    intro k
    induction k with
    | zero=>intro _; exact ⟨[],rfl,(fun _ h=>by cases h),by simpa using .nil⟩
    | succ k ih =>
      intro hk
      obtain ⟨l,h1,h2,h3⟩:=ih (by omega)
      have hk':=hel k (by omega)
      have hlt:k < elems.length:=by omega
      rw [List.getElem?_eq_getElem hlt,Option.bind_eq_some_iff] at hk'
      obtain ⟨c,hcs,htr⟩:=hk'
      obtain ⟨_,q1,q2⟩:=World.cells?_some hcs
      obtain ⟨b,hb1,hb2⟩:=he _ _ _ htr
      have e1 : c = ((arr.toList.drop a.off).drop (k * m)).take m:=by
        refine List.ext_getElem? fun j=>?_
        by_cases hj:j < m
        · have := q2 j (by omega)
          rw [← this]
          have e2 : w.cell? ((a.add (k * P.cellsOf e)).add j) = arr[a.off + (k * m + j)]?:=by
            have ha:(a.add (k * P.cellsOf e)).add j = ⟨a.block,a.off + (k * m + j),none⟩:=by
              unfold Addr.add
              rw [hc]
              split
              · split
                · rename_i h4 h5
                  rw [h4,h5]
                  cases a; simp_all
                · rename_i h4 h5
                  rw [h4]
                  simp [hs]
              · split
                · rename_i h4 h5
                  rw [h5]
                  cases a; simp_all
                · simp; omega
            rw [ha]
            simp [World.cell?,hb]
          rw [e2,List.getElem?_take_of_lt hj,List.getElem?_drop,List.getElem?_drop]
          simp [Array.getElem?_toList]
        · rw [List.getElem?_eq_none (by omega),List.getElem?_eq_none]
          simp; omega
      refine ⟨l ++ [b],by simp [h1],fun x hx=>?_,?_⟩
      · rcases List.mem_append.1 hx with hx | hx
        · exact h2 x hx
        · obtain rfl:=List.mem_singleton.1 hx; exact hb1
      · rw [List.flatMap_append,Nat.succ_mul,List.take_add,← e1]
        simpa using h3.app hb2
  obtain ⟨l,h1,h2,h3⟩:=key len (Nat.le_refl _)
  refine ⟨l,⟨by omega,h2⟩,.cons _ _ _ _ ?_ .nil⟩
  have hfl:(l.flatMap E).length = len * m:=by
    rw [← h1]
    clear h1 h2 h3
    induction l with
    | nil=>simp
    | cons x l ih=>simp [hE,ih,Nat.succ_mul,Nat.add_comm]
  obtain ⟨blk,off,spot⟩:=a
  cases hs
  rw [h1]
  exact .fz len off cap _ blk arr hl (qgm.2 ⟨ty,fz,hb⟩) (by rw [hfl]; exact h3)
def qdT (enc:TypeId × Value → H) (P:Program) (w:World) (fs:List Field) (o n:Nat) (I:α → Prop) (E:α → List AV):Prop :=
  (∀ a,(E a).length = n) ∧ ∀ (fuel:Nat) (cs:List Value),(∀ f ∈ fs,∃ x,DataW.trod enc P w 0 (fun _=>true) true fuel f.type ((cs.drop f.offset).take (P.cellsOf f.type)) = some x) → ∃ a,I a ∧ CRs σ0 (ice w).frz (E a) ((cs.drop o).take n)
theorem yA {o:Nat}:qdT enc P w [] o 0 (fun _:Unit=>True) (fun _=>[]):=⟨fun _=>rfl,fun _ cs _=>⟨(),trivial,by simpa using .nil⟩⟩
theorem qO {f:Field} {fs:List Field} {o m n:Nat} {I:α → Prop} {E:α → List AV} {J:β → Prop} {F:β → List AV} (h:wH enc P w f.type I E) (hE:∀ a,(E a).length = m) (ho:f.offset = o) (hc:P.cellsOf f.type = m)
    (hr:qdT enc P w fs (o + m) n J F):qdT enc P w (f :: fs) o (m + n) (fun p:α × β=>I p.1 ∧ J p.2) (fun p=>E p.1 ++ F p.2):=by
  refine ⟨fun p=>by simp [hE,hr.1],fun fuel cs hf=>?_⟩
  obtain ⟨x,hx⟩:=hf f (List.mem_cons_self ..)
  obtain ⟨a,ha,h1⟩:=h _ _ _ hx
  obtain ⟨b,hb,h2⟩:=hr.2 fuel cs fun g hg=>hf g (List.mem_cons_of_mem _ hg)
  refine ⟨(a,b),⟨ha,hb⟩,?_⟩
  rw [ho,hc] at h1
  rw [List.take_add,List.drop_drop]
  exact h1.app h2
theorem vn {fs:Array Field} {n:Nat} {I:α → Prop} {E:α → List AV} (ht:P.underlying t = some (.struct fs)) (hc:P.cellsOf t = n) (h:qdT enc P w fs.toList 0 n I E):wH enc P w t I E:=by
  intro fuel cs x hx
  obtain ⟨xs,m,rfl,_,hl,hxs,hf⟩:=DataW.trod_struct ht hx
  obtain ⟨a,ha,h1⟩:=h.2 m cs fun f hfm=>by
    obtain ⟨i,hi⟩:=List.getElem?_of_mem hfm
    have hi':fs[i]? = some f:=by simpa using hi
    have:=hf i f hi'
    have hlt:i < xs.length:=by
      rw [hxs]
      exact (Array.getElem?_eq_some_iff.1 hi').1
    rw [List.getElem?_eq_getElem hlt] at this
    exact ⟨_,this⟩
  refine ⟨a,ha,?_⟩
  rwa [List.drop_zero,List.take_of_length_le (by omega)] at h1
theorem wH.map {I:α → Prop} {E:α → List AV} {J:β → Prop} {F:β → List AV} (h:wH enc P w t I E) (g:α → β) (hg:∀ a,I a → J (g a) ∧ F (g a) = E a):wH enc P w t J F:=by
  intro fuel cs x hx
  obtain ⟨a,ha,h1⟩:=h _ _ _ hx
  exact ⟨g a,(hg a ha).1,by rw [(hg a ha).2]; exact h1⟩
theorem wH.agg {I:α → Prop} {E:α → List AV} (h:wH enc P w t I E) {v:Value} {d:DataW H} {p:List MemPlace} (ha:∃ cs,v = .agg cs) (hd:DataW.Trod enc P w 0 (fun _=>true) true t v d p):∃ a,I a ∧ VR σ0 (ice w) (.agg (E a)) v:=by
  obtain ⟨cs,rfl⟩:=ha
  obtain ⟨fuel,hd⟩:=hd
  obtain ⟨a,h1,h2⟩:=h _ _ _ hd
  exact ⟨a,h1,.agg _ _ h2.vr⟩
theorem qdR {w':World} (hk:∀ may,w.keptBut w' may) {p:MemPlace} (hp:p.block < w.heap.size):w.sameAt w' p:=by
  have h:=(hk fun _=>False).2.2 p.block hp
  have h0:w.heap[p.block]? = some w.heap[p.block]:=Array.getElem?_eq_getElem hp
  cases p with
  | cell b off =>
    show w'.cell? ⟨b,off,none⟩ = w.cell? ⟨b,off,none⟩
    simp only [MemPlace.block] at h h0 hp
    unfold World.cell?
    split at h
    · rename_i c1 t1 f1 c2 t2 f2 e1 e2
      dsimp only
      rw [e1,e2]
      simpa using h.2.2.2 off (fun hh=>hh)
    · rename_i e1 e2
      dsimp only
      rw [e1,e2]
    · dsimp only
      rw [h]
  | map b =>
    show w'.heap[b]? = w.heap[b]?
    simp only [MemPlace.block] at h h0 hp
    split at h
    · rename_i c1 t1 f1 c2 t2 f2 e1 e2
      have:c2 = c1:=by
        apply Array.ext_getElem?
        intro j; exact h.2.2.2 j (fun hh=>hh)
      rw [e1,e2,h.1,h.2.1,this]
    · rename_i e1 e2
      rcases h with hh | ⟨h1,h2⟩
      · exact hh.elim
      · rw [e1,e2,h1,h2]
    · exact h
theorem Trod.stay {w':World} {T:TypeId → Prop} (K:Kids P T) (hz:∀ t e,T t → P.underlying t = some (.slice e) → 0 < P.cellsOf e) {ts:List TypeId} {vs:List Value} {ds:List (DataW H)} {ps:List MemPlace} (hT:∀ t ∈ ts,T t)
    (h:DataW.TrodAll enc P w 0 (fun _=>true) true ts vs ds ps) (hk:∀ may,w.keptBut w' may):DataW.TrodAll enc P w' 0 (fun b=>decide (b < w.heap.size)) true ts vs ds ps:=by
  have hlt:=DataW.TrodAll.lt h
  have h1:DataW.TrodAll enc P w 0 (fun b=>decide (b < w.heap.size)) true ts vs ds ps:=h.respare K hz hT fun p hp=>decide_eq_true (hlt p hp)
  clear h
  induction ts generalizing vs ds ps with
  | nil =>
    cases vs <;> cases ds <;> first | exact h1 | exact h1.elim
  | cons t ts ih =>
    cases vs with
    | nil=>exact h1.elim
    | cons v vs =>
      cases ds with
      | nil=>exact h1.elim
      | cons d ds =>
        obtain ⟨p,q,⟨fuel,h2⟩,h3,e⟩:=h1
        subst e
        refine ⟨p,q,⟨fuel,DataW.trod_carry _ _ _ _ h2 fun x hx=>qdR hk (hlt x (List.mem_append_left _ hx))⟩,?_,rfl⟩
        exact ih (fun t ht=>hT t (List.mem_cons_of_mem _ ht)) (fun x hx=>hlt x (List.mem_append_right _ hx)) h3
end
end Go.Kc
namespace Go.Kc
theorem qcm {k:IntKind} {l:List Int}:l.flatMap (fun n=>[AV.i k n]) = l.map (.i k):=by
  induction l with
  | nil=>rfl
  | cons x l ih=>simp [ih]
theorem qed {P:Program} {H:Type} {enc:TypeId × Value → H} {f:Func} {s:ChangeSpec} {apart fresh handsOn:Bool} {W W':World} {args:Array Value} {v:Value} {ds gs:List (DataW H)} {before pv:List MemPlace}
    (hW:DataW.Whole enc P f.params.toList s.vars apart W args.toList ds gs before) (hs:(s.fn H (ds ++ gs)).args = ds)
    {T:TypeId → Prop} (K:Kids P T) (hz:∀ t e,T t → P.underlying t = some (.slice e) → 0 < P.cellsOf e) (hT:∀ t ∈ f.params.toList,T t)
    (hres:∀ (b:Nat) (sp:Nat → Bool) (hd:Bool),DataW.TrodAll enc P W' b sp hd f.resultTypes.toList (v.resultList f.resultTypes.size) (s.fn H (ds ++ gs)).results [])
    (hvars:∀ sp:Nat → Bool,DataW.TrodVars enc P W' sp s.vars (s.fn H (ds ++ gs)).vars pv)
    (hk:∀ may,W.keptBut W' may):s.post enc P f apart fresh handsOn false W args v W':=by
  have hW':=hW
  obtain ⟨p,q,hA,_,_⟩:=hW'
  exact ⟨ds,gs,before,[],p,pv,hW,hres _ _ _,by rw [hs]; exact Trod.stay K hz hT hA hk,hvars _,hk _,fun h=>by cases h⟩
end Go.Kc
end
section
/- A call on known data whose answer the kernel compares with a value that names no block. No condition. -/
namespace Go.Kc
variable {P:Program} {env:Tr IFn} {ho:qaI}
abbrev ROp.q (n:Nat) (o:IOp):ROp:=⟨some n,.op o,none⟩
abbrev ROp.m (n:Nat) (x:O):ROp:=⟨some n,.op (.mov x),none⟩
abbrev ROp.g (n:Nat) (o:IOp) (c:Nat) (b:Bool):ROp:=⟨some n,.op o,some (c,b)⟩
abbrev ROp.l (n f:Nat) (xs:List O):ROp:=⟨some n,.callF f xs,none⟩
abbrev ICode.r (ops:List ROp):ICode:=.reg false ops
abbrev O.k (n:Int):O:=.c (.i .i64 n)
def kOf:IntKind → Nat
  | .i8=>0 | .i16=>1 | .i32=>2 | .i64=>3 | .u8=>4 | .u16=>5 | .u32=>6 | .u64=>7
theorem qlf {a b:IntKind} (h:Nat.beq (kOf a) (kOf b) = true):a = b:=by
  cases a <;> cases b <;> first | rfl | cases h
def qp6:Int → Int → Bool
  | .ofNat a,.ofNat b=>Nat.beq a b
  | .negSucc a,.negSucc b=>Nat.beq a b
  | _,_=>false
theorem qmd:∀ {a b:Int},qp6 a b = true → a = b
  | .ofNat a,.ofNat b,h=>by rw [Nat.eq_of_beq_eq_true h]
  | .negSucc a,.negSucc b,h=>by rw [Nat.eq_of_beq_eq_true h]
  | .ofNat _,.negSucc _,h=>by cases h
  | .negSucc _,.ofNat _,h=>by cases h
mutual
noncomputable def zw (h:Hp):AV → AV → Bool
  | .b x,v=>match v with | .b y=>(x && y) || (!x && !y) | _=>false
  | .i k n,v=>match v with | .i k' m=>Nat.beq (kOf k) (kOf k') && qp6 n m | _=>false
  | .s x,v=>match v with | .s y=>eqS x y | _=>false
  | .nils,v=>match v with | .nils=>true | _=>false
  | .nilp,v=>match v with | .nilp=>true | _=>false
  | .nilf,v=>match v with | .nilf=>true | _=>false
  | .nili,v=>match v with | .nili=>true | _=>false
  | .nilm,v=>match v with | .nilm=>true | _=>false
  | .agg cs',v=>match v with | .agg cs=>qbI h cs' cs | _=>false
  | .tup cs',v=>match v with | .tup cs=>qbI h cs' cs | _=>false
  | .fz n cs',v=>match v with
    | .nils=>Nat.beq n 0 && cs'.isEmpty
    | .sl b o m c _=>Nat.beq n m && Nat.ble m c && !(Nat.beq c 0) && (match h.tr.get b with | some (.cells _ true _ cs)=>Nat.ble (o + cs'.length) cs.length && qbI h cs' ((cs.drop o).take cs'.length) | _=>false)
    | .own b m=>Nat.beq n m && !(Nat.beq m 0) && (match h.tr.get b with | some (.cells _ true _ ys)=>qbI h cs' ys | _=>false)
    | _=>false
  | _,_=>false
noncomputable def qbI (h:Hp):List AV → List AV → Bool
  | [],vs=>vs.isEmpty
  | v' :: vs',vs=>match vs with | v :: vs=>zw h v' v && qbI h vs' vs | []=>false
end
theorem qlW {x y:List UInt8} (h:eqS x y = true):x = y:=by
  rw [wg] at h; simpa using h
mutual
theorem qgG {h:Hp}:∀ (v' v:AV),zw h v' v = true → Frz h v v'
  | .b x,v,hb=>by
    unfold zw at hb; split at hb <;> first | (cases hb; done) | skip
    rename_i y
    have:y = x:=by cases x <;> cases y <;> first | rfl | cases hb
    subst this; exact .b _
  | .i k n,v,hb=>by
    unfold zw at hb; split at hb <;> first | (cases hb; done) | skip
    simp only [Bool.and_eq_true] at hb
    obtain rfl:=qlf hb.1
    obtain rfl:=qmd hb.2
    exact .i _ _
  | .s x,v,hb=>by
    unfold zw at hb; split at hb <;> first | (cases hb; done) | skip
    obtain rfl:=qlW hb
    exact .s _
  | .nils,v,hb=>by unfold zw at hb; split at hb <;> first | (cases hb; done) | exact .nils
  | .nilp,v,hb=>by unfold zw at hb; split at hb <;> first | (cases hb; done) | exact .nilp
  | .nilf,v,hb=>by unfold zw at hb; split at hb <;> first | (cases hb; done) | exact .nilf
  | .nili,v,hb=>by unfold zw at hb; split at hb <;> first | (cases hb; done) | exact .nili
  | .nilm,v,hb=>by unfold zw at hb; split at hb <;> first | (cases hb; done) | exact .nilm
  | .agg cs',v,hb=>by
    unfold zw at hb; split at hb <;> first | (cases hb; done) | skip
    exact .agg _ _ (Ql cs' _ hb)
  | .tup cs',v,hb=>by
    unfold zw at hb; split at hb <;> first | (cases hb; done) | skip
    exact .tup _ _ (Ql cs' _ hb)
  | .fz n cs',v,hb=>by
    unfold zw at hb; split at hb <;> first | (cases hb; done) | skip
    · simp only [Bool.and_eq_true] at hb
      obtain rfl:=Nat.eq_of_beq_eq_true hb.1
      have:cs' = []:=by simpa using hb.2
      rw [this]; exact .nilz
    · simp only [Bool.and_eq_true] at hb
      obtain ⟨⟨⟨h1,h2⟩,h3⟩,h4⟩:=hb
      obtain rfl:=Nat.eq_of_beq_eq_true h1
      split at h4 <;> first | (cases h4; done) | skip
      rename_i hg
      simp only [Bool.and_eq_true] at h4
      refine .sl _ _ _ _ _ _ _ _ cs'.length _ hg (Nat.le_of_ble_eq_true h2) (Nat.le_of_ble_eq_true h4.1) (fun h0=>?_) (Ql cs' _ h4.2)
      subst h0; cases h3
    · simp only [Bool.and_eq_true] at hb
      obtain ⟨⟨h1,h2⟩,h4⟩:=hb
      obtain rfl:=Nat.eq_of_beq_eq_true h1
      split at h4 <;> first | (cases h4; done) | skip
      rename_i hg
      refine .own _ _ _ _ _ _ hg (fun h0=>?_) (Ql cs' _ h4)
      subst h0; cases h2
  | .undef,v,hb=>by unfold zw at hb; cases hb
  | .ptr _ _,v,hb=>by unfold zw at hb; cases hb
  | .sl _ _ _ _ _,v,hb=>by unfold zw at hb; cases hb
  | .fn _ _ _,v,hb=>by unfold zw at hb; cases hb
  | .ifc _ _,v,hb=>by unfold zw at hb; cases hb
  | .map _,v,hb=>by unfold zw at hb; cases hb
  | .sym _,v,hb=>by unfold zw at hb; cases hb
  | .pf _ _,v,hb=>by unfold zw at hb; cases hb
  | .e0,v,hb=>by unfold zw at hb; cases hb
  | .own _ _,v,hb=>by unfold zw at hb; cases hb
  | .nz,v,hb=>by unfold zw at hb; cases hb
theorem Ql {h:Hp}:∀ (vs' vs:List AV),qbI h vs' vs = true → Frzs h vs vs'
  | [],vs,hb=>by
    unfold qbI at hb
    have:vs = []:=by simpa using hb
    rw [this]; exact .nil
  | v' :: vs',vs,hb=>by
    unfold qbI at hb; split at hb <;> first | (cases hb; done) | skip
    simp only [Bool.and_eq_true] at hb
    exact .cons _ _ _ _ (qgG v' _ hb.1) (Ql vs' _ hb.2)
end
noncomputable def tt (b:Bool):Prop:=Bool.rec (motive:=fun _=>Prop) False True b
theorem qp9 {b:Bool} (h:tt b):b = true:=by cases b with | true=>rfl | false=>exact h.elim
theorem qg.runF (he:qbL P env) (hh:Qk P ho) (m:Nat) {f:Nat} {vs:List AV} {v:AV} (hcl:qC vs = true) (hk:zi env ho (fv env ho m) f vs H0 (fun v' h'=>tt (zw h' v v')) = True):qg P f vs v :=
  qg.of_SC hcl ((SC.run he hh m (of_eq_true hk)).mono fun v' h' hv=>qgG _ _ (qp9 hv))
end Go.Kc
end
section
/- Calls that answer rows of one's own, their arguments lent. No condition. -/
namespace Go.Kc
variable {P:Program}
mutual
def w6:AV → Bool
  | .map _=>false
  | .fz _ _=>false
  | .pf _ _=>false
  | .sym _=>false
  | .fn _ a c=>jO a && jO c
  | .ifc _ v=>w6 v
  | .agg cs=>jO cs
  | .tup cs=>jO cs
  | .ptr _ _=>true | .sl _ _ _ _ _=>true | .own _ _=>true
  | .undef=>true | .b _=>true | .i _ _=>true | .s _=>true | .nilp=>true | .nils=>true | .nilf=>true | .nili=>true | .nilm=>true | .e0=>true | .nz=>true
def jO:List AV → Bool
  | []=>true
  | v :: vs=>w6 v && jO vs
end
mutual
theorem VR.thaw {ρ:Ren} {φ:Nat → Option (Array Value)}:∀ {a:AV} {v:Value},VR σ0 ρ a v → w6 a = true → VR σ0 ⟨ρ.loc,φ,ρ.n⟩ a v
  | _,_,.undef v,_=>.undef v
  | _,_,.b x,_=>.b x
  | _,_,.i k n,_=>.i k n
  | _,_,.s x,_=>.s x
  | _,_,.nilp,_=>.nilp
  | _,_,.ptr b o L h,_=>.ptr b o L h
  | _,_,.nils,_=>.nils
  | _,_,.sl b o len cap c loose L h hc,_=>.sl b o len cap c loose L h hc
  | _,_,.slz b o x l L h,_=>.slz b o x l L h
  | _,_,.nilf,_=>.nilf
  | _,_,.fn f first cap first' cap' h1 h2,hc=>by
    simp only [w6,Bool.and_eq_true] at hc
    exact .fn _ _ _ _ _ (h1.thaw hc.1) (h2.thaw hc.2)
  | _,_,.nili,_=>.nili
  | _,_,.ifc t v v' h,hc=>by simp only [w6] at hc; exact .ifc _ _ _ (h.thaw hc)
  | _,_,.agg cs cs' h,hc=>by simp only [w6] at hc; exact .agg _ _ (h.thaw hc)
  | _,_,.tup cs cs' h,hc=>by simp only [w6] at hc; exact .tup _ _ (h.thaw hc)
  | _,_,.nilm,_=>.nilm
  | _,_,.map b L h h0,hc=>by simp [w6] at hc
  | _,_,.sym j,hc=>by simp [w6] at hc
  | _,_,.fz n off c cs k arr hn h hs,hc=>by simp [w6] at hc
  | _,_,.fz0 a,hc=>by simp [w6] at hc
  | _,_,.pf off base cs k arr h hs,hc=>by simp [w6] at hc
  | _,_,.e0 a,_=>.e0 a
  | _,_,.nz a c,_=>.nz a c
  | _,_,.own0 b a hb,_=>.own0 b a hb
  | _,_,.own b n c L h hn hc',_=>.own b n c L h hn hc'
theorem VRs.thaw {ρ:Ren} {φ:Nat → Option (Array Value)}:∀ {a:List AV} {v:List Value},VRs σ0 ρ a v → jO a = true → VRs σ0 ⟨ρ.loc,φ,ρ.n⟩ a v
  | _,_,.nil,_=>.nil
  | _,_,.cons v vs v' vs' h hs,hc=>by
    simp only [jO,Bool.and_eq_true] at hc
    exact .cons _ _ _ _ (h.thaw hc.1) (hs.thaw hc.2)
end
theorem qcx:∀ {cs:List AV} {j:Nat} {v:AV},jO cs = true → cs[j]? = some v → w6 v = true
  | [],_,_,_,h=>by simp at h
  | c :: cs,0,v,hf,h=>by
    simp only [jO,Bool.and_eq_true] at hf
    simp at h; rw [← h]; exact hf.1
  | c :: cs,j + 1,v,hf,h=>by
    simp only [jO,Bool.and_eq_true] at hf
    exact qcx hf.2 (by simpa using h)
def qdF:Blk → Bool
  | .cells _ _ _ cs=>jO cs
  | _=>false
theorem Rel.thaw {ρ:Ren} {φ:Nat → Option (Array Value)} {B:Nat → Prop} {h:Hp} {w:World} (r:Rel σ0 ρ B h w) (hφ:∀ k a,φ k = some a → ρ.frz k = some a) (hh:∀ b x,h.tr.get b = some x → qdF x = true):Rel σ0 ⟨ρ.loc,φ,ρ.n⟩ B h w:=by
  refine ⟨r.dom,fun b L e wf af cs hb hg=>?_,fun b L es hb hg=>?_,r.excl,r.exclm,r.app,r.flr,r.base,fun k arr hk=>r.frz k arr (hφ k arr hk),r.dn⟩
  · obtain ⟨g1,c,ty,fz,g2,g3,g4,g5,g6⟩:=r.cells b L e wf af cs hb hg
    exact ⟨g1,c,ty,fz,g2,g3,g4,fun j v hv=>let ⟨v',g7,g8⟩:=g5 j v hv; ⟨v',g7,g8.thaw (qcx (hh b _ hg) hv)⟩,g6⟩
  · have:=hh b _ hg
    cases this
theorem ku.own {f:Nat} {vs:List AV} {v:AV} {bs:List Blk} (ho:ku P f vs v bs) (hc:qC vs = true):Own P f vs v bs:=fun h k hk=>ho h vs k (Frzs.self hc) hk
theorem ku.sc {f:Nat} {vs vs':List AV} {v:AV} {bs:List Blk} {h:Hp} {k:AV → Hp → Prop} (ho:ku P f vs' v bs) (hf:Frzs h vs vs') (hk:k (shv h.sz v) (xU h (bs.map (shb h.sz)))):SC P f vs h k:=ho h vs k hf hk
theorem ku.of_SC {f:Nat} {vs':List AV} {v:AV} {bs:List Blk} (hv:w6 v = true) (hbs:bs.all qdF = true) (hs:SC P f vs' H0 (qhC v bs)):ku P f vs' v bs:=by
  intro h vs k hf hk
  refine ⟨hs.1,fun ρ B w args r ha=>?_⟩
  have hcr:=hf.ok r ha
  refine kN.mono (hs.2 ⟨fun _=>none,wD ρ h w,0⟩ (low w.heap.size) w args r.bare (CRs.vr (ρ:=⟨fun _=>none,wD ρ h w,0⟩) hcr)) ?_
  rintro e w1 ⟨v0,v',h1,ρ1,rfl,g1,g2,g3,g4⟩
  obtain ⟨src,s1,s2,s3⟩:=g1 g4.fl
  have hw:Wk 0 (mkT [(0,v0)]) h1 (mkT [(0,v)]) (mkH 0 bs):=Wk.mk [(0,v)] bs src ⟨⟨v0,by simp [mkT,Tr.get_set],s1⟩,trivial⟩ s2 s3 g4.fl
  obtain ⟨ρ2,t2,r2,k2⟩:=hw ρ1 (low w.heap.size) w1 #[v'] (fun j x hj=>by
    have:=Qv hj
    simp at this
    obtain ⟨rfl,rfl⟩:=this
    exact ⟨by simp,by simpa using g2⟩) g3
  have hv2:VR σ0 ρ2 v v':=by
    have:=(t2 0 v (by simp [mkT,Tr.get_set])).2
    simpa using this
  have hφ:∀ k a,ρ.frz k = some a → ρ2.frz k = some a:=fun k a hk=>k2.frz k a (g4.frz k a (vp hk))
  have r3:=r2.thaw (φ:=ρ.frz) hφ (fun b x hx=>by
    rw [xC] at hx
    exact List.all_eq_true.1 hbs x (List.mem_of_getElem? hx))
  have hv3:=hv2.thaw (φ:=ρ.frz) hv
  refine ⟨_,v',_,ρ.join ⟨ρ2.loc,ρ.frz,ρ2.n⟩ h.sz bs.length,rfl,hk,hv3.sh r3.dn,Rel.joinH r r3 g4.pres g4.wle (fun _ _ h=>h) (fun _ _ h=>.inl h),?_⟩
  refine ⟨fun b hb=>qb9 hb,by rw [yb]; omega,yY,fun b _ hb=>by rw [jQ,if_pos hb],fun k hk=>g4.pres k (r.base _ hk),g4.wle,g4.io,fun _ _ h=>h,fun _ _ h=>.inl h,?_⟩
  exact Nat.le_trans r.dn (Nat.le_add_right _ _)
theorem ku.mk {f:Nat} {i:IFn} {vs:List AV} {v:AV} {bs:List Blk} (hc:qh P f i = true) (hv:w6 v = true) (hbs:bs.all qdF = true) (hV:V P 0 i.body (kc i.res (qhC v bs)) (qm vs 0 .leaf) H0):ku P f vs v bs :=
  ku.of_SC hv hbs (SC.mk hc (qy hV))
end Go.Kc
end
section
/- What functions of strings and names answer. Condition: the functions' texts are these. -/
namespace Go.Kc
variable {P:Program} {f:Nat}
def zg:IFn:=⟨[.tmp 4],
  .seq (.reg false [⟨(some 4),.op (.mov (.c (.b false))),none⟩])
  (.seq (.reg false [⟨(some 5),.op (.mov (.t 0)),none⟩,
    ⟨(some 6),.op (.len true (.t 5)),none⟩,
    ⟨(some 7),.op (.mov (.t 1)),none⟩,
    ⟨(some 8),.op (.len true (.t 7)),none⟩,
    ⟨(some 9),.op (.bin .geq (.t 6) (.t 8)),none⟩,
    ⟨(some 10),.op (.mov (.t 9)),none⟩,
    ⟨(some 11),.op (.mov (.t 0)),(some (10,true))⟩,
    ⟨(some 12),.op (.mov (.t 1)),(some (10,true))⟩,
    ⟨(some 13),.op (.len true (.t 12)),(some (10,true))⟩,
    ⟨(some 14),.op (.slcStr (.t 11) none (some (.t 13))),(some (10,true))⟩,
    ⟨(some 15),.op (.mov (.t 1)),(some (10,true))⟩,
    ⟨(some 16),.op (.bin .eql (.t 14) (.t 15)),(some (10,true))⟩,
    ⟨(some 17),.op (.pick (.t 10) (.t 16) (.c (.b false))),none⟩,
    ⟨(some 4),.op (.mov (.t 17)),none⟩])
  (.ret))⟩
theorem qcf (hc:qh P f zg = true) (s p:List UInt8):qg P f [.s s,.s p] (.b (p.isPrefixOf s)):=by
  refine qg.mk hc (by simp [qC,clo]) ?_
  by_cases h:p.length ≤ s.length
  · have hi:(p.length:Int) ≤ s.length:=by omega
    have e:(decide (List.take p.length s = p)) = p.isPrefixOf s:=by
      rw [Bool.eq_iff_iff,decide_eq_true_iff,List.isPrefixOf_iff_prefix,List.prefix_iff_eq_take]
      exact eq_comm
    simp only [zg,qm,H0,mkT,mkH,trL,vI,simprocAttr]
    simp only [↓vS,vT,shb,shv,qb,qc,cellsOf,wr,qa,simprocAttr,hi,h,beq_self_eq_true,vZ,e]
  · have hi:¬ (p.length:Int) ≤ s.length:=by omega
    have e:p.isPrefixOf s = false:=by
      rw [Bool.eq_false_iff]
      intro h2
      exact h (List.isPrefixOf_iff_prefix.1 h2).length_le
    simp only [zg,qm,H0,mkT,mkH,trL,vI,simprocAttr]
    simp only [↓vS,vT,shb,shv,qb,qc,cellsOf,wr,qa,simprocAttr,hi,h,vZ,e]
def zE (f_internal_stringslite_HasPrefix:Nat):IFn:=⟨[.tmp 4,.tmp 5],
  .seq (.reg false [⟨(some 4),.op (.mov (.c (.s []))),none⟩,
    ⟨(some 5),.op (.mov (.c (.b false))),none⟩])
  (.seq (.seq (.reg false [⟨(some 6),.op (.mov (.t 0)),none⟩,
    ⟨(some 7),.op (.mov (.t 1)),none⟩,
    ⟨(some 8),.callF f_internal_stringslite_HasPrefix [(.t 6),(.t 7)],none⟩,
    ⟨(some 9),.op (.un .not (.t 8)),none⟩])
  (.cond (.t 9) (.seq (.reg false [⟨(some 10),.op (.mov (.t 0)),none⟩,
    ⟨(some 4),.op (.mov (.t 10)),none⟩,
    ⟨(some 5),.op (.mov (.c (.b false))),none⟩])
  (.ret)) (.skip)))
  (.seq (.reg false [⟨(some 11),.op (.mov (.t 0)),none⟩,
    ⟨(some 12),.op (.mov (.t 1)),none⟩,
    ⟨(some 13),.op (.len true (.t 12)),none⟩,
    ⟨(some 14),.op (.slcStr (.t 11) (some (.t 13)) none),none⟩,
    ⟨(some 4),.op (.mov (.t 14)),none⟩,
    ⟨(some 5),.op (.mov (.c (.b true))),none⟩])
  (.ret)))⟩
def xG (s p:List UInt8):AV:=if p.isPrefixOf s = true then .tup [.s (s.drop p.length),.b true] else .tup [.s s,.b false]
theorem qc3 {g:Nat} (hc:qh P f (zE g) = true) (hg:∀ s p,qg P g [.s s,.s p] (.b (p.isPrefixOf s))) (s p:List UInt8):qg P f [.s s,.s p] (xG s p):=by
  refine qg.mk hc (by simp [qC,clo]) ?_
  unfold xG
  simp only [zE,qm,H0,mkT,mkH,trL,vI,simprocAttr]
  simp only [↓vS,vT,shb,shv,qb,qc,cellsOf,wr,qa,simprocAttr]
  refine (hg _ _).sc ?_
  cases h:p.isPrefixOf s with
  | false=>simp only [↓vS,vT,shb,shv,qb,qc,cellsOf,wr,qa,simprocAttr,vZ]
  | true =>
    have hl:p.length ≤ s.length:=(List.isPrefixOf_iff_prefix.1 h).length_le
    simp only [↓vS,vT,shb,shv,qb,qc,cellsOf,wr,qa,simprocAttr,vZ,hl,List.take_length]
def jk (f_internal_stringslite_CutPrefix:Nat):IFn:=⟨[.tmp 4,.tmp 5],
  .seq (.reg false [⟨(some 4),.op (.mov (.c (.s []))),none⟩,
    ⟨(some 5),.op (.mov (.c (.b false))),none⟩])
  (.seq (.reg false [⟨(some 6),.op (.mov (.t 0)),none⟩,
    ⟨(some 7),.op (.mov (.t 1)),none⟩,
    ⟨(some 8),.callF f_internal_stringslite_CutPrefix [(.t 6),(.t 7)],none⟩,
    ⟨(some 9),.op (.ext (.t 8) 0),none⟩,
    ⟨(some 10),.op (.ext (.t 8) 1),none⟩,
    ⟨(some 4),.op (.mov (.t 9)),none⟩,
    ⟨(some 5),.op (.mov (.t 10)),none⟩])
  (.ret))⟩
theorem qbc {g:Nat} (hc:qh P f (jk g) = true) (hg:∀ s p,qg P g [.s s,.s p] (xG s p)) (s p:List UInt8):qg P f [.s s,.s p] (xG s p):=by
  refine qg.mk hc (by simp [qC,clo]) ?_
  simp only [jk,qm,H0,mkT,mkH,trL,vI,simprocAttr]
  simp only [↓vS,vT,shb,shv,qb,qc,cellsOf,wr,qa,simprocAttr]
  refine (hg _ _).sc ?_
  unfold xG
  cases h:p.isPrefixOf s with
  | false=>simp only [↓vS,vT,shb,shv,qb,qc,cellsOf,wr,qa,simprocAttr,vZ]
  | true=>simp only [↓vS,vT,shb,shv,qb,qc,cellsOf,wr,qa,simprocAttr,vZ]
def wL (f_strings_CutPrefix:Nat):IFn:=⟨[.tmp 2,.tmp 3],
  .seq (.reg false [⟨(some 2),.op (.mov (.c (.s []))),none⟩,
    ⟨(some 3),.op (.mov (.c (.b false))),none⟩])
  (.seq (.reg false [⟨(some 4),.op (.mov (.t 0)),none⟩,
    ⟨(some 5),.callF f_strings_CutPrefix [(.t 4),(.c (.s [126]))],none⟩,
    ⟨(some 6),.op (.ext (.t 5) 0),none⟩,
    ⟨(some 7),.op (.ext (.t 5) 1),none⟩,
    ⟨(some 2),.op (.mov (.t 6)),none⟩,
    ⟨(some 3),.op (.mov (.t 7)),none⟩])
  (.ret))⟩
theorem qe1 {g:Nat} (hc:qh P f (wL g) = true) (hg:∀ s p,qg P g [.s s,.s p] (xG s p)) (s:List UInt8):qg P f [.s s] (xG s [126]):=by
  refine qg.mk hc (by simp [qC,clo]) ?_
  simp only [wL,qm,H0,mkT,mkH,trL,vI,simprocAttr]
  simp only [↓vS,vT,shb,shv,qb,qc,cellsOf,wr,qa,simprocAttr]
  refine (hg _ _).sc ?_
  unfold xG
  cases h:List.isPrefixOf [126] s with
  | false=>simp only [↓vS,vT,shb,shv,qb,qc,cellsOf,wr,qa,simprocAttr,vZ]
  | true=>simp only [↓vS,vT,shb,shv,qb,qc,cellsOf,wr,qa,simprocAttr,vZ]
end Go.Kc
end
section
/- What searches in lists answer. Condition: the functions' texts are these. -/
namespace Go.Kc
variable {P:Program} {f:Nat}
end Go.Kc
end
section
/- What names of errors, families and namespaces answer. Condition: the functions' texts are these. -/
namespace Go.Kc
variable {P:Program} {f:Nat}
def kV (q:IntKind) (p:List UInt8 × Int):List AV:=[.s p.1,.i q p.2]
theorem qaT {q:IntKind} (p:List UInt8 × Int):(kV q p).length = 2:=rfl
def kF (q:IntKind) (s:List UInt8) (no:Int):List (List UInt8 × Int) → AV
  | []=>.tup [.i q 0,.i .i64 no]
  | p :: l=>if p.1 = s then .tup [.i q p.2,.i .i64 0] else kF q s no l
def qgJ (P:Program) (g:Nat) (q:IntKind):Prop:=∀ (l:List (List UInt8 × Int)) (s:List UInt8) (no:Int),l.length ≤ qi → qg P g [.fz l.length (l.flatMap (kV q)),.s s,.i .i64 no] (kF q s no l)
def jg:IFn:=⟨[.tmp 6,.tmp 7],
  .seq (.reg false [⟨(some 6),.op (.mov (.c (.i .u32 0))),none⟩,
    ⟨(some 7),.op (.mov (.c (.i .i64 0))),none⟩])
  (.seq (.seq (.reg false [⟨(some 11),.op (.mov (.t 0)),none⟩,
    ⟨(some 12),.op (.len false (.t 11)),none⟩,
    ⟨(some 13),.op (.mov (.c (.i .i64 0))),none⟩])
  (.blk 0 (.loop (.seq (.reg false [⟨(some 14),.op (.bin .lss (.t 13) (.t 12)),none⟩])
  (.seq (.cond (.t 14) (.skip) (.exit 0))
  (.seq (.blk 1 (.seq (.reg false [⟨(some 15),.op (.iAddrS 2 (.t 11) (.t 13)),none⟩,
    ⟨(some 16),.op (.loadN 2 (.t 15)),none⟩,
    ⟨(some 9),.op (.alloc [.s [],.i .u32 0]),none⟩,
    ⟨none,.op (.store 2 (.t 9) (.t 16)),none⟩])
  (.seq (.reg false [⟨(some 17),.op (.fAddr 0 (.t 9)),none⟩,
    ⟨(some 18),.op (.load1 (.t 17)),none⟩,
    ⟨(some 19),.op (.mov (.t 1)),none⟩,
    ⟨(some 20),.op (.bin .eql (.t 18) (.t 19)),none⟩])
  (.cond (.t 20) (.seq (.reg false [⟨(some 21),.op (.fAddr 1 (.t 9)),none⟩,
    ⟨(some 22),.op (.load1 (.t 21)),none⟩,
    ⟨(some 6),.op (.mov (.t 22)),none⟩,
    ⟨(some 7),.op (.mov (.c (.i .i64 0))),none⟩])
  (.ret)) (.skip)))))
  (.reg false [⟨(some 23),.op (.bin .add (.t 13) (.c (.i .i64 1))),none⟩,
    ⟨(some 13),.op (.mov (.t 23)),none⟩])))))))
  (.seq (.reg false [⟨(some 10),.op (.mov (.c (.i .u32 0))),none⟩])
  (.seq (.reg false [⟨(some 24),.op (.mov (.t 10)),none⟩,
    ⟨(some 25),.op (.mov (.t 2)),none⟩,
    ⟨(some 6),.op (.mov (.t 24)),none⟩,
    ⟨(some 7),.op (.mov (.t 25)),none⟩])
  (.ret))))⟩
theorem qiX (hc:qh P f jg = true):qgJ P f .u32:=by
  intro l s no hl
  refine qg.mk hc (by simp [qC,clo]) ?_
  simp only [jg,qm,H0,mkT,mkH,trL,vI,simprocAttr]
  simp only [↓vS,vT,shb,shv,qb,qc,cellsOf,wr,qa,simprocAttr]
  refine SL.loop (α:=Nat) (fun j=>[(1,.s s),(2,.i .i64 no),(11,.fz l.length (l.flatMap (kV .u32))),(12,.i .i64 l.length),(13,.i .i64 j)]) (fun _=>[]) (fun j=>j ≤ l.length ∧ kF .u32 s no l = kF .u32 s no (l.drop j)) (fun j=>l.length - j) 0 [] ?_ ?_ ?_ rfl ?_ ?_
  · simp [vw]
  · trivial
  · simp
  · simp
  rintro j ⟨hj,hI⟩ G ih
  simp only [qm,H0,mkT,mkH,trL,vI,simprocAttr]
  by_cases hlt:j < l.length
  · have hx:l[j]? = some l[j]:=List.getElem?_eq_getElem hlt
    have hw:IntKind.wrap .i64 ((j:Int) + 1) = (j:Int) + 1:=qE (by omega) (by have:=hl; simp only [qi] at this; omega)
    have he:=jR (f:=kV .u32) (m:=2) qaT hx
    have hb:j * 2 + 2 ≤ (l.flatMap (kV .u32)).length:=by rw [jo (m:=2) qaT]; omega
    rw [List.drop_eq_getElem_cons hlt,kF] at hI
    simp only [↓vS,vT,shb,shv,qb,qc,cellsOf,wr,qa,simprocAttr,hlt,hb,he,kV,hw]
    split
    · rename_i hs
      rw [hI,if_pos hs]
      simp only [vZ,and_self,true_and]
    · rename_i hs
      rw [if_neg hs] at hI
      refine ih (j + 1) ⟨by omega,hI⟩ (by omega) _ _ (Wk.mk _ _ [] ?_ ?_ ?_ rfl)
      · simp [vw]
      · trivial
      · simp
  · simp only [↓vS,vT,shb,shv,qb,qc,cellsOf,wr,qa,simprocAttr,hlt,vZ]
    rw [List.drop_eq_nil_of_le (by omega),kF] at hI
    rw [hI]
    simp only [vZ,and_self,true_and]
def vf:IFn:=⟨[.cell 0 30 true],
  .seq (.reg false [⟨(some 0),.op (.alloc [.s [],.i .u32 0,.s [],.i .u32 0,.s [],.i .u32 0,.s [],.i .u32 0,.s [],.i .u32 0,.s [],.i .u32 0,.s [],.i .u32 0,.s [],.i .u32 0,.s [],.i .u32 0,.s [],.i .u32 0,.s [],.i .u32 0,.s [],.i .u32 0,.s [],.i .u32 0,.s [],.i .u32 0,.s [],.i .u32 0]),none⟩])
  (.seq (.reg false [⟨(some 1),.op (.build [.s [],.i .u32 0] [(0,1,(.c (.s [69,80,69,82,77]))),(1,1,(.c (.i .u32 1)))]),none⟩,
    ⟨(some 2),.op (.build [.s [],.i .u32 0] [(0,1,(.c (.s [69,78,79,69,78,84]))),(1,1,(.c (.i .u32 2)))]),none⟩,
    ⟨(some 3),.op (.build [.s [],.i .u32 0] [(0,1,(.c (.s [69,73,79]))),(1,1,(.c (.i .u32 5)))]),none⟩,
    ⟨(some 4),.op (.build [.s [],.i .u32 0] [(0,1,(.c (.s [69,66,65,68,70]))),(1,1,(.c (.i .u32 9)))]),none⟩,
    ⟨(some 5),.op (.build [.s [],.i .u32 0] [(0,1,(.c (.s [69,65,71,65,73,78]))),(1,1,(.c (.i .u32 11)))]),none⟩,
    ⟨(some 6),.op (.build [.s [],.i .u32 0] [(0,1,(.c (.s [69,78,79,77,69,77]))),(1,1,(.c (.i .u32 12)))]),none⟩,
    ⟨(some 7),.op (.build [.s [],.i .u32 0] [(0,1,(.c (.s [69,65,67,67,69,83]))),(1,1,(.c (.i .u32 13)))]),none⟩,
    ⟨(some 8),.op (.build [.s [],.i .u32 0] [(0,1,(.c (.s [69,70,65,85,76,84]))),(1,1,(.c (.i .u32 14)))]),none⟩,
    ⟨(some 9),.op (.build [.s [],.i .u32 0] [(0,1,(.c (.s [69,66,85,83,89]))),(1,1,(.c (.i .u32 16)))]),none⟩,
    ⟨(some 10),.op (.build [.s [],.i .u32 0] [(0,1,(.c (.s [69,78,79,68,69,86]))),(1,1,(.c (.i .u32 19)))]),none⟩,
    ⟨(some 11),.op (.build [.s [],.i .u32 0] [(0,1,(.c (.s [69,73,78,86,65,76]))),(1,1,(.c (.i .u32 22)))]),none⟩,
    ⟨(some 12),.op (.build [.s [],.i .u32 0] [(0,1,(.c (.s [69,78,79,83,89,83]))),(1,1,(.c (.i .u32 38)))]),none⟩,
    ⟨(some 13),.op (.build [.s [],.i .u32 0] [(0,1,(.c (.s [69,79,80,78,79,84,83,85,80,80]))),(1,1,(.c (.i .u32 95)))]),none⟩,
    ⟨(some 14),.op (.build [.s [],.i .u32 0] [(0,1,(.c (.s [69,65,70,78,79,83,85,80,80,79,82,84]))),(1,1,(.c (.i .u32 97)))]),none⟩,
    ⟨(some 15),.op (.build [.s [],.i .u32 0] [(0,1,(.c (.s [69,84,73,77,69,68,79,85,84]))),(1,1,(.c (.i .u32 110)))]),none⟩,
    ⟨(some 16),.op (.build [.s [],.i .u32 0,.s [],.i .u32 0,.s [],.i .u32 0,.s [],.i .u32 0,.s [],.i .u32 0,.s [],.i .u32 0,.s [],.i .u32 0,.s [],.i .u32 0,.s [],.i .u32 0,.s [],.i .u32 0,.s [],.i .u32 0,.s [],.i .u32 0,.s [],.i .u32 0,.s [],.i .u32 0,.s [],.i .u32 0] [(0,2,(.t 1)),(2,2,(.t 2)),(4,2,(.t 3)),(6,2,(.t 4)),(8,2,(.t 5)),(10,2,(.t 6)),(12,2,(.t 7)),(14,2,(.t 8)),(16,2,(.t 9)),(18,2,(.t 10)),(20,2,(.t 11)),(22,2,(.t 12)),(24,2,(.t 13)),(26,2,(.t 14)),(28,2,(.t 15))]),none⟩,
    ⟨none,.op (.store 30 (.t 0) (.t 16)),none⟩])
  (.ret))⟩
def qU:List (List UInt8 × Int):=[([69,80,69,82,77],1),([69,78,79,69,78,84],2),([69,73,79],5),([69,66,65,68,70],9),([69,65,71,65,73,78],11),([69,78,79,77,69,77],12),([69,65,67,67,69,83],13),([69,70,65,85,76,84],14),([69,66,85,83,89],16),([69,78,79,68,69,86],19),([69,73,78,86,65,76],22),([69,78,79,83,89,83],38),([69,79,80,78,79,84,83,85,80,80],95),([69,65,70,78,79,83,85,80,80,79,82,84],97),([69,84,73,77,69,68,79,85,84],110)]
set_option maxRecDepth 4000 in
theorem qeX (hc:qh P f vf = true):qg P f [] (.agg (qU.flatMap (kV .u32))):=by
  refine qg.mk hc rfl ?_
  simp only [vf,qm,H0,mkT,mkH,trL,vI,simprocAttr]
  simp only [↓vS,vT,shb,shv,qb,qc,cellsOf,wr,qa,simprocAttr,qU,kV,List.flatMap_cons,List.flatMap_nil,vZ]
theorem qcZ {q:IntKind} {s:List UInt8} {no:Int}:∀ l,flat (kF q s no l) = true
  | []=>rfl
  | p :: l=>by
    simp only [kF]
    split
    · rfl
    · exact qcZ l
end Go.Kc
end
section
/- What slices.Clone answers: a row of one's own. Condition: the functions' texts are these. -/
namespace Go.Kc
variable {P:Program} {f:Nat}
def kJ (P:Program) (g esz bytes:Nat):Prop:=∀ (n:Nat) (rows:List AV),rows.length = n * esz → qC rows = true → qG rows = true → n ≤ qi → n * bytes ≤ qi → Own P g [.fz n rows] (.own 0 n) [.cells esz true true rows]
def zy:IFn:=⟨[.tmp 2],
  .seq (.reg false [⟨(some 2),.op (.mov (.c (.nils))),none⟩])
  (.seq (.seq (.reg false [⟨(some 3),.op (.mov (.t 0)),none⟩,
    ⟨(some 4),.op (.eqN false .slice (.t 3)),none⟩])
  (.cond (.t 4) (.seq (.reg false [⟨(some 2),.op (.mov (.c (.nils))),none⟩])
  (.ret)) (.skip)))
  (.seq (.reg false [⟨(some 5),.op (.buildS 0 [.i .i64 0] []),none⟩,
    ⟨(some 6),.op (.mov (.t 0)),none⟩,
    ⟨(some 7),.op (.app 1 8 true (.t 5) (.t 6)),none⟩,
    ⟨(some 2),.op (.mov (.t 7)),none⟩])
  (.ret)))⟩
theorem qho (hc:qh P f zy = true):kJ P f 1 8:=by
  intro n rows hlen hcl hok hr1 hr2
  refine Own.of_SC (by simp [qC,clo]) ?_
  cases n with
  | zero =>
    obtain rfl:rows = []:=by cases rows with | nil=>rfl | cons=>simp at hlen
    refine SC.nil0 (SC.mk hc (qy ?_)) (SC.mk hc (qy ?_))
    · simp only [zy,qm,H0,mkT,mkH,trL,vI,simprocAttr]
      simp only [↓vS,vT,shb,shv,qb,qc,cellsOf,wr,qa,simprocAttr]
      intro _
      refine ⟨[1],?_⟩
      simp [vw]
    · simp only [zy,qm,H0,mkT,mkH,trL,vI,simprocAttr]
      simp only [↓vS,vT,shb,shv,qb,qc,cellsOf,wr,qa,simprocAttr,if_true]
      intro _
      refine ⟨[1],?_⟩
      simp [vw]
  | succ n =>
    refine SC.mk hc (qy ?_)
    simp only [zy,qm,H0,mkT,mkH,trL,vI,simprocAttr]
    have h1:1 ≤ n + 1:=by omega
    have h2:(n + 1) ≤ rows.length:=by omega
    have h3:rows.take ((n + 1)) = rows:=List.take_of_length_le (by omega)
    have h4:¬ (n + 1 ≤ 0):=by omega
    simp only [↓vS,vT,shb,shv,qb,qc,cellsOf,wr,qa,simprocAttr,h1,h2,h3,h4,hr1,hr2,hok,Nat.mul_one,Nat.zero_mul]
    intro _
    refine ⟨[1],?_⟩
    simp [vw,qe,hcl]
def zb:IFn:=⟨[.tmp 2],
  .seq (.reg false [⟨(some 2),.op (.mov (.c (.nils))),none⟩])
  (.seq (.seq (.reg false [⟨(some 3),.op (.mov (.t 0)),none⟩,
    ⟨(some 4),.op (.eqN false .slice (.t 3)),none⟩])
  (.cond (.t 4) (.seq (.reg false [⟨(some 2),.op (.mov (.c (.nils))),none⟩])
  (.ret)) (.skip)))
  (.seq (.reg false [⟨(some 5),.op (.buildS 0 [.i .u32 0] []),none⟩,
    ⟨(some 6),.op (.mov (.t 0)),none⟩,
    ⟨(some 7),.op (.app 1 4 true (.t 5) (.t 6)),none⟩,
    ⟨(some 2),.op (.mov (.t 7)),none⟩])
  (.ret)))⟩
theorem qg2 (hc:qh P f zb = true):kJ P f 1 4:=by
  intro n rows hlen hcl hok hr1 hr2
  refine Own.of_SC (by simp [qC,clo]) ?_
  cases n with
  | zero =>
    obtain rfl:rows = []:=by cases rows with | nil=>rfl | cons=>simp at hlen
    refine SC.nil0 (SC.mk hc (qy ?_)) (SC.mk hc (qy ?_))
    · simp only [zb,qm,H0,mkT,mkH,trL,vI,simprocAttr]
      simp only [↓vS,vT,shb,shv,qb,qc,cellsOf,wr,qa,simprocAttr]
      intro _
      refine ⟨[1],?_⟩
      simp [vw]
    · simp only [zb,qm,H0,mkT,mkH,trL,vI,simprocAttr]
      simp only [↓vS,vT,shb,shv,qb,qc,cellsOf,wr,qa,simprocAttr,if_true]
      intro _
      refine ⟨[1],?_⟩
      simp [vw]
  | succ n =>
    refine SC.mk hc (qy ?_)
    simp only [zb,qm,H0,mkT,mkH,trL,vI,simprocAttr]
    have h1:1 ≤ n + 1:=by omega
    have h2:(n + 1) ≤ rows.length:=by omega
    have h3:rows.take ((n + 1)) = rows:=List.take_of_length_le (by omega)
    have h4:¬ (n + 1 ≤ 0):=by omega
    simp only [↓vS,vT,shb,shv,qb,qc,cellsOf,wr,qa,simprocAttr,h1,h2,h3,h4,hr1,hr2,hok,Nat.mul_one,Nat.zero_mul]
    intro _
    refine ⟨[1],?_⟩
    simp [vw,qe,hcl]
def qP:IFn:=⟨[.tmp 2],
  .seq (.reg false [⟨(some 2),.op (.mov (.c (.nils))),none⟩])
  (.seq (.seq (.reg false [⟨(some 3),.op (.mov (.t 0)),none⟩,
    ⟨(some 4),.op (.eqN false .slice (.t 3)),none⟩])
  (.cond (.t 4) (.seq (.reg false [⟨(some 2),.op (.mov (.c (.nils))),none⟩])
  (.ret)) (.skip)))
  (.seq (.reg false [⟨(some 5),.op (.buildS 0 [.s [],.i .u32 0] []),none⟩,
    ⟨(some 6),.op (.mov (.t 0)),none⟩,
    ⟨(some 7),.op (.app 2 24 true (.t 5) (.t 6)),none⟩,
    ⟨(some 2),.op (.mov (.t 7)),none⟩])
  (.ret)))⟩
theorem qcw (hc:qh P f qP = true):kJ P f 2 24:=by
  intro n rows hlen hcl hok hr1 hr2
  refine Own.of_SC (by simp [qC,clo]) ?_
  cases n with
  | zero =>
    obtain rfl:rows = []:=by cases rows with | nil=>rfl | cons=>simp at hlen
    refine SC.nil0 (SC.mk hc (qy ?_)) (SC.mk hc (qy ?_))
    · simp only [qP,qm,H0,mkT,mkH,trL,vI,simprocAttr]
      simp only [↓vS,vT,shb,shv,qb,qc,cellsOf,wr,qa,simprocAttr]
      intro _
      refine ⟨[1],?_⟩
      simp [vw]
    · simp only [qP,qm,H0,mkT,mkH,trL,vI,simprocAttr]
      simp only [↓vS,vT,shb,shv,qb,qc,cellsOf,wr,qa,simprocAttr,if_true]
      intro _
      refine ⟨[1],?_⟩
      simp [vw]
  | succ n =>
    refine SC.mk hc (qy ?_)
    simp only [qP,qm,H0,mkT,mkH,trL,vI,simprocAttr]
    have h1:1 ≤ n + 1:=by omega
    have h2:(n + 1) * 2 ≤ rows.length:=by omega
    have h3:rows.take ((n + 1) * 2) = rows:=List.take_of_length_le (by omega)
    have h4:¬ (n + 1 ≤ 0):=by omega
    simp only [↓vS,vT,shb,shv,qb,qc,cellsOf,wr,qa,simprocAttr,h1,h2,h3,h4,hr1,hr2,hok,Nat.mul_one,Nat.zero_mul]
    intro _
    refine ⟨[1],?_⟩
    simp [vw,qe,hcl]
end Go.Kc
end
section
/- What strings.FieldsFunc answers, of any string and any predicate. Condition: the string is not too great; the functions' texts are these. -/
namespace Go.Kc
variable {P:Program} {f:Nat}
def jm (b:Bool) (st:Option Nat) (i:Nat):Option Nat:=if b = true then none else (match st with | some s=>some s | none=>some i)
def wi (b:Bool) (st:Option Nat) (i:Nat) (acc:List (Nat × Nat)):List (Nat × Nat):=if b = true then (match st with | some s=>acc ++ [(s,i)] | none=>acc) else acc
def qaK (p:Int → Bool) (l:List UInt8) (i:Nat) (st:Option Nat) (acc:List (Nat × Nat)):List (Nat × Nat) × Option Nat :=
  if i < l.length then qaK p l (i + (xv l i).2) (jm (p (xv l i).1) st i) (wi (p (xv l i).1) st i acc) else (acc,st)
termination_by l.length - i
decreasing_by have:=qfR l i; omega
def qm1 (p:Int → Bool) (l:List UInt8):List (Nat × Nat):=match qaK p l 0 none [] with
  | (acc,some s)=>acc ++ [(s,l.length)]
  | (acc,none)=>acc
def xW (l:List UInt8) (q:Nat × Nat):List UInt8:=(l.take q.2).drop q.1
def qal (p:Int → Bool) (l:List UInt8):List (List UInt8):=(qm1 p l).map (xW l)
def qiE (l:List UInt8) (st:Option Nat) (z:Int) (i:Nat):Prop:=match st with | some s=>z = (s:Int) ∧ s ≤ i ∧ s < l.length | none=>z < 0
def qe2 (q:Nat × Nat):List AV:=[.i .i64 (q.1:Int),.i .i64 (q.2:Int)]
theorem qdv (q:Nat × Nat):(qe2 q).length = 2:=rfl
def wV (acc:List (Nat × Nat)):List AV:=acc.flatMap qe2
theorem xH (acc:List (Nat × Nat)):(wV acc).length = acc.length * 2:=jo qdv acc
theorem ya (acc:List (Nat × Nat)) (x y:Nat):wV (acc ++ [(x,y)]) = wV acc ++ [.i .i64 (x:Int),.i .i64 (y:Int)]:=by simp [wV,qe2]
def ky (n:Nat):List AV:=List.replicate n (.i .i64 0)
theorem qh9 (n:Nat):(ky n).length = n:=by simp [ky]
theorem jN (n:Nat):qC (ky n) = true:=qcK rfl
theorem qfQ (n m:Nat):(ky n).drop m = ky (n - m):=by simp [ky]
theorem xb (acc:List (Nat × Nat)):qC (wV acc) = true:=vy (fun _=>rfl)
def vd (acc:List (Nat × Nat)):AV:=if acc.length ≤ 32 then .sl 0 0 acc.length 32 false else .own 0 acc.length
def vg (acc:List (Nat × Nat)):Blk:=if acc.length ≤ 32 then .cells 0 true false (wV acc ++ ky (64 - acc.length * 2)) else .cells 2 true true (wV acc)
structure St where
  i:Nat
  st:Option Nat
  acc:List (Nat × Nat)
  z:Int
def stT (l:List UInt8) (g:Nat) (a:St):List (Nat × AV):=[(0,.s l),(1,.fn g [] []),(5,vd a.acc),(6,.i .i64 a.z),(14,.ptr 1 0)]
def stB (l:List UInt8) (a:St):List Blk:=[vg a.acc,.map (xd l a.i)]
structure StI (p:Int → Bool) (l:List UInt8) (a:St):Prop where
  z:qiE l a.st a.z a.i
  lo:-1000001 ≤ a.z
  n:a.acc.length ≤ a.i
  m:a.acc.length ≤ l.length
  sp:∀ q ∈ a.acc,q.1 ≤ q.2 ∧ q.2 ≤ l.length
  eq:qaK p l a.i a.st a.acc = qaK p l 0 none []
def qnd (P:Program) (g:Nat) (p:Int → Bool):Prop:=∀ c:Int,qg P g [.i .i32 c] (.b (p c))
def xp:ICode:=.seq (.reg false [⟨(some 44),.op (.mov (.t 5)),none⟩,
    ⟨(some 45),.op (.len false (.t 44)),none⟩,
    ⟨(some 46),.op (.mkS 1 16 [.s []] (.t 45) (.t 45)),none⟩,
    ⟨(some 9),.op (.mov (.t 46)),none⟩])
  (.seq (.seq (.reg false [⟨(some 47),.op (.mov (.t 5)),none⟩,
    ⟨(some 48),.op (.len false (.t 47)),none⟩,
    ⟨(some 49),.op (.mov (.c (.i .i64 0))),none⟩])
  (.blk 2 (.loop (.seq (.reg false [⟨(some 50),.op (.bin .lss (.t 49) (.t 48)),none⟩])
  (.seq (.cond (.t 50) (.skip) (.exit 2))
  (.seq (.blk 3 (.seq (.reg false [⟨(some 51),.op (.mov (.t 49)),none⟩,
    ⟨(some 52),.op (.iAddrS 2 (.t 47) (.t 49)),none⟩,
    ⟨(some 53),.op (.loadN 2 (.t 52)),none⟩,
    ⟨(some 11),.op (.alloc [.i .i64 0,.i .i64 0]),none⟩,
    ⟨(some 10),.op (.mov (.t 51)),none⟩,
    ⟨none,.op (.store 2 (.t 11) (.t 53)),none⟩])
  (.reg false [⟨(some 54),.op (.mov (.t 9)),none⟩,
    ⟨(some 55),.op (.mov (.t 10)),none⟩,
    ⟨(some 56),.op (.mov (.t 0)),none⟩,
    ⟨(some 57),.op (.fAddr 0 (.t 11)),none⟩,
    ⟨(some 58),.op (.load1 (.t 57)),none⟩,
    ⟨(some 59),.op (.fAddr 1 (.t 11)),none⟩,
    ⟨(some 60),.op (.load1 (.t 59)),none⟩,
    ⟨(some 61),.op (.slcStr (.t 56) (some (.t 58)) (some (.t 60))),none⟩,
    ⟨(some 62),.op (.iAddrS 1 (.t 54) (.t 55)),none⟩,
    ⟨none,.op (.store 1 (.t 62) (.t 61)),none⟩])))
  (.reg false [⟨(some 63),.op (.bin .add (.t 49) (.c (.i .i64 1))),none⟩,
    ⟨(some 49),.op (.mov (.t 63)),none⟩])))))))
  (.seq (.reg false [⟨(some 64),.op (.mov (.t 9)),none⟩,
    ⟨(some 4),.op (.mov (.t 64)),none⟩])
  (.ret)))
def xw:ICode:=.seq (.seq (.reg false [⟨(some 35),.op (.mov (.t 6)),none⟩,
    ⟨(some 36),.op (.bin .geq (.t 35) (.c (.i .i64 0))),none⟩])
  (.cond (.t 36) (.reg false [⟨(some 37),.op (.mov (.t 5)),none⟩,
    ⟨(some 38),.op (.mov (.t 6)),none⟩,
    ⟨(some 39),.op (.mov (.t 0)),none⟩,
    ⟨(some 40),.op (.len true (.t 39)),none⟩,
    ⟨(some 41),.op (.build [.i .i64 0,.i .i64 0] [(0,1,(.t 38)),(1,1,(.t 40))]),none⟩,
    ⟨(some 42),.op (.buildS 1 [.i .i64 0,.i .i64 0] [(0,2,(.t 41))]),none⟩,
    ⟨(some 43),.op (.app 2 16 true (.t 37) (.t 42)),none⟩,
    ⟨(some 5),.op (.mov (.t 43)),none⟩]) (.skip)))
  (.cut (xp))
def xV:IFn:=⟨[.tmp 4],
  .seq (.reg false [⟨(some 4),.op (.mov (.c (.nils))),none⟩])
  (.seq (.reg false [⟨(some 12),.op (.mkS 2 16 [.i .i64 0,.i .i64 0] (.c (.i .i64 0)) (.c (.i .i64 32))),none⟩,
    ⟨(some 5),.op (.mov (.t 12)),none⟩])
  (.seq (.reg false [⟨(some 6),.op (.mov (.c (.i .i64 (-1)))),none⟩])
  (.seq (.seq (.reg false [⟨(some 13),.op (.mov (.t 0)),none⟩,
    ⟨(some 14),.op (.rangeS (.t 13)),none⟩])
  (.blk 0 (.loop (.seq (.reg false [⟨(some 15),.op (.nextS (.t 14)),none⟩,
    ⟨(some 16),.op (.ext (.t 15) 0),none⟩])
  (.seq (.cond (.t 16) (.skip) (.exit 0))
  (.blk 1 (.seq (.reg false [⟨(some 17),.op (.ext (.t 15) 1),none⟩,
    ⟨(some 18),.op (.ext (.t 15) 2),none⟩,
    ⟨(some 7),.op (.mov (.t 17)),none⟩,
    ⟨(some 8),.op (.mov (.t 18)),none⟩])
  (.seq (.reg false [⟨(some 19),.op (.mov (.t 1)),none⟩,
    ⟨(some 20),.op (.mov (.t 8)),none⟩,
    ⟨(some 21),.callV (.t 19) [(.t 20)],none⟩])
  (.cond (.t 21) (.seq (.reg false [⟨(some 22),.op (.mov (.t 6)),none⟩,
    ⟨(some 23),.op (.bin .geq (.t 22) (.c (.i .i64 0))),none⟩])
  (.cond (.t 23) (.seq (.reg false [⟨(some 24),.op (.mov (.t 5)),none⟩,
    ⟨(some 25),.op (.mov (.t 6)),none⟩,
    ⟨(some 26),.op (.mov (.t 7)),none⟩,
    ⟨(some 27),.op (.build [.i .i64 0,.i .i64 0] [(0,1,(.t 25)),(1,1,(.t 26))]),none⟩,
    ⟨(some 28),.op (.buildS 1 [.i .i64 0,.i .i64 0] [(0,2,(.t 27))]),none⟩,
    ⟨(some 29),.op (.app 2 16 true (.t 24) (.t 28)),none⟩,
    ⟨(some 5),.op (.mov (.t 29)),none⟩])
  (.reg false [⟨(some 30),.op (.mov (.t 6)),none⟩,
    ⟨(some 31),.op (.un .xor (.t 30)),none⟩,
    ⟨(some 6),.op (.mov (.t 31)),none⟩])) (.skip))) (.seq (.reg false [⟨(some 32),.op (.mov (.t 6)),none⟩,
    ⟨(some 33),.op (.bin .lss (.t 32) (.c (.i .i64 0))),none⟩])
  (.cond (.t 33) (.reg false [⟨(some 34),.op (.mov (.t 7)),none⟩,
    ⟨(some 6),.op (.mov (.t 34)),none⟩]) (.skip))))))))))))
  (.cut (xw)))))⟩
theorem qdk {sp:List (Nat × Nat)} {j:Nat} {q:Nat × Nat} (hq:sp[j]? = some q) (z:List AV):((wV sp ++ z).drop (j * 2)).take 2 = qe2 q:=by
  obtain ⟨hj,_⟩:=List.getElem?_eq_some_iff.1 hq
  rw [List.drop_append_of_le_length (by rw [xH]; omega),List.take_append_of_le_length (by rw [List.length_drop,xH]; omega)]
  exact jR qdv hq
def qba (l:List UInt8) (sp:List (Nat × Nat)) (j:Nat):List AV:=(sp.take j).map (fun q=>.s (xW l q)) ++ List.replicate (sp.length - j) (.s [])
theorem qe8 {l:List UInt8} {sp:List (Nat × Nat)} {j:Nat} (hj:j ≤ sp.length):(qba l sp j).length = sp.length:=by
  simp [qba]; omega
theorem qh1 {l:List UInt8} {sp:List (Nat × Nat)} {j:Nat}:qC (qba l sp j) = true:=by
  rw [qba,qT,Qe (fun _=>rfl),qcK rfl]; rfl
theorem qiL {l:List UInt8} {sp:List (Nat × Nat)} {j:Nat} {q:Nat × Nat} (hq:sp[j]? = some q):(qba l sp j).take j ++ .s (xW l q) :: (qba l sp j).drop (j + 1) = qba l sp (j + 1):=by
  obtain ⟨hj,_⟩:=List.getElem?_eq_some_iff.1 hq
  have h1:((sp.take j).map fun q=>AV.s (xW l q)).length = j:=by simp; omega
  obtain ⟨m,hm⟩:∃ m,sp.length - j = m + 1:=⟨sp.length - j - 1,by omega⟩
  have h2:sp.length - (j + 1) = m:=by omega
  unfold qba
  rw [List.take_left' h1,List.take_add_one,hq,List.drop_append,h1,List.drop_eq_nil_of_le (by omega),hm,h2]
  simp [List.replicate_succ]
theorem qjb {l:List UInt8} {sp:List (Nat × Nat)}:qba l sp sp.length = (sp.map (xW l)).map .s:=by
  simp [qba,List.map_map,Function.comp_def]
theorem qng (l:List UInt8) (sp:List (Nat × Nat)) (hn:sp.length ≤ 1000001) (hsp:∀ q ∈ sp,q.1 ≤ q.2 ∧ q.2 ≤ l.length):S P 0 xp (kc [.tmp 4] (fun v' h'=>Frz h' v' (.fz sp.length ((sp.map (xW l)).map .s)))) (mkT [(0,.s l),(5,vd sp)]) (mkH 0 [vg sp]):=by
  refine qy ?_
  simp only [xp,qm,H0,mkT,mkH,trL,vI,simprocAttr]
  have e1:sp.length ≤ qi:=by unfold qi; omega
  have e2:16 * sp.length ≤ qi:=by unfold qi; omega
  by_cases h32:sp.length ≤ 32
  all_goals
    simp only [↓vS,vT,shb,shv,qb,qc,cellsOf,wr,qa,simprocAttr,vd,vg,h32,e1,e2,qkS]
    refine SL.loop (α:=Nat) (fun j=>[(0,.s l),(9,.sl 1 0 sp.length sp.length false),(47,vd sp),(48,.i .i64 sp.length),(49,.i .i64 j)]) (fun j=>[vg sp,.cells 0 true false (qba l sp j)]) (fun j=>j ≤ sp.length) (fun j=>sp.length - j) 0 [0,1] ?_ ?_ ?_ rfl ?_ ?_
    · simp [vw,vd,h32]
    · simp [vw,vg,h32,qe,xb,jN,qT,qcK (v:=AV.s []) rfl,qba]
    · simp
    · simp
    intro j hj G ih
    simp only [qm,H0,mkT,mkH,trL,vI,simprocAttr]
    by_cases hlt:j < sp.length
    · obtain ⟨q,hq⟩:∃ q,sp[j]? = some q:=⟨_,List.getElem?_eq_getElem hlt⟩
      obtain ⟨hq1,hq2⟩:=hsp q (List.mem_of_getElem? hq)
      have he:=qdk hq (ky (64 - sp.length * 2))
      have he':=qdk hq []
      rw [List.append_nil] at he'
      have hl1:j * 2 + 2 ≤ (wV sp ++ ky (64 - sp.length * 2)).length:=by rw [List.length_append,xH]; omega
      have hl2:j * 2 + 2 ≤ (wV sp).length:=by rw [xH]; omega
      have hl3:j + 1 ≤ (qba l sp j).length:=by rw [qe8 hj]; omega
      have hw:IntKind.wrap .i64 ((j:Int) + 1) = (j:Int) + 1:=qE (by omega) (by omega)
      have hput:=qiL (l:=l) hq
      simp only [xW] at hput
      simp only [↓vS,vT,shb,shv,qb,qc,cellsOf,wr,qa,simprocAttr,hlt,vd,vg,h32,hl1,hl2,hl3,he,he',qe2,hq1,hq2,Nat.mul_one,hput,hw]
      refine ih (j + 1) hlt (by omega) _ _ (Wk.mk _ _ [0,1] ?_ ?_ ?_ rfl)
      · simp [vw,vd,h32]
      · simp [vw,vg,h32,qe,xb,jN,qT,qh1]
      · simp
    · have hje:j = sp.length:=by omega
      subst hje
      simp only [↓vS,vT,shb,shv,qb,qc,cellsOf,wr,qa,simprocAttr,hlt]
      refine Frz.cut 1 rfl (Nat.le_refl _) ?_
      have h1:(qba l sp sp.length).take sp.length = (sp.map (xW l)).map .s:=by rw [qjb,List.take_of_length_le (by simp)]
      simp [vw,qe8,h1,qF,Qe,clo]
theorem qgK {acc:List (Nat × Nat)} (h31:acc.length + 1 ≤ 32) (x y:Nat):(wV acc ++ ky (64 - acc.length * 2)).take (acc.length * 2) ++ AV.i .i64 (x:Int) :: AV.i .i64 (y:Int) :: (wV acc ++ ky (64 - acc.length * 2)).drop (acc.length * 2 + 2) = wV (acc ++ [(x,y)]) ++ ky (64 - (acc.length + 1) * 2):=by
  rw [List.take_left' (xH acc),List.drop_append,xH,List.drop_eq_nil_of_le (by rw [xH]; omega),qfQ,ya]
  rw [show 64 - acc.length * 2 - (acc.length * 2 + 2 - acc.length * 2) = 64 - (acc.length + 1) * 2 from by omega]
  simp
theorem qe0 (acc:List (Nat × Nat)) (z:List AV):(wV acc ++ z).take (acc.length * 2) = wV acc:=List.take_left' (xH acc)
theorem qb2 {acc:List (Nat × Nat)} (h32:acc.length ≤ 32):(wV acc ++ ky (64 - acc.length * 2)).length = 64:=by rw [List.length_append,xH,qh9]; omega
def qjh (l:List UInt8) (st:Option Nat) (acc:List (Nat × Nat)):List (Nat × Nat):=match st with | some s=>acc ++ [(s,l.length)] | none=>acc
theorem qry (l:List UInt8) (hl:l.length ≤ 1000000) (st:Option Nat) (acc:List (Nat × Nat)) (z:Int) (i:Nat) (hz:qiE l st z i) (hn:acc.length ≤ 1000000) (hsp:∀ q ∈ acc,q.1 ≤ q.2 ∧ q.2 ≤ l.length) :
    S P 0 xw (kc [.tmp 4] (fun v' h'=>Frz h' v' (.fz (qjh l st acc).length (((qjh l st acc).map (xW l)).map .s)))) (mkT [(0,.s l),(5,vd acc),(6,.i .i64 z)]) (mkH 0 [vg acc]):=by
  refine qy ?_
  simp only [xw,qm,H0,mkT,mkH,trL,vI,simprocAttr]
  cases st with
  | none =>
    have hz1:¬ 0 ≤ z:=by have:z < 0:=hz; omega
    simp only [↓vS,vT,shb,shv,qb,qc,cellsOf,wr,qa,simprocAttr,hz1]
    refine S.weak (Wk.mk _ _ [0] ?_ ?_ ?_ rfl) (qng l acc (by omega) hsp)
    · simp [vw,vd]
      split <;> simp [vw]
    · simp [vw,vg]
      split <;> simp [vw,qe,xb,jN,qT]
    · simp
  | some s =>
    obtain ⟨rfl,hs1,hs2⟩:=hz
    have hz1:(0:Int) ≤ s:=by omega
    have hsp':∀ q ∈ acc ++ [(s,l.length)],q.1 ≤ q.2 ∧ q.2 ≤ l.length:=by
      intro q hq
      rcases List.mem_append.1 hq with hq | hq
      · exact hsp q hq
      · simp at hq; subst hq; exact ⟨by dsimp only; omega,Nat.le_refl _⟩
    have ht:=qng (P:=P) l (acc ++ [(s,l.length)]) (by simp; omega) hsp'
    have r1:acc.length + 1 ≤ qi:=by unfold qi; omega
    have r2:(acc.length + 1) * 16 ≤ qi:=by unfold qi; omega
    by_cases h32:acc.length ≤ 32
    · by_cases h31:acc.length + 1 ≤ 32
      · have hb:acc.length * 2 + 2 ≤ 64:=by omega
        simp only [↓vS,vT,shb,shv,qb,qc,cellsOf,wr,qa,simprocAttr,hz1,vd,vg,h32,h31,qb2 h32,hb,qgK h31]
        refine S.weak (Wk.mk _ _ [0] ?_ ?_ ?_ rfl) ht
        · simp [vw,vd,h31]
        · simp [vw,vg,h31,qe,xb,jN,qT]
        · simp
      · have hb:acc.length * 2 ≤ 64:=by omega
        simp only [↓vS,vT,shb,shv,qb,qc,cellsOf,wr,qa,simprocAttr,hz1,vd,vg,h32,h31,qb2 h32,hb,qe0,r1,r2]
        refine S.weak (Wk.mk _ _ [2] ?_ ?_ ?_ rfl) ht
        · simp [vw,vd,h31]
        · simp [vw,vg,h31,qe,xb,ya,qT,qC,clo]
        · simp
    · have h31:¬ acc.length + 1 ≤ 32:=by omega
      simp only [↓vS,vT,shb,shv,qb,qc,cellsOf,wr,qa,simprocAttr,hz1,vd,vg,h32,xH,r1,r2]
      refine S.weak (Wk.mk _ _ [2] ?_ ?_ ?_ rfl) ht
      · simp [vw,vd,h31]
      · simp [vw,vg,h31,qe,xb,ya,qT,qC,clo]
      · simp
theorem qeV (hc:qh P f xV = true) {g:Nat} {p:Int → Bool} (hg:qnd P g p) (l:List UInt8) (hl:l.length ≤ 1000000):qg P f [.s l,.fn g [] []] (.fz (qal p l).length ((qal p l).map .s)):=by
  refine qg.mk hc (by simp [qC,clo]) ?_
  simp only [xV,qm,H0,mkT,mkH,trL,vI,simprocAttr]
  simp only [↓vS,vT,shb,shv,qb,qc,cellsOf,wr,qa,simprocAttr,qi]
  refine SL.loop (α:=St) (stT l g) (stB l) (StI p l) (fun a=>l.length - a.i) ⟨0,none,[],-1⟩ [0,1] ?_ ?_ ?_ rfl ?_ ?_
  · simp [vw,stT,stB,vd]
  · simp [vw,stB,vg,wV,ky]
  · simp
  · exact ⟨by simp [qiE],by decide,by simp,by simp,by simp,rfl⟩
  rintro ⟨i,st,acc,z⟩ ⟨hz,hlo,hn,hm,hsp,heq⟩ G ih
  dsimp only at hz hlo hn hm hsp heq ih ⊢
  simp only [stT,stB,qm,H0,mkT,mkH,trL,vI,simprocAttr]
  by_cases hi:i < l.length
  · simp only [↓vS,vT,shb,shv,qb,qc,cellsOf,wr,qa,simprocAttr,hi]
    refine (hg _).sc ?_
    have hw:=qfR l i
    have hs:qaK p l i st acc = qaK p l (i + (xv l i).2) (jm (p (xv l i).1) st i) (wi (p (xv l i).1) st i acc):=by rw [qaK,if_pos hi]
    rw [hs] at heq
    clear hs
    generalize xv l i = rn at *
    obtain ⟨r,w⟩:=rn
    dsimp only at heq hw ⊢
    have keep:∀ (st':Option Nat) (z':Int) (t':Tr AV),qiE l st' z' (i + w) → -1000001 ≤ z' → qaK p l (i + w) st' acc = qaK p l 0 none [] → t'.get 0 = some (.s l) → t'.get 1 = some (.fn g [] []) → t'.get 5 = some (vd acc) → t'.get 6 = some (.i .i64 z') → t'.get 14 = some (.ptr 1 0) →
        G t' ⟨2,0,((Tr.leaf.set 0 (vg acc)).set 1 (.map (xd l i))).set 1 (.map (xd l (i + w)))⟩:=by
      intro st' z' t' h1 h2 h3 g0 g1 g5 g6 g14
      refine ih ⟨i + w,st',acc,z'⟩ ⟨h1,h2,by dsimp only; omega,hm,hsp,h3⟩ (by dsimp only; omega) _ _ (Wk.mk _ _ [0,1] ?_ ?_ ?_ rfl)
      · simp [vw,stT,stB,g0,g1,g5,g6,g14,vd]
        split <;> simp [vw]
      · simp [vw,stB,vg]
        split <;> simp [vw,qe,xb,jN,qT]
      · simp
    cases hpc:p (r:Int) with
    | false =>
      rw [hpc] at heq
      cases st with
      | some s =>
        obtain ⟨rfl,hs1,hs2⟩:=hz
        have hz1:¬ ((s:Int) < 0):=by omega
        simp only [↓vS,vT,shb,shv,qb,qc,cellsOf,wr,qa,simprocAttr,hz1]
        exact keep (some s) s _ ⟨rfl,by omega,hs2⟩ hlo (by simpa [jm,wi] using heq) (by simp [Tr.get_set]) (by simp [Tr.get_set]) (by simp [Tr.get_set]) (by simp [Tr.get_set]) (by simp [Tr.get_set])
      | none =>
        have hz1:z < 0:=hz
        simp only [↓vS,vT,shb,shv,qb,qc,cellsOf,wr,qa,simprocAttr,hz1]
        exact keep (some i) i _ ⟨rfl,by omega,hi⟩ (by omega) (by simpa [jm,wi] using heq) (by simp [Tr.get_set]) (by simp [Tr.get_set]) (by simp [Tr.get_set]) (by simp [Tr.get_set]) (by simp [Tr.get_set])
    | true =>
      rw [hpc] at heq
      cases st with
      | none =>
        have hz1:¬ 0 ≤ z:=by have:z < 0:=hz; omega
        simp only [↓vS,vT,shb,shv,qb,qc,cellsOf,wr,qa,simprocAttr,hz1]
        exact keep none z _ hz hlo (by simpa [jm,wi] using heq) (by simp [Tr.get_set]) (by simp [Tr.get_set]) (by simp [Tr.get_set]) (by simp [Tr.get_set]) (by simp [Tr.get_set])
      | some s =>
        obtain ⟨rfl,hs1,hs2⟩:=hz
        have hz1:(0:Int) ≤ s:=by omega
        have hx:∀ k:AV → Prop,vh .xor (.i .i64 (s:Int)) k ↔ evA (.i .i64 (-1 - (s:Int))) k:=fun k=>qnX (by omega)
        have hsp':∀ q ∈ acc ++ [(s,i)],q.1 ≤ q.2 ∧ q.2 ≤ l.length:=by
          intro q hq
          rcases List.mem_append.1 hq with hq | hq
          · exact hsp q hq
          · simp at hq; subst hq; exact ⟨hs1,Nat.le_of_lt hi⟩
        have hI:StI p l ⟨i + w,none,acc ++ [(s,i)],-1 - (s:Int)⟩:=⟨by simp only [qiE]; omega,by dsimp only; omega,by simp; omega,by simp; omega,hsp',by simpa [jm,wi] using heq⟩
        have r1:acc.length + 1 ≤ qi:=by unfold qi; omega
        have r2:(acc.length + 1) * 16 ≤ qi:=by unfold qi; omega
        by_cases h32:acc.length ≤ 32
        · by_cases h31:acc.length + 1 ≤ 32
          · have hb:acc.length * 2 + 2 ≤ 64:=by omega
            simp only [↓vS,vT,shb,shv,qb,qc,cellsOf,wr,qa,simprocAttr,hz1,vd,vg,h32,h31,qb2 h32,hb,qgK h31,hx]
            refine ih _ hI (by dsimp only; omega) _ _ (Wk.mk _ _ [0,1] ?_ ?_ ?_ rfl)
            · simp [vw,stT,stB,vd,h31]
            · simp [vw,stB,vg,h31,qe,xb,jN,qT]
            · simp
          · have hb:acc.length * 2 ≤ 64:=by omega
            simp only [↓vS,vT,shb,shv,qb,qc,cellsOf,wr,qa,simprocAttr,hz1,vd,vg,h32,h31,qb2 h32,hb,qe0,r1,r2,hx]
            refine ih _ hI (by dsimp only; omega) _ _ (Wk.mk _ _ [3,1] ?_ ?_ ?_ rfl)
            · simp [vw,stT,stB,vd,h31]
            · simp [vw,stB,vg,h31,qe,xb,ya,qT,qC,clo]
            · simp
        · have h31:¬ acc.length + 1 ≤ 32:=by omega
          simp only [↓vS,vT,shb,shv,qb,qc,cellsOf,wr,qa,simprocAttr,hz1,vd,vg,h32,xH,r1,r2,hx]
          refine ih _ hI (by dsimp only; omega) _ _ (Wk.mk _ _ [3,1] ?_ ?_ ?_ rfl)
          · simp [vw,stT,stB,vd,h31]
          · simp [vw,stB,vg,h31,qe,xb,ya,qT,qC,clo]
          · simp
  · simp only [↓vS,vT,shb,shv,qb,qc,cellsOf,wr,qa,simprocAttr,hi]
    have hs:qaK p l i st acc = (acc,st):=by rw [qaK,if_neg hi]
    have he:qal p l = (qjh l st acc).map (xW l):=by
      unfold qal qm1
      rw [← heq,hs]
      cases st <;> rfl
    rw [he,List.length_map]
    refine S.weak (Wk.mk _ _ [0] ?_ ?_ ?_ rfl) (qry l hl st acc z i hz (by omega) hsp)
    · simp [vw,vd]
      split <;> simp [vw]
    · simp [vw,vg]
      split <;> simp [vw,qe,xb,jN,qT]
    · simp
end Go.Kc
end
section
/- What values.Words answers. Condition: the functions' texts are these. -/
namespace Go.Kc
variable {P:Program} {f:Nat}
def spc (c:Int):Bool:=decide (c = 32) || decide (c = 9) || decide (c = 13)
def wj:IFn:=⟨[.tmp 2],
  .seq (.reg false [⟨(some 2),.op (.mov (.c (.b false))),none⟩])
  (.seq (.reg false [⟨(some 3),.op (.mov (.t 0)),none⟩,
    ⟨(some 4),.op (.bin .eql (.t 3) (.c (.i .i32 32))),none⟩,
    ⟨(some 5),.op (.mov (.t 4)),none⟩,
    ⟨(some 6),.op (.mov (.t 0)),(some (5,false))⟩,
    ⟨(some 7),.op (.bin .eql (.t 6) (.c (.i .i32 9))),(some (5,false))⟩,
    ⟨(some 8),.op (.pick (.t 5) (.c (.b true)) (.t 7)),none⟩,
    ⟨(some 9),.op (.mov (.t 8)),none⟩,
    ⟨(some 10),.op (.mov (.t 0)),(some (9,false))⟩,
    ⟨(some 11),.op (.bin .eql (.t 10) (.c (.i .i32 13))),(some (9,false))⟩,
    ⟨(some 12),.op (.pick (.t 9) (.c (.b true)) (.t 11)),none⟩,
    ⟨(some 2),.op (.mov (.t 12)),none⟩])
  (.ret))⟩
theorem qgh (hc:qh P f wj = true):qnd P f spc:=by
  intro c
  refine qg.mk hc (by simp [qC,clo]) ?_
  simp only [wj,qm,H0,mkT,mkH,trL,vI,simprocAttr]
  by_cases h1:c = 32
  · simp only [↓vS,vT,shb,shv,qb,qc,cellsOf,wr,qa,simprocAttr,h1,spc,vZ,Bool.true_or]
  · by_cases h2:c = 9
    · simp only [↓vS,vT,shb,shv,qb,qc,cellsOf,wr,qa,simprocAttr,h2,spc,vZ,Bool.true_or,Bool.or_true,Int.reduceEq]
    · by_cases h3:c = 13
      · simp only [↓vS,vT,shb,shv,qb,qc,cellsOf,wr,qa,simprocAttr,h3,spc,vZ,Bool.or_true,Int.reduceEq]
      · simp only [↓vS,vT,shb,shv,qb,qc,cellsOf,wr,qa,simprocAttr,h1,h2,h3,spc,vZ,Bool.or_self]
def va (f_strings_FieldsFunc f_values_Words_1:Nat):IFn:=⟨[.tmp 2],
  .seq (.reg false [⟨(some 2),.op (.mov (.c (.nils))),none⟩])
  (.seq (.reg false [⟨(some 3),.op (.mov (.t 0)),none⟩,
    ⟨(some 4),.callF f_strings_FieldsFunc [(.t 3),(.c (.fn f_values_Words_1 [] []))],none⟩,
    ⟨(some 2),.op (.mov (.t 4)),none⟩])
  (.ret))⟩
def qt (l:List UInt8):List (List UInt8):=qal spc l
def qeh (P:Program) (g:Nat):Prop:=∀ l:List UInt8,l.length ≤ 1000000 → qg P g [.s l] (.fz (qt l).length ((qt l).map .s))
theorem qfz {g1 g2:Nat} (hc:qh P f (va g1 g2) = true) (h1:∀ l:List UInt8,l.length ≤ 1000000 → qg P g1 [.s l,.fn g2 [] []] (.fz (qal spc l).length ((qal spc l).map .s))):qeh P f:=by
  intro l hl
  refine qg.mk hc (by simp [qC,clo]) ?_
  simp only [va,qm,H0,mkT,mkH,trL,vI,simprocAttr]
  simp only [↓vS,vT,shb,shv,qb,qc,cellsOf,wr,qa,simprocAttr]
  refine (h1 l hl).sc ?_
  simp only [↓vS,vT,shb,shv,qb,qc,cellsOf,wr,qa,simprocAttr,vZ,qt,and_self]
end Go.Kc
end
section
/- Words, byte by byte. No condition. -/
namespace Go.Kc
def qat (c:UInt8):Bool:=decide (c = 32) || decide (c = 9) || decide (c = 13)
theorem qcs (c:UInt8):qat c = spc (c.toNat:Int):=by
  have h1:(c = 32) ↔ (c.toNat:Int) = 32:=by rw [← UInt8.toNat_inj]; simp; omega
  have h2:(c = 9) ↔ (c.toNat:Int) = 9:=by rw [← UInt8.toNat_inj]; simp; omega
  have h3:(c = 13) ↔ (c.toNat:Int) = 13:=by rw [← UInt8.toNat_inj]; simp; omega
  unfold qat spc
  simp only [h1,h2,h3]
theorem qgt {n:Nat} (h:128 ≤ n):spc (n:Int) = false:=by
  unfold spc
  have h1:¬ (n:Int) = 32:=by omega
  have h2:¬ (n:Int) = 9:=by omega
  have h3:¬ (n:Int) = 13:=by omega
  simp [h1,h2,h3]
theorem qeY {c:UInt8} (h:128 ≤ c.toNat):qat c = false:=by rw [qcs]; exact qgt h
theorem qj9 {l:List UInt8} {i:Nat} (hi:i < l.length) (hb:¬ l[i].toNat < 128):128 ≤ (xv l i).1 ∧ i + (xv l i).2 ≤ l.length ∧ ∀ k,i ≤ k → k < i + (xv l i).2 → ∀ c,l[k]? = some c → qat c = false:=by
  have hget:∀ k (hk:k < l.length),((⟨l.toArray⟩:ByteArray).get! k) = l[k]:=by
    intro k hk
    show l.toArray[k]! = l[k]
    simp [hk]
  have hs:(⟨l.toArray⟩:ByteArray).size = l.length:=by simp [ByteArray.size]
  have big:∀ k,k < l.length → ((⟨l.toArray⟩:ByteArray).get! k).toNat / 64 = 2 → ∀ c,l[k]? = some c → qat c = false:=by
    intro k hk h c hc
    rw [hget k hk] at h
    obtain ⟨_,rfl⟩:=List.getElem?_eq_some_iff.1 hc
    exact qeY (by omega)
  have b0:∀ c,l[i]? = some c → qat c = false:=by
    intro c hc
    obtain ⟨_,rfl⟩:=List.getElem?_eq_some_iff.1 hc
    exact qeY (by omega)
  have one:∀ k,i ≤ k → k < i + 1 → ∀ c,l[k]? = some c → qat c = false:=by
    intro k h1 h2 c hc
    obtain rfl:k = i:=by omega
    exact b0 c hc
  unfold xv Utf8.decode
  dsimp only
  simp only [Nat.add_zero,hget i hi,hs,Bool.and_eq_true,decide_eq_true_eq,beq_iff_eq]
  rw [if_neg hb]
  split
  · rename_i h
    split
    · rename_i hc
      refine ⟨hc,by omega,fun k h1 h2 c hcc=>?_⟩
      rcases Nat.lt_or_eq_of_le h1 with h3 | h3
      · obtain rfl:k = i + 1:=by omega
        exact big _ h.2.1 h.2.2 c hcc
      · subst h3; exact b0 c hcc
    · exact ⟨by simp [Utf8.runeError],by omega,one⟩
  · split
    · rename_i h
      split
      · rename_i hc
        refine ⟨by have:=hc.1; omega,by omega,fun k h1 h2 c hcc=>?_⟩
        have h3:k = i ∨ k = i + 1 ∨ k = i + 2:=by omega
        rcases h3 with rfl | rfl | rfl
        · exact b0 c hcc
        · exact big _ h.1.2.1 h.1.2.2 c hcc
        · exact big _ h.2.1 h.2.2 c hcc
      · exact ⟨by simp [Utf8.runeError],by omega,one⟩
    · split
      · rename_i h
        split
        · rename_i hc
          refine ⟨by have:=hc.1; omega,by omega,fun k h1 h2 c hcc=>?_⟩
          have h3:k = i ∨ k = i + 1 ∨ k = i + 2 ∨ k = i + 3:=by omega
          rcases h3 with rfl | rfl | rfl | rfl
          · exact b0 c hcc
          · exact big _ h.1.1.2.1 h.1.1.2.2 c hcc
          · exact big _ h.1.2.1 h.1.2.2 c hcc
          · exact big _ h.2.1 h.2.2 c hcc
        · exact ⟨by simp [Utf8.runeError],by omega,one⟩
      · exact ⟨by simp [Utf8.runeError],by omega,one⟩
def wB:List UInt8 → List UInt8 → List (List UInt8)
  | [],cur=>if cur = [] then [] else [cur]
  | c :: cs,cur=>if qat c = true then (if cur = [] then wB cs [] else cur :: wB cs []) else wB cs (cur ++ [c])
theorem qgF (cs:List UInt8):∀ (ds cur:List UInt8),(∀ c ∈ ds,qat c = false) → wB (ds ++ cs) cur = wB cs (cur ++ ds)
  | [],cur,_=>by simp
  | d :: ds,cur,h=>by
    have h1:=h d (by simp)
    simp only [List.cons_append,wB,h1,Bool.false_eq_true,if_false]
    rw [qgF cs ds _ (fun c hc=>h c (by simp [hc]))]
    simp
theorem qdY {l:List UInt8} {s i j:Nat} (h1:s ≤ i) (h2:i ≤ j) (h3:j ≤ l.length):(l.take j).drop s = (l.take i).drop s ++ (l.take j).drop i:=by
  have e:l.take j = l.take i ++ (l.take j).drop i:=by
    have:=List.take_append_drop i (l.take j)
    rw [List.take_take,Nat.min_eq_left h2] at this
    exact this.symm
  conv=>lhs; rw [e]
  rw [List.drop_append_of_le_length (by simp; omega)]
def qac (l:List UInt8) (st:Option Nat) (i:Nat):List UInt8:=match st with | some s=>(l.take i).drop s | none=>[]
theorem qlz (l:List UInt8):∀ (m i:Nat) (st:Option Nat) (acc:List (Nat × Nat)),l.length - i = m → i ≤ l.length → (∀ s,st = some s → s < i) →
    (match qaK spc l i st acc with | (acc,some s)=>acc ++ [(s,l.length)] | (acc,none)=>acc).map (xW l) = acc.map (xW l) ++ wB (l.drop i) (qac l st i):=by
  intro m
  induction m using Nat.strongRecOn with
  | ind m ih =>
    intro i st acc hm hi hst
    by_cases hlt:i < l.length
    · have hd : l.drop i = l[i] :: l.drop (i + 1):=List.drop_eq_getElem_cons hlt
      by_cases hb:l[i].toNat < 128
      · have hr : xv l i = (l[i].toNat,1):=yz (List.getElem?_eq_getElem hlt) hb
        have hsp:qat l[i] = spc (l[i].toNat:Int):=qcs _
        rw [qaK,if_pos hlt,hr]
        dsimp only
        rw [ih (l.length - (i + 1)) (by omega) (i + 1) _ _ rfl (by omega) ?_,hd,wB,hsp]
        · cases hc:spc (l[i].toNat:Int) with
          | true =>
            cases st with
            | none=>simp [wi,jm,qac]
            | some s =>
              have h1:=hst s rfl
              have h2:(l.take i).drop s ≠ []:=by
                intro hh
                have:=congrArg List.length hh
                simp at this; omega
              simp [wi,jm,qac,h2,xW]
          | false =>
            cases st with
            | none =>
              simp only [wi,jm,qac,Bool.false_eq_true,if_false,List.nil_append]
              congr 2
              rw [List.take_add_one,List.getElem?_eq_getElem hlt,List.drop_left' (by simp; omega)]; rfl
            | some s =>
              have h1:=hst s rfl
              simp only [wi,jm,qac,Bool.false_eq_true,if_false]
              congr 2
              rw [List.take_add_one,List.getElem?_eq_getElem hlt,List.drop_append_of_le_length (by simp; omega)]; rfl
        · intro s hs
          cases hc:spc (l[i].toNat:Int) with
          | true=>rw [hc] at hs; simp [jm] at hs
          | false =>
            rw [hc] at hs
            cases st with
            | none=>simp [jm] at hs; omega
            | some s'=>simp [jm] at hs; have:=hst s' rfl; omega
      · obtain ⟨h1,h2,h3⟩:=qj9 hlt hb
        have hw:=qfR l i
        have hc:spc ((xv l i).1:Int) = false:=qgt h1
        generalize hwd:(xv l i).2 = w at h2 h3 hw
        rw [qaK,if_pos hlt,hc,hwd,ih (l.length - (i + w)) (by omega) (i + w) _ _ rfl h2 ?_]
        · simp only [wi,Bool.false_eq_true,if_false]
          congr 1
          have e:l.drop i = (l.take (i + w)).drop i ++ l.drop (i + w):=by
            have:=List.take_append_drop (i + w) l
            conv=>lhs; rw [← this]
            rw [List.drop_append_of_le_length (by simp; omega)]
          rw [e,qgF]
          · congr 1
            cases st with
            | none=>simp [jm,qac]
            | some s =>
              have h1:=hst s rfl
              simp only [jm,qac,Bool.false_eq_true,if_false]
              exact qdY (by omega) (by omega) h2
          · intro c hcc
            obtain ⟨k,hk,rfl⟩:=List.getElem_of_mem hcc
            simp at hk
            refine h3 (i + k) (by omega) (by omega) _ ?_
            simp only [List.getElem_drop,List.getElem_take]
            exact List.getElem?_eq_getElem (by omega)
        · intro s hs
          cases st with
          | none=>simp [jm] at hs; omega
          | some s'=>simp [jm] at hs; have:=hst s' rfl; omega
    · have hil:i = l.length:=by omega
      rw [qaK,if_neg hlt,List.drop_of_length_le (by omega)]
      cases st with
      | none=>simp [wB,qac]
      | some s =>
        have h1:=hst s rfl
        have h2:(l.take i).drop s ≠ []:=by
          intro hh
          have:=congrArg List.length hh
          simp [List.length_drop,List.length_take] at this; omega
        simp only [wB,qac,if_neg h2]
        subst hil
        simp [xW,h1]
theorem qct (l:List UInt8):qt l = wB l []:=by
  have:=qlz l l.length 0 none [] rfl (Nat.zero_le _) (by simp)
  simp only [List.map_nil,List.nil_append,List.drop_zero,qac] at this
  exact this
theorem qfK:∀ (l cur:List UInt8),(wB l cur).length ≤ l.length + (if cur = [] then 0 else 1)
  | [],cur=>by simp only [wB]; split <;> simp
  | c :: cs,cur=>by
    have h1:=qfK cs []
    have h2:=qfK cs (cur ++ [c])
    simp only [wB]
    simp at h1 h2
    split
    · split
      · simp; omega
      · simp; omega
    · split <;> simp <;> omega
theorem qbl (l:List UInt8):(qt l).length ≤ l.length:=by
  rw [qct]; simpa using qfK l []
end Go.Kc
end
section
/- Rows of numbers, of strings. No condition. -/
namespace Go.Kc
def rI (k:IntKind) (l:List Int):List AV:=l.map (.i k)
section
variable {k:IntKind} {l m:List Int} {j:Nat}
theorem yw:(rI k l).length = l.length:=by simp [rI]
theorem qq:qC (rI k l) = true:=Qe fun _=>rfl
theorem qfo:qG (rI k l) = true:=qhv fun _=>rfl
theorem qjU:(rI k l)[j]? = (l[j]?).map (.i k):=by simp [rI]
theorem qbE:rI k [] = []:=rfl
end
def rS (l:List (List UInt8)):List AV:=l.map .s
section
variable {l m:List (List UInt8)} {j:Nat}
theorem qdO:(rS l).length = l.length:=by simp [rS]
theorem xj:qC (rS l) = true:=Qe fun _=>rfl
theorem qdV:(rS l)[j]? = (l[j]?).map .s:=by simp [rS]
theorem qd7:rS l ++ rS m = rS (l ++ m):=by simp [rS]
theorem qow:rS [] = []:=rfl
end
end Go.Kc
end
section
/- What searches by a function answer. Condition: the functions' texts are these. -/
namespace Go.Kc
variable {P:Program} {f:Nat}
def QG {α:Type} (p:α → Bool):List α → Nat → Int
  | [],_=>-1
  | x :: xs,j=>if p x = true then (j:Int) else QG p xs (j + 1)
theorem Qs {α:Type} (p:α → Bool):∀ (l:List α) (j:Nat),(QG p l j = -1 ∧ l.find? p = none) ∨ ∃ i x,QG p l j = ((j + i:Nat):Int) ∧ l[i]? = some x ∧ p x = true ∧ l.find? p = some x ∧ ∀ k y,k < i → l[k]? = some y → p y = false
  | [],j=>.inl ⟨rfl,rfl⟩
  | x :: xs,j=>by
    by_cases h:p x = true
    · refine .inr ⟨0,x,by simp [QG,h],rfl,h,by simp [h],fun k y hk=>by omega⟩
    · rcases Qs p xs (j + 1) with ⟨h1,h2⟩ | ⟨i,y,h1,h2,h3,h4,h5⟩
      · exact .inl ⟨by simp [QG,h,h1],by simp [h,h2]⟩
      · refine .inr ⟨i + 1,y,?_,by simpa using h2,h3,by simp [h,h4],?_⟩
        · rw [QG,if_neg h,h1]; omega
        · intro k z hk hz
          cases k with
          | zero=>simp at hz; subst hz; simpa using h
          | succ k=>exact h5 k z (by omega) (by simpa using hz)
def qcX (m:Nat) (P:Program) (f:Nat):Prop:=∀ {α:Type} (enc:α → List AV) (p:α → Bool) (g:Nat) (a c:List AV) (l:List α),(∀ x,(enc x).length = m) → qC a = true → qC c = true → l.length ≤ qi →
  (∀ x ∈ l,qg P g (a ++ ([.agg (enc x)] ++ c)) (.b (p x))) → qg P f [.fz l.length (l.flatMap enc),.fn g a c] (.i .i64 (QG p l 0))
def zf:IFn:=⟨[.tmp 4],
  .seq (.reg false [⟨(some 4),.op (.mov (.c (.i .i64 0))),none⟩])
  (.seq (.seq (.reg false [⟨(some 6),.op (.mov (.t 0)),none⟩,
    ⟨(some 7),.op (.len false (.t 6)),none⟩,
    ⟨(some 8),.op (.mov (.c (.i .i64 0))),none⟩])
  (.blk 0 (.loop (.seq (.reg false [⟨(some 9),.op (.bin .lss (.t 8) (.t 7)),none⟩])
  (.seq (.cond (.t 9) (.skip) (.exit 0))
  (.seq (.blk 1 (.seq (.reg false [⟨(some 10),.op (.mov (.t 8)),none⟩,
    ⟨(some 5),.op (.mov (.t 10)),none⟩])
  (.seq (.reg false [⟨(some 11),.op (.mov (.t 1)),none⟩,
    ⟨(some 12),.op (.mov (.t 0)),none⟩,
    ⟨(some 13),.op (.mov (.t 5)),none⟩,
    ⟨(some 14),.op (.iAddrS 7 (.t 12) (.t 13)),none⟩,
    ⟨(some 15),.op (.loadN 7 (.t 14)),none⟩,
    ⟨(some 16),.callV (.t 11) [(.t 15)],none⟩])
  (.cond (.t 16) (.seq (.reg false [⟨(some 17),.op (.mov (.t 5)),none⟩,
    ⟨(some 4),.op (.mov (.t 17)),none⟩])
  (.ret)) (.skip)))))
  (.reg false [⟨(some 18),.op (.bin .add (.t 8) (.c (.i .i64 1))),none⟩,
    ⟨(some 8),.op (.mov (.t 18)),none⟩])))))))
  (.seq (.reg false [⟨(some 4),.op (.mov (.c (.i .i64 (-1)))),none⟩])
  (.ret)))⟩
theorem qcD (hc:qh P f zf = true):qcX 7 P f:=by
  intro α enc p g a c l hlen ha hc' hl hp
  refine qg.mk hc (by simp [qC,clo,ha,hc']) ?_
  simp only [zf,qm,H0,mkT,mkH,trL,vI,simprocAttr]
  simp only [↓vS,vT,shb,shv,qb,qc,cellsOf,wr,qa,simprocAttr]
  refine SL.loop (α:=Nat) (fun j=>[(0,.fz l.length (l.flatMap enc)),(1,.fn g a c),(7,.i .i64 l.length),(8,.i .i64 j)]) (fun _=>[]) (fun j=>j ≤ l.length ∧ QG p l 0 = QG p (l.drop j) j) (fun j=>l.length - j) 0 [] ?_ ?_ ?_ rfl ?_ ?_
  · simp [vw,qe,ha,hc']
  · trivial
  · simp
  · simp
  rintro j ⟨hj,hI⟩ G ih
  simp only [qm,H0,mkT,mkH,trL,vI,simprocAttr]
  by_cases hlt:j < l.length
  · have hx:l[j]? = some l[j]:=List.getElem?_eq_getElem hlt
    have hw:IntKind.wrap .i64 ((j:Int) + 1) = (j:Int) + 1:=qE (by omega) (by have:=hl; simp only [qi] at this; omega)
    have he:=jR hlen hx
    have hb:j * 7 + 7 ≤ (l.flatMap enc).length:=by rw [jo hlen]; omega
    rw [List.drop_eq_getElem_cons hlt,QG] at hI
    simp only [↓vS,vT,shb,shv,qb,qc,cellsOf,wr,qa,simprocAttr,hlt,hb,he,hw]
    refine (hp l[j] (List.getElem_mem hlt)).sc ?_
    by_cases hpx:p l[j] = true
    · rw [if_pos hpx] at hI
      simp only [↓vS,vT,shb,shv,qb,qc,cellsOf,wr,qa,simprocAttr,hpx,vZ,hI]
    · rw [if_neg hpx] at hI
      simp only [↓vS,vT,shb,shv,qb,qc,cellsOf,wr,qa,simprocAttr,hpx,hw]
      refine ih (j + 1) ⟨by omega,hI⟩ (by omega) _ _ (Wk.mk _ _ [] ?_ ?_ ?_ rfl)
      · simp [vw,qe,ha,hc']
      · trivial
      · simp
  · simp only [↓vS,vT,shb,shv,qb,qc,cellsOf,wr,qa,simprocAttr,hlt]
    rw [List.drop_eq_nil_of_le (by omega)] at hI
    simp [hI,QG,vZ]
def zq:IFn:=⟨[.tmp 4],
  .seq (.reg false [⟨(some 4),.op (.mov (.c (.i .i64 0))),none⟩])
  (.seq (.seq (.reg false [⟨(some 6),.op (.mov (.t 0)),none⟩,
    ⟨(some 7),.op (.len false (.t 6)),none⟩,
    ⟨(some 8),.op (.mov (.c (.i .i64 0))),none⟩])
  (.blk 0 (.loop (.seq (.reg false [⟨(some 9),.op (.bin .lss (.t 8) (.t 7)),none⟩])
  (.seq (.cond (.t 9) (.skip) (.exit 0))
  (.seq (.blk 1 (.seq (.reg false [⟨(some 10),.op (.mov (.t 8)),none⟩,
    ⟨(some 5),.op (.mov (.t 10)),none⟩])
  (.seq (.reg false [⟨(some 11),.op (.mov (.t 1)),none⟩,
    ⟨(some 12),.op (.mov (.t 0)),none⟩,
    ⟨(some 13),.op (.mov (.t 5)),none⟩,
    ⟨(some 14),.op (.iAddrS 2 (.t 12) (.t 13)),none⟩,
    ⟨(some 15),.op (.loadN 2 (.t 14)),none⟩,
    ⟨(some 16),.callV (.t 11) [(.t 15)],none⟩])
  (.cond (.t 16) (.seq (.reg false [⟨(some 17),.op (.mov (.t 5)),none⟩,
    ⟨(some 4),.op (.mov (.t 17)),none⟩])
  (.ret)) (.skip)))))
  (.reg false [⟨(some 18),.op (.bin .add (.t 8) (.c (.i .i64 1))),none⟩,
    ⟨(some 8),.op (.mov (.t 18)),none⟩])))))))
  (.seq (.reg false [⟨(some 4),.op (.mov (.c (.i .i64 (-1)))),none⟩])
  (.ret)))⟩
theorem qaP (hc:qh P f zq = true):qcX 2 P f:=by
  intro α enc p g a c l hlen ha hc' hl hp
  refine qg.mk hc (by simp [qC,clo,ha,hc']) ?_
  simp only [zq,qm,H0,mkT,mkH,trL,vI,simprocAttr]
  simp only [↓vS,vT,shb,shv,qb,qc,cellsOf,wr,qa,simprocAttr]
  refine SL.loop (α:=Nat) (fun j=>[(0,.fz l.length (l.flatMap enc)),(1,.fn g a c),(7,.i .i64 l.length),(8,.i .i64 j)]) (fun _=>[]) (fun j=>j ≤ l.length ∧ QG p l 0 = QG p (l.drop j) j) (fun j=>l.length - j) 0 [] ?_ ?_ ?_ rfl ?_ ?_
  · simp [vw,qe,ha,hc']
  · trivial
  · simp
  · simp
  rintro j ⟨hj,hI⟩ G ih
  simp only [qm,H0,mkT,mkH,trL,vI,simprocAttr]
  by_cases hlt:j < l.length
  · have hx:l[j]? = some l[j]:=List.getElem?_eq_getElem hlt
    have hw:IntKind.wrap .i64 ((j:Int) + 1) = (j:Int) + 1:=qE (by omega) (by have:=hl; simp only [qi] at this; omega)
    have he:=jR hlen hx
    have hb:j * 2 + 2 ≤ (l.flatMap enc).length:=by rw [jo hlen]; omega
    rw [List.drop_eq_getElem_cons hlt,QG] at hI
    simp only [↓vS,vT,shb,shv,qb,qc,cellsOf,wr,qa,simprocAttr,hlt,hb,he,hw]
    refine (hp l[j] (List.getElem_mem hlt)).sc ?_
    by_cases hpx:p l[j] = true
    · rw [if_pos hpx] at hI
      simp only [↓vS,vT,shb,shv,qb,qc,cellsOf,wr,qa,simprocAttr,hpx,vZ,hI]
    · rw [if_neg hpx] at hI
      simp only [↓vS,vT,shb,shv,qb,qc,cellsOf,wr,qa,simprocAttr,hpx,hw]
      refine ih (j + 1) ⟨by omega,hI⟩ (by omega) _ _ (Wk.mk _ _ [] ?_ ?_ ?_ rfl)
      · simp [vw,qe,ha,hc']
      · trivial
      · simp
  · simp only [↓vS,vT,shb,shv,qb,qc,cellsOf,wr,qa,simprocAttr,hlt]
    rw [List.drop_eq_nil_of_le (by omega)] at hI
    simp [hI,QG,vZ]
end Go.Kc
end
section
/- What slices.DeleteFunc makes of a row of one's own. Condition: the functions' texts are these. -/
namespace Go.Kc
variable {P:Program} {f:Nat}
theorem qh8 {α:Type} {p:α → Bool} {l:List α} (h:QG p l 0 = -1):l.filter (fun x=>!p x) = l:=by
  rcases Qs p l 0 with ⟨_,h2⟩ | ⟨i,x,h1,_⟩
  · rw [List.filter_eq_self]
    intro x hx
    have:=List.find?_eq_none.1 h2 x hx
    simpa using this
  · rw [h1] at h; omega
end Go.Kc
end
