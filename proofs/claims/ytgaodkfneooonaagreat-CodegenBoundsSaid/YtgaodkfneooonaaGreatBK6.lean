/- Part 6 of the abstract machine and of the functions' walks. Conditions: with each theorem. -/
import Derived.Test.YtgaodkfneooonaaGreatBK5
import Derived.Laws.Externs
import Derived.Lib.Overlaps
import GoSem.ClaimChange
import Derived.ChangeArms
import Derived.ReadAgain
import Derived.ChangeOld
import Derived.ChangeBears
import Derived.OpenShut
import Derived.RecoverIn
import Derived.SizedLaws
import Derived.Lib.Join
import Derived.Below
set_option maxHeartbeats 4000000
set_option linter.unusedSectionVars false
set_option linter.unusedSimpArgs false
set_option linter.unusedVariables false
set_option linter.unnecessarySimpa false
section
namespace Go.Kc
variable {P:Program}

mutual
def fzv(b e:Nat)(cs:List AV):AV->AV
 | .own b' n=>if b'=b then .fz n (if n=0 then [] else cs) else .own b' n
 | .ptr b' o=>if b'=b then .pf cs o else .ptr b' o
 | .sl b' o n c l=>if b'=b then (if n<=c then .fz n ((cs.drop o).take (n*e)) else .undef) else .sl b' o n c l
 | .map b'=>if b'=b then .undef else .map b'
 | .yl b'=>if b'=b then .undef else .yl b'
 | .fn f x c=>.fn f (qcw b e cs x) (qcw b e cs c)
 | .ifc t v=>.ifc t (fzv b e cs v)
 | .agg l=>.agg (qcw b e cs l)
 | .tup l=>.tup (qcw b e cs l)
 | v=>v
def qcw(b e:Nat)(cs:List AV):List AV->List AV
 | []=>[]
 | v::vs=>fzv b e cs v::qcw b e cs vs
end
def fzE(b e:Nat)(cs:List AV)(es:List (AV×AV)):List (AV×AV):=es.map fun p=>(p.1,fzv b e cs p.2)
def fzB(b e:Nat)(cs:List AV):Blk->Blk
 | .cells k w a l=>.cells k w a (qcw b e cs l)
 | .dead=>.dead
 | .map es=>.map (fzE b e cs es)
theorem qjG{b e:Nat}{cs:List AV}:∀{vs:List AV} {j:Nat},(qcw b e cs vs)[j]?=(vs[j]?).map (fzv b e cs)
 | [],j=>by simp[qcw]
 | v::vs,0=>by simp[qcw]
 | v::vs,j+1=>by simpa[qcw] using qjG (vs:=vs) (j:=j)
theorem qar{b e:Nat}{cs:List AV}:∀{vs:List AV},(qcw b e cs vs).length=vs.length
 | []=>rfl
 | v::vs=>by simp[qcw,qar (vs:=vs)]
theorem qlE{b e:Nat}{cs:List AV}{v:AV}(hv:clo v=true):fzv b e cs v=v:=by
 refine AV.rec (motive_1:=fun v=>clo v=true->fzv b e cs v=v) (motive_2:=fun vs=>qu vs=true->qcw b e cs vs=vs) ?_ ?_ ?_ ?_ ?_ ?_ ?_ ?_ ?_ ?_ ?_ ?_ ?_ ?_ ?_ ?_ ?_ ?_ ?_ ?_ ?_ ?_ ?_ ?_ ?_ ?_ v hv
 all_goals first
  | (intros;rfl)
  | (intros;rename_i hh;simp[clo] at hh;done)
  | skip
 ·intro f a c h1 h2 hh;simp only[clo,Bool.and_eq_true] at hh;simp only[fzv,h1 hh.1,h2 hh.2]
 ·intro t v h1 hh;simp only[clo] at hh;simp only[fzv,h1 hh]
 ·intro cs h1 hh;simp only[clo] at hh;simp only[fzv,h1 hh]
 ·intro cs h1 hh;simp only[clo] at hh;simp only[fzv,h1 hh]
 ·intro v vs h1 h2 hh;simp only[qu,Bool.and_eq_true] at hh;simp only[qcw,h1 hh.1,h2 hh.2]
theorem qmQ{b e:Nat}{cs:List AV}:∀{vs:List AV},qu vs=true->qcw b e cs vs=vs
 | [],_=>rfl
 | v::vs,h=>by
  simp only[qu,Bool.and_eq_true] at h;simp only[qcw,qlE h.1,qmQ h.2]
theorem CRs.cut{φ:Nat->Option (Array Value)}:∀{cs:List AV} {vs:List Value} (o m:Nat),CRs σ0 φ cs (vs.take cs.length)->CRs σ0 φ ((cs.drop o).take m) ((vs.drop o).take ((cs.drop o).take m).length)
 | [],vs,o,m,h=>by simp;exact .nil
 | c::cs,[],o,m,h=>by simp at h;cases h
 | c::cs,v::vs,0,0,h=>by simp;exact .nil
 | c::cs,v::vs,0,m+1,h=>by
  simp only[List.length_cons,List.take_succ_cons] at h;cases h with
  | cons _ _ _ _ h1 h2 =>
   have:=CRs.cut 0 m h2;simp only[List.drop_zero] at this;simp only[List.drop_zero,List.take_succ_cons,List.length_cons];exact .cons _ _ _ _ h1 this
 | c::cs,v::vs,o+1,m,h=>by
  simp only[List.length_cons,List.take_succ_cons] at h;cases h with
  | cons _ _ _ _ h1 h2=>simpa using CRs.cut o m h2
def Ren.iced(ρ:Ren)(b k:Nat)(arr:Array Value):Ren:=⟨fun b'=>if b'=b then none else ρ b',⟨fun k'=>if k'=k then some ((tab k).getD arr) else ρ.frz k',fun k' a h=>by
 split
 ·subst k';rw[h];rfl
 ·exact ρ.frz.ok k' a h⟩,ρ.n⟩
mutual
theorem VR.iced{ρ:Ren}{b e:Nat}{cs:List AV}{L:Loc}{arr:Array Value}(hz:tab L.blk=none)(hL:∀L',ρ b=some L'->L'=L)(hf:∀k a,ρ.frz k=some a->(ρ.iced b L.blk arr).frz k=some a)
  (hs:CRs σ0 (ρ.iced b L.blk arr).frz cs ((arr.toList.drop L.off).take cs.length)):∀{v:AV} {x:Value},VR σ0 ρ v x->VR σ0 (ρ.iced b L.blk arr) (fzv b e cs v) x
 | _,_,.undef v=>.undef v
 | _,_,.b x=>.b x
 | _,_,.i k n=>.i k n
 | _,_,.s x=>.s x
 | _,_,.nilp=>.nilp
 | _,_,.ptr b' o L' h=>by
  simp only[fzv];split
  ·rename_i hb;subst hb;obtain rfl:=hL _ h;refine .pf o L'.off cs L'.blk arr (by simp[Ren.iced,hz]) hs
  ·rename_i hb;exact .ptr _ _ L' (by simp only[Ren.iced];rw[if_neg hb];exact h)
 | _,_,.nils=>.nils
 | _,_,.sl b' o n cap c l L' h hc=>by
  simp only[fzv];split
  ·rename_i hb;subst hb;obtain rfl:=hL _ h;split
   ·rename_i hn;refine .fz n (L'.off+o) c _ L'.blk arr (by omega) (by simp[Ren.iced,hz]) ?_;have:=CRs.cut o (n*e) hs;rw[List.drop_drop] at this;exact this
   ·exact .undef _
  ·rename_i hb;exact .sl _ _ _ _ _ _ L' (by simp only[Ren.iced];rw[if_neg hb];exact h) hc
 | _,_,.slz b' o x l L' h=>by
  simp only[fzv];split
  ·simp;exact .fz0 _
  ·rename_i hb;exact .slz _ _ _ _ L' (by simp only[Ren.iced];rw[if_neg hb];exact h)
 | _,_,.nilf=>.nilf
 | _,_,.fn f first cap first' cap' h1 h2=>.fn _ _ _ _ _ (VRs.iced hz hL hf hs h1) (VRs.iced hz hL hf hs h2)
 | _,_,.nili=>.nili
 | _,_,.ifc t v v' h=>.ifc _ _ _ (VR.iced hz hL hf hs h)
 | _,_,.agg l l' h=>.agg _ _ (VRs.iced hz hL hf hs h)
 | _,_,.tup l l' h=>.tup _ _ (VRs.iced hz hL hf hs h)
 | _,_,.nilm=>.nilm
 | _,_,.map b' L' h h0=>by
  simp only[fzv];split
  ·exact .undef _
  ·rename_i hb;exact .map _ L' (by simp only[Ren.iced];rw[if_neg hb];exact h) h0
 | _,_,.sym j=>.sym j
 | _,_,.fz n off c l k a hn h h2=>.fz n off c l k a hn (hf _ _ h) (h2.mono hf)
 | _,_,.fz0 a=>.fz0 a
 | _,_,.pf off base l k a h h2=>.pf off base l k a (hf _ _ h) (h2.mono hf)
 | _,_,.e0 a=>.e0 a
 | _,_,.nz a c=>.nz a c
 | _,_,.own0 b' a hb=>by
  simp only[fzv];split
  ·simp;exact .fz0 _
  ·exact .own0 _ _ hb
 | _,_,.yl b' L' h=>by
  simp only[fzv];split
  ·exact .undef _
  ·rename_i hb;exact .yl _ L' (by simp only[Ren.iced];rw[if_neg hb];exact h)
 | _,_,.own b' n c L' h hn hc=>by
  simp only[fzv];split
  ·rename_i hb;subst hb;obtain rfl:=hL _ h;split
   ·rename_i h0;subst h0;exact .fz 0 L'.off c [] L'.blk arr (by omega) (by simp[Ren.iced,hz]) (by simp;exact .nil)
   ·exact .fz n L'.off c cs L'.blk arr hn (by simp[Ren.iced,hz]) hs
  ·rename_i hb;exact .own _ _ _ L' (by simp only[Ren.iced];rw[if_neg hb];exact h) hn hc
theorem VRs.iced{ρ:Ren}{b e:Nat}{cs:List AV}{L:Loc}{arr:Array Value}(hz:tab L.blk=none)(hL:∀L',ρ b=some L'->L'=L)(hf:∀k a,ρ.frz k=some a->(ρ.iced b L.blk arr).frz k=some a)
  (hs:CRs σ0 (ρ.iced b L.blk arr).frz cs ((arr.toList.drop L.off).take cs.length)):∀{v:List AV} {x:List Value},VRs σ0 ρ v x->VRs σ0 (ρ.iced b L.blk arr) (qcw b e cs v) x
 | _,_,.nil=>.nil
 | _,_,.cons v vs v' vs' h h2=>.cons _ _ _ _ (VR.iced hz hL hf hs h) (VRs.iced hz hL hf hs h2)
end
mutual
theorem VR.iced0{ρ:Ren}{b e:Nat}{cs:List AV}(hL:ρ b=none):∀{v:AV} {x:Value},VR σ0 ρ v x->VR σ0 ρ (fzv b e cs v) x
 | _,_,.undef v=>.undef v
 | _,_,.b x=>.b x
 | _,_,.i k n=>.i k n
 | _,_,.s x=>.s x
 | _,_,.nilp=>.nilp
 | _,_,.ptr b' o L' h=>by
  simp only[fzv];split
  ·rename_i hb;subst hb;rw[hL] at h;cases h
  ·exact .ptr _ _ L' h
 | _,_,.nils=>.nils
 | _,_,.sl b' o n cap c l L' h hc=>by
  simp only[fzv];split
  ·rename_i hb;subst hb;rw[hL] at h;cases h
  ·exact .sl _ _ _ _ _ _ L' h hc
 | _,_,.slz b' o x l L' h=>by
  simp only[fzv];split
  ·simp;exact .fz0 _
  ·exact .slz _ _ _ _ L' h
 | _,_,.nilf=>.nilf
 | _,_,.fn f first cap first' cap' h1 h2=>.fn _ _ _ _ _ (VRs.iced0 hL h1) (VRs.iced0 hL h2)
 | _,_,.nili=>.nili
 | _,_,.ifc t v v' h=>.ifc _ _ _ (VR.iced0 hL h)
 | _,_,.agg l l' h=>.agg _ _ (VRs.iced0 hL h)
 | _,_,.tup l l' h=>.tup _ _ (VRs.iced0 hL h)
 | _,_,.nilm=>.nilm
 | _,_,.map b' L' h h0=>by
  simp only[fzv];split
  ·exact .undef _
  ·exact .map _ L' h h0
 | _,_,.sym j=>.sym j
 | _,_,.fz n off c l k a hn h h2=>.fz n off c l k a hn h h2
 | _,_,.fz0 a=>.fz0 a
 | _,_,.pf off base l k a h h2=>.pf off base l k a h h2
 | _,_,.e0 a=>.e0 a
 | _,_,.nz a c=>.nz a c
 | _,_,.own0 b' a hb=>by
  simp only[fzv];split
  ·simp;exact .fz0 _
  ·exact .own0 _ _ hb
 | _,_,.yl b' L' h=>by
  simp only[fzv];split
  ·exact .undef _
  ·exact .yl _ L' h
 | _,_,.own b' n c L' h hn hc=>by
  simp only[fzv];split
  ·rename_i hb;subst hb;rw[hL] at h;cases h
  ·exact .own _ _ _ L' h hn hc
theorem VRs.iced0{ρ:Ren}{b e:Nat}{cs:List AV}(hL:ρ b=none):∀{v:List AV} {x:List Value},VRs σ0 ρ v x->VRs σ0 ρ (qcw b e cs v) x
 | _,_,.nil=>.nil
 | _,_,.cons v vs v' vs' h h2=>.cons _ _ _ _ (VR.iced0 hL h) (VRs.iced0 hL h2)
end
def qxP(es:List (AV×AV)):Prop:=qc8 es∨∃r ts,es=zn r ts
theorem qoL{b e:Nat}{cs:List AV}:∀{es:List (AV×AV)},qc8 es->fzE b e cs es=es
 | [],_=>rfl
 | p::es,h=>by
  have h2:=qiK.1 h;show (p.1,fzv b e cs p.2)::fzE b e cs es=_;rw[qoL h2.2,qlE h2.1.2]
theorem qvK{b e:Nat}{cs:List AV}{r:Loop}{ts:List (Nat×AV)}:fzE b e cs (zn r ts)=zn r (ts.map fun p=>(p.1,fzv b e cs p.2)):=by simp[fzE,zn,fzv]
theorem qdY.ice{ρ ρ':Ren}{b e:Nat}{cs:List AV}(hv:∀{v:AV} {x:Value},VR σ0 ρ v x->VR σ0 ρ' (fzv b e cs v) x){es:List (AV×AV)}{o:Obj}(hm:qxP es)(h:qdY σ0 ρ es o):qdY σ0 ρ' (fzE b e cs es) o:=by
 rcases hm with hm|⟨r,ts,rfl⟩
 ·rw[qoL hm];have hv':∀{v:AV} {x:Value},clo v=true->VR σ0 ρ v x->VR σ0 ρ' v x:=fun hc h=>by have:=hv h;rwa [qlE hc] at this
  rcases h with⟨p1,vs,clk,p2,p3,p4⟩|p3|⟨r,_,ts,rfl,p2,_,p3⟩
  ·exact .inl ⟨p1,vs,clk,p2,p3,fun j e0 he=>let ⟨v,a1,a2,a3⟩:=p4 j e0 he
    ⟨v,a1,hv' (hm e0 (zzM he)).1 a2,hv' (hm e0 (zzM he)).2 a3⟩⟩
  ·exact .inr (.inl p3)
  ·exact absurd (hm (.lp r,.undef) (by simp[zn])).1 (by simp[clo])
 ·obtain⟨rq,p2,pk,p3⟩:=h.rec';rw[qvK];refine .inr (.inr ⟨r,rq,_,rfl,p2,pk,fun p hp=>?_⟩)
  obtain⟨q,hq,rfl⟩:=List.mem_map.1 hp;exact⟨(p3 q hq).1,hv (p3 q hq).2⟩
theorem Wk.freeze{n:Nat}{ts:List (Nat×AV)}{bl:List Blk}(b e e':Nat){a:Bool}{cs:List AV}(hb:bl[b]?=some (.cells e' true a cs))(hc:qu cs=true)(hn:n<=b)(hm:∀es,Blk.map es ∈ bl->qxP es) :
  Wk n (mkT ts) (mkH 0 bl) (mkT (ts.map fun p=>(p.1,fzv b e cs p.2))) (mkH 0 ((bl.map (fzB b e cs)).set b .dead)):=by
 intro ρ B w tm ht r;have hlt:b<bl.length:=(zzS.1 hb).1;have hgb:(mkH 0 bl).tr.get b=some (.cells e' true a cs):=by rw[xI];exact hb
 have tget:∀(ts:List (Nat×AV)) (j:Nat),(mkT (ts.map fun p=>(p.1,fzv b e cs p.2))).get j=((mkT ts).get j).map (fzv b e cs):=by
  intro ts j
  induction ts with
  | nil=>simp[mkT]
  | cons p l ih =>
   simp only[List.map_cons,mkT,Tr.get_set];split
   ·rfl
   ·exact ih
 have hget:∀b',b'≠b->(mkH 0 ((bl.map (fzB b e cs)).set b .dead)).tr.get b'=((mkH 0 bl).tr.get b').map (fzB b e cs):=by
  intro b' hne;rw[xI,xI,List.getElem?_set_ne (Ne.symm hne),List.getElem?_map]
 have hgd:(mkH 0 ((bl.map (fzB b e cs)).set b .dead)).tr.get b=some .dead:=by
  rw[xI,List.getElem?_set_self (by simpa using hlt)]
 -- a live block of the new heap comes from one of the old
 have qaL:∀b' x,(mkH 0 ((bl.map (fzB b e cs)).set b .dead)).tr.get b'=some x->x≠.dead->b'≠b∧∃y,(mkH 0 bl).tr.get b'=some y∧x=fzB b e cs y∧y≠.dead:=by
  intro b' x hx hd
  have hne:b'≠b:=by
   rintro rfl;rw[hgd] at hx;cases hx;exact hd rfl
  rw[hget b' hne] at hx;cases hy:(mkH 0 bl).tr.get b' with
  | none=>rw[hy] at hx;simp at hx
  | some y =>
   rw[hy] at hx;simp at hx;exact⟨hne,y,rfl,hx.symm,by rintro rfl;subst hx;exact hd rfl⟩
 have hsz:(mkH 0 ((bl.map (fzB b e cs)).set b .dead)).sz=bl.length:=by simp[qtd]
 cases hρ:ρ b with
 | none =>
  refine⟨ρ,fun j v hj=>?_,⟨?_,?_,?_,?_,?_,?_,?_,r.base,?_,?_⟩,⟨fun _ _=>rfl,by rw[hsz];omega,rfl,fun b' hb'=>by simp[qtc] at hb',fun _ _=>rfl,Nat.le_refl _,⟨rfl,rfl⟩,fun _ _ h=>h,fun _ _ h=>.inl h,fun _ _ h=>h⟩⟩
  ·rw[tget] at hj;cases hv:(mkT ts).get j with
   | none=>rw[hv] at hj;simp at hj
   | some v0 =>
    rw[hv] at hj;simp at hj;subst hj;exact⟨(ht j v0 hv).1,VR.iced0 hρ (ht j v0 hv).2⟩
  ·intro b' L h1;rw[hsz];exact r.dom b' L h1
  ·intro b' L e1 wf af cs' h1 h2;obtain⟨h3,y,h4,h5,h6⟩:=qaL b' _ h2 (by simp);cases y with
   | cells k w0 a0 l =>
    simp only[fzB,Blk.cells.injEq] at h5;obtain⟨rfl,rfl,rfl,rfl⟩:=h5;obtain⟨q1,c,ty,fz,q2,q3,q4,q5,q6⟩:=r.cells b' L _ _ _ l h1 h4;refine⟨q1,c,ty,fz,q2,q3,by rw[qar];exact q4,fun j v hv=>?_,q6⟩
    rw[qjG] at hv;cases hj:l[j]? with
    | none=>rw[hj] at hv;simp at hv
    | some v0 =>
     rw[hj] at hv;simp at hv;subst hv;obtain⟨v',g1,g2⟩:=q5 j v0 hj;exact⟨v',g1,VR.iced0 hρ g2⟩
   | dead=>simp[fzB] at h5
   | map es=>simp[fzB] at h5
  ·intro b' L es h1 h2;obtain⟨h3,y,h4,h5,h6⟩:=qaL b' _ h2 (by simp);cases y with
   | cells k w0 a0 l=>simp[fzB] at h5
   | dead=>simp[fzB] at h5
   | map es' =>
    simp only[fzB,Blk.map.injEq] at h5;subst h5;obtain⟨p1,o,p2,p3⟩:=r.maps b' L _ h1 h4;exact⟨p1,o,p2,p3.ice (fun h=>VR.iced0 hρ h) (hm es' (by rw[xI] at h4;exact zzM h4))⟩
  ·intro b1 L1 e1 af1 cs1 h1 h2 b2 L2 x h3 h4 h5 h6;obtain⟨g1,y,g2,g3,g4⟩:=qaL b1 _ h2 (by simp);obtain⟨i1,y2,i2,i3,i4⟩:=qaL b2 _ h4 h5;cases y with
   | cells k w0 a0 l =>
    simp only[fzB,Blk.cells.injEq] at g3;obtain⟨rfl,rfl,rfl,rfl⟩:=g3;exact r.excl b1 L1 _ _ l h1 g2 b2 L2 y2 h3 i2 i4 h6
   | dead=>simp[fzB] at g3
   | map es=>simp[fzB] at g3
  ·intro b1 L1 es h1 h2 b2 L2 x h3 h4 h5 h6;obtain⟨g1,y,g2,g3,g4⟩:=qaL b1 _ h2 (by simp);obtain⟨i1,y2,i2,i3,i4⟩:=qaL b2 _ h4 h5;cases y with
   | cells k w0 a0 l=>simp[fzB] at g3
   | dead=>simp[fzB] at g3
   | map es'=>simp only[fzB,Blk.map.injEq] at g3;subst g3;exact r.exclm b1 L1 _ h1 g2 b2 L2 y2 h3 i2 i4 h6
  ·intro b1 L1 e1 wf1 cs1 h1 h2 b2 L2 e2 wf2 af2 cs2 h3 h4 h6;obtain⟨g1,y,g2,g3,g4⟩:=qaL b1 _ h2 (by simp);obtain⟨i1,y2,i2,i3,i4⟩:=qaL b2 _ h4 (by simp);cases y<;>simp only[fzB,Blk.cells.injEq,reduceCtorEq] at g3;cases y2<;>simp only[fzB,Blk.cells.injEq,reduceCtorEq] at i3;obtain⟨rfl,rfl,rfl,rfl⟩:=g3;obtain⟨rfl,rfl,rfl,rfl⟩:=i3;rw[qar,qar];exact r.app b1 L1 _ _ _ h1 g2 b2 L2 _ _ _ _ h3 i2 h6
  ·intro b' L h1 h2;exact r.flr b' L h1 (Nat.zero_le _)
  ·intro k arr hk;refine⟨(r.frz k arr hk).1,fun b' L x h1 h2 h3=>?_⟩
   obtain⟨g1,y,g2,g3,g4⟩:=qaL b' _ h2 h3;exact (r.frz k arr hk).2 b' L y h1 g2 g4
  ·exact⟨by rw[hsz];exact r.dn.1,r.dn.2⟩
 | some L =>
  obtain⟨q1,c,ty,fz,q2,q3,q4,q5,q6⟩:=r.cells b L _ _ _ cs hρ hgb
  have hz:tab L.blk=none:=by
   cases h:tab L.blk with
   | none=>rfl
   | some a=>exact absurd rfl ((r.frz _ _ (ρ.frz.ok _ _ h)).2 b L _ hρ hgb (by simp))
  have hf:∀k a,ρ.frz k=some a->(ρ.iced b L.blk c).frz k=some a:=by
   intro k a' hk;simp only[Ren.iced];rw[if_neg (fun hh=>(r.frz k a' hk).2 b L _ hρ hgb (by simp) hh.symm)]
   exact hk
  have hLs:∀L',ρ b=some L'->L'=L:=by intro L' h;rw[hρ] at h;cases h;rfl
  have hcr:∀(l:List AV) (j:Nat),(∀i v,l[i]?=some v->∃v',c.toList[j+i]?=some v'∧VR σ0 ρ v v')->qu l=true->CRs σ0 (ρ.iced b L.blk c).frz l ((c.toList.drop j).take l.length):=by
   intro l
   induction l with
   | nil=>intro j _ _;simp;exact .nil
   | cons v l ih =>
    intro j hh hcl;simp only[qu,Bool.and_eq_true] at hcl;obtain⟨v',g1,g2⟩:=hh 0 v rfl;simp only[Nat.add_zero] at g1;obtain⟨hj,rfl⟩:=zzS.1 g1;rw[List.drop_eq_getElem_cons hj,List.length_cons,List.take_succ_cons];refine .cons _ _ _ _ ((g2.cr hcl.1).mono hf) (ih (j+1) (fun i v hi=>?_) hcl.2)
    obtain⟨v',k1,k2⟩:=hh (i+1) v (by simpa using hi);exact⟨v',by rw[show j+1+i=j+(i+1) from by omega];exact k1,k2⟩
  have hs:CRs σ0 (ρ.iced b L.blk c).frz cs ((c.toList.drop L.off).take cs.length):=hcr cs L.off (fun i v hi=>by
   obtain⟨v',g1,g2⟩:=q5 i v hi;exact⟨v',by simpa using g1,g2⟩) hc
  have old:∀b' L',(ρ.iced b L.blk c) b'=some L'->b'≠b∧ρ b'=some L':=by
   intro b' L' h
   by_cases hbb:b'=b
   ·subst hbb;simp[Ren.iced] at h
   ·refine⟨hbb,?_⟩;simp only[Ren.iced] at h;rw[if_neg hbb] at h;exact h
  refine⟨ρ.iced b L.blk c,fun j v hj=>?_,⟨?_,?_,?_,?_,?_,?_,?_,r.base,?_,?_⟩,⟨fun b' hb'=>by simp only[Ren.iced];rw[if_neg (by omega)],by rw[hsz];omega,rfl,fun b' hb'=>by simp[qtc] at hb',fun _ _=>rfl,Nat.le_refl _,⟨rfl,rfl⟩,hf,fun k a' hk=>?_,fun _ _ h=>h⟩⟩
  ·rw[tget] at hj;cases hv:(mkT ts).get j with
   | none=>rw[hv] at hj;simp at hj
   | some v0 =>
    rw[hv] at hj;simp at hj;subst hj;exact⟨(ht j v0 hv).1,VR.iced hz hLs hf hs (ht j v0 hv).2⟩
  ·intro b' L' h1;rw[hsz];exact r.dom b' L' (old _ _ h1).2
  ·intro b' L' e1 wf af cs' h1 h2;obtain⟨h3,y,h4,h5,h6⟩:=qaL b' _ h2 (by simp);cases y with
   | cells k w0 a0 l =>
    simp only[fzB,Blk.cells.injEq] at h5;obtain⟨rfl,rfl,rfl,rfl⟩:=h5;obtain⟨p1,c',ty',fz',p2,p3,p4,p5,p6⟩:=r.cells b' L' _ _ _ l (old _ _ h1).2 h4;refine⟨p1,c',ty',fz',p2,p3,by rw[qar];exact p4,fun j v hv=>?_,p6⟩
    rw[qjG] at hv;cases hj:l[j]? with
    | none=>rw[hj] at hv;simp at hv
    | some v0 =>
     rw[hj] at hv;simp at hv;subst hv;obtain⟨v',g1,g2⟩:=p5 j v0 hj;exact⟨v',g1,VR.iced hz hLs hf hs g2⟩
   | dead=>simp[fzB] at h5
   | map es=>simp[fzB] at h5
  ·intro b' L' es h1 h2;obtain⟨h3,y,h4,h5,h6⟩:=qaL b' _ h2 (by simp);cases y with
   | cells k w0 a0 l=>simp[fzB] at h5
   | dead=>simp[fzB] at h5
   | map es' =>
    simp only[fzB,Blk.map.injEq] at h5;subst h5;obtain⟨p1,o,p2,p3⟩:=r.maps b' L' _ (old _ _ h1).2 h4;exact⟨p1,o,p2,p3.ice (fun h=>VR.iced hz hLs hf hs h) (hm es' (by rw[xI] at h4;exact zzM h4))⟩
  ·intro b1 L1 e1 af1 cs1 h1 h2 b2 L2 x h3 h4 h5 h6;obtain⟨g1,y,g2,g3,g4⟩:=qaL b1 _ h2 (by simp);obtain⟨i1,y2,i2,i3,i4⟩:=qaL b2 _ h4 h5;cases y<;>simp only[fzB,Blk.cells.injEq,reduceCtorEq] at g3;obtain⟨rfl,rfl,rfl,rfl⟩:=g3;exact r.excl b1 L1 _ _ _ (old _ _ h1).2 g2 b2 L2 y2 (old _ _ h3).2 i2 i4 h6
  ·intro b1 L1 es h1 h2 b2 L2 x h3 h4 h5 h6;obtain⟨g1,y,g2,g3,g4⟩:=qaL b1 _ h2 (by simp);obtain⟨i1,y2,i2,i3,i4⟩:=qaL b2 _ h4 h5;cases y<;>simp only[fzB,Blk.map.injEq,reduceCtorEq] at g3;subst g3;exact r.exclm b1 L1 _ (old _ _ h1).2 g2 b2 L2 y2 (old _ _ h3).2 i2 i4 h6
  ·intro b1 L1 e1 wf1 cs1 h1 h2 b2 L2 e2 wf2 af2 cs2 h3 h4 h6;obtain⟨g1,y,g2,g3,g4⟩:=qaL b1 _ h2 (by simp);obtain⟨i1,y2,i2,i3,i4⟩:=qaL b2 _ h4 (by simp);cases y<;>simp only[fzB,Blk.cells.injEq,reduceCtorEq] at g3;cases y2<;>simp only[fzB,Blk.cells.injEq,reduceCtorEq] at i3;obtain⟨rfl,rfl,rfl,rfl⟩:=g3;obtain⟨rfl,rfl,rfl,rfl⟩:=i3;rw[qar,qar];exact r.app b1 L1 _ _ _ (old _ _ h1).2 g2 b2 L2 _ _ _ _ (old _ _ h3).2 i2 h6
  ·intro b' L' h1 h2;exact r.flr b' L' (old _ _ h1).2 (Nat.zero_le _)
  ·intro k arr hk
   by_cases hkk:k=L.blk
   ·subst hkk;simp[Ren.iced,hz] at hk;subst hk;refine⟨⟨ty,fz,q2⟩,fun b' L' x h1 h2 h3 h6=>?_⟩
    obtain⟨g1,y,g2,g3,g4⟩:=qaL b' _ h2 h3;exact g1 (r.excl b L _ _ _ hρ hgb b' L' y (old _ _ h1).2 g2 g4 h6)
   ·simp only[Ren.iced] at hk;rw[if_neg hkk] at hk;refine⟨(r.frz k arr hk).1,fun b' L' x h1 h2 h3=>?_⟩
    obtain⟨g1,y,g2,g3,g4⟩:=qaL b' _ h2 h3;exact (r.frz k arr hk).2 b' L' y (old _ _ h1).2 g2 g4
  ·exact⟨by rw[hsz];exact r.dn.1,fun b' L' h=>r.dn.2 b' L' (old _ _ h).2⟩
  ·simp only[Ren.iced] at hk;split at hk
   ·rename_i hkk;subst hkk;exact .inr (r.flr b L hρ (Nat.zero_le _))
   ·exact .inl hk

theorem Own.pure{f:Nat}{vs:List AV}{v v':AV}{bs:List Blk}(hcl:qu vs=true)(ho:Own P f vs v bs)(hf:Frz (qaR H0 (bs.map (shb 0))) (shv 0 v) v'):qd P f vs v' :=
 qd.of_SC hcl (ho H0 _ hf)
end Go.Kc
end
section
namespace Go.Kc
variable {P:Program} {n:Nat} {t:Tr AV} {h:Hp}

end Go.Kc
end
section
namespace Go.Kc
variable {P:Program} {f:Nat}

end Go.Kc
end
section
namespace Go.Kc
variable {P:Program}
end Go.Kc
end
section
namespace Go.Kc
variable {P:Program} {h:Hp}

noncomputable def trP:List (Nat×Blk)->Tr Blk
 | []=>.leaf
 | p::l=>(trP l).set p.1 p.2
theorem qmb:∀{l:List (Nat×Blk)} {b:Nat} {x:Blk},(trP l).get b=some x->(b,x) ∈ l
 | [],b,x,h=>by simp[trP] at h
 | p::l,b,x,h=>by
  simp only[trP,Tr.get_set] at h;split at h
  ·cases h;subst_vars;simp
  ·exact List.mem_cons_of_mem _ (qmb h)
noncomputable def qgQ(h:Hp):List (Nat×Blk)->Hp
 | []=>h
 | p::l=>qgQ (h.put p.1 .dead) l
theorem qlN:∀{l:List (Nat×Blk)} {h:Hp},(qgQ h l).sz=h.sz
 | [],_=>rfl
 | _::l,h=>(qlN (l:=l)).trans rfl
theorem qlM:∀{l:List (Nat×Blk)} {h:Hp},(qgQ h l).fl=h.fl
 | [],_=>rfl
 | _::l,h=>(qlM (l:=l)).trans rfl
theorem qjO:∀{l:List (Nat×Blk)} {h:Hp} {b:Nat},(qgQ h l).tr.get b=if b ∈ l.map Prod.fst then some .dead else h.tr.get b
 | [],_,_=>by simp[qgQ]
 | p::l,h,b=>by
  simp only[qgQ];rw[qjO]
  by_cases h1:b ∈ l.map Prod.fst
  ·rw[if_pos h1,if_pos (by simp only[List.map_cons,List.mem_cons];exact .inr h1)]
  ·rw[if_neg h1];show (h.tr.set p.1 .dead).get b=_;rw[Tr.get_set]
   by_cases h2:b=p.1
   ·rw[if_pos h2,if_pos (by simp only[List.map_cons,List.mem_cons];exact .inl h2)]
   ·rw[if_neg h2,if_neg (by simp only[List.map_cons,List.mem_cons,not_or];exact⟨h2,h1⟩)]
theorem qm8:qgQ h []=h:=rfl
theorem qkY{b:Nat}{x:Blk}{l:List (Nat×Blk)}:qgQ h ((b,x)::l)=qgQ (h.put b .dead) l:=rfl
theorem Rel.sub{ρ:Ren}{B:Nat->Prop}{h h':Hp}{w:World}(r:Rel σ0 ρ B h w)(hs:h'.sz=h.sz)(hf:h'.fl=h.fl)(hg:∀b x,h'.tr.get b=some x->x≠.dead->h.tr.get b=some x):Rel σ0 ρ B h' w :=
 ⟨fun b L hb=>by rw[hs];exact r.dom b L hb,fun b L e wf af cs hb hx=>r.cells b L e wf af cs hb (hg _ _ hx (by simp)),fun b L es hb hx=>r.maps b L es hb (hg _ _ hx (by simp)),
  fun b L e af cs hb hx b' L' x hb' hx' hd=>r.excl b L e af cs hb (hg _ _ hx (by simp)) b' L' x hb' (hg _ _ hx' hd) hd,fun b L es hb hx b' L' x hb' hx' hd=>r.exclm b L es hb (hg _ _ hx (by simp)) b' L' x hb' (hg _ _ hx' hd) hd,
  fun b L e wf cs hb hx b' L' e' wf' af' cs' hb' hx'=>r.app b L e wf cs hb (hg _ _ hx (by simp)) b' L' e' wf' af' cs' hb' (hg _ _ hx' (by simp)),fun b L hb hf'=>r.flr b L hb (by rw[← hf];exact hf'),r.base,
  fun k arr hk=>⟨(r.frz k arr hk).1,fun b L x hb hx hd=>(r.frz k arr hk).2 b L x hb (hg _ _ hx hd) hd⟩,by rw[hs];exact r.dn⟩
theorem qd.give{f:Nat}{vs vs':List AV}{v:AV}{k:AV->Hp->Prop}(DB:List (Nat×Blk))(hg:∀p ∈ DB,h.tr.get p.1=some p.2∧h.fl<=p.1)(hp:qd P f vs' v)(hv:clo v=true)(hf:Frzs ⟨h.sz,h.fl,trP DB⟩ vs vs')(hk:k v (qgQ h DB)):SC P f vs h k:=by
 refine⟨trivial,fun ρ B w args r ha=>?_⟩
 have hp0:=hp H0 (fun v' h'=>v'=v∧h'=H0) ⟨rfl,rfl⟩
 have r0:Rel σ0 ρ B ⟨h.sz,h.fl,trP DB⟩ w:=r.sub rfl rfl (fun b x hx _=>(hg _ (qmb hx)).1)
 have hcr:=hf.ok r0 ha
 have fnew:∀kk a,qaq ρ ⟨h.sz,h.fl,trP DB⟩ w kk=some a->ρ.frz kk=some a∨((∃ty fz,w.heap[kk]?=some (.cells a ty fz))∧∃b L e af cs,b ∈ DB.map Prod.fst∧ρ b=some L∧h.tr.get b=some (.cells e true af cs)∧L.blk=kk∧h.fl<=b):=by
  intro kk a hkk;rcases qeB hkk with h1|⟨h1,b,L,e,af,cs,h2,h3,h4⟩
  ·exact .inl h1
  ·have hm:=qmb h3;exact .inr ⟨h1,b,L,e,af,cs,List.mem_map_of_mem (f:=Prod.fst) hm,h2,(hg _ hm).1,h4,(hg _ hm).2⟩
 -- the rows given are frozen,their blocks dead
 have r1:Rel σ0 ⟨ρ.loc,qaq ρ ⟨h.sz,h.fl,trP DB⟩ w,ρ.n⟩ B (qgQ h DB) w:=by
  have le:ρ.le ⟨ρ.loc,qaq ρ ⟨h.sz,h.fl,trP DB⟩ w,ρ.n⟩:=⟨fun _ _ h=>h,fun _ _ h=>qa9 h,Nat.le_refl _⟩
  have qaL:∀b x,(qgQ h DB).tr.get b=some x->x≠.dead->b ∉ DB.map Prod.fst∧h.tr.get b=some x:=by
   intro b x hx hd;rw[qjO] at hx;split at hx
   ·cases hx;exact absurd rfl hd
   ·exact⟨by assumption,hx⟩
  have rs:Rel σ0 ρ B (qgQ h DB) w:=r.sub qlN qlM (fun b x hx hd=>(qaL b x hx hd).2)
  refine⟨rs.dom,fun b L e wf af cs hb hx=>?_,fun b L es hb hx=>?_,rs.excl,rs.exclm,rs.app,rs.flr,rs.base,fun kk arr hkk=>?_,rs.dn⟩
  ·obtain⟨q1,c,ty,fz,q2,q3,q4,q5,q6⟩:=rs.cells b L e wf af cs hb hx;exact⟨q1,c,ty,fz,q2,q3,q4,fun j v hv=>let ⟨v',k1,k2⟩:=q5 j v hv;⟨v',k1,k2.mono le⟩,q6⟩
  ·obtain⟨q1,o,q2,q3⟩:=rs.maps b L es hb hx;exact⟨q1,o,q2,q3.mono le⟩
  ·rcases fnew kk arr hkk with h1|⟨h1,b,L,e,af,cs,h2,h3,h4,h5,_⟩
   ·exact rs.frz kk arr h1
   ·refine⟨h1,fun b' L' x hb' hx hd he=>?_⟩
    obtain⟨g1,g2⟩:=qaL b' x hx hd;have:=r.excl b L e af cs h3 h4 b' L' x hb' g2 hd (by rw[he,h5]);subst this;exact g1 h2
 refine qce.mono (hp0.2 ⟨fun _=>none,qaq ρ ⟨h.sz,h.fl,trP DB⟩ w,0⟩ (low w.heap.size) w args
  ⟨(fun _ _ hb=>by cases hb),(fun _ _ _ _ _ _ hb=>by cases hb),(fun _ _ _ hb=>by cases hb),(fun _ _ _ _ _ hb=>by cases hb),(fun _ _ _ hb=>by cases hb),(fun _ _ _ _ _ hb=>by cases hb),(fun _ _ hb=>by cases hb),(fun _ h=>h),
   (fun k arr hk=>⟨(r1.frz k arr hk).1,fun _ _ _ hb=>by cases hb⟩),⟨Nat.le_refl _,fun _ _ hb=>by cases hb⟩⟩ (CRs.vr (ρ:=⟨fun _=>none,qaq ρ ⟨h.sz,h.fl,trP DB⟩ w,0⟩) hcr)) ?_
 rintro e w' ⟨v0,v',h',ρ',rfl,⟨rfl,rfl⟩,g2,g3,g4⟩;have f1:∀k a,qaq ρ ⟨h.sz,h.fl,trP DB⟩ w k=some a->ρ'.frz k=some a:=g4.frz;have f2:∀k a,ρ'.frz k=some a->qaq ρ ⟨h.sz,h.fl,trP DB⟩ w k=some a∨w.heap.size<=k:=fun k a hk=>(g4.fnew k a hk).imp id Nat.not_lt.1
 have f3:∀k a,ρ'.frz k=some a->∃ty fz,w'.heap[k]?=some (.cells a ty fz):=fun k a hk=>(g3.frz k a hk).1
 have r2:=r1.frz' g4.pres g4.wle f1 f2 f3;refine⟨v0,v',qgQ h DB,⟨ρ.loc,ρ'.frz,ρ.n⟩,rfl,hk,CR.vr (ρ:=⟨ρ.loc,ρ'.frz,ρ.n⟩) (g2.cr hv),r2,?_⟩;refine⟨fun _ _=>rfl,by rw[qlN];exact Nat.le_refl _,qlM,fun b hb _=>?_,fun k hk=>g4.pres k (r.base _ hk),g4.wle,g4.io,fun k a hk=>f1 k a (qa9 hk),fun k a hk=>?_,Nat.le_refl _⟩
 ·rw[qjO,if_neg];intro hm;obtain⟨p,hp1,hp2⟩:=List.mem_map.1 hm;have:=(hg p hp1).2;omega
 ·rcases f2 k a hk with h1|h1
  ·rcases fnew k a h1 with h2|⟨_,b,L,_,_,_,_,h3,_,h5,h6⟩
   ·exact .inl h2
   ·right;rw[← h5];exact r.flr b L h3 h6
  ·exact .inr (qau r.base h1)
end Go.Kc
end
section
namespace Go.Kc
variable {P:Program} {env:Tr IFn} {ho:qyb}

theorem Kept.same{ρ ρ':Ren}{h h':Hp}{w w':World}(k:Kept ρ (low w.heap.size) h w ρ' h' w')(may:MemPlace->Prop):w.keptBut w' may:=by
 refine⟨k.io.1,k.io.2,fun i hi=>?_⟩
 have e:=k.pres i hi;rw[e];cases w.heap[i]? with
 | none=>rfl
 | some o=>cases o<;>simp
noncomputable def qlH(w:World):Nat->Option (Array Value):=fun k=>match w.heap[k]? with|some (.cells arr _ _)=>some arr|_=>none
theorem qhq{w:World}{k:Nat}{arr:Array Value}:qlH w k=some arr↔∃ty fz,w.heap[k]?=some (.cells arr ty fz):=by
 show (match w.heap[k]? with|some (.cells arr _ _)=>some arr|_=>none)=some arr↔_
 cases w.heap[k]? with
 | none=>simp
 | some o=>cases o<;>simp
noncomputable def ice(w:World) [t:TabOk w]:Ren:=⟨fun _=>none,⟨qlH w,fun k a h=>qhq.2 (t.ok k a h)⟩,0⟩
theorem qvR{w:World} [TabOk w]{k:Nat}{arr:Array Value}:(ice w).frz k=some arr↔∃ty fz,w.heap[k]?=some (.cells arr ty fz):=qhq
theorem Rel.ice(w:World) [TabOk w]:Rel σ0 (ice w) (low w.heap.size) H0 w :=
 ⟨(fun _ _ hb=>by cases hb),(fun _ _ _ _ _ _ hb=>by cases hb),(fun _ _ _ hb=>by cases hb),(fun _ _ _ _ _ hb=>by cases hb),(fun _ _ _ hb=>by cases hb),(fun _ _ _ _ _ hb=>by cases hb),(fun _ _ hb=>by cases hb),(fun _ h=>h),
  (fun k arr hk=>⟨qvR.1 hk,fun _ _ _ hb=>by cases hb⟩),⟨Nat.le_refl _,fun _ _ hb=>by cases hb⟩⟩
theorem qd.law{f:Nat}{vs:List AV}{args:Array Value}(hp:qd P f vs (.b true))(hc:qmC P f)(w:World) [TabOk w](ha:VRs σ0 (ice w) vs args.toList):Calls P f args w fun e w'=>e = .returned (.bool true)∧∀may,w.keptBut w' may:=by
 have h:=(hp H0 (fun v _=>v = .b true) rfl).2 (ice w) (low w.heap.size) w args (Rel.ice w) ha
 rcases h with⟨_,h⟩|⟨v,w',h,_⟩
 ·refine h.mono fun e w' hh=>?_
  obtain⟨v,v',h',ρ',rfl,rfl,hv,_,hk⟩:=hh;cases hv;exact⟨rfl,fun may=>hk.same may⟩
 ·obtain⟨fn,h1,h2,h3⟩:=hc;rw[qcu h1 h2 h3] at h;cases h
theorem qfg{f:Nat}{i:IFn}(hc:qc P f i=true):qmC P f:=by
 unfold qc at hc;split at hc<;>try (cases hc;done)
 rename_i fn hfn;simp only[Bool.and_eq_true,bne_iff_ne] at hc;obtain⟨⟨hname,hbody⟩,hres⟩:=hc;split at hbody<;>try (cases hbody;done)
 rename_i c hcb;exact⟨fn,hfn,hname,by rw[hcb];rfl⟩
end Go.Kc
end
section
namespace Go.Kc
section
variable {H:Type} {enc:TypeId×Value->H} {P:Program} {w:World} {α β:Type} {t e:TypeId}
theorem CRs.app{φ:Nat->Option (Array Value)}:∀{as bs:List AV} {us vs:List Value},CRs σ0 φ as us->CRs σ0 φ bs vs->CRs σ0 φ (as++bs) (us++vs)
 | _,_,_,_,.nil,h=>h
 | _,_,_,_,.cons v l v' l' h hs,h2=>.cons _ _ _ _ h (CRs.app hs h2)
def qdg(enc:TypeId×Value->H)(P:Program)(w:World)(t:TypeId)(I:α->Prop)(E:α->List AV):Prop :=
 ∀(fuel:Nat) (cs:List Value) x,DataW.trod enc P w 0 (fun _=>true) true fuel t cs=some x->∃a,I a∧CRs σ0 (qlH w) (E a) cs
theorem qBQ{k:IntKind}(ht:P.underlying t=some (.int k)):qdg enc P w t (fun n:Int=>(Lit.int k n).wf=true) (fun n=>[.i k n]):=by
 intro fuel cs x h;obtain⟨n,rfl,_,hw⟩:=DataW.trod_int ht h;exact⟨n,hw,.cons _ _ _ _ (.i _ _) .nil⟩
theorem qoC{a:Addr}{v:Value}(h:w.cell? a=some v):a.spot=none∧∃arr ty fz,w.heap[a.block]?=some (.cells arr ty fz)∧arr[a.off]?=some v:=by
 unfold World.cell? at h;split at h
 ·rename_i c ty fz hc;split at h
  ·cases h
  ·rename_i hs;refine⟨by simpa using hs,c,ty,fz,hc,h⟩
 ·cases h
theorem qxV{I:α->Prop}{E:α->List AV}{m:Nat}(ht:P.underlying t=some (.slice e))(he:qdg enc P w e I E)(hE:∀a,(E a).length=m)(hc:P.cellsOf e=m)(hm:0<m) :
  qdg enc P w t (fun l:List α=>l.length<=maxLen∧∀a ∈ l,I a) (fun l=>[.fz l.length (l.flatMap E)]):=by
 intro fuel cs x h;rcases DataW.trod_slice ht h with⟨rfl,_⟩|⟨a,len,cap,elems,rest,n,_,rfl,_,_,hl,hmx,hlen,hel,hsp,_⟩
 ·exact⟨[],⟨Nat.zero_le _,fun _ h=>by cases h⟩,.cons _ _ _ _ (.fz0 none) .nil⟩
 obtain⟨hrl,hr⟩:=hsp rfl;rcases Nat.eq_zero_or_pos cap with h0|hpos
 ·subst h0;obtain rfl:len=0:=by omega
  exact⟨[],⟨Nat.zero_le _,fun _ h=>by cases h⟩,.cons _ _ _ _ (.fz0 (some a)) .nil⟩
 have first:∃v,w.cell? a=some v:=by
  have:∃cs',w.cells? 0 (a.add (0*P.cellsOf e)) (P.cellsOf e)=some cs':=by
   rcases Nat.eq_zero_or_pos len with h1|h1
   ·have:=hr 0 (by omega);have hlt:0<rest.length:=by omega
    rw[zzE hlt,Option.bind_eq_some_iff] at this;obtain⟨c,hc',_⟩:=this;subst h1;exact⟨c,hc'⟩
   ·have:=hel 0 h1;have hlt:0<elems.length:=by omega
    rw[zzE hlt,Option.bind_eq_some_iff] at this;obtain⟨c,hc',_⟩:=this;exact⟨c,hc'⟩
  obtain⟨cs',h2⟩:=this;obtain⟨_,q1,q2⟩:=World.cells?_some h2;have:=q2 0 (by omega);rw[zzE (by omega)] at this;simp only[Nat.zero_mul,Addr.add,if_true] at this;exact⟨_,this⟩
 obtain⟨v0,hv0⟩:=first
 obtain⟨hs,arr,ty,fz,hb,_⟩:=qoC hv0
 have key:∀k,k<=len->∃l:List α,l.length=k∧(∀b ∈ l,I b)∧CRs σ0 (qlH w) (l.flatMap E) ((arr.toList.drop a.off).take (k*m)):=by
  intro k
  induction k with
  | zero=>intro _;exact⟨[],rfl,(fun _ h=>by cases h),by simpa using .nil⟩
  | succ k ih =>
   intro hk;obtain⟨l,h1,h2,h3⟩:=ih (by omega);have hk':=hel k (by omega);have hlt:k<elems.length:=by omega
   rw[zzE hlt,Option.bind_eq_some_iff] at hk';obtain⟨c,hcs,htr⟩:=hk';obtain⟨_,q1,q2⟩:=World.cells?_some hcs;obtain⟨b,hb1,hb2⟩:=he _ _ _ htr
   have e1:c=((arr.toList.drop a.off).drop (k*m)).take m:=by
    refine List.ext_getElem? fun j=>?_
    by_cases hj:j<m
    ·have:=q2 j (by omega);rw[← this]
     have e2:w.cell? ((a.add (k*P.cellsOf e)).add j)=arr[a.off+(k*m+j)]?:=by
      have ha:(a.add (k*P.cellsOf e)).add j=⟨a.block,a.off+(k*m+j),none⟩:=by
       unfold Addr.add;rw[hc];split
       ·split
        ·rename_i h4 h5;rw[h4,h5];cases a;simp_all
        ·rename_i h4 h5;rw[h4];simp[hs]
       ·split
        ·rename_i h4 h5;rw[h5];cases a;simp_all
        ·simp;omega
      rw[ha];simp[World.cell?,hb]
     rw[e2,List.getElem?_take_of_lt hj,List.getElem?_drop,List.getElem?_drop];simp[Array.getElem?_toList]
    ·rw[List.getElem?_eq_none (by omega),List.getElem?_eq_none];simp;omega
   refine⟨l++[b],by simp[h1],fun x hx=>?_,?_⟩
   ·rcases List.mem_append.1 hx with hx|hx
    ·exact h2 x hx
    ·obtain rfl:=List.mem_singleton.1 hx;exact hb1
   ·rw[List.flatMap_append,Nat.succ_mul,List.take_add,← e1];simpa using h3.app hb2
 obtain⟨l,h1,h2,h3⟩:=key len (Nat.le_refl _);refine⟨l,⟨by omega,h2⟩,.cons _ _ _ _ ?_ .nil⟩
 have hfl:(l.flatMap E).length=len*m:=by
  rw[← h1];clear h1 h2 h3
  induction l with
  | nil=>simp
  | cons x l ih=>simp[hE,ih,Nat.succ_mul,Nat.add_comm]
 obtain⟨blk,off,spot⟩:=a;cases hs;rw[h1];exact .fz len off cap _ blk arr hl (qhq.2 ⟨ty,fz,hb⟩) (by rw[hfl];exact h3)
def qll(enc:TypeId×Value->H)(P:Program)(w:World)(fs:List Field)(o n:Nat)(I:α->Prop)(E:α->List AV):Prop :=
 (∀a,(E a).length=n)∧∀(fuel:Nat) (cs:List Value),(∀f ∈ fs,∃x,DataW.trod enc P w 0 (fun _=>true) true fuel f.type ((cs.drop f.offset).take (P.cellsOf f.type))=some x)->∃a,I a∧CRs σ0 (qlH w) (E a) ((cs.drop o).take n)
theorem qAt{o:Nat}:qll enc P w [] o 0 (fun _:Unit=>True) (fun _=>[]):=⟨fun _=>rfl,fun _ cs _=>⟨(),trivial,by simpa using .nil⟩⟩
theorem qxT{f:Field}{fs:List Field}{o m n:Nat}{I:α->Prop}{E:α->List AV}{J:β->Prop}{F:β->List AV}(h:qdg enc P w f.type I E)(hE:∀a,(E a).length=m)(ho:f.offset=o)(hc:P.cellsOf f.type=m)
  (hr:qll enc P w fs (o+m) n J F):qll enc P w (f::fs) o (m+n) (fun p:α×β=>I p.1∧J p.2) (fun p=>E p.1++F p.2):=by
 refine⟨fun p=>by simp[hE,hr.1],fun fuel cs hf=>?_⟩
 obtain⟨x,hx⟩:=hf f (List.mem_cons_self ..);obtain⟨a,ha,h1⟩:=h _ _ _ hx;obtain⟨b,hb,h2⟩:=hr.2 fuel cs fun g hg=>hf g (List.mem_cons_of_mem _ hg)
 refine⟨(a,b),⟨ha,hb⟩,?_⟩;rw[ho,hc] at h1;rw[List.take_add,List.drop_drop];exact h1.app h2
theorem qwB{fs:Array Field}{n:Nat}{I:α->Prop}{E:α->List AV}(ht:P.underlying t=some (.struct fs))(hc:P.cellsOf t=n)(h:qll enc P w fs.toList 0 n I E):qdg enc P w t I E:=by
 intro fuel cs x hx;obtain⟨xs,m,rfl,_,hl,hxs,hf⟩:=DataW.trod_struct ht hx
 obtain⟨a,ha,h1⟩:=h.2 m cs fun f hfm=>by
  obtain⟨i,hi⟩:=List.getElem?_of_mem hfm;have hi':fs[i]?=some f:=by simpa using hi
  have:=hf i f hi'
  have hlt:i<xs.length:=by
   rw[hxs];exact (Array.getElem?_eq_some_iff.1 hi').1
  rw[zzE hlt] at this;exact⟨_,this⟩
 refine⟨a,ha,?_⟩;rwa [List.drop_zero,List.take_of_length_le (by omega)] at h1
theorem qdg.map{I:α->Prop}{E:α->List AV}{J:β->Prop}{F:β->List AV}(h:qdg enc P w t I E)(g:α->β)(hg:∀a,I a->J (g a)∧F (g a)=E a):qdg enc P w t J F:=by
 intro fuel cs x hx;obtain⟨a,ha,h1⟩:=h _ _ _ hx;exact⟨g a,(hg a ha).1,by rw[(hg a ha).2];exact h1⟩
theorem qdg.agg [TabOk w]{I:α->Prop}{E:α->List AV}(h:qdg enc P w t I E){v:Value}{d:DataW H}{p:List MemPlace}(ha:∃cs,v = .agg cs)(hd:DataW.Trod enc P w 0 (fun _=>true) true t v d p):∃a,I a∧VR σ0 (ice w) (.agg (E a)) v:=by
 obtain⟨cs,rfl⟩:=ha;obtain⟨fuel,hd⟩:=hd;obtain⟨a,h1,h2⟩:=h _ _ _ hd;exact⟨a,h1,.agg _ _ h2.vr⟩
theorem ql1{w':World}(hk:∀may,w.keptBut w' may){p:MemPlace}(hp:p.block<w.heap.size):w.sameAt w' p:=by
 have h:=(hk fun _=>False).2.2 p.block hp
 have h0:w.heap[p.block]?=some w.heap[p.block]:=Array.getElem?_eq_getElem hp;cases p with
 | cell b off =>
  show w'.cell? ⟨b,off,none⟩=w.cell? ⟨b,off,none⟩;simp only[MemPlace.block] at h h0 hp;unfold World.cell?;split at h
  ·rename_i c1 t1 f1 c2 t2 f2 e1 e2;dsimp only;rw[e1,e2];simpa using h.2.2.2 off (fun hh=>hh)
  ·rename_i e1 e2;dsimp only;rw[e1,e2]
  ·dsimp only;rw[h]
 | map b =>
  show w'.heap[b]?=w.heap[b]?;simp only[MemPlace.block] at h h0 hp;split at h
  ·rename_i c1 t1 f1 c2 t2 f2 e1 e2
   have:c2=c1:=by
    apply Array.ext_getElem?;intro j;exact h.2.2.2 j (fun hh=>hh)
   rw[e1,e2,h.1,h.2.1,this]
  ·rename_i e1 e2;rcases h with hh|⟨h1,h2⟩
   ·exact hh.elim
   ·rw[e1,e2,h1,h2]
  ·exact h
theorem Trod.stay{w':World}{T:TypeId->Prop}(K:Kids P T)(hz:∀t e,T t->P.underlying t=some (.slice e)->0<P.cellsOf e){ts:List TypeId}{vs:List Value}{ds:List (DataW H)}{ps:List MemPlace}(hT:∀t ∈ ts,T t)
  (h:DataW.TrodAll enc P w 0 (fun _=>true) true ts vs ds ps) (hk:∀may,w.keptBut w' may):DataW.TrodAll enc P w' 0 (fun b=>decide (b<w.heap.size)) true ts vs ds ps:=by
 have hlt:=DataW.TrodAll.lt h;have h1:DataW.TrodAll enc P w 0 (fun b=>decide (b<w.heap.size)) true ts vs ds ps:=h.respare K hz hT fun p hp=>decide_eq_true (hlt p hp)
 clear h
 induction ts generalizing vs ds ps with
 | nil =>
  cases vs<;>cases ds<;>first|exact h1|exact h1.elim
 | cons t ts ih =>
  cases vs with
  | nil=>exact h1.elim
  | cons v vs =>
   cases ds with
   | nil=>exact h1.elim
   | cons d ds =>
    obtain⟨p,q,⟨fuel,h2⟩,h3,e⟩:=h1;subst e;refine⟨p,q,⟨fuel,DataW.trod_carry _ _ _ _ h2 fun x hx=>ql1 hk (hlt x (List.mem_append_left _ hx))⟩,?_,rfl⟩
    exact ih (fun t ht=>hT t (List.mem_cons_of_mem _ ht)) (fun x hx=>hlt x (List.mem_append_right _ hx)) h3
end
end Go.Kc
namespace Go.Kc
theorem qAE{k:IntKind}{l:List Int}:l.flatMap (fun n=>[AV.i k n])=l.map (.i k):=by
 induction l with
 | nil=>rfl
 | cons x l ih=>simp[ih]
theorem qwI{P:Program}{H:Type}{enc:TypeId×Value->H}{f:Func}{s:ChangeSpec}{apart fresh handsOn:Bool}{W W':World}{args:Array Value}{v:Value}{ds gs:List (DataW H)}{before pv:List MemPlace}
  (hW:DataW.Whole enc P f.params.toList s.vars apart W args.toList ds gs before) (hs:(s.fn H (ds++gs)).args=ds)
  {T:TypeId->Prop} (K:Kids P T) (hz:∀t e,T t->P.underlying t=some (.slice e)->0<P.cellsOf e) (hT:∀t ∈ f.params.toList,T t)
  (hres:∀(b:Nat) (sp:Nat->Bool) (hd:Bool),DataW.TrodAll enc P W' b sp hd f.resultTypes.toList (v.resultList f.resultTypes.size) (s.fn H (ds++gs)).results [])
  (hvars:∀sp:Nat->Bool,DataW.TrodVars enc P W' sp s.vars (s.fn H (ds++gs)).vars pv)
  (hk:∀may,W.keptBut W' may):s.post enc P f apart fresh handsOn false W args v W':=by
 have hW':=hW;obtain⟨p,q,hA,_,_⟩:=hW';exact⟨ds,gs,before,[],p,pv,hW,hres _ _ _,by rw[hs];exact Trod.stay K hz hT hA hk,hvars _,hk _,fun h=>by cases h⟩
end Go.Kc
end
section
namespace Go.Kc
variable {P:Program} {env:Tr IFn} {ho:qyb}
noncomputable def tt(b:Bool):Prop:=Bool.rec (motive:=fun _=>Prop) False True b
theorem qFq{b:Bool}(h:tt b):b=true:=by cases b with|true=>rfl|false=>exact h.elim
end Go.Kc
end
section
namespace Go.Kc
variable {P:Program}
mutual
def qcY:AV->Bool
 | .map _=>false
 | .fz _ _=>false
 | .pf _ _=>false
 | .sym _=>false
 | .fn _ a c=>jo a&&jo c
 | .ifc _ v=>qcY v
 | .agg cs=>jo cs
 | .tup cs=>jo cs
 | .ptr _ _=>true | .sl _ _ _ _ _=>true | .own _ _=>true
 | .undef=>true | .b _=>true | .i _ _=>true | .s _=>true | .nilp=>true | .nils=>true | .nilf=>true | .nili=>true | .nilm=>true | .e0=>true | .nz=>true | .yl _=>true | .lp _=>true
def jo:List AV->Bool
 | []=>true
 | v::vs=>qcY v&&jo vs
end
mutual
theorem VR.thaw{ρ:Ren}{φ:Fz}:∀{a:AV} {v:Value},VR σ0 ρ a v->qcY a=true->VR σ0 ⟨ρ.loc,φ,ρ.n⟩ a v
 | _,_,.undef v,_=>.undef v
 | _,_,.b x,_=>.b x
 | _,_,.i k n,_=>.i k n
 | _,_,.s x,_=>.s x
 | _,_,.nilp,_=>.nilp
 | _,_,.ptr b o L h,_=>.ptr b o L h
 | _,_,.nils,_=>.nils
 | _,_,.sl b o len cap c loose L h hc,_=>.sl b o len cap c loose L h hc
 | _,_,.slz b o x l L h,_=>.slz b o x l L h
 | _,_,.nilf,_=>.nilf
 | _,_,.fn f first cap first' cap' h1 h2,hc=>by
  simp only[qcY,Bool.and_eq_true] at hc;exact .fn _ _ _ _ _ (h1.thaw hc.1) (h2.thaw hc.2)
 | _,_,.nili,_=>.nili
 | _,_,.ifc t v v' h,hc=>by simp only[qcY] at hc;exact .ifc _ _ _ (h.thaw hc)
 | _,_,.agg cs cs' h,hc=>by simp only[qcY] at hc;exact .agg _ _ (h.thaw hc)
 | _,_,.tup cs cs' h,hc=>by simp only[qcY] at hc;exact .tup _ _ (h.thaw hc)
 | _,_,.nilm,_=>.nilm
 | _,_,.map b L h h0,hc=>by simp[qcY] at hc
 | _,_,.sym j,hc=>by simp[qcY] at hc
 | _,_,.fz n off c cs k arr hn h hs,hc=>by simp[qcY] at hc
 | _,_,.fz0 a,hc=>by simp[qcY] at hc
 | _,_,.pf off base cs k arr h hs,hc=>by simp[qcY] at hc
 | _,_,.e0 a,_=>.e0 a
 | _,_,.nz a c,_=>.nz a c
 | _,_,.own0 b a hb,_=>.own0 b a hb
 | _,_,.own b n c L h hn hc,_=>.own b n c L h hn hc
 | _,_,.yl b L h,_=>.yl b L h
theorem VRs.thaw{ρ:Ren}{φ:Fz}:∀{a:List AV} {v:List Value},VRs σ0 ρ a v->jo a=true->VRs σ0 ⟨ρ.loc,φ,ρ.n⟩ a v
 | _,_,.nil,_=>.nil
 | _,_,.cons v vs v' vs' h hs,hc=>by
  simp only[jo,Bool.and_eq_true] at hc;exact .cons _ _ _ _ (h.thaw hc.1) (hs.thaw hc.2)
end
theorem qjE:∀{cs:List AV} {j:Nat} {v:AV},jo cs=true->cs[j]?=some v->qcY v=true
 | [],_,_,_,h=>by simp at h
 | c::cs,0,v,hf,h=>by
  simp only[jo,Bool.and_eq_true] at hf;simp at h;rw[← h];exact hf.1
 | c::cs,j+1,v,hf,h=>by
  simp only[jo,Bool.and_eq_true] at hf;exact qjE hf.2 (by simpa using h)
def qmK:Blk->Bool
 | .cells _ _ _ cs=>jo cs
 | _=>false
theorem Rel.thaw{ρ:Ren}{φ:Fz}{B:Nat->Prop}{h:Hp}{w:World}(r:Rel σ0 ρ B h w)(hφ:∀k a,φ k=some a->ρ.frz k=some a)(hh:∀b x,h.tr.get b=some x->qmK x=true):Rel σ0 ⟨ρ.loc,φ,ρ.n⟩ B h w:=by
 refine⟨r.dom,fun b L e wf af cs hb hg=>?_,fun b L es hb hg=>?_,r.excl,r.exclm,r.app,r.flr,r.base,fun k arr hk=>r.frz k arr (hφ k arr hk),r.dn⟩
 ·obtain⟨g1,c,ty,fz,g2,g3,g4,g5,g6⟩:=r.cells b L e wf af cs hb hg;exact⟨g1,c,ty,fz,g2,g3,g4,fun j v hv=>let ⟨v',g7,g8⟩:=g5 j v hv;⟨v',g7,g8.thaw (qjE (hh b _ hg) hv)⟩,g6⟩
 ·have:=hh b _ hg;cases this
theorem qg6.of_SC{f:Nat}{vs':List AV}{v:AV}{bs:List Blk}(hv:qcY v=true)(hbs:bs.all qmK=true)(hs:SC P f vs' H0 (quI v bs)):qg6 P f vs' v bs:=by
 intro h vs k hf hk;refine⟨hs.1,fun ρ B w args r ha=>?_⟩
 have hcr:=hf.ok r ha;refine qce.mono (hs.2 ⟨fun _=>none,qaq ρ h w,0⟩ (low w.heap.size) w args r.bare (CRs.vr (ρ:=⟨fun _=>none,qaq ρ h w,0⟩) hcr)) ?_
 rintro e w1 ⟨v0,v',h1,ρ1,rfl,g1,g2,g3,g4⟩;obtain⟨src,s1,s2,s3⟩:=g1 g4.fl;have hw:Wk 0 (mkT [(0,v0)]) h1 (mkT [(0,v)]) (mkH 0 bs):=Wk.mk [(0,v)] bs src ⟨⟨v0,by simp[mkT,Tr.get_set],s1⟩,trivial⟩ s2 s3 g4.fl
 obtain⟨ρ2,t2,r2,k2⟩:=hw ρ1 (low w.heap.size) w1 #[v'] (fun j x hj=>by
  have:=qdv hj;simp at this;obtain⟨rfl,rfl⟩:=this;exact⟨by simp,by simpa using g2⟩) g3
 have hv2:VR σ0 ρ2 v v':=by
  have:=(t2 0 v (by simp[mkT,Tr.get_set])).2;simpa using this
 have hφ:∀k a,ρ.frz k=some a->ρ2.frz k=some a:=fun k a hk=>k2.frz k a (g4.frz k a (qa9 hk))
 have r3:=r2.thaw (φ:=ρ.frz) hφ (fun b x hx=>by
  rw[xI] at hx;exact List.all_eq_true.1 hbs x (zzM hx))
 have hv3:=hv2.thaw (φ:=ρ.frz) hv;refine⟨_,v',_,ρ.join ⟨ρ2.loc,ρ.frz,ρ2.n⟩ h.sz bs.length,rfl,hk,hv3.sh r3.dn.1,Rel.joinH r r3 g4.pres g4.wle (fun _ _ h=>h) (fun _ _ h=>.inl h),?_⟩
 refine⟨fun b hb=>qjb hb,by rw[qek];omega,qfG,fun b _ hb=>by rw[qbe,if_pos hb],fun k hk=>g4.pres k (r.base _ hk),g4.wle,g4.io,fun _ _ h=>h,fun _ _ h=>.inl h,?_⟩
 exact Nat.le_trans r.dn.1 (Nat.le_add_right _ _)
theorem qg6.mk{f:Nat}{i:IFn}{vs:List AV}{v:AV}{bs:List Blk}(hc:qc P f i=true)(hv:qcY v=true)(hbs:bs.all qmK=true)(hV:V P 0 i.body (qac i.res (quI v bs)) (qcr vs 0 .leaf) H0):qg6 P f vs v bs :=
 qg6.of_SC hv hbs (SC.mk hc (qj hV))
end Go.Kc
end
section
namespace Go.Kc
variable {P:Program} {n:Nat} {h:Hp}
def bsy(r:Loop):Loop:={ r with state:=.busy }
def rdy(r:Loop):Loop:={ r with state:=.ready,pending:=none }
def dne(r:Loop)(c:Code):Loop:={ r with state:=.done,pending:=some c }
structure LoopOk (P:Program) (r:Loop) (ps:List Nat) (ai bi:ICode):Prop where
 params:r.params.toList=ps
 code:∃nt,zd P nt r.assign ai=true∧zd P nt r.body bi=true∧nt<=r.tmps.size∧∀p ∈ ps,p<nt
 flat:qgV ai=true∧qgV bi=true
 real:∀j,r.assign≠.goto j
def qos(P:Program)(r:Loop)(ps:List Nat)(ai bi:ICode):Prop:=∀r',qdX r r'->LoopOk P r' ps ai bi
theorem LoopOk.likes{r:Loop}{ps:List Nat}{ai bi:ICode}(h:LoopOk P r ps ai bi):qos P r ps ai bi:=fun r' hl=>by
 rcases hl with⟨rfl,_⟩|⟨j,h1,_⟩
 ·exact h
 ·exact absurd h1 (h.real j)
theorem qdX.bsy{r r':Loop}(h:qdX r r'):qdX (Go.Kc.bsy r) (Go.Kc.bsy r'):=by
 rcases h with⟨rfl,h0⟩|⟨j,h1,h2,_,h4⟩
 ·exact .inl ⟨rfl,h0⟩
 ·exact .inr ⟨j,h1,Cur.st .busy r'.pending h2,rfl,h4⟩
theorem qhQ{r:Loop}:rdy (bsy r)=rdy r:=rfl
noncomputable def qkz:List Nat->List AV->Tr AV->Tr AV
 | p::ps,u::us,t=>qkz ps us (t.set p u)
 | _,_,t=>t
def qy4(b:Nat)(k:AV->Hp->Prop)(x:X)(_:Tr AV)(h:Hp):Prop :=
 ∃r ts,h.tr.get b=some (.map (zn r ts))∧onX x (k (.b true) (h.put b (.map (zn (rdy r) ts)))) (fun id=>k (.b false) (h.put b (.map (zn (dne r (.exit id)) ts)))) (k (.b false) (h.put b (.map (zn (dne r .ret) ts))))
def qEj(P:Program)(n b:Nat)(r:Loop)(bi:ICode)(Q:X->Tr AV->Hp->Prop)(x:X)(t:Tr AV)(h:Hp):Prop :=
 onX x (∃ts,h.tr.get b=some (.map (zn r ts))∧S P n bi Q t (h.put b (.map (zn (bsy r) ts)))) (fun _=>False) False
def qCL(P:Program)(n b:Nat)(bi:ICode)(Q:X->Tr AV->Hp->Prop)(x:X)(t:Tr AV)(h:Hp):Prop :=
 onX x (∃r ts R,h.tr.get b=some (.map (zn r ts))∧r.state = .ready∧(∀q,qdX r q->qdX R (bsy q))∧S P n bi Q t (h.put b (.map (zn R ts)))) (fun _=>False) False
def qza:X->Loop->Loop
 | .normal,q=>rdy q
 | .exit id,q=>dne q (.exit id)
 | .ret,q=>dne q .ret
def qEs:X->Bool
 | .normal=>true
 | _=>false
def qxF(b:Nat)(k:AV->Hp->Prop)(x:X)(_:Tr AV)(h:Hp):Prop :=
 ∃r ts R,h.tr.get b=some (.map (zn r ts))∧(∀q,qdX r q->qdX R (qza x q))∧k (.b (qEs x)) (h.put b (.map (zn R ts)))
theorem qr5{b:Nat}{k:AV->Hp->Prop}{x:X}{t:Tr AV}{h:Hp}(hq:qy4 b k x t h):qxF b k x t h:=by
 obtain⟨r,ts,h1,h2⟩:=hq;cases x with
 | normal=>exact⟨r,ts,rdy r,h1,fun q hq=>hq.set .ready none,h2⟩
 | exit id=>exact⟨r,ts,dne r (.exit id),h1,fun q hq=>hq.set .done (some (.exit id)),h2⟩
 | ret=>exact⟨r,ts,dne r .ret,h1,fun q hq=>hq.set .done (some .ret),h2⟩
theorem qo6{ρ:Ren}:∀{ps:List Nat} {us:List AV} {t:Tr AV} {tm:Array Value} {args:List Value},VRs σ0 ρ us args->ps.length=us.length->(∀p ∈ ps,p<tm.size)->TR σ0 ρ t tm->
  TR σ0 ρ (qkz ps us t) ((ps.zip args).foldl (fun tm (p,v)=>tm.setIfInBounds p v) tm)
 | [],[],_,_,_,hv,_,_,ht=>by cases hv;exact ht
 | [],_::_,_,_,_,_,hl,_,_=>by simp at hl
 | _::_,[],_,_,_,_,hl,_,_=>by simp at hl
 | p::ps,u::us,t,tm,args,hv,hl,hp,ht=>by
  cases hv with
  | cons _ _ v vs h1 h2 =>
   have hlt:=hp p (by simp);refine qo6 (ps:=ps) h2 (by simpa using hl) (fun q hq=>by simpa using hp q (by simp[hq])) (fun j x hj=>?_)
   rw[Tr.get_set] at hj;split at hj
   ·rename_i he;subst he;cases hj;exact⟨by simpa using hlt,by simpa[Array.getD,hlt] using h1⟩
   ·rename_i he;obtain⟨g1,g2⟩:=ht j x hj;refine⟨by simpa using g1,?_⟩
    rw[Array.getD_eq_getD_getElem?,Array.getElem?_setIfInBounds,if_neg (fun e=>he e.symm),← Array.getD_eq_getD_getElem?]
    exact g2
theorem qDz{ρ:Ren}{tm:Array Value}:∀{ts:List (Nat×AV)},(∀p ∈ ts,p.1<tm.size∧VR σ0 ρ p.2 (tm.getD p.1 undef))->TR σ0 ρ (mkT ts) tm :=
 fun h j v hj=>h (j,v) (qdv hj)
theorem qoZ:∀{ts:List (Nat×AV)},(ts.map Prod.fst).Nodup->∀{p:Nat×AV},p ∈ ts->(mkT ts).get p.1=some p.2
 | [],_,_,hp=>by cases hp
 | q::ts,hn,p,hp=>by
  simp only[mkT,Tr.get_set];have hn2:=List.nodup_cons.1 hn;rcases List.mem_cons.1 hp with rfl|hp
  ·rw[if_pos rfl]
  ·rw[if_neg (fun e=>hn2.1 (List.mem_map.2 ⟨p,hp,e⟩))]
   exact qoZ hn2.2 hp
theorem qhn:∀(l:List (Nat×Value)) (tm:Array Value),(l.foldl (fun tm (p,v)=>tm.setIfInBounds p v) tm).size=tm.size
 | [],_=>rfl
 | p::l,tm=>by rw[List.foldl_cons,qhn l];simp
theorem SY.mkL{b:Nat}{us:List AV}{k:AV->Hp->Prop}{r:Loop}{ts:List (Nat×AV)}{ps:List Nat}{ai bi:ICode}(hg:h.tr.get b=some (.map (zn r ts)))(hok:qos P r ps ai bi)(hfl:h.fl<=b)(hbs:b<h.sz)(hl:ps.length=us.length)
  (hA:S P h.sz ai (qCL P h.sz b bi (qxF b k)) (qkz ps us (mkT ts)) h):SY P b us h k:=by
 intro ρ B w args L hL rl hargs;obtain⟨L0,ob,hob,hrec⟩:=rl.maps b L _ hL hg;obtain⟨q,rfl,hlk,hts⟩:=hrec.rec';have hokq:=hok q hlk;obtain⟨nt,hca,hcb,hnt,hps⟩:=hokq.code
 have hsz:args.size=q.params.size:=by
  have:=hargs.length;have h2:q.params.size=ps.length:=by rw[← hokq.params];simp
  rw[h2,hl,this];simp
 refine⟨q.fn,_,q.assign,q.body,run_yield hob hsz,fun ro=>roundIn_of_wpIn trivial ?_⟩
 have hfold:(q.params.zip args).foldl (fun tmps (t,a)=>tmps.setIfInBounds t a) q.tmps=(ps.zip args.toList).foldl (fun tm (p,v)=>tm.setIfInBounds p v) q.tmps:=by
  rw[← Array.foldl_toList,Array.toList_zip,hokq.params]
 rw[hfold]
 have hT:TR σ0 ρ (qkz ps us (mkT ts)) ((ps.zip args.toList).foldl (fun tm (p,v)=>tm.setIfInBounds p v) q.tmps) :=
  qo6 hargs hl (fun p hp=>Nat.lt_of_lt_of_le (hps p hp) hnt) (qDz hts)
 have hS:=hA nt q.assign hca (Nat.le_refl _) (some L.blk) (.inr hokq.flat.1) ρ B w { tmps:=(ps.zip args.toList).foldl (fun tm (p,v)=>tm.setIfInBounds p v) q.tmps,defers:=[] } hT (by rw[qhn];exact hnt) rl
 refine wpIn_mono hS ?_;rintro e a1 w1 ⟨x1,t1,h1,ρ1,rs,hx,hq,ht1,hs1,hd1,hm,r1,k1⟩;cases hx with
 | exit id=>exact hq.elim
 | ret=>exact hq.elim
 | normal =>
  obtain⟨r',ts1,R',hg1,hrr,hRR,hB⟩:=hq;have r1:=r1.lessB (B:=B) fun k hk=>.inl hk
  have hL1:ρ1 b=some L:=(k1.ext b hbs).trans hL;obtain⟨_,ob1,hob1,hrec1⟩:=r1.maps b L _ hL1 hg1;obtain⟨q1,rfl,hlk1,hts1⟩:=hrec1.rec';refine⟨w1.putObj L.blk (.loop (Go.Kc.bsy q1)),run_beginRound hob1 (hlk1.state.trans hrr),?_⟩;obtain⟨r2,k2⟩:=r1.putMap (w':=w1.putObj L.blk (.loop (Go.Kc.bsy q1))) hL1 hg1 (by rw[k1.fl];exact hfl) hob1 (es':=zn R' ts1) (.inr (.inr ⟨_,_,_,rfl,rfl,hRR _ hlk1,hts1⟩)) rfl ⟨rfl,rfl⟩;have hSb:=hB nt q.body hcb k1.szle (some L.blk) (.inr hokq.flat.2) ρ1 B _ a1 ht1 hs1 r2;refine wpIn_mono hSb ?_;rintro e a3 w3 ⟨x3,t3,h3,ρ3,rs3,hx3,hq3,ht3,hs3,hd3,hm3,r3,k3⟩;have r3:=r3.lessB (B:=B) fun k hk=>.inl hk
  have kk:=(k1.trans (k2.kep k1.szle)).trans k3;obtain⟨r',ts',R3,hg3,hR3,hq3⟩:=hq3;have hL3:ρ3 b=some L:=(kk.ext b hbs).trans hL;obtain⟨_,ob3,hob3,hrec3⟩:=r3.maps b L _ hL3 hg3;obtain⟨q3,rfl,hlk3,hts3⟩:=hrec3.rec'
  have fin:∀(lq:Loop) (y:Bool),qdX R3 lq->lq.tmps=q3.tmps->k (.b y) (h3.put b (.map (zn R3 ts')))->(∃v v0 h' ρ',Ending.returned (Value.bool y) = .returned v0∧k v h'∧VR σ0 ρ' v v0∧Rel σ0 ρ' B h' (w3.putObj L.blk (.loop lq))∧Kept ρ B h w ρ' h' (w3.putObj L.blk (.loop lq))):=by
   intro lq y hlp htm hk;obtain⟨r4,k4⟩:=r3.putMap (w':=w3.putObj L.blk (.loop lq)) hL3 hg3 (by rw[kk.fl];exact hfl) hob3 (es':=zn R3 ts') (.inr (.inr ⟨_,_,_,rfl,rfl,hlp,by rw[htm];exact hts3⟩)) rfl ⟨rfl,rfl⟩
   exact⟨.b y,.bool y,_,ρ3,rfl,hk,.b _,r4,(kk.trans (k4.kep kk.szle)).kept rl.dn.1⟩
  have hlf:=hR3 q3 hlk3;cases hx3 with
  | normal=>exact⟨_,_,run_endRound none hob3,fin (Go.Kc.rdy q3) true hlf rfl hq3⟩
  | exit id=>exact⟨_,_,run_endRound (some (.exit id)) hob3,fin (dne q3 (.exit id)) false hlf rfl hq3⟩
  | ret=>exact⟨_,_,run_endRound (some .ret) hob3,fin (dne q3 .ret) false hlf rfl hq3⟩
theorem SY.mk{b:Nat}{us:List AV}{k:AV->Hp->Prop}{r:Loop}{ts:List (Nat×AV)}{ps:List Nat}{ai bi:ICode}(hg:h.tr.get b=some (.map (zn r ts)))(hr:r.state = .ready)(hok:LoopOk P r ps ai bi)(hfl:h.fl<=b)(hbs:b<h.sz)(hl:ps.length=us.length)
  (hA:S P h.sz ai (qEj P h.sz b r bi (qy4 b k)) (qkz ps us (mkT ts)) h):SY P b us h k:=by
 refine SY.mkL hg hok.likes hfl hbs hl ?_;intro nt code hc hn ro hro ρ B w a ht hsz rl;refine wpIn_mono (hA nt code hc hn ro hro ρ B w a ht hsz rl) ?_;rintro e a1 w1 ⟨x1,t1,h1,ρ1,rs,hx,hq,rest⟩;refine⟨x1,t1,h1,ρ1,rs,hx,?_,rest⟩;cases x1 with
 | normal=>obtain⟨ts1,g1,g2⟩:=hq;exact⟨r,ts1,Go.Kc.bsy r,g1,hr,fun q hq=>hq.bsy,g2.mono fun e t h=>qr5⟩
 | exit id=>exact hq
 | ret=>exact hq
def qvv(b:Nat)(Q:X->Tr AV->Hp->Prop)(t:Tr AV)(_:AV)(h:Hp):Prop :=
 ∃r ts,h.tr.get b=some (.map (zn r ts))∧r.state≠.busy ∧
  match r.pending with
  | none=>Q .normal t (h.put b .dead)
  | some .ret=>Q .ret t (h.put b .dead)
  | some (.exit id)=>Q (.exit id) t (h.put b .dead)
  | _=>False
def rfK(P:Program)(ps:List Nat)(ai bi:ICode)(Q:X->Tr AV->Hp->Prop)(t:Tr AV)(ts:List (Nat×AV))(h:Hp)(g:AV):Prop :=
 match g with
 | .fn f first cap=>qmC P f∧∀r0,r0.state = .ready->r0.pending=none->LoopOk P r0 ps ai bi->SC P f (first++(.yl h.sz::cap)) (h.push (.map (zn r0 ts))) (qvv h.sz Q t)
 | _=>False
def qEX(P:Program)(ps:List Nat)(ai bi:ICode)(Q:X->Tr AV->Hp->Prop)(t:Tr AV)(ts:List (Nat×AV))(h:Hp)(g:AV):Prop :=
 match g with
 | .fn f first cap=>qmC P f∧∀r0,r0.state = .ready->r0.pending=none->LoopOk P r0 ps ai bi->∃R,qdX R r0∧SC P f (first++(.yl h.sz::cap)) (h.push (.map (zn R ts))) (qvv h.sz Q t)
 | _=>False
theorem S.rangeFL{j:Nat}{g:O}{ps:List Nat}{ai bi:ICode}{Q:X->Tr AV->Hp->Prop}{t:Tr AV}{h:Hp}{ts:List (Nat×AV)}(hfl:h.fl<=h.sz)(htg:∀p ∈ ts,t.get p.1=some p.2)(hnr:qgV ai=true∧qgV bi=true)(hk:evK t g (qEX P ps ai bi Q t ts h)):S P n (.rangeF j g ps ai bi) Q t h:=by
 intro nt code hc hn ro hro ρ B w a ht hsz r
 obtain rfl:ro=none:=by
  rcases hro with h|h
  ·exact h
  ·cases h
 cases code<;>first|(simp[zd] at hc;done)|skip
 rename_i og ops oa ob;simp only[zd,Bool.and_eq_true] at hc;obtain⟨⟨⟨⟨⟨h1,h2⟩,h3⟩,h4⟩,h5⟩,h6⟩:=hc;have hreal:∀j,oa≠.goto j:=fun j hj=>by rw[hj] at h6;cases h6
 have h2:=eq_of_beq h2;obtain⟨gv,hgv,hk2⟩:=qJ ht h1 hk;cases gv<;>try exact hgv.elim
 rename_i f first cap
 obtain⟨⟨fn0,c1,c2,c3⟩,hS⟩:=hgv;obtain⟨a',c',q1,q2,q3⟩:=hk2.un_fn;have hLd:∀b L,ρ b=some L->L.blk<w.heap.size:=r.dn.2;refine wpIn_rangeFunc fun fn _=>?_
 let r0:Loop:={ state:=.ready,pending:=none,fn,tmps:=a.tmps,params:=ops,assign:=oa,body:=ob,defers:=w.heap.size }
 let W1:World:=(w.alloc (.deferred (some []))).alloc (.loop r0)
 have hold:∀k,k<w.heap.size->(w.alloc (.deferred (some []))).heap[k]?=w.heap[k]?:=fun k hk=>by
  show (w.heap.push _)[k]?=_;rw[Array.getElem?_push,if_neg (by omega)]
 have hD:(w.alloc (.deferred (some []))).heap[w.heap.size]?=some (.deferred (some [])):=World.alloc_heap_new w _
 have r1:Rel σ0 ρ (BM B [w.heap.size]) h (w.alloc (.deferred (some []))):=by
  have r':=r.world (w':=w.alloc (.deferred (some []))) hold (by simp);refine⟨r'.dom,r'.cells,r'.maps,r'.excl,r'.exclm,r'.app,fun b L hb hf hB=>?_,fun k hk=>?_,r'.frz,r'.dn⟩
  ·rcases hB with hB|hB
   ·exact r.flr b L hb hf hB
   ·have:=hLd b L hb;rw[List.mem_singleton] at hB;omega
  ·rcases hk with hk|hk
   ·have:=r.base k hk;simp;omega
   ·rw[List.mem_singleton] at hk;simp;omega
 have hts:∀p ∈ ts,p.1<r0.tmps.size∧VR σ0 ρ p.2 (r0.tmps.getD p.1 undef):=fun p hp=>ht p.1 p.2 (htg p hp)
 have hlo:LoopOk P r0 ps ai bi:=⟨h2,⟨nt,h4,h5,hsz,fun p hp=>by rw[← h2] at hp;have:=List.all_eq_true.1 h3 p hp;exact Nat.lt_of_succ_le (Nat.le_of_ble_eq_true this)⟩,hnr,hreal⟩
 obtain⟨R,hRl,hSC⟩:=hS r0 rfl rfl hlo;obtain⟨r2,k2⟩:=r1.newMap (w':=W1) (es0:=zn R ts) (o:=.loop r0) (.inr (.inr ⟨_,_,_,rfl,rfl,hRl,hts⟩)) rfl ⟨rfl,rfl⟩;have hl:(w.alloc (.deferred (some []))).heap.size=w.heap.size+1:=by simp
 rw[hl] at r2 k2;obtain⟨Lc,hLc⟩:∃Lc:Loc,Lc=⟨w.heap.size+1,0,0,0⟩:=⟨_,rfl⟩;rw[← hLc] at r2 k2;have hself:(ρ.add h.sz Lc) h.sz=some Lc:=Ren.add_self _ _ _;have hle2:=k2.mono r1.dom
 have hargs:VRs σ0 (ρ.add h.sz Lc) (first++(.yl h.sz::cap)) (a' ++ #[Value.func (.yield (w.heap.size+1)) #[] #[]]++c').toList:=by
  have hy:VR σ0 (ρ.add h.sz Lc) (.yl h.sz) (.func (.yield Lc.blk) #[] #[]):=.yl _ Lc hself;have e2:Lc.blk=w.heap.size+1:=by rw[hLc]
  rw[e2] at hy;have:=(q1.mono hle2).append (VRs.cons _ _ _ _ hy (q2.mono hle2));simpa using this
 have hcf:=qcu (P:=P) c1 c2 c3
 have hcalls:Calls P f (a' ++ #[Value.func (.yield (w.heap.size+1)) #[] #[]]++c') W1 fun e w'=>∃v v' h' ρ',e = .returned v'∧qvv h.sz Q t v h'∧VR σ0 ρ' v v'∧Rel σ0 ρ' (BM B [w.heap.size]) h' w'∧Kept (ρ.add h.sz Lc) (BM B [w.heap.size]) (h.push (.map (zn R ts))) W1 ρ' h' w':=by
  rcases hSC.2 _ _ _ _ r2 hargs with⟨_,hh⟩|⟨v,w',hh,_⟩
  ·exact hh
  ·rw[hcf] at hh;cases hh
 have hev:(({ a with defers:=qiL [w.heap.size]++a.defers }:Act)).eval og = .func (.func f) a' c':=q3;refine⟨w.heap.size+1,[{ target:=.collected w.heap.size,args:=#[] }],W1,{ target:=.fn (.func f) c',args:=a' ++ #[Value.func (.yield (w.heap.size+1)) #[] #[]] },W1,f,a' ++ #[Value.func (.yield (w.heap.size+1)) #[] #[]]++c',W1,run_enterLoop_outer _ _ _ _ _,?_,fun _ _=>trivial,?_,fun hh=>(by cases hh),qmO (Calls.mono hcalls ?_)⟩
 ·simp only[resolve,q3];simp[go_sem,Deferred.ofValue,q3]
 ·simp[invoke,hcf]
 rintro e w2 ⟨v,v',h2',ρ2,rfl,hend,hv,r3,k3⟩;obtain⟨r',ts',hg',hst,hmt⟩:=hend;have hL2:ρ2 h.sz=some Lc:=(k3.ext _ (by show _<Nat.succ _;exact Nat.lt_succ_self _)).trans hself
 obtain⟨_,ob2,hob2,hrec2⟩:=r3.maps _ Lc _ hL2 hg';obtain⟨q2,rfl,hlk2,hts2⟩:=hrec2.rec';have hob3:w2.heap[w.heap.size+1]?=some (.loop q2):=by rw[hLc] at hob2;exact hob2
 have hfl2:h2'.fl<=h.sz:=by rw[k3.fl];exact hfl
 obtain⟨re,hre⟩:∃re:Loop,re={ q2 with state:=.exhausted }:=⟨_,rfl⟩;obtain⟨re',hre'⟩:∃re':Loop,re'={ r' with state:=.exhausted }:=⟨_,rfl⟩
 have hlre:qdX re' re:=by
  have:=hlk2.set .exhausted q2.pending;rw[hre,hre'];have e:({ r' with state:=.exhausted,pending:=q2.pending }:Loop)={ r' with state:=.exhausted }:=by rw[hlk2.pending]
  rw[e] at this;exact this
 have hts4:∀p ∈ ts',p.1<re.tmps.size∧VR σ0 ρ2 p.2 (re.tmps.getD p.1 undef):=by rw[hre];exact hts2
 have hend2:=run_endLoop (P:=P) hob3 (by rw[hlk2.state];exact hst);rw[← hre] at hend2;clear hre;obtain⟨r4,k4⟩:=r3.putMap (w':=w2.putObj (w.heap.size+1) (.loop re)) hL2 hg' hfl2 hob2 (es':=zn re' ts') (.inr (.inr ⟨_,_,_,rfl,rfl,hlre,hts4⟩)) (by rw[hLc];rfl) ⟨rfl,rfl⟩
 have r5:Rel σ0 ρ2 (BM B [w.heap.size]) (h2'.put h.sz .dead) (w2.putObj (w.heap.size+1) (.loop re)):=by
  refine r4.sub rfl rfl fun b x hx hd=>?_
  simp only[Hp.put,Tr.get_set] at hx ⊢;split at hx
  ·cases hx;exact absurd rfl hd
  ·rename_i hne;rw[if_neg hne];exact hx
 have hD1:W1.heap[w.heap.size]?=some (.deferred (some [])):=by
  show ((w.alloc (.deferred (some []))).heap.push _)[w.heap.size]?=_;rw[Array.getElem?_push,if_neg (by rw[hl];omega)];exact hD
 have hD2:(w2.putObj (w.heap.size+1) (.loop re)).heap[w.heap.size]?=some (.deferred (some [])):=by
  rw[World.putObj_heap_other (by omega),k3.pres _ (.inr (by simp))];exact hD1
 have k0:Kep n ρ B h w ρ h (w.alloc (.deferred (some []))):=⟨fun _ _=>rfl,hn,rfl,fun _ _ _=>rfl,fun k hk=>hold k (r.base k hk),by simp,⟨rfl,rfl⟩,fun _ _ h=>h,fun _ _ h=>.inl h,fun _ _ h=>h⟩
 have hn2:n<=(h.push (.map (zn R ts))).sz:=Nat.le_trans hn (Nat.le_succ _);have hn3:n<=h2'.sz:=Nat.le_trans hn2 k3.szle
 have k5:Kep n ρ2 (BM B [w.heap.size]) h2' w2 ρ2 (h2'.put h.sz .dead) (w2.putObj (w.heap.size+1) (.loop re)) :=
  ⟨fun _ _=>rfl,hn3,rfl,fun b hb _=>by simp only[Hp.put,Tr.get_set];rw[if_neg (by omega)],k4.pres,k4.wle,k4.io,fun _ _ h=>h,fun _ _ h=>.inl h,fun _ _ h=>h⟩
 have kk:Kep n ρ B h w ρ2 (h2'.put h.sz .dead) (w2.putObj (w.heap.size+1) (.loop re)):=((k0.trans (k2.kep hn).bm).trans (k3.kep hn2).bm).trans k5.bm
 have fin:∀(x:X) (e:Exit),XR x e->Q x t (h2'.put h.sz .dead)->qdD σ0 Q nt n ρ B h w a.defers e { a with defers:=[{ target:=.collected w.heap.size,args:=#[] }]++a.defers } (w2.putObj (w.heap.size+1) (.loop re)):=fun x e hx hq =>
  ⟨x,t,_,ρ2,[w.heap.size],hx,hq,ht.mono (Ren.le_trans hle2 (k3.mono r2.dom)),hsz,rfl,⟨by simp,fun q hq=>by rw[List.mem_singleton] at hq;omega,fun q hq=>by rw[List.mem_singleton] at hq;subst hq;exact hD2⟩,r5,kk⟩
 refine⟨q2.pending,_,hend2,?_⟩;clear hend2;rw[hlk2.pending];generalize r'.pending=pd at hmt ⊢;cases pd with
 | none=>exact fin .normal _ .normal hmt
 | some c =>
  cases c<;>first|exact hmt.elim|skip
  ·exact wpIn_exit (fin _ _ (.exit _) hmt)
  ·exact wpIn_ret (fin _ _ .ret hmt)
theorem S.rangeF{j:Nat}{g:O}{ps:List Nat}{ai bi:ICode}{Q:X->Tr AV->Hp->Prop}{ts:List (Nat×AV)}{bl:List Blk}(_:bl.all qaL=true)(hnd:(ts.map Prod.fst).Nodup)(hnr:qgV ai=true∧qgV bi=true)(hk:evK (mkT ts) g (rfK P ps ai bi Q (mkT ts) ts (mkH 0 bl))):S P n (.rangeF j g ps ai bi) Q (mkT ts) (mkH 0 bl):=by
 refine S.rangeFL (ts:=ts) (Nat.zero_le _) (fun p hp=>qoZ hnd hp) hnr ?_
 obtain⟨v,h1,h2⟩:=qr (mkT ts) g _ hk;refine h2 _ ?_;cases v<;>try exact h1.elim
 obtain⟨hc,hh⟩:=h1;exact⟨hc,fun r0 a b hlo=>⟨r0,.inl ⟨rfl,hlo.real⟩,hh r0 a b hlo⟩⟩
end Go.Kc
end
section
namespace Go.Kc
variable {P:Program} {h:Hp}
theorem Upd.pc{f:Nat}{vs:List AV}{bs bs2:List Blk}{v:AV}{k:AV->Hp->Prop}(at':List Nat)(hu:Upd P f vs bs v bs2)(l:Lent h at' bs)(hk:k (rnv (gAt at' h.sz) v) (qcs h at' bs2)):PC P f (qaS (gAt at' h.sz) vs) h k :=
 ⟨_,_,fun _ h'=>hu.sc at' l h',hk⟩
end Go.Kc
end
section
namespace Go.Kc
variable {P:Program} {h:Hp} {t:Tr AV}
def qyc(m:Nat)(v:AV)(bs2:List Blk)(v':AV)(h':Hp):Prop:=h'.fl=0->∃src:List Nat,NV (rl src h'.sz) bs2.length v' v∧BWs h' (rl src h'.sz) bs2.length src bs2∧(List.map Prod.fst (List.filter (fun p=>decide (p.fst<h'.sz)&&qaL p.snd) (src.zip bs2))).Nodup∧∀b,b<m->rl src h'.sz b=b
theorem qyc.w{m:Nat}{v:AV}{bs2:List Blk}{v':AV}{h':Hp}(hz:qyc m v bs2 v' h')(hle:m<=bs2.length):qyd m v bs2 v' h':=by
 intro hfl;obtain⟨src,s1,s2,s3,s4⟩:=hz hfl;exact Wk.mkd [(0,v)] bs2 src ⟨⟨v',by simp[mkT,Tr.get_set],s1⟩,trivial⟩ s2 s3 hfl hle s4
theorem Upd.mkd{f:Nat}{i:IFn}{vs:List AV}{v:AV}{bs bs2:List Blk}(hc:qc P f i=true)(hb:qam bs.length vs=true)(hl:bs.length<=bs2.length)(hV:V P bs.length i.body (qac i.res (qyc bs.length v bs2)) (qcr vs 0 .leaf) (mkH 0 bs)):Upd P f vs bs v bs2 :=
 ⟨hb,hl,(SC.mk hc (qj hV)).mono fun _ _ hz=>hz.w hl⟩
end Go.Kc
end
section
namespace Go.Kc

variable {P:Program} {H:Type} {enc:TypeId×Value->H} {w:World} {t e:TypeId} {α:Type}
theorem qxU{n m:Nat}{I:α->Prop}{E:α->List AV}(ht:P.underlying t=some (.array n e))(he:qdg enc P w e I E)(hc:P.cellsOf e=m)(hct:P.cellsOf t=n*m) :
  qdg enc P w t (fun l:List α=>l.length=n∧∀a ∈ l,I a) (fun l=>l.flatMap E):=by
 intro fuel cs x hx;obtain⟨xs,k,_,_,hl,hxs,hf⟩:=DataW.trod_array ht hx
 have go:∀j,j<=n->∃l:List α,(l.length=j∧∀a ∈ l,I a)∧CRs σ0 (qlH w) (l.flatMap E) (cs.take (j*m)):=by
  intro j
  induction j with
  | zero=>intro _;exact⟨[],⟨rfl,fun _ h=>by cases h⟩,by simpa using CRs.nil⟩
  | succ j ih =>
   intro hj;obtain⟨l,⟨h1,h2⟩,h3⟩:=ih (by omega);have h4:=hf j (by omega);have hlt:j<xs.length:=by omega
   rw[zzE hlt,hc] at h4;obtain⟨a,ha,h5⟩:=he _ _ _ h4;refine⟨l++[a],⟨by simp[h1],fun b hb=>?_⟩,?_⟩
   ·rcases List.mem_append.1 hb with hb|hb
    ·exact h2 b hb
    ·rw[List.mem_singleton.1 hb];exact ha
   ·rw[List.flatMap_append,Nat.succ_mul,List.take_add];refine h3.app ?_;simpa using h5
 obtain⟨l,h1,h2⟩:=go n (Nat.le_refl _);rw[List.take_of_length_le (by omega)] at h2;exact⟨l,h1,h2⟩
end Go.Kc
end
section
namespace Go.Kc
variable {P:Program}

def qsM:Op->Bool
 | .call c=>(match c.callee with | .builtin .recover=>true|_=>false)&&c.args.isEmpty
 | _=>false
def qsH(n:Nat):Op->Bool
 | .assign (.tmp m)=>m==n
 | _=>false
def qsK(n:Nat):Op->Bool
 | .move (.tmp m)=>m==n
 | _=>false
def qzs(P:Program)(n:Nat):Op->Bool
 | .binOp .neq ty (.tmp m) y _=>m==n&&qdM .iface y&&qqz P .iface ty
 | _=>false
def qmP(o:Oper):Bool:=o.guard.isNone
def qtS(P:Program)(nt:Nat)(p q r s:Oper)(c:Nat):Bool :=
 qmP p&&qmP q&&qmP r&&qmP s&&match p.dst,q.dst,r.dst,s.dst with
  | some a,some b,some e,some c'=>Nat.blt a nt&&Nat.blt b nt&&Nat.blt e nt&&Nat.blt c nt&&c'==c&&qsM p.op&&qsH a q.op&&qsK b r.op&&qzs P e s.op
  | _,_,_,_=>false
def qtR(P:Program)(nt:Nat):Code->Bool
 | .seq (.region _ o1 false) (.seq (.region _ o2 false) (.cond (.tmp c) _ .skip))=>(match o1.toList,o2.toList with
  | [p,q],[r,s]=>qtS P nt p q r s c
  | _,_=>false)
 | _=>false
def qhj(P:Program)(f:Nat):Bool :=
 match P.funcs[f]? with
 | some fn=>fn.name != "runtime.NumGoroutine" && fn.results.isEmpty&&(match fn.body with|some c=>qtR P fn.ntmps c|none=>false)
 | none=>false
theorem qje{a:Act}{n:Nat}(h:n<a.tmps.size)(v:Value):(a.put (some n) v).eval (.tmp n)=v:=by
 simp[Act.put,Act.eval,Array.getD,h]
theorem qnq{a:Act}{o:Oper}(h:qsM o.op=true)(w:World):(execOp a.eval o).run P w = .ok .recover w:=by
 unfold qsM at h;split at h
 ·rename_i c hc;simp only[Bool.and_eq_true] at h;obtain⟨h1,h2⟩:=h;split at h1<;>try (cases h1;done)
  rename_i hb;simp[execOp,hc,resolve,hb,invoke,builtin]
 ·cases h
theorem qsI{n:Nat}{o:Op}(h:qsH n o=true):o = .assign (.tmp n):=by
 unfold qsH at h;split at h
 ·rw[eq_of_beq h]
 ·cases h
theorem qsL{n:Nat}{o:Op}(h:qsK n o=true):o = .move (.tmp n):=by
 unfold qsK at h;split at h
 ·rw[eq_of_beq h]
 ·cases h
theorem qzP(ρ:Ren){n:Nat}{a:Act}{o:Oper}(h:qzs P n o.op=true)(hv:a.eval (.tmp n) = .nilIface)(w:World):(execOp a.eval o).run P w = .ok (.value (.bool false)) w:=by
 unfold qzs at h;split at h
 ·rename_i ty m y uy ho;simp only[Bool.and_eq_true] at h;obtain⟨⟨h1,h2⟩,h3⟩:=h;obtain rfl:=eq_of_beq h1;have hx:VR σ0 ρ .nili (a.eval (.tmp m)):=by rw[hv];exact .nili
  obtain⟨c,z,g1,rfl,g2,g3,g4,g5,g6,g7⟩:=qjM (P:=P) (k:=fun c=>c=true) hx (show xM .iface .nili (fun c=>c=true) from rfl) h3 h2 w
  subst g1
  have hg:(eqGuard .neq ty (.tmp m) (.const z) (a.eval (.tmp m)) z).run P w = .ok () w:=by
   rw[hv];cases z<;>simp[eqGuard]
  refine qfV ho hg ?_;show (binOp .neq ty (a.eval (.tmp m)) z).run P w=_;rw[g6 .neq (.inr rfl)];have g2':(Op.equal ty (a.eval (.tmp m)) z).run P w = .ok true w:=g2;simp[g2']
 ·cases h
theorem qfX{o:Oper}(h:qmP o=true)(y:Nat->Option Bool):Region.wanted o y=true:=by
 unfold qmP at h;cases hg:o.guard with
 | none=>simp[Region.wanted,hg]
 | some _=>rw[hg] at h;cases h
theorem qlq{a b:Nat}(h:Nat.blt a b=true):a<b:=by simpa using h
theorem qtT(ρ:Ren){fd:Nat}(hc:qhj P fd=true)(args:Array Value)(w:World):CallsDIn (Fr none) 0 P fd args .returning w (fun e u' w'=>e = .returned (.tuple #[])∧u' = .returning∧w'=w):=by
 unfold qhj at hc;split at hc<;>try (cases hc;done)
 rename_i fn hfn;simp only[Bool.and_eq_true] at hc;obtain⟨⟨_,hres⟩,hbody⟩:=hc;split at hbody<;>try (cases hbody;done)
 rename_i c hcb;unfold qtR at hbody;split at hbody<;>try (cases hbody;done)
 rename_i i1 o1 i2 o2 c thn;split at hbody<;>try (cases hbody;done)
 rename_i p q r s hl1 hl2;unfold qtS at hbody;simp only[Bool.and_eq_true] at hbody;obtain⟨⟨⟨⟨f1,f2⟩,f3⟩,f4⟩,hb⟩:=hbody;split at hb<;>try (cases hb;done)
 rename_i a b e c' e1 e2 e3 e4;simp only[Bool.and_eq_true] at hb;obtain⟨⟨⟨⟨⟨⟨⟨⟨b1,b2⟩,b3⟩,b4⟩,b5⟩,b6⟩,b7⟩,b8⟩,b9⟩:=hb;have b1:=qlq b1;have b2:=qlq b2;have b3:=qlq b3;have b4:=qlq b4;obtain rfl:=eq_of_beq b5;have b7:=qsI b7;have b8:=qsL b8;have s1:o1 = #[p,q]:=by rw[← Array.toList_inj];exact hl1
 have s2:o2 = #[r,s]:=by rw[← Array.toList_inj];exact hl2
 subst s1 s2;refine callsDIn_of_wpSIn hfn hcb trivial fun c₀ cs hmode=>?_
 have hsz:fn.ntmps<=(args++Array.replicate (fn.ntmps-args.size) undef).size:=by simp;omega
 generalize hA:({ tmps:=args++Array.replicate (fn.ntmps-args.size) undef,defers:=[] }:Act)=A;have hsA:fn.ntmps<=A.tmps.size:=by rw[← hA];exact hsz
 have hdA:A.defers=[]:=by rw[← hA]
 have hrec:recoverD (c₀::cs)=none:=by simp[recoverD,hmode]
 have r1:=qnq (P:=P) (a:=A) b6 w;have m1:∀(x:Act),(execOp x.eval q).run P w = .ok (.value (x.eval (.tmp a))) w:=fun x=>by simp[execOp,b7]
 have m2:∀(x:Act),(execOp x.eval r).run P w = .ok (.value (x.eval (.tmp b))) w:=fun x=>by simp[execOp,b8]
 refine wpSIn_seq (wpSIn_region ?_);have hA1:(A.put (some a) .nilIface).eval (.tmp a) = .nilIface:=qje (by omega) _;generalize hB:A.put (some a) .nilIface=A1 at hA1;have z1:A1.tmps.size=A.tmps.size:=by rw[← hB,qax]
 have hA2:(A1.put (some b) .nilIface).eval (.tmp b) = .nilIface:=qje (by omega) _;generalize hC:A1.put (some b) .nilIface=A2 at hA2;have z2:A2.tmps.size=A.tmps.size:=by rw[← hC,qax,z1]
 have hA3:(A2.put (some e) .nilIface).eval (.tmp e) = .nilIface:=qje (by omega) _;generalize hD:A2.put (some e) .nilIface=A3 at hA3;have z3:A3.tmps.size=A.tmps.size:=by rw[← hD,qax,z2]
 have hA4:(A3.put (some c') (.bool false)).eval (.tmp c') = .bool false:=qje (by omega) _;generalize hE:A3.put (some c') (.bool false)=A4 at hA4;have d4:A4.defers=[]:=by rw[← hE,qaw,← hD,qaw,← hC,qaw,← hB,qaw,hdA]
 have m3:=qzP (P:=P) ρ b9 hA3 w;have l2:List.range (#[p,q]:Array Oper).size=[0,1]:=rfl;have l3:List.range (#[r,s]:Array Oper).size=[0,1]:=rfl;have g0:(#[p,q]:Array Oper)[0]?=some p:=rfl;have g1:(#[p,q]:Array Oper)[1]?=some q:=rfl;have g2:(#[r,s]:Array Oper)[0]?=some r:=rfl;have g3:(#[r,s]:Array Oper)[1]?=some s:=rfl;rw[l2];simp only[wpOpsSIn,g0,g1,qfX f1,qfX f2,if_true,r1,hrec,e1,hB,m1,hA1,e2,hC];refine⟨fun _ _=>trivial,fun _ _=>trivial,?_⟩
 refine wpSIn_seq (wpSIn_region ?_);rw[l3];simp only[wpOpsSIn,g2,g3,qfX f3,qfX f4,if_true,m2,hA2,e3,hD,m3,e4,hE];refine⟨fun _ _=>trivial,fun _ _=>trivial,?_⟩
 refine wpSIn_cond hA4 (wpSIn_of_wpIn rfl (wpIn_skip ?_));refine⟨d4,.returning,?_,.tuple #[],?_,rfl,rfl,rfl⟩
 ·cases c₀;cases hmode;rfl
 ·have:fn.results = #[]:=by simpa using hres
  rw[qj6,this];simp

def qsJ(n:Nat):Op->Bool
 | .defer c=>(match c.callee with | .value (.tmp m)=>m==n|_=>false)&&c.args.isEmpty
 | _=>false
theorem qqf{n fd:Nat}{a:Act}{o:Oper}{cap:Array Value}(h:qsJ n o.op=true)(hv:a.eval (.tmp n) = .func (.func fd) #[] cap)(w:World):(execOp a.eval o).run P w = .ok (.defer { target:=.fn (.func fd) cap,args:=#[] }) w:=by
 unfold qsJ at h;split at h
 ·rename_i c hc;simp only[Bool.and_eq_true] at h;obtain⟨h1,h2⟩:=h;split at h1<;>try (cases h1;done)
  rename_i m hb;obtain rfl:=eq_of_beq h1;have h2:c.args = #[]:=by simpa using h2
  simp[execOp,hc,resolve,hb,hv,h2,Deferred.ofValue]
 ·cases h
def qlw(P:Program)(f fd:Nat)(i:IFn):Bool :=
 qhj P fd&&match i.body with
 | .seq (.reg false rsA) (.seq (.reg false rsB) (.seq (.reg false (r0::_)) y))=>(match P.funcs[f]? with
  | some fn=>fn.name != "runtime.NumGoroutine" && (match fn.body with
   | some (.seq (.region _ oA false) (.seq (.region _ oB false) (.seq (.region _ oD false) c)))=>qcW P oA fn.ntmps oA.toList rsA&&qcW P oB fn.ntmps oB.toList rsB&&(match oD.toList,r0.dst with
    | [o0,o1],some d=>qnX P oD fn.ntmps o0 r0&&r0.guard.isNone&&qmP o0&&qmP o1&&qsJ d o1.op&&o1.dst.isNone
    | _,_=>false)&&zd P fn.ntmps c y
   | _=>false)&&qbF P fn.results.toList i.res
  | none=>false)
 | _=>false
def qvQ(fd:Nat)(r0:ROp)(t:Tr AV):Prop:=∃d cs,r0.dst=some d∧t.get d=some (.fn fd [] cs)
def VDf(P:Program)(n fd:Nat):ICode->(X->Tr AV->Hp->Prop)->Tr AV->Hp->Prop
 | .seq (.reg _ rsA) (.seq (.reg _ rsB) (.seq (.reg _ (r0::_)) y)),Q,t,h=>VG P rsA (fun t h=>VG P rsB (fun t h=>VG P [r0] (fun t h=>qvQ fd r0 t∧V P n y Q t h) t h) t h) t h
 | _,_,_,_=>False
theorem qjQ{fn:Func}{tm:Array Value}{ρ ρ':Ren}{B:Nat->Prop}{h h':Hp}{w:World}{R:Ending->World->Prop}{ds:List Deferred}(hT:∀w',Rel σ0 ρ' B h' w'->Kept ρ B h w ρ' h' w'->LeavesInM (Fr none) 0 P fn tm R ds .returning w') :
  ∀(rs:List Nat) {w':World},(∀r ∈ rs,w'.heap[r]?=some (.deferred (some [])))->rs.Nodup->(∀r ∈ rs,¬B r)->Rel σ0 ρ' B h' w'->Kept ρ B h w ρ' h' w'->LeavesInM (Fr none) 0 P fn tm R (qiL rs++ds) .returning w'
 | [],w',_,_,_,hr',hk=>hT w' hr' hk
 | r::rs,w',hm,hn,hB,hr',hk=>by
  have h1:=hm r (by simp);refine⟨by simp,.inl ⟨r,w'.putObj r (.deferred none),rfl,run_takeDeferred h1,?_⟩⟩
  have hn2:=List.nodup_cons.1 hn;refine qjQ hT rs (fun r' hr2=>?_) hn2.2 (fun r' hr2=>hB r' (by simp[hr2])) (hr'.shut h1 _) ?_
  ·rw[World.putObj_heap_other (by rintro rfl;exact hn2.1 hr2)];exact hm r' (by simp[hr2])
  ·exact⟨hk.ext,hk.szle,hk.fl,hk.akeep,fun k hb=>by rw[World.putObj_heap_other (by rintro rfl;exact hB _ (by simp) hb)];exact hk.pres k hb,by simpa using hk.wle,hk.io,hk.frz,hk.fnew,hk.nle⟩
theorem SC.mkD{f fd:Nat}{i:IFn}{vs:List AV}{h:Hp}{k:AV->Hp->Prop}(hc:qlw P f fd i=true)(hV:VDf P h.sz fd i.body (qac i.res k) (qcr vs 0 .leaf) h):SC P f vs h k:=by
 unfold qlw at hc;simp only[Bool.and_eq_true] at hc;obtain⟨hquiet,hc⟩:=hc;split at hc<;>try (cases hc;done)
 rename_i rsA rsB r0 rest y hbody;rw[hbody] at hV;split at hc<;>try (cases hc;done)
 rename_i fn hfn;simp only[Bool.and_eq_true,bne_iff_ne] at hc;obtain⟨⟨hname,hc⟩,hres⟩:=hc;split at hc<;>try (cases hc;done)
 rename_i iA oA iB oB iD oD c hcb;simp only[Bool.and_eq_true] at hc;obtain⟨⟨⟨hA,hB⟩,hD⟩,hcode⟩:=hc;split at hD<;>try (cases hD;done)
 rename_i o0 o1 d hl hd0;simp only[Bool.and_eq_true] at hD;obtain⟨⟨⟨⟨⟨hr0,hg0⟩,hf0⟩,hf1⟩,hdef⟩,hdst⟩:=hD;have sD:oD = #[o0,o1]:=by rw[← Array.toList_inj];exact hl
 subst sD;have hdst:o1.dst=none:=by simpa using hdst
 refine⟨trivial,fun ρ B w args r ha=>.inl ⟨⟨fn,hfn,hname,by rw[hcb];rfl⟩,?_⟩⟩
 have r00:=r
 have ht:TR σ0 ρ (qcr vs 0 .leaf) (args++Array.replicate (fn.ntmps-args.size) undef):=by
  intro j v hv;rcases qh4 _ _ _ _ _ hv with⟨_,h3⟩|h3
  ·simp only[Nat.sub_zero] at h3;obtain⟨v',h4,h5⟩:=ha.get h3
   have hn:j<args.size:=by
    have:=(zzS.1 h4).1;simpa using this
   refine⟨by simp;omega,?_⟩
   have:(args++Array.replicate (fn.ntmps-args.size) undef).getD j undef=v':=by
    rw[Array.getD_eq_getD_getElem?,Array.getElem?_append_left hn];rw[Array.getElem?_toList] at h4;rw[h4];rfl
   rw[this];exact h5
  ·simp at h3
 have hsize:fn.ntmps<=(args++Array.replicate (fn.ntmps-args.size) undef).size:=by simp;omega
 refine (callsIn_wide (n:=0)).1 (callsIn_of_wp_marks hfn hcb trivial ?_ rfl);refine wpIn_seq (wpIn_region ?_);have hreg:=fun K hK=>qj4 (ops:=oA) (nt:=fn.ntmps) (ro:=none) (K:=K) (ρ0:=ρ) (h0:=h) (w0:=w) (ds:=[]) (qhK P) (qdZ P) hK oA.toList rsA 0 hA rfl _ h ρ w { tmps:=args++Array.replicate (fn.ntmps-args.size) undef,defers:=[] } hV ht hsize rfl r (Kept.refl _ _ _ _)
 rw[List.range_eq_range'];refine hreg _ ?_;intro a0 w0 t0 h0 ρ0 hq0 ht0 hs0 hd0' r0' k0';refine wpIn_seq (wpIn_region ?_);have hreg2:=fun K hK=>qj4 (ops:=oB) (nt:=fn.ntmps) (ro:=none) (K:=K) (ρ0:=ρ) (h0:=h) (w0:=w) (ds:=[]) (qhK P) (qdZ P) hK oB.toList rsB 0 hB rfl _ h0 ρ0 w0 a0 hq0 ht0 hs0 hd0' r0' k0'
 rw[List.range_eq_range'];refine hreg2 _ ?_;intro a1 w1 t1 h1 ρ1 hq1 ht1 hs1 hd1 r1 k1;refine wpIn_seq (wpIn_region ?_);have l2:List.range (#[o0,o1]:Array Oper).size=[0,1]:=rfl;have g0:(#[o0,o1]:Array Oper)[0]?=some o0:=rfl;have g1:(#[o0,o1]:Array Oper)[1]?=some o1:=rfl;rw[l2];simp only[wpOpsIn,g0,qfX hf0,if_true];obtain⟨dst,rk,g⟩:=r0;simp only[qnX,Bool.and_eq_true] at hr0;obtain⟨⟨hc1,hc2⟩,hc3⟩:=hr0;have hgn:g=none:=by simpa using hg0
 subst hgn;refine qt7 (draw:=false) (qhK P) (qdZ P) r1 ht1 hc3 hq1 _ _ ?_;intro v v' h2 ρ2 w2 p1 p2 r2 k2;obtain⟨t2,q1,ht2⟩:=(ht1.mono (k2.mono r1.dom)).put hs1 hc1 p2 p1;obtain⟨⟨d',cs,q3,q4⟩,q2⟩:=q1;rw[hd0] at q3;cases q3;obtain⟨z1,z2⟩:=ht2 d _ q4;obtain⟨a',c',z3,z4,z5⟩:=z2.un_fn
 have ha':a' = #[]:=by
  generalize hL:a'.toList=L at z3;cases z3;rw[← Array.toList_inj,hL]
 subst ha';generalize hA1:a1.put o0.dst v'=A1 at ht2 z1 z5;have hsA:fn.ntmps<=A1.tmps.size:=by rw[← hA1,qax];exact hs1
 have hdA:A1.defers=[]:=by rw[← hA1,qaw];exact hd1
 have hev:A1.eval (.tmp d) = .func (.func fd) #[] c':=z5;change (if Region.wanted o1 (yielded #[o0,o1] A1.tmps)=true then o1.wpIn (Fr none) 0 P A1 w2 _ _ else _)
 rw[if_pos (qfX hf1 _)];refine⟨fun _ _=>trivial,?_⟩
 have hsem:(o1.semAt (Fr none).round A1.eval).run P w2 = .ok (.defer { target:=.fn (.func fd) c',args:=#[] }) w2:=qqf hdef hev w2;rw[hsem,Oper.uponIn_defer,hdst];have hle:h.sz<=h2.sz:=Nat.le_trans k1.szle k2.szle;have hw:=qj q2 fn.ntmps c hcode hle none (.inl rfl) ρ2 B w2 { A1 with defers:={ target:=.fn (.func fd) c',args:=#[] }::A1.defers } ht2 hsA r2;refine wpIn_mono hw ?_;rintro e a w' ⟨x,t',h',ρ',rs,hx,hq,ht',_,hd,hm,hr',hkept⟩;have hkk:Kep h.sz ρ B h w ρ' h' w':=((k1.trans k2).kep (Nat.le_refl _)).trans hkept;have hww:w.heap.size<=w2.heap.size:=(k1.trans k2).wle
 have hcod:(callFunc fd (#[]++c')).run P=fun w=>.ok (.enter fd (#[]++c')) w:=by
  funext w;have hq:=hquiet;unfold qhj at hq;split at hq<;>try (cases hq;done)
  rename_i fn' hfn';simp only[Bool.and_eq_true,bne_iff_ne] at hq;obtain⟨⟨q5,_⟩,q6⟩:=hq;split at q6<;>try (cases q6;done)
  rename_i cc hcc;exact qcu hfn' q5 (by rw[hcc];rfl) _ w
 have key:∀(k':AV->Hp->Prop),qdU t' h' i.res (fun vs=>k' (qeg vs) h')->LeavesInM (Fr none) 0 P fn a.tmps (fun e w'=>∃v v' h' ρ',e = .returned v'∧k' v h'∧VR σ0 ρ' v v'∧Rel σ0 ρ' B h' w'∧Kept ρ B h w ρ' h' w') a.defers .returning w':=by
  intro k' hq';rw[hd,hdA];have hB:Rel σ0 ρ' B h' w':=hr'.lessB fun k hk=>.inl hk
  refine qjQ ?_ rs (fun r hr=>hm.at' r hr) hm.nodup (fun r hr hb=>absurd (r00.base r hb) (Nat.not_lt.2 (Nat.le_trans hww (hm.new r hr)))) hB (hkk.kept r00.dn.1)
  intro w3 hr3 hk3;refine⟨by simp,.inr ⟨fun hh=>(by cases hh),.func fd,c',fd,#[]++c',rfl,?_,fun _ _=>trivial,?_⟩⟩
  ·show (callFunc fd (#[]++c')).run P w3=_;rw[hcod]
  ·refine (qtT ρ hquiet (#[]++c') w3).mono ?_;rintro e u' w4 ⟨rfl,rfl,rfl⟩;obtain⟨v,v',e1,e2,e3⟩:=qj7 hr3 ht' hres hq';exact⟨v',e3,v,v',h',ρ',rfl,e1,e2,hr3,hk3⟩
 cases hx with
 | exit id=>exact hq.elim
 | normal=>exact key k hq
 | ret=>exact key k hq
end Go.Kc
end
section
namespace Go.Kc
end Go.Kc
end
section
namespace Go.Kc
variable {P:Program} {h:Hp}
def Rd(P:Program)(f:Nat)(vs:List AV)(bs:List Blk)(v:AV):Prop :=
 qam bs.length vs=true∧clo v=true∧SC P f vs (mkH bs.length bs) (fun v' _=>v'=v)
theorem Rd.mk{f:Nat}{i:IFn}{vs:List AV}{v:AV}{bs:List Blk}(hc:qc P f i=true)(hb:qam bs.length vs=true)(hl:clo v=true)(hV:V P bs.length i.body (qac i.res (fun v' _=>v'=v)) (qcr vs 0 .leaf) (mkH bs.length bs)):Rd P f vs bs v :=
 ⟨hb,hl,SC.mk hc (qj hV)⟩
theorem Rd.sc{f:Nat}{vs:List AV}{bs:List Blk}{v:AV}{k:AV->Hp->Prop}(at':List Nat)(hu:Rd P f vs bs v)(l:Lent ⟨h.sz,0,h.tr⟩ at' bs)(hk:k v h):SC P f (qaS (gAt at' h.sz) vs) h k:=by
 obtain⟨hb,hcl,hu⟩:=hu;refine⟨hu.1,fun ρ B w args r ha=>?_⟩
 have r0:Rel σ0 ρ (fun _=>False) ⟨h.sz,0,h.tr⟩ w:=⟨r.dom,r.cells,r.maps,r.excl,r.exclm,r.app,fun _ _ _ _ h=>h,fun _ h=>h.elim,r.frz,r.dn⟩
 have rs:=r0.small l;have rs':Rel σ0 (ρ.small at' h.sz) (low w.heap.size) (mkH bs.length bs) w:=⟨rs.dom,rs.cells,rs.maps,rs.excl,rs.exclm,rs.app,fun b L hb hf=>absurd (rs.dom b L hb) (Nat.not_lt.2 hf),fun _ h=>h,rs.frz,rs.dn⟩
 have ha':VRs σ0 (ρ.small at' h.sz) vs args.toList:=VRs.nr (ρ:=ρ) (ρs:=ρ.small at' h.sz) (g:=gAt at' h.sz) (m:=bs.length) (fun b L hbm hbL=>by
  show (if b<at'.length then ρ (gAt at' h.sz b) else none)=some L
  rw[if_pos (by rw[l.len];exact hbm)];exact hbL) rfl l.len hb ha
 refine qce.mono (hu.2 (ρ.small at' h.sz) (low w.heap.size) w args rs' ha') ?_;rintro e w1 ⟨v0,v',h1,ρ1,rfl,rfl,g2,g3,g4⟩;have hcv:=g2.cr hcl;have f2:∀k a,ρ1.frz k=some a->ρ.frz k=some a∨w.heap.size<=k:=fun k a hk=>(g4.fnew k a hk).imp id Nat.not_lt.1
 exact⟨_,v',h,⟨ρ.loc,ρ1.frz,ρ.n⟩,rfl,hk,CR.vr (ρ:=⟨ρ.loc,ρ1.frz,ρ.n⟩) hcv,r.frz' g4.pres g4.wle g4.frz f2 (fun k a hk=>(g3.frz k a hk).1),
  ⟨fun _ _=>rfl,Nat.le_refl _,rfl,fun _ _ _=>rfl,fun k hk=>g4.pres k (r.base _ hk),g4.wle,g4.io,g4.frz,fun k a hk=>(f2 k a hk).imp id (qau r.base),Nat.le_refl _⟩⟩
theorem Rd.pc{f:Nat}{vs:List AV}{bs:List Blk}{v:AV}{k:AV->Hp->Prop}(at':List Nat)(hu:Rd P f vs bs v)(l:Lent ⟨h.sz,0,h.tr⟩ at' bs)(hk:k v h):PC P f (qaS (gAt at' h.sz) vs) h k :=
 ⟨_,_,fun _ h'=>hu.sc at' l h',hk⟩
end Go.Kc
end
section
namespace Go.Kc
section
variable {H:Type} {enc:TypeId×Value->H} {P:Program} {w:World} {α β:Type} {t e:TypeId}
theorem qfO{d:DataW H}{k:Nat}:∀{l:List (DataW H)},d ∈ l->k ∈ d.weights P e->k ∈ DataW.weightsAll P e l
 | x::l,h,hk=>by
  rw[DataW.weightsAll];rcases List.mem_cons.1 h with rfl|h
  ·exact List.mem_append_left _ hk
  ·exact List.mem_append_right _ (qfO h hk)
theorem qe4{d:DataW H}{k:Nat}:∀{ts:List TypeId} {l:List (DataW H)} {i:Nat},ts[i]?=some t->l[i]?=some d->k ∈ d.weights P t->k ∈ DataW.weightsEach P ts l
 | u::ts,x::l,0,h1,h2,hk=>by
  simp at h1 h2;subst h1 h2;rw[DataW.weightsEach];exact List.mem_append_left _ hk
 | u::ts,x::l,i+1,h1,h2,hk=>by
  rw[DataW.weightsEach];exact List.mem_append_right _ (qe4 (i:=i) (by simpa using h1) (by simpa using h2) hk)
 | [],_,_,h,_,_=>by simp at h
 | _::_,[],_,_,h,_=>by simp at h
def qdC(enc:TypeId×Value->H)(P:Program)(w:World)(t:TypeId)(I:α->Prop)(E:α->List AV):Prop :=
 ∀(fuel:Nat) (cs:List Value) x,DataW.trod enc P w 0 (fun _=>true) true fuel t cs=some x->(∀k ∈ x.1.weights P t,k<=reachBytes)->∃a,I a∧CRs σ0 (qlH w) (E a) cs
theorem qdg.ww{I:α->Prop}{E:α->List AV}(h:qdg enc P w t I E):qdC enc P w t I E:=fun fuel cs x hx _=>h fuel cs x hx
theorem qwA{I:α->Prop}{E:α->List AV}{m:Nat}(ht:P.underlying t=some (.slice e))(he:qdC enc P w e I E)(hE:∀a,(E a).length=m)(hc:P.cellsOf e=m)(hm:0<m) :
  qdC enc P w t (fun l:List α=>l.length*P.bytesOf e<=reachBytes∧∀a ∈ l,I a) (fun l=>[.fz l.length (l.flatMap E)]):=by
 intro fuel cs x h hwt;rcases DataW.trod_slice ht h with⟨rfl,_⟩|⟨a,len,cap,elems,rest,n,_,rfl,rfl,_,hl,hmx,hlen,hel,hsp,_⟩
 ·exact⟨[],⟨by simp,fun _ h=>by cases h⟩,.cons _ _ _ _ (.fz0 none) .nil⟩
 obtain⟨hrl,hr⟩:=hsp rfl;have hw1:(elems.length+rest.length)*P.bytesOf e<=reachBytes:=hwt _ (by unfold DataW.weights;rw[ht];simp)
 have hw2:∀d ∈ elems,∀k ∈ d.1.weights P e,k<=reachBytes:=fun d hd k hk=>hwt _ (by
  unfold DataW.weights;rw[ht];refine List.mem_cons_of_mem _ (List.mem_append_left _ (qfO (List.mem_map_of_mem hd) hk)))
 rcases Nat.eq_zero_or_pos cap with h0|hpos
 ·subst h0;obtain rfl:len=0:=by omega
  exact⟨[],⟨by simp,fun _ h=>by cases h⟩,.cons _ _ _ _ (.fz0 (some a)) .nil⟩
 have first:∃v,w.cell? a=some v:=by
  have:∃cs',w.cells? 0 (a.add (0*P.cellsOf e)) (P.cellsOf e)=some cs':=by
   rcases Nat.eq_zero_or_pos len with h1|h1
   ·have:=hr 0 (by omega);have hlt:0<rest.length:=by omega
    rw[zzE hlt,Option.bind_eq_some_iff] at this;obtain⟨c,hc',_⟩:=this;subst h1;exact⟨c,hc'⟩
   ·have:=hel 0 h1;have hlt:0<elems.length:=by omega
    rw[zzE hlt,Option.bind_eq_some_iff] at this;obtain⟨c,hc',_⟩:=this;exact⟨c,hc'⟩
  obtain⟨cs',h2⟩:=this;obtain⟨_,q1,q2⟩:=World.cells?_some h2;have:=q2 0 (by omega);rw[zzE (by omega)] at this;simp only[Nat.zero_mul,Addr.add,if_true] at this;exact⟨_,this⟩
 obtain⟨v0,hv0⟩:=first
 obtain⟨hs,arr,ty,fz,hb,_⟩:=qoC hv0
 have key:∀k,k<=len->∃l:List α,l.length=k∧(∀b ∈ l,I b)∧CRs σ0 (qlH w) (l.flatMap E) ((arr.toList.drop a.off).take (k*m)):=by
  intro k
  induction k with
  | zero=>intro _;exact⟨[],rfl,(fun _ h=>by cases h),by simpa using .nil⟩
  | succ k ih =>
   intro hk;obtain⟨l,h1,h2,h3⟩:=ih (by omega);have hk':=hel k (by omega);have hlt:k<elems.length:=by omega
   rw[zzE hlt,Option.bind_eq_some_iff] at hk';obtain⟨c,hcs,htr⟩:=hk';obtain⟨_,q1,q2⟩:=World.cells?_some hcs;obtain⟨b,hb1,hb2⟩:=he _ _ _ htr (hw2 _ (List.getElem_mem hlt))
   have e1:c=((arr.toList.drop a.off).drop (k*m)).take m:=by
    refine List.ext_getElem? fun j=>?_
    by_cases hj:j<m
    ·have:=q2 j (by omega);rw[← this]
     have e2:w.cell? ((a.add (k*P.cellsOf e)).add j)=arr[a.off+(k*m+j)]?:=by
      have ha:(a.add (k*P.cellsOf e)).add j=⟨a.block,a.off+(k*m+j),none⟩:=by
       unfold Addr.add;rw[hc];split
       ·split
        ·rename_i h4 h5;rw[h4,h5];cases a;simp_all
        ·rename_i h4 h5;rw[h4];simp
       ·split
        ·rename_i h4 h5;rw[h5];cases a;simp_all
        ·simp;omega
      rw[ha];simp[World.cell?,hb]
     rw[e2,List.getElem?_take_of_lt hj,List.getElem?_drop,List.getElem?_drop];simp[Array.getElem?_toList]
    ·rw[List.getElem?_eq_none (by omega),List.getElem?_eq_none];simp;omega
   refine⟨l++[b],by simp[h1],fun x hx=>?_,?_⟩
   ·rcases List.mem_append.1 hx with hx|hx
    ·exact h2 x hx
    ·obtain rfl:=List.mem_singleton.1 hx;exact hb1
   ·rw[List.flatMap_append,Nat.succ_mul,List.take_add,← e1];simpa using h3.app hb2
 obtain⟨l,h1,h2,h3⟩:=key len (Nat.le_refl _);refine⟨l,⟨Nat.le_trans (Nat.mul_le_mul_right _ (by omega)) hw1,h2⟩,.cons _ _ _ _ ?_ .nil⟩
 have hfl:(l.flatMap E).length=len*m:=by
  rw[← h1];clear h1 h2 h3
  induction l with
  | nil=>simp
  | cons x l ih=>simp[hE,ih,Nat.succ_mul,Nat.add_comm]
 obtain⟨blk,off,spot⟩:=a;cases hs;rw[h1];exact .fz len off cap _ blk arr hl (qhq.2 ⟨ty,fz,hb⟩) (by rw[hfl];exact h3)
def qiW(enc:TypeId×Value->H)(P:Program)(w:World)(fs:List Field)(o n:Nat)(I:α->Prop)(E:α->List AV):Prop :=
 (∀a,(E a).length=n)∧∀(fuel:Nat) (cs:List Value),(∀f ∈ fs,∃x,DataW.trod enc P w 0 (fun _=>true) true fuel f.type ((cs.drop f.offset).take (P.cellsOf f.type))=some x∧∀k ∈ x.1.weights P f.type,k<=reachBytes)->∃a,I a∧CRs σ0 (qlH w) (E a) ((cs.drop o).take n)
theorem qxS{o:Nat}:qiW enc P w [] o 0 (fun _:Unit=>True) (fun _=>[]):=⟨fun _=>rfl,fun _ cs _=>⟨(),trivial,by simpa using .nil⟩⟩
theorem qwz{f:Field}{fs:List Field}{o m n:Nat}{I:α->Prop}{E:α->List AV}{J:β->Prop}{F:β->List AV}(h:qdC enc P w f.type I E)(hE:∀a,(E a).length=m)(ho:f.offset=o)(hc:P.cellsOf f.type=m)
  (hr:qiW enc P w fs (o+m) n J F):qiW enc P w (f::fs) o (m+n) (fun p:α×β=>I p.1∧J p.2) (fun p=>E p.1++F p.2):=by
 refine⟨fun p=>by simp[hE,hr.1],fun fuel cs hf=>?_⟩
 obtain⟨x,hx,hxw⟩:=hf f (List.mem_cons_self ..);obtain⟨a,ha,h1⟩:=h _ _ _ hx hxw;obtain⟨b,hb,h2⟩:=hr.2 fuel cs fun g hg=>hf g (List.mem_cons_of_mem _ hg)
 refine⟨(a,b),⟨ha,hb⟩,?_⟩;rw[ho,hc] at h1;rw[List.take_add,List.drop_drop];exact h1.app h2
theorem quH{fs:Array Field}{n:Nat}{I:α->Prop}{E:α->List AV}(ht:P.underlying t=some (.struct fs))(hc:P.cellsOf t=n)(h:qiW enc P w fs.toList 0 n I E):qdC enc P w t I E:=by
 intro fuel cs x hx hwt;obtain⟨xs,m,rfl,rfl,hl,hxs,hf⟩:=DataW.trod_struct ht hx
 obtain⟨a,ha,h1⟩:=h.2 m cs fun f hfm=>by
  obtain⟨i,hi⟩:=List.getElem?_of_mem hfm;have hi':fs[i]?=some f:=by simpa using hi
  have:=hf i f hi'
  have hlt:i<xs.length:=by
   rw[hxs];exact (Array.getElem?_eq_some_iff.1 hi').1
  rw[zzE hlt] at this;refine⟨_,this,fun k hk=>hwt _ ?_⟩
  unfold DataW.weights;rw[ht];exact qe4 (i:=i) (t:=f.type) (d:=xs[i].1) (by rw[List.getElem?_map,hi];rfl) (by rw[List.getElem?_map,zzE hlt];rfl) hk
 refine⟨a,ha,?_⟩;rwa [List.drop_zero,List.take_of_length_le (by omega)] at h1
theorem qdC.map{I:α->Prop}{E:α->List AV}{J:β->Prop}{F:β->List AV}(h:qdC enc P w t I E)(g:α->β)(hg:∀a,I a->J (g a)∧F (g a)=E a):qdC enc P w t J F:=by
 intro fuel cs x hx hw;obtain⟨a,ha,h1⟩:=h _ _ _ hx hw;exact⟨g a,(hg a ha).1,by rw[(hg a ha).2];exact h1⟩
theorem qdC.agg [TabOk w]{I:α->Prop}{E:α->List AV}(h:qdC enc P w t I E){v:Value}{d:DataW H}{p:List MemPlace}(ha:∃cs,v = .agg cs)(hd:DataW.Trod enc P w 0 (fun _=>true) true t v d p)(hw:∀k ∈ d.weights P t,k<=reachBytes):∃a,I a∧VR σ0 (ice w) (.agg (E a)) v:=by
 obtain⟨cs,rfl⟩:=ha;obtain⟨fuel,hd⟩:=hd;obtain⟨a,h1,h2⟩:=h _ _ _ hd hw;exact⟨a,h1,.agg _ _ h2.vr⟩
end
end Go.Kc
end
section
namespace Go.Kc
variable {P:Program} {f:Nat}

def qg2(q:IntKind)(p:List UInt8×Int):List AV:=[.s p.1,.i q p.2]
theorem qt9{q:IntKind}(p:List UInt8×Int):(qg2 q p).length=2:=rfl
def qcU(P:Program)(g esz bytes:Nat):Prop:=∀(n:Nat) (rows:List AV),rows.length=n*esz->qu rows=true->qE rows=true->n<=qg->n*bytes<=qg->Own P g [.fz n rows] (.own 0 n) [.cells esz true true rows]


end Go.Kc
end
section
namespace Go.Kc
end Go.Kc
end
section
namespace Go.Kc
def rI(k:IntKind)(l:List Int):List AV:=l.map (.i k)
section
variable {k:IntKind} {l m:List Int} {j:Nat}
theorem qaM:(rI k l).length=l.length:=by simp[rI]
theorem x5:qu (rI k l)=true:=qcX fun _=>rfl
theorem qDw:qE (rI k l)=true:=qpW fun _=>rfl
theorem qlV:(rI k l)[j]?=(l[j]?).map (.i k):=by simp[rI]
theorem qwK{x:Int}:rI k (x::l) = .i k x::rI k l:=rfl
end
section
variable {l m:List (List UInt8)} {j:Nat}
end
end Go.Kc
end
section
namespace Go.Kc
variable {P:Program} {f:Nat}
def xy{α:Type}(p:α->Bool):List α->Nat->Int
 | [],_=>-1
 | x::xs,j=>if p x=true then (j:Int) else xy p xs (j+1)
theorem qic{α:Type}(p:α->Bool):∀(l:List α) (j:Nat),(xy p l j = -1∧l.find? p=none)∨∃i x,xy p l j=((j+i:Nat):Int)∧l[i]?=some x∧p x=true∧l.find? p=some x∧∀k y,k<i->l[k]?=some y->p y=false
 | [],j=>.inl ⟨rfl,rfl⟩
 | x::xs,j=>by
  by_cases h:p x=true
  ·refine .inr ⟨0,x,by simp[xy,h],rfl,h,by simp[h],fun k y hk=>by omega⟩
  ·rcases qic p xs (j+1) with⟨h1,h2⟩|⟨i,y,h1,h2,h3,h4,h5⟩
   ·exact .inl ⟨by simp[xy,h,h1],by simp[h,h2]⟩
   ·refine .inr ⟨i+1,y,?_,by simpa using h2,h3,by simp[h,h4],?_⟩
    ·rw[xy,if_neg h,h1];omega
    ·intro k z hk hz;cases k with
     | zero=>simp at hz;subst hz;simpa using h
     | succ k=>exact h5 k z (by omega) (by simpa using hz)
def qrD(P:Program)(f:Nat):Prop:=∀{α:Type} (enc:α->AV) (p:α->Bool) (g:Nat) (a c:List AV) (l:List α),qu a=true->qu c=true->l.length<=qg->
 (∀x ∈ l,qd P g (a++([enc x]++c)) (.b (p x)))->qd P f [.fz l.length (l.map enc),.fn g a c] (.i .i64 (xy p l 0))
def qgH(m:Nat)(P:Program)(f:Nat):Prop:=∀{α:Type} (enc:α->List AV) (p:α->Bool) (g:Nat) (a c:List AV) (l:List α),(∀x,(enc x).length=m)->qu a=true->qu c=true->l.length<=qg->
 (∀x ∈ l,qd P g (a++([.agg (enc x)]++c)) (.b (p x)))->qd P f [.fz l.length (l.flatMap enc),.fn g a c] (.i .i64 (xy p l 0))
def qak:IFn:=⟨[.tmp 4],.seq (.r [.m 4 (.k 0)]) (.seq (.seq (.r [.n 6 0,.e 7 6,.m 8 (.k 0)]) (.blk 0 (.loop (.seq (.r [.s 9 8 7]) (.seq (.cond (.t 9) (.skip) (.exit 0)) (.seq (.blk 1 (.seq (.r [.n 10 8,.n 5 10]) (.seq (.r [.n 11 1,.n 12 0,.n 13 5,.i 14 1 12 13,.d 15 14,⟨(some 16),.callV (.t 11) [.t 15],none⟩]) (.cond (.t 16) (.seq (.r [.n 17 5,.n 4 17]) (.ret)) (.skip))))) (.r [.a 18 8 1,.n 8 18]))))))) (.seq (.r [.q 4 (.mov (.c (.i .i64 (-1))))]) (.ret)))⟩
theorem quG(hc:qc P f qak=true):qrD P f:=by
 intro α enc p g a c l ha hc' hl hp;refine qd.mk hc (by simp[qu,clo,ha,hc']) ?_;simp only[qak,vI,simprocAttr];simp only[↓vS,vT,simprocAttr];refine SL.loop (α:=Nat) (fun j=>[(0,.fz l.length (l.map enc)),(1,.fn g a c),(7,.i .i64 l.length),(8,.i .i64 j)]) (fun _=>[]) (fun j=>j<=l.length∧xy p l 0=xy p (l.drop j) j) (fun j=>l.length-j) 0 [] ?_ ?_ ?_ rfl ?_ ?_
 ·simp[vw,qh,ha,hc']
 ·trivial
 ·simp
 ·simp
 rintro j ⟨hj,hI⟩ G ih;simp only[vI,simprocAttr]
 by_cases hlt:j<l.length
 ·have hx:l[j]?=some l[j]:=zzE hlt;have hw:IntKind.wrap .i64 ((j:Int)+1)=(j:Int)+1:=qq (by omega) (by have:=hl;simp only[qg] at this;omega)
  rw[List.drop_eq_getElem_cons hlt,xy] at hI;simp only[↓vS,vT,simprocAttr,hlt,Nat.mul_one,List.getElem?_map,hx,Option.map_some,hw];refine (hp l[j] (List.getElem_mem hlt)).sc ?_
  by_cases hpx:p l[j]=true
  ·rw[if_pos hpx] at hI;simp only[↓vS,vT,simprocAttr,hpx,vZ,hI]
  ·rw[if_neg hpx] at hI;simp only[↓vS,vT,simprocAttr,hpx,hw];refine ih (j+1) ⟨by omega,hI⟩ (by omega) _ _ (Wk.mk _ _ [] ?_ ?_ ?_ rfl)
   ·simp[vw,qh,ha,hc']
   ·trivial
   ·simp
 ·simp only[↓vS,vT,simprocAttr,hlt];rw[List.drop_eq_nil_of_le (by omega)] at hI;simp[hI,xy,vZ]
def zZ:IFn:=⟨[.tmp 4],.seq (.r [.m 4 (.k 0)]) (.seq (.seq (.r [.n 6 0,.e 7 6,.m 8 (.k 0)]) (.blk 0 (.loop (.seq (.r [.s 9 8 7]) (.seq (.cond (.t 9) (.skip) (.exit 0)) (.seq (.blk 1 (.seq (.r [.n 10 8,.n 5 10]) (.seq (.r [.n 11 1,.n 12 0,.n 13 5,.i 14 2 12 13,.v 15 2 14,⟨(some 16),.callV (.t 11) [.t 15],none⟩]) (.cond (.t 16) (.seq (.r [.n 17 5,.n 4 17]) (.ret)) (.skip))))) (.r [.a 18 8 1,.n 8 18]))))))) (.seq (.r [.q 4 (.mov (.c (.i .i64 (-1))))]) (.ret)))⟩
theorem qsF(hc:qc P f zZ=true):qgH 2 P f:=by
 intro α enc p g a c l hlen ha hc' hl hp;refine qd.mk hc (by simp[qu,clo,ha,hc']) ?_;simp only[zZ,vI,simprocAttr];simp only[↓vS,vT,simprocAttr];refine SL.loop (α:=Nat) (fun j=>[(0,.fz l.length (l.flatMap enc)),(1,.fn g a c),(7,.i .i64 l.length),(8,.i .i64 j)]) (fun _=>[]) (fun j=>j<=l.length∧xy p l 0=xy p (l.drop j) j) (fun j=>l.length-j) 0 [] ?_ ?_ ?_ rfl ?_ ?_
 ·simp[vw,qh,ha,hc']
 ·trivial
 ·simp
 ·simp
 rintro j ⟨hj,hI⟩ G ih;simp only[vI,simprocAttr]
 by_cases hlt:j<l.length
 ·have hx:l[j]?=some l[j]:=zzE hlt;have hw:IntKind.wrap .i64 ((j:Int)+1)=(j:Int)+1:=qq (by omega) (by have:=hl;simp only[qg] at this;omega)
  have he:=zj hlen hx;have hb:j*2+2<=(l.flatMap enc).length:=by rw[zl hlen];omega
  rw[List.drop_eq_getElem_cons hlt,xy] at hI;simp only[↓vS,vT,simprocAttr,hlt,hb,he,hw];refine (hp l[j] (List.getElem_mem hlt)).sc ?_
  by_cases hpx:p l[j]=true
  ·rw[if_pos hpx] at hI;simp only[↓vS,vT,simprocAttr,hpx,vZ,hI]
  ·rw[if_neg hpx] at hI;simp only[↓vS,vT,simprocAttr,hpx,hw];refine ih (j+1) ⟨by omega,hI⟩ (by omega) _ _ (Wk.mk _ _ [] ?_ ?_ ?_ rfl)
   ·simp[vw,qh,ha,hc']
   ·trivial
   ·simp
 ·simp only[↓vS,vT,simprocAttr,hlt];rw[List.drop_eq_nil_of_le (by omega)] at hI;simp[hI,xy,vZ]




def qZ:List (List UInt8×Int):=[([120,56,54,45,54,52],3221225534),([120,56,54],1073741827),([120,51,50],3221225534),([97,114,109],1073741864),([97,114,109,54,52],3221225655),([114,105,115,99,118,54,52],3221225715)]
def qgh:IFn:=⟨[.cell 0 12 true],.seq (.r [.q 0 (.alloc [.s [],.i .u32 0,.s [],.i .u32 0,.s [],.i .u32 0,.s [],.i .u32 0,.s [],.i .u32 0,.s [],.i .u32 0])]) (.seq (.r [.q 1 (.build [.s [],.i .u32 0] [(0,1,(.c (.s [120,56,54,45,54,52]))),(1,1,(.c (.i .u32 3221225534)))]),.q 2 (.build [.s [],.i .u32 0] [(0,1,(.c (.s [120,56,54]))),(1,1,(.c (.i .u32 1073741827)))]),.q 3 (.build [.s [],.i .u32 0] [(0,1,(.c (.s [120,51,50]))),(1,1,(.c (.i .u32 3221225534)))]),.q 4 (.build [.s [],.i .u32 0] [(0,1,(.c (.s [97,114,109]))),(1,1,(.c (.i .u32 1073741864)))]),.q 5 (.build [.s [],.i .u32 0] [(0,1,(.c (.s [97,114,109,54,52]))),(1,1,(.c (.i .u32 3221225655)))]),.q 6 (.build [.s [],.i .u32 0] [(0,1,(.c (.s [114,105,115,99,118,54,52]))),(1,1,(.c (.i .u32 3221225715)))]),.q 7 (.build [.s [],.i .u32 0,.s [],.i .u32 0,.s [],.i .u32 0,.s [],.i .u32 0,.s [],.i .u32 0,.s [],.i .u32 0] [(0,2,(.t 1)),(2,2,(.t 2)),(4,2,(.t 3)),(6,2,(.t 4)),(8,2,(.t 5)),(10,2,(.t 6))]),.u (.store 12 (.t 0) (.t 7))]) (.ret))⟩
theorem qyv(hc:qc P f qgh=true):qd P f [] (.agg (qZ.flatMap (qg2 .u32))):=by
 refine qd.mk hc rfl ?_;simp only[qgh,vI,simprocAttr];simp only[↓vS,vT,simprocAttr,qZ,qg2,List.flatMap_cons,List.flatMap_nil,vZ]
def qhs(a b:Nat):IFn:=⟨[.tmp 2],.seq (.r [.m 2 (.k 0)]) (.seq (.r [.l 4 a [],.q 3 (.alloc [.s [],.i .u32 0,.s [],.i .u32 0,.s [],.i .u32 0,.s [],.i .u32 0,.s [],.i .u32 0,.s [],.i .u32 0]),.u (.store 12 (.t 3) (.t 4))]) (.seq (.r [.q 5 (.slcA 6 2 (.t 3) none none none),.n 6 0,.l 7 b [.t 5,.t 6],.n 2 7]) (.ret)))⟩
def qkJ(P:Program)(f:Nat):Prop:=∀(p:List UInt8×Int->Bool) (g:Nat) (a c:List AV),qu a=true->qu c=true->(∀x ∈ qZ,qd P g (a++([.agg (qg2 .u32 x)]++c)) (.b (p x)))->qd P f [.fn g a c] (.i .i64 (xy p qZ 0))
theorem qBl{g1 g2:Nat}(hc:qc P f (qhs g1 g2)=true)(h1:qd P g1 [] (.agg (qZ.flatMap (qg2 .u32))))(h2:qgH 2 P g2):qkJ P f:=by
 intro p g a c ha hcc hp;refine qd.mk hc (by simp[qu,clo,ha,hcc]) ?_;simp only[qhs,vI,simprocAttr];simp only[↓vS,vT,simprocAttr];refine h1.sc ?_;simp only[↓vS,vT,simprocAttr,qZ,qg2,List.flatMap_cons,List.flatMap_nil];refine (h2 (qg2 .u32) p g a c qZ qt9 ha hcc (by decide) hp).lend (vs':=[.fz 6 (qZ.flatMap (qg2 .u32)),.fn g a c]) ?_ rfl ?_
 ·refine .cons _ _ _ _ (.cut 2 rfl (Nat.le_refl _) ?_) (.cons _ _ _ _ (.fn _ _ _ _ _ (Frzs.self ha) (Frzs.self hcc)) .nil);simp[vw,qZ,qg2]
 simp only[↓vS,vT,simprocAttr,vZ,qZ]
end Go.Kc
end
section
namespace Go.Kc
structure GCall where
 name:List UInt8
 act:Int
def qCx(c:GCall):List AV:=[.s c.name,.i .u32 c.act]
structure GNote where
 file:List UInt8
 line:Int
 err:Int
 text:List UInt8
structure Asg where
 file:List UInt8
 line:Int
 sec:List UInt8
 key:List UInt8
 val:List UInt8
def rC(l:List GCall):List AV:=l.flatMap qCx
section
variable {l m:List GCall} {j:Nat}
end
section
variable {l m:List GNote} {j:Nat}
end
structure GList where
 mode:Int
 calls:List GCall
def qxs(l:GList):List AV:=[.i .u8 l.mode,.fz l.calls.length (rC l.calls)]
structure Pol where
 arches:List Int
 filter:GList
 deny:Int
 log:GList
 fams:List Int
 fmode:Int
 spaces:Int
 we:Bool
 pe:Bool
 rt:Bool
 np:Bool
end Go.Kc
end
section
namespace Go.Kc
variable {P:Program} {f:Nat}






end Go.Kc
end
section
namespace Go.Kc
def qB5(p:Pol):Prop:=p.arches.Pairwise (· < ·)∧p.fams.Pairwise (· < ·)
instance (p:Pol):Decidable (qB5 p):=inferInstanceAs (Decidable (_∧_))
end Go.Kc
end
section
namespace Go.Kc
variable {P:Program} {f:Nat}




def qoI(l:List GCall)(s:List UInt8):Option GCall:=l.find? (fun c=>decide (c.name=s))









end Go.Kc
end
section
namespace Go.Kc
variable (E:List UInt8->List (List UInt8)×Int)
end Go.Kc
end
section
namespace Go.Kc
end Go.Kc
end
section
namespace Go.Kc
end Go.Kc
end
section
namespace Go.Kc
variable (E:List UInt8->List (List UInt8)×Int)
variable {E}
end Go.Kc
end
section
namespace Go.Kc
variable {P:Program} {f:Nat}


def qrC(P:Program)(f:Nat):Prop:=∀(l:GList) (s:List UInt8),l.calls.length<=100000->qd P f [.agg (qxs l),.s s] (.tup [.i .u32 (match qoI l.calls s with|some c=>c.act|none=>0),.b (qoI l.calls s).isSome])
def qjY(a:Asg)(n:GNote):GNote:=⟨a.file,a.line,n.err,n.text⟩









def qky(x:Int):List Int->Nat->Int
 | [],_=>-1
 | y::ys,j=>if x=y then (j:Int) else qky x ys (j+1)




theorem qoe{k:IntKind}{L:List Int}{j:Nat}(h:j<L.length)(x:Int):(rI k L).take j++(AV.i k x::(rI k L).drop (j+1))=rI k (L.set j x):=by
 unfold rI;rw[List.set_eq_take_append_cons_drop,if_pos h,List.map_append,List.map_cons,List.map_take,List.map_drop]
def qba:IFn:=⟨[.tmp 4],.seq (.r [.m 4 (.k 0)]) (.seq (.seq (.r [.n 6 0,.e 7 6,.m 8 (.k 0)]) (.blk 0 (.loop (.seq (.r [.s 9 8 7]) (.seq (.cond (.t 9) (.skip) (.exit 0)) (.seq (.blk 1 (.seq (.r [.n 10 8,.n 5 10]) (.seq (.r [.n 11 1,.n 12 0,.n 13 5,.i 14 1 12 13,.d 15 14,.b 16 .eql 11 15]) (.cond (.t 16) (.seq (.r [.n 17 5,.n 4 17]) (.ret)) (.skip))))) (.r [.a 18 8 1,.n 8 18]))))))) (.seq (.r [.q 4 (.mov (.c (.i .i64 (-1))))]) (.ret)))⟩
theorem qBE(hc:qc P f qba=true)(xs:List Int)(x:Int)(hl:xs.length<=qg):qd P f [.fz xs.length (rI .i64 xs),.i .i64 x] (.i .i64 (qky x xs 0)):=by
 refine qd.mk hc (by simp[qu,clo,x5]) ?_;simp only[qba,vI,simprocAttr];simp only[↓vS,vT,simprocAttr];refine SL.loop (α:=Nat) (fun j=>[(0,.fz xs.length (rI .i64 xs)),(1,.i .i64 x),(7,.i .i64 xs.length),(8,.i .i64 j)]) (fun _=>[]) (fun j=>j<=xs.length∧qky x xs 0=qky x (xs.drop j) j) (fun j=>xs.length-j) 0 [] ?_ ?_ ?_ rfl ?_ ?_
 ·simp[vw,x5]
 ·trivial
 ·simp
 ·simp
 rintro j ⟨hj,hI⟩ G ih;simp only[vI,simprocAttr]
 by_cases hlt:j<xs.length
 ·have hx:xs[j]?=some xs[j]:=zzE hlt;have hw:IntKind.wrap .i64 ((j:Int)+1)=(j:Int)+1:=qq (by omega) (by have:=hl;simp only[qg] at this;omega)
  rw[List.drop_eq_getElem_cons hlt,qky] at hI;simp only[↓vS,vT,simprocAttr,hlt,Nat.mul_one,qlV,hx,Option.map_some,hw];split
  ·rename_i he;simp only[he,vZ,if_true] at hI ⊢;simp[hI]
  ·rename_i he;rw[if_neg he] at hI;refine ih (j+1) ⟨by omega,hI⟩ (by omega) _ _ (Wk.mk _ _ [] ?_ ?_ ?_ rfl)
   ·simp[vw,x5]
   ·trivial
   ·simp
 ·simp only[↓vS,vT,simprocAttr,hlt,vZ];rw[List.drop_eq_nil_of_le (by omega)] at hI;simp[hI,qky]
theorem qmZ(x:Int):∀(l:List Int) (j:Nat),decide (0<=qky x l j)=decide (x ∈ l)
 | [],j=>by simp[qky]
 | y::l,j=>by
  rw[qky]
  by_cases h:x=y
  ·simp[h]
  ·rw[if_neg h,qmZ x l (j+1)];simp[h]
def qas(a:Nat):IFn:=⟨[.tmp 4],.seq (.r [.m 4 .F]) (.seq (.r [.n 5 0,.n 6 1,.l 7 a [.t 5,.t 6],.w 8 .geq 7 0,.n 4 8]) (.ret))⟩
theorem qvm{g:Nat}(hc:qc P f (qas g)=true)(hg:∀(xs:List Int) (x:Int),xs.length<=qg->qd P g [.fz xs.length (rI .i64 xs),.i .i64 x] (.i .i64 (qky x xs 0)))(xs:List Int)(x:Int)(hl:xs.length<=qg):qd P f [.fz xs.length (rI .i64 xs),.i .i64 x] (.b (decide (x ∈ xs))):=by
 refine qd.mk hc (by simp[qu,clo,x5]) ?_;simp only[qas,vI,simprocAttr];simp only[↓vS,vT,simprocAttr];refine (hg xs x hl).sc ?_;simp only[↓vS,vT,simprocAttr];simp[vZ,← qmZ x xs 0]
def qhJ(n:Int):List (List UInt8×Int)->List UInt8
 | []=>[]
 | p::l=>if p.2=n then p.1 else qhJ n l
theorem qm0{α:Type}(p:α->Bool):∀(l:List α) (j:Nat),decide (0<=xy p l j)=l.any p
 | [],j=>by simp[xy]
 | x::l,j=>by
  rw[xy]
  by_cases h:p x=true
  ·simp[h]
  ·rw[if_neg h,qm0 p l (j+1)];simp[h]
section
variable {g1 g2 g3 g4:Nat}
end
structure GTest where
 arg:Int
 mask:Int
 val:Int
 act:Int
def zQ(t:GTest):List AV:=[.i .i64 t.arg,.i .u64 t.mask,.i .u64 t.val,.i .u32 t.act]
theorem qcE(t:GTest):(zQ t).length=4:=rfl
def rT(l:List GTest):List AV:=l.flatMap zQ
structure GRule where
 nr:Int
 tests:List GTest
 act:Int
def qM(r:GRule):List AV:=[.i .u32 r.nr,.fz r.tests.length (rT r.tests),.i .u32 r.act]
theorem qaA(r:GRule):(qM r).length=3:=rfl
def rR(l:List GRule):List AV:=l.flatMap qM
structure GFil where
 arch:Int
 rules:List GRule
 dflt:Int
def qS(x:GFil):List AV:=[.i .i64 x.arch,.fz x.rules.length (rR x.rules),.i .u32 x.dflt]
section
variable {l m:List GTest} {j:Nat}
theorem qik:(rT l).length=l.length*4:=zl qcE l
theorem jv:qu (rT l)=true:=x9 fun _=>rfl
theorem qDx:qE (rT l)=true:=qjw fun _=>rfl
theorem qph{c:GTest}(h:l[j]?=some c):((rT l).drop (j*4)).take 4=zQ c:=zj qcE h
theorem qt2{c:GTest}(h:l[j]?=some c){i:Nat}(hi:i<4):(rT l)[j*4+i]?=(zQ c)[i]?:=qb2 qcE h hi
theorem qt1(h:j<l.length):j*4+4<=(rT l).length:=by rw[qik];omega
end
section
variable {l m:List GRule} {j:Nat}
theorem qj1:(rR l).length=l.length*3:=zl qaA l
theorem zS:qu (rR l)=true:=x9 fun _=>rfl
theorem qjj{c:GRule}(h:l[j]?=some c):((rR l).drop (j*3)).take 3=qM c:=zj qaA h
theorem qAG{c:GRule}(h:l[j]?=some c){i:Nat}(hi:i<3):(rR l)[j*3+i]?=(qM c)[i]?:=qb2 qaA h hi
theorem qAF:rR l++rR m=rR (l++m):=by simp[rR]
theorem qnn(h:j<l.length):j*3+3<=(rR l).length:=by rw[qj1];omega
end
def qFt(x:List UInt8×List Int)(a:Int):Option Int :=
 if a<0∨6<=a∨x.2.getD a.toNat 0<0 then none else some (if a=2 then orI .u32 (IntKind.wrap .u32 (x.2.getD a.toNat 0)) 1073741824 else IntKind.wrap .u32 (x.2.getD a.toNat 0))
def zi:IFn:=⟨[.tmp 2],.seq (.r [.m 2 .N]) (.seq (.seq (.r [.n 3 0,.q 4 (.eqN false .slice (.t 3))]) (.cond (.t 4) (.seq (.r [.m 2 .N]) (.ret)) (.skip))) (.seq (.r [.q 5 (.buildS 0 [.i .i64 0,.i .u64 0,.i .u64 0,.i .u32 0] []),.n 6 0,.q 7 (.app 4 32 true (.t 5) (.t 6)),.n 2 7]) (.ret)))⟩
theorem qyR(hc:qc P f zi=true):qcU P f 4 32:=by
 intro n rows hlen hcl hok hr1 hr2;refine Own.of_SC (by simp[qu,clo]) ?_;cases n with
 | zero =>
  obtain rfl:rows=[]:=by cases rows with|nil=>rfl|cons=>simp at hlen
  refine SC.nil0 (SC.mk hc (qj ?_)) (SC.mk hc (qj ?_))
  ·simp only[zi,vI,simprocAttr];simp only[↓vS,vT,simprocAttr];intro _;refine⟨[1],?_⟩;simp[vw]
  ·simp only[zi,vI,simprocAttr];simp only[↓vS,vT,simprocAttr,if_true];intro _;refine⟨[1],?_⟩;simp[vw]
 | succ n =>
  refine SC.mk hc (qj ?_);simp only[zi,vI,simprocAttr];have h1:1<=n+1:=by omega
  have h2:(n+1)*4<=rows.length:=by omega
  have h3:rows.take ((n+1)*4)=rows:=List.take_of_length_le (by omega);have h4:¬(n+1<=0):=by omega
  simp only[↓vS,vT,simprocAttr,h1,h2,h3,h4,hr1,hr2,hok,Nat.mul_one,Nat.zero_mul];intro _;refine⟨[1],?_⟩;simp[vw,qh,hcl]








section
variable {l m:List GFil} {j:Nat}
end
def qiy:IFn:=⟨[.tmp 0],.seq (.r [.m 0 .N]) (.seq (.r [.m 1 .N]) (.seq (.seq (.r [.m 3 (.k 0)]) (.blk 0 (.loop (.seq (.r [.w 4 .lss 3 6]) (.seq (.cond (.t 4) (.skip) (.exit 0)) (.seq (.blk 1 (.seq (.r [.n 5 3,.n 2 5]) (.r [.n 6 1,.n 7 2,.q 8 (.buildS 1 [.i .i64 0] [(0,1,(.t 7))]),.q 9 (.app 1 8 true (.t 6) (.t 8)),.n 1 9]))) (.r [.a 10 3 1,.n 3 10]))))))) (.seq (.r [.n 11 1,.n 0 11]) (.ret))))⟩
theorem qDT(hc:qc P f qiy=true):qd P f [] (.fz 6 (rI .i64 [0,1,2,3,4,5])):=by
 refine qd.mk hc rfl ?_;simp only[qiy,vI,simprocAttr];simp only[↓vS,vT,simprocAttr];refine SL.loop (α:=Nat) (fun j=>[(1,.own 0 j),(3,.i .i64 j)]) (fun j=>[.cells 1 true true (rI .i64 ([0,1,2,3,4,5].take j))]) (fun j=>j<=6) (fun j=>6-j) 0 [9] ?_ ?_ ?_ rfl ?_ ?_
 ·simp[vw]
 ·simp[vw,rI]
 ·simp
 ·exact Nat.zero_le _
 rintro j hj G ih;simp only[vI,simprocAttr]
 by_cases hlt:j<6
 ·have hlt':(j:Int)<6:=by omega
  have hw:IntKind.wrap .i64 ((j:Int)+1)=((j+1:Nat):Int):=by rw[qq (by omega) (by omega)];omega
  have hln:(rI .i64 (([0,1,2,3,4,5]:List Int).take j)).length=j:=by rw[qaM];simp;omega
  have htk:(rI .i64 (([0,1,2,3,4,5]:List Int).take j)).take j=rI .i64 (([0,1,2,3,4,5]:List Int).take j):=List.take_of_length_le (by omega)
  have hap:rI .i64 (([0,1,2,3,4,5]:List Int).take j)++[AV.i .i64 (j:Int)]=rI .i64 (([0,1,2,3,4,5]:List Int).take (j+1)):=by
   have:j=0∨j=1∨j=2∨j=3∨j=4∨j=5:=by omega
   rcases this with rfl|rfl|rfl|rfl|rfl|rfl<;>rfl
  have hr1:j+1<=qg:=by simp only[qg];omega
  have hr2:(j+1)*8<=qg:=by simp only[qg];omega
  generalize hL:(([0,1,2,3,4,5]:List Int).take j)=L at *;simp +decide only[↓vS,vT,simprocAttr,hlt',Nat.mul_one,hw,hr1,hr2,hln,htk,hap];refine ih (j+1) hlt (by omega) _ _ (Wk.mk _ _ [2] ?_ ?_ ?_ rfl)
  ·simp[vw]
  ·simp[vw,qh,x5]
  ·simp
 ·have hj':j=6:=by omega
  subst hj';have hlt':¬(((6:Nat):Int)<6):=by decide
  simp only[↓vS,vT,simprocAttr,hlt'];refine .own 0 6 1 true (rI .i64 [0,1,2,3,4,5]) _ ?_ (fun h0=>absurd h0 (by decide)) (Frzs.self x5)
  simp[Tr.get_set]


def qEo(l:List GCall)(s:List UInt8):Int:=match qoI l s with|some c=>c.act|none=>0
theorem qrC.act(h:qrC P f)(l:GList)(s:List UInt8)(hl:l.calls.length<=100000):qd P f [.agg (qxs l),.s s] (.tup [.i .u32 (qEo l.calls s),.b (qoI l.calls s).isSome]):=h l s hl
section
variable {g1 g2:Nat}
end
section
variable {g1 g2:Nat}
end
section
variable {g1 g2 g3 g4 g5:Nat}
end

end Go.Kc
end
section
namespace Go.Kc
end Go.Kc
end
section
namespace Go.Kc
end Go.Kc
end
section
namespace Go.Kc
variable {P:Program} {f:Nat}
def qiT(p:List UInt8×Int):List AV:=[.i .u32 p.2,.s p.1]
theorem qt8(p:List UInt8×Int):(qiT p).length=2:=rfl
def xh:List (List UInt8×Int):=[([107,105,108,108],2147483648),([107,105,108,108,116,104,114,101,97,100],0),([116,114,97,112],196608),([101,114,114,110,111],327680),([110,111,116,105,102,121],2143289344),([116,114,97,99,101],2146435072),([108,111,103],2147221504),([97,108,108,111,119],2147418112)]
def qeR:IFn:=⟨[.cell 0 16 true],.seq (.r [.q 0 (.alloc [.i .u32 0,.s [],.i .u32 0,.s [],.i .u32 0,.s [],.i .u32 0,.s [],.i .u32 0,.s [],.i .u32 0,.s [],.i .u32 0,.s [],.i .u32 0,.s []])]) (.seq (.r [.q 1 (.build [.i .u32 0,.s []] [(0,1,(.c (.i .u32 2147483648))),(1,1,(.c (.s [107,105,108,108])))]),.q 2 (.build [.i .u32 0,.s []] [(0,1,(.c (.i .u32 0))),(1,1,(.c (.s [107,105,108,108,116,104,114,101,97,100])))]),.q 3 (.build [.i .u32 0,.s []] [(0,1,(.c (.i .u32 196608))),(1,1,(.c (.s [116,114,97,112])))]),.q 4 (.build [.i .u32 0,.s []] [(0,1,(.c (.i .u32 327680))),(1,1,(.c (.s [101,114,114,110,111])))]),.q 5 (.build [.i .u32 0,.s []] [(0,1,(.c (.i .u32 2143289344))),(1,1,(.c (.s [110,111,116,105,102,121])))]),.q 6 (.build [.i .u32 0,.s []] [(0,1,(.c (.i .u32 2146435072))),(1,1,(.c (.s [116,114,97,99,101])))]),.q 7 (.build [.i .u32 0,.s []] [(0,1,(.c (.i .u32 2147221504))),(1,1,(.c (.s [108,111,103])))]),.q 8 (.build [.i .u32 0,.s []] [(0,1,(.c (.i .u32 2147418112))),(1,1,(.c (.s [97,108,108,111,119])))]),.q 9 (.build [.i .u32 0,.s [],.i .u32 0,.s [],.i .u32 0,.s [],.i .u32 0,.s [],.i .u32 0,.s [],.i .u32 0,.s [],.i .u32 0,.s [],.i .u32 0,.s []] [(0,2,(.t 1)),(2,2,(.t 2)),(4,2,(.t 3)),(6,2,(.t 4)),(8,2,(.t 5)),(10,2,(.t 6)),(12,2,(.t 7)),(14,2,(.t 8))]),.u (.store 16 (.t 0) (.t 9))]) (.ret))⟩
theorem qCl(hc:qc P f qeR=true):qd P f [] (.agg (xh.flatMap qiT)):=by
 refine qd.mk hc rfl ?_;simp only[qeR,vI,simprocAttr];simp only[↓vS,vT,simprocAttr,xh,qiT,List.flatMap_cons,List.flatMap_nil,vZ]
def qfo:IFn:=⟨[.tmp 2],.seq (.r [.m 2 (.c (.i .u32 0))]) (.seq (.r [.n 3 0,.q 4 (.bin .andNot (.t 3) (.c (.i .u32 65535))),.n 2 4]) (.ret))⟩
theorem qDS(hc:qc P f qfo=true)(n:Int):qd P f [.i .u32 n] (.i .u32 (qff .u32 n 65535)):=by
 refine qd.mk hc rfl ?_;simp only[qfo,vI,simprocAttr];simp only[↓vS,vT,simprocAttr,vZ]
def qfp(a b:Nat):IFn:=⟨[.tmp 2],.seq (.r [.m 2 (.c (.s []))]) (.seq (.seq (.r [.l 5 a [],.m 6 (.k 0)]) (.blk 0 (.loop (.seq (.r [.w 7 .lss 6 8]) (.seq (.cond (.t 7) (.skip) (.exit 0)) (.seq (.blk 1 (.seq (.r [.q 8 (.idxA 8 2 true (.t 5) (.t 6)),.q 4 (.alloc [.i .u32 0,.s []]),.u (.store 2 (.t 4) (.t 8))]) (.seq (.reg true [.f 9 0 4,.d 10 9,.n 11 0,.l 12 b [.t 11],.b 13 .eql 10 12]) (.cond (.t 13) (.seq (.r [.f 14 1 4,.d 15 14,.n 2 15]) (.ret)) (.skip))))) (.r [.a 16 6 1,.n 6 16]))))))) (.seq (.r [.m 2 (.c (.s []))]) (.ret)))⟩
theorem qDR{g1 g2:Nat}(hc:qc P f (qfp g1 g2)=true)(h1:qd P g1 [] (.agg (xh.flatMap qiT)))(h2:∀n,qd P g2 [.i .u32 n] (.i .u32 (qff .u32 n 65535)))(n:Int):qd P f [.i .u32 n] (.s (qhJ (qff .u32 n 65535) xh)):=by
 refine qd.mk hc rfl ?_;simp only[qfp,vI,simprocAttr];simp only[↓vS,vT,simprocAttr];refine h1.sc ?_;simp only[↓vS,vT,simprocAttr];have hlen:(xh.flatMap qiT).length=16:=by decide
 have hTc:qu (xh.flatMap qiT)=true:=rfl;refine SL.loop (α:=Nat) (fun j=>[(0,.i .u32 n),(5,.agg (xh.flatMap qiT)),(6,.i .i64 j)]) (fun _=>[]) (fun j=>j<=8∧qhJ (qff .u32 n 65535) xh=qhJ (qff .u32 n 65535) (xh.drop j)) (fun j=>8-j) 0 [] ?_ ?_ ?_ rfl ?_ ?_
 ·simp[vw,xh,qiT]
 ·trivial
 ·simp
 ·exact⟨Nat.zero_le _,rfl⟩
 rintro j ⟨hj,hI⟩ G ih;simp only[vI,simprocAttr]
 by_cases hlt:j<8
 ·have hlt':(j:Int)<8:=by omega
  have hjl:j<xh.length:=hlt;have hx:xh[j]?=some xh[j]:=zzE hjl;have hw:IntKind.wrap .i64 ((j:Int)+1)=((j+1:Nat):Int):=by rw[qq (by omega) (by omega)];omega
  have he:=zj (f:=qiT) (m:=2) qt8 hx;have hb:j*2+2<=(xh.flatMap qiT).length:=by omega
  rw[List.drop_eq_getElem_cons hjl,qhJ] at hI;generalize hc0:xh[j]=c at he hI;generalize hT:xh.flatMap qiT=T at he hb hlen hTc;simp only[↓vS,vT,simprocAttr,hlt',hlt,he,hb,qiT];refine zD ?_;simp only[↓vS,vT,simprocAttr];refine (h2 n).pc ?_
  by_cases hs:c.2=qff .u32 n 65535
  ·rw[if_pos hs] at hI;simp only[↓vS,vT,simprocAttr,hs];simp[vZ,hI]
  ·rw[if_neg hs] at hI;simp only[↓vS,vT,simprocAttr,hs,hw];refine ih (j+1) ⟨hlt,hI⟩ (by omega) _ _ (Wk.mk _ _ [] ?_ ?_ ?_ rfl)
   ·rw[hT];simp[vw,qh,hTc]
   ·trivial
   ·simp
 ·have hj':j=8:=by omega
  subst hj';have hlt':¬(((8:Nat):Int)<8):=by decide
  simp only[↓vS,vT,simprocAttr,hlt'];rw[hI];simp[vZ,xh,qhJ]
def knA(n:Int):Bool:=decide (qhJ (qff .u32 n 65535) xh≠[])
def qeQ(a:Nat):IFn:=⟨[.tmp 2],.seq (.r [.m 2 .F]) (.seq (.r [.n 3 0,.l 4 a [.t 3],.q 5 (.bin .neq (.t 4) (.c (.s []))),.n 2 5]) (.ret))⟩
theorem qCk{g:Nat}(hc:qc P f (qeQ g)=true)(hg:∀n,qd P g [.i .u32 n] (.s (qhJ (qff .u32 n 65535) xh)))(n:Int):qd P f [.i .u32 n] (.b (knA n)):=by
 refine qd.mk hc rfl ?_;simp only[qeQ,vI,simprocAttr];simp only[↓vS,vT,simprocAttr];refine (hg n).sc ?_;unfold knA;generalize qhJ (qff .u32 n 65535) xh=s
 by_cases h:s=[] <;>
 ·simp only[↓vS,vT,simprocAttr,h];simp[vZ,h]
def qbh(t:GTest):Bool:=decide (0<=t.arg)&&decide (t.arg<6)&&decide (qff .u64 t.val t.mask=0)&&knA t.act
def qgq(a:Nat):IFn:=⟨[.tmp 2],.seq (.r [.q 1 (.box (.t 0)),.m 2 .F]) (.seq (.r [.f 3 0 1,.d 4 3,.w 5 .geq 4 0,.n 6 5,.h 7 0 1 6 true,.j 8 7 6 true,.g 9 (.bin .lss (.t 8) (.k 6)) 6 true,.p 10 6 9,.n 11 10,.h 12 2 1 11 true,.j 13 12 11 true,.h 14 1 1 11 true,.j 15 14 11 true,.g 16 (.bin .andNot (.t 13) (.t 15)) 11 true,.g 17 (.bin .eql (.t 16) (.c (.i .u64 0))) 11 true,.p 18 11 17,.n 19 18,.h 20 3 1 19 true,.j 21 20 19 true,⟨(some 22),.callF a [.t 21],(some (19,true))⟩,.p 23 19 22,.n 2 23]) (.ret))⟩
theorem qD0{g:Nat}(hg:∀n,qd P g [.i .u32 n] (.b (knA n)))(hc:qc P f (qgq g)=true)(t:GTest):qd P f [.agg (zQ t)] (.b (qbh t)):=by
 refine qd.mk hc rfl ?_;simp only[qgq,zQ,vI,simprocAttr]
 by_cases k1:0<=t.arg
 ·by_cases k2:t.arg<6
  ·by_cases k3:qff .u64 t.val t.mask=0
   ·simp only[↓vS,vT,simprocAttr,k1,k2,k3];refine (hg t.act).sc ?_;simp only[↓vS,vT,simprocAttr];simp[vZ,qbh,k1,k2,k3]
   ·simp only[↓vS,vT,simprocAttr,k1,k2,k3];simp[vZ,qbh,k3]
  ·simp only[↓vS,vT,simprocAttr,k1,k2];simp[vZ,qbh,k2]
 ·simp only[↓vS,vT,simprocAttr,k1];simp[vZ,qbh,k1]
def qeZ(a:Nat):IFn:=⟨[.tmp 2],.seq (.r [.q 1 (.box (.t 0)),.m 2 .F]) (.seq (.r [.v 3 4 1,.l 4 a [.t 3],.q 5 (.un .not (.t 4)),.n 2 5]) (.ret))⟩
theorem qBN{g:Nat}(hc:qc P f (qeZ g)=true)(hg:∀t,qd P g [.agg (zQ t)] (.b (qbh t)))(t:GTest):qd P f [.agg (zQ t)] (.b (!qbh t)):=by
 refine qd.mk hc rfl ?_;simp only[qeZ,zQ,vI,simprocAttr];simp only[↓vS,vT,simprocAttr];refine (hg t).sc ?_;simp only[↓vS,vT,simprocAttr];simp[vZ]
def xg:IFn:=⟨[.tmp 4],.seq (.r [.m 4 (.k 0)]) (.seq (.seq (.r [.n 6 0,.e 7 6,.m 8 (.k 0)]) (.blk 0 (.loop (.seq (.r [.s 9 8 7]) (.seq (.cond (.t 9) (.skip) (.exit 0)) (.seq (.blk 1 (.seq (.r [.n 10 8,.n 5 10]) (.seq (.r [.n 11 1,.n 12 0,.n 13 5,.i 14 4 12 13,.v 15 4 14,⟨(some 16),.callV (.t 11) [.t 15],none⟩]) (.cond (.t 16) (.seq (.r [.n 17 5,.n 4 17]) (.ret)) (.skip))))) (.r [.a 18 8 1,.n 8 18]))))))) (.seq (.r [.q 4 (.mov (.c (.i .i64 (-1))))]) (.ret)))⟩
theorem qoR(hc:qc P f xg=true):qgH 4 P f:=by
 intro α enc p g a c l hlen ha hc' hl hp;refine qd.mk hc (by simp[qu,clo,ha,hc']) ?_;simp only[xg,vI,simprocAttr];simp only[↓vS,vT,simprocAttr];refine SL.loop (α:=Nat) (fun j=>[(0,.fz l.length (l.flatMap enc)),(1,.fn g a c),(7,.i .i64 l.length),(8,.i .i64 j)]) (fun _=>[]) (fun j=>j<=l.length∧xy p l 0=xy p (l.drop j) j) (fun j=>l.length-j) 0 [] ?_ ?_ ?_ rfl ?_ ?_
 ·simp[vw,qh,ha,hc']
 ·trivial
 ·simp
 ·simp
 rintro j ⟨hj,hI⟩ G ih;simp only[vI,simprocAttr]
 by_cases hlt:j<l.length
 ·have hx:l[j]?=some l[j]:=zzE hlt;have hw:IntKind.wrap .i64 ((j:Int)+1)=(j:Int)+1:=qq (by omega) (by have:=hl;simp only[qg] at this;omega)
  have he:=zj hlen hx;have hb:j*4+4<=(l.flatMap enc).length:=by rw[zl hlen];omega
  rw[List.drop_eq_getElem_cons hlt,xy] at hI;simp only[↓vS,vT,simprocAttr,hlt,hb,he,hw];refine (hp l[j] (List.getElem_mem hlt)).sc ?_
  by_cases hpx:p l[j]=true
  ·rw[if_pos hpx] at hI;simp only[↓vS,vT,simprocAttr,hpx,vZ,hI]
  ·rw[if_neg hpx] at hI;simp only[↓vS,vT,simprocAttr,hpx,hw];refine ih (j+1) ⟨by omega,hI⟩ (by omega) _ _ (Wk.mk _ _ [] ?_ ?_ ?_ rfl)
   ·simp[vw,qh,ha,hc']
   ·trivial
   ·simp
 ·simp only[↓vS,vT,simprocAttr,hlt];rw[List.drop_eq_nil_of_le (by omega)] at hI;simp[hI,xy,vZ]
def xf:IFn:=⟨[.tmp 4],.seq (.r [.m 4 (.k 0)]) (.seq (.seq (.r [.n 6 0,.e 7 6,.m 8 (.k 0)]) (.blk 0 (.loop (.seq (.r [.s 9 8 7]) (.seq (.cond (.t 9) (.skip) (.exit 0)) (.seq (.blk 1 (.seq (.r [.n 10 8,.n 5 10]) (.seq (.r [.n 11 1,.n 12 0,.n 13 5,.i 14 3 12 13,.v 15 3 14,⟨(some 16),.callV (.t 11) [.t 15],none⟩]) (.cond (.t 16) (.seq (.r [.n 17 5,.n 4 17]) (.ret)) (.skip))))) (.r [.a 18 8 1,.n 8 18]))))))) (.seq (.r [.q 4 (.mov (.c (.i .i64 (-1))))]) (.ret)))⟩
theorem qoQ(hc:qc P f xf=true):qgH 3 P f:=by
 intro α enc p g a c l hlen ha hc' hl hp;refine qd.mk hc (by simp[qu,clo,ha,hc']) ?_;simp only[xf,vI,simprocAttr];simp only[↓vS,vT,simprocAttr];refine SL.loop (α:=Nat) (fun j=>[(0,.fz l.length (l.flatMap enc)),(1,.fn g a c),(7,.i .i64 l.length),(8,.i .i64 j)]) (fun _=>[]) (fun j=>j<=l.length∧xy p l 0=xy p (l.drop j) j) (fun j=>l.length-j) 0 [] ?_ ?_ ?_ rfl ?_ ?_
 ·simp[vw,qh,ha,hc']
 ·trivial
 ·simp
 ·simp
 rintro j ⟨hj,hI⟩ G ih;simp only[vI,simprocAttr]
 by_cases hlt:j<l.length
 ·have hx:l[j]?=some l[j]:=zzE hlt;have hw:IntKind.wrap .i64 ((j:Int)+1)=(j:Int)+1:=qq (by omega) (by have:=hl;simp only[qg] at this;omega)
  have he:=zj hlen hx;have hb:j*3+3<=(l.flatMap enc).length:=by rw[zl hlen];omega
  rw[List.drop_eq_getElem_cons hlt,xy] at hI;simp only[↓vS,vT,simprocAttr,hlt,hb,he,hw];refine (hp l[j] (List.getElem_mem hlt)).sc ?_
  by_cases hpx:p l[j]=true
  ·rw[if_pos hpx] at hI;simp only[↓vS,vT,simprocAttr,hpx,vZ,hI]
  ·rw[if_neg hpx] at hI;simp only[↓vS,vT,simprocAttr,hpx,hw];refine ih (j+1) ⟨by omega,hI⟩ (by omega) _ _ (Wk.mk _ _ [] ?_ ?_ ?_ rfl)
   ·simp[vw,qh,ha,hc']
   ·trivial
   ·simp
 ·simp only[↓vS,vT,simprocAttr,hlt];rw[List.drop_eq_nil_of_le (by omega)] at hI;simp[hI,xy,vZ]
def qln(p:GTest->Bool)(l:List GTest):AV:=match l.find? p with|some t=>.tup [.agg (zQ t),.b true]|none=>.tup [.agg [.i .i64 0,.i .u64 0,.i .u64 0,.i .u32 0],.b false]
def qb4(a:Nat):IFn:=⟨[.cell 4 4 true,.tmp 5],.seq (.r [.q 4 (.alloc [.i .i64 0,.i .u64 0,.i .u64 0,.i .u32 0]),.m 5 .F]) (.seq (.seq (.r [.n 8 0,.n 9 1,.l 10 a [.t 8,.t 9],.n 6 10]) (.seq (.r [.n 11 6,.w 12 .geq 11 0]) (.cond (.t 12) (.seq (.r [.n 13 0,.n 14 6,.i 15 4 13 14,.v 16 4 15,.u (.store 4 (.t 4) (.t 16)),.m 5 .T]) (.ret)) (.skip)))) (.seq (.r [.q 7 (.alloc [.i .i64 0,.i .u64 0,.i .u64 0,.i .u32 0])]) (.seq (.r [.v 17 4 7,.u (.store 4 (.t 4) (.t 17)),.m 5 .F]) (.ret))))⟩
theorem qzd{g:Nat}(hc:qc P f (qb4 g)=true)(h2:qgH 4 P g)(l:List GTest)(k:Nat)(a c:List AV)(p:GTest->Bool)(ha:qu a=true)(hcc:qu c=true)(hk:∀t ∈ l,qd P k (a++([.agg (zQ t)]++c)) (.b (p t)))(hl:l.length<=100000):qd P f [.fz l.length (rT l),.fn k a c] (qln p l):=by
 refine qd.mk hc (by simp[qu,clo,jv,ha,hcc]) ?_;simp only[qb4,vI,simprocAttr];simp only[↓vS,vT,simprocAttr];refine (h2 zQ p k a c l qcE ha hcc (by simp only[qg];omega) hk).sc ?_;rcases qic p l 0 with⟨e1,e2⟩|⟨i,x,e1,e2,e3,e4,e5⟩
 ·rw[e1];simp only[↓vS,vT,simprocAttr];simp[vZ,qln,e2]
 ·have hi:i<l.length:=(zzS.1 e2).1;have hn:(0:Int)<=(i:Int):=by omega
  have he:=qph e2;have hb:=qt1 hi;rw[e1,Nat.zero_add];simp only[↓vS,vT,simprocAttr,hn,hi,he,hb,zQ];simp[vZ,qln,e4,zQ]
noncomputable def qbf(r:GRule):Bool:=decide (r.tests.length<=32)&&r.tests.all qbh&&knA r.act
theorem qsl{α:Type}(p:α->Bool)(l:List α):(l.find? fun t=>!p t).isSome = !l.all p:=by
 induction l with
 | nil=>rfl
 | cons x l ih =>
  rw[List.find?_cons,List.all_cons];cases h:p x
  ·simp[h]
  ·simp[h,ih]
def qgp(a b c:Nat):IFn:=⟨[.tmp 2],.seq (.r [.q 1 (.box (.t 0)),.m 2 .F]) (.seq (.r [.f 6 1 1,.d 7 6,.l 8 a [.t 7,(.c (.fn b [] []))],.n 5 8,.x 9 5 0,.x 10 5 1,.q 3 (.alloc [.i .i64 0,.i .u64 0,.i .u64 0,.i .u32 0]),.u (.store 4 (.t 3) (.t 9)),.n 4 10]) (.seq (.r [.f 11 1 1,.d 12 11,.e 13 12,.w 14 .leq 13 32,.n 15 14,.y 16 4 15,.g 17 (.un .not (.t 16)) 15 true,.p 18 15 17,.n 19 18,.h 20 2 1 19 true,.j 21 20 19 true,⟨(some 22),.callF c [.t 21],(some (19,true))⟩,.p 23 19 22,.n 2 23]) (.ret)))⟩
theorem qDZ{g1 g2 g3:Nat}(hc:qc P f (qgp g1 g2 g3)=true)(h1:∀(l:List GTest) (k:Nat) (a c:List AV) (p:GTest->Bool),qu a=true->qu c=true->(∀t ∈ l,qd P k (a++([.agg (zQ t)]++c)) (.b (p t)))->l.length<=100000->qd P g1 [.fz l.length (rT l),.fn k a c] (qln p l))
  (h2:∀t,qd P g2 [.agg (zQ t)] (.b (!qbh t))) (h3:∀n,qd P g3 [.i .u32 n] (.b (knA n))) (r:GRule) (hl:r.tests.length<=100000):qd P f [.agg (qM r)] (.b (qbf r)):=by
 refine qd.mk hc rfl ?_;simp only[qgp,qM,vI,simprocAttr];simp only[↓vS,vT,simprocAttr];refine (h1 r.tests g2 [] [] (fun t=>!qbh t) rfl rfl (fun t _=>h2 t) hl).sc ?_
 have hf:=qsl qbh r.tests
 have fin:∀odd:Bool,odd = !r.tests.all qbh->(decide (r.tests.length<=32) && !odd&&knA r.act)=qbf r:=by
  rintro odd rfl;simp[qbf]
 unfold qln;cases hq:r.tests.find? (fun t=>!qbh t) with
 | none =>
  rw[hq] at hf;have fin:=fin false hf
  by_cases k1:r.tests.length<=32
  ·have k1':((r.tests.length:Int)<=32)=True:=eq_true (by omega);simp only[↓vS,vT,simprocAttr,k1'];refine (h3 r.act).sc ?_;simp only[↓vS,vT,simprocAttr];simp[vZ,← fin,k1]
  ·have k1':((r.tests.length:Int)<=32)=False:=eq_false (by omega);simp only[↓vS,vT,simprocAttr,k1'];simp[vZ,← fin,k1]
 | some t =>
  rw[hq] at hf;have fin:=fin true hf
  by_cases k1:r.tests.length<=32
  ·have k1':((r.tests.length:Int)<=32)=True:=eq_true (by omega);simp only[zQ,↓vS,vT,simprocAttr,k1'];simp[vZ,← fin]
  ·have k1':((r.tests.length:Int)<=32)=False:=eq_false (by omega);simp only[zQ,↓vS,vT,simprocAttr,k1'];simp[vZ,← fin]
noncomputable def upR:Option GRule->List GRule->Bool
 | _,[]=>true
 | o,r::l=>qbf r&&(o.elim true fun b=>decide (b.nr<r.nr))&&upR (some r) l
noncomputable def xC(x:GFil):Bool:=decide (0<=x.arch)&&decide (x.arch<6)&&decide (x.rules.length<=400)&&knA x.dflt&&upR none x.rules
def qkT(a b:Nat):IFn:=⟨[.tmp 2],.seq (.r [.q 1 (.box (.t 0)),.m 2 .F]) (.seq (.seq (.r [.f 5 0 1,.d 6 5,.w 7 .lss 6 0,.n 8 7,.h 9 0 1 8 false,.j 10 9 8 false,.g 11 (.bin .geq (.t 10) (.k 6)) 8 false,.o 12 8 11,.n 13 12,.h 14 1 1 13 false,.j 15 14 13 false,.g 16 (.len false (.t 15)) 13 false,.g 17 (.bin .gtr (.t 16) (.k 400)) 13 false,.o 18 13 17,.n 19 18,.h 20 2 1 19 false,.j 21 20 19 false,⟨(some 22),.callF a [.t 21],(some (19,false))⟩,.g 23 (.un .not (.t 22)) 19 false,.o 24 19 23]) (.cond (.t 24) (.seq (.r [.m 2 .F]) (.ret)) (.skip))) (.seq (.seq (.r [.f 25 1 1,.d 26 25,.e 27 26,.m 28 (.k 0)]) (.blk 0 (.loop (.seq (.r [.s 29 28 27]) (.seq (.cond (.t 29) (.skip) (.exit 0)) (.seq (.blk 1 (.seq (.r [.n 30 28,.i 31 3 26 28,.v 32 3 31,.q 4 (.alloc [.i .u32 0,.nils,.i .u32 0]),.n 3 30,.u (.store 3 (.t 4) (.t 32))]) (.seq (.reg true [.v 33 3 4,.l 34 b [.t 33],.q 35 (.un .not (.t 34)),.n 36 35,.z 37 3 36,.g 38 (.bin .gtr (.t 37) (.k 0)) 36 false,.z 39 38 36,.h 40 0 4 39 true,.j 41 40 39 true,.h 42 1 1 39 true,.j 43 42 39 true,.y 44 3 39,.g 45 (.bin .sub (.t 44) (.k 1)) 39 true,.g 46 (.iAddrS 3 (.t 43) (.t 45)) 39 true,.h 47 0 46 39 true,.j 48 47 39 true,.g 49 (.bin .leq (.t 41) (.t 48)) 39 true,.g 50 (.pick (.t 39) (.t 49) .F) 36 false,.o 51 36 50]) (.cond (.t 51) (.seq (.r [.m 2 .F]) (.ret)) (.skip))))) (.r [.a 52 28 1,.n 28 52]))))))) (.seq (.r [.m 2 .T]) (.ret))))⟩
theorem qFe{g1 g2:Nat}(hc:qc P f (qkT g1 g2)=true)(h1:∀n,qd P g1 [.i .u32 n] (.b (knA n)))(h2:∀r:GRule,r.tests.length<=100000->qd P g2 [.agg (qM r)] (.b (qbf r)))(x:GFil)(hl:x.rules.length<=100000)(ht:∀r ∈ x.rules,r.tests.length<=100000):qd P f [.agg (qS x)] (.b (xC x)):=by
 refine qd.mk hc rfl ?_;simp only[qkT,qS,vI,simprocAttr]
 by_cases k1:x.arch<0
 ·have hw:xC x=false:=by simp only[xC,decide_eq_false (by omega:¬0<=x.arch)];simp
  simp only[↓vS,vT,simprocAttr,k1];simp[vZ,hw]
 by_cases k2:6<=x.arch
 ·have hw:xC x=false:=by simp only[xC,decide_eq_false (by omega:¬x.arch<6)];simp
  simp only[↓vS,vT,simprocAttr,k1,k2];simp[vZ,hw]
 by_cases k3:(400:Int)<x.rules.length
 ·have hw:xC x=false:=by simp only[xC,decide_eq_false (by omega:¬x.rules.length<=400)];simp
  simp only[↓vS,vT,simprocAttr,k1,k2,k3];simp[vZ,hw]
 simp only[↓vS,vT,simprocAttr,k1,k2,k3];refine (h1 x.dflt).sc ?_;cases k4:knA x.dflt with
 | false =>
  have hw:xC x=false:=by simp[xC,k4]
  simp only[↓vS,vT,simprocAttr];simp[vZ,hw]
 | true =>
  have hw:xC x=upR none x.rules:=by
   unfold xC;rw[k4,decide_eq_true (by omega:0<=x.arch),decide_eq_true (by omega:x.arch<6),decide_eq_true (by omega:x.rules.length<=400)];rfl
  rw[hw];simp only[↓vS,vT,simprocAttr]
  refine SL.loop (α:=Nat) (fun j=>[(1,.ptr 0 0),(26,.fz x.rules.length (rR x.rules)),(27,.i .i64 x.rules.length),(28,.i .i64 j)]) (fun _=>[.cells 0 true false (qS x)])
   (fun j=>j<=x.rules.length∧upR none x.rules=upR (if j=0 then none else x.rules[j-1]?) (x.rules.drop j)) (fun j=>x.rules.length-j) 0 [0] ?_ ?_ ?_ rfl ?_ ?_
  ·simp[vw,zS]
  ·simp[vw,qS,zS]
  ·simp
  ·exact⟨Nat.zero_le _,rfl⟩
  rintro j ⟨hj,hI⟩ G ih;simp only[vI,simprocAttr,qS]
  by_cases hlt:j<x.rules.length
  ·have hx:x.rules[j]?=some x.rules[j]:=zzE hlt;have he:=qjj hx;have hb:=qnn hlt;have hw:IntKind.wrap .i64 ((j:Int)+1)=((j+1:Nat):Int):=by rw[qq (by omega) (by omega)];omega
   have htl:=ht _ (List.getElem_mem hlt);rw[List.drop_eq_getElem_cons hlt,upR] at hI;generalize hc0:x.rules[j]=r at hI he hx htl;simp only[↓vS,vT,simprocAttr,hlt,hb,he,qM];refine zD ?_;simp only[↓vS,vT,simprocAttr];refine (h2 r htl).pc ?_;cases hk:qbf r with
   | false =>
    have hwf:upR none x.rules=false:=by rw[hI];simp[hk]
    simp only[↓vS,vT,simprocAttr];simp[vZ,hwf]
   | true =>
    by_cases h0:j=0
    ·subst h0;have hn:¬(0:Int)<((0:Nat):Int):=by decide
     simp only[↓vS,vT,simprocAttr,hn,hw];refine ih 1 ⟨by omega,?_⟩ (by omega) _ _ (Wk.mk _ _ [0] ?_ ?_ ?_ rfl)
     ·rw[hI,hk];simp[hx]
     ·simp[vw,zS];exact qq (by decide) (by decide)
     ·simp[vw,qS,zS]
     ·simp
    ·have hp:(0:Int)<(j:Int):=by omega
     have hpl:j-1<x.rules.length:=by omega
     have hy:x.rules[j-1]?=some x.rules[j-1]:=zzE hpl;have hw2:IntKind.wrap .i64 ((j:Int)-1)=((j-1:Nat):Int):=by rw[qq (by omega) (by omega)];omega
     have g0:(rR x.rules)[(j-1)*3]?=some (.i .u32 x.rules[j-1].nr):=qAG hy (i:=0) (by decide);rw[if_neg h0,hy] at hI
     by_cases hlt2:r.nr<=x.rules[j-1].nr
     ·have hwf:upR none x.rules=false:=by rw[hI];simp[Int.not_lt.2 hlt2]
      simp only[↓vS,vT,simprocAttr,hp,hw2,hpl,g0,hlt2];simp[vZ,hwf]
     ·simp only[↓vS,vT,simprocAttr,hp,hw2,hpl,g0,hlt2,hw];refine ih (j+1) ⟨by omega,?_⟩ (by omega) _ _ (Wk.mk _ _ [0] ?_ ?_ ?_ rfl)
      ·rw[hI,hk];simp[hx];omega
      ·simp[vw,zS]
      ·simp[vw,qS,zS]
      ·simp
  ·rw[List.drop_of_length_le (by omega),upR] at hI;simp only[↓vS,vT,simprocAttr,hlt];simp[vZ,hI]
end Go.Kc
end
section
namespace Go.Kc
end Go.Kc
end
section
namespace Go.Kc
variable {P:Program} {f:Nat}
end Go.Kc
end
section
namespace Go.Kc
variable {P:Program} {f:Nat}
section
variable {g1 g2 g3 g4 g5:Nat}
end
end Go.Kc
end
section
namespace Go.Kc
variable {E:List UInt8->List (List UInt8)×Int}
variable (E)
variable {E}
end Go.Kc
end
section
namespace Go.Kc
variable {P:Program} {f:Nat}
instance:DecidableEq GCall:=fun a b=>if h:a.name=b.name∧a.act=b.act then isTrue (by obtain⟨h1,h2⟩:=h;cases a;cases b;simp_all) else isFalse (by rintro rfl;exact h ⟨rfl,rfl⟩)
section
variable {l m:List Asg} {j:Nat}
end
end Go.Kc
end
section
namespace Go.Kc
variable {P:Program} {f:Nat}
variable {E:List UInt8->List (List UInt8)×Int}
section
variable {g1 g2 g3 g4:Nat}
end
end Go.Kc
end
section
namespace Go.Kc
variable {P:Program} {f:Nat}
end Go.Kc
end
section
namespace Go.Kc
open Go.RowKit
variable {P:Program} {f:Nat}
end Go.Kc
end
section
namespace Go.Kc
variable {P:Program} {f:Nat}
end Go.Kc
end
