/- Walks, part 5. Conditions: with each theorem. -/
import Derived.Test.YtgaodkfneooonaaGreatCK4
import Derived.Laws.Externs
import Derived.Lib.Overlaps
import GoSem.ClaimChange
import Derived.ChangeArms
import Derived.ReadAgain
import Derived.ChangeOld
import Derived.ChangeBears
import Derived.OpenShut
import Derived.RecoverIn
import Derived.SizedLaws
set_option maxHeartbeats 4000000
set_option linter.unusedSectionVars false
set_option linter.unusedSimpArgs false
set_option linter.unusedVariables false
set_option linter.unnecessarySimpa false
set_option linter.defProp false
section
namespace Go.Kc
variable {P:Program}

mutual
def rnv(g:Nat->Nat):AV->AV
 | .ptr b o=>.ptr (g b) o
 | .sl b o n c l=>.sl (g b) o n c l
 | .map b=>.map (g b)
 | .own b n=>.own (g b) n
 | .yl b=>.yl (g b)
 | .fn f a c=>.fn f (qa4 g a) (qa4 g c)
 | .ifc t v=>.ifc t (rnv g v)
 | .agg cs=>.agg (qa4 g cs)
 | .tup cs=>.tup (qa4 g cs)
 | v=>v
def qa4(g:Nat->Nat):List AV->List AV
 | []=>[]
 | v::vs=>rnv g v::qa4 g vs
end
mutual
def bnd(m:Nat):AV->Bool
 | .ptr b _=>decide (b<m)
 | .sl b _ _ _ _=>decide (b<m)
 | .map b=>decide (b<m)
 | .own b _=>decide (b<m)
 | .yl b=>decide (b<m)
 | .fn _ a c=>jl m a&&jl m c
 | .ifc _ v=>bnd m v
 | .agg cs=>jl m cs
 | .tup cs=>jl m cs
 | _=>true
def jl(m:Nat):List AV->Bool
 | []=>true
 | v::vs=>bnd m v&&jl m vs
end
def qmh{g:Nat->Nat}:∀{vs:List AV} {j:Nat},(qa4 g vs)[j]?=(vs[j]?).map (rnv g)
 | [],j=>by simp[qa4]
 | v::vs,0=>by simp[qa4]
 | v::vs,j+1=>by simpa[qa4]using qmh (vs:=vs) (j:=j)
def qaG{g:Nat->Nat}:∀{vs:List AV},(qa4 g vs).length=vs.length
 | []=>rfl
 | v::vs=>by simp[qa4,qaG (vs:=vs)]
def qoR{m:Nat}:∀{vs:List AV} {j:Nat} {v:AV},jl m vs=true->vs[j]?=some v->bnd m v=true
 | [],_,_,_,h=>by grind
 | x::xs,0,_,hb,h=>by
  simp only[jl,zzB]at hb
  simp_all
 | x::xs,j+1,_,hb,h=>by
  simp only[jl,zzB]at hb;exact qoR (vs:=xs) (j:=j) hb.2 (by simp_all)
mutual
def VR.rn{Z2 Z3:Ren}{g:Nat->Nat}(h1:∀b L,Z2 b=some L->Z3 (g b)=some L)(h2:∀k a,Z2.frz k=some a->Z3.frz k=some a)(h3:∀b,b<Z2.n->g b<Z3.n):∀{v:AV} {x:Value},VR σ0 Z2 v x->VR σ0 Z3 (rnv g v) x
 | _,_,.undef v=>.undef v
 | _,_,.b x=>.b x
 | _,_,.i k n=>.i k n
 | _,_,.s x=>.s x
 | _,_,.nilp=>.nilp
 | _,_,.ptr b o L h=>.ptr _ _ L (h1 _ _ h)
 | _,_,.nils=>.nils
 | _,_,.sl b o len cap c loose L h hc=>.sl _ _ _ _ _ _ L (h1 _ _ h) hc
 | _,_,.slz b o x l' L h=>.slz _ _ _ _ L (h1 _ _ h)
 | _,_,.nilf=>.nilf
 | _,_,.fn f first cap first' cap' q1 q2=>.fn _ _ _ _ _ (VRs.rn h1 h2 h3 q1) (VRs.rn h1 h2 h3 q2)
 | _,_,.nili=>.nili
 | _,_,.ifc t v v' h=>.ifc _ _ _ (VR.rn h1 h2 h3 h)
 | _,_,.agg cs cs' h=>.agg _ _ (VRs.rn h1 h2 h3 h)
 | _,_,.tup cs cs' h=>.tup _ _ (VRs.rn h1 h2 h3 h)
 | _,_,.nilm=>.nilm
 | _,_,.map b L h h0=>.map _ L (h1 _ _ h) h0
 | _,_,.sym j=>.sym j
 | _,_,.fz n off c cs k arr hn h hs=>.fz n off c cs k arr hn (h2 _ _ h) (hs.mono h2)
 | _,_,.fz0 a=>.fz0 a
 | _,_,.pf off base cs k arr h hs=>.pf off base cs k arr (h2 _ _ h) (hs.mono h2)
 | _,_,.e0 a=>.e0 a
 | _,_,.nz a c=>.nz a c
 | _,_,.own0 b a hb=>.own0 _ _ (h3 _ hb)
 | _,_,.own b n c L h hn hc'=>.own _ _ _ L (h1 _ _ h) hn hc'
 | _,_,.yl b L h=>.yl _ L (h1 _ _ h)
def VRs.rn{Z2 Z3:Ren}{g:Nat->Nat}(h1:∀b L,Z2 b=some L->Z3 (g b)=some L)(h2:∀k a,Z2.frz k=some a->Z3.frz k=some a)(h3:∀b,b<Z2.n->g b<Z3.n):∀{v:List AV} {x:List Value},VRs σ0 Z2 v x->VRs σ0 Z3 (qa4 g v) x
 | _,_,.nil=>.nil
 | _,_,.cons v vs v' vs' h hs=>.cons _ _ _ _ (VR.rn h1 h2 h3 h) (VRs.rn h1 h2 h3 hs)
end
mutual
def VR.nr{Z Zs:Ren}{g:Nat->Nat}{m:Nat}(h1:∀b L,b<m->Z (g b)=some L->Zs b=some L)(h2:Zs.frz=Z.frz)(h3:Zs.n=m):∀{v:AV} {x:Value},bnd m v=true->VR σ0 Z (rnv g v) x->VR σ0 Zs v x
 | .undef,_,_,h=>by cases h;exact .undef _
 | .b _,_,_,h=>by cases h;exact .b _
 | .i _ _,_,_,h=>by cases h;exact .i _ _
 | .s _,_,_,h=>by cases h;exact .s _
 | .nilp,_,_,h=>by cases h;exact .nilp
 | .ptr b o,_,hb,h=>by
  simp only[bnd,decide_eq_true_eq]at hb;cases h with
  | ptr _ _ L q=>exact .ptr _ _ L (h1 _ _ hb q)
 | .nils,_,_,h=>by cases h;exact .nils
 | .sl b o n c l,_,hb,h=>by
  simp only[bnd,decide_eq_true_eq]at hb;cases h with
  | sl _ _ _ _ _ _ L q hc=>exact .sl _ _ _ _ _ _ L (h1 _ _ hb q) hc
  | slz _ _ _ _ L q=>exact .slz _ _ _ _ L (h1 _ _ hb q)
 | .nilf,_,_,h=>by cases h;exact .nilf
 | .fn f a c,_,hb,h=>by
  simp only[bnd,zzB]at hb;cases h with
  | fn _ _ _ _ _ q1 q2=>exact .fn _ _ _ _ _ (VRs.nr h1 h2 h3 hb.1 q1) (VRs.nr h1 h2 h3 hb.2 q2)
 | .nili,_,_,h=>by cases h;exact .nili
 | .ifc t v,_,hb,h=>by
  simp only[bnd]at hb;cases h with
  | ifc _ _ _ q=>exact .ifc _ _ _ (VR.nr h1 h2 h3 hb q)
 | .agg cs,_,hb,h=>by
  simp only[bnd]at hb;cases h with
  | agg _ _ q=>exact .agg _ _ (VRs.nr h1 h2 h3 hb q)
 | .tup cs,_,hb,h=>by
  simp only[bnd]at hb;cases h with
  | tup _ _ q=>exact .tup _ _ (VRs.nr h1 h2 h3 hb q)
 | .nilm,_,_,h=>by cases h;exact .nilm
 | .map b,_,hb,h=>by
  simp only[bnd,decide_eq_true_eq]at hb;cases h with
  | map _ L q h0=>exact .map _ L (h1 _ _ hb q) h0
 | .sym j,_,_,h=>by cases h;exact .sym _
 | .fz n cs,_,_,h=>by
  cases h with
  | fz _ off c _ k arr hn q hs=>exact .fz _ off c _ k arr hn (by rw[h2];exact q) (by rw[h2];exact hs)
  | fz0 a=>exact .fz0 a
 | .pf cs o,_,_,h=>by
  cases h with
  | pf off base _ k arr q hs=>exact .pf _ base _ k arr (by rw[h2];exact q) (by rw[h2];exact hs)
 | .e0,_,_,h=>by cases h;exact .e0 _
 | .nz,_,_,h=>by cases h;exact .nz _ _
 | .own b n,_,hb,h=>by
  simp only[bnd,decide_eq_true_eq]at hb;cases h with
  | own0 _ a q=>exact .own0 _ _ (by rw[h3];exact hb)
  | own _ _ c L q hn hc=>exact .own _ _ c L (h1 _ _ hb q) hn hc
 | .yl b,_,hb,h=>by
  simp only[bnd,decide_eq_true_eq]at hb;cases h with
  | yl _ L q=>exact .yl _ L (h1 _ _ hb q)
 | .lp _,_,_,h=>by cases h
def VRs.nr{Z Zs:Ren}{g:Nat->Nat}{m:Nat}(h1:∀b L,b<m->Z (g b)=some L->Zs b=some L)(h2:Zs.frz=Z.frz)(h3:Zs.n=m):∀{v:List AV} {x:List Value},jl m v=true->VRs σ0 Z (qa4 g v) x->VRs σ0 Zs v x
 | [],_,_,h=>by cases h;exact .nil
 | v::vs,_,hb,h=>by
  simp only[jl,zzB]at hb;cases h with
  | cons _ _ _ _ q1 q2=>exact .cons _ _ _ _ (VR.nr h1 h2 h3 hb.1 q1) (VRs.nr h1 h2 h3 hb.2 q2)
end

def gAt(at':List Nat)(d:Nat):Nat->Nat:=λb=>if b<at'.length then at'.getD b 0 else d+(b-at'.length)
theorem qeJ{at':List Nat}{d b:Nat}(h:b<at'.length):gAt at' d b=at'[b]:=by
 simp[gAt,h]
theorem qlG{at':List Nat}{d b:Nat}(h:at'.length<=b):gAt at' d b=d+(b-at'.length):=by
 simp only[gAt];rw[if_neg (by omega)]
structure Lent (h:Hp) (at':List Nat) (bs:List Blk):Prop where
 len:at'.length=bs.length
 nd:at'.Nodup
 blk:∀i x,bs[i]?=some x->∃e a cs,x = .cells e true a cs/\jl bs.length cs=true/\h.tr.get (gAt at' h.sz i)=some (.cells e true a (qa4 (gAt at' h.sz) cs))/\h.fl<=gAt at' h.sz i/\gAt at' h.sz i<h.sz
def Ren.small(Z:Ren)(at':List Nat)(d:Nat):Ren:=⟨λi=>if i<at'.length then Z (gAt at' d i)else none,Z.frz,at'.length⟩
theorem qd3{Z:Ren}{at':List Nat}{d i:Nat}{L:Loc}(h:Z.small at' d i=some L):i<at'.length/\Z (gAt at' d i)=some L:=by
 simp only[Ren.small]at h;simp_all
def Bar(Z:Ren)(B:Nat->Prop)(h:Hp)(at':List Nat):Nat->Prop:=λk=>B k\/∃b L x,Z b=some L/\b ∉ at'/\h.tr.get b=some x/\x≠.dead/\L.blk=k
theorem Lent.inj{h:Hp}{at':List Nat}{bs:List Blk}(l:Lent h at' bs){i j:Nat}(hi:i<at'.length)(hj:j<at'.length)(he:gAt at' h.sz i=gAt at' h.sz j):i=j:=by
 rw[qeJ hi,qeJ hj]at he
 grind[List.getElem_inj,Lent.nd]
theorem Lent.mem{h:Hp}{at':List Nat}{i:Nat}(hi:i<at'.length):gAt at' h.sz i ∈ at':=by
 rw[qeJ hi];simp_all
def Rel.small{Z:Ren}{B:Nat->Prop}{h:Hp}{w:World}{at':List Nat}{bs:List Blk}(r:Rel σ0 Z B h w)(l:Lent h at' bs):Rel σ0 (Z.small at' h.sz) (Bar Z B h at') (mkH 0 bs) w:=by
 have get:∀i L x,Z.small at' h.sz i=some L->(mkH 0 bs).tr.get i=some x->i<at'.length/\Z (gAt at' h.sz i)=some L/\∃e a cs,x = .cells e true a cs/\jl bs.length cs=true/\h.tr.get (gAt at' h.sz i)=some (.cells e true a (qa4 (gAt at' h.sz) cs))/\h.fl<=gAt at' h.sz i:=by
  intro i L x h1 h2;obtain⟨h3,h4⟩:=qd3 h1;rw[jh]at h2
  grind[Lent.blk]
 refine⟨λi L hb=>?_,?_,?_,?_,?_,?_,?_,?_,?_,?_⟩
 .have:=(qd3 hb).1;rw[l.len]at this;exact this
 .intro i L e wf af cs hb hg;obtain⟨h1,h2,e',a,cs',h3,h4,h5,h6⟩:=get i L _ hb hg;cases h3;obtain⟨q1,c,ty,fz,q2,q3,q4,q5,q6⟩:=r.cells _ L _ _ _ _ h2 h5;rw[qaG]at q4;refine⟨q1,c,ty,fz,q2,q3,q4,λj v hv=>?_,q6⟩
  obtain⟨v',p1,p2⟩:=q5 j (rnv (gAt at' h.sz) v) (by rw[qmh,hv];rfl)
  exact⟨v',p1,VR.nr (Z:=Z) (Zs:=Z.small at' h.sz) (g:=gAt at' h.sz) (m:=bs.length) (λb L hbm hbL=>by
   show(if b<at'.length then Z (gAt at' h.sz b)else none)=some L
   rw[if_pos (by rw[l.len];exact hbm)];omega) rfl l.len (qoR h4 hv) p2⟩
 .grind
 .grind[Lent.inj,Rel.excl]
 .grind
 .intro b L e wf cs hb hg b' L' e' wf' af' cs' hb' hx he;obtain⟨h1,h2,e1,a1,cs1,h3,h4,h5,h6⟩:=get b L _ hb hg;obtain⟨i1,i2,e2,a2,cs2,i3,i4,i5,i6⟩:=get b' L' _ hb' hx;cases h3;cases i3;have q:=r.app _ L _ _ _ h2 h5 _ L' _ _ _ _ i2 i5 he;rw[qaG,qaG]at q
  grind[Lent.inj]
 .intro i L hb _ hbar;have hi:=(qd3 hb).1;have hi':i<bs.length:=by rw[<- l.len];exact hi
  obtain⟨h1,h2,e',a,cs',h3,h4,h5,h6⟩:=get i L bs[i] hb (by rw[jh,zzE hi']);rcases hbar with hB|⟨b,L',x,g1,g2,g3,g4,g5⟩
  all_goals grind[Rel.flr,Rel.excl,Lent.mem]
 .rintro k (hB|⟨b,L',x,g1,g2,g3,g4,rfl⟩)
  .exact r.base k hB
  .exact r.blk_lt b L' g1 x g3 g4
 .intro k arr hk;refine⟨(r.frz k arr hk).1,λb L x hb hx hd=>?_⟩
  obtain⟨h1,h2,e',a,cs',h3,h4,h5,h6⟩:=get b L _ hb hx;exact(r.frz k arr hk).2 _ L _ h2 h5 (by simp)
 .refine⟨?_,λb L h=>r.dn.2 _ L (qd3 h).2⟩
  show at'.length<=bs.length;rw[l.len];omega

def rnb(g:Nat->Nat):Blk->Blk
 | .cells e w a cs=>.cells e w a (qa4 g cs)
 | .dead=>.dead
 | .map _=>.dead
noncomputable def qeX:Hp->List Nat->List Blk->Hp
 | h,b::at',x::xs=>qeX (h.put b x) at' xs
 | h,_,_=>h
def qjx:∀{at':List Nat} {xs:List Blk} {h:Hp},(qeX h at' xs).sz=h.sz
 | [],_,_=>by simp[qeX]
 | _::_,[],_=>by simp[qeX]
 | b::at',x::xs,h=>by
  show(qeX (h.put b x) at' xs).sz=_;rw[qjx];rfl
def qr1:∀{at':List Nat} {xs:List Blk} {h:Hp},(qeX h at' xs).fl=h.fl
 | [],_,_=>by simp[qeX]
 | _::_,[],_=>by simp[qeX]
 | b::at',x::xs,h=>by
  show(qeX (h.put b x) at' xs).fl=_;rw[qr1];rfl
def ql7:∀{at':List Nat} {xs:List Blk} {h:Hp} {b:Nat},b ∉ at'->(qeX h at' xs).tr.get b=h.tr.get b
 | [],_,_,_,_=>by simp[qeX]
 | _::_,[],_,_,_=>by simp[qeX]
 | c::at',x::xs,h,b,hb=>by
  show(qeX (h.put c x) at' xs).tr.get b=_;rw[ql7 (by simp_all)];simp only[Hp.put,Tr.get_set];rw[if_neg (λhh=>hb (by grind))]
def qr2:∀{at':List Nat} {xs:List Blk} {h:Hp} {i b:Nat},at'.Nodup->at'.length=xs.length->at'[i]?=some b->(qeX h at' xs).tr.get b=xs[i]?
 | [],_,_,_,_,_,_,hi=>by grind
 | _::_,[],_,_,_,_,hl,_=>by grind
 | c::at',x::xs,h,0,b,hn,hl,hi=>by
  simp at hi;subst hi;show(qeX (h.put c x) at' xs).tr.get c=_;rw[ql7 (by simp_all)];simp[Hp.put,Tr.get_set]
 | c::at',x::xs,h,i+1,b,hn,hl,hi=>by
  show(qeX (h.put c x) at' xs).tr.get b=_;rw[qr2 (by simp_all) (by simp_all) (by simpa using hi)];simp
noncomputable def qc7(h:Hp)(at':List Nat)(bs2:List Blk):Hp:=qam (qeX h at' ((bs2.take at'.length).map (rnb (gAt at' h.sz)))) ((bs2.drop at'.length).map (rnb (gAt at' h.sz)))
def Ren.back(Z Z2:Ren)(at':List Nat)(d l:Nat):Ren:=⟨λb=>if b<d then Z b else Z2 (b-d+at'.length),Z2.frz,d+(l-at'.length)⟩
def qlk{h:Hp}{at':List Nat}{bs2:List Blk}:(qc7 h at' bs2).sz=h.sz+(bs2.length-at'.length):=by
 unfold qc7;rw[qfv,qjx];simp
def qoL{h:Hp}{at':List Nat}{bs2:List Blk}:(qc7 h at' bs2).fl=h.fl:=by
 unfold qc7;rw[qhf,qr1]
def qmJ{h:Hp}{at':List Nat}{bs2:List Blk}{b:Nat}(hb:b<h.sz)(hm:b ∉ at'):(qc7 h at' bs2).tr.get b=h.tr.get b:=by
 unfold qc7;rw[qbt,qjx,if_pos hb,ql7 hm]
def quu{h:Hp}{at':List Nat}{bs2:List Blk}(hn:at'.Nodup)(hl:at'.length<=bs2.length)(hlt:∀b ∈ at',b<h.sz){i:Nat}(hi:i<at'.length):(qc7 h at' bs2).tr.get (gAt at' h.sz i)=(bs2[i]?).map (rnb (gAt at' h.sz)):=by
 have hm:gAt at' h.sz i ∈ at':=Lent.mem hi;unfold qc7;rw[qbt,qjx,if_pos (hlt _ hm),qr2 (i:=i) hn (by simp_all) (by rw[qeJ hi];simp_all),List.getElem?_map,List.getElem?_take_of_lt hi]
theorem qsH{h:Hp}{at':List Nat}{bs2:List Blk}{i:Nat}(hi:at'.length<=i)(hi2:i<bs2.length):(qc7 h at' bs2).tr.get (gAt at' h.sz i)=(bs2[i]?).map (rnb (gAt at' h.sz)):=by
 unfold qc7;rw[qlG hi,qbt,qjx,if_neg (by omega),if_pos (by grind),List.getElem?_map,List.getElem?_drop];rw[show at'.length+(h.sz+(i-at'.length)-h.sz)=i from by omega]
def Rel.back{Z Z2:Ren}{B:Nat->Prop}{h:Hp}{w w1:World}{at':List Nat}{bs bs2:List Blk}(r:Rel σ0 Z B h w)(l:Lent h at' bs)(r2:Rel σ0 Z2 (Bar Z B h at') (mkH 0 bs2) w1)(hl:at'.length<=bs2.length)
  (he:∀i,i<at'.length->Z2 i=Z.small at' h.sz i) (hp:∀k,Bar Z B h at' k->w1.heap[k]?=w.heap[k]?) (hw:w.heap.size<=w1.heap.size)
  (f1:∀k a,Z.frz k=some a->Z2.frz k=some a) (f2:∀k a,Z2.frz k=some a->Z.frz k=some a\/¬Bar Z B h at' k):(∀b L,Z2 b=some L->Z.back Z2 at' h.sz bs2.length (gAt at' h.sz b)=some L)/\Rel σ0 (Z.back Z2 at' h.sz bs2.length) B (qc7 h at' bs2) w1:=by
 have hlt:∀b ∈ at',b<h.sz:=by
  intro b hb;obtain⟨i,hi,rfl⟩:=List.getElem_of_mem hb;have hi':i<bs.length:=by rw[<- l.len];exact hi
  obtain⟨_,_,_,_,_,_,_,h6⟩:=l.blk i bs[i] (by simp_all);rwa [qeJ hi]at h6
 have up:∀b L,Z2 b=some L->Z.back Z2 at' h.sz bs2.length (gAt at' h.sz b)=some L:=by
  intro b L hb;show(if gAt at' h.sz b<h.sz then Z (gAt at' h.sz b)else Z2 (gAt at' h.sz b-h.sz+at'.length))=some L
  grind[Lent.mem,qd3,qlG]
 refine⟨up,?_⟩
 have nle:∀b,b<Z2.n->gAt at' h.sz b<h.sz+(bs2.length-at'.length):=by
  intro b hb;have hb2:b<bs2.length:=Nat.lt_of_lt_of_le hb r2.dn.1
  grind[Lent.mem,qlG]
 have le1:∀b L,Z b=some L->Z.back Z2 at' h.sz bs2.length b=some L:=by
  intro b L hb;show(if b<h.sz then Z b else _)=some L
  rw[if_pos (r.dom b L hb)];exact hb
 have le2:Z.le (Z.back Z2 at' h.sz bs2.length):=⟨le1,f1,Nat.le_trans r.dn.1 (Nat.le_add_right _ _)⟩
 -- a block: an old one that stayed,or one of the small heap
 have split:∀b L,Z.back Z2 at' h.sz bs2.length b=some L->(b ∉ at'/\Z b=some L/\(qc7 h at' bs2).tr.get b=h.tr.get b) \/
   ∃c,b=gAt at' h.sz c/\Z2 c=some L/\(qc7 h at' bs2).tr.get b=((mkH 0 bs2).tr.get c).map (rnb (gAt at' h.sz)):=by
  intro b L hb;have hb':(if b<h.sz then Z b else Z2 (b-h.sz+at'.length))=some L:=hb
  by_cases hbs:b<h.sz
  .rw[if_pos hbs]at hb'
   by_cases hm:b ∈ at'
   .obtain⟨i,hi,rfl⟩:=List.getElem_of_mem hm;refine .inr ⟨i,(qeJ hi).symm,?_,?_⟩
    .rw[he i hi];show(if i<at'.length then Z (gAt at' h.sz i)else none)=some L
     rw[if_pos hi,qeJ hi];exact hb'
    .have:=quu (bs2:=bs2) l.nd hl hlt hi;rw[qeJ hi]at this;rw[this,jh]
   simp_all[qmJ]
  .rw[if_neg hbs]at hb';have hc:b-h.sz+at'.length<bs2.length:=r2.dom _ L hb';have e:gAt at' h.sz (b-h.sz+at'.length)=b:=by rw[qlG (by omega)];omega
   grind[qsH,jh]
 have apart:∀b L x c L2,b ∉ at'->Z b=some L->h.tr.get b=some x->x≠.dead->Z2 c=some L2->L2.blk≠L.blk:=by
  intro b L x c L2 h1 h2 h3 h4 h5 h6;exact r2.flr c L2 h5 (Nat.zero_le _) (.inr (by grind))
 have shc:∀{o:Option Blk} {e:Nat} {w a:Bool} {cs:List AV},o.map (rnb (gAt at' h.sz))=some (.cells e w a cs)->∃cs0,o=some (.cells e w a cs0)/\cs=qa4 (gAt at' h.sz) cs0:=by
  intro o e w a cs ho;cases o with
  | none=>grind
  | some x =>
   cases x with
   | cells e' w' a' cs'=>simp[rnb]at ho;simp_all
   | dead=>simp[rnb]at ho
   | map es=>simp[rnb]at ho
 have shn:∀{o:Option Blk} {y:Blk},o.map (rnb (gAt at' h.sz))=some y->y≠.dead->∃x,o=some x/\x≠.dead:=by
  intro o y ho hy;cases o with
  | none=>grind
  | some x =>
   refine⟨x,rfl,λhx=>?_⟩
   subst hx;simp[rnb]at ho;grind
 have shm:∀{o:Option Blk} {es:List (AV×AV)},o.map (rnb (gAt at' h.sz))=some (.map es)->False:=by
  intro o es ho;cases o with
  | none=>grind
  | some x=>cases x<;>simp[rnb]at ho
 refine⟨λb L hb=>?_,?_,?_,?_,?_,?_,?_,qfB r.base hw,?_,?_⟩
 .rw[qlk];have hb':(if b<h.sz then Z b else Z2 (b-h.sz+at'.length))=some L:=hb
  by_cases hbs:b<h.sz
  .omega
  .rw[if_neg hbs]at hb';have hc:b-h.sz+at'.length<bs2.length:=r2.dom _ L hb';omega
 .intro b L e wf af cs hb hg;rcases split b L hb with⟨h1,h2,h3⟩|⟨c,rfl,h2,h3⟩
  .rw[h3]at hg;obtain⟨q1,c,ty,fz,q2,q3,q4,q5,q6⟩:=r.cells b L e wf af cs h2 hg;exact⟨q1,c,ty,fz,by rw[hp _ (.inr (by grind))];exact q2,q3,q4,by grind[VR.mono],q6⟩
  .rw[h3]at hg;obtain⟨cs0,g1,rfl⟩:=shc hg;obtain⟨q1,c',ty,fz,q2,q3,q4,q5,q6⟩:=r2.cells c L e wf af cs0 h2 g1;refine⟨q1,c',ty,fz,q2,q3,by rw[qaG];exact q4,λj v hv=>?_,q6⟩
   rw[qmh]at hv;cases hj:cs0[j]? with
   | none=>rw[hj]at hv;grind
   | some v0 =>
    rw[hj]at hv;simp at hv;subst hv;obtain⟨v',g7,g8⟩:=q5 j v0 hj;exact⟨v',g7,VR.rn (Z3:=Z.back Z2 at' h.sz bs2.length) up (λ_ _ h=>h) nle g8⟩
 .intro b L es hb hg;rcases split b L hb with⟨h1,h2,h3⟩|⟨c,rfl,h2,h3⟩
  .rw[h3]at hg;obtain⟨q1,o,q2,q3⟩:=r.maps b L es h2 hg;exact⟨q1,o,by rw[hp _ (.inr (by grind))];exact q2,q3.mono le2⟩
  grind
 .intro b L e af cs hb hg b' L' x hb' hx hd hee;rcases split b L hb with⟨h1,h2,h3⟩|⟨c,rfl,h2,h3⟩<;>rcases split b' L' hb' with⟨i1,i2,i3⟩|⟨c',rfl,i2,i3⟩
  .rw[h3]at hg;rw[i3]at hx
   grind[Rel.excl]
  .rw[h3]at hg
   grind
  .rw[i3]at hx
   grind
  .rw[h3]at hg;rw[i3]at hx;obtain⟨cs0,g1,rfl⟩:=shc hg;obtain⟨x0,g2,g3⟩:=shn hx hd;rw[r2.excl c L e af cs0 h2 g1 c' L' x0 i2 g2 g3 hee]
 .intro b L es hb hg b' L' x hb' hx hd hee;rcases split b L hb with⟨h1,h2,h3⟩|⟨c,rfl,h2,h3⟩
  .rw[h3]at hg;rcases split b' L' hb' with⟨i1,i2,i3⟩|⟨c',rfl,i2,i3⟩
   .rw[i3]at hx;exact by grind[Rel.exclm]
   .exact by grind
  grind
 .intro b L e wf cs hb hg b' L' e' wf' af' cs' hb' hx hee;rcases split b L hb with⟨h1,h2,h3⟩|⟨c,rfl,h2,h3⟩<;>rcases split b' L' hb' with⟨i1,i2,i3⟩|⟨c',rfl,i2,i3⟩
  .rw[h3]at hg;rw[i3]at hx;exact r.app b L e wf cs h2 hg b' L' e' wf' af' cs' i2 hx hee
  .rw[h3]at hg
   grind
  .rw[i3]at hx
   grind
  .rw[h3]at hg;rw[i3]at hx;obtain⟨cs0,g1,rfl⟩:=shc hg;obtain⟨cs1,g2,rfl⟩:=shc hx;have q:=r2.app c L e wf cs0 h2 g1 c' L' e' wf' af' cs1 i2 g2 hee;rw[qaG,qaG]
   grind
 .intro b L hb hf hB;rw[qoL]at hf;rcases split b L hb with⟨h1,h2,h3⟩|⟨c,rfl,h2,h3⟩
  .grind[Rel.flr]
  .exact r2.flr c L h2 (Nat.zero_le _) (.inl hB)
 .intro k arr hk;refine⟨(r2.frz k arr hk).1,λb L x hb hx hd=>?_⟩
  rcases split b L hb with⟨h1,h2,h3⟩|⟨c,rfl,h2,h3⟩
  .rw[h3]at hx;rcases f2 k arr hk with g|g
   .grind[Rel.frz]
   .exact λhh=>g (.inr (by grind))
  .rw[h3]at hx;obtain⟨x0,g2,g3⟩:=shn hx hd;exact(r2.frz k arr hk).2 c L x0 h2 g2 g3
 .refine⟨?_,λb L hb=>?_⟩
  .show h.sz+(bs2.length-at'.length)<=_;rw[qlk];omega
  .rcases split b L hb with⟨_,h2,_⟩|⟨c,rfl,h2,_⟩
   .exact Nat.lt_of_lt_of_le (r.dn.2 b L h2) hw
   .exact r2.dn.2 c L h2
def qya(m:Nat)(v:AV)(bs2:List Blk)(v':AV)(h':Hp):Prop:=h'.fl=0->∃src:List Nat,NV (rl src h'.sz) bs2.length v' v/\BWs h' (rl src h'.sz) bs2.length src bs2/\(src.filter λb=>decide (b<h'.sz)).Nodup/\∀b,b<m->rl src h'.sz b=b
def qx9(m:Nat)(v:AV)(bs2:List Blk)(v':AV)(h':Hp):Prop:=h'.fl=0->Wk m (mkT [(0,v')]) h' (mkT [(0,v)]) (mkH 0 bs2)
theorem qya.w{m:Nat}{v:AV}{bs2:List Blk}{v':AV}{h':Hp}(hz:qya m v bs2 v' h')(hle:m<=bs2.length):qx9 m v bs2 v' h':=by
 intro hfl;obtain⟨src,s1,s2,s3,s4⟩:=hz hfl;exact Wk.mkn [(0,v)] bs2 src ⟨⟨v',by simp[mkT,Tr.get_set],s1⟩,trivial⟩ s2 s3 hfl hle s4
def Upd(P:Program)(f:Nat)(vs:List AV)(bs:List Blk)(v:AV)(bs2:List Blk):Prop :=
 jl bs.length vs=true/\bs.length<=bs2.length/\SC P f vs (mkH 0 bs) (qx9 bs.length v bs2)
theorem Upd.mk{f:Nat}{i:IFn}{vs:List AV}{v:AV}{bs bs2:List Blk}(hc:qc P f i=true)(hb:jl bs.length vs=true)(hl:bs.length<=bs2.length)(hV:V P bs.length i.body (xk i.res (qya bs.length v bs2)) (qbl vs 0 .leaf) (mkH 0 bs)):Upd P f vs bs v bs2 :=
 ⟨hb,hl,(SC.mk hc (qk hV)).mono (by grind[qya.w])⟩
def Upd.sc{f:Nat}{vs:List AV}{bs bs2:List Blk}{v:AV}{h:Hp}{k:AV->Hp->Prop}(at':List Nat)(hu:Upd P f vs bs v bs2)(l:Lent h at' bs)(hk:k (rnv (gAt at' h.sz) v) (qc7 h at' bs2)):SC P f (qa4 (gAt at' h.sz) vs) h k:=by
 obtain⟨hb,hle,hu⟩:=hu;refine⟨hu.1,λZ B w args r ha=>?_⟩
 have hle':at'.length<=bs2.length:=by rw[l.len];omega
 have ha':VRs σ0 (Z.small at' h.sz) vs args.toList:=VRs.nr (Z:=Z) (Zs:=Z.small at' h.sz) (g:=gAt at' h.sz) (m:=bs.length) (λb L hbm hbL=>by
  show(if b<at'.length then Z (gAt at' h.sz b)else none)=some L
  rw[if_pos (by rw[l.len];exact hbm)];omega) rfl l.len hb ha
 refine qb4.mono (hu.2 (Z.small at' h.sz) (Bar Z B h at') w args (r.small l) ha') ?_;rintro e w1 ⟨v0,v',h1,Z1,rfl,g1,g2,g3,g4⟩;have hw:Wk bs.length (mkT [(0,v0)]) h1 (mkT [(0,v)]) (mkH 0 bs2):=g1 g4.fl
 obtain⟨Z2,t2,r2,k2⟩:=hw Z1 (Bar Z B h at') w1 #[v'] (λj x hj=>by
  have:=qex hj
  simp_all) g3
 have hv2:VR σ0 Z2 v v':=by
  have:=(t2 0 v (by simp[mkT,Tr.get_set])).2
  simp_all
 have he:∀i,i<at'.length->Z2 i=Z.small at' h.sz i:=λi hi=>(k2.ext i (by rw[<- l.len];exact hi)).trans (by grind[Kept.ext,qwv,Lent.len])
 have f1:∀k a,Z.frz k=some a->Z2.frz k=some a:=λk a hk=>k2.frz k a (g4.frz k a hk)
 have f2:∀k a,Z2.frz k=some a->Z.frz k=some a\/¬Bar Z B h at' k:=λk a hk=>(k2.fnew k a hk).elim (g4.fnew k a) .inr
 obtain⟨up,big⟩:=Rel.back r l r2 hle' he g4.pres g4.wle f1 f2
 have nle:∀b,b<Z2.n->gAt at' h.sz b<(Z.back Z2 at' h.sz bs2.length).n:=by
  intro b hb;have hb2:b<bs2.length:=Nat.lt_of_lt_of_le hb r2.dn.1;show _<h.sz+(bs2.length-at'.length)
  by_cases hbm:b<at'.length
  .have hbm':b<bs.length:=by rw[<- l.len];exact hbm
   obtain⟨_,_,_,_,_,_,_,h6⟩:=l.blk b bs[b] (by simp_all);omega
  grind[qlG]
 refine⟨_,v',_,Z.back Z2 at' h.sz bs2.length,rfl,hk,VR.rn up (λ_ _ h=>h) nle hv2,big,?_⟩
 refine⟨λb hb=>?_,by rw[qlk];omega,qoL,λb hf hb=>qmJ hb (λhm=>?_),λk hk=>g4.pres k (.inl hk),g4.wle,g4.io,f1,λk a hk=>(f2 k a hk).imp id (λhh hB=>hh (.inl hB)),Nat.le_trans r.dn.1 (Nat.le_add_right _ _)⟩
 .show (if b<h.sz then Z b else _)=Z b
  rw[if_pos hb]
 .obtain⟨i,hi,rfl⟩:=List.getElem_of_mem hm;have hi':i<bs.length:=by rw[<- l.len];exact hi
  obtain⟨_,_,_,_,_,_,h5,_⟩:=l.blk i bs[i] (by simp_all);rw[qeJ hi]at h5;omega
end Go.Kc
end
section
namespace Go.Kc
variable {P:Program} {h:Hp}

def qfm(h:Hp)(g:Nat->Nat)(m:Nat):List Nat->List Blk->Prop
 | [],[]=>True
 | b::at',.cells e true a cs::xs=>(jl m cs=true/\evB (h.tr.get b) (λy=>y=Blk.cells e true a (qa4 g cs))/\h.fl<=b/\b<h.sz)/\qfm h g m at' xs
 | _,_=>False
theorem qfm.get{g:Nat->Nat}{m:Nat}:∀{at':List Nat} {bs:List Blk},qfm h g m at' bs->at'.length=bs.length/\∀(i:Nat) (x:Blk),bs[i]?=some x->∃b e a cs,at'[i]?=some b/\x = .cells e true a cs/\jl m cs=true/\h.tr.get b=some (.cells e true a (qa4 g cs))/\h.fl<=b/\b<h.sz
 | [],[],_=>⟨rfl,by simp⟩
 | [],_::_,hh=>by simp[qfm]at hh
 | _::_,[],hh=>by simp[qfm]at hh
 | b::at',.dead::xs,hh=>by simp[qfm]at hh
 | b::at',.map _::xs,hh=>by simp[qfm]at hh
 | b::at',.cells e false a cs::xs,hh=>by simp[qfm]at hh
 | b::at',.cells e true a cs::xs,hh=>by
  obtain⟨⟨h1,⟨y,h2,h3⟩,h4,h5⟩,h6⟩:=hh;subst h3;obtain⟨h7,h8⟩:=qfm.get h6
  grind
def Lent.of{at':List Nat}{bs:List Blk}(hn:at'.Nodup)(hl:qfm h (gAt at' h.sz) bs.length at' bs):Lent h at' bs:=by
 obtain⟨h1,h2⟩:=hl.get;refine⟨h1,hn,λi x hx=>?_⟩
 grind[qeJ]
def qwe{g:Nat->Nat}{m:Nat}:qfm h g m [] []↔True:=Iff.rfl
def qts{g:Nat->Nat}{m b e:Nat}{at':List Nat}{a:Bool}{cs:List AV}{xs:List Blk}:qfm h g m (b::at') (.cells e true a cs::xs)↔(jl m cs=true/\evB (h.tr.get b) (λy=>y=Blk.cells e true a (qa4 g cs))/\h.fl<=b/\b<h.sz)/\qfm h g m at' xs:=Iff.rfl
def qx{s f b:Nat}{tr:Tr Blk}{x:Blk}:Hp.put ⟨s,f,tr⟩ b x=⟨s,f,tr.set b x⟩:=rfl
def qpT{xs:List Blk}:qeX h [] xs=h:=by simp[qeX]
def qnj{b:Nat}{at':List Nat}{x:Blk}{xs:List Blk}:qeX h (b::at') (x::xs)=qeX (h.put b x) at' xs:=rfl
def qAr{g:Nat->Nat}{v:AV}(hv:clo v=true):rnv g v=v:=by
 have key:(∀v:AV,clo v=true->rnv g v=v):=λv=>by
  refine AV.rec (motive_1:=λv=>clo v=true->rnv g v=v) (motive_2:=λvs=>qt vs=true->qa4 g vs=vs) ?_ ?_ ?_ ?_ ?_ ?_ ?_ ?_ ?_ ?_ ?_ ?_ ?_ ?_ ?_ ?_ ?_ ?_ ?_ ?_ ?_ ?_ ?_ ?_ ?_ ?_ v
  all_goals first
   | (intros;rfl)
   | (intros;rename_i hh;simp[clo]at hh;done)
   | skip
  .intro f a c h1 h2 hh;simp only[clo,zzB]at hh;simp only[rnv,h1 hh.1,h2 hh.2]
  .intro t v h1 hh;simp only[clo]at hh;simp only[rnv,h1 hh]
  .intro cs h1 hh;simp only[clo]at hh;simp only[rnv,h1 hh]
  .intro cs h1 hh;simp only[clo]at hh;simp only[rnv,h1 hh]
  .intro v vs h1 h2 hh;simp only[qt,zzB]at hh;simp only[qa4,h1 hh.1,h2 hh.2]
 simp_all
def qg{g:Nat->Nat}:∀{vs:List AV},qt vs=true->qa4 g vs=vs
 | [],_=>rfl
 | v::vs,h=>by
  simp only[qt,zzB]at h;simp only[qa4,qAr h.1,qg h.2]
def jy:Blk->Bool
 | .dead=>false
 | _=>true
def qnd{α β:Type}{f:α->β}{p:α->Bool}:∀{l:List α},((l.filter p).map f).Nodup->∀{i j:Nat} {x y:α},l[i]?=some x->l[j]?=some y->p x=true->p y=true->f x=f y->i=j
 | [],_,i,j,x,y,hi,_,_,_,_=>by grind
 | a::l,hn,i,j,x,y,hi,hj,hx,hy,he=>by
  have tail:((l.filter p).map f).Nodup:=by
   rw[List.filter_cons]at hn
   grind
  have no:∀{z:α} {m:Nat},l[m]?=some z->p z=true->p a=true->f a=f z->False:=by
   grind
  cases i with
  | zero =>
   grind
  | succ i =>
   cases j with
   | zero=>grind
   | succ j =>
    have hij:i=j:=qnd tail (i:=i) (j:=j) (by simp_all) (by simp_all) hx hy he;rw[hij]
theorem Wk.mkd{n:Nat}{t:Tr AV}(ts:List (Nat×AV))(bl:List Blk)(src:List Nat)(hT:TWs t (rl src h.sz) bl.length ts)(hB:BWs h (rl src h.sz) bl.length src bl)
  (hI:(((src.zip bl).filter λp=>decide (p.1<h.sz)&&jy p.2).map Prod.fst).Nodup) (hfl:h.fl=0) (hn:n<=bl.length) (hlow:∀b,b<n->rl src h.sz b=b):Wk n t h (mkT ts) (mkH 0 bl):=by
 obtain⟨hlen,hget⟩:=hB.get;refine Wk.of (r:=rl src h.sz) ⟨hfl.symm,λb' x' hb hg=>?_,λb1 b2 h1 h2 l1 l2 he hl=>?_,λb' _ _ _=>by rw[hfl];omega,hlow,hn,λb _ hb=>by rw[hfl]at hb;omega,λj v' hj=>?_⟩
 .rw[jh]at hg;obtain⟨b,q1,q2⟩:=hget b' x' hg;have:rl src h.sz b'=b:=by simp[rl,List.getD_eq_getElem?_getD,q1]
  rw[this];exact q2
 .obtain⟨x1,g1,d1⟩:=l1;obtain⟨x2,g2,d2⟩:=l2;rw[jh]at g1 g2;obtain⟨c1,q1,_⟩:=hget b1 x1 g1;obtain⟨c2,q2,_⟩:=hget b2 x2 g2;have e1:rl src h.sz b1=c1:=by simp[rl,List.getD_eq_getElem?_getD,q1]
  have e2:rl src h.sz b2=c2:=by simp[rl,List.getD_eq_getElem?_getD,q2]
  rw[e1,e2]at he;rw[e1]at hl;have v1:jy x1=true:=by cases x1<;>first|rfl|exact absurd rfl d1
  have v2:jy x2=true:=by cases x2<;>first|rfl|exact absurd rfl d2
  refine qnd hI (i:=b1) (j:=b2) (x:=(c1,x1)) (y:=(c2,x2)) ?_ ?_ ?_ ?_ he
  all_goals grind
 .exact hT.get _ (qex hj)
def qtG{b o:Nat}{k:AV->Prop}:qkG (.ptr b o) k↔k (.ptr b o):=Iff.rfl
def qwz{cs:List AV}{o:Nat}{k:AV->Prop}:qkG (.pf cs o) k↔k (.pf cs o):=Iff.rfl
def qtF{b:Nat}{k:AV->Prop}:qkG (.map b) k↔k (.map b):=Iff.rfl
def qwA{b:Nat}{k:AV->Prop}:qkG (.yl b) k↔k (.yl b):=Iff.rfl
def qwy{f:Nat}{a c:List AV}{k:AV->Prop}:qkG (.fn f a c) k↔k (.fn f a c):=Iff.rfl
def qAS{C:zI}{ops:List ROp}{Q:Tr AV->Hp->Prop}{t:Tr AV}{s f f':Nat}{tr:Tr Blk}:VR' C ops Q t (Hp.down ⟨s,f,tr⟩ f')↔VR' C ops Q t ⟨s,f',tr⟩:=Iff.rfl
def qH5{C:zI}{ops:List ROp}{Q:Tr AV->Hp->Prop}{t:Tr AV}{s f:Nat}{tr:Tr Blk}{dst:Option Nat}{o:IOp}:VR' C (⟨dst,.op o,none⟩::ops) Q t ⟨s,f,tr⟩ ↔
  if wr (.op o)=true then opK qL o t ⟨s,f,tr⟩ (λv h'=>qap t dst v (λt'=>VR' C ops Q t' h'))else opK qL o t ⟨s,s,tr⟩ (λv h'=>qap t dst v (λt'=>VR' C ops Q t' (h'.down f))):=qBP
def qFi{C:zI}{Q:Tr AV->Hp->Prop}{t:Tr AV}{s f:Nat}{tr:Tr Blk}:VR' C [] Q t ⟨s,f,tr⟩↔Q t ⟨s,f,tr⟩:=Iff.rfl
def qyw{m:Nat}:∀{v:AV},clo v=true->bnd m v=true:=by
 intro v;refine AV.rec (motive_1:=λv=>clo v=true->bnd m v=true) (motive_2:=λvs=>qt vs=true->jl m vs=true) ?_ ?_ ?_ ?_ ?_ ?_ ?_ ?_ ?_ ?_ ?_ ?_ ?_ ?_ ?_ ?_ ?_ ?_ ?_ ?_ ?_ ?_ ?_ ?_ ?_ ?_ v
 all_goals first
  | (intros;rfl)
  | (intros;rename_i hh;simp[clo]at hh;done)
  | skip
 .intro f a c h1 h2 hh;simp only[clo,zzB]at hh;simp only[bnd,h1 hh.1,h2 hh.2,Bool.and_self]
 .intro t v h1 hh;simp only[clo]at hh;simp only[bnd,h1 hh]
 .intro cs h1 hh;simp only[clo]at hh;simp only[bnd,h1 hh]
 .intro cs h1 hh;simp only[clo]at hh;simp only[bnd,h1 hh]
 .intro v vs h1 h2 hh;simp only[qt,zzB]at hh;simp only[jl,h1 hh.1,h2 hh.2,Bool.and_self]
def qv{m:Nat}:∀{vs:List AV},qt vs=true->jl m vs=true
 | [],_=>rfl
 | v::vs,h=>by
  simp only[qt,zzB]at h;simp only[jl,qyw h.1,qv h.2,Bool.and_self]
end Go.Kc
end
section
namespace Go.Kc
def vQ:=zzA @List.map_cons.{0,0} (zzA @List.map_nil.{0,0} (zzA @Bool.and_true (zzA @Bool.true_and (zzA @Bool.and_self (zzA @and_self (zzA @Tr.get_set (zzA @decide_eq_true_eq (zzA @Bool.false_eq_true (zzA @true_and (zzA @and_true (zzA @List.getElem?_cons_zero.{0} (zzA @List.getElem?_cons_succ.{0} (zzA @List.length_cons.{0} (zzA @List.length_nil.{0} (zzA @List.take_zero.{0} (zzA @List.take_succ_cons.{0} (zzA @List.drop_zero.{0} (zzA @List.drop_succ_cons.{0} (zzA @List.drop_nil.{0} (zzA @List.take_nil.{0} (zzA @List.nil_append.{0} (zzA @List.cons_append.{0} (zzA @List.append_nil.{0} (zzA @Nat.zero_add (zzA @Nat.add_zero (zzA @zzL (zzA @Nat.zero_le (zzA @Int.toNat_natCast (zzA @Int.natCast_nonneg (zzA @Int.ofNat_lt (zzA @Bool.not_true (zzA @Bool.not_false (zzA @decide_true (zzA @decide_false (zzA @Bool.xor_false (zzA @Bool.xor_true (zzA @Bool.false_xor (zzA @Bool.true_xor (zzA @Nat.lt_irrefl (zzA @List.replicate_succ.{0} (zzA @List.replicate_zero.{0} (zzA @List.flatten_cons.{0} (zzA @List.flatten_nil.{0} (zzA @Nat.succ_eq_add_one (zzA @Option.isNone_none.{0} (zzA @Option.isSome_none.{0} (zzA @Bool.false_and (zzA @Bool.and_false (zzA @Nat.sub_zero (zzA @qpT (zzA @qnj (zzA @qx (zzA @qzv (zzA @qk6 (zzA @qhE (zzA @qfR @List.append_assoc.{0}))))))))))))))))))))))))))))))))))))))))))))))))))))))))
def vX:=zzA @qAS (zzA @qH5 (zzA @qFi (zzA @qwX (zzA @qwY (zzA @qtG (zzA @qwz (zzA @qtF (zzA @qwA @qwy))))))))
def vU:=zzA @shb.eq_1 (zzA @shb.eq_2 (zzA @shb.eq_3 (zzA @shv.eq_1 (zzA @shv.eq_2 (zzA @shv.eq_3 (zzA @shv.eq_4 (zzA @shv.eq_5 (zzA @shv.eq_6 (zzA @shv.eq_7 (zzA @shv.eq_8 (zzA @shv.eq_9 (zzA @shv.eq_10 (zzA @qgo.eq_1 @qgo.eq_2)))))))))))))
def vY:=zzA vU (zzA @qcR.eq_1 (zzA @qcR.eq_2 (zzA @cellsOf.eq_1 (zzA @cellsOf.eq_2 (zzA @wr.eq_1 (zzA @wr.eq_2 (zzA @wr.eq_3 (zzA @wr.eq_4 (zzA @wr.eq_5 (zzA @wr.eq_6 (zzA @wr.eq_7 (zzA @wr.eq_8 (zzA @wr.eq_9 (zzA @qfs.eq_1 @qfs.eq_2))))))))))))))
def vS:=zzA vA (zzA vE (zzA vO (zzA vB (zzA vF (zzA vM (zzA vR vX))))))
def vT:=zzA vY (zzA @qCD (zzA @qCE (zzA vP (zzA vC (zzA vQ (zzA @qsi (zzA @qp9 (zzA not_false_eq_true (zzA @eq_self.{1} @Int.cast_ofNat_Int)))))))))
def vw:=zzA vW (zzA @qyZ (zzA @qGX (zzA @qGW (zzA @qCL (zzA @jO (zzA @jV (zzA @jg (zzA @zS (zzA @qCg (zzA @qna (zzA @qtB (zzA @qqO (zzA @qpJ (zzA vP (zzA vZ @Tr.get_set)))))))))))))))
def vK:=zzA (zzA @qc7.eq_1 (zzA @rnb.eq_1 (zzA @rnb.eq_2 (zzA @rnb.eq_3 (zzA @qa4.eq_1 (zzA @qa4.eq_2 (zzA @rnv.eq_1 (zzA @rnv.eq_2 (zzA @rnv.eq_3 (zzA @rnv.eq_4 (zzA @rnv.eq_5 (zzA @rnv.eq_6 (zzA @rnv.eq_7 (zzA @rnv.eq_8 (zzA @rnv.eq_9 (zzA @rnv.eq_10 @gAt.eq_1)))))))))))))))) (zzA @List.cons_append.{0} (zzA @List.nil_append.{0} (zzA @List.length_cons.{0} (zzA @List.length_nil.{0} (zzA Nat.zero_add (zzA @List.take_succ_cons.{0} (zzA @List.take_zero.{0} (zzA @List.drop_succ_cons.{0} (zzA @List.drop_zero.{0} (zzA @List.map_cons.{0,0} (zzA @List.map_nil.{0,0} (zzA @List.getD_cons_zero.{0} (zzA @List.getD_cons_succ.{0} (zzA @qnj (zzA @qpT (zzA @qfR (zzA @qhE (zzA @qx @qk6))))))))))))))))))
def vJ:=zzA vU (zzA @qfR (zzA @qhE (zzA @qk6 (zzA @qsi (zzA @qp9 (zzA @List.map_cons.{0,0} (zzA @List.map_nil.{0,0} (zzA @qBD (zzA @qrr Nat.zero_add)))))))))
def vL:=zzA vU (zzA (zzA @jl.eq_1 (zzA @jl.eq_2 (zzA @bnd.eq_1 (zzA @bnd.eq_2 (zzA @bnd.eq_3 (zzA @bnd.eq_4 (zzA @bnd.eq_5 (zzA @bnd.eq_6 (zzA @bnd.eq_7 (zzA @bnd.eq_8 (zzA @bnd.eq_9 (zzA @bnd.eq_10 (zzA @qa4.eq_1 (zzA @qa4.eq_2 (zzA @rnv.eq_1 (zzA @rnv.eq_2 (zzA @rnv.eq_3 (zzA @rnv.eq_4 (zzA @rnv.eq_5 (zzA @rnv.eq_6 (zzA @rnv.eq_7 (zzA @rnv.eq_8 (zzA @rnv.eq_9 (zzA @rnv.eq_10 @gAt.eq_1)))))))))))))))))))))))) (zzA @qts (zzA @qwe (zzA @qfR (zzA @qhE @qk6)))))
abbrev AV.j(n:Int):AV:=.i .i64 n
abbrev AV.w(n:Int):AV:=.i .u32 n
abbrev AV.h(n:Int):AV:=.i .u16 n
abbrev AV.y(n:Int):AV:=.i .u8 n
abbrev AV.x(n:Int):AV:=.i .u64 n
abbrev Blk.v(l:List AV):Blk:=.cells 0 true false l
def sq:List ICode->ICode
 | []=>.skip
 | [x]=>x
 | x::y::l=>.seq x (sq (y::l))
def sq1:sq []=.skip:=rfl
def sq2{x:ICode}:sq [x]=x:=rfl
def sq3{x y:ICode}{l:List ICode}:sq (x::y::l)=.seq x (sq (y::l)):=rfl
def ROp.q(n:Nat)(o:IOp):ROp:=⟨some n,.op o,none⟩
def ROp.m(n:Nat)(x:O):ROp:=⟨some n,.op (.mov x),none⟩
def ROp.g(n:Nat)(o:IOp)(c:Nat)(b:Bool):ROp:=⟨some n,.op o,some (c,b)⟩
def ROp.l(n f:Nat)(xs:List O):ROp:=⟨some n,.callF f xs,none⟩
def ROp.u(o:IOp):ROp:=⟨none,.op o,none⟩
def ICode.r(ops:List ROp):ICode:=.reg false ops
def O.k(n:Int):O:=.c (.i .i64 n)
def ROp.n(n a:Nat):ROp:=⟨some n,.op (.mov (.t a)),none⟩
def ROp.d(n a:Nat):ROp:=⟨some n,.op (.load1 (.t a)),none⟩
def ROp.v(n k a:Nat):ROp:=⟨some n,.op (.loadN k (.t a)),none⟩
def ROp.f(n k a:Nat):ROp:=⟨some n,.op (.fAddr k (.t a)),none⟩
def ROp.i(n k a b:Nat):ROp:=⟨some n,.op (.iAddrS k (.t a) (.t b)),none⟩
def ROp.a(n a:Nat)(k:Int):ROp:=⟨some n,.op (.bin .add (.t a) (.c (.i .i64 k))),none⟩
def ROp.b(n:Nat)(o:BinOp)(a b:Nat):ROp:=⟨some n,.op (.bin o (.t a) (.t b)),none⟩
def ROp.w(n:Nat)(o:BinOp)(a:Nat)(k:Int):ROp:=⟨some n,.op (.bin o (.t a) (.c (.i .i64 k))),none⟩
def ROp.e(n a:Nat):ROp:=⟨some n,.op (.len false (.t a)),none⟩
def ROp.x(n a k:Nat):ROp:=⟨some n,.op (.ext (.t a) k),none⟩
def ROp.s(n a b:Nat):ROp:=⟨some n,.op (.bin .lss (.t a) (.t b)),none⟩
def ROp.p(n a b:Nat):ROp:=⟨some n,.op (.pick (.t a) (.t b) (.c (.b false))),none⟩
def ROp.o(n a b:Nat):ROp:=⟨some n,.op (.pick (.t a) (.c (.b true)) (.t b)),none⟩
def ROp.y(n a c:Nat):ROp:=⟨some n,.op (.mov (.t a)),some (c,true)⟩
def ROp.z(n a c:Nat):ROp:=⟨some n,.op (.mov (.t a)),some (c,false)⟩
def ROp.j(n a c:Nat)(b:Bool):ROp:=⟨some n,.op (.load1 (.t a)),some (c,b)⟩
def ROp.h(n k a c:Nat)(b:Bool):ROp:=⟨some n,.op (.fAddr k (.t a)),some (c,b)⟩
def O.F:O:=.c (.b false)
def O.T:O:=.c (.b true)
def O.N:O:=.c .nils
def q_q{n:Nat}{o:IOp}:ROp.q n o=⟨some n,.op o,none⟩:=rfl
def q_m{n:Nat}{x:O}:ROp.m n x=⟨some n,.op (.mov x),none⟩:=rfl
def q_g{n:Nat}{o:IOp}{c:Nat}{b:Bool}:ROp.g n o c b=⟨some n,.op o,some (c,b)⟩:=rfl
def q_l{n f:Nat}{xs:List O}:ROp.l n f xs=⟨some n,.callF f xs,none⟩:=rfl
def q_u{o:IOp}:ROp.u o=⟨none,.op o,none⟩:=rfl
def q_r{ops:List ROp}:ICode.r ops = .reg false ops:=rfl
def q_k{n:Int}:O.k n = .c (.i .i64 n):=rfl
def qJe{n a:Nat}:ROp.n n a=⟨some n,.op (.mov (.t a)),none⟩:=rfl
def qI8{n a:Nat}:ROp.d n a=⟨some n,.op (.load1 (.t a)),none⟩:=rfl
def qJi{n k a:Nat}:ROp.v n k a=⟨some n,.op (.loadN k (.t a)),none⟩:=rfl
def qJa{n k a:Nat}:ROp.f n k a=⟨some n,.op (.fAddr k (.t a)),none⟩:=rfl
def qJc{n k a b:Nat}:ROp.i n k a b=⟨some n,.op (.iAddrS k (.t a) (.t b)),none⟩:=rfl
def qI6{n a:Nat}{k:Int}:ROp.a n a k=⟨some n,.op (.bin .add (.t a) (.c (.i .i64 k))),none⟩:=rfl
def qI7{n:Nat}{o:BinOp}{a b:Nat}:ROp.b n o a b=⟨some n,.op (.bin o (.t a) (.t b)),none⟩:=rfl
def qJj{n:Nat}{o:BinOp}{a:Nat}{k:Int}:ROp.w n o a k=⟨some n,.op (.bin o (.t a) (.c (.i .i64 k))),none⟩:=rfl
def qI9{n a:Nat}:ROp.e n a=⟨some n,.op (.len false (.t a)),none⟩:=rfl
def qJk{n a k:Nat}:ROp.x n a k=⟨some n,.op (.ext (.t a) k),none⟩:=rfl
def qJh{n a b:Nat}:ROp.s n a b=⟨some n,.op (.bin .lss (.t a) (.t b)),none⟩:=rfl
def qJg{n a b:Nat}:ROp.p n a b=⟨some n,.op (.pick (.t a) (.t b) (.c (.b false))),none⟩:=rfl
def qJf{n a b:Nat}:ROp.o n a b=⟨some n,.op (.pick (.t a) (.c (.b true)) (.t b)),none⟩:=rfl
def qJl{n a c:Nat}:ROp.y n a c=⟨some n,.op (.mov (.t a)),some (c,true)⟩:=rfl
def qJm{n a c:Nat}:ROp.z n a c=⟨some n,.op (.mov (.t a)),some (c,false)⟩:=rfl
def qJd{n a c:Nat}{b:Bool}:ROp.j n a c b=⟨some n,.op (.load1 (.t a)),some (c,b)⟩:=rfl
def qJb{n k a c:Nat}{b:Bool}:ROp.h n k a c b=⟨some n,.op (.fAddr k (.t a)),some (c,b)⟩:=rfl
def q_F:O.F = .c (.b false):=rfl
def q_T:O.T = .c (.b true):=rfl
def q_N:O.N = .c .nils:=rfl
def vI:=zzA (zzA @sq1 (zzA @sq2 @sq3)) (zzA (zzA @qJe (zzA @qI8 (zzA @qJi (zzA @qJa (zzA @qJc (zzA @qI6 (zzA @qI7 (zzA @qJj (zzA @qI9 (zzA @qJk (zzA @qJh (zzA @qJg (zzA @qJf (zzA @qJl (zzA @qJm (zzA @qJd (zzA @qJb (zzA q_F (zzA q_T q_N))))))))))))))))))) (zzA (zzA @qbl.eq_1 (zzA @qbl.eq_2 (zzA @H0.eq_1 (zzA @mkT.eq_1 (zzA @mkT.eq_2 (zzA @mkH.eq_1 (zzA @trL.eq_1 @trL.eq_2))))))) (zzA @List.length_cons.{0} (zzA @List.length_nil.{0} (zzA Nat.zero_add (zzA @q_q (zzA @q_m (zzA @q_g (zzA @q_l (zzA @q_u (zzA @q_r @q_k)))))))))))
end Go.Kc
end
section
namespace Go.Kc
variable {P:Program}

theorem Own.pure{f:Nat}{vs:List AV}{v v':AV}{bs:List Blk}(hcl:qt vs=true)(ho:Own P f vs v bs)(hf:Frz (qam H0 (bs.map (shb 0))) (shv 0 v) v'):qa P f vs v' :=
 qa.of_SC hcl (ho H0 _ hf)
end Go.Kc
end
section
namespace Go.Kc
variable {P:Program} {n:Nat} {t:Tr AV} {h:Hp}

end Go.Kc
end
section
namespace Go.Kc
variable {P:Program} {f:Nat}

def qIp{y:List UInt8}:ltS [] y = !y.isEmpty:=by cases y<;>rfl
def qpH{c:UInt8}{x:List UInt8}:ltS (c::x) []=false:=rfl
def qpG{c d:UInt8}{x y:List UInt8}:ltS (c::x) (d::y)=if c<d then true else if c=d then ltS x y else false:=by
 rw[qj9,qj9];simp only[Op.bytesLess]
 by_cases h1:c<d
 .simp[h1]
 .by_cases h2:c=d
  .simp[h2]
  .simp[h1,h2]
end Go.Kc
end
section
namespace Go.Kc
variable {P:Program}
end Go.Kc
end
section
namespace Go.Kc
variable {P:Program} {h:Hp}

noncomputable def trP:List (Nat×Blk)->Tr Blk
 | []=>.leaf
 | p::l=>(trP l).set p.1 p.2
def qjP:∀{l:List (Nat×Blk)} {b:Nat} {x:Blk},(trP l).get b=some x->(b,x) ∈ l
 | [],b,x,h=>by simp[trP]at h
 | p::l,b,x,h=>by
  simp only[trP,Tr.get_set]at h;split at h
  .grind
  .exact List.mem_cons_of_mem _ (qjP h)
noncomputable def qeU(h:Hp):List (Nat×Blk)->Hp
 | []=>h
 | p::l=>qeU (h.put p.1 .dead) l
theorem qjo:∀{l:List (Nat×Blk)} {h:Hp},(qeU h l).sz=h.sz
 | [],_=>rfl
 | _::l,h=>(qjo (l:=l)).trans rfl
theorem qjn:∀{l:List (Nat×Blk)} {h:Hp},(qeU h l).fl=h.fl
 | [],_=>rfl
 | _::l,h=>(qjn (l:=l)).trans rfl
def qg9:∀{l:List (Nat×Blk)} {h:Hp} {b:Nat},(qeU h l).tr.get b=if b ∈ l.map Prod.fst then some .dead else h.tr.get b
 | [],_,_=>by simp[qeU]
 | p::l,h,b=>by
  simp only[qeU];rw[qg9]
  by_cases h1:b ∈ l.map Prod.fst
  .rw[if_pos h1,if_pos (by simp_all)]
  .rw[if_neg h1];show(h.tr.set p.1 .dead).get b=_;rw[Tr.get_set]
   simp_all
def zp:qeU h []=h:=rfl
def qW{b:Nat}{x:Blk}{l:List (Nat×Blk)}:qeU h ((b,x)::l)=qeU (h.put b .dead) l:=rfl
theorem Rel.sub{Z:Ren}{B:Nat->Prop}{h h':Hp}{w:World}(r:Rel σ0 Z B h w)(hs:h'.sz=h.sz)(hf:h'.fl=h.fl)(hg:∀b x,h'.tr.get b=some x->x≠.dead->h.tr.get b=some x):Rel σ0 Z B h' w :=
 ⟨λb L hb=>by rw[hs];exact r.dom b L hb,by grind[Rel.cells],by grind[Rel.maps],
  by grind[Rel.excl],by grind[Rel.exclm],
  λb L e wf cs hb hx b' L' e' wf' af' cs' hb' hx'=>r.app b L e wf cs hb (by simp_all) b' L' e' wf' af' cs' hb' (by simp_all),λb L hb hf'=>r.flr b L hb (by rw[<- hf];omega),r.base,
  by grind[Rel.frz],by rw[hs];exact r.dn⟩
def qa.give{f:Nat}{vs vs':List AV}{v:AV}{k:AV->Hp->Prop}(DB:List (Nat×Blk))(hg:∀p ∈ DB,h.tr.get p.1=some p.2/\h.fl<=p.1)(hp:qa P f vs' v)(hv:clo v=true)(hf:Frzs ⟨h.sz,h.fl,trP DB⟩ vs vs')(hk:k v (qeU h DB)):SC P f vs h k:=by
 refine⟨trivial,λZ B w args r ha=>?_⟩
 have hp0:=hp H0 (λv' h'=>v'=v/\h'=H0) ⟨rfl,rfl⟩
 have r0:Rel σ0 Z B ⟨h.sz,h.fl,trP DB⟩ w:=r.sub rfl rfl (λb x hx _=>(hg _ (qjP hx)).1)
 have hcr:=hf.ok r0 ha
 have fnew:∀kk a,jZ Z ⟨h.sz,h.fl,trP DB⟩ w kk=some a->Z.frz kk=some a\/((∃ty fz,w.heap[kk]?=some (.cells a ty fz))/\∃b L e af cs,b ∈ DB.map Prod.fst/\Z b=some L/\h.tr.get b=some (.cells e true af cs)/\L.blk=kk/\h.fl<=b):=by
  intro kk a hkk;rcases qdL hkk with h1|⟨h1,b,L,e,af,cs,h2,h3,h4⟩
  .grind
  .have hm:=qjP h3
   grind[List.mem_map_of_mem]
 -- the rows given are frozen,their blocks dead
 have r1:Rel σ0 ⟨Z.loc,jZ Z ⟨h.sz,h.fl,trP DB⟩ w,Z.n⟩ B (qeU h DB) w:=by
  have le:Z.le ⟨Z.loc,jZ Z ⟨h.sz,h.fl,trP DB⟩ w,Z.n⟩:=⟨λ_ _ h=>h,by grind[wm],zzL _⟩
  have jy:∀b x,(qeU h DB).tr.get b=some x->x≠.dead->b ∉ DB.map Prod.fst/\h.tr.get b=some x:=by
   intro b x hx hd;rw[qg9]at hx;split at hx
   .cases hx;exact absurd rfl hd
   .exact by grind
  have rs:Rel σ0 Z B (qeU h DB) w:=by grind[Rel.sub,qjo,qjn]
  refine⟨rs.dom,λb L e wf af cs hb hx=>?_,λb L es hb hx=>?_,rs.excl,rs.exclm,rs.app,rs.flr,rs.base,λkk arr hkk=>?_,rs.dn⟩
  .obtain⟨q1,c,ty,fz,q2,q3,q4,q5,q6⟩:=rs.cells b L e wf af cs hb hx;exact by grind[VR.mono]
  .obtain⟨q1,o,q2,q3⟩:=rs.maps b L es hb hx;exact by grind[qcu.mono]
  grind[Rel.frz,Rel.excl]
 refine qb4.mono (hp0.2 ⟨λ_=>none,jZ Z ⟨h.sz,h.fl,trP DB⟩ w,0⟩ (low w.heap.size) w args
  ⟨by grind,by grind,by grind,by grind,by grind,by grind,by grind,(λ_ h=>h),
   by grind[Rel.frz],by grind⟩ (by grind[CRs.vr])) ?_
 rintro e w' ⟨v0,v',h',Z',rfl,⟨rfl,rfl⟩,g2,g3,g4⟩;have f1:∀k a,jZ Z ⟨h.sz,h.fl,trP DB⟩ w k=some a->Z'.frz k=some a:=g4.frz;have f2:∀k a,Z'.frz k=some a->jZ Z ⟨h.sz,h.fl,trP DB⟩ w k=some a\/w.heap.size<=k:=λk a hk=>(g4.fnew k a hk).imp id Nat.not_lt.1
 have f3:∀k a,Z'.frz k=some a->∃ty fz,w'.heap[k]?=some (.cells a ty fz):=λk a hk=>(g3.frz k a hk).1
 have r2:=r1.frz' g4.pres g4.wle f1 f2 f3;refine⟨v0,v',qeU h DB,⟨Z.loc,Z'.frz,Z.n⟩,rfl,hk,CR.vr (Z:=⟨Z.loc,Z'.frz,Z.n⟩) (g2.cr hv),r2,?_⟩;refine⟨λ_ _=>rfl,by rw[qjo];omega,qjn,λb hb _=>?_,by grind[Kept.pres,Rel.base],g4.wle,g4.io,by grind[wm],λk a hk=>?_,zzL _⟩
 .rw[qg9,if_neg]
  grind
 .rcases f2 k a hk with h1|h1
  .grind[Rel.flr]
  .exact .inr (qaA r.base h1)
end Go.Kc
end
section
namespace Go.Kc
variable {P:Program} {env:Tr IFn} {ho:qGc}

def Kept.same{Z Z':Ren}{h h':Hp}{w w':World}(k:Kept Z (low w.heap.size) h w Z' h' w')(may:MemPlace->Prop):w.keptBut w' may:=by
 refine⟨k.io.1,k.io.2,λi hi=>?_⟩
 have e:=k.pres i hi;rw[e];cases w.heap[i]? with
 | none=>rfl
 | some o=>cases o<;>simp
noncomputable def qvS(w:World):Nat->Option (Array Value):=λk=>match w.heap[k]? with|some (.cells arr _ _)=>some arr|_=>none
def qlJ{w:World}{k:Nat}{arr:Array Value}:qvS w k=some arr↔∃ty fz,w.heap[k]?=some (.cells arr ty fz):=by
 show(match w.heap[k]? with|some (.cells arr _ _)=>some arr|_=>none)=some arr↔_
 cases w.heap[k]? with
 | none=>simp
 | some o=>cases o<;>simp
noncomputable def ice(w:World) [t:TabOk w]:Ren:=⟨λ_=>none,⟨qvS w,λk a h=>qlJ.2 (t.ok k a h)⟩,0⟩
def qzl{w:World} [TabOk w]{k:Nat}{arr:Array Value}:(ice w).frz k=some arr↔∃ty fz,w.heap[k]?=some (.cells arr ty fz):=qlJ
def Rel.ice(w:World) [TabOk w]:Rel σ0 (ice w) (low w.heap.size) H0 w :=
 ⟨(λ_ _ hb=>by cases hb),(λ_ _ _ _ _ _ hb=>by cases hb),(λ_ _ _ hb=>by cases hb),(λ_ _ _ _ _ hb=>by cases hb),(λ_ _ _ hb=>by cases hb),(λ_ _ _ _ _ hb=>by cases hb),(λ_ _ hb=>by cases hb),(λ_ h=>h),
  (λk arr hk=>⟨qzl.1 hk,λ_ _ _ hb=>by cases hb⟩),⟨zzL _,λ_ _ hb=>by cases hb⟩⟩
def qa.law{f:Nat}{vs:List AV}{args:Array Value}(hp:qa P f vs (.b true))(hc:qmP P f)(w:World) [TabOk w](ha:VRs σ0 (ice w) vs args.toList):Calls P f args w λe w'=>e = .returned (.bool true)/\∀may,w.keptBut w' may:=by
 have h:=(hp H0 (λv _=>v = .b true) rfl).2 (ice w) (low w.heap.size) w args (Rel.ice w) ha
 rcases h with⟨_,h⟩|⟨v,w',h,_⟩
 .refine h.mono λe w' hh=>?_
  obtain⟨v,v',h',Z',rfl,rfl,hv,_,hk⟩:=hh;cases hv;exact⟨rfl,λmay=>hk.same may⟩
 .obtain⟨fn,h1,h2,h3⟩:=hc;rw[qdk h1 h2 h3]at h;cases h
def qbC{f:Nat}{i:IFn}(hc:qc P f i=true):qmP P f:=by
 unfold qc at hc;split at hc<;>try (cases hc;done)
 rename_i fn hfn;simp only[zzB,bne_iff_ne]at hc;obtain⟨⟨hname,hbody⟩,hres⟩:=hc;split at hbody<;>try (cases hbody;done)
 rename_i c hcb;exact⟨fn,hfn,hname,by rw[hcb];rfl⟩
end Go.Kc
end
section
namespace Go.Kc
section
variable {H:Type} {enc:TypeId×Value->H} {P:Program} {w:World} {α β:Type} {t e:TypeId}
def CRs.app{φ:Nat->Option (Array Value)}:∀{zy bs:List AV} {us vs:List Value},CRs σ0 φ zy us->CRs σ0 φ bs vs->CRs σ0 φ (zy++bs) (us++vs)
 | _,_,_,_,.nil,h=>h
 | _,_,_,_,.cons v l v' l' h hs,h2=>.cons _ _ _ _ h (CRs.app hs h2)
def qfW(enc:TypeId×Value->H)(P:Program)(w:World)(t:TypeId)(I:α->Prop)(E:α->List AV):Prop :=
 ∀(fuel:Nat) (cs:List Value) x,DataW.trod enc P w 0 (λ_=>true) true fuel t cs=some x->∃a,I a/\CRs σ0 (qvS w) (E a) cs
def qFS{k:IntKind}(ht:P.underlying t=some (.int k)):qfW enc P w t (λn:Int=>(Lit.int k n).wf=true) (λn=>[.i k n]):=by
 intro fuel cs x h;obtain⟨n,rfl,_,hw⟩:=DataW.trod_int ht h;exact⟨n,hw,.cons _ _ _ _ (.i _ _) .nil⟩
def qEi(ht:P.underlying t=some .bool):qfW enc P w t (λ_:Bool=>True) (λb=>[.b b]):=by
 intro fuel cs x h;obtain⟨b,rfl,_⟩:=DataW.trod_bool ht h;exact⟨b,trivial,.cons _ _ _ _ (.b _) .nil⟩
def qFT(ht:P.underlying t=some .string):qfW enc P w t (λs:List UInt8=>s.length<=maxLen) (λs=>[.s s]):=by
 intro fuel cs x h;obtain⟨s,rfl,_,hw⟩:=DataW.trod_string ht h;obtain⟨⟨l⟩⟩:=s;exact⟨l,hw,.cons _ _ _ _ (.s _) .nil⟩
def qyJ{a:Addr}{v:Value}(h:w.cell? a=some v):a.spot=none/\∃arr ty fz,w.heap[a.block]?=some (.cells arr ty fz)/\arr[a.off]?=some v:=by
 unfold World.cell? at h;split at h
 .rename_i c ty fz hc;split at h
  .cases h
  .rename_i hs;refine⟨by simpa using hs,c,ty,fz,hc,h⟩
 .cases h
def qBv{I:α->Prop}{E:α->List AV}{m:Nat}(ht:P.underlying t=some (.slice e))(he:qfW enc P w e I E)(hE:∀a,(E a).length=m)(hc:P.cellsOf e=m)(hm:0<m) :
  qfW enc P w t (λl:List α=>l.length<=maxLen/\∀a ∈ l,I a) (λl=>[.fz l.length (l.flatMap E)]):=by
 intro fuel cs x h;rcases DataW.trod_slice ht h with⟨rfl,_⟩|⟨a,len,cap,elems,rest,n,_,rfl,_,_,hl,hmx,hlen,hel,hsp,_⟩
 .exact⟨[],⟨Nat.zero_le _,λ_ h=>by cases h⟩,.cons _ _ _ _ (.fz0 none) .nil⟩
 obtain⟨hrl,hr⟩:=hsp rfl;rcases Nat.eq_zero_or_pos cap with h0|hpos
 .subst h0;obtain rfl:len=0:=by omega
  exact⟨[],⟨Nat.zero_le _,λ_ h=>by cases h⟩,.cons _ _ _ _ (.fz0 (some a)) .nil⟩
 have first:∃v,w.cell? a=some v:=by
  have:∃cs',w.cells? 0 (a.add (0*P.cellsOf e)) (P.cellsOf e)=some cs':=by
   rcases Nat.eq_zero_or_pos len with h1|h1
   .have:=hr 0 (by omega);have hlt:0<rest.length:=by omega
    rw[zzE hlt,Option.bind_eq_some_iff]at this;obtain⟨c,hc',_⟩:=this;subst h1;exact⟨c,hc'⟩
   .have:=hel 0 h1;have hlt:0<elems.length:=by omega
    rw[zzE hlt,Option.bind_eq_some_iff]at this;obtain⟨c,hc',_⟩:=this;exact⟨c,hc'⟩
  obtain⟨cs',h2⟩:=this;obtain⟨_,q1,q2⟩:=World.cells?_some h2;have:=q2 0 (by omega);rw[zzE (by omega)]at this;simp only[Nat.zero_mul,Addr.add,if_true]at this;exact⟨_,this⟩
 obtain⟨v0,hv0⟩:=first
 obtain⟨hs,arr,ty,fz,hb,_⟩:=qyJ hv0
 have key:∀k,k<=len->∃l:List α,l.length=k/\(∀b ∈ l,I b)/\CRs σ0 (qvS w) (l.flatMap E) ((arr.toList.drop a.off).take (k*m)):=by
  intro k
  induction k with
  | zero=>intro _;exact⟨[],rfl,(λ_ h=>by cases h),by simpa using .nil⟩
  | succ k ih =>
   intro hk;obtain⟨l,h1,h2,h3⟩:=ih (by omega);have hk':=hel k (by omega);have hlt:k<elems.length:=by omega
   rw[zzE hlt,Option.bind_eq_some_iff]at hk';obtain⟨c,hcs,htr⟩:=hk';obtain⟨_,q1,q2⟩:=World.cells?_some hcs;obtain⟨b,hb1,hb2⟩:=he _ _ _ htr
   have e1:c=((arr.toList.drop a.off).drop (k*m)).take m:=by
    refine List.ext_getElem? λj=>?_
    by_cases hj:j<m
    .have:=q2 j (by omega);rw[<- this]
     have e2:w.cell? ((a.add (k*P.cellsOf e)).add j)=arr[a.off+(k*m+j)]?:=by
      have ha:(a.add (k*P.cellsOf e)).add j=⟨a.block,a.off+(k*m+j),none⟩:=by
       unfold Addr.add;rw[hc];split
       .split
        .rename_i h4 h5;rw[h4,h5];cases a;simp_all
        .rename_i h4 h5;rw[h4];simp[hs]
       .split
        .rename_i h4 h5;rw[h5];cases a;simp_all
        .simp;omega
      rw[ha];simp[World.cell?,hb]
     rw[e2,List.getElem?_take_of_lt hj,List.getElem?_drop,List.getElem?_drop];simp[Array.getElem?_toList]
    .rw[List.getElem?_eq_none (by omega),List.getElem?_eq_none];simp;omega
   refine⟨l++[b],by simp[h1],λx hx=>?_,?_⟩
   .rcases List.mem_append.1 hx with hx|hx
    .exact h2 x hx
    .obtain rfl:=List.mem_singleton.1 hx;exact hb1
   .rw[List.flatMap_append,Nat.succ_mul,List.take_add,<- e1];simpa using h3.app hb2
 obtain⟨l,h1,h2,h3⟩:=key len (zzL _);refine⟨l,⟨by omega,h2⟩,.cons _ _ _ _ ?_ .nil⟩
 have hfl:(l.flatMap E).length=len*m:=by
  rw[<- h1];clear h1 h2 h3
  induction l with
  | nil=>simp
  | cons x l ih=>simp[hE,ih,Nat.succ_mul,Nat.add_comm]
 obtain⟨blk,off,spot⟩:=a;cases hs;rw[h1];exact .fz len off cap _ blk arr hl (qlJ.2 ⟨ty,fz,hb⟩) (by rw[hfl];exact h3)
def qnE(enc:TypeId×Value->H)(P:Program)(w:World)(fs:List Field)(o n:Nat)(I:α->Prop)(E:α->List AV):Prop :=
 (∀a,(E a).length=n)/\∀(fuel:Nat) (cs:List Value),(∀f ∈ fs,∃x,DataW.trod enc P w 0 (λ_=>true) true fuel f.type ((cs.drop f.offset).take (P.cellsOf f.type))=some x)->∃a,I a/\CRs σ0 (qvS w) (E a) ((cs.drop o).take n)
def qEh{o:Nat}:qnE enc P w [] o 0 (λ_:Unit=>True) (λ_=>[]):=⟨λ_=>rfl,λ_ cs _=>⟨(),trivial,by simpa using .nil⟩⟩
def qBu{f:Field}{fs:List Field}{o m n:Nat}{I:α->Prop}{E:α->List AV}{J:β->Prop}{F:β->List AV}(h:qfW enc P w f.type I E)(hE:∀a,(E a).length=m)(ho:f.offset=o)(hc:P.cellsOf f.type=m)
  (hr:qnE enc P w fs (o+m) n J F):qnE enc P w (f::fs) o (m+n) (λp:α×β=>I p.1/\J p.2) (λp=>E p.1++F p.2):=by
 refine⟨λp=>by simp[hE,hr.1],λfuel cs hf=>?_⟩
 obtain⟨x,hx⟩:=hf f (List.mem_cons_self ..);obtain⟨a,ha,h1⟩:=h _ _ _ hx;obtain⟨b,hb,h2⟩:=hr.2 fuel cs λg hg=>hf g (List.mem_cons_of_mem _ hg)
 refine⟨(a,b),⟨ha,hb⟩,?_⟩;rw[ho,hc]at h1;rw[List.take_add,List.drop_drop];exact h1.app h2
def qz5{fs:Array Field}{n:Nat}{I:α->Prop}{E:α->List AV}(ht:P.underlying t=some (.struct fs))(hc:P.cellsOf t=n)(h:qnE enc P w fs.toList 0 n I E):qfW enc P w t I E:=by
 intro fuel cs x hx;obtain⟨xs,m,rfl,_,hl,hxs,hf⟩:=DataW.trod_struct ht hx
 obtain⟨a,ha,h1⟩:=h.2 m cs λf hfm=>by
  obtain⟨i,hi⟩:=List.getElem?_of_mem hfm;have hi':fs[i]?=some f:=by simpa using hi
  have:=hf i f hi'
  have hlt:i<xs.length:=by
   rw[hxs];exact(Array.getElem?_eq_some_iff.1 hi').1
  rw[zzE hlt]at this;exact⟨_,this⟩
 refine⟨a,ha,?_⟩;rwa [List.drop_zero,List.take_of_length_le (by omega)]at h1
def qfW.map{I:α->Prop}{E:α->List AV}{J:β->Prop}{F:β->List AV}(h:qfW enc P w t I E)(g:α->β)(hg:∀a,I a->J (g a)/\F (g a)=E a):qfW enc P w t J F:=by
 intro fuel cs x hx;obtain⟨a,ha,h1⟩:=h _ _ _ hx;exact⟨g a,(hg a ha).1,by rw[(hg a ha).2];exact h1⟩
def qfW.agg [TabOk w]{I:α->Prop}{E:α->List AV}(h:qfW enc P w t I E){v:Value}{d:DataW H}{p:List MemPlace}(ha:∃cs,v = .agg cs)(hd:DataW.Trod enc P w 0 (λ_=>true) true t v d p):∃a,I a/\VR σ0 (ice w) (.agg (E a)) v:=by
 obtain⟨cs,rfl⟩:=ha;obtain⟨fuel,hd⟩:=hd;obtain⟨a,h1,h2⟩:=h _ _ _ hd;exact⟨a,h1,.agg _ _ h2.vr⟩
def qom{w':World}(hk:∀may,w.keptBut w' may){p:MemPlace}(hp:p.block<w.heap.size):w.sameAt w' p:=by
 have h:=(hk λ_=>False).2.2 p.block hp
 have h0:w.heap[p.block]?=some w.heap[p.block]:=Array.getElem?_eq_getElem hp;cases p with
 | cell b off =>
  show w'.cell? ⟨b,off,none⟩=w.cell? ⟨b,off,none⟩;simp only[MemPlace.block]at h h0 hp;unfold World.cell?;split at h
  .rename_i c1 t1 f1 c2 t2 f2 e1 e2;dsimp only;rw[e1,e2];simpa using h.2.2.2 off (λhh=>hh)
  .rename_i e1 e2;dsimp only;rw[e1,e2]
  .dsimp only;rw[h]
 | map b =>
  show w'.heap[b]?=w.heap[b]?;simp only[MemPlace.block]at h h0 hp;split at h
  .rename_i c1 t1 f1 c2 t2 f2 e1 e2
   have:c2=c1:=by
    apply Array.ext_getElem?;intro j;exact h.2.2.2 j (λhh=>hh)
   rw[e1,e2,h.1,h.2.1,this]
  .rename_i e1 e2;rcases h with hh|⟨h1,h2⟩
   .exact hh.elim
   .rw[e1,e2,h1,h2]
  .exact h
def Trod.stay{w':World}{T:TypeId->Prop}(K:Kids P T)(hz:∀t e,T t->P.underlying t=some (.slice e)->0<P.cellsOf e){ts:List TypeId}{vs:List Value}{ds:List (DataW H)}{ps:List MemPlace}(hT:∀t ∈ ts,T t)
  (h:DataW.TrodAll enc P w 0 (λ_=>true) true ts vs ds ps) (hk:∀may,w.keptBut w' may):DataW.TrodAll enc P w' 0 (λb=>decide (b<w.heap.size)) true ts vs ds ps:=by
 have hlt:=DataW.TrodAll.lt h;have h1:DataW.TrodAll enc P w 0 (λb=>decide (b<w.heap.size)) true ts vs ds ps:=h.respare K hz hT λp hp=>decide_eq_true (hlt p hp)
 clear h
 induction ts generalizing vs ds ps with
 | nil =>
  cases vs<;>cases ds<;>first|exact h1|exact h1.elim
 | cons t ts ih =>
  cases vs with
  | nil=>exact h1.elim
  | cons v vs =>
   cases ds with
   | nil=>exact h1.elim
   | cons d ds =>
    obtain⟨p,q,⟨fuel,h2⟩,h3,e⟩:=h1;subst e;refine⟨p,q,⟨fuel,DataW.trod_carry _ _ _ _ h2 λx hx=>qom hk (hlt x (List.mem_append_left _ hx))⟩,?_,rfl⟩
    exact ih (λt ht=>hT t (List.mem_cons_of_mem _ ht)) (λx hx=>hlt x (List.mem_append_right _ hx)) h3
end
end Go.Kc
namespace Go.Kc
def qEy{k:IntKind}{l:List Int}:l.flatMap (λn=>[AV.i k n])=l.map (.i k):=by
 induction l with
 | nil=>rfl
 | cons x l ih=>simp[ih]
def qAa{P:Program}{H:Type}{enc:TypeId×Value->H}{f:Func}{s:ChangeSpec}{apart fresh handsOn:Bool}{W W':World}{args:Array Value}{v:Value}{ds gs:List (DataW H)}{before pv:List MemPlace}
  (hW:DataW.Whole enc P f.params.toList s.vars apart W args.toList ds gs before) (hs:(s.fn H (ds++gs)).args=ds)
  {T:TypeId->Prop} (K:Kids P T) (hz:∀t e,T t->P.underlying t=some (.slice e)->0<P.cellsOf e) (hT:∀t ∈ f.params.toList,T t)
  (hres:∀(b:Nat) (sp:Nat->Bool) (hd:Bool),DataW.TrodAll enc P W' b sp hd f.resultTypes.toList (v.resultList f.resultTypes.size) (s.fn H (ds++gs)).results [])
  (hvars:∀sp:Nat->Bool,DataW.TrodVars enc P W' sp s.vars (s.fn H (ds++gs)).vars pv)
  (hk:∀may,W.keptBut W' may):s.post enc P f apart fresh handsOn false W args v W':=by
 have hW':=hW;obtain⟨p,q,hA,_,_⟩:=hW';exact⟨ds,gs,before,[],p,pv,hW,hres _ _ _,by rw[hs];exact Trod.stay K hz hT hA hk,hvars _,hk _,λh=>by cases h⟩
end Go.Kc
end
section
namespace Go.Kc
variable {P:Program} {env:Tr IFn} {ho:qGc}
noncomputable def tt(b:Bool):Prop:=Bool.rec (motive:=λ_=>Prop) False True b
end Go.Kc
end
section
namespace Go.Kc
variable {P:Program}
mutual
def qdK:AV->Bool
 | .map _=>false
 | .fz _ _=>false
 | .pf _ _=>false
 | .sym _=>false
 | .fn _ a c=>jP a&&jP c
 | .ifc _ v=>qdK v
 | .agg cs=>jP cs
 | .tup cs=>jP cs
 | .ptr _ _=>true | .sl _ _ _ _ _=>true | .own _ _=>true
 | .undef=>true | .b _=>true | .i _ _=>true | .s _=>true | .nilp=>true | .nils=>true | .nilf=>true | .nili=>true | .nilm=>true | .e0=>true | .nz=>true | .yl _=>true | .lp _=>true
def jP:List AV->Bool
 | []=>true
 | v::vs=>qdK v&&jP vs
end
mutual
def VR.thaw{Z:Ren}{φ:Fz}:∀{a:AV} {v:Value},VR σ0 Z a v->qdK a=true->VR σ0 ⟨Z.loc,φ,Z.n⟩ a v
 | _,_,.undef v,_=>.undef v
 | _,_,.b x,_=>.b x
 | _,_,.i k n,_=>.i k n
 | _,_,.s x,_=>.s x
 | _,_,.nilp,_=>.nilp
 | _,_,.ptr b o L h,_=>.ptr b o L h
 | _,_,.nils,_=>.nils
 | _,_,.sl b o len cap c loose L h hc,_=>.sl b o len cap c loose L h hc
 | _,_,.slz b o x l L h,_=>.slz b o x l L h
 | _,_,.nilf,_=>.nilf
 | _,_,.fn f first cap first' cap' h1 h2,hc=>by
  simp only[qdK,zzB]at hc;exact .fn _ _ _ _ _ (h1.thaw hc.1) (h2.thaw hc.2)
 | _,_,.nili,_=>.nili
 | _,_,.ifc t v v' h,hc=>by simp only[qdK]at hc;exact .ifc _ _ _ (h.thaw hc)
 | _,_,.agg cs cs' h,hc=>by simp only[qdK]at hc;exact .agg _ _ (h.thaw hc)
 | _,_,.tup cs cs' h,hc=>by simp only[qdK]at hc;exact .tup _ _ (h.thaw hc)
 | _,_,.nilm,_=>.nilm
 | _,_,.map b L h h0,hc=>by simp[qdK]at hc
 | _,_,.sym j,hc=>by simp[qdK]at hc
 | _,_,.fz n off c cs k arr hn h hs,hc=>by simp[qdK]at hc
 | _,_,.fz0 a,hc=>by simp[qdK]at hc
 | _,_,.pf off base cs k arr h hs,hc=>by simp[qdK]at hc
 | _,_,.e0 a,_=>.e0 a
 | _,_,.nz a c,_=>.nz a c
 | _,_,.own0 b a hb,_=>.own0 b a hb
 | _,_,.own b n c L h hn hc,_=>.own b n c L h hn hc
 | _,_,.yl b L h,_=>.yl b L h
def VRs.thaw{Z:Ren}{φ:Fz}:∀{a:List AV} {v:List Value},VRs σ0 Z a v->jP a=true->VRs σ0 ⟨Z.loc,φ,Z.n⟩ a v
 | _,_,.nil,_=>.nil
 | _,_,.cons v vs v' vs' h hs,hc=>by
  simp only[jP,zzB]at hc;exact .cons _ _ _ _ (h.thaw hc.1) (hs.thaw hc.2)
end
def qlD:∀{cs:List AV} {j:Nat} {v:AV},jP cs=true->cs[j]?=some v->qdK v=true
 | [],_,_,_,h=>by grind
 | c::cs,0,v,hf,h=>by
  simp only[jP,zzB]at hf
  simp_all
 | c::cs,j+1,v,hf,h=>by
  simp only[jP,zzB]at hf;exact qlD hf.2 (by simpa using h)
def qpd:Blk->Bool
 | .cells _ _ _ cs=>jP cs
 | _=>false
def Rel.thaw{Z:Ren}{φ:Fz}{B:Nat->Prop}{h:Hp}{w:World}(r:Rel σ0 Z B h w)(hφ:∀k a,φ k=some a->Z.frz k=some a)(hh:∀b x,h.tr.get b=some x->qpd x=true):Rel σ0 ⟨Z.loc,φ,Z.n⟩ B h w:=by
 refine⟨r.dom,λb L e wf af cs hb hg=>?_,λb L es hb hg=>?_,r.excl,r.exclm,r.app,r.flr,r.base,by grind[Rel.frz],r.dn⟩
 .obtain⟨g1,c,ty,fz,g2,g3,g4,g5,g6⟩:=r.cells b L e wf af cs hb hg;exact⟨g1,c,ty,fz,g2,g3,g4,λj v hv=>let ⟨v',g7,g8⟩:=g5 j v hv;⟨v',g7,g8.thaw (qlD (hh b _ hg) hv)⟩,g6⟩
 .have:=hh b _ hg;cases this
def qiN.of_SC{f:Nat}{vs':List AV}{v:AV}{bs:List Blk}(hv:qdK v=true)(hbs:bs.all qpd=true)(hs:SC P f vs' H0 (qud v bs)):qiN P f vs' v bs:=by
 intro h vs k hf hk;refine⟨hs.1,λZ B w args r ha=>?_⟩
 have hcr:=hf.ok r ha;refine qb4.mono (hs.2 ⟨λ_=>none,jZ Z h w,0⟩ (low w.heap.size) w args r.bare (by grind[CRs.vr])) ?_
 rintro e w1 ⟨v0,v',h1,Z1,rfl,g1,g2,g3,g4⟩;obtain⟨src,s1,s2,s3⟩:=g1 g4.fl;have hw:Wk 0 (mkT [(0,v0)]) h1 (mkT [(0,v)]) (mkH 0 bs):=Wk.mk [(0,v)] bs src ⟨⟨v0,by simp[mkT,Tr.get_set],s1⟩,trivial⟩ s2 s3 g4.fl
 obtain⟨Z2,t2,r2,k2⟩:=hw Z1 (low w.heap.size) w1 #[v'] (λj x hj=>by
  have:=qex hj
  simp_all) g3
 have hv2:VR σ0 Z2 v v':=by
  have:=(t2 0 v (by simp[mkT,Tr.get_set])).2
  simp_all
 have hφ:∀k a,Z.frz k=some a->Z2.frz k=some a:=by grind[Kep.frz,Kept.frz,wm]
 have r3:=r2.thaw (φ:=Z.frz) hφ (λb x hx=>by
  rw[jh]at hx
  grind)
 have hv3:=hv2.thaw (φ:=Z.frz) hv;refine⟨_,v',_,Z.join ⟨Z2.loc,Z.frz,Z2.n⟩ h.sz bs.length,rfl,hk,hv3.sh r3.dn.1,Rel.joinH r r3 g4.pres g4.wle (λ_ _ h=>h) (by simp_all),?_⟩
 refine⟨by grind[qk2],by rw[qfv];omega,qhf,by grind[qbt],by grind[Kept.pres,Rel.base],g4.wle,g4.io,λ_ _ h=>h,λ_ _ h=>.inl h,?_⟩
 exact Nat.le_trans r.dn.1 (Nat.le_add_right _ _)
theorem qiN.mk{f:Nat}{i:IFn}{vs:List AV}{v:AV}{bs:List Blk}(hc:qc P f i=true)(hv:qdK v=true)(hbs:bs.all qpd=true)(hV:V P 0 i.body (xk i.res (qud v bs)) (qbl vs 0 .leaf) H0):qiN P f vs v bs :=
 qiN.of_SC hv hbs (SC.mk hc (qk hV))
end Go.Kc
end
section
namespace Go.Kc
variable {P:Program} {n:Nat} {h:Hp}
def bsy(r:Loop):Loop:={ r with state:=.busy }
def rdy(r:Loop):Loop:={ r with state:=.ready,pending:=none }
def dne(r:Loop)(c:Code):Loop:={ r with state:=.done,pending:=some c }
structure LoopOk (P:Program) (r:Loop) (ps:List Nat) (ai bi:ICode):Prop where
 params:r.params.toList=ps
 code:∃nt,zn P nt r.assign ai=true/\zn P nt r.body bi=true/\nt<=r.tmps.size/\∀p ∈ ps,p<nt
 flat:qiD ai=true/\qiD bi=true
 real:∀j,r.assign≠.goto j
def qrd(P:Program)(r:Loop)(ps:List Nat)(ai bi:ICode):Prop:=∀r',qe4 r r'->LoopOk P r' ps ai bi
def LoopOk.likes{r:Loop}{ps:List Nat}{ai bi:ICode}(h:LoopOk P r ps ai bi):qrd P r ps ai bi:=λr' hl=>by
 rcases hl with⟨rfl,_⟩|⟨j,h1,_⟩
 all_goals grind[LoopOk.real]
def qe4.bsy{r r':Loop}(h:qe4 r r'):qe4 (Go.Kc.bsy r) (Go.Kc.bsy r'):=by
 rcases h with⟨rfl,h0⟩|⟨j,h1,h2,_,h4⟩
 .exact .inl ⟨rfl,h0⟩
 .exact .inr ⟨j,h1,Cur.st .busy r'.pending h2,rfl,h4⟩
def qct{r:Loop}:rdy (bsy r)=rdy r:=rfl
noncomputable def qjw:List Nat->List AV->Tr AV->Tr AV
 | p::ps,u::us,t=>qjw ps us (t.set p u)
 | _,_,t=>t
def qCJ(b:Nat)(k:AV->Hp->Prop)(x:X)(_:Tr AV)(h:Hp):Prop :=
 ∃r ts,h.tr.get b=some (.map (zz r ts))/\onX x (k (.b true) (h.put b (.map (zz (rdy r) ts)))) (λid=>k (.b false) (h.put b (.map (zz (dne r (.exit id)) ts)))) (k (.b false) (h.put b (.map (zz (dne r .ret) ts))))
def qIH(P:Program)(n b:Nat)(r:Loop)(bi:ICode)(Q:X->Tr AV->Hp->Prop)(x:X)(t:Tr AV)(h:Hp):Prop :=
 onX x (∃ts,h.tr.get b=some (.map (zz r ts))/\S P n bi Q t (h.put b (.map (zz (bsy r) ts)))) (λ_=>False) False
def qGV(P:Program)(n b:Nat)(bi:ICode)(Q:X->Tr AV->Hp->Prop)(x:X)(t:Tr AV)(h:Hp):Prop :=
 onX x (∃r ts R,h.tr.get b=some (.map (zz r ts))/\r.state = .ready/\(∀q,qe4 r q->qe4 R (bsy q))/\S P n bi Q t (h.put b (.map (zz R ts)))) (λ_=>False) False
def qCR:X->Loop->Loop
 | .normal,q=>rdy q
 | .exit id,q=>dne q (.exit id)
 | .ret,q=>dne q .ret
def qIP:X->Bool
 | .normal=>true
 | _=>false
def qBc(b:Nat)(k:AV->Hp->Prop)(x:X)(_:Tr AV)(h:Hp):Prop :=
 ∃r ts R,h.tr.get b=some (.map (zz r ts))/\(∀q,qe4 r q->qe4 R (qCR x q))/\k (.b (qIP x)) (h.put b (.map (zz R ts)))
def qvg{b:Nat}{k:AV->Hp->Prop}{x:X}{t:Tr AV}{h:Hp}(hq:qCJ b k x t h):qBc b k x t h:=by
 obtain⟨r,ts,h1,h2⟩:=hq;cases x with
 | normal=>exact⟨r,ts,rdy r,h1,λq hq=>hq.set .ready none,h2⟩
 | exit id=>exact⟨r,ts,dne r (.exit id),h1,λq hq=>hq.set .done (some (.exit id)),h2⟩
 | ret=>exact⟨r,ts,dne r .ret,h1,λq hq=>hq.set .done (some .ret),h2⟩
def qr0{Z:Ren}:∀{ps:List Nat} {us:List AV} {t:Tr AV} {tm:Array Value} {args:List Value},VRs σ0 Z us args->ps.length=us.length->(∀p ∈ ps,p<tm.size)->TR σ0 Z t tm->
  TR σ0 Z (qjw ps us t) ((ps.zip args).foldl (λtm (p,v)=>tm.setIfInBounds p v) tm)
 | [],[],_,_,_,hv,_,_,ht=>by cases hv;exact ht
 | [],_::_,_,_,_,_,hl,_,_=>by grind
 | _::_,[],_,_,_,_,hl,_,_=>by grind
 | p::ps,u::us,t,tm,args,hv,hl,hp,ht=>by
  cases hv with
  | cons _ _ v vs h1 h2 =>
   have hlt:=hp p (by simp);refine qr0 (ps:=ps) h2 (by simp_all) (λq hq=>by simp_all) (λj x hj=>?_)
   rw[Tr.get_set]at hj;split at hj
   .simp_all
   .rename_i he;obtain⟨g1,g2⟩:=ht j x hj;refine⟨by simp_all,?_⟩
    rw[Array.getD_eq_getD_getElem?,Array.getElem?_setIfInBounds,if_neg (by omega),<- Array.getD_eq_getD_getElem?];exact g2
def qHR{Z:Ren}{tm:Array Value}:∀{ts:List (Nat×AV)},(∀p ∈ ts,p.1<tm.size/\VR σ0 Z p.2 (tm.getD p.1 undef))->TR σ0 Z (mkT ts) tm :=
 λh j v hj=>h (j,v) (qex hj)
def qrO:∀{ts:List (Nat×AV)},(ts.map Prod.fst).Nodup->∀{p:Nat×AV},p ∈ ts->(mkT ts).get p.1=some p.2
 | [],_,_,hp=>by cases hp
 | q::ts,hn,p,hp=>by
  simp only[mkT,Tr.get_set];have hn2:=List.nodup_cons.1 hn;rcases List.mem_cons.1 hp with rfl|hp
  .rw[if_pos rfl]
  .rw[if_neg (by grind)];exact qrO hn2.2 hp
def qi6:∀(l:List (Nat×Value)) (tm:Array Value),(l.foldl (λtm (p,v)=>tm.setIfInBounds p v) tm).size=tm.size
 | [],_=>rfl
 | p::l,tm=>by rw[List.foldl_cons,qi6 l];simp
def SY.mkL{b:Nat}{us:List AV}{k:AV->Hp->Prop}{r:Loop}{ts:List (Nat×AV)}{ps:List Nat}{ai bi:ICode}(hg:h.tr.get b=some (.map (zz r ts)))(hok:qrd P r ps ai bi)(hfl:h.fl<=b)(hbs:b<h.sz)(hl:ps.length=us.length)
  (hA:S P h.sz ai (qGV P h.sz b bi (qBc b k)) (qjw ps us (mkT ts)) h):SY P b us h k:=by
 intro Z B w args L hL rl hargs;obtain⟨L0,ob,hob,hrec⟩:=rl.maps b L _ hL hg;obtain⟨q,rfl,hlk,hts⟩:=hrec.rec';have hokq:=hok q hlk;obtain⟨nt,hca,hcb,hnt,hps⟩:=hokq.code
 have hsz:args.size=q.params.size:=by
  have:=hargs.length;have h2:q.params.size=ps.length:=by rw[<- hokq.params];simp
  rw[h2,hl,this];simp
 refine⟨q.fn,_,q.assign,q.body,run_yield hob hsz,λro=>roundIn_of_wpIn trivial ?_⟩
 have hfold:(q.params.zip args).foldl (λtmps (t,a)=>tmps.setIfInBounds t a) q.tmps=(ps.zip args.toList).foldl (λtm (p,v)=>tm.setIfInBounds p v) q.tmps:=by
  rw[<- Array.foldl_toList,Array.toList_zip,hokq.params]
 rw[hfold]
 have hT:TR σ0 Z (qjw ps us (mkT ts)) ((ps.zip args.toList).foldl (λtm (p,v)=>tm.setIfInBounds p v) q.tmps) :=
  qr0 hargs hl (by grind) (qHR hts)
 have hS:=hA nt q.assign hca (zzL _) (some L.blk) (.inr hokq.flat.1) Z B w { tmps:=(ps.zip args.toList).foldl (λtm (p,v)=>tm.setIfInBounds p v) q.tmps,defers:=[] } hT (by rw[qi6];omega) rl
 refine wpIn_mono hS ?_;rintro e a1 w1 ⟨x1,t1,h1,Z1,rs,hx,hq,ht1,hs1,hd1,hm,r1,k1⟩;cases hx with
 | exit id=>exact hq.elim
 | ret=>exact hq.elim
 | normal =>
  obtain⟨r',ts1,R',hg1,hrr,hRR,hB⟩:=hq;have r1:=r1.lessB (B:=B) λk hk=>.inl hk
  have hL1:Z1 b=some L:=by grind[Kep.ext]
  obtain⟨_,ob1,hob1,hrec1⟩:=r1.maps b L _ hL1 hg1;obtain⟨q1,rfl,hlk1,hts1⟩:=hrec1.rec';refine⟨w1.putObj L.blk (.loop (Go.Kc.bsy q1)),run_beginRound hob1 (hlk1.state.trans hrr),?_⟩;obtain⟨r2,k2⟩:=r1.putMap (w':=w1.putObj L.blk (.loop (Go.Kc.bsy q1))) hL1 hg1 (by rw[k1.fl];omega) hob1 (es':=zz R' ts1) (.inr (.inr ⟨_,_,_,rfl,rfl,hRR _ hlk1,hts1⟩)) rfl ⟨rfl,rfl⟩;have hSb:=hB nt q.body hcb k1.szle (some L.blk) (.inr hokq.flat.2) Z1 B _ a1 ht1 hs1 r2;refine wpIn_mono hSb ?_;rintro e a3 w3 ⟨x3,t3,h3,Z3,rs3,hx3,hq3,ht3,hs3,hd3,hm3,r3,k3⟩;have r3:=r3.lessB (B:=B) λk hk=>.inl hk
  have kk:=(k1.trans (k2.kep k1.szle)).trans k3;obtain⟨r',ts',R3,hg3,hR3,hq3⟩:=hq3;have hL3:Z3 b=some L:=by grind[Kep.ext]
  obtain⟨_,ob3,hob3,hrec3⟩:=r3.maps b L _ hL3 hg3;obtain⟨q3,rfl,hlk3,hts3⟩:=hrec3.rec'
  have fin:∀(lq:Loop) (y:Bool),qe4 R3 lq->lq.tmps=q3.tmps->k (.b y) (h3.put b (.map (zz R3 ts')))->(∃v v0 h' Z',Ending.returned (Value.bool y) = .returned v0/\k v h'/\VR σ0 Z' v v0/\Rel σ0 Z' B h' (w3.putObj L.blk (.loop lq))/\Kept Z B h w Z' h' (w3.putObj L.blk (.loop lq))):=by
   intro lq y hlp htm hk;obtain⟨r4,k4⟩:=r3.putMap (w':=w3.putObj L.blk (.loop lq)) hL3 hg3 (by rw[kk.fl];omega) hob3 (es':=zz R3 ts') (.inr (.inr ⟨_,_,_,rfl,rfl,hlp,by rw[htm];omega⟩)) rfl ⟨rfl,rfl⟩
   exact⟨.b y,.bool y,_,Z3,rfl,hk,.b _,r4,(kk.trans (k4.kep kk.szle)).kept rl.dn.1⟩
  have hlf:=hR3 q3 hlk3;cases hx3 with
  | normal=>exact⟨_,_,run_endRound none hob3,fin (Go.Kc.rdy q3) true hlf rfl hq3⟩
  | exit id=>exact⟨_,_,run_endRound (some (.exit id)) hob3,fin (dne q3 (.exit id)) false hlf rfl hq3⟩
  | ret=>exact⟨_,_,run_endRound (some .ret) hob3,fin (dne q3 .ret) false hlf rfl hq3⟩
theorem SY.mk{b:Nat}{us:List AV}{k:AV->Hp->Prop}{r:Loop}{ts:List (Nat×AV)}{ps:List Nat}{ai bi:ICode}(hg:h.tr.get b=some (.map (zz r ts)))(hr:r.state = .ready)(hok:LoopOk P r ps ai bi)(hfl:h.fl<=b)(hbs:b<h.sz)(hl:ps.length=us.length)
  (hA:S P h.sz ai (qIH P h.sz b r bi (qCJ b k)) (qjw ps us (mkT ts)) h):SY P b us h k:=by
 refine SY.mkL hg hok.likes hfl hbs hl ?_;intro nt code hc hn ro hro Z B w a ht hsz rl;refine wpIn_mono (hA nt code hc hn ro hro Z B w a ht hsz rl) ?_;rintro e a1 w1 ⟨x1,t1,h1,Z1,rs,hx,hq,rest⟩;refine⟨x1,t1,h1,Z1,rs,hx,?_,rest⟩;cases x1 with
 | normal=>obtain⟨ts1,g1,g2⟩:=hq;exact⟨r,ts1,Go.Kc.bsy r,g1,hr,λq hq=>hq.bsy,g2.mono λe t h=>qvg⟩
 | exit id=>exact hq
 | ret=>exact hq
def qyX(b:Nat)(Q:X->Tr AV->Hp->Prop)(t:Tr AV)(_:AV)(h:Hp):Prop :=
 ∃r ts,h.tr.get b=some (.map (zz r ts))/\r.state≠.busy /\
  match r.pending with
  | none=>Q .normal t (h.put b .dead)
  | some .ret=>Q .ret t (h.put b .dead)
  | some (.exit id)=>Q (.exit id) t (h.put b .dead)
  | _=>False
def rfK(P:Program)(ps:List Nat)(ai bi:ICode)(Q:X->Tr AV->Hp->Prop)(t:Tr AV)(ts:List (Nat×AV))(h:Hp)(g:AV):Prop :=
 match g with
 | .fn f first cap=>qmP P f/\∀r0,r0.state = .ready->r0.pending=none->LoopOk P r0 ps ai bi->SC P f (first++(.yl h.sz::cap)) (h.push (.map (zz r0 ts))) (qyX h.sz Q t)
 | _=>False
def qJn(P:Program)(ps:List Nat)(ai bi:ICode)(Q:X->Tr AV->Hp->Prop)(t:Tr AV)(ts:List (Nat×AV))(h:Hp)(g:AV):Prop :=
 match g with
 | .fn f first cap=>qmP P f/\∀r0,r0.state = .ready->r0.pending=none->LoopOk P r0 ps ai bi->∃R,qe4 R r0/\SC P f (first++(.yl h.sz::cap)) (h.push (.map (zz R ts))) (qyX h.sz Q t)
 | _=>False
def S.rangeFL{j:Nat}{g:O}{ps:List Nat}{ai bi:ICode}{Q:X->Tr AV->Hp->Prop}{t:Tr AV}{h:Hp}{ts:List (Nat×AV)}(hfl:h.fl<=h.sz)(htg:∀p ∈ ts,t.get p.1=some p.2)(hnr:qiD ai=true/\qiD bi=true)(hk:evK t g (qJn P ps ai bi Q t ts h)):S P n (.rangeF j g ps ai bi) Q t h:=by
 intro nt code hc hn ro hro Z B w a ht hsz r
 obtain rfl:ro=none:=by
  rcases hro with h|h
  .exact h
  .cases h
 cases code<;>first|(simp[zn]at hc;done)|skip
 rename_i og ops oa ob;simp only[zn,zzB]at hc;obtain⟨⟨⟨⟨⟨h1,h2⟩,h3⟩,h4⟩,h5⟩,h6⟩:=hc;have hreal:∀j,oa≠.goto j:=λj hj=>by rw[hj]at h6;cases h6
 have h2:=eq_of_beq h2;obtain⟨gv,hgv,hk2⟩:=zd ht h1 hk;cases gv<;>try exact hgv.elim
 rename_i f first cap
 obtain⟨⟨fn0,c1,c2,c3⟩,hS⟩:=hgv;obtain⟨a',c',q1,q2,q3⟩:=hk2.un_fn;have hLd:∀b L,Z b=some L->L.blk<w.heap.size:=r.dn.2;refine wpIn_rangeFunc λfn _=>?_
 let r0:Loop:={ state:=.ready,pending:=none,fn,tmps:=a.tmps,params:=ops,assign:=oa,body:=ob,defers:=w.heap.size }
 let W1:World:=(w.alloc (.deferred (some []))).alloc (.loop r0)
 have hold:∀k,k<w.heap.size->(w.alloc (.deferred (some []))).heap[k]?=w.heap[k]?:=λk hk=>by
  show(w.heap.push _)[k]?=_;rw[Array.getElem?_push,if_neg (by omega)]
 have hD:(w.alloc (.deferred (some []))).heap[w.heap.size]?=some (.deferred (some [])):=World.alloc_heap_new w _
 have r1:Rel σ0 Z (BM B [w.heap.size]) h (w.alloc (.deferred (some []))):=by
  have r':=r.world (w':=w.alloc (.deferred (some []))) hold (by simp);refine⟨r'.dom,r'.cells,r'.maps,r'.excl,r'.exclm,r'.app,λb L hb hf hB=>?_,λk hk=>?_,r'.frz,r'.dn⟩
  .rcases hB with hB|hB
   all_goals grind[Rel.flr]
  .rcases hk with hk|hk
   .have:=r.base k hk;simp;omega
   simp_all
 have hts:∀p ∈ ts,p.1<r0.tmps.size/\VR σ0 Z p.2 (r0.tmps.getD p.1 undef):=λp hp=>ht p.1 p.2 (htg p hp)
 have hlo:LoopOk P r0 ps ai bi:=⟨h2,⟨nt,h4,h5,hsz,λp hp=>by rw[<- h2]at hp;have:=List.all_eq_true.1 h3 p hp;simp_all⟩,hnr,hreal⟩
 obtain⟨R,hRl,hSC⟩:=hS r0 rfl rfl hlo;obtain⟨r2,k2⟩:=r1.newMap (w':=W1) (es0:=zz R ts) (o:=.loop r0) (.inr (by grind)) rfl ⟨rfl,rfl⟩;have hl:(w.alloc (.deferred (some []))).heap.size=w.heap.size+1:=by simp
 rw[hl]at r2 k2;obtain⟨Lc,hLc⟩:∃Lc:Loc,Lc=⟨w.heap.size+1,0,0,0⟩:=⟨_,rfl⟩;rw[<- hLc]at r2 k2;have hself:(Z.add h.sz Lc) h.sz=some Lc:=Ren.add_self _ _ _;have hle2:=k2.mono r1.dom
 have hargs:VRs σ0 (Z.add h.sz Lc) (first++(.yl h.sz::cap)) (a' ++ #[Value.func (.yield (w.heap.size+1)) #[] #[]]++c').toList:=by
  have hy:VR σ0 (Z.add h.sz Lc) (.yl h.sz) (.func (.yield Lc.blk) #[] #[]):=.yl _ Lc hself;have e2:Lc.blk=w.heap.size+1:=by rw[hLc]
  rw[e2]at hy;have:=(q1.mono hle2).append (VRs.cons _ _ _ _ hy (q2.mono hle2))
  simp_all
 have hcf:=qdk (P:=P) c1 c2 c3
 have hcalls:Calls P f (a' ++ #[Value.func (.yield (w.heap.size+1)) #[] #[]]++c') W1 λe w'=>∃v v' h' Z',e = .returned v'/\qyX h.sz Q t v h'/\VR σ0 Z' v v'/\Rel σ0 Z' (BM B [w.heap.size]) h' w'/\Kept (Z.add h.sz Lc) (BM B [w.heap.size]) (h.push (.map (zz R ts))) W1 Z' h' w':=by
  rcases hSC.2 _ _ _ _ r2 hargs with⟨_,hh⟩|⟨v,w',hh,_⟩
  all_goals grind
 have hev:(({ a with defers:=qkD [w.heap.size]++a.defers }:Act)).eval og = .func (.func f) a' c':=q3;refine⟨w.heap.size+1,[{ target:=.collected w.heap.size,args:=#[] }],W1,{ target:=.fn (.func f) c',args:=a' ++ #[Value.func (.yield (w.heap.size+1)) #[] #[]] },W1,f,a' ++ #[Value.func (.yield (w.heap.size+1)) #[] #[]]++c',W1,run_enterLoop_outer _ _ _ _ _,?_,λ_ _=>trivial,?_,λhh=>(by cases hh),qpg (Calls.mono hcalls ?_)⟩
 .simp only[resolve,q3];simp[go_sem,Deferred.ofValue,q3]
 .simp[invoke,hcf]
 rintro e w2 ⟨v,v',h2',Z2,rfl,hend,hv,r3,k3⟩;obtain⟨r',ts',hg',hst,hmt⟩:=hend;have hL2:Z2 h.sz=some Lc:=(k3.ext _ (by show _<Nat.succ _;omega)).trans hself
 obtain⟨_,ob2,hob2,hrec2⟩:=r3.maps _ Lc _ hL2 hg';obtain⟨q2,rfl,hlk2,hts2⟩:=hrec2.rec';have hob3:w2.heap[w.heap.size+1]?=some (.loop q2):=by rw[hLc]at hob2;omega
 have hfl2:h2'.fl<=h.sz:=by rw[k3.fl];exact hfl
 obtain⟨re,hre⟩:∃re:Loop,re={ q2 with state:=.exhausted }:=⟨_,rfl⟩;obtain⟨re',hre'⟩:∃re':Loop,re'={ r' with state:=.exhausted }:=⟨_,rfl⟩
 have hlre:qe4 re' re:=by
  have:=hlk2.set .exhausted q2.pending;rw[hre,hre'];have e:({ r' with state:=.exhausted,pending:=q2.pending }:Loop)={ r' with state:=.exhausted }:=by rw[hlk2.pending]
  rw[e]at this;omega
 have hts4:∀p ∈ ts',p.1<re.tmps.size/\VR σ0 Z2 p.2 (re.tmps.getD p.1 undef):=by rw[hre];omega
 have hend2:=run_endLoop (P:=P) hob3 (by rw[hlk2.state];omega);rw[<- hre]at hend2;clear hre;obtain⟨r4,k4⟩:=r3.putMap (w':=w2.putObj (w.heap.size+1) (.loop re)) hL2 hg' hfl2 hob2 (es':=zz re' ts') (.inr (.inr ⟨_,_,_,rfl,rfl,hlre,hts4⟩)) (by rw[hLc];rfl) ⟨rfl,rfl⟩
 have r5:Rel σ0 Z2 (BM B [w.heap.size]) (h2'.put h.sz .dead) (w2.putObj (w.heap.size+1) (.loop re)):=by
  refine r4.sub rfl rfl λb x hx hd=>?_
  simp only[Hp.put,Tr.get_set]at hx ⊢
  grind
 have hD1:W1.heap[w.heap.size]?=some (.deferred (some [])):=by
  show((w.alloc (.deferred (some []))).heap.push _)[w.heap.size]?=_;rw[Array.getElem?_push,if_neg (by rw[hl];omega)];exact hD
 have hD2:(w2.putObj (w.heap.size+1) (.loop re)).heap[w.heap.size]?=some (.deferred (some [])):=by
  rw[World.putObj_heap_other (by omega),k3.pres _ (.inr (by simp))];omega
 have k0:Kep n Z B h w Z h (w.alloc (.deferred (some []))):=⟨λ_ _=>rfl,hn,rfl,λ_ _ _=>rfl,by grind[Rel.base],by simp,⟨rfl,rfl⟩,λ_ _ h=>h,λ_ _ h=>.inl h,λ_ _ h=>h⟩
 have hn2:n<=(h.push (.map (zz R ts))).sz:=Nat.le_trans hn (Nat.le_succ _);have hn3:n<=h2'.sz:=Nat.le_trans hn2 k3.szle
 have k5:Kep n Z2 (BM B [w.heap.size]) h2' w2 Z2 (h2'.put h.sz .dead) (w2.putObj (w.heap.size+1) (.loop re)) :=
  ⟨λ_ _=>rfl,hn3,rfl,λb hb _=>by simp only[Hp.put,Tr.get_set];rw[if_neg (by omega)],k4.pres,k4.wle,k4.io,λ_ _ h=>h,λ_ _ h=>.inl h,λ_ _ h=>h⟩
 have kk:Kep n Z B h w Z2 (h2'.put h.sz .dead) (w2.putObj (w.heap.size+1) (.loop re)):=((k0.trans (k2.kep hn).bm).trans (k3.kep hn2).bm).trans k5.bm
 have fin:∀(x:X) (e:Exit),XR x e->Q x t (h2'.put h.sz .dead)->qeG σ0 Q nt n Z B h w a.defers e { a with defers:=[{ target:=.collected w.heap.size,args:=#[] }]++a.defers } (w2.putObj (w.heap.size+1) (.loop re)):=λx e hx hq =>
  ⟨x,t,_,Z2,[w.heap.size],hx,hq,ht.mono (Ren.le_trans hle2 (k3.mono r2.dom)),hsz,rfl,⟨by simp,by grind,λq hq=>by rw[List.mem_singleton]at hq;grind⟩,r5,kk⟩
 refine⟨q2.pending,_,hend2,?_⟩;clear hend2;rw[hlk2.pending];generalize r'.pending=pd at hmt ⊢;cases pd with
 | none=>exact fin .normal _ .normal hmt
 | some c =>
  cases c<;>first|exact hmt.elim|skip
  .exact wpIn_exit (fin _ _ (.exit _) hmt)
  .exact wpIn_ret (fin _ _ .ret hmt)
def S.rangeF{j:Nat}{g:O}{ps:List Nat}{ai bi:ICode}{Q:X->Tr AV->Hp->Prop}{ts:List (Nat×AV)}{bl:List Blk}(_:bl.all jy=true)(hnd:(ts.map Prod.fst).Nodup)(hnr:qiD ai=true/\qiD bi=true)(hk:evK (mkT ts) g (rfK P ps ai bi Q (mkT ts) ts (mkH 0 bl))):S P n (.rangeF j g ps ai bi) Q (mkT ts) (mkH 0 bl):=by
 refine S.rangeFL (ts:=ts) (Nat.zero_le _) (λp hp=>qrO hnd hp) hnr ?_
 obtain⟨v,h1,h2⟩:=qA (mkT ts) g _ hk;refine h2 _ ?_;cases v<;>try exact h1.elim
 obtain⟨hc,hh⟩:=h1;exact⟨hc,λr0 a b hlo=>⟨r0,.inl ⟨rfl,hlo.real⟩,hh r0 a b hlo⟩⟩
end Go.Kc
end
section
namespace Go.Kc
variable {P:Program} {h:Hp}
inductive Gvs (h:Hp):List AV->List AV->Prop where
 | nil:Gvs h [] []
 | keep (v:AV) (vs vs':List AV) (h1:Gvs h vs vs'):Gvs h (v::vs) (v::vs')
 | fz (v v':AV) (vs vs':List AV) (hf:Frz h v v') (h1:Gvs h vs vs'):Gvs h (v::vs) (v'::vs')
 | fn (f:Nat) (a c c':List AV) (vs vs':List AV) (hc:Gvs h c c') (h1:Gvs h vs vs'):Gvs h (.fn f a c::vs) (.fn f a c'::vs')
theorem Gvs.ok{Z:Ren}{B:Nat->Prop}{w:World}(hle:Z.le ⟨Z.loc,jZ Z h w,Z.n⟩)(r:Rel σ0 Z B h w):∀{vs vs':List AV} {xs:List Value},Gvs h vs vs'->VRs σ0 Z vs xs->VRs σ0 ⟨Z.loc,jZ Z h w,Z.n⟩ vs' xs
 | _,_,_,.nil,hv=>by cases hv;exact .nil
 | _,_,_,.keep _ _ _ h1,hv=>by
  cases hv with
  | cons _ _ _ _ a1 a2=>exact .cons _ _ _ _ (a1.mono hle) (Gvs.ok hle r h1 a2)
 | _,_,_,.fz _ _ _ _ hf h1,hv=>by
  cases hv with
  | cons _ _ _ _ a1 a2=>exact .cons _ _ _ _ (by grind[CR.vr,Frz.ok]) (Gvs.ok hle r h1 a2)
 | _,_,_,.fn f a c c' _ _ hc h1,hv=>by
  cases hv with
  | cons _ _ _ _ a1 a2 =>
   obtain⟨a',c'',q1,q2,q3⟩:=a1.un_fn;subst q3;exact .cons _ _ _ _ (.fn _ _ _ _ _ (q1.mono hle) (Gvs.ok hle r hc q2)) (Gvs.ok hle r h1 a2)
def SC.give{f:Nat}{vs vs':List AV}{k:AV->Hp->Prop}(DB:List (Nat×Blk))(hg:∀p ∈ DB,h.tr.get p.1=some p.2/\h.fl<=p.1)(hf:Gvs ⟨h.sz,h.fl,trP DB⟩ vs vs')(hk:SC P f vs' (qeU h DB) k):SC P f vs h k:=by
 refine⟨hk.1,λZ B w args r ha=>?_⟩
 have r0:Rel σ0 Z B ⟨h.sz,h.fl,trP DB⟩ w:=r.sub rfl rfl (λb x hx _=>(hg _ (qjP hx)).1)
 have le:Z.le ⟨Z.loc,jZ Z ⟨h.sz,h.fl,trP DB⟩ w,Z.n⟩:=⟨λ_ _ h=>h,by grind[wm],zzL _⟩
 have hcr:=hf.ok le r0 ha
 have fnew:∀kk a,jZ Z ⟨h.sz,h.fl,trP DB⟩ w kk=some a->Z.frz kk=some a\/((∃ty fz,w.heap[kk]?=some (.cells a ty fz))/\∃b L e af cs,b ∈ DB.map Prod.fst/\Z b=some L/\h.tr.get b=some (.cells e true af cs)/\L.blk=kk/\h.fl<=b):=by
  intro kk a hkk;rcases qdL hkk with h1|⟨h1,b,L,e,af,cs,h2,h3,h4⟩
  .exact .inl h1
  .have hm:=qjP h3;exact .inr ⟨h1,b,L,e,af,cs,List.mem_map_of_mem (f:=Prod.fst) hm,h2,(hg _ hm).1,h4,(hg _ hm).2⟩
 have jy:∀b x,(qeU h DB).tr.get b=some x->x≠.dead->b ∉ DB.map Prod.fst/\h.tr.get b=some x:=by
  intro b x hx hd;rw[qg9]at hx;split at hx
  .cases hx;exact absurd rfl hd
  .exact by grind
 have r1:Rel σ0 ⟨Z.loc,jZ Z ⟨h.sz,h.fl,trP DB⟩ w,Z.n⟩ B (qeU h DB) w:=by
  have rs:Rel σ0 Z B (qeU h DB) w:=by grind[Rel.sub,qjo,qjn]
  refine⟨rs.dom,λb L e wf af cs hb hx=>?_,λb L es hb hx=>?_,rs.excl,rs.exclm,rs.app,rs.flr,rs.base,λkk arr hkk=>?_,rs.dn⟩
  .obtain⟨q1,c,ty,fz,q2,q3,q4,q5,q6⟩:=rs.cells b L e wf af cs hb hx;exact by grind[VR.mono]
  .obtain⟨q1,o,q2,q3⟩:=rs.maps b L es hb hx;exact by grind[qcu.mono]
  .rcases fnew kk arr hkk with h1|⟨h1,b,L,e,af,cs,h2,h3,h4,h5,_⟩
   .exact rs.frz kk arr h1
   .refine⟨h1,λb' L' x hb' hx hd he=>?_⟩
    obtain⟨g1,g2⟩:=jy b' x hx hd;have:=r.excl b L e af cs h3 h4 b' L' x hb' g2 hd (by rw[he,h5]);subst this;exact g1 h2
 have k0:Kept Z B h w ⟨Z.loc,jZ Z ⟨h.sz,h.fl,trP DB⟩ w,Z.n⟩ (qeU h DB) w:=by
  refine⟨λ_ _=>rfl,by rw[qjo];exact zzL _,qjn,λb hb _=>?_,λ_ _=>rfl,zzL _,⟨rfl,rfl⟩,by grind[wm],λk a hk=>?_,zzL _⟩
  .rw[qg9,if_neg];intro hm;obtain⟨p,hp1,hp2⟩:=List.mem_map.1 hm;have:=(hg p hp1).2;omega
  .rcases fnew k a hk with h2|⟨_,b,L,_,_,_,_,h3,_,h5,h6⟩
   .exact .inl h2
   .right;rw[<- h5];exact r.flr b L h3 h6
 refine qb4.mono (hk.2 _ B w args r1 hcr) ?_
 grind[Kept.trans]
def PC.give{f:Nat}{vs vs':List AV}{k:AV->Hp->Prop}(DB:List (Nat×Blk))(hg:∀p ∈ DB,h.tr.get p.1=some p.2/\h.fl<=p.1)(hf:Gvs ⟨h.sz,h.fl,trP DB⟩ vs vs')(hk:PC P f vs' (qeU h DB) k):PC P f vs h k:=by
 obtain⟨v,h',h1,h2⟩:=hk;exact⟨v,h',λk' hk'=>SC.give DB hg hf (h1 k' hk'),h2⟩
def Upd.pc{f:Nat}{vs:List AV}{bs bs2:List Blk}{v:AV}{k:AV->Hp->Prop}(at':List Nat)(hu:Upd P f vs bs v bs2)(l:Lent h at' bs)(hk:k (rnv (gAt at' h.sz) v) (qc7 h at' bs2)):PC P f (qa4 (gAt at' h.sz) vs) h k :=
 ⟨_,_,λ_ h'=>hu.sc at' l h',hk⟩
end Go.Kc
end
section
namespace Go.Kc
variable {P:Program} {h:Hp} {t:Tr AV}
def SL.loopd{n:Nat}{α:Type}{x:ICode}{Q:X->Tr AV->Hp->Prop}(T:α->List (Nat×AV))(B:α->List Blk)(I:α->Prop)(μ:α->Nat)(a0:α)(src:List Nat)
  (hT:TWs t (rl src h.sz) (B a0).length (T a0)) (hB:BWs h (rl src h.sz) (B a0).length src (B a0)) (hI:(List.map Prod.fst (List.filter (λp=>decide (p.fst<h.sz)&&jy p.snd) (src.zip (B a0)))).Nodup) (hfl:h.fl=0) (hn:n<=(B a0).length) (hlow:∀b,b<n->rl src h.sz b=b) (h0:I a0)
  (step:∀a,I a->∀G:Tr AV->Hp->Prop,(∀b,I b->μ b<μ a->∀t' h',Wk n t' h' (mkT (T b)) (mkH 0 (B b))->G t' h')->
   V P n x (λe t h=>onX e (G t h) (λid=>Q (.exit id) t h) (Q .ret t h)) (mkT (T a)) (mkH 0 (B a))):SL P n x Q t h:=by
 have main:∀m a,μ a=m->I a->SL P n x Q (mkT (T a)) (mkH 0 (B a)):=by
  intro m
  induction m using Nat.strongRecOn with
  | ind m ih =>
   intro a ha hi;exact qcp (step a hi (λt h=>SL P n x Q t h) λb hb hlt t' h' hw=>SL.weak hw (ih (μ b) (ha ▸ hlt) b rfl hb))
 exact SL.weak (by grind[Wk.mkd]) (main _ a0 rfl h0)
def qoz(m:Nat)(v:AV)(bs2:List Blk)(v':AV)(h':Hp):Prop:=h'.fl=0->∃src:List Nat,NV (rl src h'.sz) bs2.length v' v/\BWs h' (rl src h'.sz) bs2.length src bs2/\(List.map Prod.fst (List.filter (λp=>decide (p.fst<h'.sz)&&jy p.snd) (src.zip bs2))).Nodup/\∀b,b<m->rl src h'.sz b=b
theorem qoz.w{m:Nat}{v:AV}{bs2:List Blk}{v':AV}{h':Hp}(hz:qoz m v bs2 v' h')(hle:m<=bs2.length):qx9 m v bs2 v' h':=by
 intro hfl;obtain⟨src,s1,s2,s3,s4⟩:=hz hfl;exact Wk.mkd [(0,v)] bs2 src ⟨⟨v',by simp[mkT,Tr.get_set],s1⟩,trivial⟩ s2 s3 hfl hle s4
theorem Upd.mkd{f:Nat}{i:IFn}{vs:List AV}{v:AV}{bs bs2:List Blk}(hc:qc P f i=true)(hb:jl bs.length vs=true)(hl:bs.length<=bs2.length)(hV:V P bs.length i.body (xk i.res (qoz bs.length v bs2)) (qbl vs 0 .leaf) (mkH 0 bs)):Upd P f vs bs v bs2 :=
 ⟨hb,hl,(SC.mk hc (qk hV)).mono (by grind[qoz.w])⟩
end Go.Kc
end
section
namespace Go.Kc

variable {P:Program} {H:Type} {enc:TypeId×Value->H} {w:World} {t e:TypeId} {α:Type}
end Go.Kc
end
section
namespace Go.Kc
variable {P:Program}

def qv1:Op->Bool
 | .call c=>(match c.callee with | .builtin .recover=>true|_=>false)&&c.args.isEmpty
 | _=>false
def qvW(n:Nat):Op->Bool
 | .assign (.tmp m)=>m==n
 | _=>false
def qvZ(n:Nat):Op->Bool
 | .move (.tmp m)=>m==n
 | _=>false
def qDa(P:Program)(n:Nat):Op->Bool
 | .binOp .neq ty (.tmp m) y _=>m==n&&qeR .iface y&&qtI P .iface ty
 | _=>false
def qph(o:Oper):Bool:=o.guard.isNone
def qw6(P:Program)(nt:Nat)(p q r s:Oper)(c:Nat):Bool :=
 qph p&&qph q&&qph r&&qph s&&match p.dst,q.dst,r.dst,s.dst with
  | some a,some b,some e,some c'=>Nat.blt a nt&&Nat.blt b nt&&Nat.blt e nt&&Nat.blt c nt&&c'==c&&qv1 p.op&&qvW a q.op&&qvZ b r.op&&qDa P e s.op
  | _,_,_,_=>false
def qw5(P:Program)(nt:Nat):Code->Bool
 | .seq (.region _ o1 false) (.seq (.region _ o2 false) (.cond (.tmp c) _ .skip))=>(match o1.toList,o2.toList with
  | [p,q],[r,s]=>qw6 P nt p q r s c
  | _,_=>false)
 | _=>false
def qi0(P:Program)(f:Nat):Bool :=
 match P.funcs[f]? with
 | some fn=>fn.name != "runtime.NumGoroutine" && fn.results.isEmpty&&(match fn.body with|some c=>qw5 P fn.ntmps c|none=>false)
 | none=>false
def qk8{a:Act}{n:Nat}(h:n<a.tmps.size)(v:Value):(a.put (some n) v).eval (.tmp n)=v:=by
 simp[Act.put,Act.eval,Array.getD,h]
def qpY{a:Act}{o:Oper}(h:qv1 o.op=true)(w:World):(execOp a.eval o).run P w = .ok .recover w:=by
 unfold qv1 at h;split at h
 .rename_i c hc;simp only[zzB]at h;obtain⟨h1,h2⟩:=h;split at h1<;>try (cases h1;done)
  rename_i hb;simp[execOp,hc,resolve,hb,invoke,builtin]
 grind
def qvX{n:Nat}{o:Op}(h:qvW n o=true):o = .assign (.tmp n):=by
 unfold qvW at h
 grind
def qv0{n:Nat}{o:Op}(h:qvZ n o=true):o = .move (.tmp n):=by
 unfold qvZ at h
 grind
def qDF(Z:Ren){n:Nat}{a:Act}{o:Oper}(h:qDa P n o.op=true)(hv:a.eval (.tmp n) = .nilIface)(w:World):(execOp a.eval o).run P w = .ok (.value (.bool false)) w:=by
 unfold qDa at h;split at h
 .rename_i ty m y uy ho;simp only[zzB]at h;obtain⟨⟨h1,h2⟩,h3⟩:=h;obtain rfl:=eq_of_beq h1;have hx:VR σ0 Z .nili (a.eval (.tmp m)):=by rw[hv];exact .nili
  obtain⟨c,z,g1,rfl,g2,g3,g4,g5,g6,g7⟩:=qlQ (P:=P) (k:=λc=>c=true) hx (show jm .iface .nili (λc=>c=true)from rfl) h3 h2 w
  subst g1
  have hg:(eqGuard .neq ty (.tmp m) (.const z) (a.eval (.tmp m)) z).run P w = .ok () w:=by
   rw[hv];cases z<;>simp[eqGuard]
  refine qi2 ho hg ?_;show(binOp .neq ty (a.eval (.tmp m)) z).run P w=_;rw[g6 .neq (.inr rfl)];have g2':(Op.equal ty (a.eval (.tmp m)) z).run P w = .ok true w:=g2;simp[g2']
 grind
def qhy{o:Oper}(h:qph o=true)(y:Nat->Option Bool):Region.wanted o y=true:=by
 unfold qph at h;cases hg:o.guard with
 | none=>simp[Region.wanted,hg]
 | some _=>rw[hg]at h;cases h
def qnK{a b:Nat}(h:Nat.blt a b=true):a<b:=by simp_all
def qw7(Z:Ren){fd:Nat}(hc:qi0 P fd=true)(args:Array Value)(w:World):CallsDIn (Fr none) 0 P fd args .returning w (λe u' w'=>e = .returned (.tuple #[])/\u' = .returning/\w'=w):=by
 unfold qi0 at hc;split at hc<;>try (cases hc;done)
 rename_i fn hfn;simp only[zzB]at hc;obtain⟨⟨_,hres⟩,hbody⟩:=hc;split at hbody<;>try (cases hbody;done)
 rename_i c hcb;unfold qw5 at hbody;split at hbody<;>try (cases hbody;done)
 rename_i i1 o1 i2 o2 c thn;split at hbody<;>try (cases hbody;done)
 rename_i p q r s hl1 hl2;unfold qw6 at hbody;simp only[zzB]at hbody;obtain⟨⟨⟨⟨f1,f2⟩,f3⟩,f4⟩,hb⟩:=hbody;split at hb<;>try (cases hb;done)
 rename_i a b e c' e1 e2 e3 e4;simp only[zzB]at hb;obtain⟨⟨⟨⟨⟨⟨⟨⟨b1,b2⟩,b3⟩,b4⟩,b5⟩,b6⟩,b7⟩,b8⟩,b9⟩:=hb;have b1:=qnK b1;have b2:=qnK b2;have b3:=qnK b3;have b4:=qnK b4;obtain rfl:=eq_of_beq b5;have b7:=qvX b7;have b8:=qv0 b8;have s1:o1 = #[p,q]:=by rw[<- Array.toList_inj];exact hl1
 have s2:o2 = #[r,s]:=by rw[<- Array.toList_inj];exact hl2
 subst s1 s2;refine callsDIn_of_wpSIn hfn hcb trivial λc₀ cs hmode=>?_
 have hsz:fn.ntmps<=(args++Array.replicate (fn.ntmps-args.size) undef).size:=by simp;omega
 generalize hA:({ tmps:=args++Array.replicate (fn.ntmps-args.size) undef,defers:=[] }:Act)=A;have hsA:fn.ntmps<=A.tmps.size:=by rw[<- hA];exact hsz
 have hdA:A.defers=[]:=by rw[<- hA]
 have hrec:recoverD (c₀::cs)=none:=by simp[recoverD,hmode]
 have r1:=qpY (P:=P) (a:=A) b6 w;have m1:∀(x:Act),(execOp x.eval q).run P w = .ok (.value (x.eval (.tmp a))) w:=λx=>by simp[execOp,b7]
 have m2:∀(x:Act),(execOp x.eval r).run P w = .ok (.value (x.eval (.tmp b))) w:=λx=>by simp[execOp,b8]
 refine wpSIn_seq (wpSIn_region ?_);have hA1:(A.put (some a) .nilIface).eval (.tmp a) = .nilIface:=qk8 (by omega) _;generalize hB:A.put (some a) .nilIface=A1 at hA1;have z1:A1.tmps.size=A.tmps.size:=by rw[<- hB,qaE]
 have hA2:(A1.put (some b) .nilIface).eval (.tmp b) = .nilIface:=qk8 (by omega) _;generalize hC:A1.put (some b) .nilIface=A2 at hA2;have z2:A2.tmps.size=A.tmps.size:=by rw[<- hC,qaE,z1]
 have hA3:(A2.put (some e) .nilIface).eval (.tmp e) = .nilIface:=qk8 (by omega) _;generalize hD:A2.put (some e) .nilIface=A3 at hA3;have z3:A3.tmps.size=A.tmps.size:=by rw[<- hD,qaE,z2]
 have hA4:(A3.put (some c') (.bool false)).eval (.tmp c') = .bool false:=qk8 (by omega) _;generalize hE:A3.put (some c') (.bool false)=A4 at hA4;have d4:A4.defers=[]:=by rw[<- hE,qaD,<- hD,qaD,<- hC,qaD,<- hB,qaD,hdA]
 have m3:=qDF (P:=P) Z b9 hA3 w;have l2:List.range (#[p,q]:Array Oper).size=[0,1]:=rfl;have l3:List.range (#[r,s]:Array Oper).size=[0,1]:=rfl;have g0:(#[p,q]:Array Oper)[0]?=some p:=rfl;have g1:(#[p,q]:Array Oper)[1]?=some q:=rfl;have g2:(#[r,s]:Array Oper)[0]?=some r:=rfl;have g3:(#[r,s]:Array Oper)[1]?=some s:=rfl;rw[l2];simp only[wpOpsSIn,g0,g1,qhy f1,qhy f2,if_true,r1,hrec,e1,hB,m1,hA1,e2,hC];refine⟨λ_ _=>trivial,λ_ _=>trivial,?_⟩
 refine wpSIn_seq (wpSIn_region ?_);rw[l3];simp only[wpOpsSIn,g2,g3,qhy f3,qhy f4,if_true,m2,hA2,e3,hD,m3,e4,hE];refine⟨λ_ _=>trivial,λ_ _=>trivial,?_⟩
 refine wpSIn_cond hA4 (wpSIn_of_wpIn rfl (wpIn_skip ?_));refine⟨d4,.returning,?_,.tuple #[],?_,rfl,rfl,rfl⟩
 .cases c₀;cases hmode;rfl
 simp_all[qmf]

def qvY(n:Nat):Op->Bool
 | .defer c=>(match c.callee with | .value (.tmp m)=>m==n|_=>false)&&c.args.isEmpty
 | _=>false
def qtk{n fd:Nat}{a:Act}{o:Oper}{cap:Array Value}(h:qvY n o.op=true)(hv:a.eval (.tmp n) = .func (.func fd) #[] cap)(w:World):(execOp a.eval o).run P w = .ok (.defer { target:=.fn (.func fd) cap,args:=#[] }) w:=by
 unfold qvY at h;split at h
 .rename_i c hc;simp only[zzB]at h;obtain⟨h1,h2⟩:=h;split at h1<;>try (cases h1;done)
  rename_i m hb;obtain rfl:=eq_of_beq h1;have h2:c.args = #[]:=by simpa using h2
  simp[execOp,hc,resolve,hb,hv,h2,Deferred.ofValue]
 grind
def qnR(P:Program)(f fd:Nat)(i:IFn):Bool :=
 qi0 P fd&&match i.body with
 | .seq (.reg false rsA) (.seq (.reg false rsB) (.seq (.reg false (r0::_)) y))=>(match P.funcs[f]? with
  | some fn=>fn.name != "runtime.NumGoroutine" && (match fn.body with
   | some (.seq (.region _ oA false) (.seq (.region _ oB false) (.seq (.region _ oD false) c)))=>qdF P oA fn.ntmps oA.toList rsA&&qdF P oB fn.ntmps oB.toList rsB&&(match oD.toList,r0.dst with
    | [o0,o1],some d=>qqB P oD fn.ntmps o0 r0&&r0.guard.isNone&&qph o0&&qph o1&&qvY d o1.op&&o1.dst.isNone
    | _,_=>false)&&zn P fn.ntmps c y
   | _=>false)&&qb6 P fn.results.toList i.res
  | none=>false)
 | _=>false
def qzk(fd:Nat)(r0:ROp)(t:Tr AV):Prop:=∃d cs,r0.dst=some d/\t.get d=some (.fn fd [] cs)
def VDf(P:Program)(n fd:Nat):ICode->(X->Tr AV->Hp->Prop)->Tr AV->Hp->Prop
 | .seq (.reg _ rsA) (.seq (.reg _ rsB) (.seq (.reg _ (r0::_)) y)),Q,t,h=>VG P rsA (λt h=>VG P rsB (λt h=>VG P [r0] (λt h=>qzk fd r0 t/\V P n y Q t h) t h) t h) t h
 | _,_,_,_=>False
def qlU{fn:Func}{tm:Array Value}{Z Z':Ren}{B:Nat->Prop}{h h':Hp}{w:World}{R:Ending->World->Prop}{ds:List Deferred}(hT:∀w',Rel σ0 Z' B h' w'->Kept Z B h w Z' h' w'->LeavesInM (Fr none) 0 P fn tm R ds .returning w') :
  ∀(rs:List Nat) {w':World},(∀r ∈ rs,w'.heap[r]?=some (.deferred (some [])))->rs.Nodup->(∀r ∈ rs,¬B r)->Rel σ0 Z' B h' w'->Kept Z B h w Z' h' w'->LeavesInM (Fr none) 0 P fn tm R (qkD rs++ds) .returning w'
 | [],w',_,_,_,hr',hk=>hT w' hr' hk
 | r::rs,w',hm,hn,hB,hr',hk=>by
  have h1:=hm r (by simp);refine⟨by simp,.inl ⟨r,w'.putObj r (.deferred none),rfl,run_takeDeferred h1,?_⟩⟩
  have hn2:=List.nodup_cons.1 hn;refine qlU hT rs (λr' hr2=>?_) hn2.2 (λr' hr2=>hB r' (by grind)) (hr'.shut h1 _) ?_
  .rw[World.putObj_heap_other (by rintro rfl;exact hn2.1 hr2)];simp_all
  .exact⟨hk.ext,hk.szle,hk.fl,hk.akeep,λk hb=>by rw[World.putObj_heap_other (by grind)];exact hk.pres k hb,by simpa using hk.wle,hk.io,hk.frz,hk.fnew,hk.nle⟩
def SC.mkD{f fd:Nat}{i:IFn}{vs:List AV}{h:Hp}{k:AV->Hp->Prop}(hc:qnR P f fd i=true)(hV:VDf P h.sz fd i.body (xk i.res k) (qbl vs 0 .leaf) h):SC P f vs h k:=by
 unfold qnR at hc;simp only[zzB]at hc;obtain⟨hquiet,hc⟩:=hc;split at hc<;>try (cases hc;done)
 rename_i rsA rsB r0 rest y hbody;rw[hbody]at hV;split at hc<;>try (cases hc;done)
 rename_i fn hfn;simp only[zzB,bne_iff_ne]at hc;obtain⟨⟨hname,hc⟩,hres⟩:=hc;split at hc<;>try (cases hc;done)
 rename_i iA oA iB oB iD oD c hcb;simp only[zzB]at hc;obtain⟨⟨⟨hA,hB⟩,hD⟩,hcode⟩:=hc;split at hD<;>try (cases hD;done)
 rename_i o0 o1 d hl hd0;simp only[zzB]at hD;obtain⟨⟨⟨⟨⟨hr0,hg0⟩,hf0⟩,hf1⟩,hdef⟩,hdst⟩:=hD;have sD:oD = #[o0,o1]:=by rw[<- Array.toList_inj];exact hl
 subst sD;have hdst:o1.dst=none:=by simp_all
 refine⟨trivial,λZ B w args r ha=>.inl ⟨⟨fn,hfn,hname,by rw[hcb];rfl⟩,?_⟩⟩
 have r00:=r
 have ht:TR σ0 Z (qbl vs 0 .leaf) (args++Array.replicate (fn.ntmps-args.size) undef):=by
  intro j v hv;rcases qjV _ _ _ _ _ hv with⟨_,h3⟩|h3
  .simp only[Nat.sub_zero]at h3;obtain⟨v',h4,h5⟩:=ha.get h3
   have hn:j<args.size:=by
    have:=(zzS.1 h4).1;simpa using this
   refine⟨by simp;omega,?_⟩
   have:(args++Array.replicate (fn.ntmps-args.size) undef).getD j undef=v':=by
    rw[Array.getD_eq_getD_getElem?,Array.getElem?_append_left hn];rw[Array.getElem?_toList]at h4;rw[h4];rfl
   rw[this];exact h5
  simp_all
 have hsize:fn.ntmps<=(args++Array.replicate (fn.ntmps-args.size) undef).size:=by grind
 refine(callsIn_wide (n:=0)).1 (callsIn_of_wp_marks hfn hcb trivial ?_ rfl);refine wpIn_seq (wpIn_region ?_);have hreg:=λK hK=>qmd (ops:=oA) (nt:=fn.ntmps) (ro:=none) (K:=K) (Z0:=Z) (h0:=h) (w0:=w) (ds:=[]) (qju P) (qe5 P) hK oA.toList rsA 0 hA rfl _ h Z w { tmps:=args++Array.replicate (fn.ntmps-args.size) undef,defers:=[] } hV ht hsize rfl r (Kept.refl _ _ _ _)
 rw[List.range_eq_range'];refine hreg _ ?_;intro a0 w0 t0 h0 Z0 hq0 ht0 hs0 hd0' r0' k0';refine wpIn_seq (wpIn_region ?_);have hreg2:=λK hK=>qmd (ops:=oB) (nt:=fn.ntmps) (ro:=none) (K:=K) (Z0:=Z) (h0:=h) (w0:=w) (ds:=[]) (qju P) (qe5 P) hK oB.toList rsB 0 hB rfl _ h0 Z0 w0 a0 hq0 ht0 hs0 hd0' r0' k0'
 rw[List.range_eq_range'];refine hreg2 _ ?_;intro a1 w1 t1 h1 Z1 hq1 ht1 hs1 hd1 r1 k1;refine wpIn_seq (wpIn_region ?_);have l2:List.range (#[o0,o1]:Array Oper).size=[0,1]:=rfl;have g0:(#[o0,o1]:Array Oper)[0]?=some o0:=rfl;have g1:(#[o0,o1]:Array Oper)[1]?=some o1:=rfl;rw[l2];simp only[wpOpsIn,g0,qhy hf0,if_true];obtain⟨dst,rk,g⟩:=r0;simp only[qqB,zzB]at hr0;obtain⟨⟨hc1,hc2⟩,hc3⟩:=hr0;have hgn:g=none:=by simpa using hg0
 subst hgn;refine qxq (draw:=false) (qju P) (qe5 P) r1 ht1 hc3 hq1 _ _ ?_;intro v v' h2 Z2 w2 p1 p2 r2 k2;obtain⟨t2,q1,ht2⟩:=(ht1.mono (k2.mono r1.dom)).put hs1 hc1 p2 p1;obtain⟨⟨d',cs,q3,q4⟩,q2⟩:=q1;rw[hd0]at q3;cases q3;obtain⟨z1,z2⟩:=ht2 d _ q4;obtain⟨a',c',z3,z4,z5⟩:=z2.un_fn
 have ha':a' = #[]:=by
  generalize hL:a'.toList=L at z3;cases z3<;>grind
 subst ha';generalize hA1:a1.put o0.dst v'=A1 at ht2 z1 z5;have hsA:fn.ntmps<=A1.tmps.size:=by rw[<- hA1,qaE];omega
 have hdA:A1.defers=[]:=by rw[<- hA1,qaD];omega
 have hev:A1.eval (.tmp d) = .func (.func fd) #[] c':=z5;change (if Region.wanted o1 (yielded #[o0,o1] A1.tmps)=true then o1.wpIn (Fr none) 0 P A1 w2 _ _ else _)
 rw[if_pos (qhy hf1 _)];refine⟨λ_ _=>trivial,?_⟩
 have hsem:(o1.semAt (Fr none).round A1.eval).run P w2 = .ok (.defer { target:=.fn (.func fd) c',args:=#[] }) w2:=qtk hdef hev w2;rw[hsem,Oper.uponIn_defer,hdst];have hle:h.sz<=h2.sz:=Nat.le_trans k1.szle k2.szle;have hw:=qk q2 fn.ntmps c hcode hle none (.inl rfl) Z2 B w2 { A1 with defers:={ target:=.fn (.func fd) c',args:=#[] }::A1.defers } ht2 hsA r2;refine wpIn_mono hw ?_;rintro e a w' ⟨x,t',h',Z',rs,hx,hq,ht',_,hd,hm,hr',hkept⟩;have hkk:Kep h.sz Z B h w Z' h' w':=((k1.trans k2).kep (zzL _)).trans hkept;have hww:w.heap.size<=w2.heap.size:=(k1.trans k2).wle
 have hcod:(callFunc fd (#[]++c')).run P=λw=>.ok (.enter fd (#[]++c')) w:=by
  funext w;have hq:=hquiet;unfold qi0 at hq;split at hq<;>try (cases hq;done)
  grind[qdk]
 have key:∀(k':AV->Hp->Prop),qe0 t' h' i.res (λvs=>k' (qfs vs) h')->LeavesInM (Fr none) 0 P fn a.tmps (λe w'=>∃v v' h' Z',e = .returned v'/\k' v h'/\VR σ0 Z' v v'/\Rel σ0 Z' B h' w'/\Kept Z B h w Z' h' w') a.defers .returning w':=by
  intro k' hq';rw[hd,hdA];have hB:Rel σ0 Z' B h' w':=hr'.lessB λk hk=>.inl hk
  refine qlU ?_ rs (λr hr=>hm.at' r hr) hm.nodup (λr hr hb=>absurd (r00.base r hb) (Nat.not_lt.2 (Nat.le_trans hww (hm.new r hr)))) hB (hkk.kept r00.dn.1)
  intro w3 hr3 hk3;refine⟨by simp,.inr ⟨λhh=>(by cases hh),.func fd,c',fd,#[]++c',rfl,?_,λ_ _=>trivial,?_⟩⟩
  .show (callFunc fd (#[]++c')).run P w3=_;rw[hcod]
  .refine (qw7 Z hquiet (#[]++c') w3).mono ?_;rintro e u' w4 ⟨rfl,rfl,rfl⟩;obtain⟨v,v',e1,e2,e3⟩:=qmg hr3 ht' hres hq';exact⟨v',e3,v,v',h',Z',rfl,e1,e2,hr3,hk3⟩
 cases hx with
 | exit id=>exact hq.elim
 | normal=>exact key k hq
 | ret=>exact key k hq
end Go.Kc
end
section
namespace Go.Kc
def Wk.trunc{n:Nat}{ts:List (Nat×AV)}{bl:List Blk}(j b k e:Nat){cs:List AV}(hj:(mkT ts).get j=some (.sl b 0 0 k true))(hb:bl[b]?=some (.cells e true true cs))(hl:k*e<=cs.length)(hk:1<=k)(hn:n<=bl.length) :
  Wk n (mkT ts) (mkH 0 bl) (mkT ((j,.own b 0)::ts)) (mkH 0 (bl.set b (.cells e true true []))):=by
 intro Z B w tm ht r;have hlt:b<bl.length:=(zzS.1 hb).1;have hgb:(mkH 0 bl).tr.get b=some (.cells e true true cs):=by rw[jh];exact hb
 have hsz:(mkH 0 (bl.set b (.cells e true true []))).sz=bl.length:=by simp[qwv]
 have hgd:(mkH 0 (bl.set b (.cells e true true []))).tr.get b=some (.cells e true true []):=by rw[jh,List.getElem?_set_self hlt]
 have hget:∀b',b'≠b->(mkH 0 (bl.set b (.cells e true true []))).tr.get b'=(mkH 0 bl).tr.get b':=by
  intro b' hne;rw[jh,jh,List.getElem?_set_ne (Ne.symm hne)]
 have old:∀b' x,(mkH 0 (bl.set b (.cells e true true []))).tr.get b'=some x->x≠.dead->∃x',(mkH 0 bl).tr.get b'=some x'/\x'≠.dead:=by
  intro b' x hx hd
  by_cases hne:b'=b
  .subst hne;exact⟨_,hgb,by simp⟩
  .rw[hget b' hne]at hx;exact⟨x,hx,hd⟩
 have oldc:∀b' e' wf af cs',(mkH 0 (bl.set b (.cells e true true []))).tr.get b'=some (.cells e' wf af cs')->∃cs0,(mkH 0 bl).tr.get b'=some (.cells e' wf af cs0)/\cs'.length<=cs0.length/\(b'≠b->cs'=cs0)/\(b'=b->cs'=[]):=by
  intro b' e' wf af cs' hx
  by_cases hne:b'=b
  .subst hne;rw[hgd]at hx;cases hx;exact⟨cs,hgb,by simp,λh=>absurd rfl h,λ_=>rfl⟩
  .rw[hget b' hne]at hx;exact⟨cs',hx,zzL _,λ_=>rfl,λh=>absurd h hne⟩
 refine⟨Z,λi v hi=>?_,⟨?_,?_,?_,?_,?_,?_,?_,r.base,?_,?_⟩,⟨λ_ _=>rfl,?_,rfl,λb' hb'=>by simp[qDA]at hb',λ_ _=>rfl,zzL _,⟨rfl,rfl⟩,λ_ _ h=>h,λ_ _ h=>.inl h,λ_ _ h=>h⟩⟩
 .simp only[mkT,Tr.get_set]at hi;split at hi
  .rename_i he;subst he;cases hi;obtain⟨h1,h2⟩:=ht _ _ hj;refine⟨h1,?_⟩;obtain⟨L,c,off,g1,g2,g3⟩:=h2.un_sl;obtain⟨q1,c',ty,fz,q2,q3,q4,q5,q6⟩:=r.cells b L _ _ _ _ g1 hgb;rw[g2];rcases g3 with⟨rfl,g3⟩|⟨_,g3,_⟩
   .refine VR.own _ _ _ _ g1 (Nat.zero_le _) ?_;rcases g3 with rfl|⟨_,_,g3⟩
    .rw[q1];omega
    .simpa using g3
   .omega
  .exact ht i v hi
 .intro b' L h1;rw[hsz];exact r.dom b' L h1
 .intro b' L e1 wf af cs' h1 h2;obtain⟨cs0,h3,h4,h5,h6⟩:=oldc b' _ _ _ _ h2;obtain⟨q1,c,ty,fz,q2,q3,q4,q5,q6⟩:=r.cells b' L _ _ _ _ h1 h3;refine⟨q1,c,ty,fz,q2,q3,by omega,λi v hv=>?_,q6⟩
  by_cases hne:b'=b
  .rw[h6 hne]at hv;cases hv
  .rw[h5 hne]at hv;exact q5 i v hv
 .intro b' L es h1 h2
  by_cases hne:b'=b
  .subst hne;rw[hgd]at h2;cases h2
  .rw[hget b' hne]at h2;exact r.maps b' L es h1 h2
 .intro b1 L1 e1 af1 cs1 h1 h2 b2 L2 x h3 h4 h5 h6;obtain⟨cs0,g1,_⟩:=oldc b1 _ _ _ _ h2;obtain⟨x',i1,i2⟩:=old b2 x h4 h5;exact r.excl b1 L1 _ _ _ h1 g1 b2 L2 x' h3 i1 i2 h6
 .intro b1 L1 es h1 h2 b2 L2 x h3 h4 h5 h6;have hne:b1≠b:=by rintro rfl;rw[hgd]at h2;cases h2
  rw[hget b1 hne]at h2;obtain⟨x',i1,i2⟩:=old b2 x h4 h5;exact r.exclm b1 L1 es h1 h2 b2 L2 x' h3 i1 i2 h6
 .intro b1 L1 e1 wf1 cs1 h1 h2 b2 L2 e2 wf2 af2 cs2 h3 h4 h5;obtain⟨c1,g1,g2,g3,g4⟩:=oldc b1 _ _ _ _ h2;obtain⟨c2,i1,i2,i3,i4⟩:=oldc b2 _ _ _ _ h4
  by_cases e1b:b1=b
  .subst e1b;have hx:b2=b1:=r.excl b1 L1 e true cs (by exact h1) hgb b2 L2 _ h3 i1 (by simp) h5;subst hx;rw[h1]at h3;cases h3;rw[hgd]at h2 h4;cases h2;cases h4;exact⟨zzL _,λ_=>rfl⟩
  .obtain⟨k1,k2⟩:=r.app b1 L1 _ _ _ h1 g1 b2 L2 _ _ _ _ h3 i1 h5;rw[g3 e1b];exact⟨by omega,k2⟩
 .intro b' L h1 h2;exact r.flr b' L h1 h2
 .intro kk arr hkk;refine⟨(r.frz kk arr hkk).1,λb' L x h1 h2 h3=>?_⟩
  obtain⟨x',i1,i2⟩:=old b' x h2 h3;exact(r.frz kk arr hkk).2 b' L x' h1 i1 i2
 .exact⟨by rw[hsz];exact r.dn.1,r.dn.2⟩
 .rw[hsz];exact hn
end Go.Kc
end
section
namespace Go.Kc
variable {P:Program} {h:Hp}
def Rd(P:Program)(f:Nat)(vs:List AV)(bs:List Blk)(v:AV):Prop :=
 jl bs.length vs=true/\clo v=true/\SC P f vs (mkH bs.length bs) (λv' _=>v'=v)
theorem Rd.mk{f:Nat}{i:IFn}{vs:List AV}{v:AV}{bs:List Blk}(hc:qc P f i=true)(hb:jl bs.length vs=true)(hl:clo v=true)(hV:V P bs.length i.body (xk i.res (λv' _=>v'=v)) (qbl vs 0 .leaf) (mkH bs.length bs)):Rd P f vs bs v :=
 ⟨hb,hl,SC.mk hc (qk hV)⟩
def Rd.sc{f:Nat}{vs:List AV}{bs:List Blk}{v:AV}{k:AV->Hp->Prop}(at':List Nat)(hu:Rd P f vs bs v)(l:Lent ⟨h.sz,0,h.tr⟩ at' bs)(hk:k v h):SC P f (qa4 (gAt at' h.sz) vs) h k:=by
 obtain⟨hb,hcl,hu⟩:=hu;refine⟨hu.1,λZ B w args r ha=>?_⟩
 have r0:Rel σ0 Z (λ_=>False) ⟨h.sz,0,h.tr⟩ w:=⟨r.dom,r.cells,r.maps,r.excl,r.exclm,r.app,λ_ _ _ _ h=>h,λ_ h=>h.elim,r.frz,r.dn⟩
 have rs:=r0.small l;have rs':Rel σ0 (Z.small at' h.sz) (low w.heap.size) (mkH bs.length bs) w:=⟨rs.dom,rs.cells,rs.maps,rs.excl,rs.exclm,rs.app,λb L hb hf=>absurd (rs.dom b L hb) (Nat.not_lt.2 hf),λ_ h=>h,rs.frz,rs.dn⟩
 have ha':VRs σ0 (Z.small at' h.sz) vs args.toList:=VRs.nr (Z:=Z) (Zs:=Z.small at' h.sz) (g:=gAt at' h.sz) (m:=bs.length) (λb L hbm hbL=>by
  show(if b<at'.length then Z (gAt at' h.sz b)else none)=some L
  rw[if_pos (by rw[l.len];exact hbm)];omega) rfl l.len hb ha
 refine qb4.mono (hu.2 (Z.small at' h.sz) (low w.heap.size) w args rs' ha') ?_;rintro e w1 ⟨v0,v',h1,Z1,rfl,rfl,g2,g3,g4⟩;have hcv:=g2.cr hcl;have f2:∀k a,Z1.frz k=some a->Z.frz k=some a\/w.heap.size<=k:=λk a hk=>(g4.fnew k a hk).imp id Nat.not_lt.1
 exact⟨_,v',h,⟨Z.loc,Z1.frz,Z.n⟩,rfl,hk,(by grind[CR.vr]),r.frz' g4.pres g4.wle g4.frz f2 (by grind[Rel.frz]),
  ⟨λ_ _=>rfl,zzL _,rfl,λ_ _ _=>rfl,by grind[Kept.pres,Rel.base],g4.wle,g4.io,g4.frz,λk a hk=>(f2 k a hk).imp id (qaA r.base),zzL _⟩⟩
def Rd.pc{f:Nat}{vs:List AV}{bs:List Blk}{v:AV}{k:AV->Hp->Prop}(at':List Nat)(hu:Rd P f vs bs v)(l:Lent ⟨h.sz,0,h.tr⟩ at' bs)(hk:k v h):PC P f (qa4 (gAt at' h.sz) vs) h k :=
 ⟨_,_,λ_ h'=>hu.sc at' l h',hk⟩
end Go.Kc
end
section
namespace Go.Kc
section
variable {H:Type} {enc:TypeId×Value->H} {P:Program} {w:World} {α β:Type} {t e:TypeId}
end
end Go.Kc
end
section
namespace Go.Kc
variable {P:Program} {f:Nat}

def qa5(q:IntKind)(p:List UInt8×Int):List AV:=[.s p.1,.i q p.2]
def qmi{q:IntKind}(p:List UInt8×Int):(qa5 q p).length=2:=rfl
def qgd:IFn:=⟨[.cell 0 16 true],.seq (.r [.q 0 (.alloc [.s [],.i .u64 0,.s [],.i .u64 0,.s [],.i .u64 0,.s [],.i .u64 0,.s [],.i .u64 0,.s [],.i .u64 0,.s [],.i .u64 0,.s [],.i .u64 0])]) (.seq (.r [.q 1 (.build [.s [],.i .u64 0] [(0,1,(.c (.s [116,105,109,101]))),(1,1,(.c (.i .u64 128)))]),.q 2 (.build [.s [],.i .u64 0] [(0,1,(.c (.s [109,110,116]))),(1,1,(.c (.i .u64 131072)))]),.q 3 (.build [.s [],.i .u64 0] [(0,1,(.c (.s [99,103,114,111,117,112]))),(1,1,(.c (.i .u64 33554432)))]),.q 4 (.build [.s [],.i .u64 0] [(0,1,(.c (.s [117,116,115]))),(1,1,(.c (.i .u64 67108864)))]),.q 5 (.build [.s [],.i .u64 0] [(0,1,(.c (.s [105,112,99]))),(1,1,(.c (.i .u64 134217728)))]),.q 6 (.build [.s [],.i .u64 0] [(0,1,(.c (.s [117,115,101,114]))),(1,1,(.c (.i .u64 268435456)))]),.q 7 (.build [.s [],.i .u64 0] [(0,1,(.c (.s [112,105,100]))),(1,1,(.c (.i .u64 536870912)))]),.q 8 (.build [.s [],.i .u64 0] [(0,1,(.c (.s [110,101,116]))),(1,1,(.c (.i .u64 1073741824)))]),.q 9 (.build [.s [],.i .u64 0,.s [],.i .u64 0,.s [],.i .u64 0,.s [],.i .u64 0,.s [],.i .u64 0,.s [],.i .u64 0,.s [],.i .u64 0,.s [],.i .u64 0] [(0,2,(.t 1)),(2,2,(.t 2)),(4,2,(.t 3)),(6,2,(.t 4)),(8,2,(.t 5)),(10,2,(.t 6)),(12,2,(.t 7)),(14,2,(.t 8))]),.u (.store 16 (.t 0) (.t 9))]) (.ret))⟩
def qS:List (List UInt8×Int):=[([116,105,109,101],128),([109,110,116],131072),([99,103,114,111,117,112],33554432),([117,116,115],67108864),([105,112,99],134217728),([117,115,101,114],268435456),([112,105,100],536870912),([110,101,116],1073741824)]
def qBA(hc:qc P f qgd=true):qa P f [] (.agg (qS.flatMap (qa5 .u64))):=by
 refine qa.mk hc rfl ?_;simp only[qgd,vI,simprocAttr];simp only[↓vS,vT,simprocAttr,qS,qa5,List.flatMap_cons,List.flatMap_nil,vZ]
def qeq:IFn:=⟨[.cell 0 16 true],.seq (.r [.q 0 (.alloc [.s [],.i .u32 0,.s [],.i .u32 0,.s [],.i .u32 0,.s [],.i .u32 0,.s [],.i .u32 0,.s [],.i .u32 0,.s [],.i .u32 0,.s [],.i .u32 0])]) (.seq (.r [.q 1 (.build [.s [],.i .u32 0] [(0,1,(.c (.s [65,70,95,85,78,73,88]))),(1,1,(.c (.i .u32 1)))]),.q 2 (.build [.s [],.i .u32 0] [(0,1,(.c (.s [65,70,95,73,78,69,84]))),(1,1,(.c (.i .u32 2)))]),.q 3 (.build [.s [],.i .u32 0] [(0,1,(.c (.s [65,70,95,73,78,69,84,54]))),(1,1,(.c (.i .u32 10)))]),.q 4 (.build [.s [],.i .u32 0] [(0,1,(.c (.s [65,70,95,78,69,84,76,73,78,75]))),(1,1,(.c (.i .u32 16)))]),.q 5 (.build [.s [],.i .u32 0] [(0,1,(.c (.s [65,70,95,80,65,67,75,69,84]))),(1,1,(.c (.i .u32 17)))]),.q 6 (.build [.s [],.i .u32 0] [(0,1,(.c (.s [65,70,95,66,76,85,69,84,79,79,84,72]))),(1,1,(.c (.i .u32 31)))]),.q 7 (.build [.s [],.i .u32 0] [(0,1,(.c (.s [65,70,95,65,76,71]))),(1,1,(.c (.i .u32 38)))]),.q 8 (.build [.s [],.i .u32 0] [(0,1,(.c (.s [65,70,95,86,83,79,67,75]))),(1,1,(.c (.i .u32 40)))]),.q 9 (.build [.s [],.i .u32 0,.s [],.i .u32 0,.s [],.i .u32 0,.s [],.i .u32 0,.s [],.i .u32 0,.s [],.i .u32 0,.s [],.i .u32 0,.s [],.i .u32 0] [(0,2,(.t 1)),(2,2,(.t 2)),(4,2,(.t 3)),(6,2,(.t 4)),(8,2,(.t 5)),(10,2,(.t 6)),(12,2,(.t 7)),(14,2,(.t 8))]),.u (.store 16 (.t 0) (.t 9))]) (.ret))⟩
def zR:List (List UInt8×Int):=[([65,70,95,85,78,73,88],1),([65,70,95,73,78,69,84],2),([65,70,95,73,78,69,84,54],10),([65,70,95,78,69,84,76,73,78,75],16),([65,70,95,80,65,67,75,69,84],17),([65,70,95,66,76,85,69,84,79,79,84,72],31),([65,70,95,65,76,71],38),([65,70,95,86,83,79,67,75],40)]
def qx3(hc:qc P f qeq=true):qa P f [] (.agg (zR.flatMap (qa5 .u32))):=by
 refine qa.mk hc rfl ?_;simp only[qeq,vI,simprocAttr];simp only[↓vS,vT,simprocAttr,zR,qa5,List.flatMap_cons,List.flatMap_nil,vZ]
def qgc(a:Nat):IFn:=⟨[.tmp 0],.seq (.r [.m 0 (.c (.i .u64 0))]) (.seq (.r [.m 1 (.c (.i .u64 0))]) (.seq (.seq (.r [.l 4 a [],.m 5 (.k 0)]) (.blk 0 (.loop (.seq (.r [.w 6 .lss 5 8]) (.seq (.cond (.t 6) (.skip) (.exit 0)) (.seq (.blk 1 (.seq (.r [.q 7 (.idxA 8 2 true (.t 4) (.t 5)),.q 3 (.alloc [.s [],.i .u64 0]),.u (.store 2 (.t 3) (.t 7))]) (.r [.n 8 1,.f 9 1 3,.d 10 9,.b 11 .or 8 10,.n 1 11]))) (.r [.a 12 5 1,.n 5 12]))))))) (.seq (.r [.n 13 1,.n 0 13]) (.ret))))⟩
def qEV{g1:Nat}(hc:qc P f (qgc g1)=true)(h1:qa P g1 [] (.agg (qS.flatMap (qa5 .u64)))):qa P f [] (.i .u64 2114060416):=by
 refine qa.mk hc rfl ?_;simp only[qgc,vI,simprocAttr];simp only[↓vS,vT,simprocAttr];refine h1.sc ?_;simp only[↓vS,vT,simprocAttr]
 iterate 8
  refine qcp ?_;simp only[↓vS,vT,simprocAttr,qS,qa5,List.flatMap_cons,List.flatMap_nil,Int.reduceLT,Int.reduceAdd,Int.reduceNeg,qm,(by decide:orI .u64 0 128=128),(by decide:orI .u64 128 131072=131200),(by decide:orI .u64 131200 33554432=33685632),(by decide:orI .u64 33685632 67108864=100794496),(by decide:orI .u64 100794496 134217728=235012224),(by decide:orI .u64 235012224 268435456=503447680),(by decide:orI .u64 503447680 536870912=1040318592),(by decide:orI .u64 1040318592 1073741824=2114060416)]
 refine qcp ?_;simp only[↓vS,vT,simprocAttr,Int.reduceLT,vZ,and_self]
def qbz(P:Program)(g esz bytes:Nat):Prop:=∀(n:Nat) (rows:List AV),rows.length=n*esz->qt rows=true->qF rows=true->n<=qf->n*bytes<=qf->Own P g [.fz n rows] (.own 0 n) [.cells esz true true rows]


end Go.Kc
end
section
namespace Go.Kc
end Go.Kc
end
section
namespace Go.Kc
def rI(k:IntKind)(l:List Int):List AV:=l.map (.i k)
section
variable {k:IntKind} {l m:List Int} {j:Nat}
def jS:(rI k l).length=l.length:=by simp[rI]
def qi:qt (rI k l)=true:=qbB λ_=>rfl
def qBy:qF (rI k l)=true:=qsU λ_=>rfl
def qaZ:(rI k l)[j]?=(l[j]?).map (.i k):=by simp[rI]
def qof:rI k l++rI k m=rI k (l++m):=by simp[rI]
def qEz{x:Int}:rI k [x]=[.i k x]:=rfl
def qr3{x:Int}:rI k (x::l) = .i k x::rI k l:=rfl
end
def rS(l:List (List UInt8)):List AV:=l.map .s
section
variable {l m:List (List UInt8)} {j:Nat}
def qoj:qt (rS l)=true:=qbB λ_=>rfl
def qEE:(rS l)[j]?=(l[j]?).map .s:=by simp[rS]
end
end Go.Kc
end
section
namespace Go.Kc
variable {P:Program} {f:Nat}
def xI{α:Type}(p:α->Bool):List α->Nat->Int
 | [],_=>-1
 | x::xs,j=>if p x=true then(j:Int)else xI p xs (j+1)
def qj6{α:Type}(p:α->Bool):∀(l:List α) (j:Nat),(xI p l j = -1/\l.find? p=none)\/∃i x,xI p l j=((j+i:Nat):Int)/\l[i]?=some x/\p x=true/\l.find? p=some x/\∀k y,k<i->l[k]?=some y->p y=false
 | [],j=>.inl ⟨rfl,rfl⟩
 | x::xs,j=>by
  by_cases h:p x=true
  .refine .inr ⟨0,x,by simp[xI,h],rfl,h,by simp[h],λk y hk=>by omega⟩
  .rcases qj6 p xs (j+1)with⟨h1,h2⟩|⟨i,y,h1,h2,h3,h4,h5⟩
   .exact .inl ⟨by simp[xI,h,h1],by simp_all⟩
   .refine .inr ⟨i+1,y,?_,by simpa using h2,h3,by simp[h,h4],?_⟩
    all_goals grind[xI.eq_2]
def quM(P:Program)(f:Nat):Prop:=∀{α:Type} (enc:α->AV) (p:α->Bool) (g:Nat) (a c:List AV) (l:List α),qt a=true->qt c=true->l.length<=qf->
 (∀x ∈ l,qa P g (a++([enc x]++c)) (.b (p x)))->qa P f [.fz l.length (l.map enc),.fn g a c] (.i .i64 (xI p l 0))
def qfC(m:Nat)(P:Program)(f:Nat):Prop:=∀{α:Type} (enc:α->List AV) (p:α->Bool) (g:Nat) (a c:List AV) (l:List α),(∀x,(enc x).length=m)->qt a=true->qt c=true->l.length<=qf->
 (∀x ∈ l,qa P g (a++([.agg (enc x)]++c)) (.b (p x)))->qa P f [.fz l.length (l.flatMap enc),.fn g a c] (.i .i64 (xI p l 0))
def qal:IFn:=⟨[.tmp 4],.seq (.r [.m 4 (.k 0)]) (.seq (.seq (.r [.n 6 0,.e 7 6,.m 8 (.k 0)]) (.blk 0 (.loop (.seq (.r [.s 9 8 7]) (.seq (.cond (.t 9) (.skip) (.exit 0)) (.seq (.blk 1 (.seq (.r [.n 10 8,.n 5 10]) (.seq (.r [.n 11 1,.n 12 0,.n 13 5,.i 14 1 12 13,.d 15 14,⟨(some 16),.callV (.t 11) [.t 15],none⟩]) (.cond (.t 16) (.seq (.r [.n 17 5,.n 4 17]) (.ret)) (.skip))))) (.r [.a 18 8 1,.n 8 18]))))))) (.seq (.r [.q 4 (.mov (.c (.i .i64 (-1))))]) (.ret)))⟩
def qx4(hc:qc P f qal=true):quM P f:=by
 intro α enc p g a c l ha hc' hl hp;refine qa.mk hc (by simp[qt,clo,ha,hc']) ?_;simp only[qal,vI,simprocAttr];simp only[↓vS,vT,simprocAttr];refine SL.loop (α:=Nat) (λj=>[(0,.fz l.length (l.map enc)),(1,.fn g a c),(7,.i .i64 l.length),(8,.i .i64 j)]) (λ_=>[]) (λj=>j<=l.length/\xI p l 0=xI p (l.drop j) j) (λj=>l.length-j) 0 [] ?_ ?_ ?_ rfl ?_ ?_
 .simp[vw,qe,ha,hc']
 .trivial
 .simp
 .simp
 rintro j ⟨hj,hI⟩ G ih;simp only[vI,simprocAttr]
 by_cases hlt:j<l.length
 .have hx:l[j]?=some l[j]:=by simp_all
  have hw:IntKind.wrap .i64 ((j:Int)+1)=(j:Int)+1:=qm (by omega) (by have:=hl;simp only[qf]at this;omega)
  rw[List.drop_eq_getElem_cons hlt,xI]at hI;simp only[↓vS,vT,simprocAttr,hlt,zzU,List.getElem?_map,hx,Option.map_some,hw];refine(hp l[j] (by simp_all)).sc ?_
  by_cases hpx:p l[j]=true
  .rw[if_pos hpx]at hI;simp only[↓vS,vT,simprocAttr,hpx,vZ,hI]
  .rw[if_neg hpx]at hI;simp only[↓vS,vT,simprocAttr,hpx,hw];refine ih (j+1) ⟨by omega,hI⟩ (by omega) _ _ (Wk.mk _ _ [] ?_ ?_ ?_ rfl)
   .simp[vw,qe,ha,hc']
   .trivial
   .simp
 .simp only[↓vS,vT,simprocAttr,hlt];rw[List.drop_eq_nil_of_le (by omega)]at hI;simp[hI,xI,vZ]
def xe:IFn:=⟨[.tmp 4],.seq (.r [.m 4 (.k 0)]) (.seq (.seq (.r [.n 6 0,.e 7 6,.m 8 (.k 0)]) (.blk 0 (.loop (.seq (.r [.s 9 8 7]) (.seq (.cond (.t 9) (.skip) (.exit 0)) (.seq (.blk 1 (.seq (.r [.n 10 8,.n 5 10]) (.seq (.r [.n 11 1,.n 12 0,.n 13 5,.i 14 7 12 13,.v 15 7 14,⟨(some 16),.callV (.t 11) [.t 15],none⟩]) (.cond (.t 16) (.seq (.r [.n 17 5,.n 4 17]) (.ret)) (.skip))))) (.r [.a 18 8 1,.n 8 18]))))))) (.seq (.r [.q 4 (.mov (.c (.i .i64 (-1))))]) (.ret)))⟩
def qvT(hc:qc P f xe=true):qfC 7 P f:=by
 intro α enc p g a c l hlen ha hc' hl hp;refine qa.mk hc (by simp[qt,clo,ha,hc']) ?_;simp only[xe,vI,simprocAttr];simp only[↓vS,vT,simprocAttr];refine SL.loop (α:=Nat) (λj=>[(0,.fz l.length (l.flatMap enc)),(1,.fn g a c),(7,.i .i64 l.length),(8,.i .i64 j)]) (λ_=>[]) (λj=>j<=l.length/\xI p l 0=xI p (l.drop j) j) (λj=>l.length-j) 0 [] ?_ ?_ ?_ rfl ?_ ?_
 .simp[vw,qe,ha,hc']
 .trivial
 .simp
 .simp
 rintro j ⟨hj,hI⟩ G ih;simp only[vI,simprocAttr]
 by_cases hlt:j<l.length
 .have hx:l[j]?=some l[j]:=by simp_all
  have hw:IntKind.wrap .i64 ((j:Int)+1)=(j:Int)+1:=qm (by omega) (by have:=hl;simp only[qf]at this;omega)
  have he:=qG hlen hx;have hb:j*7+7<=(l.flatMap enc).length:=by rw[qV hlen];omega
  rw[List.drop_eq_getElem_cons hlt,xI]at hI;simp only[↓vS,vT,simprocAttr,hlt,hb,he,hw];refine(hp l[j] (by simp_all)).sc ?_
  by_cases hpx:p l[j]=true
  .rw[if_pos hpx]at hI;simp only[↓vS,vT,simprocAttr,hpx,vZ,hI]
  .rw[if_neg hpx]at hI;simp only[↓vS,vT,simprocAttr,hpx,hw];refine ih (j+1) ⟨by omega,hI⟩ (by omega) _ _ (Wk.mk _ _ [] ?_ ?_ ?_ rfl)
   .simp[vw,qe,ha,hc']
   .trivial
   .simp
 .simp only[↓vS,vT,simprocAttr,hlt];rw[List.drop_eq_nil_of_le (by omega)]at hI;simp[hI,xI,vZ]
def xz:IFn:=⟨[.tmp 4],.seq (.r [.m 4 (.k 0)]) (.seq (.seq (.r [.n 6 0,.e 7 6,.m 8 (.k 0)]) (.blk 0 (.loop (.seq (.r [.s 9 8 7]) (.seq (.cond (.t 9) (.skip) (.exit 0)) (.seq (.blk 1 (.seq (.r [.n 10 8,.n 5 10]) (.seq (.r [.n 11 1,.n 12 0,.n 13 5,.i 14 2 12 13,.v 15 2 14,⟨(some 16),.callV (.t 11) [.t 15],none⟩]) (.cond (.t 16) (.seq (.r [.n 17 5,.n 4 17]) (.ret)) (.skip))))) (.r [.a 18 8 1,.n 8 18]))))))) (.seq (.r [.q 4 (.mov (.c (.i .i64 (-1))))]) (.ret)))⟩
def qrC(hc:qc P f xz=true):qfC 2 P f:=by
 intro α enc p g a c l hlen ha hc' hl hp;refine qa.mk hc (by simp[qt,clo,ha,hc']) ?_;simp only[xz,vI,simprocAttr];simp only[↓vS,vT,simprocAttr];refine SL.loop (α:=Nat) (λj=>[(0,.fz l.length (l.flatMap enc)),(1,.fn g a c),(7,.i .i64 l.length),(8,.i .i64 j)]) (λ_=>[]) (λj=>j<=l.length/\xI p l 0=xI p (l.drop j) j) (λj=>l.length-j) 0 [] ?_ ?_ ?_ rfl ?_ ?_
 .simp[vw,qe,ha,hc']
 .trivial
 .simp
 .simp
 rintro j ⟨hj,hI⟩ G ih;simp only[vI,simprocAttr]
 by_cases hlt:j<l.length
 .have hx:l[j]?=some l[j]:=by simp_all
  have hw:IntKind.wrap .i64 ((j:Int)+1)=(j:Int)+1:=qm (by omega) (by have:=hl;simp only[qf]at this;omega)
  have he:=qG hlen hx;have hb:j*2+2<=(l.flatMap enc).length:=by rw[qV hlen];omega
  rw[List.drop_eq_getElem_cons hlt,xI]at hI;simp only[↓vS,vT,simprocAttr,hlt,hb,he,hw];refine(hp l[j] (by simp_all)).sc ?_
  by_cases hpx:p l[j]=true
  .rw[if_pos hpx]at hI;simp only[↓vS,vT,simprocAttr,hpx,vZ,hI]
  .rw[if_neg hpx]at hI;simp only[↓vS,vT,simprocAttr,hpx,hw];refine ih (j+1) ⟨by omega,hI⟩ (by omega) _ _ (Wk.mk _ _ [] ?_ ?_ ?_ rfl)
   .simp[vw,qe,ha,hc']
   .trivial
   .simp
 .simp only[↓vS,vT,simprocAttr,hlt];rw[List.drop_eq_nil_of_le (by omega)]at hI;simp[hI,xI,vZ]




def xc:List (List UInt8×Int):=[([120,56,54,45,54,52],3221225534),([120,56,54],1073741827),([120,51,50],3221225534),([97,114,109],1073741864),([97,114,109,54,52],3221225655),([114,105,115,99,118,54,52],3221225715)]
def qhV:IFn:=⟨[.cell 0 12 true],.seq (.r [.q 0 (.alloc [.s [],.i .u32 0,.s [],.i .u32 0,.s [],.i .u32 0,.s [],.i .u32 0,.s [],.i .u32 0,.s [],.i .u32 0])]) (.seq (.r [.q 1 (.build [.s [],.i .u32 0] [(0,1,(.c (.s [120,56,54,45,54,52]))),(1,1,(.c (.i .u32 3221225534)))]),.q 2 (.build [.s [],.i .u32 0] [(0,1,(.c (.s [120,56,54]))),(1,1,(.c (.i .u32 1073741827)))]),.q 3 (.build [.s [],.i .u32 0] [(0,1,(.c (.s [120,51,50]))),(1,1,(.c (.i .u32 3221225534)))]),.q 4 (.build [.s [],.i .u32 0] [(0,1,(.c (.s [97,114,109]))),(1,1,(.c (.i .u32 1073741864)))]),.q 5 (.build [.s [],.i .u32 0] [(0,1,(.c (.s [97,114,109,54,52]))),(1,1,(.c (.i .u32 3221225655)))]),.q 6 (.build [.s [],.i .u32 0] [(0,1,(.c (.s [114,105,115,99,118,54,52]))),(1,1,(.c (.i .u32 3221225715)))]),.q 7 (.build [.s [],.i .u32 0,.s [],.i .u32 0,.s [],.i .u32 0,.s [],.i .u32 0,.s [],.i .u32 0,.s [],.i .u32 0] [(0,2,(.t 1)),(2,2,(.t 2)),(4,2,(.t 3)),(6,2,(.t 4)),(8,2,(.t 5)),(10,2,(.t 6))]),.u (.store 12 (.t 0) (.t 7))]) (.ret))⟩
def qB6(hc:qc P f qhV=true):qa P f [] (.agg (xc.flatMap (qa5 .u32))):=by
 refine qa.mk hc rfl ?_;simp only[qhV,vI,simprocAttr];simp only[↓vS,vT,simprocAttr,xc,qa5,List.flatMap_cons,List.flatMap_nil,vZ]
end Go.Kc
end
section
namespace Go.Kc
structure GCall where
 name:List UInt8
 act:Int
def qe9(c:GCall):List AV:=[.s c.name,.i .u32 c.act]
structure GNote where
 file:List UInt8
 line:Int
 err:Int
 text:List UInt8
structure Asg where
 file:List UInt8
 line:Int
 sec:List UInt8
 key:List UInt8
 val:List UInt8
def qhr(c:GCall):(qe9 c).length=2:=rfl
def rC(l:List GCall):List AV:=l.flatMap qe9
section
variable {l m:List GCall} {j:Nat}
def qEx:(rC l).length=l.length*2:=qV qhr l
def qp:qt (rC l)=true:=xT λ_=>rfl
def qoe{c:GCall}(h:l[j]?=some c):((rC l).drop (j*2)).take 2=qe9 c:=qG qhr h
def qEw{c:GCall}(h:l[j]?=some c){i:Nat}(hi:i<2):(rC l)[j*2+i]?=(qe9 c)[i]?:=qbE qhr h hi
def qma(h:j<l.length):j*2+2<=(rC l).length:=by rw[qEx];omega
end
section
variable {l m:List GNote} {j:Nat}
end
structure GList where
 mode:Int
 calls:List GCall
def qc8(l:GList):List AV:=[.i .u8 l.mode,.fz l.calls.length (rC l.calls)]
structure Pol where
 arches:List Int
 filter:GList
 deny:Int
 log:GList
 fams:List Int
 fmode:Int
 spaces:Int
 we:Bool
 pe:Bool
 rt:Bool
 np:Bool
def qB(p:Pol):List AV:=[.fz p.arches.length (rI .i64 p.arches),.i .u8 p.filter.mode,.fz p.filter.calls.length (rC p.filter.calls),.i .u32 p.deny,.i .u8 p.log.mode,.fz p.log.calls.length (rC p.log.calls),
 .fz p.fams.length (rI .u32 p.fams),.i .u8 p.fmode,.i .u64 p.spaces,.b p.we,.b p.pe,.b p.rt,.b p.np]
def qmM(p:Pol):qt (qB p)=true:=rfl
end Go.Kc
end
section
namespace Go.Kc
variable {P:Program} {f:Nat}



theorem qbz.pure{g esz by':Nat}(h:qbz P g esz by'){n:Nat}{rows:List AV}(hl:rows.length=n*esz)(hc:qt rows=true)(ho:qF rows=true)(h1:n<=qf)(h2:n*by'<=qf):qa P g [.fz n rows] (.fz n rows):=by
 refine(h n rows hl hc ho h1 h2).pure (by simp[qt,clo]) ?_;refine .own 0 n esz true rows rows ?_ (λh0=>?_) (Frzs.self hc)
 .simp[qam,Hp.push,shb,H0,Tr.get_set,xj hc]
 .subst h0;exact List.eq_nil_of_length_eq_zero (by omega)
structure PolOk (p:Pol):Prop where
 a:p.arches.length<=1000
 f:p.fams.length<=1000
 c:p.filter.calls.length<=1000
 l:p.log.calls.length<=1000


end Go.Kc
end
section
namespace Go.Kc
def qGf(p:Pol):Prop:=p.arches.Pairwise (· < ·)/\p.fams.Pairwise (· < ·)
instance (p:Pol):Decidable (qGf p):=inferInstanceAs (Decidable (_/\_))
end Go.Kc
end
section
namespace Go.Kc
variable {P:Program} {f:Nat}




def qgK:IFn:=⟨[.tmp 2],.seq (.r [.m 2 .F]) (.seq (.r [.n 3 0,.q 4 (.bin .eql (.t 3) (.c (.i .u32 0))),.n 5 4,.z 6 0 5,.g 7 (.bin .eql (.t 6) (.c (.i .u32 2147483648))) 5 false,.o 8 5 7,.n 9 8,.z 10 0 9,.g 11 (.bin .geq (.t 10) (.c (.i .u32 327680))) 9 false,.z 12 11 9,.y 13 0 12,.g 14 (.bin .leq (.t 13) (.c (.i .u32 331775))) 12 true,.g 15 (.pick (.t 12) (.t 14) .F) 9 false,.o 16 9 15,.n 2 16]) (.ret))⟩
def qmz(n:Int):Bool:=decide (n=0)||decide (n=2147483648)||(decide (327680<=n)&&decide (n<=331775))
def qAU(hc:qc P f qgK=true)(n:Int):qa P f [.i .u32 n] (.b (qmz n)):=by
 refine qa.mk hc rfl ?_;simp only[qgK,vI,simprocAttr]
 by_cases h1:n=0
 .simp only[↓vS,vT,simprocAttr,h1];simp[vZ,qmz,h1]
 by_cases h2:n=2147483648
 .simp only[↓vS,vT,simprocAttr,h1,h2];simp[vZ,qmz,h2]
 by_cases h3:327680<=n
 .by_cases h4:n<=331775
  .simp only[↓vS,vT,simprocAttr,h1,h2,h3,h4];simp[vZ,qmz,h3,h4]
  .simp only[↓vS,vT,simprocAttr,h1,h2,h3,h4];simp[vZ,qmz,h1,h2,h4]
 .simp only[↓vS,vT,simprocAttr,h1,h2,h3];simp[vZ,qmz,h1,h2,h3]
def qrs(l:List GCall)(s:List UInt8):Option GCall:=l.find? (λc=>decide (c.name=s))


def zf:List (List UInt8×List Int):=[([98,105,110,100],[49,361,49,282,200,200]),([98,112,102],[321,357,321,386,280,280]),([98,114,107],[12,45,12,45,214,214]),([99,108,111,99,107,95,115,101,116,116,105,109,101],[227,264,227,262,112,112]),([99,108,111,110,101],[56,120,56,120,220,220]),([99,108,111,110,101,51],[435,435,(-1),435,435,435]),([99,108,111,115,101],[3,6,3,6,57,57]),([99,111,110,110,101,99,116],[42,362,42,283,203,203]),([100,101,108,101,116,101,95,109,111,100,117,108,101],[176,129,176,129,106,106]),([101,120,101,99,118,101],[59,11,520,11,221,221]),([101,120,105,116],[60,1,60,1,93,93]),([102,105,110,105,116,95,109,111,100,117,108,101],[313,350,313,379,273,273]),([102,111,114,107],[57,2,57,2,(-1),(-1)]),([103,101,116,117,105,100],[102,24,102,24,174,174]),([105,110,105,116,95,109,111,100,117,108,101],[175,128,(-1),128,105,105]),([105,111,99,116,108],[16,54,514,54,29,29]),([107,105,108,108],[62,37,62,37,129,129]),([108,105,115,116,101,110],[50,363,50,284,201,201]),([109,109,97,112],[9,90,9,(-1),222,222]),([109,111,117,110,116],[165,21,165,21,40,40]),([109,112,114,111,116,101,99,116],[10,125,10,125,226,226]),([109,117,110,109,97,112],[11,91,11,91,215,215]),([111,112,101,110],[2,5,2,5,(-1),(-1)]),([111,112,101,110,97,116],[257,295,257,322,56,56]),([112,101,114,115,111,110,97,108,105,116,121],[135,136,135,136,92,92]),([112,107,101,121,95,109,112,114,111,116,101,99,116],[329,380,329,394,288,(-1)]),([112,116,114,97,99,101],[101,26,521,26,117,117]),([114,101,97,100],[0,3,0,3,63,63]),([114,101,98,111,111,116],[169,88,169,88,142,142]),([115,99,104,101,100,95,115,101,116,97,116,116,114],[314,351,314,380,274,274]),([115,99,104,101,100,95,115,101,116,115,99,104,101,100,117,108,101,114],[144,156,144,156,119,119]),([115,101,99,99,111,109,112],[317,354,317,383,277,277]),([115,101,116,110,115],[308,346,308,375,268,268]),([115,101,116,116,105,109,101,111,102,100,97,121],[164,79,164,79,170,170]),([115,101,116,117,105,100],[105,23,105,23,146,146]),([115,104,109,97,116],[30,397,(-1),305,196,196]),([115,111,99,107,101,116],[41,359,41,281,198,198]),([117,109,111,117,110,116,50],[166,52,166,52,39,39]),([117,110,115,104,97,114,101],[272,310,272,337,97,97]),([119,114,105,116,101],[1,4,1,4,64,64])]
def qbh(x:List UInt8×List Int):List AV:=[.s x.1,.i .i64 (x.2.getD 0 0),.i .i64 (x.2.getD 1 0),.i .i64 (x.2.getD 2 0),.i .i64 (x.2.getD 3 0),.i .i64 (x.2.getD 4 0),.i .i64 (x.2.getD 5 0)]
def qp0(x:List UInt8×List Int):(qbh x).length=7:=rfl
def qql(n:Nat):List AV:=List.replicate n (.i .i64 0)
def qgG:IFn:=⟨[.cell 0 280 true],.seq (.r [.q 0 (.alloc ((List.replicate 40 (AV.s []::qql 6)).flatten))]) (.seq (.r ((zf.zipIdx.flatMap λp=>[.q (2*p.2+1) (.build (qql 6) (p.1.2.zipIdx.map λq=>(q.2,1,.k q.1))),.q (2*p.2+2) (.build (AV.s []::qql 6) [(0,1,.c (.s p.1.1)),(1,6,.t (2*p.2+1))])]) ++
 [.q 81 (.build ((List.replicate 40 (AV.s []::qql 6)).flatten) ((List.range 40).map λi=>(7*i,7,.t (2*i+2)))),⟨none,.op (.store 280 (.t 0) (.t 81)),none⟩])) .ret)⟩
set_option maxRecDepth 20000 in
def qE7(hc:qc P f qgG=true):qa P f [] (.agg (zf.flatMap qbh)):=by
 refine qa.mk hc rfl ?_;simp only[qgG,qql,List.replicate,List.flatten_cons,List.flatten_nil,zf,List.zipIdx_cons,List.zipIdx_nil,List.flatMap_cons,List.flatMap_nil,List.map_cons,List.map_nil,zzC,zzN,List.range,List.range.loop,vI,simprocAttr];simp only[↓vS,vT,simprocAttr,zf,qbh,List.flatMap_cons,List.flatMap_nil,List.getD_cons_zero,List.getD_cons_succ,vZ]
def qfh:IFn:=⟨[.tmp 3],.seq (.r [.q 2 (.box (.t 0)),.m 3 .F]) (.seq (.r [.f 4 0 2,.d 5 4,.d 6 1,.b 7 .eql 5 6,.n 3 7]) (.ret))⟩
def qBk(hc:qc P f qfh=true)(s:List UInt8)(x:List UInt8×List Int):qa P f [.agg (qbh x),.pf [.s s] 0] (.b (decide (x.1=s))):=by
 refine qa.mk hc (by simp[qt,clo,qbh]) ?_;simp only[qfh,qbh,vI,simprocAttr];simp only[↓vS,vT,simprocAttr,vZ]
def qhW(a b:Nat):IFn:=⟨[.cell 2 7 true,.tmp 3],.seq (.r [.q 2 (.alloc [.s [],.i .i64 0,.i .i64 0,.i .i64 0,.i .i64 0,.i .i64 0,.i .i64 0]),.m 3 .F]) (.seq (.r [.l 6 a [],.q 4 (.alloc [.s [],.i .i64 0,.i .i64 0,.i .i64 0,.i .i64 0,.i .i64 0,.i .i64 0,.s [],.i .i64 0,.i .i64 0,.i .i64 0,.i .i64 0,.i .i64 0,.i .i64 0,.s [],.i .i64 0,.i .i64 0,.i .i64 0,.i .i64 0,.i .i64 0,.i .i64 0,.s [],.i .i64 0,.i .i64 0,.i .i64 0,.i .i64 0,.i .i64 0,.i .i64 0,.s [],.i .i64 0,.i .i64 0,.i .i64 0,.i .i64 0,.i .i64 0,.i .i64 0,.s [],.i .i64 0,.i .i64 0,.i .i64 0,.i .i64 0,.i .i64 0,.i .i64 0,.s [],.i .i64 0,.i .i64 0,.i .i64 0,.i .i64 0,.i .i64 0,.i .i64 0,.s [],.i .i64 0,.i .i64 0,.i .i64 0,.i .i64 0,.i .i64 0,.i .i64 0,.s [],.i .i64 0,.i .i64 0,.i .i64 0,.i .i64 0,.i .i64 0,.i .i64 0,.s [],.i .i64 0,.i .i64 0,.i .i64 0,.i .i64 0,.i .i64 0,.i .i64 0,.s [],.i .i64 0,.i .i64 0,.i .i64 0,.i .i64 0,.i .i64 0,.i .i64 0,.s [],.i .i64 0,.i .i64 0,.i .i64 0,.i .i64 0,.i .i64 0,.i .i64 0,.s [],.i .i64 0,.i .i64 0,.i .i64 0,.i .i64 0,.i .i64 0,.i .i64 0,.s [],.i .i64 0,.i .i64 0,.i .i64 0,.i .i64 0,.i .i64 0,.i .i64 0,.s [],.i .i64 0,.i .i64 0,.i .i64 0,.i .i64 0,.i .i64 0,.i .i64 0,.s [],.i .i64 0,.i .i64 0,.i .i64 0,.i .i64 0,.i .i64 0,.i .i64 0,.s [],.i .i64 0,.i .i64 0,.i .i64 0,.i .i64 0,.i .i64 0,.i .i64 0,.s [],.i .i64 0,.i .i64 0,.i .i64 0,.i .i64 0,.i .i64 0,.i .i64 0,.s [],.i .i64 0,.i .i64 0,.i .i64 0,.i .i64 0,.i .i64 0,.i .i64 0,.s [],.i .i64 0,.i .i64 0,.i .i64 0,.i .i64 0,.i .i64 0,.i .i64 0,.s [],.i .i64 0,.i .i64 0,.i .i64 0,.i .i64 0,.i .i64 0,.i .i64 0,.s [],.i .i64 0,.i .i64 0,.i .i64 0,.i .i64 0,.i .i64 0,.i .i64 0,.s [],.i .i64 0,.i .i64 0,.i .i64 0,.i .i64 0,.i .i64 0,.i .i64 0,.s [],.i .i64 0,.i .i64 0,.i .i64 0,.i .i64 0,.i .i64 0,.i .i64 0,.s [],.i .i64 0,.i .i64 0,.i .i64 0,.i .i64 0,.i .i64 0,.i .i64 0,.s [],.i .i64 0,.i .i64 0,.i .i64 0,.i .i64 0,.i .i64 0,.i .i64 0,.s [],.i .i64 0,.i .i64 0,.i .i64 0,.i .i64 0,.i .i64 0,.i .i64 0,.s [],.i .i64 0,.i .i64 0,.i .i64 0,.i .i64 0,.i .i64 0,.i .i64 0,.s [],.i .i64 0,.i .i64 0,.i .i64 0,.i .i64 0,.i .i64 0,.i .i64 0,.s [],.i .i64 0,.i .i64 0,.i .i64 0,.i .i64 0,.i .i64 0,.i .i64 0,.s [],.i .i64 0,.i .i64 0,.i .i64 0,.i .i64 0,.i .i64 0,.i .i64 0,.s [],.i .i64 0,.i .i64 0,.i .i64 0,.i .i64 0,.i .i64 0,.i .i64 0,.s [],.i .i64 0,.i .i64 0,.i .i64 0,.i .i64 0,.i .i64 0,.i .i64 0,.s [],.i .i64 0,.i .i64 0,.i .i64 0,.i .i64 0,.i .i64 0,.i .i64 0,.s [],.i .i64 0,.i .i64 0,.i .i64 0,.i .i64 0,.i .i64 0,.i .i64 0,.s [],.i .i64 0,.i .i64 0,.i .i64 0,.i .i64 0,.i .i64 0,.i .i64 0,.s [],.i .i64 0,.i .i64 0,.i .i64 0,.i .i64 0,.i .i64 0,.i .i64 0,.s [],.i .i64 0,.i .i64 0,.i .i64 0,.i .i64 0,.i .i64 0,.i .i64 0,.s [],.i .i64 0,.i .i64 0,.i .i64 0,.i .i64 0,.i .i64 0,.i .i64 0,.s [],.i .i64 0,.i .i64 0,.i .i64 0,.i .i64 0,.i .i64 0,.i .i64 0]),.u (.store 280 (.t 4) (.t 6))]) (.seq (.r [.q 7 (.slcA 40 7 (.t 4) none none none),.n 8 0,.l 9 b [.t 7,.t 8],.n 5 9]) (.seq (.seq (.r [.n 10 5,.w 11 .lss 10 0]) (.cond (.t 11) (.seq (.r [.q 12 (.build [.s [],.i .i64 0,.i .i64 0,.i .i64 0,.i .i64 0,.i .i64 0,.i .i64 0] []),.u (.store 7 (.t 2) (.t 12)),.m 3 .F]) (.ret)) (.skip))) (.seq (.r [.n 13 5,.q 14 (.iAddrA 40 7 (.t 4) (.t 13)),.v 15 7 14,.u (.store 7 (.t 2) (.t 15)),.m 3 .T]) (.ret)))))⟩
def qol(p:List UInt8×List Int->Bool):AV:=match zf.find? p with|some x=>.tup [.agg (qbh x),.b true]|none=>.tup [.agg [.s [],.i .i64 0,.i .i64 0,.i .i64 0,.i .i64 0,.i .i64 0,.i .i64 0],.b false]
set_option maxRecDepth 20000 in
def qCu{g1 g2:Nat}(hc:qc P f (qhW g1 g2)=true)(h1:qa P g1 [] (.agg (zf.flatMap qbh)))(h2:qfC 7 P g2)(p:List UInt8×List Int->Bool)(g:Nat)(a c:List AV)(ha:qt a=true)(hcc:qt c=true)
  (hp:∀x ∈ zf,qa P g (a++([.agg (qbh x)]++c)) (.b (p x))):qa P f [.fn g a c] (qol p):=by
 refine qa.mk hc (by simp[qt,clo,ha,hcc]) ?_;simp only[qhW,vI,simprocAttr];simp only[↓vS,vT,simprocAttr];refine h1.sc ?_;have hlen:(zf.flatMap qbh).length=280:=by decide
 have hok:qF (zf.flatMap qbh)=true:=by decide
 have hcl:qt (zf.flatMap qbh)=true:=by decide
 generalize hT:zf.flatMap qbh=T at hlen hok hcl;have htk:T.take 280=T:=List.take_of_length_le (by omega);simp only[↓vS,vT,simprocAttr,hlen,hok];refine(h2 qbh p g a c zf qp0 ha hcc (by decide) hp).lend (vs':=[.fz 40 (zf.flatMap qbh),.fn g a c]) ?_ rfl ?_
 .refine .cons _ _ _ _ (.cut 7 rfl (zzL _) ?_) (.cons _ _ _ _ (.fn _ _ _ _ _ (Frzs.self ha) (Frzs.self hcc)) .nil);rw[hT];simp[vw,hlen,htk,qJ hcl]
 rcases qj6 p zf 0 with⟨e1,e2⟩|⟨i,x,e1,e2,e3,e4,e5⟩
 .rw[e1];simp only[↓vS,vT,simprocAttr];simp[vZ,qol,e2]
 .have hi:i<40:=(zzS.1 e2).1;have hn:¬(i:Int)<0:=by omega
  have he:(T.drop (i*7)).take 7=qbh x:=by rw[<- hT];exact qG (f:=qbh) (m:=7) qp0 e2
  have hb:i*7<=273:=by omega
  rw[e1,Nat.zero_add];simp only[↓vS,vT,simprocAttr,hn,hi,he,hb,hlen,qbh];simp[vZ,qol,e4,qbh]
def qgF(a b:Nat):IFn:=⟨[.tmp 2],.seq (.r [.q 1 (.box (.t 0)),.m 2 .F]) (.seq (.r [.q 6 (.mkF a [] [.t 1]),.l 7 b [.t 6],.n 5 7,.x 8 5 0,.x 9 5 1,.q 3 (.alloc [.s [],.i .i64 0,.i .i64 0,.i .i64 0,.i .i64 0,.i .i64 0,.i .i64 0]),.u (.store 7 (.t 3) (.t 8)),.n 4 9]) (.seq (.r [.n 10 4,.n 2 10]) (.ret)))⟩
def qj7(s:List UInt8):Bool:=(zf.find? (λx=>decide (x.1=s))).isSome
def qDf{g1 g2:Nat}(hc:qc P f (qgF g1 g2)=true)(h1:∀s x,qa P g1 [.agg (qbh x),.pf [.s s] 0] (.b (decide (x.1=s))))
  (h2:∀(p:List UInt8×List Int->Bool) (g:Nat) (a c:List AV),qt a=true->qt c=true->(∀x ∈ zf,qa P g (a++([.agg (qbh x)]++c)) (.b (p x)))->qa P g2 [.fn g a c] (qol p)) (s:List UInt8):qa P f [.s s] (.b (qj7 s)):=by
 refine qa.mk hc rfl ?_;simp only[qgF,vI,simprocAttr];simp only[↓vS,vT,simprocAttr];refine(h2 (λx=>decide (x.1=s)) g1 [] [.pf [.s s] 0] rfl rfl (λx _=>h1 s x)).lend (vs':=[.fn g1 [] [.pf [.s s] 0]]) ?_ ?_ ?_
 .simp[vZ,vP,Tr.get_set]
 .unfold qol;split<;>rfl
 unfold qol qj7;cases zf.find? (λx=>decide (x.1=s))with
 | none =>
  simp only[↓vS,vT,simprocAttr];simp[vZ]
 | some x =>
  simp only[↓vS,vT,simprocAttr,qbh];simp[vZ]
def okC(c:GCall):Bool:=qj7 c.name&&qmz c.act
noncomputable def qbW:Option GCall->List GCall->Bool
 | _,[]=>true
 | o,c::l=>okC c&&(o.elim true λb=>ltS b.name c.name)&&qbW (some c) l
noncomputable def qd8(l:GList):Bool:=decide (l.mode<=2)&&(decide (l.mode≠0)||decide (l.calls=[]))&&qbW none l.calls
def qdM(a b:Nat):ICode:=.seq (.seq (.r [.f 19 1 1,.d 20 19,.e 21 20,.m 22 (.k 0)]) (.blk 0 (.loop (.seq (.r [.s 23 22 21]) (.seq (.cond (.t 23) (.skip) (.exit 0)) (.seq (.blk 1 (.seq (.r [.n 24 22,.i 25 2 20 22,.v 26 2 25,.q 4 (.alloc [.s [],.i .u32 0]),.n 3 24,.u (.store 2 (.t 4) (.t 26))]) (.seq (.reg true [.f 27 0 4,.d 28 27,.l 29 a [.t 28],.q 30 (.un .not (.t 29)),.n 31 30,.h 32 1 4 31 false,.j 33 32 31 false,⟨(some 34),.callF b [.t 33],(some (31,false))⟩,.g 35 (.un .not (.t 34)) 31 false,.o 36 31 35,.n 37 36,.z 38 3 37,.g 39 (.bin .gtr (.t 38) (.k 0)) 37 false,.z 40 39 37,.h 41 1 1 40 true,.j 42 41 40 true,.y 43 3 40,.g 44 (.bin .sub (.t 43) (.k 1)) 40 true,.g 45 (.iAddrS 2 (.t 42) (.t 44)) 40 true,.h 46 0 45 40 true,.j 47 46 40 true,.h 48 0 4 40 true,.j 49 48 40 true,.g 50 (.bin .geq (.t 47) (.t 49)) 40 true,.g 51 (.pick (.t 40) (.t 50) .F) 37 false,.o 52 37 51]) (.cond (.t 52) (.seq (.r [.m 2 .F]) (.ret)) (.skip))))) (.r [.a 53 22 1,.n 22 53]))))))) (.seq (.r [.m 2 .T]) (.ret))
def qks(a b:Nat):IFn:=⟨[.tmp 2],.seq (.r [.q 1 (.box (.t 0)),.m 2 .F]) (.seq (.seq (.r [.f 5 0 1,.d 6 5,.q 7 (.bin .gtr (.t 6) (.c (.i .u8 2))),.n 8 7,.h 9 0 1 8 false,.j 10 9 8 false,.g 11 (.bin .eql (.t 10) (.c (.i .u8 0))) 8 false,.z 12 11 8,.h 13 1 1 12 true,.j 14 13 12 true,.g 15 (.len false (.t 14)) 12 true,.g 16 (.bin .gtr (.t 15) (.k 0)) 12 true,.g 17 (.pick (.t 12) (.t 16) .F) 8 false,.o 18 8 17]) (.cond (.t 18) (.seq (.r [.m 2 .F]) (.ret)) (.skip))) (.cut (qdM a b)))⟩
def qwu{g1 g2:Nat}(h1:∀s,qa P g1 [.s s] (.b (qj7 s)))(h2:∀n,qa P g2 [.i .u32 n] (.b (qmz n)))(l:GList)(hl:l.calls.length<=100000){t':Tr AV}{h':Hp}(hw:Wk 0 t' h' (mkT [(1,.ptr 0 0),(2,.b false)]) (mkH 0 [.cells 0 true false (qc8 l)])) :
  S P 0 (qdM g1 g2) (xk [.tmp 2] λv' h'=>Frz h' v' (.b (qbW none l.calls))) t' h':=by
 refine S.weak hw (qk ?_);simp only[qdM,qc8,vI,simprocAttr];simp only[↓vS,vT,simprocAttr]
 refine SL.loop (α:=Nat) (λj=>[(1,.ptr 0 0),(2,.b false),(20,.fz l.calls.length (rC l.calls)),(21,.i .i64 l.calls.length),(22,.i .i64 j)]) (λ_=>[.cells 0 true false (qc8 l)])
  (λj=>j<=l.calls.length/\qbW none l.calls=qbW (if j=0 then none else l.calls[j-1]?) (l.calls.drop j)) (λj=>l.calls.length-j) 0 [0] ?_ ?_ ?_ rfl ?_ ?_
 .simp[vw,qp]
 .simp[vw,qc8]
 .simp
 .simp_all
 rintro j ⟨hj,hI⟩ G ih;simp only[vI,simprocAttr,qc8]
 by_cases hlt:j<l.calls.length
 .have hx:l.calls[j]?=some l.calls[j]:=by simp_all
  have he:=qoe hx;have hb:=qma hlt;have hw:IntKind.wrap .i64 ((j:Int)+1)=((j+1:Nat):Int):=by rw[qm (by omega) (by omega)];omega
  rw[List.drop_eq_getElem_cons hlt,qbW]at hI;have hnx:l.calls[j]?=some l.calls[j]:=hx;generalize hc0:l.calls[j]=c at hI he hx;simp only[↓vS,vT,simprocAttr,hlt,hb,he,qe9];refine zg ?_;simp only[↓vS,vT,simprocAttr];refine(h1 c.name).pc ?_;cases hk:qj7 c.name with
  | false =>
   have hw:qbW none l.calls=false:=by rw[hI];simp[okC,hk]
   simp only[↓vS,vT,simprocAttr];simp[vZ,hw]
  | true =>
   simp only[↓vS,vT,simprocAttr];refine(h2 c.act).pc ?_;cases hac:qmz c.act with
   | false =>
    have hw:qbW none l.calls=false:=by rw[hI];simp[okC,hac]
    simp only[↓vS,vT,simprocAttr];simp[vZ,hw]
   | true =>
    have hok:okC c=true:=by simp[okC,hk,hac]
    by_cases h0:j=0
    .subst h0;have hn:¬(0:Int)<((0:Nat):Int):=by decide
     simp only[↓vS,vT,simprocAttr,hn,hw];refine ih 1 ⟨by omega,?_⟩ (by omega) _ _ (Wk.mk _ _ [0] ?_ ?_ ?_ rfl)
     .rw[hI,hok];grind
     .simp[vw,qp]
      simp_all
     .simp[vw,qc8]
     .simp
    .have hp:(0:Int)<(j:Int):=by omega
     have hpl:j-1<l.calls.length:=by omega
     have hy:l.calls[j-1]?=some l.calls[j-1]:=by simp_all
     have hw2:IntKind.wrap .i64 ((j:Int)-1)=((j-1:Nat):Int):=by rw[qm (by omega) (by omega)];omega
     have g0:(rC l.calls)[(j-1)*2]?=some (.s l.calls[j-1].name):=qEw hy (i:=0) (by decide);rw[if_neg h0,hy]at hI;cases hlt2:ltS l.calls[j-1].name c.name with
     | false =>
      have hwf:qbW none l.calls=false:=by rw[hI];simp_all
      simp only[↓vS,vT,simprocAttr,hp,hw2,hpl,g0,hlt2];simp[vZ,hwf]
     | true =>
      simp only[↓vS,vT,simprocAttr,hp,hw2,hpl,g0,hlt2,hw];refine ih (j+1) ⟨by omega,?_⟩ (by omega) _ _ (Wk.mk _ _ [0] ?_ ?_ ?_ rfl)
      .rw[hI,hok];simp_all
      .simp[vw,qp]
      .simp[vw,qc8]
      .simp
 .rw[List.drop_of_length_le (by omega),qbW]at hI;simp only[↓vS,vT,simprocAttr,hlt];simp[vZ,hI]
def qHp{g1 g2:Nat}(hc:qc P f (qks g1 g2)=true)(h1:∀s,qa P g1 [.s s] (.b (qj7 s)))(h2:∀n,qa P g2 [.i .u32 n] (.b (qmz n)))(l:GList)(hl:l.calls.length<=100000):qa P f [.agg (qc8 l)] (.b (qd8 l)):=by
 refine qa.mk hc rfl ?_;simp only[qks,qc8,vI,simprocAttr]
 by_cases m1:2<l.mode
 .have hw:qd8 l=false:=by simp[qd8];omega
  simp only[↓vS,vT,simprocAttr,m1];simp[vZ,hw]
 have tail:(l.mode≠0\/l.calls=[])->qd8 l=qbW none l.calls:=λh=>by
  have:(decide (l.mode<=2)&&(decide (l.mode≠0)||decide (l.calls=[])))=true:=by
   simp_all
  unfold qd8;rw[this];rfl
 by_cases m2:l.mode=0
 .by_cases m3:(0:Int)<l.calls.length
  .have hne:l.calls≠[]:=by grind
   have hw:qd8 l=false:=by simp[qd8,m2,hne]
   simp only[↓vS,vT,simprocAttr,m1,m2,m3];simp[vZ,hw]
  .have hz:l.calls=[]:=by simp_all
   rw[tail (.inr hz)];simp only[↓vS,vT,simprocAttr,m1,m2,m3];refine qwu h1 h2 l hl (Wk.mk _ _ [0] ?_ ?_ ?_ rfl)
   .simp[vw]
   .simp[vw,qc8,m2]
   .simp
 .rw[tail (.inl m2)];simp only[↓vS,vT,simprocAttr,m1,m2];refine qwu h1 h2 l hl (Wk.mk _ _ [0] ?_ ?_ ?_ rfl)
  .simp[vw]
  .simp[vw,qc8]
  .simp
def qJ8(P:Program)(f:Nat):Prop:=∀l:GList,l.calls.length<=100000->qa P f [.agg (qc8 l)] (.b (qd8 l))
end Go.Kc
end
