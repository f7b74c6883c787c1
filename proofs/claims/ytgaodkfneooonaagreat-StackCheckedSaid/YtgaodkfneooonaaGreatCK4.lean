/- Walks, part 4. Conditions: with each theorem. -/
import Derived.Test.YtgaodkfneooonaaGreatCK3
set_option maxHeartbeats 4000000
set_option linter.unusedSectionVars false
set_option linter.unusedSimpArgs false
set_option linter.unusedVariables false
set_option linter.unnecessarySimpa false
set_option linter.defProp false
section
namespace Go.Kc
variable {P:Program} {n:Nat}

mutual
def clo:AV->Bool
 | .ptr _ _=>false
 | .sl _ _ _ _ _=>false
 | .map _=>false
 | .own _ _=>false
 | .fn _ a c=>qt a&&qt c
 | .ifc _ v=>clo v
 | .agg cs=>qt cs
 | .tup cs=>qt cs
 | .undef=>true | .b _=>true | .i _ _=>true | .s _=>true | .nilp=>true | .nils=>true | .nilf=>true | .nili=>true | .nilm=>true | .sym _=>false | .fz _ _=>true | .pf _ _=>true | .e0=>true | .nz=>true | .yl _=>false | .lp _=>false
def qt:List AV->Bool
 | []=>true
 | v::vs=>clo v&&qt vs
end
mutual
def VR.cr{Z:Ren}:∀{a:AV} {v:Value},VR σ0 Z a v->clo a=true->CR σ0 Z.frz a v
 | _,_,.undef v,_=>.undef v
 | _,_,.b x,_=>.b x
 | _,_,.i k n,_=>.i k n
 | _,_,.s x,_=>.s x
 | _,_,.nilp,_=>.nilp
 | _,_,.ptr b o L h,hc=>by simp[clo]at hc
 | _,_,.nils,_=>.nils
 | _,_,.sl b o len cap c loose L h hc,hh=>by simp[clo]at hh
 | _,_,.slz b o x l L h,hh=>by simp[clo]at hh
 | _,_,.nilf,_=>.nilf
 | _,_,.fn f first cap first' cap' h1 h2,hc=>by
  simp only[clo,zzB]at hc;exact .fn _ _ _ _ _ (h1.crs hc.1) (h2.crs hc.2)
 | _,_,.nili,_=>.nili
 | _,_,.ifc t v v' h,hc=>by simp only[clo]at hc;exact .ifc _ _ _ (h.cr hc)
 | _,_,.agg cs cs' h,hc=>by simp only[clo]at hc;exact .agg _ _ (h.crs hc)
 | _,_,.tup cs cs' h,hc=>by simp only[clo]at hc;exact .tup _ _ (h.crs hc)
 | _,_,.nilm,_=>.nilm
 | _,_,.map b L h h0,hc=>by simp[clo]at hc
 | _,_,.sym j,hc=>by simp[clo]at hc
 | _,_,.fz n off c cs k arr hn h hs,_=>.fz n off c cs k arr hn h hs
 | _,_,.fz0 a,_=>.fz0 a
 | _,_,.pf off base cs k arr h hs,_=>.pf off base cs k arr h hs
 | _,_,.e0 a,_=>.e0 a
 | _,_,.nz a c,_=>.nz a c
 | _,_,.own0 b a hb,hc=>by simp[clo]at hc
 | _,_,.own b n c L h hn hc',hc=>by simp[clo]at hc
 | _,_,.yl b L h,hc=>by simp[clo]at hc
def VRs.crs{Z:Ren}:∀{a:List AV} {v:List Value},VRs σ0 Z a v->qt a=true->CRs σ0 Z.frz a v
 | _,_,.nil,_=>.nil
 | _,_,.cons v vs v' vs' h hs,hc=>by
  simp only[qt,zzB]at hc;exact .cons _ _ _ _ (h.cr hc.1) (hs.crs hc.2)
end

mutual
inductive Frz (h:Hp):AV->AV->Prop where
 | undef (v:AV):Frz h v .undef
 | b (x:Bool):Frz h (.b x) (.b x)
 | i (k:IntKind) (n:Int):Frz h (.i k n) (.i k n)
 | s (x:List UInt8):Frz h (.s x) (.s x)
 | nilp:Frz h .nilp .nilp
 | nils:Frz h .nils .nils
 | nilz:Frz h .nils (.fz 0 [])
 | nilf:Frz h .nilf .nilf
 | nili:Frz h .nili .nili
 | nilm:Frz h .nilm .nilm
 | e0:Frz h .e0 .e0
 | nz:Frz h .nz .nz
 | e0z:Frz h .e0 (.fz 0 [])
 | fz (n:Nat) (cs:List AV):Frz h (.fz n cs) (.fz n cs)
 | pf (cs:List AV) (o:Nat):Frz h (.pf cs o) (.pf cs o)
 | fn (f:Nat) (a c a' c':List AV) (h1:Frzs h a a') (h2:Frzs h c c'):Frz h (.fn f a c) (.fn f a' c')
 | ifc (t:Nat) (v v':AV) (h1:Frz h v v'):Frz h (.ifc t v) (.ifc t v')
 | agg (cs cs':List AV) (h1:Frzs h cs cs'):Frz h (.agg cs) (.agg cs')
 | tup (cs cs':List AV) (h1:Frzs h cs cs'):Frz h (.tup cs) (.tup cs')
 | sl (b o n c:Nat) (l:Bool) (e:Nat) (af:Bool) (cs:List AV) (m:Nat) (cs':List AV) (hb:h.tr.get b=some (.cells e true af cs)) (hn:n<=c) (hm:o+m<=cs.length) (h0:c=0->m=0) (h1:Frzs h ((cs.drop o).take m) cs'):Frz h (.sl b o n c l) (.fz n cs')
 | own (b n:Nat) (e:Nat) (af:Bool) (ys cs':List AV) (hb:h.tr.get b=some (.cells e true af ys)) (h0:n=0->ys=[]) (h1:Frzs h ys cs'):Frz h (.own b n) (.fz n cs')
 | ptr (b o:Nat) (e:Nat) (af:Bool) (ys cs':List AV) (hb:h.tr.get b=some (.cells e true af ys)) (h1:Frzs h ys cs'):Frz h (.ptr b o) (.pf cs' o)
inductive Frzs (h:Hp):List AV->List AV->Prop where
 | nil:Frzs h [] []
 | cons (v v':AV) (vs vs':List AV) (h1:Frz h v v') (h2:Frzs h vs vs'):Frzs h (v::vs) (v'::vs')
end
def Frzs.length{h:Hp}{zy vs:List AV}(hf:Frzs h zy vs):zy.length=vs.length:=by
 induction zy generalizing vs with
 | nil=>cases hf;rfl
 | cons a zy ih=>cases hf<;>grind

open Classical in
noncomputable def qqG(Z:Ren)(h:Hp)(w:World):Nat->Option (Array Value):=λk =>
 match Z.frz k with
 | some a=>some a
 | none=>match w.heap[k]? with
  | some (.cells arr _ _)=>if ∃b L e af cs,Z b=some L/\h.tr.get b=some (.cells e true af cs)/\L.blk=k then some arr else none
  | _=>none
noncomputable def jZ(Z:Ren)(h:Hp)(w:World):Fz:=⟨qqG Z h w,λk a hk=>by simp[qqG,Z.frz.ok k a hk]⟩
theorem wm{Z:Ren}{h:Hp}{w:World}{k:Nat}{a:Array Value}(hk:Z.frz k=some a):jZ Z h w k=some a:=by simp[jZ,qqG,hk]
def qdL{Z:Ren}{h:Hp}{w:World}{k:Nat}{a:Array Value}(hk:jZ Z h w k=some a):Z.frz k=some a\/((∃ty fz,w.heap[k]?=some (.cells a ty fz))/\∃b L e af cs,Z b=some L/\h.tr.get b=some (.cells e true af cs)/\L.blk=k):=by
 change qqG Z h w k=some a at hk;unfold qqG at hk;split at hk
 .simp_all
 .split at hk
  .rename_i arr ty fz hh;split at hk
   .rename_i hx;cases hk;exact by simp_all
   .cases hk
  simp_all
def qj3{Z:Ren}{B:Nat->Prop}{h:Hp}{w:World}(r:Rel σ0 Z B h w){b:Nat}{L:Loc}{e:Nat}{af:Bool}{cs:List AV}(hb:Z b=some L)(hg:h.tr.get b=some (.cells e true af cs)){c:Array Value}{ty:TypeId}{fz:Nat×Nat}(hc:w.heap[L.blk]?=some (.cells c ty fz)):jZ Z h w L.blk=some c:=by
 have h0:Z.frz L.blk=none:=by
  cases hf:Z.frz L.blk<;>grind[Rel.frz]
 have hx:∃b' L' e' af' cs',Z b'=some L'/\h.tr.get b'=some (.cells e' true af' cs')/\L'.blk=L.blk:=⟨b,L,e,af,cs,hb,hg,rfl⟩;show qqG Z h w L.blk=some c;simp only[qqG,h0,hc,if_pos hx]

mutual
theorem Frz.ok{Z:Ren}{B:Nat->Prop}{h:Hp}{w:World}(r:Rel σ0 Z B h w):∀{v v':AV} {x:Value},Frz h v v'->VR σ0 Z v x->CR σ0 (jZ Z h w) v' x
 | _,_,_,.undef _,_=>.undef _
 | _,_,_,.b _,hv=>by cases hv;exact .b _
 | _,_,_,.i _ _,hv=>by cases hv;exact .i _ _
 | _,_,_,.s _,hv=>by cases hv;exact .s _
 | _,_,_,.nilp,hv=>by cases hv;exact .nilp
 | _,_,_,.nils,hv=>by cases hv;exact .nils
 | _,_,_,.nilz,hv=>by cases hv;exact .fz0 _
 | _,_,_,.nilf,hv=>by cases hv;exact .nilf
 | _,_,_,.nili,hv=>by cases hv;exact .nili
 | _,_,_,.nilm,hv=>by cases hv;exact .nilm
 | _,_,_,.e0,hv=>by
  cases hv with
  | e0=>exact .e0 _
 | _,_,_,.nz,hv=>by
  cases hv with
  | nz=>exact .nz _ _
 | _,_,_,.e0z,hv=>by
  cases hv with
  | e0=>exact .fz0 _
 | _,_,_,.fz _ _,hv=>by
  cases hv with
  | fz _ _ _ _ _ _ q1 q2 q4=>exact .fz _ _ _ _ _ _ q1 (wm q2) (by grind[CRs.mono,wm])
  | fz0=>exact .fz0 _
 | _,_,_,.pf _ _,hv=>by
  cases hv with
  | pf _ _ _ _ _ q2 q4=>exact .pf _ _ _ _ _ (wm q2) (by grind[CRs.mono,wm])
 | _,_,_,.fn _ _ _ _ _ h1 h2,hv=>by
  cases hv with
  | fn _ _ _ _ _ g1 g2=>exact .fn _ _ _ _ _ (h1.ok r g1) (h2.ok r g2)
 | _,_,_,.ifc _ _ _ h1,hv=>by
  cases hv with
  | ifc _ _ _ g1=>exact .ifc _ _ _ (h1.ok r g1)
 | _,_,_,.agg _ _ h1,hv=>by
  cases hv with
  | agg _ _ g1=>exact .agg _ _ (h1.ok r g1)
 | _,_,_,.tup _ _ h1,hv=>by
  cases hv with
  | tup _ _ g1=>exact .tup _ _ (h1.ok r g1)
 | _,_,_,.sl b o n c l e af cs m cs' hb hn hm h0 h1,hv=>by
  have hlen:=h1.length;rw[List.length_take,List.length_drop,Nat.min_eq_left (by omega)]at hlen;obtain⟨L,c',off,g1,rfl,g3⟩:=hv.un_sl;obtain⟨e1,arr,ty,fz,e2,e3,e4,e5,e6⟩:=r.cells b L e true af cs g1 hb;have hf:=qj3 r g1 hb e2;rcases g3 with⟨rfl,g3⟩|⟨rfl,rfl,rfl⟩
  .have hnc:n<=c':=by rcases g3 with g3|⟨_,g3,_⟩<;>omega
   refine .fz n _ c' cs' L.blk arr hnc hf (h1.ok r ?_)
   grind[VRs.of_get]
  .have hm0:m=0:=h0 rfl;subst hm0;have hcs:cs'=[]:=by grind
   subst hcs;exact .fz 0 _ 0 [] L.blk arr (zzL _) hf (by simp;exact .nil)
 | _,_,_,.own b n e af ys cs' hb h0 h1,hv=>by
  have hlen:=h1.length;rcases hv.un_own with⟨rfl,⟨a0,rfl⟩,_⟩|⟨L,c,g1,g2,g3,rfl⟩
  .have:=h0 rfl;subst this;have hcs:cs'=[]:=by grind
   subst hcs;exact .fz0 _
  .obtain⟨e1,arr,ty,fz,e2,e3,e4,e5,e6⟩:=r.cells b L e true af ys g1 hb;have hf:=qj3 r g1 hb e2;refine .fz n _ c cs' L.blk arr g2 hf (h1.ok r ?_)
   grind[VRs.of_get]
 | _,_,_,.ptr b o e af ys cs' hb h1,hv=>by
  have hlen:=h1.length;obtain⟨L,g1,rfl⟩:=hv.un_ptr;obtain⟨e1,arr,ty,fz,e2,e3,e4,e5,e6⟩:=r.cells b L e true af ys g1 hb;have hf:=qj3 r g1 hb e2;refine .pf o L.off cs' L.blk arr hf (h1.ok r ?_)
  grind[VRs.of_get]
theorem Frzs.ok{Z:Ren}{B:Nat->Prop}{h:Hp}{w:World}(r:Rel σ0 Z B h w):∀{v v':List AV} {x:List Value},Frzs h v v'->VRs σ0 Z v x->CRs σ0 (jZ Z h w) v' x
 | _,_,_,.nil,hv=>by cases hv;exact .nil
 | _,_,_,.cons _ _ _ _ h1 h2,hv=>by
  cases hv with
  | cons _ _ _ _ g1 g2=>exact .cons _ _ _ _ (h1.ok r g1) (h2.ok r g2)
end

noncomputable def qbl:List AV->Nat->Tr AV->Tr AV
 | [],_,t=>t
 | v::l,n,t=>qbl l (n+1) (t.set n v)
def qjV:∀(l:List AV) (n:Nat) (t:Tr AV) (j:Nat) (v:AV),(qbl l n t).get j=some v->(n<=j/\l[j-n]?=some v)\/t.get j=some v
 | [],_,_,_,_,h=>.inr h
 | x::l,n,t,j,v,h=>by
  rcases qjV l (n+1) _ j v h with⟨h3,h4⟩|h3
  all_goals grind[Tr.get_set]
def xk(res:List RV)(k:AV->Hp->Prop)(e:X)(t:Tr AV)(h:Hp):Prop:=onX e (qe0 t h res (λvs=>k (qfs vs) h)) (λ_=>False) (qe0 t h res (λvs=>k (qfs vs) h))
def Rel.lessB{Z:Ren}{B B':Nat->Prop}{h:Hp}{w:World}(r:Rel σ0 Z B' h w)(hb:∀k,B k->B' k):Rel σ0 Z B h w :=
 ⟨r.dom,r.cells,r.maps,r.excl,r.exclm,r.app,by grind[Rel.flr],λk hk=>r.base k (hb k hk),r.frz,r.dn⟩
def Rel.shut{Z:Ren}{B:Nat->Prop}{h:Hp}{w:World}(r:Rel σ0 Z B h w){q:Nat}{ds:Option (List Deferred)}(hq:w.heap[q]?=some (.deferred ds))(o:Obj):Rel σ0 Z B h (w.putObj q o):=by
 have other:∀k,k≠q->(w.putObj q o).heap[k]?=w.heap[k]?:=λk hk=>World.putObj_heap_other hk
 refine⟨r.dom,λb L e wf af cs hb hg=>?_,λb L es hb hg=>?_,r.excl,r.exclm,r.app,r.flr,λk hk=>by simpa using r.base k hk,λk arr hk=>?_,⟨r.dn.1,λb L h=>by simpa using r.dn.2 b L h⟩⟩
 .obtain⟨g1,c,ty,fz,g2,g3⟩:=r.cells b L e wf af cs hb hg;exact by grind
 .obtain⟨g1,ob,g2,g3⟩:=r.maps b L es hb hg;refine⟨g1,ob,?_,g3⟩;rw[other _ ?_]
  .exact g2
  .rintro rfl;rw[hq]at g2;cases g2;rcases g3 with⟨_,_,_,h,_⟩|⟨_,_,_,h⟩|⟨_,_,_,_,h,_⟩<;>cases h
 grind[Rel.frz]
def qky{fn:Func}{f:Nat}{i:IFn}(hfn:P.funcs[f]?=some fn)(hres:qb6 P fn.results.toList i.res=true){Z Z':Ren}{B:Nat->Prop}{h h':Hp}{w:World}{t':Tr AV}{tm:Array Value}(ht':TR σ0 Z' t' tm){k:AV->Hp->Prop} :
  ∀(rs:List Nat) {w':World},(∀r ∈ rs,w'.heap[r]?=some (.deferred (some [])))->rs.Nodup->(∀r ∈ rs,¬B r)->Rel σ0 Z' B h' w'->Kept Z B h w Z' h' w'->qe0 t' h' i.res (λvs=>k (qfs vs) h')->
   LeavesInM (Fr none) 0 P fn tm (λe w'=>∃v v' h' Z',e = .returned v'/\k v h'/\VR σ0 Z' v v'/\Rel σ0 Z' B h' w'/\Kept Z B h w Z' h' w') (qkD rs) .returning w'
 | [],w',_,_,_,hr',hk,hq=>by
  obtain⟨v,v',g1,g2,g3⟩:=qmg hr' ht' hres hq;exact⟨v',g3,v,v',h',Z',rfl,g1,g2,hr',hk⟩
 | r::rs,w',hm,hn,hB,hr',hk,hq=>by
  have h1:=hm r (by simp);refine⟨by simp,.inl ⟨r,w'.putObj r (.deferred none),rfl,run_takeDeferred h1,?_⟩⟩
  have hn2:=List.nodup_cons.1 hn;refine qky hfn hres ht' rs (λr' hr2=>?_) hn2.2 (λr' hr2=>hB r' (by grind)) (hr'.shut h1 _) ?_ hq
  .rw[World.putObj_heap_other (by rintro rfl;exact hn2.1 hr2)];simp_all
  .exact⟨hk.ext,hk.szle,hk.fl,hk.akeep,λk hb=>by rw[World.putObj_heap_other (by grind)];exact hk.pres k hb,by simpa using hk.wle,hk.io,hk.frz,hk.fnew,hk.nle⟩
theorem SC.mk{f:Nat}{i:IFn}{vs:List AV}{h:Hp}{k:AV->Hp->Prop}(hc:qc P f i=true)(hS:S P h.sz i.body (xk i.res k) (qbl vs 0 .leaf) h):SC P f vs h k:=by
 unfold qc at hc;split at hc<;>try (cases hc;done)
 rename_i fn hfn;simp only[zzB,bne_iff_ne]at hc;obtain⟨⟨hname,hbody⟩,hres⟩:=hc;split at hbody<;>try (cases hbody;done)
 rename_i c hcb;refine⟨trivial,λZ B w args r ha=>.inl ⟨⟨fn,hfn,hname,by rw[hcb];rfl⟩,?_⟩⟩
 have r0:=r
 have ht:TR σ0 Z (qbl vs 0 .leaf) (args++Array.replicate (fn.ntmps-args.size) undef):=by
  intro j v hv;rcases qjV _ _ _ _ _ hv with⟨_,h3⟩|h3
  .simp only[Nat.sub_zero]at h3;obtain⟨v',h4,h5⟩:=ha.get h3
   have hn:j<args.size:=by
    have:=(zzS.1 h4).1;simpa using this
   refine⟨by simp;omega,?_⟩
   have:(args++Array.replicate (fn.ntmps-args.size) undef).getD j undef=v':=by
    rw[Array.getD_eq_getD_getElem?,Array.getElem?_append_left hn];rw[Array.getElem?_toList]at h4;rw[h4];rfl
   rw[this];exact h5
  simp_all
 have hsize:fn.ntmps<=(args++Array.replicate (fn.ntmps-args.size) undef).size:=by grind
 have hw:=hS fn.ntmps c hbody (zzL _) none (.inl rfl) Z B w { tmps:=args++Array.replicate (fn.ntmps-args.size) undef,defers:=[] } ht hsize r;refine(callsIn_wide (n:=0)).1 (callsIn_of_wp_marks hfn hcb trivial (wpIn_mono hw ?_) rfl);rintro e a w' ⟨x,t',h',Z',rs,hx,hq,ht',_,hd,hm,hr',hkept⟩
 have key:∀(k':AV->Hp->Prop),qe0 t' h' i.res (λvs=>k' (qfs vs) h')->LeavesInM (Fr none) 0 P fn a.tmps (λe w'=>∃v v' h' Z',e = .returned v'/\k' v h'/\VR σ0 Z' v v'/\Rel σ0 Z' B h' w'/\Kept Z B h w Z' h' w') a.defers .returning w':=by
  intro k' hq';rw[hd,List.append_nil];have hB:Rel σ0 Z' B h' w':=hr'.lessB λk hk=>.inl hk
  exact qky hfn hres ht' rs (λr hr=>hm.at' r hr) hm.nodup (λr hr hb=>absurd (r0.base r hb) (Nat.not_lt.2 (hm.new r hr))) hB (hkept.kept r0.dn.1) hq'
 cases hx with
 | exit id=>exact hq.elim
 | normal=>exact key k hq
 | ret=>exact key k hq
theorem SC.mono{f:Nat}{vs:List AV}{h:Hp}{k k':AV->Hp->Prop}(hc:SC P f vs h k)(hk:∀v h,k v h->k' v h):SC P f vs h k' :=
 ⟨hc.1,λZ B w args r ha=>qb4.mono (hc.2 Z B w args r ha) (by grind)⟩

def H0:Hp:=⟨0,0,.leaf⟩
def Rel.empty{Z:Ren}{B:Nat->Prop}{h:Hp}{w:World}(r:Rel σ0 Z B h w):Rel σ0 ⟨λ_=>none,Z.frz,0⟩ (low w.heap.size) H0 w :=
 ⟨by simp_all,by grind,by simp_all,by simp_all,by simp_all,by simp_all,by simp_all,(λ_ h=>h),
  by grind[Rel.frz],by simp_all⟩

def qa(P:Program)(f:Nat)(vs:List AV)(v:AV):Prop:=∀(h:Hp) (k:AV->Hp->Prop),k v h->SC P f vs h k
def qa.of_SC{f:Nat}{vs:List AV}{v:AV}(hcl:qt vs=true)(hs:SC P f vs H0 (λv' h'=>Frz h' v' v)):qa P f vs v:=by
 intro h k hk;refine⟨hs.1,λZ B w args r ha=>?_⟩
 have hcr:=ha.crs hcl;refine qb4.mono (hs.2 ⟨λ_=>none,Z.frz,0⟩ (low w.heap.size) w args r.empty (by grind[CRs.vr])) ?_
 rintro e w' ⟨v0,v',h',Z',rfl,g1,g2,g3,g4⟩;have hcv:=g1.ok g3 g2;have f1:∀k a,Z.frz k=some a->jZ Z' h' w' k=some a:=by grind[wm,Kept.frz]
 have f2:∀k a,jZ Z' h' w' k=some a->Z.frz k=some a\/w.heap.size<=k:=by
  intro k a hk;rcases qdL hk with hk|⟨_,b,L,e,af,cs,h1,_,rfl⟩
  .exact (g4.fnew k a hk).imp id Nat.not_lt.1
  .exact .inr (Nat.not_lt.1 (g3.flr b L h1 (by rw[g4.fl];exact Nat.zero_le _)))
 have f3:∀k a,jZ Z' h' w' k=some a->∃ty fz,w'.heap[k]?=some (.cells a ty fz):=by
  intro k a hk;rcases qdL hk with hk|⟨hk,_⟩
  all_goals grind[Rel.frz]
 exact⟨v,v',h,⟨Z.loc,jZ Z' h' w',Z.n⟩,rfl,hk,(by grind[CR.vr]),r.frz' g4.pres g4.wle f1 f2 f3,
  ⟨λ_ _=>rfl,zzL _,rfl,λ_ _ _=>rfl,by grind[Kept.pres,Rel.base],g4.wle,g4.io,f1,λk a hk=>(f2 k a hk).imp id (qaA r.base),zzL _⟩⟩
theorem qa.mk{f:Nat}{i:IFn}{vs:List AV}{v:AV}(hc:qc P f i=true)(hcl:qt vs=true)(hV:V P 0 i.body (xk i.res (λv' h'=>Frz h' v' v)) (qbl vs 0 .leaf) H0):qa P f vs v :=
 qa.of_SC hcl (SC.mk hc (qk hV))


mutual
inductive NV (r:Nat->Nat) (m:Nat):AV->AV->Prop where
 | undef (v:AV):NV r m v .undef
 | clo (v:AV) (hc:clo v=true):NV r m v v
 | nilz:NV r m .nils (.fz 0 [])
 | e0z:NV r m .e0 (.fz 0 [])
 | slz (b o b':Nat) (hm:b'<m):NV r m (.sl b o 0 0 false) (.own b' 0)
 | e0own (b':Nat) (hm:b'<m):NV r m .e0 (.own b' 0)
 | ptr (b b' o:Nat) (hr:r b'=b) (hm:b'<m):NV r m (.ptr b o) (.ptr b' o)
 | sl (b b' o n c:Nat) (l:Bool) (hr:r b'=b) (hm:b'<m):NV r m (.sl b o n c l) (.sl b' o n c l)
 | own (b b' n:Nat) (hr:r b'=b) (hm:b'<m):NV r m (.own b n) (.own b' n)
 | nilown (b':Nat) (hm:b'<m):NV r m .nils (.own b' 0)
 | map (b b':Nat) (hr:r b'=b) (hm:b'<m):NV r m (.map b) (.map b')
 | yl (b b':Nat) (hr:r b'=b) (hm:b'<m):NV r m (.yl b) (.yl b')
 | fn (f:Nat) (a c a' c':List AV) (h1:NVs r m a a') (h2:NVs r m c c'):NV r m (.fn f a c) (.fn f a' c')
 | ifc (t:Nat) (v v':AV) (h1:NV r m v v'):NV r m (.ifc t v) (.ifc t v')
 | agg (cs cs':List AV) (h1:NVs r m cs cs'):NV r m (.agg cs) (.agg cs')
 | tup (cs cs':List AV) (h1:NVs r m cs cs'):NV r m (.tup cs) (.tup cs')
inductive NVs (r:Nat->Nat) (m:Nat):List AV->List AV->Prop where
 | nil:NVs r m [] []
 | cons (v v':AV) (vs vs':List AV) (h1:NV r m v v') (h2:NVs r m vs vs'):NVs r m (v::vs) (v'::vs')
end
def NVs.length{r:Nat->Nat}{m:Nat}{zy vs:List AV}(hf:NVs r m zy vs):zy.length=vs.length:=by
 induction zy generalizing vs with
 | nil=>cases hf;rfl
 | cons a zy ih=>cases hf<;>grind
theorem NVs.get{r:Nat->Nat}{m:Nat}{zy vs:List AV}(hf:NVs r m zy vs){j:Nat}{v':AV}(h:vs[j]?=some v'):∃v,zy[j]?=some v/\NV r m v v':=by
 induction zy generalizing vs j with
 | nil=>cases hf<;>grind
 | cons a zy ih =>
  cases hf<;>grind
theorem NVs.refl{r:Nat->Nat}{m:Nat}:∀{vs:List AV},qt vs=true->NVs r m vs vs
 | [],_=>.nil
 | v::vs,h=>by
  simp only[qt,zzB]at h;exact .cons _ _ _ _ (.clo _ h.1) (NVs.refl h.2)
def Ren.via(Z:Ren)(r:Nat->Nat)(m:Nat):Ren:=⟨λb'=>if b'<m then Z (r b')else none,Z.frz,m⟩
def qjQ{Z:Ren}{r:Nat->Nat}{m b':Nat}{L:Loc}(h:Z.via r m b'=some L):b'<m/\Z (r b')=some L:=by
 simp only[Ren.via]at h;simp_all
def qiL{Z:Ren}{r:Nat->Nat}{m b':Nat}(h:b'<m):Z.via r m b'=Z (r b'):=by simp only[Ren.via];rw[if_pos h]
mutual
theorem NV.ok{Z:Ren}{r:Nat->Nat}{m:Nat}:∀{v v':AV} {x:Value},NV r m v v'->VR σ0 Z v x->VR σ0 (Z.via r m) v' x
 | _,_,_,.undef _,_=>.undef _
 | _,_,_,.clo _ hc,hv=>CR.vr (Z:=Z.via r m) (hv.cr hc)
 | _,_,_,.nilz,hv=>by cases hv;exact .fz0 _
 | _,_,_,.e0z,hv=>by cases hv;exact .fz0 _
 | _,_,_,.e0own b' hm,hv=>by cases hv;exact .own0 _ _ hm
 | _,_,_,.slz b o b' hm,hv=>by
  cases hv with
  | sl _ _ _ _ c _ L h hc =>
   rcases hc with rfl|⟨hc,_⟩
   .exact .own0 _ _ hm
   simp_all
  | slz=>exact .own0 _ _ hm
 | _,_,_,.ptr b b' o hr hm,hv=>by
  subst hr;obtain⟨L,h1,rfl⟩:=hv.un_ptr;exact .ptr _ _ _ (by rw[qiL hm];exact h1)
 | _,_,_,.sl b b' o n c l hr hm,hv=>by
  subst hr;cases hv with
  | sl _ _ _ _ _ _ L h hc=>exact .sl _ _ _ _ _ _ L (by rw[qiL hm];exact h) hc
  | slz _ _ _ _ L h=>exact .slz _ _ _ _ L (by rw[qiL hm];exact h)
 | _,_,_,.own b b' n hr hm,hv=>by
  subst hr;cases hv with
  | own0 _ _ _=>exact .own0 _ _ hm
  | own _ _ _ L h hn hc=>exact .own _ _ _ L (by rw[qiL hm];exact h) hn hc
 | _,_,_,.nilown b' hm,hv=>by cases hv;exact .own0 _ _ hm
 | _,_,_,.map b b' hr hm,hv=>by
  subst hr;cases hv with
  | map _ L h h0=>exact .map _ L (by rw[qiL hm];exact h) h0
 | _,_,_,.yl b b' hr hm,hv=>by
  subst hr;cases hv with
  | yl _ L h=>exact .yl _ L (by rw[qiL hm];exact h)
 | _,_,_,.fn _ _ _ _ _ h1 h2,hv=>by
  cases hv with
  | fn _ _ _ _ _ g1 g2=>exact .fn _ _ _ _ _ (h1.ok g1) (h2.ok g2)
 | _,_,_,.ifc _ _ _ h1,hv=>by
  cases hv with
  | ifc _ _ _ g1=>exact .ifc _ _ _ (h1.ok g1)
 | _,_,_,.agg _ _ h1,hv=>by
  cases hv with
  | agg _ _ g1=>exact .agg _ _ (h1.ok g1)
 | _,_,_,.tup _ _ h1,hv=>by
  cases hv with
  | tup _ _ g1=>exact .tup _ _ (h1.ok g1)
theorem NVs.ok{Z:Ren}{r:Nat->Nat}{m:Nat}:∀{v v':List AV} {x:List Value},NVs r m v v'->VRs σ0 Z v x->VRs σ0 (Z.via r m) v' x
 | _,_,_,.nil,hv=>by cases hv;exact .nil
 | _,_,_,.cons _ _ _ _ h1 h2,hv=>by
  cases hv with
  | cons _ _ _ _ g1 g2=>exact .cons _ _ _ _ (h1.ok g1) (h2.ok g2)
end

def qkz:List (Nat×AV)->Nat->Option AV
 | [],_=>none
 | p::l,j=>if p.1=j then some p.2 else qkz l j
def qm7:∀{l:List (Nat×AV)} {j:Nat} {v:AV},qkz l j=some v->(j,v) ∈ l
 | [],_,_,h=>by simp[qkz]at h
 | p::l,j,v,h=>by
  unfold qkz at h;split at h
  .grind
  .exact List.mem_cons_of_mem _ (qm7 h)
def TsW(r:Nat->Nat)(m:Nat)(ts ts':List (Nat×AV)):Prop:=∀p ∈ ts',∃v,qkz ts p.1=some v/\NV r m v p.2
def EsW(r:Nat->Nat)(m:Nat)(es es':List (AV×AV)):Prop :=
 (es'=es/\∀e ∈ es,clo e.1=true/\clo e.2=true)\/∃lr ts ts',es=zz lr ts/\es'=zz lr ts'/\TsW r m ts ts'
def BW(h:Hp)(r:Nat->Nat)(m b:Nat)(x':Blk):Prop :=
 h.sz<=b\/x' = .dead\/(∃e w a cs w' a' cs',h.tr.get b=some (.cells e w a cs)/\x' = .cells e w' a' cs'/\(w'=true->w=true)/\(a'=true->a=true)/\NVs r m cs cs') \/
 (∃es es',h.tr.get b=some (.map es)/\x' = .map es'/\EsW r m es es')
structure WkOk (n:Nat) (t:Tr AV) (h:Hp) (t':Tr AV) (h':Hp) (r:Nat->Nat):Prop where
 fl:h'.fl=h.fl
 blk:∀b' x',b'<h'.sz->h'.tr.get b'=some x'->BW h r h'.sz (r b') x'
 inj:∀b1 b2,b1<h'.sz->b2<h'.sz->(∃x,h'.tr.get b1=some x/\x≠.dead)->(∃x,h'.tr.get b2=some x/\x≠.dead)->r b1=r b2->r b1<h.sz->b1=b2
 flo:∀b',b'<h'.sz->h.fl<=b'->r b'<h.sz->h.fl<=r b'
 low:∀b,b<n->r b=b
 nle:n<=h'.sz
 ake:∀b,b<n->b<h.fl->h'.tr.get b=h.tr.get b
 tmp:∀j v',t'.get j=some v'->∃v,t.get j=some v/\NV r h'.sz v v'
def Wk.of{t t':Tr AV}{h h':Hp}{r:Nat->Nat}(k:WkOk n t h t' h' r):Wk n t h t' h':=by
 intro Z B w tm ht rl
 have get:∀b' L x',Z.via r h'.sz b'=some L->h'.tr.get b'=some x'->x'≠.dead->b'<h'.sz/\r b'<h.sz/\Z (r b')=some L/\((∃e w a cs w' a' cs',h.tr.get (r b')=some (.cells e w a cs)/\x' = .cells e w' a' cs'/\(w'=true->w=true)/\(a'=true->a=true)/\NVs r h'.sz cs cs') \/
   (∃es es',h.tr.get (r b')=some (.map es)/\x' = .map es'/\EsW r h'.sz es es')):=by
  intro b' L x' hb hg hd;obtain⟨h1,h2⟩:=qjQ hb;have h3:=rl.dom _ _ h2;refine⟨h1,h3,h2,?_⟩;rcases k.blk b' x' h1 hg with q|q|q|q
  all_goals grind
 refine⟨Z.via r h'.sz,λj v' hj=>?_,⟨λb L hb=>(qjQ hb).1,?_,?_,?_,?_,?_,?_,rl.base,?_,⟨zzL _,λb L hb=>rl.dn.2 _ L (qjQ hb).2⟩⟩,⟨λb hb=>?_,k.nle,k.fl,by grind[WkOk.ake],λ_ _=>rfl,zzL _,⟨rfl,rfl⟩,λ_ _ h=>h,λ_ _ h=>.inl h,λb hb _=>Nat.lt_of_lt_of_le hb k.nle⟩⟩
 .obtain⟨v,h1,h2⟩:=k.tmp j v' hj;obtain⟨h3,h4⟩:=ht j v h1
  grind[NV.ok]
 .intro b' L e wf af cs' hb hg;obtain⟨h1,h2,h3,h4⟩:=get b' L _ hb hg (by simp);rcases h4 with⟨e',w1,a1,cs,w',a',cs'',g1,g2,g3,g4,g5⟩|⟨es,es',_,g2,_⟩
  .cases g2;obtain⟨q1,c,ty,fz,q2,q3,q4,q5,q6⟩:=rl.cells _ L e w1 a1 cs h3 g1;refine⟨q1,c,ty,fz,q2,q3,by rw[<- g5.length];exact q4,λj v' hv=>?_,λhh=>q6 ?_⟩
   .obtain⟨v,p1,p2⟩:=g5.get hv;obtain⟨x,p3,p4⟩:=q5 j v p1;exact⟨x,p3,p2.ok p4⟩
   .simp only[zzO]at hh ⊢;exact hh.imp g3 g4
  grind
 .intro b' L es hb hg;obtain⟨h1,h2,h3,h4⟩:=get b' L _ hb hg (by simp);rcases h4 with⟨e',w1,a1,cs,w',a',cs'',g1,g2,g3,g4,g5⟩|⟨es,es',g1,g2,g3⟩
  .cases g2
  .cases g2;obtain⟨q1,o,q2,q3⟩:=rl.maps _ L es h3 g1;refine⟨q1,o,q2,?_⟩;rcases g3 with⟨rfl,g3⟩|⟨lr,ts,ts',rfl,rfl,g3⟩
   .rcases q3 with⟨p1,vs,clk,p2,p3,p4⟩|q3|⟨lr,lq,ts,rfl,p2,pk,p3⟩
    .exact .inl ⟨p1,vs,clk,p2,p3,λj e he=>let ⟨v,a1,a2,a3⟩:=p4 j e he
      ⟨v,a1,CR.vr (Z:=Z.via r h'.sz) (a2.cr (by grind)),CR.vr (Z:=Z.via r h'.sz) (a3.cr (by grind))⟩⟩
    .exact .inr (.inl q3)
    .refine .inr (.inr ⟨lr,lq,ts,rfl,p2,pk,λp hp=>⟨(p3 p hp).1,CR.vr (Z:=Z.via r h'.sz) ((p3 p hp).2.cr ?_)⟩⟩)
     exact(g3 (.i .i64 (Int.ofNat p.1),p.2) (List.mem_cons_of_mem _ (by grind))).2
   .obtain⟨lq,p2,pk,p3⟩:=q3.rec';refine .inr (.inr ⟨lr,lq,ts',rfl,p2,pk,λp hp=>?_⟩)
    obtain⟨v,a1,a2⟩:=g3 p hp;have a1:=qm7 a1
    grind[NV.ok]
 .intro b1 L1 e1 af1 cs1 hb1 hg1 b2 L2 x hb2 hx hd he;obtain⟨h1,h2,h3,h4⟩:=get b1 L1 _ hb1 hg1 (by simp);obtain⟨i1,i2,i3,i4⟩:=get b2 L2 _ hb2 hx hd;rcases h4 with⟨e',w1,a1,cs,w',a',cs'',g1,g2,g3,g4,g5⟩|⟨es,es',_,g2,_⟩
  .cases g2;obtain rfl:=g3 rfl
   have:∃x0,h.tr.get (r b2)=some x0/\x0≠.dead:=by
    rcases i4 with⟨_,_,_,_,_,_,_,q,_⟩|⟨_,_,q,_⟩<;>exact⟨_,q,by simp⟩
   obtain⟨x0,q1,q2⟩:=this;have:=rl.excl _ L1 e1 a1 cs h3 g1 _ L2 x0 i3 q1 q2 he;exact k.inj b2 b1 i1 h1 ⟨_,hx,hd⟩ (by grind) this i2
  grind
 .intro b1 L1 es1 hb1 hg1 b2 L2 x hb2 hx hd he;obtain⟨h1,h2,h3,h4⟩:=get b1 L1 _ hb1 hg1 (by simp);obtain⟨i1,i2,i3,i4⟩:=get b2 L2 _ hb2 hx hd;rcases h4 with⟨e',w1,a1,cs,w',a',cs'',g1,g2,_⟩|⟨es,es',g1,g2,g3⟩
  .cases g2
  .cases g2
   have:∃x0,h.tr.get (r b2)=some x0/\x0≠.dead:=by
    rcases i4 with⟨_,_,_,_,_,_,_,q,_⟩|⟨_,_,q,_⟩<;>exact⟨_,q,by simp⟩
   obtain⟨x0,q1,q2⟩:=this;have:=rl.exclm _ L1 es h3 g1 _ L2 x0 i3 q1 q2 he;exact k.inj b2 b1 i1 h1 ⟨_,hx,hd⟩ (by grind) this i2
 .intro b1 L1 e1 wf1 cs1 hb1 hg1 b2 L2 e2 wf2 af2 cs2 hb2 hg2 he;obtain⟨h1,h2,h3,h4⟩:=get b1 L1 _ hb1 hg1 (by simp);obtain⟨i1,i2,i3,i4⟩:=get b2 L2 _ hb2 hg2 (by simp);rcases h4 with⟨e',w1,a1,cs,w',a',cs'',g1,g2,g3,g4,g5⟩|⟨es,es',_,g2,_⟩
  .cases g2;obtain rfl:=g4 rfl;rcases i4 with⟨e'2,w12,a12,csx,w'2,a'2,cs''2,j1,j2,j3,j4,j5⟩|⟨es,es',_,j2,_⟩
   .cases j2;have q:=rl.app _ L1 e1 w1 cs h3 g1 _ L2 e2 w12 a12 csx i3 j1 he;rw[<- g5.length,<- j5.length];exact⟨q.1,λhh=>k.inj b2 b1 i1 h1 (by grind) (by grind) (q.2 (j4 hh)) i2⟩
   .cases j2
  grind
 .intro b' L hb hf;obtain⟨h1,h2⟩:=qjQ hb
  grind[Rel.flr,WkOk.flo,WkOk.fl,Rel.dom]
 .intro kk arr hk;refine⟨(rl.frz kk arr hk).1,λb L x hb hx hd=>?_⟩
  obtain⟨h1,h2,h3,h4⟩:=get b L x hb hx hd
  have:∃x0,h.tr.get (r b)=some x0/\x0≠.dead:=by
   rcases h4 with⟨_,_,_,_,_,_,_,q,_⟩|⟨_,_,q,_⟩<;>exact⟨_,q,by simp⟩
  obtain⟨x0,q1,q2⟩:=this;exact(rl.frz kk arr hk).2 _ L x0 h3 q1 q2
 .show Z.via r h'.sz b=Z b;rw[qiL (Nat.lt_of_lt_of_le hb k.nle),k.low b hb]

noncomputable def mkT:List (Nat×AV)->Tr AV
 | []=>.leaf
 | p::l=>(mkT l).set p.1 p.2
def qex{l:List (Nat×AV)}{j:Nat}{v:AV}(h:(mkT l).get j=some v):(j,v) ∈ l:=by
 induction l with
 | nil=>simp[mkT]at h
 | cons p l ih =>
  simp only[mkT,Tr.get_set]at h
  grind
noncomputable def trL:List Blk->Nat->Tr Blk->Tr Blk
 | [],_,t=>t
 | x::l,i,t=>trL l (i+1) (t.set i x)
def qsp:∀(l:List Blk) (i:Nat) (t:Tr Blk) (b:Nat),(trL l i t).get b=if i<=b/\b<i+l.length then l[b-i]? else t.get b
 | [],i,t,b=>by simp[trL];omega
 | x::l,i,t,b=>by
  simp only[trL];rw[qsp l (i+1)]
  grind[Tr.get_set]
noncomputable def mkH(fl:Nat)(l:List Blk):Hp:=⟨l.length,fl,trL l 0 .leaf⟩
theorem qwv{fl:Nat}{l:List Blk}:(mkH fl l).sz=l.length:=rfl
def qDA{fl:Nat}{l:List Blk}:(mkH fl l).fl=fl:=rfl
theorem jh{fl:Nat}{l:List Blk}{b:Nat}:(mkH fl l).tr.get b=l[b]?:=by
 show(trL l 0 .leaf).get b=_;rw[qsp]
 simp_all
def rl(l:List Nat)(d:Nat):Nat->Nat:=λb=>l.getD b d
def BWs(h:Hp)(r:Nat->Nat)(m:Nat):List Nat->List Blk->Prop
 | [],[]=>True
 | b::bs,x::xs=>BW h r m b x/\BWs h r m bs xs
 | _,_=>False
theorem BWs.get{h:Hp}{r:Nat->Nat}{m:Nat}:∀{bs:List Nat} {xs:List Blk},BWs h r m bs xs->bs.length=xs.length/\∀(i:Nat) x,xs[i]?=some x->∃b,bs[i]?=some b/\BW h r m b x
 | [],[],_=>⟨rfl,by simp⟩
 | b::bs,x::xs,hh=>by
  obtain⟨h1,h2⟩:=hh;obtain⟨h3,h4⟩:=h2.get
  grind
 | [],_::_,hh=>hh.elim
 | _::_,[],hh=>hh.elim
def TWs(t:Tr AV)(r:Nat->Nat)(m:Nat):List (Nat×AV)->Prop
 | []=>True
 | p::l=>(∃v,t.get p.1=some v/\NV r m v p.2)/\TWs t r m l
theorem TWs.get{t:Tr AV}{r:Nat->Nat}{m:Nat}:∀{l:List (Nat×AV)},TWs t r m l->∀p ∈ l,∃v,t.get p.1=some v/\NV r m v p.2
 | [],_,p,hp=>by cases hp
 | q::l,h,p,hp=>by
  rcases List.mem_cons.1 hp with rfl|hp
  .exact h.1
  .exact TWs.get h.2 p hp
theorem Wk.mk{t:Tr AV}{h:Hp}(ts:List (Nat×AV))(bl:List Blk)(src:List Nat)(hT:TWs t (rl src h.sz) bl.length ts)(hB:BWs h (rl src h.sz) bl.length src bl)
  (hI:((src.filter λb=>decide (b<h.sz)).Nodup)) (hfl:h.fl=0):Wk 0 t h (mkT ts) (mkH 0 bl):=by
 obtain⟨hlen,hget⟩:=hB.get;refine Wk.of (r:=rl src h.sz) ⟨hfl.symm,λb' x' hb hg=>?_,λb1 b2 h1 h2 _ _ he hl=>?_,λb' _ _ _=>by rw[hfl];omega,by omega,Nat.zero_le _,by omega,λj v' hj=>?_⟩
 .rw[jh]at hg;obtain⟨b,q1,q2⟩:=hget b' x' hg;have:rl src h.sz b'=b:=by simp[rl,List.getD_eq_getElem?_getD,q1]
  rw[this];exact q2
 .have h1:b1<src.length:=by rw[hlen];exact h1
  have h2:b2<src.length:=by rw[hlen];exact h2
  simp only[rl,List.getD_eq_getElem?_getD,zzE h1,zzE h2,Option.getD_some]at he hl;exact nodup_filter_inj hI h1 h2 he (by simp_all)
 .exact hT.get _ (qex hj)
where
 nodup_filter_inj {l:List Nat} {p:Nat->Bool} (hn:(l.filter p).Nodup) {i j:Nat} (hi:i<l.length) (hj:j<l.length) (he:l[i]=l[j]) (hp:p l[i]=true):i=j:=by
  induction l generalizing i j<;>grind
end Go.Kc
end
section
namespace Go.Kc
variable {P:Program} {n:Nat} {C:zI} {d:Bool} {Q:Tr AV->Hp->Prop} {t:Tr AV} {h:Hp}

def zm:Prop:=True
def qtC:zm↔True:=⟨λ_=>trivial,λ_=>trivial⟩
@[congr] theorem qH8 {c:ICode} {Q:X->Tr AV->Hp->Prop} {mk:Prop} (_:zm=mk):V P n c Q t h=V P n c Q t h:=rfl
@[congr] theorem qGh {c:ICode} {Q:X->Tr AV->Hp->Prop} {mk:Prop} (_:zm=mk):SL P n c Q t h=SL P n c Q t h:=rfl
@[congr] theorem qGg {f:Nat} {vs vs':List AV} {k:AV->Hp->Prop} {mk:Prop} (_:zm=mk) (h':vs=vs'):SC P f vs h k=SC P f vs' h k:=by rw[h']
@[congr] theorem qGm {ops:List ROp} {mk:Prop} (_:zm=mk):VG P ops Q t h=VG P ops Q t h:=rfl
@[congr] theorem qGk {ops:List ROp} {mk:Prop} (_:zm=mk):VD P ops Q t h=VD P ops Q t h:=rfl
@[congr] theorem qFR {o:IOp} {k:AV->Hp->Prop} {mk:Prop} (_:zm=mk):opK qL o t h k=opK qL o t h k:=rfl
@[congr] theorem qB0 {e b:Nat} {c:Bool} {s x:AV} {k:AV->Hp->Prop} {mk:Prop} (_:zm=mk):qhL h e b c s x k=qhL h e b c s x k:=rfl
@[congr] theorem qBa {e:Nat} {s x:AV} {k:AV->Hp->Prop} {mk:Prop} (_:zm=mk):qmR h e s x k=qmR h e s x k:=rfl
@[congr] theorem qEX {e:Nat} {x:AV} {k:Nat->List AV->Prop} {mk:Prop} (_:zm=mk):qco h e x k=qco h e x k:=rfl
@[congr] theorem qCb {op:BinOp} {x y:AV} {k:AV->Prop} {mk:Prop} (_:zm=mk):xq qL op x y k=xq qL op x y k:=rfl
@[congr] theorem qFZ {b o:Nat} {vs:List AV} {k:Hp->Prop} {mk:Prop} (_:zm=mk):stK h b o vs k=stK h b o vs k:=rfl
@[congr] theorem qFJ {p:AV} {k:AV->Prop} {mk:Prop} (_:zm=mk):ldV h p k=ldV h p k:=rfl
@[congr] theorem qDi {p:AV} {n:Nat} {k:List AV->Prop} {mk:Prop} (_:zm=mk):qkO h p n k=qkO h p n k:=rfl
@[congr] theorem qFI {b o:Nat} {k:AV->Prop} {mk:Prop} (_:zm=mk):ldK h b o k=ldK h b o k:=rfl
@[congr] theorem qDh {b o n:Nat} {k:List AV->Prop} {mk:Prop} (_:zm=mk):qeV h b o n k=qeV h b o n k:=rfl
@[congr] theorem qBB {op:UnOp} {x:AV} {k:AV->Prop} {mk:Prop} (_:zm=mk):qeD op x k=qeD op x k:=rfl
@[congr] theorem qAW {a b:Nat} {x y z:Option AV} {k:Nat->Nat->Nat->Prop} {mk:Prop} (_:zm=mk):xf a b x y z k=xf a b x y z k:=rfl
@[congr] theorem qBf {i:AV} {es:List (AV×AV)} {k:Option AV->Prop} {mk:Prop} (_:zm=mk):qcA qL i es k=qcA qL i es k:=rfl
@[congr] theorem qFg {i v:AV} {es:List (AV×AV)} {k:List (AV×AV)->Prop} {mk:Prop} (_:zm=mk):qhn qL i v es k=qhn qL i v es k:=rfl
@[congr] theorem qxK {cs:List AV} {k:List UInt8->Prop} {mk:Prop} (_:zm=mk):qjN cs k=qjN cs k:=rfl
@[congr] theorem qCK {rs:List RV} {k:AV->Hp->Prop} {e:X} {mk:Prop} (_:zm=mk):xk rs k e t h=xk rs k e t h:=rfl
@[congr] theorem qDG {x:Blk} {k:Nat->Hp->Prop} {mk:Prop} (_:zm=mk):jz h x k=jz h x k:=rfl
@[congr] theorem qEr {b:Nat} {x:Blk} {k:Hp->Prop} {mk:Prop} (_:zm=mk):qdo h b x k=qdo h b x k:=rfl
@[congr] theorem qBe {ps:List (Nat×Nat×O)} {l:List AV} {k:List AV->Prop} {mk:Prop} (_:zm=mk):qah t ps l k=qah t ps l k:=rfl
@[congr] theorem quY {qs:List PK} {x y:List AV} {k:Bool->Prop} {mk:Prop} (_:zm=mk):jE qs x y k=jE qs x y k:=rfl
@[congr] theorem qzs {q:NK} {x:AV} {k:Bool->Prop} {mk:Prop} (_:zm=mk):jm q x k=jm q x k:=rfl

def qBU{Q:X->Tr AV->Hp->Prop}:V P n .skip Q t h↔Q .normal t h:=Iff.rfl
def qGs{Q:X->Tr AV->Hp->Prop}:V P n .ret Q t h↔Q .ret t h:=Iff.rfl
def qBR{id:Nat}{Q:X->Tr AV->Hp->Prop}:V P n (.exit id) Q t h↔Q (.exit id) t h:=Iff.rfl
def qGt{x y:ICode}{Q:X->Tr AV->Hp->Prop}:V P n (.seq x y) Q t h↔V P n x (λe t h=>onX e (V P n y Q t h) (λid=>Q (.exit id) t h) (Q .ret t h)) t h:=Iff.rfl
def qBQ{c:O}{x y:ICode}{Q:X->Tr AV->Hp->Prop}:V P n (.cond c x y) Q t h↔evK t c (λv=>unB v (λb=>if b=true then V P n x Q t h else V P n y Q t h)):=Iff.rfl
def qGp{id:Nat}{x:ICode}{Q:X->Tr AV->Hp->Prop}:V P n (.blk id x) Q t h↔V P n x (λe t h=>onX e (Q .normal t h) (λi=>if i=id then Q .normal t h else Q (.exit i) t h) (Q .ret t h)) t h:=Iff.rfl
def qBS{x:ICode}{Q:X->Tr AV->Hp->Prop}:V P n (.loop x) Q t h↔SL P n x Q t h:=Iff.rfl
def qui{j:Nat}{g:O}{ps:List Nat}{x y:ICode}{Q:X->Tr AV->Hp->Prop}:V P n (.rangeF j g ps x y) Q t h↔S P n (.rangeF j g ps x y) Q t h:=Iff.rfl
def qGq{x:ICode}{Q:X->Tr AV->Hp->Prop}:V P n (.cut x) Q t h↔S P n x Q t h:=Iff.rfl
@[congr] theorem qH7 {c:ICode} {Q:X->Tr AV->Hp->Prop} {mk:Prop} (_:zm=mk):S P n c Q t h=S P n c Q t h:=rfl
theorem qGr{ops:List ROp}{Q:X->Tr AV->Hp->Prop}:V P n (.reg false ops) Q t h↔VG P ops (λt h=>Q .normal t h) t h:=by simp[V]
def qBT{ops:List ROp}{Q:X->Tr AV->Hp->Prop}:V P n (.reg true ops) Q t h↔VD P ops (λt h=>Q .normal t h) t h:=by simp[V]

def evO(o:Option AV)(k:AV->Prop):Prop:=∃v,o=some v/\k v
@[congr] theorem qFC {o o':Option AV} {k:AV->Prop} {mk:Prop} (_:zm=mk) (h:o=o'):evO o k=evO o' k:=by rw[h]
theorem qvp{v:AV}{k:AV->Prop}:evO (some v) k↔k v:=by simp[evO]
def qhT{t:Tr AV}{n:Nat}{k:AV->Prop}:evK t (.t n) k↔evO (t.get n) k:=Tr.getK_iff _ _ _
def qGY{v:AV}{k:AV->Prop}:evK t (.c v) k↔k v:=Iff.rfl
def qvq{k:List AV->Prop}:qaq t [] k↔k []:=Iff.rfl
def qs5{x:O}{xs:List O}{k:List AV->Prop}:qaq t (x::xs) k↔evK t x (λv=>qaq t xs (λvs=>k (v::vs))):=Iff.rfl
def qtP{k:Option AV->Prop}:qcG t none k↔k none:=Iff.rfl
def qtR{x:O}{k:Option AV->Prop}:qcG t (some x) k↔evK t x (λv=>k (some v)):=Iff.rfl
def qvM{n:Nat}{b:Bool}{k:Bool->Prop}:qaV t (some (n,b)) k↔evO (t.get n) (λv=>match v with | .b x=>qT (x==b) k | .tup _=>k false|_=>False):=Tr.getK_iff _ _ _
def qs0{v:AV}{k:Tr AV->Prop}:qap t none v k↔k t:=Iff.rfl
def qs1{n:Nat}{v:AV}{k:Tr AV->Prop}:qap t (some n) v k↔k (t.set n v):=Tr.setK_iff _ _ _ _
@[congr] theorem qFz {x:O} {k:AV->Prop} {mk:Prop} (_:zm=mk):evK t x k=evK t x k:=rfl
@[congr] theorem qCN {x:List O} {k:List AV->Prop} {mk:Prop} (_:zm=mk):qaq t x k=qaq t x k:=rfl
@[congr] theorem qEj {x:Option O} {k:Option AV->Prop} {mk:Prop} (_:zm=mk):qcG t x k=qcG t x k:=rfl
@[congr] theorem qCI {x:Option Nat} {v:AV} {k:Tr AV->Prop} {mk:Prop} (_:zm=mk):qap t x v k=qap t x v k:=rfl
@[congr] theorem qzh {g:Option (Nat×Bool)} {k:Bool->Prop} {mk:Prop} (_:zm=mk):qaV t g k=qaV t g k:=rfl
theorem qBN:VG P [] Q t h↔Q t h:=Iff.rfl
def qGo{dst:Option Nat}{o:IOp}{ops:List ROp}:VG P (⟨dst,.op o,none⟩::ops) Q t h↔opK qL o t h (λv h'=>qap t dst v (λt'=>VG P ops Q t' h')):=Iff.rfl
def quf{dst:Option Nat}{f:Nat}{args:List O}{ops:List ROp}:VG P (⟨dst,.callF f args,none⟩::ops) Q t h↔qaq t args (λvs=>SC P f vs h (λv h'=>qap t dst v (λt'=>VG P ops Q t' h'))):=Iff.rfl
def quh{dst:Option Nat}{f:Nat}{args:List O}{ops:List ROp}:VG P (⟨dst,.callW f args,none⟩::ops) Q t h↔qaq t args (λvs=>SC P f vs h (λv h'=>qap t dst v (λt'=>VG P ops Q t' h'))):=Iff.rfl
def cvF(C:zI)(g:AV)(vs:List AV)(h:Hp)(k:AV->Hp->Prop):Prop:=match g with | .fn f a c=>C (Nat.succ f) (a++(vs++c)) h k | .yl b=>C 0 (.yl b::vs) h k|_=>False
@[congr] theorem qFt {g:AV} {vs:List AV} {k:AV->Hp->Prop} {mk:Prop} (_:zm=mk):cvF C g vs h k=cvF C g vs h k:=rfl
@[congr] theorem qGi {b:Nat} {vs vs':List AV} {k:AV->Hp->Prop} {mk:Prop} (_:zm=mk) (h':vs=vs'):SY P b vs h k=SY P b vs' h k:=by rw[h']
theorem qCF{b:Nat}{vs:List AV}{k:AV->Hp->Prop}:cvF (CC P) (.yl b) vs h k↔SY P b vs h k:=Iff.rfl
def qCC{f:Nat}{a c vs:List AV}{k:AV->Hp->Prop}:cvF (CC P) (.fn f a c) vs h k↔SC P f (a++(vs++c)) h k:=Iff.rfl
def qug{dst:Option Nat}{x:O}{args:List O}{ops:List ROp}:VG P (⟨dst,.callV x args,none⟩::ops) Q t h↔evK t x (λg=>qaq t args (λvs=>cvF (CC P) g vs h (λv h'=>qap t dst v (λt'=>VG P ops Q t' h')))):=Iff.rfl
def qsu{dst:Option Nat}{x:O}{args:List O}{ops:List ROp}:VG P (⟨dst,.callVW x args,none⟩::ops) Q t h↔evK t x (λg=>qaq t args (λvs=>cvF (CC P) g vs h (λv h'=>qap t dst v (λt'=>VG P ops Q t' h')))):=Iff.rfl
def qGn{dst:Option Nat}{r:RK}{n:Nat}{b:Bool}{ops:List ROp} :
  VG P (⟨dst,r,some (n,b)⟩::ops) Q t h↔qaV t (some (n,b)) (λgo=>if go=true then VG P (⟨dst,r,none⟩::ops) Q t h else qap t dst (.tup []) (λt'=>VG P ops Q t' h)):=by
 have e:∀(g:Bool) (p q:Prop),(Bool.rec (motive:=λ_=>Prop) q p g:Prop)=if g=true then p else q:=by simp_all
 show qaV t (some (n,b)) (λgo=>Bool.rec (motive:=λ_=>Prop) (qap t dst (.tup []) (λt'=>VG P ops Q t' h)) (VG P (⟨dst,r,none⟩::ops) Q t h) go)↔_
 simp only[e]

def qa.sc{f:Nat}{vs:List AV}{v:AV}{k:AV->Hp->Prop}(hp:qa P f vs v)(hk:k v h):SC P f vs h k:=hp h k hk
def VR'(C:zI)(ops:List ROp)(Q:Tr AV->Hp->Prop)(t:Tr AV)(h:Hp):Prop:=qmc qL true C ops Q t h
@[congr] theorem qFm {ops:List ROp} {mk:Prop} (_:zm=mk):VR' C ops Q t h=VR' C ops Q t h:=rfl
theorem qGl{ops:List ROp}(hl:LC C)(hs:qdC P σ0 C)(hr:VR' C ops Q t h):VD P ops Q t h:=⟨_,hl,hs,hr⟩
def Hp.up(h:Hp):Hp:=⟨h.sz,h.sz,h.tr⟩
def Hp.down(h:Hp)(fl:Nat):Hp:=⟨h.sz,fl,h.tr⟩
def qiI{F:Hp->(AV->Hp->Prop)->Prop}{k:AV->Hp->Prop}:qhh F h k↔F h.up (λv h'=>k v (h'.down h.fl)):=by
 cases h with
 | mk sz fl tr =>
  show F ⟨sz,sz,tr⟩ (λv h'=>Hp.rec (motive:=λ_=>Prop) (λsz' _ tr'=>k v ⟨sz',fl,tr'⟩) h')↔_
  have:(λ(v:AV) (h':Hp)=>(Hp.rec (motive:=λ_=>Prop) (λsz' _ tr'=>k v ⟨sz',fl,tr'⟩) h':Prop))=λv h'=>k v (h'.down fl):=by
   funext v h';cases h';rfl
  rw[this];exact Iff.rfl
def qBP{dst:Option Nat}{o:IOp}{ops:List ROp}:VR' C (⟨dst,.op o,none⟩::ops) Q t h ↔
  if wr (.op o)=true then opK qL o t h (λv h'=>qap t dst v (λt'=>VR' C ops Q t' h'))else opK qL o t h.up (λv h'=>qap t dst v (λt'=>VR' C ops Q t' (h'.down h.fl))):=by
 have e:VR' C (⟨dst,.op o,none⟩::ops) Q t h↔qiK qL true C (.op o) t h (λv h'=>qap t dst v (λt'=>VR' C ops Q t' h')):=Iff.rfl
 rw[e];unfold qiK;cases hw:wr (.op o)with
 | true=>exact Iff.rfl
 | false =>
  rw[if_neg (by simp)];exact qiI
def qsv{dst:Option Nat}{f:Nat}{args:List O}{ops:List ROp}:VR' C (⟨dst,.callF f args,none⟩::ops) Q t h↔qaq t args (λvs=>C (Nat.succ f) vs h.up (λv h'=>qap t dst v (λt'=>VR' C ops Q t' (h'.down h.fl)))):=by
 have e:VR' C (⟨dst,.callF f args,none⟩::ops) Q t h↔qhh (qcJ qL C (.callF f args) t) h (λv h'=>qap t dst v (λt'=>VR' C ops Q t' h')):=Iff.rfl
 rw[e,qiI];exact Iff.rfl
def qsw{dst:Option Nat}{x:O}{args:List O}{ops:List ROp}:VR' C (⟨dst,.callV x args,none⟩::ops) Q t h↔evK t x (λg=>qaq t args (λvs=>cvF C g vs h.up (λv h'=>qap t dst v (λt'=>VR' C ops Q t' (h'.down h.fl))))):=by
 have e:VR' C (⟨dst,.callV x args,none⟩::ops) Q t h↔qhh (qcJ qL C (.callV x args) t) h (λv h'=>qap t dst v (λt'=>VR' C ops Q t' h')):=Iff.rfl
 rw[e,qiI];exact Iff.rfl
def qsx{dst:Option Nat}{f:Nat}{args:List O}{ops:List ROp}:VR' C (⟨dst,.callW f args,none⟩::ops) Q t h↔qaq t args (λvs=>C (Nat.succ f) vs h (λv h'=>qap t dst v (λt'=>VR' C ops Q t' h'))):=Iff.rfl
def qqn{dst:Option Nat}{x:O}{args:List O}{ops:List ROp}:VR' C (⟨dst,.callVW x args,none⟩::ops) Q t h↔evK t x (λg=>qaq t args (λvs=>cvF C g vs h (λv h'=>qap t dst v (λt'=>VR' C ops Q t' h')))):=Iff.rfl
def qBO{dst:Option Nat}{r:RK}{n:Nat}{b:Bool}{ops:List ROp} :
  VR' C (⟨dst,r,some (n,b)⟩::ops) Q t h↔qaV t (some (n,b)) (λgo=>if go=true then VR' C (⟨dst,r,none⟩::ops) Q t h else qap t dst (.tup []) (λt'=>VR' C ops Q t' h)):=by
 have e:∀(g:Bool) (p q:Prop),(Bool.rec (motive:=λ_=>Prop) q p g:Prop)=if g=true then p else q:=by simp_all
 show qaV t (some (n,b)) (λgo=>Bool.rec (motive:=λ_=>Prop) (qap t dst (.tup []) (λt'=>VR' C ops Q t' h)) (VR' C (⟨dst,r,none⟩::ops) Q t h) go)↔_
 simp only[e]
end Go.Kc
end
section
namespace Go.Kc
variable {P:Program} {n:Nat} {C:zI} {d:Bool} {Q:Tr AV->Hp->Prop} {t:Tr AV} {h:Hp} {k:AV->Hp->Prop}

def evA(v:AV)(k:AV->Prop):Prop:=k v
@[congr] theorem qFw {v v':AV} {k:AV->Prop} {mk:Prop} (_:zm=mk) (h:v=v'):evA v k=evA v' k:=by rw[h]
theorem qy0{v:AV}{k:AV->Prop}:evA v k↔k v:=Iff.rfl
def evL(v:List AV)(k:List AV->Prop):Prop:=k v
@[congr] theorem qFA {v v':List AV} {k:List AV->Prop} {mk:Prop} (_:zm=mk) (h:v=v'):evL v k=evL v' k:=by rw[h]
theorem qy1{v:List AV}{k:List AV->Prop}:evL v k↔k v:=Iff.rfl
def evN(v:Nat)(k:Nat->Prop):Prop:=k v
@[congr] theorem qFB {v v':Nat} {k:Nat->Prop} {mk:Prop} (_:zm=mk) (h:v=v'):evN v k=evN v' k:=by rw[h]
theorem qy2{v:Nat}{k:Nat->Prop}:evN v k↔k v:=Iff.rfl
def evT(v:Bool)(k:Bool->Prop):Prop:=k v
@[congr] theorem qFD {v v':Bool} {k:Bool->Prop} {mk:Prop} (_:zm=mk) (h:v=v'):evT v k=evT v' k:=by rw[h]
theorem qy3{v:Bool}{k:Bool->Prop}:evT v k↔k v:=Iff.rfl
def evB(o:Option Blk)(k:Blk->Prop):Prop:=∃v,o=some v/\k v
@[congr] theorem qFx {o o':Option Blk} {k:Blk->Prop} {mk:Prop} (_:zm=mk) (h:o=o'):evB o k=evB o' k:=by rw[h]
theorem qvo{v:Blk}{k:Blk->Prop}:evB (some v) k↔k v:=by simp[evB]
def ifK(c:Prop)(p:Prop):Prop:=c/\p
@[congr] theorem qFE {c c' p:Prop} {mk:Prop} (_:zm=mk) (h:c=c'):ifK c p=ifK c' p:=by rw[h]
theorem qpq{p:Prop}:ifK True p↔p:=by simp[ifK]
def qzo{c c' p:Prop}:ifK (c/\c') p↔ifK c (ifK c' p):=by simp[ifK,and_assoc]
def qst{x:Bool}{p:Prop}:qo x p↔ifK (x=true) p:=qd _ _
def xU{n:Nat}{k:Nat->Prop}:qw n k↔evN n k:=by rw[qD];exact Iff.rfl
theorem qmY{n:Bool}{k:Bool->Prop}:qT n k↔evT n k:=by rw[qM];exact Iff.rfl
@[congr] theorem qy8 {n:Nat} {k:Nat->Prop} {mk:Prop} (_:zm=mk):qw n k=qw n k:=rfl
@[congr] theorem qy7 {n:Bool} {k:Bool->Prop} {mk:Prop} (_:zm=mk):qT n k=qT n k:=rfl
@[congr] theorem qBG {n:Bool} {k:Prop} {mk:Prop} (_:zm=mk):qo n k=qo n k:=rfl
theorem qHZ{x:Bool}{k:Bool->Prop}:unB (.b x) k↔k x:=Iff.rfl
def qAQ{b o:Nat}{k:Nat->Nat->Prop}:unP (.ptr b o) k↔k b o:=Iff.rfl
def qH0{q:IntKind}{z:Int}{k:IntKind->Int->Prop}:unI (.i q z) k↔k q z:=Iff.rfl
def qH1{q:IntKind}{z:Int}{k:Nat->Prop}:unN (.i q z) k↔ifK (0<=z) (evN z.toNat k):=by
 cases z with
 | ofNat m=>exact⟨λh=>⟨by simp_all,h⟩,λh=>h.2⟩
 | negSucc m=>exact⟨λh=>h.elim,λh=>absurd h.1 (by omega)⟩
@[congr] theorem qF5 {x:AV} {k:Bool->Prop} {mk:Prop} (_:zm=mk):unB x k=unB x k:=rfl
@[congr] theorem qF8 {x:AV} {k:Nat->Nat->Prop} {mk:Prop} (_:zm=mk):unP x k=unP x k:=rfl
@[congr] theorem qF6 {x:AV} {k:IntKind->Int->Prop} {mk:Prop} (_:zm=mk):unI x k=unI x k:=rfl
@[congr] theorem qF7 {x:AV} {k:Nat->Prop} {mk:Prop} (_:zm=mk):unN x k=unN x k:=rfl

section
variable {q q':IntKind} {n m:Int} {a c:List UInt8} {k:AV->Prop}
def qpf{z:Int}:xQ (qjR q z) (λr=>k (.i q r))↔evA (.i q (q.wrap z)) k:=by
 rw[zA,qd7];exact Iff.rfl
def qyp:xq qL .lss (.i q n) (.i q m) k↔evA (.b (decide (n<m))) k:=by simp[xq,xo,qd,qcZ,evA]
def qyn:xq qL .gtr (.i q n) (.i q m) k↔evA (.b (decide (m<n))) k:=by simp[xq,xo,qd,qcZ,evA]
def qym:xq qL .geq (.i q n) (.i q m) k↔evA (.b (decide (m<=n))) k:=by
 simp only[xq,xo,qd,qcZ,qM,decide_true,true_and,evA];rw[<- decide_not];simp
def qyo:xq qL .leq (.i q n) (.i q m) k↔evA (.b (decide (n<=m))) k:=by
 simp only[xq,xo,qd,qcZ,qM,decide_true,true_and,evA];rw[<- decide_not];simp
def qyl:xq qL .eql (.i q n) (.i q m) k↔evA (.b (decide (n=m))) k:=by
 simp only[xq,xo,qd,qgz,qM,decide_true,true_and,evA];rw[show(n==m)=decide (n=m)from by rw[Bool.eq_iff_iff];simp]
def qyr:xq qL .neq (.i q n) (.i q m) k↔evA (.b (!decide (n=m))) k:=by
 simp only[xq,xo,qd,qgz,qM,decide_true,true_and,evA];rw[show(n==m)=decide (n=m)from by rw[Bool.eq_iff_iff];simp]
def qyi:xq qL .add (.i q n) (.i q m) k↔evA (.i q (q.wrap (n+m))) k:=by
 simp only[xq,xo,qd,qd7,zA,decide_true,true_and];exact Iff.rfl
def qyu:xq qL .sub (.i q n) (.i q m) k↔evA (.i q (q.wrap (n-m))) k:=by
 simp only[xq,xo,qd,qd7,zA,decide_true,true_and];exact Iff.rfl
def qyq:xq qL .mul (.i q n) (.i q m) k↔evA (.i q (q.wrap (n*m))) k:=by
 simp only[xq,xo,qd,qd7,zA,decide_true,true_and];exact Iff.rfl
def orI(q:IntKind)(x y:Int):Int:=q.wrap (BitVec.ofInt q.bits x ||| BitVec.ofInt q.bits y).toNat
def qcO(q:IntKind)(x y:Int):Int:=q.wrap (BitVec.ofInt q.bits x &&& BitVec.ofInt q.bits y).toNat
def qFl(q:IntKind)(x y:Int):Int:=q.wrap (BitVec.ofInt q.bits x ^^^ BitVec.ofInt q.bits y).toNat
def qeH(q:IntKind)(x y:Int):Int:=q.wrap (BitVec.ofInt q.bits x &&& ~~~ (BitVec.ofInt q.bits y)).toNat
def qCd:xq qL .or (.i q n) (.i q m) k↔evA (.i q (orI q n m)) k:=by
 simp only[xq,xo,qd,zA,decide_true,true_and,orI,evA]
def qyj:xq qL .and (.i q n) (.i q m) k↔evA (.i q (qcO q n m)) k:=by
 simp only[xq,xo,qd,zA,decide_true,true_and,qcO,evA]
def qyv:xq qL .xor (.i q n) (.i q m) k↔evA (.i q (qFl q n m)) k:=by
 simp only[xq,xo,qd,zA,decide_true,true_and,qFl,evA]
def qyk:xq qL .andNot (.i q n) (.i q m) k↔evA (.i q (qeH q n m)) k:=by
 simp only[xq,xo,qd,zA,decide_true,true_and,qeH,evA]
def qml(q:IntKind)(x m:Int):Int:=x.fdiv (2 ^ min m.toNat q.bits)
def qqa(q:IntKind)(x m:Int):Int:=q.wrap (x*2 ^ min m.toNat q.bits)
def qyt{q2:IntKind}:xq qL .shr (.i q n) (.i q2 m) k↔ifK (0<=m) (evA (.i q (qml q n m)) k):=by
 cases m with
 | ofNat m =>
  show qw (min m q.bits) (λa=>xQ (n.fdiv (p2 a)) (λr=>k (.i q r)))↔_
  rw[qD,zA,qrY];exact⟨λh=>⟨by simp_all,h⟩,λh=>h.2⟩
 | negSucc m=>exact⟨λh=>h.elim,λh=>absurd h.1 (by omega)⟩
def qys{q2:IntKind}:xq qL .shl (.i q n) (.i q2 m) k↔ifK (0<=m) (evA (.i q (qqa q n m)) k):=by
 cases m with
 | ofNat m =>
  show qw (min m q.bits) (λa=>xQ (q.wrap (n*p2 a)) (λr=>k (.i q r)))↔_
  rw[qD,zA,qrY];exact⟨λh=>⟨by simp_all,h⟩,λh=>h.2⟩
 | negSucc m=>exact⟨λh=>h.elim,λh=>absurd h.1 (by omega)⟩
def qly(x y:Int):eqI x y=decide (x=y):=by rw[qgz,Bool.eq_iff_iff];simp
def qkT(h:m≠0):xq qL .quo (.i q n) (.i q m) k↔evA (.i q (q.wrap (n.tdiv m))) k:=by
 simp only[xq,xo,qd,qd7,zA,decide_true,true_and,qly,decide_eq_false h];exact Iff.rfl
def qcq(h:m≠0):xq qL .rem (.i q n) (.i q m) k↔evA (.i q (n.tmod m)) k:=by
 simp only[xq,xo,qd,zA,decide_true,true_and,qly,decide_eq_false h];exact Iff.rfl
def qux:xq qL .eql (.s a) (.s c) k↔evA (.b (decide (a=c))) k:=by
 simp only[xq,qbV,qb8,qM,evA];rw[show(a==c)=decide (a=c)from by rw[Bool.eq_iff_iff];simp]
def quC:xq qL .neq (.s a) (.s c) k↔evA (.b (!decide (a=c))) k:=by
 simp only[xq,qbV,qb8,qM,evA];rw[show(a==c)=decide (a=c)from by rw[Bool.eq_iff_iff];simp]
def quw:xq qL .add (.s a) (.s c) k↔ifK (a.length+c.length<=9223372036854775807) (evA (.s (a++c)) k):=by
 show(Bool.rec (motive:=λ_=>Prop) False (k (.s (a++c))) (Nat.ble (a.length+c.length) 9223372036854775807):Prop)↔_
 rw[show(a.length+c.length<=9223372036854775807)=(Nat.ble (a.length+c.length) 9223372036854775807=true)from by simp_all]
 cases Nat.ble (a.length+c.length) 9223372036854775807
 .exact⟨False.elim,λh=>by cases h.1⟩
 .exact⟨λh=>⟨rfl,h⟩,λh=>h.2⟩
def quB:xq qL .lss (.s a) (.s c) k↔evA (.b (ltS a c)) k:=by simp only[xq,qbV,qM,evA]
def quy:xq qL .geq (.s a) (.s c) k↔evA (.b (!ltS a c)) k:=by simp only[xq,qbV,qM,evA]
def quA:xq qL .leq (.s a) (.s c) k↔evA (.b (ltS a c||decide (a=c))) k:=by
 simp only[xq,qbV,qb8,qM,evA];rw[show(a==c)=decide (a=c)from by rw[Bool.eq_iff_iff];simp]
def quz:xq qL .gtr (.s a) (.s c) k↔evA (.b (!(ltS a c||decide (a=c)))) k:=by
 simp only[xq,qbV,qb8,qM,evA];rw[show(a==c)=decide (a=c)from by rw[Bool.eq_iff_iff];simp]
def qFe{x:Bool}:qeD .not (.b x) k↔evA (.b (!x)) k:=by simp only[qeD,qM,evA]
def qFd:qeD .neg (.i q n) k↔evA (.i q (q.wrap (0-n))) k:=by simp only[qeD,zA,evA]
theorem qm{x:Int}(h1:-9223372036854775808<=x)(h2:x<=9223372036854775807):IntKind.wrap .i64 x=x:=by
 simp[IntKind.wrap,IntKind.bits,IntKind.signed];omega
theorem qeF{x:Int}(h1:0<=x)(h2:x<=18446744073709551615):IntKind.wrap .u64 x=x:=by
 simp[IntKind.wrap,IntKind.bits,IntKind.signed];omega
theorem qeE{x:Int}(h1:0<=x)(h2:x<=4294967295):IntKind.wrap .u32 x=x:=by
 simp[IntKind.wrap,IntKind.bits,IntKind.signed];omega
theorem qxZ{x:Int}(h1:0<=x)(h2:x<=255):IntKind.wrap .u8 x=x:=by
 simp[IntKind.wrap,IntKind.bits,IntKind.signed];omega
def qIF:cvK qL q (.i q' n) k↔evA (.i q (q.wrap n)) k:=by
 show xQ (qjR q n) (λr=>k (.i q r))↔_
 exact qpf
end

def qDH{s f:Nat}{tr:Tr Blk}{x:Blk}{k:Nat->Hp->Prop}:jz ⟨s,f,tr⟩ x k↔evN (s+1) (λs'=>k s ⟨s',f,tr.set s x⟩):=by
 rw[z7];exact Iff.rfl
def qEs{s f b:Nat}{tr:Tr Blk}{x:Blk}{k:Hp->Prop}:qdo ⟨s,f,tr⟩ b x k↔ifK (f<=b) (k ⟨s,f,tr.set b x⟩):=qaC _ _ _ _
def qBD{s f:Nat}{tr:Tr Blk}:Hp.up ⟨s,f,tr⟩=⟨s,s,tr⟩:=rfl
def qrr{s f f':Nat}{tr:Tr Blk}:Hp.down ⟨s,f,tr⟩ f'=⟨s,f',tr⟩:=rfl
def qa9(x:Blk)(k:Nat->Bool->Bool->List AV->Prop):Prop:=match x with | .cells e w a cs=>k e w a cs|_=>False
@[congr] theorem qyF {x x':Blk} {k:Nat->Bool->Bool->List AV->Prop} {mk:Prop} (_:zm=mk) (h:x=x'):qa9 x k=qa9 x' k:=by rw[h]
theorem qnO{e:Nat}{w a:Bool}{cs:List AV}{k:Nat->Bool->Bool->List AV->Prop}:qa9 (.cells e w a cs) k↔k e w a cs:=Iff.rfl
def qhu{b:Nat}{k:Nat->Bool->Bool->List AV->Prop}:qar h b k↔evB (h.tr.get b) (λx=>qa9 x k):=by
 rw[zk];constructor
 .rintro⟨e,w,a,cs,h1,h2⟩;exact⟨_,h1,h2⟩
 .rintro⟨x,h1,h2⟩;cases x with
  | cells e w a cs=>exact⟨e,w,a,cs,h1,h2⟩
  | dead=>exact h2.elim
  | map es=>exact h2.elim
def qgl(cs:List AV)(o n:Nat)(k:List AV->Prop):Prop:=o<=cs.length/\n<=(cs.drop o).length/\k ((cs.drop o).take n)
@[congr] theorem qCB {cs:List AV} {o n:Nat} {k:List AV->Prop} {mk:Prop} (_:zm=mk):qgl cs o n k=qgl cs o n k:=rfl
theorem qyT{cs:List AV}{o n:Nat}{k:List AV->Prop}:qgl cs o n k↔ifK (o+n<=cs.length) (evL ((cs.drop o).take n) k):=by
 unfold qgl ifK;rw[List.length_drop];exact⟨fun⟨h1,h2,h3⟩=>⟨by omega,h3⟩,fun⟨h1,h2⟩=>⟨by omega,by omega,h2⟩⟩
theorem drop_take{cs:List AV}{o n:Nat}{k:List AV->Prop}:qc9 o cs (λl=>qcK n l k)↔qgl cs o n k:=by
 rw[zL,zH];exact Iff.rfl
def qwa{b o:Nat}{k:AV->Prop}:ldV h (.ptr b o) k↔evB (h.tr.get b) (λx=>qa9 x (λ_ _ _ cs=>evO cs[o]? k)):=by
 show qar h b (λ_ _ _ cs=>qiE cs o k)↔_
 rw[qhu]
 have:(λ(_:Nat) (_ _:Bool) (cs:List AV)=>qiE cs o k)=λ_ _ _ cs=>evO cs[o]? k:=by
  funext _ _ _ cs;exact propext (jd _ _ _)
 rw[this]
def qHh{cs:List AV}{o:Nat}{k:AV->Prop}:ldV h (.pf cs o) k↔evO cs[o]? k:=jd _ _ _
def qHf{b o:Nat}{k:AV->Prop}:ldK h b o k↔evB (h.tr.get b) (λx=>qa9 x (λ_ _ _ cs=>evO cs[o]? k)):=qwa
def qwb{b o n:Nat}{k:List AV->Prop}:qeV h b o n k↔evB (h.tr.get b) (λx=>qa9 x (λ_ _ _ cs=>qgl cs o n k)):=by
 show qar h b (λ_ _ _ cs=>qc9 o cs (λl=>qcK n l k))↔_
 rw[qhu]
 grind[drop_take]
def qzx{b o n:Nat}{k:List AV->Prop}:qkO h (.ptr b o) n k↔evB (h.tr.get b) (λx=>qa9 x (λ_ _ _ cs=>qgl cs o n k)):=qwb
def qDk{cs:List AV}{o n:Nat}{k:List AV->Prop}:qkO h (.pf cs o) n k↔qgl cs o n k:=drop_take
def qzI{b o n:Nat}{k:AV->Prop}:qiC (.ptr b o) n k↔evN (o+n) (λo'=>k (.ptr b o')):=xU (n:=o+n) (k:=λo'=>k (.ptr b o'))
def qDD{cs:List AV}{o n:Nat}{k:AV->Prop}:qiC (.pf cs o) n k↔evN (o+n) (λo'=>k (.pf cs o')):=xU (n:=o+n) (k:=λo'=>k (.pf cs o'))
@[congr] theorem qDC {p:AV} {n:Nat} {k:AV->Prop} {mk:Prop} (_:zm=mk):qiC p n k=qiC p n k:=rfl
theorem qJu{b o:Nat}{vs:List AV}{k:Hp->Prop}:stK h b o vs k↔evB (h.tr.get b) (λx=>qa9 x (λe w a cs=>ifK (w=true/\qF vs=true/\o+vs.length<=cs.length) (evL (cs.take o++(vs++cs.drop (o+vs.length))) (λcs'=>qdo h b (.cells e true a cs') k)))):=by
 show qar h b _↔_;rw[qhu]
 have:(λ(e:Nat) (w a:Bool) (cs:List AV)=>(Bool.rec (motive:=λ_=>Prop) False (Bool.rec (motive:=λ_=>Prop) False (ju vs o cs (λcs'=>qdo h b (.cells e w a cs') k)) (qF vs)) w:Prop)) =
   λe w a cs=>ifK (w=true/\qF vs=true/\o+vs.length<=cs.length) (evL (cs.take o++(vs++cs.drop (o+vs.length))) (λcs'=>qdo h b (.cells e true a cs') k)):=by
  funext e w a cs;refine propext ?_;cases w with
  | false=>exact⟨False.elim,λhh=>by have:=hh.1.1;grind⟩
  | true =>
   cases hc:qF vs with
   | false=>exact⟨False.elim,λhh=>by have:=hh.1.2.1;grind⟩
   | true=>exact(jL _ _ _ _).trans ⟨fun⟨h1,h2⟩=>⟨⟨rfl,rfl,h1⟩,h2⟩,fun⟨⟨_,_,h1⟩,h2⟩=>⟨h1,h2⟩⟩
 rw[this]
def stV(h:Hp)(b o:Nat)(v:AV)(n:Nat)(k:Hp->Prop):Prop:=qo (qcR v) (qhO (cellsOf v) (λm=>qo (Nat.beq m n) (stK h b o (cellsOf v) k)))
@[congr] theorem qF0 {b o:Nat} {v:AV} {n:Nat} {k:Hp->Prop} {mk:Prop} (_:zm=mk):stV h b o v n k=stV h b o v n k:=rfl
theorem qhq{x y:Nat}:Nat.beq x y=true↔x=y:=(by simp_all)
def qAD{b o:Nat}{v:AV}{n:Nat}{k:Hp->Prop}:stV h b o v n k↔ifK (qcR v=true) (evL (cellsOf v) (λcs=>ifK (cs.length=n) (stK h b o cs k))):=by
 unfold stV;rw[qd,wj,qd,qhq];exact Iff.rfl
def jp{x y:Nat}:Nat.ble x y=true↔x<=y:=by simp_all

def qEg{x:O}:opK qL (.mov x) t h k↔evK t x (λv=>k v h):=Iff.rfl
def qeZ{b:Bool}{p q:Prop}:(Bool.rec (motive:=λ_=>Prop) q p b:Prop)↔if b=true then p else q:=by cases b<;>simp
def qz1{c x y:O}:opK qL (.pick c x y) t h k↔evK t c (λc=>unB c (λc=>if c=true then evK t x (λv=>k v h)else evK t y (λv=>k v h))):=by
 show evK t c (λc=>unB c (λc=>Bool.rec (motive:=λ_=>Prop) (evK t y (λv=>k v h)) (evK t x (λv=>k v h)) c))↔_
 simp only[qeZ]
def qwL{z:List AV}:opK qL (.alloc z) t h k↔jz h (.cells 0 true false z) (λb h'=>k (.ptr b 0) h'):=Iff.rfl
def qD4{x:O}:opK qL (.box x) t h k↔evK t x (λv=>qo (qcR v) (evL (cellsOf v) (λcs=>jz h (.cells 0 true false cs) (λb h'=>k (.ptr b 0) h')))):=Iff.rfl
def qwM{z:List AV}{ps:List (Nat×Nat×O)}:opK qL (.build z ps) t h k↔qah t ps z (λcs=>k (.agg cs) h):=Iff.rfl
def qtK{n:Nat}{z:List AV}{ps:List (Nat×Nat×O)}:opK qL (.buildS n z ps) t h k↔evL (List.replicate n z).flatten (λcs=>qah t ps cs (λcs=>jz h (.cells 0 true false cs) (λb h'=>k (.sl b 0 n n false) h'))):=by
 show qjD z n _↔_;rw[qaF];exact Iff.rfl
def qwQ{x:O}:opK qL (.load1 x) t h k↔evK t x (λp=>ldV h p (λv=>k v h)):=Iff.rfl
def qwR{n:Nat}{x:O}:opK qL (.loadN n x) t h k↔evK t x (λp=>qkO h p n (λcs=>k (.agg cs) h)):=Iff.rfl
def qwT{n:Nat}{x v:O}:opK qL (.store n x v) t h k↔evK t x (λp=>unP p (λb o=>evK t v (λv=>stV h b o v n (λh'=>k .undef h')))):=Iff.rfl
def qkG(v:AV)(k:AV->Prop):Prop:=match v with | .ptr b o=>k (.ptr b o) | .fn f a c=>k (.fn f a c) | .map r=>k (.map r) | .pf cs o=>k (.pf cs o) | .yl b=>k (.yl b)|_=>False
@[congr] theorem qBr {v:AV} {k:AV->Prop} {mk:Prop} (_:zm=mk):qkG v k=qkG v k:=rfl
theorem qtN{x:O}:opK qL (.nilChk x) t h k↔evK t x (λv=>qkG v (λv=>k v h)):=by
 show evK t x (λv=>_)↔_
 refine iff_of_eq (congrArg _ (funext λv=>?_))
 cases v<;>rfl
def qD3{op:BinOp}{x y:O}:opK qL (.bin op x y) t h k↔evK t x (λx=>evK t y (λy=>xq qL op x y (λv=>k v h))):=Iff.rfl
def qD7{neg:Bool}{q:NK}{x:O}:opK qL (.eqN neg q x) t h k↔evK t x (λx=>jm q x (λr=>evT (xor neg r) (λr=>k (.b r) h))):=by
 show evK t x (λx=>jm q x (λr=>qT _ _))↔_
 grind[qmY]
def qD6{neg:Bool}{ks:List PK}{x y:O}:opK qL (.eqA neg ks x y) t h k↔evK t x (λx=>evK t y (λy=>match x with | .agg a=>(match y with | .agg c=>jE ks a c (λr=>qT (xor neg r) (λr=>k (.b r) h))|_=>False)|_=>False)):=Iff.rfl
def qHG{op:UnOp}{x:O}:opK qL (.un op x) t h k↔evK t x (λx=>qeD op x (λv=>k v h)):=Iff.rfl
def qwO{q:IntKind}{x:O}:opK qL (.cvInt q x) t h k↔evK t x (λx=>cvK qL q x (λv=>k v h)):=Iff.rfl
@[congr] theorem qFu {q:IntKind} {x:AV} {k:AV->Prop} {mk:Prop} (_:zm=mk):cvK qL q x k=cvK qL q x k:=rfl
theorem qwP{off:Nat}{x:O}:opK qL (.fAddr off x) t h k↔evK t x (λp=>qiC p off (λv=>k v h)):=Iff.rfl
def qvx(off:Nat)(n:Option Nat)(x:AV)(k:AV->Prop):Prop:=match x with
 | .agg cs=>(match n with|none=>evO cs[off]? k|some n=>qgl cs off n (λl=>k (.agg l)))
 | _=>False
@[congr] theorem qCV {off:Nat} {n:Option Nat} {x:AV} {k:AV->Prop} {mk:Prop} (_:zm=mk):qvx off n x k=qvx off n x k:=rfl
theorem qvy{off:Nat}{cs:List AV}{k:AV->Prop}:qvx off none (.agg cs) k↔evO cs[off]? k:=Iff.rfl
def qvz{off n:Nat}{cs:List AV}{k:AV->Prop}:qvx off (some n) (.agg cs) k↔qgl cs off n (λl=>k (.agg l)):=Iff.rfl
def qD9{off:Nat}{n:Option Nat}{x:O}:opK qL (.fld off n x) t h k↔evK t x (λx=>qvx off n x (λv=>k v h)):=by
 show evK t x (λx=>_)↔_
 refine iff_of_eq (congrArg _ (funext λv=>?_))
 cases v<;>first|rfl|skip
 cases n with
 | none=>exact propext (jd _ _ _)
 | some n=>exact propext drop_take
def qtL{len esz:Nat}{x i:O}:opK qL (.iAddrA len esz x i) t h k↔evK t x (λp=>evK t i (λi=>unN i (λi=>ifK (i<len) (evN (i*esz) (λo=>qiC p o (λv=>k v h)))))):=by
 show evK t x (λp=>evK t i (λi=>unN i (λi=>qo (Nat.ble (Nat.succ i) len) _)))↔_
 simp only[qd,jp];exact Iff.rfl
def ixK(esz:Nat)(x:AV)(i:Nat)(k:AV->Prop):Prop:=match x with
 | .sl b o len _ _=>ifK (i<len) (evN (o+i*esz) (λo'=>k (.ptr b o')))
 | .fz len cs=>ifK (i<len) (evN (i*esz) (λo'=>k (.pf cs o')))
 | .own b len=>ifK (i<len) (evN (i*esz) (λo'=>k (.ptr b o')))
 | _=>False
@[congr] theorem qFH {esz i:Nat} {x:AV} {k:AV->Prop} {mk:Prop} (_:zm=mk):ixK esz x i k=ixK esz x i k:=rfl
theorem qHa{esz i b o len cap:Nat}{l:Bool}{k:AV->Prop}:ixK esz (.sl b o len cap l) i k↔ifK (i<len) (evN (o+i*esz) (λo'=>k (.ptr b o'))):=Iff.rfl
def qG9{esz i len:Nat}{cs:List AV}{k:AV->Prop}:ixK esz (.fz len cs) i k↔ifK (i<len) (evN (i*esz) (λo'=>k (.pf cs o'))):=Iff.rfl
def qDd{esz i b len:Nat}{k:AV->Prop}:ixK esz (.own b len) i k↔ifK (i<len) (evN (i*esz) (λo'=>k (.ptr b o'))):=Iff.rfl
def qm5(x:AV)(p:Prop):Prop:=match x with | .sl _ _ _ _ _=>p | .fz _ _=>p | .own _ _=>p|_=>False
@[congr] theorem qBj {x:AV} {p:Prop} {mk:Prop} (_:zm=mk):qm5 x p=qm5 x p:=rfl
theorem qv3{b o len cap:Nat}{l:Bool}{p:Prop}:qm5 (.sl b o len cap l) p↔p:=Iff.rfl
def qv2{len:Nat}{cs:List AV}{p:Prop}:qm5 (.fz len cs) p↔p:=Iff.rfl
def qtl{b len:Nat}{p:Prop}:qm5 (.own b len) p↔p:=Iff.rfl
def qtM{esz:Nat}{x i:O}:opK qL (.iAddrS esz x i) t h k↔evK t x (λx=>qm5 x (evK t i (λi=>unN i (λi=>ixK esz x i (λv=>k v h))))):=by
 show evK t x (λx=>_)↔_
 refine iff_of_eq (congrArg _ (funext λv=>?_))
 cases v<;>first|rfl|(simp only[qd,jp,xU];rfl)
def qzZ{len esz:Nat}{agg:Bool}{x i:O}:opK qL (.idxA len esz agg x i) t h k↔evK t x (λx=>match x with
  | .agg cs=>evK t i (λi=>unN i (λi=>ifK (i<len) (evN (i*esz) (λo=>if agg=true then qgl cs o esz (λl=>k (.agg l) h)else evO cs[o]? (λv=>k v h)))))
  | _=>False):=by
 show evK t x (λx=>_)↔_
 refine iff_of_eq (congrArg _ (funext λv=>?_))
 cases v<;>first|rfl|skip
 simp only[qd,jp,xU,qeZ,drop_take];have:∀(cs:List AV) (o:Nat),qiE cs o (λv=>k v h)=evO cs[o]? (λv=>k v h):=λcs o=>propext (jd _ _ _)
 simp only[this];rfl
def evC(o:Option UInt8)(k:UInt8->Prop):Prop:=∃v,o=some v/\k v
@[congr] theorem qFy {o o':Option UInt8} {k:UInt8->Prop} {mk:Prop} (_:zm=mk) (h:o=o'):evC o k=evC o' k:=by rw[h]
theorem qo9{v:UInt8}{k:UInt8->Prop}:evC (some v) k↔k v:=by simp[evC]
def qz0{x i:O}:opK qL (.idxS x i) t h k↔evK t x (λx=>match x with
  | .s a=>evK t i (λi=>unN i (λi=>evC a[i]? (λc=>k (.i .u8 (c.toNat:Int)) h)))
  | _=>False):=by
 show evK t x (λx=>_)↔_
 refine iff_of_eq (congrArg _ (funext λv=>?_))
 cases v<;>first|rfl|skip
 rename_i a
 have e:∀(j:Nat),(Option.rec (motive:=λ_=>Prop) False (λc=>k (.i .u8 (Int.ofNat c.toNat)) h) (a[j]?):Prop)=evC a[j]? (λc=>k (.i .u8 (c.toNat:Int)) h):=by
  intro j;cases ha:a[j]? with
  | none=>exact propext ⟨False.elim,fun⟨_,h1,_⟩=>by cases h1⟩
  | some c=>exact(propext (qo9 (k:=λc=>k (.i .u8 (c.toNat:Int)) h) (v:=c))).symm
 simp_all
def bdK(x:Option AV)(dflt top:Nat)(k:Nat->Prop):Prop:=qiX x dflt top k
@[congr] theorem qFo {x:Option AV} {a b:Nat} {k:Nat->Prop} {mk:Prop} (_:zm=mk):bdK x a b k=bdK x a b k:=rfl
theorem qkS{a b:Nat}{k:Nat->Prop}:bdK none a b k↔k a:=Iff.rfl
def qrk{v:AV}{a b:Nat}{k:Nat->Prop}:bdK (some v) a b k↔unN v (λn=>ifK (n<=b) (k n)):=by
 show unN v (λn=>qo (Nat.ble n b) (qw n k))↔_
 simp only[qd,jp,qD];exact Iff.rfl
def qyx{len cap:Nat}{lo:Option AV}{k:Nat->Nat->Nat->Prop}:xf len cap lo none none k↔ifK (len<=cap) (bdK lo 0 len (λl=>k l len cap)):=by
 show qo (Nat.ble len cap) (qiX lo 0 len (λl=>k l len cap))↔_
 rw[qd,jp];exact Iff.rfl
def qrm{len cap:Nat}{lo:Option AV}{hi:AV}{k:Nat->Nat->Nat->Prop}:xf len cap lo (some hi) none k↔unN hi (λu=>ifK (u<=cap) (bdK lo 0 u (λl=>k l u cap))):=by
 show unN hi (λu=>qo (Nat.ble u cap) (qw u (λu=>qiX lo 0 u (λl=>k l u cap))))↔_
 simp only[qd,jp,qD];exact Iff.rfl
def qkV{len cap:Nat}{lo:Option AV}{hi mx:AV}{k:Nat->Nat->Nat->Prop}:xf len cap lo (some hi) (some mx) k↔unN mx (λm=>ifK (m<=cap) (unN hi (λu=>ifK (u<=m) (bdK lo 0 u (λl=>k l u m))))):=by
 show unN mx (λm=>qo (Nat.ble m cap) (qw m (λm=>unN hi (λu=>qo (Nat.ble u m) (qw u (λu=>qiX lo 0 u (λl=>k l u m)))))))↔_
 simp only[qd,jp,qD];exact Iff.rfl
def slK(esz:Nat)(lo hi mx:Option AV)(x:AV)(h:Hp)(k:AV->Prop):Prop:=match x with
 | .nils=>xf 0 0 lo hi mx (λ_ _ _=>k .nils)
 | .e0=>xf 0 0 lo hi mx (λ_ _ _=>k .e0)
 | .fz n cs=>xf n n lo hi mx (λl h' m=>if(mx.isSome&&Nat.beq m l)=true then k .e0 else evN (l*esz) (λo=>evN (h'-l) (λlen'=>evN (len'*esz) (λz=>qgl cs o z (λl2=>k (.fz len' l2))))))
 | .sl b o len cap loose=>xf len cap lo hi mx (λl h' m=>evN (if(loose&&mx.isNone)=false/\m=l then o else o+l*esz) (λo'=>evN (h'-l) (λlen'=>evN (m-l) (λcap'=>qkK h b esz (loose&&mx.isNone) (k (.sl b o' len' cap' (loose&&mx.isNone)))))))
 | .own b n=>match mx with
  | none=>if n=0 then xf 0 0 lo hi none (λ_ _ _=>k (.own b 0))else xf n n lo hi none (λl h' m=>evN (l*esz) (λo'=>evN (h'-l) (λlen'=>evN (m-l) (λcap'=>qkK h b esz true (k (.sl b o' len' cap' true))))))
  | some u=>if n=0 then xf 0 0 lo hi (some u) (λ_ _ _=>k (.own b 0))else xf n n lo hi (some u) (λl h' m=>evN (if m=l then 0 else l*esz) (λo'=>evN (h'-l) (λlen'=>evN (m-l) (λcap'=>k (.sl b o' len' cap' false)))))
 | _=>False
@[congr] theorem qFY {esz:Nat} {lo hi mx:Option AV} {x:AV} {k:AV->Prop} {mk:Prop} (_:zm=mk):slK esz lo hi mx x h k=slK esz lo hi mx x h k:=rfl
@[congr] theorem qCM {b esz:Nat} {c:Bool} {p:Prop} {mk:Prop} (_:zm=mk):qkK h b esz c p=qkK h b esz c p:=rfl
theorem qs4{b esz:Nat}{p:Prop}:qkK h b esz false p↔p:=Iff.rfl
def qvn{b esz:Nat}{p:Prop}:qkK h b esz true p↔evB (h.tr.get b) (λx=>qa9 x (λe _ _ _=>ifK (e=esz) p)):=by
 show qar h b (λe _ _ _=>qo (Nat.beq e esz) p)↔_
 rw[qhu];simp only[qd,qhq];exact Iff.rfl
def qAz{esz:Nat}{lo hi mx:Option AV}{k:AV->Prop}:slK esz lo hi mx .nils h k↔xf 0 0 lo hi mx (λ_ _ _=>k .nils):=Iff.rfl
def qHT{esz:Nat}{lo hi mx:Option AV}{k:AV->Prop}:slK esz lo hi mx .e0 h k↔xf 0 0 lo hi mx (λ_ _ _=>k .e0):=Iff.rfl
def qHU{esz n:Nat}{cs:List AV}{lo hi:Option AV}{k:AV->Prop}:slK esz lo hi none (.fz n cs) h k↔xf n n lo hi none (λl h' _=>evN (l*esz) (λo=>evN (h'-l) (λlen'=>evN (len'*esz) (λz=>qgl cs o z (λl2=>k (.fz len' l2)))))):=by
 simp only[slK,Option.isSome_none,Bool.false_and,Bool.false_eq_true,if_false]
def qET{esz b o len cap:Nat}{lo hi mx:Option AV}{k:AV->Prop}:slK esz lo hi mx (.sl b o len cap false) h k↔xf len cap lo hi mx (λl1 h' m=>evN (if m=l1 then o else o+l1*esz) (λo'=>evN (h'-l1) (λlen'=>evN (m-l1) (λcap'=>k (.sl b o' len' cap' false))))):=by
 simp only[slK,Bool.false_and,true_and];exact Iff.rfl
def qEU{esz b o len cap:Nat}{lo hi:Option AV}{k:AV->Prop}:slK esz lo hi none (.sl b o len cap true) h k↔xf len cap lo hi none (λl1 h' m=>evN (o+l1*esz) (λo'=>evN (h'-l1) (λlen'=>evN (m-l1) (λcap'=>qkK h b esz true (k (.sl b o' len' cap' true)))))):=by
 simp only[slK,Option.isNone_none,Bool.and_self,Bool.true_eq_false,false_and,if_false]
def qES{esz b n:Nat}{lo hi:Option AV}{k:AV->Prop}:slK esz lo hi none (.own b n) h k↔if n=0 then xf 0 0 lo hi none (λ_ _ _=>k (.own b 0))else xf n n lo hi none (λl h' m=>evN (l*esz) (λo'=>evN (h'-l) (λlen'=>evN (m-l) (λcap'=>qkK h b esz true (k (.sl b o' len' cap' true)))))):=by
 exact Iff.rfl
def qz3{esz:Nat}{x:O}{lo hi mx:Option O}:opK qL (.slcS esz x lo hi mx) t h k↔evK t x (λx=>qcG t lo (λlo=>qcG t hi (λhi=>qcG t mx (λmx=>slK esz lo hi mx x h (λv=>k v h))))):=by
 show evK t x (λx=>_)↔_
 refine iff_of_eq (congrArg _ (funext λv=>congrArg _ (funext λlo=>congrArg _ (funext λhi=>congrArg _ (funext λmx=>?_)))))
 cases v<;>first|rfl|skip
 .simp only[slK,xU];rfl
 .have e:∀(cs:List AV) (o m:Nat),qc9 o cs (λl1=>evN m (λlen'=>qcK (Nat.mul len' esz) l1 (λl2=>k (.fz len' l2) h)))=evN m (λlen'=>evN (len'*esz) (λz=>qgl cs o z (λl2=>k (.fz len' l2) h))):=by
   intro cs o m;refine propext ⟨λhh=>?_,λhh=>?_⟩
   .obtain⟨h1,h2⟩:=(zL _ _ _).1 hh;obtain⟨h3,h4⟩:=(zH _ _ _).1 h2;exact⟨h1,h3,h4⟩
   .obtain⟨h1,h3,h4⟩:=hh;exact(zL _ _ _).2 ⟨h1,(zH _ _ _).2 ⟨h3,h4⟩⟩
  simp only[slK,xU,qeZ,e];rfl
 .rename_i b n;cases mx with
  | some m =>
   cases n with
   | zero=>simp only[slK,if_true];rfl
   | succ n=>simp only[slK,Nat.succ_ne_zero,if_false,xU];rfl
  | none =>
   cases n with
   | zero=>simp only[slK,if_true];rfl
   | succ n=>simp only[slK,Nat.succ_ne_zero,if_false,xU];rfl
def qz2{len esz:Nat}{x:O}{lo hi mx:Option O}:opK qL (.slcA len esz x lo hi mx) t h k↔evK t x (λp=>unP p (λb o=>qcG t lo (λlo=>qcG t hi (λhi=>qcG t mx (λmx =>
   xf len len lo hi mx (λl h' m=>evN (if m=l then o else o+l*esz) (λo'=>evN (h'-l) (λlen'=>evN (m-l) (λcap'=>k (.sl b o' len' cap' false) h))))))))):=by
 show evK t x (λp=>unP p (λb o=>qcG t lo (λlo=>qcG t hi (λhi=>qcG t mx (λmx=>xf len len lo hi mx (λl h' m=>qw (if m=l then o else Nat.add o (Nat.mul l esz)) _))))))↔_
 simp only[xU];simp_all
def qD8{x:O}{i:Nat}:opK qL (.ext x i) t h k↔evK t x (λx=>match x with | .tup cs=>evO cs[i]? (λv=>k v h)|_=>False):=by
 show evK t x (λx=>_)↔_
 refine iff_of_eq (congrArg _ (funext λv=>?_))
 cases v<;>first|rfl|exact propext (jd _ _ _)
def qEd{f:Nat}{a c:List O}:opK qL (.mkF f a c) t h k↔qaq t a (λa=>qaq t c (λc=>k (.fn f a c) h)):=Iff.rfl
def qEf{e bytes:Nat}{z:List AV}{len cap:O}:opK qL (.mkS e bytes z len cap) t h k↔evK t len (λlen=>evK t cap (λcap=>unN len (λl=>unN cap (λc=>ifK (l<=c) (ifK (c<=qf) (ifK (bytes*c<=qf) (evL (List.replicate c z).flatten (λcs=>jz h (.cells 0 true false cs) (λb h'=>k (.sl b 0 l c false) h'))))))))):=by
 show evK t len (λlen=>evK t cap (λcap=>unN len (λl=>unN cap (λc=>qo (Nat.ble l c) (qo (Nat.ble c qf) (qo (Nat.ble (Nat.mul bytes c) qf) (qjD z c _)))))))↔_
 simp only[qd,jp,qaF];exact Iff.rfl
def lnK(str:Bool)(x:AV)(k:AV->Prop):Prop:=match x,str with
 | .nils,false=>k (.i .i64 0)
 | .e0,false=>k (.i .i64 0)
 | .nz,false=>k (.i .i64 0)
 | .fz n _,false=>evA (.i .i64 (n:Int)) k
 | .own _ n,false=>evA (.i .i64 (n:Int)) k
 | .sl _ _ n _ _,false=>evA (.i .i64 (n:Int)) k
 | .s a,true=>evA (.i .i64 (a.length:Int)) k
 | _,_=>False
@[congr] theorem qFL {b:Bool} {x:AV} {k:AV->Prop} {mk:Prop} (_:zm=mk):lnK b x k=lnK b x k:=rfl
theorem qEa{str:Bool}{x:O}:opK qL (.len str x) t h k↔evK t x (λx=>lnK str x (λv=>k v h)):=by
 show evK t x (λx=>_)↔_
 refine iff_of_eq (congrArg _ (funext λv=>?_))
 cases v<;>cases str<;>first|rfl|exact qD _ _
def qzz{k:AV->Prop}:lnK false .nils k↔k (.i .i64 0):=Iff.rfl
def qHk{k:AV->Prop}:lnK false .nz k↔k (.i .i64 0):=Iff.rfl
def qHi{k:AV->Prop}:lnK false .e0 k↔k (.i .i64 0):=Iff.rfl
def qHj{n:Nat}{cs:List AV}{k:AV->Prop}:lnK false (.fz n cs) k↔evA (.i .i64 (n:Int)) k:=Iff.rfl
def qDq{b n:Nat}{k:AV->Prop}:lnK false (.own b n) k↔evA (.i .i64 (n:Int)) k:=Iff.rfl
def qHl{b o n c:Nat}{l:Bool}{k:AV->Prop}:lnK false (.sl b o n c l) k↔evA (.i .i64 (n:Int)) k:=Iff.rfl
def qIS{a:List UInt8}{k:AV->Prop}:lnK true (.s a) k↔evA (.i .i64 (a.length:Int)) k:=Iff.rfl
def qD2{esz bytes:Nat}{c:Bool}{s x:O}:opK qL (.app esz bytes c s x) t h k↔evK t s (λs=>evK t x (λx=>qhL h esz bytes c s x k)):=Iff.rfl
def qqs(esz bytes:Nat)(z:List AV)(h:Hp)(s:AV)(n:Nat)(k:AV->Hp->Prop):Prop:=match s with
  | .sl b o len cap false=>evN (len+n) (λneed=>ifK (cap<need) (ifK (need<=qf) (ifK (need*bytes<=qf) (evN (len*esz) (λm=>qeV h b o m (λold=>evL (old++(List.replicate n z).flatten) (λcs=>jz h (.cells esz true true cs) (λb' h'=>k (.own b' need) h'))))))))
  | .nils=>ifK (1<=n) (ifK (n<=qf) (ifK (n*bytes<=qf) (evL ((List.replicate n z).flatten) (λcs=>jz h (.cells esz true true cs) (λb' h'=>k (.own b' n) h')))))
  | _=>False
@[congr] theorem qB4 {esz bytes n:Nat} {z:List AV} {s:AV} {mk:Prop} (_:zm=mk):qqs esz bytes z h s n k=qqs esz bytes z h s n k:=rfl
theorem qB5{esz bytes b o len cap n:Nat}{z:List AV}:qqs esz bytes z h (.sl b o len cap false) n k↔evN (len+n) (λneed=>ifK (cap<need) (ifK (need<=qf) (ifK (need*bytes<=qf) (evN (len*esz) (λm=>qeV h b o m (λold=>evL (old++(List.replicate n z).flatten) (λcs=>jz h (.cells esz true true cs) (λb' h'=>k (.own b' need) h')))))))):=Iff.rfl
def qut{esz bytes n:Nat}{z:List AV}:qqs esz bytes z h .nils n k↔ifK (1<=n) (ifK (n<=qf) (ifK (n*bytes<=qf) (evL ((List.replicate n z).flatten) (λcs=>jz h (.cells esz true true cs) (λb' h'=>k (.own b' n) h'))))):=Iff.rfl
def qzY{esz bytes:Nat}{z:List AV}{s x:O}:opK qL (.appZ esz bytes z s x) t h k↔evK t s (λs=>evK t x (λx=>unN x (λn=>qqs esz bytes z h s n k))):=by
 show evK t s (λs=>evK t x (λx=>unN x (λn=>_)))↔_
 refine iff_of_eq (congrArg _ (funext λv=>congrArg _ (funext λx=>congrArg _ (funext λn=>propext ?_))))
 cases v<;>first|exact Iff.rfl|skip
 .simp only[qqs,qd,jp,qaF,ifK,evL];rfl
 rename_i b o len cap loose;cases loose with
 | true=>exact⟨λhh=>absurd ((qd (!true) _).1 hh).1 (by simp),False.elim⟩
 | false =>
  simp only[qqs,qd,jp,qaF,jX,Bool.not_false,true_and,evN,ifK,evL];rfl
def qsY{esz:Nat}{s:AV}:qmR h esz .nils s k↔qco h esz s (λ_ _=>k (.i .i64 0) h):=Iff.rfl
def qyR{esz b o len c:Nat}{l:Bool}{s:AV}:qmR h esz (.sl b o len c l) s k↔qco h esz s (λn new=>evN (min n len) (λm=>evN (m*esz) (λz=>qgl new 0 z (λcs=>stK h b o cs (λh'=>evA (.i .i64 (m:Int)) (λv=>k v h')))))):=by
 show qco h esz s (λn new=>qw (min n len) (λm=>qcK (Nat.mul m esz) new (λcs=>stK h b o cs (λh'=>k (.i .i64 (Int.ofNat m)) h'))))↔_
 simp only[xU];refine iff_of_eq (congrArg _ (funext λn=>funext λnew=>congrArg _ (funext λm=>propext ?_)))
 exact(zH _ _ _).trans ⟨λhh=>⟨Nat.zero_le _,by simpa[evA]using hh⟩,λhh=>by simpa[evN,qgl,evA]using hh⟩
def qEc{x y:O}:opK qL (.min x y) t h k↔evK t x (λx=>evK t y (λy=>unI x (λq n=>unI y (λ_ m=>evA (.i q (if m<n then m else n)) (λv=>k v h))))):=by
 have e:∀(q:IntKind) (n m:Int),(Bool.rec (motive:=λ_=>Prop) (k (.i q n) h) (k (.i q m) h) (ltI m n):Prop)=evA (.i q (if m<n then m else n)) (λv=>k v h):=by
  intro q n m;rw[qcZ]
  by_cases hlt:m<n
  .rw[decide_eq_true hlt,if_pos hlt];rfl
  .rw[decide_eq_false hlt,if_neg hlt];rfl
 show evK t x (λx=>evK t y (λy=>unI x (λq n=>unI y (λ_ m=>Bool.rec (motive:=λ_=>Prop) (k (.i q n) h) (k (.i q m) h) (ltI m n)))))↔_
 simp_all
def qEb{x y:O}:opK qL (.max x y) t h k↔evK t x (λx=>evK t y (λy=>unI x (λq n=>unI y (λ_ m=>evA (.i q (if n<m then m else n)) (λv=>k v h))))):=by
 have e:∀(q:IntKind) (n m:Int),(Bool.rec (motive:=λ_=>Prop) (k (.i q n) h) (k (.i q m) h) (ltI n m):Prop)=evA (.i q (if n<m then m else n)) (λv=>k v h):=by
  intro q n m;rw[qcZ]
  by_cases hlt:n<m
  .rw[decide_eq_true hlt,if_pos hlt];rfl
  .rw[decide_eq_false hlt,if_neg hlt];rfl
 show evK t x (λx=>evK t y (λy=>unI x (λq n=>unI y (λ_ m=>Bool.rec (motive:=λ_=>Prop) (k (.i q n) h) (k (.i q m) h) (ltI n m)))))↔_
 simp_all
def qqD(z:List AV)(x:AV)(h:Hp)(k:AV->Hp->Prop):Prop:=match x with
  | .nils=>k (.tup []) h
  | .sl b o n _ _=>if n=0 then k (.tup []) h else evL (List.replicate n z).flatten (λcs=>stK h b o cs (λh'=>k (.tup []) h'))
  | _=>False
@[congr] theorem qCy {z:List AV} {x:AV} {mk:Prop} (_:zm=mk):qqD z x h k=qqD z x h k:=rfl
theorem qu2{z:List AV}:qqD z .nils h k↔k (.tup []) h:=Iff.rfl
def qCz{z:List AV}{b o n c:Nat}{l:Bool}:qqD z (.sl b o n c l) h k↔if n=0 then k (.tup []) h else evL (List.replicate n z).flatten (λcs=>stK h b o cs (λh'=>k (.tup []) h')):=Iff.rfl
def qwN{z:List AV}{x:O}:opK qL (.clear z x) t h k↔evK t x (λx=>qqD z x h k):=by
 show evK t x (λx=>_)↔_
 refine iff_of_eq (congrArg _ (funext λv=>?_))
 cases v<;>first|rfl|skip
 rename_i b o n c l;cases n with
 | zero=>simp only[qqD,if_true];rfl
 | succ n=>simp only[qqD,qaF];rfl
def qEe:opK qL .mkM t h k↔jz h (.map []) (λb h'=>k (.map b) h'):=Iff.rfl
def qtO{n:Nat}{x v:O}{ps:List Nat}:opK qL (.storeD n x v ps) t h k↔evK t x (λp=>unP p (λb o=>xW t b ps (evK t v (λv=>stV h b o v n (λh'=>k .undef h'))))):=Iff.rfl
def qzX{esz bytes:Nat}{s x:O}{ps:List Nat}:opK qL (.appD esz bytes s x ps) t h k↔evK t s (λs=>evK t x (λx=>qbi t ps s (qhL h esz bytes true s x k))):=Iff.rfl
@[congr] theorem qAs {ps:List Nat} {s s':AV} {p:Prop} {mk:Prop} (_:zm=mk) (h':s=s'):qbi t ps s p=qbi t ps s' p:=by rw[h']
theorem qAt{ps:List Nat}{b m:Nat}{p:Prop}:qbi t ps (.own b m) p↔xW t b ps p:=Iff.rfl
def qEP{ps:List Nat}{b o m c:Nat}{l:Bool}{p:Prop}:qbi t ps (.sl b o m c l) p↔xW t b ps p:=Iff.rfl
def qEO{ps:List Nat}{m:Nat}{cs:List AV}{p:Prop}:qbi t ps (.fz m cs) p↔p:=Iff.rfl
def qxu{ps:List Nat}{p:Prop}:qbi t ps .nils p↔p:=Iff.rfl
def qEN{ps:List Nat}{p:Prop}:qbi t ps .e0 p↔p:=Iff.rfl
@[congr] theorem qyd {b:Nat} {ps:List Nat} {p:Prop} {mk:Prop} (_:zm=mk):xW t b ps p=xW t b ps p:=rfl
theorem qsF{b:Nat}{p:Prop}:xW t b [] p↔p:=Iff.rfl
def neK(b:Nat)(y:AV)(p:Prop):Prop:=match y with | .ptr b' _=>ifK (¬b'=b) p | .pf _ _=>p|_=>False
@[congr] theorem qFQ {b:Nat} {y:AV} {p:Prop} {mk:Prop} (_:zm=mk):neK b y p=neK b y p:=rfl
theorem qDE{b b' o:Nat}{p:Prop}:neK b (.ptr b' o) p↔ifK (¬b'=b) p:=Iff.rfl
def qHr{b o:Nat}{cs:List AV}{p:Prop}:neK b (.pf cs o) p↔p:=Iff.rfl
def qqp{b q:Nat}{ps:List Nat}{p:Prop}:xW t b (q::ps) p↔evO (t.get q) (λy=>neK b y (xW t b ps p)):=by
 refine(Tr.getK_iff _ _ _).trans (iff_of_eq (congrArg _ (funext λv=>?_)))
 refine congrArg _ ?_;cases v<;>first|rfl|skip
 rename_i b' o;refine propext ((qd _ _).trans ?_);show _/\_↔_/\_
 have:(!Nat.beq b' b)=true↔¬b'=b:=by
  rw[Bool.not_eq_true',<- Bool.not_eq_true,qhq]
 rw[this];exact Iff.rfl
def cpK(x:AV)(k:AV->Prop):Prop:=match x with
  | .nils=>k (.i .i64 0)
  | .e0=>k (.i .i64 0)
  | .sl _ _ _ c false=>evA (.i .i64 (c:Int)) k
  | _=>False
@[congr] theorem qFs {x:AV} {k:AV->Prop} {mk:Prop} (_:zm=mk):cpK x k=cpK x k:=rfl
theorem qD5{x:O}:opK qL (.cap x) t h k↔evK t x (λx=>cpK x (λv=>k v h)):=by
 show evK t x (λx=>_)↔_
 refine iff_of_eq (congrArg _ (funext λv=>?_))
 cases v<;>first|rfl|skip
 rename_i l;cases l<;>rfl
def qyS{k:AV->Prop}:cpK .nils k↔k (.i .i64 0):=Iff.rfl
def qGS{k:AV->Prop}:cpK .e0 k↔k (.i .i64 0):=Iff.rfl
def qGT{b o n c:Nat}{k:AV->Prop}:cpK (.sl b o n c false) k↔evA (.i .i64 (c:Int)) k:=Iff.rfl
def qvt{l:List AV}{k:List AV->Prop}:qah t [] l k↔k l:=Iff.rfl
def qs8{off m:Nat}{x:O}{ps:List (Nat×Nat×O)}{l:List AV}{k:List AV->Prop}:qah t ((off,m,x)::ps) l k↔evK t x (λv=>ifK (qcR v=true) (evL (cellsOf v) (λcs=>ifK (cs.length=m/\off+cs.length<=l.length) (evL (l.take off++(cs++l.drop (off+cs.length))) (λl=>qah t ps l k))))):=by
 show evK t x (λv=>qo (qcR v) (qw off (λoff=>qhO (cellsOf v) (λn=>qo (Nat.beq n m) (ju (cellsOf v) off l (λl'=>qah t ps l' k))))))↔_
 simp only[qd,qD,wj,jL,qhq,ifK,evL,and_assoc]
def qxB{esz:Nat}{k:Nat->List AV->Prop}:qco h esz .nils k↔k 0 []:=Iff.rfl
def qE0{esz:Nat}{k:Nat->List AV->Prop}:qco h esz .nz k↔k 0 []:=Iff.rfl
def qEY{esz:Nat}{k:Nat->List AV->Prop}:qco h esz .e0 k↔k 0 []:=Iff.rfl
def qE2{esz b o n c:Nat}{l:Bool}{k:Nat->List AV->Prop}:qco h esz (.sl b o n c l) k↔evN (n*esz) (λm=>qeV h b o m (λcs=>k n cs)):=Iff.rfl
def qAC{esz b n:Nat}{k:Nat->List AV->Prop}:qco h esz (.own b n) k↔evN (n*esz) (λm=>qeV h b 0 m (λcs=>k n cs)):=Iff.rfl
def qEZ{esz n:Nat}{cs:List AV}{k:Nat->List AV->Prop}:qco h esz (.fz n cs) k↔evN (n*esz) (λm=>qgl cs 0 m (λcs=>k n cs)):=by
 refine(zH _ _ _).trans ⟨λhh=>⟨Nat.zero_le _,by simp_all⟩,λhh=>by simpa[evN,qgl]using hh⟩
def qHW{esz:Nat}{a:List UInt8}{k:Nat->List AV->Prop}:qco h esz (.s a) k↔ifK (esz=1) (k a.length (a.map λc=>.i .u8 (Int.ofNat c.toNat))):=by
 show qo (Nat.beq esz 1) (qw a.length _)↔_;rw[qd,qhq,qD];exact Iff.rfl
def qur{esz bytes:Nat}{c:Bool}{x:AV}:qhL h esz bytes c .nils x k↔qco h esz x (λn new=>ifK (n<=qf) (ifK (n*bytes<=qf) (jz h (.cells esz true true new) (λb h'=>k (.own b n) h')))):=by
 show qco h esz x (λn new=>qo (Nat.ble n qf) (qo (Nat.ble (Nat.mul n bytes) qf) _))↔_
 simp only[qd,jp];exact Iff.rfl
def qB1{esz bytes:Nat}{c:Bool}{x:AV}:qhL h esz bytes c .e0 x k↔qco h esz x (λn new=>ifK (n<=qf) (ifK (n*bytes<=qf) (jz h (.cells esz true true new) (λb h'=>k (.own b n) h')))):=by
 show qco h esz x (λn new=>qo (Nat.ble n qf) (qo (Nat.ble (Nat.mul n bytes) qf) _))↔_
 simp only[qd,jp];exact Iff.rfl
def qyf{esz bytes b m:Nat}{x:AV}:qhL h esz bytes true (.own b m) x k↔qco h esz x (λn new=>evN (m+n) (λneed=>ifK (need<=qf) (ifK (need*bytes<=qf) (evB (h.tr.get b) (λy=>qa9 y (λe w a ys =>
  ifK (qF new=true/\w=true/\a=true/\e=esz/\ys.length=m*esz) (evL (ys++new) (λcs'=>qdo h b .dead (λh1=>jz h1 (.cells esz true true cs') (λb' h'=>k (.own b' need) h')))))))))):=by
 show qco h esz x (λn new=>qw (Nat.add m n) (λneed=>qo (Nat.ble need qf) (qo (Nat.ble (Nat.mul need bytes) qf) (qar h b (λe w a ys=>_)))))↔_
 simp only[xU,qd,jp,qhq,qhu,wj,jX];refine iff_of_eq (congrArg _ (funext λn=>funext λnew=>?_))
 simp only[ifK,evN,evL,and_assoc];rfl
def qB3{esz bytes b o len cap:Nat}{c:Bool}{x:AV}:qhL h esz bytes c (.sl b o len cap false) x k↔qco h esz x (λn new=>evN (len+n) (λneed=>if need<=cap then
  (if n=0 then k (.sl b o need cap false) h else evN (o+len*esz) (λat_=>stK h b at_ new (λh'=>k (.sl b o need cap false) h')))
  else ifK (need<=qf) (ifK (need*bytes<=qf) (evN (len*esz) (λm=>qeV h b o m (λold=>evL (old++new) (λcs=>jz h (.cells esz true true cs) (λb' h'=>k (.own b' need) h')))))))):=by
 have e:∀(n:Nat) (p q:Prop),(Nat.rec (motive:=λ_=>Prop) p (λ_ _=>q) n:Prop)↔if n=0 then p else q:=by
  intro n p q;cases n with
  | zero=>rw[if_pos rfl];exact Iff.rfl
  | succ n=>rw[if_neg (by omega)]
 unfold qhL;dsimp only;simp only[Bool.not_false,xU,qst,jp,qeZ,jX,e,qpq];exact Iff.rfl
def qB2{esz bytes m:Nat}{c:Bool}{cs:List AV}{x:AV}:qhL h esz bytes c (.fz m cs) x k↔qco h esz x (λn _=>ifK (n=0) (k (.fz m cs) h)):=by
 show qco h esz x (λn _=>Nat.rec (motive:=λ_=>Prop) (k (.fz m cs) h) (λ_ _=>False) n)↔_
 refine iff_of_eq (congrArg _ (funext λn=>funext λnew=>?_))
 cases n<;>simp[ifK];rfl
def qwD{k:Bool->Prop}:jm .ptr .nilp k↔k true:=Iff.rfl
def qzL{b o:Nat}{k:Bool->Prop}:jm .ptr (.ptr b o) k↔k false:=Iff.rfl
def qDL{cs:List AV}{o:Nat}{k:Bool->Prop}:jm .ptr (.pf cs o) k↔k false:=Iff.rfl
def qDK{k:Bool->Prop}:jm .slice .nz k↔k false:=Iff.rfl
def qwE{k:Bool->Prop}:jm .slice .nils k↔k true:=Iff.rfl
def qDM{b o n c:Nat}{l:Bool}{k:Bool->Prop}:jm .slice (.sl b o n c l) k↔k false:=Iff.rfl
def qDJ{n:Nat}{cs:List AV}{k:Bool->Prop}:jm .slice (.fz n cs) k↔ifK (1<=n) (k false):=by
 show qo (Nat.ble 1 n) (k false)↔_;rw[qd,jp];exact Iff.rfl
def qzK{b n:Nat}{k:Bool->Prop}:jm .slice (.own b n) k↔ifK (1<=n) (k false):=by
 show qo (Nat.ble 1 n) (k false)↔_;rw[qd,jp];exact Iff.rfl
def qwB{k:Bool->Prop}:jm .func .nilf k↔k true:=Iff.rfl
def qDI{f:Nat}{a c:List AV}{k:Bool->Prop}:jm .func (.fn f a c) k↔k false:=Iff.rfl
def qwC{k:Bool->Prop}:jm .iface .nili k↔k true:=Iff.rfl
def qzJ{t:Nat}{v:AV}{k:Bool->Prop}:jm .iface (.ifc t v) k↔k false:=Iff.rfl
def qyY{x y:List AV}{k:Bool->Prop}:jE [] x y k↔k true:=Iff.rfl
def qvk{q:PK}{qs:List PK}{u v:AV}{us vs:List AV}{k:Bool->Prop}:jE (q::qs) (u::us) (v::vs) k↔jN q u v (λe=>if e=true then jE qs us vs k else k false):=by
 show jN q u v (λe=>Bool.rec (motive:=λ_=>Prop) (k false) (jE qs us vs k) e)↔_
 simp only[qeZ]
@[congr] theorem qx0 {q:PK} {x y:AV} {k:Bool->Prop} {mk:Prop} (_:zm=mk):jN q x y k=jN q x y k:=rfl
theorem qIJ{q:IntKind}{n m:Int}{k:Bool->Prop}:jN .i (.i q n) (.i q m) k↔evT (decide (n=m)) k:=by
 show qo (decide (q=q)) (qT (eqI n m) k)↔_;rw[qd,qly,qM];simp[evT]
def qIK{a c:List UInt8}{k:Bool->Prop}:jN .s (.s a) (.s c) k↔evT (decide (a=c)) k:=by
 show qT (eqS a c) k↔_;rw[qM,qb8,show(a==c)=decide (a=c)from by rw[Bool.eq_iff_iff];simp];exact Iff.rfl
def qII{a c:Bool}{k:Bool->Prop}:jN .b (.b a) (.b c) k↔evT (a==c) k:=by
 show qT (a==c) k↔_;rw[qM];exact Iff.rfl
def qvh{rs:List RV}{k:AV->Hp->Prop}:xk rs k .ret t h↔qe0 t h rs (λvs=>k (qfs vs) h):=Iff.rfl
def qo8{rs:List RV}{k:AV->Hp->Prop}:xk rs k .normal t h↔qe0 t h rs (λvs=>k (qfs vs) h):=Iff.rfl
@[congr] theorem qEI {rs:List RV} {k:List AV->Prop} {mk:Prop} (_:zm=mk):qe0 t h rs k=qe0 t h rs k:=rfl
theorem qAp{k:List AV->Prop}:qe0 t h [] k↔k []:=Iff.rfl
def qAq{n:Nat}{rs:List RV}{k:List AV->Prop}:qe0 t h (.tmp n::rs) k↔evO (t.get n) (λv=>qe0 t h rs (λvs=>k (v::vs))):=Tr.getK_iff _ _ _
def qxm{n size:Nat}{agg:Bool}{rs:List RV}{k:List AV->Prop}:qe0 t h (.cell n size agg::rs) k↔evO (t.get n) (λv=>unP v (λb o=>if agg=true then qeV h b o size (λcs=>qe0 t h rs (λvs=>k (.agg cs::vs)))else ldK h b o (λv=>qe0 t h rs (λvs=>k (v::vs))))):=by
 refine(Tr.getK_iff _ _ _).trans (iff_of_eq (congrArg _ (funext λv=>congrArg _ ?_)))
 cases v<;>first|rfl|skip
 cases agg<;>rfl
end Go.Kc
end
section
namespace Go.Kc
variable {P:Program} {n:Nat} {t:Tr AV} {h:Hp} {k:AV->Hp->Prop}

section
variable {r:Nat->Nat} {m:Nat} {v v':AV} {vs vs':List AV}
def qwG:NV r m v .undef↔True:=iff_true_intro (.undef _)
def qIV{x y:Bool}:NV r m (.b x) (.b y)↔x=y:=⟨λh=>by cases h;rfl,λh=>by subst h;exact .clo _ rfl⟩
def qIW{q q':IntKind}{x y:Int}:NV r m (.i q x) (.i q' y)↔q=q'/\x=y:=⟨λh=>by cases h<;>simp_all,fun⟨h,h'⟩=>by subst h h';exact .clo _ rfl⟩
def qIX{x y:List UInt8}:NV r m (.s x) (.s y)↔x=y:=⟨λh=>by cases h;rfl,λh=>by subst h;exact .clo _ rfl⟩
def qzR:NV r m .nilp .nilp↔True:=iff_true_intro (.clo _ rfl)
def qzS:NV r m .nils .nils↔True:=iff_true_intro (.clo _ rfl)
def qzO:NV r m .nilf .nilf↔True:=iff_true_intro (.clo _ rfl)
def qzP:NV r m .nili .nili↔True:=iff_true_intro (.clo _ rfl)
def qzQ:NV r m .nilm .nilm↔True:=iff_true_intro (.clo _ rfl)
def qHv:NV r m .e0 .e0↔True:=iff_true_intro (.clo _ rfl)
def qHy:NV r m .nz .nz↔True:=iff_true_intro (.clo _ rfl)
def qDS{x:Nat}{cs:List AV}:NV r m .e0 (.fz x cs)↔x=0/\cs=[]:=⟨λh=>by cases h<;>simp_all,fun⟨h,h'⟩=>by subst h h';exact .e0z⟩
def qwF{b' x':Nat}:NV r m .e0 (.own b' x')↔b'<m/\x'=0:=⟨λh=>by
  cases h<;>simp_all,fun⟨h1,h2⟩=>by subst h2;exact .e0own _ h1⟩
def qDX{b b' o x c x':Nat}{l:Bool}:NV r m (.sl b o x c l) (.own b' x')↔b'<m/\x=0/\c=0/\l=false/\x'=0:=⟨λh=>by
  cases h<;>simp_all,fun⟨h1,h2,h3,h4,h5⟩=>by subst h2 h3 h4 h5;exact .slz _ _ _ h1⟩
def qHx{x y:Nat}{cs ds:List AV}:NV r m (.fz x cs) (.fz y ds)↔x=y/\cs=ds:=⟨λh=>by cases h<;>simp_all,fun⟨h,h'⟩=>by subst h h';exact .clo _ rfl⟩
def qHz{x y:Nat}{cs ds:List AV}:NV r m (.pf cs x) (.pf ds y)↔cs=ds/\x=y:=⟨λh=>by cases h<;>simp_all,fun⟨h,h'⟩=>by subst h h';exact .clo _ rfl⟩
def qzT{x:Nat}{cs:List AV}:NV r m .nils (.fz x cs)↔x=0/\cs=[]:=⟨λh=>by cases h<;>simp_all,fun⟨h,h'⟩=>by subst h h';exact .nilz⟩
def qDW{b b' o o':Nat}:NV r m (.ptr b o) (.ptr b' o')↔r b'=b/\b'<m/\o=o':=⟨λh=>by
  cases h with
  | clo _ hc=>cases hc
  | ptr _ _ _ h1 h2=>omega,fun⟨h1,h2,h3⟩=>by subst h3;exact .ptr _ _ _ h1 h2⟩
def qHA{b b' o o' x x' c c':Nat}{l l':Bool}:NV r m (.sl b o x c l) (.sl b' o' x' c' l')↔r b'=b/\b'<m/\o=o'/\x=x'/\c=c'/\l=l':=⟨λh=>by
  cases h with
  | clo _ hc=>cases hc
  | sl _ _ _ _ _ _ h1 h2=>simp_all,fun⟨h1,h2,h3,h4,h5,h6⟩=>by subst h3 h4 h5 h6;exact .sl _ _ _ _ _ _ h1 h2⟩
def qDV{b b' x x':Nat}:NV r m (.own b x) (.own b' x')↔r b'=b/\b'<m/\x=x':=⟨λh=>by
  cases h with
  | clo _ hc=>cases hc
  | own _ _ _ h1 h2=>omega,fun⟨h1,h2,h3⟩=>by subst h3;exact .own _ _ _ h1 h2⟩
def qtJ{b' x':Nat}:NV r m .nils (.own b' x')↔b'<m/\x'=0:=⟨λh=>by
  cases h<;>simp_all,fun⟨h1,h2⟩=>by subst h2;exact .nilown _ h1⟩
def qDU{b b':Nat}:NV r m (.map b) (.map b')↔r b'=b/\b'<m:=⟨λh=>by
  cases h with
  | clo _ hc=>cases hc
  | map _ _ h1 h2=>omega,fun⟨h1,h2⟩=>.map _ _ h1 h2⟩
def qHB{b b':Nat}:NV r m (.yl b) (.yl b')↔r b'=b/\b'<m:=⟨λh=>by
  cases h with
  | clo _ hc=>cases hc
  | yl _ _ h1 h2=>omega,fun⟨h1,h2⟩=>.yl _ _ h1 h2⟩
def qzU:NVs r m [] []↔True:=iff_true_intro .nil
def qwH:NVs r m (v::vs) (v'::vs')↔NV r m v v'/\NVs r m vs vs':=⟨λh=>by
  cases h<;>simp_all,λh=>.cons _ _ _ _ h.1 h.2⟩
def qDR{cs cs':List AV}:NV r m (.agg cs) (.agg cs')↔NVs r m cs cs':=⟨λh=>by
  cases h with
  | clo _ hc=>exact NVs.refl (by simpa[clo]using hc)
  | agg _ _ h1=>exact h1,λh=>.agg _ _ h⟩
def qDY{cs cs':List AV}:NV r m (.tup cs) (.tup cs')↔NVs r m cs cs':=⟨λh=>by
  cases h with
  | clo _ hc=>exact NVs.refl (by simpa[clo]using hc)
  | tup _ _ h1=>exact h1,λh=>.tup _ _ h⟩
def qHw{f f':Nat}{a a' c c':List AV}:NV r m (.fn f a c) (.fn f' a' c')↔f=f'/\NVs r m a a'/\NVs r m c c':=⟨λh=>by
  cases h with
  | clo _ hc =>
   simp only[clo,zzB]at hc
   simp_all[NVs.refl]
  | fn _ _ _ _ _ h1 h2=>simp_all,fun⟨h1,h2,h3⟩=>by subst h1;exact .fn _ _ _ _ _ h2 h3⟩
def qDT{f f':Nat}:NV r m (.ifc f v) (.ifc f' v')↔f=f'/\NV r m v v':=⟨λh=>by
  cases h with
  | clo _ hc=>exact⟨rfl,.clo _ (by simpa[clo]using hc)⟩
  | ifc _ _ _ h1=>simp_all,fun⟨h1,h2⟩=>by subst h1;exact .ifc _ _ _ h2⟩
def qAP:TWs t r m []↔True:=Iff.rfl
def qxN{p:Nat×AV}{l:List (Nat×AV)}:TWs t r m (p::l)↔evO (t.get p.1) (λv=>NV r m v p.2)/\TWs t r m l:=Iff.rfl
def qyz:BWs h r m [] []↔True:=Iff.rfl
def quH{b:Nat}{x:Blk}{bs:List Nat}{xs:List Blk}:BWs h r m (b::bs) (x::xs)↔BW h r m b x/\BWs h r m bs xs:=Iff.rfl
def qCh{b:Nat}{x:Blk}(hb:h.sz<=b):BW h r m b x↔True:=iff_true_intro (.inl hb)
def qyy{b:Nat}:BW h r m b .dead↔True:=iff_true_intro (.inr (.inl rfl))
def qCi{b e:Nat}{w a:Bool}{cs':List AV}(hb:b<h.sz):BW h r m b (.cells e w a cs')↔evB (h.tr.get b) (λx=>qa9 x (λe0 w0 a0 cs=>e0=e/\(w=true->w0=true)/\(a=true->a0=true)/\NVs r m cs cs')):=by
 constructor
 .rintro (h1|h1|⟨e',w0,a0,cs,w',a',cs'',h1,h2,h3,h4,h5⟩|⟨es,es',h1,h2,h3⟩)
  .omega
  .cases h1
  .cases h2;exact⟨_,h1,rfl,h3,h4,h5⟩
  simp_all
 .rintro⟨x,h1,h2⟩;cases x with
  | cells e0 w0 a0 cs =>
   obtain⟨rfl,h3,h4,h5⟩:=h2;exact .inr (by grind)
  | dead=>exact h2.elim
  | map es=>exact h2.elim
end
def qhi{b d:Nat}{l:List Nat}:rl (b::l) d 0=b:=rfl
def qJo{b d i:Nat}{l:List Nat}:rl (b::l) d (i+1)=rl l d i:=rfl

section
variable {v v':AV} {vs vs':List AV}
def qvD:Frz h v .undef↔True:=iff_true_intro (.undef _)
def qIM{x y:Bool}:Frz h (.b x) (.b y)↔x=y:=⟨λh=>by cases h;rfl,λh=>by subst h;exact .b _⟩
theorem qG1{q q':IntKind}{x y:Int}:Frz h (.i q x) (.i q' y)↔q=q'/\x=y:=⟨λh=>by cases h<;>simp_all,fun⟨h,h'⟩=>by subst h h';exact .i _ _⟩
def qIN{x y:List UInt8}:Frz h (.s x) (.s y)↔x=y:=⟨λh=>by cases h;rfl,λh=>by subst h;exact .s _⟩
def qzc:Frz h .nilp .nilp↔True:=iff_true_intro .nilp
def qzd:Frz h .nils .nils↔True:=iff_true_intro .nils
def qy9:Frz h .nilf .nilf↔True:=iff_true_intro .nilf
def qza:Frz h .nili .nili↔True:=iff_true_intro .nili
def qzb:Frz h .nilm .nilm↔True:=iff_true_intro .nilm
def qGZ:Frz h .e0 .e0↔True:=iff_true_intro .e0
def qG2:Frz h .nz .nz↔True:=iff_true_intro .nz
def qCY{x:Nat}{cs:List AV}:Frz h .e0 (.fz x cs)↔x=0/\cs=[]:=⟨λh=>by cases h<;>simp_all,fun⟨h,h'⟩=>by subst h h';exact .e0z⟩
def qG0{x y:Nat}{cs ds:List AV}:Frz h (.fz x cs) (.fz y ds)↔x=y/\cs=ds:=⟨λh=>by cases h<;>simp_all,fun⟨h,h'⟩=>by subst h h';exact .fz _ _⟩
def qG3{x y:Nat}{cs ds:List AV}:Frz h (.pf cs x) (.pf ds y)↔cs=ds/\x=y:=⟨λh=>by cases h<;>simp_all,fun⟨h,h'⟩=>by subst h h';exact .pf _ _⟩
def qze{x:Nat}{cs:List AV}:Frz h .nils (.fz x cs)↔x=0/\cs=[]:=⟨λh=>by cases h<;>simp_all,fun⟨h,h'⟩=>by subst h h';exact .nilz⟩
theorem qfG:Frzs h [] []↔True:=iff_true_intro .nil
theorem qa1:Frzs h (v::vs) (v'::vs')↔Frz h v v'/\Frzs h vs vs':=⟨λh=>by
  cases h<;>simp_all,λh=>.cons _ _ _ _ h.1 h.2⟩
def qCX{cs cs':List AV}:Frz h (.agg cs) (.agg cs')↔Frzs h cs cs':=⟨λh=>by cases h<;>grind,λh=>.agg _ _ h⟩
def qC0{cs cs':List AV}:Frz h (.tup cs) (.tup cs')↔Frzs h cs cs':=⟨λh=>by cases h<;>grind,λh=>.tup _ _ h⟩
def qvE{f f':Nat}{a a' c c':List AV}:Frz h (.fn f a c) (.fn f' a' c')↔f=f'/\Frzs h a a'/\Frzs h c c':=⟨λh=>by
  cases h<;>simp_all,fun⟨h1,h2,h3⟩=>by subst h1;exact .fn _ _ _ _ _ h2 h3⟩
def qCZ{f f':Nat}:Frz h (.ifc f v) (.ifc f' v')↔f=f'/\Frz h v v':=⟨λh=>by
  cases h<;>simp_all,fun⟨h1,h2⟩=>by subst h1;exact .ifc _ _ _ h2⟩
def qvB{b x y:Nat}{cs':List AV}:Frz h (.own b x) (.fz y cs')↔x=y/\evB (h.tr.get b) (λz=>qa9 z (λ_ w _ ys=>w=true/\(x=0->ys=[])/\Frzs h ys cs')):=by
 constructor
 .intro hh;cases hh with
  | own _ _ e af ys _ hb h0 h1=>exact⟨rfl,_,hb,rfl,h0,h1⟩
 .rintro⟨rfl,z,h1,h2⟩;cases z with
  | cells e w af ys =>
   obtain⟨rfl,h3,h4⟩:=h2;exact .own _ _ e af ys _ h1 h3 h4
  | dead=>exact h2.elim
  | map es=>exact h2.elim
def qvC{b x y:Nat}{cs':List AV}:Frz h (.ptr b x) (.pf cs' y)↔x=y/\evB (h.tr.get b) (λz=>qa9 z (λ_ w _ ys=>w=true/\Frzs h ys cs')):=by
 constructor
 .intro hh;cases hh with
  | ptr _ _ e af ys _ hb h1=>exact⟨rfl,_,hb,rfl,h1⟩
 .rintro⟨rfl,z,h1,h2⟩;cases z with
  | cells e w af ys =>
   obtain⟨rfl,h4⟩:=h2;exact .ptr _ _ e af ys _ h1 h4
  | dead=>exact h2.elim
  | map es=>exact h2.elim
def Frz.cut{b o x c:Nat}{l:Bool}{y:Nat}{cs':List AV}(esz:Nat)(hx:x=y)(hc:x<=c)(hg:evB (h.tr.get b) (λz=>qa9 z (λ_ w _ cs=>w=true/\o+x*esz<=cs.length/\Frzs h ((cs.drop o).take (x*esz)) cs'))):Frz h (.sl b o x c l) (.fz y cs'):=by
 subst hx;obtain⟨z,h1,h2⟩:=hg;cases z with
 | cells e w af cs =>
  obtain⟨rfl,h3,h4⟩:=h2;exact .sl _ _ _ _ _ e af cs (x*esz) _ h1 hc h3 (λhh=>by rw[hh]at hc;simp_all) h4
 | dead=>exact h2.elim
 | map es=>exact h2.elim
end
mutual
theorem Frz.self:∀{v:AV},clo v=true->Frz h v v
 | .undef,_=>.undef _
 | .b _,_=>.b _
 | .i _ _,_=>.i _ _
 | .s _,_=>.s _
 | .nilp,_=>.nilp
 | .ptr _ _,hc=>by simp[clo]at hc
 | .nils,_=>.nils
 | .sl _ _ _ _ _,hc=>by simp[clo]at hc
 | .nilf,_=>.nilf
 | .fn _ _ _,hc=>by
  simp only[clo,zzB]at hc;exact .fn _ _ _ _ _ (Frzs.self hc.1) (Frzs.self hc.2)
 | .nili,_=>.nili
 | .ifc _ _,hc=>.ifc _ _ _ (Frz.self (by simpa[clo]using hc))
 | .agg _,hc=>.agg _ _ (Frzs.self (by simpa[clo]using hc))
 | .tup _,hc=>.tup _ _ (Frzs.self (by simpa[clo]using hc))
 | .nilm,_=>.nilm
 | .map _,hc=>by simp[clo]at hc
 | .fz _ _,_=>.fz _ _
 | .pf _ _,_=>.pf _ _
 | .e0,_=>.e0
 | .nz,_=>.nz
 | .own _ _,hc=>by simp[clo]at hc
 | .sym _,hc=>by simp[clo]at hc
 | .yl _,hc=>by simp[clo]at hc
 | .lp _,hc=>by simp[clo]at hc
theorem Frzs.self:∀{vs:List AV},qt vs=true->Frzs h vs vs
 | [],_=>.nil
 | v::vs,hc=>by
  simp only[qt,zzB]at hc;exact .cons _ _ _ _ (Frz.self hc.1) (Frzs.self hc.2)
end

@[congr] theorem qDe {kd:Option IntKind} {i:AV} {p:Prop} {mk:Prop} (_:zm=mk):qkN qL kd i p=qkN qL kd i p:=rfl
@[congr] theorem qDt {b:Nat} {k:List (AV×AV)->Prop} {mk:Prop} (_:zm=mk):qka h b k=qka h b k:=rfl
@[congr] theorem qzr {es:List (AV×AV)} {p:Prop} {mk:Prop} (_:zm=mk):qeQ es p=qeQ es p:=rfl
theorem qHc{a:List UInt8}{p:Prop}:qkN qL none (.s a) p↔p:=Iff.rfl
def qHb{q:IntKind}{z:Int}{p:Prop}:qkN qL (some q) (.i q z) p↔p:=by
 show qo (decide (q=q)) p↔p;rw[qd];simp
def qtm{p:Prop}:qeQ [] p↔p:=Iff.rfl
def qzu{a:List UInt8}{v:AV}{es:List (AV×AV)}{p:Prop}:qeQ ((.s a,v)::es) p↔p:=Iff.rfl
def qzt{q:IntKind}{z:Int}{v:AV}{es:List (AV×AV)}{p:Prop}:qeQ ((.i q z,v)::es) p↔p:=Iff.rfl
def qpI(x:Blk)(k:List (AV×AV)->Prop):Prop:=match x with | .map es=>k es|_=>False
@[congr] theorem qBp {x x':Blk} {k:List (AV×AV)->Prop} {mk:Prop} (_:zm=mk) (h:x=x'):qpI x k=qpI x' k:=by rw[h]
theorem qna{es:List (AV×AV)}{k:List (AV×AV)->Prop}:qpI (.map es) k↔k es:=Iff.rfl
def qHn{b:Nat}{k:List (AV×AV)->Prop}:qka h b k↔evB (h.tr.get b) (λx=>qpI x (λes=>qeQ es (k es))):=by
 unfold qka;refine(Tr.getK_iff _ _ _).trans (iff_of_eq (congrArg _ (funext λx=>congrArg _ ?_)))
 cases x<;>rfl
def qpb{i:AV}{k:Option AV->Prop}:qcA qL i [] k↔k none:=Iff.rfl
def qCS{i a:List UInt8}{v:AV}{es:List (AV×AV)}{k:Option AV->Prop}:qcA qL (.s i) ((.s a,v)::es) k↔if i=a then k (some v)else qcA qL (.s i) es k:=by
 show qT (eqS i a) (λr=>Bool.rec (motive:=λ_=>Prop) (qcA qL (.s i) es k) (k (some v)) r)↔_
 rw[qM,qeZ,qb8];simp
def qvv{q:IntKind}{i a:Int}{v:AV}{es:List (AV×AV)}{k:Option AV->Prop}:qcA qL (.i q i) ((.i q a,v)::es) k↔if i=a then k (some v)else qcA qL (.i q i) es k:=by
 show qo (decide (q=q)) (qT (eqI i a) (λr=>Bool.rec (motive:=λ_=>Prop) (qcA qL (.i q i) es k) (k (some v)) r))↔_
 rw[qd,qM,qeZ,qly];simp
def qss{i v:AV}{k:List (AV×AV)->Prop}:qhn qL i v [] k↔k [(i,v)]:=Iff.rfl
def qH3{i a:List UInt8}{u v:AV}{es:List (AV×AV)}{k:List (AV×AV)->Prop}:qhn qL (.s i) u ((.s a,v)::es) k↔if i=a then k ((.s i,u)::es)else qhn qL (.s i) u es (λl=>k ((.s a,v)::l)):=by
 show qT (eqS i a) (λr=>Bool.rec (motive:=λ_=>Prop) (qhn qL (.s i) u es (λl=>k ((.s a,v)::l))) (k ((.s i,u)::es)) r)↔_
 rw[qM,qeZ,qb8];simp
def qBF{q:IntKind}{i a:Int}{u v:AV}{es:List (AV×AV)}{k:List (AV×AV)->Prop}:qhn qL (.i q i) u ((.i q a,v)::es) k↔if i=a then k ((.i q i,u)::es)else qhn qL (.i q i) u es (λl=>k ((.i q a,v)::l)):=by
 show qo (decide (q=q)) (qT (eqI i a) (λr=>Bool.rec (motive:=λ_=>Prop) (qhn qL (.i q i) u es (λl=>k ((.i q a,v)::l))) (k ((.i q i,u)::es)) r))↔_
 rw[qd,qM,qeZ,qly];simp
@[congr] theorem qBY {ok:Bool} {z:AV} {v v':Option AV} {k:AV->Prop} {mk:Prop} (_:zm=mk) (h:v=v'):qhK ok z v k=qhK ok z v' k:=by rw[h]
theorem quq{z:AV}{k:AV->Prop}:qhK false z none k↔k z:=Iff.rfl
def qsD{z:AV}{k:AV->Prop}:qhK true z none k↔k (.tup [z,.b false]):=Iff.rfl
def qoH{z v:AV}{k:AV->Prop}:qhK false z (some v) k↔k v:=Iff.rfl
def qsE{z v:AV}{k:AV->Prop}:qhK true z (some v) k↔k (.tup [v,.b true]):=Iff.rfl
def lkK(h:Hp)(ok:Bool)(zero x i:AV)(k:AV->Prop):Prop:=match x with
  | .nilm=>qhK ok zero none k
  | .map r=>qka h r (λes=>qcA qL i es (λv=>qhK ok zero v k))
  | _=>False
@[congr] theorem qFK {ok:Bool} {z x i:AV} {k:AV->Prop} {mk:Prop} (_:zm=mk):lkK h ok z x i k=lkK h ok z x i k:=rfl
theorem qDp{ok:Bool}{z i:AV}{k:AV->Prop}:lkK h ok z .nilm i k↔qhK ok z none k:=Iff.rfl
def qDo{ok:Bool}{z i:AV}{r:Nat}{k:AV->Prop}:lkK h ok z (.map r) i k↔qka h r (λes=>qcA qL i es (λv=>qhK ok z v k)):=Iff.rfl
def qwS{kd:Option IntKind}{ok:Bool}{z:AV}{x i:O}:opK qL (.lookM kd ok z x i) t h k↔evK t x (λx=>evK t i (λi=>qkN qL kd i (lkK h ok z x i (λv=>k v h)))):=Iff.rfl
def upK(h:Hp)(x i v:AV)(k:Hp->Prop):Prop:=match x with
  | .map r=>qka h r (λes=>qhn qL i v es (λes'=>qdo h r (.map es') k))
  | _=>False
@[congr] theorem qF9 {x i v:AV} {k:Hp->Prop} {mk:Prop} (_:zm=mk):upK h x i v k=upK h x i v k:=rfl
theorem qFf{i v:AV}{r:Nat}{k:Hp->Prop}:upK h (.map r) i v k↔qka h r (λes=>qhn qL i v es (λes'=>qdo h r (.map es') k)):=Iff.rfl
def qz4{kd:Option IntKind}{x i v:O}:opK qL (.updM kd x i v) t h k↔evK t x (λx=>evK t i (λi=>evK t v (λv=>qkN qL kd i (upK h x i v (λh'=>k .undef h'))))):=Iff.rfl

def qmN:qF []=true:=rfl
theorem qis{v:AV}{vs:List AV}:qF (v::vs)=(zj v&&qF vs):=by
 show(Bool.rec (motive:=λ_=>Bool) false (qF vs) (zj v):Bool)=_
 cases zj v<;>rfl
def qCr{x:Bool}:zj (.b x)=true:=rfl
def qCs{q:IntKind}{x:Int}:zj (.i q x)=true:=rfl
def qCt{x:List UInt8}:zj (.s x)=true:=rfl
def qsS:zj .nilp=true:=rfl
def quX{b o:Nat}:zj (.ptr b o)=true:=rfl
def qsT:zj .nils=true:=rfl
def qyM{b o x c:Nat}{l:Bool}:zj (.sl b o x c l)=true:=rfl
def qsP:zj .nilf=true:=rfl
def qyH{f:Nat}{a c:List AV}:zj (.fn f a c)=true:=rfl
def qsQ:zj .nili=true:=rfl
def quU{f:Nat}{v:AV}:zj (.ifc f v)=true:=rfl
def qsR:zj .nilm=true:=rfl
def quV{b:Nat}:zj (.map b)=true:=rfl
def qyI{n:Nat}{cs:List AV}:zj (.fz n cs)=true:=rfl
def qyL{n:Nat}{cs:List AV}:zj (.pf cs n)=true:=rfl
def qyG:zj .e0=true:=rfl
def qyK:zj .nz=true:=rfl
def quW{b n:Nat}:zj (.own b n)=true:=rfl
theorem qnP{a b:List AV}:qF (a++b)=(qF a&&qF b):=by
 induction a with
 | nil=>simp[qmN]
 | cons v a ih=>grind[qis]
def qsU{α:Type}{f:α->AV}{xs:List α}(h:∀x,zj (f x)=true):qF (xs.map f)=true:=by
 induction xs with
 | nil=>rfl
 | cons v a ih=>simp_all[qis]
def qlt{α:Type}{f:α->List AV}{xs:List α}(h:∀x,qF (f x)=true):qF (xs.flatMap f)=true:=by
 induction xs with
 | nil=>rfl
 | cons v a ih=>grind[qnP]
theorem xR{a b:List AV}:qt (a++b)=(qt a&&qt b):=by
 induction a with
 | nil=>simp[qt]
 | cons v a ih=>simp[qt,ih,Bool.and_assoc]
def qbB{α:Type}{f:α->AV}{xs:List α}(h:∀x,clo (f x)=true):qt (xs.map f)=true:=by
 induction xs with
 | nil=>rfl
 | cons v a ih=>simp[qt,ih,h]
def xT{α:Type}{f:α->List AV}{xs:List α}(h:∀x,qt (f x)=true):qt (xs.flatMap f)=true:=by
 induction xs with
 | nil=>rfl
 | cons v a ih=>grind[xR]
def qV{α:Type}{f:α->List AV}{m:Nat}(h:∀x,(f x).length=m)(xs:List α):(xs.flatMap f).length=xs.length*m:=by
 induction xs<;>grind
def qfe{α:Type}{f:α->List AV}{m:Nat}(h:∀x,(f x).length=m):∀(xs:List α) (j:Nat),(xs.flatMap f).drop (j*m)=(xs.drop j).flatMap f
 | [],j=>by simp
 | x::xs,0=>by simp
 | x::xs,j+1=>by
  simp only[List.flatMap_cons,List.drop_succ_cons];rw[Nat.add_mul,Nat.one_mul,Nat.add_comm,<- List.drop_drop,List.drop_left' (h x)];exact qfe h xs j
def qhx{α:Type}{f:α->List AV}{m:Nat}(h:∀x,(f x).length=m):∀(xs:List α) (j:Nat),(xs.flatMap f).take (j*m)=(xs.take j).flatMap f
 | [],j=>by simp
 | x::xs,0=>by simp
 | x::xs,j+1=>by
  simp only[List.flatMap_cons,List.take_succ_cons];rw[Nat.add_mul,Nat.one_mul,Nat.add_comm (j*m),<- h x,List.take_length_add_append,h x,qhx h xs j]
def qbE{α:Type}{f:α->List AV}{m:Nat}(h:∀x,(f x).length=m){xs:List α}{j:Nat}{x:α}(hx:xs[j]?=some x){i:Nat}(hi:i<m):(xs.flatMap f)[j*m+i]?=(f x)[i]?:=by
 rw[<- List.getElem?_drop,qfe h]
 grind[List.drop_eq_getElem_cons]
def qG{α:Type}{f:α->List AV}{m:Nat}(h:∀x,(f x).length=m){xs:List α}{j:Nat}{x:α}(hx:xs[j]?=some x):((xs.flatMap f).drop (j*m)).take m=f x:=by
 rw[qfe h]
 grind[List.drop_eq_getElem_cons]

def SL.loop{α:Type}{x:ICode}{Q:X->Tr AV->Hp->Prop}(T:α->List (Nat×AV))(B:α->List Blk)(I:α->Prop)(μ:α->Nat)(a0:α)(src:List Nat)
  (hT:TWs t (rl src h.sz) (B a0).length (T a0)) (hB:BWs h (rl src h.sz) (B a0).length src (B a0)) (hI:(src.filter λb=>decide (b<h.sz)).Nodup) (hfl:h.fl=0) (h0:I a0)
  (step:∀a,I a->∀G:Tr AV->Hp->Prop,(∀b,I b->μ b<μ a->∀t' h',Wk 0 t' h' (mkT (T b)) (mkH 0 (B b))->G t' h')->
   V P 0 x (λe t h=>onX e (G t h) (λid=>Q (.exit id) t h) (Q .ret t h)) (mkT (T a)) (mkH 0 (B a))):SL P 0 x Q t h:=by
 have main:∀m a,μ a=m->I a->SL P 0 x Q (mkT (T a)) (mkH 0 (B a)):=by
  intro m
  induction m using Nat.strongRecOn with
  | ind m ih =>
   intro a ha hi;exact qcp (step a hi (λt h=>SL P 0 x Q t h) λb hb hlt t' h' hw=>SL.weak hw (ih (μ b) (ha ▸ hlt) b rfl hb))
 exact SL.weak (by grind[Wk.mk]) (main _ a0 rfl h0)

def qIz{b:Bool}:(b==true)=b:=by cases b<;>rfl
def qIy{b:Bool}:(b==false) = !b:=by cases b<;>rfl
def vA:=zzA @qui (zzA @qGq (zzA @qGt (zzA @qBU (zzA @qGs (zzA @qBR (zzA @qBQ (zzA @qGp (zzA @qBS (zzA @qGr (zzA @qBT (zzA @qBN (zzA @qGo (zzA @quf (zzA @qug (zzA @quh (zzA @qsu (zzA @qGn
 (zzA @qCF (zzA @qCC (zzA @qiG (zzA @qwJ (zzA @qzW (zzA @qvh (zzA @qo8 (zzA @qAp (zzA @qAq @qxm))))))))))))))))))))))))))
def vR:=zzA @qsw (zzA @qqn @qBO)
def vE:=zzA @qhT (zzA @qGY (zzA @qvq (zzA @qs5 (zzA @qtP (zzA @qtR (zzA @qvM (zzA @qs0 (zzA @qs1 (zzA @qHZ (zzA @qAQ (zzA @qH0 (zzA @qH1 (zzA @qst (zzA @xU (zzA @qmY
 (zzA @qDH (zzA @qEs (zzA @qwa (zzA @qHh (zzA @qzx (zzA @qDk (zzA @qHf (zzA @qwb (zzA @qzI (zzA @qDD (zzA @qJu (zzA @qAD (zzA @qyT (zzA @qhu (zzA @qzo @jp))))))))))))))))))))))))))))))
def vO:=zzA @qEg (zzA @qz1 (zzA @qwL (zzA @qD4 (zzA @qwM (zzA @qtK (zzA @qwQ (zzA @qwR (zzA @qwT (zzA @qtN (zzA @qD3 (zzA @qD7 (zzA @qD6 (zzA @qHG (zzA @qwO (zzA @qwP (zzA @qD9 (zzA @qtL (zzA @qtM (zzA @qzZ (zzA @qz0 (zzA @qz3 (zzA @qz2 (zzA @qD8 (zzA @qEd (zzA @qEf (zzA @qEa (zzA @qD2 (zzA @qEc (zzA @qEb (zzA @qwN (zzA @qEe
 (zzA @qtO (zzA @qzX (zzA @qAt (zzA @qEP (zzA @qEO (zzA @qxu (zzA @qEN (zzA @qD5 (zzA @qzY (zzA @qut (zzA @qwS @qz4))))))))))))))))))))))))))))))))))))))))))
def vB:=zzA @qyt (zzA @qys (zzA @qyp (zzA @qyn (zzA @qym (zzA @qyo (zzA @qyl (zzA @qyr (zzA @qyi (zzA @qyu (zzA @qyq (zzA @qCd (zzA @qyj (zzA @qyv (zzA @qyk (zzA @qux (zzA @quC (zzA @quw (zzA @quB (zzA @quy (zzA @quA (zzA @quz (zzA @qFe (zzA @qFd @qIF)))))))))))))))))))))))
def vF:=zzA @qvy (zzA @qvz (zzA @qHa (zzA @qG9 (zzA @qDd (zzA @qv3 (zzA @qv2 (zzA @qtl (zzA @qkS (zzA @qrk (zzA @qyx (zzA @qrm (zzA @qkV (zzA @qAz (zzA @qHT (zzA @qHU (zzA @qET (zzA @qEU (zzA @qES (zzA @qB5 (zzA @qs4 (zzA @qvn (zzA @qzz (zzA @qHi (zzA @qHk (zzA @qHj (zzA @qDq (zzA @qHl (zzA @qIS
 (zzA @qu2 (zzA @qCz (zzA @qsF (zzA @qqp (zzA @qDE (zzA @qHr (zzA @qyS (zzA @qGS (zzA @qGT (zzA @qvt (zzA @qs8 (zzA @qsY (zzA @qyR (zzA @qxB (zzA @qEY (zzA @qE0 (zzA @qE2 (zzA @qAC (zzA @qEZ (zzA @qHW (zzA @qur (zzA @qB1 (zzA @qyf (zzA @qB3 (zzA @qB2
 (zzA @qwD (zzA @qzL (zzA @qDL (zzA @qwE (zzA @qDK (zzA @qDM (zzA @qDJ (zzA @qzK (zzA @qwB (zzA @qDI (zzA @qwC (zzA @qzJ (zzA @qyY (zzA @qvk (zzA @qIJ (zzA @qIK @qII)))))))))))))))))))))))))))))))))))))))))))))))))))))))))))))))))))))
def vM:=zzA @qHc (zzA @qHb (zzA @qtm (zzA @qzu (zzA @qzt (zzA @qna (zzA @qHn (zzA @qpb (zzA @qCS (zzA @qvv (zzA @qss (zzA @qH3 (zzA @qBF (zzA @quq (zzA @qsD (zzA @qoH (zzA @qsE (zzA @qDp (zzA @qDo @qFf))))))))))))))))))
def vC:=zzA @qmN (zzA @qis (zzA @qCr (zzA @qCs (zzA @qCt (zzA @qsS (zzA @quX (zzA @qsT (zzA @qyM (zzA @qsP (zzA @qyH (zzA @qsQ (zzA @quU (zzA @qsR (zzA @quV (zzA @qyI (zzA @qyL (zzA @qyG (zzA @qyK @quW))))))))))))))))))
def vP:=zzA @qtC (zzA @qvp (zzA @qy0 (zzA @qy1 (zzA @qy2 (zzA @qy3 (zzA @qvo (zzA @qo9 (zzA @qpq (zzA @qnO (zzA @qBD (zzA @qrr (zzA @qIz (zzA @qIy @qeZ)))))))))))))
def vW:=zzA @qHB (zzA @qwG (zzA @qIV (zzA @qIW (zzA @qIX (zzA @qzR (zzA @qzS (zzA @qzO (zzA @qzP (zzA @qzQ (zzA @qHv (zzA @qHy (zzA @qDS (zzA @qwF (zzA @qDX (zzA @qHx (zzA @qHz (zzA @qzT (zzA @qDW (zzA @qHA (zzA @qDV (zzA @qtJ (zzA @qDU (zzA @qzU (zzA @qwH (zzA @qDR (zzA @qDY (zzA @qHw (zzA @qDT
 (zzA @qAP (zzA @qxN (zzA @qyz (zzA @quH (zzA @qCh (zzA @qyy (zzA @qCi (zzA @qhi @qJo))))))))))))))))))))))))))))))))))))
def vZ:=zzA @qvD (zzA @qIM (zzA @qG1 (zzA @qIN (zzA @qzc (zzA @qzd (zzA @qy9 (zzA @qza (zzA @qzb (zzA @qGZ (zzA @qG2 (zzA @qCY (zzA @qG0 (zzA @qG3 (zzA @qze (zzA @qfG (zzA @qa1 (zzA @qCX (zzA @qC0 (zzA @qvE (zzA @qvC (zzA @qCZ @qvB)))))))))))))))))))))
end Go.Kc
end
section
namespace Go.Kc
variable {P:Program}

mutual
def flat:AV->Bool
 | .ptr _ _=>false
 | .sl _ _ _ _ _=>false
 | .map _=>false
 | .own _ _=>false
 | .fz _ _=>false
 | .pf _ _=>false
 | .sym _=>false
 | .fn _ a c=>qlF a&&qlF c
 | .ifc _ v=>flat v
 | .agg cs=>qlF cs
 | .tup cs=>qlF cs
 | .undef=>true | .b _=>true | .i _ _=>true | .s _=>true | .nilp=>true | .nils=>true | .nilf=>true | .nili=>true | .nilm=>true | .e0=>true | .nz=>true | .yl _=>false | .lp _=>true
def qlF:List AV->Bool
 | []=>true
 | v::vs=>flat v&&qlF vs
end
mutual
def VR.flat{Z Z':Ren}:∀{a:AV} {v:Value},VR σ0 Z a v->Kc.flat a=true->VR σ0 Z' a v
 | _,_,.undef v,_=>.undef v
 | _,_,.b x,_=>.b x
 | _,_,.i k n,_=>.i k n
 | _,_,.s x,_=>.s x
 | _,_,.nilp,_=>.nilp
 | _,_,.ptr b o L h,hc=>by simp[Kc.flat]at hc
 | _,_,.nils,_=>.nils
 | _,_,.sl b o len cap c loose L h hc,hh=>by simp[Kc.flat]at hh
 | _,_,.slz b o x l L h,hh=>by simp[Kc.flat]at hh
 | _,_,.nilf,_=>.nilf
 | _,_,.fn f first cap first' cap' h1 h2,hc=>by
  simp only[Kc.flat,zzB]at hc;exact .fn _ _ _ _ _ (h1.flat hc.1) (h2.flat hc.2)
 | _,_,.nili,_=>.nili
 | _,_,.ifc t v v' h,hc=>by simp only[Kc.flat]at hc;exact .ifc _ _ _ (h.flat hc)
 | _,_,.agg cs cs' h,hc=>by simp only[Kc.flat]at hc;exact .agg _ _ (h.flat hc)
 | _,_,.tup cs cs' h,hc=>by simp only[Kc.flat]at hc;exact .tup _ _ (h.flat hc)
 | _,_,.nilm,_=>.nilm
 | _,_,.map b L h h0,hc=>by simp[Kc.flat]at hc
 | _,_,.sym j,hc=>by simp[Kc.flat]at hc
 | _,_,.fz n off c cs k arr hn h hs,hc=>by simp[Kc.flat]at hc
 | _,_,.fz0 a,hc=>by simp[Kc.flat]at hc
 | _,_,.pf off base cs k arr h hs,hc=>by simp[Kc.flat]at hc
 | _,_,.e0 a,_=>.e0 a
 | _,_,.nz a c,_=>.nz a c
 | _,_,.own0 b a hb,hc=>by simp[Kc.flat]at hc
 | _,_,.own b n c L h hn hc',hc=>by simp[Kc.flat]at hc
 | _,_,.yl b L h,hc=>by simp[Kc.flat]at hc
def VRs.flat{Z Z':Ren}:∀{a:List AV} {v:List Value},VRs σ0 Z a v->qlF a=true->VRs σ0 Z' a v
 | _,_,.nil,_=>.nil
 | _,_,.cons v vs v' vs' h hs,hc=>by
  simp only[qlF,zzB]at hc;exact .cons _ _ _ _ (h.flat hc.1) (hs.flat hc.2)
end
def Rel.bare{Z:Ren}{B:Nat->Prop}{h:Hp}{w:World}(r:Rel σ0 Z B h w):Rel σ0 ⟨λ_=>none,jZ Z h w,0⟩ (low w.heap.size) H0 w :=
 ⟨by simp_all,by grind,by simp_all,by simp_all,by simp_all,by simp_all,by simp_all,(λ_ h=>h),
  (λk arr hk=>⟨by
    rcases qdL hk with hk|⟨hk,_⟩
    all_goals grind[Rel.frz],(by simp_all)⟩),by simp_all⟩
def qa.lend{f:Nat}{vs vs':List AV}{v:AV}{h:Hp}{k:AV->Hp->Prop}(hp:qa P f vs' v)(hf:Frzs h vs vs')(hv:flat v=true)(hk:k v h):SC P f vs h k:=by
 have hp0:=hp H0 (λv' h'=>v'=v/\h'=H0) ⟨rfl,rfl⟩
 refine⟨hp0.1,λZ B w args r ha=>?_⟩
 have hcr:=hf.ok r ha;refine qb4.mono (hp0.2 ⟨λ_=>none,jZ Z h w,0⟩ (low w.heap.size) w args r.bare (by grind[CRs.vr])) ?_
 rintro e w' ⟨v0,v',h',Z',rfl,⟨rfl,rfl⟩,g2,g3,g4⟩;refine⟨v0,v',h,Z,rfl,hk,g2.flat hv,?_,⟨λ_ _=>rfl,zzL _,rfl,λ_ _ _=>rfl,by grind[Kept.pres,Rel.base],g4.wle,g4.io,λ_ _ h=>h,λ_ _ h=>.inl h,zzL _⟩⟩
 have:=r.frz' (φ:=Z.frz) g4.pres g4.wle (λ_ _ h=>h) (by simp_all) (λk a hk=>by
  obtain⟨ty,fz,h1⟩:=(r.frz k a hk).1;refine⟨ty,fz,?_⟩;rw[g4.pres k (by grind)];exact h1)
 omega
mutual
def shv(m:Nat):AV->AV
 | .ptr b o=>.ptr (b+m) o
 | .sl b o n c l=>.sl (b+m) o n c l
 | .map b=>.map (b+m)
 | .own b n=>.own (b+m) n
 | .yl b=>.yl (b+m)
 | .fn f a c=>.fn f (qgo m a) (qgo m c)
 | .ifc t v=>.ifc t (shv m v)
 | .agg cs=>.agg (qgo m cs)
 | .tup cs=>.tup (qgo m cs)
 | v=>v
def qgo(m:Nat):List AV->List AV
 | []=>[]
 | v::vs=>shv m v::qgo m vs
end
theorem qqb{m:Nat}:∀{vs:List AV} {j:Nat},(qgo m vs)[j]?=(vs[j]?).map (shv m)
 | [],j=>by simp[qgo]
 | v::vs,0=>by simp[qgo]
 | v::vs,j+1=>by simpa[qgo]using qqb (vs:=vs) (j:=j)
theorem qeB{m:Nat}:∀{vs:List AV},(qgo m vs).length=vs.length
 | []=>rfl
 | v::vs=>by simp[qgo,qeB (vs:=vs)]
mutual
theorem qsl{m:Nat}:∀{v:AV},clo v=true->shv m v=v
 | .ptr _ _,h=>by simp[clo]at h
 | .sl _ _ _ _ _,h=>by simp[clo]at h
 | .map _,h=>by simp[clo]at h
 | .own _ _,h=>by simp[clo]at h
 | .fn f a c,h=>by
  simp only[clo,zzB]at h;simp only[shv,xj h.1,xj h.2]
 | .ifc t v,h=>by
  simp only[clo]at h;simp only[shv,qsl h]
 | .agg cs,h=>by
  simp only[clo]at h;simp only[shv,xj h]
 | .tup cs,h=>by
  simp only[clo]at h;simp only[shv,xj h]
 | .undef,_=>rfl
 | .b _,_=>rfl
 | .i _ _,_=>rfl
 | .s _,_=>rfl
 | .nilp,_=>rfl
 | .nils,_=>rfl
 | .nilf,_=>rfl
 | .nili,_=>rfl
 | .nilm,_=>rfl
 | .sym _,h=>by simp[clo]at h
 | .fz _ _,_=>rfl
 | .pf _ _,_=>rfl
 | .e0,_=>rfl
 | .nz,_=>rfl
 | .yl _,h=>by simp[clo]at h
 | .lp _,_=>rfl
theorem xj{m:Nat}:∀{vs:List AV},qt vs=true->qgo m vs=vs
 | [],_=>rfl
 | v::vs,h=>by
  simp only[qt,zzB]at h;simp only[qgo,qsl h.1,xj h.2]
end
def she(m:Nat)(es:List (AV×AV)):List (AV×AV):=es.map λe=>(shv m e.1,shv m e.2)
def qsi{m:Nat}:she m []=[]:=rfl
def qp9{m:Nat}{a b:AV}{es:List (AV×AV)}:she m ((a,b)::es)=(shv m a,shv m b)::she m es:=rfl
def shb(m:Nat):Blk->Blk
 | .cells e w a cs=>.cells e w a (qgo m cs)
 | .dead=>.dead
 | .map es=>.map (she m es)
noncomputable def qam(h:Hp):List Blk->Hp
 | []=>h
 | x::xs=>qam (h.push x) xs
def qfv:∀{bs:List Blk} {h:Hp},(qam h bs).sz=h.sz+bs.length
 | [],_=>rfl
 | x::xs,h=>by
  show(qam (h.push x) xs).sz=_;rw[qfv];simp[Hp.push];omega
def qhf:∀{bs:List Blk} {h:Hp},(qam h bs).fl=h.fl
 | [],_=>rfl
 | x::xs,h=>by
  show(qam (h.push x) xs).fl=_;rw[qhf];rfl
theorem qbt:∀{bs:List Blk} {h:Hp} {b:Nat},(qam h bs).tr.get b=if b<h.sz then h.tr.get b else if b<h.sz+bs.length then bs[b-h.sz]? else h.tr.get b
 | [],h,b=>by simp[qam];omega
 | x::xs,h,b=>by
  show(qam (h.push x) xs).tr.get b=_;rw[qbt];simp only[Hp.push,Tr.get_set,List.length_cons]
  grind
def Ren.join(Z Z2:Ren)(m l:Nat):Ren:=⟨λb=>if b<m then Z b else Z2 (b-m),Z2.frz,m+l⟩
theorem qk2{Z Z2:Ren}{m l b:Nat}(h:b<m):Z.join Z2 m l b=Z b:=by simp only[Ren.join];rw[if_pos h]
def qfL{Z Z2:Ren}{m l b:Nat}:Z.join Z2 m l (b+m)=Z2 b:=by simp only[Ren.join];rw[if_neg (by omega),Nat.add_sub_cancel]
mutual
theorem VR.sh{Z Z2:Ren}{m l:Nat}(hl:Z2.n<=l):∀{v:AV} {x:Value},VR σ0 Z2 v x->VR σ0 (Z.join Z2 m l) (shv m v) x
 | _,_,.undef v=>.undef v
 | _,_,.b x=>.b x
 | _,_,.i k n=>.i k n
 | _,_,.s x=>.s x
 | _,_,.nilp=>.nilp
 | _,_,.ptr b o L h=>.ptr _ _ L (by rw[qfL];exact h)
 | _,_,.nils=>.nils
 | _,_,.sl b o len cap c loose L h hc=>.sl _ _ _ _ _ _ L (by rw[qfL];exact h) hc
 | _,_,.slz b o x l' L h=>.slz _ _ _ _ L (by rw[qfL];exact h)
 | _,_,.nilf=>.nilf
 | _,_,.fn f first cap first' cap' h1 h2=>.fn _ _ _ _ _ (VRs.sh hl h1) (VRs.sh hl h2)
 | _,_,.nili=>.nili
 | _,_,.ifc t v v' h=>.ifc _ _ _ (VR.sh hl h)
 | _,_,.agg cs cs' h=>.agg _ _ (VRs.sh hl h)
 | _,_,.tup cs cs' h=>.tup _ _ (VRs.sh hl h)
 | _,_,.nilm=>.nilm
 | _,_,.map b L h h0=>.map _ L (by rw[qfL];exact h) h0
 | _,_,.sym j=>.sym j
 | _,_,.fz n off c cs k arr hn h hs=>.fz n off c cs k arr hn h hs
 | _,_,.fz0 a=>.fz0 a
 | _,_,.pf off base cs k arr h hs=>.pf off base cs k arr h hs
 | _,_,.e0 a=>.e0 a
 | _,_,.nz a c=>.nz a c
 | _,_,.own0 b a hb=>.own0 _ _ (by show b+m<m+l;omega)
 | _,_,.own b n c L h hn hc'=>.own _ _ _ L (by rw[qfL];exact h) hn hc'
 | _,_,.yl b L h=>.yl _ L (by rw[qfL];exact h)
theorem VRs.sh{Z Z2:Ren}{m l:Nat}(hl:Z2.n<=l):∀{v:List AV} {x:List Value},VRs σ0 Z2 v x->VRs σ0 (Z.join Z2 m l) (qgo m v) x
 | _,_,.nil=>.nil
 | _,_,.cons v vs v' vs' h hs=>.cons _ _ _ _ (VR.sh hl h) (VRs.sh hl hs)
end
def qAv{m:Nat}{r:Loop}{ts:List (Nat×AV)}:she m (zz r ts)=zz r (ts.map λp=>(p.1,shv m p.2)):=by simp[she,zz,shv]
theorem qcu.sh{Z Z2:Ren}{m l:Nat}(hl:Z2.n<=l){es:List (AV×AV)}{o:Obj}(h:qcu σ0 Z2 es o):qcu σ0 (Z.join Z2 m l) (she m es) o:=by
 rcases h with⟨h0,vs,clk,h1,h2,h3⟩|⟨a,n,rfl,h2⟩|⟨r,rq,ts,rfl,h2,hk2,h3⟩
 .refine .inl ⟨λe he=>?_,vs,clk,h1,by simp[she,h2],λj e he=>?_⟩
  .cases es with
   | nil=>simp[she]at he
   | cons e0 es =>
    simp[she]at he;subst he;have:=h0 e0 rfl;cases e0 with
    | mk k v=>cases k<;>first|(simp[shv];done)|exact absurd rfl this.1|simp_all
  .simp only[she,List.getElem?_map]at he
   grind[VR.sh]
 .exact .inr (.inl ⟨a,n,rfl,h2⟩)
 .refine .inr (.inr ⟨r,rq,_,qAv,h2,hk2,λp hp=>?_⟩)
  grind[VR.sh]
def Rel.joinH{Z Z2:Ren}{B:Nat->Prop}{h:Hp}{w w1:World}{bs:List Blk}(r:Rel σ0 Z B h w)(r2:Rel σ0 Z2 (low w.heap.size) (mkH 0 bs) w1)(hp:∀k,k<w.heap.size->w1.heap[k]?=w.heap[k]?)(hw:w.heap.size<=w1.heap.size)
  (f1:∀k a,Z.frz k=some a->Z2.frz k=some a) (f2:∀k a,Z2.frz k=some a->Z.frz k=some a\/w.heap.size<=k) :
  Rel σ0 (Z.join Z2 h.sz bs.length) B (qam h (bs.map (shb h.sz))) w1:=by
 have r1:Rel σ0 ⟨Z.loc,Z2.frz,Z.n⟩ B h w1:=(by grind[Rel.frz',Rel.frz]);have n2:Z2.n<=bs.length:=r2.dn.1
 have le1:Ren.le ⟨Z.loc,Z2.frz,Z.n⟩ (Z.join Z2 h.sz bs.length) :=
  ⟨by grind[qk2,Rel.dom],λ_ _ h=>h,Nat.le_trans r.dn.1 (Nat.le_add_right _ _)⟩
 -- a block: old,or new
 have split:∀b L,Z.join Z2 h.sz bs.length b=some L->(b<h.sz/\Z b=some L/\(qam h (bs.map (shb h.sz))).tr.get b=h.tr.get b) \/
   ∃c,b=c+h.sz/\Z2 c=some L/\(qam h (bs.map (shb h.sz))).tr.get b=((mkH 0 bs).tr.get c).map (shb h.sz)/\w.heap.size<=L.blk:=by
  intro b L hb
  by_cases hlt:b<h.sz
  .rw[qk2 hlt]at hb
   simp_all[qbt]
  .obtain⟨c,rfl⟩:∃c,b=c+h.sz:=⟨b-h.sz,by omega⟩
   rw[qfL]at hb;have hc:c<bs.length:=r2.dom c L hb;refine .inr ⟨c,rfl,hb,?_,Nat.not_lt.1 (r2.flr c L hb (Nat.zero_le _))⟩;rw[qbt,if_neg hlt,if_pos (by grind),jh,Nat.add_sub_cancel,List.getElem?_map]
 have oldlt:∀b L x,Z b=some L->h.tr.get b=some x->x≠.dead->L.blk<w.heap.size:=λb L x h1 h2 h3=>r.blk_lt b L h1 x h2 h3
 have shd:∀{x y:Blk},(some x).map (shb h.sz)=some y->y≠.dead->x≠.dead:=by
  intro x y h1 h2 h3;subst h3;simp[shb]at h1;simp_all
 have shc:∀{o:Option Blk} {e:Nat} {w a:Bool} {cs:List AV},o.map (shb h.sz)=some (.cells e w a cs)->∃cs0,o=some (.cells e w a cs0)/\cs=qgo h.sz cs0:=by
  intro o e w a cs ho;cases o with
  | none=>grind
  | some x =>
   cases x with
   | cells e' w' a' cs'=>simp[shb]at ho;simp_all
   | dead=>grind
   | map es=>simp[shb]at ho
 have shm:∀{o:Option Blk} {es:List (AV×AV)},o.map (shb h.sz)=some (.map es)->∃es0,o=some (.map es0)/\es=she h.sz es0:=by
  intro o es ho;cases o with
  | none=>grind
  | some x =>
   cases x with
   | cells e' w' a' cs'=>simp[shb]at ho
   | dead=>grind
   | map es'=>simp[shb]at ho;grind
 have shn:∀{o:Option Blk} {y:Blk},o.map (shb h.sz)=some y->y≠.dead->∃x,o=some x/\x≠.dead:=by
  intro o y ho hy;cases o<;>grind
 refine⟨λb L hb=>?_,?_,?_,?_,?_,?_,?_,qfB r.base hw,?_,?_⟩
 .rw[qfv,List.length_map];rcases split b L hb with⟨h1,_⟩|⟨c,rfl,h1,_⟩
  .omega
  .have:c<bs.length:=r2.dom c L h1;omega
 .intro b L e wf af cs hb hg;rcases split b L hb with⟨h1,h2,h3⟩|⟨c,rfl,h2,h3,_⟩
  .rw[h3]at hg;obtain⟨q1,c,ty,fz,q2,q3,q4,q5,q6⟩:=r1.cells b L e wf af cs h2 hg
   grind[VR.mono]
  .rw[h3]at hg;obtain⟨cs0,g1,rfl⟩:=shc hg;obtain⟨q1,c',ty,fz,q2,q3,q4,q5,q6⟩:=r2.cells c L e wf af cs0 h2 g1
   grind[qeB,qqb,VR.sh]
 .intro b L es hb hg;rcases split b L hb with⟨h1,h2,h3⟩|⟨c,rfl,h2,h3,_⟩
  .rw[h3]at hg;obtain⟨q1,o,q2,q3⟩:=r1.maps b L es h2 hg;exact by grind[qcu.mono]
  grind[Rel.maps,qcu.sh]
 .intro b L e af cs hb hg b' L' x hb' hx hd he;rcases split b L hb with⟨h1,h2,h3⟩|⟨c,rfl,h2,h3,h4⟩<;>rcases split b' L' hb' with⟨i1,i2,i3⟩|⟨c',rfl,i2,i3,i4⟩
  .rw[h3]at hg;rw[i3]at hx
   grind[Rel.excl]
  .rw[h3]at hg;have:=oldlt b L _ h2 hg (by simp);omega
  .rw[i3]at hx;have:=oldlt b' L' _ i2 hx hd;omega
  .rw[h3]at hg;rw[i3]at hx;obtain⟨cs0,g1,rfl⟩:=shc hg;obtain⟨x0,g2,g3⟩:=shn hx hd;rw[r2.excl c L e af cs0 h2 g1 c' L' x0 i2 g2 g3 he]
 .intro b L es hb hg b' L' x hb' hx hd he;rcases split b L hb with⟨h1,h2,h3⟩|⟨c,rfl,h2,h3,h4⟩
  .rw[h3]at hg
   grind[Rel.exclm]
  .rw[h3]at hg;obtain⟨es0,g1,rfl⟩:=shm hg;rcases split b' L' hb' with⟨i1,i2,i3⟩|⟨c',rfl,i2,i3,i4⟩
   .rw[i3]at hx;have:=oldlt b' L' _ i2 hx hd;omega
   .rw[i3]at hx;obtain⟨x0,g2,g3⟩:=shn hx hd;rw[r2.exclm c L es0 h2 g1 c' L' x0 i2 g2 g3 he]
 .intro b L e wf cs hb hg b' L' e' wf' af' cs' hb' hx he;rcases split b L hb with⟨h1,h2,h3⟩|⟨c,rfl,h2,h3,h4⟩<;>rcases split b' L' hb' with⟨i1,i2,i3⟩|⟨c',rfl,i2,i3,i4⟩
  .rw[h3]at hg;rw[i3]at hx;exact r.app b L e wf cs h2 hg b' L' e' wf' af' cs' i2 hx he
  .rw[h3]at hg;have:=oldlt b L _ h2 hg (by simp);omega
  .rw[i3]at hx;have:=oldlt b' L' _ i2 hx (by simp);omega
  .rw[h3]at hg;rw[i3]at hx;obtain⟨cs0,g1,rfl⟩:=shc hg;obtain⟨cs1,g2,rfl⟩:=shc hx;have q:=r2.app c L e wf cs0 h2 g1 c' L' e' wf' af' cs1 i2 g2 he;rw[qeB,qeB]
   grind
 .intro b L hb hf;rw[qhf]at hf;rcases split b L hb with⟨h1,h2,h3⟩|⟨c,rfl,h2,h3,h4⟩
  .grind[Rel.flr]
  .exact qaA r.base h4
 .intro k arr hk;refine⟨(r2.frz k arr hk).1,λb L x hb hx hd=>?_⟩
  rcases split b L hb with⟨h1,h2,h3⟩|⟨c,rfl,h2,h3,h4⟩
  .rw[h3]at hx;exact(r1.frz k arr hk).2 b L x h2 hx hd
  .rw[h3]at hx;obtain⟨x0,g2,g3⟩:=shn hx hd;exact(r2.frz k arr hk).2 c L x0 h2 g2 g3
 .refine⟨?_,λb L hb=>?_⟩
  .show h.sz+bs.length<=_;rw[qfv,List.length_map];omega
  .rcases split b L hb with⟨_,h2,_⟩|⟨c,rfl,h2,_,_⟩
   .exact Nat.lt_of_lt_of_le (r.dn.2 b L h2) hw
   .exact r2.dn.2 c L h2
def Own(P:Program)(f:Nat)(vs:List AV)(v:AV)(bs:List Blk):Prop :=
 ∀(h:Hp) (k:AV->Hp->Prop),k (shv h.sz v) (qam h (bs.map (shb h.sz)))->SC P f vs h k
def qud(v:AV)(bs:List Blk)(v':AV)(h':Hp):Prop:=h'.fl=0->∃src:List Nat,NV (rl src h'.sz) bs.length v' v/\BWs h' (rl src h'.sz) bs.length src bs/\(src.filter λb=>decide (b<h'.sz)).Nodup
def Own.of_SC{f:Nat}{vs:List AV}{v:AV}{bs:List Blk}(hcl:qt vs=true)(hs:SC P f vs H0 (qud v bs)):Own P f vs v bs:=by
 intro h k hk;refine⟨hs.1,λZ B w args r ha=>?_⟩
 have hcr:=ha.crs hcl;refine qb4.mono (hs.2 ⟨λ_=>none,Z.frz,0⟩ (low w.heap.size) w args r.empty (by grind[CRs.vr])) ?_
 rintro e w1 ⟨v0,v',h1,Z1,rfl,g1,g2,g3,g4⟩;obtain⟨src,s1,s2,s3⟩:=g1 g4.fl;have hw:Wk 0 (mkT [(0,v0)]) h1 (mkT [(0,v)]) (mkH 0 bs):=Wk.mk [(0,v)] bs src ⟨⟨v0,by simp[mkT,Tr.get_set],s1⟩,trivial⟩ s2 s3 g4.fl
 obtain⟨Z2,t2,r2,k2⟩:=hw Z1 (low w.heap.size) w1 #[v'] (λj x hj=>by
  have:=qex hj
  simp_all) g3
 have hv2:VR σ0 Z2 v v':=by
  have:=(t2 0 v (by simp[mkT,Tr.get_set])).2
  simp_all
 have f1:∀k a,Z.frz k=some a->Z2.frz k=some a:=by grind[Kep.frz,Kept.frz]
 have f2:∀k a,Z2.frz k=some a->Z.frz k=some a\/w.heap.size<=k:=λk a hk=>(k2.fnew k a hk).elim (λhk=>(g4.fnew k a hk).imp id Nat.not_lt.1) (by omega)
 refine⟨_,v',_,Z.join Z2 h.sz bs.length,rfl,hk,hv2.sh r2.dn.1,Rel.joinH r r2 g4.pres g4.wle f1 f2,?_⟩;refine⟨by grind[qk2],by rw[qfv];omega,qhf,by grind[qbt],by grind[Kept.pres,Rel.base],g4.wle,g4.io,f1,λk a hk=>(f2 k a hk).imp id (qaA r.base),?_⟩
 exact Nat.le_trans r.dn.1 (Nat.le_add_right _ _)
theorem Own.mk{f:Nat}{i:IFn}{vs:List AV}{v:AV}{bs:List Blk}(hc:qc P f i=true)(hcl:qt vs=true)(hV:V P 0 i.body (xk i.res (qud v bs)) (qbl vs 0 .leaf) H0):Own P f vs v bs :=
 Own.of_SC hcl (SC.mk hc (qk hV))
def qiN(P:Program)(f:Nat)(vs':List AV)(v:AV)(bs:List Blk):Prop :=
 ∀(h:Hp) (vs:List AV) (k:AV->Hp->Prop),Frzs h vs vs'->k (shv h.sz v) (qam h (bs.map (shb h.sz)))->SC P f vs h k
def PC(P:Program)(f:Nat)(vs:List AV)(h:Hp)(k:AV->Hp->Prop):Prop:=∃v h',(∀k':AV->Hp->Prop,k' v h'->SC P f vs h k')/\k v h'
def PY(P:Program)(b:Nat)(vs:List AV)(h:Hp)(k:AV->Hp->Prop):Prop:=∃v h',(∀k':AV->Hp->Prop,k' v h'->CC P 0 (.yl b::vs) h k')/\k v h'
@[congr] theorem qGd {f:Nat} {vs vs':List AV} {h:Hp} {k:AV->Hp->Prop} {mk:Prop} (_:zm=mk) (h':vs=vs'):PC P f vs h k=PC P f vs' h k:=by rw[h']
@[congr] theorem qGe {b:Nat} {vs vs':List AV} {h:Hp} {k:AV->Hp->Prop} {mk:Prop} (_:zm=mk) (h':vs=vs'):PY P b vs h k=PY P b vs' h k:=by rw[h']
def PCC(P:Program):zI:=λf vs h k=>∃v h',(∀k':AV->Hp->Prop,k' v h'->CC P f vs h k')/\k v h'
def qIw:LC (PCC P):=λ_ _ _ _ ⟨v,h',h1,h2⟩=>⟨v,h',h2,λ_ h3=>⟨v,h',h1,h3⟩⟩
def que:qdC P σ0 (PCC P):=⟨λf vs h _ ⟨_,_,h1,h2⟩=>(qe5 P).1 f vs h _ (h1 _ h2),λb vs h _ ⟨_,_,h1,h2⟩=>(qe5 P).2 b vs h _ (h1 _ h2)⟩
def qCE{b:Nat}{vs:List AV}{h:Hp}{k:AV->Hp->Prop}:cvF (PCC P) (.yl b) vs h k↔PY P b vs h k:=Iff.rfl
def qCD{f:Nat}{a c vs:List AV}{h:Hp}{k:AV->Hp->Prop}:cvF (PCC P) (.fn f a c) vs h k↔PC P f (a++(vs++c)) h k:=Iff.rfl
def qwX{dst:Option Nat}{f:Nat}{args:List O}{ops:List ROp}{Q:Tr AV->Hp->Prop}{t:Tr AV}{s fl:Nat}{tr:Tr Blk}:VR' (PCC P) (⟨dst,.callF f args,none⟩::ops) Q t ⟨s,fl,tr⟩↔qaq t args (λvs=>PC P f vs ⟨s,s,tr⟩ (λv h'=>qap t dst v (λt'=>VR' (PCC P) ops Q t' (h'.down fl)))):=qsv
def qwY{dst:Option Nat}{f:Nat}{args:List O}{ops:List ROp}{Q:Tr AV->Hp->Prop}{t:Tr AV}{h:Hp}:VR' (PCC P) (⟨dst,.callW f args,none⟩::ops) Q t h↔qaq t args (λvs=>PC P f vs h (λv h'=>qap t dst v (λt'=>VR' (PCC P) ops Q t' h'))):=qsx
def zg{ops:List ROp}{Q:Tr AV->Hp->Prop}{t:Tr AV}{h:Hp}(hr:VR' (PCC P) ops Q t h):VD P ops Q t h:=qGl qIw que hr
def qa.pc{f:Nat}{vs:List AV}{v:AV}{h:Hp}{k:AV->Hp->Prop}(hp:qa P f vs v)(hk:k v h):PC P f vs h k:=⟨v,h,λk' h'=>hp h k' h',hk⟩
def qa.lendp{f:Nat}{vs vs':List AV}{v:AV}{h:Hp}{k:AV->Hp->Prop}(hp:qa P f vs' v)(hf:Frzs h vs vs')(hv:flat v=true)(hk:k v h):PC P f vs h k:=⟨v,h,λ_ h'=>qa.lend hp hf hv h',hk⟩
def qiN.pc{f:Nat}{vs vs':List AV}{v:AV}{bs:List Blk}{h:Hp}{k:AV->Hp->Prop}(hp:qiN P f vs' v bs)(hf:Frzs h vs vs')(hk:k (shv h.sz v) (qam h (bs.map (shb h.sz)))):PC P f vs h k:=⟨_,_,λk' h'=>hp h vs k' hf h',hk⟩
def Own.sc{f:Nat}{vs:List AV}{v:AV}{bs:List Blk}{h:Hp}{k:AV->Hp->Prop}(hp:Own P f vs v bs)(hk:k (shv h.sz v) (qam h (bs.map (shb h.sz)))):SC P f vs h k:=hp h k hk
def qk6{s f:Nat}{tr:Tr Blk}{x:Blk}:Hp.push ⟨s,f,tr⟩ x=⟨s+1,f,tr.set s x⟩:=rfl
def qhE{h:Hp}:qam h []=h:=rfl
def qfR{h:Hp}{x:Blk}{xs:List Blk}:qam h (x::xs)=qam (h.push x) xs:=rfl

abbrev qGc:=Nat->List AV->Option AV
theorem S.mono{n:Nat}{c:ICode}{Q Q':X->Tr AV->Hp->Prop}{t:Tr AV}{h:Hp}(hs:S P n c Q t h)(hq:∀e t h,Q e t h->Q' e t h):S P n c Q' t h:=by
 intro nt code hc hn ro hro Z B w a ht hsz r;refine wpIn_mono (hs nt code hc hn ro hro Z B w a ht hsz r) ?_;rintro e a1 w1 ⟨x1,t1,h1,Z1,rs,hx,hq1,rest⟩;exact⟨x1,t1,h1,Z1,rs,hx,hq _ _ _ hq1,rest⟩
end Go.Kc
end
section
namespace Go.Kc
variable {P:Program} {t:Tr AV} {h:Hp} {k:AV->Hp->Prop}

def qJp(l:List UInt8)(i:Nat):Nat×Nat:=Utf8.decode ⟨l.toArray⟩ i
def qDb(x:Blk)(k:List UInt8->Nat->Prop):Prop:=∃a n,x = .map (qeu a n)/\k a n
@[congr] theorem qDc {x x':Blk} {k:List UInt8->Nat->Prop} {mk:Prop} (_:zm=mk) (h:x=x'):qDb x k=qDb x' k:=by rw[h]
theorem qtn{a a':List UInt8}{n n':Nat}(e:qeu a n=qeu a' n'):a=a'/\n=n':=by
 simp only[qeu,List.cons.injEq,Prod.mk.injEq,AV.s.injEq,AV.i.injEq,true_and,and_true]at e
 grind
def qzv{a:List UInt8}{n:Nat}{k:List UInt8->Nat->Prop}:qDb (.map (qeu a n)) k↔k a n:=by
 constructor
 .rintro⟨a',n',h1,h2⟩
  grind[qtn]
 .intro h1;exact⟨a,n,rfl,h1⟩
def qfM(es:List (AV×AV)):Prop:=∀e ∈ es,clo e.1=true/\clo e.2=true
def qCg{r:Nat->Nat}{m b:Nat}{es:List (AV×AV)}(hb:b<h.sz):BW h r m b (.map es)↔evB (h.tr.get b) (λx=>qpI x (λes'=>EsW r m es' es)):=by
 constructor
 .rintro (h1|h1|⟨e',w0,a0,cs,w',a',cs'',h1,h2,h3,h4,h5⟩|⟨es',es2,h1,h2,h3⟩)
  .omega
  .cases h1
  .cases h2
  .cases h2;exact⟨_,h1,h3⟩
 .rintro⟨x,h1,h2⟩;cases x with
  | map es'=>exact .inr (.inr (.inr ⟨_,_,h1,rfl,h2⟩))
  | dead=>exact h2.elim
  | cells e0 w0 a0 cs=>exact h2.elim
def qnW{r:Nat->Nat}{m:Nat}{es es':List (AV×AV)}(hn:∀lr ts,es'≠zz lr ts):EsW r m es es'↔es=es'/\qfM es' :=
 ⟨λh=>by
  rcases h with⟨rfl,h⟩|⟨lr,ts,ts',_,h,_⟩
  .exact⟨rfl,h⟩
  grind,fun⟨h1,h2⟩=>by subst h1;exact .inl ⟨rfl,h2⟩⟩
def qyZ{r:Nat->Nat}{m:Nat}{es:List (AV×AV)}:EsW r m es []↔es=[]:=(qnW (by simp[zz])).trans ⟨And.left,λh=>⟨h,by intro e he;cases he⟩⟩
def qGX{r:Nat->Nat}{m:Nat}{es es':List (AV×AV)}{a:List UInt8}{v:AV}:EsW r m es ((.s a,v)::es')↔es=(.s a,v)::es'/\qfM ((.s a,v)::es'):=qnW (by simp[zz])
def qGW{r:Nat->Nat}{m:Nat}{es es':List (AV×AV)}{q:IntKind}{a:Int}{v:AV}:EsW r m es ((.i q a,v)::es')↔es=(.i q a,v)::es'/\qfM ((.i q a,v)::es'):=qnW (by simp[zz])
def qCL{r:Nat->Nat}{m:Nat}{es:List (AV×AV)}{a:List UInt8}{n:Nat}:EsW r m es (qeu a n)↔es=qeu a n/\qfM (qeu a n):=qnW (by simp[qeu,zz])
def jO{r:Nat->Nat}{m:Nat}{lr lr':Loop}{ts ts':List (Nat×AV)}:EsW r m (zz lr ts) (zz lr' ts')↔lr=lr'/\TsW r m ts ts' :=
 ⟨λh=>by
  rcases h with⟨h1,h⟩|⟨l,t1,t2,h1,h2,h3⟩
  .exact absurd (h (.lp lr,.undef) (by simp[zz])).1 (by simp[clo])
  grind[qpX],fun⟨h1,h2⟩=>by subst h1;exact .inr (by grind)⟩
def jV{r:Nat->Nat}{m:Nat}{ts:List (Nat×AV)}:TsW r m ts []↔True:=iff_true_intro (by intro p hp;cases hp)
def jg{r:Nat->Nat}{m:Nat}{ts ts':List (Nat×AV)}{p:Nat×AV}:TsW r m ts (p::ts')↔evO (qkz ts p.1) (λv=>NV r m v p.2)/\TsW r m ts ts':=by
 simp only[TsW,List.mem_cons,forall_eq_or_imp];exact Iff.rfl
def zS{p:Nat×AV}{l:List (Nat×AV)}{j:Nat}:qkz (p::l) j=if p.1=j then some p.2 else qkz l j:=rfl
def qtB{a:List UInt8}{n:Nat}:qfM (qeu a n)↔True:=by
 refine iff_true_intro ?_;intro e he;simp only[qeu,List.mem_cons,List.mem_nil_iff,or_false]at he;rcases he with rfl|rfl<;>exact⟨rfl,rfl⟩
def qqO:qfM []↔True:=iff_true_intro (by intro e he;cases he)
def qpJ{e:AV×AV}{es:List (AV×AV)}:qfM (e::es)↔(clo e.1=true/\clo e.2=true)/\qfM es:=by simp[qfM]
def SC.nil0{f:Nat}{k:AV->Hp->Prop}(h1:SC P f [.nils] h k)(h2:SC P f [.nz] h k):SC P f [.fz 0 []] h k:=by
 refine⟨h1.1,λZ B w args r ha=>?_⟩
 generalize hl:args.toList=xs at ha;cases ha with
 | cons _ _ x xs hx hxs =>
  cases hx with
  | fz _ off c _ k' arr hn hk hs=>exact h2.2 Z B w args r (by rw[hl];exact .cons _ _ _ _ (.nz _ _) hxs)
  | fz0 a =>
   cases a with
   | none=>exact h1.2 Z B w args r (by rw[hl];exact .cons _ _ _ _ .nils hxs)
   | some a=>exact h2.2 Z B w args r (by rw[hl];exact .cons _ _ _ _ (.nz _ _) hxs)
def qe{r:Nat->Nat}{m:Nat}{vs:List AV}(hc:qt vs=true):NVs r m vs vs↔True:=by grind[NVs.refl]
def qJ{vs:List AV}(hc:qt vs=true):Frzs h vs vs↔True:=iff_true_intro (Frzs.self hc)
theorem Wk.mkn{n:Nat}{t:Tr AV}(ts:List (Nat×AV))(bl:List Blk)(src:List Nat)(hT:TWs t (rl src h.sz) bl.length ts)(hB:BWs h (rl src h.sz) bl.length src bl)
  (hI:((src.filter λb=>decide (b<h.sz)).Nodup)) (hfl:h.fl=0) (hn:n<=bl.length) (hlow:∀b,b<n->rl src h.sz b=b):Wk n t h (mkT ts) (mkH 0 bl):=by
 obtain⟨hlen,hget⟩:=hB.get;refine Wk.of (r:=rl src h.sz) ⟨hfl.symm,λb' x' hb hg=>?_,λb1 b2 h1 h2 _ _ he hl=>?_,λb' _ _ _=>by rw[hfl];omega,hlow,hn,λb _ hb=>by rw[hfl]at hb;omega,λj v' hj=>?_⟩
 .rw[jh]at hg;obtain⟨b,q1,q2⟩:=hget b' x' hg;have:rl src h.sz b'=b:=by simp[rl,List.getD_eq_getElem?_getD,q1]
  rw[this];exact q2
 .have h1:b1<src.length:=by rw[hlen];exact h1
  have h2:b2<src.length:=by rw[hlen];exact h2
  simp only[rl,List.getD_eq_getElem?_getD,zzE h1,zzE h2,Option.getD_some]at he hl
  grind[Wk.mk.nodup_filter_inj]
 .exact hT.get _ (qex hj)
def SL.loopn{n:Nat}{α:Type}{x:ICode}{Q:X->Tr AV->Hp->Prop}(T:α->List (Nat×AV))(B:α->List Blk)(I:α->Prop)(μ:α->Nat)(a0:α)(src:List Nat)
  (hT:TWs t (rl src h.sz) (B a0).length (T a0)) (hB:BWs h (rl src h.sz) (B a0).length src (B a0)) (hI:(src.filter λb=>decide (b<h.sz)).Nodup) (hfl:h.fl=0) (hn:n<=(B a0).length) (hlow:∀b,b<n->rl src h.sz b=b) (h0:I a0)
  (step:∀a,I a->∀G:Tr AV->Hp->Prop,(∀b,I b->μ b<μ a->∀t' h',Wk n t' h' (mkT (T b)) (mkH 0 (B b))->G t' h')->
   V P n x (λe t h=>onX e (G t h) (λid=>Q (.exit id) t h) (Q .ret t h)) (mkT (T a)) (mkH 0 (B a))):SL P n x Q t h:=by
 have main:∀m a,μ a=m->I a->SL P n x Q (mkT (T a)) (mkH 0 (B a)):=by
  intro m
  induction m using Nat.strongRecOn with
  | ind m ih =>
   intro a ha hi;exact qcp (step a hi (λt h=>SL P n x Q t h) λb hb hlt t' h' hw=>SL.weak hw (ih (μ b) (ha ▸ hlt) b rfl hb))
 exact SL.weak (by grind[Wk.mkn]) (main _ a0 rfl h0)
end Go.Kc
end
