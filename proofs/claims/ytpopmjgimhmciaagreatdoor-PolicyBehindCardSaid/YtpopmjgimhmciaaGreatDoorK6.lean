/- Part 6 of the abstract machine and of the functions' walks. Conditions: with each theorem. -/
import Derived.Test.YtpopmjgimhmciaaGreatDoorK5
import Derived.Laws.Externs
import Derived.Lib.Overlaps
import GoSem.ClaimChange
import Derived.ChangeArms
import Derived.ReadAgain
import Derived.ChangeOld
import Derived.ChangeBears
set_option linter.unusedSimpArgs false
set_option linter.unusedVariables false
set_option linter.unnecessarySimpa false
set_option linter.defProp false
section
/- Frames, written out. No condition. -/
namespace Go.Kc
variable {P:Program} {h:Hp}

def ZB(h:Hp)(g:Nat->Nat)(m:Nat):List Nat->List Blk->Prop
 | [],[]=>True
 | b::at',.cells e true a cs::xs=>(z8 m cs=true∧evB (h.tr.get b) (fun y=>y=Blk.cells e true a (kr g cs))∧h.fl<=b∧b<h.sz)∧ZB h g m at' xs
 | _,_=>False
theorem ZB.get{g:Nat->Nat}{m:Nat}:∀{at':List Nat} {bs:List Blk},ZB h g m at' bs->at'.length=bs.length∧∀(i:Nat) (x:Blk),bs[i]?=some x->∃b e a cs,at'[i]?=some b∧x = .cells e true a cs∧z8 m cs=true∧h.tr.get b=some (.cells e true a (kr g cs))∧h.fl<=b∧b<h.sz
 | [],[],_=>⟨rfl,by simp⟩
 | [],_::_,hh=>by simp[ZB] at hh
 | _::_,[],hh=>by simp[ZB] at hh
 | b::at',.dead::xs,hh=>by simp[ZB] at hh
 | b::at',.map _::xs,hh=>by simp[ZB] at hh
 | b::at',.cells e false a cs::xs,hh=>by simp[ZB] at hh
 | b::at',.cells e true a cs::xs,hh=>by
  obtain⟨⟨h1,⟨y,h2,h3⟩,h4,h5⟩,h6⟩:=hh;subst h3;obtain⟨h7,h8⟩:=ZB.get h6;refine⟨by simp[h7],fun i x hx=>?_⟩
  cases i with
  | zero=>simp at hx;subst hx;exact⟨b,e,a,cs,rfl,rfl,h1,h2,h4,h5⟩
  | succ i=>simpa using h8 i x (by simpa using hx)
theorem Lent.of{at':List Nat}{bs:List Blk}(hn:at'.Nodup)(hl:ZB h (gAt at' h.sz) bs.length at' bs):Lent h at' bs:=by
 obtain⟨h1,h2⟩:=hl.get;refine⟨h1,hn,fun i x hx=>?_⟩
 obtain⟨b,e,a,cs,q1,q2,q3,q4,q5,q6⟩:=h2 i x hx;have hi:i<at'.length:=(List.getElem?_eq_some_iff.1 q1).1
 have e1:gAt at' h.sz i=b:=by
  rw[Q8 hi];exact (List.getElem?_eq_some_iff.1 q1).2
 exact⟨e,a,cs,q2,q3,by rw[e1];exact q4,by rw[e1];exact q5,by rw[e1];exact q6⟩
theorem qi5{g:Nat->Nat}{m:Nat}:ZB h g m [] []↔True:=Iff.rfl
theorem qgN{g:Nat->Nat}{m b e:Nat}{at':List Nat}{a:Bool}{cs:List AV}{xs:List Blk}:ZB h g m (b::at') (.cells e true a cs::xs)↔(z8 m cs=true∧evB (h.tr.get b) (fun y=>y=Blk.cells e true a (kr g cs))∧h.fl<=b∧b<h.sz)∧ZB h g m at' xs:=Iff.rfl
theorem ZX{s f b:Nat}{tr:Tr Blk}{x:Blk}:Hp.put ⟨s,f,tr⟩ b x=⟨s,f,tr.set b x⟩:=rfl
theorem qdZ{xs:List Blk}:Ze h [] xs=h:=by simp[Ze]
theorem qb8{b:Nat}{at':List Nat}{x:Blk}{xs:List Blk}:Ze h (b::at') (x::xs)=Ze (h.put b x) at' xs:=rfl
theorem qp{g:Nat->Nat}{v:AV}(hv:clo v=true):rnv g v=v:=by
 have key:(∀v:AV,clo v=true->rnv g v=v):=fun v=>by
  refine AV.rec (motive_1:=fun v=>clo v=true->rnv g v=v) (motive_2:=fun vs=>qt vs=true->kr g vs=vs) ?_ ?_ ?_ ?_ ?_ ?_ ?_ ?_ ?_ ?_ ?_ ?_ ?_ ?_ ?_ ?_ ?_ ?_ ?_ ?_ ?_ ?_ ?_ ?_ ?_ ?_ v
  all_goals first
   | (intros;rfl)
   | (intros;rename_i hh;simp[clo] at hh;done)
   | skip
  ·intro f a c h1 h2 hh;simp only[clo,Bool.and_eq_true] at hh;simp only[rnv,h1 hh.1,h2 hh.2]
  ·intro t v h1 hh;simp only[clo] at hh;simp only[rnv,h1 hh]
  ·intro cs h1 hh;simp only[clo] at hh;simp only[rnv,h1 hh]
  ·intro cs h1 hh;simp only[clo] at hh;simp only[rnv,h1 hh]
  ·intro v vs h1 h2 hh;simp only[qt,Bool.and_eq_true] at hh;simp only[kr,h1 hh.1,h2 hh.2]
 exact key v hv
theorem qe{g:Nat->Nat}:∀{vs:List AV},qt vs=true->kr g vs=vs
 | [],_=>rfl
 | v::vs,h=>by
  simp only[qt,Bool.and_eq_true] at h;simp only[kr,qp h.1,qe h.2]
def jh:Blk->Bool
 | .dead=>false
 | _=>true
theorem qb5{α β:Type}{f:α->β}{p:α->Bool}:∀{l:List α},((l.filter p).map f).Nodup->∀{i j:Nat} {x y:α},l[i]?=some x->l[j]?=some y->p x=true->p y=true->f x=f y->i=j
 | [],_,i,j,x,y,hi,_,_,_,_=>by simp at hi
 | a::l,hn,i,j,x,y,hi,hj,hx,hy,he=>by
  have tail:((l.filter p).map f).Nodup:=by
   rw[List.filter_cons] at hn;split at hn
   ·exact (List.nodup_cons.1 hn).2
   ·exact hn
  have no:∀{z:α} {m:Nat},l[m]?=some z->p z=true->p a=true->f a=f z->False:=by
   intro z m hz hpz hpa hfz;rw[List.filter_cons,if_pos hpa] at hn;exact (List.nodup_cons.1 hn).1 (hfz ▸ List.mem_map_of_mem (List.mem_filter.2 ⟨List.mem_of_getElem? hz,hpz⟩))
  cases i with
  | zero =>
   simp at hi;subst hi;cases j with
   | zero=>rfl
   | succ j=>exact (no (by simpa using hj) hy hx he).elim
  | succ i =>
   cases j with
   | zero=>simp at hj;subst hj;exact (no (by simpa using hi) hx hy he.symm).elim
   | succ j =>
    have hij:i=j:=qb5 tail (i:=i) (j:=j) (by simpa using hi) (by simpa using hj) hx hy he;rw[hij]
theorem Wk.mkd{n:Nat}{t:Tr AV}(ts:List (Nat×AV))(bl:List Blk)(src:List Nat)(hT:TWs t (rl src h.sz) bl.length ts)(hB:BWs h (rl src h.sz) bl.length src bl)
  (hI:(((src.zip bl).filter fun p=>decide (p.1<h.sz)&&jh p.2).map Prod.fst).Nodup) (hfl:h.fl=0) (hn:n<=bl.length) (hlow:∀b,b<n->rl src h.sz b=b):Wk n t h (mkT ts) (mkH 0 bl):=by
 obtain⟨hlen,hget⟩:=hB.get;refine Wk.of (r:=rl src h.sz) ⟨hfl.symm,fun b' x' hb hg=>?_,fun b1 b2 h1 h2 l1 l2 he hl=>?_,fun b' _ _ _=>by rw[hfl];exact Nat.zero_le _,hlow,hn,fun b _ hb=>by rw[hfl] at hb;exact absurd hb (Nat.not_lt_zero _),fun j v' hj=>?_⟩
 ·rw[xt] at hg;obtain⟨b,q1,q2⟩:=hget b' x' hg;have:rl src h.sz b'=b:=by simp[rl,List.getD_eq_getElem?_getD,q1]
  rw[this];exact q2
 ·obtain⟨x1,g1,d1⟩:=l1;obtain⟨x2,g2,d2⟩:=l2;rw[xt] at g1 g2;obtain⟨c1,q1,_⟩:=hget b1 x1 g1;obtain⟨c2,q2,_⟩:=hget b2 x2 g2;have e1:rl src h.sz b1=c1:=by simp[rl,List.getD_eq_getElem?_getD,q1]
  have e2:rl src h.sz b2=c2:=by simp[rl,List.getD_eq_getElem?_getD,q2]
  rw[e1,e2] at he;rw[e1] at hl;have v1:jh x1=true:=by cases x1<;>first|rfl|exact absurd rfl d1
  have v2:jh x2=true:=by cases x2<;>first|rfl|exact absurd rfl d2
  refine qb5 hI (i:=b1) (j:=b2) (x:=(c1,x1)) (y:=(c2,x2)) ?_ ?_ ?_ ?_ he
  ·rw[List.getElem?_zip_eq_some];exact⟨q1,g1⟩
  ·rw[List.getElem?_zip_eq_some];exact⟨q2,g2⟩
  ·simp[hl,v1]
  ·simp[← he,hl,v2]
 ·exact hT.get _ (Z1 hj)
theorem qgZ{b o:Nat}{k:AV->Prop}:Kb (.ptr b o) k↔k (.ptr b o):=Iff.rfl
theorem qjs{cs:List AV}{o:Nat}{k:AV->Prop}:Kb (.pf cs o) k↔k (.pf cs o):=Iff.rfl
theorem qgY{b:Nat}{k:AV->Prop}:Kb (.map b) k↔k (.map b):=Iff.rfl
theorem qjt{b:Nat}{k:AV->Prop}:Kb (.yl b) k↔k (.yl b):=Iff.rfl
theorem qjr{f:Nat}{a c:List AV}{k:AV->Prop}:Kb (.fn f a c) k↔k (.fn f a c):=Iff.rfl
theorem qm6{C:zA}{ops:List ROp}{Q:Tr AV->Hp->Prop}{t:Tr AV}{s f f':Nat}{tr:Tr Blk}:VR' C ops Q t (Hp.down ⟨s,f,tr⟩ f')↔VR' C ops Q t ⟨s,f',tr⟩:=Iff.rfl
theorem qs9{C:zA}{ops:List ROp}{Q:Tr AV->Hp->Prop}{t:Tr AV}{s f:Nat}{tr:Tr Blk}{dst:Option Nat}{o:IOp}:VR' C (⟨dst,.op o,none⟩::ops) Q t ⟨s,f,tr⟩ ↔
  if wr (.op o)=true then opK qL o t ⟨s,f,tr⟩ (fun v h'=>wm t dst v (fun t'=>VR' C ops Q t' h')) else opK qL o t ⟨s,s,tr⟩ (fun v h'=>wm t dst v (fun t'=>VR' C ops Q t' (h'.down f))):=qnQ
theorem qqA{C:zA}{Q:Tr AV->Hp->Prop}{t:Tr AV}{s f:Nat}{tr:Tr Blk}:VR' C [] Q t ⟨s,f,tr⟩↔Q t ⟨s,f,tr⟩:=Iff.rfl
theorem qP{m:Nat}:∀{v:AV},clo v=true->bnd m v=true:=by
 intro v;refine AV.rec (motive_1:=fun v=>clo v=true->bnd m v=true) (motive_2:=fun vs=>qt vs=true->z8 m vs=true) ?_ ?_ ?_ ?_ ?_ ?_ ?_ ?_ ?_ ?_ ?_ ?_ ?_ ?_ ?_ ?_ ?_ ?_ ?_ ?_ ?_ ?_ ?_ ?_ ?_ ?_ v
 all_goals first
  | (intros;rfl)
  | (intros;rename_i hh;simp[clo] at hh;done)
  | skip
 ·intro f a c h1 h2 hh;simp only[clo,Bool.and_eq_true] at hh;simp only[bnd,h1 hh.1,h2 hh.2,Bool.and_self]
 ·intro t v h1 hh;simp only[clo] at hh;simp only[bnd,h1 hh]
 ·intro cs h1 hh;simp only[clo] at hh;simp only[bnd,h1 hh]
 ·intro cs h1 hh;simp only[clo] at hh;simp only[bnd,h1 hh]
 ·intro v vs h1 h2 hh;simp only[qt,Bool.and_eq_true] at hh;simp only[z8,h1 hh.1,h2 hh.2,Bool.and_self]
theorem qr{m:Nat}:∀{vs:List AV},qt vs=true->z8 m vs=true
 | [],_=>rfl
 | v::vs,h=>by
  simp only[qt,Bool.and_eq_true] at h;simp only[z8,qP h.1,qr h.2,Bool.and_self]
end Go.Kc
end
section
/- One name for the lemmas that every walk names. No condition. -/
namespace Go.Kc
def vQ:=And.intro @List.map_cons.{0,0} (And.intro @List.map_nil.{0,0} (And.intro @Bool.and_true (And.intro @Bool.true_and (And.intro @Bool.and_self (And.intro @and_self (And.intro @Tr.get_set (And.intro @decide_eq_true_eq (And.intro @Bool.false_eq_true (And.intro @true_and (And.intro @and_true (And.intro @List.getElem?_cons_zero.{0} (And.intro @List.getElem?_cons_succ.{0} (And.intro @List.length_cons.{0} (And.intro @List.length_nil.{0} (And.intro @List.take_zero.{0} (And.intro @List.take_succ_cons.{0} (And.intro @List.drop_zero.{0} (And.intro @List.drop_succ_cons.{0} (And.intro @List.drop_nil.{0} (And.intro @List.take_nil.{0} (And.intro @List.nil_append.{0} (And.intro @List.cons_append.{0} (And.intro @List.append_nil.{0} (And.intro @Nat.zero_add (And.intro @Nat.add_zero (And.intro @Nat.le_refl (And.intro @Nat.zero_le (And.intro @Int.toNat_natCast (And.intro @Int.natCast_nonneg (And.intro @Int.ofNat_lt (And.intro @Bool.not_true (And.intro @Bool.not_false (And.intro @decide_true (And.intro @decide_false (And.intro @Bool.xor_false (And.intro @Bool.xor_true (And.intro @Bool.false_xor (And.intro @Bool.true_xor (And.intro @Nat.lt_irrefl (And.intro @List.replicate_succ.{0} (And.intro @List.replicate_zero.{0} (And.intro @List.flatten_cons.{0} (And.intro @List.flatten_nil.{0} (And.intro @Nat.succ_eq_add_one (And.intro @Option.isNone_none.{0} (And.intro @Option.isSome_none.{0} (And.intro @Bool.false_and (And.intro @Bool.and_false (And.intro @Nat.sub_zero (And.intro @qdZ (And.intro @qb8 (And.intro @ZX (And.intro @ql1 (And.intro @qam (And.intro @JE (And.intro @Z5 @List.append_assoc.{0}))))))))))))))))))))))))))))))))))))))))))))))))))))))))
def vX:=And.intro @qm6 (And.intro @qs9 (And.intro @qqA (And.intro @qjQ (And.intro @qjR (And.intro @qg6 (And.intro @qjO (And.intro @qgZ (And.intro @qjs (And.intro @qgY (And.intro @qjt @qjr))))))))))
def vU:=And.intro @shb.eq_1 (And.intro @shb.eq_2 (And.intro @shb.eq_3 (And.intro @shv.eq_1 (And.intro @shv.eq_2 (And.intro @shv.eq_3 (And.intro @shv.eq_4 (And.intro @shv.eq_5 (And.intro @shv.eq_6 (And.intro @shv.eq_7 (And.intro @shv.eq_8 (And.intro @shv.eq_9 (And.intro @shv.eq_10 (And.intro @Xb.eq_1 @Xb.eq_2)))))))))))))
def vY:=And.intro vU (And.intro @XJ.eq_1 (And.intro @XJ.eq_2 (And.intro @cellsOf.eq_1 (And.intro @cellsOf.eq_2 (And.intro @wr.eq_1 (And.intro @wr.eq_2 (And.intro @wr.eq_3 (And.intro @wr.eq_4 (And.intro @wr.eq_5 (And.intro @wr.eq_6 (And.intro @wr.eq_7 (And.intro @wr.eq_8 (And.intro @wr.eq_9 (And.intro @wr.eq_10 (And.intro @wr.eq_11 (And.intro @vf.eq_1 @vf.eq_2))))))))))))))))
def vS:=And.intro vA (And.intro vE (And.intro vO (And.intro vB (And.intro vF (And.intro vM (And.intro vR vX))))))
def vT:=And.intro vY (And.intro @qox (And.intro @qoy (And.intro vP (And.intro vC (And.intro vQ (And.intro @qfP (And.intro @qd7 (And.intro not_false_eq_true (And.intro @eq_self.{1} @Int.cast_ofNat_Int)))))))))
def vw:=And.intro vW (And.intro @qlq (And.intro @qr1 (And.intro @qr0 (And.intro @qoD (And.intro @qlr (And.intro @qm2 (And.intro @qkk (And.intro @qeM (And.intro @qob (And.intro @qb3 (And.intro @qgU (And.intro @qeN (And.intro @Ka (And.intro vP (And.intro vZ @Tr.get_set)))))))))))))))
def vK:=And.intro (And.intro @yQ.eq_1 (And.intro @rnb.eq_1 (And.intro @rnb.eq_2 (And.intro @rnb.eq_3 (And.intro @kr.eq_1 (And.intro @kr.eq_2 (And.intro @rnv.eq_1 (And.intro @rnv.eq_2 (And.intro @rnv.eq_3 (And.intro @rnv.eq_4 (And.intro @rnv.eq_5 (And.intro @rnv.eq_6 (And.intro @rnv.eq_7 (And.intro @rnv.eq_8 (And.intro @rnv.eq_9 (And.intro @rnv.eq_10 @gAt.eq_1)))))))))))))))) (And.intro @List.cons_append.{0} (And.intro @List.nil_append.{0} (And.intro @List.length_cons.{0} (And.intro @List.length_nil.{0} (And.intro Nat.zero_add (And.intro @List.take_succ_cons.{0} (And.intro @List.take_zero.{0} (And.intro @List.drop_succ_cons.{0} (And.intro @List.drop_zero.{0} (And.intro @List.map_cons.{0,0} (And.intro @List.map_nil.{0,0} (And.intro @List.getD_cons_zero.{0} (And.intro @List.getD_cons_succ.{0} (And.intro @qb8 (And.intro @qdZ (And.intro @Z5 (And.intro @JE (And.intro @ZX @qam))))))))))))))))))
def vJ:=And.intro vU (And.intro @Z5 (And.intro @JE (And.intro @qam (And.intro @qfP (And.intro @qd7 (And.intro @List.map_cons.{0,0} (And.intro @List.map_nil.{0,0} (And.intro @qkm (And.intro @qcy Nat.zero_add)))))))))
def vL:=And.intro vU (And.intro (And.intro @z8.eq_1 (And.intro @z8.eq_2 (And.intro @bnd.eq_1 (And.intro @bnd.eq_2 (And.intro @bnd.eq_3 (And.intro @bnd.eq_4 (And.intro @bnd.eq_5 (And.intro @bnd.eq_6 (And.intro @bnd.eq_7 (And.intro @bnd.eq_8 (And.intro @bnd.eq_9 (And.intro @bnd.eq_10 (And.intro @kr.eq_1 (And.intro @kr.eq_2 (And.intro @rnv.eq_1 (And.intro @rnv.eq_2 (And.intro @rnv.eq_3 (And.intro @rnv.eq_4 (And.intro @rnv.eq_5 (And.intro @rnv.eq_6 (And.intro @rnv.eq_7 (And.intro @rnv.eq_8 (And.intro @rnv.eq_9 (And.intro @rnv.eq_10 @gAt.eq_1)))))))))))))))))))))))) (And.intro @qgN (And.intro @qi5 (And.intro @Z5 (And.intro @JE @qam)))))
def ROp.q(n:Nat)(o:IOp):ROp:=⟨some n,.op o,none⟩
def ROp.m(n:Nat)(x:O):ROp:=⟨some n,.op (.mov x),none⟩
def ROp.g(n:Nat)(o:IOp)(c:Nat)(b:Bool):ROp:=⟨some n,.op o,some (c,b)⟩
def ROp.l(n f:Nat)(xs:List O):ROp:=⟨some n,.callF f xs,none⟩
def ROp.u(o:IOp):ROp:=⟨none,.op o,none⟩
def ICode.r(ops:List ROp):ICode:=.reg false ops
def O.k(n:Int):O:=.c (.i .i64 n)
def ROp.n(n a:Nat):ROp:=⟨some n,.op (.mov (.t a)),none⟩
def ROp.d(n a:Nat):ROp:=⟨some n,.op (.load1 (.t a)),none⟩
def ROp.v(n k a:Nat):ROp:=⟨some n,.op (.loadN k (.t a)),none⟩
def ROp.f(n k a:Nat):ROp:=⟨some n,.op (.fAddr k (.t a)),none⟩
def ROp.i(n k a b:Nat):ROp:=⟨some n,.op (.iAddrS k (.t a) (.t b)),none⟩
def ROp.a(n a:Nat)(k:Int):ROp:=⟨some n,.op (.bin .add (.t a) (.c (.i .i64 k))),none⟩
def ROp.b(n:Nat)(o:BinOp)(a b:Nat):ROp:=⟨some n,.op (.bin o (.t a) (.t b)),none⟩
def ROp.w(n:Nat)(o:BinOp)(a:Nat)(k:Int):ROp:=⟨some n,.op (.bin o (.t a) (.c (.i .i64 k))),none⟩
def ROp.e(n a:Nat):ROp:=⟨some n,.op (.len false (.t a)),none⟩
def ROp.x(n a k:Nat):ROp:=⟨some n,.op (.ext (.t a) k),none⟩
def ROp.s(n a b:Nat):ROp:=⟨some n,.op (.bin .lss (.t a) (.t b)),none⟩
def ROp.p(n a b:Nat):ROp:=⟨some n,.op (.pick (.t a) (.t b) (.c (.b false))),none⟩
def ROp.o(n a b:Nat):ROp:=⟨some n,.op (.pick (.t a) (.c (.b true)) (.t b)),none⟩
def ROp.y(n a c:Nat):ROp:=⟨some n,.op (.mov (.t a)),some (c,true)⟩
def ROp.z(n a c:Nat):ROp:=⟨some n,.op (.mov (.t a)),some (c,false)⟩
def ROp.j(n a c:Nat)(b:Bool):ROp:=⟨some n,.op (.load1 (.t a)),some (c,b)⟩
def ROp.h(n k a c:Nat)(b:Bool):ROp:=⟨some n,.op (.fAddr k (.t a)),some (c,b)⟩
def O.F:O:=.c (.b false)
def O.T:O:=.c (.b true)
def O.N:O:=.c .nils
theorem q_q{n:Nat}{o:IOp}:ROp.q n o=⟨some n,.op o,none⟩:=rfl
theorem q_m{n:Nat}{x:O}:ROp.m n x=⟨some n,.op (.mov x),none⟩:=rfl
theorem q_g{n:Nat}{o:IOp}{c:Nat}{b:Bool}:ROp.g n o c b=⟨some n,.op o,some (c,b)⟩:=rfl
theorem q_l{n f:Nat}{xs:List O}:ROp.l n f xs=⟨some n,.callF f xs,none⟩:=rfl
theorem q_u{o:IOp}:ROp.u o=⟨none,.op o,none⟩:=rfl
theorem q_r{ops:List ROp}:ICode.r ops = .reg false ops:=rfl
theorem q_k{n:Int}:O.k n = .c (.i .i64 n):=rfl
theorem qt6{n a:Nat}:ROp.n n a=⟨some n,.op (.mov (.t a)),none⟩:=rfl
theorem qt0{n a:Nat}:ROp.d n a=⟨some n,.op (.load1 (.t a)),none⟩:=rfl
theorem qua{n k a:Nat}:ROp.v n k a=⟨some n,.op (.loadN k (.t a)),none⟩:=rfl
theorem qt2{n k a:Nat}:ROp.f n k a=⟨some n,.op (.fAddr k (.t a)),none⟩:=rfl
theorem qt4{n k a b:Nat}:ROp.i n k a b=⟨some n,.op (.iAddrS k (.t a) (.t b)),none⟩:=rfl
theorem qtY{n a:Nat}{k:Int}:ROp.a n a k=⟨some n,.op (.bin .add (.t a) (.c (.i .i64 k))),none⟩:=rfl
theorem qtZ{n:Nat}{o:BinOp}{a b:Nat}:ROp.b n o a b=⟨some n,.op (.bin o (.t a) (.t b)),none⟩:=rfl
theorem qub{n:Nat}{o:BinOp}{a:Nat}{k:Int}:ROp.w n o a k=⟨some n,.op (.bin o (.t a) (.c (.i .i64 k))),none⟩:=rfl
theorem qt1{n a:Nat}:ROp.e n a=⟨some n,.op (.len false (.t a)),none⟩:=rfl
theorem quc{n a k:Nat}:ROp.x n a k=⟨some n,.op (.ext (.t a) k),none⟩:=rfl
theorem qt9{n a b:Nat}:ROp.s n a b=⟨some n,.op (.bin .lss (.t a) (.t b)),none⟩:=rfl
theorem qt8{n a b:Nat}:ROp.p n a b=⟨some n,.op (.pick (.t a) (.t b) (.c (.b false))),none⟩:=rfl
theorem qt7{n a b:Nat}:ROp.o n a b=⟨some n,.op (.pick (.t a) (.c (.b true)) (.t b)),none⟩:=rfl
theorem qud{n a c:Nat}:ROp.y n a c=⟨some n,.op (.mov (.t a)),some (c,true)⟩:=rfl
theorem que{n a c:Nat}:ROp.z n a c=⟨some n,.op (.mov (.t a)),some (c,false)⟩:=rfl
theorem qt5{n a c:Nat}{b:Bool}:ROp.j n a c b=⟨some n,.op (.load1 (.t a)),some (c,b)⟩:=rfl
theorem qt3{n k a c:Nat}{b:Bool}:ROp.h n k a c b=⟨some n,.op (.fAddr k (.t a)),some (c,b)⟩:=rfl
theorem q_F:O.F = .c (.b false):=rfl
theorem q_T:O.T = .c (.b true):=rfl
theorem q_N:O.N = .c .nils:=rfl
def vI:=And.intro (And.intro @qt6 (And.intro @qt0 (And.intro @qua (And.intro @qt2 (And.intro @qt4 (And.intro @qtY (And.intro @qtZ (And.intro @qub (And.intro @qt1 (And.intro @quc (And.intro @qt9 (And.intro @qt8 (And.intro @qt7 (And.intro @qud (And.intro @que (And.intro @qt5 (And.intro @qt3 (And.intro q_F (And.intro q_T q_N))))))))))))))))))) (And.intro (And.intro @yP.eq_1 (And.intro @yP.eq_2 (And.intro @H0.eq_1 (And.intro @mkT.eq_1 (And.intro @mkT.eq_2 (And.intro @mkH.eq_1 (And.intro @trL.eq_1 @trL.eq_2))))))) (And.intro @List.length_cons.{0} (And.intro @List.length_nil.{0} (And.intro Nat.zero_add (And.intro @q_q (And.intro @q_m (And.intro @q_g (And.intro @q_l (And.intro @q_u (And.intro @q_r @q_k))))))))))
end Go.Kc
end
section
/- A row that is written no more becomes a row that stays as it is. No condition. -/
namespace Go.Kc
variable {P:Program}

mutual
def fzv(b e:Nat)(cs:List AV):AV->AV
 | .own b' n=>if b'=b then .fz n (if n=0 then [] else cs) else .own b' n
 | .ptr b' o=>if b'=b then .pf cs o else .ptr b' o
 | .sl b' o n c l=>if b'=b then (if n<=c then .fz n ((cs.drop o).take (n*e)) else .undef) else .sl b' o n c l
 | .map b'=>if b'=b then .undef else .map b'
 | .yl b'=>if b'=b then .undef else .yl b'
 | .fn f x c=>.fn f (yp b e cs x) (yp b e cs c)
 | .ifc t v=>.ifc t (fzv b e cs v)
 | .agg l=>.agg (yp b e cs l)
 | .tup l=>.tup (yp b e cs l)
 | v=>v
def yp(b e:Nat)(cs:List AV):List AV->List AV
 | []=>[]
 | v::vs=>fzv b e cs v::yp b e cs vs
end
def fzE(b e:Nat)(cs:List AV)(es:List (AV×AV)):List (AV×AV):=es.map fun p=>(p.1,fzv b e cs p.2)
def fzB(b e:Nat)(cs:List AV):Blk->Blk
 | .cells k w a l=>.cells k w a (yp b e cs l)
 | .dead=>.dead
 | .map es=>.map (fzE b e cs es)
theorem qaN{b e:Nat}{cs:List AV}:∀{vs:List AV} {j:Nat},(yp b e cs vs)[j]?=(vs[j]?).map (fzv b e cs)
 | [],j=>by simp[yp]
 | v::vs,0=>by simp[yp]
 | v::vs,j+1=>by simpa[yp] using qaN (vs:=vs) (j:=j)
theorem wM{b e:Nat}{cs:List AV}:∀{vs:List AV},(yp b e cs vs).length=vs.length
 | []=>rfl
 | v::vs=>by simp[yp,wM (vs:=vs)]
theorem qcE{b e:Nat}{cs:List AV}{v:AV}(hv:clo v=true):fzv b e cs v=v:=by
 refine AV.rec (motive_1:=fun v=>clo v=true->fzv b e cs v=v) (motive_2:=fun vs=>qt vs=true->yp b e cs vs=vs) ?_ ?_ ?_ ?_ ?_ ?_ ?_ ?_ ?_ ?_ ?_ ?_ ?_ ?_ ?_ ?_ ?_ ?_ ?_ ?_ ?_ ?_ ?_ ?_ ?_ ?_ v hv
 all_goals first
  | (intros;rfl)
  | (intros;rename_i hh;simp[clo] at hh;done)
  | skip
 ·intro f a c h1 h2 hh;simp only[clo,Bool.and_eq_true] at hh;simp only[fzv,h1 hh.1,h2 hh.2]
 ·intro t v h1 hh;simp only[clo] at hh;simp only[fzv,h1 hh]
 ·intro cs h1 hh;simp only[clo] at hh;simp only[fzv,h1 hh]
 ·intro cs h1 hh;simp only[clo] at hh;simp only[fzv,h1 hh]
 ·intro v vs h1 h2 hh;simp only[qt,Bool.and_eq_true] at hh;simp only[yp,h1 hh.1,h2 hh.2]
theorem qaM{b e:Nat}{cs:List AV}:∀{vs:List AV},qt vs=true->yp b e cs vs=vs
 | [],_=>rfl
 | v::vs,h=>by
  simp only[qt,Bool.and_eq_true] at h;simp only[yp,qcE h.1,qaM h.2]
theorem CRs.cut{φ:Nat->Option (Array Value)}:∀{cs:List AV} {vs:List Value} (o m:Nat),CRs σ0 φ cs (vs.take cs.length)->CRs σ0 φ ((cs.drop o).take m) ((vs.drop o).take ((cs.drop o).take m).length)
 | [],vs,o,m,h=>by simp;exact .nil
 | c::cs,[],o,m,h=>by simp at h;cases h
 | c::cs,v::vs,0,0,h=>by simp;exact .nil
 | c::cs,v::vs,0,m+1,h=>by
  simp only[List.length_cons,List.take_succ_cons] at h;cases h with
  | cons _ _ _ _ h1 h2 =>
   have:=CRs.cut 0 m h2;simp only[List.drop_zero] at this;simp only[List.drop_zero,List.take_succ_cons,List.length_cons];exact .cons _ _ _ _ h1 this
 | c::cs,v::vs,o+1,m,h=>by
  simp only[List.length_cons,List.take_succ_cons] at h;cases h with
  | cons _ _ _ _ h1 h2=>simpa using CRs.cut o m h2
def Ren.iced(ρ:Ren)(b k:Nat)(arr:Array Value):Ren:=⟨fun b'=>if b'=b then none else ρ b',⟨fun k'=>if k'=k then some ((tab k).getD arr) else ρ.frz k',fun k' a h=>by
 split
 ·subst k';rw[h];rfl
 ·exact ρ.frz.ok k' a h⟩,ρ.n⟩
mutual
theorem VR.iced{ρ:Ren}{b e:Nat}{cs:List AV}{L:Loc}{arr:Array Value}(hz:tab L.blk=none)(hL:∀L',ρ b=some L'->L'=L)(hf:∀k a,ρ.frz k=some a->(ρ.iced b L.blk arr).frz k=some a)
  (hs:CRs σ0 (ρ.iced b L.blk arr).frz cs ((arr.toList.drop L.off).take cs.length)):∀{v:AV} {x:Value},VR σ0 ρ v x->VR σ0 (ρ.iced b L.blk arr) (fzv b e cs v) x
 | _,_,.undef v=>.undef v
 | _,_,.b x=>.b x
 | _,_,.i k n=>.i k n
 | _,_,.s x=>.s x
 | _,_,.nilp=>.nilp
 | _,_,.ptr b' o L' h=>by
  simp only[fzv];split
  ·rename_i hb;subst hb;obtain rfl:=hL _ h;refine .pf o L'.off cs L'.blk arr (by simp[Ren.iced,hz]) hs
  ·rename_i hb;exact .ptr _ _ L' (by simp only[Ren.iced];rw[if_neg hb];exact h)
 | _,_,.nils=>.nils
 | _,_,.sl b' o n cap c l L' h hc=>by
  simp only[fzv];split
  ·rename_i hb;subst hb;obtain rfl:=hL _ h;split
   ·rename_i hn;refine .fz n (L'.off+o) c _ L'.blk arr (by omega) (by simp[Ren.iced,hz]) ?_;have:=CRs.cut o (n*e) hs;rw[List.drop_drop] at this;exact this
   ·exact .undef _
  ·rename_i hb;exact .sl _ _ _ _ _ _ L' (by simp only[Ren.iced];rw[if_neg hb];exact h) hc
 | _,_,.slz b' o x l L' h=>by
  simp only[fzv];split
  ·simp;exact .fz0 _
  ·rename_i hb;exact .slz _ _ _ _ L' (by simp only[Ren.iced];rw[if_neg hb];exact h)
 | _,_,.nilf=>.nilf
 | _,_,.fn f first cap first' cap' h1 h2=>.fn _ _ _ _ _ (VRs.iced hz hL hf hs h1) (VRs.iced hz hL hf hs h2)
 | _,_,.nili=>.nili
 | _,_,.ifc t v v' h=>.ifc _ _ _ (VR.iced hz hL hf hs h)
 | _,_,.agg l l' h=>.agg _ _ (VRs.iced hz hL hf hs h)
 | _,_,.tup l l' h=>.tup _ _ (VRs.iced hz hL hf hs h)
 | _,_,.nilm=>.nilm
 | _,_,.map b' L' h h0=>by
  simp only[fzv];split
  ·exact .undef _
  ·rename_i hb;exact .map _ L' (by simp only[Ren.iced];rw[if_neg hb];exact h) h0
 | _,_,.sym j=>.sym j
 | _,_,.fz n off c l k a hn h h2=>.fz n off c l k a hn (hf _ _ h) (h2.mono hf)
 | _,_,.fz0 a=>.fz0 a
 | _,_,.pf off base l k a h h2=>.pf off base l k a (hf _ _ h) (h2.mono hf)
 | _,_,.e0 a=>.e0 a
 | _,_,.nz a c=>.nz a c
 | _,_,.own0 b' a hb=>by
  simp only[fzv];split
  ·simp;exact .fz0 _
  ·exact .own0 _ _ hb
 | _,_,.yl b' L' h=>by
  simp only[fzv];split
  ·exact .undef _
  ·rename_i hb;exact .yl _ L' (by simp only[Ren.iced];rw[if_neg hb];exact h)
 | _,_,.own b' n c L' h hn hc=>by
  simp only[fzv];split
  ·rename_i hb;subst hb;obtain rfl:=hL _ h;split
   ·rename_i h0;subst h0;exact .fz 0 L'.off c [] L'.blk arr (by omega) (by simp[Ren.iced,hz]) (by simp;exact .nil)
   ·exact .fz n L'.off c cs L'.blk arr hn (by simp[Ren.iced,hz]) hs
  ·rename_i hb;exact .own _ _ _ L' (by simp only[Ren.iced];rw[if_neg hb];exact h) hn hc
theorem VRs.iced{ρ:Ren}{b e:Nat}{cs:List AV}{L:Loc}{arr:Array Value}(hz:tab L.blk=none)(hL:∀L',ρ b=some L'->L'=L)(hf:∀k a,ρ.frz k=some a->(ρ.iced b L.blk arr).frz k=some a)
  (hs:CRs σ0 (ρ.iced b L.blk arr).frz cs ((arr.toList.drop L.off).take cs.length)):∀{v:List AV} {x:List Value},VRs σ0 ρ v x->VRs σ0 (ρ.iced b L.blk arr) (yp b e cs v) x
 | _,_,.nil=>.nil
 | _,_,.cons v vs v' vs' h h2=>.cons _ _ _ _ (VR.iced hz hL hf hs h) (VRs.iced hz hL hf hs h2)
end
mutual
theorem VR.iced0{ρ:Ren}{b e:Nat}{cs:List AV}(hL:ρ b=none):∀{v:AV} {x:Value},VR σ0 ρ v x->VR σ0 ρ (fzv b e cs v) x
 | _,_,.undef v=>.undef v
 | _,_,.b x=>.b x
 | _,_,.i k n=>.i k n
 | _,_,.s x=>.s x
 | _,_,.nilp=>.nilp
 | _,_,.ptr b' o L' h=>by
  simp only[fzv];split
  ·rename_i hb;subst hb;rw[hL] at h;cases h
  ·exact .ptr _ _ L' h
 | _,_,.nils=>.nils
 | _,_,.sl b' o n cap c l L' h hc=>by
  simp only[fzv];split
  ·rename_i hb;subst hb;rw[hL] at h;cases h
  ·exact .sl _ _ _ _ _ _ L' h hc
 | _,_,.slz b' o x l L' h=>by
  simp only[fzv];split
  ·simp;exact .fz0 _
  ·exact .slz _ _ _ _ L' h
 | _,_,.nilf=>.nilf
 | _,_,.fn f first cap first' cap' h1 h2=>.fn _ _ _ _ _ (VRs.iced0 hL h1) (VRs.iced0 hL h2)
 | _,_,.nili=>.nili
 | _,_,.ifc t v v' h=>.ifc _ _ _ (VR.iced0 hL h)
 | _,_,.agg l l' h=>.agg _ _ (VRs.iced0 hL h)
 | _,_,.tup l l' h=>.tup _ _ (VRs.iced0 hL h)
 | _,_,.nilm=>.nilm
 | _,_,.map b' L' h h0=>by
  simp only[fzv];split
  ·exact .undef _
  ·exact .map _ L' h h0
 | _,_,.sym j=>.sym j
 | _,_,.fz n off c l k a hn h h2=>.fz n off c l k a hn h h2
 | _,_,.fz0 a=>.fz0 a
 | _,_,.pf off base l k a h h2=>.pf off base l k a h h2
 | _,_,.e0 a=>.e0 a
 | _,_,.nz a c=>.nz a c
 | _,_,.own0 b' a hb=>by
  simp only[fzv];split
  ·simp;exact .fz0 _
  ·exact .own0 _ _ hb
 | _,_,.yl b' L' h=>by
  simp only[fzv];split
  ·exact .undef _
  ·exact .yl _ L' h
 | _,_,.own b' n c L' h hn hc=>by
  simp only[fzv];split
  ·rename_i hb;subst hb;rw[hL] at h;cases h
  ·exact .own _ _ _ L' h hn hc
theorem VRs.iced0{ρ:Ren}{b e:Nat}{cs:List AV}(hL:ρ b=none):∀{v:List AV} {x:List Value},VRs σ0 ρ v x->VRs σ0 ρ (yp b e cs v) x
 | _,_,.nil=>.nil
 | _,_,.cons v vs v' vs' h h2=>.cons _ _ _ _ (VR.iced0 hL h) (VRs.iced0 hL h2)
end
def qnv(es:List (AV×AV)):Prop:=QA es∨∃r ts,es=jP r ts
theorem qfu{b e:Nat}{cs:List AV}:∀{es:List (AV×AV)},QA es->fzE b e cs es=es
 | [],_=>rfl
 | p::es,h=>by
  have h2:=Ka.1 h;show (p.1,fzv b e cs p.2)::fzE b e cs es=_;rw[qfu h2.2,qcE h2.1.2]
theorem qlI{b e:Nat}{cs:List AV}{r:Loop}{ts:List (Nat×AV)}:fzE b e cs (jP r ts)=jP r (ts.map fun p=>(p.1,fzv b e cs p.2)):=by simp[fzE,jP,fzv]
theorem Zh.ice{ρ ρ':Ren}{b e:Nat}{cs:List AV}(hv:∀{v:AV} {x:Value},VR σ0 ρ v x->VR σ0 ρ' (fzv b e cs v) x){es:List (AV×AV)}{o:Obj}(hm:qnv es)(h:Zh σ0 ρ es o):Zh σ0 ρ' (fzE b e cs es) o:=by
 rcases hm with hm|⟨r,ts,rfl⟩
 ·rw[qfu hm];have hv':∀{v:AV} {x:Value},clo v=true->VR σ0 ρ v x->VR σ0 ρ' v x:=fun hc h=>by have:=hv h;rwa [qcE hc] at this
  rcases h with⟨p1,vs,clk,p2,p3,p4⟩|p3|⟨r,ts,rfl,p2,p3⟩
  ·exact .inl ⟨p1,vs,clk,p2,p3,fun j e0 he=>let ⟨v,a1,a2,a3⟩:=p4 j e0 he
    ⟨v,a1,hv' (hm e0 (List.mem_of_getElem? he)).1 a2,hv' (hm e0 (List.mem_of_getElem? he)).2 a3⟩⟩
  ·exact .inr (.inl p3)
  ·exact absurd (hm (.lp r,.undef) (by simp[jP])).1 (by simp[clo])
 ·obtain⟨p2,p3⟩:=h.rec';rw[qlI];refine .inr (.inr ⟨r,_,rfl,p2,fun p hp=>?_⟩)
  obtain⟨q,hq,rfl⟩:=List.mem_map.1 hp;exact⟨(p3 q hq).1,hv (p3 q hq).2⟩
theorem Wk.freeze{n:Nat}{ts:List (Nat×AV)}{bl:List Blk}(b e e':Nat){a:Bool}{cs:List AV}(hb:bl[b]?=some (.cells e' true a cs))(hc:qt cs=true)(hn:n<=b)(hm:∀es,Blk.map es ∈ bl->qnv es) :
  Wk n (mkT ts) (mkH 0 bl) (mkT (ts.map fun p=>(p.1,fzv b e cs p.2))) (mkH 0 ((bl.map (fzB b e cs)).set b .dead)):=by
 intro ρ B w tm ht r;have hlt:b<bl.length:=(List.getElem?_eq_some_iff.1 hb).1;have hgb:(mkH 0 bl).tr.get b=some (.cells e' true a cs):=by rw[xt];exact hb
 have tget:∀(ts:List (Nat×AV)) (j:Nat),(mkT (ts.map fun p=>(p.1,fzv b e cs p.2))).get j=((mkT ts).get j).map (fzv b e cs):=by
  intro ts j
  induction ts with
  | nil=>simp[mkT]
  | cons p l ih =>
   simp only[List.map_cons,mkT,Tr.get_set];split
   ·rfl
   ·exact ih
 have hget:∀b',b'≠b->(mkH 0 ((bl.map (fzB b e cs)).set b .dead)).tr.get b'=((mkH 0 bl).tr.get b').map (fzB b e cs):=by
  intro b' hne;rw[xt,xt,List.getElem?_set_ne (Ne.symm hne),List.getElem?_map]
 have hgd:(mkH 0 ((bl.map (fzB b e cs)).set b .dead)).tr.get b=some .dead:=by
  rw[xt,List.getElem?_set_self (by simpa using hlt)]
 -- a live block of the new heap comes from one of the old
 have jh:∀b' x,(mkH 0 ((bl.map (fzB b e cs)).set b .dead)).tr.get b'=some x->x≠.dead->b'≠b∧∃y,(mkH 0 bl).tr.get b'=some y∧x=fzB b e cs y∧y≠.dead:=by
  intro b' x hx hd
  have hne:b'≠b:=by
   rintro rfl;rw[hgd] at hx;cases hx;exact hd rfl
  rw[hget b' hne] at hx;cases hy:(mkH 0 bl).tr.get b' with
  | none=>rw[hy] at hx;simp at hx
  | some y =>
   rw[hy] at hx;simp at hx;exact⟨hne,y,rfl,hx.symm,by rintro rfl;subst hx;exact hd rfl⟩
 have hsz:(mkH 0 ((bl.map (fzB b e cs)).set b .dead)).sz=bl.length:=by simp[Vy]
 cases hρ:ρ b with
 | none =>
  refine⟨ρ,fun j v hj=>?_,⟨?_,?_,?_,?_,?_,?_,?_,r.base,?_,?_⟩,⟨fun _ _=>rfl,by rw[hsz];omega,rfl,fun b' hb'=>by simp[qjn] at hb',fun _ _=>rfl,Nat.le_refl _,⟨rfl,rfl⟩,fun _ _ h=>h,fun _ _ h=>.inl h,fun _ _ h=>h⟩⟩
  ·rw[tget] at hj;cases hv:(mkT ts).get j with
   | none=>rw[hv] at hj;simp at hj
   | some v0 =>
    rw[hv] at hj;simp at hj;subst hj;exact⟨(ht j v0 hv).1,VR.iced0 hρ (ht j v0 hv).2⟩
  ·intro b' L h1;rw[hsz];exact r.dom b' L h1
  ·intro b' L e1 wf af cs' h1 h2;obtain⟨h3,y,h4,h5,h6⟩:=jh b' _ h2 (by simp);cases y with
   | cells k w0 a0 l =>
    simp only[fzB,Blk.cells.injEq] at h5;obtain⟨rfl,rfl,rfl,rfl⟩:=h5;obtain⟨q1,c,ty,fz,q2,q3,q4,q5,q6⟩:=r.cells b' L _ _ _ l h1 h4;refine⟨q1,c,ty,fz,q2,q3,by rw[wM];exact q4,fun j v hv=>?_,q6⟩
    rw[qaN] at hv;cases hj:l[j]? with
    | none=>rw[hj] at hv;simp at hv
    | some v0 =>
     rw[hj] at hv;simp at hv;subst hv;obtain⟨v',g1,g2⟩:=q5 j v0 hj;exact⟨v',g1,VR.iced0 hρ g2⟩
   | dead=>simp[fzB] at h5
   | map es=>simp[fzB] at h5
  ·intro b' L es h1 h2;obtain⟨h3,y,h4,h5,h6⟩:=jh b' _ h2 (by simp);cases y with
   | cells k w0 a0 l=>simp[fzB] at h5
   | dead=>simp[fzB] at h5
   | map es' =>
    simp only[fzB,Blk.map.injEq] at h5;subst h5;obtain⟨p1,o,p2,p3⟩:=r.maps b' L _ h1 h4;exact⟨p1,o,p2,p3.ice (fun h=>VR.iced0 hρ h) (hm es' (by rw[xt] at h4;exact List.mem_of_getElem? h4))⟩
  ·intro b1 L1 e1 af1 cs1 h1 h2 b2 L2 x h3 h4 h5 h6;obtain⟨g1,y,g2,g3,g4⟩:=jh b1 _ h2 (by simp);obtain⟨i1,y2,i2,i3,i4⟩:=jh b2 _ h4 h5;cases y with
   | cells k w0 a0 l =>
    simp only[fzB,Blk.cells.injEq] at g3;obtain⟨rfl,rfl,rfl,rfl⟩:=g3;exact r.excl b1 L1 _ _ l h1 g2 b2 L2 y2 h3 i2 i4 h6
   | dead=>simp[fzB] at g3
   | map es=>simp[fzB] at g3
  ·intro b1 L1 es h1 h2 b2 L2 x h3 h4 h5 h6;obtain⟨g1,y,g2,g3,g4⟩:=jh b1 _ h2 (by simp);obtain⟨i1,y2,i2,i3,i4⟩:=jh b2 _ h4 h5;cases y with
   | cells k w0 a0 l=>simp[fzB] at g3
   | dead=>simp[fzB] at g3
   | map es'=>simp only[fzB,Blk.map.injEq] at g3;subst g3;exact r.exclm b1 L1 _ h1 g2 b2 L2 y2 h3 i2 i4 h6
  ·intro b1 L1 e1 wf1 cs1 h1 h2 b2 L2 e2 wf2 af2 cs2 h3 h4 h6;obtain⟨g1,y,g2,g3,g4⟩:=jh b1 _ h2 (by simp);obtain⟨i1,y2,i2,i3,i4⟩:=jh b2 _ h4 (by simp);cases y<;>simp only[fzB,Blk.cells.injEq,reduceCtorEq] at g3;cases y2<;>simp only[fzB,Blk.cells.injEq,reduceCtorEq] at i3;obtain⟨rfl,rfl,rfl,rfl⟩:=g3;obtain⟨rfl,rfl,rfl,rfl⟩:=i3;rw[wM,wM];exact r.app b1 L1 _ _ _ h1 g2 b2 L2 _ _ _ _ h3 i2 h6
  ·intro b' L h1 h2;exact r.flr b' L h1 (Nat.zero_le _)
  ·intro k arr hk;refine⟨(r.frz k arr hk).1,fun b' L x h1 h2 h3=>?_⟩
   obtain⟨g1,y,g2,g3,g4⟩:=jh b' _ h2 h3;exact (r.frz k arr hk).2 b' L y h1 g2 g4
  ·rw[hsz];exact r.dn
 | some L =>
  obtain⟨q1,c,ty,fz,q2,q3,q4,q5,q6⟩:=r.cells b L _ _ _ cs hρ hgb
  have hz:tab L.blk=none:=by
   cases h:tab L.blk with
   | none=>rfl
   | some a=>exact absurd rfl ((r.frz _ _ (ρ.frz.ok _ _ h)).2 b L _ hρ hgb (by simp))
  have hf:∀k a,ρ.frz k=some a->(ρ.iced b L.blk c).frz k=some a:=by
   intro k a' hk;simp only[Ren.iced];rw[if_neg (fun hh=>(r.frz k a' hk).2 b L _ hρ hgb (by simp) hh.symm)]
   exact hk
  have hLs:∀L',ρ b=some L'->L'=L:=by intro L' h;rw[hρ] at h;cases h;rfl
  have hcr:∀(l:List AV) (j:Nat),(∀i v,l[i]?=some v->∃v',c.toList[j+i]?=some v'∧VR σ0 ρ v v')->qt l=true->CRs σ0 (ρ.iced b L.blk c).frz l ((c.toList.drop j).take l.length):=by
   intro l
   induction l with
   | nil=>intro j _ _;simp;exact .nil
   | cons v l ih =>
    intro j hh hcl;simp only[qt,Bool.and_eq_true] at hcl;obtain⟨v',g1,g2⟩:=hh 0 v rfl;simp only[Nat.add_zero] at g1;obtain⟨hj,rfl⟩:=List.getElem?_eq_some_iff.1 g1;rw[List.drop_eq_getElem_cons hj,List.length_cons,List.take_succ_cons];refine .cons _ _ _ _ ((g2.cr hcl.1).mono hf) (ih (j+1) (fun i v hi=>?_) hcl.2)
    obtain⟨v',k1,k2⟩:=hh (i+1) v (by simpa using hi);exact⟨v',by rw[show j+1+i=j+(i+1) from by omega];exact k1,k2⟩
  have hs:CRs σ0 (ρ.iced b L.blk c).frz cs ((c.toList.drop L.off).take cs.length):=hcr cs L.off (fun i v hi=>by
   obtain⟨v',g1,g2⟩:=q5 i v hi;exact⟨v',by simpa using g1,g2⟩) hc
  have old:∀b' L',(ρ.iced b L.blk c) b'=some L'->b'≠b∧ρ b'=some L':=by
   intro b' L' h
   by_cases hbb:b'=b
   ·subst hbb;simp[Ren.iced] at h
   ·refine⟨hbb,?_⟩;simp only[Ren.iced] at h;rw[if_neg hbb] at h;exact h
  refine⟨ρ.iced b L.blk c,fun j v hj=>?_,⟨?_,?_,?_,?_,?_,?_,?_,r.base,?_,?_⟩,⟨fun b' hb'=>by simp only[Ren.iced];rw[if_neg (by omega)],by rw[hsz];omega,rfl,fun b' hb'=>by simp[qjn] at hb',fun _ _=>rfl,Nat.le_refl _,⟨rfl,rfl⟩,hf,fun k a' hk=>?_,fun _ _ h=>h⟩⟩
  ·rw[tget] at hj;cases hv:(mkT ts).get j with
   | none=>rw[hv] at hj;simp at hj
   | some v0 =>
    rw[hv] at hj;simp at hj;subst hj;exact⟨(ht j v0 hv).1,VR.iced hz hLs hf hs (ht j v0 hv).2⟩
  ·intro b' L' h1;rw[hsz];exact r.dom b' L' (old _ _ h1).2
  ·intro b' L' e1 wf af cs' h1 h2;obtain⟨h3,y,h4,h5,h6⟩:=jh b' _ h2 (by simp);cases y with
   | cells k w0 a0 l =>
    simp only[fzB,Blk.cells.injEq] at h5;obtain⟨rfl,rfl,rfl,rfl⟩:=h5;obtain⟨p1,c',ty',fz',p2,p3,p4,p5,p6⟩:=r.cells b' L' _ _ _ l (old _ _ h1).2 h4;refine⟨p1,c',ty',fz',p2,p3,by rw[wM];exact p4,fun j v hv=>?_,p6⟩
    rw[qaN] at hv;cases hj:l[j]? with
    | none=>rw[hj] at hv;simp at hv
    | some v0 =>
     rw[hj] at hv;simp at hv;subst hv;obtain⟨v',g1,g2⟩:=p5 j v0 hj;exact⟨v',g1,VR.iced hz hLs hf hs g2⟩
   | dead=>simp[fzB] at h5
   | map es=>simp[fzB] at h5
  ·intro b' L' es h1 h2;obtain⟨h3,y,h4,h5,h6⟩:=jh b' _ h2 (by simp);cases y with
   | cells k w0 a0 l=>simp[fzB] at h5
   | dead=>simp[fzB] at h5
   | map es' =>
    simp only[fzB,Blk.map.injEq] at h5;subst h5;obtain⟨p1,o,p2,p3⟩:=r.maps b' L' _ (old _ _ h1).2 h4;exact⟨p1,o,p2,p3.ice (fun h=>VR.iced hz hLs hf hs h) (hm es' (by rw[xt] at h4;exact List.mem_of_getElem? h4))⟩
  ·intro b1 L1 e1 af1 cs1 h1 h2 b2 L2 x h3 h4 h5 h6;obtain⟨g1,y,g2,g3,g4⟩:=jh b1 _ h2 (by simp);obtain⟨i1,y2,i2,i3,i4⟩:=jh b2 _ h4 h5;cases y<;>simp only[fzB,Blk.cells.injEq,reduceCtorEq] at g3;obtain⟨rfl,rfl,rfl,rfl⟩:=g3;exact r.excl b1 L1 _ _ _ (old _ _ h1).2 g2 b2 L2 y2 (old _ _ h3).2 i2 i4 h6
  ·intro b1 L1 es h1 h2 b2 L2 x h3 h4 h5 h6;obtain⟨g1,y,g2,g3,g4⟩:=jh b1 _ h2 (by simp);obtain⟨i1,y2,i2,i3,i4⟩:=jh b2 _ h4 h5;cases y<;>simp only[fzB,Blk.map.injEq,reduceCtorEq] at g3;subst g3;exact r.exclm b1 L1 _ (old _ _ h1).2 g2 b2 L2 y2 (old _ _ h3).2 i2 i4 h6
  ·intro b1 L1 e1 wf1 cs1 h1 h2 b2 L2 e2 wf2 af2 cs2 h3 h4 h6;obtain⟨g1,y,g2,g3,g4⟩:=jh b1 _ h2 (by simp);obtain⟨i1,y2,i2,i3,i4⟩:=jh b2 _ h4 (by simp);cases y<;>simp only[fzB,Blk.cells.injEq,reduceCtorEq] at g3;cases y2<;>simp only[fzB,Blk.cells.injEq,reduceCtorEq] at i3;obtain⟨rfl,rfl,rfl,rfl⟩:=g3;obtain⟨rfl,rfl,rfl,rfl⟩:=i3;rw[wM,wM];exact r.app b1 L1 _ _ _ (old _ _ h1).2 g2 b2 L2 _ _ _ _ (old _ _ h3).2 i2 h6
  ·intro b' L' h1 h2;exact r.flr b' L' (old _ _ h1).2 (Nat.zero_le _)
  ·intro k arr hk
   by_cases hkk:k=L.blk
   ·subst hkk;simp[Ren.iced,hz] at hk;subst hk;refine⟨⟨ty,fz,q2⟩,fun b' L' x h1 h2 h3 h6=>?_⟩
    obtain⟨g1,y,g2,g3,g4⟩:=jh b' _ h2 h3;exact g1 (r.excl b L _ _ _ hρ hgb b' L' y (old _ _ h1).2 g2 g4 h6)
   ·simp only[Ren.iced] at hk;rw[if_neg hkk] at hk;refine⟨(r.frz k arr hk).1,fun b' L' x h1 h2 h3=>?_⟩
    obtain⟨g1,y,g2,g3,g4⟩:=jh b' _ h2 h3;exact (r.frz k arr hk).2 b' L' y (old _ _ h1).2 g2 g4
  ·rw[hsz];exact r.dn
  ·simp only[Ren.iced] at hk;split at hk
   ·rename_i hkk;subst hkk;exact .inr (r.flr b L hρ (Nat.zero_le _))
   ·exact .inl hk

theorem Own.pure{f:Nat}{vs:List AV}{v v':AV}{bs:List Blk}(hcl:qt vs=true)(ho:Own P f vs v bs)(hf:Frz (wS H0 (bs.map (shb 0))) (shv 0 v) v'):qc P f vs v' :=
 qc.of_SC hcl (ho H0 _ hf)
end Go.Kc
end
section
/- Rows of one's own opened to their capacity, and closed again; functions that the model itself answers. No condition. -/
namespace Go.Kc
variable {P:Program} {n:Nat} {t:Tr AV} {h:Hp}

theorem Wk.trans{t1 t2:Tr AV}{h1 h2:Hp}(a:Wk n t h t1 h1)(b:Wk n t1 h1 t2 h2):Wk n t h t2 h2:=by
 intro ρ B w tm ht r;obtain⟨ρ1,g1,g2,g3⟩:=a ρ B w tm ht r;obtain⟨ρ2,k1,k2,k3⟩:=b ρ1 B w tm g1 g2;exact⟨ρ2,k1,k2,g3.trans k3⟩
theorem Wk.close(j b x c e q:Nat){l a:Bool}{cs:List AV}(ht:t.get j=some (.sl b 0 x c l))(hb:h.tr.get b=some (.cells e true a cs))(hc:c*e<=cs.length)(hx:x<=c)(hq:q<=cs.length)(hfl:h.fl<=b)(hbs:b<h.sz)(hn:n<=h.sz) :
  Wk n t h (t.set j (.own b x)) ⟨h.sz,h.fl,h.tr.set b (.cells e true true (cs.take q))⟩:=by
 intro ρ B w tm htr r;have le:ρ.le ⟨ρ.loc,ρ.frz,h.sz⟩:=⟨fun _ _ h=>h,fun _ _ h=>h,r.dn⟩
 have old:∀b' x,((h.tr.set b (.cells e true true (cs.take q))).get b'=some x)->(b'=b∧x = .cells e true true (cs.take q))∨(b'≠b∧h.tr.get b'=some x):=by
  intro b' x hx;rw[Tr.get_set] at hx;split at hx
  ·rename_i h1;cases hx;exact .inl ⟨h1,rfl⟩
  ·rename_i h1;exact .inr ⟨h1,hx⟩
 have olive:∀b' x,((h.tr.set b (.cells e true true (cs.take q))).get b'=some x)->x≠.dead->∃y,h.tr.get b'=some y∧y≠.dead:=by
  intro b' x hx hd;rcases old b' x hx with⟨rfl,rfl⟩|⟨_,g⟩
  ·exact⟨_,hb,by simp⟩
  ·exact⟨x,g,hd⟩
 refine⟨⟨ρ.loc,ρ.frz,h.sz⟩,fun i v hv=>?_,⟨r.dom,?_,?_,?_,?_,?_,r.flr,r.base,?_,Nat.le_refl _⟩,⟨fun _ _=>rfl,hn,rfl,fun b' h1 h2=>?_,fun _ _=>rfl,Nat.le_refl _,⟨rfl,rfl⟩,fun _ _ h=>h,fun _ _ h=>.inl h,fun b' h1 h2=>Nat.lt_of_lt_of_le h1 hn⟩⟩
 ·rw[Tr.get_set] at hv;split at hv
  ·rename_i hij;subst hij;cases hv;obtain⟨h1,h2⟩:=htr _ _ ht;refine⟨h1,?_⟩;generalize tm.getD i undef=gv at h2;cases h2 with
   | sl _ _ _ _ c' _ L h3 h4 =>
    obtain⟨q1,co,ty,fz,q2,q3,q4,q5,q6⟩:=r.cells b L _ _ _ cs h3 hb;refine .own _ _ _ L h3 (by rcases h4 with h4|h4<;>omega) ?_;rcases h4 with rfl|⟨_,_,h4⟩
    ·rw[q1];omega
    ·simpa using h4
   | slz=>exact .own0 _ _ hbs
  ·obtain⟨h1,h2⟩:=htr _ _ hv;exact⟨h1,h2.mono le⟩
 ·intro b' L e1 wf af cs' h1 h2;rcases old b' _ h2 with⟨rfl,g⟩|⟨_,g⟩
  ·cases g;obtain⟨q1,co,ty,fz,q2,q3,q4,q5,q6⟩:=r.cells _ L _ _ _ cs h1 hb;refine⟨q1,co,ty,fz,q2,q3,by simp;omega,fun i v hv=>?_,fun _=>q6 (by simp)⟩
   obtain⟨v',k1,k2⟩:=q5 i v (by
    rw[List.getElem?_take] at hv;split at hv
    ·exact hv
    ·cases hv)
   exact⟨v',k1,k2.mono le⟩
  ·obtain⟨q1,co,ty,fz,q2,q3,q4,q5,q6⟩:=r.cells _ L _ _ _ _ h1 g;exact⟨q1,co,ty,fz,q2,q3,q4,fun i v hv=>let ⟨v',k1,k2⟩:=q5 i v hv;⟨v',k1,k2.mono le⟩,q6⟩
 ·intro b' L es h1 h2;rcases old b' _ h2 with⟨rfl,g⟩|⟨_,g⟩
  ·cases g
  ·obtain⟨q1,o,q2,q3⟩:=r.maps b' L es h1 g;exact⟨q1,o,q2,q3.mono le⟩
 ·intro b1 L1 e1 af1 cs1 h1 h2 b2 L2 y h3 h4 h5 h6;obtain⟨y2,i1,i2⟩:=olive b2 y h4 h5;rcases old b1 _ h2 with⟨rfl,g⟩|⟨_,g⟩
  ·exact r.excl _ L1 _ _ cs h1 hb b2 L2 y2 h3 i1 i2 h6
  ·exact r.excl _ L1 _ _ _ h1 g b2 L2 y2 h3 i1 i2 h6
 ·intro b1 L1 es h1 h2 b2 L2 y h3 h4 h5 h6;obtain⟨y2,i1,i2⟩:=olive b2 y h4 h5;rcases old b1 _ h2 with⟨rfl,g⟩|⟨_,g⟩
  ·cases g
  ·exact r.exclm _ L1 _ h1 g b2 L2 y2 h3 i1 i2 h6
 ·intro b1 L1 e1 wf1 cs1 h1 h2 b2 L2 e2 wf2 af2 cs2 h3 h4 h6;rcases old b1 _ h2 with⟨rfl,g⟩|⟨hne,g⟩<;>rcases old b2 _ h4 with⟨rfl,g'⟩|⟨hne',g'⟩
  ·cases g;cases g';have:L1=L2:=by rw[h1] at h3;cases h3;rfl
   subst this;exact⟨Nat.le_refl _,fun _=>rfl⟩
  ·cases g;exact absurd (r.excl _ L1 _ _ cs h1 hb b2 L2 _ h3 g' (by simp) h6) hne'
  ·cases g';exact absurd (r.excl _ L2 _ _ cs h3 hb b1 L1 _ h1 g (by simp) h6.symm) hne
  ·exact r.app b1 L1 _ _ _ h1 g b2 L2 _ _ _ _ h3 g' h6
 ·intro k arr hk;refine⟨(r.frz k arr hk).1,fun b' L y h1 h2 h3=>?_⟩
  obtain⟨y2,i1,i2⟩:=olive b' y h2 h3;exact (r.frz k arr hk).2 b' L y2 h1 i1 i2
 ·show (h.tr.set b _).get b'=_;rw[Tr.get_set,if_neg (by omega)]
theorem S.open{x:ICode}{Q:X->Tr AV->Hp->Prop}(j b m e:Nat){a:Bool}{cs:List AV}(ht:t.get j=some (.own b m))(hb:h.tr.get b=some (.cells e true a cs))(hl:cs.length=m*e)(hfl:h.fl<=b)(hbs:b<h.sz)
  (h0:m=0->S P n x Q (t.set j .e0) h) (h1:∀c,m<=c->S P n x Q (t.set j (.sl b 0 m c false)) ⟨h.sz,h.fl,h.tr.set b (.cells e true false (cs++List.replicate ((c-m)*e) .undef))⟩):S P n x Q t h:=by
 intro nt code hc hn ro hro ρ B w ac htr hsz r;obtain⟨g1,g2⟩:=htr _ _ ht;generalize hgv:ac.tmps.getD j undef=gv at g2;cases g2 with
 | own0 _ ad hbn =>
  refine h0 rfl nt code hc hn ro hro ρ B w ac (fun i v hv=>?_) hsz r
  rw[Tr.get_set] at hv;split at hv
  ·rename_i hij;subst hij;cases hv;exact⟨g1,by rw[hgv];exact .e0 _⟩
  ·exact htr i v hv
 | own _ _ c L h3 h4 h5 =>
  obtain⟨q1,co,ty,fz,q2,q3,q4,q5,q6⟩:=r.cells b L _ _ _ cs h3 hb
  have old:∀b' y,((h.tr.set b (.cells e true false (cs++List.replicate ((c-m)*e) .undef))).get b'=some y)->(b'=b∧y = .cells e true false (cs++List.replicate ((c-m)*e) .undef))∨(b'≠b∧h.tr.get b'=some y):=by
   intro b' y hx;rw[Tr.get_set] at hx;split at hx
   ·rename_i h1;cases hx;exact .inl ⟨h1,rfl⟩
   ·rename_i h1;exact .inr ⟨h1,hx⟩
  have olive:∀b' y,((h.tr.set b (.cells e true false (cs++List.replicate ((c-m)*e) .undef))).get b'=some y)->y≠.dead->∃z,h.tr.get b'=some z∧z≠.dead:=by
   intro b' y hx hd;rcases old b' y hx with⟨rfl,rfl⟩|⟨_,g⟩
   ·exact⟨_,hb,by simp⟩
   ·exact⟨y,g,hd⟩
  have hlen:(cs++List.replicate ((c-m)*e) AV.undef).length=c*e:=by
   simp[hl];rw[← Nat.add_mul];congr 1;omega
  have r':Rel σ0 ρ B ⟨h.sz,h.fl,h.tr.set b (.cells e true false (cs++List.replicate ((c-m)*e) .undef))⟩ w:=by
   refine⟨r.dom,?_,?_,?_,?_,?_,r.flr,r.base,?_,r.dn⟩
   ·intro b' L' e1 wf af cs' k1 k2;rcases old b' _ k2 with⟨rfl,g⟩|⟨_,g⟩
    ·cases g;rw[h3] at k1;cases k1;refine⟨q1,co,ty,fz,q2,q3,by rw[hlen,← q1];exact h5,fun i v hv=>?_,fun _=>q6 (by simp)⟩
     by_cases hi:i<cs.length
     ·rw[List.getElem?_append_left hi] at hv;exact q5 i v hv
     ·have hlt:=(List.getElem?_eq_some_iff.1 hv).1;rw[List.getElem?_append_right (by omega),List.getElem?_replicate] at hv;split at hv
      ·cases hv;rw[hlen] at hlt;have hlt2:L.off+i<co.size:=by rw[q3];rw[q1] at h5;omega
       exact⟨co[L.off+i],by simp[hlt2],.undef _⟩
      ·cases hv
    ·exact r.cells _ L' _ _ _ _ k1 g
   ·intro b' L' es k1 k2;rcases old b' _ k2 with⟨rfl,g⟩|⟨_,g⟩
    ·cases g
    ·exact r.maps b' L' es k1 g
   ·intro b1 L1 e1 af1 cs1 k1 k2 b2 L2 y k3 k4 k5 k6;obtain⟨y2,i1,i2⟩:=olive b2 y k4 k5;rcases old b1 _ k2 with⟨rfl,g⟩|⟨_,g⟩
    ·exact r.excl _ L1 _ _ cs k1 hb b2 L2 y2 k3 i1 i2 k6
    ·exact r.excl _ L1 _ _ _ k1 g b2 L2 y2 k3 i1 i2 k6
   ·intro b1 L1 es k1 k2 b2 L2 y k3 k4 k5 k6;obtain⟨y2,i1,i2⟩:=olive b2 y k4 k5;rcases old b1 _ k2 with⟨rfl,g⟩|⟨_,g⟩
    ·cases g
    ·exact r.exclm _ L1 _ k1 g b2 L2 y2 k3 i1 i2 k6
   ·intro b1 L1 e1 wf1 cs1 k1 k2 b2 L2 e2 wf2 af2 cs2 k3 k4 k6;rcases old b1 _ k2 with⟨rfl,g⟩|⟨hne,g⟩
    ·cases g
    ·rcases old b2 _ k4 with⟨rfl,g'⟩|⟨hne',g'⟩
     ·cases g';exact absurd (r.excl _ L2 _ _ cs k3 hb b1 L1 _ k1 g (by simp) k6.symm) hne
     ·exact r.app b1 L1 _ _ _ k1 g b2 L2 _ _ _ _ k3 g' k6
   ·intro k arr hk;refine⟨(r.frz k arr hk).1,fun b' L' y k1 k2 k3=>?_⟩
    obtain⟨y2,i1,i2⟩:=olive b' y k2 k3;exact (r.frz k arr hk).2 b' L' y2 k1 i1 i2
  refine wpIn_mono (h1 c h4 nt code hc hn ro hro ρ B w ac (fun i v hv=>?_) hsz r') ?_
  ·rw[Tr.get_set] at hv;split at hv
   ·rename_i hij;subst hij;cases hv;refine⟨g1,?_⟩;rw[hgv];exact .sl b 0 m c c false L h3 (.inl rfl)
   ·exact htr i v hv
  ·intro e2 a2 w2 hp
   have kk:Kep n ρ B h w ρ ⟨h.sz,h.fl,h.tr.set b (.cells e true false (cs++List.replicate ((c-m)*e) .undef))⟩ w:=by
    refine⟨fun _ _=>rfl,hn,rfl,fun b' k1 k2=>?_,fun _ _=>rfl,Nat.le_refl _,⟨rfl,rfl⟩,fun _ _ h=>h,fun _ _ h=>.inl h,fun _ _ h=>h⟩
    show (h.tr.set b _).get b'=_;rw[Tr.get_set,if_neg (by omega)]
   exact kU.weaken kk hp
end Go.Kc
end
section
/- Functions that the model itself answers: an index of a byte, how strings compare, whether rows overlap. Condition: the functions are these. -/
namespace Go.Kc
variable {P:Program} {f:Nat}

def qaU(P:Program)(f:Nat)(e:Array Value->Sem Value):Prop:=∀args w,(callFunc f args).run P w=((e args).run P w).andThen fun v w'=>.ok (.value v) w'
theorem qaU.of{fn:Func}{e:Array Value->Sem Value}(hf:P.funcs[f]?=some fn)(hname:(fn.name == "runtime.NumGoroutine")=false)(hb:fn.body.isNone=true)(hn:Extern.findNext fn=none)(he:Extern.find fn=some e):qaU P f e :=
 fun args w=>run_callFunc_extern hf hname hb hn he args w
theorem qaU.pure{e:Array Value->Sem Value}{vs:List AV}{v:AV}(h:qaU P f e)(hr:∀ρ (args:Array Value) w,VRs σ0 ρ vs args.toList->∃v',(e args).run P w = .ok v' w∧VR σ0 ρ v v'):qc P f vs v:=by
 intro hp k hk;refine⟨trivial,fun ρ B w args r ha=>?_⟩
 obtain⟨v',h1,h2⟩:=hr ρ args w ha;exact .inr ⟨v',w,by rw[h,h1];rfl,v,v',hp,ρ,rfl,hk,h2,r,Kept.refl _ _ _ _⟩

def y6(c:UInt8):List UInt8->Nat->Int
 | [],_=>-1
 | x::xs,j=>if x=c then (j:Int) else y6 c xs (j+1)
theorem qbx(a:List UInt8)(c:UInt8):firstIdx ⟨a.toArray⟩ c=y6 c a 0:=by
 have key:∀(l:List UInt8) (j:Nat),a.drop j=l->j<=a.length->(match (List.range' j l.length).find? (fun i=>(⟨a.toArray⟩:ByteArray)[i]! == c) with|some i=>(i:Int)|none=>-1)=y6 c l j:=by
  intro l
  induction l with
  | nil=>intro j _ _;simp[y6]
  | cons x xs ih =>
   intro j hd hj
   have hlt:j<a.length:=by
    have:=congrArg List.length hd;simp at this;omega
   have hx:a[j]=x:=by
    have:=List.drop_eq_getElem_cons hlt;rw[hd] at this;exact (List.cons.inj this).1.symm
   have hget:(⟨a.toArray⟩:ByteArray)[j]! = x:=by
    have:j<(⟨a.toArray⟩:ByteArray).size:=by simpa[ByteArray.size] using hlt
    rw[getElem!_pos (⟨a.toArray⟩:ByteArray) j this];show a.toArray[j]=x;simpa using hx
   rw[List.length_cons,List.range'_succ,List.find?_cons,hget]
   by_cases he:x=c
   ·subst he;simp[y6]
   ·have:(x==c)=false:=by simpa using he
    rw[this,y6,if_neg he];exact ih (j+1) (by rw[← List.drop_drop,hd];rfl) (by omega)
 have:=key a 0 rfl (Nat.zero_le _);rw[← this];unfold firstIdx;rw[List.range_eq_range'];have:(⟨a.toArray⟩:ByteArray).size=a.length:=by simp[ByteArray.size]
 rw[this];split<;>rename_i h1<;>split<;>rename_i h2<;>simp_all
theorem qkv(h:qaU P f Extern.BytealgIndexByte.indexByte)(a:List UInt8)(c:UInt8):qc P f [.s a,.i .u8 (c.toNat:Int)] (.i .i64 (y6 c a 0)):=by
 refine h.pure ?_;intro ρ args w ha;generalize hl:args.toList=l at ha;cases ha with
 | cons _ _ x xs hx hxs =>
  cases hxs with
  | cons _ _ y ys hy hys =>
   cases hys;cases hx;cases hy;obtain rfl:args = #[.string ⟨a.toArray⟩,.int .u8 (c.toNat:Int)]:=by cases args;simp_all
   refine⟨_,run_indexByte_string _ _ _,?_⟩;have:(c.toNat:Int).toNat.toUInt8=c:=by simp
   rw[this,qbx];exact .i _ _

noncomputable def zS(a b:List UInt8):Int:=if a=b then 0 else if ltS a b=true then -1 else 1
theorem qfz{y:List UInt8}:ltS [] y = !y.isEmpty:=by cases y<;>rfl
theorem qaX{c:UInt8}{x:List UInt8}:ltS (c::x) []=false:=rfl
theorem Qz{c d:UInt8}{x y:List UInt8}:ltS (c::x) (d::y)=if c<d then true else if c=d then ltS x y else false:=by
 rw[Vv,Vv];simp only[Op.bytesLess]
 by_cases h1:c<d
 ·simp[h1]
 ·by_cases h2:c=d
  ·simp[h2]
  ·simp[h1,h2]
theorem qle(a b:List UInt8):Extern.BytealgCompare.cmp ⟨a.toArray⟩ ⟨b.toArray⟩=zS a b:=by
 have hs:∀l:List UInt8,(⟨l.toArray⟩:ByteArray).size=l.length:=fun l=>by simp[ByteArray.size]
 have hg:∀(l:List UInt8) (j:Nat) (hj:j<l.length),(⟨l.toArray⟩:ByteArray)[j]! = l[j]:=by
  intro l j hj;have:j<(⟨l.toArray⟩:ByteArray).size:=by rw[hs];exact hj
  rw[getElem!_pos (⟨l.toArray⟩:ByteArray) j this];show l.toArray[j]=l[j];simp
 have key:∀(n:Nat) (x y:List UInt8) (j:Nat),a.drop j=x->b.drop j=y->j<=a.length->j<=b.length->min x.length y.length=n->
   (match (List.range' j n).find? (fun i=>(⟨a.toArray⟩:ByteArray)[i]! != (⟨b.toArray⟩:ByteArray)[i]!) with
    | some i=>if (⟨a.toArray⟩:ByteArray)[i]! < (⟨b.toArray⟩:ByteArray)[i]! then (-1:Int) else 1
    | none=>if a.length<b.length then -1 else if a.length > b.length then 1 else 0)=zS x y:=by
  intro n
  induction n with
  | zero =>
   intro x y j hx hy ha hb hm;have la:x.length=a.length-j:=by rw[← hx];simp
   have lb:y.length=b.length-j:=by rw[← hy];simp
   cases x with
   | nil =>
    cases y with
    | nil =>
     simp at la lb;have:a.length=b.length:=by omega
     simp[zS,this]
    | cons d ds =>
     simp at la lb;have:a.length<b.length:=by omega
     simp[zS,this,qfz]
   | cons c cs =>
    cases y with
    | nil =>
     simp at la lb;have h1:¬a.length<b.length:=by omega
     have h2:b.length<a.length:=by omega
     simp[zS,h1,h2,qaX]
    | cons d ds=>simp at hm
  | succ n ih =>
   intro x y j hx hy ha hb hm;cases x with
   | nil=>simp at hm
   | cons c cs =>
    cases y with
    | nil=>simp at hm
    | cons d ds =>
     have la:j<a.length:=by have:=congrArg List.length hx;simp at this;omega
     have lb:j<b.length:=by have:=congrArg List.length hy;simp at this;omega
     have ec:a[j]=c:=by have:=List.drop_eq_getElem_cons la;rw[hx] at this;exact (List.cons.inj this).1.symm
     have ed:b[j]=d:=by have:=List.drop_eq_getElem_cons lb;rw[hy] at this;exact (List.cons.inj this).1.symm
     rw[List.range'_succ,List.find?_cons,hg a j la,hg b j lb,ec,ed]
     by_cases he:c=d
     ·subst he;simp only[bne_self_eq_false];refine (ih cs ds (j+1) (by rw[← List.drop_drop,hx];rfl) (by rw[← List.drop_drop,hy];rfl) (by omega) (by omega) (by simp at hm;omega)).trans ?_;simp[zS,Qz]
     ·have h1:(c != d)=true:=by simpa using he
      simp only[h1];rw[hg a j la,hg b j lb,ec,ed]
      by_cases hlt:c<d
      ·simp[zS,Qz,hlt,he]
      ·simp[zS,Qz,hlt,he]
 have:=key (min a.length b.length) a b 0 rfl rfl (Nat.zero_le _) (Nat.zero_le _) rfl;rw[← this];unfold Extern.BytealgCompare.cmp;rw[List.range_eq_range',hs,hs];rfl
theorem qkr(h:qaU P f Extern.BytealgCompare.compare)(a b:List UInt8):qc P f [.s a,.s b] (.i .i64 (zS a b)):=by
 refine h.pure ?_;intro ρ args w ha;generalize hl:args.toList=l at ha;cases ha with
 | cons _ _ x xs hx hxs =>
  cases hxs with
  | cons _ _ y ys hy hys =>
   cases hys;cases hx;cases hy;obtain rfl:args = #[.string ⟨a.toArray⟩,.string ⟨b.toArray⟩]:=by cases args;simp_all
   refine⟨.int .i64 (zS a b),?_,.i _ _⟩
   change Sem.run P (do
    let x ← Extern.Bytes.bytesOf (.string ⟨a.toArray⟩)
    let y ← Extern.Bytes.bytesOf (.string ⟨b.toArray⟩)
    pure (goInt (Extern.BytealgCompare.cmp x y))) w=_
   simp[Extern.Bytes.bytesOf,qle,goInt]

def qlX(P:Program)(f:Nat):Prop:=∃tS tR e size,P.underlying tS=some (.slice e)∧(∀w,(sizeOf e).run P w = .ok size w)∧qaU P f (Extern.SlicesOverlaps.overlaps #[tS,tS] #[tR])
theorem Jg(ho:qlX P f){h:Hp}{b1 o1 n1 c1 b2 o2 n2 c2 e2:Nat}{a1 a2:Bool}{cs1 cs2:List AV}(h1:h.tr.get b1=some (.cells 0 true a1 cs1))(h2:h.tr.get b2=some (.cells e2 true a2 cs2))(hne:b1≠b2)
  (hc1:c1≠0) (hc2:c2≠0) (hl1:o1<=cs1.length) (hl2:cs2≠[]) {k:AV->Hp->Prop} (hk:k (.b false) h):SC P f [.sl b1 o1 n1 c1 false,.sl b2 o2 n2 c2 false] h k:=by
 refine⟨trivial,fun ρ B w args r ha=>?_⟩
 obtain⟨tS,tR,e,size,ht,hz,hx⟩:=ho;generalize hl:args.toList=l at ha;cases ha with
 | cons _ _ x xs hx1 hxs =>
  cases hxs with
  | cons _ _ y ys hy hys =>
   cases hys;obtain⟨L1,c,off,g1,g2,g3⟩:=hx1.un_sl;obtain⟨L2,c',off',k1,k2,k3⟩:=hy.un_sl;subst g2 k2;obtain rfl:args = #[.slice (some ⟨L1.blk,off,none⟩) n1 c,.slice (some ⟨L2.blk,off',none⟩) n2 c']:=by cases args;simp_all
   obtain⟨q1,co,ty,fz,q2,q3,q4,q5,q6⟩:=r.cells b1 L1 _ _ _ cs1 g1 h1;obtain⟨p1,co',ty',fz',p2,p3,p4,p5,p6⟩:=r.cells b2 L2 _ _ _ cs2 k1 h2;have hblk:L1.blk≠L2.blk:=fun hh=>hne (r.excl b2 L2 _ _ cs2 k1 h2 b1 L1 _ g1 h1 (by simp) hh)
   have hoff:off=L1.off+o1:=by
    rcases g3 with⟨rfl,_⟩|⟨_,g4,_⟩
    ·rfl
    ·exact absurd g4 hc1
   have hnf:∀j,j<=L1.size->¬(fz.1<=j∧j<fz.2):=fun j hj=>q6 (by simp) j (by rcases Nat.lt_or_eq_of_le hj with h|h;exact .inl h;exact .inr ⟨rfl,h⟩)
   have hrun:=Lib.run_overlaps_apart (P:=P) w tS tR e ht size hz ⟨L1.blk,off,none⟩ ⟨L2.blk,off',none⟩ n1 c n2 c' hblk ty ty' co.size co'.size (by simp[World.shape?,q2]) (by simp[World.shape?,p2])
    (by
     have:0<cs2.length:=List.length_pos_iff.2 hl2;omega)
    (by rw[Qk q2];simpa using hnf off (by omega)) (by
     rw[Qk q2];simpa using hnf co.size (by omega))
   exact .inr ⟨.bool false,w,by rw[hx,hrun];rfl,.b false,.bool false,h,ρ,rfl,hk,.b _,r,Kept.refl _ _ _ _⟩
end Go.Kc
end
section
/- Calls that shrink a row lent. No condition. -/
namespace Go.Kc
variable {P:Program}
theorem ZJ.closed{h':Hp}{e x c:Nat}{a l:Bool}{cs cs':List AV}(hb:h'.tr.get 0=some (.cells e true a cs))(hsz:h'.sz=1)(hc:c*e<=cs.length)(hx:x<=c)(hq:cs.take (x*e)=cs')(hcl:qt cs'=true):ZJ 1 (.own 0 x) [.cells e true true cs'] (.sl 0 0 x c l) h':=by
 intro hfl;have hxe:x*e<=cs.length:=Nat.le_trans (Nat.mul_le_mul_right _ hx) hc;refine Wk.trans (Wk.close (n:=1) (l:=l) 0 0 x c e (x*e) (by simp[mkT,Tr.get_set]) hb hc hx hxe (by omega) (by omega) (by omega)) ?_;refine Wk.mkn [(0,.own 0 x)] [.cells e true true cs'] [0] ?_ ?_ ?_ hfl (Nat.le_refl _) ?_
 ·refine⟨⟨.own 0 x,by simp[Tr.get_set],?_⟩,trivial⟩
  exact .own 0 0 x rfl (Nat.zero_lt_one)
 ·refine⟨?_,trivial⟩;refine BW.cells (by rw[Tr.get_set,if_pos rfl,hq]) (NVs.refl hcl)
 ·simp[hsz]
 ·intro b hb;obtain rfl:b=0:=by omega
  rfl
theorem ZJ.closedI{h':Hp}{e x c e1:Nat}{a l w1 a1:Bool}{cs cs' cs1:List AV}(hb:h'.tr.get 0=some (.cells e true a cs))(hy:h'.tr.get 1=some (.cells e1 w1 a1 cs1))(hsz:2<=h'.sz)(hc:c*e<=cs.length)(hx:x<=c)(hq:cs.take (x*e)=cs')(hcl:qt cs'=true)(hcl1:qt cs1=true) :
  ZJ 2 (.own 2 x) [.dead,.cells e1 w1 a1 cs1,.cells e true true cs'] (.sl 0 0 x c l) h':=by
 intro hfl;have hxe:x*e<=cs.length:=Nat.le_trans (Nat.mul_le_mul_right _ hx) hc;refine Wk.trans (Wk.close (n:=2) (l:=l) 0 0 x c e (x*e) (by simp[mkT,Tr.get_set]) hb hc hx hxe (by omega) (by omega) hsz) ?_;refine Wk.mkd [(0,.own 2 x)] [.dead,.cells e1 w1 a1 cs1,.cells e true true cs'] [0,1,0] ?_ ?_ ?_ hfl (by simp) ?_
 ·refine⟨⟨.own 0 x,by simp[Tr.get_set],?_⟩,trivial⟩
  exact .own 0 2 x rfl (by simp)
 ·refine⟨.inr (.inl rfl),?_,?_,trivial⟩
  ·exact BW.cells (by rw[Tr.get_set,if_neg (by decide)];exact hy) (NVs.refl hcl1)
  ·exact BW.cells (by rw[Tr.get_set,if_pos rfl,hq]) (NVs.refl hcl)
 ·have:0<h'.sz:=by omega
  have h1:1<h'.sz:=by omega
  simp[jh,this,h1]
 ·intro b hb;have:b=0∨b=1:=by omega
  rcases this with rfl|rfl<;>rfl
end Go.Kc
end
section
/- Pure calls to which rows of one's own are given for good. No condition. -/
namespace Go.Kc
variable {P:Program} {h:Hp}

noncomputable def trP:List (Nat×Blk)->Tr Blk
 | []=>.leaf
 | p::l=>(trP l).set p.1 p.2
theorem Vc:∀{l:List (Nat×Blk)} {b:Nat} {x:Blk},(trP l).get b=some x->(b,x) ∈ l
 | [],b,x,h=>by simp[trP] at h
 | p::l,b,x,h=>by
  simp only[trP,Tr.get_set] at h;split at h
  ·cases h;subst_vars;simp
  ·exact List.mem_cons_of_mem _ (Vc h)
noncomputable def Zy(h:Hp):List (Nat×Blk)->Hp
 | []=>h
 | p::l=>Zy (h.put p.1 .dead) l
theorem WV:∀{l:List (Nat×Blk)} {h:Hp},(Zy h l).sz=h.sz
 | [],_=>rfl
 | _::l,h=>(WV (l:=l)).trans rfl
theorem WU:∀{l:List (Nat×Blk)} {h:Hp},(Zy h l).fl=h.fl
 | [],_=>rfl
 | _::l,h=>(WU (l:=l)).trans rfl
theorem Jc:∀{l:List (Nat×Blk)} {h:Hp} {b:Nat},(Zy h l).tr.get b=if b ∈ l.map Prod.fst then some .dead else h.tr.get b
 | [],_,_=>by simp[Zy]
 | p::l,h,b=>by
  simp only[Zy];rw[Jc]
  by_cases h1:b ∈ l.map Prod.fst
  ·rw[if_pos h1,if_pos (by simp only[List.map_cons,List.mem_cons];exact .inr h1)]
  ·rw[if_neg h1];show (h.tr.set p.1 .dead).get b=_;rw[Tr.get_set]
   by_cases h2:b=p.1
   ·rw[if_pos h2,if_pos (by simp only[List.map_cons,List.mem_cons];exact .inl h2)]
   ·rw[if_neg h2,if_neg (by simp only[List.map_cons,List.mem_cons,not_or];exact⟨h2,h1⟩)]
theorem ZA:Zy h []=h:=rfl
theorem Zz{b:Nat}{x:Blk}{l:List (Nat×Blk)}:Zy h ((b,x)::l)=Zy (h.put b .dead) l:=rfl
theorem Rel.sub{ρ:Ren}{B:Nat->Prop}{h h':Hp}{w:World}(r:Rel σ0 ρ B h w)(hs:h'.sz=h.sz)(hf:h'.fl=h.fl)(hg:∀b x,h'.tr.get b=some x->x≠.dead->h.tr.get b=some x):Rel σ0 ρ B h' w :=
 ⟨fun b L hb=>by rw[hs];exact r.dom b L hb,fun b L e wf af cs hb hx=>r.cells b L e wf af cs hb (hg _ _ hx (by simp)),fun b L es hb hx=>r.maps b L es hb (hg _ _ hx (by simp)),
  fun b L e af cs hb hx b' L' x hb' hx' hd=>r.excl b L e af cs hb (hg _ _ hx (by simp)) b' L' x hb' (hg _ _ hx' hd) hd,fun b L es hb hx b' L' x hb' hx' hd=>r.exclm b L es hb (hg _ _ hx (by simp)) b' L' x hb' (hg _ _ hx' hd) hd,
  fun b L e wf cs hb hx b' L' e' wf' af' cs' hb' hx'=>r.app b L e wf cs hb (hg _ _ hx (by simp)) b' L' e' wf' af' cs' hb' (hg _ _ hx' (by simp)),fun b L hb hf'=>r.flr b L hb (by rw[← hf];exact hf'),r.base,
  fun k arr hk=>⟨(r.frz k arr hk).1,fun b L x hb hx hd=>(r.frz k arr hk).2 b L x hb (hg _ _ hx hd) hd⟩,by rw[hs];exact r.dn⟩
theorem qc.give{f:Nat}{vs vs':List AV}{v:AV}{k:AV->Hp->Prop}(DB:List (Nat×Blk))(hg:∀p ∈ DB,h.tr.get p.1=some p.2∧h.fl<=p.1)(hp:qc P f vs' v)(hv:clo v=true)(hf:Frzs ⟨h.sz,h.fl,trP DB⟩ vs vs')(hk:k v (Zy h DB)):SC P f vs h k:=by
 refine⟨trivial,fun ρ B w args r ha=>?_⟩
 have hp0:=hp H0 (fun v' h'=>v'=v∧h'=H0) ⟨rfl,rfl⟩
 have r0:Rel σ0 ρ B ⟨h.sz,h.fl,trP DB⟩ w:=r.sub rfl rfl (fun b x hx _=>(hg _ (Vc hx)).1)
 have hcr:=hf.ok r0 ha
 have fnew:∀kk a,xV ρ ⟨h.sz,h.fl,trP DB⟩ w kk=some a->ρ.frz kk=some a∨((∃ty fz,w.heap[kk]?=some (.cells a ty fz))∧∃b L e af cs,b ∈ DB.map Prod.fst∧ρ b=some L∧h.tr.get b=some (.cells e true af cs)∧L.blk=kk∧h.fl<=b):=by
  intro kk a hkk;rcases kZ hkk with h1|⟨h1,b,L,e,af,cs,h2,h3,h4⟩
  ·exact .inl h1
  ·have hm:=Vc h3;exact .inr ⟨h1,b,L,e,af,cs,List.mem_map_of_mem (f:=Prod.fst) hm,h2,(hg _ hm).1,h4,(hg _ hm).2⟩
 -- the rows given are frozen,their blocks dead
 have r1:Rel σ0 ⟨ρ.loc,xV ρ ⟨h.sz,h.fl,trP DB⟩ w,ρ.n⟩ B (Zy h DB) w:=by
  have le:ρ.le ⟨ρ.loc,xV ρ ⟨h.sz,h.fl,trP DB⟩ w,ρ.n⟩:=⟨fun _ _ h=>h,fun _ _ h=>wl h,Nat.le_refl _⟩
  have jh:∀b x,(Zy h DB).tr.get b=some x->x≠.dead->b ∉ DB.map Prod.fst∧h.tr.get b=some x:=by
   intro b x hx hd;rw[Jc] at hx;split at hx
   ·cases hx;exact absurd rfl hd
   ·exact⟨by assumption,hx⟩
  have rs:Rel σ0 ρ B (Zy h DB) w:=r.sub WV WU (fun b x hx hd=>(jh b x hx hd).2)
  refine⟨rs.dom,fun b L e wf af cs hb hx=>?_,fun b L es hb hx=>?_,rs.excl,rs.exclm,rs.app,rs.flr,rs.base,fun kk arr hkk=>?_,rs.dn⟩
  ·obtain⟨q1,c,ty,fz,q2,q3,q4,q5,q6⟩:=rs.cells b L e wf af cs hb hx;exact⟨q1,c,ty,fz,q2,q3,q4,fun j v hv=>let ⟨v',k1,k2⟩:=q5 j v hv;⟨v',k1,k2.mono le⟩,q6⟩
  ·obtain⟨q1,o,q2,q3⟩:=rs.maps b L es hb hx;exact⟨q1,o,q2,q3.mono le⟩
  ·rcases fnew kk arr hkk with h1|⟨h1,b,L,e,af,cs,h2,h3,h4,h5,_⟩
   ·exact rs.frz kk arr h1
   ·refine⟨h1,fun b' L' x hb' hx hd he=>?_⟩
    obtain⟨g1,g2⟩:=jh b' x hx hd;have:=r.excl b L e af cs h3 h4 b' L' x hb' g2 hd (by rw[he,h5]);subst this;exact g1 h2
 refine yE.mono (hp0.2 ⟨fun _=>none,xV ρ ⟨h.sz,h.fl,trP DB⟩ w,0⟩ (low w.heap.size) w args
  ⟨(fun _ _ hb=>by cases hb),(fun _ _ _ _ _ _ hb=>by cases hb),(fun _ _ _ hb=>by cases hb),(fun _ _ _ _ _ hb=>by cases hb),(fun _ _ _ hb=>by cases hb),(fun _ _ _ _ _ hb=>by cases hb),(fun _ _ hb=>by cases hb),(fun _ h=>h),
   (fun k arr hk=>⟨(r1.frz k arr hk).1,fun _ _ _ hb=>by cases hb⟩),Nat.le_refl _⟩ (CRs.vr (ρ:=⟨fun _=>none,xV ρ ⟨h.sz,h.fl,trP DB⟩ w,0⟩) hcr)) ?_
 rintro e w' ⟨v0,v',h',ρ',rfl,⟨rfl,rfl⟩,g2,g3,g4⟩;have f1:∀k a,xV ρ ⟨h.sz,h.fl,trP DB⟩ w k=some a->ρ'.frz k=some a:=g4.frz;have f2:∀k a,ρ'.frz k=some a->xV ρ ⟨h.sz,h.fl,trP DB⟩ w k=some a∨w.heap.size<=k:=fun k a hk=>(g4.fnew k a hk).imp id Nat.not_lt.1
 have f3:∀k a,ρ'.frz k=some a->∃ty fz,w'.heap[k]?=some (.cells a ty fz):=fun k a hk=>(g3.frz k a hk).1
 have r2:=r1.frz' g4.pres g4.wle f1 f2 f3;refine⟨v0,v',Zy h DB,⟨ρ.loc,ρ'.frz,ρ.n⟩,rfl,hk,CR.vr (ρ:=⟨ρ.loc,ρ'.frz,ρ.n⟩) (g2.cr hv),r2,?_⟩;refine⟨fun _ _=>rfl,by rw[WV];exact Nat.le_refl _,WU,fun b hb _=>?_,fun k hk=>g4.pres k (r.base _ hk),g4.wle,g4.io,fun k a hk=>f1 k a (wl hk),fun k a hk=>?_,Nat.le_refl _⟩
 ·rw[Jc,if_neg];intro hm;obtain⟨p,hp1,hp2⟩:=List.mem_map.1 hm;have:=(hg p hp1).2;omega
 ·rcases f2 k a hk with h1|h1
  ·rcases fnew k a h1 with h2|⟨_,b,L,_,_,_,_,h3,_,h5,h6⟩
   ·exact .inl h2
   ·right;rw[← h5];exact r.flr b L h3 h6
  ·exact .inr (vk r.base h1)
theorem qc.coe{f:Nat}{vs vs':List AV}{v:AV}(hp:qc P f vs' v)(hf:∀h,Frzs h vs vs'):qc P f vs v:=by
 intro h k hk;refine⟨trivial,fun ρ B w args r ha=>(hp h k hk).2 ρ B w args r ?_⟩
 have r0:Rel σ0 ρ B ⟨h.sz,h.fl,.leaf⟩ w:=r.sub rfl rfl (fun b x hx _=>by simp at hx)
 have hcr:=(hf ⟨h.sz,h.fl,.leaf⟩).ok r0 ha;refine CRs.vr (ρ:=ρ) (hcr.mono fun kk a hkk=>?_)
 rcases kZ hkk with h1|⟨_,b,L,e,af,cs,_,h3,_⟩
 ·exact h1
 ·simp at h3
end Go.Kc
end
section
/- The last step from the abstract machine to a row: what a run keeps of the world; the tree of the code; a law's call. No condition. -/
namespace Go.Kc
variable {P:Program} {env:Tr IFn} {ho:JI}

inductive OkT (P:Program):Nat->Nat->Tr IFn->Prop where
 | leaf (a b:Nat):OkT P a b .leaf
 | no (a b:Nat) {l r:Tr IFn}:OkT P (2*a) (a+b) l->OkT P (2*a) (2*a+b) r->OkT P a b (.node none l r)
 | fn (a b:Nat) {i:IFn} {l r:Tr IFn}:qj P b i=true->OkT P (2*a) (a+b) l->OkT P (2*a) (2*a+b) r->OkT P a b (.node (some i) l r)

theorem OkT.get{a b:Nat}{t:Tr IFn}(h:OkT P a b t):∀n i,t.get n=some i->qj P (a*n+b) i=true:=by
 induction h with
 | leaf=>intro n i h;simp at h
 | no a b hl hr ihl ihr =>
  intro n i h;cases n with
  | zero=>rw[Tr.get_node] at h;cases h
  | succ m =>
   rcases Nat.mod_two_eq_zero_or_one m with h0|h0
   ·obtain⟨j,rfl⟩:∃j,m=2*j:=⟨m / 2,by omega⟩
    rw[Tr.get_node] at h;simp only[h0,if_true,Nat.mul_div_cancel_left j (Nat.zero_lt_two)] at h;have:=ihl j i h;rwa [show 2*a*j+(a+b)=a*(2*j+1)+b from by rw[Nat.mul_add,Nat.mul_one,← Nat.mul_assoc,Nat.mul_comm a 2];omega] at this
   ·obtain⟨j,rfl⟩:∃j,m=2*j+1:=⟨m / 2,by omega⟩
    rw[Tr.get_node] at h;simp only[h0,Nat.one_ne_zero,if_false,show (2*j+1) / 2=j from by omega] at h
    have:=ihr j i h;rwa [show 2*a*j+(2*a+b)=a*(2*j+1+1)+b from by rw[Nat.mul_add,Nat.mul_add,Nat.mul_one,← Nat.mul_assoc,Nat.mul_comm a 2];omega] at this
 | fn a b hc hl hr ihl ihr =>
  intro n i h;cases n with
  | zero=>rw[Tr.get_node] at h;cases h;simpa using hc
  | succ m =>
   rcases Nat.mod_two_eq_zero_or_one m with h0|h0
   ·obtain⟨j,rfl⟩:∃j,m=2*j:=⟨m / 2,by omega⟩
    rw[Tr.get_node] at h;simp only[h0,if_true,Nat.mul_div_cancel_left j (Nat.zero_lt_two)] at h;have:=ihl j i h;rwa [show 2*a*j+(a+b)=a*(2*j+1)+b from by rw[Nat.mul_add,Nat.mul_one,← Nat.mul_assoc,Nat.mul_comm a 2];omega] at this
   ·obtain⟨j,rfl⟩:∃j,m=2*j+1:=⟨m / 2,by omega⟩
    rw[Tr.get_node] at h;simp only[h0,Nat.one_ne_zero,if_false,show (2*j+1) / 2=j from by omega] at h
    have:=ihr j i h;rwa [show 2*a*j+(2*a+b)=a*(2*j+1+1)+b from by rw[Nat.mul_add,Nat.mul_add,Nat.mul_one,← Nat.mul_assoc,Nat.mul_comm a 2];omega] at this

theorem OkT.envOk{t:Tr IFn}(h:OkT P 1 0 t):VM P t:=fun f i hg=>by
 have:=h.get f i hg;rwa [Nat.one_mul] at this

theorem Kept.same{ρ ρ':Ren}{h h':Hp}{w w':World}(k:Kept ρ (low w.heap.size) h w ρ' h' w')(may:MemPlace->Prop):w.keptBut w' may:=by
 refine⟨k.io.1,k.io.2,fun i hi=>?_⟩
 have e:=k.pres i hi;rw[e];cases w.heap[i]? with
 | none=>rfl
 | some o=>cases o<;>simp
noncomputable def qiS(w:World):Nat->Option (Array Value):=fun k=>match w.heap[k]? with|some (.cells arr _ _)=>some arr|_=>none
theorem qaR{w:World}{k:Nat}{arr:Array Value}:qiS w k=some arr↔∃ty fz,w.heap[k]?=some (.cells arr ty fz):=by
 show (match w.heap[k]? with|some (.cells arr _ _)=>some arr|_=>none)=some arr↔_
 cases w.heap[k]? with
 | none=>simp
 | some o=>cases o<;>simp
noncomputable def ice(w:World) [t:TabOk w]:Ren:=⟨fun _=>none,⟨qiS w,fun k a h=>qaR.2 (t.ok k a h)⟩,0⟩
theorem qlN{w:World} [TabOk w]{k:Nat}{arr:Array Value}:(ice w).frz k=some arr↔∃ty fz,w.heap[k]?=some (.cells arr ty fz):=qaR
theorem Rel.ice(w:World) [TabOk w]:Rel σ0 (ice w) (low w.heap.size) H0 w :=
 ⟨(fun _ _ hb=>by cases hb),(fun _ _ _ _ _ _ hb=>by cases hb),(fun _ _ _ hb=>by cases hb),(fun _ _ _ _ _ hb=>by cases hb),(fun _ _ _ hb=>by cases hb),(fun _ _ _ _ _ hb=>by cases hb),(fun _ _ hb=>by cases hb),(fun _ h=>h),
  (fun k arr hk=>⟨qlN.1 hk,fun _ _ _ hb=>by cases hb⟩),Nat.le_refl _⟩
theorem qc.law{f:Nat}{vs:List AV}{args:Array Value}(hp:qc P f vs (.b true))(hc:qdo P f)(w:World) [TabOk w](ha:VRs σ0 (ice w) vs args.toList):Calls P f args w fun e w'=>e = .returned (.bool true)∧∀may,w.keptBut w' may:=by
 have h:=(hp H0 (fun v _=>v = .b true) rfl).2 (ice w) (low w.heap.size) w args (Rel.ice w) ha
 rcases h with⟨_,h⟩|⟨v,w',h,_⟩
 ·refine h.mono fun e w' hh=>?_
  obtain⟨v,v',h',ρ',rfl,rfl,hv,_,hk⟩:=hh;cases hv;exact⟨rfl,fun may=>hk.same may⟩
 ·obtain⟨fn,h1,h2,h3⟩:=hc;rw[ZP h1 h2 h3] at h;cases h
end Go.Kc
end
section
/- Arguments of structs and rows, opened: what reads as data is a value of the abstract machine; what stays reads as before. Conditions: on the types, with each theorem. -/
namespace Go.Kc
section
variable {H:Type} {enc:TypeId×Value->H} {P:Program} {w:World} {α β:Type} {t e:TypeId}
theorem CRs.app{φ:Nat->Option (Array Value)}:∀{as bs:List AV} {us vs:List Value},CRs σ0 φ as us->CRs σ0 φ bs vs->CRs σ0 φ (as++bs) (us++vs)
 | _,_,_,_,.nil,h=>h
 | _,_,_,_,.cons v l v' l' h hs,h2=>.cons _ _ _ _ h (CRs.app hs h2)
def XD(enc:TypeId×Value->H)(P:Program)(w:World)(t:TypeId)(I:α->Prop)(E:α->List AV):Prop :=
 ∀(fuel:Nat) (cs:List Value) x,DataW.trod enc P w 0 (fun _=>true) true fuel t cs=some x->∃a,I a∧CRs σ0 (qiS w) (E a) cs
theorem qrg{k:IntKind}(ht:P.underlying t=some (.int k)):XD enc P w t (fun n:Int=>(Lit.int k n).wf=true) (fun n=>[.i k n]):=by
 intro fuel cs x h;obtain⟨n,rfl,_,hw⟩:=DataW.trod_int ht h;exact⟨n,hw,.cons _ _ _ _ (.i _ _) .nil⟩
theorem qrh(ht:P.underlying t=some .string):XD enc P w t (fun s:List UInt8=>s.length<=maxLen) (fun s=>[.s s]):=by
 intro fuel cs x h;obtain⟨s,rfl,_,hw⟩:=DataW.trod_string ht h;obtain⟨⟨l⟩⟩:=s;exact⟨l,hw,.cons _ _ _ _ (.s _) .nil⟩
theorem qk9{a:Addr}{v:Value}(h:w.cell? a=some v):a.spot=none∧∃arr ty fz,w.heap[a.block]?=some (.cells arr ty fz)∧arr[a.off]?=some v:=by
 unfold World.cell? at h;split at h
 ·rename_i c ty fz hc;split at h
  ·cases h
  ·rename_i hs;refine⟨by simpa using hs,c,ty,fz,hc,h⟩
 ·cases h
theorem qnz{I:α->Prop}{E:α->List AV}{m:Nat}(ht:P.underlying t=some (.slice e))(he:XD enc P w e I E)(hE:∀a,(E a).length=m)(hc:P.cellsOf e=m)(hm:0<m) :
  XD enc P w t (fun l:List α=>l.length<=maxLen∧∀a ∈ l,I a) (fun l=>[.fz l.length (l.flatMap E)]):=by
 intro fuel cs x h;rcases DataW.trod_slice ht h with⟨rfl,_⟩|⟨a,len,cap,elems,rest,n,_,rfl,_,_,hl,hmx,hlen,hel,hsp,_⟩
 ·exact⟨[],⟨Nat.zero_le _,fun _ h=>by cases h⟩,.cons _ _ _ _ (.fz0 none) .nil⟩
 obtain⟨hrl,hr⟩:=hsp rfl;rcases Nat.eq_zero_or_pos cap with h0|hpos
 ·subst h0;obtain rfl:len=0:=by omega
  exact⟨[],⟨Nat.zero_le _,fun _ h=>by cases h⟩,.cons _ _ _ _ (.fz0 (some a)) .nil⟩
 have first:∃v,w.cell? a=some v:=by
  have:∃cs',w.cells? 0 (a.add (0*P.cellsOf e)) (P.cellsOf e)=some cs':=by
   rcases Nat.eq_zero_or_pos len with h1|h1
   ·have:=hr 0 (by omega);have hlt:0<rest.length:=by omega
    rw[List.getElem?_eq_getElem hlt,Option.bind_eq_some_iff] at this;obtain⟨c,hc',_⟩:=this;subst h1;exact⟨c,hc'⟩
   ·have:=hel 0 h1;have hlt:0<elems.length:=by omega
    rw[List.getElem?_eq_getElem hlt,Option.bind_eq_some_iff] at this;obtain⟨c,hc',_⟩:=this;exact⟨c,hc'⟩
  obtain⟨cs',h2⟩:=this;obtain⟨_,q1,q2⟩:=World.cells?_some h2;have:=q2 0 (by omega);rw[List.getElem?_eq_getElem (by omega)] at this;simp only[Nat.zero_mul,Addr.add,if_true] at this;exact⟨_,this⟩
 obtain⟨v0,hv0⟩:=first
 obtain⟨hs,arr,ty,fz,hb,_⟩:=qk9 hv0
 have key:∀k,k<=len->∃l:List α,l.length=k∧(∀b ∈ l,I b)∧CRs σ0 (qiS w) (l.flatMap E) ((arr.toList.drop a.off).take (k*m)):=by
  intro k
  induction k with
  | zero=>intro _;exact⟨[],rfl,(fun _ h=>by cases h),by simpa using .nil⟩
  | succ k ih =>
   intro hk;obtain⟨l,h1,h2,h3⟩:=ih (by omega);have hk':=hel k (by omega);have hlt:k<elems.length:=by omega
   rw[List.getElem?_eq_getElem hlt,Option.bind_eq_some_iff] at hk';obtain⟨c,hcs,htr⟩:=hk';obtain⟨_,q1,q2⟩:=World.cells?_some hcs;obtain⟨b,hb1,hb2⟩:=he _ _ _ htr
   have e1:c=((arr.toList.drop a.off).drop (k*m)).take m:=by
    refine List.ext_getElem? fun j=>?_
    by_cases hj:j<m
    ·have:=q2 j (by omega);rw[← this]
     have e2:w.cell? ((a.add (k*P.cellsOf e)).add j)=arr[a.off+(k*m+j)]?:=by
      have ha:(a.add (k*P.cellsOf e)).add j=⟨a.block,a.off+(k*m+j),none⟩:=by
       unfold Addr.add;rw[hc];split
       ·split
        ·rename_i h4 h5;rw[h4,h5];cases a;simp_all
        ·rename_i h4 h5;rw[h4];simp[hs]
       ·split
        ·rename_i h4 h5;rw[h5];cases a;simp_all
        ·simp;omega
      rw[ha];simp[World.cell?,hb]
     rw[e2,List.getElem?_take_of_lt hj,List.getElem?_drop,List.getElem?_drop];simp[Array.getElem?_toList]
    ·rw[List.getElem?_eq_none (by omega),List.getElem?_eq_none];simp;omega
   refine⟨l++[b],by simp[h1],fun x hx=>?_,?_⟩
   ·rcases List.mem_append.1 hx with hx|hx
    ·exact h2 x hx
    ·obtain rfl:=List.mem_singleton.1 hx;exact hb1
   ·rw[List.flatMap_append,Nat.succ_mul,List.take_add,← e1];simpa using h3.app hb2
 obtain⟨l,h1,h2,h3⟩:=key len (Nat.le_refl _);refine⟨l,⟨by omega,h2⟩,.cons _ _ _ _ ?_ .nil⟩
 have hfl:(l.flatMap E).length=len*m:=by
  rw[← h1];clear h1 h2 h3
  induction l with
  | nil=>simp
  | cons x l ih=>simp[hE,ih,Nat.succ_mul,Nat.add_comm]
 obtain⟨blk,off,spot⟩:=a;cases hs;rw[h1];exact .fz len off cap _ blk arr hl (qaR.2 ⟨ty,fz,hb⟩) (by rw[hfl];exact h3)
def qcj(enc:TypeId×Value->H)(P:Program)(w:World)(fs:List Field)(o n:Nat)(I:α->Prop)(E:α->List AV):Prop :=
 (∀a,(E a).length=n)∧∀(fuel:Nat) (cs:List Value),(∀f ∈ fs,∃x,DataW.trod enc P w 0 (fun _=>true) true fuel f.type ((cs.drop f.offset).take (P.cellsOf f.type))=some x)->∃a,I a∧CRs σ0 (qiS w) (E a) ((cs.drop o).take n)
theorem qpT{o:Nat}:qcj enc P w [] o 0 (fun _:Unit=>True) (fun _=>[]):=⟨fun _=>rfl,fun _ cs _=>⟨(),trivial,by simpa using .nil⟩⟩
theorem qny{f:Field}{fs:List Field}{o m n:Nat}{I:α->Prop}{E:α->List AV}{J:β->Prop}{F:β->List AV}(h:XD enc P w f.type I E)(hE:∀a,(E a).length=m)(ho:f.offset=o)(hc:P.cellsOf f.type=m)
  (hr:qcj enc P w fs (o+m) n J F):qcj enc P w (f::fs) o (m+n) (fun p:α×β=>I p.1∧J p.2) (fun p=>E p.1++F p.2):=by
 refine⟨fun p=>by simp[hE,hr.1],fun fuel cs hf=>?_⟩
 obtain⟨x,hx⟩:=hf f (List.mem_cons_self ..);obtain⟨a,ha,h1⟩:=h _ _ _ hx;obtain⟨b,hb,h2⟩:=hr.2 fuel cs fun g hg=>hf g (List.mem_cons_of_mem _ hg)
 refine⟨(a,b),⟨ha,hb⟩,?_⟩;rw[ho,hc] at h1;rw[List.take_add,List.drop_drop];exact h1.app h2
theorem qmG{fs:Array Field}{n:Nat}{I:α->Prop}{E:α->List AV}(ht:P.underlying t=some (.struct fs))(hc:P.cellsOf t=n)(h:qcj enc P w fs.toList 0 n I E):XD enc P w t I E:=by
 intro fuel cs x hx;obtain⟨xs,m,rfl,_,hl,hxs,hf⟩:=DataW.trod_struct ht hx
 obtain⟨a,ha,h1⟩:=h.2 m cs fun f hfm=>by
  obtain⟨i,hi⟩:=List.getElem?_of_mem hfm;have hi':fs[i]?=some f:=by simpa using hi
  have:=hf i f hi'
  have hlt:i<xs.length:=by
   rw[hxs];exact (Array.getElem?_eq_some_iff.1 hi').1
  rw[List.getElem?_eq_getElem hlt] at this;exact⟨_,this⟩
 refine⟨a,ha,?_⟩;rwa [List.drop_zero,List.take_of_length_le (by omega)] at h1
theorem XD.map{I:α->Prop}{E:α->List AV}{J:β->Prop}{F:β->List AV}(h:XD enc P w t I E)(g:α->β)(hg:∀a,I a->J (g a)∧F (g a)=E a):XD enc P w t J F:=by
 intro fuel cs x hx;obtain⟨a,ha,h1⟩:=h _ _ _ hx;exact⟨g a,(hg a ha).1,by rw[(hg a ha).2];exact h1⟩
theorem XD.agg [TabOk w]{I:α->Prop}{E:α->List AV}(h:XD enc P w t I E){v:Value}{d:DataW H}{p:List MemPlace}(ha:∃cs,v = .agg cs)(hd:DataW.Trod enc P w 0 (fun _=>true) true t v d p):∃a,I a∧VR σ0 (ice w) (.agg (E a)) v:=by
 obtain⟨cs,rfl⟩:=ha;obtain⟨fuel,hd⟩:=hd;obtain⟨a,h1,h2⟩:=h _ _ _ hd;exact⟨a,h1,.agg _ _ h2.vr⟩
theorem qcT{w':World}(hk:∀may,w.keptBut w' may){p:MemPlace}(hp:p.block<w.heap.size):w.sameAt w' p:=by
 have h:=(hk fun _=>False).2.2 p.block hp
 have h0:w.heap[p.block]?=some w.heap[p.block]:=Array.getElem?_eq_getElem hp;cases p with
 | cell b off =>
  show w'.cell? ⟨b,off,none⟩=w.cell? ⟨b,off,none⟩;simp only[MemPlace.block] at h h0 hp;unfold World.cell?;split at h
  ·rename_i c1 t1 f1 c2 t2 f2 e1 e2;dsimp only;rw[e1,e2];simpa using h.2.2.2 off (fun hh=>hh)
  ·rename_i e1 e2;dsimp only;rw[e1,e2]
  ·dsimp only;rw[h]
 | map b =>
  show w'.heap[b]?=w.heap[b]?;simp only[MemPlace.block] at h h0 hp;split at h
  ·rename_i c1 t1 f1 c2 t2 f2 e1 e2
   have:c2=c1:=by
    apply Array.ext_getElem?;intro j;exact h.2.2.2 j (fun hh=>hh)
   rw[e1,e2,h.1,h.2.1,this]
  ·rename_i e1 e2;rcases h with hh|⟨h1,h2⟩
   ·exact hh.elim
   ·rw[e1,e2,h1,h2]
  ·exact h
theorem Trod.stay{w':World}{T:TypeId->Prop}(K:Kids P T)(hz:∀t e,T t->P.underlying t=some (.slice e)->0<P.cellsOf e){ts:List TypeId}{vs:List Value}{ds:List (DataW H)}{ps:List MemPlace}(hT:∀t ∈ ts,T t)
  (h:DataW.TrodAll enc P w 0 (fun _=>true) true ts vs ds ps) (hk:∀may,w.keptBut w' may):DataW.TrodAll enc P w' 0 (fun b=>decide (b<w.heap.size)) true ts vs ds ps:=by
 have hlt:=DataW.TrodAll.lt h;have h1:DataW.TrodAll enc P w 0 (fun b=>decide (b<w.heap.size)) true ts vs ds ps:=h.respare K hz hT fun p hp=>decide_eq_true (hlt p hp)
 clear h
 induction ts generalizing vs ds ps with
 | nil =>
  cases vs<;>cases ds<;>first|exact h1|exact h1.elim
 | cons t ts ih =>
  cases vs with
  | nil=>exact h1.elim
  | cons v vs =>
   cases ds with
   | nil=>exact h1.elim
   | cons d ds =>
    obtain⟨p,q,⟨fuel,h2⟩,h3,e⟩:=h1;subst e;refine⟨p,q,⟨fuel,DataW.trod_carry _ _ _ _ h2 fun x hx=>qcT hk (hlt x (List.mem_append_left _ hx))⟩,?_,rfl⟩
    exact ih (fun t ht=>hT t (List.mem_cons_of_mem _ ht)) (fun x hx=>hlt x (List.mem_append_right _ hx)) h3
end
end Go.Kc
namespace Go.Kc
theorem qmJ{P:Program}{H:Type}{enc:TypeId×Value->H}{f:Func}{s:ChangeSpec}{apart fresh handsOn:Bool}{W W':World}{args:Array Value}{v:Value}{ds gs:List (DataW H)}{before pv:List MemPlace}
  (hW:DataW.Whole enc P f.params.toList s.vars apart W args.toList ds gs before) (hs:(s.fn H (ds++gs)).args=ds)
  {T:TypeId->Prop} (K:Kids P T) (hz:∀t e,T t->P.underlying t=some (.slice e)->0<P.cellsOf e) (hT:∀t ∈ f.params.toList,T t)
  (hres:∀(b:Nat) (sp:Nat->Bool) (hd:Bool),DataW.TrodAll enc P W' b sp hd f.resultTypes.toList (v.resultList f.resultTypes.size) (s.fn H (ds++gs)).results [])
  (hvars:∀sp:Nat->Bool,DataW.TrodVars enc P W' sp s.vars (s.fn H (ds++gs)).vars pv)
  (hk:∀may,W.keptBut W' may):s.post enc P f apart fresh handsOn false W args v W':=by
 have hW':=hW;obtain⟨p,q,hA,_,_⟩:=hW';exact⟨ds,gs,before,[],p,pv,hW,hres _ _ _,by rw[hs];exact Trod.stay K hz hT hA hk,hvars _,hk _,fun h=>by cases h⟩
end Go.Kc
end
section
/- A call on known data whose answer the kernel compares with a value that names no block. No condition. -/
namespace Go.Kc
variable {P:Program} {env:Tr IFn} {ho:JI}
def kOf:IntKind->Nat
 | .i8=>0 | .i16=>1 | .i32=>2 | .i64=>3 | .u8=>4 | .u16=>5 | .u32=>6 | .u64=>7
theorem ql3{a b:IntKind}(h:Nat.beq (kOf a) (kOf b)=true):a=b:=by
 cases a<;>cases b<;>first|rfl|cases h
def qsd:Int->Int->Bool
 | .ofNat a,.ofNat b=>Nat.beq a b
 | .negSucc a,.negSucc b=>Nat.beq a b
 | _,_=>false
theorem qlS:∀{a b:Int},qsd a b=true->a=b
 | .ofNat a,.ofNat b,h=>by rw[Nat.eq_of_beq_eq_true h]
 | .negSucc a,.negSucc b,h=>by rw[Nat.eq_of_beq_eq_true h]
 | .ofNat _,.negSucc _,h=>by cases h
 | .negSucc _,.ofNat _,h=>by cases h
mutual
noncomputable def kY(h:Hp):AV->AV->Bool
 | .b x,v=>match v with | .b y=>(x&&y)||(!x && !y)|_=>false
 | .i k n,v=>match v with | .i k' m=>Nat.beq (kOf k) (kOf k')&&qsd n m|_=>false
 | .s x,v=>match v with | .s y=>eqS x y|_=>false
 | .nils,v=>match v with | .nils=>true|_=>false
 | .nilp,v=>match v with | .nilp=>true|_=>false
 | .nilf,v=>match v with | .nilf=>true|_=>false
 | .nili,v=>match v with | .nili=>true|_=>false
 | .nilm,v=>match v with | .nilm=>true|_=>false
 | .agg cs',v=>match v with | .agg cs=>V0 h cs' cs|_=>false
 | .tup cs',v=>match v with | .tup cs=>V0 h cs' cs|_=>false
 | .fz n cs',v=>match v with
  | .nils=>Nat.beq n 0&&cs'.isEmpty
  | .sl b o m c _=>Nat.beq n m&&Nat.ble m c && !(Nat.beq c 0)&&(match h.tr.get b with|some (.cells _ true _ cs)=>Nat.ble (o+cs'.length) cs.length&&V0 h cs' ((cs.drop o).take cs'.length)|_=>false)
  | .own b m=>Nat.beq n m && !(Nat.beq m 0)&&(match h.tr.get b with|some (.cells _ true _ ys)=>V0 h cs' ys|_=>false)
  | _=>false
 | _,_=>false
noncomputable def V0(h:Hp):List AV->List AV->Bool
 | [],vs=>vs.isEmpty
 | v'::vs',vs=>match vs with|v::vs=>kY h v' v&&V0 h vs' vs | []=>false
end
theorem qlo{x y:List UInt8}(h:eqS x y=true):x=y:=by
 rw[ky] at h;simpa using h
mutual
theorem qft{h:Hp}:∀(v' v:AV),kY h v' v=true->Frz h v v'
 | .b x,v,hb=>by
  unfold kY at hb;split at hb<;>first|(cases hb;done)|skip
  rename_i y;have:y=x:=by cases x<;>cases y<;>first|rfl|cases hb
  subst this;exact .b _
 | .i k n,v,hb=>by
  unfold kY at hb;split at hb<;>first|(cases hb;done)|skip
  simp only[Bool.and_eq_true] at hb;obtain rfl:=ql3 hb.1;obtain rfl:=qlS hb.2;exact .i _ _
 | .s x,v,hb=>by
  unfold kY at hb;split at hb<;>first|(cases hb;done)|skip
  obtain rfl:=qlo hb;exact .s _
 | .nils,v,hb=>by unfold kY at hb;split at hb<;>first|(cases hb;done)|exact .nils
 | .nilp,v,hb=>by unfold kY at hb;split at hb<;>first|(cases hb;done)|exact .nilp
 | .nilf,v,hb=>by unfold kY at hb;split at hb<;>first|(cases hb;done)|exact .nilf
 | .nili,v,hb=>by unfold kY at hb;split at hb<;>first|(cases hb;done)|exact .nili
 | .nilm,v,hb=>by unfold kY at hb;split at hb<;>first|(cases hb;done)|exact .nilm
 | .agg cs',v,hb=>by
  unfold kY at hb;split at hb<;>first|(cases hb;done)|skip
  exact .agg _ _ (XP cs' _ hb)
 | .tup cs',v,hb=>by
  unfold kY at hb;split at hb<;>first|(cases hb;done)|skip
  exact .tup _ _ (XP cs' _ hb)
 | .fz n cs',v,hb=>by
  unfold kY at hb;split at hb<;>first|(cases hb;done)|skip
  ·simp only[Bool.and_eq_true] at hb;obtain rfl:=Nat.eq_of_beq_eq_true hb.1;have:cs'=[]:=by simpa using hb.2
   rw[this];exact .nilz
  ·simp only[Bool.and_eq_true] at hb;obtain⟨⟨⟨h1,h2⟩,h3⟩,h4⟩:=hb;obtain rfl:=Nat.eq_of_beq_eq_true h1;split at h4<;>first|(cases h4;done)|skip
   rename_i hg;simp only[Bool.and_eq_true] at h4;refine .sl _ _ _ _ _ _ _ _ cs'.length _ hg (Nat.le_of_ble_eq_true h2) (Nat.le_of_ble_eq_true h4.1) (fun h0=>?_) (XP cs' _ h4.2)
   subst h0;cases h3
  ·simp only[Bool.and_eq_true] at hb;obtain⟨⟨h1,h2⟩,h4⟩:=hb;obtain rfl:=Nat.eq_of_beq_eq_true h1;split at h4<;>first|(cases h4;done)|skip
   rename_i hg;refine .own _ _ _ _ _ _ hg (fun h0=>?_) (XP cs' _ h4)
   subst h0;cases h2
 | .undef,v,hb=>by unfold kY at hb;cases hb
 | .ptr _ _,v,hb=>by unfold kY at hb;cases hb
 | .sl _ _ _ _ _,v,hb=>by unfold kY at hb;cases hb
 | .fn _ _ _,v,hb=>by unfold kY at hb;cases hb
 | .ifc _ _,v,hb=>by unfold kY at hb;cases hb
 | .map _,v,hb=>by unfold kY at hb;cases hb
 | .sym _,v,hb=>by unfold kY at hb;cases hb
 | .pf _ _,v,hb=>by unfold kY at hb;cases hb
 | .e0,v,hb=>by unfold kY at hb;cases hb
 | .own _ _,v,hb=>by unfold kY at hb;cases hb
 | .nz,v,hb=>by unfold kY at hb;cases hb
 | .yl _,v,hb=>by unfold kY at hb;cases hb
 | .lp _,v,hb=>by unfold kY at hb;cases hb
theorem XP{h:Hp}:∀(vs' vs:List AV),V0 h vs' vs=true->Frzs h vs vs'
 | [],vs,hb=>by
  unfold V0 at hb;have:vs=[]:=by simpa using hb
  rw[this];exact .nil
 | v'::vs',vs,hb=>by
  unfold V0 at hb;split at hb<;>first|(cases hb;done)|skip
  simp only[Bool.and_eq_true] at hb;exact .cons _ _ _ _ (qft v' _ hb.1) (XP vs' _ hb.2)
end
noncomputable def tt(b:Bool):Prop:=Bool.rec (motive:=fun _=>Prop) False True b
theorem qs2{b:Bool}(h:tt b):b=true:=by cases b with|true=>rfl|false=>exact h.elim
theorem qc.runF(he:VM P env)(hh:J4 P ho)(m:Nat){f:Nat}{vs:List AV}{v:AV}(hcl:qt vs=true)(hk:JQ env ho (fv env ho m) f vs H0 (fun v' h'=>tt (kY h' v v'))=True):qc P f vs v :=
 qc.of_SC hcl ((SC.run he hh m (of_eq_true hk)).mono fun v' h' hv=>qft _ _ (qs2 hv))
end Go.Kc
end
section
/- The code of a run, checked at once; short forms for its tree and for tables. No condition. -/
namespace Go.Kc
variable {P:Program}
noncomputable def okB(P:Program):Tr IFn->Nat->Nat->Bool:=fun t=>Tr.rec (motive:=fun _=>Nat->Nat->Bool) (fun _ _=>true) (fun v _ _ il ir a b=>(match v with|none=>true|some i=>qj P b i)&&(il (2*a) (a+b)&&ir (2*a) (2*a+b))) t
theorem qa3:∀(t:Tr IFn) (a b:Nat),okB P t a b=true->OkT P a b t
 | .leaf,a,b,_=>.leaf a b
 | .node none l r,a,b,h=>by
  have h':(true&&(okB P l (2*a) (a+b)&&okB P r (2*a) (2*a+b)))=true:=h;simp only[Bool.and_eq_true] at h';exact .no a b (qa3 l _ _ h'.2.1) (qa3 r _ _ h'.2.2)
 | .node (some i) l r,a,b,h=>by
  have h':(qj P b i&&(okB P l (2*a) (a+b)&&okB P r (2*a) (2*a+b)))=true:=h;simp only[Bool.and_eq_true] at h';exact .fn a b h'.1 (qa3 l _ _ h'.2.1) (qa3 r _ _ h'.2.2)
theorem qto{t:Tr IFn}(h:okB P t 1 0=true):VM P t:=(qa3 t 1 0 h).envOk
def Tr.o(l r:Tr IFn):Tr IFn:=.node none l r
def Tr.f(i:IFn):Tr IFn:=.node (some i) .leaf .leaf
def Tr.g(i:IFn)(l r:Tr IFn):Tr IFn:=.node (some i) l r
def tbl{α:Type}(n:Nat)(l:List α)(row:Nat->α->List ROp):IFn :=
 ⟨[.tmp 0],.seq (.r [.m 0 .N]) (.seq (.r ((l.zipIdx.flatMap fun p=>row p.2 p.1)++[.q (2*n+1) (.buildS n [.s [],.nils] ((List.range n).map fun i=>(2*i,2,.t (2*i+2)))),.n 0 (2*n+1)])) .ret)⟩
def quq(xs:List (List UInt8)):IOp:=.buildS xs.length [.s []] (xs.zipIdx.map fun q=>(q.2,1,.c (.s q.1)))
end Go.Kc
end
section
/- Calls that answer rows of one's own, their arguments lent. No condition. -/
namespace Go.Kc
variable {P:Program}
mutual
def Qi:AV->Bool
 | .map _=>false
 | .fz _ _=>false
 | .pf _ _=>false
 | .sym _=>false
 | .fn _ a c=>Qj a&&Qj c
 | .ifc _ v=>Qi v
 | .agg cs=>Qj cs
 | .tup cs=>Qj cs
 | .ptr _ _=>true | .sl _ _ _ _ _=>true | .own _ _=>true
 | .undef=>true | .b _=>true | .i _ _=>true | .s _=>true | .nilp=>true | .nils=>true | .nilf=>true | .nili=>true | .nilm=>true | .e0=>true | .nz=>true | .yl _=>true | .lp _=>true
def Qj:List AV->Bool
 | []=>true
 | v::vs=>Qi v&&Qj vs
end
mutual
theorem VR.thaw{ρ:Ren}{φ:Fz}:∀{a:AV} {v:Value},VR σ0 ρ a v->Qi a=true->VR σ0 ⟨ρ.loc,φ,ρ.n⟩ a v
 | _,_,.undef v,_=>.undef v
 | _,_,.b x,_=>.b x
 | _,_,.i k n,_=>.i k n
 | _,_,.s x,_=>.s x
 | _,_,.nilp,_=>.nilp
 | _,_,.ptr b o L h,_=>.ptr b o L h
 | _,_,.nils,_=>.nils
 | _,_,.sl b o len cap c loose L h hc,_=>.sl b o len cap c loose L h hc
 | _,_,.slz b o x l L h,_=>.slz b o x l L h
 | _,_,.nilf,_=>.nilf
 | _,_,.fn f first cap first' cap' h1 h2,hc=>by
  simp only[Qi,Bool.and_eq_true] at hc;exact .fn _ _ _ _ _ (h1.thaw hc.1) (h2.thaw hc.2)
 | _,_,.nili,_=>.nili
 | _,_,.ifc t v v' h,hc=>by simp only[Qi] at hc;exact .ifc _ _ _ (h.thaw hc)
 | _,_,.agg cs cs' h,hc=>by simp only[Qi] at hc;exact .agg _ _ (h.thaw hc)
 | _,_,.tup cs cs' h,hc=>by simp only[Qi] at hc;exact .tup _ _ (h.thaw hc)
 | _,_,.nilm,_=>.nilm
 | _,_,.map b L h h0,hc=>by simp[Qi] at hc
 | _,_,.sym j,hc=>by simp[Qi] at hc
 | _,_,.fz n off c cs k arr hn h hs,hc=>by simp[Qi] at hc
 | _,_,.fz0 a,hc=>by simp[Qi] at hc
 | _,_,.pf off base cs k arr h hs,hc=>by simp[Qi] at hc
 | _,_,.e0 a,_=>.e0 a
 | _,_,.nz a c,_=>.nz a c
 | _,_,.own0 b a hb,_=>.own0 b a hb
 | _,_,.own b n c L h hn hc,_=>.own b n c L h hn hc
 | _,_,.yl b L h,_=>.yl b L h
theorem VRs.thaw{ρ:Ren}{φ:Fz}:∀{a:List AV} {v:List Value},VRs σ0 ρ a v->Qj a=true->VRs σ0 ⟨ρ.loc,φ,ρ.n⟩ a v
 | _,_,.nil,_=>.nil
 | _,_,.cons v vs v' vs' h hs,hc=>by
  simp only[Qj,Bool.and_eq_true] at hc;exact .cons _ _ _ _ (h.thaw hc.1) (hs.thaw hc.2)
end
theorem qaJ:∀{cs:List AV} {j:Nat} {v:AV},Qj cs=true->cs[j]?=some v->Qi v=true
 | [],_,_,_,h=>by simp at h
 | c::cs,0,v,hf,h=>by
  simp only[Qj,Bool.and_eq_true] at hf;simp at h;rw[← h];exact hf.1
 | c::cs,j+1,v,hf,h=>by
  simp only[Qj,Bool.and_eq_true] at hf;exact qaJ hf.2 (by simpa using h)
def qiI:Blk->Bool
 | .cells _ _ _ cs=>Qj cs
 | _=>false
theorem Rel.thaw{ρ:Ren}{φ:Fz}{B:Nat->Prop}{h:Hp}{w:World}(r:Rel σ0 ρ B h w)(hφ:∀k a,φ k=some a->ρ.frz k=some a)(hh:∀b x,h.tr.get b=some x->qiI x=true):Rel σ0 ⟨ρ.loc,φ,ρ.n⟩ B h w:=by
 refine⟨r.dom,fun b L e wf af cs hb hg=>?_,fun b L es hb hg=>?_,r.excl,r.exclm,r.app,r.flr,r.base,fun k arr hk=>r.frz k arr (hφ k arr hk),r.dn⟩
 ·obtain⟨g1,c,ty,fz,g2,g3,g4,g5,g6⟩:=r.cells b L e wf af cs hb hg;exact⟨g1,c,ty,fz,g2,g3,g4,fun j v hv=>let ⟨v',g7,g8⟩:=g5 j v hv;⟨v',g7,g8.thaw (qaJ (hh b _ hg) hv)⟩,g6⟩
 ·have:=hh b _ hg;cases this
theorem qau.own{f:Nat}{vs:List AV}{v:AV}{bs:List Blk}(ho:qau P f vs v bs)(hc:qt vs=true):Own P f vs v bs:=fun h k hk=>ho h vs k (Frzs.self hc) hk
theorem qau.sc{f:Nat}{vs vs':List AV}{v:AV}{bs:List Blk}{h:Hp}{k:AV->Hp->Prop}(ho:qau P f vs' v bs)(hf:Frzs h vs vs')(hk:k (shv h.sz v) (wS h (bs.map (shb h.sz)))):SC P f vs h k:=ho h vs k hf hk
theorem qau.of_SC{f:Nat}{vs':List AV}{v:AV}{bs:List Blk}(hv:Qi v=true)(hbs:bs.all qiI=true)(hs:SC P f vs' H0 (qhA v bs)):qau P f vs' v bs:=by
 intro h vs k hf hk;refine⟨hs.1,fun ρ B w args r ha=>?_⟩
 have hcr:=hf.ok r ha;refine yE.mono (hs.2 ⟨fun _=>none,xV ρ h w,0⟩ (low w.heap.size) w args r.bare (CRs.vr (ρ:=⟨fun _=>none,xV ρ h w,0⟩) hcr)) ?_
 rintro e w1 ⟨v0,v',h1,ρ1,rfl,g1,g2,g3,g4⟩;obtain⟨src,s1,s2,s3⟩:=g1 g4.fl;have hw:Wk 0 (mkT [(0,v0)]) h1 (mkT [(0,v)]) (mkH 0 bs):=Wk.mk [(0,v)] bs src ⟨⟨v0,by simp[mkT,Tr.get_set],s1⟩,trivial⟩ s2 s3 g4.fl
 obtain⟨ρ2,t2,r2,k2⟩:=hw ρ1 (low w.heap.size) w1 #[v'] (fun j x hj=>by
  have:=Z1 hj;simp at this;obtain⟨rfl,rfl⟩:=this;exact⟨by simp,by simpa using g2⟩) g3
 have hv2:VR σ0 ρ2 v v':=by
  have:=(t2 0 v (by simp[mkT,Tr.get_set])).2;simpa using this
 have hφ:∀k a,ρ.frz k=some a->ρ2.frz k=some a:=fun k a hk=>k2.frz k a (g4.frz k a (wl hk))
 have r3:=r2.thaw (φ:=ρ.frz) hφ (fun b x hx=>by
  rw[xt] at hx;exact List.all_eq_true.1 hbs x (List.mem_of_getElem? hx))
 have hv3:=hv2.thaw (φ:=ρ.frz) hv;refine⟨_,v',_,ρ.join ⟨ρ2.loc,ρ.frz,ρ2.n⟩ h.sz bs.length,rfl,hk,hv3.sh r3.dn,Rel.joinH r r3 g4.pres g4.wle (fun _ _ h=>h) (fun _ _ h=>.inl h),?_⟩
 refine⟨fun b hb=>qaj hb,by rw[ZD];omega,Jh,fun b _ hb=>by rw[kp,if_pos hb],fun k hk=>g4.pres k (r.base _ hk),g4.wle,g4.io,fun _ _ h=>h,fun _ _ h=>.inl h,?_⟩
 exact Nat.le_trans r.dn (Nat.le_add_right _ _)
theorem qau.mk{f:Nat}{i:IFn}{vs:List AV}{v:AV}{bs:List Blk}(hc:qj P f i=true)(hv:Qi v=true)(hbs:bs.all qiI=true)(hV:V P 0 i.body (wE i.res (qhA v bs)) (yP vs 0 .leaf) H0):qau P f vs v bs :=
 qau.of_SC hv hbs (SC.mk hc (qq hV))
end Go.Kc
end
section
/- Ranges over functions: the rules. No condition. -/
namespace Go.Kc
variable {P:Program} {n:Nat} {h:Hp}
def bsy(r:Loop):Loop:={ r with state:=.busy }
def rdy(r:Loop):Loop:={ r with state:=.ready,pending:=none }
def dne(r:Loop)(c:Code):Loop:={ r with state:=.done,pending:=some c }
structure LoopOk (P:Program) (r:Loop) (ps:List Nat) (ai bi:ICode):Prop where
 params:r.params.toList=ps
 code:∃nt,qS P nt r.assign ai=true∧qS P nt r.body bi=true∧nt<=r.tmps.size∧∀p ∈ ps,p<nt
 flat:Vz ai=true∧Vz bi=true
theorem LoopOk.bsy{r:Loop}{ps:List Nat}{ai bi:ICode}(h:LoopOk P r ps ai bi):LoopOk P (bsy r) ps ai bi:=⟨h.params,h.code,h.flat⟩
theorem LoopOk.rdy{r:Loop}{ps:List Nat}{ai bi:ICode}(h:LoopOk P r ps ai bi):LoopOk P (rdy r) ps ai bi:=⟨h.params,h.code,h.flat⟩
noncomputable def qmL:List Nat->List AV->Tr AV->Tr AV
 | p::ps,u::us,t=>qmL ps us (t.set p u)
 | _,_,t=>t
def qtF(b:Nat)(k:AV->Hp->Prop)(x:X)(_:Tr AV)(h:Hp):Prop :=
 ∃r ts,h.tr.get b=some (.map (jP r ts))∧onX x (k (.b true) (h.put b (.map (jP (rdy r) ts)))) (fun id=>k (.b false) (h.put b (.map (jP (dne r (.exit id)) ts)))) (k (.b false) (h.put b (.map (jP (dne r .ret) ts))))
def qtE(P:Program)(n b:Nat)(r:Loop)(bi:ICode)(Q:X->Tr AV->Hp->Prop)(x:X)(t:Tr AV)(h:Hp):Prop :=
 onX x (∃ts,h.tr.get b=some (.map (jP r ts))∧S P n bi Q t (h.put b (.map (jP (bsy r) ts)))) (fun _=>False) False
theorem qfG{ρ:Ren}:∀{ps:List Nat} {us:List AV} {t:Tr AV} {tm:Array Value} {args:List Value},VRs σ0 ρ us args->ps.length=us.length->(∀p ∈ ps,p<tm.size)->TR σ0 ρ t tm->
  TR σ0 ρ (qmL ps us t) ((ps.zip args).foldl (fun tm (p,v)=>tm.setIfInBounds p v) tm)
 | [],[],_,_,_,hv,_,_,ht=>by cases hv;exact ht
 | [],_::_,_,_,_,_,hl,_,_=>by simp at hl
 | _::_,[],_,_,_,_,hl,_,_=>by simp at hl
 | p::ps,u::us,t,tm,args,hv,hl,hp,ht=>by
  cases hv with
  | cons _ _ v vs h1 h2 =>
   have hlt:=hp p (by simp);refine qfG (ps:=ps) h2 (by simpa using hl) (fun q hq=>by simpa using hp q (by simp[hq])) (fun j x hj=>?_)
   rw[Tr.get_set] at hj;split at hj
   ·rename_i he;subst he;cases hj;exact⟨by simpa using hlt,by simpa[Array.getD,hlt] using h1⟩
   ·rename_i he;obtain⟨g1,g2⟩:=ht j x hj;refine⟨by simpa using g1,?_⟩
    rw[Array.getD_eq_getD_getElem?,Array.getElem?_setIfInBounds,if_neg (fun e=>he e.symm),← Array.getD_eq_getD_getElem?]
    exact g2
theorem qsR{ρ:Ren}{tm:Array Value}:∀{ts:List (Nat×AV)},(∀p ∈ ts,p.1<tm.size∧VR σ0 ρ p.2 (tm.getD p.1 undef))->TR σ0 ρ (mkT ts) tm :=
 fun h j v hj=>h (j,v) (Z1 hj)
theorem qfB:∀{ts:List (Nat×AV)},(ts.map Prod.fst).Nodup->∀{p:Nat×AV},p ∈ ts->(mkT ts).get p.1=some p.2
 | [],_,_,hp=>by cases hp
 | q::ts,hn,p,hp=>by
  simp only[mkT,Tr.get_set];have hn2:=List.nodup_cons.1 hn;rcases List.mem_cons.1 hp with rfl|hp
  ·rw[if_pos rfl]
  ·rw[if_neg (fun e=>hn2.1 (List.mem_map.2 ⟨p,hp,e⟩))]
   exact qfB hn2.2 hp
theorem WM:∀(l:List (Nat×Value)) (tm:Array Value),(l.foldl (fun tm (p,v)=>tm.setIfInBounds p v) tm).size=tm.size
 | [],_=>rfl
 | p::l,tm=>by rw[List.foldl_cons,WM l];simp
theorem SY.mk{b:Nat}{us:List AV}{k:AV->Hp->Prop}{r:Loop}{ts:List (Nat×AV)}{ps:List Nat}{ai bi:ICode}(hg:h.tr.get b=some (.map (jP r ts)))(hr:r.state = .ready)(hok:LoopOk P r ps ai bi)(hfl:h.fl<=b)(hbs:b<h.sz)(hl:ps.length=us.length)
  (hA:S P h.sz ai (qtE P h.sz b r bi (qtF b k)) (qmL ps us (mkT ts)) h):SY P b us h k:=by
 intro ρ B w args L hL rl hargs;obtain⟨L0,ob,hob,hrec⟩:=rl.maps b L _ hL hg;obtain⟨rfl,hts⟩:=hrec.rec';obtain⟨nt,hca,hcb,hnt,hps⟩:=hok.code
 have hsz:args.size=r.params.size:=by
  have:=hargs.length;have h2:r.params.size=ps.length:=by rw[← hok.params];simp
  rw[h2,hl,this];simp
 refine⟨r.fn,_,r.assign,r.body,run_yield hob hsz,fun ro=>roundIn_of_wpIn trivial ?_⟩
 have hfold:(r.params.zip args).foldl (fun tmps (t,a)=>tmps.setIfInBounds t a) r.tmps=(ps.zip args.toList).foldl (fun tm (p,v)=>tm.setIfInBounds p v) r.tmps:=by
  rw[← Array.foldl_toList,Array.toList_zip,hok.params]
 rw[hfold]
 have hT:TR σ0 ρ (qmL ps us (mkT ts)) ((ps.zip args.toList).foldl (fun tm (p,v)=>tm.setIfInBounds p v) r.tmps) :=
  qfG hargs hl (fun p hp=>Nat.lt_of_lt_of_le (hps p hp) hnt) (qsR hts)
 have hS:=hA nt r.assign hca (Nat.le_refl _) (some L.blk) (.inr hok.flat.1) ρ B w { tmps:=(ps.zip args.toList).foldl (fun tm (p,v)=>tm.setIfInBounds p v) r.tmps,defers:=[] } hT (by rw[WM];exact hnt) rl
 refine wpIn_mono hS ?_;rintro e a1 w1 ⟨x1,t1,h1,ρ1,rs,hx,hq,ht1,hs1,hd1,hm,r1,k1⟩;cases hx with
 | exit id=>exact hq.elim
 | ret=>exact hq.elim
 | normal =>
  obtain⟨ts1,hg1,hB⟩:=hq;have r1:=r1.lessB (B:=B) fun k hk=>.inl hk
  have hL1:ρ1 b=some L:=(k1.ext b hbs).trans hL;obtain⟨_,ob1,hob1,hrec1⟩:=r1.maps b L _ hL1 hg1;obtain⟨rfl,hts1⟩:=hrec1.rec';refine⟨w1.putObj L.blk (.loop (Go.Kc.bsy r)),run_beginRound hob1 hr,?_⟩;obtain⟨r2,k2⟩:=r1.putMap (w':=w1.putObj L.blk (.loop (Go.Kc.bsy r))) hL1 hg1 (by rw[k1.fl];exact hfl) hob1 (es':=jP (Go.Kc.bsy r) ts1) (.inr (.inr ⟨_,_,rfl,rfl,hts1⟩)) rfl ⟨rfl,rfl⟩;have hSb:=hB nt r.body hcb k1.szle (some L.blk) (.inr hok.flat.2) ρ1 B _ a1 ht1 hs1 r2;refine wpIn_mono hSb ?_;rintro e a3 w3 ⟨x3,t3,h3,ρ3,rs3,hx3,hq3,ht3,hs3,hd3,hm3,r3,k3⟩;have r3:=r3.lessB (B:=B) fun k hk=>.inl hk
  have kk:=(k1.trans (k2.kep k1.szle)).trans k3;obtain⟨r',ts',hg3,hq3⟩:=hq3;have hL3:ρ3 b=some L:=(kk.ext b hbs).trans hL;obtain⟨_,ob3,hob3,hrec3⟩:=r3.maps b L _ hL3 hg3;obtain⟨rfl,hts3⟩:=hrec3.rec'
  have fin:∀(lp:Loop) (y:Bool),lp.tmps=r'.tmps->k (.b y) (h3.put b (.map (jP lp ts')))->(∃v v0 h' ρ',Ending.returned (Value.bool y) = .returned v0∧k v h'∧VR σ0 ρ' v v0∧Rel σ0 ρ' B h' (w3.putObj L.blk (.loop lp))∧Kept ρ B h w ρ' h' (w3.putObj L.blk (.loop lp))):=by
   intro lp y htm hk;obtain⟨r4,k4⟩:=r3.putMap (w':=w3.putObj L.blk (.loop lp)) hL3 hg3 (by rw[kk.fl];exact hfl) hob3 (es':=jP lp ts') (.inr (.inr ⟨_,_,rfl,rfl,by rw[htm];exact hts3⟩)) rfl ⟨rfl,rfl⟩
   exact⟨.b y,.bool y,_,ρ3,rfl,hk,.b _,r4,(kk.trans (k4.kep kk.szle)).kept rl.dn⟩
  cases hx3 with
  | normal=>exact⟨_,_,run_endRound none hob3,fin (Go.Kc.rdy r') true rfl hq3⟩
  | exit id=>exact⟨_,_,run_endRound (some (.exit id)) hob3,fin (dne r' (.exit id)) false rfl hq3⟩
  | ret=>exact⟨_,_,run_endRound (some .ret) hob3,fin (dne r' .ret) false rfl hq3⟩
def qrZ(b:Nat)(Q:X->Tr AV->Hp->Prop)(t:Tr AV)(_:AV)(h:Hp):Prop :=
 ∃r ts,h.tr.get b=some (.map (jP r ts))∧r.state≠.busy ∧
  match r.pending with
  | none=>Q .normal t (h.put b .dead)
  | some .ret=>Q .ret t (h.put b .dead)
  | some (.exit id)=>Q (.exit id) t (h.put b .dead)
  | _=>False
def rfK(P:Program)(ps:List Nat)(ai bi:ICode)(Q:X->Tr AV->Hp->Prop)(t:Tr AV)(ts:List (Nat×AV))(h:Hp)(g:AV):Prop :=
 match g with
 | .fn f first cap=>qdo P f∧∀r0,r0.state = .ready->r0.pending=none->LoopOk P r0 ps ai bi->SC P f (first++(.yl h.sz::cap)) (h.push (.map (jP r0 ts))) (qrZ h.sz Q t)
 | _=>False
set_option maxHeartbeats 1000000 in
theorem S.rangeF{g:O}{ps:List Nat}{ai bi:ICode}{Q:X->Tr AV->Hp->Prop}{ts:List (Nat×AV)}{bl:List Blk}(hlive:bl.all jh=true)(hnd:(ts.map Prod.fst).Nodup)(hnr:Vz ai=true∧Vz bi=true)(hk:evK (mkT ts) g (rfK P ps ai bi Q (mkT ts) ts (mkH 0 bl))):S P n (.rangeF g ps ai bi) Q (mkT ts) (mkH 0 bl):=by
 intro nt code hc hn ro hro ρ B w a ht hsz r
 obtain rfl:ro=none:=by
  rcases hro with h|h
  ·exact h
  ·cases h
 cases code<;>first|(simp[qS] at hc;done)|skip
 rename_i og ops oa ob;simp only[qS,Bool.and_eq_true] at hc;obtain⟨⟨⟨⟨h1,h2⟩,h3⟩,h4⟩,h5⟩:=hc;have h2:=eq_of_beq h2;obtain⟨gv,hgv,hk2⟩:=qQ ht h1 hk;cases gv<;>try exact hgv.elim
 rename_i f first cap
 obtain⟨⟨fn0,c1,c2,c3⟩,hS⟩:=hgv;obtain⟨a',c',q1,q2,q3⟩:=hk2.un_fn
 have hLd:∀b L,ρ b=some L->L.blk<w.heap.size:=by
  intro b L hb;have hlt:=r.dom b L hb;rw[Vy] at hlt;have hx:(mkH 0 bl).tr.get b=some bl[b]:=by rw[xt];exact List.getElem?_eq_getElem hlt
  have hlv:=List.all_eq_true.1 hlive bl[b] (List.getElem_mem hlt);exact r.blk_lt b L hb _ hx (by intro he;rw[he] at hlv;cases hlv)
 refine wpIn_rangeFunc fun fn _=>?_
 let r0:Loop:={ state:=.ready,pending:=none,fn,tmps:=a.tmps,params:=ops,assign:=oa,body:=ob,defers:=w.heap.size }
 let W1:World:=(w.alloc (.deferred (some []))).alloc (.loop r0)
 have hold:∀k,k<w.heap.size->(w.alloc (.deferred (some []))).heap[k]?=w.heap[k]?:=fun k hk=>by
  show (w.heap.push _)[k]?=_;rw[Array.getElem?_push,if_neg (by omega)]
 have hD:(w.alloc (.deferred (some []))).heap[w.heap.size]?=some (.deferred (some [])):=World.alloc_heap_new w _
 have r1:Rel σ0 ρ (BM B [w.heap.size]) (mkH 0 bl) (w.alloc (.deferred (some []))):=by
  have r':=r.world (w':=w.alloc (.deferred (some []))) hold (by simp);refine⟨r'.dom,r'.cells,r'.maps,r'.excl,r'.exclm,r'.app,fun b L hb hf hB=>?_,fun k hk=>?_,r'.frz,r'.dn⟩
  ·rcases hB with hB|hB
   ·exact r.flr b L hb hf hB
   ·have:=hLd b L hb;rw[List.mem_singleton] at hB;omega
  ·rcases hk with hk|hk
   ·have:=r.base k hk;simp;omega
   ·rw[List.mem_singleton] at hk;simp;omega
 have hts:∀p ∈ ts,p.1<r0.tmps.size∧VR σ0 ρ p.2 (r0.tmps.getD p.1 undef):=fun p hp=>ht p.1 p.2 (qfB hnd hp)
 obtain⟨r2,k2⟩:=r1.newMap (w':=W1) (es0:=jP r0 ts) (o:=.loop r0) (.inr (.inr ⟨_,_,rfl,rfl,hts⟩)) rfl ⟨rfl,rfl⟩;have hl:(w.alloc (.deferred (some []))).heap.size=w.heap.size+1:=by simp
 rw[hl] at r2 k2;obtain⟨Lc,hLc⟩:∃Lc:Loc,Lc=⟨w.heap.size+1,0,0,0⟩:=⟨_,rfl⟩;rw[← hLc] at r2 k2;have hself:(ρ.add (mkH 0 bl).sz Lc) (mkH 0 bl).sz=some Lc:=Ren.add_self _ _ _;have hle2:=k2.mono r1.dom;have hSC:=hS r0 rfl rfl ⟨h2,⟨nt,h4,h5,hsz,fun p hp=>by rw[← h2] at hp;have:=List.all_eq_true.1 h3 p hp;exact Nat.lt_of_succ_le (Nat.le_of_ble_eq_true this)⟩,hnr⟩
 have hargs:VRs σ0 (ρ.add (mkH 0 bl).sz Lc) (first++(.yl (mkH 0 bl).sz::cap)) (a' ++ #[Value.func (.yield (w.heap.size+1)) #[] #[]]++c').toList:=by
  have hy:VR σ0 (ρ.add (mkH 0 bl).sz Lc) (.yl (mkH 0 bl).sz) (.func (.yield Lc.blk) #[] #[]):=.yl _ Lc hself;have e2:Lc.blk=w.heap.size+1:=by rw[hLc]
  rw[e2] at hy;have:=(q1.mono hle2).append (VRs.cons _ _ _ _ hy (q2.mono hle2));simpa using this
 have hcf:=ZP (P:=P) c1 c2 c3
 have hcalls:Calls P f (a' ++ #[Value.func (.yield (w.heap.size+1)) #[] #[]]++c') W1 fun e w'=>∃v v' h' ρ',e = .returned v'∧qrZ (mkH 0 bl).sz Q (mkT ts) v h'∧VR σ0 ρ' v v'∧Rel σ0 ρ' (BM B [w.heap.size]) h' w'∧Kept (ρ.add (mkH 0 bl).sz Lc) (BM B [w.heap.size]) ((mkH 0 bl).push (.map (jP r0 ts))) W1 ρ' h' w':=by
  rcases hSC.2 _ _ _ _ r2 hargs with⟨_,hh⟩|⟨v,w',hh,_⟩
  ·exact hh
  ·rw[hcf] at hh;cases hh
 have hev:(({ a with defers:=qaZ [w.heap.size]++a.defers }:Act)).eval og = .func (.func f) a' c':=q3;refine⟨w.heap.size+1,[{ target:=.collected w.heap.size,args:=#[] }],W1,{ target:=.fn (.func f) c',args:=a' ++ #[Value.func (.yield (w.heap.size+1)) #[] #[]] },W1,f,a' ++ #[Value.func (.yield (w.heap.size+1)) #[] #[]]++c',W1,run_enterLoop_outer _ _ _ _ _,?_,fun _ _=>trivial,?_,fun hh=>(by cases hh),qdB (Calls.mono hcalls ?_)⟩
 ·simp only[resolve,q3];simp[go_sem,Deferred.ofValue,q3]
 ·simp[invoke,hcf]
 rintro e w2 ⟨v,v',h2',ρ2,rfl,hend,hv,r3,k3⟩;obtain⟨r',ts',hg',hst,hmt⟩:=hend;have hL2:ρ2 (mkH 0 bl).sz=some Lc:=(k3.ext _ (by show _<Nat.succ _;exact Nat.lt_succ_self _)).trans hself
 obtain⟨_,ob2,hob2,hrec2⟩:=r3.maps _ Lc _ hL2 hg';obtain⟨rfl,hts2⟩:=hrec2.rec';have hob3:w2.heap[w.heap.size+1]?=some (.loop r'):=by rw[hLc] at hob2;exact hob2
 have hfl2:h2'.fl=0:=k3.fl;obtain⟨re,hre⟩:∃re:Loop,re={ r' with state:=.exhausted }:=⟨_,rfl⟩;have hts4:∀p ∈ ts',p.1<re.tmps.size∧VR σ0 ρ2 p.2 (re.tmps.getD p.1 undef):=by rw[hre];exact hts2
 have hend2:=run_endLoop (P:=P) hob3 hst;rw[← hre] at hend2;clear hre;obtain⟨r4,k4⟩:=r3.putMap (w':=w2.putObj (w.heap.size+1) (.loop re)) hL2 hg' (by rw[hfl2];exact Nat.zero_le _) hob2 (es':=jP re ts') (.inr (.inr ⟨_,_,rfl,rfl,hts4⟩)) (by rw[hLc];rfl) ⟨rfl,rfl⟩
 have r5:Rel σ0 ρ2 (BM B [w.heap.size]) (h2'.put (mkH 0 bl).sz .dead) (w2.putObj (w.heap.size+1) (.loop re)):=by
  refine r4.sub rfl rfl fun b x hx hd=>?_
  simp only[Hp.put,Tr.get_set] at hx ⊢;split at hx
  ·cases hx;exact absurd rfl hd
  ·rename_i hne;rw[if_neg hne];exact hx
 have hD1:W1.heap[w.heap.size]?=some (.deferred (some [])):=by
  show ((w.alloc (.deferred (some []))).heap.push _)[w.heap.size]?=_;rw[Array.getElem?_push,if_neg (by rw[hl];omega)];exact hD
 have hD2:(w2.putObj (w.heap.size+1) (.loop re)).heap[w.heap.size]?=some (.deferred (some [])):=by
  rw[World.putObj_heap_other (by omega),k3.pres _ (.inr (by simp))];exact hD1
 have k0:Kep n ρ B (mkH 0 bl) w ρ (mkH 0 bl) (w.alloc (.deferred (some []))):=⟨fun _ _=>rfl,hn,rfl,fun _ _ _=>rfl,fun k hk=>hold k (r.base k hk),by simp,⟨rfl,rfl⟩,fun _ _ h=>h,fun _ _ h=>.inl h,fun _ _ h=>h⟩
 have hn2:n<=((mkH 0 bl).push (.map (jP r0 ts))).sz:=Nat.le_trans hn (Nat.le_succ _);have hn3:n<=h2'.sz:=Nat.le_trans hn2 k3.szle
 have k5:Kep n ρ2 (BM B [w.heap.size]) h2' w2 ρ2 (h2'.put (mkH 0 bl).sz .dead) (w2.putObj (w.heap.size+1) (.loop re)) :=
  ⟨fun _ _=>rfl,hn3,rfl,fun b hb _=>absurd hb (by rw[hfl2];exact Nat.not_lt_zero _),k4.pres,k4.wle,k4.io,fun _ _ h=>h,fun _ _ h=>.inl h,fun _ _ h=>h⟩
 have kk:Kep n ρ B (mkH 0 bl) w ρ2 (h2'.put (mkH 0 bl).sz .dead) (w2.putObj (w.heap.size+1) (.loop re)):=((k0.trans (k2.kep hn).bm).trans (k3.kep hn2).bm).trans k5.bm
 have fin:∀(x:X) (e:Exit),XR x e->Q x (mkT ts) (h2'.put (mkH 0 bl).sz .dead)->kU σ0 Q nt n ρ B (mkH 0 bl) w a.defers e { a with defers:=[{ target:=.collected w.heap.size,args:=#[] }]++a.defers } (w2.putObj (w.heap.size+1) (.loop re)):=fun x e hx hq =>
  ⟨x,mkT ts,_,ρ2,[w.heap.size],hx,hq,ht.mono (Ren.le_trans hle2 (k3.mono r2.dom)),hsz,rfl,⟨by simp,fun q hq=>by rw[List.mem_singleton] at hq;omega,fun q hq=>by rw[List.mem_singleton] at hq;subst hq;exact hD2⟩,r5,kk⟩
 refine⟨r'.pending,_,hend2,?_⟩;clear hend2;generalize r'.pending=pd at hmt ⊢;cases pd with
 | none=>exact fin .normal _ .normal hmt
 | some c =>
  cases c<;>first|exact hmt.elim|skip
  ·exact wpIn_exit (fin _ _ (.exit _) hmt)
  ·exact wpIn_ret (fin _ _ .ret hmt)
end Go.Kc
end
section
/- Rows of one's own given for good, in any call; an updating call in a region that draws. No condition. -/
namespace Go.Kc
variable {P:Program} {h:Hp}
inductive Gvs (h:Hp):List AV->List AV->Prop where
 | nil:Gvs h [] []
 | keep (v:AV) (vs vs':List AV) (h1:Gvs h vs vs'):Gvs h (v::vs) (v::vs')
 | fz (v v':AV) (vs vs':List AV) (hf:Frz h v v') (h1:Gvs h vs vs'):Gvs h (v::vs) (v'::vs')
theorem Gvs.ok{ρ:Ren}{B:Nat->Prop}{w:World}(hle:ρ.le ⟨ρ.loc,xV ρ h w,ρ.n⟩)(r:Rel σ0 ρ B h w):∀{vs vs':List AV} {xs:List Value},Gvs h vs vs'->VRs σ0 ρ vs xs->VRs σ0 ⟨ρ.loc,xV ρ h w,ρ.n⟩ vs' xs
 | _,_,_,.nil,hv=>by cases hv;exact .nil
 | _,_,_,.keep _ _ _ h1,hv=>by
  cases hv with
  | cons _ _ _ _ a1 a2=>exact .cons _ _ _ _ (a1.mono hle) (Gvs.ok hle r h1 a2)
 | _,_,_,.fz _ _ _ _ hf h1,hv=>by
  cases hv with
  | cons _ _ _ _ a1 a2=>exact .cons _ _ _ _ (CR.vr (ρ:=⟨ρ.loc,xV ρ h w,ρ.n⟩) (hf.ok r a1)) (Gvs.ok hle r h1 a2)
theorem SC.give{f:Nat}{vs vs':List AV}{k:AV->Hp->Prop}(DB:List (Nat×Blk))(hg:∀p ∈ DB,h.tr.get p.1=some p.2∧h.fl<=p.1)(hf:Gvs ⟨h.sz,h.fl,trP DB⟩ vs vs')(hk:SC P f vs' (Zy h DB) k):SC P f vs h k:=by
 refine⟨hk.1,fun ρ B w args r ha=>?_⟩
 have r0:Rel σ0 ρ B ⟨h.sz,h.fl,trP DB⟩ w:=r.sub rfl rfl (fun b x hx _=>(hg _ (Vc hx)).1)
 have le:ρ.le ⟨ρ.loc,xV ρ ⟨h.sz,h.fl,trP DB⟩ w,ρ.n⟩:=⟨fun _ _ h=>h,fun _ _ h=>wl h,Nat.le_refl _⟩
 have hcr:=hf.ok le r0 ha
 have fnew:∀kk a,xV ρ ⟨h.sz,h.fl,trP DB⟩ w kk=some a->ρ.frz kk=some a∨((∃ty fz,w.heap[kk]?=some (.cells a ty fz))∧∃b L e af cs,b ∈ DB.map Prod.fst∧ρ b=some L∧h.tr.get b=some (.cells e true af cs)∧L.blk=kk∧h.fl<=b):=by
  intro kk a hkk;rcases kZ hkk with h1|⟨h1,b,L,e,af,cs,h2,h3,h4⟩
  ·exact .inl h1
  ·have hm:=Vc h3;exact .inr ⟨h1,b,L,e,af,cs,List.mem_map_of_mem (f:=Prod.fst) hm,h2,(hg _ hm).1,h4,(hg _ hm).2⟩
 have jh:∀b x,(Zy h DB).tr.get b=some x->x≠.dead->b ∉ DB.map Prod.fst∧h.tr.get b=some x:=by
  intro b x hx hd;rw[Jc] at hx;split at hx
  ·cases hx;exact absurd rfl hd
  ·exact⟨by assumption,hx⟩
 have r1:Rel σ0 ⟨ρ.loc,xV ρ ⟨h.sz,h.fl,trP DB⟩ w,ρ.n⟩ B (Zy h DB) w:=by
  have rs:Rel σ0 ρ B (Zy h DB) w:=r.sub WV WU (fun b x hx hd=>(jh b x hx hd).2)
  refine⟨rs.dom,fun b L e wf af cs hb hx=>?_,fun b L es hb hx=>?_,rs.excl,rs.exclm,rs.app,rs.flr,rs.base,fun kk arr hkk=>?_,rs.dn⟩
  ·obtain⟨q1,c,ty,fz,q2,q3,q4,q5,q6⟩:=rs.cells b L e wf af cs hb hx;exact⟨q1,c,ty,fz,q2,q3,q4,fun j v hv=>let ⟨v',k1,k2⟩:=q5 j v hv;⟨v',k1,k2.mono le⟩,q6⟩
  ·obtain⟨q1,o,q2,q3⟩:=rs.maps b L es hb hx;exact⟨q1,o,q2,q3.mono le⟩
  ·rcases fnew kk arr hkk with h1|⟨h1,b,L,e,af,cs,h2,h3,h4,h5,_⟩
   ·exact rs.frz kk arr h1
   ·refine⟨h1,fun b' L' x hb' hx hd he=>?_⟩
    obtain⟨g1,g2⟩:=jh b' x hx hd;have:=r.excl b L e af cs h3 h4 b' L' x hb' g2 hd (by rw[he,h5]);subst this;exact g1 h2
 have k0:Kept ρ B h w ⟨ρ.loc,xV ρ ⟨h.sz,h.fl,trP DB⟩ w,ρ.n⟩ (Zy h DB) w:=by
  refine⟨fun _ _=>rfl,by rw[WV];exact Nat.le_refl _,WU,fun b hb _=>?_,fun _ _=>rfl,Nat.le_refl _,⟨rfl,rfl⟩,fun k a hk=>wl hk,fun k a hk=>?_,Nat.le_refl _⟩
  ·rw[Jc,if_neg];intro hm;obtain⟨p,hp1,hp2⟩:=List.mem_map.1 hm;have:=(hg p hp1).2;omega
  ·rcases fnew k a hk with h2|⟨_,b,L,_,_,_,_,h3,_,h5,h6⟩
   ·exact .inl h2
   ·right;rw[← h5];exact r.flr b L h3 h6
 refine yE.mono (hk.2 _ B w args r1 hcr) ?_;rintro e w' ⟨v0,v',h',ρ',he,g1,g2,g3,g4⟩;exact⟨v0,v',h',ρ',he,g1,g2,g3,k0.trans g4⟩
theorem PC.give{f:Nat}{vs vs':List AV}{k:AV->Hp->Prop}(DB:List (Nat×Blk))(hg:∀p ∈ DB,h.tr.get p.1=some p.2∧h.fl<=p.1)(hf:Gvs ⟨h.sz,h.fl,trP DB⟩ vs vs')(hk:PC P f vs' (Zy h DB) k):PC P f vs h k:=by
 obtain⟨v,h',h1,h2⟩:=hk;exact⟨v,h',fun k' hk'=>SC.give DB hg hf (h1 k' hk'),h2⟩
theorem Upd.pc{f:Nat}{vs:List AV}{bs bs2:List Blk}{v:AV}{k:AV->Hp->Prop}(at':List Nat)(hu:Upd P f vs bs v bs2)(l:Lent h at' bs)(hk:k (rnv (gAt at' h.sz) v) (yQ h at' bs2)):PC P f (kr (gAt at' h.sz) vs) h k :=
 ⟨_,_,fun _ h'=>hu.sc at' l h',hk⟩
end Go.Kc
end
section
/- Blocks by new names where dead ones do not count. No condition. -/
namespace Go.Kc
variable {P:Program} {h:Hp} {t:Tr AV}
def qnN(m:Nat)(v:AV)(bs2:List Blk)(v':AV)(h':Hp):Prop:=h'.fl=0->∃src:List Nat,NV (rl src h'.sz) bs2.length v' v∧BWs h' (rl src h'.sz) bs2.length src bs2∧(List.map Prod.fst (List.filter (fun p=>decide (p.fst<h'.sz)&&jh p.snd) (src.zip bs2))).Nodup∧∀b,b<m->rl src h'.sz b=b
theorem qnN.w{m:Nat}{v:AV}{bs2:List Blk}{v':AV}{h':Hp}(hz:qnN m v bs2 v' h')(hle:m<=bs2.length):ZJ m v bs2 v' h':=by
 intro hfl;obtain⟨src,s1,s2,s3,s4⟩:=hz hfl;exact Wk.mkd [(0,v)] bs2 src ⟨⟨v',by simp[mkT,Tr.get_set],s1⟩,trivial⟩ s2 s3 hfl hle s4
theorem Upd.mkd{f:Nat}{i:IFn}{vs:List AV}{v:AV}{bs bs2:List Blk}(hc:qj P f i=true)(hb:z8 bs.length vs=true)(hl:bs.length<=bs2.length)(hV:V P bs.length i.body (wE i.res (qnN bs.length v bs2)) (yP vs 0 .leaf) (mkH 0 bs)):Upd P f vs bs v bs2 :=
 ⟨hb,hl,(SC.mk hc (qq hV)).mono fun _ _ hz=>hz.w hl⟩
end Go.Kc
end
section
/- What functions of strings and names answer. Condition: the functions' texts are these. -/
namespace Go.Kc
variable {P:Program} {f:Nat}
def zO:IFn:=⟨[.tmp 4],.seq (.r [.m 4 .F]) (.seq (.r [.n 5 0,.q 6 (.len true (.t 5)),.n 7 1,.q 8 (.len true (.t 7)),.b 9 .geq 6 8,.n 10 9,.y 11 0 10,.y 12 1 10,.g 13 (.len true (.t 12)) 10 true,.g 14 (.slcStr (.t 11) none (some (.t 13))) 10 true,.y 15 1 10,.g 16 (.bin .eql (.t 14) (.t 15)) 10 true,.p 17 10 16,.n 4 17]) (.ret))⟩
theorem qiR(hc:qj P f zO=true)(s p:List UInt8):qc P f [.s s,.s p] (.b (p.isPrefixOf s)):=by
 refine qc.mk hc (by simp[qt,clo]) ?_
 by_cases h:p.length<=s.length
 ·have hi:(p.length:Int)<=s.length:=by omega
  have e:(decide (List.take p.length s=p))=p.isPrefixOf s:=by
   rw[Bool.eq_iff_iff,decide_eq_true_iff,List.isPrefixOf_iff_prefix,List.prefix_iff_eq_take];exact eq_comm
  simp only[zO,vI,simprocAttr];simp only[↓vS,vT,simprocAttr,hi,h,beq_self_eq_true,vZ,e]
 ·have hi:¬(p.length:Int)<=s.length:=by omega
  have e:p.isPrefixOf s=false:=by
   rw[Bool.eq_false_iff];intro h2;exact h (List.isPrefixOf_iff_prefix.1 h2).length_le
  simp only[zO,vI,simprocAttr];simp only[↓vS,vT,simprocAttr,hi,h,vZ,e]
def xX(a:Nat):IFn:=⟨[.tmp 4,.tmp 5],.seq (.r [.m 4 (.c (.s [])),.m 5 .F]) (.seq (.seq (.r [.n 6 0,.n 7 1,.l 8 a [.t 6,.t 7],.q 9 (.un .not (.t 8))]) (.cond (.t 9) (.seq (.r [.n 10 0,.n 4 10,.m 5 .F]) (.ret)) (.skip))) (.seq (.r [.n 11 0,.n 12 1,.q 13 (.len true (.t 12)),.q 14 (.slcStr (.t 11) (some (.t 13)) none),.n 4 14,.m 5 .T]) (.ret)))⟩
def jF(s p:List UInt8):AV:=if p.isPrefixOf s=true then .tup [.s (s.drop p.length),.b true] else .tup [.s s,.b false]
theorem qil{g:Nat}(hc:qj P f (xX g)=true)(hg:∀s p,qc P g [.s s,.s p] (.b (p.isPrefixOf s)))(s p:List UInt8):qc P f [.s s,.s p] (jF s p):=by
 refine qc.mk hc (by simp[qt,clo]) ?_;unfold jF;simp only[xX,vI,simprocAttr];simp only[↓vS,vT,simprocAttr];refine (hg _ _).sc ?_;cases h:p.isPrefixOf s with
 | false=>simp only[↓vS,vT,simprocAttr,vZ]
 | true =>
  have hl:p.length<=s.length:=(List.isPrefixOf_iff_prefix.1 h).length_le;simp only[↓vS,vT,simprocAttr,vZ,hl,List.take_length]
def yu(a:Nat):IFn:=⟨[.tmp 4,.tmp 5],.seq (.r [.m 4 (.c (.s [])),.m 5 .F]) (.seq (.r [.n 6 0,.n 7 1,.l 8 a [.t 6,.t 7],.x 9 8 0,.x 10 8 1,.n 4 9,.n 5 10]) (.ret))⟩
theorem qfm{g:Nat}(hc:qj P f (yu g)=true)(hg:∀s p,qc P g [.s s,.s p] (jF s p))(s p:List UInt8):qc P f [.s s,.s p] (jF s p):=by
 refine qc.mk hc (by simp[qt,clo]) ?_;simp only[yu,vI,simprocAttr];simp only[↓vS,vT,simprocAttr];refine (hg _ _).sc ?_;unfold jF;cases h:p.isPrefixOf s with
 | false=>simp only[↓vS,vT,simprocAttr,vZ]
 | true=>simp only[↓vS,vT,simprocAttr,vZ]
def Zw(a:Nat):IFn:=⟨[.tmp 2,.tmp 3],.seq (.r [.m 2 (.c (.s [])),.m 3 .F]) (.seq (.r [.n 4 0,.l 5 a [.t 4,(.c (.s [126]))],.x 6 5 0,.x 7 5 1,.n 2 6,.n 3 7]) (.ret))⟩
theorem qnH{g:Nat}(hc:qj P f (Zw g)=true)(hg:∀s p,qc P g [.s s,.s p] (jF s p))(s:List UInt8):qc P f [.s s] (jF s [126]):=by
 refine qc.mk hc (by simp[qt,clo]) ?_;simp only[Zw,vI,simprocAttr];simp only[↓vS,vT,simprocAttr];refine (hg _ _).sc ?_;unfold jF;cases h:List.isPrefixOf [126] s with
 | false=>simp only[↓vS,vT,simprocAttr,vZ]
 | true=>simp only[↓vS,vT,simprocAttr,vZ]
end Go.Kc
end
section
/- What searches in lists answer. Condition: the functions' texts are these. -/
namespace Go.Kc
variable {P:Program} {f:Nat}
def jU:IFn:=⟨[.tmp 4],.seq (.r [.m 4 (.k 0)]) (.seq (.seq (.r [.n 6 0,.e 7 6,.m 8 (.k 0)]) (.blk 0 (.loop (.seq (.r [.s 9 8 7]) (.seq (.cond (.t 9) (.skip) (.exit 0)) (.seq (.blk 1 (.seq (.r [.n 10 8,.n 5 10]) (.seq (.r [.n 11 1,.n 12 0,.n 13 5,.i 14 1 12 13,.d 15 14,.b 16 .eql 11 15]) (.cond (.t 16) (.seq (.r [.n 17 5,.n 4 17]) (.ret)) (.skip))))) (.r [.a 18 8 1,.n 8 18]))))))) (.seq (.r [.q 4 (.mov (.c (.i .i64 (-1))))]) (.ret)))⟩
def qby(s:List UInt8):List (List UInt8)->Nat->Int
 | [],_=>-1
 | x::xs,j=>if s=x then (j:Int) else qby s xs (j+1)
theorem qdI(s:List UInt8):∀(xs:List (List UInt8)) (j:Nat),decide (0<=qby s xs j)=decide (s ∈ xs)
 | [],j=>by simp[qby]
 | x::xs,j=>by
  simp only[qby,List.mem_cons]
  by_cases h:s=x
  ·simp[h]
  ·simp[h,qdI s xs (j+1)]
theorem qlU(hc:qj P f jU=true)(xs:List (List UInt8))(s:List UInt8)(hl:xs.length<=qf):qc P f [.fz xs.length (xs.map .s),.s s] (.i .i64 (qby s xs 0)):=by
 refine qc.mk hc (by simp[qt,clo]) ?_;simp only[jU,vI,simprocAttr];simp only[↓vS,vT,simprocAttr];refine SL.loop (α:=Nat) (fun j=>[(0,.fz xs.length (xs.map .s)),(1,.s s),(7,.i .i64 xs.length),(8,.i .i64 j)]) (fun _=>[]) (fun j=>j<=xs.length∧qby s xs 0=qby s (xs.drop j) j) (fun j=>xs.length-j) 0 [] ?_ ?_ ?_ rfl ?_ ?_
 ·simp[vw]
 ·trivial
 ·simp
 ·simp
 rintro j ⟨hj,hI⟩ G ih;simp only[vI,simprocAttr]
 by_cases hlt:j<xs.length
 ·have hx:xs[j]?=some xs[j]:=List.getElem?_eq_getElem hlt;have hw:IntKind.wrap .i64 ((j:Int)+1)=(j:Int)+1:=qB (by omega) (by have:=hl;simp only[qf] at this;omega)
  rw[List.drop_eq_getElem_cons hlt,qby] at hI;simp only[↓vS,vT,simprocAttr,hlt,Nat.mul_one,List.getElem?_map,hx,Option.map_some,hw];split
  ·rename_i he;simp only[he,vZ,if_true] at hI ⊢;simp[hI]
  ·rename_i he;rw[if_neg he] at hI;refine ih (j+1) ⟨by omega,hI⟩ (by omega) _ _ (Wk.mk _ _ [] ?_ ?_ ?_ rfl)
   ·simp[vw]
   ·trivial
   ·simp
 ·simp only[↓vS,vT,simprocAttr,hlt,vZ];rw[List.drop_eq_nil_of_le (by omega)] at hI;simp[hI,qby]
def jg(a:Nat):IFn:=⟨[.tmp 4],.seq (.r [.m 4 .F]) (.seq (.r [.n 5 0,.n 6 1,.l 7 a [.t 5,.t 6],.w 8 .geq 7 0,.n 4 8]) (.ret))⟩
theorem qhv{g:Nat}(hc:qj P f (jg g)=true)(hg:∀(xs:List (List UInt8)) (s:List UInt8),xs.length<=qf->qc P g [.fz xs.length (xs.map .s),.s s] (.i .i64 (qby s xs 0)))(xs:List (List UInt8))(s:List UInt8)(hl:xs.length<=qf):qc P f [.fz xs.length (xs.map .s),.s s] (.b (decide (s ∈ xs))):=by
 refine qc.mk hc (by simp[qt,clo]) ?_;simp only[jg,vI,simprocAttr];simp only[↓vS,vT,simprocAttr];refine (hg _ _ hl).sc ?_;simp only[↓vS,vT,simprocAttr,vZ,qdI]
def X9:IFn:=⟨[.cell 0 8 true],.seq (.r [.q 0 (.alloc [.s [],.s [],.s [],.s [],.s [],.s [],.s [],.s []])]) (.seq (.r [.q 1 (.build [.s [],.s [],.s [],.s []] [(0,1,(.c (.s [110,111]))),(1,1,(.c (.s [102,97,108,115,101]))),(2,1,(.c (.s [111,102,102]))),(3,1,(.c (.s [48])))]),.q 2 (.build [.s [],.s [],.s [],.s []] [(0,1,(.c (.s [121,101,115]))),(1,1,(.c (.s [116,114,117,101]))),(2,1,(.c (.s [111,110]))),(3,1,(.c (.s [49])))]),.q 3 (.build [.s [],.s [],.s [],.s [],.s [],.s [],.s [],.s []] [(0,4,(.t 1)),(4,4,(.t 2))]),.u (.store 8 (.t 0) (.t 3))]) (.ret))⟩
def xH:List (List UInt8):=[[110,111],[102,97,108,115,101],[111,102,102],[48]]
def zX:List (List UInt8):=[[121,101,115],[116,114,117,101],[111,110],[49]]
theorem qrm(hc:qj P f X9=true):qc P f [] (.agg (xH.map .s++zX.map .s)):=by
 refine qc.mk hc rfl ?_;simp only[X9,vI,simprocAttr];simp only[↓vS,vT,simprocAttr,xH,zX,vZ]
def X6(a b:Nat):IFn:=⟨[.tmp 2,.tmp 3],.seq (.r [.m 2 .F,.m 3 (.k 0)]) (.seq (.seq (.r [.l 6 a [],.m 7 (.k 0)]) (.blk 0 (.loop (.seq (.r [.w 8 .lss 7 2]) (.seq (.cond (.t 8) (.skip) (.exit 0)) (.seq (.blk 1 (.seq (.r [.n 9 7,.q 10 (.idxA 2 4 true (.t 6) (.t 7)),.q 5 (.alloc [.s [],.s [],.s [],.s []]),.n 4 9,.u (.store 4 (.t 5) (.t 10))]) (.seq (.r [.q 11 (.slcA 4 1 (.t 5) none none none),.n 12 0,.l 13 b [.t 11,.t 12]]) (.cond (.t 13) (.seq (.r [.n 14 4,.w 15 .eql 14 1,.n 2 15,.m 3 (.k 0)]) (.ret)) (.skip))))) (.r [.a 16 7 1,.n 7 16]))))))) (.seq (.r [.m 2 .F,.m 3 (.k 150)]) (.ret)))⟩
def VN(s:List UInt8):AV:=if s ∈ xH then .tup [.b false,.i .i64 0] else if s ∈ zX then .tup [.b true,.i .i64 0] else .tup [.b false,.i .i64 150]
theorem qqL{g1 g2:Nat}(hc:qj P f (X6 g1 g2)=true)(h1:qc P g1 [] (.agg (xH.map .s++zX.map .s)))(h2:∀(xs:List (List UInt8)) (s:List UInt8),xs.length<=qf->qc P g2 [.fz xs.length (xs.map .s),.s s] (.b (decide (s ∈ xs))))(s:List UInt8):qc P f [.s s] (VN s):=by
 refine qc.mk hc (by simp[qt,clo]) ?_;simp only[X6,vI,simprocAttr];simp only[↓vS,vT,simprocAttr];refine h1.sc ?_;simp only[↓vS,vT,simprocAttr];refine yh ?_;simp only[↓vS,vT,simprocAttr,Int.reduceLT,xH,zX];refine (h2 xH s (by decide)).lend (vs':=[.fz 4 (xH.map .s),.s s]) ?_ rfl ?_
 ·refine .cons _ _ _ _ (.cut 1 rfl (Nat.le_refl _) ?_) (.cons _ _ _ _ (.s _) .nil);simp[vw,xH]
 unfold VN
 by_cases hn:s ∈ xH
 ·simp only[↓vS,vT,simprocAttr,hn,Int.reduceEq,vZ]
 ·simp only[↓vS,vT,simprocAttr,hn,Int.reduceAdd,qB (show (-9223372036854775808:Int)<=1 by decide) (by decide)]
  refine yh ?_;simp only[↓vS,vT,simprocAttr,Int.reduceLT,xH,zX];refine (h2 zX s (by decide)).lend (vs':=[.fz 4 (zX.map .s),.s s]) ?_ rfl ?_
  ·refine .cons _ _ _ _ (.cut 1 rfl (Nat.le_refl _) ?_) (.cons _ _ _ _ (.s _) .nil);simp[vw,zX]
  by_cases hy:s ∈ zX
  ·simp only[↓vS,vT,simprocAttr,hn,hy,Int.reduceEq,vZ]
  ·simp only[↓vS,vT,simprocAttr,hy,Int.reduceAdd,qB (show (-9223372036854775808:Int)<=2 by decide) (by decide)]
   refine yh ?_;simp only[↓vS,vT,simprocAttr,Int.reduceLT,hn,hy,vZ]
end Go.Kc
end
section
/- What names of errors, families and namespaces answer. Condition: the functions' texts are these. -/
namespace Go.Kc
variable {P:Program} {f:Nat}
def zo(q:IntKind)(p:List UInt8×Int):List AV:=[.s p.1,.i q p.2]
theorem vo{q:IntKind}(p:List UInt8×Int):(zo q p).length=2:=rfl
def vV(q:IntKind)(s:List UInt8)(no:Int):List (List UInt8×Int)->AV
 | []=>.tup [.i q 0,.i .i64 no]
 | p::l=>if p.1=s then .tup [.i q p.2,.i .i64 0] else vV q s no l
def qdi(P:Program)(g:Nat)(q:IntKind):Prop:=∀(l:List (List UInt8×Int)) (s:List UInt8) (no:Int),l.length<=qf->qc P g [.fz l.length (l.flatMap (zo q)),.s s,.i .i64 no] (vV q s no l)
def yr:IFn:=⟨[.tmp 6,.tmp 7],.seq (.r [.m 6 (.c (.i .u64 0)),.m 7 (.k 0)]) (.seq (.seq (.r [.n 11 0,.e 12 11,.m 13 (.k 0)]) (.blk 0 (.loop (.seq (.r [.s 14 13 12]) (.seq (.cond (.t 14) (.skip) (.exit 0)) (.seq (.blk 1 (.seq (.r [.i 15 2 11 13,.v 16 2 15,.q 9 (.alloc [.s [],.i .u64 0]),.u (.store 2 (.t 9) (.t 16))]) (.seq (.r [.f 17 0 9,.d 18 17,.n 19 1,.b 20 .eql 18 19]) (.cond (.t 20) (.seq (.r [.f 21 1 9,.d 22 21,.n 6 22,.m 7 (.k 0)]) (.ret)) (.skip))))) (.r [.a 23 13 1,.n 13 23]))))))) (.seq (.r [.m 10 (.c (.i .u64 0))]) (.seq (.r [.n 24 10,.n 25 2,.n 6 24,.n 7 25]) (.ret))))⟩
theorem qr7(hc:qj P f yr=true):qdi P f .u64:=by
 intro l s no hl;refine qc.mk hc (by simp[qt,clo]) ?_;simp only[yr,vI,simprocAttr];simp only[↓vS,vT,simprocAttr];refine SL.loop (α:=Nat) (fun j=>[(1,.s s),(2,.i .i64 no),(11,.fz l.length (l.flatMap (zo .u64))),(12,.i .i64 l.length),(13,.i .i64 j)]) (fun _=>[]) (fun j=>j<=l.length∧vV .u64 s no l=vV .u64 s no (l.drop j)) (fun j=>l.length-j) 0 [] ?_ ?_ ?_ rfl ?_ ?_
 ·simp[vw]
 ·trivial
 ·simp
 ·simp
 rintro j ⟨hj,hI⟩ G ih;simp only[vI,simprocAttr]
 by_cases hlt:j<l.length
 ·have hx:l[j]?=some l[j]:=List.getElem?_eq_getElem hlt;have hw:IntKind.wrap .i64 ((j:Int)+1)=(j:Int)+1:=qB (by omega) (by have:=hl;simp only[qf] at this;omega)
  have he:=xc (f:=zo .u64) (m:=2) vo hx;have hb:j*2+2<=(l.flatMap (zo .u64)).length:=by rw[zY (m:=2) vo];omega
  rw[List.drop_eq_getElem_cons hlt,vV] at hI;simp only[↓vS,vT,simprocAttr,hlt,hb,he,zo,hw];split
  ·rename_i hs;rw[hI,if_pos hs];simp only[vZ,and_self,true_and]
  ·rename_i hs;rw[if_neg hs] at hI;refine ih (j+1) ⟨by omega,hI⟩ (by omega) _ _ (Wk.mk _ _ [] ?_ ?_ ?_ rfl)
   ·simp[vw]
   ·trivial
   ·simp
 ·simp only[↓vS,vT,simprocAttr,hlt,vZ];rw[List.drop_eq_nil_of_le (by omega),vV] at hI;rw[hI];simp only[vZ,and_self,true_and]
def yq:IFn:=⟨[.tmp 6,.tmp 7],.seq (.r [.m 6 (.c (.i .u32 0)),.m 7 (.k 0)]) (.seq (.seq (.r [.n 11 0,.e 12 11,.m 13 (.k 0)]) (.blk 0 (.loop (.seq (.r [.s 14 13 12]) (.seq (.cond (.t 14) (.skip) (.exit 0)) (.seq (.blk 1 (.seq (.r [.i 15 2 11 13,.v 16 2 15,.q 9 (.alloc [.s [],.i .u32 0]),.u (.store 2 (.t 9) (.t 16))]) (.seq (.r [.f 17 0 9,.d 18 17,.n 19 1,.b 20 .eql 18 19]) (.cond (.t 20) (.seq (.r [.f 21 1 9,.d 22 21,.n 6 22,.m 7 (.k 0)]) (.ret)) (.skip))))) (.r [.a 23 13 1,.n 13 23]))))))) (.seq (.r [.m 10 (.c (.i .u32 0))]) (.seq (.r [.n 24 10,.n 25 2,.n 6 24,.n 7 25]) (.ret))))⟩
theorem qr6(hc:qj P f yq=true):qdi P f .u32:=by
 intro l s no hl;refine qc.mk hc (by simp[qt,clo]) ?_;simp only[yq,vI,simprocAttr];simp only[↓vS,vT,simprocAttr];refine SL.loop (α:=Nat) (fun j=>[(1,.s s),(2,.i .i64 no),(11,.fz l.length (l.flatMap (zo .u32))),(12,.i .i64 l.length),(13,.i .i64 j)]) (fun _=>[]) (fun j=>j<=l.length∧vV .u32 s no l=vV .u32 s no (l.drop j)) (fun j=>l.length-j) 0 [] ?_ ?_ ?_ rfl ?_ ?_
 ·simp[vw]
 ·trivial
 ·simp
 ·simp
 rintro j ⟨hj,hI⟩ G ih;simp only[vI,simprocAttr]
 by_cases hlt:j<l.length
 ·have hx:l[j]?=some l[j]:=List.getElem?_eq_getElem hlt;have hw:IntKind.wrap .i64 ((j:Int)+1)=(j:Int)+1:=qB (by omega) (by have:=hl;simp only[qf] at this;omega)
  have he:=xc (f:=zo .u32) (m:=2) vo hx;have hb:j*2+2<=(l.flatMap (zo .u32)).length:=by rw[zY (m:=2) vo];omega
  rw[List.drop_eq_getElem_cons hlt,vV] at hI;simp only[↓vS,vT,simprocAttr,hlt,hb,he,zo,hw];split
  ·rename_i hs;rw[hI,if_pos hs];simp only[vZ,and_self,true_and]
  ·rename_i hs;rw[if_neg hs] at hI;refine ih (j+1) ⟨by omega,hI⟩ (by omega) _ _ (Wk.mk _ _ [] ?_ ?_ ?_ rfl)
   ·simp[vw]
   ·trivial
   ·simp
 ·simp only[↓vS,vT,simprocAttr,hlt,vZ];rw[List.drop_eq_nil_of_le (by omega),vV] at hI;rw[hI];simp only[vZ,and_self,true_and]
def Xo:IFn:=⟨[.cell 0 16 true],.seq (.r [.q 0 (.alloc [.s [],.i .u64 0,.s [],.i .u64 0,.s [],.i .u64 0,.s [],.i .u64 0,.s [],.i .u64 0,.s [],.i .u64 0,.s [],.i .u64 0,.s [],.i .u64 0])]) (.seq (.r [.q 1 (.build [.s [],.i .u64 0] [(0,1,(.c (.s [116,105,109,101]))),(1,1,(.c (.i .u64 128)))]),.q 2 (.build [.s [],.i .u64 0] [(0,1,(.c (.s [109,110,116]))),(1,1,(.c (.i .u64 131072)))]),.q 3 (.build [.s [],.i .u64 0] [(0,1,(.c (.s [99,103,114,111,117,112]))),(1,1,(.c (.i .u64 33554432)))]),.q 4 (.build [.s [],.i .u64 0] [(0,1,(.c (.s [117,116,115]))),(1,1,(.c (.i .u64 67108864)))]),.q 5 (.build [.s [],.i .u64 0] [(0,1,(.c (.s [105,112,99]))),(1,1,(.c (.i .u64 134217728)))]),.q 6 (.build [.s [],.i .u64 0] [(0,1,(.c (.s [117,115,101,114]))),(1,1,(.c (.i .u64 268435456)))]),.q 7 (.build [.s [],.i .u64 0] [(0,1,(.c (.s [112,105,100]))),(1,1,(.c (.i .u64 536870912)))]),.q 8 (.build [.s [],.i .u64 0] [(0,1,(.c (.s [110,101,116]))),(1,1,(.c (.i .u64 1073741824)))]),.q 9 (.build [.s [],.i .u64 0,.s [],.i .u64 0,.s [],.i .u64 0,.s [],.i .u64 0,.s [],.i .u64 0,.s [],.i .u64 0,.s [],.i .u64 0,.s [],.i .u64 0] [(0,2,(.t 1)),(2,2,(.t 2)),(4,2,(.t 3)),(6,2,(.t 4)),(8,2,(.t 5)),(10,2,(.t 6)),(12,2,(.t 7)),(14,2,(.t 8))]),.u (.store 16 (.t 0) (.t 9))]) (.ret))⟩
def qk:List (List UInt8×Int):=[([116,105,109,101],128),([109,110,116],131072),([99,103,114,111,117,112],33554432),([117,116,115],67108864),([105,112,99],134217728),([117,115,101,114],268435456),([112,105,100],536870912),([110,101,116],1073741824)]
theorem qnE(hc:qj P f Xo=true):qc P f [] (.agg (qk.flatMap (zo .u64))):=by
 refine qc.mk hc rfl ?_;simp only[Xo,vI,simprocAttr];simp only[↓vS,vT,simprocAttr,qk,zo,List.flatMap_cons,List.flatMap_nil,vZ]
def QQ:IFn:=⟨[.cell 0 16 true],.seq (.r [.q 0 (.alloc [.s [],.i .u32 0,.s [],.i .u32 0,.s [],.i .u32 0,.s [],.i .u32 0,.s [],.i .u32 0,.s [],.i .u32 0,.s [],.i .u32 0,.s [],.i .u32 0])]) (.seq (.r [.q 1 (.build [.s [],.i .u32 0] [(0,1,(.c (.s [65,70,95,85,78,73,88]))),(1,1,(.c (.i .u32 1)))]),.q 2 (.build [.s [],.i .u32 0] [(0,1,(.c (.s [65,70,95,73,78,69,84]))),(1,1,(.c (.i .u32 2)))]),.q 3 (.build [.s [],.i .u32 0] [(0,1,(.c (.s [65,70,95,73,78,69,84,54]))),(1,1,(.c (.i .u32 10)))]),.q 4 (.build [.s [],.i .u32 0] [(0,1,(.c (.s [65,70,95,78,69,84,76,73,78,75]))),(1,1,(.c (.i .u32 16)))]),.q 5 (.build [.s [],.i .u32 0] [(0,1,(.c (.s [65,70,95,80,65,67,75,69,84]))),(1,1,(.c (.i .u32 17)))]),.q 6 (.build [.s [],.i .u32 0] [(0,1,(.c (.s [65,70,95,66,76,85,69,84,79,79,84,72]))),(1,1,(.c (.i .u32 31)))]),.q 7 (.build [.s [],.i .u32 0] [(0,1,(.c (.s [65,70,95,65,76,71]))),(1,1,(.c (.i .u32 38)))]),.q 8 (.build [.s [],.i .u32 0] [(0,1,(.c (.s [65,70,95,86,83,79,67,75]))),(1,1,(.c (.i .u32 40)))]),.q 9 (.build [.s [],.i .u32 0,.s [],.i .u32 0,.s [],.i .u32 0,.s [],.i .u32 0,.s [],.i .u32 0,.s [],.i .u32 0,.s [],.i .u32 0,.s [],.i .u32 0] [(0,2,(.t 1)),(2,2,(.t 2)),(4,2,(.t 3)),(6,2,(.t 4)),(8,2,(.t 5)),(10,2,(.t 6)),(12,2,(.t 7)),(14,2,(.t 8))]),.u (.store 16 (.t 0) (.t 9))]) (.ret))⟩
def qn:List (List UInt8×Int):=[([65,70,95,85,78,73,88],1),([65,70,95,73,78,69,84],2),([65,70,95,73,78,69,84,54],10),([65,70,95,78,69,84,76,73,78,75],16),([65,70,95,80,65,67,75,69,84],17),([65,70,95,66,76,85,69,84,79,79,84,72],31),([65,70,95,65,76,71],38),([65,70,95,86,83,79,67,75],40)]
theorem qku(hc:qj P f QQ=true):qc P f [] (.agg (qn.flatMap (zo .u32))):=by
 refine qc.mk hc rfl ?_;simp only[QQ,vI,simprocAttr];simp only[↓vS,vT,simprocAttr,qn,zo,List.flatMap_cons,List.flatMap_nil,vZ]
def Xn:IFn:=⟨[.cell 0 30 true],.seq (.r [.q 0 (.alloc [.s [],.i .u32 0,.s [],.i .u32 0,.s [],.i .u32 0,.s [],.i .u32 0,.s [],.i .u32 0,.s [],.i .u32 0,.s [],.i .u32 0,.s [],.i .u32 0,.s [],.i .u32 0,.s [],.i .u32 0,.s [],.i .u32 0,.s [],.i .u32 0,.s [],.i .u32 0,.s [],.i .u32 0,.s [],.i .u32 0])]) (.seq (.r [.q 1 (.build [.s [],.i .u32 0] [(0,1,(.c (.s [69,80,69,82,77]))),(1,1,(.c (.i .u32 1)))]),.q 2 (.build [.s [],.i .u32 0] [(0,1,(.c (.s [69,78,79,69,78,84]))),(1,1,(.c (.i .u32 2)))]),.q 3 (.build [.s [],.i .u32 0] [(0,1,(.c (.s [69,73,79]))),(1,1,(.c (.i .u32 5)))]),.q 4 (.build [.s [],.i .u32 0] [(0,1,(.c (.s [69,66,65,68,70]))),(1,1,(.c (.i .u32 9)))]),.q 5 (.build [.s [],.i .u32 0] [(0,1,(.c (.s [69,65,71,65,73,78]))),(1,1,(.c (.i .u32 11)))]),.q 6 (.build [.s [],.i .u32 0] [(0,1,(.c (.s [69,78,79,77,69,77]))),(1,1,(.c (.i .u32 12)))]),.q 7 (.build [.s [],.i .u32 0] [(0,1,(.c (.s [69,65,67,67,69,83]))),(1,1,(.c (.i .u32 13)))]),.q 8 (.build [.s [],.i .u32 0] [(0,1,(.c (.s [69,70,65,85,76,84]))),(1,1,(.c (.i .u32 14)))]),.q 9 (.build [.s [],.i .u32 0] [(0,1,(.c (.s [69,66,85,83,89]))),(1,1,(.c (.i .u32 16)))]),.q 10 (.build [.s [],.i .u32 0] [(0,1,(.c (.s [69,78,79,68,69,86]))),(1,1,(.c (.i .u32 19)))]),.q 11 (.build [.s [],.i .u32 0] [(0,1,(.c (.s [69,73,78,86,65,76]))),(1,1,(.c (.i .u32 22)))]),.q 12 (.build [.s [],.i .u32 0] [(0,1,(.c (.s [69,78,79,83,89,83]))),(1,1,(.c (.i .u32 38)))]),.q 13 (.build [.s [],.i .u32 0] [(0,1,(.c (.s [69,79,80,78,79,84,83,85,80,80]))),(1,1,(.c (.i .u32 95)))]),.q 14 (.build [.s [],.i .u32 0] [(0,1,(.c (.s [69,65,70,78,79,83,85,80,80,79,82,84]))),(1,1,(.c (.i .u32 97)))]),.q 15 (.build [.s [],.i .u32 0] [(0,1,(.c (.s [69,84,73,77,69,68,79,85,84]))),(1,1,(.c (.i .u32 110)))]),.q 16 (.build [.s [],.i .u32 0,.s [],.i .u32 0,.s [],.i .u32 0,.s [],.i .u32 0,.s [],.i .u32 0,.s [],.i .u32 0,.s [],.i .u32 0,.s [],.i .u32 0,.s [],.i .u32 0,.s [],.i .u32 0,.s [],.i .u32 0,.s [],.i .u32 0,.s [],.i .u32 0,.s [],.i .u32 0,.s [],.i .u32 0] [(0,2,(.t 1)),(2,2,(.t 2)),(4,2,(.t 3)),(6,2,(.t 4)),(8,2,(.t 5)),(10,2,(.t 6)),(12,2,(.t 7)),(14,2,(.t 8)),(16,2,(.t 9)),(18,2,(.t 10)),(20,2,(.t 11)),(22,2,(.t 12)),(24,2,(.t 13)),(26,2,(.t 14)),(28,2,(.t 15))]),.u (.store 30 (.t 0) (.t 16))]) (.ret))⟩
def qI:List (List UInt8×Int):=[([69,80,69,82,77],1),([69,78,79,69,78,84],2),([69,73,79],5),([69,66,65,68,70],9),([69,65,71,65,73,78],11),([69,78,79,77,69,77],12),([69,65,67,67,69,83],13),([69,70,65,85,76,84],14),([69,66,85,83,89],16),([69,78,79,68,69,86],19),([69,73,78,86,65,76],22),([69,78,79,83,89,83],38),([69,79,80,78,79,84,83,85,80,80],95),([69,65,70,78,79,83,85,80,80,79,82,84],97),([69,84,73,77,69,68,79,85,84],110)]
set_option maxRecDepth 4000 in
theorem qnk(hc:qj P f Xn=true):qc P f [] (.agg (qI.flatMap (zo .u32))):=by
 refine qc.mk hc rfl ?_;simp only[Xn,vI,simprocAttr];simp only[↓vS,vT,simprocAttr,qI,zo,List.flatMap_cons,List.flatMap_nil,vZ]
theorem ZW{q:IntKind}{s:List UInt8}{no:Int}:∀l,flat (vV q s no l)=true
 | []=>rfl
 | p::l=>by
  simp only[vV];split
  ·rfl
  ·exact ZW l
theorem Vl(q:IntKind)(s:List UInt8)(no:Int):∀l,∃a b,vV q s no l = .tup [.i q a,.i .i64 b]
 | []=>⟨_,_,rfl⟩
 | p::l=>by
  simp only[vV];split
  ·exact⟨_,_,rfl⟩
  ·exact Vl q s no l
def X3(a b:Nat):IFn:=⟨[.tmp 2,.tmp 3],.seq (.r [.m 2 (.c (.i .u64 0)),.m 3 (.k 0)]) (.seq (.r [.l 5 a [],.q 4 (.alloc [.s [],.i .u64 0,.s [],.i .u64 0,.s [],.i .u64 0,.s [],.i .u64 0,.s [],.i .u64 0,.s [],.i .u64 0,.s [],.i .u64 0,.s [],.i .u64 0]),.u (.store 16 (.t 4) (.t 5))]) (.seq (.r [.q 6 (.slcA 8 2 (.t 4) none none none),.n 7 0,.l 8 b [.t 6,.t 7,.k 181],.x 9 8 0,.x 10 8 1,.n 2 9,.n 3 10]) (.ret)))⟩
theorem qql{g1 g2:Nat}(hc:qj P f (X3 g1 g2)=true)(h1:qc P g1 [] (.agg (qk.flatMap (zo .u64))))(h2:qdi P g2 .u64)(s:List UInt8):qc P f [.s s] (vV .u64 s 181 qk):=by
 refine qc.mk hc (by simp[qt,clo]) ?_;simp only[X3,vI,simprocAttr];simp only[↓vS,vT,simprocAttr];refine h1.sc ?_;simp only[↓vS,vT,simprocAttr,qk,zo,List.flatMap_cons,List.flatMap_nil];refine (h2 qk s 181 (by decide)).lend (vs':=[.fz 8 (qk.flatMap (zo .u64)),.s s,.i .i64 181]) ?_ (ZW _) ?_
 ·refine .cons _ _ _ _ (.cut 2 rfl (Nat.le_refl _) ?_) (.cons _ _ _ _ (.s _) (.cons _ _ _ _ (.i _ _) .nil));simp[vw,qk,zo]
 rcases Vl .u64 s 181 qk with⟨a,b,he⟩;rw[he];simp only[↓vS,vT,simprocAttr,vZ,and_self]
def Xl(a b:Nat):IFn:=⟨[.tmp 2,.tmp 3],.seq (.r [.m 2 (.c (.i .u32 0)),.m 3 (.k 0)]) (.seq (.r [.l 5 a [],.q 4 (.alloc [.s [],.i .u32 0,.s [],.i .u32 0,.s [],.i .u32 0,.s [],.i .u32 0,.s [],.i .u32 0,.s [],.i .u32 0,.s [],.i .u32 0,.s [],.i .u32 0]),.u (.store 16 (.t 4) (.t 5))]) (.seq (.r [.q 6 (.slcA 8 2 (.t 4) none none none),.n 7 0,.l 8 b [.t 6,.t 7,.k 180],.x 9 8 0,.x 10 8 1,.n 2 9,.n 3 10]) (.ret)))⟩
theorem qnl{g1 g2:Nat}(hc:qj P f (Xl g1 g2)=true)(h1:qc P g1 [] (.agg (qn.flatMap (zo .u32))))(h2:qdi P g2 .u32)(s:List UInt8):qc P f [.s s] (vV .u32 s 180 qn):=by
 refine qc.mk hc (by simp[qt,clo]) ?_;simp only[Xl,vI,simprocAttr];simp only[↓vS,vT,simprocAttr];refine h1.sc ?_;simp only[↓vS,vT,simprocAttr,qn,zo,List.flatMap_cons,List.flatMap_nil];refine (h2 qn s 180 (by decide)).lend (vs':=[.fz 8 (qn.flatMap (zo .u32)),.s s,.i .i64 180]) ?_ (ZW _) ?_
 ·refine .cons _ _ _ _ (.cut 2 rfl (Nat.le_refl _) ?_) (.cons _ _ _ _ (.s _) (.cons _ _ _ _ (.i _ _) .nil));simp[vw,qn,zo]
 rcases Vl .u32 s 180 qn with⟨a,b,he⟩;rw[he];simp only[↓vS,vT,simprocAttr,vZ,and_self]
def Xm(a:Nat):IFn:=⟨[.tmp 0],.seq (.r [.m 0 (.c (.i .u64 0))]) (.seq (.r [.m 1 (.c (.i .u64 0))]) (.seq (.seq (.r [.l 4 a [],.m 5 (.k 0)]) (.blk 0 (.loop (.seq (.r [.w 6 .lss 5 8]) (.seq (.cond (.t 6) (.skip) (.exit 0)) (.seq (.blk 1 (.seq (.r [.q 7 (.idxA 8 2 true (.t 4) (.t 5)),.q 3 (.alloc [.s [],.i .u64 0]),.u (.store 2 (.t 3) (.t 7))]) (.r [.n 8 1,.f 9 1 3,.d 10 9,.b 11 .or 8 10,.n 1 11]))) (.r [.a 12 5 1,.n 5 12]))))))) (.seq (.r [.n 13 1,.n 0 13]) (.ret))))⟩
theorem qqm{g1:Nat}(hc:qj P f (Xm g1)=true)(h1:qc P g1 [] (.agg (qk.flatMap (zo .u64)))):qc P f [] (.i .u64 2114060416):=by
 refine qc.mk hc rfl ?_;simp only[Xm,vI,simprocAttr];simp only[↓vS,vT,simprocAttr];refine h1.sc ?_;simp only[↓vS,vT,simprocAttr]
 iterate 8
  refine yh ?_;simp only[↓vS,vT,simprocAttr,qk,zo,List.flatMap_cons,List.flatMap_nil,Int.reduceLT,Int.reduceAdd,Int.reduceNeg,qB,(by decide:orI .u64 0 128=128),(by decide:orI .u64 128 131072=131200),(by decide:orI .u64 131200 33554432=33685632),(by decide:orI .u64 33685632 67108864=100794496),(by decide:orI .u64 100794496 134217728=235012224),(by decide:orI .u64 235012224 268435456=503447680),(by decide:orI .u64 503447680 536870912=1040318592),(by decide:orI .u64 1040318592 1073741824=2114060416)]
 refine yh ?_;simp only[↓vS,vT,simprocAttr,Int.reduceLT,vZ,and_self]
end Go.Kc
end
section
/- What slices.Clone answers: a row of one's own. Condition: the functions' texts are these. -/
namespace Go.Kc
variable {P:Program} {f:Nat}
def kw(P:Program)(g esz bytes:Nat):Prop:=∀(n:Nat) (rows:List AV),rows.length=n*esz->qt rows=true->qJ rows=true->n<=qf->n*bytes<=qf->Own P g [.fz n rows] (.own 0 n) [.cells esz true true rows]
def xp:IFn:=⟨[.tmp 2],.seq (.r [.m 2 .N]) (.seq (.seq (.r [.n 3 0,.q 4 (.eqN false .slice (.t 3))]) (.cond (.t 4) (.seq (.r [.m 2 .N]) (.ret)) (.skip))) (.seq (.r [.q 5 (.buildS 0 [.i .i64 0] []),.n 6 0,.q 7 (.app 1 8 true (.t 5) (.t 6)),.n 2 7]) (.ret)))⟩
theorem qqN(hc:qj P f xp=true):kw P f 1 8:=by
 intro n rows hlen hcl hok hr1 hr2;refine Own.of_SC (by simp[qt,clo]) ?_;cases n with
 | zero =>
  obtain rfl:rows=[]:=by cases rows with|nil=>rfl|cons=>simp at hlen
  refine SC.nil0 (SC.mk hc (qq ?_)) (SC.mk hc (qq ?_))
  ·simp only[xp,vI,simprocAttr];simp only[↓vS,vT,simprocAttr];intro _;refine⟨[1],?_⟩;simp[vw]
  ·simp only[xp,vI,simprocAttr];simp only[↓vS,vT,simprocAttr,if_true];intro _;refine⟨[1],?_⟩;simp[vw]
 | succ n =>
  refine SC.mk hc (qq ?_);simp only[xp,vI,simprocAttr];have h1:1<=n+1:=by omega
  have h2:(n+1)<=rows.length:=by omega
  have h3:rows.take ((n+1))=rows:=List.take_of_length_le (by omega);have h4:¬(n+1<=0):=by omega
  simp only[↓vS,vT,simprocAttr,h1,h2,h3,h4,hr1,hr2,hok,Nat.mul_one,Nat.zero_mul];intro _;refine⟨[1],?_⟩;simp[vw,qa,hcl]
def zG:IFn:=⟨[.tmp 2],.seq (.r [.m 2 .N]) (.seq (.seq (.r [.n 3 0,.q 4 (.eqN false .slice (.t 3))]) (.cond (.t 4) (.seq (.r [.m 2 .N]) (.ret)) (.skip))) (.seq (.r [.q 5 (.buildS 0 [.i .u32 0] []),.n 6 0,.q 7 (.app 1 4 true (.t 5) (.t 6)),.n 2 7]) (.ret)))⟩
theorem qqO(hc:qj P f zG=true):kw P f 1 4:=by
 intro n rows hlen hcl hok hr1 hr2;refine Own.of_SC (by simp[qt,clo]) ?_;cases n with
 | zero =>
  obtain rfl:rows=[]:=by cases rows with|nil=>rfl|cons=>simp at hlen
  refine SC.nil0 (SC.mk hc (qq ?_)) (SC.mk hc (qq ?_))
  ·simp only[zG,vI,simprocAttr];simp only[↓vS,vT,simprocAttr];intro _;refine⟨[1],?_⟩;simp[vw]
  ·simp only[zG,vI,simprocAttr];simp only[↓vS,vT,simprocAttr,if_true];intro _;refine⟨[1],?_⟩;simp[vw]
 | succ n =>
  refine SC.mk hc (qq ?_);simp only[zG,vI,simprocAttr];have h1:1<=n+1:=by omega
  have h2:(n+1)<=rows.length:=by omega
  have h3:rows.take ((n+1))=rows:=List.take_of_length_le (by omega);have h4:¬(n+1<=0):=by omega
  simp only[↓vS,vT,simprocAttr,h1,h2,h3,h4,hr1,hr2,hok,Nat.mul_one,Nat.zero_mul];intro _;refine⟨[1],?_⟩;simp[vw,qa,hcl]
def zq:IFn:=⟨[.tmp 2],.seq (.r [.m 2 .N]) (.seq (.seq (.r [.n 3 0,.q 4 (.eqN false .slice (.t 3))]) (.cond (.t 4) (.seq (.r [.m 2 .N]) (.ret)) (.skip))) (.seq (.r [.q 5 (.buildS 0 [.s [],.i .u32 0] []),.n 6 0,.q 7 (.app 2 24 true (.t 5) (.t 6)),.n 2 7]) (.ret)))⟩
theorem qoq(hc:qj P f zq=true):kw P f 2 24:=by
 intro n rows hlen hcl hok hr1 hr2;refine Own.of_SC (by simp[qt,clo]) ?_;cases n with
 | zero =>
  obtain rfl:rows=[]:=by cases rows with|nil=>rfl|cons=>simp at hlen
  refine SC.nil0 (SC.mk hc (qq ?_)) (SC.mk hc (qq ?_))
  ·simp only[zq,vI,simprocAttr];simp only[↓vS,vT,simprocAttr];intro _;refine⟨[1],?_⟩;simp[vw]
  ·simp only[zq,vI,simprocAttr];simp only[↓vS,vT,simprocAttr,if_true];intro _;refine⟨[1],?_⟩;simp[vw]
 | succ n =>
  refine SC.mk hc (qq ?_);simp only[zq,vI,simprocAttr];have h1:1<=n+1:=by omega
  have h2:(n+1)*2<=rows.length:=by omega
  have h3:rows.take ((n+1)*2)=rows:=List.take_of_length_le (by omega);have h4:¬(n+1<=0):=by omega
  simp only[↓vS,vT,simprocAttr,h1,h2,h3,h4,hr1,hr2,hok,Nat.mul_one,Nat.zero_mul];intro _;refine⟨[1],?_⟩;simp[vw,qa,hcl]
end Go.Kc
end
