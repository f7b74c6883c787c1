/- Part 6 of the abstract machine and of the functions' walks. Conditions: with each theorem. -/
import Derived.Test.YtpgbjeabmkbmbaaK5
import Derived.Laws.Externs
import Derived.Lib.Overlaps
import GoSem.ClaimChange
import Derived.ChangeArms
import Derived.ReadAgain
import Derived.ChangeOld
import Derived.ChangeBears
import Derived.OpenShut
import Derived.Lib.Join
import Derived.Below
import Derived.Lib.ItoaLen
set_option linter.unusedSimpArgs false
set_option linter.unusedVariables false
set_option linter.unnecessarySimpa false
set_option linter.defProp false
section
/- Frames, written out. No condition. -/
namespace Go.Kc
variable {P:Program} {h:Hp}

def vt(h:Hp)(g:Nat->Nat)(m:Nat):List Nat->List Blk->Prop
 | [],[]=>True
 | b::at',.cells e true a cs::xs=>(xS m cs=true∧evB (h.tr.get b) (fun y=>y=Blk.cells e true a (xR g cs))∧h.fl<=b∧b<h.sz)∧vt h g m at' xs
 | _,_=>False
theorem vt.get{g:Nat->Nat}{m:Nat}:∀{at':List Nat} {bs:List Blk},vt h g m at' bs->at'.length=bs.length∧∀(i:Nat) (x:Blk),bs[i]?=some x->∃b e a cs,at'[i]?=some b∧x = .cells e true a cs∧xS m cs=true∧h.tr.get b=some (.cells e true a (xR g cs))∧h.fl<=b∧b<h.sz
 | [],[],_=>⟨rfl,by simp⟩
 | [],_::_,hh=>by simp[vt] at hh
 | _::_,[],hh=>by simp[vt] at hh
 | b::at',.dead::xs,hh=>by simp[vt] at hh
 | b::at',.map _::xs,hh=>by simp[vt] at hh
 | b::at',.cells e false a cs::xs,hh=>by simp[vt] at hh
 | b::at',.cells e true a cs::xs,hh=>by
  obtain⟨⟨h1,⟨y,h2,h3⟩,h4,h5⟩,h6⟩:=hh;subst h3;obtain⟨h7,h8⟩:=vt.get h6;refine⟨by simp[h7],fun i x hx=>?_⟩
  cases i with
  | zero=>simp at hx;subst hx;exact⟨b,e,a,cs,rfl,rfl,h1,h2,h4,h5⟩
  | succ i=>simpa using h8 i x (by simpa using hx)
theorem Lent.of{at':List Nat}{bs:List Blk}(hn:at'.Nodup)(hl:vt h (gAt at' h.sz) bs.length at' bs):Lent h at' bs:=by
 obtain⟨h1,h2⟩:=hl.get;refine⟨h1,hn,fun i x hx=>?_⟩
 obtain⟨b,e,a,cs,q1,q2,q3,q4,q5,q6⟩:=h2 i x hx;have hi:i<at'.length:=(List.getElem?_eq_some_iff.1 q1).1
 have e1:gAt at' h.sz i=b:=by
  rw[wY hi];exact (List.getElem?_eq_some_iff.1 q1).2
 exact⟨e,a,cs,q2,q3,by rw[e1];exact q4,by rw[e1];exact q5,by rw[e1];exact q6⟩
theorem qhj{g:Nat->Nat}{m:Nat}:vt h g m [] []↔True:=Iff.rfl
theorem qfp{g:Nat->Nat}{m b e:Nat}{at':List Nat}{a:Bool}{cs:List AV}{xs:List Blk}:vt h g m (b::at') (.cells e true a cs::xs)↔(xS m cs=true∧evB (h.tr.get b) (fun y=>y=Blk.cells e true a (xR g cs))∧h.fl<=b∧b<h.sz)∧vt h g m at' xs:=Iff.rfl
theorem wc{s f b:Nat}{tr:Tr Blk}{x:Blk}:Hp.put ⟨s,f,tr⟩ b x=⟨s,f,tr.set b x⟩:=rfl
theorem qc4{xs:List Blk}:vd h [] xs=h:=by simp[vd]
theorem qbC{b:Nat}{at':List Nat}{x:Blk}{xs:List Blk}:vd h (b::at') (x::xs)=vd (h.put b x) at' xs:=rfl
theorem qkp{g:Nat->Nat}{v:AV}(hv:clo v=true):rnv g v=v:=by
 have key:(∀v:AV,clo v=true->rnv g v=v):=fun v=>by
  refine AV.rec (motive_1:=fun v=>clo v=true->rnv g v=v) (motive_2:=fun vs=>qw vs=true->xR g vs=vs) ?_ ?_ ?_ ?_ ?_ ?_ ?_ ?_ ?_ ?_ ?_ ?_ ?_ ?_ ?_ ?_ ?_ ?_ ?_ ?_ ?_ ?_ ?_ ?_ ?_ ?_ v
  all_goals first
   | (intros;rfl)
   | (intros;rename_i hh;simp[clo] at hh;done)
   | skip
  ·intro f a c h1 h2 hh;simp only[clo,Bool.and_eq_true] at hh;simp only[rnv,h1 hh.1,h2 hh.2]
  ·intro t v h1 hh;simp only[clo] at hh;simp only[rnv,h1 hh]
  ·intro cs h1 hh;simp only[clo] at hh;simp only[rnv,h1 hh]
  ·intro cs h1 hh;simp only[clo] at hh;simp only[rnv,h1 hh]
  ·intro v vs h1 h2 hh;simp only[qw,Bool.and_eq_true] at hh;simp only[xR,h1 hh.1,h2 hh.2]
 exact key v hv
theorem zT{g:Nat->Nat}:∀{vs:List AV},qw vs=true->xR g vs=vs
 | [],_=>rfl
 | v::vs,h=>by
  simp only[qw,Bool.and_eq_true] at h;simp only[xR,qkp h.1,zT h.2]
def jd:Blk->Bool
 | .dead=>false
 | _=>true
theorem qbz{α β:Type}{f:α->β}{p:α->Bool}:∀{l:List α},((l.filter p).map f).Nodup->∀{i j:Nat} {x y:α},l[i]?=some x->l[j]?=some y->p x=true->p y=true->f x=f y->i=j
 | [],_,i,j,x,y,hi,_,_,_,_=>by simp at hi
 | a::l,hn,i,j,x,y,hi,hj,hx,hy,he=>by
  have tail:((l.filter p).map f).Nodup:=by
   rw[List.filter_cons] at hn;split at hn
   ·exact (List.nodup_cons.1 hn).2
   ·exact hn
  have no:∀{z:α} {m:Nat},l[m]?=some z->p z=true->p a=true->f a=f z->False:=by
   intro z m hz hpz hpa hfz;rw[List.filter_cons,if_pos hpa] at hn;exact (List.nodup_cons.1 hn).1 (hfz ▸ List.mem_map_of_mem (List.mem_filter.2 ⟨List.mem_of_getElem? hz,hpz⟩))
  cases i with
  | zero =>
   simp at hi;subst hi;cases j with
   | zero=>rfl
   | succ j=>exact (no (by simpa using hj) hy hx he).elim
  | succ i =>
   cases j with
   | zero=>simp at hj;subst hj;exact (no (by simpa using hi) hx hy he.symm).elim
   | succ j =>
    have hij:i=j:=qbz tail (i:=i) (j:=j) (by simpa using hi) (by simpa using hj) hx hy he;rw[hij]
theorem Wk.mkd{n:Nat}{t:Tr AV}(ts:List (Nat×AV))(bl:List Blk)(src:List Nat)(hT:TWs t (rl src h.sz) bl.length ts)(hB:BWs h (rl src h.sz) bl.length src bl)
  (hI:(((src.zip bl).filter fun p=>decide (p.1<h.sz)&&jd p.2).map Prod.fst).Nodup) (hfl:h.fl=0) (hn:n<=bl.length) (hlow:∀b,b<n->rl src h.sz b=b):Wk n t h (mkT ts) (mkH 0 bl):=by
 obtain⟨hlen,hget⟩:=hB.get;refine Wk.of (r:=rl src h.sz) ⟨hfl.symm,fun b' x' hb hg=>?_,fun b1 b2 h1 h2 l1 l2 he hl=>?_,fun b' _ _ _=>by rw[hfl];exact Nat.zero_le _,hlow,hn,fun b _ hb=>by rw[hfl] at hb;exact absurd hb (Nat.not_lt_zero _),fun j v' hj=>?_⟩
 ·rw[zq] at hg;obtain⟨b,q1,q2⟩:=hget b' x' hg;have:rl src h.sz b'=b:=by simp[rl,List.getD_eq_getElem?_getD,q1]
  rw[this];exact q2
 ·obtain⟨x1,g1,d1⟩:=l1;obtain⟨x2,g2,d2⟩:=l2;rw[zq] at g1 g2;obtain⟨c1,q1,_⟩:=hget b1 x1 g1;obtain⟨c2,q2,_⟩:=hget b2 x2 g2;have e1:rl src h.sz b1=c1:=by simp[rl,List.getD_eq_getElem?_getD,q1]
  have e2:rl src h.sz b2=c2:=by simp[rl,List.getD_eq_getElem?_getD,q2]
  rw[e1,e2] at he;rw[e1] at hl;have v1:jd x1=true:=by cases x1<;>first|rfl|exact absurd rfl d1
  have v2:jd x2=true:=by cases x2<;>first|rfl|exact absurd rfl d2
  refine qbz hI (i:=b1) (j:=b2) (x:=(c1,x1)) (y:=(c2,x2)) ?_ ?_ ?_ ?_ he
  ·rw[List.getElem?_zip_eq_some];exact⟨q1,g1⟩
  ·rw[List.getElem?_zip_eq_some];exact⟨q2,g2⟩
  ·simp[hl,v1]
  ·simp[← he,hl,v2]
 ·exact hT.get _ (ka hj)
theorem qfu{b o:Nat}{k:AV->Prop}:Q8 (.ptr b o) k↔k (.ptr b o):=Iff.rfl
theorem qhv{cs:List AV}{o:Nat}{k:AV->Prop}:Q8 (.pf cs o) k↔k (.pf cs o):=Iff.rfl
theorem qft{b:Nat}{k:AV->Prop}:Q8 (.map b) k↔k (.map b):=Iff.rfl
theorem qhw{b:Nat}{k:AV->Prop}:Q8 (.yl b) k↔k (.yl b):=Iff.rfl
theorem qhu{f:Nat}{a c:List AV}{k:AV->Prop}:Q8 (.fn f a c) k↔k (.fn f a c):=Iff.rfl
theorem qkG{C:qL}{ops:List ROp}{Q:Tr AV->Hp->Prop}{t:Tr AV}{s f f':Nat}{tr:Tr Blk}:VR' C ops Q t (Hp.down ⟨s,f,tr⟩ f')↔VR' C ops Q t ⟨s,f',tr⟩:=Iff.rfl
theorem qpU{C:qL}{ops:List ROp}{Q:Tr AV->Hp->Prop}{t:Tr AV}{s f:Nat}{tr:Tr Blk}{dst:Option Nat}{o:IOp}:VR' C (⟨dst,.op o,none⟩::ops) Q t ⟨s,f,tr⟩ ↔
  if wr (.op o)=true then opK qq o t ⟨s,f,tr⟩ (fun v h'=>z6 t dst v (fun t'=>VR' C ops Q t' h')) else opK qq o t ⟨s,s,tr⟩ (fun v h'=>z6 t dst v (fun t'=>VR' C ops Q t' (h'.down f))):=qlk
theorem qnO{C:qL}{Q:Tr AV->Hp->Prop}{t:Tr AV}{s f:Nat}{tr:Tr Blk}:VR' C [] Q t ⟨s,f,tr⟩↔Q t ⟨s,f,tr⟩:=Iff.rfl
theorem qiJ{m:Nat}:∀{v:AV},clo v=true->bnd m v=true:=by
 intro v;refine AV.rec (motive_1:=fun v=>clo v=true->bnd m v=true) (motive_2:=fun vs=>qw vs=true->xS m vs=true) ?_ ?_ ?_ ?_ ?_ ?_ ?_ ?_ ?_ ?_ ?_ ?_ ?_ ?_ ?_ ?_ ?_ ?_ ?_ ?_ ?_ ?_ ?_ ?_ ?_ ?_ v
 all_goals first
  | (intros;rfl)
  | (intros;rename_i hh;simp[clo] at hh;done)
  | skip
 ·intro f a c h1 h2 hh;simp only[clo,Bool.and_eq_true] at hh;simp only[bnd,h1 hh.1,h2 hh.2,Bool.and_self]
 ·intro t v h1 hh;simp only[clo] at hh;simp only[bnd,h1 hh]
 ·intro cs h1 hh;simp only[clo] at hh;simp only[bnd,h1 hh]
 ·intro cs h1 hh;simp only[clo] at hh;simp only[bnd,h1 hh]
 ·intro v vs h1 h2 hh;simp only[qw,Bool.and_eq_true] at hh;simp only[xS,h1 hh.1,h2 hh.2,Bool.and_self]
theorem jG{m:Nat}:∀{vs:List AV},qw vs=true->xS m vs=true
 | [],_=>rfl
 | v::vs,h=>by
  simp only[qw,Bool.and_eq_true] at h;simp only[xS,qiJ h.1,jG h.2,Bool.and_self]
end Go.Kc
end
section
/- One name for the lemmas that every walk names. No condition. -/
namespace Go.Kc
def vQ:=And.intro @List.map_cons.{0,0} (And.intro @List.map_nil.{0,0} (And.intro @Bool.and_true (And.intro @Bool.true_and (And.intro @Bool.and_self (And.intro @and_self (And.intro @Tr.get_set (And.intro @decide_eq_true_eq (And.intro @Bool.false_eq_true (And.intro @true_and (And.intro @and_true (And.intro @List.getElem?_cons_zero.{0} (And.intro @List.getElem?_cons_succ.{0} (And.intro @List.length_cons.{0} (And.intro @List.length_nil.{0} (And.intro @List.take_zero.{0} (And.intro @List.take_succ_cons.{0} (And.intro @List.drop_zero.{0} (And.intro @List.drop_succ_cons.{0} (And.intro @List.drop_nil.{0} (And.intro @List.take_nil.{0} (And.intro @List.nil_append.{0} (And.intro @List.cons_append.{0} (And.intro @List.append_nil.{0} (And.intro @Nat.zero_add (And.intro @Nat.add_zero (And.intro @Nat.le_refl (And.intro @Nat.zero_le (And.intro @Int.toNat_natCast (And.intro @Int.natCast_nonneg (And.intro @Int.ofNat_lt (And.intro @Bool.not_true (And.intro @Bool.not_false (And.intro @decide_true (And.intro @decide_false (And.intro @Bool.xor_false (And.intro @Bool.xor_true (And.intro @Bool.false_xor (And.intro @Bool.true_xor (And.intro @Nat.lt_irrefl (And.intro @List.replicate_succ.{0} (And.intro @List.replicate_zero.{0} (And.intro @List.flatten_cons.{0} (And.intro @List.flatten_nil.{0} (And.intro @Nat.succ_eq_add_one (And.intro @Option.isNone_none.{0} (And.intro @Option.isSome_none.{0} (And.intro @Bool.false_and (And.intro @Bool.and_false (And.intro @Nat.sub_zero (And.intro @qc4 (And.intro @qbC (And.intro @wc (And.intro @qjC (And.intro @qb3 (And.intro @QI (And.intro @yR @List.append_assoc.{0}))))))))))))))))))))))))))))))))))))))))))))))))))))))))
def vX:=And.intro @qkG (And.intro @qpU (And.intro @qnO (And.intro @qhT (And.intro @qhU (And.intro @qfB (And.intro @qhQ (And.intro @qfu (And.intro @qhv (And.intro @qft (And.intro @qhw @qhu))))))))))
def vU:=And.intro @shb.eq_1 (And.intro @shb.eq_2 (And.intro @shb.eq_3 (And.intro @shv.eq_1 (And.intro @shv.eq_2 (And.intro @shv.eq_3 (And.intro @shv.eq_4 (And.intro @shv.eq_5 (And.intro @shv.eq_6 (And.intro @shv.eq_7 (And.intro @shv.eq_8 (And.intro @shv.eq_9 (And.intro @shv.eq_10 (And.intro @kt.eq_1 @kt.eq_2)))))))))))))
def vY:=And.intro vU (And.intro @kz.eq_1 (And.intro @kz.eq_2 (And.intro @cellsOf.eq_1 (And.intro @cellsOf.eq_2 (And.intro @wr.eq_1 (And.intro @wr.eq_2 (And.intro @wr.eq_3 (And.intro @wr.eq_4 (And.intro @wr.eq_5 (And.intro @wr.eq_6 (And.intro @wr.eq_7 (And.intro @wr.eq_8 (And.intro @wr.eq_9 (And.intro @wr.eq_10 (And.intro @wr.eq_11 (And.intro @xu.eq_1 @xu.eq_2))))))))))))))))
def vS:=And.intro vA (And.intro vE (And.intro vO (And.intro vB (And.intro vF (And.intro vM (And.intro vR vX))))))
def vT:=And.intro vY (And.intro @qlT (And.intro @qlU (And.intro vP (And.intro vC (And.intro vQ (And.intro @qks (And.intro @qh6 (And.intro not_false_eq_true (And.intro @eq_self.{1} @Int.cast_ofNat_Int)))))))))
def vw:=And.intro vW (And.intro @qi7 (And.intro @qoY (And.intro @qoX (And.intro @qlZ (And.intro @xW (And.intro @jm (And.intro @xn (And.intro @zx (And.intro @qlE (And.intro @qbx (And.intro @qfq (And.intro @qdC (And.intro @Q7 (And.intro vP (And.intro vZ @Tr.get_set)))))))))))))))
def vK:=And.intro (And.intro @jV.eq_1 (And.intro @rnb.eq_1 (And.intro @rnb.eq_2 (And.intro @rnb.eq_3 (And.intro @xR.eq_1 (And.intro @xR.eq_2 (And.intro @rnv.eq_1 (And.intro @rnv.eq_2 (And.intro @rnv.eq_3 (And.intro @rnv.eq_4 (And.intro @rnv.eq_5 (And.intro @rnv.eq_6 (And.intro @rnv.eq_7 (And.intro @rnv.eq_8 (And.intro @rnv.eq_9 (And.intro @rnv.eq_10 @gAt.eq_1)))))))))))))))) (And.intro @List.cons_append.{0} (And.intro @List.nil_append.{0} (And.intro @List.length_cons.{0} (And.intro @List.length_nil.{0} (And.intro Nat.zero_add (And.intro @List.take_succ_cons.{0} (And.intro @List.take_zero.{0} (And.intro @List.drop_succ_cons.{0} (And.intro @List.drop_zero.{0} (And.intro @List.map_cons.{0,0} (And.intro @List.map_nil.{0,0} (And.intro @List.getD_cons_zero.{0} (And.intro @List.getD_cons_succ.{0} (And.intro @qbC (And.intro @qc4 (And.intro @yR (And.intro @QI (And.intro @wc @qb3))))))))))))))))))
def vL:=And.intro vU (And.intro (And.intro @xS.eq_1 (And.intro @xS.eq_2 (And.intro @bnd.eq_1 (And.intro @bnd.eq_2 (And.intro @bnd.eq_3 (And.intro @bnd.eq_4 (And.intro @bnd.eq_5 (And.intro @bnd.eq_6 (And.intro @bnd.eq_7 (And.intro @bnd.eq_8 (And.intro @bnd.eq_9 (And.intro @bnd.eq_10 (And.intro @xR.eq_1 (And.intro @xR.eq_2 (And.intro @rnv.eq_1 (And.intro @rnv.eq_2 (And.intro @rnv.eq_3 (And.intro @rnv.eq_4 (And.intro @rnv.eq_5 (And.intro @rnv.eq_6 (And.intro @rnv.eq_7 (And.intro @rnv.eq_8 (And.intro @rnv.eq_9 (And.intro @rnv.eq_10 @gAt.eq_1)))))))))))))))))))))))) (And.intro @qfp (And.intro @qhj (And.intro @yR (And.intro @QI @qb3)))))
def ROp.q(n:Nat)(o:IOp):ROp:=⟨some n,.op o,none⟩
def ROp.m(n:Nat)(x:O):ROp:=⟨some n,.op (.mov x),none⟩
def ROp.g(n:Nat)(o:IOp)(c:Nat)(b:Bool):ROp:=⟨some n,.op o,some (c,b)⟩
def ROp.l(n f:Nat)(xs:List O):ROp:=⟨some n,.callF f xs,none⟩
def ROp.u(o:IOp):ROp:=⟨none,.op o,none⟩
def ICode.r(ops:List ROp):ICode:=.reg false ops
def O.k(n:Int):O:=.c (.i .i64 n)
def ROp.n(n a:Nat):ROp:=⟨some n,.op (.mov (.t a)),none⟩
def ROp.d(n a:Nat):ROp:=⟨some n,.op (.load1 (.t a)),none⟩
def ROp.v(n k a:Nat):ROp:=⟨some n,.op (.loadN k (.t a)),none⟩
def ROp.f(n k a:Nat):ROp:=⟨some n,.op (.fAddr k (.t a)),none⟩
def ROp.i(n k a b:Nat):ROp:=⟨some n,.op (.iAddrS k (.t a) (.t b)),none⟩
def ROp.a(n a:Nat)(k:Int):ROp:=⟨some n,.op (.bin .add (.t a) (.c (.i .i64 k))),none⟩
def ROp.b(n:Nat)(o:BinOp)(a b:Nat):ROp:=⟨some n,.op (.bin o (.t a) (.t b)),none⟩
def ROp.w(n:Nat)(o:BinOp)(a:Nat)(k:Int):ROp:=⟨some n,.op (.bin o (.t a) (.c (.i .i64 k))),none⟩
def ROp.e(n a:Nat):ROp:=⟨some n,.op (.len false (.t a)),none⟩
def ROp.x(n a k:Nat):ROp:=⟨some n,.op (.ext (.t a) k),none⟩
def ROp.s(n a b:Nat):ROp:=⟨some n,.op (.bin .lss (.t a) (.t b)),none⟩
def ROp.p(n a b:Nat):ROp:=⟨some n,.op (.pick (.t a) (.t b) (.c (.b false))),none⟩
def ROp.o(n a b:Nat):ROp:=⟨some n,.op (.pick (.t a) (.c (.b true)) (.t b)),none⟩
def ROp.y(n a c:Nat):ROp:=⟨some n,.op (.mov (.t a)),some (c,true)⟩
def ROp.z(n a c:Nat):ROp:=⟨some n,.op (.mov (.t a)),some (c,false)⟩
def ROp.j(n a c:Nat)(b:Bool):ROp:=⟨some n,.op (.load1 (.t a)),some (c,b)⟩
def ROp.h(n k a c:Nat)(b:Bool):ROp:=⟨some n,.op (.fAddr k (.t a)),some (c,b)⟩
def O.F:O:=.c (.b false)
def O.T:O:=.c (.b true)
def O.N:O:=.c .nils
theorem q_q{n:Nat}{o:IOp}:ROp.q n o=⟨some n,.op o,none⟩:=rfl
theorem q_m{n:Nat}{x:O}:ROp.m n x=⟨some n,.op (.mov x),none⟩:=rfl
theorem q_g{n:Nat}{o:IOp}{c:Nat}{b:Bool}:ROp.g n o c b=⟨some n,.op o,some (c,b)⟩:=rfl
theorem q_l{n f:Nat}{xs:List O}:ROp.l n f xs=⟨some n,.callF f xs,none⟩:=rfl
theorem q_u{o:IOp}:ROp.u o=⟨none,.op o,none⟩:=rfl
theorem q_r{ops:List ROp}:ICode.r ops = .reg false ops:=rfl
theorem q_k{n:Int}:O.k n = .c (.i .i64 n):=rfl
theorem qqJ{n a:Nat}:ROp.n n a=⟨some n,.op (.mov (.t a)),none⟩:=rfl
theorem qqD{n a:Nat}:ROp.d n a=⟨some n,.op (.load1 (.t a)),none⟩:=rfl
theorem qqN{n k a:Nat}:ROp.v n k a=⟨some n,.op (.loadN k (.t a)),none⟩:=rfl
theorem qqF{n k a:Nat}:ROp.f n k a=⟨some n,.op (.fAddr k (.t a)),none⟩:=rfl
theorem qqH{n k a b:Nat}:ROp.i n k a b=⟨some n,.op (.iAddrS k (.t a) (.t b)),none⟩:=rfl
theorem qqB{n a:Nat}{k:Int}:ROp.a n a k=⟨some n,.op (.bin .add (.t a) (.c (.i .i64 k))),none⟩:=rfl
theorem qqC{n:Nat}{o:BinOp}{a b:Nat}:ROp.b n o a b=⟨some n,.op (.bin o (.t a) (.t b)),none⟩:=rfl
theorem qqO{n:Nat}{o:BinOp}{a:Nat}{k:Int}:ROp.w n o a k=⟨some n,.op (.bin o (.t a) (.c (.i .i64 k))),none⟩:=rfl
theorem qqE{n a:Nat}:ROp.e n a=⟨some n,.op (.len false (.t a)),none⟩:=rfl
theorem qqP{n a k:Nat}:ROp.x n a k=⟨some n,.op (.ext (.t a) k),none⟩:=rfl
theorem qqM{n a b:Nat}:ROp.s n a b=⟨some n,.op (.bin .lss (.t a) (.t b)),none⟩:=rfl
theorem qqL{n a b:Nat}:ROp.p n a b=⟨some n,.op (.pick (.t a) (.t b) (.c (.b false))),none⟩:=rfl
theorem qqK{n a b:Nat}:ROp.o n a b=⟨some n,.op (.pick (.t a) (.c (.b true)) (.t b)),none⟩:=rfl
theorem qqQ{n a c:Nat}:ROp.y n a c=⟨some n,.op (.mov (.t a)),some (c,true)⟩:=rfl
theorem qqR{n a c:Nat}:ROp.z n a c=⟨some n,.op (.mov (.t a)),some (c,false)⟩:=rfl
theorem qqI{n a c:Nat}{b:Bool}:ROp.j n a c b=⟨some n,.op (.load1 (.t a)),some (c,b)⟩:=rfl
theorem qqG{n k a c:Nat}{b:Bool}:ROp.h n k a c b=⟨some n,.op (.fAddr k (.t a)),some (c,b)⟩:=rfl
theorem q_F:O.F = .c (.b false):=rfl
theorem q_T:O.T = .c (.b true):=rfl
theorem q_N:O.N = .c .nils:=rfl
def vI:=And.intro (And.intro @qqJ (And.intro @qqD (And.intro @qqN (And.intro @qqF (And.intro @qqH (And.intro @qqB (And.intro @qqC (And.intro @qqO (And.intro @qqE (And.intro @qqP (And.intro @qqM (And.intro @qqL (And.intro @qqK (And.intro @qqQ (And.intro @qqR (And.intro @qqI (And.intro @qqG (And.intro q_F (And.intro q_T q_N))))))))))))))))))) (And.intro (And.intro @wp.eq_1 (And.intro @wp.eq_2 (And.intro @H0.eq_1 (And.intro @mkT.eq_1 (And.intro @mkT.eq_2 (And.intro @mkH.eq_1 (And.intro @trL.eq_1 @trL.eq_2))))))) (And.intro @List.length_cons.{0} (And.intro @List.length_nil.{0} (And.intro Nat.zero_add (And.intro @q_q (And.intro @q_m (And.intro @q_g (And.intro @q_l (And.intro @q_u (And.intro @q_r @q_k))))))))))
end Go.Kc
end
section
/- A row that is written no more becomes a row that stays as it is. No condition. -/
namespace Go.Kc
variable {P:Program}

mutual
def fzv(b e:Nat)(cs:List AV):AV->AV
 | .own b' n=>if b'=b then .fz n (if n=0 then [] else cs) else .own b' n
 | .ptr b' o=>if b'=b then .pf cs o else .ptr b' o
 | .sl b' o n c l=>if b'=b then (if n<=c then .fz n ((cs.drop o).take (n*e)) else .undef) else .sl b' o n c l
 | .map b'=>if b'=b then .undef else .map b'
 | .yl b'=>if b'=b then .undef else .yl b'
 | .fn f x c=>.fn f (yk b e cs x) (yk b e cs c)
 | .ifc t v=>.ifc t (fzv b e cs v)
 | .agg l=>.agg (yk b e cs l)
 | .tup l=>.tup (yk b e cs l)
 | v=>v
def yk(b e:Nat)(cs:List AV):List AV->List AV
 | []=>[]
 | v::vs=>fzv b e cs v::yk b e cs vs
end
def fzE(b e:Nat)(cs:List AV)(es:List (AV×AV)):List (AV×AV):=es.map fun p=>(p.1,fzv b e cs p.2)
def fzB(b e:Nat)(cs:List AV):Blk->Blk
 | .cells k w a l=>.cells k w a (yk b e cs l)
 | .dead=>.dead
 | .map es=>.map (fzE b e cs es)
theorem qaF{b e:Nat}{cs:List AV}:∀{vs:List AV} {j:Nat},(yk b e cs vs)[j]?=(vs[j]?).map (fzv b e cs)
 | [],j=>by simp[yk]
 | v::vs,0=>by simp[yk]
 | v::vs,j+1=>by simpa[yk] using qaF (vs:=vs) (j:=j)
theorem xh{b e:Nat}{cs:List AV}:∀{vs:List AV},(yk b e cs vs).length=vs.length
 | []=>rfl
 | v::vs=>by simp[yk,xh (vs:=vs)]
theorem qeb{b e:Nat}{cs:List AV}{v:AV}(hv:clo v=true):fzv b e cs v=v:=by
 refine AV.rec (motive_1:=fun v=>clo v=true->fzv b e cs v=v) (motive_2:=fun vs=>qw vs=true->yk b e cs vs=vs) ?_ ?_ ?_ ?_ ?_ ?_ ?_ ?_ ?_ ?_ ?_ ?_ ?_ ?_ ?_ ?_ ?_ ?_ ?_ ?_ ?_ ?_ ?_ ?_ ?_ ?_ v hv
 all_goals first
  | (intros;rfl)
  | (intros;rename_i hh;simp[clo] at hh;done)
  | skip
 ·intro f a c h1 h2 hh;simp only[clo,Bool.and_eq_true] at hh;simp only[fzv,h1 hh.1,h2 hh.2]
 ·intro t v h1 hh;simp only[clo] at hh;simp only[fzv,h1 hh]
 ·intro cs h1 hh;simp only[clo] at hh;simp only[fzv,h1 hh]
 ·intro cs h1 hh;simp only[clo] at hh;simp only[fzv,h1 hh]
 ·intro v vs h1 h2 hh;simp only[qw,Bool.and_eq_true] at hh;simp only[yk,h1 hh.1,h2 hh.2]
theorem CRs.cut{φ:Nat->Option (Array Value)}:∀{cs:List AV} {vs:List Value} (o m:Nat),CRs σ0 φ cs (vs.take cs.length)->CRs σ0 φ ((cs.drop o).take m) ((vs.drop o).take ((cs.drop o).take m).length)
 | [],vs,o,m,h=>by simp;exact .nil
 | c::cs,[],o,m,h=>by simp at h;cases h
 | c::cs,v::vs,0,0,h=>by simp;exact .nil
 | c::cs,v::vs,0,m+1,h=>by
  simp only[List.length_cons,List.take_succ_cons] at h;cases h with
  | cons _ _ _ _ h1 h2 =>
   have:=CRs.cut 0 m h2;simp only[List.drop_zero] at this;simp only[List.drop_zero,List.take_succ_cons,List.length_cons];exact .cons _ _ _ _ h1 this
 | c::cs,v::vs,o+1,m,h=>by
  simp only[List.length_cons,List.take_succ_cons] at h;cases h with
  | cons _ _ _ _ h1 h2=>simpa using CRs.cut o m h2
def Ren.iced(ρ:Ren)(b k:Nat)(arr:Array Value):Ren:=⟨fun b'=>if b'=b then none else ρ b',⟨fun k'=>if k'=k then some ((tab k).getD arr) else ρ.frz k',fun k' a h=>by
 split
 ·subst k';rw[h];rfl
 ·exact ρ.frz.ok k' a h⟩,ρ.n⟩
mutual
theorem VR.iced{ρ:Ren}{b e:Nat}{cs:List AV}{L:Loc}{arr:Array Value}(hz:tab L.blk=none)(hL:∀L',ρ b=some L'->L'=L)(hf:∀k a,ρ.frz k=some a->(ρ.iced b L.blk arr).frz k=some a)
  (hs:CRs σ0 (ρ.iced b L.blk arr).frz cs ((arr.toList.drop L.off).take cs.length)):∀{v:AV} {x:Value},VR σ0 ρ v x->VR σ0 (ρ.iced b L.blk arr) (fzv b e cs v) x
 | _,_,.undef v=>.undef v
 | _,_,.b x=>.b x
 | _,_,.i k n=>.i k n
 | _,_,.s x=>.s x
 | _,_,.nilp=>.nilp
 | _,_,.ptr b' o L' h=>by
  simp only[fzv];split
  ·rename_i hb;subst hb;obtain rfl:=hL _ h;refine .pf o L'.off cs L'.blk arr (by simp[Ren.iced,hz]) hs
  ·rename_i hb;exact .ptr _ _ L' (by simp only[Ren.iced];rw[if_neg hb];exact h)
 | _,_,.nils=>.nils
 | _,_,.sl b' o n cap c l L' h hc=>by
  simp only[fzv];split
  ·rename_i hb;subst hb;obtain rfl:=hL _ h;split
   ·rename_i hn;refine .fz n (L'.off+o) c _ L'.blk arr (by omega) (by simp[Ren.iced,hz]) ?_;have:=CRs.cut o (n*e) hs;rw[List.drop_drop] at this;exact this
   ·exact .undef _
  ·rename_i hb;exact .sl _ _ _ _ _ _ L' (by simp only[Ren.iced];rw[if_neg hb];exact h) hc
 | _,_,.slz b' o x l L' h=>by
  simp only[fzv];split
  ·simp;exact .fz0 _
  ·rename_i hb;exact .slz _ _ _ _ L' (by simp only[Ren.iced];rw[if_neg hb];exact h)
 | _,_,.nilf=>.nilf
 | _,_,.fn f first cap first' cap' h1 h2=>.fn _ _ _ _ _ (VRs.iced hz hL hf hs h1) (VRs.iced hz hL hf hs h2)
 | _,_,.nili=>.nili
 | _,_,.ifc t v v' h=>.ifc _ _ _ (VR.iced hz hL hf hs h)
 | _,_,.agg l l' h=>.agg _ _ (VRs.iced hz hL hf hs h)
 | _,_,.tup l l' h=>.tup _ _ (VRs.iced hz hL hf hs h)
 | _,_,.nilm=>.nilm
 | _,_,.map b' L' h h0=>by
  simp only[fzv];split
  ·exact .undef _
  ·rename_i hb;exact .map _ L' (by simp only[Ren.iced];rw[if_neg hb];exact h) h0
 | _,_,.sym j=>.sym j
 | _,_,.fz n off c l k a hn h h2=>.fz n off c l k a hn (hf _ _ h) (h2.mono hf)
 | _,_,.fz0 a=>.fz0 a
 | _,_,.pf off base l k a h h2=>.pf off base l k a (hf _ _ h) (h2.mono hf)
 | _,_,.e0 a=>.e0 a
 | _,_,.nz a c=>.nz a c
 | _,_,.own0 b' a hb=>by
  simp only[fzv];split
  ·simp;exact .fz0 _
  ·exact .own0 _ _ hb
 | _,_,.yl b' L' h=>by
  simp only[fzv];split
  ·exact .undef _
  ·rename_i hb;exact .yl _ L' (by simp only[Ren.iced];rw[if_neg hb];exact h)
 | _,_,.own b' n c L' h hn hc=>by
  simp only[fzv];split
  ·rename_i hb;subst hb;obtain rfl:=hL _ h;split
   ·rename_i h0;subst h0;exact .fz 0 L'.off c [] L'.blk arr (by omega) (by simp[Ren.iced,hz]) (by simp;exact .nil)
   ·exact .fz n L'.off c cs L'.blk arr hn (by simp[Ren.iced,hz]) hs
  ·rename_i hb;exact .own _ _ _ L' (by simp only[Ren.iced];rw[if_neg hb];exact h) hn hc
theorem VRs.iced{ρ:Ren}{b e:Nat}{cs:List AV}{L:Loc}{arr:Array Value}(hz:tab L.blk=none)(hL:∀L',ρ b=some L'->L'=L)(hf:∀k a,ρ.frz k=some a->(ρ.iced b L.blk arr).frz k=some a)
  (hs:CRs σ0 (ρ.iced b L.blk arr).frz cs ((arr.toList.drop L.off).take cs.length)):∀{v:List AV} {x:List Value},VRs σ0 ρ v x->VRs σ0 (ρ.iced b L.blk arr) (yk b e cs v) x
 | _,_,.nil=>.nil
 | _,_,.cons v vs v' vs' h h2=>.cons _ _ _ _ (VR.iced hz hL hf hs h) (VRs.iced hz hL hf hs h2)
end
mutual
theorem VR.iced0{ρ:Ren}{b e:Nat}{cs:List AV}(hL:ρ b=none):∀{v:AV} {x:Value},VR σ0 ρ v x->VR σ0 ρ (fzv b e cs v) x
 | _,_,.undef v=>.undef v
 | _,_,.b x=>.b x
 | _,_,.i k n=>.i k n
 | _,_,.s x=>.s x
 | _,_,.nilp=>.nilp
 | _,_,.ptr b' o L' h=>by
  simp only[fzv];split
  ·rename_i hb;subst hb;rw[hL] at h;cases h
  ·exact .ptr _ _ L' h
 | _,_,.nils=>.nils
 | _,_,.sl b' o n cap c l L' h hc=>by
  simp only[fzv];split
  ·rename_i hb;subst hb;rw[hL] at h;cases h
  ·exact .sl _ _ _ _ _ _ L' h hc
 | _,_,.slz b' o x l L' h=>by
  simp only[fzv];split
  ·simp;exact .fz0 _
  ·exact .slz _ _ _ _ L' h
 | _,_,.nilf=>.nilf
 | _,_,.fn f first cap first' cap' h1 h2=>.fn _ _ _ _ _ (VRs.iced0 hL h1) (VRs.iced0 hL h2)
 | _,_,.nili=>.nili
 | _,_,.ifc t v v' h=>.ifc _ _ _ (VR.iced0 hL h)
 | _,_,.agg l l' h=>.agg _ _ (VRs.iced0 hL h)
 | _,_,.tup l l' h=>.tup _ _ (VRs.iced0 hL h)
 | _,_,.nilm=>.nilm
 | _,_,.map b' L' h h0=>by
  simp only[fzv];split
  ·exact .undef _
  ·exact .map _ L' h h0
 | _,_,.sym j=>.sym j
 | _,_,.fz n off c l k a hn h h2=>.fz n off c l k a hn h h2
 | _,_,.fz0 a=>.fz0 a
 | _,_,.pf off base l k a h h2=>.pf off base l k a h h2
 | _,_,.e0 a=>.e0 a
 | _,_,.nz a c=>.nz a c
 | _,_,.own0 b' a hb=>by
  simp only[fzv];split
  ·simp;exact .fz0 _
  ·exact .own0 _ _ hb
 | _,_,.yl b' L' h=>by
  simp only[fzv];split
  ·exact .undef _
  ·exact .yl _ L' h
 | _,_,.own b' n c L' h hn hc=>by
  simp only[fzv];split
  ·rename_i hb;subst hb;rw[hL] at h;cases h
  ·exact .own _ _ _ L' h hn hc
theorem VRs.iced0{ρ:Ren}{b e:Nat}{cs:List AV}(hL:ρ b=none):∀{v:List AV} {x:List Value},VRs σ0 ρ v x->VRs σ0 ρ (yk b e cs v) x
 | _,_,.nil=>.nil
 | _,_,.cons v vs v' vs' h h2=>.cons _ _ _ _ (VR.iced0 hL h) (VRs.iced0 hL h2)
end
def qk2(es:List (AV×AV)):Prop:=wx es∨∃r ts,es=za r ts
theorem qea{b e:Nat}{cs:List AV}:∀{es:List (AV×AV)},wx es->fzE b e cs es=es
 | [],_=>rfl
 | p::es,h=>by
  have h2:=Q7.1 h;show (p.1,fzv b e cs p.2)::fzE b e cs es=_;rw[qea h2.2,qeb h2.1.2]
theorem qjp{b e:Nat}{cs:List AV}{r:Loop}{ts:List (Nat×AV)}:fzE b e cs (za r ts)=za r (ts.map fun p=>(p.1,fzv b e cs p.2)):=by simp[fzE,za,fzv]
theorem vj.ice{ρ ρ':Ren}{b e:Nat}{cs:List AV}(hv:∀{v:AV} {x:Value},VR σ0 ρ v x->VR σ0 ρ' (fzv b e cs v) x){es:List (AV×AV)}{o:Obj}(hm:qk2 es)(h:vj σ0 ρ es o):vj σ0 ρ' (fzE b e cs es) o:=by
 rcases hm with hm|⟨r,ts,rfl⟩
 ·rw[qea hm];have hv':∀{v:AV} {x:Value},clo v=true->VR σ0 ρ v x->VR σ0 ρ' v x:=fun hc h=>by have:=hv h;rwa [qeb hc] at this
  rcases h with⟨p1,vs,clk,p2,p3,p4⟩|p3|⟨r,ts,rfl,p2,p3⟩
  ·exact .inl ⟨p1,vs,clk,p2,p3,fun j e0 he=>let ⟨v,a1,a2,a3⟩:=p4 j e0 he
    ⟨v,a1,hv' (hm e0 (List.mem_of_getElem? he)).1 a2,hv' (hm e0 (List.mem_of_getElem? he)).2 a3⟩⟩
  ·exact .inr (.inl p3)
  ·exact absurd (hm (.lp r,.undef) (by simp[za])).1 (by simp[clo])
 ·obtain⟨p2,p3⟩:=h.rec';rw[qjp];refine .inr (.inr ⟨r,_,rfl,p2,fun p hp=>?_⟩)
  obtain⟨q,hq,rfl⟩:=List.mem_map.1 hp;exact⟨(p3 q hq).1,hv (p3 q hq).2⟩
theorem Wk.freeze{n:Nat}{ts:List (Nat×AV)}{bl:List Blk}(b e e':Nat){a:Bool}{cs:List AV}(hb:bl[b]?=some (.cells e' true a cs))(hc:qw cs=true)(hn:n<=b)(hm:∀es,Blk.map es ∈ bl->qk2 es) :
  Wk n (mkT ts) (mkH 0 bl) (mkT (ts.map fun p=>(p.1,fzv b e cs p.2))) (mkH 0 ((bl.map (fzB b e cs)).set b .dead)):=by
 intro ρ B w tm ht r;have hlt:b<bl.length:=(List.getElem?_eq_some_iff.1 hb).1;have hgb:(mkH 0 bl).tr.get b=some (.cells e' true a cs):=by rw[zq];exact hb
 have tget:∀(ts:List (Nat×AV)) (j:Nat),(mkT (ts.map fun p=>(p.1,fzv b e cs p.2))).get j=((mkT ts).get j).map (fzv b e cs):=by
  intro ts j
  induction ts with
  | nil=>simp[mkT]
  | cons p l ih =>
   simp only[List.map_cons,mkT,Tr.get_set];split
   ·rfl
   ·exact ih
 have hget:∀b',b'≠b->(mkH 0 ((bl.map (fzB b e cs)).set b .dead)).tr.get b'=((mkH 0 bl).tr.get b').map (fzB b e cs):=by
  intro b' hne;rw[zq,zq,List.getElem?_set_ne (Ne.symm hne),List.getElem?_map]
 have hgd:(mkH 0 ((bl.map (fzB b e cs)).set b .dead)).tr.get b=some .dead:=by
  rw[zq,List.getElem?_set_self (by simpa using hlt)]
 -- a live block of the new heap comes from one of the old
 have jd:∀b' x,(mkH 0 ((bl.map (fzB b e cs)).set b .dead)).tr.get b'=some x->x≠.dead->b'≠b∧∃y,(mkH 0 bl).tr.get b'=some y∧x=fzB b e cs y∧y≠.dead:=by
  intro b' x hx hd
  have hne:b'≠b:=by
   rintro rfl;rw[hgd] at hx;cases hx;exact hd rfl
  rw[hget b' hne] at hx;cases hy:(mkH 0 bl).tr.get b' with
  | none=>rw[hy] at hx;simp at hx
  | some y =>
   rw[hy] at hx;simp at hx;exact⟨hne,y,rfl,hx.symm,by rintro rfl;subst hx;exact hd rfl⟩
 have hsz:(mkH 0 ((bl.map (fzB b e cs)).set b .dead)).sz=bl.length:=by simp[qdE]
 cases hρ:ρ b with
 | none =>
  refine⟨ρ,fun j v hj=>?_,⟨?_,?_,?_,?_,?_,?_,?_,r.base,?_,?_⟩,⟨fun _ _=>rfl,by rw[hsz];omega,rfl,fun b' hb'=>by simp[qhq] at hb',fun _ _=>rfl,Nat.le_refl _,⟨rfl,rfl⟩,fun _ _ h=>h,fun _ _ h=>.inl h,fun _ _ h=>h⟩⟩
  ·rw[tget] at hj;cases hv:(mkT ts).get j with
   | none=>rw[hv] at hj;simp at hj
   | some v0 =>
    rw[hv] at hj;simp at hj;subst hj;exact⟨(ht j v0 hv).1,VR.iced0 hρ (ht j v0 hv).2⟩
  ·intro b' L h1;rw[hsz];exact r.dom b' L h1
  ·intro b' L e1 wf af cs' h1 h2;obtain⟨h3,y,h4,h5,h6⟩:=jd b' _ h2 (by simp);cases y with
   | cells k w0 a0 l =>
    simp only[fzB,Blk.cells.injEq] at h5;obtain⟨rfl,rfl,rfl,rfl⟩:=h5;obtain⟨q1,c,ty,fz,q2,q3,q4,q5,q6⟩:=r.cells b' L _ _ _ l h1 h4;refine⟨q1,c,ty,fz,q2,q3,by rw[xh];exact q4,fun j v hv=>?_,q6⟩
    rw[qaF] at hv;cases hj:l[j]? with
    | none=>rw[hj] at hv;simp at hv
    | some v0 =>
     rw[hj] at hv;simp at hv;subst hv;obtain⟨v',g1,g2⟩:=q5 j v0 hj;exact⟨v',g1,VR.iced0 hρ g2⟩
   | dead=>simp[fzB] at h5
   | map es=>simp[fzB] at h5
  ·intro b' L es h1 h2;obtain⟨h3,y,h4,h5,h6⟩:=jd b' _ h2 (by simp);cases y with
   | cells k w0 a0 l=>simp[fzB] at h5
   | dead=>simp[fzB] at h5
   | map es' =>
    simp only[fzB,Blk.map.injEq] at h5;subst h5;obtain⟨p1,o,p2,p3⟩:=r.maps b' L _ h1 h4;exact⟨p1,o,p2,p3.ice (fun h=>VR.iced0 hρ h) (hm es' (by rw[zq] at h4;exact List.mem_of_getElem? h4))⟩
  ·intro b1 L1 e1 af1 cs1 h1 h2 b2 L2 x h3 h4 h5 h6;obtain⟨g1,y,g2,g3,g4⟩:=jd b1 _ h2 (by simp);obtain⟨i1,y2,i2,i3,i4⟩:=jd b2 _ h4 h5;cases y with
   | cells k w0 a0 l =>
    simp only[fzB,Blk.cells.injEq] at g3;obtain⟨rfl,rfl,rfl,rfl⟩:=g3;exact r.excl b1 L1 _ _ l h1 g2 b2 L2 y2 h3 i2 i4 h6
   | dead=>simp[fzB] at g3
   | map es=>simp[fzB] at g3
  ·intro b1 L1 es h1 h2 b2 L2 x h3 h4 h5 h6;obtain⟨g1,y,g2,g3,g4⟩:=jd b1 _ h2 (by simp);obtain⟨i1,y2,i2,i3,i4⟩:=jd b2 _ h4 h5;cases y with
   | cells k w0 a0 l=>simp[fzB] at g3
   | dead=>simp[fzB] at g3
   | map es'=>simp only[fzB,Blk.map.injEq] at g3;subst g3;exact r.exclm b1 L1 _ h1 g2 b2 L2 y2 h3 i2 i4 h6
  ·intro b1 L1 e1 wf1 cs1 h1 h2 b2 L2 e2 wf2 af2 cs2 h3 h4 h6;obtain⟨g1,y,g2,g3,g4⟩:=jd b1 _ h2 (by simp);obtain⟨i1,y2,i2,i3,i4⟩:=jd b2 _ h4 (by simp);cases y<;>simp only[fzB,Blk.cells.injEq,reduceCtorEq] at g3;cases y2<;>simp only[fzB,Blk.cells.injEq,reduceCtorEq] at i3;obtain⟨rfl,rfl,rfl,rfl⟩:=g3;obtain⟨rfl,rfl,rfl,rfl⟩:=i3;rw[xh,xh];exact r.app b1 L1 _ _ _ h1 g2 b2 L2 _ _ _ _ h3 i2 h6
  ·intro b' L h1 h2;exact r.flr b' L h1 (Nat.zero_le _)
  ·intro k arr hk;refine⟨(r.frz k arr hk).1,fun b' L x h1 h2 h3=>?_⟩
   obtain⟨g1,y,g2,g3,g4⟩:=jd b' _ h2 h3;exact (r.frz k arr hk).2 b' L y h1 g2 g4
  ·rw[hsz];exact r.dn
 | some L =>
  obtain⟨q1,c,ty,fz,q2,q3,q4,q5,q6⟩:=r.cells b L _ _ _ cs hρ hgb
  have hz:tab L.blk=none:=by
   cases h:tab L.blk with
   | none=>rfl
   | some a=>exact absurd rfl ((r.frz _ _ (ρ.frz.ok _ _ h)).2 b L _ hρ hgb (by simp))
  have hf:∀k a,ρ.frz k=some a->(ρ.iced b L.blk c).frz k=some a:=by
   intro k a' hk;simp only[Ren.iced];rw[if_neg (fun hh=>(r.frz k a' hk).2 b L _ hρ hgb (by simp) hh.symm)]
   exact hk
  have hLs:∀L',ρ b=some L'->L'=L:=by intro L' h;rw[hρ] at h;cases h;rfl
  have hcr:∀(l:List AV) (j:Nat),(∀i v,l[i]?=some v->∃v',c.toList[j+i]?=some v'∧VR σ0 ρ v v')->qw l=true->CRs σ0 (ρ.iced b L.blk c).frz l ((c.toList.drop j).take l.length):=by
   intro l
   induction l with
   | nil=>intro j _ _;simp;exact .nil
   | cons v l ih =>
    intro j hh hcl;simp only[qw,Bool.and_eq_true] at hcl;obtain⟨v',g1,g2⟩:=hh 0 v rfl;simp only[Nat.add_zero] at g1;obtain⟨hj,rfl⟩:=List.getElem?_eq_some_iff.1 g1;rw[List.drop_eq_getElem_cons hj,List.length_cons,List.take_succ_cons];refine .cons _ _ _ _ ((g2.cr hcl.1).mono hf) (ih (j+1) (fun i v hi=>?_) hcl.2)
    obtain⟨v',k1,k2⟩:=hh (i+1) v (by simpa using hi);exact⟨v',by rw[show j+1+i=j+(i+1) from by omega];exact k1,k2⟩
  have hs:CRs σ0 (ρ.iced b L.blk c).frz cs ((c.toList.drop L.off).take cs.length):=hcr cs L.off (fun i v hi=>by
   obtain⟨v',g1,g2⟩:=q5 i v hi;exact⟨v',by simpa using g1,g2⟩) hc
  have old:∀b' L',(ρ.iced b L.blk c) b'=some L'->b'≠b∧ρ b'=some L':=by
   intro b' L' h
   by_cases hbb:b'=b
   ·subst hbb;simp[Ren.iced] at h
   ·refine⟨hbb,?_⟩;simp only[Ren.iced] at h;rw[if_neg hbb] at h;exact h
  refine⟨ρ.iced b L.blk c,fun j v hj=>?_,⟨?_,?_,?_,?_,?_,?_,?_,r.base,?_,?_⟩,⟨fun b' hb'=>by simp only[Ren.iced];rw[if_neg (by omega)],by rw[hsz];omega,rfl,fun b' hb'=>by simp[qhq] at hb',fun _ _=>rfl,Nat.le_refl _,⟨rfl,rfl⟩,hf,fun k a' hk=>?_,fun _ _ h=>h⟩⟩
  ·rw[tget] at hj;cases hv:(mkT ts).get j with
   | none=>rw[hv] at hj;simp at hj
   | some v0 =>
    rw[hv] at hj;simp at hj;subst hj;exact⟨(ht j v0 hv).1,VR.iced hz hLs hf hs (ht j v0 hv).2⟩
  ·intro b' L' h1;rw[hsz];exact r.dom b' L' (old _ _ h1).2
  ·intro b' L' e1 wf af cs' h1 h2;obtain⟨h3,y,h4,h5,h6⟩:=jd b' _ h2 (by simp);cases y with
   | cells k w0 a0 l =>
    simp only[fzB,Blk.cells.injEq] at h5;obtain⟨rfl,rfl,rfl,rfl⟩:=h5;obtain⟨p1,c',ty',fz',p2,p3,p4,p5,p6⟩:=r.cells b' L' _ _ _ l (old _ _ h1).2 h4;refine⟨p1,c',ty',fz',p2,p3,by rw[xh];exact p4,fun j v hv=>?_,p6⟩
    rw[qaF] at hv;cases hj:l[j]? with
    | none=>rw[hj] at hv;simp at hv
    | some v0 =>
     rw[hj] at hv;simp at hv;subst hv;obtain⟨v',g1,g2⟩:=p5 j v0 hj;exact⟨v',g1,VR.iced hz hLs hf hs g2⟩
   | dead=>simp[fzB] at h5
   | map es=>simp[fzB] at h5
  ·intro b' L' es h1 h2;obtain⟨h3,y,h4,h5,h6⟩:=jd b' _ h2 (by simp);cases y with
   | cells k w0 a0 l=>simp[fzB] at h5
   | dead=>simp[fzB] at h5
   | map es' =>
    simp only[fzB,Blk.map.injEq] at h5;subst h5;obtain⟨p1,o,p2,p3⟩:=r.maps b' L' _ (old _ _ h1).2 h4;exact⟨p1,o,p2,p3.ice (fun h=>VR.iced hz hLs hf hs h) (hm es' (by rw[zq] at h4;exact List.mem_of_getElem? h4))⟩
  ·intro b1 L1 e1 af1 cs1 h1 h2 b2 L2 x h3 h4 h5 h6;obtain⟨g1,y,g2,g3,g4⟩:=jd b1 _ h2 (by simp);obtain⟨i1,y2,i2,i3,i4⟩:=jd b2 _ h4 h5;cases y<;>simp only[fzB,Blk.cells.injEq,reduceCtorEq] at g3;obtain⟨rfl,rfl,rfl,rfl⟩:=g3;exact r.excl b1 L1 _ _ _ (old _ _ h1).2 g2 b2 L2 y2 (old _ _ h3).2 i2 i4 h6
  ·intro b1 L1 es h1 h2 b2 L2 x h3 h4 h5 h6;obtain⟨g1,y,g2,g3,g4⟩:=jd b1 _ h2 (by simp);obtain⟨i1,y2,i2,i3,i4⟩:=jd b2 _ h4 h5;cases y<;>simp only[fzB,Blk.map.injEq,reduceCtorEq] at g3;subst g3;exact r.exclm b1 L1 _ (old _ _ h1).2 g2 b2 L2 y2 (old _ _ h3).2 i2 i4 h6
  ·intro b1 L1 e1 wf1 cs1 h1 h2 b2 L2 e2 wf2 af2 cs2 h3 h4 h6;obtain⟨g1,y,g2,g3,g4⟩:=jd b1 _ h2 (by simp);obtain⟨i1,y2,i2,i3,i4⟩:=jd b2 _ h4 (by simp);cases y<;>simp only[fzB,Blk.cells.injEq,reduceCtorEq] at g3;cases y2<;>simp only[fzB,Blk.cells.injEq,reduceCtorEq] at i3;obtain⟨rfl,rfl,rfl,rfl⟩:=g3;obtain⟨rfl,rfl,rfl,rfl⟩:=i3;rw[xh,xh];exact r.app b1 L1 _ _ _ (old _ _ h1).2 g2 b2 L2 _ _ _ _ (old _ _ h3).2 i2 h6
  ·intro b' L' h1 h2;exact r.flr b' L' (old _ _ h1).2 (Nat.zero_le _)
  ·intro k arr hk
   by_cases hkk:k=L.blk
   ·subst hkk;simp[Ren.iced,hz] at hk;subst hk;refine⟨⟨ty,fz,q2⟩,fun b' L' x h1 h2 h3 h6=>?_⟩
    obtain⟨g1,y,g2,g3,g4⟩:=jd b' _ h2 h3;exact g1 (r.excl b L _ _ _ hρ hgb b' L' y (old _ _ h1).2 g2 g4 h6)
   ·simp only[Ren.iced] at hk;rw[if_neg hkk] at hk;refine⟨(r.frz k arr hk).1,fun b' L' x h1 h2 h3=>?_⟩
    obtain⟨g1,y,g2,g3,g4⟩:=jd b' _ h2 h3;exact (r.frz k arr hk).2 b' L' y (old _ _ h1).2 g2 g4
  ·rw[hsz];exact r.dn
  ·simp only[Ren.iced] at hk;split at hk
   ·rename_i hkk;subst hkk;exact .inr (r.flr b L hρ (Nat.zero_le _))
   ·exact .inl hk

theorem Own.pure{f:Nat}{vs:List AV}{v v':AV}{bs:List Blk}(hcl:qw vs=true)(ho:Own P f vs v bs)(hf:Frz (z2 H0 (bs.map (shb 0))) (shv 0 v) v'):qf P f vs v' :=
 qf.of_SC hcl (ho H0 _ hf)
end Go.Kc
end
section
/- Rows of one's own opened to their capacity, and closed again; functions that the model itself answers. No condition. -/
namespace Go.Kc
variable {P:Program} {n:Nat} {t:Tr AV} {h:Hp}

theorem Wk.trans{t1 t2:Tr AV}{h1 h2:Hp}(a:Wk n t h t1 h1)(b:Wk n t1 h1 t2 h2):Wk n t h t2 h2:=by
 intro ρ B w tm ht r;obtain⟨ρ1,g1,g2,g3⟩:=a ρ B w tm ht r;obtain⟨ρ2,k1,k2,k3⟩:=b ρ1 B w tm g1 g2;exact⟨ρ2,k1,k2,g3.trans k3⟩
theorem S.open{x:ICode}{Q:X->Tr AV->Hp->Prop}(j b m e:Nat){a:Bool}{cs:List AV}(ht:t.get j=some (.own b m))(hb:h.tr.get b=some (.cells e true a cs))(hl:cs.length=m*e)(hfl:h.fl<=b)(hbs:b<h.sz)
  (h0:m=0->S P n x Q (t.set j .e0) h) (h1:∀c,m<=c->S P n x Q (t.set j (.sl b 0 m c false)) ⟨h.sz,h.fl,h.tr.set b (.cells e true false (cs++List.replicate ((c-m)*e) .undef))⟩):S P n x Q t h:=by
 intro nt code hc hn ro hro ρ B w ac htr hsz r;obtain⟨g1,g2⟩:=htr _ _ ht;generalize hgv:ac.tmps.getD j undef=gv at g2;cases g2 with
 | own0 _ ad hbn =>
  refine h0 rfl nt code hc hn ro hro ρ B w ac (fun i v hv=>?_) hsz r
  rw[Tr.get_set] at hv;split at hv
  ·rename_i hij;subst hij;cases hv;exact⟨g1,by rw[hgv];exact .e0 _⟩
  ·exact htr i v hv
 | own _ _ c L h3 h4 h5 =>
  obtain⟨q1,co,ty,fz,q2,q3,q4,q5,q6⟩:=r.cells b L _ _ _ cs h3 hb
  have old:∀b' y,((h.tr.set b (.cells e true false (cs++List.replicate ((c-m)*e) .undef))).get b'=some y)->(b'=b∧y = .cells e true false (cs++List.replicate ((c-m)*e) .undef))∨(b'≠b∧h.tr.get b'=some y):=by
   intro b' y hx;rw[Tr.get_set] at hx;split at hx
   ·rename_i h1;cases hx;exact .inl ⟨h1,rfl⟩
   ·rename_i h1;exact .inr ⟨h1,hx⟩
  have olive:∀b' y,((h.tr.set b (.cells e true false (cs++List.replicate ((c-m)*e) .undef))).get b'=some y)->y≠.dead->∃z,h.tr.get b'=some z∧z≠.dead:=by
   intro b' y hx hd;rcases old b' y hx with⟨rfl,rfl⟩|⟨_,g⟩
   ·exact⟨_,hb,by simp⟩
   ·exact⟨y,g,hd⟩
  have hlen:(cs++List.replicate ((c-m)*e) AV.undef).length=c*e:=by
   simp[hl];rw[← Nat.add_mul];congr 1;omega
  have r':Rel σ0 ρ B ⟨h.sz,h.fl,h.tr.set b (.cells e true false (cs++List.replicate ((c-m)*e) .undef))⟩ w:=by
   refine⟨r.dom,?_,?_,?_,?_,?_,r.flr,r.base,?_,r.dn⟩
   ·intro b' L' e1 wf af cs' k1 k2;rcases old b' _ k2 with⟨rfl,g⟩|⟨_,g⟩
    ·cases g;rw[h3] at k1;cases k1;refine⟨q1,co,ty,fz,q2,q3,by rw[hlen,← q1];exact h5,fun i v hv=>?_,fun _=>q6 (by simp)⟩
     by_cases hi:i<cs.length
     ·rw[List.getElem?_append_left hi] at hv;exact q5 i v hv
     ·have hlt:=(List.getElem?_eq_some_iff.1 hv).1;rw[List.getElem?_append_right (by omega),List.getElem?_replicate] at hv;split at hv
      ·cases hv;rw[hlen] at hlt;have hlt2:L.off+i<co.size:=by rw[q3];rw[q1] at h5;omega
       exact⟨co[L.off+i],by simp[hlt2],.undef _⟩
      ·cases hv
    ·exact r.cells _ L' _ _ _ _ k1 g
   ·intro b' L' es k1 k2;rcases old b' _ k2 with⟨rfl,g⟩|⟨_,g⟩
    ·cases g
    ·exact r.maps b' L' es k1 g
   ·intro b1 L1 e1 af1 cs1 k1 k2 b2 L2 y k3 k4 k5 k6;obtain⟨y2,i1,i2⟩:=olive b2 y k4 k5;rcases old b1 _ k2 with⟨rfl,g⟩|⟨_,g⟩
    ·exact r.excl _ L1 _ _ cs k1 hb b2 L2 y2 k3 i1 i2 k6
    ·exact r.excl _ L1 _ _ _ k1 g b2 L2 y2 k3 i1 i2 k6
   ·intro b1 L1 es k1 k2 b2 L2 y k3 k4 k5 k6;obtain⟨y2,i1,i2⟩:=olive b2 y k4 k5;rcases old b1 _ k2 with⟨rfl,g⟩|⟨_,g⟩
    ·cases g
    ·exact r.exclm _ L1 _ k1 g b2 L2 y2 k3 i1 i2 k6
   ·intro b1 L1 e1 wf1 cs1 k1 k2 b2 L2 e2 wf2 af2 cs2 k3 k4 k6;rcases old b1 _ k2 with⟨rfl,g⟩|⟨hne,g⟩
    ·cases g
    ·rcases old b2 _ k4 with⟨rfl,g'⟩|⟨hne',g'⟩
     ·cases g';exact absurd (r.excl _ L2 _ _ cs k3 hb b1 L1 _ k1 g (by simp) k6.symm) hne
     ·exact r.app b1 L1 _ _ _ k1 g b2 L2 _ _ _ _ k3 g' k6
   ·intro k arr hk;refine⟨(r.frz k arr hk).1,fun b' L' y k1 k2 k3=>?_⟩
    obtain⟨y2,i1,i2⟩:=olive b' y k2 k3;exact (r.frz k arr hk).2 b' L' y2 k1 i1 i2
  refine wpIn_mono (h1 c h4 nt code hc hn ro hro ρ B w ac (fun i v hv=>?_) hsz r') ?_
  ·rw[Tr.get_set] at hv;split at hv
   ·rename_i hij;subst hij;cases hv;refine⟨g1,?_⟩;rw[hgv];exact .sl b 0 m c c false L h3 (.inl rfl)
   ·exact htr i v hv
  ·intro e2 a2 w2 hp
   have kk:Kep n ρ B h w ρ ⟨h.sz,h.fl,h.tr.set b (.cells e true false (cs++List.replicate ((c-m)*e) .undef))⟩ w:=by
    refine⟨fun _ _=>rfl,hn,rfl,fun b' k1 k2=>?_,fun _ _=>rfl,Nat.le_refl _,⟨rfl,rfl⟩,fun _ _ h=>h,fun _ _ h=>.inl h,fun _ _ h=>h⟩
    show (h.tr.set b _).get b'=_;rw[Tr.get_set,if_neg (by omega)]
   exact ju.weaken kk hp
end Go.Kc
end
section
/- Functions that the model itself answers: an index of a byte, how strings compare, whether rows overlap. Condition: the functions are these. -/
namespace Go.Kc
variable {P:Program} {f:Nat}

def qed(P:Program)(f:Nat)(e:Array Value->Sem Value):Prop:=∀args w,(callFunc f args).run P w=((e args).run P w).andThen fun v w'=>.ok (.value v) w'
theorem qed.of{fn:Func}{e:Array Value->Sem Value}(hf:P.funcs[f]?=some fn)(hname:(fn.name == "runtime.NumGoroutine")=false)(hb:fn.body.isNone=true)(hn:Extern.findNext fn=none)(he:Extern.find fn=some e):qed P f e :=
 fun args w=>run_callFunc_extern hf hname hb hn he args w
theorem qed.pure{e:Array Value->Sem Value}{vs:List AV}{v:AV}(h:qed P f e)(hr:∀ρ (args:Array Value) w,VRs σ0 ρ vs args.toList->∃v',(e args).run P w = .ok v' w∧VR σ0 ρ v v'):qf P f vs v:=by
 intro hp k hk;refine⟨trivial,fun ρ B w args r ha=>?_⟩
 obtain⟨v',h1,h2⟩:=hr ρ args w ha;exact .inr ⟨v',w,by rw[h,h1];rfl,v,v',hp,ρ,rfl,hk,h2,r,Kept.refl _ _ _ _⟩

theorem qjM{y:List UInt8}:ltS [] y = !y.isEmpty:=by cases y<;>rfl
theorem qcZ{c:UInt8}{x:List UInt8}:ltS (c::x) []=false:=rfl
theorem qcY{c d:UInt8}{x y:List UInt8}:ltS (c::x) (d::y)=if c<d then true else if c=d then ltS x y else false:=by
 rw[QC,QC];simp only[Op.bytesLess]
 by_cases h1:c<d
 ·simp[h1]
 ·by_cases h2:c=d
  ·simp[h2]
  ·simp[h1,h2]
end Go.Kc
end
section
/- Calls that shrink a row lent. No condition. -/
namespace Go.Kc
variable {P:Program}
end Go.Kc
end
section
/- Pure calls to which rows of one's own are given for good. No condition. -/
namespace Go.Kc
variable {P:Program} {h:Hp}

theorem Rel.sub{ρ:Ren}{B:Nat->Prop}{h h':Hp}{w:World}(r:Rel σ0 ρ B h w)(hs:h'.sz=h.sz)(hf:h'.fl=h.fl)(hg:∀b x,h'.tr.get b=some x->x≠.dead->h.tr.get b=some x):Rel σ0 ρ B h' w :=
 ⟨fun b L hb=>by rw[hs];exact r.dom b L hb,fun b L e wf af cs hb hx=>r.cells b L e wf af cs hb (hg _ _ hx (by simp)),fun b L es hb hx=>r.maps b L es hb (hg _ _ hx (by simp)),
  fun b L e af cs hb hx b' L' x hb' hx' hd=>r.excl b L e af cs hb (hg _ _ hx (by simp)) b' L' x hb' (hg _ _ hx' hd) hd,fun b L es hb hx b' L' x hb' hx' hd=>r.exclm b L es hb (hg _ _ hx (by simp)) b' L' x hb' (hg _ _ hx' hd) hd,
  fun b L e wf cs hb hx b' L' e' wf' af' cs' hb' hx'=>r.app b L e wf cs hb (hg _ _ hx (by simp)) b' L' e' wf' af' cs' hb' (hg _ _ hx' (by simp)),fun b L hb hf'=>r.flr b L hb (by rw[← hf];exact hf'),r.base,
  fun k arr hk=>⟨(r.frz k arr hk).1,fun b L x hb hx hd=>(r.frz k arr hk).2 b L x hb (hg _ _ hx hd) hd⟩,by rw[hs];exact r.dn⟩
end Go.Kc
end
section
/- The last step from the abstract machine to a row: what a run keeps of the world; the tree of the code; a law's call. No condition. -/
namespace Go.Kc
variable {P:Program} {env:Tr IFn} {ho:yi}

inductive OkT (P:Program):Nat->Nat->Tr IFn->Prop where
 | leaf (a b:Nat):OkT P a b .leaf
 | no (a b:Nat) {l r:Tr IFn}:OkT P (2*a) (a+b) l->OkT P (2*a) (2*a+b) r->OkT P a b (.node none l r)
 | fn (a b:Nat) {i:IFn} {l r:Tr IFn}:qt P b i=true->OkT P (2*a) (a+b) l->OkT P (2*a) (2*a+b) r->OkT P a b (.node (some i) l r)

theorem OkT.get{a b:Nat}{t:Tr IFn}(h:OkT P a b t):∀n i,t.get n=some i->qt P (a*n+b) i=true:=by
 induction h with
 | leaf=>intro n i h;simp at h
 | no a b hl hr ihl ihr =>
  intro n i h;cases n with
  | zero=>rw[Tr.get_node] at h;cases h
  | succ m =>
   rcases Nat.mod_two_eq_zero_or_one m with h0|h0
   ·obtain⟨j,rfl⟩:∃j,m=2*j:=⟨m / 2,by omega⟩
    rw[Tr.get_node] at h;simp only[h0,if_true,Nat.mul_div_cancel_left j (Nat.zero_lt_two)] at h;have:=ihl j i h;rwa [show 2*a*j+(a+b)=a*(2*j+1)+b from by rw[Nat.mul_add,Nat.mul_one,← Nat.mul_assoc,Nat.mul_comm a 2];omega] at this
   ·obtain⟨j,rfl⟩:∃j,m=2*j+1:=⟨m / 2,by omega⟩
    rw[Tr.get_node] at h;simp only[h0,Nat.one_ne_zero,if_false,show (2*j+1) / 2=j from by omega] at h
    have:=ihr j i h;rwa [show 2*a*j+(2*a+b)=a*(2*j+1+1)+b from by rw[Nat.mul_add,Nat.mul_add,Nat.mul_one,← Nat.mul_assoc,Nat.mul_comm a 2];omega] at this
 | fn a b hc hl hr ihl ihr =>
  intro n i h;cases n with
  | zero=>rw[Tr.get_node] at h;cases h;simpa using hc
  | succ m =>
   rcases Nat.mod_two_eq_zero_or_one m with h0|h0
   ·obtain⟨j,rfl⟩:∃j,m=2*j:=⟨m / 2,by omega⟩
    rw[Tr.get_node] at h;simp only[h0,if_true,Nat.mul_div_cancel_left j (Nat.zero_lt_two)] at h;have:=ihl j i h;rwa [show 2*a*j+(a+b)=a*(2*j+1)+b from by rw[Nat.mul_add,Nat.mul_one,← Nat.mul_assoc,Nat.mul_comm a 2];omega] at this
   ·obtain⟨j,rfl⟩:∃j,m=2*j+1:=⟨m / 2,by omega⟩
    rw[Tr.get_node] at h;simp only[h0,Nat.one_ne_zero,if_false,show (2*j+1) / 2=j from by omega] at h
    have:=ihr j i h;rwa [show 2*a*j+(2*a+b)=a*(2*j+1+1)+b from by rw[Nat.mul_add,Nat.mul_add,Nat.mul_one,← Nat.mul_assoc,Nat.mul_comm a 2];omega] at this

theorem OkT.envOk{t:Tr IFn}(h:OkT P 1 0 t):QT P t:=fun f i hg=>by
 have:=h.get f i hg;rwa [Nat.one_mul] at this

theorem Kept.same{ρ ρ':Ren}{h h':Hp}{w w':World}(k:Kept ρ (low w.heap.size) h w ρ' h' w')(may:MemPlace->Prop):w.keptBut w' may:=by
 refine⟨k.io.1,k.io.2,fun i hi=>?_⟩
 have e:=k.pres i hi;rw[e];cases w.heap[i]? with
 | none=>rfl
 | some o=>cases o<;>simp
noncomputable def qjr(w:World):Nat->Option (Array Value):=fun k=>match w.heap[k]? with|some (.cells arr _ _)=>some arr|_=>none
theorem qaI{w:World}{k:Nat}{arr:Array Value}:qjr w k=some arr↔∃ty fz,w.heap[k]?=some (.cells arr ty fz):=by
 show (match w.heap[k]? with|some (.cells arr _ _)=>some arr|_=>none)=some arr↔_
 cases w.heap[k]? with
 | none=>simp
 | some o=>cases o<;>simp
noncomputable def ice(w:World) [t:TabOk w]:Ren:=⟨fun _=>none,⟨qjr w,fun k a h=>qaI.2 (t.ok k a h)⟩,0⟩
theorem qjs{w:World} [TabOk w]{k:Nat}{arr:Array Value}:(ice w).frz k=some arr↔∃ty fz,w.heap[k]?=some (.cells arr ty fz):=qaI
theorem Rel.ice(w:World) [TabOk w]:Rel σ0 (ice w) (low w.heap.size) H0 w :=
 ⟨(fun _ _ hb=>by cases hb),(fun _ _ _ _ _ _ hb=>by cases hb),(fun _ _ _ hb=>by cases hb),(fun _ _ _ _ _ hb=>by cases hb),(fun _ _ _ hb=>by cases hb),(fun _ _ _ _ _ hb=>by cases hb),(fun _ _ hb=>by cases hb),(fun _ h=>h),
  (fun k arr hk=>⟨qjs.1 hk,fun _ _ _ hb=>by cases hb⟩),Nat.le_refl _⟩
theorem qf.law{f:Nat}{vs:List AV}{args:Array Value}(hp:qf P f vs (.b true))(hc:qd5 P f)(w:World) [TabOk w](ha:VRs σ0 (ice w) vs args.toList):Calls P f args w fun e w'=>e = .returned (.bool true)∧∀may,w.keptBut w' may:=by
 have h:=(hp H0 (fun v _=>v = .b true) rfl).2 (ice w) (low w.heap.size) w args (Rel.ice w) ha
 rcases h with⟨_,h⟩|⟨v,w',h,_⟩
 ·refine h.mono fun e w' hh=>?_
  obtain⟨v,v',h',ρ',rfl,rfl,hv,_,hk⟩:=hh;cases hv;exact⟨rfl,fun may=>hk.same may⟩
 ·obtain⟨fn,h1,h2,h3⟩:=hc;rw[vJ h1 h2 h3] at h;cases h
theorem qcA{f:Nat}{i:IFn}(hc:qt P f i=true):qd5 P f:=by
 unfold qt at hc;split at hc<;>try (cases hc;done)
 rename_i fn hfn;simp only[Bool.and_eq_true,bne_iff_ne] at hc;obtain⟨⟨hname,hbody⟩,hres⟩:=hc;split at hbody<;>try (cases hbody;done)
 rename_i c hcb;exact⟨fn,hfn,hname,by rw[hcb];rfl⟩
end Go.Kc
end
section
/- Arguments of structs and rows, opened: what reads as data is a value of the abstract machine; what stays reads as before. Conditions: on the types, with each theorem. -/
namespace Go.Kc
section
variable {H:Type} {enc:TypeId×Value->H} {P:Program} {w:World} {α β:Type} {t e:TypeId}
theorem CRs.app{φ:Nat->Option (Array Value)}:∀{as bs:List AV} {us vs:List Value},CRs σ0 φ as us->CRs σ0 φ bs vs->CRs σ0 φ (as++bs) (us++vs)
 | _,_,_,_,.nil,h=>h
 | _,_,_,_,.cons v l v' l' h hs,h2=>.cons _ _ _ _ h (CRs.app hs h2)
def QU(enc:TypeId×Value->H)(P:Program)(w:World)(t:TypeId)(I:α->Prop)(E:α->List AV):Prop :=
 ∀(fuel:Nat) (cs:List Value) x,DataW.trod enc P w 0 (fun _=>true) true fuel t cs=some x->∃a,I a∧CRs σ0 (qjr w) (E a) cs
theorem qof{k:IntKind}(ht:P.underlying t=some (.int k)):QU enc P w t (fun n:Int=>(Lit.int k n).wf=true) (fun n=>[.i k n]):=by
 intro fuel cs x h;obtain⟨n,rfl,_,hw⟩:=DataW.trod_int ht h;exact⟨n,hw,.cons _ _ _ _ (.i _ _) .nil⟩
theorem qiT{a:Addr}{v:Value}(h:w.cell? a=some v):a.spot=none∧∃arr ty fz,w.heap[a.block]?=some (.cells arr ty fz)∧arr[a.off]?=some v:=by
 unfold World.cell? at h;split at h
 ·rename_i c ty fz hc;split at h
  ·cases h
  ·rename_i hs;refine⟨by simpa using hs,c,ty,fz,hc,h⟩
 ·cases h
theorem qk5{I:α->Prop}{E:α->List AV}{m:Nat}(ht:P.underlying t=some (.slice e))(he:QU enc P w e I E)(hE:∀a,(E a).length=m)(hc:P.cellsOf e=m)(hm:0<m) :
  QU enc P w t (fun l:List α=>l.length<=maxLen∧∀a ∈ l,I a) (fun l=>[.fz l.length (l.flatMap E)]):=by
 intro fuel cs x h;rcases DataW.trod_slice ht h with⟨rfl,_⟩|⟨a,len,cap,elems,rest,n,_,rfl,_,_,hl,hmx,hlen,hel,hsp,_⟩
 ·exact⟨[],⟨Nat.zero_le _,fun _ h=>by cases h⟩,.cons _ _ _ _ (.fz0 none) .nil⟩
 obtain⟨hrl,hr⟩:=hsp rfl;rcases Nat.eq_zero_or_pos cap with h0|hpos
 ·subst h0;obtain rfl:len=0:=by omega
  exact⟨[],⟨Nat.zero_le _,fun _ h=>by cases h⟩,.cons _ _ _ _ (.fz0 (some a)) .nil⟩
 have first:∃v,w.cell? a=some v:=by
  have:∃cs',w.cells? 0 (a.add (0*P.cellsOf e)) (P.cellsOf e)=some cs':=by
   rcases Nat.eq_zero_or_pos len with h1|h1
   ·have:=hr 0 (by omega);have hlt:0<rest.length:=by omega
    rw[List.getElem?_eq_getElem hlt,Option.bind_eq_some_iff] at this;obtain⟨c,hc',_⟩:=this;subst h1;exact⟨c,hc'⟩
   ·have:=hel 0 h1;have hlt:0<elems.length:=by omega
    rw[List.getElem?_eq_getElem hlt,Option.bind_eq_some_iff] at this;obtain⟨c,hc',_⟩:=this;exact⟨c,hc'⟩
  obtain⟨cs',h2⟩:=this;obtain⟨_,q1,q2⟩:=World.cells?_some h2;have:=q2 0 (by omega);rw[List.getElem?_eq_getElem (by omega)] at this;simp only[Nat.zero_mul,Addr.add,if_true] at this;exact⟨_,this⟩
 obtain⟨v0,hv0⟩:=first
 obtain⟨hs,arr,ty,fz,hb,_⟩:=qiT hv0
 have key:∀k,k<=len->∃l:List α,l.length=k∧(∀b ∈ l,I b)∧CRs σ0 (qjr w) (l.flatMap E) ((arr.toList.drop a.off).take (k*m)):=by
  intro k
  induction k with
  | zero=>intro _;exact⟨[],rfl,(fun _ h=>by cases h),by simpa using .nil⟩
  | succ k ih =>
   intro hk;obtain⟨l,h1,h2,h3⟩:=ih (by omega);have hk':=hel k (by omega);have hlt:k<elems.length:=by omega
   rw[List.getElem?_eq_getElem hlt,Option.bind_eq_some_iff] at hk';obtain⟨c,hcs,htr⟩:=hk';obtain⟨_,q1,q2⟩:=World.cells?_some hcs;obtain⟨b,hb1,hb2⟩:=he _ _ _ htr
   have e1:c=((arr.toList.drop a.off).drop (k*m)).take m:=by
    refine List.ext_getElem? fun j=>?_
    by_cases hj:j<m
    ·have:=q2 j (by omega);rw[← this]
     have e2:w.cell? ((a.add (k*P.cellsOf e)).add j)=arr[a.off+(k*m+j)]?:=by
      have ha:(a.add (k*P.cellsOf e)).add j=⟨a.block,a.off+(k*m+j),none⟩:=by
       unfold Addr.add;rw[hc];split
       ·split
        ·rename_i h4 h5;rw[h4,h5];cases a;simp_all
        ·rename_i h4 h5;rw[h4];simp[hs]
       ·split
        ·rename_i h4 h5;rw[h5];cases a;simp_all
        ·simp;omega
      rw[ha];simp[World.cell?,hb]
     rw[e2,List.getElem?_take_of_lt hj,List.getElem?_drop,List.getElem?_drop];simp[Array.getElem?_toList]
    ·rw[List.getElem?_eq_none (by omega),List.getElem?_eq_none];simp;omega
   refine⟨l++[b],by simp[h1],fun x hx=>?_,?_⟩
   ·rcases List.mem_append.1 hx with hx|hx
    ·exact h2 x hx
    ·obtain rfl:=List.mem_singleton.1 hx;exact hb1
   ·rw[List.flatMap_append,Nat.succ_mul,List.take_add,← e1];simpa using h3.app hb2
 obtain⟨l,h1,h2,h3⟩:=key len (Nat.le_refl _);refine⟨l,⟨by omega,h2⟩,.cons _ _ _ _ ?_ .nil⟩
 have hfl:(l.flatMap E).length=len*m:=by
  rw[← h1];clear h1 h2 h3
  induction l with
  | nil=>simp
  | cons x l ih=>simp[hE,ih,Nat.succ_mul,Nat.add_comm]
 obtain⟨blk,off,spot⟩:=a;cases hs;rw[h1];exact .fz len off cap _ blk arr hl (qaI.2 ⟨ty,fz,hb⟩) (by rw[hfl];exact h3)
theorem QU.map{I:α->Prop}{E:α->List AV}{J:β->Prop}{F:β->List AV}(h:QU enc P w t I E)(g:α->β)(hg:∀a,I a->J (g a)∧F (g a)=E a):QU enc P w t J F:=by
 intro fuel cs x hx;obtain⟨a,ha,h1⟩:=h _ _ _ hx;exact⟨g a,(hg a ha).1,by rw[(hg a ha).2];exact h1⟩
theorem QU.agg [TabOk w]{I:α->Prop}{E:α->List AV}(h:QU enc P w t I E){v:Value}{d:DataW H}{p:List MemPlace}(ha:∃cs,v = .agg cs)(hd:DataW.Trod enc P w 0 (fun _=>true) true t v d p):∃a,I a∧VR σ0 (ice w) (.agg (E a)) v:=by
 obtain⟨cs,rfl⟩:=ha;obtain⟨fuel,hd⟩:=hd;obtain⟨a,h1,h2⟩:=h _ _ _ hd;exact⟨a,h1,.agg _ _ h2.vr⟩
theorem qcd{w':World}(hk:∀may,w.keptBut w' may){p:MemPlace}(hp:p.block<w.heap.size):w.sameAt w' p:=by
 have h:=(hk fun _=>False).2.2 p.block hp
 have h0:w.heap[p.block]?=some w.heap[p.block]:=Array.getElem?_eq_getElem hp;cases p with
 | cell b off =>
  show w'.cell? ⟨b,off,none⟩=w.cell? ⟨b,off,none⟩;simp only[MemPlace.block] at h h0 hp;unfold World.cell?;split at h
  ·rename_i c1 t1 f1 c2 t2 f2 e1 e2;dsimp only;rw[e1,e2];simpa using h.2.2.2 off (fun hh=>hh)
  ·rename_i e1 e2;dsimp only;rw[e1,e2]
  ·dsimp only;rw[h]
 | map b =>
  show w'.heap[b]?=w.heap[b]?;simp only[MemPlace.block] at h h0 hp;split at h
  ·rename_i c1 t1 f1 c2 t2 f2 e1 e2
   have:c2=c1:=by
    apply Array.ext_getElem?;intro j;exact h.2.2.2 j (fun hh=>hh)
   rw[e1,e2,h.1,h.2.1,this]
  ·rename_i e1 e2;rcases h with hh|⟨h1,h2⟩
   ·exact hh.elim
   ·rw[e1,e2,h1,h2]
  ·exact h
theorem Trod.stay{w':World}{T:TypeId->Prop}(K:Kids P T)(hz:∀t e,T t->P.underlying t=some (.slice e)->0<P.cellsOf e){ts:List TypeId}{vs:List Value}{ds:List (DataW H)}{ps:List MemPlace}(hT:∀t ∈ ts,T t)
  (h:DataW.TrodAll enc P w 0 (fun _=>true) true ts vs ds ps) (hk:∀may,w.keptBut w' may):DataW.TrodAll enc P w' 0 (fun b=>decide (b<w.heap.size)) true ts vs ds ps:=by
 have hlt:=DataW.TrodAll.lt h;have h1:DataW.TrodAll enc P w 0 (fun b=>decide (b<w.heap.size)) true ts vs ds ps:=h.respare K hz hT fun p hp=>decide_eq_true (hlt p hp)
 clear h
 induction ts generalizing vs ds ps with
 | nil =>
  cases vs<;>cases ds<;>first|exact h1|exact h1.elim
 | cons t ts ih =>
  cases vs with
  | nil=>exact h1.elim
  | cons v vs =>
   cases ds with
   | nil=>exact h1.elim
   | cons d ds =>
    obtain⟨p,q,⟨fuel,h2⟩,h3,e⟩:=h1;subst e;refine⟨p,q,⟨fuel,DataW.trod_carry _ _ _ _ h2 fun x hx=>qcd hk (hlt x (List.mem_append_left _ hx))⟩,?_,rfl⟩
    exact ih (fun t ht=>hT t (List.mem_cons_of_mem _ ht)) (fun x hx=>hlt x (List.mem_append_right _ hx)) h3
end
end Go.Kc
namespace Go.Kc
theorem qni{k:IntKind}{l:List Int}:l.flatMap (fun n=>[AV.i k n])=l.map (.i k):=by
 induction l with
 | nil=>rfl
 | cons x l ih=>simp[ih]
theorem qkj{P:Program}{H:Type}{enc:TypeId×Value->H}{f:Func}{s:ChangeSpec}{apart fresh handsOn:Bool}{W W':World}{args:Array Value}{v:Value}{ds gs:List (DataW H)}{before pv:List MemPlace}
  (hW:DataW.Whole enc P f.params.toList s.vars apart W args.toList ds gs before) (hs:(s.fn H (ds++gs)).args=ds)
  {T:TypeId->Prop} (K:Kids P T) (hz:∀t e,T t->P.underlying t=some (.slice e)->0<P.cellsOf e) (hT:∀t ∈ f.params.toList,T t)
  (hres:∀(b:Nat) (sp:Nat->Bool) (hd:Bool),DataW.TrodAll enc P W' b sp hd f.resultTypes.toList (v.resultList f.resultTypes.size) (s.fn H (ds++gs)).results [])
  (hvars:∀sp:Nat->Bool,DataW.TrodVars enc P W' sp s.vars (s.fn H (ds++gs)).vars pv)
  (hk:∀may,W.keptBut W' may):s.post enc P f apart fresh handsOn false W args v W':=by
 have hW':=hW;obtain⟨p,q,hA,_,_⟩:=hW';exact⟨ds,gs,before,[],p,pv,hW,hres _ _ _,by rw[hs];exact Trod.stay K hz hT hA hk,hvars _,hk _,fun h=>by cases h⟩
end Go.Kc
end
section
/- A call on known data whose answer the kernel compares with a value that names no block. No condition. -/
namespace Go.Kc
variable {P:Program} {env:Tr IFn} {ho:yi}
def kOf:IntKind->Nat
 | .i8=>0 | .i16=>1 | .i32=>2 | .i64=>3 | .u8=>4 | .u16=>5 | .u32=>6 | .u64=>7
theorem qjF{a b:IntKind}(h:Nat.beq (kOf a) (kOf b)=true):a=b:=by
 cases a<;>cases b<;>first|rfl|cases h
def qo8:Int->Int->Bool
 | .ofNat a,.ofNat b=>Nat.beq a b
 | .negSucc a,.negSucc b=>Nat.beq a b
 | _,_=>false
theorem qjv:∀{a b:Int},qo8 a b=true->a=b
 | .ofNat a,.ofNat b,h=>by rw[Nat.eq_of_beq_eq_true h]
 | .negSucc a,.negSucc b,h=>by rw[Nat.eq_of_beq_eq_true h]
 | .ofNat _,.negSucc _,h=>by cases h
 | .negSucc _,.ofNat _,h=>by cases h
mutual
noncomputable def jw(h:Hp):AV->AV->Bool
 | .b x,v=>match v with | .b y=>(x&&y)||(!x && !y)|_=>false
 | .i k n,v=>match v with | .i k' m=>Nat.beq (kOf k) (kOf k')&&qo8 n m|_=>false
 | .s x,v=>match v with | .s y=>eqS x y|_=>false
 | .nils,v=>match v with | .nils=>true|_=>false
 | .nilp,v=>match v with | .nilp=>true|_=>false
 | .nilf,v=>match v with | .nilf=>true|_=>false
 | .nili,v=>match v with | .nili=>true|_=>false
 | .nilm,v=>match v with | .nilm=>true|_=>false
 | .agg cs',v=>match v with | .agg cs=>QZ h cs' cs|_=>false
 | .tup cs',v=>match v with | .tup cs=>QZ h cs' cs|_=>false
 | .fz n cs',v=>match v with
  | .nils=>Nat.beq n 0&&cs'.isEmpty
  | .sl b o m c _=>Nat.beq n m&&Nat.ble m c && !(Nat.beq c 0)&&(match h.tr.get b with|some (.cells _ true _ cs)=>Nat.ble (o+cs'.length) cs.length&&QZ h cs' ((cs.drop o).take cs'.length)|_=>false)
  | .own b m=>Nat.beq n m && !(Nat.beq m 0)&&(match h.tr.get b with|some (.cells _ true _ ys)=>QZ h cs' ys|_=>false)
  | _=>false
 | _,_=>false
noncomputable def QZ(h:Hp):List AV->List AV->Bool
 | [],vs=>vs.isEmpty
 | v'::vs',vs=>match vs with|v::vs=>jw h v' v&&QZ h vs' vs | []=>false
end
theorem qi5{x y:List UInt8}(h:eqS x y=true):x=y:=by
 rw[xV] at h;simpa using h
mutual
theorem qd9{h:Hp}:∀(v' v:AV),jw h v' v=true->Frz h v v'
 | .b x,v,hb=>by
  unfold jw at hb;split at hb<;>first|(cases hb;done)|skip
  rename_i y;have:y=x:=by cases x<;>cases y<;>first|rfl|cases hb
  subst this;exact .b _
 | .i k n,v,hb=>by
  unfold jw at hb;split at hb<;>first|(cases hb;done)|skip
  simp only[Bool.and_eq_true] at hb;obtain rfl:=qjF hb.1;obtain rfl:=qjv hb.2;exact .i _ _
 | .s x,v,hb=>by
  unfold jw at hb;split at hb<;>first|(cases hb;done)|skip
  obtain rfl:=qi5 hb;exact .s _
 | .nils,v,hb=>by unfold jw at hb;split at hb<;>first|(cases hb;done)|exact .nils
 | .nilp,v,hb=>by unfold jw at hb;split at hb<;>first|(cases hb;done)|exact .nilp
 | .nilf,v,hb=>by unfold jw at hb;split at hb<;>first|(cases hb;done)|exact .nilf
 | .nili,v,hb=>by unfold jw at hb;split at hb<;>first|(cases hb;done)|exact .nili
 | .nilm,v,hb=>by unfold jw at hb;split at hb<;>first|(cases hb;done)|exact .nilm
 | .agg cs',v,hb=>by
  unfold jw at hb;split at hb<;>first|(cases hb;done)|skip
  exact .agg _ _ (kD cs' _ hb)
 | .tup cs',v,hb=>by
  unfold jw at hb;split at hb<;>first|(cases hb;done)|skip
  exact .tup _ _ (kD cs' _ hb)
 | .fz n cs',v,hb=>by
  unfold jw at hb;split at hb<;>first|(cases hb;done)|skip
  ·simp only[Bool.and_eq_true] at hb;obtain rfl:=Nat.eq_of_beq_eq_true hb.1;have:cs'=[]:=by simpa using hb.2
   rw[this];exact .nilz
  ·simp only[Bool.and_eq_true] at hb;obtain⟨⟨⟨h1,h2⟩,h3⟩,h4⟩:=hb;obtain rfl:=Nat.eq_of_beq_eq_true h1;split at h4<;>first|(cases h4;done)|skip
   rename_i hg;simp only[Bool.and_eq_true] at h4;refine .sl _ _ _ _ _ _ _ _ cs'.length _ hg (Nat.le_of_ble_eq_true h2) (Nat.le_of_ble_eq_true h4.1) (fun h0=>?_) (kD cs' _ h4.2)
   subst h0;cases h3
  ·simp only[Bool.and_eq_true] at hb;obtain⟨⟨h1,h2⟩,h4⟩:=hb;obtain rfl:=Nat.eq_of_beq_eq_true h1;split at h4<;>first|(cases h4;done)|skip
   rename_i hg;refine .own _ _ _ _ _ _ hg (fun h0=>?_) (kD cs' _ h4)
   subst h0;cases h2
 | .undef,v,hb=>by unfold jw at hb;cases hb
 | .ptr _ _,v,hb=>by unfold jw at hb;cases hb
 | .sl _ _ _ _ _,v,hb=>by unfold jw at hb;cases hb
 | .fn _ _ _,v,hb=>by unfold jw at hb;cases hb
 | .ifc _ _,v,hb=>by unfold jw at hb;cases hb
 | .map _,v,hb=>by unfold jw at hb;cases hb
 | .sym _,v,hb=>by unfold jw at hb;cases hb
 | .pf _ _,v,hb=>by unfold jw at hb;cases hb
 | .e0,v,hb=>by unfold jw at hb;cases hb
 | .own _ _,v,hb=>by unfold jw at hb;cases hb
 | .nz,v,hb=>by unfold jw at hb;cases hb
 | .yl _,v,hb=>by unfold jw at hb;cases hb
 | .lp _,v,hb=>by unfold jw at hb;cases hb
theorem kD{h:Hp}:∀(vs' vs:List AV),QZ h vs' vs=true->Frzs h vs vs'
 | [],vs,hb=>by
  unfold QZ at hb;have:vs=[]:=by simpa using hb
  rw[this];exact .nil
 | v'::vs',vs,hb=>by
  unfold QZ at hb;split at hb<;>first|(cases hb;done)|skip
  simp only[Bool.and_eq_true] at hb;exact .cons _ _ _ _ (qd9 v' _ hb.1) (kD vs' _ hb.2)
end
noncomputable def tt(b:Bool):Prop:=Bool.rec (motive:=fun _=>Prop) False True b
theorem qpM{b:Bool}(h:tt b):b=true:=by cases b with|true=>rfl|false=>exact h.elim
theorem qf.runF(he:QT P env)(hh:yz P ho)(m:Nat){f:Nat}{vs:List AV}{v:AV}(hcl:qw vs=true)(hk:yt env ho (fv env ho m) f vs H0 (fun v' h'=>tt (jw h' v v'))=True):qf P f vs v :=
 qf.of_SC hcl ((SC.run he hh m (of_eq_true hk)).mono fun v' h' hv=>qd9 _ _ (qpM hv))
end Go.Kc
end
section
/- The code of a run, checked at once; short forms for its tree and for tables. No condition. -/
namespace Go.Kc
variable {P:Program}
noncomputable def okB(P:Program):Tr IFn->Nat->Nat->Bool:=fun t=>Tr.rec (motive:=fun _=>Nat->Nat->Bool) (fun _ _=>true) (fun v _ _ il ir a b=>(match v with|none=>true|some i=>qt P b i)&&(il (2*a) (a+b)&&ir (2*a) (2*a+b))) t
theorem qaT:∀(t:Tr IFn) (a b:Nat),okB P t a b=true->OkT P a b t
 | .leaf,a,b,_=>.leaf a b
 | .node none l r,a,b,h=>by
  have h':(true&&(okB P l (2*a) (a+b)&&okB P r (2*a) (2*a+b)))=true:=h;simp only[Bool.and_eq_true] at h';exact .no a b (qaT l _ _ h'.2.1) (qaT r _ _ h'.2.2)
 | .node (some i) l r,a,b,h=>by
  have h':(qt P b i&&(okB P l (2*a) (a+b)&&okB P r (2*a) (2*a+b)))=true:=h;simp only[Bool.and_eq_true] at h';exact .fn a b h'.1 (qaT l _ _ h'.2.1) (qaT r _ _ h'.2.2)
theorem qp0{t:Tr IFn}(h:okB P t 1 0=true):QT P t:=(qaT t 1 0 h).envOk
def Tr.o(l r:Tr IFn):Tr IFn:=.node none l r
def Tr.f(i:IFn):Tr IFn:=.node (some i) .leaf .leaf
def Tr.g(i:IFn)(l r:Tr IFn):Tr IFn:=.node (some i) l r
end Go.Kc
end
section
/- An array among a law's arguments, opened. No condition. -/
namespace Go.Kc

variable {P:Program} {H:Type} {enc:TypeId×Value->H} {w:World} {t e:TypeId} {α:Type}
end Go.Kc
end
section
/- Calls that answer rows of one's own, their arguments lent. No condition. -/
namespace Go.Kc
variable {P:Program}
mutual
def wu:AV->Bool
 | .map _=>false
 | .fz _ _=>false
 | .pf _ _=>false
 | .sym _=>false
 | .fn _ a c=>wv a&&wv c
 | .ifc _ v=>wu v
 | .agg cs=>wv cs
 | .tup cs=>wv cs
 | .ptr _ _=>true | .sl _ _ _ _ _=>true | .own _ _=>true
 | .undef=>true | .b _=>true | .i _ _=>true | .s _=>true | .nilp=>true | .nils=>true | .nilf=>true | .nili=>true | .nilm=>true | .e0=>true | .nz=>true | .yl _=>true | .lp _=>true
def wv:List AV->Bool
 | []=>true
 | v::vs=>wu v&&wv vs
end
mutual
theorem VR.thaw{ρ:Ren}{φ:Fz}:∀{a:AV} {v:Value},VR σ0 ρ a v->wu a=true->VR σ0 ⟨ρ.loc,φ,ρ.n⟩ a v
 | _,_,.undef v,_=>.undef v
 | _,_,.b x,_=>.b x
 | _,_,.i k n,_=>.i k n
 | _,_,.s x,_=>.s x
 | _,_,.nilp,_=>.nilp
 | _,_,.ptr b o L h,_=>.ptr b o L h
 | _,_,.nils,_=>.nils
 | _,_,.sl b o len cap c loose L h hc,_=>.sl b o len cap c loose L h hc
 | _,_,.slz b o x l L h,_=>.slz b o x l L h
 | _,_,.nilf,_=>.nilf
 | _,_,.fn f first cap first' cap' h1 h2,hc=>by
  simp only[wu,Bool.and_eq_true] at hc;exact .fn _ _ _ _ _ (h1.thaw hc.1) (h2.thaw hc.2)
 | _,_,.nili,_=>.nili
 | _,_,.ifc t v v' h,hc=>by simp only[wu] at hc;exact .ifc _ _ _ (h.thaw hc)
 | _,_,.agg cs cs' h,hc=>by simp only[wu] at hc;exact .agg _ _ (h.thaw hc)
 | _,_,.tup cs cs' h,hc=>by simp only[wu] at hc;exact .tup _ _ (h.thaw hc)
 | _,_,.nilm,_=>.nilm
 | _,_,.map b L h h0,hc=>by simp[wu] at hc
 | _,_,.sym j,hc=>by simp[wu] at hc
 | _,_,.fz n off c cs k arr hn h hs,hc=>by simp[wu] at hc
 | _,_,.fz0 a,hc=>by simp[wu] at hc
 | _,_,.pf off base cs k arr h hs,hc=>by simp[wu] at hc
 | _,_,.e0 a,_=>.e0 a
 | _,_,.nz a c,_=>.nz a c
 | _,_,.own0 b a hb,_=>.own0 b a hb
 | _,_,.own b n c L h hn hc,_=>.own b n c L h hn hc
 | _,_,.yl b L h,_=>.yl b L h
theorem VRs.thaw{ρ:Ren}{φ:Fz}:∀{a:List AV} {v:List Value},VRs σ0 ρ a v->wv a=true->VRs σ0 ⟨ρ.loc,φ,ρ.n⟩ a v
 | _,_,.nil,_=>.nil
 | _,_,.cons v vs v' vs' h hs,hc=>by
  simp only[wv,Bool.and_eq_true] at hc;exact .cons _ _ _ _ (h.thaw hc.1) (hs.thaw hc.2)
end
theorem qaB:∀{cs:List AV} {j:Nat} {v:AV},wv cs=true->cs[j]?=some v->wu v=true
 | [],_,_,_,h=>by simp at h
 | c::cs,0,v,hf,h=>by
  simp only[wv,Bool.and_eq_true] at hf;simp at h;rw[← h];exact hf.1
 | c::cs,j+1,v,hf,h=>by
  simp only[wv,Bool.and_eq_true] at hf;exact qaB hf.2 (by simpa using h)
def qg0:Blk->Bool
 | .cells _ _ _ cs=>wv cs
 | _=>false
theorem Rel.thaw{ρ:Ren}{φ:Fz}{B:Nat->Prop}{h:Hp}{w:World}(r:Rel σ0 ρ B h w)(hφ:∀k a,φ k=some a->ρ.frz k=some a)(hh:∀b x,h.tr.get b=some x->qg0 x=true):Rel σ0 ⟨ρ.loc,φ,ρ.n⟩ B h w:=by
 refine⟨r.dom,fun b L e wf af cs hb hg=>?_,fun b L es hb hg=>?_,r.excl,r.exclm,r.app,r.flr,r.base,fun k arr hk=>r.frz k arr (hφ k arr hk),r.dn⟩
 ·obtain⟨g1,c,ty,fz,g2,g3,g4,g5,g6⟩:=r.cells b L e wf af cs hb hg;exact⟨g1,c,ty,fz,g2,g3,g4,fun j v hv=>let ⟨v',g7,g8⟩:=g5 j v hv;⟨v',g7,g8.thaw (qaB (hh b _ hg) hv)⟩,g6⟩
 ·have:=hh b _ hg;cases this
theorem qao.own{f:Nat}{vs:List AV}{v:AV}{bs:List Blk}(ho:qao P f vs v bs)(hc:qw vs=true):Own P f vs v bs:=fun h k hk=>ho h vs k (Frzs.self hc) hk
theorem qao.sc{f:Nat}{vs vs':List AV}{v:AV}{bs:List Blk}{h:Hp}{k:AV->Hp->Prop}(ho:qao P f vs' v bs)(hf:Frzs h vs vs')(hk:k (shv h.sz v) (z2 h (bs.map (shb h.sz)))):SC P f vs h k:=ho h vs k hf hk
theorem qao.of_SC{f:Nat}{vs':List AV}{v:AV}{bs:List Blk}(hv:wu v=true)(hbs:bs.all qg0=true)(hs:SC P f vs' H0 (qin v bs)):qao P f vs' v bs:=by
 intro h vs k hf hk;refine⟨hs.1,fun ρ B w args r ha=>?_⟩
 have hcr:=hf.ok r ha;refine wV.mono (hs.2 ⟨fun _=>none,xY ρ h w,0⟩ (low w.heap.size) w args r.bare (CRs.vr (ρ:=⟨fun _=>none,xY ρ h w,0⟩) hcr)) ?_
 rintro e w1 ⟨v0,v',h1,ρ1,rfl,g1,g2,g3,g4⟩;obtain⟨src,s1,s2,s3⟩:=g1 g4.fl;have hw:Wk 0 (mkT [(0,v0)]) h1 (mkT [(0,v)]) (mkH 0 bs):=Wk.mk [(0,v)] bs src ⟨⟨v0,by simp[mkT,Tr.get_set],s1⟩,trivial⟩ s2 s3 g4.fl
 obtain⟨ρ2,t2,r2,k2⟩:=hw ρ1 (low w.heap.size) w1 #[v'] (fun j x hj=>by
  have:=ka hj;simp at this;obtain⟨rfl,rfl⟩:=this;exact⟨by simp,by simpa using g2⟩) g3
 have hv2:VR σ0 ρ2 v v':=by
  have:=(t2 0 v (by simp[mkT,Tr.get_set])).2;simpa using this
 have hφ:∀k a,ρ.frz k=some a->ρ2.frz k=some a:=fun k a hk=>k2.frz k a (g4.frz k a (wk hk))
 have r3:=r2.thaw (φ:=ρ.frz) hφ (fun b x hx=>by
  rw[zq] at hx;exact List.all_eq_true.1 hbs x (List.mem_of_getElem? hx))
 have hv3:=hv2.thaw (φ:=ρ.frz) hv;refine⟨_,v',_,ρ.join ⟨ρ2.loc,ρ.frz,ρ2.n⟩ h.sz bs.length,rfl,hk,hv3.sh r3.dn,Rel.joinH r r3 g4.pres g4.wle (fun _ _ h=>h) (fun _ _ h=>.inl h),?_⟩
 refine⟨fun b hb=>qai hb,by rw[vx];omega,kQ,fun b _ hb=>by rw[xO,if_pos hb],fun k hk=>g4.pres k (r.base _ hk),g4.wle,g4.io,fun _ _ h=>h,fun _ _ h=>.inl h,?_⟩
 exact Nat.le_trans r.dn (Nat.le_add_right _ _)
theorem qao.mk{f:Nat}{i:IFn}{vs:List AV}{v:AV}{bs:List Blk}(hc:qt P f i=true)(hv:wu v=true)(hbs:bs.all qg0=true)(hV:V P 0 i.body (vo i.res (qin v bs)) (wp vs 0 .leaf) H0):qao P f vs v bs :=
 qao.of_SC hv hbs (SC.mk hc (qA hV))
end Go.Kc
end
section
/- Ranges over functions: the rules. No condition. -/
namespace Go.Kc
variable {P:Program} {n:Nat} {h:Hp}
def bsy(r:Loop):Loop:={ r with state:=.busy }
def rdy(r:Loop):Loop:={ r with state:=.ready,pending:=none }
def dne(r:Loop)(c:Code):Loop:={ r with state:=.done,pending:=some c }
structure LoopOk (P:Program) (r:Loop) (ps:List Nat) (ai bi:ICode):Prop where
 params:r.params.toList=ps
 code:∃nt,qy P nt r.assign ai=true∧qy P nt r.body bi=true∧nt<=r.tmps.size∧∀p ∈ ps,p<nt
 flat:QG ai=true∧QG bi=true
theorem LoopOk.bsy{r:Loop}{ps:List Nat}{ai bi:ICode}(h:LoopOk P r ps ai bi):LoopOk P (bsy r) ps ai bi:=⟨h.params,h.code,h.flat⟩
theorem LoopOk.rdy{r:Loop}{ps:List Nat}{ai bi:ICode}(h:LoopOk P r ps ai bi):LoopOk P (rdy r) ps ai bi:=⟨h.params,h.code,h.flat⟩
theorem qex{r:Loop}:rdy (bsy r)=rdy r:=rfl
noncomputable def qfI:List Nat->List AV->Tr AV->Tr AV
 | p::ps,u::us,t=>qfI ps us (t.set p u)
 | _,_,t=>t
def qqf(b:Nat)(k:AV->Hp->Prop)(x:X)(_:Tr AV)(h:Hp):Prop :=
 ∃r ts,h.tr.get b=some (.map (za r ts))∧onX x (k (.b true) (h.put b (.map (za (rdy r) ts)))) (fun id=>k (.b false) (h.put b (.map (za (dne r (.exit id)) ts)))) (k (.b false) (h.put b (.map (za (dne r .ret) ts))))
def qqe(P:Program)(n b:Nat)(r:Loop)(bi:ICode)(Q:X->Tr AV->Hp->Prop)(x:X)(t:Tr AV)(h:Hp):Prop :=
 onX x (∃ts,h.tr.get b=some (.map (za r ts))∧S P n bi Q t (h.put b (.map (za (bsy r) ts)))) (fun _=>False) False
theorem qes{ρ:Ren}:∀{ps:List Nat} {us:List AV} {t:Tr AV} {tm:Array Value} {args:List Value},VRs σ0 ρ us args->ps.length=us.length->(∀p ∈ ps,p<tm.size)->TR σ0 ρ t tm->
  TR σ0 ρ (qfI ps us t) ((ps.zip args).foldl (fun tm (p,v)=>tm.setIfInBounds p v) tm)
 | [],[],_,_,_,hv,_,_,ht=>by cases hv;exact ht
 | [],_::_,_,_,_,_,hl,_,_=>by simp at hl
 | _::_,[],_,_,_,_,hl,_,_=>by simp at hl
 | p::ps,u::us,t,tm,args,hv,hl,hp,ht=>by
  cases hv with
  | cons _ _ v vs h1 h2 =>
   have hlt:=hp p (by simp);refine qes (ps:=ps) h2 (by simpa using hl) (fun q hq=>by simpa using hp q (by simp[hq])) (fun j x hj=>?_)
   rw[Tr.get_set] at hj;split at hj
   ·rename_i he;subst he;cases hj;exact⟨by simpa using hlt,by simpa[Array.getD,hlt] using h1⟩
   ·rename_i he;obtain⟨g1,g2⟩:=ht j x hj;refine⟨by simpa using g1,?_⟩
    rw[Array.getD_eq_getD_getElem?,Array.getElem?_setIfInBounds,if_neg (fun e=>he e.symm),← Array.getD_eq_getD_getElem?]
    exact g2
theorem qpF{ρ:Ren}{tm:Array Value}:∀{ts:List (Nat×AV)},(∀p ∈ ts,p.1<tm.size∧VR σ0 ρ p.2 (tm.getD p.1 undef))->TR σ0 ρ (mkT ts) tm :=
 fun h j v hj=>h (j,v) (ka hj)
theorem qem:∀{ts:List (Nat×AV)},(ts.map Prod.fst).Nodup->∀{p:Nat×AV},p ∈ ts->(mkT ts).get p.1=some p.2
 | [],_,_,hp=>by cases hp
 | q::ts,hn,p,hp=>by
  simp only[mkT,Tr.get_set];have hn2:=List.nodup_cons.1 hn;rcases List.mem_cons.1 hp with rfl|hp
  ·rw[if_pos rfl]
  ·rw[if_neg (fun e=>hn2.1 (List.mem_map.2 ⟨p,hp,e⟩))]
   exact qem hn2.2 hp
theorem Qa:∀(l:List (Nat×Value)) (tm:Array Value),(l.foldl (fun tm (p,v)=>tm.setIfInBounds p v) tm).size=tm.size
 | [],_=>rfl
 | p::l,tm=>by rw[List.foldl_cons,Qa l];simp
theorem SY.mk{b:Nat}{us:List AV}{k:AV->Hp->Prop}{r:Loop}{ts:List (Nat×AV)}{ps:List Nat}{ai bi:ICode}(hg:h.tr.get b=some (.map (za r ts)))(hr:r.state = .ready)(hok:LoopOk P r ps ai bi)(hfl:h.fl<=b)(hbs:b<h.sz)(hl:ps.length=us.length)
  (hA:S P h.sz ai (qqe P h.sz b r bi (qqf b k)) (qfI ps us (mkT ts)) h):SY P b us h k:=by
 intro ρ B w args L hL rl hargs;obtain⟨L0,ob,hob,hrec⟩:=rl.maps b L _ hL hg;obtain⟨rfl,hts⟩:=hrec.rec';obtain⟨nt,hca,hcb,hnt,hps⟩:=hok.code
 have hsz:args.size=r.params.size:=by
  have:=hargs.length;have h2:r.params.size=ps.length:=by rw[← hok.params];simp
  rw[h2,hl,this];simp
 refine⟨r.fn,_,r.assign,r.body,run_yield hob hsz,fun ro=>roundIn_of_wpIn trivial ?_⟩
 have hfold:(r.params.zip args).foldl (fun tmps (t,a)=>tmps.setIfInBounds t a) r.tmps=(ps.zip args.toList).foldl (fun tm (p,v)=>tm.setIfInBounds p v) r.tmps:=by
  rw[← Array.foldl_toList,Array.toList_zip,hok.params]
 rw[hfold]
 have hT:TR σ0 ρ (qfI ps us (mkT ts)) ((ps.zip args.toList).foldl (fun tm (p,v)=>tm.setIfInBounds p v) r.tmps) :=
  qes hargs hl (fun p hp=>Nat.lt_of_lt_of_le (hps p hp) hnt) (qpF hts)
 have hS:=hA nt r.assign hca (Nat.le_refl _) (some L.blk) (.inr hok.flat.1) ρ B w { tmps:=(ps.zip args.toList).foldl (fun tm (p,v)=>tm.setIfInBounds p v) r.tmps,defers:=[] } hT (by rw[Qa];exact hnt) rl
 refine wpIn_mono hS ?_;rintro e a1 w1 ⟨x1,t1,h1,ρ1,rs,hx,hq,ht1,hs1,hd1,hm,r1,k1⟩;cases hx with
 | exit id=>exact hq.elim
 | ret=>exact hq.elim
 | normal =>
  obtain⟨ts1,hg1,hB⟩:=hq;have r1:=r1.lessB (B:=B) fun k hk=>.inl hk
  have hL1:ρ1 b=some L:=(k1.ext b hbs).trans hL;obtain⟨_,ob1,hob1,hrec1⟩:=r1.maps b L _ hL1 hg1;obtain⟨rfl,hts1⟩:=hrec1.rec';refine⟨w1.putObj L.blk (.loop (Go.Kc.bsy r)),run_beginRound hob1 hr,?_⟩;obtain⟨r2,k2⟩:=r1.putMap (w':=w1.putObj L.blk (.loop (Go.Kc.bsy r))) hL1 hg1 (by rw[k1.fl];exact hfl) hob1 (es':=za (Go.Kc.bsy r) ts1) (.inr (.inr ⟨_,_,rfl,rfl,hts1⟩)) rfl ⟨rfl,rfl⟩;have hSb:=hB nt r.body hcb k1.szle (some L.blk) (.inr hok.flat.2) ρ1 B _ a1 ht1 hs1 r2;refine wpIn_mono hSb ?_;rintro e a3 w3 ⟨x3,t3,h3,ρ3,rs3,hx3,hq3,ht3,hs3,hd3,hm3,r3,k3⟩;have r3:=r3.lessB (B:=B) fun k hk=>.inl hk
  have kk:=(k1.trans (k2.kep k1.szle)).trans k3;obtain⟨r',ts',hg3,hq3⟩:=hq3;have hL3:ρ3 b=some L:=(kk.ext b hbs).trans hL;obtain⟨_,ob3,hob3,hrec3⟩:=r3.maps b L _ hL3 hg3;obtain⟨rfl,hts3⟩:=hrec3.rec'
  have fin:∀(lp:Loop) (y:Bool),lp.tmps=r'.tmps->k (.b y) (h3.put b (.map (za lp ts')))->(∃v v0 h' ρ',Ending.returned (Value.bool y) = .returned v0∧k v h'∧VR σ0 ρ' v v0∧Rel σ0 ρ' B h' (w3.putObj L.blk (.loop lp))∧Kept ρ B h w ρ' h' (w3.putObj L.blk (.loop lp))):=by
   intro lp y htm hk;obtain⟨r4,k4⟩:=r3.putMap (w':=w3.putObj L.blk (.loop lp)) hL3 hg3 (by rw[kk.fl];exact hfl) hob3 (es':=za lp ts') (.inr (.inr ⟨_,_,rfl,rfl,by rw[htm];exact hts3⟩)) rfl ⟨rfl,rfl⟩
   exact⟨.b y,.bool y,_,ρ3,rfl,hk,.b _,r4,(kk.trans (k4.kep kk.szle)).kept rl.dn⟩
  cases hx3 with
  | normal=>exact⟨_,_,run_endRound none hob3,fin (Go.Kc.rdy r') true rfl hq3⟩
  | exit id=>exact⟨_,_,run_endRound (some (.exit id)) hob3,fin (dne r' (.exit id)) false rfl hq3⟩
  | ret=>exact⟨_,_,run_endRound (some .ret) hob3,fin (dne r' .ret) false rfl hq3⟩
def qlX(b:Nat)(Q:X->Tr AV->Hp->Prop)(t:Tr AV)(_:AV)(h:Hp):Prop :=
 ∃r ts,h.tr.get b=some (.map (za r ts))∧r.state≠.busy ∧
  match r.pending with
  | none=>Q .normal t (h.put b .dead)
  | some .ret=>Q .ret t (h.put b .dead)
  | some (.exit id)=>Q (.exit id) t (h.put b .dead)
  | _=>False
def rfK(P:Program)(ps:List Nat)(ai bi:ICode)(Q:X->Tr AV->Hp->Prop)(t:Tr AV)(ts:List (Nat×AV))(h:Hp)(g:AV):Prop :=
 match g with
 | .fn f first cap=>qd5 P f∧∀r0,r0.state = .ready->r0.pending=none->LoopOk P r0 ps ai bi->SC P f (first++(.yl h.sz::cap)) (h.push (.map (za r0 ts))) (qlX h.sz Q t)
 | _=>False
set_option maxHeartbeats 1000000 in
theorem S.rangeF{g:O}{ps:List Nat}{ai bi:ICode}{Q:X->Tr AV->Hp->Prop}{ts:List (Nat×AV)}{bl:List Blk}(hlive:bl.all jd=true)(hnd:(ts.map Prod.fst).Nodup)(hnr:QG ai=true∧QG bi=true)(hk:evK (mkT ts) g (rfK P ps ai bi Q (mkT ts) ts (mkH 0 bl))):S P n (.rangeF g ps ai bi) Q (mkT ts) (mkH 0 bl):=by
 intro nt code hc hn ro hro ρ B w a ht hsz r
 obtain rfl:ro=none:=by
  rcases hro with h|h
  ·exact h
  ·cases h
 cases code<;>first|(simp[qy] at hc;done)|skip
 rename_i og ops oa ob;simp only[qy,Bool.and_eq_true] at hc;obtain⟨⟨⟨⟨h1,h2⟩,h3⟩,h4⟩,h5⟩:=hc;have h2:=eq_of_beq h2;obtain⟨gv,hgv,hk2⟩:=qx ht h1 hk;cases gv<;>try exact hgv.elim
 rename_i f first cap
 obtain⟨⟨fn0,c1,c2,c3⟩,hS⟩:=hgv;obtain⟨a',c',q1,q2,q3⟩:=hk2.un_fn
 have hLd:∀b L,ρ b=some L->L.blk<w.heap.size:=by
  intro b L hb;have hlt:=r.dom b L hb;rw[qdE] at hlt;have hx:(mkH 0 bl).tr.get b=some bl[b]:=by rw[zq];exact List.getElem?_eq_getElem hlt
  have hlv:=List.all_eq_true.1 hlive bl[b] (List.getElem_mem hlt);exact r.blk_lt b L hb _ hx (by intro he;rw[he] at hlv;cases hlv)
 refine wpIn_rangeFunc fun fn _=>?_
 let r0:Loop:={ state:=.ready,pending:=none,fn,tmps:=a.tmps,params:=ops,assign:=oa,body:=ob,defers:=w.heap.size }
 let W1:World:=(w.alloc (.deferred (some []))).alloc (.loop r0)
 have hold:∀k,k<w.heap.size->(w.alloc (.deferred (some []))).heap[k]?=w.heap[k]?:=fun k hk=>by
  show (w.heap.push _)[k]?=_;rw[Array.getElem?_push,if_neg (by omega)]
 have hD:(w.alloc (.deferred (some []))).heap[w.heap.size]?=some (.deferred (some [])):=World.alloc_heap_new w _
 have r1:Rel σ0 ρ (BM B [w.heap.size]) (mkH 0 bl) (w.alloc (.deferred (some []))):=by
  have r':=r.world (w':=w.alloc (.deferred (some []))) hold (by simp);refine⟨r'.dom,r'.cells,r'.maps,r'.excl,r'.exclm,r'.app,fun b L hb hf hB=>?_,fun k hk=>?_,r'.frz,r'.dn⟩
  ·rcases hB with hB|hB
   ·exact r.flr b L hb hf hB
   ·have:=hLd b L hb;rw[List.mem_singleton] at hB;omega
  ·rcases hk with hk|hk
   ·have:=r.base k hk;simp;omega
   ·rw[List.mem_singleton] at hk;simp;omega
 have hts:∀p ∈ ts,p.1<r0.tmps.size∧VR σ0 ρ p.2 (r0.tmps.getD p.1 undef):=fun p hp=>ht p.1 p.2 (qem hnd hp)
 obtain⟨r2,k2⟩:=r1.newMap (w':=W1) (es0:=za r0 ts) (o:=.loop r0) (.inr (.inr ⟨_,_,rfl,rfl,hts⟩)) rfl ⟨rfl,rfl⟩;have hl:(w.alloc (.deferred (some []))).heap.size=w.heap.size+1:=by simp
 rw[hl] at r2 k2;obtain⟨Lc,hLc⟩:∃Lc:Loc,Lc=⟨w.heap.size+1,0,0,0⟩:=⟨_,rfl⟩;rw[← hLc] at r2 k2;have hself:(ρ.add (mkH 0 bl).sz Lc) (mkH 0 bl).sz=some Lc:=Ren.add_self _ _ _;have hle2:=k2.mono r1.dom;have hSC:=hS r0 rfl rfl ⟨h2,⟨nt,h4,h5,hsz,fun p hp=>by rw[← h2] at hp;have:=List.all_eq_true.1 h3 p hp;exact Nat.lt_of_succ_le (Nat.le_of_ble_eq_true this)⟩,hnr⟩
 have hargs:VRs σ0 (ρ.add (mkH 0 bl).sz Lc) (first++(.yl (mkH 0 bl).sz::cap)) (a' ++ #[Value.func (.yield (w.heap.size+1)) #[] #[]]++c').toList:=by
  have hy:VR σ0 (ρ.add (mkH 0 bl).sz Lc) (.yl (mkH 0 bl).sz) (.func (.yield Lc.blk) #[] #[]):=.yl _ Lc hself;have e2:Lc.blk=w.heap.size+1:=by rw[hLc]
  rw[e2] at hy;have:=(q1.mono hle2).append (VRs.cons _ _ _ _ hy (q2.mono hle2));simpa using this
 have hcf:=vJ (P:=P) c1 c2 c3
 have hcalls:Calls P f (a' ++ #[Value.func (.yield (w.heap.size+1)) #[] #[]]++c') W1 fun e w'=>∃v v' h' ρ',e = .returned v'∧qlX (mkH 0 bl).sz Q (mkT ts) v h'∧VR σ0 ρ' v v'∧Rel σ0 ρ' (BM B [w.heap.size]) h' w'∧Kept (ρ.add (mkH 0 bl).sz Lc) (BM B [w.heap.size]) ((mkH 0 bl).push (.map (za r0 ts))) W1 ρ' h' w':=by
  rcases hSC.2 _ _ _ _ r2 hargs with⟨_,hh⟩|⟨v,w',hh,_⟩
  ·exact hh
  ·rw[hcf] at hh;cases hh
 have hev:(({ a with defers:=qaO [w.heap.size]++a.defers }:Act)).eval og = .func (.func f) a' c':=q3;refine⟨w.heap.size+1,[{ target:=.collected w.heap.size,args:=#[] }],W1,{ target:=.fn (.func f) c',args:=a' ++ #[Value.func (.yield (w.heap.size+1)) #[] #[]] },W1,f,a' ++ #[Value.func (.yield (w.heap.size+1)) #[] #[]]++c',W1,run_enterLoop_outer _ _ _ _ _,?_,fun _ _=>trivial,?_,fun hh=>(by cases hh),qcI (Calls.mono hcalls ?_)⟩
 ·simp only[resolve,q3];simp[go_sem,Deferred.ofValue,q3]
 ·simp[invoke,hcf]
 rintro e w2 ⟨v,v',h2',ρ2,rfl,hend,hv,r3,k3⟩;obtain⟨r',ts',hg',hst,hmt⟩:=hend;have hL2:ρ2 (mkH 0 bl).sz=some Lc:=(k3.ext _ (by show _<Nat.succ _;exact Nat.lt_succ_self _)).trans hself
 obtain⟨_,ob2,hob2,hrec2⟩:=r3.maps _ Lc _ hL2 hg';obtain⟨rfl,hts2⟩:=hrec2.rec';have hob3:w2.heap[w.heap.size+1]?=some (.loop r'):=by rw[hLc] at hob2;exact hob2
 have hfl2:h2'.fl=0:=k3.fl;obtain⟨re,hre⟩:∃re:Loop,re={ r' with state:=.exhausted }:=⟨_,rfl⟩;have hts4:∀p ∈ ts',p.1<re.tmps.size∧VR σ0 ρ2 p.2 (re.tmps.getD p.1 undef):=by rw[hre];exact hts2
 have hend2:=run_endLoop (P:=P) hob3 hst;rw[← hre] at hend2;clear hre;obtain⟨r4,k4⟩:=r3.putMap (w':=w2.putObj (w.heap.size+1) (.loop re)) hL2 hg' (by rw[hfl2];exact Nat.zero_le _) hob2 (es':=za re ts') (.inr (.inr ⟨_,_,rfl,rfl,hts4⟩)) (by rw[hLc];rfl) ⟨rfl,rfl⟩
 have r5:Rel σ0 ρ2 (BM B [w.heap.size]) (h2'.put (mkH 0 bl).sz .dead) (w2.putObj (w.heap.size+1) (.loop re)):=by
  refine r4.sub rfl rfl fun b x hx hd=>?_
  simp only[Hp.put,Tr.get_set] at hx ⊢;split at hx
  ·cases hx;exact absurd rfl hd
  ·rename_i hne;rw[if_neg hne];exact hx
 have hD1:W1.heap[w.heap.size]?=some (.deferred (some [])):=by
  show ((w.alloc (.deferred (some []))).heap.push _)[w.heap.size]?=_;rw[Array.getElem?_push,if_neg (by rw[hl];omega)];exact hD
 have hD2:(w2.putObj (w.heap.size+1) (.loop re)).heap[w.heap.size]?=some (.deferred (some [])):=by
  rw[World.putObj_heap_other (by omega),k3.pres _ (.inr (by simp))];exact hD1
 have k0:Kep n ρ B (mkH 0 bl) w ρ (mkH 0 bl) (w.alloc (.deferred (some []))):=⟨fun _ _=>rfl,hn,rfl,fun _ _ _=>rfl,fun k hk=>hold k (r.base k hk),by simp,⟨rfl,rfl⟩,fun _ _ h=>h,fun _ _ h=>.inl h,fun _ _ h=>h⟩
 have hn2:n<=((mkH 0 bl).push (.map (za r0 ts))).sz:=Nat.le_trans hn (Nat.le_succ _);have hn3:n<=h2'.sz:=Nat.le_trans hn2 k3.szle
 have k5:Kep n ρ2 (BM B [w.heap.size]) h2' w2 ρ2 (h2'.put (mkH 0 bl).sz .dead) (w2.putObj (w.heap.size+1) (.loop re)) :=
  ⟨fun _ _=>rfl,hn3,rfl,fun b hb _=>absurd hb (by rw[hfl2];exact Nat.not_lt_zero _),k4.pres,k4.wle,k4.io,fun _ _ h=>h,fun _ _ h=>.inl h,fun _ _ h=>h⟩
 have kk:Kep n ρ B (mkH 0 bl) w ρ2 (h2'.put (mkH 0 bl).sz .dead) (w2.putObj (w.heap.size+1) (.loop re)):=((k0.trans (k2.kep hn).bm).trans (k3.kep hn2).bm).trans k5.bm
 have fin:∀(x:X) (e:Exit),XR x e->Q x (mkT ts) (h2'.put (mkH 0 bl).sz .dead)->ju σ0 Q nt n ρ B (mkH 0 bl) w a.defers e { a with defers:=[{ target:=.collected w.heap.size,args:=#[] }]++a.defers } (w2.putObj (w.heap.size+1) (.loop re)):=fun x e hx hq =>
  ⟨x,mkT ts,_,ρ2,[w.heap.size],hx,hq,ht.mono (Ren.le_trans hle2 (k3.mono r2.dom)),hsz,rfl,⟨by simp,fun q hq=>by rw[List.mem_singleton] at hq;omega,fun q hq=>by rw[List.mem_singleton] at hq;subst hq;exact hD2⟩,r5,kk⟩
 refine⟨r'.pending,_,hend2,?_⟩;clear hend2;generalize r'.pending=pd at hmt ⊢;cases pd with
 | none=>exact fin .normal _ .normal hmt
 | some c =>
  cases c<;>first|exact hmt.elim|skip
  ·exact wpIn_exit (fin _ _ (.exit _) hmt)
  ·exact wpIn_ret (fin _ _ .ret hmt)
end Go.Kc
end
section
/- Rows of one's own given for good, in any call; an updating call in a region that draws. No condition. -/
namespace Go.Kc
variable {P:Program} {h:Hp}
inductive Gvs (h:Hp):List AV->List AV->Prop where
 | nil:Gvs h [] []
 | keep (v:AV) (vs vs':List AV) (h1:Gvs h vs vs'):Gvs h (v::vs) (v::vs')
 | fz (v v':AV) (vs vs':List AV) (hf:Frz h v v') (h1:Gvs h vs vs'):Gvs h (v::vs) (v'::vs')
 | fn (f:Nat) (a c c':List AV) (vs vs':List AV) (hc:Gvs h c c') (h1:Gvs h vs vs'):Gvs h (.fn f a c::vs) (.fn f a c'::vs')
theorem Gvs.ok{ρ:Ren}{B:Nat->Prop}{w:World}(hle:ρ.le ⟨ρ.loc,xY ρ h w,ρ.n⟩)(r:Rel σ0 ρ B h w):∀{vs vs':List AV} {xs:List Value},Gvs h vs vs'->VRs σ0 ρ vs xs->VRs σ0 ⟨ρ.loc,xY ρ h w,ρ.n⟩ vs' xs
 | _,_,_,.nil,hv=>by cases hv;exact .nil
 | _,_,_,.keep _ _ _ h1,hv=>by
  cases hv with
  | cons _ _ _ _ a1 a2=>exact .cons _ _ _ _ (a1.mono hle) (Gvs.ok hle r h1 a2)
 | _,_,_,.fz _ _ _ _ hf h1,hv=>by
  cases hv with
  | cons _ _ _ _ a1 a2=>exact .cons _ _ _ _ (CR.vr (ρ:=⟨ρ.loc,xY ρ h w,ρ.n⟩) (hf.ok r a1)) (Gvs.ok hle r h1 a2)
 | _,_,_,.fn f a c c' _ _ hc h1,hv=>by
  cases hv with
  | cons _ _ _ _ a1 a2 =>
   obtain⟨a',c'',q1,q2,q3⟩:=a1.un_fn;subst q3;exact .cons _ _ _ _ (.fn _ _ _ _ _ (q1.mono hle) (Gvs.ok hle r hc q2)) (Gvs.ok hle r h1 a2)
theorem Upd.pc{f:Nat}{vs:List AV}{bs bs2:List Blk}{v:AV}{k:AV->Hp->Prop}(at':List Nat)(hu:Upd P f vs bs v bs2)(l:Lent h at' bs)(hk:k (rnv (gAt at' h.sz) v) (jV h at' bs2)):PC P f (xR (gAt at' h.sz) vs) h k :=
 ⟨_,_,fun _ h'=>hu.sc at' l h',hk⟩
end Go.Kc
end
section
/- Blocks by new names where dead ones do not count. No condition. -/
namespace Go.Kc
variable {P:Program} {h:Hp} {t:Tr AV}
def qlg(m:Nat)(v:AV)(bs2:List Blk)(v':AV)(h':Hp):Prop:=h'.fl=0->∃src:List Nat,NV (rl src h'.sz) bs2.length v' v∧BWs h' (rl src h'.sz) bs2.length src bs2∧(List.map Prod.fst (List.filter (fun p=>decide (p.fst<h'.sz)&&jd p.snd) (src.zip bs2))).Nodup∧∀b,b<m->rl src h'.sz b=b
theorem qlg.w{m:Nat}{v:AV}{bs2:List Blk}{v':AV}{h':Hp}(hz:qlg m v bs2 v' h')(hle:m<=bs2.length):qio m v bs2 v' h':=by
 intro hfl;obtain⟨src,s1,s2,s3,s4⟩:=hz hfl;exact Wk.mkd [(0,v)] bs2 src ⟨⟨v',by simp[mkT,Tr.get_set],s1⟩,trivial⟩ s2 s3 hfl hle s4
theorem Upd.mkd{f:Nat}{i:IFn}{vs:List AV}{v:AV}{bs bs2:List Blk}(hc:qt P f i=true)(hb:xS bs.length vs=true)(hl:bs.length<=bs2.length)(hV:V P bs.length i.body (vo i.res (qlg bs.length v bs2)) (wp vs 0 .leaf) (mkH 0 bs)):Upd P f vs bs v bs2 :=
 ⟨hb,hl,(SC.mk hc (qA hV)).mono fun _ _ hz=>hz.w hl⟩
end Go.Kc
end
section
/- Rows of numbers, of strings. No condition. -/
namespace Go.Kc
def rI(k:IntKind)(l:List Int):List AV:=l.map (.i k)
section
variable {k:IntKind} {l m:List Int} {j:Nat}
theorem qnk:(rI k l).length=l.length:=by simp[rI]
theorem qkl:qw (rI k l)=true:=y6 fun _=>rfl
theorem qpE:qD (rI k l)=true:=qe4 fun _=>rfl
theorem qnj:(rI k l)[j]?=(l[j]?).map (.i k):=by simp[rI]
end
section
variable {l m:List (List UInt8)} {j:Nat}
end
end Go.Kc
end
section
/- The kit's law of strings.Join, as a contract. No condition. -/
namespace Go.Kc
open Go.RowKit
variable {P:Program} {f:Nat}
def qpd(sep:List UInt8)(xs:List (List UInt8)):List UInt8:=Lib.join xs sep
end Go.Kc
end
section
/- Calls, lists, policies, assignments, notes: the program's structs as Lean's. No condition. -/
namespace Go.Kc
structure GCall where
 name:List UInt8
 act:Int
def qoM(c:GCall):List AV:=[.s c.name,.i .u32 c.act]
structure GNote where
 file:List UInt8
 line:Int
 err:Int
 text:List UInt8
structure Asg where
 file:List UInt8
 line:Int
 sec:List UInt8
 key:List UInt8
 val:List UInt8
def rC(l:List GCall):List AV:=l.flatMap qoM
section
variable {l m:List GCall} {j:Nat}
end
section
variable {l m:List GNote} {j:Nat}
end
structure GList where
 mode:Int
 calls:List GCall
def qkM(l:GList):List AV:=[.i .u8 l.mode,.fz l.calls.length (rC l.calls)]
structure Pol where
 arches:List Int
 filter:GList
 deny:Int
 log:GList
 fams:List Int
 fmode:Int
 spaces:Int
 we:Bool
 pe:Bool
 rt:Bool
 np:Bool
def qoO(p:Pol):List AV:=[.fz p.arches.length (rI .i64 p.arches),.i .u8 p.filter.mode,.fz p.filter.calls.length (rC p.filter.calls),.i .u32 p.deny,.i .u8 p.log.mode,.fz p.log.calls.length (rC p.log.calls),
 .fz p.fams.length (rI .u32 p.fams),.i .u8 p.fmode,.i .u64 p.spaces,.b p.we,.b p.pe,.b p.rt,.b p.np]
def qkh:Pol:=⟨[],⟨0,[]⟩,0,⟨0,[]⟩,[],0,0,false,false,false,false⟩
end Go.Kc
end
section
/- What searches in lists answer. Condition: the functions' texts are these. -/
namespace Go.Kc
variable {P:Program} {f:Nat}
end Go.Kc
end
section
/- What the setter's methods do: notes, yes and no. Condition: the functions' texts are these. -/
namespace Go.Kc
variable {P:Program} {f:Nat}
end Go.Kc
end
section
/- What searches by a function answer. Condition: the functions' texts are these. -/
namespace Go.Kc
variable {P:Program} {f:Nat}
def qbV{α:Type}(p:α->Bool):List α->Nat->Int
 | [],_=>-1
 | x::xs,j=>if p x=true then (j:Int) else qbV p xs (j+1)
def qgq(m:Nat)(P:Program)(f:Nat):Prop:=∀{α:Type} (enc:α->List AV) (p:α->Bool) (g:Nat) (a c:List AV) (l:List α),(∀x,(enc x).length=m)->qw a=true->qw c=true->l.length<=qe->
 (∀x ∈ l,qf P g (a++([.agg (enc x)]++c)) (.b (p x)))->qf P f [.fz l.length (l.flatMap enc),.fn g a c] (.i .i64 (qbV p l 0))
end Go.Kc
end
section
/- What slices.DeleteFunc makes of a row of one's own. Condition: the functions' texts are these. -/
namespace Go.Kc
variable {P:Program} {f:Nat}
end Go.Kc
end
section
/- What slices.Insert makes of a row of one's own. Condition: the functions' texts are these. -/
namespace Go.Kc
variable {P:Program} {f:Nat}
end Go.Kc
end
section
/- What slices.Clone answers: a row of one's own. Condition: the functions' texts are these. -/
namespace Go.Kc
variable {P:Program} {f:Nat}
def qgn(P:Program)(g esz bytes:Nat):Prop:=∀(n:Nat) (rows:List AV),rows.length=n*esz->qw rows=true->qD rows=true->n<=qe->n*bytes<=qe->Own P g [.fz n rows] (.own 0 n) [.cells esz true true rows]
end Go.Kc
end
section
/- What binary searches answer; a list with a number more or less. Condition: the functions' texts are these. -/
namespace Go.Kc
variable {P:Program} {f:Nat}
end Go.Kc
end
section
/- A list with a number more or less, as the program makes it. Condition: the functions' texts are these. -/
namespace Go.Kc
variable {P:Program} {f:Nat}
end Go.Kc
end
section
/- What names of errors, families and namespaces answer. Condition: the functions' texts are these. -/
namespace Go.Kc
variable {P:Program} {f:Nat}
def qa6:List (List UInt8×Int):=[([116,105,109,101],128),([109,110,116],131072),([99,103,114,111,117,112],33554432),([117,116,115],67108864),([105,112,99],134217728),([117,115,101,114],268435456),([112,105,100],536870912),([110,101,116],1073741824)]
def jk:List (List UInt8×Int):=[([65,70,95,85,78,73,88],1),([65,70,95,73,78,69,84],2),([65,70,95,73,78,69,84,54],10),([65,70,95,78,69,84,76,73,78,75],16),([65,70,95,80,65,67,75,69,84],17),([65,70,95,66,76,85,69,84,79,79,84,72],31),([65,70,95,65,76,71],38),([65,70,95,86,83,79,67,75],40)]
def qa5:List (List UInt8×Int):=[([69,80,69,82,77],1),([69,78,79,69,78,84],2),([69,73,79],5),([69,66,65,68,70],9),([69,65,71,65,73,78],11),([69,78,79,77,69,77],12),([69,65,67,67,69,83],13),([69,70,65,85,76,84],14),([69,66,85,83,89],16),([69,78,79,68,69,86],19),([69,73,78,86,65,76],22),([69,78,79,83,89,83],38),([69,79,80,78,79,84,83,85,80,80],95),([69,65,70,78,79,83,85,80,80,79,82,84],97),([69,84,73,77,69,68,79,85,84],110)]
end Go.Kc
end
section
/- What arch.Parse answers. Condition: the functions' texts are these. -/
namespace Go.Kc
variable {P:Program} {f:Nat}
def qib:List (List UInt8×Int):=[([120,56,54,45,54,52],3221225534),([120,56,54],1073741827),([120,51,50],3221225534),([97,114,109],1073741864),([97,114,109,54,52],3221225655),([114,105,115,99,118,54,52],3221225715)]
end Go.Kc
end
section
/- What strings.FieldsFunc answers, of any string and any predicate. Condition: the string is not too great; the functions' texts are these. -/
namespace Go.Kc
variable {P:Program} {f:Nat}
def qnG(b:Bool)(st:Option Nat)(i:Nat):Option Nat:=if b=true then none else (match st with|some s=>some s|none=>some i)
def qkB(b:Bool)(st:Option Nat)(i:Nat)(acc:List (Nat×Nat)):List (Nat×Nat):=if b=true then (match st with|some s=>acc++[(s,i)]|none=>acc) else acc
def qnv(p:Int->Bool)(l:List UInt8)(i:Nat)(st:Option Nat)(acc:List (Nat×Nat)):List (Nat×Nat)×Option Nat :=
 if i<l.length then qnv p l (i+(vf l i).2) (qnG (p (vf l i).1) st i) (qkB (p (vf l i).1) st i acc) else (acc,st)
termination_by l.length-i
decreasing_by have:=qnq l i;omega
def qqX(l:List UInt8)(st:Option Nat)(z:Int)(i:Nat):Prop:=match st with|some s=>z=(s:Int)∧s<=i∧s<l.length|none=>z<0
structure St where
 i:Nat
 st:Option Nat
 acc:List (Nat×Nat)
 z:Int
structure StI (p:Int->Bool) (l:List UInt8) (a:St):Prop where
 z:qqX l a.st a.z a.i
 lo:-1000001<=a.z
 n:a.acc.length<=a.i
 m:a.acc.length<=l.length
 sp:∀q ∈ a.acc,q.1<=q.2∧q.2<=l.length
 eq:qnv p l a.i a.st a.acc=qnv p l 0 none []
end Go.Kc
end
section
/- What values.Words answers. Condition: the functions' texts are these. -/
namespace Go.Kc
variable {P:Program} {f:Nat}
end Go.Kc
end
section
/- Words, byte by byte. No condition. -/
namespace Go.Kc
end Go.Kc
end
section
/- What the setter's methods do: yes and no by their keys; architectures. Condition: the functions' texts are these. -/
namespace Go.Kc
variable {P:Program} {f:Nat}
end Go.Kc
end
section
/- What functions of strings and names answer. Condition: the functions' texts are these. -/
namespace Go.Kc
variable {P:Program} {f:Nat}
end Go.Kc
end
section
/- What the setter makes of families. Condition: the functions' texts are these. -/
namespace Go.Kc
variable {P:Program} {f:Nat}
end Go.Kc
end
section
/- What the setter makes of namespaces. Condition: the functions' texts are these. -/
namespace Go.Kc
variable {P:Program} {f:Nat}
end Go.Kc
end
section
/- What restrict.Set answers. Condition: the functions' texts are these. -/
namespace Go.Kc
variable {P:Program} {f:Nat}
theorem qgn.pure{g esz by':Nat}(h:qgn P g esz by'){n:Nat}{rows:List AV}(hl:rows.length=n*esz)(hc:qw rows=true)(ho:qD rows=true)(h1:n<=qe)(h2:n*by'<=qe):qf P g [.fz n rows] (.fz n rows):=by
 refine (h n rows hl hc ho h1 h2).pure (by simp[qw,clo]) ?_;refine .own 0 n esz true rows rows ?_ (fun h0=>?_) (Frzs.self hc)
 ·simp[z2,Hp.push,shb,H0,Tr.get_set,jQ hc]
 ·subst h0;exact List.eq_nil_of_length_eq_zero (by omega)
structure PolOk (p:Pol):Prop where
 a:p.arches.length<=1000
 f:p.fams.length<=1000
 c:p.filter.calls.length<=1000
 l:p.log.calls.length<=1000
def qpe:List UInt8:=[83,121,115,116,101,109,67,97,108,108,65,114,99,104,105,116,101,99,116,117,114,101,115]
def qqs:List UInt8:=[82,101,115,116,114,105,99,116,65,100,100,114,101,115,115,70,97,109,105,108,105,101,115]
def kSp:List UInt8:=[82,101,115,116,114,105,99,116,78,97,109,101,115,112,97,99,101,115]
end Go.Kc
end
section
/- What restrict.Set and restrict.Key answer. Condition: the functions' texts are these. -/
namespace Go.Kc
variable {P:Program} {f:Nat}
end Go.Kc
end
section
/- The law RestrictSpaces. Condition: the functions' texts are these. -/
namespace Go.Kc
variable {P:Program} {f:Nat}
end Go.Kc
end
section
/- What a setter leaves: lists that rise still rise, only the named field differs, every note tells of a fault. No condition. -/
namespace Go.Kc
def qot(p:Pol):Prop:=p.arches.Pairwise (· < ·)∧p.fams.Pairwise (· < ·)
instance (p:Pol):Decidable (qot p):=inferInstanceAs (Decidable (_∧_))
end Go.Kc
end
section
/- What the small functions of the law RestrictOwn answer. Condition: the functions' texts are these. -/
namespace Go.Kc
variable {P:Program} {f:Nat}
end Go.Kc
end
section
/- Does a policy rise. Condition: the function's text is this. -/
namespace Go.Kc
variable {P:Program} {f:Nat}
end Go.Kc
end
section
/- The law RestrictOwn: whatever the policy and the assignment, true comes back. Condition: the functions' texts are these. -/
namespace Go.Kc
variable {P:Program} {f:Nat}
end Go.Kc
end
section
/- What the names of faults answer, the program's and the reference's. Condition: the functions' texts are these. -/
namespace Go.Kc
variable {P:Program} {f:Nat}
end Go.Kc
end
section
/- The small functions of fold: what they answer. Condition: the functions' texts are these. -/
namespace Go.Kc
variable {P:Program} {f:Nat}
def qp5(n:Int):Bool:=decide (n=0)||decide (n=2147483648)||(decide (327680<=n)&&decide (n<=331775))
def kB(l:List GCall)(s:List UInt8):Option GCall:=l.find? (fun c=>decide (c.name=s))
end Go.Kc
end
section
/- A binary search among calls by a function; a list of calls without some. Condition: the functions' texts are these. -/
namespace Go.Kc
variable {P:Program} {f:Nat}
end Go.Kc
end
section
/- What slices.DeleteFunc makes of a row of calls of one's own. Condition: the functions' texts are these. -/
namespace Go.Kc
variable {P:Program} {f:Nat}
end Go.Kc
end
section
/- Is a call known. Condition: the functions' texts are these. -/
namespace Go.Kc
variable {P:Program} {f:Nat}
def xp:List (List UInt8×List Int):=[([98,105,110,100],[49,361,49,282,200,200]),([98,112,102],[321,357,321,386,280,280]),([98,114,107],[12,45,12,45,214,214]),([99,108,111,99,107,95,115,101,116,116,105,109,101],[227,264,227,262,112,112]),([99,108,111,110,101],[56,120,56,120,220,220]),([99,108,111,110,101,51],[435,435,(-1),435,435,435]),([99,108,111,115,101],[3,6,3,6,57,57]),([99,111,110,110,101,99,116],[42,362,42,283,203,203]),([100,101,108,101,116,101,95,109,111,100,117,108,101],[176,129,176,129,106,106]),([101,120,101,99,118,101],[59,11,520,11,221,221]),([101,120,105,116],[60,1,60,1,93,93]),([102,105,110,105,116,95,109,111,100,117,108,101],[313,350,313,379,273,273]),([102,111,114,107],[57,2,57,2,(-1),(-1)]),([103,101,116,117,105,100],[102,24,102,24,174,174]),([105,110,105,116,95,109,111,100,117,108,101],[175,128,(-1),128,105,105]),([105,111,99,116,108],[16,54,514,54,29,29]),([107,105,108,108],[62,37,62,37,129,129]),([108,105,115,116,101,110],[50,363,50,284,201,201]),([109,109,97,112],[9,90,9,(-1),222,222]),([109,111,117,110,116],[165,21,165,21,40,40]),([109,112,114,111,116,101,99,116],[10,125,10,125,226,226]),([109,117,110,109,97,112],[11,91,11,91,215,215]),([111,112,101,110],[2,5,2,5,(-1),(-1)]),([111,112,101,110,97,116],[257,295,257,322,56,56]),([112,101,114,115,111,110,97,108,105,116,121],[135,136,135,136,92,92]),([112,107,101,121,95,109,112,114,111,116,101,99,116],[329,380,329,394,288,(-1)]),([112,116,114,97,99,101],[101,26,521,26,117,117]),([114,101,97,100],[0,3,0,3,63,63]),([114,101,98,111,111,116],[169,88,169,88,142,142]),([115,99,104,101,100,95,115,101,116,97,116,116,114],[314,351,314,380,274,274]),([115,99,104,101,100,95,115,101,116,115,99,104,101,100,117,108,101,114],[144,156,144,156,119,119]),([115,101,99,99,111,109,112],[317,354,317,383,277,277]),([115,101,116,110,115],[308,346,308,375,268,268]),([115,101,116,116,105,109,101,111,102,100,97,121],[164,79,164,79,170,170]),([115,101,116,117,105,100],[105,23,105,23,146,146]),([115,104,109,97,116],[30,397,(-1),305,196,196]),([115,111,99,107,101,116],[41,359,41,281,198,198]),([117,109,111,117,110,116,50],[166,52,166,52,39,39]),([117,110,115,104,97,114,101],[272,310,272,337,97,97]),([119,114,105,116,101],[1,4,1,4,64,64])]
def qdz(s:List UInt8):Bool:=(xp.find? (fun x=>decide (x.1=s))).isSome
end Go.Kc
end
section
/- May a list be: what fold.May answers. Condition: the function's text is this. -/
namespace Go.Kc
variable {P:Program} {f:Nat}
def okC(c:GCall):Bool:=qdz c.name&&qp5 c.act
noncomputable def qa9:Option GCall->List GCall->Bool
 | _,[]=>true
 | o,c::l=>okC c&&(o.elim true fun b=>ltS b.name c.name)&&qa9 (some c) l
noncomputable def qaP(l:GList):Bool:=decide (l.mode<=2)&&(decide (l.mode≠0)||decide (l.calls=[]))&&qa9 none l.calls
end Go.Kc
end
section
/- What fold.Put and fold.Take answer. Condition: the functions' texts are these. -/
namespace Go.Kc
variable {P:Program} {f:Nat}
end Go.Kc
end
section
/- The law FilterKeys: the program's way. Condition: the functions' texts are these. -/
namespace Go.Kc
variable {P:Program} {f:Nat}
def qjE:List UInt8:=[83,121,115,116,101,109,67,97,108,108,70,105,108,116,101,114]
def qqt:List UInt8:=[83,121,115,116,101,109,67,97,108,108,76,111,103]
end Go.Kc
end
section
/- What a list's lines are read by: fold.ins, values.Read. Condition: the functions' texts are these. -/
namespace Go.Kc
variable {P:Program} {f:Nat}
structure Word where
 name:List UInt8
 act:Int
 has:Bool
end Go.Kc
end
section
/- What the document's reading of values answers. Condition: the functions' texts are these. -/
namespace Go.Kc
variable {P:Program} {f:Nat}
end Go.Kc
end
section
/- Lists and notes are the same as themselves. Condition: the functions' texts are these. -/
namespace Go.Kc
variable {P:Program} {f:Nat}
end Go.Kc
end
section
/- What a word of a list stands for: fold.members, of what groups.Expand answers. Condition: the functions' texts are these. -/
namespace Go.Kc
variable {P:Program} {f:Nat}
end Go.Kc
end
section
/- A note of a word: what fold.Step's closure does. Condition: the function's text is this. -/
namespace Go.Kc
variable {P:Program} {f:Nat}
end Go.Kc
end
section
/- What fold.Step makes of a list, in plain words. No condition. -/
namespace Go.Kc
variable (E:List UInt8->List (List UInt8)×Int)
end Go.Kc
end
section
/- The order of names; lists that rise; what Put and Take make of these. No condition. -/
namespace Go.Kc
theorem qeg:∀a:List UInt8,ltS a a=false
 | []=>rfl
 | c::x=>by rw[qcY,if_neg (UInt8.lt_irrefl c),if_pos rfl];exact qeg x
theorem qbw:∀{a b c:List UInt8},ltS a b=true->ltS b c=true->ltS a c=true
 | _,[],[],_,h2=>by simp[qjM] at h2
 | _,_::_,[],_,h2=>by simp[qcZ] at h2
 | [],_,_::_,_,_=>rfl
 | _::_,[],_::_,h1,_=>by simp[qcZ] at h1
 | a::x,b::y,c::z,h1,h2=>by
  rw[qcY] at h1 h2 ⊢;simp only[UInt8.lt_iff_toNat_lt,← UInt8.toNat_inj] at h1 h2 ⊢
  by_cases e1:a.toNat<b.toNat
  ·by_cases e2:b.toNat<c.toNat
   ·rw[if_pos (by omega)]
   ·rw[if_neg e2] at h2;split at h2
    ·rw[if_pos (by omega)]
    ·cases h2
  ·rw[if_neg e1] at h1;split at h1
   ·rename_i e3
    by_cases e2:b.toNat<c.toNat
    ·rw[if_pos (by omega)]
    ·rw[if_neg e2] at h2;split at h2
     ·rw[if_neg (by omega),if_pos (by omega)];exact qbw h1 h2
     ·cases h2
   ·cases h1
theorem qho{a b:List UInt8}(h:ltS a b=true):a≠b:=by
 intro e;rw[e,qeg] at h;cases h
def Up(l:List GCall):Prop:=l.Pairwise fun a b=>ltS a.name b.name=true
theorem qba:∀(o:Option GCall) (l:List GCall),qa9 o l=true↔((∀c ∈ l,okC c=true)∧Up l∧∀b,o=some b->∀c ∈ l,ltS b.name c.name=true)
 | o,[]=>by simp[qa9,Up]
 | o,c::l=>by
  have ih:=qba (some c) l;simp only[qa9,Bool.and_eq_true,ih,Up,List.pairwise_cons,List.mem_cons,forall_eq_or_imp];constructor
  ·rintro⟨⟨h1,h2⟩,h3,h4,h5⟩;refine⟨⟨h1,h3⟩,⟨h5 c rfl,h4⟩,?_⟩;rintro b rfl;exact⟨h2,fun d hd=>qbw h2 (h5 c rfl d hd)⟩
  ·rintro⟨⟨h1,h3⟩,⟨h5,h4⟩,h6⟩;refine⟨⟨h1,?_⟩,h3,h4,?_⟩
   ·cases o with
    | none=>rfl
    | some b=>exact (h6 b rfl).1
   ·rintro b hb;cases hb;exact h5
theorem qc2(l:GList):qaP l=true↔(l.mode<=2∧(l.mode≠0∨l.calls=[]))∧(∀c ∈ l.calls,okC c=true)∧Up l.calls:=by
 unfold qaP;rw[Bool.and_eq_true,Bool.and_eq_true,Bool.or_eq_true,decide_eq_true_eq,decide_eq_true_eq,decide_eq_true_eq,qba];simp
end Go.Kc
end
section
/- What fold.Step makes of a list that may be: it may be again. No condition. -/
namespace Go.Kc
theorem yd{α:Type} [DecidableEq α]:∀{l t:List α},l.Nodup->(∀x ∈ l,x ∈ t)->l.length<=t.length
 | [],_,_,_=>Nat.zero_le _
 | x::l,t,hn,hs=>by
  have hn':=List.nodup_cons.1 hn;have hx:=hs x List.mem_cons_self;have h1:=yd (t:=t.erase x) hn'.2 (fun y hy=>(List.mem_erase_of_ne (fun (e:y=x)=>hn'.1 (by rw[← e];exact hy))).2 (hs y (List.mem_cons_of_mem _ hy)))
  have h2:=List.length_erase_of_mem hx;have h3:0<t.length:=List.length_pos_of_mem hx;simp only[List.length_cons];omega
theorem qdA{s:List UInt8}(h:qdz s=true):s ∈ xp.map (·.1):=by
 unfold qdz at h;obtain⟨x,hx⟩:=Option.isSome_iff_exists.1 h;have h1:=List.mem_of_find?_eq_some hx;have h2:=List.find?_some hx;exact List.mem_map.2 ⟨x,h1,of_decide_eq_true h2⟩
theorem qej{l:GList}(h:qaP l=true):l.calls.length<=40:=by
 obtain⟨_,h1,h2⟩:=(qc2 l).1 h
 have:=yd (l:=l.calls.map (·.name)) (t:=xp.map (·.1)) (List.pairwise_map.2 (List.Pairwise.imp (R:=fun a b:GCall=>ltS a.name b.name=true) (fun hab=>qho hab) h2)) (by
  intro x hx;obtain⟨c,hc,rfl⟩:=List.mem_map.1 hx;have:=h1 c hc;simp only[okC,Bool.and_eq_true] at this;exact qdA this.1)
 have e:(xp.map (·.1)).length=40:=by rw[List.length_map];rfl
 rw[List.length_map] at this;omega
end Go.Kc
end
section
/- A list's value as a row of puts and takes; twice is as once. No condition. -/
namespace Go.Kc
variable (E:List UInt8->List (List UInt8)×Int)
variable {E}
end Go.Kc
end
section
/- What the document says of lists. Condition: the functions' texts are these. -/
namespace Go.Kc
variable {P:Program} {f:Nat}
def Rng(l:List GCall):Prop:=∀c ∈ l,0<=c.act∧c.act<=4294967295
end Go.Kc
end
section
/- What fold.Step answers. Condition: the functions' texts are these. -/
namespace Go.Kc
variable {P:Program} {f:Nat}
end Go.Kc
end
section
/- What fold.Step answers, whole. Condition: the functions' texts are these. -/
namespace Go.Kc
variable {P:Program} {f:Nat}
end Go.Kc
end
section
/- FoldKeeps, FoldTwice: what the laws answer. Condition: the functions' texts are these. -/
namespace Go.Kc
variable {P:Program} {f:Nat}
end Go.Kc
end
section
/- FoldOne: what the law answers. Condition: the functions' texts are these. -/
namespace Go.Kc
variable {P:Program} {f:Nat}
def qgo(P:Program)(f:Nat):Prop:=∀(l:GList) (s:List UInt8),l.calls.length<=100000->qf P f [.agg (qkM l),.s s] (.tup [.i .u32 (match kB l.calls s with|some c=>c.act|none=>0),.b (kB l.calls s).isSome])
end Go.Kc
end
section
/- What the document makes of lists: Find, take, Take, Put, Same. Condition: the functions' texts are these. -/
namespace Go.Kc
variable {P:Program} {f:Nat}
end Go.Kc
end
section
/- What fold.Put and fold.Take answer, in rows of one's own. Condition: the functions' texts are these. -/
namespace Go.Kc
variable {P:Program} {f:Nat}
end Go.Kc
end
section
/- FoldLists: what the law answers. Condition: the functions' texts are these. -/
namespace Go.Kc
variable {P:Program} {f:Nat}
end Go.Kc
end
section
/- What filter.Set answers: its functions. Condition: the functions' texts are these. -/
namespace Go.Kc
variable {P:Program} {f:Nat}
def qaV(a:Asg)(n:GNote):GNote:=⟨a.file,a.line,n.err,n.text⟩
end Go.Kc
end
section
/- What the keys of filter do to a policy. Condition: the functions' texts are these. -/
namespace Go.Kc
variable {P:Program} {f:Nat}
end Go.Kc
end
section
/- What filter.Set answers. Condition: the functions' texts are these. -/
namespace Go.Kc
variable {P:Program} {f:Nat}
end Go.Kc
end
section
/- FilterOwn: what the law answers. Condition: the functions' texts are these. -/
namespace Go.Kc
variable {P:Program} {f:Nat}
end Go.Kc
end
section
/- What policy.May answers. Condition: the functions' texts are these. -/
namespace Go.Kc
variable {P:Program} {f:Nat}
def inA(l:List Int)(x:Int):Bool:=decide (l=[])||decide (x ∈ l)
def qoJ(a:Int):List UInt8:=if a<0∨6<=a then [] else (qib.getD a.toNat ([],0)).1
def qdM(is:Int->Bool):Option Int->List Int->Bool
 | _,[]=>true
 | o,x::l=>is x&&(o.elim true fun b=>decide (b<x))&&qdM is (some x) l
def Qk(n:Int):List (List UInt8×Int)->List UInt8
 | []=>[]
 | p::l=>if p.2=n then p.1 else Qk n l
def qjd(n:Int):Bool:=decide (Qk n jk≠[])
noncomputable def qei(p:Pol):Bool:=qaP p.filter&&qaP p.log&&decide (qgF .u64 p.spaces 2114060416=0)
def qpp(p:Pol):Bool:=decide (p.fmode<=2)&&(decide (p.fmode≠0)||decide (p.fams=[]))
def qkT(n:Int):Bool:=decide (n=2147483648)||(decide (327680<=n)&&decide (n<=331775))
noncomputable def qfs(p:Pol):Bool:=!(p.log.calls.any fun c=>decide (c.act≠0))&&qkT p.deny&&qpp p&&qdM (fun a=>decide (0<=a)&&decide (a<6)) none p.arches&&qdM qjd none p.fams&&qei p
end Go.Kc
end
section
/- Tests, rules; numbers of calls; the helpers of lower. Condition: the functions' texts are these. -/
namespace Go.Kc
variable {P:Program} {f:Nat}
structure GTest where
 arg:Int
 mask:Int
 val:Int
 act:Int
def qoQ(t:GTest):List AV:=[.i .i64 t.arg,.i .u64 t.mask,.i .u64 t.val,.i .u32 t.act]
def rT(l:List GTest):List AV:=l.flatMap qoQ
structure GRule where
 nr:Int
 tests:List GTest
 act:Int
def qoP(r:GRule):List AV:=[.i .u32 r.nr,.fz r.tests.length (rT r.tests),.i .u32 r.act]
def rR(l:List GRule):List AV:=l.flatMap qoP
structure GFil where
 arch:Int
 rules:List GRule
 dflt:Int
def qp8(x:GFil):List AV:=[.i .i64 x.arch,.fz x.rules.length (rR x.rules),.i .u32 x.dflt]
section
variable {l m:List GTest} {j:Nat}
theorem qak:qw (rT l)=true:=k9 fun _=>rfl
end
section
variable {l m:List GRule} {j:Nat}
end
def qjT(x:List UInt8×List Int)(a:Int):Option Int :=
 if a<0∨6<=a∨x.2.getD a.toNat 0<0 then none else some (if a=2 then orI .u32 (IntKind.wrap .u32 (x.2.getD a.toNat 0)) 1073741824 else IntKind.wrap .u32 (x.2.getD a.toNat 0))
def qbf(a:Int)(s:List UInt8):Option Int:=(xp.find? (fun x=>decide (x.1=s))).bind fun x=>qjT x a
end Go.Kc
end
section
/- The helpers of lower. Condition: the functions' texts are these. -/
namespace Go.Kc
variable {P:Program} {f:Nat}
def kO(mode:Int)(n:Nat)(al dn:Bool):Bool:=if mode=1 then al||decide (0<n) else if mode=2 then dn||decide (0<n) else false
def jl(arg mask act:Int)(l:List Int):List GTest:=l.map fun v=>⟨arg,mask,v,act⟩
def jW(arg act:Int)(l:List Int):List GTest:=l.map fun v=>⟨arg,v,v,act⟩
def qd3(P:Program)(f:Nat):Prop:=∀(arg mask act:Int) (l:List Int),l.length<=100000->Own P f [.i .i64 arg,.i .u64 mask,.i .u32 act,.fz l.length (rI .u64 l)] (.own 0 l.length) [.cells 4 true true (rT (jl arg mask act l))]
def qgm(P:Program)(f:Nat):Prop:=∀(arg act:Int) (l:List Int),l.length<=100000->Own P f [.i .i64 arg,.i .u32 act,.fz l.length (rI .u64 l)] (.own 0 l.length) [.cells 4 true true (rT (jW arg act l))]
def yH(s:Int):List Int:=(qa6.map (·.2)).filter fun n=>decide (qdk .u64 s n≠0)
end Go.Kc
end
section
/- The rule method of lower's maker. Condition: the functions' texts are these. -/
namespace Go.Kc
variable {P:Program} {f:Nat}
def xP(a act:Int)(ts:List GTest)(ns:List (List UInt8)):List GRule:=ns.filterMap fun s=>(qbf a s).map fun n=>⟨n,ts,act⟩
end Go.Kc
end
section
/- What the document's May of a policy answers. Condition: the functions' texts are these. -/
namespace Go.Kc
variable {P:Program} {f:Nat}
structure PolR (p:Pol):Prop where
 fams:∀x ∈ p.fams,0<=x∧x<=4294967295
 deny:0<=p.deny∧p.deny<=4294967295
 spaces:0<=p.spaces∧p.spaces<18446744073709551616
 filter:Rng p.filter.calls
 log:Rng p.log.calls
section
variable {g1 g2 g3 g4:Nat}
end
end Go.Kc
end
section
/- The filter and log methods of lower's maker. Condition: the functions' texts are these. -/
namespace Go.Kc
variable {P:Program} {f:Nat}
def qql(a own:Int)(l:List GCall):List GRule:=l.flatMap fun c=>xP a (if c.act=0 then own else c.act) [] [c.name]
def ql3(p:Pol)(a:Int):Bool×List GRule×Int:=(kO p.filter.mode p.filter.calls.length true false,qql a (if p.filter.mode=1 then 2147418112 else p.deny) p.filter.calls,if p.filter.mode=1 then p.deny else 2147418112)
end Go.Kc
end
section
/- The log method of lower's maker. Condition: the functions' texts are these. -/
namespace Go.Kc
variable {P:Program} {f:Nat}
def qqw(a own:Int)(l:List GCall):List GRule:=l.flatMap fun c=>xP a own [] [c.name]
def qmv(p:Pol)(a:Int):Bool×List GRule×Int:=(kO p.log.mode p.log.calls.length false true,qqw a (if p.log.mode=2 then 2147418112 else 2147221504) p.log.calls,if p.log.mode=2 then 2147221504 else 2147418112)
end Go.Kc
end
section
/- The methods of lower's maker that make a few rules. Condition: the functions' texts are these. -/
namespace Go.Kc
variable {P:Program} {f:Nat}
def qlJ(P:Program)(f:Nat):Prop:=∀(arg mask act:Int) (l:List Int),l.length<=100000->qf P f [.i .i64 arg,.i .u64 mask,.i .u32 act,.fz l.length (rI .u64 l)] (.fz (jl arg mask act l).length (rT (jl arg mask act l)))
def qoL(P:Program)(f:Nat):Prop:=∀(arg act:Int) (l:List Int),l.length<=100000->qf P f [.i .i64 arg,.i .u32 act,.fz l.length (rI .u64 l)] (.fz (jW arg act l).length (rT (jW arg act l)))
theorem qd3.pure(h:qd3 P f):qlJ P f:=by
 intro arg mask act l hl;rw[show (jl arg mask act l).length=l.length by simp[jl]]
 refine (h arg mask act l hl).pure (by simp[qw,clo]) ?_;refine .own 0 _ 4 true _ _ ?_ (fun h0=>?_) (Frzs.self qak)
 ·simp[z2,Hp.push,shb,H0,Tr.get_set,jQ qak]
 ·rw[List.eq_nil_of_length_eq_zero h0];rfl
theorem qgm.pure(h:qgm P f):qoL P f:=by
 intro arg act l hl;rw[show (jW arg act l).length=l.length by simp[jW]]
 refine (h arg act l hl).pure (by simp[qw,clo]) ?_;refine .own 0 _ 4 true _ _ ?_ (fun h0=>?_) (Frzs.self qak)
 ·simp[z2,Hp.push,shb,H0,Tr.get_set,jQ qak]
 ·rw[List.eq_nil_of_length_eq_zero h0];rfl
def qal:List UInt8:=[115,99,104,101,100,95,115,101,116,115,99,104,101,100,117,108,101,114]
def rtM(p:Pol)(a:Int):Bool×List GRule×Int:=(p.rt,xP a 327681 (jl 1 4294967295 2147418112 [0,3,5]) [qal],2147418112)
end Go.Kc
end
section
/- The methods of lower's maker that make a few rules. Condition: the functions' texts are these. -/
namespace Go.Kc
variable {P:Program} {f:Nat}
def Qq:List UInt8:=[115,111,99,107,101,116]
def jA:List UInt8:=[117,110,115,104,97,114,101]
def kf:List UInt8:=[99,108,111,110,101]
def jF:List UInt8:=[115,101,116,110,115]
def jh:List UInt8:=[99,108,111,110,101,51]
def QN:List UInt8:=[109,109,97,112]
def jz:List UInt8:=[109,112,114,111,116,101,99,116]
def zD:List UInt8:=[112,107,101,121,95,109,112,114,111,116,101,99,116]
def yh:List UInt8:=[115,104,109,97,116]
def jE:List UInt8:=[112,101,114,115,111,110,97,108,105,116,121]
def peM(p:Pol)(a:Int):Bool×List GRule×Int:=(p.pe,xP a 327681 (jl 0 4294967295 2147418112 [0,4294967295]) [jE],2147418112)
def weM(p:Pol)(a:Int):Bool×List GRule×Int:=(p.we,xP a 2147418112 (jW 2 327681 [6]) [QN]++xP a 2147418112 (jW 2 327681 [4]) [jz,zD]++xP a 2147418112 (jW 2 327681 [32768]) [yh],2147418112)
end Go.Kc
end
section
/- The namespaces method of lower's maker. Condition: the functions' texts are these. -/
namespace Go.Kc
variable {P:Program} {f:Nat}
def nsM(p:Pol)(a:Int):Bool×List GRule×Int:=(decide (p.spaces≠0),xP a 2147418112 (jW 0 327681 (yH p.spaces)) [jA,kf]++xP a 2147418112 (jW 1 327681 (yH p.spaces)++jl 1 4294967295 327681 [0]) [jF]++xP a 327718 [] [jh],2147418112)
end Go.Kc
end
section
/- The families method of lower's maker. Condition: the functions' texts are these. -/
namespace Go.Kc
variable {P:Program} {f:Nat}
def fmM(p:Pol)(a:Int):Bool×List GRule×Int :=
 (kO p.fmode p.fams.length true false,xP a (if p.fmode=2 then 2147418112 else 327777) (jl 0 4294967295 (if p.fmode=2 then 327777 else 2147418112) p.fams) [Qq],2147418112)
end Go.Kc
end
section
/- What lower.Lower answers. Condition: the functions' texts are these. -/
namespace Go.Kc
variable {P:Program} {f:Nat}
def Q9(rs:List GRule):List GRule:=rs.mergeSort fun x y=>decide (x.nr<=y.nr)
def qek(d:Int):Option (Pol->Int->Bool×List GRule×Int) :=
 if d=1 then some ql3 else if d=2 then some qmv else if d=3 then some fmM else if d=4 then some nsM else if d=5 then some weM else if d=6 then some peM else if d=7 then some rtM else none
noncomputable def qaM(p:Pol)(d a:Int):Bool:=decide (0<=d)&&decide (d<8)&&(decide (0<=a)&&decide (a<6))&&qfs p&&inA p.arches a
noncomputable def qhn(p:Pol)(d a:Int):Option GFil :=
 if qaM p d a=true then (qek d).bind fun F=>if (F p a).1=true then some ⟨a,Q9 (F p a).2.1,(F p a).2.2⟩ else none else none
def qoI:Option GFil->AV
 | some x=>.tup [.agg (qp8 x),.b true]
 | none=>.tup [.agg [.i .i64 0,.fz 0 [],.i .u32 0],.b false]
end Go.Kc
end
section
/- What lower.Active, lower.All answer. Condition: the functions' texts are these. -/
namespace Go.Kc
variable {P:Program} {f:Nat}
section
variable {l m:List GFil} {j:Nat}
end
def qp9(P:Program)(f:Nat):Prop:=∀p,PolOk p->PolR p->∀d a:Int,qf P f [.agg (qoO p),.i .i64 d,.i .i64 a] (qoI (qhn p d a))
end Go.Kc
end
section
/- The document's flags, which directives are active. Condition: the functions' texts are these. -/
namespace Go.Kc
variable {P:Program} {f:Nat}
end Go.Kc
end
section
/- Which directives are active, by the document; its rule of a call. Condition: the functions' texts are these. -/
namespace Go.Kc
variable {P:Program} {f:Nat}
def qip(p:Pol)(d:Int):Bool :=
 if d=1 then kO p.filter.mode p.filter.calls.length true false else if d=2 then kO p.log.mode p.log.calls.length false true else if d=3 then kO p.fmode p.fams.length true false
 else if d=4 then decide (p.spaces≠0) else if d=5 then p.we else if d=6 then p.pe else if d=7 then p.rt else false
end Go.Kc
end
section
/- The document's rule of a call. Condition: the functions' texts are these. -/
namespace Go.Kc
variable {P:Program} {f:Nat}
def qjc(l:List GCall)(s:List UInt8):Int:=match kB l s with|some c=>c.act|none=>0
theorem qgo.act(h:qgo P f)(l:GList)(s:List UInt8)(hl:l.calls.length<=100000):qf P f [.agg (qkM l),.s s] (.tup [.i .u32 (qjc l.calls s),.b (kB l.calls s).isSome]):=h l s hl
def qlq(p:Pol)(s:List UInt8):Int:=if qjc p.filter.calls s=0 then (if p.filter.mode=1 then 2147418112 else p.deny) else qjc p.filter.calls s
def QS(s:List UInt8):Int:=if s=QN then 6 else if s=jz∨s=zD then 4 else if s=yh then 32768 else 0
def qca(p:Pol)(d:Int)(s:List UInt8):Bool×List GTest×Int :=
 if d=1 then ((kB p.filter.calls s).isSome,[],qlq p s)
 else if d=2 then ((kB p.log.calls s).isSome,[],if p.log.mode=1 then 2147221504 else 2147418112)
 else if d=3 then (decide (s=Qq),jl 0 4294967295 (if p.fmode=2 then 327777 else 2147418112) p.fams,if p.fmode=2 then 2147418112 else 327777)
 else if d=4 then (if s=jh then (true,[],327718) else (decide (s=jF)||decide (s=jA)||decide (s=kf),jW (if s=jF then 1 else 0) 327681 (yH p.spaces)++(if s=jF then [⟨1,4294967295,0,327681⟩] else []),2147418112))
 else if d=5 then (decide (0<QS s),[⟨2,QS s,QS s,327681⟩],2147418112)
 else if d=6 then (decide (s=jE),jl 0 4294967295 2147418112 [0,4294967295],327681)
 else (decide (s=qal),jl 1 4294967295 2147418112 [0,3,5],327681)
section
variable {g1 g2:Nat}
end
end Go.Kc
end
section
/- The document's rule of a call: namespaces, and all of it. Condition: the functions' texts are these. -/
namespace Go.Kc
variable {P:Program} {f:Nat}
section
variable {g1 g2:Nat}
end
end Go.Kc
end
section
/- What the document's Lower answers. Condition: the functions' texts are these. -/
namespace Go.Kc
variable {P:Program} {f:Nat}
def qfi(c:GCall):List GCall->List GCall
 | []=>[c]
 | x::l=>if c.act<=x.act then c::x::l else x::qfi c l
def qbJ(a:Int):List GCall:=(xp.filterMap fun x=>(qjT x a).map fun n=>(⟨x.1,n⟩:GCall)).foldr qfi []
def dfR(p:Pol)(d:Int):Int:=if d=1∧p.filter.mode=1 then p.deny else if d=2∧p.log.mode=2 then 2147221504 else 2147418112
def ruR(p:Pol)(d:Int)(l:List GCall):List GRule:=l.filterMap fun c=>if (qca p d c.name).1=true then some ⟨c.act,(qca p d c.name).2.1,(qca p d c.name).2.2⟩ else none
noncomputable def qa0(p:Pol)(d a:Int):Option GFil:=if (decide (0<=a)&&decide (a<6)&&qfs p&&inA p.arches a&&qip p d)=true then some ⟨a,ruR p d (qbJ a),dfR p d⟩ else none
section
variable {g1 g2 g3 g4 g5:Nat}
def qkN(P:Program)(f:Nat):Prop:=∀p,PolOk p->PolR p->∀d a:Int,qf P f [.agg (qoO p),.i .i64 d,.i .i64 a] (qoI (qa0 p d a))
end
end Go.Kc
end
section
/- When two filters are the same, by the document; all its filters. Condition: the functions' texts are these. -/
namespace Go.Kc
variable {P:Program} {f:Nat}
end Go.Kc
end
section
/- The plain law of lower: what its code makes is what the document says. No condition. -/
namespace Go.Kc
theorem qbE{α:Type}(k:α->Int):∀{l m:List α},l.Pairwise (fun x y=>k x<k y)->m.Pairwise (fun x y=>k x<k y)->(∀x,x ∈ l↔x ∈ m)->l=m
 | [],[],_,_,_=>rfl
 | [],y::m,_,_,h=>by have:=(h y).2 (by simp);simp at this
 | x::l,[],_,_,h=>by have:=(h x).1 (by simp);simp at this
 | x::l,y::m,hl,hm,h=>by
  obtain⟨h1,h2⟩:=List.pairwise_cons.1 hl;obtain⟨h3,h4⟩:=List.pairwise_cons.1 hm
  have e:x=y:=by
   rcases List.mem_cons.1 ((h x).1 (by simp)) with e|e
   ·exact e
   ·rcases List.mem_cons.1 ((h y).2 (by simp)) with e'|e'
    ·exact e'.symm
    ·have:=h3 x e;have:=h1 y e';omega
  subst e
  congr 1
  refine qbE k h2 h4 fun z=>?_
  constructor
  ·intro hz;rcases List.mem_cons.1 ((h z).1 (List.mem_cons_of_mem _ hz)) with e|e
   ·subst e;have:=h1 z hz;omega
   ·exact e
  ·intro hz;rcases List.mem_cons.1 ((h z).2 (List.mem_cons_of_mem _ hz)) with e|e
   ·subst e;have:=h3 z hz;omega
   ·exact e
theorem qcf{rs:List GRule}(hn:(rs.map GRule.nr).Nodup):(Q9 rs).Pairwise (fun x y=>x.nr<y.nr):=by
 have h1:(Q9 rs).Pairwise (fun x y=>decide (x.nr<=y.nr)=true):=List.pairwise_mergeSort (fun a b c h1 h2=>by simp at *;omega) (fun a b=>by simp;omega) rs
 have h2:((Q9 rs).map GRule.nr).Nodup:=((List.mergeSort_perm rs _).map GRule.nr).nodup_iff.2 hn;have h3:(Q9 rs).Pairwise (fun x y=>x.nr≠y.nr):=List.pairwise_map.1 h2
 refine (h1.and h3).imp ?_;intro a b ⟨h,h'⟩;simp at h;omega
theorem qfN{rs:List GRule}{r:GRule}:r ∈ Q9 rs↔r ∈ rs:=(List.mergeSort_perm rs _).mem_iff
theorem qcR{c x:GCall}:∀{l:List GCall},x ∈ qfi c l↔x=c∨x ∈ l
 | []=>by simp[qfi]
 | y::l=>by
  unfold qfi;split
  ·simp
  ·rw[List.mem_cons,qcR,List.mem_cons];constructor
   ·rintro (h|h|h)
    ·exact .inr (.inl h)
    ·exact .inl h
    ·exact .inr (.inr h)
   ·rintro (h|h|h)
    ·exact .inr (.inl h)
    ·exact .inl h
    ·exact .inr (.inr h)
theorem qeO{a:Int}{c:GCall}:c ∈ qbJ a↔∃x ∈ xp,qjT x a=some c.act∧x.1=c.name:=by
 unfold qbJ
 have h1:∀l:List GCall,c ∈ l.foldr qfi []↔c ∈ l:=by
  intro l;induction l with
  | nil=>simp
  | cons y l ih=>rw[List.foldr_cons,qcR,ih,List.mem_cons]
 rw[h1,List.mem_filterMap];constructor
 ·rintro⟨x,hx,h⟩;cases hn:qjT x a with
  | none=>rw[hn] at h;cases h
  | some n=>rw[hn] at h;cases h;exact⟨x,hx,hn,rfl⟩
 ·rintro⟨x,hx,h,h2⟩;refine⟨x,hx,?_⟩;rw[h];cases c;simp_all
theorem qfS:(xp.map (·.1)).Nodup:=by decide +kernel
theorem qbn{α:Type}(k:α->List UInt8){l:List α}(hn:(l.map k).Nodup){x:α}(hx:x ∈ l):l.find? (fun y=>decide (k y=k x))=some x:=by
 induction l with
 | nil=>simp at hx
 | cons y l ih =>
  rw[List.map_cons,List.nodup_cons] at hn;rw[List.find?_cons]
  by_cases h:k y=k x
  ·have e:y=x:=by
    rcases List.mem_cons.1 hx with e|e
    ·exact e.symm
    ·exact absurd (by rw[h];exact List.mem_map_of_mem (f:=k) e) hn.1
   subst e;simp
  ·rcases List.mem_cons.1 hx with e|e
   ·subst e;exact absurd rfl h
   ·simp[h];exact ih hn.2 e
theorem y1{a:Int}{c:GCall}:c ∈ qbJ a↔qbf a c.name=some c.act:=by
 rw[qeO];unfold qbf;constructor
 ·rintro⟨x,hx,h,h2⟩;rw[← h2,qbn (·.1) qfS hx];exact h
 ·intro h;cases hf:xp.find? (fun x=>decide (x.1=c.name)) with
  | none=>rw[hf] at h;cases h
  | some x =>
   rw[hf] at h;exact⟨x,List.mem_of_find?_eq_some hf,h,by simpa using List.find?_some hf⟩
theorem QV{a:Int}(h0:0<=a)(h6:a<6):(qbJ a).Pairwise (fun x y=>x.act<y.act):=by
 have:a=0∨a=1∨a=2∨a=3∨a=4∨a=5:=by omega
 rcases this with rfl|rfl|rfl|rfl|rfl|rfl<;>decide +kernel
theorem qjU{a:Int}(h0:0<=a)(h6:a<6){s t:List UInt8}{n:Int}(h1:qbf a s=some n)(h2:qbf a t=some n):s=t:=by
 have hs:(⟨s,n⟩:GCall) ∈ qbJ a:=y1.2 h1;have ht:(⟨t,n⟩:GCall) ∈ qbJ a:=y1.2 h2;have hp:=QV h0 h6
 by_cases e:s=t
 ·exact e
 ·exfalso
  have:∀{l:List GCall},l.Pairwise (fun x y=>x.act<y.act)->(⟨s,n⟩:GCall) ∈ l->(⟨t,n⟩:GCall) ∈ l->False:=by
   intro l;induction l with
   | nil=>intro _ h;simp at h
   | cons x l ih =>
    intro hl h1 h2;obtain⟨k1,k2⟩:=List.pairwise_cons.1 hl;rcases List.mem_cons.1 h1 with e1|e1<;>rcases List.mem_cons.1 h2 with e2|e2
    ·rw[← e2] at e1;simp at e1;exact e e1
    ·subst e1;have:=k1 _ e2;simp at this
    ·subst e2;have:=k1 _ e1;simp at this
    ·exact ih k2 e1 e2
  exact this hp hs ht
def wb(a:Int)(g:List UInt8->List GTest×Int)(ns:List (List UInt8)):List GRule:=ns.filterMap fun s=>(qbf a s).map fun n=>⟨n,(g s).1,(g s).2⟩
theorem qcK{a:Int}{g:List UInt8->List GTest×Int}{ns:List (List UInt8)}{r:GRule}:r ∈ wb a g ns↔∃s ∈ ns,qbf a s=some r.nr∧r.tests=(g s).1∧r.act=(g s).2:=by
 unfold wb;rw[List.mem_filterMap];constructor
 ·rintro⟨s,hs,h⟩;cases hn:qbf a s with
  | none=>rw[hn] at h;cases h
  | some n=>rw[hn] at h;cases h;exact⟨s,hs,hn,rfl,rfl⟩
 ·rintro⟨s,hs,h,h2,h3⟩;refine⟨s,hs,?_⟩;rw[h];cases r;simp_all
theorem qdw{a:Int}(h0:0<=a)(h6:a<6){g:List UInt8->List GTest×Int}{ns:List (List UInt8)}(hn:ns.Nodup):((wb a g ns).map GRule.nr).Nodup:=by
 induction ns with
 | nil=>exact List.nodup_nil
 | cons s ns ih =>
  obtain⟨h1,h2⟩:=List.nodup_cons.1 hn;unfold wb;rw[List.filterMap_cons];cases hs:qbf a s with
  | none=>exact ih h2
  | some n =>
   simp only[Option.map_some,List.map_cons];refine List.nodup_cons.2 ⟨?_,ih h2⟩;intro hm;obtain⟨r,hr,e⟩:=List.mem_map.1 hm;obtain⟨t,ht,k1,_,_⟩:=qcK.1 hr;rw[e] at k1;exact h1 (qjU h0 h6 hs k1 ▸ ht)
theorem kE{a:Int}{g:List UInt8->List GTest×Int}{ns ms:List (List UInt8)}:wb a g (ns++ms)=wb a g ns++wb a g ms:=List.filterMap_append
theorem zU{a act:Int}{ts:List GTest}{g:List UInt8->List GTest×Int}:∀{ns:List (List UInt8)},(∀s ∈ ns,g s=(ts,act))->xP a act ts ns=wb a g ns
 | [],_=>rfl
 | s::ns,h=>by
  have e:=zU (a:=a) (ns:=ns) fun t ht=>h t (List.mem_cons_of_mem _ ht)
  unfold xP wb at *;rw[List.filterMap_cons,List.filterMap_cons,e,h s (by simp)]
theorem v5{p:Pol}{d a:Int}(h0:0<=a)(h6:a<6){ns:List (List UInt8)}{g:List UInt8->List GTest×Int}(hn:ns.Nodup)(h1:∀s n,qbf a s=some n->((qca p d s).1=true↔s ∈ ns))(h2:∀s ∈ ns,g s=(qca p d s).2):Q9 (wb a g ns)=ruR p d (qbJ a):=by
 refine qbE GRule.nr (qcf (qdw h0 h6 hn)) ?_ fun r=>?_
 ·unfold ruR;refine List.Pairwise.filterMap _ ?_ (QV h0 h6);intro c c' hlt x hx y hy;split at hx
  ·split at hy
   ·cases hx;cases hy;exact hlt
   ·cases hy
  ·cases hx
 ·rw[qfN,qcK];unfold ruR;rw[List.mem_filterMap];constructor
  ·rintro⟨s,hs,k1,k2,k3⟩;have k:=(h1 s _ k1).2 hs;refine⟨⟨s,r.nr⟩,y1.2 k1,?_⟩;rw[h2 s hs] at k2 k3;rw[if_pos k];cases r;simp_all
  ·rintro⟨c,hc,h⟩;have k1:=y1.1 hc;split at h
   ·rename_i k;cases h;have hs:=(h1 c.name _ k1).1 k;exact⟨c.name,hs,k1,by rw[h2 _ hs],by rw[h2 _ hs]⟩
   ·cases h
theorem QF{l:GList}(h:qaP l=true):(l.calls.map (·.name)).Nodup:=by
 have h2:=((qc2 l).1 h).2.2;exact List.pairwise_map.2 (List.Pairwise.imp (fun hab=>qho hab) h2)
theorem qaQ{p:Pol}(h:qfs p=true):qaP p.filter=true∧qaP p.log=true:=by
 unfold qfs qei at h;simp only[Bool.and_eq_true] at h;exact⟨h.2.1.1,h.2.1.2⟩
theorem qfe{l:List GCall}(hn:(l.map (·.name)).Nodup){c:GCall}(hc:c ∈ l):kB l c.name=some c:=qbn GCall.name hn hc
theorem qbm{l:List GCall}{s:List UInt8}:(kB l s).isSome=true↔s ∈ l.map (·.name):=by
 unfold kB;rw[List.find?_isSome];simp only[decide_eq_true_eq,List.mem_map]
theorem qaC{a:Int}{g:List UInt8->List GTest×Int}{A:GCall->Int}:∀{l:List GCall},(∀c ∈ l,g c.name=([],A c))->(l.flatMap fun c=>xP a (A c) [] [c.name])=wb a g (l.map (·.name))
 | [],_=>rfl
 | c::l,h=>by
  have e:=qaC (a:=a) (A:=A) (l:=l) fun x hx=>h x (List.mem_cons_of_mem _ hx)
  rw[List.flatMap_cons,e,zU (g:=g) (by intro s hs;simp at hs;subst hs;exact h c (by simp)),← kE]
  rfl
def qo5(p:Pol)(s:List UInt8):List GTest×Int:=([],qlq p s)
theorem qjf{p:Pol}{a:Int}(hm:qaP p.filter=true):(ql3 p a).2.1=wb a (qo5 p) (p.filter.calls.map (·.name)):=by
 refine qaC fun c hc=>?_
 have hf:=qfe (QF hm) hc;simp only[qo5,qlq,qjc,hf]
def qqp(p:Pol)(_:List UInt8):List GTest×Int:=([],if p.log.mode=2 then 2147418112 else 2147221504)
theorem qjL{p:Pol}{a:Int}:(qmv p a).2.1=wb a (qqp p) (p.log.calls.map (·.name)):=qaC (A:=fun _=>if p.log.mode=2 then 2147418112 else 2147221504) fun _ _=>rfl
def Qb(p:Pol)(d:Int)(s:List UInt8):List GTest×Int:=(qca p d s).2
theorem qje{p:Pol}{a:Int}:(fmM p a).2.1=wb a (Qb p 3) [Qq]:=zU fun _ _=>rfl
def nsL:List (List UInt8):=[jA,kf,jF,jh]
theorem qmN{p:Pol}{a:Int}:(nsM p a).2.1=wb a (Qb p 4) nsL:=by
 have h1:xP a 2147418112 (jW 0 327681 (yH p.spaces)) [jA,kf]=wb a (Qb p 4) [jA,kf]:=zU fun s hs=>by
  simp only[List.mem_cons,List.not_mem_nil,or_false] at hs;rcases hs with rfl|rfl<;>simp (decide:=true) [Qb,qca,jA,kf,jh,jF]
 have h2:xP a 2147418112 (jW 1 327681 (yH p.spaces)++jl 1 4294967295 327681 [0]) [jF]=wb a (Qb p 4) [jF]:=zU fun s hs=>by
  simp only[List.mem_cons,List.not_mem_nil,or_false] at hs;subst hs;simp (decide:=true) [Qb,qca,jh,jF,jl]
 have h3:xP a 327718 [] [jh]=wb a (Qb p 4) [jh]:=zU fun s hs=>by
  simp only[List.mem_cons,List.not_mem_nil,or_false] at hs;subst hs;simp (decide:=true) [Qb,qca]
 show _++_++_=_;rw[h1,h2,h3,← kE,← kE];rfl
def weL:List (List UInt8):=[QN,jz,zD,yh]
theorem qnP{p:Pol}{a:Int}:(weM p a).2.1=wb a (Qb p 5) weL:=by
 have h1:xP a 2147418112 (jW 2 327681 [6]) [QN]=wb a (Qb p 5) [QN]:=zU fun s hs=>by
  simp only[List.mem_cons,List.not_mem_nil,or_false] at hs;subst hs;rfl
 have h2:xP a 2147418112 (jW 2 327681 [4]) [jz,zD]=wb a (Qb p 5) [jz,zD]:=zU fun s hs=>by
  simp only[List.mem_cons,List.not_mem_nil,or_false] at hs;rcases hs with rfl|rfl<;>rfl
 have h3:xP a 2147418112 (jW 2 327681 [32768]) [yh]=wb a (Qb p 5) [yh]:=zU fun s hs=>by
  simp only[List.mem_cons,List.not_mem_nil,or_false] at hs;subst hs;rfl
 show _++_++_=_;rw[h1,h2,h3,← kE,← kE];rfl
theorem qnf{p:Pol}{a:Int}:(peM p a).2.1=wb a (Qb p 6) [jE]:=zU fun _ _=>rfl
theorem qnp{p:Pol}{a:Int}:(rtM p a).2.1=wb a (Qb p 7) [qal]:=zU fun _ _=>rfl
end Go.Kc
end
section
/- The plain law of lower: its filters are the document's. No condition. -/
namespace Go.Kc
theorem qnQ(s:List UInt8):(0<QS s)↔s ∈ weL:=by
 unfold QS weL
 by_cases h1:s=QN
 ·simp[h1]
 by_cases h2:s=jz
 ·subst h2;decide
 by_cases h3:s=zD
 ·subst h3;decide
 by_cases h4:s=yh
 ·simp only[if_neg h1,if_neg (not_or.2 ⟨h2,h3⟩),if_pos h4];simp[h4]
 ·simp[h1,h2,h3,h4]
theorem ww{p:Pol}{d a:Int}{F:Pol->Int->Bool×List GRule×Int}(hF:qek d=some F)(hd:0<=d∧d<8)(h1:qip p d=(F p a).1)
  (h2:qaM p d a=true->(F p a).1=true->Q9 (F p a).2.1=ruR p d (qbJ a)∧(F p a).2.2=dfR p d):qa0 p d a=qhn p d a:=by
 have e:qaM p d a=(decide (0<=a)&&decide (a<6)&&qfs p&&inA p.arches a):=by
  unfold qaM;simp[hd.1,hd.2]
 unfold qa0 qhn;rw[hF];cases hk:qaM p d a with
 | false =>
  rw[e] at hk;rw[if_neg (by rw[hk];simp),if_neg (by decide)]
 | true =>
  have hk':=hk;rw[e] at hk';rw[if_pos rfl];simp only[Option.bind_some];cases ha:(F p a).1 with
  | false=>rw[if_neg (by rw[h1,ha];simp),if_neg (by decide)]
  | true =>
   obtain⟨k1,k2⟩:=h2 hk ha;rw[if_pos (by rw[h1,ha,hk'];rfl),if_pos rfl,k1,k2]
theorem xj{p:Pol}{d a:Int}(h:qaM p d a=true):0<=a∧a<6∧qfs p=true:=by
 unfold qaM at h;simp only[Bool.and_eq_true,decide_eq_true_eq] at h;exact⟨h.1.1.2.1,h.1.1.2.2,h.1.2⟩
theorem qmw(p:Pol)(d a:Int):qa0 p d a=qhn p d a:=by
 by_cases d1:d=1
 ·subst d1;refine ww (F:=ql3) rfl (by decide) rfl fun hk _=>?_
  obtain⟨h0,h6,hm⟩:=xj hk;have hf:=(qaQ hm).1;refine⟨?_,?_⟩
  ·rw[qjf hf];refine v5 h0 h6 (QF hf) (fun s n _=>?_) fun s _=>?_
   ·show (kB p.filter.calls s).isSome=true↔_;exact qbm
   ·rfl
  ·show (if p.filter.mode=1 then p.deny else 2147418112)=_
   simp[dfR]
 by_cases d2:d=2
 ·subst d2;refine ww (F:=qmv) rfl (by decide) rfl fun hk hact=>?_
  obtain⟨h0,h6,hm⟩:=xj hk;have hl:=(qaQ hm).2
  have hmode:p.log.mode=1∨p.log.mode=2:=by
   have hact:kO p.log.mode p.log.calls.length false true=true:=hact;unfold kO at hact;split at hact
   ·exact .inl (by assumption)
   ·split at hact
    ·exact .inr (by assumption)
    ·cases hact
  refine⟨?_,?_⟩
  ·rw[qjL];refine v5 h0 h6 (QF hl) (fun s n _=>?_) fun s _=>?_
   ·show (kB p.log.calls s).isSome=true↔_;exact qbm
   ·show ([],_)=([],if p.log.mode=1 then (2147221504:Int) else 2147418112)
    rcases hmode with h|h<;>simp[h]
  ·show (if p.log.mode=2 then 2147221504 else 2147418112)=_
   simp[dfR]
 by_cases d3:d=3
 ·subst d3;refine ww (F:=fmM) rfl (by decide) rfl fun hk _=>?_
  obtain⟨h0,h6,hm⟩:=xj hk;refine⟨?_,by simp[dfR,fmM]⟩
  rw[qje];refine v5 h0 h6 (by decide) (fun s n _=>?_) fun s _=>rfl
  show decide (s=Qq)=true↔_;simp
 by_cases d4:d=4
 ·subst d4;refine ww (F:=nsM) rfl (by decide) rfl fun hk _=>?_
  obtain⟨h0,h6,hm⟩:=xj hk;refine⟨?_,by simp[dfR,nsM]⟩
  rw[qmN];refine v5 h0 h6 (by decide) (fun s n _=>?_) fun s _=>rfl
  show (if s=jh then ((true,[],327718):Bool×List GTest×Int) else (decide (s=jF)||decide (s=jA)||decide (s=kf),_,_)).1=true↔_
  unfold nsL
  by_cases k:s=jh
  ·simp[k]
  ·rw[if_neg k];simp only[Bool.or_eq_true,decide_eq_true_eq,List.mem_cons,List.not_mem_nil,or_false];constructor
   ·rintro ((h|h)|h)
    ·exact .inr (.inr (.inl h))
    ·exact .inl h
    ·exact .inr (.inl h)
   ·rintro (h|h|h|h)
    ·exact .inl (.inr h)
    ·exact .inr h
    ·exact .inl (.inl h)
    ·exact absurd h k
 by_cases d5:d=5
 ·subst d5;refine ww (F:=weM) rfl (by decide) rfl fun hk _=>?_
  obtain⟨h0,h6,hm⟩:=xj hk;refine⟨?_,by simp[dfR,weM]⟩
  rw[qnP];refine v5 h0 h6 (by decide) (fun s n _=>?_) fun s _=>rfl
  show decide (0<QS s)=true↔_;rw[decide_eq_true_eq];exact qnQ s
 by_cases d6:d=6
 ·subst d6;refine ww (F:=peM) rfl (by decide) rfl fun hk _=>?_
  obtain⟨h0,h6,hm⟩:=xj hk;refine⟨?_,by simp[dfR,peM]⟩
  rw[qnf];refine v5 h0 h6 (by decide) (fun s n _=>?_) fun s _=>rfl
  show decide (s=jE)=true↔_;simp
 by_cases d7:d=7
 ·subst d7;refine ww (F:=rtM) rfl (by decide) rfl fun hk _=>?_
  obtain⟨h0,h6,hm⟩:=xj hk;refine⟨?_,by simp[dfR,rtM]⟩
  rw[qnp];refine v5 h0 h6 (by decide) (fun s n _=>?_) fun s _=>rfl
  show decide (s=qal)=true↔_;simp
 have e1:qip p d=false:=by simp[qip,d1,d2,d3,d4,d5,d6,d7]
 have e2:qek d=none:=by simp[qek,d1,d2,d3,d4,d5,d6,d7]
 unfold qa0 qhn;rw[e1,e2,Bool.and_false,if_neg (by decide)];split<;>rfl
theorem qkN.low{P:Program}{f:Nat}(h:qkN P f):qp9 P f:=fun p hp hR d a=>by rw[← qmw];exact h p hp hR d a
end Go.Kc
end
section
/- LowerAll: what the law answers. Condition: the functions' texts are these. -/
namespace Go.Kc
variable {P:Program} {f:Nat}
end Go.Kc
end
section
/- Actions that are known, rules and filters that may be, a call's name by its number. Condition: the functions' texts are these. -/
namespace Go.Kc
variable {P:Program} {f:Nat}
end Go.Kc
end
section
/- Rules and filters that may be; a call's name by its number. Condition: the functions' texts are these. -/
namespace Go.Kc
variable {P:Program} {f:Nat}
end Go.Kc
end
section
/- Filters that may be; LowerMay: what the law answers. Condition: the functions' texts are these. -/
namespace Go.Kc
variable {P:Program} {f:Nat}
end Go.Kc
end
section
/- The plain law of LowerMay: lower's filters may be, their numbers have names. No condition. -/
namespace Go.Kc
end Go.Kc
end
section
/- What assignments come to, one behind the other: it may be. No condition. -/
namespace Go.Kc
structure PMay (p:Pol):Prop where
 own:∀c ∈ p.log.calls,c.act=0
 deny:qkT p.deny=true
 mode:p.fmode<=2∧(p.fmode≠0∨p.fams=[])
 ar:∀a ∈ p.arches,0<=a∧a<6
 ap:p.arches.Pairwise (· < ·)
 fr:∀n ∈ p.fams,qjd n=true
 fp:p.fams.Pairwise (· < ·)
 fil:qaP p.filter=true
 log:qaP p.log=true
 sp:qgF .u64 p.spaces 2114060416=0
structure PI (p:Pol):Prop where
 may:PMay p
 f0:0<=p.filter.mode
 l0:0<=p.log.mode
 m0:0<=p.fmode
 s0:0<=p.spaces∧p.spaces<18446744073709551616
theorem qaU{l:List Int}(h:l.Pairwise (· < ·)):l.Nodup:=h.imp fun h e=>by omega
theorem qgX{n:Int}(h:qjd n=true):n ∈ jk.map (·.2):=by
 unfold qjd at h;have h':Qk n jk≠[]:=by simpa using h
 have:∀(t:List (List UInt8×Int)),Qk n t≠[]->n ∈ t.map (·.2):=by
  intro t
  induction t with
  | nil=>intro h;exact absurd rfl h
  | cons x t ih =>
   intro h;unfold Qk at h;split at h
   ·rename_i e;simp[e]
   ·exact List.mem_cons_of_mem _ (ih h)
 exact this _ h'
theorem qga{a:Int}(h:0<=a∧a<6):a ∈ ([0,1,2,3,4,5]:List Int):=by
 have:a=0∨a=1∨a=2∨a=3∨a=4∨a=5:=by omega
 simpa using this
theorem PMay.lens{p:Pol}(h:PMay p):p.arches.length<=6∧p.fams.length<=8∧p.filter.calls.length<=40∧p.log.calls.length<=40 :=
 ⟨yd (t:=[0,1,2,3,4,5]) (qaU h.ap) fun x hx=>qga (h.ar x hx),yd (t:=jk.map (·.2)) (qaU h.fp) fun x hx=>qgX (h.fr x hx),qej h.fil,qej h.log⟩
theorem PI.ok{p:Pol}(h:PI p):PolOk p:=by
 obtain⟨h1,h2,h3,h4⟩:=h.may.lens;exact⟨by omega,by omega,by omega,by omega⟩
def qki:Pol:={ qkh with deny:=2147483648 }
theorem PI.new:PI qki:=by
 refine⟨⟨?_,?_,?_,?_,?_,?_,?_,?_,?_,?_⟩,?_,?_,?_,?_⟩
 ·intro c hc;simp[qki,qkh] at hc
 ·decide
 ·exact⟨by decide,.inr rfl⟩
 ·intro c hc;simp[qki,qkh] at hc
 ·exact List.Pairwise.nil
 ·intro c hc;simp[qki,qkh] at hc
 ·exact List.Pairwise.nil
 ·rfl
 ·rfl
 ·decide
 ·decide
 ·decide
 ·decide
 ·decide
variable {E:List UInt8->List (List UInt8)×Int}
variable (E)
variable {E}
end Go.Kc
end
section
/- Lists that are equal, policies that are the same, notes with errors. Condition: the functions' texts are these. -/
namespace Go.Kc
variable {P:Program} {f:Nat}
instance:DecidableEq GCall:=fun a b=>if h:a.name=b.name∧a.act=b.act then isTrue (by obtain⟨h1,h2⟩:=h;cases a;cases b;simp_all) else isFalse (by rintro rfl;exact h ⟨rfl,rfl⟩)
theorem qfV{α:Type}{l m:List α}{j:Nat}{x y:α}(hx:l[j]?=some x)(hy:m[j]?=some y)(h:l.take j=m.take j)(e:x=y):l.take (j+1)=m.take (j+1):=by
 rw[List.take_add_one,List.take_add_one,hx,hy,h,e]
end Go.Kc
end
section
/- What policy.do and policy.Resolve answer. Condition: the functions' texts are these. -/
namespace Go.Kc
variable {P:Program} {f:Nat}
section
variable {l m:List Asg} {j:Nat}
end
end Go.Kc
end
section
/- LowerMay: what the law answers. Condition: the functions' texts are these. -/
namespace Go.Kc
variable {P:Program} {f:Nat}
end Go.Kc
end
section
/- Filters that are the same as themselves. Condition: the functions' texts are these. -/
namespace Go.Kc
variable {P:Program} {f:Nat}
end Go.Kc
end
section
/- LowerAlone: what the law answers (first its end). Condition: the functions' texts are these. -/
namespace Go.Kc
variable {P:Program} {f:Nat}
section
variable {g1 g2 g3 g4 g5:Nat}
end
end Go.Kc
end
section
/- PolicyOther: what the law answers. Condition: the functions' texts are these. -/
namespace Go.Kc
variable {P:Program} {f:Nat}
variable {E:List UInt8->List (List UInt8)×Int}
section
variable {g1 g2 g3 g4:Nat}
end
end Go.Kc
end
section
/- What policy's writer does: its lines. Condition: the functions' texts are these. -/
namespace Go.Kc
variable {P:Program} {f:Nat}
def qee(k a:List UInt8)(ws:List (List UInt8)):Prop:=k.length<=100∧a.length<=100∧ws.length<=100000∧(qpd [32] ws).length<=1000000
end Go.Kc
end
section
/- The words of a policy's lines. Itoa's contract is taken as given. Condition: the functions' texts are these. -/
namespace Go.Kc
variable {P:Program} {f:Nat}
def qqd(n:Int):List UInt8:=Lib.itoa n
def qqk(n:Int):List UInt8:=if Qk n qa5=[]∧n<=4095 then qqd n else Qk n qa5
def qpL(c:GCall):List UInt8:=if c.act=0 then c.name else if c.act=2147483648 then c.name++[58,107,105,108,108] else if qdk .u32 c.act 4294901760=327680 then c.name++58::qqk (qdk .u32 c.act 65535) else c.name++[58]
end Go.Kc
end
section
/- What policy's writer lists. Condition: the functions' texts are these. -/
namespace Go.Kc
variable {P:Program} {f:Nat}
def qqg(q:GCall->Bool)(l:List GCall):List (List UInt8):=(l.filter q).map qpL
end Go.Kc
end
section
/- policy's writer: a list's lines. Condition: the functions' texts are these. -/
namespace Go.Kc
variable {P:Program} {f:Nat}
structure LOkP (k:List UInt8) (l:GList):Prop where
 k100:k.length<=100
 n:l.calls.length<=1000
 nm:∀c ∈ l.calls,c.name.length<=1000000
 ok:∀(q:GCall->Bool) (a:List UInt8),a.length<=1->qee k a (qqg q l.calls)
section
variable {e1 e2 g3 g4 g5 g6 g7:Nat}
end
end Go.Kc
end
section
/- policy.Lines. Itoa's contract is taken as given. Condition: the functions' texts are these. -/
namespace Go.Kc
variable {P:Program} {f:Nat}
section
variable {g1 g2 g3 g4 g5 g6 g7 g8 g9 g10 g11 g12:Nat}
def spW(p:Pol):List (List UInt8):=(yH p.spaces).map fun n=>Qk n qa6
def faW(p:Pol):List (List UInt8):=p.fams.map fun n=>Qk n jk
structure LinOk (p:Pol):Prop where
 ar:qee qpe [] (p.arches.map qoJ)
 fil:LOkP qjE p.filter
 log:LOkP qqt p.log
 fam:∀a:List UInt8,a.length<=1->qee qqs a (faW p)
 sp:qee kSp [126] (spW p)
end
end Go.Kc
end
section
/- The document's writer: join. Condition: the functions' texts are these. -/
namespace Go.Kc
variable {P:Program} {f:Nat}
end Go.Kc
end
section
/- The document's words of numbers. Condition: the functions' texts are these. -/
namespace Go.Kc
variable {P:Program} {f:Nat}
end Go.Kc
end
section
/- The document's text of an entry. Condition: the functions' texts are these. -/
namespace Go.Kc
variable {P:Program} {f:Nat}
end Go.Kc
end
section
/- The document's lines of a list. Condition: the functions' texts are these. -/
namespace Go.Kc
variable {P:Program} {f g1 g2:Nat}
end Go.Kc
end
section
/- The document's lines of a list: the end. Condition: the functions' texts are these. -/
namespace Go.Kc
variable {P:Program} {f g1 g2:Nat}
end Go.Kc
end
section
/- The document's lines of a policy. Condition: the functions' texts are these. -/
namespace Go.Kc
variable {P:Program} {f:Nat}
section
variable {g1 g2 g3 g4 g5 g6 g7 g8 g9:Nat}
end
end Go.Kc
end
section
/- What the document's functions of stage 18 answer: the small ones. Condition: the functions' texts are these. -/
namespace Go.Kc
variable {P:Program} {f:Nat}
end Go.Kc
end
section
/- The document's lines of a policy: architectures. Condition: the functions' texts are these. -/
namespace Go.Kc
section
variable {P:Program} {f g1 g2 g3 g4 g5 g6 g7 g8 g9:Nat}
end
end Go.Kc
end
section
/- The document's lines of a policy: joined. Condition: the functions' texts are these. -/
namespace Go.Kc
section
variable {P:Program} {f g1 g2 g3 g4 g5 g6 g7 g8 g9:Nat}
structure Lin19 (p:Pol):Prop where
 arch:∀n ∈ p.arches,0<=n∧n<6
 sp:p.spaces=0↔yH p.spaces=[]
 fl:∀c ∈ p.filter.calls,0<=c.act∧c.act<=4294967295
 lg:∀c ∈ p.log.calls,0<=c.act∧c.act<=4294967295
end
end Go.Kc
end
section
/- The lines of a policy that may be are not too long. No condition. -/
namespace Go.Kc
end Go.Kc
end
