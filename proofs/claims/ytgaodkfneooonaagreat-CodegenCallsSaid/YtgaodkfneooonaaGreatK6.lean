/- Part 6 of the abstract machine and of the functions' walks. Conditions: with each theorem. -/
import Derived.Test.YtgaodkfneooonaaGreatK5
import Derived.Laws.Externs
import Derived.Lib.Overlaps
import GoSem.ClaimChange
import Derived.ChangeArms
import Derived.ReadAgain
import Derived.ChangeOld
import Derived.ChangeBears
import Derived.OpenShut
import Derived.RecoverIn
import Derived.SizedLaws
set_option maxHeartbeats 4000000
set_option linter.unusedSectionVars false
set_option linter.unusedSimpArgs false
set_option linter.unusedVariables false
set_option linter.unnecessarySimpa false
set_option linter.defProp false
section
namespace Go.Kc
variable {P:Program} {h:Hp}

def qd2(h:Hp)(g:Nat->Nat)(m:Nat):List Nat->List Blk->Prop
 | [],[]=>True
 | b::at',.cells e true a cs::xs=>(qaH m cs=true∧evB (h.tr.get b) (fun y=>y=Blk.cells e true a (qaQ g cs))∧h.fl<=b∧b<h.sz)∧qd2 h g m at' xs
 | _,_=>False
theorem qd2.get{g:Nat->Nat}{m:Nat}:∀{at':List Nat} {bs:List Blk},qd2 h g m at' bs->at'.length=bs.length∧∀(i:Nat) (x:Blk),bs[i]?=some x->∃b e a cs,at'[i]?=some b∧x = .cells e true a cs∧qaH m cs=true∧h.tr.get b=some (.cells e true a (qaQ g cs))∧h.fl<=b∧b<h.sz
 | [],[],_=>⟨rfl,by simp⟩
 | [],_::_,hh=>by simp[qd2] at hh
 | _::_,[],hh=>by simp[qd2] at hh
 | b::at',.dead::xs,hh=>by simp[qd2] at hh
 | b::at',.map _::xs,hh=>by simp[qd2] at hh
 | b::at',.cells e false a cs::xs,hh=>by simp[qd2] at hh
 | b::at',.cells e true a cs::xs,hh=>by
  obtain⟨⟨h1,⟨y,h2,h3⟩,h4,h5⟩,h6⟩:=hh;subst h3;obtain⟨h7,h8⟩:=qd2.get h6;refine⟨by simp[h7],fun i x hx=>?_⟩
  cases i with
  | zero=>simp at hx;subst hx;exact⟨b,e,a,cs,rfl,rfl,h1,h2,h4,h5⟩
  | succ i=>simpa using h8 i x (by simpa using hx)
theorem Lent.of{at':List Nat}{bs:List Blk}(hn:at'.Nodup)(hl:qd2 h (gAt at' h.sz) bs.length at' bs):Lent h at' bs:=by
 obtain⟨h1,h2⟩:=hl.get;refine⟨h1,hn,fun i x hx=>?_⟩
 obtain⟨b,e,a,cs,q1,q2,q3,q4,q5,q6⟩:=h2 i x hx;have hi:i<at'.length:=(zzS.1 q1).1
 have e1:gAt at' h.sz i=b:=by
  rw[qds hi];exact (zzS.1 q1).2
 exact⟨e,a,cs,q2,q3,by rw[e1];exact q4,by rw[e1];exact q5,by rw[e1];exact q6⟩
theorem qs6{g:Nat->Nat}{m:Nat}:qd2 h g m [] []↔True:=Iff.rfl
theorem qqu{g:Nat->Nat}{m b e:Nat}{at':List Nat}{a:Bool}{cs:List AV}{xs:List Blk}:qd2 h g m (b::at') (.cells e true a cs::xs)↔(qaH m cs=true∧evB (h.tr.get b) (fun y=>y=Blk.cells e true a (qaQ g cs))∧h.fl<=b∧b<h.sz)∧qd2 h g m at' xs:=Iff.rfl
theorem xy{s f b:Nat}{tr:Tr Blk}{x:Blk}:Hp.put ⟨s,f,tr⟩ b x=⟨s,f,tr.set b x⟩:=rfl
theorem qnm{xs:List Blk}:qdF h [] xs=h:=by simp[qdF]
theorem qk2{b:Nat}{at':List Nat}{x:Blk}{xs:List Blk}:qdF h (b::at') (x::xs)=qdF (h.put b x) at' xs:=rfl
theorem qxk{g:Nat->Nat}{v:AV}(hv:clo v=true):rnv g v=v:=by
 have key:(∀v:AV,clo v=true->rnv g v=v):=fun v=>by
  refine AV.rec (motive_1:=fun v=>clo v=true->rnv g v=v) (motive_2:=fun vs=>qu vs=true->qaQ g vs=vs) ?_ ?_ ?_ ?_ ?_ ?_ ?_ ?_ ?_ ?_ ?_ ?_ ?_ ?_ ?_ ?_ ?_ ?_ ?_ ?_ ?_ ?_ ?_ ?_ ?_ ?_ v
  all_goals first
   | (intros;rfl)
   | (intros;rename_i hh;simp[clo] at hh;done)
   | skip
  ·intro f a c h1 h2 hh;simp only[clo,Bool.and_eq_true] at hh;simp only[rnv,h1 hh.1,h2 hh.2]
  ·intro t v h1 hh;simp only[clo] at hh;simp only[rnv,h1 hh]
  ·intro cs h1 hh;simp only[clo] at hh;simp only[rnv,h1 hh]
  ·intro cs h1 hh;simp only[clo] at hh;simp only[rnv,h1 hh]
  ·intro v vs h1 h2 hh;simp only[qu,Bool.and_eq_true] at hh;simp only[qaQ,h1 hh.1,h2 hh.2]
 exact key v hv
theorem zo{g:Nat->Nat}:∀{vs:List AV},qu vs=true->qaQ g vs=vs
 | [],_=>rfl
 | v::vs,h=>by
  simp only[qu,Bool.and_eq_true] at h;simp only[qaQ,qxk h.1,zo h.2]
def qaL:Blk->Bool
 | .dead=>false
 | _=>true
theorem qkZ{α β:Type}{f:α->β}{p:α->Bool}:∀{l:List α},((l.filter p).map f).Nodup->∀{i j:Nat} {x y:α},l[i]?=some x->l[j]?=some y->p x=true->p y=true->f x=f y->i=j
 | [],_,i,j,x,y,hi,_,_,_,_=>by simp at hi
 | a::l,hn,i,j,x,y,hi,hj,hx,hy,he=>by
  have tail:((l.filter p).map f).Nodup:=by
   rw[List.filter_cons] at hn;split at hn
   ·exact (List.nodup_cons.1 hn).2
   ·exact hn
  have no:∀{z:α} {m:Nat},l[m]?=some z->p z=true->p a=true->f a=f z->False:=by
   intro z m hz hpz hpa hfz;rw[List.filter_cons,if_pos hpa] at hn;exact (List.nodup_cons.1 hn).1 (hfz ▸ List.mem_map_of_mem (List.mem_filter.2 ⟨zzM hz,hpz⟩))
  cases i with
  | zero =>
   simp at hi;subst hi;cases j with
   | zero=>rfl
   | succ j=>exact (no (by simpa using hj) hy hx he).elim
  | succ i =>
   cases j with
   | zero=>simp at hj;subst hj;exact (no (by simpa using hi) hx hy he.symm).elim
   | succ j =>
    have hij:i=j:=qkZ tail (i:=i) (j:=j) (by simpa using hi) (by simpa using hj) hx hy he;rw[hij]
theorem Wk.mkd{n:Nat}{t:Tr AV}(ts:List (Nat×AV))(bl:List Blk)(src:List Nat)(hT:TWs t (rl src h.sz) bl.length ts)(hB:BWs h (rl src h.sz) bl.length src bl)
  (hI:(((src.zip bl).filter fun p=>decide (p.1<h.sz)&&qaL p.2).map Prod.fst).Nodup) (hfl:h.fl=0) (hn:n<=bl.length) (hlow:∀b,b<n->rl src h.sz b=b):Wk n t h (mkT ts) (mkH 0 bl):=by
 obtain⟨hlen,hget⟩:=hB.get;refine Wk.of (r:=rl src h.sz) ⟨hfl.symm,fun b' x' hb hg=>?_,fun b1 b2 h1 h2 l1 l2 he hl=>?_,fun b' _ _ _=>by rw[hfl];exact Nat.zero_le _,hlow,hn,fun b _ hb=>by rw[hfl] at hb;exact absurd hb (Nat.not_lt_zero _),fun j v' hj=>?_⟩
 ·rw[xK] at hg;obtain⟨b,q1,q2⟩:=hget b' x' hg;have:rl src h.sz b'=b:=by simp[rl,List.getD_eq_getElem?_getD,q1]
  rw[this];exact q2
 ·obtain⟨x1,g1,d1⟩:=l1;obtain⟨x2,g2,d2⟩:=l2;rw[xK] at g1 g2;obtain⟨c1,q1,_⟩:=hget b1 x1 g1;obtain⟨c2,q2,_⟩:=hget b2 x2 g2;have e1:rl src h.sz b1=c1:=by simp[rl,List.getD_eq_getElem?_getD,q1]
  have e2:rl src h.sz b2=c2:=by simp[rl,List.getD_eq_getElem?_getD,q2]
  rw[e1,e2] at he;rw[e1] at hl;have v1:qaL x1=true:=by cases x1<;>first|rfl|exact absurd rfl d1
  have v2:qaL x2=true:=by cases x2<;>first|rfl|exact absurd rfl d2
  refine qkZ hI (i:=b1) (j:=b2) (x:=(c1,x1)) (y:=(c2,x2)) ?_ ?_ ?_ ?_ he
  ·rw[List.getElem?_zip_eq_some];exact⟨q1,g1⟩
  ·rw[List.getElem?_zip_eq_some];exact⟨q2,g2⟩
  ·simp[hl,v1]
  ·simp[← he,hl,v2]
 ·exact hT.get _ (qdi hj)
theorem qqH{b o:Nat}{k:AV->Prop}:qix (.ptr b o) k↔k (.ptr b o):=Iff.rfl
theorem qtu{cs:List AV}{o:Nat}{k:AV->Prop}:qix (.pf cs o) k↔k (.pf cs o):=Iff.rfl
theorem qqG{b:Nat}{k:AV->Prop}:qix (.map b) k↔k (.map b):=Iff.rfl
theorem qtv{b:Nat}{k:AV->Prop}:qix (.yl b) k↔k (.yl b):=Iff.rfl
theorem qtt{f:Nat}{a c:List AV}{k:AV->Prop}:qix (.fn f a c) k↔k (.fn f a c):=Iff.rfl
theorem qxO{C:zc}{ops:List ROp}{Q:Tr AV->Hp->Prop}{t:Tr AV}{s f f':Nat}{tr:Tr Blk}:VR' C ops Q t (Hp.down ⟨s,f,tr⟩ f')↔VR' C ops Q t ⟨s,f',tr⟩:=Iff.rfl
theorem qEd{C:zc}{ops:List ROp}{Q:Tr AV->Hp->Prop}{t:Tr AV}{s f:Nat}{tr:Tr Blk}{dst:Option Nat}{o:IOp}:VR' C (⟨dst,.op o,none⟩::ops) Q t ⟨s,f,tr⟩ ↔
  if wr (.op o)=true then opK qv o t ⟨s,f,tr⟩ (fun v h'=>qab t dst v (fun t'=>VR' C ops Q t' h')) else opK qv o t ⟨s,s,tr⟩ (fun v h'=>qab t dst v (fun t'=>VR' C ops Q t' (h'.down f))):=qyC
theorem qBF{C:zc}{Q:Tr AV->Hp->Prop}{t:Tr AV}{s f:Nat}{tr:Tr Blk}:VR' C [] Q t ⟨s,f,tr⟩↔Q t ⟨s,f,tr⟩:=Iff.rfl
theorem qvg{m:Nat}:∀{v:AV},clo v=true->bnd m v=true:=by
 intro v;refine AV.rec (motive_1:=fun v=>clo v=true->bnd m v=true) (motive_2:=fun vs=>qu vs=true->qaH m vs=true) ?_ ?_ ?_ ?_ ?_ ?_ ?_ ?_ ?_ ?_ ?_ ?_ ?_ ?_ ?_ ?_ ?_ ?_ ?_ ?_ ?_ ?_ ?_ ?_ ?_ ?_ v
 all_goals first
  | (intros;rfl)
  | (intros;rename_i hh;simp[clo] at hh;done)
  | skip
 ·intro f a c h1 h2 hh;simp only[clo,Bool.and_eq_true] at hh;simp only[bnd,h1 hh.1,h2 hh.2,Bool.and_self]
 ·intro t v h1 hh;simp only[clo] at hh;simp only[bnd,h1 hh]
 ·intro cs h1 hh;simp only[clo] at hh;simp only[bnd,h1 hh]
 ·intro cs h1 hh;simp only[clo] at hh;simp only[bnd,h1 hh]
 ·intro v vs h1 h2 hh;simp only[qu,Bool.and_eq_true] at hh;simp only[qaH,h1 hh.1,h2 hh.2,Bool.and_self]
theorem jd{m:Nat}:∀{vs:List AV},qu vs=true->qaH m vs=true
 | [],_=>rfl
 | v::vs,h=>by
  simp only[qu,Bool.and_eq_true] at h;simp only[qaH,qvg h.1,jd h.2,Bool.and_self]
end Go.Kc
end
section
namespace Go.Kc
def vQ:=And.intro @List.map_cons.{0,0} (And.intro @List.map_nil.{0,0} (And.intro @Bool.and_true (And.intro @Bool.true_and (And.intro @Bool.and_self (And.intro @and_self (And.intro @Tr.get_set (And.intro @decide_eq_true_eq (And.intro @Bool.false_eq_true (And.intro @true_and (And.intro @and_true (And.intro @List.getElem?_cons_zero.{0} (And.intro @List.getElem?_cons_succ.{0} (And.intro @List.length_cons.{0} (And.intro @List.length_nil.{0} (And.intro @List.take_zero.{0} (And.intro @List.take_succ_cons.{0} (And.intro @List.drop_zero.{0} (And.intro @List.drop_succ_cons.{0} (And.intro @List.drop_nil.{0} (And.intro @List.take_nil.{0} (And.intro @List.nil_append.{0} (And.intro @List.cons_append.{0} (And.intro @List.append_nil.{0} (And.intro @Nat.zero_add (And.intro @Nat.add_zero (And.intro @Nat.le_refl (And.intro @Nat.zero_le (And.intro @Int.toNat_natCast (And.intro @Int.natCast_nonneg (And.intro @Int.ofNat_lt (And.intro @Bool.not_true (And.intro @Bool.not_false (And.intro @decide_true (And.intro @decide_false (And.intro @Bool.xor_false (And.intro @Bool.xor_true (And.intro @Bool.false_xor (And.intro @Bool.true_xor (And.intro @Nat.lt_irrefl (And.intro @List.replicate_succ.{0} (And.intro @List.replicate_zero.{0} (And.intro @List.flatten_cons.{0} (And.intro @List.flatten_nil.{0} (And.intro @Nat.succ_eq_add_one (And.intro @Option.isNone_none.{0} (And.intro @Option.isSome_none.{0} (And.intro @Bool.false_and (And.intro @Bool.and_false (And.intro @Nat.sub_zero (And.intro @qnm (And.intro @qk2 (And.intro @xy (And.intro @qwf (And.intro @qiZ (And.intro @qfS (And.intro @qew @List.append_assoc.{0}))))))))))))))))))))))))))))))))))))))))))))))))))))))))
def vX:=And.intro @qxO (And.intro @qEd (And.intro @qBF (And.intro @qtZ (And.intro @qt0 (And.intro @qqP (And.intro @qtV (And.intro @qqH (And.intro @qtu (And.intro @qqG (And.intro @qtv @qtt))))))))))
def vU:=And.intro @shb.eq_1 (And.intro @shb.eq_2 (And.intro @shb.eq_3 (And.intro @shv.eq_1 (And.intro @shv.eq_2 (And.intro @shv.eq_3 (And.intro @shv.eq_4 (And.intro @shv.eq_5 (And.intro @shv.eq_6 (And.intro @shv.eq_7 (And.intro @shv.eq_8 (And.intro @shv.eq_9 (And.intro @shv.eq_10 (And.intro @qeU.eq_1 @qeU.eq_2)))))))))))))
def vY:=And.intro vU (And.intro @qch.eq_1 (And.intro @qch.eq_2 (And.intro @cellsOf.eq_1 (And.intro @cellsOf.eq_2 (And.intro @wr.eq_1 (And.intro @wr.eq_2 (And.intro @wr.eq_3 (And.intro @wr.eq_4 (And.intro @wr.eq_5 (And.intro @wr.eq_6 (And.intro @wr.eq_7 (And.intro @wr.eq_8 (And.intro @wr.eq_9 (And.intro @wr.eq_10 (And.intro @wr.eq_11 (And.intro @qar.eq_1 @qar.eq_2))))))))))))))))
def vS:=And.intro vA (And.intro vE (And.intro vO (And.intro vB (And.intro vF (And.intro vM (And.intro vR vX))))))
def vT:=And.intro vY (And.intro @qzk (And.intro @qzl (And.intro vP (And.intro vC (And.intro vQ (And.intro @qpv (And.intro @qnx (And.intro not_false_eq_true (And.intro @eq_self.{1} @Int.cast_ofNat_Int)))))))))
def vw:=And.intro vW (And.intro @qvH (And.intro @qC5 (And.intro @qC4 (And.intro @qzu (And.intro @qvI (And.intro @qxK (And.intro @quK (And.intro @qn9 (And.intro @qyZ (And.intro @qkW (And.intro @qqC (And.intro @qoa (And.intro @qiv (And.intro vP (And.intro vZ @Tr.get_set)))))))))))))))
def vK:=And.intro (And.intro @qcq.eq_1 (And.intro @rnb.eq_1 (And.intro @rnb.eq_2 (And.intro @rnb.eq_3 (And.intro @qaQ.eq_1 (And.intro @qaQ.eq_2 (And.intro @rnv.eq_1 (And.intro @rnv.eq_2 (And.intro @rnv.eq_3 (And.intro @rnv.eq_4 (And.intro @rnv.eq_5 (And.intro @rnv.eq_6 (And.intro @rnv.eq_7 (And.intro @rnv.eq_8 (And.intro @rnv.eq_9 (And.intro @rnv.eq_10 @gAt.eq_1)))))))))))))))) (And.intro @List.cons_append.{0} (And.intro @List.nil_append.{0} (And.intro @List.length_cons.{0} (And.intro @List.length_nil.{0} (And.intro Nat.zero_add (And.intro @List.take_succ_cons.{0} (And.intro @List.take_zero.{0} (And.intro @List.drop_succ_cons.{0} (And.intro @List.drop_zero.{0} (And.intro @List.map_cons.{0,0} (And.intro @List.map_nil.{0,0} (And.intro @List.getD_cons_zero.{0} (And.intro @List.getD_cons_succ.{0} (And.intro @qk2 (And.intro @qnm (And.intro @qew (And.intro @qfS (And.intro @xy @qiZ))))))))))))))))))
def vJ:=And.intro vU (And.intro @qew (And.intro @qfS (And.intro @qiZ (And.intro @qpv (And.intro @qnx (And.intro @List.map_cons.{0,0} (And.intro @List.map_nil.{0,0} (And.intro @qyo (And.intro @qoI Nat.zero_add)))))))))
def vL:=And.intro vU (And.intro (And.intro @qaH.eq_1 (And.intro @qaH.eq_2 (And.intro @bnd.eq_1 (And.intro @bnd.eq_2 (And.intro @bnd.eq_3 (And.intro @bnd.eq_4 (And.intro @bnd.eq_5 (And.intro @bnd.eq_6 (And.intro @bnd.eq_7 (And.intro @bnd.eq_8 (And.intro @bnd.eq_9 (And.intro @bnd.eq_10 (And.intro @qaQ.eq_1 (And.intro @qaQ.eq_2 (And.intro @rnv.eq_1 (And.intro @rnv.eq_2 (And.intro @rnv.eq_3 (And.intro @rnv.eq_4 (And.intro @rnv.eq_5 (And.intro @rnv.eq_6 (And.intro @rnv.eq_7 (And.intro @rnv.eq_8 (And.intro @rnv.eq_9 (And.intro @rnv.eq_10 @gAt.eq_1)))))))))))))))))))))))) (And.intro @qqu (And.intro @qs6 (And.intro @qew (And.intro @qfS @qiZ)))))
def ROp.q(n:Nat)(o:IOp):ROp:=⟨some n,.op o,none⟩
def ROp.m(n:Nat)(x:O):ROp:=⟨some n,.op (.mov x),none⟩
def ROp.g(n:Nat)(o:IOp)(c:Nat)(b:Bool):ROp:=⟨some n,.op o,some (c,b)⟩
def ROp.l(n f:Nat)(xs:List O):ROp:=⟨some n,.callF f xs,none⟩
def ROp.u(o:IOp):ROp:=⟨none,.op o,none⟩
def ICode.r(ops:List ROp):ICode:=.reg false ops
def O.k(n:Int):O:=.c (.i .i64 n)
def ROp.n(n a:Nat):ROp:=⟨some n,.op (.mov (.t a)),none⟩
def ROp.d(n a:Nat):ROp:=⟨some n,.op (.load1 (.t a)),none⟩
def ROp.v(n k a:Nat):ROp:=⟨some n,.op (.loadN k (.t a)),none⟩
def ROp.f(n k a:Nat):ROp:=⟨some n,.op (.fAddr k (.t a)),none⟩
def ROp.i(n k a b:Nat):ROp:=⟨some n,.op (.iAddrS k (.t a) (.t b)),none⟩
def ROp.a(n a:Nat)(k:Int):ROp:=⟨some n,.op (.bin .add (.t a) (.c (.i .i64 k))),none⟩
def ROp.b(n:Nat)(o:BinOp)(a b:Nat):ROp:=⟨some n,.op (.bin o (.t a) (.t b)),none⟩
def ROp.w(n:Nat)(o:BinOp)(a:Nat)(k:Int):ROp:=⟨some n,.op (.bin o (.t a) (.c (.i .i64 k))),none⟩
def ROp.e(n a:Nat):ROp:=⟨some n,.op (.len false (.t a)),none⟩
def ROp.x(n a k:Nat):ROp:=⟨some n,.op (.ext (.t a) k),none⟩
def ROp.s(n a b:Nat):ROp:=⟨some n,.op (.bin .lss (.t a) (.t b)),none⟩
def ROp.p(n a b:Nat):ROp:=⟨some n,.op (.pick (.t a) (.t b) (.c (.b false))),none⟩
def ROp.o(n a b:Nat):ROp:=⟨some n,.op (.pick (.t a) (.c (.b true)) (.t b)),none⟩
def ROp.y(n a c:Nat):ROp:=⟨some n,.op (.mov (.t a)),some (c,true)⟩
def ROp.z(n a c:Nat):ROp:=⟨some n,.op (.mov (.t a)),some (c,false)⟩
def ROp.j(n a c:Nat)(b:Bool):ROp:=⟨some n,.op (.load1 (.t a)),some (c,b)⟩
def ROp.h(n k a c:Nat)(b:Bool):ROp:=⟨some n,.op (.fAddr k (.t a)),some (c,b)⟩
def O.F:O:=.c (.b false)
def O.T:O:=.c (.b true)
def O.N:O:=.c .nils
theorem q_q{n:Nat}{o:IOp}:ROp.q n o=⟨some n,.op o,none⟩:=rfl
theorem q_m{n:Nat}{x:O}:ROp.m n x=⟨some n,.op (.mov x),none⟩:=rfl
theorem q_g{n:Nat}{o:IOp}{c:Nat}{b:Bool}:ROp.g n o c b=⟨some n,.op o,some (c,b)⟩:=rfl
theorem q_l{n f:Nat}{xs:List O}:ROp.l n f xs=⟨some n,.callF f xs,none⟩:=rfl
theorem q_u{o:IOp}:ROp.u o=⟨none,.op o,none⟩:=rfl
theorem q_r{ops:List ROp}:ICode.r ops = .reg false ops:=rfl
theorem q_k{n:Int}:O.k n = .c (.i .i64 n):=rfl
theorem qFh{n a:Nat}:ROp.n n a=⟨some n,.op (.mov (.t a)),none⟩:=rfl
theorem qFb{n a:Nat}:ROp.d n a=⟨some n,.op (.load1 (.t a)),none⟩:=rfl
theorem qFl{n k a:Nat}:ROp.v n k a=⟨some n,.op (.loadN k (.t a)),none⟩:=rfl
theorem qFd{n k a:Nat}:ROp.f n k a=⟨some n,.op (.fAddr k (.t a)),none⟩:=rfl
theorem qFf{n k a b:Nat}:ROp.i n k a b=⟨some n,.op (.iAddrS k (.t a) (.t b)),none⟩:=rfl
theorem qE9{n a:Nat}{k:Int}:ROp.a n a k=⟨some n,.op (.bin .add (.t a) (.c (.i .i64 k))),none⟩:=rfl
theorem qFa{n:Nat}{o:BinOp}{a b:Nat}:ROp.b n o a b=⟨some n,.op (.bin o (.t a) (.t b)),none⟩:=rfl
theorem qFm{n:Nat}{o:BinOp}{a:Nat}{k:Int}:ROp.w n o a k=⟨some n,.op (.bin o (.t a) (.c (.i .i64 k))),none⟩:=rfl
theorem qFc{n a:Nat}:ROp.e n a=⟨some n,.op (.len false (.t a)),none⟩:=rfl
theorem qFn{n a k:Nat}:ROp.x n a k=⟨some n,.op (.ext (.t a) k),none⟩:=rfl
theorem qFk{n a b:Nat}:ROp.s n a b=⟨some n,.op (.bin .lss (.t a) (.t b)),none⟩:=rfl
theorem qFj{n a b:Nat}:ROp.p n a b=⟨some n,.op (.pick (.t a) (.t b) (.c (.b false))),none⟩:=rfl
theorem qFi{n a b:Nat}:ROp.o n a b=⟨some n,.op (.pick (.t a) (.c (.b true)) (.t b)),none⟩:=rfl
theorem qFo{n a c:Nat}:ROp.y n a c=⟨some n,.op (.mov (.t a)),some (c,true)⟩:=rfl
theorem qFp{n a c:Nat}:ROp.z n a c=⟨some n,.op (.mov (.t a)),some (c,false)⟩:=rfl
theorem qFg{n a c:Nat}{b:Bool}:ROp.j n a c b=⟨some n,.op (.load1 (.t a)),some (c,b)⟩:=rfl
theorem qFe{n k a c:Nat}{b:Bool}:ROp.h n k a c b=⟨some n,.op (.fAddr k (.t a)),some (c,b)⟩:=rfl
theorem q_F:O.F = .c (.b false):=rfl
theorem q_T:O.T = .c (.b true):=rfl
theorem q_N:O.N = .c .nils:=rfl
def vI:=And.intro (And.intro @qFh (And.intro @qFb (And.intro @qFl (And.intro @qFd (And.intro @qFf (And.intro @qE9 (And.intro @qFa (And.intro @qFm (And.intro @qFc (And.intro @qFn (And.intro @qFk (And.intro @qFj (And.intro @qFi (And.intro @qFo (And.intro @qFp (And.intro @qFg (And.intro @qFe (And.intro q_F (And.intro q_T q_N))))))))))))))))))) (And.intro (And.intro @qbB.eq_1 (And.intro @qbB.eq_2 (And.intro @H0.eq_1 (And.intro @mkT.eq_1 (And.intro @mkT.eq_2 (And.intro @mkH.eq_1 (And.intro @trL.eq_1 @trL.eq_2))))))) (And.intro @List.length_cons.{0} (And.intro @List.length_nil.{0} (And.intro Nat.zero_add (And.intro @q_q (And.intro @q_m (And.intro @q_g (And.intro @q_l (And.intro @q_u (And.intro @q_r @q_k))))))))))
end Go.Kc
end
section
namespace Go.Kc
variable {P:Program}

mutual
def fzv(b e:Nat)(cs:List AV):AV->AV
 | .own b' n=>if b'=b then .fz n (if n=0 then [] else cs) else .own b' n
 | .ptr b' o=>if b'=b then .pf cs o else .ptr b' o
 | .sl b' o n c l=>if b'=b then (if n<=c then .fz n ((cs.drop o).take (n*e)) else .undef) else .sl b' o n c l
 | .map b'=>if b'=b then .undef else .map b'
 | .yl b'=>if b'=b then .undef else .yl b'
 | .fn f x c=>.fn f (qdY b e cs x) (qdY b e cs c)
 | .ifc t v=>.ifc t (fzv b e cs v)
 | .agg l=>.agg (qdY b e cs l)
 | .tup l=>.tup (qdY b e cs l)
 | v=>v
def qdY(b e:Nat)(cs:List AV):List AV->List AV
 | []=>[]
 | v::vs=>fzv b e cs v::qdY b e cs vs
end
def fzE(b e:Nat)(cs:List AV)(es:List (AV×AV)):List (AV×AV):=es.map fun p=>(p.1,fzv b e cs p.2)
def fzB(b e:Nat)(cs:List AV):Blk->Blk
 | .cells k w a l=>.cells k w a (qdY b e cs l)
 | .dead=>.dead
 | .map es=>.map (fzE b e cs es)
theorem qju{b e:Nat}{cs:List AV}:∀{vs:List AV} {j:Nat},(qdY b e cs vs)[j]?=(vs[j]?).map (fzv b e cs)
 | [],j=>by simp[qdY]
 | v::vs,0=>by simp[qdY]
 | v::vs,j+1=>by simpa[qdY] using qju (vs:=vs) (j:=j)
theorem qan{b e:Nat}{cs:List AV}:∀{vs:List AV},(qdY b e cs vs).length=vs.length
 | []=>rfl
 | v::vs=>by simp[qdY,qan (vs:=vs)]
theorem qoQ{b e:Nat}{cs:List AV}{v:AV}(hv:clo v=true):fzv b e cs v=v:=by
 refine AV.rec (motive_1:=fun v=>clo v=true->fzv b e cs v=v) (motive_2:=fun vs=>qu vs=true->qdY b e cs vs=vs) ?_ ?_ ?_ ?_ ?_ ?_ ?_ ?_ ?_ ?_ ?_ ?_ ?_ ?_ ?_ ?_ ?_ ?_ ?_ ?_ ?_ ?_ ?_ ?_ ?_ ?_ v hv
 all_goals first
  | (intros;rfl)
  | (intros;rename_i hh;simp[clo] at hh;done)
  | skip
 ·intro f a c h1 h2 hh;simp only[clo,Bool.and_eq_true] at hh;simp only[fzv,h1 hh.1,h2 hh.2]
 ·intro t v h1 hh;simp only[clo] at hh;simp only[fzv,h1 hh]
 ·intro cs h1 hh;simp only[clo] at hh;simp only[fzv,h1 hh]
 ·intro cs h1 hh;simp only[clo] at hh;simp only[fzv,h1 hh]
 ·intro v vs h1 h2 hh;simp only[qu,Bool.and_eq_true] at hh;simp only[qdY,h1 hh.1,h2 hh.2]
theorem CRs.cut{φ:Nat->Option (Array Value)}:∀{cs:List AV} {vs:List Value} (o m:Nat),CRs σ0 φ cs (vs.take cs.length)->CRs σ0 φ ((cs.drop o).take m) ((vs.drop o).take ((cs.drop o).take m).length)
 | [],vs,o,m,h=>by simp;exact .nil
 | c::cs,[],o,m,h=>by simp at h;cases h
 | c::cs,v::vs,0,0,h=>by simp;exact .nil
 | c::cs,v::vs,0,m+1,h=>by
  simp only[List.length_cons,List.take_succ_cons] at h;cases h with
  | cons _ _ _ _ h1 h2 =>
   have:=CRs.cut 0 m h2;simp only[List.drop_zero] at this;simp only[List.drop_zero,List.take_succ_cons,List.length_cons];exact .cons _ _ _ _ h1 this
 | c::cs,v::vs,o+1,m,h=>by
  simp only[List.length_cons,List.take_succ_cons] at h;cases h with
  | cons _ _ _ _ h1 h2=>simpa using CRs.cut o m h2
def Ren.iced(ρ:Ren)(b k:Nat)(arr:Array Value):Ren:=⟨fun b'=>if b'=b then none else ρ b',⟨fun k'=>if k'=k then some ((tab k).getD arr) else ρ.frz k',fun k' a h=>by
 split
 ·subst k';rw[h];rfl
 ·exact ρ.frz.ok k' a h⟩,ρ.n⟩
mutual
theorem VR.iced{ρ:Ren}{b e:Nat}{cs:List AV}{L:Loc}{arr:Array Value}(hz:tab L.blk=none)(hL:∀L',ρ b=some L'->L'=L)(hf:∀k a,ρ.frz k=some a->(ρ.iced b L.blk arr).frz k=some a)
  (hs:CRs σ0 (ρ.iced b L.blk arr).frz cs ((arr.toList.drop L.off).take cs.length)):∀{v:AV} {x:Value},VR σ0 ρ v x->VR σ0 (ρ.iced b L.blk arr) (fzv b e cs v) x
 | _,_,.undef v=>.undef v
 | _,_,.b x=>.b x
 | _,_,.i k n=>.i k n
 | _,_,.s x=>.s x
 | _,_,.nilp=>.nilp
 | _,_,.ptr b' o L' h=>by
  simp only[fzv];split
  ·rename_i hb;subst hb;obtain rfl:=hL _ h;refine .pf o L'.off cs L'.blk arr (by simp[Ren.iced,hz]) hs
  ·rename_i hb;exact .ptr _ _ L' (by simp only[Ren.iced];rw[if_neg hb];exact h)
 | _,_,.nils=>.nils
 | _,_,.sl b' o n cap c l L' h hc=>by
  simp only[fzv];split
  ·rename_i hb;subst hb;obtain rfl:=hL _ h;split
   ·rename_i hn;refine .fz n (L'.off+o) c _ L'.blk arr (by omega) (by simp[Ren.iced,hz]) ?_;have:=CRs.cut o (n*e) hs;rw[List.drop_drop] at this;exact this
   ·exact .undef _
  ·rename_i hb;exact .sl _ _ _ _ _ _ L' (by simp only[Ren.iced];rw[if_neg hb];exact h) hc
 | _,_,.slz b' o x l L' h=>by
  simp only[fzv];split
  ·simp;exact .fz0 _
  ·rename_i hb;exact .slz _ _ _ _ L' (by simp only[Ren.iced];rw[if_neg hb];exact h)
 | _,_,.nilf=>.nilf
 | _,_,.fn f first cap first' cap' h1 h2=>.fn _ _ _ _ _ (VRs.iced hz hL hf hs h1) (VRs.iced hz hL hf hs h2)
 | _,_,.nili=>.nili
 | _,_,.ifc t v v' h=>.ifc _ _ _ (VR.iced hz hL hf hs h)
 | _,_,.agg l l' h=>.agg _ _ (VRs.iced hz hL hf hs h)
 | _,_,.tup l l' h=>.tup _ _ (VRs.iced hz hL hf hs h)
 | _,_,.nilm=>.nilm
 | _,_,.map b' L' h h0=>by
  simp only[fzv];split
  ·exact .undef _
  ·rename_i hb;exact .map _ L' (by simp only[Ren.iced];rw[if_neg hb];exact h) h0
 | _,_,.sym j=>.sym j
 | _,_,.fz n off c l k a hn h h2=>.fz n off c l k a hn (hf _ _ h) (h2.mono hf)
 | _,_,.fz0 a=>.fz0 a
 | _,_,.pf off base l k a h h2=>.pf off base l k a (hf _ _ h) (h2.mono hf)
 | _,_,.e0 a=>.e0 a
 | _,_,.nz a c=>.nz a c
 | _,_,.own0 b' a hb=>by
  simp only[fzv];split
  ·simp;exact .fz0 _
  ·exact .own0 _ _ hb
 | _,_,.yl b' L' h=>by
  simp only[fzv];split
  ·exact .undef _
  ·rename_i hb;exact .yl _ L' (by simp only[Ren.iced];rw[if_neg hb];exact h)
 | _,_,.own b' n c L' h hn hc=>by
  simp only[fzv];split
  ·rename_i hb;subst hb;obtain rfl:=hL _ h;split
   ·rename_i h0;subst h0;exact .fz 0 L'.off c [] L'.blk arr (by omega) (by simp[Ren.iced,hz]) (by simp;exact .nil)
   ·exact .fz n L'.off c cs L'.blk arr hn (by simp[Ren.iced,hz]) hs
  ·rename_i hb;exact .own _ _ _ L' (by simp only[Ren.iced];rw[if_neg hb];exact h) hn hc
theorem VRs.iced{ρ:Ren}{b e:Nat}{cs:List AV}{L:Loc}{arr:Array Value}(hz:tab L.blk=none)(hL:∀L',ρ b=some L'->L'=L)(hf:∀k a,ρ.frz k=some a->(ρ.iced b L.blk arr).frz k=some a)
  (hs:CRs σ0 (ρ.iced b L.blk arr).frz cs ((arr.toList.drop L.off).take cs.length)):∀{v:List AV} {x:List Value},VRs σ0 ρ v x->VRs σ0 (ρ.iced b L.blk arr) (qdY b e cs v) x
 | _,_,.nil=>.nil
 | _,_,.cons v vs v' vs' h h2=>.cons _ _ _ _ (VR.iced hz hL hf hs h) (VRs.iced hz hL hf hs h2)
end
mutual
theorem VR.iced0{ρ:Ren}{b e:Nat}{cs:List AV}(hL:ρ b=none):∀{v:AV} {x:Value},VR σ0 ρ v x->VR σ0 ρ (fzv b e cs v) x
 | _,_,.undef v=>.undef v
 | _,_,.b x=>.b x
 | _,_,.i k n=>.i k n
 | _,_,.s x=>.s x
 | _,_,.nilp=>.nilp
 | _,_,.ptr b' o L' h=>by
  simp only[fzv];split
  ·rename_i hb;subst hb;rw[hL] at h;cases h
  ·exact .ptr _ _ L' h
 | _,_,.nils=>.nils
 | _,_,.sl b' o n cap c l L' h hc=>by
  simp only[fzv];split
  ·rename_i hb;subst hb;rw[hL] at h;cases h
  ·exact .sl _ _ _ _ _ _ L' h hc
 | _,_,.slz b' o x l L' h=>by
  simp only[fzv];split
  ·simp;exact .fz0 _
  ·exact .slz _ _ _ _ L' h
 | _,_,.nilf=>.nilf
 | _,_,.fn f first cap first' cap' h1 h2=>.fn _ _ _ _ _ (VRs.iced0 hL h1) (VRs.iced0 hL h2)
 | _,_,.nili=>.nili
 | _,_,.ifc t v v' h=>.ifc _ _ _ (VR.iced0 hL h)
 | _,_,.agg l l' h=>.agg _ _ (VRs.iced0 hL h)
 | _,_,.tup l l' h=>.tup _ _ (VRs.iced0 hL h)
 | _,_,.nilm=>.nilm
 | _,_,.map b' L' h h0=>by
  simp only[fzv];split
  ·exact .undef _
  ·exact .map _ L' h h0
 | _,_,.sym j=>.sym j
 | _,_,.fz n off c l k a hn h h2=>.fz n off c l k a hn h h2
 | _,_,.fz0 a=>.fz0 a
 | _,_,.pf off base l k a h h2=>.pf off base l k a h h2
 | _,_,.e0 a=>.e0 a
 | _,_,.nz a c=>.nz a c
 | _,_,.own0 b' a hb=>by
  simp only[fzv];split
  ·simp;exact .fz0 _
  ·exact .own0 _ _ hb
 | _,_,.yl b' L' h=>by
  simp only[fzv];split
  ·exact .undef _
  ·exact .yl _ L' h
 | _,_,.own b' n c L' h hn hc=>by
  simp only[fzv];split
  ·rename_i hb;subst hb;rw[hL] at h;cases h
  ·exact .own _ _ _ L' h hn hc
theorem VRs.iced0{ρ:Ren}{b e:Nat}{cs:List AV}(hL:ρ b=none):∀{v:List AV} {x:List Value},VRs σ0 ρ v x->VRs σ0 ρ (qdY b e cs v) x
 | _,_,.nil=>.nil
 | _,_,.cons v vs v' vs' h h2=>.cons _ _ _ _ (VR.iced0 hL h) (VRs.iced0 hL h2)
end
def qyd(es:List (AV×AV)):Prop:=qc6 es∨∃r ts,es=zq r ts
theorem qoP{b e:Nat}{cs:List AV}:∀{es:List (AV×AV)},qc6 es->fzE b e cs es=es
 | [],_=>rfl
 | p::es,h=>by
  have h2:=qiv.1 h;show (p.1,fzv b e cs p.2)::fzE b e cs es=_;rw[qoP h2.2,qoQ h2.1.2]
theorem qv0{b e:Nat}{cs:List AV}{r:Loop}{ts:List (Nat×AV)}:fzE b e cs (zq r ts)=zq r (ts.map fun p=>(p.1,fzv b e cs p.2)):=by simp[fzE,zq,fzv]
theorem qdK.ice{ρ ρ':Ren}{b e:Nat}{cs:List AV}(hv:∀{v:AV} {x:Value},VR σ0 ρ v x->VR σ0 ρ' (fzv b e cs v) x){es:List (AV×AV)}{o:Obj}(hm:qyd es)(h:qdK σ0 ρ es o):qdK σ0 ρ' (fzE b e cs es) o:=by
 rcases hm with hm|⟨r,ts,rfl⟩
 ·rw[qoP hm];have hv':∀{v:AV} {x:Value},clo v=true->VR σ0 ρ v x->VR σ0 ρ' v x:=fun hc h=>by have:=hv h;rwa [qoQ hc] at this
  rcases h with⟨p1,vs,clk,p2,p3,p4⟩|p3|⟨r,_,ts,rfl,p2,_,p3⟩
  ·exact .inl ⟨p1,vs,clk,p2,p3,fun j e0 he=>let ⟨v,a1,a2,a3⟩:=p4 j e0 he
    ⟨v,a1,hv' (hm e0 (zzM he)).1 a2,hv' (hm e0 (zzM he)).2 a3⟩⟩
  ·exact .inr (.inl p3)
  ·exact absurd (hm (.lp r,.undef) (by simp[zq])).1 (by simp[clo])
 ·obtain⟨rq,p2,pk,p3⟩:=h.rec';rw[qv0];refine .inr (.inr ⟨r,rq,_,rfl,p2,pk,fun p hp=>?_⟩)
  obtain⟨q,hq,rfl⟩:=List.mem_map.1 hp;exact⟨(p3 q hq).1,hv (p3 q hq).2⟩
theorem Wk.freeze{n:Nat}{ts:List (Nat×AV)}{bl:List Blk}(b e e':Nat){a:Bool}{cs:List AV}(hb:bl[b]?=some (.cells e' true a cs))(hc:qu cs=true)(hn:n<=b)(hm:∀es,Blk.map es ∈ bl->qyd es) :
  Wk n (mkT ts) (mkH 0 bl) (mkT (ts.map fun p=>(p.1,fzv b e cs p.2))) (mkH 0 ((bl.map (fzB b e cs)).set b .dead)):=by
 intro ρ B w tm ht r;have hlt:b<bl.length:=(zzS.1 hb).1;have hgb:(mkH 0 bl).tr.get b=some (.cells e' true a cs):=by rw[xK];exact hb
 have tget:∀(ts:List (Nat×AV)) (j:Nat),(mkT (ts.map fun p=>(p.1,fzv b e cs p.2))).get j=((mkT ts).get j).map (fzv b e cs):=by
  intro ts j
  induction ts with
  | nil=>simp[mkT]
  | cons p l ih =>
   simp only[List.map_cons,mkT,Tr.get_set];split
   ·rfl
   ·exact ih
 have hget:∀b',b'≠b->(mkH 0 ((bl.map (fzB b e cs)).set b .dead)).tr.get b'=((mkH 0 bl).tr.get b').map (fzB b e cs):=by
  intro b' hne;rw[xK,xK,List.getElem?_set_ne (Ne.symm hne),List.getElem?_map]
 have hgd:(mkH 0 ((bl.map (fzB b e cs)).set b .dead)).tr.get b=some .dead:=by
  rw[xK,List.getElem?_set_self (by simpa using hlt)]
 -- a live block of the new heap comes from one of the old
 have qaL:∀b' x,(mkH 0 ((bl.map (fzB b e cs)).set b .dead)).tr.get b'=some x->x≠.dead->b'≠b∧∃y,(mkH 0 bl).tr.get b'=some y∧x=fzB b e cs y∧y≠.dead:=by
  intro b' x hx hd
  have hne:b'≠b:=by
   rintro rfl;rw[hgd] at hx;cases hx;exact hd rfl
  rw[hget b' hne] at hx;cases hy:(mkH 0 bl).tr.get b' with
  | none=>rw[hy] at hx;simp at hx
  | some y =>
   rw[hy] at hx;simp at hx;exact⟨hne,y,rfl,hx.symm,by rintro rfl;subst hx;exact hd rfl⟩
 have hsz:(mkH 0 ((bl.map (fzB b e cs)).set b .dead)).sz=bl.length:=by simp[qtp]
 cases hρ:ρ b with
 | none =>
  refine⟨ρ,fun j v hj=>?_,⟨?_,?_,?_,?_,?_,?_,?_,r.base,?_,?_⟩,⟨fun _ _=>rfl,by rw[hsz];omega,rfl,fun b' hb'=>by simp[qto] at hb',fun _ _=>rfl,Nat.le_refl _,⟨rfl,rfl⟩,fun _ _ h=>h,fun _ _ h=>.inl h,fun _ _ h=>h⟩⟩
  ·rw[tget] at hj;cases hv:(mkT ts).get j with
   | none=>rw[hv] at hj;simp at hj
   | some v0 =>
    rw[hv] at hj;simp at hj;subst hj;exact⟨(ht j v0 hv).1,VR.iced0 hρ (ht j v0 hv).2⟩
  ·intro b' L h1;rw[hsz];exact r.dom b' L h1
  ·intro b' L e1 wf af cs' h1 h2;obtain⟨h3,y,h4,h5,h6⟩:=qaL b' _ h2 (by simp);cases y with
   | cells k w0 a0 l =>
    simp only[fzB,Blk.cells.injEq] at h5;obtain⟨rfl,rfl,rfl,rfl⟩:=h5;obtain⟨q1,c,ty,fz,q2,q3,q4,q5,q6⟩:=r.cells b' L _ _ _ l h1 h4;refine⟨q1,c,ty,fz,q2,q3,by rw[qan];exact q4,fun j v hv=>?_,q6⟩
    rw[qju] at hv;cases hj:l[j]? with
    | none=>rw[hj] at hv;simp at hv
    | some v0 =>
     rw[hj] at hv;simp at hv;subst hv;obtain⟨v',g1,g2⟩:=q5 j v0 hj;exact⟨v',g1,VR.iced0 hρ g2⟩
   | dead=>simp[fzB] at h5
   | map es=>simp[fzB] at h5
  ·intro b' L es h1 h2;obtain⟨h3,y,h4,h5,h6⟩:=qaL b' _ h2 (by simp);cases y with
   | cells k w0 a0 l=>simp[fzB] at h5
   | dead=>simp[fzB] at h5
   | map es' =>
    simp only[fzB,Blk.map.injEq] at h5;subst h5;obtain⟨p1,o,p2,p3⟩:=r.maps b' L _ h1 h4;exact⟨p1,o,p2,p3.ice (fun h=>VR.iced0 hρ h) (hm es' (by rw[xK] at h4;exact zzM h4))⟩
  ·intro b1 L1 e1 af1 cs1 h1 h2 b2 L2 x h3 h4 h5 h6;obtain⟨g1,y,g2,g3,g4⟩:=qaL b1 _ h2 (by simp);obtain⟨i1,y2,i2,i3,i4⟩:=qaL b2 _ h4 h5;cases y with
   | cells k w0 a0 l =>
    simp only[fzB,Blk.cells.injEq] at g3;obtain⟨rfl,rfl,rfl,rfl⟩:=g3;exact r.excl b1 L1 _ _ l h1 g2 b2 L2 y2 h3 i2 i4 h6
   | dead=>simp[fzB] at g3
   | map es=>simp[fzB] at g3
  ·intro b1 L1 es h1 h2 b2 L2 x h3 h4 h5 h6;obtain⟨g1,y,g2,g3,g4⟩:=qaL b1 _ h2 (by simp);obtain⟨i1,y2,i2,i3,i4⟩:=qaL b2 _ h4 h5;cases y with
   | cells k w0 a0 l=>simp[fzB] at g3
   | dead=>simp[fzB] at g3
   | map es'=>simp only[fzB,Blk.map.injEq] at g3;subst g3;exact r.exclm b1 L1 _ h1 g2 b2 L2 y2 h3 i2 i4 h6
  ·intro b1 L1 e1 wf1 cs1 h1 h2 b2 L2 e2 wf2 af2 cs2 h3 h4 h6;obtain⟨g1,y,g2,g3,g4⟩:=qaL b1 _ h2 (by simp);obtain⟨i1,y2,i2,i3,i4⟩:=qaL b2 _ h4 (by simp);cases y<;>simp only[fzB,Blk.cells.injEq,reduceCtorEq] at g3;cases y2<;>simp only[fzB,Blk.cells.injEq,reduceCtorEq] at i3;obtain⟨rfl,rfl,rfl,rfl⟩:=g3;obtain⟨rfl,rfl,rfl,rfl⟩:=i3;rw[qan,qan];exact r.app b1 L1 _ _ _ h1 g2 b2 L2 _ _ _ _ h3 i2 h6
  ·intro b' L h1 h2;exact r.flr b' L h1 (Nat.zero_le _)
  ·intro k arr hk;refine⟨(r.frz k arr hk).1,fun b' L x h1 h2 h3=>?_⟩
   obtain⟨g1,y,g2,g3,g4⟩:=qaL b' _ h2 h3;exact (r.frz k arr hk).2 b' L y h1 g2 g4
  ·exact⟨by rw[hsz];exact r.dn.1,r.dn.2⟩
 | some L =>
  obtain⟨q1,c,ty,fz,q2,q3,q4,q5,q6⟩:=r.cells b L _ _ _ cs hρ hgb
  have hz:tab L.blk=none:=by
   cases h:tab L.blk with
   | none=>rfl
   | some a=>exact absurd rfl ((r.frz _ _ (ρ.frz.ok _ _ h)).2 b L _ hρ hgb (by simp))
  have hf:∀k a,ρ.frz k=some a->(ρ.iced b L.blk c).frz k=some a:=by
   intro k a' hk;simp only[Ren.iced];rw[if_neg (fun hh=>(r.frz k a' hk).2 b L _ hρ hgb (by simp) hh.symm)]
   exact hk
  have hLs:∀L',ρ b=some L'->L'=L:=by intro L' h;rw[hρ] at h;cases h;rfl
  have hcr:∀(l:List AV) (j:Nat),(∀i v,l[i]?=some v->∃v',c.toList[j+i]?=some v'∧VR σ0 ρ v v')->qu l=true->CRs σ0 (ρ.iced b L.blk c).frz l ((c.toList.drop j).take l.length):=by
   intro l
   induction l with
   | nil=>intro j _ _;simp;exact .nil
   | cons v l ih =>
    intro j hh hcl;simp only[qu,Bool.and_eq_true] at hcl;obtain⟨v',g1,g2⟩:=hh 0 v rfl;simp only[Nat.add_zero] at g1;obtain⟨hj,rfl⟩:=zzS.1 g1;rw[List.drop_eq_getElem_cons hj,List.length_cons,List.take_succ_cons];refine .cons _ _ _ _ ((g2.cr hcl.1).mono hf) (ih (j+1) (fun i v hi=>?_) hcl.2)
    obtain⟨v',k1,k2⟩:=hh (i+1) v (by simpa using hi);exact⟨v',by rw[show j+1+i=j+(i+1) from by omega];exact k1,k2⟩
  have hs:CRs σ0 (ρ.iced b L.blk c).frz cs ((c.toList.drop L.off).take cs.length):=hcr cs L.off (fun i v hi=>by
   obtain⟨v',g1,g2⟩:=q5 i v hi;exact⟨v',by simpa using g1,g2⟩) hc
  have old:∀b' L',(ρ.iced b L.blk c) b'=some L'->b'≠b∧ρ b'=some L':=by
   intro b' L' h
   by_cases hbb:b'=b
   ·subst hbb;simp[Ren.iced] at h
   ·refine⟨hbb,?_⟩;simp only[Ren.iced] at h;rw[if_neg hbb] at h;exact h
  refine⟨ρ.iced b L.blk c,fun j v hj=>?_,⟨?_,?_,?_,?_,?_,?_,?_,r.base,?_,?_⟩,⟨fun b' hb'=>by simp only[Ren.iced];rw[if_neg (by omega)],by rw[hsz];omega,rfl,fun b' hb'=>by simp[qto] at hb',fun _ _=>rfl,Nat.le_refl _,⟨rfl,rfl⟩,hf,fun k a' hk=>?_,fun _ _ h=>h⟩⟩
  ·rw[tget] at hj;cases hv:(mkT ts).get j with
   | none=>rw[hv] at hj;simp at hj
   | some v0 =>
    rw[hv] at hj;simp at hj;subst hj;exact⟨(ht j v0 hv).1,VR.iced hz hLs hf hs (ht j v0 hv).2⟩
  ·intro b' L' h1;rw[hsz];exact r.dom b' L' (old _ _ h1).2
  ·intro b' L' e1 wf af cs' h1 h2;obtain⟨h3,y,h4,h5,h6⟩:=qaL b' _ h2 (by simp);cases y with
   | cells k w0 a0 l =>
    simp only[fzB,Blk.cells.injEq] at h5;obtain⟨rfl,rfl,rfl,rfl⟩:=h5;obtain⟨p1,c',ty',fz',p2,p3,p4,p5,p6⟩:=r.cells b' L' _ _ _ l (old _ _ h1).2 h4;refine⟨p1,c',ty',fz',p2,p3,by rw[qan];exact p4,fun j v hv=>?_,p6⟩
    rw[qju] at hv;cases hj:l[j]? with
    | none=>rw[hj] at hv;simp at hv
    | some v0 =>
     rw[hj] at hv;simp at hv;subst hv;obtain⟨v',g1,g2⟩:=p5 j v0 hj;exact⟨v',g1,VR.iced hz hLs hf hs g2⟩
   | dead=>simp[fzB] at h5
   | map es=>simp[fzB] at h5
  ·intro b' L' es h1 h2;obtain⟨h3,y,h4,h5,h6⟩:=qaL b' _ h2 (by simp);cases y with
   | cells k w0 a0 l=>simp[fzB] at h5
   | dead=>simp[fzB] at h5
   | map es' =>
    simp only[fzB,Blk.map.injEq] at h5;subst h5;obtain⟨p1,o,p2,p3⟩:=r.maps b' L' _ (old _ _ h1).2 h4;exact⟨p1,o,p2,p3.ice (fun h=>VR.iced hz hLs hf hs h) (hm es' (by rw[xK] at h4;exact zzM h4))⟩
  ·intro b1 L1 e1 af1 cs1 h1 h2 b2 L2 x h3 h4 h5 h6;obtain⟨g1,y,g2,g3,g4⟩:=qaL b1 _ h2 (by simp);obtain⟨i1,y2,i2,i3,i4⟩:=qaL b2 _ h4 h5;cases y<;>simp only[fzB,Blk.cells.injEq,reduceCtorEq] at g3;obtain⟨rfl,rfl,rfl,rfl⟩:=g3;exact r.excl b1 L1 _ _ _ (old _ _ h1).2 g2 b2 L2 y2 (old _ _ h3).2 i2 i4 h6
  ·intro b1 L1 es h1 h2 b2 L2 x h3 h4 h5 h6;obtain⟨g1,y,g2,g3,g4⟩:=qaL b1 _ h2 (by simp);obtain⟨i1,y2,i2,i3,i4⟩:=qaL b2 _ h4 h5;cases y<;>simp only[fzB,Blk.map.injEq,reduceCtorEq] at g3;subst g3;exact r.exclm b1 L1 _ (old _ _ h1).2 g2 b2 L2 y2 (old _ _ h3).2 i2 i4 h6
  ·intro b1 L1 e1 wf1 cs1 h1 h2 b2 L2 e2 wf2 af2 cs2 h3 h4 h6;obtain⟨g1,y,g2,g3,g4⟩:=qaL b1 _ h2 (by simp);obtain⟨i1,y2,i2,i3,i4⟩:=qaL b2 _ h4 (by simp);cases y<;>simp only[fzB,Blk.cells.injEq,reduceCtorEq] at g3;cases y2<;>simp only[fzB,Blk.cells.injEq,reduceCtorEq] at i3;obtain⟨rfl,rfl,rfl,rfl⟩:=g3;obtain⟨rfl,rfl,rfl,rfl⟩:=i3;rw[qan,qan];exact r.app b1 L1 _ _ _ (old _ _ h1).2 g2 b2 L2 _ _ _ _ (old _ _ h3).2 i2 h6
  ·intro b' L' h1 h2;exact r.flr b' L' (old _ _ h1).2 (Nat.zero_le _)
  ·intro k arr hk
   by_cases hkk:k=L.blk
   ·subst hkk;simp[Ren.iced,hz] at hk;subst hk;refine⟨⟨ty,fz,q2⟩,fun b' L' x h1 h2 h3 h6=>?_⟩
    obtain⟨g1,y,g2,g3,g4⟩:=qaL b' _ h2 h3;exact g1 (r.excl b L _ _ _ hρ hgb b' L' y (old _ _ h1).2 g2 g4 h6)
   ·simp only[Ren.iced] at hk;rw[if_neg hkk] at hk;refine⟨(r.frz k arr hk).1,fun b' L' x h1 h2 h3=>?_⟩
    obtain⟨g1,y,g2,g3,g4⟩:=qaL b' _ h2 h3;exact (r.frz k arr hk).2 b' L' y (old _ _ h1).2 g2 g4
  ·exact⟨by rw[hsz];exact r.dn.1,fun b' L' h=>r.dn.2 b' L' (old _ _ h).2⟩
  ·simp only[Ren.iced] at hk;split at hk
   ·rename_i hkk;subst hkk;exact .inr (r.flr b L hρ (Nat.zero_le _))
   ·exact .inl hk

theorem Own.pure{f:Nat}{vs:List AV}{v v':AV}{bs:List Blk}(hcl:qu vs=true)(ho:Own P f vs v bs)(hf:Frz (xV H0 (bs.map (shb 0))) (shv 0 v) v'):qd P f vs v' :=
 qd.of_SC hcl (ho H0 _ hf)
end Go.Kc
end
section
namespace Go.Kc
variable {P:Program} {n:Nat} {t:Tr AV} {h:Hp}

theorem Wk.trans{t1 t2:Tr AV}{h1 h2:Hp}(a:Wk n t h t1 h1)(b:Wk n t1 h1 t2 h2):Wk n t h t2 h2:=by
 intro ρ B w tm ht r;obtain⟨ρ1,g1,g2,g3⟩:=a ρ B w tm ht r;obtain⟨ρ2,k1,k2,k3⟩:=b ρ1 B w tm g1 g2;exact⟨ρ2,k1,k2,g3.trans k3⟩
theorem Wk.close(j b x c e q:Nat){l a:Bool}{cs:List AV}(ht:t.get j=some (.sl b 0 x c l))(hb:h.tr.get b=some (.cells e true a cs))(hc:c*e<=cs.length)(hx:x<=c)(hq:q<=cs.length)(hfl:h.fl<=b)(hbs:b<h.sz)(hn:n<=h.sz) :
  Wk n t h (t.set j (.own b x)) ⟨h.sz,h.fl,h.tr.set b (.cells e true true (cs.take q))⟩:=by
 intro ρ B w tm htr r;have le:ρ.le ⟨ρ.loc,ρ.frz,h.sz⟩:=⟨fun _ _ h=>h,fun _ _ h=>h,r.dn.1⟩
 have old:∀b' x,((h.tr.set b (.cells e true true (cs.take q))).get b'=some x)->(b'=b∧x = .cells e true true (cs.take q))∨(b'≠b∧h.tr.get b'=some x):=by
  intro b' x hx;rw[Tr.get_set] at hx;split at hx
  ·rename_i h1;cases hx;exact .inl ⟨h1,rfl⟩
  ·rename_i h1;exact .inr ⟨h1,hx⟩
 have olive:∀b' x,((h.tr.set b (.cells e true true (cs.take q))).get b'=some x)->x≠.dead->∃y,h.tr.get b'=some y∧y≠.dead:=by
  intro b' x hx hd;rcases old b' x hx with⟨rfl,rfl⟩|⟨_,g⟩
  ·exact⟨_,hb,by simp⟩
  ·exact⟨x,g,hd⟩
 refine⟨⟨ρ.loc,ρ.frz,h.sz⟩,fun i v hv=>?_,⟨r.dom,?_,?_,?_,?_,?_,r.flr,r.base,?_,⟨Nat.le_refl _,r.dn.2⟩⟩,⟨fun _ _=>rfl,hn,rfl,fun b' h1 h2=>?_,fun _ _=>rfl,Nat.le_refl _,⟨rfl,rfl⟩,fun _ _ h=>h,fun _ _ h=>.inl h,fun b' h1 h2=>Nat.lt_of_lt_of_le h1 hn⟩⟩
 ·rw[Tr.get_set] at hv;split at hv
  ·rename_i hij;subst hij;cases hv;obtain⟨h1,h2⟩:=htr _ _ ht;refine⟨h1,?_⟩;generalize tm.getD i undef=gv at h2;cases h2 with
   | sl _ _ _ _ c' _ L h3 h4 =>
    obtain⟨q1,co,ty,fz,q2,q3,q4,q5,q6⟩:=r.cells b L _ _ _ cs h3 hb;refine .own _ _ _ L h3 (by rcases h4 with h4|h4<;>omega) ?_;rcases h4 with rfl|⟨_,_,h4⟩
    ·rw[q1];omega
    ·simpa using h4
   | slz=>exact .own0 _ _ hbs
  ·obtain⟨h1,h2⟩:=htr _ _ hv;exact⟨h1,h2.mono le⟩
 ·intro b' L e1 wf af cs' h1 h2;rcases old b' _ h2 with⟨rfl,g⟩|⟨_,g⟩
  ·cases g;obtain⟨q1,co,ty,fz,q2,q3,q4,q5,q6⟩:=r.cells _ L _ _ _ cs h1 hb;refine⟨q1,co,ty,fz,q2,q3,by simp;omega,fun i v hv=>?_,fun _=>q6 (by simp)⟩
   obtain⟨v',k1,k2⟩:=q5 i v (by
    rw[List.getElem?_take] at hv;split at hv
    ·exact hv
    ·cases hv)
   exact⟨v',k1,k2.mono le⟩
  ·obtain⟨q1,co,ty,fz,q2,q3,q4,q5,q6⟩:=r.cells _ L _ _ _ _ h1 g;exact⟨q1,co,ty,fz,q2,q3,q4,fun i v hv=>let ⟨v',k1,k2⟩:=q5 i v hv;⟨v',k1,k2.mono le⟩,q6⟩
 ·intro b' L es h1 h2;rcases old b' _ h2 with⟨rfl,g⟩|⟨_,g⟩
  ·cases g
  ·obtain⟨q1,o,q2,q3⟩:=r.maps b' L es h1 g;exact⟨q1,o,q2,q3.mono le⟩
 ·intro b1 L1 e1 af1 cs1 h1 h2 b2 L2 y h3 h4 h5 h6;obtain⟨y2,i1,i2⟩:=olive b2 y h4 h5;rcases old b1 _ h2 with⟨rfl,g⟩|⟨_,g⟩
  ·exact r.excl _ L1 _ _ cs h1 hb b2 L2 y2 h3 i1 i2 h6
  ·exact r.excl _ L1 _ _ _ h1 g b2 L2 y2 h3 i1 i2 h6
 ·intro b1 L1 es h1 h2 b2 L2 y h3 h4 h5 h6;obtain⟨y2,i1,i2⟩:=olive b2 y h4 h5;rcases old b1 _ h2 with⟨rfl,g⟩|⟨_,g⟩
  ·cases g
  ·exact r.exclm _ L1 _ h1 g b2 L2 y2 h3 i1 i2 h6
 ·intro b1 L1 e1 wf1 cs1 h1 h2 b2 L2 e2 wf2 af2 cs2 h3 h4 h6;rcases old b1 _ h2 with⟨rfl,g⟩|⟨hne,g⟩<;>rcases old b2 _ h4 with⟨rfl,g'⟩|⟨hne',g'⟩
  ·cases g;cases g';have:L1=L2:=by rw[h1] at h3;cases h3;rfl
   subst this;exact⟨Nat.le_refl _,fun _=>rfl⟩
  ·cases g;exact absurd (r.excl _ L1 _ _ cs h1 hb b2 L2 _ h3 g' (by simp) h6) hne'
  ·cases g';exact absurd (r.excl _ L2 _ _ cs h3 hb b1 L1 _ h1 g (by simp) h6.symm) hne
  ·exact r.app b1 L1 _ _ _ h1 g b2 L2 _ _ _ _ h3 g' h6
 ·intro k arr hk;refine⟨(r.frz k arr hk).1,fun b' L y h1 h2 h3=>?_⟩
  obtain⟨y2,i1,i2⟩:=olive b' y h2 h3;exact (r.frz k arr hk).2 b' L y2 h1 i1 i2
 ·show (h.tr.set b _).get b'=_;rw[Tr.get_set,if_neg (by omega)]
theorem S.open{x:ICode}{Q:X->Tr AV->Hp->Prop}(j b m e:Nat){a:Bool}{cs:List AV}(ht:t.get j=some (.own b m))(hb:h.tr.get b=some (.cells e true a cs))(hl:cs.length=m*e)(hfl:h.fl<=b)(hbs:b<h.sz)
  (h0:m=0->S P n x Q (t.set j .e0) h) (h1:∀c,m<=c->S P n x Q (t.set j (.sl b 0 m c false)) ⟨h.sz,h.fl,h.tr.set b (.cells e true false (cs++List.replicate ((c-m)*e) .undef))⟩):S P n x Q t h:=by
 intro nt code hc hn ro hro ρ B w ac htr hsz r;obtain⟨g1,g2⟩:=htr _ _ ht;generalize hgv:ac.tmps.getD j undef=gv at g2;cases g2 with
 | own0 _ ad hbn =>
  refine h0 rfl nt code hc hn ro hro ρ B w ac (fun i v hv=>?_) hsz r
  rw[Tr.get_set] at hv;split at hv
  ·rename_i hij;subst hij;cases hv;exact⟨g1,by rw[hgv];exact .e0 _⟩
  ·exact htr i v hv
 | own _ _ c L h3 h4 h5 =>
  obtain⟨q1,co,ty,fz,q2,q3,q4,q5,q6⟩:=r.cells b L _ _ _ cs h3 hb
  have old:∀b' y,((h.tr.set b (.cells e true false (cs++List.replicate ((c-m)*e) .undef))).get b'=some y)->(b'=b∧y = .cells e true false (cs++List.replicate ((c-m)*e) .undef))∨(b'≠b∧h.tr.get b'=some y):=by
   intro b' y hx;rw[Tr.get_set] at hx;split at hx
   ·rename_i h1;cases hx;exact .inl ⟨h1,rfl⟩
   ·rename_i h1;exact .inr ⟨h1,hx⟩
  have olive:∀b' y,((h.tr.set b (.cells e true false (cs++List.replicate ((c-m)*e) .undef))).get b'=some y)->y≠.dead->∃z,h.tr.get b'=some z∧z≠.dead:=by
   intro b' y hx hd;rcases old b' y hx with⟨rfl,rfl⟩|⟨_,g⟩
   ·exact⟨_,hb,by simp⟩
   ·exact⟨y,g,hd⟩
  have hlen:(cs++List.replicate ((c-m)*e) AV.undef).length=c*e:=by
   simp[hl];rw[← Nat.add_mul];congr 1;omega
  have r':Rel σ0 ρ B ⟨h.sz,h.fl,h.tr.set b (.cells e true false (cs++List.replicate ((c-m)*e) .undef))⟩ w:=by
   refine⟨r.dom,?_,?_,?_,?_,?_,r.flr,r.base,?_,r.dn⟩
   ·intro b' L' e1 wf af cs' k1 k2;rcases old b' _ k2 with⟨rfl,g⟩|⟨_,g⟩
    ·cases g;rw[h3] at k1;cases k1;refine⟨q1,co,ty,fz,q2,q3,by rw[hlen,← q1];exact h5,fun i v hv=>?_,fun _=>q6 (by simp)⟩
     by_cases hi:i<cs.length
     ·rw[List.getElem?_append_left hi] at hv;exact q5 i v hv
     ·have hlt:=(zzS.1 hv).1;rw[List.getElem?_append_right (by omega),List.getElem?_replicate] at hv;split at hv
      ·cases hv;rw[hlen] at hlt;have hlt2:L.off+i<co.size:=by rw[q3];rw[q1] at h5;omega
       exact⟨co[L.off+i],by simp[hlt2],.undef _⟩
      ·cases hv
    ·exact r.cells _ L' _ _ _ _ k1 g
   ·intro b' L' es k1 k2;rcases old b' _ k2 with⟨rfl,g⟩|⟨_,g⟩
    ·cases g
    ·exact r.maps b' L' es k1 g
   ·intro b1 L1 e1 af1 cs1 k1 k2 b2 L2 y k3 k4 k5 k6;obtain⟨y2,i1,i2⟩:=olive b2 y k4 k5;rcases old b1 _ k2 with⟨rfl,g⟩|⟨_,g⟩
    ·exact r.excl _ L1 _ _ cs k1 hb b2 L2 y2 k3 i1 i2 k6
    ·exact r.excl _ L1 _ _ _ k1 g b2 L2 y2 k3 i1 i2 k6
   ·intro b1 L1 es k1 k2 b2 L2 y k3 k4 k5 k6;obtain⟨y2,i1,i2⟩:=olive b2 y k4 k5;rcases old b1 _ k2 with⟨rfl,g⟩|⟨_,g⟩
    ·cases g
    ·exact r.exclm _ L1 _ k1 g b2 L2 y2 k3 i1 i2 k6
   ·intro b1 L1 e1 wf1 cs1 k1 k2 b2 L2 e2 wf2 af2 cs2 k3 k4 k6;rcases old b1 _ k2 with⟨rfl,g⟩|⟨hne,g⟩
    ·cases g
    ·rcases old b2 _ k4 with⟨rfl,g'⟩|⟨hne',g'⟩
     ·cases g';exact absurd (r.excl _ L2 _ _ cs k3 hb b1 L1 _ k1 g (by simp) k6.symm) hne
     ·exact r.app b1 L1 _ _ _ k1 g b2 L2 _ _ _ _ k3 g' k6
   ·intro k arr hk;refine⟨(r.frz k arr hk).1,fun b' L' y k1 k2 k3=>?_⟩
    obtain⟨y2,i1,i2⟩:=olive b' y k2 k3;exact (r.frz k arr hk).2 b' L' y2 k1 i1 i2
  refine wpIn_mono (h1 c h4 nt code hc hn ro hro ρ B w ac (fun i v hv=>?_) hsz r') ?_
  ·rw[Tr.get_set] at hv;split at hv
   ·rename_i hij;subst hij;cases hv;refine⟨g1,?_⟩;rw[hgv];exact .sl b 0 m c c false L h3 (.inl rfl)
   ·exact htr i v hv
  ·intro e2 a2 w2 hp
   have kk:Kep n ρ B h w ρ ⟨h.sz,h.fl,h.tr.set b (.cells e true false (cs++List.replicate ((c-m)*e) .undef))⟩ w:=by
    refine⟨fun _ _=>rfl,hn,rfl,fun b' k1 k2=>?_,fun _ _=>rfl,Nat.le_refl _,⟨rfl,rfl⟩,fun _ _ h=>h,fun _ _ h=>.inl h,fun _ _ h=>h⟩
    show (h.tr.set b _).get b'=_;rw[Tr.get_set,if_neg (by omega)]
   exact qbG.weaken kk hp
end Go.Kc
end
section
namespace Go.Kc
variable {P:Program} {f:Nat}

def qoV(P:Program)(f:Nat)(e:Array Value->Sem Value):Prop:=∀args w,(callFunc f args).run P w=((e args).run P w).andThen fun v w'=>.ok (.value v) w'
theorem qoV.of{fn:Func}{e:Array Value->Sem Value}(hf:P.funcs[f]?=some fn)(hname:(fn.name == "runtime.NumGoroutine")=false)(hb:fn.body.isNone=true)(hn:Extern.findNext fn=none)(he:Extern.find fn=some e):qoV P f e :=
 fun args w=>run_callFunc_extern hf hname hb hn he args w
theorem qoV.pure{e:Array Value->Sem Value}{vs:List AV}{v:AV}(h:qoV P f e)(hr:∀ρ (args:Array Value) w,VRs σ0 ρ vs args.toList->∃v',(e args).run P w = .ok v' w∧VR σ0 ρ v v'):qd P f vs v:=by
 intro hp k hk;refine⟨trivial,fun ρ B w args r ha=>?_⟩
 obtain⟨v',h1,h2⟩:=hr ρ args w ha;exact .inr ⟨v',w,by rw[h,h1];rfl,v,v',hp,ρ,rfl,hk,h2,r,Kept.refl _ _ _ _⟩

def qv7(c:UInt8):List UInt8->Nat->Int
 | [],_=>-1
 | x::xs,j=>if x=c then (j:Int) else qv7 c xs (j+1)
noncomputable def qsa(a b:List UInt8):Int:=if a=b then 0 else if ltS a b=true then -1 else 1
theorem qwq{y:List UInt8}:ltS [] y = !y.isEmpty:=by cases y<;>rfl
theorem qnd{c:UInt8}{x:List UInt8}:ltS (c::x) []=false:=rfl
theorem qnc{c d:UInt8}{x y:List UInt8}:ltS (c::x) (d::y)=if c<d then true else if c=d then ltS x y else false:=by
 rw[qhW,qhW];simp only[Op.bytesLess]
 by_cases h1:c<d
 ·simp[h1]
 ·by_cases h2:c=d
  ·simp[h2]
  ·simp[h1,h2]
end Go.Kc
end
section
namespace Go.Kc
variable {P:Program}
theorem qpF.closed{h':Hp}{e x c:Nat}{a l:Bool}{cs cs':List AV}(hb:h'.tr.get 0=some (.cells e true a cs))(hsz:h'.sz=1)(hc:c*e<=cs.length)(hx:x<=c)(hq:cs.take (x*e)=cs')(hcl:qu cs'=true):qpF 1 (.own 0 x) [.cells e true true cs'] (.sl 0 0 x c l) h':=by
 intro hfl;have hxe:x*e<=cs.length:=Nat.le_trans (Nat.mul_le_mul_right _ hx) hc;refine Wk.trans (Wk.close (n:=1) (l:=l) 0 0 x c e (x*e) (by simp[mkT,Tr.get_set]) hb hc hx hxe (by omega) (by omega) (by omega)) ?_;refine Wk.mkn [(0,.own 0 x)] [.cells e true true cs'] [0] ?_ ?_ ?_ hfl (Nat.le_refl _) ?_
 ·refine⟨⟨.own 0 x,by simp[Tr.get_set],?_⟩,trivial⟩
  exact .own 0 0 x rfl (Nat.zero_lt_one)
 ·refine⟨?_,trivial⟩;refine BW.cells (by rw[Tr.get_set,if_pos rfl,hq]) (NVs.refl hcl)
 ·simp[hsz]
 ·intro b hb;obtain rfl:b=0:=by omega
  rfl
end Go.Kc
end
section
namespace Go.Kc
variable {P:Program} {h:Hp}

noncomputable def trP:List (Nat×Blk)->Tr Blk
 | []=>.leaf
 | p::l=>(trP l).set p.1 p.2
theorem qhC:∀{l:List (Nat×Blk)} {b:Nat} {x:Blk},(trP l).get b=some x->(b,x) ∈ l
 | [],b,x,h=>by simp[trP] at h
 | p::l,b,x,h=>by
  simp only[trP,Tr.get_set] at h;split at h
  ·cases h;subst_vars;simp
  ·exact List.mem_cons_of_mem _ (qhC h)
noncomputable def qdC(h:Hp):List (Nat×Blk)->Hp
 | []=>h
 | p::l=>qdC (h.put p.1 .dead) l
theorem qhg:∀{l:List (Nat×Blk)} {h:Hp},(qdC h l).sz=h.sz
 | [],_=>rfl
 | _::l,h=>(qhg (l:=l)).trans rfl
theorem qhf:∀{l:List (Nat×Blk)} {h:Hp},(qdC h l).fl=h.fl
 | [],_=>rfl
 | _::l,h=>(qhf (l:=l)).trans rfl
theorem qfl:∀{l:List (Nat×Blk)} {h:Hp} {b:Nat},(qdC h l).tr.get b=if b ∈ l.map Prod.fst then some .dead else h.tr.get b
 | [],_,_=>by simp[qdC]
 | p::l,h,b=>by
  simp only[qdC];rw[qfl]
  by_cases h1:b ∈ l.map Prod.fst
  ·rw[if_pos h1,if_pos (by simp only[List.map_cons,List.mem_cons];exact .inr h1)]
  ·rw[if_neg h1];show (h.tr.set p.1 .dead).get b=_;rw[Tr.get_set]
   by_cases h2:b=p.1
   ·rw[if_pos h2,if_pos (by simp only[List.map_cons,List.mem_cons];exact .inl h2)]
   ·rw[if_neg h2,if_neg (by simp only[List.map_cons,List.mem_cons,not_or];exact⟨h2,h1⟩)]
theorem qm7:qdC h []=h:=rfl
theorem qkR{b:Nat}{x:Blk}{l:List (Nat×Blk)}:qdC h ((b,x)::l)=qdC (h.put b .dead) l:=rfl
theorem Rel.sub{ρ:Ren}{B:Nat->Prop}{h h':Hp}{w:World}(r:Rel σ0 ρ B h w)(hs:h'.sz=h.sz)(hf:h'.fl=h.fl)(hg:∀b x,h'.tr.get b=some x->x≠.dead->h.tr.get b=some x):Rel σ0 ρ B h' w :=
 ⟨fun b L hb=>by rw[hs];exact r.dom b L hb,fun b L e wf af cs hb hx=>r.cells b L e wf af cs hb (hg _ _ hx (by simp)),fun b L es hb hx=>r.maps b L es hb (hg _ _ hx (by simp)),
  fun b L e af cs hb hx b' L' x hb' hx' hd=>r.excl b L e af cs hb (hg _ _ hx (by simp)) b' L' x hb' (hg _ _ hx' hd) hd,fun b L es hb hx b' L' x hb' hx' hd=>r.exclm b L es hb (hg _ _ hx (by simp)) b' L' x hb' (hg _ _ hx' hd) hd,
  fun b L e wf cs hb hx b' L' e' wf' af' cs' hb' hx'=>r.app b L e wf cs hb (hg _ _ hx (by simp)) b' L' e' wf' af' cs' hb' (hg _ _ hx' (by simp)),fun b L hb hf'=>r.flr b L hb (by rw[← hf];exact hf'),r.base,
  fun k arr hk=>⟨(r.frz k arr hk).1,fun b L x hb hx hd=>(r.frz k arr hk).2 b L x hb (hg _ _ hx hd) hd⟩,by rw[hs];exact r.dn⟩
theorem qd.give{f:Nat}{vs vs':List AV}{v:AV}{k:AV->Hp->Prop}(DB:List (Nat×Blk))(hg:∀p ∈ DB,h.tr.get p.1=some p.2∧h.fl<=p.1)(hp:qd P f vs' v)(hv:clo v=true)(hf:Frzs ⟨h.sz,h.fl,trP DB⟩ vs vs')(hk:k v (qdC h DB)):SC P f vs h k:=by
 refine⟨trivial,fun ρ B w args r ha=>?_⟩
 have hp0:=hp H0 (fun v' h'=>v'=v∧h'=H0) ⟨rfl,rfl⟩
 have r0:Rel σ0 ρ B ⟨h.sz,h.fl,trP DB⟩ w:=r.sub rfl rfl (fun b x hx _=>(hg _ (qhC hx)).1)
 have hcr:=hf.ok r0 ha
 have fnew:∀kk a,xp ρ ⟨h.sz,h.fl,trP DB⟩ w kk=some a->ρ.frz kk=some a∨((∃ty fz,w.heap[kk]?=some (.cells a ty fz))∧∃b L e af cs,b ∈ DB.map Prod.fst∧ρ b=some L∧h.tr.get b=some (.cells e true af cs)∧L.blk=kk∧h.fl<=b):=by
  intro kk a hkk;rcases qcV hkk with h1|⟨h1,b,L,e,af,cs,h2,h3,h4⟩
  ·exact .inl h1
  ·have hm:=qhC h3;exact .inr ⟨h1,b,L,e,af,cs,List.mem_map_of_mem (f:=Prod.fst) hm,h2,(hg _ hm).1,h4,(hg _ hm).2⟩
 -- the rows given are frozen,their blocks dead
 have r1:Rel σ0 ⟨ρ.loc,xp ρ ⟨h.sz,h.fl,trP DB⟩ w,ρ.n⟩ B (qdC h DB) w:=by
  have le:ρ.le ⟨ρ.loc,xp ρ ⟨h.sz,h.fl,trP DB⟩ w,ρ.n⟩:=⟨fun _ _ h=>h,fun _ _ h=>jl h,Nat.le_refl _⟩
  have qaL:∀b x,(qdC h DB).tr.get b=some x->x≠.dead->b ∉ DB.map Prod.fst∧h.tr.get b=some x:=by
   intro b x hx hd;rw[qfl] at hx;split at hx
   ·cases hx;exact absurd rfl hd
   ·exact⟨by assumption,hx⟩
  have rs:Rel σ0 ρ B (qdC h DB) w:=r.sub qhg qhf (fun b x hx hd=>(qaL b x hx hd).2)
  refine⟨rs.dom,fun b L e wf af cs hb hx=>?_,fun b L es hb hx=>?_,rs.excl,rs.exclm,rs.app,rs.flr,rs.base,fun kk arr hkk=>?_,rs.dn⟩
  ·obtain⟨q1,c,ty,fz,q2,q3,q4,q5,q6⟩:=rs.cells b L e wf af cs hb hx;exact⟨q1,c,ty,fz,q2,q3,q4,fun j v hv=>let ⟨v',k1,k2⟩:=q5 j v hv;⟨v',k1,k2.mono le⟩,q6⟩
  ·obtain⟨q1,o,q2,q3⟩:=rs.maps b L es hb hx;exact⟨q1,o,q2,q3.mono le⟩
  ·rcases fnew kk arr hkk with h1|⟨h1,b,L,e,af,cs,h2,h3,h4,h5,_⟩
   ·exact rs.frz kk arr h1
   ·refine⟨h1,fun b' L' x hb' hx hd he=>?_⟩
    obtain⟨g1,g2⟩:=qaL b' x hx hd;have:=r.excl b L e af cs h3 h4 b' L' x hb' g2 hd (by rw[he,h5]);subst this;exact g1 h2
 refine qbF.mono (hp0.2 ⟨fun _=>none,xp ρ ⟨h.sz,h.fl,trP DB⟩ w,0⟩ (low w.heap.size) w args
  ⟨(fun _ _ hb=>by cases hb),(fun _ _ _ _ _ _ hb=>by cases hb),(fun _ _ _ hb=>by cases hb),(fun _ _ _ _ _ hb=>by cases hb),(fun _ _ _ hb=>by cases hb),(fun _ _ _ _ _ hb=>by cases hb),(fun _ _ hb=>by cases hb),(fun _ h=>h),
   (fun k arr hk=>⟨(r1.frz k arr hk).1,fun _ _ _ hb=>by cases hb⟩),⟨Nat.le_refl _,fun _ _ hb=>by cases hb⟩⟩ (CRs.vr (ρ:=⟨fun _=>none,xp ρ ⟨h.sz,h.fl,trP DB⟩ w,0⟩) hcr)) ?_
 rintro e w' ⟨v0,v',h',ρ',rfl,⟨rfl,rfl⟩,g2,g3,g4⟩;have f1:∀k a,xp ρ ⟨h.sz,h.fl,trP DB⟩ w k=some a->ρ'.frz k=some a:=g4.frz;have f2:∀k a,ρ'.frz k=some a->xp ρ ⟨h.sz,h.fl,trP DB⟩ w k=some a∨w.heap.size<=k:=fun k a hk=>(g4.fnew k a hk).imp id Nat.not_lt.1
 have f3:∀k a,ρ'.frz k=some a->∃ty fz,w'.heap[k]?=some (.cells a ty fz):=fun k a hk=>(g3.frz k a hk).1
 have r2:=r1.frz' g4.pres g4.wle f1 f2 f3;refine⟨v0,v',qdC h DB,⟨ρ.loc,ρ'.frz,ρ.n⟩,rfl,hk,CR.vr (ρ:=⟨ρ.loc,ρ'.frz,ρ.n⟩) (g2.cr hv),r2,?_⟩;refine⟨fun _ _=>rfl,by rw[qhg];exact Nat.le_refl _,qhf,fun b hb _=>?_,fun k hk=>g4.pres k (r.base _ hk),g4.wle,g4.io,fun k a hk=>f1 k a (jl hk),fun k a hk=>?_,Nat.le_refl _⟩
 ·rw[qfl,if_neg];intro hm;obtain⟨p,hp1,hp2⟩:=List.mem_map.1 hm;have:=(hg p hp1).2;omega
 ·rcases f2 k a hk with h1|h1
  ·rcases fnew k a h1 with h2|⟨_,b,L,_,_,_,_,h3,_,h5,h6⟩
   ·exact .inl h2
   ·right;rw[← h5];exact r.flr b L h3 h6
  ·exact .inr (qaq r.base h1)
end Go.Kc
end
section
namespace Go.Kc
variable {P:Program} {env:Tr IFn} {ho:qfX}

inductive OkT (P:Program):Nat->Nat->Tr IFn->Prop where
 | leaf (a b:Nat):OkT P a b .leaf
 | no (a b:Nat) {l r:Tr IFn}:OkT P (2*a) (a+b) l->OkT P (2*a) (2*a+b) r->OkT P a b (.node none l r)
 | fn (a b:Nat) {i:IFn} {l r:Tr IFn}:qc P b i=true->OkT P (2*a) (a+b) l->OkT P (2*a) (2*a+b) r->OkT P a b (.node (some i) l r)

theorem OkT.get{a b:Nat}{t:Tr IFn}(h:OkT P a b t):∀n i,t.get n=some i->qc P (a*n+b) i=true:=by
 induction h with
 | leaf=>intro n i h;simp at h
 | no a b hl hr ihl ihr =>
  intro n i h;cases n with
  | zero=>rw[Tr.get_node] at h;cases h
  | succ m =>
   rcases Nat.mod_two_eq_zero_or_one m with h0|h0
   ·obtain⟨j,rfl⟩:∃j,m=2*j:=⟨m / 2,by omega⟩
    rw[Tr.get_node] at h;simp only[h0,if_true,Nat.mul_div_cancel_left j (Nat.zero_lt_two)] at h;have:=ihl j i h;rwa [show 2*a*j+(a+b)=a*(2*j+1)+b from by rw[Nat.mul_add,Nat.mul_one,← Nat.mul_assoc,Nat.mul_comm a 2];omega] at this
   ·obtain⟨j,rfl⟩:∃j,m=2*j+1:=⟨m / 2,by omega⟩
    rw[Tr.get_node] at h;simp only[h0,Nat.one_ne_zero,if_false,show (2*j+1) / 2=j from by omega] at h
    have:=ihr j i h;rwa [show 2*a*j+(2*a+b)=a*(2*j+1+1)+b from by rw[Nat.mul_add,Nat.mul_add,Nat.mul_one,← Nat.mul_assoc,Nat.mul_comm a 2];omega] at this
 | fn a b hc hl hr ihl ihr =>
  intro n i h;cases n with
  | zero=>rw[Tr.get_node] at h;cases h;simpa using hc
  | succ m =>
   rcases Nat.mod_two_eq_zero_or_one m with h0|h0
   ·obtain⟨j,rfl⟩:∃j,m=2*j:=⟨m / 2,by omega⟩
    rw[Tr.get_node] at h;simp only[h0,if_true,Nat.mul_div_cancel_left j (Nat.zero_lt_two)] at h;have:=ihl j i h;rwa [show 2*a*j+(a+b)=a*(2*j+1)+b from by rw[Nat.mul_add,Nat.mul_one,← Nat.mul_assoc,Nat.mul_comm a 2];omega] at this
   ·obtain⟨j,rfl⟩:∃j,m=2*j+1:=⟨m / 2,by omega⟩
    rw[Tr.get_node] at h;simp only[h0,Nat.one_ne_zero,if_false,show (2*j+1) / 2=j from by omega] at h
    have:=ihr j i h;rwa [show 2*a*j+(2*a+b)=a*(2*j+1+1)+b from by rw[Nat.mul_add,Nat.mul_add,Nat.mul_one,← Nat.mul_assoc,Nat.mul_comm a 2];omega] at this

theorem Kept.same{ρ ρ':Ren}{h h':Hp}{w w':World}(k:Kept ρ (low w.heap.size) h w ρ' h' w')(may:MemPlace->Prop):w.keptBut w' may:=by
 refine⟨k.io.1,k.io.2,fun i hi=>?_⟩
 have e:=k.pres i hi;rw[e];cases w.heap[i]? with
 | none=>rfl
 | some o=>cases o<;>simp
noncomputable def qmY(w:World):Nat->Option (Array Value):=fun k=>match w.heap[k]? with|some (.cells arr _ _)=>some arr|_=>none
theorem qjx{w:World}{k:Nat}{arr:Array Value}:qmY w k=some arr↔∃ty fz,w.heap[k]?=some (.cells arr ty fz):=by
 show (match w.heap[k]? with|some (.cells arr _ _)=>some arr|_=>none)=some arr↔_
 cases w.heap[k]? with
 | none=>simp
 | some o=>cases o<;>simp
noncomputable def ice(w:World) [t:TabOk w]:Ren:=⟨fun _=>none,⟨qmY w,fun k a h=>qjx.2 (t.ok k a h)⟩,0⟩
theorem qv5{w:World} [TabOk w]{k:Nat}{arr:Array Value}:(ice w).frz k=some arr↔∃ty fz,w.heap[k]?=some (.cells arr ty fz):=qjx
theorem Rel.ice(w:World) [TabOk w]:Rel σ0 (ice w) (low w.heap.size) H0 w :=
 ⟨(fun _ _ hb=>by cases hb),(fun _ _ _ _ _ _ hb=>by cases hb),(fun _ _ _ hb=>by cases hb),(fun _ _ _ _ _ hb=>by cases hb),(fun _ _ _ hb=>by cases hb),(fun _ _ _ _ _ hb=>by cases hb),(fun _ _ hb=>by cases hb),(fun _ h=>h),
  (fun k arr hk=>⟨qv5.1 hk,fun _ _ _ hb=>by cases hb⟩),⟨Nat.le_refl _,fun _ _ hb=>by cases hb⟩⟩
theorem qd.law{f:Nat}{vs:List AV}{args:Array Value}(hp:qd P f vs (.b true))(hc:qmB P f)(w:World) [TabOk w](ha:VRs σ0 (ice w) vs args.toList):Calls P f args w fun e w'=>e = .returned (.bool true)∧∀may,w.keptBut w' may:=by
 have h:=(hp H0 (fun v _=>v = .b true) rfl).2 (ice w) (low w.heap.size) w args (Rel.ice w) ha
 rcases h with⟨_,h⟩|⟨v,w',h,_⟩
 ·refine h.mono fun e w' hh=>?_
  obtain⟨v,v',h',ρ',rfl,rfl,hv,_,hk⟩:=hh;cases hv;exact⟨rfl,fun may=>hk.same may⟩
 ·obtain⟨fn,h1,h2,h3⟩:=hc;rw[qct h1 h2 h3] at h;cases h
theorem qg0{f:Nat}{i:IFn}(hc:qc P f i=true):qmB P f:=by
 unfold qc at hc;split at hc<;>try (cases hc;done)
 rename_i fn hfn;simp only[Bool.and_eq_true,bne_iff_ne] at hc;obtain⟨⟨hname,hbody⟩,hres⟩:=hc;split at hbody<;>try (cases hbody;done)
 rename_i c hcb;exact⟨fn,hfn,hname,by rw[hcb];rfl⟩
end Go.Kc
end
section
namespace Go.Kc
section
variable {H:Type} {enc:TypeId×Value->H} {P:Program} {w:World} {α β:Type} {t e:TypeId}
theorem CRs.app{φ:Nat->Option (Array Value)}:∀{as bs:List AV} {us vs:List Value},CRs σ0 φ as us->CRs σ0 φ bs vs->CRs σ0 φ (as++bs) (us++vs)
 | _,_,_,_,.nil,h=>h
 | _,_,_,_,.cons v l v' l' h hs,h2=>.cons _ _ _ _ h (CRs.app hs h2)
def qeE(enc:TypeId×Value->H)(P:Program)(w:World)(t:TypeId)(I:α->Prop)(E:α->List AV):Prop :=
 ∀(fuel:Nat) (cs:List Value) x,DataW.trod enc P w 0 (fun _=>true) true fuel t cs=some x->∃a,I a∧CRs σ0 (qmY w) (E a) cs
theorem qCe{k:IntKind}(ht:P.underlying t=some (.int k)):qeE enc P w t (fun n:Int=>(Lit.int k n).wf=true) (fun n=>[.i k n]):=by
 intro fuel cs x h;obtain⟨n,rfl,_,hw⟩:=DataW.trod_int ht h;exact⟨n,hw,.cons _ _ _ _ (.i _ _) .nil⟩
theorem qvt{a:Addr}{v:Value}(h:w.cell? a=some v):a.spot=none∧∃arr ty fz,w.heap[a.block]?=some (.cells arr ty fz)∧arr[a.off]?=some v:=by
 unfold World.cell? at h;split at h
 ·rename_i c ty fz hc;split at h
  ·cases h
  ·rename_i hs;refine⟨by simpa using hs,c,ty,fz,hc,h⟩
 ·cases h
def qlh(enc:TypeId×Value->H)(P:Program)(w:World)(fs:List Field)(o n:Nat)(I:α->Prop)(E:α->List AV):Prop :=
 (∀a,(E a).length=n)∧∀(fuel:Nat) (cs:List Value),(∀f ∈ fs,∃x,DataW.trod enc P w 0 (fun _=>true) true fuel f.type ((cs.drop f.offset).take (P.cellsOf f.type))=some x)->∃a,I a∧CRs σ0 (qmY w) (E a) ((cs.drop o).take n)
theorem qAR{o:Nat}:qlh enc P w [] o 0 (fun _:Unit=>True) (fun _=>[]):=⟨fun _=>rfl,fun _ cs _=>⟨(),trivial,by simpa using .nil⟩⟩
theorem qyi{f:Field}{fs:List Field}{o m n:Nat}{I:α->Prop}{E:α->List AV}{J:β->Prop}{F:β->List AV}(h:qeE enc P w f.type I E)(hE:∀a,(E a).length=m)(ho:f.offset=o)(hc:P.cellsOf f.type=m)
  (hr:qlh enc P w fs (o+m) n J F):qlh enc P w (f::fs) o (m+n) (fun p:α×β=>I p.1∧J p.2) (fun p=>E p.1++F p.2):=by
 refine⟨fun p=>by simp[hE,hr.1],fun fuel cs hf=>?_⟩
 obtain⟨x,hx⟩:=hf f (List.mem_cons_self ..);obtain⟨a,ha,h1⟩:=h _ _ _ hx;obtain⟨b,hb,h2⟩:=hr.2 fuel cs fun g hg=>hf g (List.mem_cons_of_mem _ hg)
 refine⟨(a,b),⟨ha,hb⟩,?_⟩;rw[ho,hc] at h1;rw[List.take_add,List.drop_drop];exact h1.app h2
theorem qwW{fs:Array Field}{n:Nat}{I:α->Prop}{E:α->List AV}(ht:P.underlying t=some (.struct fs))(hc:P.cellsOf t=n)(h:qlh enc P w fs.toList 0 n I E):qeE enc P w t I E:=by
 intro fuel cs x hx;obtain⟨xs,m,rfl,_,hl,hxs,hf⟩:=DataW.trod_struct ht hx
 obtain⟨a,ha,h1⟩:=h.2 m cs fun f hfm=>by
  obtain⟨i,hi⟩:=List.getElem?_of_mem hfm;have hi':fs[i]?=some f:=by simpa using hi
  have:=hf i f hi'
  have hlt:i<xs.length:=by
   rw[hxs];exact (Array.getElem?_eq_some_iff.1 hi').1
  rw[zzE hlt] at this;exact⟨_,this⟩
 refine⟨a,ha,?_⟩;rwa [List.drop_zero,List.take_of_length_le (by omega)] at h1
theorem qeE.map{I:α->Prop}{E:α->List AV}{J:β->Prop}{F:β->List AV}(h:qeE enc P w t I E)(g:α->β)(hg:∀a,I a->J (g a)∧F (g a)=E a):qeE enc P w t J F:=by
 intro fuel cs x hx;obtain⟨a,ha,h1⟩:=h _ _ _ hx;exact⟨g a,(hg a ha).1,by rw[(hg a ha).2];exact h1⟩
theorem qeE.agg [TabOk w]{I:α->Prop}{E:α->List AV}(h:qeE enc P w t I E){v:Value}{d:DataW H}{p:List MemPlace}(ha:∃cs,v = .agg cs)(hd:DataW.Trod enc P w 0 (fun _=>true) true t v d p):∃a,I a∧VR σ0 (ice w) (.agg (E a)) v:=by
 obtain⟨cs,rfl⟩:=ha;obtain⟨fuel,hd⟩:=hd;obtain⟨a,h1,h2⟩:=h _ _ _ hd;exact⟨a,h1,.agg _ _ h2.vr⟩
theorem qlY{w':World}(hk:∀may,w.keptBut w' may){p:MemPlace}(hp:p.block<w.heap.size):w.sameAt w' p:=by
 have h:=(hk fun _=>False).2.2 p.block hp
 have h0:w.heap[p.block]?=some w.heap[p.block]:=Array.getElem?_eq_getElem hp;cases p with
 | cell b off =>
  show w'.cell? ⟨b,off,none⟩=w.cell? ⟨b,off,none⟩;simp only[MemPlace.block] at h h0 hp;unfold World.cell?;split at h
  ·rename_i c1 t1 f1 c2 t2 f2 e1 e2;dsimp only;rw[e1,e2];simpa using h.2.2.2 off (fun hh=>hh)
  ·rename_i e1 e2;dsimp only;rw[e1,e2]
  ·dsimp only;rw[h]
 | map b =>
  show w'.heap[b]?=w.heap[b]?;simp only[MemPlace.block] at h h0 hp;split at h
  ·rename_i c1 t1 f1 c2 t2 f2 e1 e2
   have:c2=c1:=by
    apply Array.ext_getElem?;intro j;exact h.2.2.2 j (fun hh=>hh)
   rw[e1,e2,h.1,h.2.1,this]
  ·rename_i e1 e2;rcases h with hh|⟨h1,h2⟩
   ·exact hh.elim
   ·rw[e1,e2,h1,h2]
  ·exact h
theorem Trod.stay{w':World}{T:TypeId->Prop}(K:Kids P T)(hz:∀t e,T t->P.underlying t=some (.slice e)->0<P.cellsOf e){ts:List TypeId}{vs:List Value}{ds:List (DataW H)}{ps:List MemPlace}(hT:∀t ∈ ts,T t)
  (h:DataW.TrodAll enc P w 0 (fun _=>true) true ts vs ds ps) (hk:∀may,w.keptBut w' may):DataW.TrodAll enc P w' 0 (fun b=>decide (b<w.heap.size)) true ts vs ds ps:=by
 have hlt:=DataW.TrodAll.lt h;have h1:DataW.TrodAll enc P w 0 (fun b=>decide (b<w.heap.size)) true ts vs ds ps:=h.respare K hz hT fun p hp=>decide_eq_true (hlt p hp)
 clear h
 induction ts generalizing vs ds ps with
 | nil =>
  cases vs<;>cases ds<;>first|exact h1|exact h1.elim
 | cons t ts ih =>
  cases vs with
  | nil=>exact h1.elim
  | cons v vs =>
   cases ds with
   | nil=>exact h1.elim
   | cons d ds =>
    obtain⟨p,q,⟨fuel,h2⟩,h3,e⟩:=h1;subst e;refine⟨p,q,⟨fuel,DataW.trod_carry _ _ _ _ h2 fun x hx=>qlY hk (hlt x (List.mem_append_left _ hx))⟩,?_,rfl⟩
    exact ih (fun t ht=>hT t (List.mem_cons_of_mem _ ht)) (fun x hx=>hlt x (List.mem_append_right _ hx)) h3
end
end Go.Kc
namespace Go.Kc
theorem qw5{P:Program}{H:Type}{enc:TypeId×Value->H}{f:Func}{s:ChangeSpec}{apart fresh handsOn:Bool}{W W':World}{args:Array Value}{v:Value}{ds gs:List (DataW H)}{before pv:List MemPlace}
  (hW:DataW.Whole enc P f.params.toList s.vars apart W args.toList ds gs before) (hs:(s.fn H (ds++gs)).args=ds)
  {T:TypeId->Prop} (K:Kids P T) (hz:∀t e,T t->P.underlying t=some (.slice e)->0<P.cellsOf e) (hT:∀t ∈ f.params.toList,T t)
  (hres:∀(b:Nat) (sp:Nat->Bool) (hd:Bool),DataW.TrodAll enc P W' b sp hd f.resultTypes.toList (v.resultList f.resultTypes.size) (s.fn H (ds++gs)).results [])
  (hvars:∀sp:Nat->Bool,DataW.TrodVars enc P W' sp s.vars (s.fn H (ds++gs)).vars pv)
  (hk:∀may,W.keptBut W' may):s.post enc P f apart fresh handsOn false W args v W':=by
 have hW':=hW;obtain⟨p,q,hA,_,_⟩:=hW';exact⟨ds,gs,before,[],p,pv,hW,hres _ _ _,by rw[hs];exact Trod.stay K hz hT hA hk,hvars _,hk _,fun h=>by cases h⟩
end Go.Kc
end
section
namespace Go.Kc
variable {P:Program} {env:Tr IFn} {ho:qfX}
noncomputable def tt(b:Bool):Prop:=Bool.rec (motive:=fun _=>Prop) False True b
end Go.Kc
end
section
namespace Go.Kc
variable {P:Program}
def Tr.o(l r:Tr IFn):Tr IFn:=.node none l r
def Tr.f(i:IFn):Tr IFn:=.node (some i) .leaf .leaf
def Tr.g(i:IFn)(l r:Tr IFn):Tr IFn:=.node (some i) l r
mutual
def qcS:AV->Bool
 | .map _=>false
 | .fz _ _=>false
 | .pf _ _=>false
 | .sym _=>false
 | .fn _ a c=>x5 a&&x5 c
 | .ifc _ v=>qcS v
 | .agg cs=>x5 cs
 | .tup cs=>x5 cs
 | .ptr _ _=>true | .sl _ _ _ _ _=>true | .own _ _=>true
 | .undef=>true | .b _=>true | .i _ _=>true | .s _=>true | .nilp=>true | .nils=>true | .nilf=>true | .nili=>true | .nilm=>true | .e0=>true | .nz=>true | .yl _=>true | .lp _=>true
def x5:List AV->Bool
 | []=>true
 | v::vs=>qcS v&&x5 vs
end
mutual
theorem VR.thaw{ρ:Ren}{φ:Fz}:∀{a:AV} {v:Value},VR σ0 ρ a v->qcS a=true->VR σ0 ⟨ρ.loc,φ,ρ.n⟩ a v
 | _,_,.undef v,_=>.undef v
 | _,_,.b x,_=>.b x
 | _,_,.i k n,_=>.i k n
 | _,_,.s x,_=>.s x
 | _,_,.nilp,_=>.nilp
 | _,_,.ptr b o L h,_=>.ptr b o L h
 | _,_,.nils,_=>.nils
 | _,_,.sl b o len cap c loose L h hc,_=>.sl b o len cap c loose L h hc
 | _,_,.slz b o x l L h,_=>.slz b o x l L h
 | _,_,.nilf,_=>.nilf
 | _,_,.fn f first cap first' cap' h1 h2,hc=>by
  simp only[qcS,Bool.and_eq_true] at hc;exact .fn _ _ _ _ _ (h1.thaw hc.1) (h2.thaw hc.2)
 | _,_,.nili,_=>.nili
 | _,_,.ifc t v v' h,hc=>by simp only[qcS] at hc;exact .ifc _ _ _ (h.thaw hc)
 | _,_,.agg cs cs' h,hc=>by simp only[qcS] at hc;exact .agg _ _ (h.thaw hc)
 | _,_,.tup cs cs' h,hc=>by simp only[qcS] at hc;exact .tup _ _ (h.thaw hc)
 | _,_,.nilm,_=>.nilm
 | _,_,.map b L h h0,hc=>by simp[qcS] at hc
 | _,_,.sym j,hc=>by simp[qcS] at hc
 | _,_,.fz n off c cs k arr hn h hs,hc=>by simp[qcS] at hc
 | _,_,.fz0 a,hc=>by simp[qcS] at hc
 | _,_,.pf off base cs k arr h hs,hc=>by simp[qcS] at hc
 | _,_,.e0 a,_=>.e0 a
 | _,_,.nz a c,_=>.nz a c
 | _,_,.own0 b a hb,_=>.own0 b a hb
 | _,_,.own b n c L h hn hc,_=>.own b n c L h hn hc
 | _,_,.yl b L h,_=>.yl b L h
theorem VRs.thaw{ρ:Ren}{φ:Fz}:∀{a:List AV} {v:List Value},VRs σ0 ρ a v->x5 a=true->VRs σ0 ⟨ρ.loc,φ,ρ.n⟩ a v
 | _,_,.nil,_=>.nil
 | _,_,.cons v vs v' vs' h hs,hc=>by
  simp only[x5,Bool.and_eq_true] at hc;exact .cons _ _ _ _ (h.thaw hc.1) (hs.thaw hc.2)
end
theorem qjr:∀{cs:List AV} {j:Nat} {v:AV},x5 cs=true->cs[j]?=some v->qcS v=true
 | [],_,_,_,h=>by simp at h
 | c::cs,0,v,hf,h=>by
  simp only[x5,Bool.and_eq_true] at hf;simp at h;rw[← h];exact hf.1
 | c::cs,j+1,v,hf,h=>by
  simp only[x5,Bool.and_eq_true] at hf;exact qjr hf.2 (by simpa using h)
def qmI:Blk->Bool
 | .cells _ _ _ cs=>x5 cs
 | _=>false
theorem Rel.thaw{ρ:Ren}{φ:Fz}{B:Nat->Prop}{h:Hp}{w:World}(r:Rel σ0 ρ B h w)(hφ:∀k a,φ k=some a->ρ.frz k=some a)(hh:∀b x,h.tr.get b=some x->qmI x=true):Rel σ0 ⟨ρ.loc,φ,ρ.n⟩ B h w:=by
 refine⟨r.dom,fun b L e wf af cs hb hg=>?_,fun b L es hb hg=>?_,r.excl,r.exclm,r.app,r.flr,r.base,fun k arr hk=>r.frz k arr (hφ k arr hk),r.dn⟩
 ·obtain⟨g1,c,ty,fz,g2,g3,g4,g5,g6⟩:=r.cells b L e wf af cs hb hg;exact⟨g1,c,ty,fz,g2,g3,g4,fun j v hv=>let ⟨v',g7,g8⟩:=g5 j v hv;⟨v',g7,g8.thaw (qjr (hh b _ hg) hv)⟩,g6⟩
 ·have:=hh b _ hg;cases this
theorem qee.own{f:Nat}{vs:List AV}{v:AV}{bs:List Blk}(ho:qee P f vs v bs)(hc:qu vs=true):Own P f vs v bs:=fun h k hk=>ho h vs k (Frzs.self hc) hk
theorem qee.sc{f:Nat}{vs vs':List AV}{v:AV}{bs:List Blk}{h:Hp}{k:AV->Hp->Prop}(ho:qee P f vs' v bs)(hf:Frzs h vs vs')(hk:k (shv h.sz v) (xV h (bs.map (shb h.sz)))):SC P f vs h k:=ho h vs k hf hk
theorem qee.of_SC{f:Nat}{vs':List AV}{v:AV}{bs:List Blk}(hv:qcS v=true)(hbs:bs.all qmI=true)(hs:SC P f vs' H0 (qrg v bs)):qee P f vs' v bs:=by
 intro h vs k hf hk;refine⟨hs.1,fun ρ B w args r ha=>?_⟩
 have hcr:=hf.ok r ha;refine qbF.mono (hs.2 ⟨fun _=>none,xp ρ h w,0⟩ (low w.heap.size) w args r.bare (CRs.vr (ρ:=⟨fun _=>none,xp ρ h w,0⟩) hcr)) ?_
 rintro e w1 ⟨v0,v',h1,ρ1,rfl,g1,g2,g3,g4⟩;obtain⟨src,s1,s2,s3⟩:=g1 g4.fl;have hw:Wk 0 (mkT [(0,v0)]) h1 (mkT [(0,v)]) (mkH 0 bs):=Wk.mk [(0,v)] bs src ⟨⟨v0,by simp[mkT,Tr.get_set],s1⟩,trivial⟩ s2 s3 g4.fl
 obtain⟨ρ2,t2,r2,k2⟩:=hw ρ1 (low w.heap.size) w1 #[v'] (fun j x hj=>by
  have:=qdi hj;simp at this;obtain⟨rfl,rfl⟩:=this;exact⟨by simp,by simpa using g2⟩) g3
 have hv2:VR σ0 ρ2 v v':=by
  have:=(t2 0 v (by simp[mkT,Tr.get_set])).2;simpa using this
 have hφ:∀k a,ρ.frz k=some a->ρ2.frz k=some a:=fun k a hk=>k2.frz k a (g4.frz k a (jl hk))
 have r3:=r2.thaw (φ:=ρ.frz) hφ (fun b x hx=>by
  rw[xK] at hx;exact List.all_eq_true.1 hbs x (zzM hx))
 have hv3:=hv2.thaw (φ:=ρ.frz) hv;refine⟨_,v',_,ρ.join ⟨ρ2.loc,ρ.frz,ρ2.n⟩ h.sz bs.length,rfl,hk,hv3.sh r3.dn.1,Rel.joinH r r3 g4.pres g4.wle (fun _ _ h=>h) (fun _ _ h=>.inl h),?_⟩
 refine⟨fun b hb=>qiX hb,by rw[qd7];omega,qfr,fun b _ hb=>by rw[qbb,if_pos hb],fun k hk=>g4.pres k (r.base _ hk),g4.wle,g4.io,fun _ _ h=>h,fun _ _ h=>.inl h,?_⟩
 exact Nat.le_trans r.dn.1 (Nat.le_add_right _ _)
theorem qee.mk{f:Nat}{i:IFn}{vs:List AV}{v:AV}{bs:List Blk}(hc:qc P f i=true)(hv:qcS v=true)(hbs:bs.all qmI=true)(hV:V P 0 i.body (qby i.res (qrg v bs)) (qbB vs 0 .leaf) H0):qee P f vs v bs :=
 qee.of_SC hv hbs (SC.mk hc (qj hV))
end Go.Kc
end
section
namespace Go.Kc
variable {P:Program} {n:Nat} {h:Hp}
def bsy(r:Loop):Loop:={ r with state:=.busy }
def rdy(r:Loop):Loop:={ r with state:=.ready,pending:=none }
def dne(r:Loop)(c:Code):Loop:={ r with state:=.done,pending:=some c }
structure LoopOk (P:Program) (r:Loop) (ps:List Nat) (ai bi:ICode):Prop where
 params:r.params.toList=ps
 code:∃nt,qH P nt r.assign ai=true∧qH P nt r.body bi=true∧nt<=r.tmps.size∧∀p ∈ ps,p<nt
 flat:qgF ai=true∧qgF bi=true
 real:∀j,r.assign≠.goto j
theorem LoopOk.bsy{r:Loop}{ps:List Nat}{ai bi:ICode}(h:LoopOk P r ps ai bi):LoopOk P (bsy r) ps ai bi:=⟨h.params,h.code,h.flat,h.real⟩
theorem LoopOk.rdy{r:Loop}{ps:List Nat}{ai bi:ICode}(h:LoopOk P r ps ai bi):LoopOk P (rdy r) ps ai bi:=⟨h.params,h.code,h.flat,h.real⟩
def qou(P:Program)(r:Loop)(ps:List Nat)(ai bi:ICode):Prop:=∀r',qdJ r r'->LoopOk P r' ps ai bi
theorem LoopOk.likes{r:Loop}{ps:List Nat}{ai bi:ICode}(h:LoopOk P r ps ai bi):qou P r ps ai bi:=fun r' hl=>by
 rcases hl with⟨rfl,_⟩|⟨j,h1,_⟩
 ·exact h
 ·exact absurd h1 (h.real j)
theorem qdJ.bsy{r r':Loop}(h:qdJ r r'):qdJ (Go.Kc.bsy r) (Go.Kc.bsy r'):=by
 rcases h with⟨rfl,h0⟩|⟨j,h1,h2,_,h4⟩
 ·exact .inl ⟨rfl,h0⟩
 ·exact .inr ⟨j,h1,Cur.st .busy r'.pending h2,rfl,h4⟩
theorem qi5{r:Loop}:rdy (bsy r)=rdy r:=rfl
noncomputable def qlR:List Nat->List AV->Tr AV->Tr AV
 | p::ps,u::us,t=>qlR ps us (t.set p u)
 | _,_,t=>t
def qzs(b:Nat)(k:AV->Hp->Prop)(x:X)(_:Tr AV)(h:Hp):Prop :=
 ∃r ts,h.tr.get b=some (.map (zq r ts))∧onX x (k (.b true) (h.put b (.map (zq (rdy r) ts)))) (fun id=>k (.b false) (h.put b (.map (zq (dne r (.exit id)) ts)))) (k (.b false) (h.put b (.map (zq (dne r .ret) ts))))
def qED(P:Program)(n b:Nat)(r:Loop)(bi:ICode)(Q:X->Tr AV->Hp->Prop)(x:X)(t:Tr AV)(h:Hp):Prop :=
 onX x (∃ts,h.tr.get b=some (.map (zq r ts))∧S P n bi Q t (h.put b (.map (zq (bsy r) ts)))) (fun _=>False) False
def qC3(P:Program)(n b:Nat)(bi:ICode)(Q:X->Tr AV->Hp->Prop)(x:X)(t:Tr AV)(h:Hp):Prop :=
 onX x (∃r ts R,h.tr.get b=some (.map (zq r ts))∧r.state = .ready∧(∀q,qdJ r q->qdJ R (bsy q))∧S P n bi Q t (h.put b (.map (zq R ts)))) (fun _=>False) False
def qzy:X->Loop->Loop
 | .normal,q=>rdy q
 | .exit id,q=>dne q (.exit id)
 | .ret,q=>dne q .ret
def qEQ:X->Bool
 | .normal=>true
 | _=>false
def qx2(b:Nat)(k:AV->Hp->Prop)(x:X)(_:Tr AV)(h:Hp):Prop :=
 ∃r ts R,h.tr.get b=some (.map (zq r ts))∧(∀q,qdJ r q->qdJ R (qzy x q))∧k (.b (qEQ x)) (h.put b (.map (zq R ts)))
theorem qsj{b:Nat}{k:AV->Hp->Prop}{x:X}{t:Tr AV}{h:Hp}(hq:qzs b k x t h):qx2 b k x t h:=by
 obtain⟨r,ts,h1,h2⟩:=hq;cases x with
 | normal=>exact⟨r,ts,rdy r,h1,fun q hq=>hq.set .ready none,h2⟩
 | exit id=>exact⟨r,ts,dne r (.exit id),h1,fun q hq=>hq.set .done (some (.exit id)),h2⟩
 | ret=>exact⟨r,ts,dne r .ret,h1,fun q hq=>hq.set .done (some .ret),h2⟩
theorem qpf{ρ:Ren}:∀{ps:List Nat} {us:List AV} {t:Tr AV} {tm:Array Value} {args:List Value},VRs σ0 ρ us args->ps.length=us.length->(∀p ∈ ps,p<tm.size)->TR σ0 ρ t tm->
  TR σ0 ρ (qlR ps us t) ((ps.zip args).foldl (fun tm (p,v)=>tm.setIfInBounds p v) tm)
 | [],[],_,_,_,hv,_,_,ht=>by cases hv;exact ht
 | [],_::_,_,_,_,_,hl,_,_=>by simp at hl
 | _::_,[],_,_,_,_,hl,_,_=>by simp at hl
 | p::ps,u::us,t,tm,args,hv,hl,hp,ht=>by
  cases hv with
  | cons _ _ v vs h1 h2 =>
   have hlt:=hp p (by simp);refine qpf (ps:=ps) h2 (by simpa using hl) (fun q hq=>by simpa using hp q (by simp[hq])) (fun j x hj=>?_)
   rw[Tr.get_set] at hj;split at hj
   ·rename_i he;subst he;cases hj;exact⟨by simpa using hlt,by simpa[Array.getD,hlt] using h1⟩
   ·rename_i he;obtain⟨g1,g2⟩:=ht j x hj;refine⟨by simpa using g1,?_⟩
    rw[Array.getD_eq_getD_getElem?,Array.getElem?_setIfInBounds,if_neg (fun e=>he e.symm),← Array.getD_eq_getD_getElem?]
    exact g2
theorem qDV{ρ:Ren}{tm:Array Value}:∀{ts:List (Nat×AV)},(∀p ∈ ts,p.1<tm.size∧VR σ0 ρ p.2 (tm.getD p.1 undef))->TR σ0 ρ (mkT ts) tm :=
 fun h j v hj=>h (j,v) (qdi hj)
theorem qo6:∀{ts:List (Nat×AV)},(ts.map Prod.fst).Nodup->∀{p:Nat×AV},p ∈ ts->(mkT ts).get p.1=some p.2
 | [],_,_,hp=>by cases hp
 | q::ts,hn,p,hp=>by
  simp only[mkT,Tr.get_set];have hn2:=List.nodup_cons.1 hn;rcases List.mem_cons.1 hp with rfl|hp
  ·rw[if_pos rfl]
  ·rw[if_neg (fun e=>hn2.1 (List.mem_map.2 ⟨p,hp,e⟩))]
   exact qo6 hn2.2 hp
theorem qg3:∀(l:List (Nat×Value)) (tm:Array Value),(l.foldl (fun tm (p,v)=>tm.setIfInBounds p v) tm).size=tm.size
 | [],_=>rfl
 | p::l,tm=>by rw[List.foldl_cons,qg3 l];simp
theorem SY.mkL{b:Nat}{us:List AV}{k:AV->Hp->Prop}{r:Loop}{ts:List (Nat×AV)}{ps:List Nat}{ai bi:ICode}(hg:h.tr.get b=some (.map (zq r ts)))(hok:qou P r ps ai bi)(hfl:h.fl<=b)(hbs:b<h.sz)(hl:ps.length=us.length)
  (hA:S P h.sz ai (qC3 P h.sz b bi (qx2 b k)) (qlR ps us (mkT ts)) h):SY P b us h k:=by
 intro ρ B w args L hL rl hargs;obtain⟨L0,ob,hob,hrec⟩:=rl.maps b L _ hL hg;obtain⟨q,rfl,hlk,hts⟩:=hrec.rec';have hokq:=hok q hlk;obtain⟨nt,hca,hcb,hnt,hps⟩:=hokq.code
 have hsz:args.size=q.params.size:=by
  have:=hargs.length;have h2:q.params.size=ps.length:=by rw[← hokq.params];simp
  rw[h2,hl,this];simp
 refine⟨q.fn,_,q.assign,q.body,run_yield hob hsz,fun ro=>roundIn_of_wpIn trivial ?_⟩
 have hfold:(q.params.zip args).foldl (fun tmps (t,a)=>tmps.setIfInBounds t a) q.tmps=(ps.zip args.toList).foldl (fun tm (p,v)=>tm.setIfInBounds p v) q.tmps:=by
  rw[← Array.foldl_toList,Array.toList_zip,hokq.params]
 rw[hfold]
 have hT:TR σ0 ρ (qlR ps us (mkT ts)) ((ps.zip args.toList).foldl (fun tm (p,v)=>tm.setIfInBounds p v) q.tmps) :=
  qpf hargs hl (fun p hp=>Nat.lt_of_lt_of_le (hps p hp) hnt) (qDV hts)
 have hS:=hA nt q.assign hca (Nat.le_refl _) (some L.blk) (.inr hokq.flat.1) ρ B w { tmps:=(ps.zip args.toList).foldl (fun tm (p,v)=>tm.setIfInBounds p v) q.tmps,defers:=[] } hT (by rw[qg3];exact hnt) rl
 refine wpIn_mono hS ?_;rintro e a1 w1 ⟨x1,t1,h1,ρ1,rs,hx,hq,ht1,hs1,hd1,hm,r1,k1⟩;cases hx with
 | exit id=>exact hq.elim
 | ret=>exact hq.elim
 | normal =>
  obtain⟨r',ts1,R',hg1,hrr,hRR,hB⟩:=hq;have r1:=r1.lessB (B:=B) fun k hk=>.inl hk
  have hL1:ρ1 b=some L:=(k1.ext b hbs).trans hL;obtain⟨_,ob1,hob1,hrec1⟩:=r1.maps b L _ hL1 hg1;obtain⟨q1,rfl,hlk1,hts1⟩:=hrec1.rec';refine⟨w1.putObj L.blk (.loop (Go.Kc.bsy q1)),run_beginRound hob1 (hlk1.state.trans hrr),?_⟩;obtain⟨r2,k2⟩:=r1.putMap (w':=w1.putObj L.blk (.loop (Go.Kc.bsy q1))) hL1 hg1 (by rw[k1.fl];exact hfl) hob1 (es':=zq R' ts1) (.inr (.inr ⟨_,_,_,rfl,rfl,hRR _ hlk1,hts1⟩)) rfl ⟨rfl,rfl⟩;have hSb:=hB nt q.body hcb k1.szle (some L.blk) (.inr hokq.flat.2) ρ1 B _ a1 ht1 hs1 r2;refine wpIn_mono hSb ?_;rintro e a3 w3 ⟨x3,t3,h3,ρ3,rs3,hx3,hq3,ht3,hs3,hd3,hm3,r3,k3⟩;have r3:=r3.lessB (B:=B) fun k hk=>.inl hk
  have kk:=(k1.trans (k2.kep k1.szle)).trans k3;obtain⟨r',ts',R3,hg3,hR3,hq3⟩:=hq3;have hL3:ρ3 b=some L:=(kk.ext b hbs).trans hL;obtain⟨_,ob3,hob3,hrec3⟩:=r3.maps b L _ hL3 hg3;obtain⟨q3,rfl,hlk3,hts3⟩:=hrec3.rec'
  have fin:∀(lq:Loop) (y:Bool),qdJ R3 lq->lq.tmps=q3.tmps->k (.b y) (h3.put b (.map (zq R3 ts')))->(∃v v0 h' ρ',Ending.returned (Value.bool y) = .returned v0∧k v h'∧VR σ0 ρ' v v0∧Rel σ0 ρ' B h' (w3.putObj L.blk (.loop lq))∧Kept ρ B h w ρ' h' (w3.putObj L.blk (.loop lq))):=by
   intro lq y hlp htm hk;obtain⟨r4,k4⟩:=r3.putMap (w':=w3.putObj L.blk (.loop lq)) hL3 hg3 (by rw[kk.fl];exact hfl) hob3 (es':=zq R3 ts') (.inr (.inr ⟨_,_,_,rfl,rfl,hlp,by rw[htm];exact hts3⟩)) rfl ⟨rfl,rfl⟩
   exact⟨.b y,.bool y,_,ρ3,rfl,hk,.b _,r4,(kk.trans (k4.kep kk.szle)).kept rl.dn.1⟩
  have hlf:=hR3 q3 hlk3;cases hx3 with
  | normal=>exact⟨_,_,run_endRound none hob3,fin (Go.Kc.rdy q3) true hlf rfl hq3⟩
  | exit id=>exact⟨_,_,run_endRound (some (.exit id)) hob3,fin (dne q3 (.exit id)) false hlf rfl hq3⟩
  | ret=>exact⟨_,_,run_endRound (some .ret) hob3,fin (dne q3 .ret) false hlf rfl hq3⟩
theorem SY.mk{b:Nat}{us:List AV}{k:AV->Hp->Prop}{r:Loop}{ts:List (Nat×AV)}{ps:List Nat}{ai bi:ICode}(hg:h.tr.get b=some (.map (zq r ts)))(hr:r.state = .ready)(hok:LoopOk P r ps ai bi)(hfl:h.fl<=b)(hbs:b<h.sz)(hl:ps.length=us.length)
  (hA:S P h.sz ai (qED P h.sz b r bi (qzs b k)) (qlR ps us (mkT ts)) h):SY P b us h k:=by
 refine SY.mkL hg hok.likes hfl hbs hl ?_;intro nt code hc hn ro hro ρ B w a ht hsz rl;refine wpIn_mono (hA nt code hc hn ro hro ρ B w a ht hsz rl) ?_;rintro e a1 w1 ⟨x1,t1,h1,ρ1,rs,hx,hq,rest⟩;refine⟨x1,t1,h1,ρ1,rs,hx,?_,rest⟩;cases x1 with
 | normal=>obtain⟨ts1,g1,g2⟩:=hq;exact⟨r,ts1,Go.Kc.bsy r,g1,hr,fun q hq=>hq.bsy,g2.mono fun e t h=>qsj⟩
 | exit id=>exact hq
 | ret=>exact hq
def qzr(b:Nat)(Q:X->Tr AV->Hp->Prop)(t:Tr AV)(_:AV)(h:Hp):Prop :=
 ∃r ts,h.tr.get b=some (.map (zq r ts))∧r.state≠.busy ∧
  match r.pending with
  | none=>Q .normal t (h.put b .dead)
  | some .ret=>Q .ret t (h.put b .dead)
  | some (.exit id)=>Q (.exit id) t (h.put b .dead)
  | _=>False
def rfK(P:Program)(ps:List Nat)(ai bi:ICode)(Q:X->Tr AV->Hp->Prop)(t:Tr AV)(ts:List (Nat×AV))(h:Hp)(g:AV):Prop :=
 match g with
 | .fn f first cap=>qmB P f∧∀r0,r0.state = .ready->r0.pending=none->LoopOk P r0 ps ai bi->SC P f (first++(.yl h.sz::cap)) (h.push (.map (zq r0 ts))) (qzr h.sz Q t)
 | _=>False
def qFq(P:Program)(ps:List Nat)(ai bi:ICode)(Q:X->Tr AV->Hp->Prop)(t:Tr AV)(ts:List (Nat×AV))(h:Hp)(g:AV):Prop :=
 match g with
 | .fn f first cap=>qmB P f∧∀r0,r0.state = .ready->r0.pending=none->LoopOk P r0 ps ai bi->∃R,qdJ R r0∧SC P f (first++(.yl h.sz::cap)) (h.push (.map (zq R ts))) (qzr h.sz Q t)
 | _=>False
theorem S.rangeFL{j:Nat}{g:O}{ps:List Nat}{ai bi:ICode}{Q:X->Tr AV->Hp->Prop}{t:Tr AV}{h:Hp}{ts:List (Nat×AV)}(hfl:h.fl<=h.sz)(htg:∀p ∈ ts,t.get p.1=some p.2)(hnr:qgF ai=true∧qgF bi=true)(hk:evK t g (qFq P ps ai bi Q t ts h)):S P n (.rangeF j g ps ai bi) Q t h:=by
 intro nt code hc hn ro hro ρ B w a ht hsz r
 obtain rfl:ro=none:=by
  rcases hro with h|h
  ·exact h
  ·cases h
 cases code<;>first|(simp[qH] at hc;done)|skip
 rename_i og ops oa ob;simp only[qH,Bool.and_eq_true] at hc;obtain⟨⟨⟨⟨⟨h1,h2⟩,h3⟩,h4⟩,h5⟩,h6⟩:=hc;have hreal:∀j,oa≠.goto j:=fun j hj=>by rw[hj] at h6;cases h6
 have h2:=eq_of_beq h2;obtain⟨gv,hgv,hk2⟩:=qI ht h1 hk;cases gv<;>try exact hgv.elim
 rename_i f first cap
 obtain⟨⟨fn0,c1,c2,c3⟩,hS⟩:=hgv;obtain⟨a',c',q1,q2,q3⟩:=hk2.un_fn;have hLd:∀b L,ρ b=some L->L.blk<w.heap.size:=r.dn.2;refine wpIn_rangeFunc fun fn _=>?_
 let r0:Loop:={ state:=.ready,pending:=none,fn,tmps:=a.tmps,params:=ops,assign:=oa,body:=ob,defers:=w.heap.size }
 let W1:World:=(w.alloc (.deferred (some []))).alloc (.loop r0)
 have hold:∀k,k<w.heap.size->(w.alloc (.deferred (some []))).heap[k]?=w.heap[k]?:=fun k hk=>by
  show (w.heap.push _)[k]?=_;rw[Array.getElem?_push,if_neg (by omega)]
 have hD:(w.alloc (.deferred (some []))).heap[w.heap.size]?=some (.deferred (some [])):=World.alloc_heap_new w _
 have r1:Rel σ0 ρ (BM B [w.heap.size]) h (w.alloc (.deferred (some []))):=by
  have r':=r.world (w':=w.alloc (.deferred (some []))) hold (by simp);refine⟨r'.dom,r'.cells,r'.maps,r'.excl,r'.exclm,r'.app,fun b L hb hf hB=>?_,fun k hk=>?_,r'.frz,r'.dn⟩
  ·rcases hB with hB|hB
   ·exact r.flr b L hb hf hB
   ·have:=hLd b L hb;rw[List.mem_singleton] at hB;omega
  ·rcases hk with hk|hk
   ·have:=r.base k hk;simp;omega
   ·rw[List.mem_singleton] at hk;simp;omega
 have hts:∀p ∈ ts,p.1<r0.tmps.size∧VR σ0 ρ p.2 (r0.tmps.getD p.1 undef):=fun p hp=>ht p.1 p.2 (htg p hp)
 have hlo:LoopOk P r0 ps ai bi:=⟨h2,⟨nt,h4,h5,hsz,fun p hp=>by rw[← h2] at hp;have:=List.all_eq_true.1 h3 p hp;exact Nat.lt_of_succ_le (Nat.le_of_ble_eq_true this)⟩,hnr,hreal⟩
 obtain⟨R,hRl,hSC⟩:=hS r0 rfl rfl hlo;obtain⟨r2,k2⟩:=r1.newMap (w':=W1) (es0:=zq R ts) (o:=.loop r0) (.inr (.inr ⟨_,_,_,rfl,rfl,hRl,hts⟩)) rfl ⟨rfl,rfl⟩;have hl:(w.alloc (.deferred (some []))).heap.size=w.heap.size+1:=by simp
 rw[hl] at r2 k2;obtain⟨Lc,hLc⟩:∃Lc:Loc,Lc=⟨w.heap.size+1,0,0,0⟩:=⟨_,rfl⟩;rw[← hLc] at r2 k2;have hself:(ρ.add h.sz Lc) h.sz=some Lc:=Ren.add_self _ _ _;have hle2:=k2.mono r1.dom
 have hargs:VRs σ0 (ρ.add h.sz Lc) (first++(.yl h.sz::cap)) (a' ++ #[Value.func (.yield (w.heap.size+1)) #[] #[]]++c').toList:=by
  have hy:VR σ0 (ρ.add h.sz Lc) (.yl h.sz) (.func (.yield Lc.blk) #[] #[]):=.yl _ Lc hself;have e2:Lc.blk=w.heap.size+1:=by rw[hLc]
  rw[e2] at hy;have:=(q1.mono hle2).append (VRs.cons _ _ _ _ hy (q2.mono hle2));simpa using this
 have hcf:=qct (P:=P) c1 c2 c3
 have hcalls:Calls P f (a' ++ #[Value.func (.yield (w.heap.size+1)) #[] #[]]++c') W1 fun e w'=>∃v v' h' ρ',e = .returned v'∧qzr h.sz Q t v h'∧VR σ0 ρ' v v'∧Rel σ0 ρ' (BM B [w.heap.size]) h' w'∧Kept (ρ.add h.sz Lc) (BM B [w.heap.size]) (h.push (.map (zq R ts))) W1 ρ' h' w':=by
  rcases hSC.2 _ _ _ _ r2 hargs with⟨_,hh⟩|⟨v,w',hh,_⟩
  ·exact hh
  ·rw[hcf] at hh;cases hh
 have hev:(({ a with defers:=qiw [w.heap.size]++a.defers }:Act)).eval og = .func (.func f) a' c':=q3;refine⟨w.heap.size+1,[{ target:=.collected w.heap.size,args:=#[] }],W1,{ target:=.fn (.func f) c',args:=a' ++ #[Value.func (.yield (w.heap.size+1)) #[] #[]] },W1,f,a' ++ #[Value.func (.yield (w.heap.size+1)) #[] #[]]++c',W1,run_enterLoop_outer _ _ _ _ _,?_,fun _ _=>trivial,?_,fun hh=>(by cases hh),qmM (Calls.mono hcalls ?_)⟩
 ·simp only[resolve,q3];simp[go_sem,Deferred.ofValue,q3]
 ·simp[invoke,hcf]
 rintro e w2 ⟨v,v',h2',ρ2,rfl,hend,hv,r3,k3⟩;obtain⟨r',ts',hg',hst,hmt⟩:=hend;have hL2:ρ2 h.sz=some Lc:=(k3.ext _ (by show _<Nat.succ _;exact Nat.lt_succ_self _)).trans hself
 obtain⟨_,ob2,hob2,hrec2⟩:=r3.maps _ Lc _ hL2 hg';obtain⟨q2,rfl,hlk2,hts2⟩:=hrec2.rec';have hob3:w2.heap[w.heap.size+1]?=some (.loop q2):=by rw[hLc] at hob2;exact hob2
 have hfl2:h2'.fl<=h.sz:=by rw[k3.fl];exact hfl
 obtain⟨re,hre⟩:∃re:Loop,re={ q2 with state:=.exhausted }:=⟨_,rfl⟩;obtain⟨re',hre'⟩:∃re':Loop,re'={ r' with state:=.exhausted }:=⟨_,rfl⟩
 have hlre:qdJ re' re:=by
  have:=hlk2.set .exhausted q2.pending;rw[hre,hre'];have e:({ r' with state:=.exhausted,pending:=q2.pending }:Loop)={ r' with state:=.exhausted }:=by rw[hlk2.pending]
  rw[e] at this;exact this
 have hts4:∀p ∈ ts',p.1<re.tmps.size∧VR σ0 ρ2 p.2 (re.tmps.getD p.1 undef):=by rw[hre];exact hts2
 have hend2:=run_endLoop (P:=P) hob3 (by rw[hlk2.state];exact hst);rw[← hre] at hend2;clear hre;obtain⟨r4,k4⟩:=r3.putMap (w':=w2.putObj (w.heap.size+1) (.loop re)) hL2 hg' hfl2 hob2 (es':=zq re' ts') (.inr (.inr ⟨_,_,_,rfl,rfl,hlre,hts4⟩)) (by rw[hLc];rfl) ⟨rfl,rfl⟩
 have r5:Rel σ0 ρ2 (BM B [w.heap.size]) (h2'.put h.sz .dead) (w2.putObj (w.heap.size+1) (.loop re)):=by
  refine r4.sub rfl rfl fun b x hx hd=>?_
  simp only[Hp.put,Tr.get_set] at hx ⊢;split at hx
  ·cases hx;exact absurd rfl hd
  ·rename_i hne;rw[if_neg hne];exact hx
 have hD1:W1.heap[w.heap.size]?=some (.deferred (some [])):=by
  show ((w.alloc (.deferred (some []))).heap.push _)[w.heap.size]?=_;rw[Array.getElem?_push,if_neg (by rw[hl];omega)];exact hD
 have hD2:(w2.putObj (w.heap.size+1) (.loop re)).heap[w.heap.size]?=some (.deferred (some [])):=by
  rw[World.putObj_heap_other (by omega),k3.pres _ (.inr (by simp))];exact hD1
 have k0:Kep n ρ B h w ρ h (w.alloc (.deferred (some []))):=⟨fun _ _=>rfl,hn,rfl,fun _ _ _=>rfl,fun k hk=>hold k (r.base k hk),by simp,⟨rfl,rfl⟩,fun _ _ h=>h,fun _ _ h=>.inl h,fun _ _ h=>h⟩
 have hn2:n<=(h.push (.map (zq R ts))).sz:=Nat.le_trans hn (Nat.le_succ _);have hn3:n<=h2'.sz:=Nat.le_trans hn2 k3.szle
 have k5:Kep n ρ2 (BM B [w.heap.size]) h2' w2 ρ2 (h2'.put h.sz .dead) (w2.putObj (w.heap.size+1) (.loop re)) :=
  ⟨fun _ _=>rfl,hn3,rfl,fun b hb _=>by simp only[Hp.put,Tr.get_set];rw[if_neg (by omega)],k4.pres,k4.wle,k4.io,fun _ _ h=>h,fun _ _ h=>.inl h,fun _ _ h=>h⟩
 have kk:Kep n ρ B h w ρ2 (h2'.put h.sz .dead) (w2.putObj (w.heap.size+1) (.loop re)):=((k0.trans (k2.kep hn).bm).trans (k3.kep hn2).bm).trans k5.bm
 have fin:∀(x:X) (e:Exit),XR x e->Q x t (h2'.put h.sz .dead)->qbG σ0 Q nt n ρ B h w a.defers e { a with defers:=[{ target:=.collected w.heap.size,args:=#[] }]++a.defers } (w2.putObj (w.heap.size+1) (.loop re)):=fun x e hx hq =>
  ⟨x,t,_,ρ2,[w.heap.size],hx,hq,ht.mono (Ren.le_trans hle2 (k3.mono r2.dom)),hsz,rfl,⟨by simp,fun q hq=>by rw[List.mem_singleton] at hq;omega,fun q hq=>by rw[List.mem_singleton] at hq;subst hq;exact hD2⟩,r5,kk⟩
 refine⟨q2.pending,_,hend2,?_⟩;clear hend2;rw[hlk2.pending];generalize r'.pending=pd at hmt ⊢;cases pd with
 | none=>exact fin .normal _ .normal hmt
 | some c =>
  cases c<;>first|exact hmt.elim|skip
  ·exact wpIn_exit (fin _ _ (.exit _) hmt)
  ·exact wpIn_ret (fin _ _ .ret hmt)
theorem S.rangeF{j:Nat}{g:O}{ps:List Nat}{ai bi:ICode}{Q:X->Tr AV->Hp->Prop}{ts:List (Nat×AV)}{bl:List Blk}(_:bl.all qaL=true)(hnd:(ts.map Prod.fst).Nodup)(hnr:qgF ai=true∧qgF bi=true)(hk:evK (mkT ts) g (rfK P ps ai bi Q (mkT ts) ts (mkH 0 bl))):S P n (.rangeF j g ps ai bi) Q (mkT ts) (mkH 0 bl):=by
 refine S.rangeFL (ts:=ts) (Nat.zero_le _) (fun p hp=>qo6 hnd hp) hnr ?_
 obtain⟨v,h1,h2⟩:=qp (mkT ts) g _ hk;refine h2 _ ?_;cases v<;>try exact h1.elim
 obtain⟨hc,hh⟩:=h1;exact⟨hc,fun r0 a b hlo=>⟨r0,.inl ⟨rfl,hlo.real⟩,hh r0 a b hlo⟩⟩
end Go.Kc
end
section
namespace Go.Kc
variable {P:Program} {h:Hp}
inductive Gvs (h:Hp):List AV->List AV->Prop where
 | nil:Gvs h [] []
 | keep (v:AV) (vs vs':List AV) (h1:Gvs h vs vs'):Gvs h (v::vs) (v::vs')
 | fz (v v':AV) (vs vs':List AV) (hf:Frz h v v') (h1:Gvs h vs vs'):Gvs h (v::vs) (v'::vs')
 | fn (f:Nat) (a c c':List AV) (vs vs':List AV) (hc:Gvs h c c') (h1:Gvs h vs vs'):Gvs h (.fn f a c::vs) (.fn f a c'::vs')
theorem Gvs.ok{ρ:Ren}{B:Nat->Prop}{w:World}(hle:ρ.le ⟨ρ.loc,xp ρ h w,ρ.n⟩)(r:Rel σ0 ρ B h w):∀{vs vs':List AV} {xs:List Value},Gvs h vs vs'->VRs σ0 ρ vs xs->VRs σ0 ⟨ρ.loc,xp ρ h w,ρ.n⟩ vs' xs
 | _,_,_,.nil,hv=>by cases hv;exact .nil
 | _,_,_,.keep _ _ _ h1,hv=>by
  cases hv with
  | cons _ _ _ _ a1 a2=>exact .cons _ _ _ _ (a1.mono hle) (Gvs.ok hle r h1 a2)
 | _,_,_,.fz _ _ _ _ hf h1,hv=>by
  cases hv with
  | cons _ _ _ _ a1 a2=>exact .cons _ _ _ _ (CR.vr (ρ:=⟨ρ.loc,xp ρ h w,ρ.n⟩) (hf.ok r a1)) (Gvs.ok hle r h1 a2)
 | _,_,_,.fn f a c c' _ _ hc h1,hv=>by
  cases hv with
  | cons _ _ _ _ a1 a2 =>
   obtain⟨a',c'',q1,q2,q3⟩:=a1.un_fn;subst q3;exact .cons _ _ _ _ (.fn _ _ _ _ _ (q1.mono hle) (Gvs.ok hle r hc q2)) (Gvs.ok hle r h1 a2)
theorem SC.give{f:Nat}{vs vs':List AV}{k:AV->Hp->Prop}(DB:List (Nat×Blk))(hg:∀p ∈ DB,h.tr.get p.1=some p.2∧h.fl<=p.1)(hf:Gvs ⟨h.sz,h.fl,trP DB⟩ vs vs')(hk:SC P f vs' (qdC h DB) k):SC P f vs h k:=by
 refine⟨hk.1,fun ρ B w args r ha=>?_⟩
 have r0:Rel σ0 ρ B ⟨h.sz,h.fl,trP DB⟩ w:=r.sub rfl rfl (fun b x hx _=>(hg _ (qhC hx)).1)
 have le:ρ.le ⟨ρ.loc,xp ρ ⟨h.sz,h.fl,trP DB⟩ w,ρ.n⟩:=⟨fun _ _ h=>h,fun _ _ h=>jl h,Nat.le_refl _⟩
 have hcr:=hf.ok le r0 ha
 have fnew:∀kk a,xp ρ ⟨h.sz,h.fl,trP DB⟩ w kk=some a->ρ.frz kk=some a∨((∃ty fz,w.heap[kk]?=some (.cells a ty fz))∧∃b L e af cs,b ∈ DB.map Prod.fst∧ρ b=some L∧h.tr.get b=some (.cells e true af cs)∧L.blk=kk∧h.fl<=b):=by
  intro kk a hkk;rcases qcV hkk with h1|⟨h1,b,L,e,af,cs,h2,h3,h4⟩
  ·exact .inl h1
  ·have hm:=qhC h3;exact .inr ⟨h1,b,L,e,af,cs,List.mem_map_of_mem (f:=Prod.fst) hm,h2,(hg _ hm).1,h4,(hg _ hm).2⟩
 have qaL:∀b x,(qdC h DB).tr.get b=some x->x≠.dead->b ∉ DB.map Prod.fst∧h.tr.get b=some x:=by
  intro b x hx hd;rw[qfl] at hx;split at hx
  ·cases hx;exact absurd rfl hd
  ·exact⟨by assumption,hx⟩
 have r1:Rel σ0 ⟨ρ.loc,xp ρ ⟨h.sz,h.fl,trP DB⟩ w,ρ.n⟩ B (qdC h DB) w:=by
  have rs:Rel σ0 ρ B (qdC h DB) w:=r.sub qhg qhf (fun b x hx hd=>(qaL b x hx hd).2)
  refine⟨rs.dom,fun b L e wf af cs hb hx=>?_,fun b L es hb hx=>?_,rs.excl,rs.exclm,rs.app,rs.flr,rs.base,fun kk arr hkk=>?_,rs.dn⟩
  ·obtain⟨q1,c,ty,fz,q2,q3,q4,q5,q6⟩:=rs.cells b L e wf af cs hb hx;exact⟨q1,c,ty,fz,q2,q3,q4,fun j v hv=>let ⟨v',k1,k2⟩:=q5 j v hv;⟨v',k1,k2.mono le⟩,q6⟩
  ·obtain⟨q1,o,q2,q3⟩:=rs.maps b L es hb hx;exact⟨q1,o,q2,q3.mono le⟩
  ·rcases fnew kk arr hkk with h1|⟨h1,b,L,e,af,cs,h2,h3,h4,h5,_⟩
   ·exact rs.frz kk arr h1
   ·refine⟨h1,fun b' L' x hb' hx hd he=>?_⟩
    obtain⟨g1,g2⟩:=qaL b' x hx hd;have:=r.excl b L e af cs h3 h4 b' L' x hb' g2 hd (by rw[he,h5]);subst this;exact g1 h2
 have k0:Kept ρ B h w ⟨ρ.loc,xp ρ ⟨h.sz,h.fl,trP DB⟩ w,ρ.n⟩ (qdC h DB) w:=by
  refine⟨fun _ _=>rfl,by rw[qhg];exact Nat.le_refl _,qhf,fun b hb _=>?_,fun _ _=>rfl,Nat.le_refl _,⟨rfl,rfl⟩,fun k a hk=>jl hk,fun k a hk=>?_,Nat.le_refl _⟩
  ·rw[qfl,if_neg];intro hm;obtain⟨p,hp1,hp2⟩:=List.mem_map.1 hm;have:=(hg p hp1).2;omega
  ·rcases fnew k a hk with h2|⟨_,b,L,_,_,_,_,h3,_,h5,h6⟩
   ·exact .inl h2
   ·right;rw[← h5];exact r.flr b L h3 h6
 refine qbF.mono (hk.2 _ B w args r1 hcr) ?_;rintro e w' ⟨v0,v',h',ρ',he,g1,g2,g3,g4⟩;exact⟨v0,v',h',ρ',he,g1,g2,g3,k0.trans g4⟩
theorem PC.give{f:Nat}{vs vs':List AV}{k:AV->Hp->Prop}(DB:List (Nat×Blk))(hg:∀p ∈ DB,h.tr.get p.1=some p.2∧h.fl<=p.1)(hf:Gvs ⟨h.sz,h.fl,trP DB⟩ vs vs')(hk:PC P f vs' (qdC h DB) k):PC P f vs h k:=by
 obtain⟨v,h',h1,h2⟩:=hk;exact⟨v,h',fun k' hk'=>SC.give DB hg hf (h1 k' hk'),h2⟩
theorem Upd.pc{f:Nat}{vs:List AV}{bs bs2:List Blk}{v:AV}{k:AV->Hp->Prop}(at':List Nat)(hu:Upd P f vs bs v bs2)(l:Lent h at' bs)(hk:k (rnv (gAt at' h.sz) v) (qcq h at' bs2)):PC P f (qaQ (gAt at' h.sz) vs) h k :=
 ⟨_,_,fun _ h'=>hu.sc at' l h',hk⟩
end Go.Kc
end
section
namespace Go.Kc
variable {P:Program} {h:Hp} {t:Tr AV}
def qyy(m:Nat)(v:AV)(bs2:List Blk)(v':AV)(h':Hp):Prop:=h'.fl=0->∃src:List Nat,NV (rl src h'.sz) bs2.length v' v∧BWs h' (rl src h'.sz) bs2.length src bs2∧(List.map Prod.fst (List.filter (fun p=>decide (p.fst<h'.sz)&&qaL p.snd) (src.zip bs2))).Nodup∧∀b,b<m->rl src h'.sz b=b
theorem qyy.w{m:Nat}{v:AV}{bs2:List Blk}{v':AV}{h':Hp}(hz:qyy m v bs2 v' h')(hle:m<=bs2.length):qpF m v bs2 v' h':=by
 intro hfl;obtain⟨src,s1,s2,s3,s4⟩:=hz hfl;exact Wk.mkd [(0,v)] bs2 src ⟨⟨v',by simp[mkT,Tr.get_set],s1⟩,trivial⟩ s2 s3 hfl hle s4
theorem Upd.mkd{f:Nat}{i:IFn}{vs:List AV}{v:AV}{bs bs2:List Blk}(hc:qc P f i=true)(hb:qaH bs.length vs=true)(hl:bs.length<=bs2.length)(hV:V P bs.length i.body (qby i.res (qyy bs.length v bs2)) (qbB vs 0 .leaf) (mkH 0 bs)):Upd P f vs bs v bs2 :=
 ⟨hb,hl,(SC.mk hc (qj hV)).mono fun _ _ hz=>hz.w hl⟩
end Go.Kc
end
section
namespace Go.Kc

variable {P:Program} {H:Type} {enc:TypeId×Value->H} {w:World} {t e:TypeId} {α:Type}
theorem qyj{n m:Nat}{I:α->Prop}{E:α->List AV}(ht:P.underlying t=some (.array n e))(he:qeE enc P w e I E)(hc:P.cellsOf e=m)(hct:P.cellsOf t=n*m) :
  qeE enc P w t (fun l:List α=>l.length=n∧∀a ∈ l,I a) (fun l=>l.flatMap E):=by
 intro fuel cs x hx;obtain⟨xs,k,_,_,hl,hxs,hf⟩:=DataW.trod_array ht hx
 have go:∀j,j<=n->∃l:List α,(l.length=j∧∀a ∈ l,I a)∧CRs σ0 (qmY w) (l.flatMap E) (cs.take (j*m)):=by
  intro j
  induction j with
  | zero=>intro _;exact⟨[],⟨rfl,fun _ h=>by cases h⟩,by simpa using CRs.nil⟩
  | succ j ih =>
   intro hj;obtain⟨l,⟨h1,h2⟩,h3⟩:=ih (by omega);have h4:=hf j (by omega);have hlt:j<xs.length:=by omega
   rw[zzE hlt,hc] at h4;obtain⟨a,ha,h5⟩:=he _ _ _ h4;refine⟨l++[a],⟨by simp[h1],fun b hb=>?_⟩,?_⟩
   ·rcases List.mem_append.1 hb with hb|hb
    ·exact h2 b hb
    ·rw[List.mem_singleton.1 hb];exact ha
   ·rw[List.flatMap_append,Nat.succ_mul,List.take_add];refine h3.app ?_;simpa using h5
 obtain⟨l,h1,h2⟩:=go n (Nat.le_refl _);rw[List.take_of_length_le (by omega)] at h2;exact⟨l,h1,h2⟩
end Go.Kc
end
section
namespace Go.Kc
variable {P:Program}

def qsV:Op->Bool
 | .call c=>(match c.callee with | .builtin .recover=>true|_=>false)&&c.args.isEmpty
 | _=>false
def qsQ(n:Nat):Op->Bool
 | .assign (.tmp m)=>m==n
 | _=>false
def qsT(n:Nat):Op->Bool
 | .move (.tmp m)=>m==n
 | _=>false
def qzO(P:Program)(n:Nat):Op->Bool
 | .binOp .neq ty (.tmp m) y _=>m==n&&qdA .iface y&&qqJ P .iface ty
 | _=>false
def qmN(o:Oper):Bool:=o.guard.isNone
def qt7(P:Program)(nt:Nat)(p q r s:Oper)(c:Nat):Bool :=
 qmN p&&qmN q&&qmN r&&qmN s&&match p.dst,q.dst,r.dst,s.dst with
  | some a,some b,some e,some c'=>Nat.blt a nt&&Nat.blt b nt&&Nat.blt e nt&&Nat.blt c nt&&c'==c&&qsV p.op&&qsQ a q.op&&qsT b r.op&&qzO P e s.op
  | _,_,_,_=>false
def qt6(P:Program)(nt:Nat):Code->Bool
 | .seq (.region _ o1 false) (.seq (.region _ o2 false) (.cond (.tmp c) _ .skip))=>(match o1.toList,o2.toList with
  | [p,q],[r,s]=>qt7 P nt p q r s c
  | _,_=>false)
 | _=>false
def qgZ(P:Program)(f:Nat):Bool :=
 match P.funcs[f]? with
 | some fn=>fn.name != "runtime.NumGoroutine" && fn.results.isEmpty&&(match fn.body with|some c=>qt6 P fn.ntmps c|none=>false)
 | none=>false
theorem qi0{a:Act}{n:Nat}(h:n<a.tmps.size)(v:Value):(a.put (some n) v).eval (.tmp n)=v:=by
 simp[Act.put,Act.eval,Array.getD,h]
theorem qnr{a:Act}{o:Oper}(h:qsV o.op=true)(w:World):(execOp a.eval o).run P w = .ok .recover w:=by
 unfold qsV at h;split at h
 ·rename_i c hc;simp only[Bool.and_eq_true] at h;obtain⟨h1,h2⟩:=h;split at h1<;>try (cases h1;done)
  rename_i hb;simp[execOp,hc,resolve,hb,invoke,builtin]
 ·cases h
theorem qsR{n:Nat}{o:Op}(h:qsQ n o=true):o = .assign (.tmp n):=by
 unfold qsQ at h;split at h
 ·rw[eq_of_beq h]
 ·cases h
theorem qsU{n:Nat}{o:Op}(h:qsT n o=true):o = .move (.tmp n):=by
 unfold qsT at h;split at h
 ·rw[eq_of_beq h]
 ·cases h
theorem qAc(ρ:Ren){n:Nat}{a:Act}{o:Oper}(h:qzO P n o.op=true)(hv:a.eval (.tmp n) = .nilIface)(w:World):(execOp a.eval o).run P w = .ok (.value (.bool false)) w:=by
 unfold qzO at h;split at h
 ·rename_i ty m y uy ho;simp only[Bool.and_eq_true] at h;obtain⟨⟨h1,h2⟩,h3⟩:=h;obtain rfl:=eq_of_beq h1;have hx:VR σ0 ρ .nili (a.eval (.tmp m)):=by rw[hv];exact .nili
  obtain⟨c,z,g1,rfl,g2,g3,g4,g5,g6,g7⟩:=qjC (P:=P) (k:=fun c=>c=true) hx (show xr .iface .nili (fun c=>c=true) from rfl) h3 h2 w
  subst g1
  have hg:(eqGuard .neq ty (.tmp m) (.const z) (a.eval (.tmp m)) z).run P w = .ok () w:=by
   rw[hv];cases z<;>simp[eqGuard]
  refine qfH ho hg ?_;show (binOp .neq ty (a.eval (.tmp m)) z).run P w=_;rw[g6 .neq (.inr rfl)];have g2':(Op.equal ty (a.eval (.tmp m)) z).run P w = .ok true w:=g2;simp[g2']
 ·cases h
theorem qfJ{o:Oper}(h:qmN o=true)(y:Nat->Option Bool):Region.wanted o y=true:=by
 unfold qmN at h;cases hg:o.guard with
 | none=>simp[Region.wanted,hg]
 | some _=>rw[hg] at h;cases h
theorem qlo{a b:Nat}(h:Nat.blt a b=true):a<b:=by simpa using h
theorem qt8(ρ:Ren){fd:Nat}(hc:qgZ P fd=true)(args:Array Value)(w:World):CallsDIn (Fr none) 0 P fd args .returning w (fun e u' w'=>e = .returned (.tuple #[])∧u' = .returning∧w'=w):=by
 unfold qgZ at hc;split at hc<;>try (cases hc;done)
 rename_i fn hfn;simp only[Bool.and_eq_true] at hc;obtain⟨⟨_,hres⟩,hbody⟩:=hc;split at hbody<;>try (cases hbody;done)
 rename_i c hcb;unfold qt6 at hbody;split at hbody<;>try (cases hbody;done)
 rename_i i1 o1 i2 o2 c thn;split at hbody<;>try (cases hbody;done)
 rename_i p q r s hl1 hl2;unfold qt7 at hbody;simp only[Bool.and_eq_true] at hbody;obtain⟨⟨⟨⟨f1,f2⟩,f3⟩,f4⟩,hb⟩:=hbody;split at hb<;>try (cases hb;done)
 rename_i a b e c' e1 e2 e3 e4;simp only[Bool.and_eq_true] at hb;obtain⟨⟨⟨⟨⟨⟨⟨⟨b1,b2⟩,b3⟩,b4⟩,b5⟩,b6⟩,b7⟩,b8⟩,b9⟩:=hb;have b1:=qlo b1;have b2:=qlo b2;have b3:=qlo b3;have b4:=qlo b4;obtain rfl:=eq_of_beq b5;have b7:=qsR b7;have b8:=qsU b8;have s1:o1 = #[p,q]:=by rw[← Array.toList_inj];exact hl1
 have s2:o2 = #[r,s]:=by rw[← Array.toList_inj];exact hl2
 subst s1 s2;refine callsDIn_of_wpSIn hfn hcb trivial fun c₀ cs hmode=>?_
 have hsz:fn.ntmps<=(args++Array.replicate (fn.ntmps-args.size) undef).size:=by simp;omega
 generalize hA:({ tmps:=args++Array.replicate (fn.ntmps-args.size) undef,defers:=[] }:Act)=A;have hsA:fn.ntmps<=A.tmps.size:=by rw[← hA];exact hsz
 have hdA:A.defers=[]:=by rw[← hA]
 have hrec:recoverD (c₀::cs)=none:=by simp[recoverD,hmode]
 have r1:=qnr (P:=P) (a:=A) b6 w;have m1:∀(x:Act),(execOp x.eval q).run P w = .ok (.value (x.eval (.tmp a))) w:=fun x=>by simp[execOp,b7]
 have m2:∀(x:Act),(execOp x.eval r).run P w = .ok (.value (x.eval (.tmp b))) w:=fun x=>by simp[execOp,b8]
 refine wpSIn_seq (wpSIn_region ?_);have hA1:(A.put (some a) .nilIface).eval (.tmp a) = .nilIface:=qi0 (by omega) _;generalize hB:A.put (some a) .nilIface=A1 at hA1;have z1:A1.tmps.size=A.tmps.size:=by rw[← hB,qau]
 have hA2:(A1.put (some b) .nilIface).eval (.tmp b) = .nilIface:=qi0 (by omega) _;generalize hC:A1.put (some b) .nilIface=A2 at hA2;have z2:A2.tmps.size=A.tmps.size:=by rw[← hC,qau,z1]
 have hA3:(A2.put (some e) .nilIface).eval (.tmp e) = .nilIface:=qi0 (by omega) _;generalize hD:A2.put (some e) .nilIface=A3 at hA3;have z3:A3.tmps.size=A.tmps.size:=by rw[← hD,qau,z2]
 have hA4:(A3.put (some c') (.bool false)).eval (.tmp c') = .bool false:=qi0 (by omega) _;generalize hE:A3.put (some c') (.bool false)=A4 at hA4;have d4:A4.defers=[]:=by rw[← hE,qat,← hD,qat,← hC,qat,← hB,qat,hdA]
 have m3:=qAc (P:=P) ρ b9 hA3 w;have l2:List.range (#[p,q]:Array Oper).size=[0,1]:=rfl;have l3:List.range (#[r,s]:Array Oper).size=[0,1]:=rfl;have g0:(#[p,q]:Array Oper)[0]?=some p:=rfl;have g1:(#[p,q]:Array Oper)[1]?=some q:=rfl;have g2:(#[r,s]:Array Oper)[0]?=some r:=rfl;have g3:(#[r,s]:Array Oper)[1]?=some s:=rfl;rw[l2];simp only[wpOpsSIn,g0,g1,qfJ f1,qfJ f2,if_true,r1,hrec,e1,hB,m1,hA1,e2,hC];refine⟨fun _ _=>trivial,fun _ _=>trivial,?_⟩
 refine wpSIn_seq (wpSIn_region ?_);rw[l3];simp only[wpOpsSIn,g2,g3,qfJ f3,qfJ f4,if_true,m2,hA2,e3,hD,m3,e4,hE];refine⟨fun _ _=>trivial,fun _ _=>trivial,?_⟩
 refine wpSIn_cond hA4 (wpSIn_of_wpIn rfl (wpIn_skip ?_));refine⟨d4,.returning,?_,.tuple #[],?_,rfl,rfl,rfl⟩
 ·cases c₀;cases hmode;rfl
 ·have:fn.results = #[]:=by simpa using hres
  rw[qjX,this];simp

def qsS(n:Nat):Op->Bool
 | .defer c=>(match c.callee with | .value (.tmp m)=>m==n|_=>false)&&c.args.isEmpty
 | _=>false
theorem qqo{n fd:Nat}{a:Act}{o:Oper}{cap:Array Value}(h:qsS n o.op=true)(hv:a.eval (.tmp n) = .func (.func fd) #[] cap)(w:World):(execOp a.eval o).run P w = .ok (.defer { target:=.fn (.func fd) cap,args:=#[] }) w:=by
 unfold qsS at h;split at h
 ·rename_i c hc;simp only[Bool.and_eq_true] at h;obtain⟨h1,h2⟩:=h;split at h1<;>try (cases h1;done)
  rename_i m hb;obtain rfl:=eq_of_beq h1;have h2:c.args = #[]:=by simpa using h2
  simp[execOp,hc,resolve,hb,hv,h2,Deferred.ofValue]
 ·cases h
def qlw(P:Program)(f fd:Nat)(i:IFn):Bool :=
 qgZ P fd&&match i.body with
 | .seq (.reg false rsA) (.seq (.reg false rsB) (.seq (.reg false (r0::_)) y))=>(match P.funcs[f]? with
  | some fn=>fn.name != "runtime.NumGoroutine" && (match fn.body with
   | some (.seq (.region _ oA false) (.seq (.region _ oB false) (.seq (.region _ oD false) c)))=>qcR P oA fn.ntmps oA.toList rsA&&qcR P oB fn.ntmps oB.toList rsB&&(match oD.toList,r0.dst with
    | [o0,o1],some d=>qnU P oD fn.ntmps o0 r0&&r0.guard.isNone&&qmN o0&&qmN o1&&qsS d o1.op&&o1.dst.isNone
    | _,_=>false)&&qH P fn.ntmps c y
   | _=>false)&&qbI P fn.results.toList i.res
  | none=>false)
 | _=>false
def qv4(fd:Nat)(r0:ROp)(t:Tr AV):Prop:=∃d cs,r0.dst=some d∧t.get d=some (.fn fd [] cs)
def VDf(P:Program)(n fd:Nat):ICode->(X->Tr AV->Hp->Prop)->Tr AV->Hp->Prop
 | .seq (.reg _ rsA) (.seq (.reg _ rsB) (.seq (.reg _ (r0::_)) y)),Q,t,h=>VG P rsA (fun t h=>VG P rsB (fun t h=>VG P [r0] (fun t h=>qv4 fd r0 t∧V P n y Q t h) t h) t h) t h
 | _,_,_,_=>False
theorem qjF{fn:Func}{tm:Array Value}{ρ ρ':Ren}{B:Nat->Prop}{h h':Hp}{w:World}{R:Ending->World->Prop}{ds:List Deferred}(hT:∀w',Rel σ0 ρ' B h' w'->Kept ρ B h w ρ' h' w'->LeavesInM (Fr none) 0 P fn tm R ds .returning w') :
  ∀(rs:List Nat) {w':World},(∀r ∈ rs,w'.heap[r]?=some (.deferred (some [])))->rs.Nodup->(∀r ∈ rs,¬B r)->Rel σ0 ρ' B h' w'->Kept ρ B h w ρ' h' w'->LeavesInM (Fr none) 0 P fn tm R (qiw rs++ds) .returning w'
 | [],w',_,_,_,hr',hk=>hT w' hr' hk
 | r::rs,w',hm,hn,hB,hr',hk=>by
  have h1:=hm r (by simp);refine⟨by simp,.inl ⟨r,w'.putObj r (.deferred none),rfl,run_takeDeferred h1,?_⟩⟩
  have hn2:=List.nodup_cons.1 hn;refine qjF hT rs (fun r' hr2=>?_) hn2.2 (fun r' hr2=>hB r' (by simp[hr2])) (hr'.shut h1 _) ?_
  ·rw[World.putObj_heap_other (by rintro rfl;exact hn2.1 hr2)];exact hm r' (by simp[hr2])
  ·exact⟨hk.ext,hk.szle,hk.fl,hk.akeep,fun k hb=>by rw[World.putObj_heap_other (by rintro rfl;exact hB _ (by simp) hb)];exact hk.pres k hb,by simpa using hk.wle,hk.io,hk.frz,hk.fnew,hk.nle⟩
theorem SC.mkD{f fd:Nat}{i:IFn}{vs:List AV}{h:Hp}{k:AV->Hp->Prop}(hc:qlw P f fd i=true)(hV:VDf P h.sz fd i.body (qby i.res k) (qbB vs 0 .leaf) h):SC P f vs h k:=by
 unfold qlw at hc;simp only[Bool.and_eq_true] at hc;obtain⟨hquiet,hc⟩:=hc;split at hc<;>try (cases hc;done)
 rename_i rsA rsB r0 rest y hbody;rw[hbody] at hV;split at hc<;>try (cases hc;done)
 rename_i fn hfn;simp only[Bool.and_eq_true,bne_iff_ne] at hc;obtain⟨⟨hname,hc⟩,hres⟩:=hc;split at hc<;>try (cases hc;done)
 rename_i iA oA iB oB iD oD c hcb;simp only[Bool.and_eq_true] at hc;obtain⟨⟨⟨hA,hB⟩,hD⟩,hcode⟩:=hc;split at hD<;>try (cases hD;done)
 rename_i o0 o1 d hl hd0;simp only[Bool.and_eq_true] at hD;obtain⟨⟨⟨⟨⟨hr0,hg0⟩,hf0⟩,hf1⟩,hdef⟩,hdst⟩:=hD;have sD:oD = #[o0,o1]:=by rw[← Array.toList_inj];exact hl
 subst sD;have hdst:o1.dst=none:=by simpa using hdst
 refine⟨trivial,fun ρ B w args r ha=>.inl ⟨⟨fn,hfn,hname,by rw[hcb];rfl⟩,?_⟩⟩
 have r00:=r
 have ht:TR σ0 ρ (qbB vs 0 .leaf) (args++Array.replicate (fn.ntmps-args.size) undef):=by
  intro j v hv;rcases qhJ _ _ _ _ _ hv with⟨_,h3⟩|h3
  ·simp only[Nat.sub_zero] at h3;obtain⟨v',h4,h5⟩:=ha.get h3
   have hn:j<args.size:=by
    have:=(zzS.1 h4).1;simpa using this
   refine⟨by simp;omega,?_⟩
   have:(args++Array.replicate (fn.ntmps-args.size) undef).getD j undef=v':=by
    rw[Array.getD_eq_getD_getElem?,Array.getElem?_append_left hn];rw[Array.getElem?_toList] at h4;rw[h4];rfl
   rw[this];exact h5
  ·simp at h3
 have hsize:fn.ntmps<=(args++Array.replicate (fn.ntmps-args.size) undef).size:=by simp;omega
 refine (callsIn_wide (n:=0)).1 (callsIn_of_wp_marks hfn hcb trivial ?_ rfl);refine wpIn_seq (wpIn_region ?_);have hreg:=fun K hK=>qh3 (ops:=oA) (nt:=fn.ntmps) (ro:=none) (K:=K) (ρ0:=ρ) (h0:=h) (w0:=w) (ds:=[]) (qeu P) (qdL P) hK oA.toList rsA 0 hA rfl _ h ρ w { tmps:=args++Array.replicate (fn.ntmps-args.size) undef,defers:=[] } hV ht hsize rfl r (Kept.refl _ _ _ _)
 rw[List.range_eq_range'];refine hreg _ ?_;intro a0 w0 t0 h0 ρ0 hq0 ht0 hs0 hd0' r0' k0';refine wpIn_seq (wpIn_region ?_);have hreg2:=fun K hK=>qh3 (ops:=oB) (nt:=fn.ntmps) (ro:=none) (K:=K) (ρ0:=ρ) (h0:=h) (w0:=w) (ds:=[]) (qeu P) (qdL P) hK oB.toList rsB 0 hB rfl _ h0 ρ0 w0 a0 hq0 ht0 hs0 hd0' r0' k0'
 rw[List.range_eq_range'];refine hreg2 _ ?_;intro a1 w1 t1 h1 ρ1 hq1 ht1 hs1 hd1 r1 k1;refine wpIn_seq (wpIn_region ?_);have l2:List.range (#[o0,o1]:Array Oper).size=[0,1]:=rfl;have g0:(#[o0,o1]:Array Oper)[0]?=some o0:=rfl;have g1:(#[o0,o1]:Array Oper)[1]?=some o1:=rfl;rw[l2];simp only[wpOpsIn,g0,qfJ hf0,if_true];obtain⟨dst,rk,g⟩:=r0;simp only[qnU,Bool.and_eq_true] at hr0;obtain⟨⟨hc1,hc2⟩,hc3⟩:=hr0;have hgn:g=none:=by simpa using hg0
 subst hgn;refine qun (draw:=false) (qeu P) (qdL P) r1 ht1 hc3 hq1 _ _ ?_;intro v v' h2 ρ2 w2 p1 p2 r2 k2;obtain⟨t2,q1,ht2⟩:=(ht1.mono (k2.mono r1.dom)).put hs1 hc1 p2 p1;obtain⟨⟨d',cs,q3,q4⟩,q2⟩:=q1;rw[hd0] at q3;cases q3;obtain⟨z1,z2⟩:=ht2 d _ q4;obtain⟨a',c',z3,z4,z5⟩:=z2.un_fn
 have ha':a' = #[]:=by
  generalize hL:a'.toList=L at z3;cases z3;rw[← Array.toList_inj,hL]
 subst ha';generalize hA1:a1.put o0.dst v'=A1 at ht2 z1 z5;have hsA:fn.ntmps<=A1.tmps.size:=by rw[← hA1,qau];exact hs1
 have hdA:A1.defers=[]:=by rw[← hA1,qat];exact hd1
 have hev:A1.eval (.tmp d) = .func (.func fd) #[] c':=z5;change (if Region.wanted o1 (yielded #[o0,o1] A1.tmps)=true then o1.wpIn (Fr none) 0 P A1 w2 _ _ else _)
 rw[if_pos (qfJ hf1 _)];refine⟨fun _ _=>trivial,?_⟩
 have hsem:(o1.semAt (Fr none).round A1.eval).run P w2 = .ok (.defer { target:=.fn (.func fd) c',args:=#[] }) w2:=qqo hdef hev w2;rw[hsem,Oper.uponIn_defer,hdst];have hle:h.sz<=h2.sz:=Nat.le_trans k1.szle k2.szle;have hw:=qj q2 fn.ntmps c hcode hle none (.inl rfl) ρ2 B w2 { A1 with defers:={ target:=.fn (.func fd) c',args:=#[] }::A1.defers } ht2 hsA r2;refine wpIn_mono hw ?_;rintro e a w' ⟨x,t',h',ρ',rs,hx,hq,ht',_,hd,hm,hr',hkept⟩;have hkk:Kep h.sz ρ B h w ρ' h' w':=((k1.trans k2).kep (Nat.le_refl _)).trans hkept;have hww:w.heap.size<=w2.heap.size:=(k1.trans k2).wle
 have hcod:(callFunc fd (#[]++c')).run P=fun w=>.ok (.enter fd (#[]++c')) w:=by
  funext w;have hq:=hquiet;unfold qgZ at hq;split at hq<;>try (cases hq;done)
  rename_i fn' hfn';simp only[Bool.and_eq_true,bne_iff_ne] at hq;obtain⟨⟨q5,_⟩,q6⟩:=hq;split at q6<;>try (cases q6;done)
  rename_i cc hcc;exact qct hfn' q5 (by rw[hcc];rfl) _ w
 have key:∀(k':AV->Hp->Prop),qaM t' h' i.res (fun vs=>k' (qar vs) h')->LeavesInM (Fr none) 0 P fn a.tmps (fun e w'=>∃v v' h' ρ',e = .returned v'∧k' v h'∧VR σ0 ρ' v v'∧Rel σ0 ρ' B h' w'∧Kept ρ B h w ρ' h' w') a.defers .returning w':=by
  intro k' hq';rw[hd,hdA];have hB:Rel σ0 ρ' B h' w':=hr'.lessB fun k hk=>.inl hk
  refine qjF ?_ rs (fun r hr=>hm.at' r hr) hm.nodup (fun r hr hb=>absurd (r00.base r hb) (Nat.not_lt.2 (Nat.le_trans hww (hm.new r hr)))) hB (hkk.kept r00.dn.1)
  intro w3 hr3 hk3;refine⟨by simp,.inr ⟨fun hh=>(by cases hh),.func fd,c',fd,#[]++c',rfl,?_,fun _ _=>trivial,?_⟩⟩
  ·show (callFunc fd (#[]++c')).run P w3=_;rw[hcod]
  ·refine (qt8 ρ hquiet (#[]++c') w3).mono ?_;rintro e u' w4 ⟨rfl,rfl,rfl⟩;obtain⟨v,v',e1,e2,e3⟩:=qjY hr3 ht' hres hq';exact⟨v',e3,v,v',h',ρ',rfl,e1,e2,hr3,hk3⟩
 cases hx with
 | exit id=>exact hq.elim
 | normal=>exact key k hq
 | ret=>exact key k hq
end Go.Kc
end
section
namespace Go.Kc
end Go.Kc
end
section
namespace Go.Kc
variable {P:Program} {h:Hp}
def Rd(P:Program)(f:Nat)(vs:List AV)(bs:List Blk)(v:AV):Prop :=
 qaH bs.length vs=true∧clo v=true∧SC P f vs (mkH bs.length bs) (fun v' _=>v'=v)
theorem Rd.mk{f:Nat}{i:IFn}{vs:List AV}{v:AV}{bs:List Blk}(hc:qc P f i=true)(hb:qaH bs.length vs=true)(hl:clo v=true)(hV:V P bs.length i.body (qby i.res (fun v' _=>v'=v)) (qbB vs 0 .leaf) (mkH bs.length bs)):Rd P f vs bs v :=
 ⟨hb,hl,SC.mk hc (qj hV)⟩
theorem Rd.sc{f:Nat}{vs:List AV}{bs:List Blk}{v:AV}{k:AV->Hp->Prop}(at':List Nat)(hu:Rd P f vs bs v)(l:Lent ⟨h.sz,0,h.tr⟩ at' bs)(hk:k v h):SC P f (qaQ (gAt at' h.sz) vs) h k:=by
 obtain⟨hb,hcl,hu⟩:=hu;refine⟨hu.1,fun ρ B w args r ha=>?_⟩
 have r0:Rel σ0 ρ (fun _=>False) ⟨h.sz,0,h.tr⟩ w:=⟨r.dom,r.cells,r.maps,r.excl,r.exclm,r.app,fun _ _ _ _ h=>h,fun _ h=>h.elim,r.frz,r.dn⟩
 have rs:=r0.small l;have rs':Rel σ0 (ρ.small at' h.sz) (low w.heap.size) (mkH bs.length bs) w:=⟨rs.dom,rs.cells,rs.maps,rs.excl,rs.exclm,rs.app,fun b L hb hf=>absurd (rs.dom b L hb) (Nat.not_lt.2 hf),fun _ h=>h,rs.frz,rs.dn⟩
 have ha':VRs σ0 (ρ.small at' h.sz) vs args.toList:=VRs.nr (ρ:=ρ) (ρs:=ρ.small at' h.sz) (g:=gAt at' h.sz) (m:=bs.length) (fun b L hbm hbL=>by
  show (if b<at'.length then ρ (gAt at' h.sz b) else none)=some L
  rw[if_pos (by rw[l.len];exact hbm)];exact hbL) rfl l.len hb ha
 refine qbF.mono (hu.2 (ρ.small at' h.sz) (low w.heap.size) w args rs' ha') ?_;rintro e w1 ⟨v0,v',h1,ρ1,rfl,rfl,g2,g3,g4⟩;have hcv:=g2.cr hcl;have f2:∀k a,ρ1.frz k=some a->ρ.frz k=some a∨w.heap.size<=k:=fun k a hk=>(g4.fnew k a hk).imp id Nat.not_lt.1
 exact⟨_,v',h,⟨ρ.loc,ρ1.frz,ρ.n⟩,rfl,hk,CR.vr (ρ:=⟨ρ.loc,ρ1.frz,ρ.n⟩) hcv,r.frz' g4.pres g4.wle g4.frz f2 (fun k a hk=>(g3.frz k a hk).1),
  ⟨fun _ _=>rfl,Nat.le_refl _,rfl,fun _ _ _=>rfl,fun k hk=>g4.pres k (r.base _ hk),g4.wle,g4.io,g4.frz,fun k a hk=>(f2 k a hk).imp id (qaq r.base),Nat.le_refl _⟩⟩
theorem Rd.pc{f:Nat}{vs:List AV}{bs:List Blk}{v:AV}{k:AV->Hp->Prop}(at':List Nat)(hu:Rd P f vs bs v)(l:Lent ⟨h.sz,0,h.tr⟩ at' bs)(hk:k v h):PC P f (qaQ (gAt at' h.sz) vs) h k :=
 ⟨_,_,fun _ h'=>hu.sc at' l h',hk⟩
end Go.Kc
end
section
namespace Go.Kc
section
variable {H:Type} {enc:TypeId×Value->H} {P:Program} {w:World} {α β:Type} {t e:TypeId}
theorem qfA{d:DataW H}{k:Nat}:∀{l:List (DataW H)},d ∈ l->k ∈ d.weights P e->k ∈ DataW.weightsAll P e l
 | x::l,h,hk=>by
  rw[DataW.weightsAll];rcases List.mem_cons.1 h with rfl|h
  ·exact List.mem_append_left _ hk
  ·exact List.mem_append_right _ (qfA h hk)
theorem qeQ{d:DataW H}{k:Nat}:∀{ts:List TypeId} {l:List (DataW H)} {i:Nat},ts[i]?=some t->l[i]?=some d->k ∈ d.weights P t->k ∈ DataW.weightsEach P ts l
 | u::ts,x::l,0,h1,h2,hk=>by
  simp at h1 h2;subst h1 h2;rw[DataW.weightsEach];exact List.mem_append_left _ hk
 | u::ts,x::l,i+1,h1,h2,hk=>by
  rw[DataW.weightsEach];exact List.mem_append_right _ (qeQ (i:=i) (by simpa using h1) (by simpa using h2) hk)
 | [],_,_,h,_,_=>by simp at h
 | _::_,[],_,_,h,_=>by simp at h
def qdq(enc:TypeId×Value->H)(P:Program)(w:World)(t:TypeId)(I:α->Prop)(E:α->List AV):Prop :=
 ∀(fuel:Nat) (cs:List Value) x,DataW.trod enc P w 0 (fun _=>true) true fuel t cs=some x->(∀k ∈ x.1.weights P t,k<=reachBytes)->∃a,I a∧CRs σ0 (qmY w) (E a) cs
theorem qeE.ww{I:α->Prop}{E:α->List AV}(h:qeE enc P w t I E):qdq enc P w t I E:=fun fuel cs x hx _=>h fuel cs x hx
theorem qwV{I:α->Prop}{E:α->List AV}{m:Nat}(ht:P.underlying t=some (.slice e))(he:qdq enc P w e I E)(hE:∀a,(E a).length=m)(hc:P.cellsOf e=m)(hm:0<m) :
  qdq enc P w t (fun l:List α=>l.length*P.bytesOf e<=reachBytes∧∀a ∈ l,I a) (fun l=>[.fz l.length (l.flatMap E)]):=by
 intro fuel cs x h hwt;rcases DataW.trod_slice ht h with⟨rfl,_⟩|⟨a,len,cap,elems,rest,n,_,rfl,rfl,_,hl,hmx,hlen,hel,hsp,_⟩
 ·exact⟨[],⟨by simp,fun _ h=>by cases h⟩,.cons _ _ _ _ (.fz0 none) .nil⟩
 obtain⟨hrl,hr⟩:=hsp rfl;have hw1:(elems.length+rest.length)*P.bytesOf e<=reachBytes:=hwt _ (by unfold DataW.weights;rw[ht];simp)
 have hw2:∀d ∈ elems,∀k ∈ d.1.weights P e,k<=reachBytes:=fun d hd k hk=>hwt _ (by
  unfold DataW.weights;rw[ht];refine List.mem_cons_of_mem _ (List.mem_append_left _ (qfA (List.mem_map_of_mem hd) hk)))
 rcases Nat.eq_zero_or_pos cap with h0|hpos
 ·subst h0;obtain rfl:len=0:=by omega
  exact⟨[],⟨by simp,fun _ h=>by cases h⟩,.cons _ _ _ _ (.fz0 (some a)) .nil⟩
 have first:∃v,w.cell? a=some v:=by
  have:∃cs',w.cells? 0 (a.add (0*P.cellsOf e)) (P.cellsOf e)=some cs':=by
   rcases Nat.eq_zero_or_pos len with h1|h1
   ·have:=hr 0 (by omega);have hlt:0<rest.length:=by omega
    rw[zzE hlt,Option.bind_eq_some_iff] at this;obtain⟨c,hc',_⟩:=this;subst h1;exact⟨c,hc'⟩
   ·have:=hel 0 h1;have hlt:0<elems.length:=by omega
    rw[zzE hlt,Option.bind_eq_some_iff] at this;obtain⟨c,hc',_⟩:=this;exact⟨c,hc'⟩
  obtain⟨cs',h2⟩:=this;obtain⟨_,q1,q2⟩:=World.cells?_some h2;have:=q2 0 (by omega);rw[zzE (by omega)] at this;simp only[Nat.zero_mul,Addr.add,if_true] at this;exact⟨_,this⟩
 obtain⟨v0,hv0⟩:=first
 obtain⟨hs,arr,ty,fz,hb,_⟩:=qvt hv0
 have key:∀k,k<=len->∃l:List α,l.length=k∧(∀b ∈ l,I b)∧CRs σ0 (qmY w) (l.flatMap E) ((arr.toList.drop a.off).take (k*m)):=by
  intro k
  induction k with
  | zero=>intro _;exact⟨[],rfl,(fun _ h=>by cases h),by simpa using .nil⟩
  | succ k ih =>
   intro hk;obtain⟨l,h1,h2,h3⟩:=ih (by omega);have hk':=hel k (by omega);have hlt:k<elems.length:=by omega
   rw[zzE hlt,Option.bind_eq_some_iff] at hk';obtain⟨c,hcs,htr⟩:=hk';obtain⟨_,q1,q2⟩:=World.cells?_some hcs;obtain⟨b,hb1,hb2⟩:=he _ _ _ htr (hw2 _ (List.getElem_mem hlt))
   have e1:c=((arr.toList.drop a.off).drop (k*m)).take m:=by
    refine List.ext_getElem? fun j=>?_
    by_cases hj:j<m
    ·have:=q2 j (by omega);rw[← this]
     have e2:w.cell? ((a.add (k*P.cellsOf e)).add j)=arr[a.off+(k*m+j)]?:=by
      have ha:(a.add (k*P.cellsOf e)).add j=⟨a.block,a.off+(k*m+j),none⟩:=by
       unfold Addr.add;rw[hc];split
       ·split
        ·rename_i h4 h5;rw[h4,h5];cases a;simp_all
        ·rename_i h4 h5;rw[h4];simp
       ·split
        ·rename_i h4 h5;rw[h5];cases a;simp_all
        ·simp;omega
      rw[ha];simp[World.cell?,hb]
     rw[e2,List.getElem?_take_of_lt hj,List.getElem?_drop,List.getElem?_drop];simp[Array.getElem?_toList]
    ·rw[List.getElem?_eq_none (by omega),List.getElem?_eq_none];simp;omega
   refine⟨l++[b],by simp[h1],fun x hx=>?_,?_⟩
   ·rcases List.mem_append.1 hx with hx|hx
    ·exact h2 x hx
    ·obtain rfl:=List.mem_singleton.1 hx;exact hb1
   ·rw[List.flatMap_append,Nat.succ_mul,List.take_add,← e1];simpa using h3.app hb2
 obtain⟨l,h1,h2,h3⟩:=key len (Nat.le_refl _);refine⟨l,⟨Nat.le_trans (Nat.mul_le_mul_right _ (by omega)) hw1,h2⟩,.cons _ _ _ _ ?_ .nil⟩
 have hfl:(l.flatMap E).length=len*m:=by
  rw[← h1];clear h1 h2 h3
  induction l with
  | nil=>simp
  | cons x l ih=>simp[hE,ih,Nat.succ_mul,Nat.add_comm]
 obtain⟨blk,off,spot⟩:=a;cases hs;rw[h1];exact .fz len off cap _ blk arr hl (qjx.2 ⟨ty,fz,hb⟩) (by rw[hfl];exact h3)
def qiJ(enc:TypeId×Value->H)(P:Program)(w:World)(fs:List Field)(o n:Nat)(I:α->Prop)(E:α->List AV):Prop :=
 (∀a,(E a).length=n)∧∀(fuel:Nat) (cs:List Value),(∀f ∈ fs,∃x,DataW.trod enc P w 0 (fun _=>true) true fuel f.type ((cs.drop f.offset).take (P.cellsOf f.type))=some x∧∀k ∈ x.1.weights P f.type,k<=reachBytes)->∃a,I a∧CRs σ0 (qmY w) (E a) ((cs.drop o).take n)
theorem qyh{o:Nat}:qiJ enc P w [] o 0 (fun _:Unit=>True) (fun _=>[]):=⟨fun _=>rfl,fun _ cs _=>⟨(),trivial,by simpa using .nil⟩⟩
theorem qwU{f:Field}{fs:List Field}{o m n:Nat}{I:α->Prop}{E:α->List AV}{J:β->Prop}{F:β->List AV}(h:qdq enc P w f.type I E)(hE:∀a,(E a).length=m)(ho:f.offset=o)(hc:P.cellsOf f.type=m)
  (hr:qiJ enc P w fs (o+m) n J F):qiJ enc P w (f::fs) o (m+n) (fun p:α×β=>I p.1∧J p.2) (fun p=>E p.1++F p.2):=by
 refine⟨fun p=>by simp[hE,hr.1],fun fuel cs hf=>?_⟩
 obtain⟨x,hx,hxw⟩:=hf f (List.mem_cons_self ..);obtain⟨a,ha,h1⟩:=h _ _ _ hx hxw;obtain⟨b,hb,h2⟩:=hr.2 fuel cs fun g hg=>hf g (List.mem_cons_of_mem _ hg)
 refine⟨(a,b),⟨ha,hb⟩,?_⟩;rw[ho,hc] at h1;rw[List.take_add,List.drop_drop];exact h1.app h2
theorem quU{fs:Array Field}{n:Nat}{I:α->Prop}{E:α->List AV}(ht:P.underlying t=some (.struct fs))(hc:P.cellsOf t=n)(h:qiJ enc P w fs.toList 0 n I E):qdq enc P w t I E:=by
 intro fuel cs x hx hwt;obtain⟨xs,m,rfl,rfl,hl,hxs,hf⟩:=DataW.trod_struct ht hx
 obtain⟨a,ha,h1⟩:=h.2 m cs fun f hfm=>by
  obtain⟨i,hi⟩:=List.getElem?_of_mem hfm;have hi':fs[i]?=some f:=by simpa using hi
  have:=hf i f hi'
  have hlt:i<xs.length:=by
   rw[hxs];exact (Array.getElem?_eq_some_iff.1 hi').1
  rw[zzE hlt] at this;refine⟨_,this,fun k hk=>hwt _ ?_⟩
  unfold DataW.weights;rw[ht];exact qeQ (i:=i) (t:=f.type) (d:=xs[i].1) (by rw[List.getElem?_map,hi];rfl) (by rw[List.getElem?_map,zzE hlt];rfl) hk
 refine⟨a,ha,?_⟩;rwa [List.drop_zero,List.take_of_length_le (by omega)] at h1
theorem qdq.map{I:α->Prop}{E:α->List AV}{J:β->Prop}{F:β->List AV}(h:qdq enc P w t I E)(g:α->β)(hg:∀a,I a->J (g a)∧F (g a)=E a):qdq enc P w t J F:=by
 intro fuel cs x hx hw;obtain⟨a,ha,h1⟩:=h _ _ _ hx hw;exact⟨g a,(hg a ha).1,by rw[(hg a ha).2];exact h1⟩
theorem qdq.agg [TabOk w]{I:α->Prop}{E:α->List AV}(h:qdq enc P w t I E){v:Value}{d:DataW H}{p:List MemPlace}(ha:∃cs,v = .agg cs)(hd:DataW.Trod enc P w 0 (fun _=>true) true t v d p)(hw:∀k ∈ d.weights P t,k<=reachBytes):∃a,I a∧VR σ0 (ice w) (.agg (E a)) v:=by
 obtain⟨cs,rfl⟩:=ha;obtain⟨fuel,hd⟩:=hd;obtain⟨a,h1,h2⟩:=h _ _ _ hd hw;exact⟨a,h1,.agg _ _ h2.vr⟩
end
end Go.Kc
end
section
namespace Go.Kc
variable {P:Program} {f:Nat}

def qxl(q:IntKind)(p:List UInt8×Int):List AV:=[.s p.1,.i q p.2]
def qj7:List (List UInt8×Int):=[([116,105,109,101],128),([109,110,116],131072),([99,103,114,111,117,112],33554432),([117,116,115],67108864),([105,112,99],134217728),([117,115,101,114],268435456),([112,105,100],536870912),([110,101,116],1073741824)]
def qbu:List (List UInt8×Int):=[([65,70,95,85,78,73,88],1),([65,70,95,73,78,69,84],2),([65,70,95,73,78,69,84,54],10),([65,70,95,78,69,84,76,73,78,75],16),([65,70,95,80,65,67,75,69,84],17),([65,70,95,66,76,85,69,84,79,79,84,72],31),([65,70,95,65,76,71],38),([65,70,95,86,83,79,67,75],40)]
def qeC:List (List UInt8×Int):=[([69,80,69,82,77],1),([69,78,79,69,78,84],2),([69,73,79],5),([69,66,65,68,70],9),([69,65,71,65,73,78],11),([69,78,79,77,69,77],12),([69,65,67,67,69,83],13),([69,70,65,85,76,84],14),([69,66,85,83,89],16),([69,78,79,68,69,86],19),([69,73,78,86,65,76],22),([69,78,79,83,89,83],38),([69,79,80,78,79,84,83,85,80,80],95),([69,65,70,78,79,83,85,80,80,79,82,84],97),([69,84,73,77,69,68,79,85,84],110)]
def qbH(P:Program)(g esz bytes:Nat):Prop:=∀(n:Nat) (rows:List AV),rows.length=n*esz->qu rows=true->qA rows=true->n<=qg->n*bytes<=qg->Own P g [.fz n rows] (.own 0 n) [.cells esz true true rows]
def qBr(b:Bool)(st:Option Nat)(i:Nat):Option Nat:=if b=true then none else (match st with|some s=>some s|none=>some i)
def qxz(b:Bool)(st:Option Nat)(i:Nat)(acc:List (Nat×Nat)):List (Nat×Nat):=if b=true then (match st with|some s=>acc++[(s,i)]|none=>acc) else acc
def qxo(p:Int->Bool)(l:List UInt8)(i:Nat)(st:Option Nat)(acc:List (Nat×Nat)):List (Nat×Nat)×Option Nat :=
 if i<l.length then qxo p l (i+(qdH l i).2) (qBr (p (qdH l i).1) st i) (qxz (p (qdH l i).1) st i acc) else (acc,st)
termination_by l.length-i
decreasing_by have:=qA9 l i;omega
def spans(p:Int->Bool)(l:List UInt8):List (Nat×Nat):=match qxo p l 0 none [] with
 | (acc,some s)=>acc++[(s,l.length)]
 | (acc,none)=>acc
def qvQ(l:List UInt8)(q:Nat×Nat):List UInt8:=(l.take q.2).drop q.1
def qzz(p:Int->Bool)(l:List UInt8):List (List UInt8):=(spans p l).map (qvQ l)
def qFu(l:List UInt8)(st:Option Nat)(z:Int)(i:Nat):Prop:=match st with|some s=>z=(s:Int)∧s<=i∧s<l.length|none=>z<0
structure St where
 i:Nat
 st:Option Nat
 acc:List (Nat×Nat)
 z:Int
structure StI (p:Int->Bool) (l:List UInt8) (a:St):Prop where
 z:qFu l a.st a.z a.i
 lo:-1000001<=a.z
 n:a.acc.length<=a.i
 m:a.acc.length<=l.length
 sp:∀q ∈ a.acc,q.1<=q.2∧q.2<=l.length
 eq:qxo p l a.i a.st a.acc=qxo p l 0 none []
def spc(c:Int):Bool:=decide (c=32)||decide (c=9)||decide (c=13)
def qyu(l:List UInt8):List (List UInt8):=qzz spc l
end Go.Kc
end
section
namespace Go.Kc
end Go.Kc
end
section
namespace Go.Kc
def rI(k:IntKind)(l:List Int):List AV:=l.map (.i k)
section
variable {k:IntKind} {l m:List Int} {j:Nat}
theorem qa1:(rI k l).length=l.length:=by simp[rI]
theorem qhq:qu (rI k l)=true:=qe0 fun _=>rfl
theorem qDS:qA (rI k l)=true:=qp5 fun _=>rfl
theorem qof:(rI k l)[j]?=(l[j]?).map (.i k):=by simp[rI]
theorem qw7{x:Int}:rI k (x::l) = .i k x::rI k l:=rfl
end
section
variable {l m:List (List UInt8)} {j:Nat}
end
end Go.Kc
end
section
namespace Go.Kc
variable {P:Program} {f:Nat}
def qbz{α:Type}(p:α->Bool):List α->Nat->Int
 | [],_=>-1
 | x::xs,j=>if p x=true then (j:Int) else qbz p xs (j+1)
theorem qhR{α:Type}(p:α->Bool):∀(l:List α) (j:Nat),(qbz p l j = -1∧l.find? p=none)∨∃i x,qbz p l j=((j+i:Nat):Int)∧l[i]?=some x∧p x=true∧l.find? p=some x∧∀k y,k<i->l[k]?=some y->p y=false
 | [],j=>.inl ⟨rfl,rfl⟩
 | x::xs,j=>by
  by_cases h:p x=true
  ·refine .inr ⟨0,x,by simp[qbz,h],rfl,h,by simp[h],fun k y hk=>by omega⟩
  ·rcases qhR p xs (j+1) with⟨h1,h2⟩|⟨i,y,h1,h2,h3,h4,h5⟩
   ·exact .inl ⟨by simp[qbz,h,h1],by simp[h,h2]⟩
   ·refine .inr ⟨i+1,y,?_,by simpa using h2,h3,by simp[h,h4],?_⟩
    ·rw[qbz,if_neg h,h1];omega
    ·intro k z hk hz;cases k with
     | zero=>simp at hz;subst hz;simpa using h
     | succ k=>exact h5 k z (by omega) (by simpa using hz)
def qjf(m:Nat)(P:Program)(f:Nat):Prop:=∀{α:Type} (enc:α->List AV) (p:α->Bool) (g:Nat) (a c:List AV) (l:List α),(∀x,(enc x).length=m)->qu a=true->qu c=true->l.length<=qg->
 (∀x ∈ l,qd P g (a++([.agg (enc x)]++c)) (.b (p x)))->qd P f [.fz l.length (l.flatMap enc),.fn g a c] (.i .i64 (qbz p l 0))


def bsN(p:Nat->Bool)(i j:Nat):Nat :=
 if h:i<j then (if p ((i+j) / 2)=true then bsN p ((i+j) / 2+1) j else bsN p i ((i+j) / 2)) else i
termination_by j-i

def xC:List (List UInt8×Int):=[([120,56,54,45,54,52],3221225534),([120,56,54],1073741827),([120,51,50],3221225534),([97,114,109],1073741864),([97,114,109,54,52],3221225655),([114,105,115,99,118,54,52],3221225715)]
def qf6:IFn:=⟨[.cell 0 12 true],.seq (.r [.q 0 (.alloc [.s [],.i .u32 0,.s [],.i .u32 0,.s [],.i .u32 0,.s [],.i .u32 0,.s [],.i .u32 0,.s [],.i .u32 0])]) (.seq (.r [.q 1 (.build [.s [],.i .u32 0] [(0,1,(.c (.s [120,56,54,45,54,52]))),(1,1,(.c (.i .u32 3221225534)))]),.q 2 (.build [.s [],.i .u32 0] [(0,1,(.c (.s [120,56,54]))),(1,1,(.c (.i .u32 1073741827)))]),.q 3 (.build [.s [],.i .u32 0] [(0,1,(.c (.s [120,51,50]))),(1,1,(.c (.i .u32 3221225534)))]),.q 4 (.build [.s [],.i .u32 0] [(0,1,(.c (.s [97,114,109]))),(1,1,(.c (.i .u32 1073741864)))]),.q 5 (.build [.s [],.i .u32 0] [(0,1,(.c (.s [97,114,109,54,52]))),(1,1,(.c (.i .u32 3221225655)))]),.q 6 (.build [.s [],.i .u32 0] [(0,1,(.c (.s [114,105,115,99,118,54,52]))),(1,1,(.c (.i .u32 3221225715)))]),.q 7 (.build [.s [],.i .u32 0,.s [],.i .u32 0,.s [],.i .u32 0,.s [],.i .u32 0,.s [],.i .u32 0,.s [],.i .u32 0] [(0,2,(.t 1)),(2,2,(.t 2)),(4,2,(.t 3)),(6,2,(.t 4)),(8,2,(.t 5)),(10,2,(.t 6))]),.u (.store 12 (.t 0) (.t 7))]) (.ret))⟩
theorem qyQ(hc:qc P f qf6=true):qd P f [] (.agg (xC.flatMap (qxl .u32))):=by
 refine qd.mk hc rfl ?_;simp only[qf6,vI,simprocAttr];simp only[↓vS,vT,simprocAttr,xC,qxl,List.flatMap_cons,List.flatMap_nil,vZ]
end Go.Kc
end
section
namespace Go.Kc
structure GCall where
 name:List UInt8
 act:Int
def qCS(c:GCall):List AV:=[.s c.name,.i .u32 c.act]
structure GNote where
 file:List UInt8
 line:Int
 err:Int
 text:List UInt8
def qCT(n:GNote):List AV:=[.s n.file,.i .i64 n.line,.i .i64 n.err,.s n.text]
structure Asg where
 file:List UInt8
 line:Int
 sec:List UInt8
 key:List UInt8
 val:List UInt8
def qEv(a:Asg):List AV:=[.s a.file,.i .i64 a.line,.s a.sec,.s a.key,.s a.val]
def rC(l:List GCall):List AV:=l.flatMap qCS
section
variable {l m:List GCall} {j:Nat}
end
def rN(l:List GNote):List AV:=l.flatMap qCT
section
variable {l m:List GNote} {j:Nat}
end
structure GList where
 mode:Int
 calls:List GCall
def qoD(l:GList):List AV:=[.i .u8 l.mode,.fz l.calls.length (rC l.calls)]
structure Pol where
 arches:List Int
 filter:GList
 deny:Int
 log:GList
 fams:List Int
 fmode:Int
 spaces:Int
 we:Bool
 pe:Bool
 rt:Bool
 np:Bool
def qvn(p:Pol):List AV:=[.fz p.arches.length (rI .i64 p.arches),.i .u8 p.filter.mode,.fz p.filter.calls.length (rC p.filter.calls),.i .u32 p.deny,.i .u8 p.log.mode,.fz p.log.calls.length (rC p.log.calls),
 .fz p.fams.length (rI .u32 p.fams),.i .u8 p.fmode,.i .u64 p.spaces,.b p.we,.b p.pe,.b p.rt,.b p.np]
def qw3:Pol:=⟨[],⟨0,[]⟩,0,⟨0,[]⟩,[],0,0,false,false,false,false⟩
end Go.Kc
end
section
namespace Go.Kc
variable {P:Program} {f:Nat}

def qsy(s:List UInt8)(no:Int):List (List UInt8×Int)->Int×Int
 | []=>(0,no)
 | p::l=>if p.1=s then (p.2,0) else qsy s no l
def quL(v:List UInt8):List UInt8×Bool:=if [126].isPrefixOf v=true then (v.drop 1,true) else (v,false)

theorem qbH.pure{g esz by':Nat}(h:qbH P g esz by'){n:Nat}{rows:List AV}(hl:rows.length=n*esz)(hc:qu rows=true)(ho:qA rows=true)(h1:n<=qg)(h2:n*by'<=qg):qd P g [.fz n rows] (.fz n rows):=by
 refine (h n rows hl hc ho h1 h2).pure (by simp[qu,clo]) ?_;refine .own 0 n esz true rows rows ?_ (fun h0=>?_) (Frzs.self hc)
 ·simp[xV,Hp.push,shb,H0,Tr.get_set,zZ hc]
 ·subst h0;exact List.eq_nil_of_length_eq_zero (by omega)
structure PolOk (p:Pol):Prop where
 a:p.arches.length<=1000
 f:p.fams.length<=1000
 c:p.filter.calls.length<=1000
 l:p.log.calls.length<=1000
def qDl:List UInt8:=[83,121,115,116,101,109,67,97,108,108,65,114,99,104,105,116,101,99,116,117,114,101,115]
def qES:List UInt8:=[82,101,115,116,114,105,99,116,65,100,100,114,101,115,115,70,97,109,105,108,105,101,115]
def kSp:List UInt8:=[82,101,115,116,114,105,99,116,78,97,109,101,115,112,97,99,101,115]


end Go.Kc
end
section
namespace Go.Kc
def qCs(p:Pol):Prop:=p.arches.Pairwise (· < ·)∧p.fams.Pairwise (· < ·)
instance (p:Pol):Decidable (qCs p):=inferInstanceAs (Decidable (_∧_))
end Go.Kc
end
section
namespace Go.Kc
variable {P:Program} {f:Nat}

def oB(p q:Pol)(a:Asg):List Blk:=[.cells 0 true false (qvn p),.cells 0 true false (qEv a),.cells 0 true false (qvn q)]
def qsg:List UInt8->Nat->Option Nat
 | [],n=>some n
 | c::l,n=>if c.toNat<48∨57<c.toNat then none else qsg l (10*n+(c.toNat-48))
def qnZ(s:List UInt8):Int×Int :=
 if (qsy s 160 qeC).2=0 then ((qsy s 160 qeC).1,0)
 else if 4<s.length then (0,160) else if s=[] then (0,160) else match qsg s 0 with|none=>(0,160)|some n=>if 4095<n then (0,160) else ((n:Int),0)
def qDp:List UInt8:=[107,105,108,108]
def qwh:List UInt8:=[83,121,115,116,101,109,67,97,108,108,70,105,108,116,101,114]
def qET:List UInt8:=[83,121,115,116,101,109,67,97,108,108,76,111,103]
def qEs(n:Int):Bool:=decide (n=0)||decide (n=2147483648)||(decide (327680<=n)&&decide (n<=331775))
def qe5(l:List GCall)(s:List UInt8):Option GCall:=l.find? (fun c=>decide (c.name=s))
def bsQ(l:List GCall)(cm:GCall->Int)(k:Nat):Bool:=(l[k]?).elim false (fun c=>decide (cm c<0))
def bsC(l:List GCall)(cm:GCall->Int):Nat:=bsN (bsQ l cm) 0 l.length

def qaD:List (List UInt8×List Int):=[([98,105,110,100],[49,361,49,282,200,200]),([98,112,102],[321,357,321,386,280,280]),([98,114,107],[12,45,12,45,214,214]),([99,108,111,99,107,95,115,101,116,116,105,109,101],[227,264,227,262,112,112]),([99,108,111,110,101],[56,120,56,120,220,220]),([99,108,111,110,101,51],[435,435,(-1),435,435,435]),([99,108,111,115,101],[3,6,3,6,57,57]),([99,111,110,110,101,99,116],[42,362,42,283,203,203]),([100,101,108,101,116,101,95,109,111,100,117,108,101],[176,129,176,129,106,106]),([101,120,101,99,118,101],[59,11,520,11,221,221]),([101,120,105,116],[60,1,60,1,93,93]),([102,105,110,105,116,95,109,111,100,117,108,101],[313,350,313,379,273,273]),([102,111,114,107],[57,2,57,2,(-1),(-1)]),([103,101,116,117,105,100],[102,24,102,24,174,174]),([105,110,105,116,95,109,111,100,117,108,101],[175,128,(-1),128,105,105]),([105,111,99,116,108],[16,54,514,54,29,29]),([107,105,108,108],[62,37,62,37,129,129]),([108,105,115,116,101,110],[50,363,50,284,201,201]),([109,109,97,112],[9,90,9,(-1),222,222]),([109,111,117,110,116],[165,21,165,21,40,40]),([109,112,114,111,116,101,99,116],[10,125,10,125,226,226]),([109,117,110,109,97,112],[11,91,11,91,215,215]),([111,112,101,110],[2,5,2,5,(-1),(-1)]),([111,112,101,110,97,116],[257,295,257,322,56,56]),([112,101,114,115,111,110,97,108,105,116,121],[135,136,135,136,92,92]),([112,107,101,121,95,109,112,114,111,116,101,99,116],[329,380,329,394,288,(-1)]),([112,116,114,97,99,101],[101,26,521,26,117,117]),([114,101,97,100],[0,3,0,3,63,63]),([114,101,98,111,111,116],[169,88,169,88,142,142]),([115,99,104,101,100,95,115,101,116,97,116,116,114],[314,351,314,380,274,274]),([115,99,104,101,100,95,115,101,116,115,99,104,101,100,117,108,101,114],[144,156,144,156,119,119]),([115,101,99,99,111,109,112],[317,354,317,383,277,277]),([115,101,116,110,115],[308,346,308,375,268,268]),([115,101,116,116,105,109,101,111,102,100,97,121],[164,79,164,79,170,170]),([115,101,116,117,105,100],[105,23,105,23,146,146]),([115,104,109,97,116],[30,397,(-1),305,196,196]),([115,111,99,107,101,116],[41,359,41,281,198,198]),([117,109,111,117,110,116,50],[166,52,166,52,39,39]),([117,110,115,104,97,114,101],[272,310,272,337,97,97]),([119,114,105,116,101],[1,4,1,4,64,64])]
def qlL(s:List UInt8):Bool:=(qaD.find? (fun x=>decide (x.1=s))).isSome
def okC(c:GCall):Bool:=qlL c.name&&qEs c.act
noncomputable def qkd:Option GCall->List GCall->Bool
 | _,[]=>true
 | o,c::l=>okC c&&(o.elim true fun b=>ltS b.name c.name)&&qkd (some c) l
noncomputable def qhl(l:GList):Bool:=decide (l.mode<=2)&&(decide (l.mode≠0)||decide (l.calls=[]))&&qkd none l.calls
noncomputable def qD3(l:GList)(s:List UInt8):GList:=if qhl l=true then ⟨l.mode,l.calls.filter fun c=>!decide (c.name=s)⟩ else l
noncomputable def qE7(l:List GCall)(s:List UInt8)(n:Int):List GCall :=
 if (l[bsC l (fun c=>qsa c.name s)]?).elim false (fun c=>decide (qsa c.name s=0))=true then l.set (bsC l (fun c=>qsa c.name s)) ⟨s,n⟩
 else l.take (bsC l (fun c=>qsa c.name s))++⟨s,n⟩::l.drop (bsC l (fun c=>qsa c.name s))
noncomputable def qE8(l:GList)(s:List UInt8)(n:Int):GList:=if qhl l=true then ⟨l.mode,qE7 l.calls s n⟩ else l
def qlz(a:List UInt8):List UInt8×List UInt8×Bool:=if 0<=qv7 58 a 0 then (a.take (qv7 58 a 0).toNat,a.drop ((qv7 58 a 0).toNat+1),true) else (a,[],false)
structure Word where
 name:List UInt8
 act:Int
 has:Bool
noncomputable def qgp(a:List UInt8):Word×Int :=
 if (qlz a).1=[] then (⟨[],0,false⟩,161)
 else if (qlz a).2.2=false then (⟨(qlz a).1,0,false⟩,0)
 else if (qlz a).2.1=qDp then (⟨(qlz a).1,2147483648,true⟩,0)
 else if (qnZ (qlz a).2.1).2=0 then (⟨(qlz a).1,327680+(qnZ (qlz a).2.1).1,true⟩,0)
 else (⟨[],0,false⟩,(qnZ (qlz a).2.1).2)

def qtn(E:List UInt8->List (List UInt8)×Int)(s:List UInt8):List (List UInt8)×Int:=if [64].isPrefixOf s=true then E s else if qlL s=true then ([s],0) else ([],90)
def qtE(e:Int)(w:List UInt8):GNote:=⟨[],0,e,w.take 60⟩
end Go.Kc
end
section
namespace Go.Kc
variable (E:List UInt8->List (List UInt8)×Int)
noncomputable def qux(ins:Bool)(act:Int)(l:GList)(n:List UInt8):GList:=if ins=true then qE8 l n act else qD3 l n
noncomputable def qDZ(fl t:Bool)(s:GList×List GNote)(w:List UInt8):GList×List GNote :=
 if (qgp w).2≠0 then (s.1,s.2++[qtE (qgp w).2 w])
 else if (qtn E (qgp w).1.name).2≠0 then (s.1,s.2++[qtE (qtn E (qgp w).1.name).2 w])
 else if (qgp w).1.has=false then ((qtn E (qgp w).1.name).1.foldl (qux (decide (s.1.mode-1=if t=true then 1 else 0)) (qgp w).1.act) s.1,s.2)
 else if fl=false∨t=false then ((qtn E (qgp w).1.name).1.foldl (qux (decide (s.1.mode-1=if t=true then 1 else 0)) 0) s.1,s.2++[qtE 161 w])
 else ((qtn E (qgp w).1.name).1.foldl (qux true (qgp w).1.act) s.1,s.2)
noncomputable def qgq(l:GList)(v:List UInt8)(fl:Bool):GList×List GNote :=
 if qhl l=false then (l,[])
 else if qyu v=[] then (⟨0,[]⟩,[])
 else (qyu (quL v).1).foldl (qDZ E fl (quL v).2) (⟨if l.mode=0 then (if (quL v).2=true then 2 else 1) else l.mode,l.calls⟩,[])
end Go.Kc
end
section
namespace Go.Kc
theorem qo2:∀a:List UInt8,ltS a a=false
 | []=>rfl
 | c::x=>by rw[qnc,if_neg (UInt8.lt_irrefl c),if_pos rfl];exact qo2 x
theorem qkV:∀{a b c:List UInt8},ltS a b=true->ltS b c=true->ltS a c=true
 | _,[],[],_,h2=>by simp[qwq] at h2
 | _,_::_,[],_,h2=>by simp[qnd] at h2
 | [],_,_::_,_,_=>rfl
 | _::_,[],_::_,h1,_=>by simp[qnd] at h1
 | a::x,b::y,c::z,h1,h2=>by
  rw[qnc] at h1 h2 ⊢;simp only[UInt8.lt_iff_toNat_lt,← UInt8.toNat_inj] at h1 h2 ⊢
  by_cases e1:a.toNat<b.toNat
  ·by_cases e2:b.toNat<c.toNat
   ·rw[if_pos (by omega)]
   ·rw[if_neg e2] at h2;split at h2
    ·rw[if_pos (by omega)]
    ·cases h2
  ·rw[if_neg e1] at h1;split at h1
   ·rename_i e3
    by_cases e2:b.toNat<c.toNat
    ·rw[if_pos (by omega)]
    ·rw[if_neg e2] at h2;split at h2
     ·rw[if_neg (by omega),if_pos (by omega)];exact qkV h1 h2
     ·cases h2
   ·cases h1
theorem qtk{a b:List UInt8}(h:ltS a b=true):a≠b:=by
 intro e;rw[e,qo2] at h;cases h
def Up(l:List GCall):Prop:=l.Pairwise fun a b=>ltS a.name b.name=true
theorem qke:∀(o:Option GCall) (l:List GCall),qkd o l=true↔((∀c ∈ l,okC c=true)∧Up l∧∀b,o=some b->∀c ∈ l,ltS b.name c.name=true)
 | o,[]=>by simp[qkd,Up]
 | o,c::l=>by
  have ih:=qke (some c) l;simp only[qkd,Bool.and_eq_true,ih,Up,List.pairwise_cons,List.mem_cons,forall_eq_or_imp];constructor
  ·rintro⟨⟨h1,h2⟩,h3,h4,h5⟩;refine⟨⟨h1,h3⟩,⟨h5 c rfl,h4⟩,?_⟩;rintro b rfl;exact⟨h2,fun d hd=>qkV h2 (h5 c rfl d hd)⟩
  ·rintro⟨⟨h1,h3⟩,⟨h5,h4⟩,h6⟩;refine⟨⟨h1,?_⟩,h3,h4,?_⟩
   ·cases o with
    | none=>rfl
    | some b=>exact (h6 b rfl).1
   ·rintro b hb;cases hb;exact h5
theorem qng(l:GList):qhl l=true↔(l.mode<=2∧(l.mode≠0∨l.calls=[]))∧(∀c ∈ l.calls,okC c=true)∧Up l.calls:=by
 unfold qhl;rw[Bool.and_eq_true,Bool.and_eq_true,Bool.or_eq_true,decide_eq_true_eq,decide_eq_true_eq,decide_eq_true_eq,qke];simp
theorem qfO{α:Type} [DecidableEq α]:∀{l t:List α},l.Nodup->(∀x ∈ l,x ∈ t)->l.length<=t.length
 | [],_,_,_=>Nat.zero_le _
 | x::l,t,hn,hs=>by
  have hn':=List.nodup_cons.1 hn;have hx:=hs x List.mem_cons_self;have h1:=qfO (t:=t.erase x) hn'.2 (fun y hy=>(List.mem_erase_of_ne (fun (e:y=x)=>hn'.1 (by rw[← e];exact hy))).2 (hs y (List.mem_cons_of_mem _ hy)))
  have h2:=List.length_erase_of_mem hx;have h3:0<t.length:=List.length_pos_of_mem hx;simp only[List.length_cons];omega
theorem qn6{s:List UInt8}(h:qlL s=true):s ∈ qaD.map (·.1):=by
 unfold qlL at h;obtain⟨x,hx⟩:=Option.isSome_iff_exists.1 h;have h1:=List.mem_of_find?_eq_some hx;have h2:=List.find?_some hx;exact List.mem_map.2 ⟨x,h1,of_decide_eq_true h2⟩
theorem qo4{l:GList}(h:qhl l=true):l.calls.length<=40:=by
 obtain⟨_,h1,h2⟩:=(qng l).1 h
 have:=qfO (l:=l.calls.map (·.name)) (t:=qaD.map (·.1)) (List.pairwise_map.2 (List.Pairwise.imp (R:=fun a b:GCall=>ltS a.name b.name=true) (fun hab=>qtk hab) h2)) (by
  intro x hx;obtain⟨c,hc,rfl⟩:=List.mem_map.1 hx;have:=h1 c hc;simp only[okC,Bool.and_eq_true] at this;exact qn6 this.1)
 have e:(qaD.map (·.1)).length=40:=by rw[List.length_map];rfl
 rw[List.length_map] at this;omega
end Go.Kc
end
section
namespace Go.Kc
variable (E:List UInt8->List (List UInt8)×Int)
variable {E}
end Go.Kc
end
section
namespace Go.Kc
variable {P:Program} {f:Nat}


def qrO(P:Program)(f:Nat):Prop:=∀(l:GList) (s:List UInt8),l.calls.length<=100000->qd P f [.agg (qoD l),.s s] (.tup [.i .u32 (match qe5 l.calls s with|some c=>c.act|none=>0),.b (qe5 l.calls s).isSome])
def qjP(a:Asg)(n:GNote):GNote:=⟨a.file,a.line,n.err,n.text⟩



end Go.Kc
end
