/- Part 6 of the abstract machine and of the functions' walks. Conditions: with each theorem. -/
import Derived.Test.YtpopmjgimhmciaaGreatK5
import Derived.Laws.Externs
import Derived.Lib.Overlaps
import GoSem.ClaimChange
import Derived.ChangeArms
import Derived.ReadAgain
import Derived.ChangeOld
import Derived.ChangeBears
import Derived.OpenShut
set_option linter.unusedSimpArgs false
set_option linter.unusedVariables false
set_option linter.unnecessarySimpa false
set_option linter.defProp false
section
/- Frames, written out. No condition. -/
namespace Go.Kc
variable {P:Program} {h:Hp}

def vo(h:Hp)(g:Nat->Nat)(m:Nat):List Nat->List Blk->Prop
 | [],[]=>True
 | b::at',.cells e true a cs::xs=>(xS m cs=true∧evB (h.tr.get b) (fun y=>y=Blk.cells e true a (jo g cs))∧h.fl<=b∧b<h.sz)∧vo h g m at' xs
 | _,_=>False
theorem vo.get{g:Nat->Nat}{m:Nat}:∀{at':List Nat} {bs:List Blk},vo h g m at' bs->at'.length=bs.length∧∀(i:Nat) (x:Blk),bs[i]?=some x->∃b e a cs,at'[i]?=some b∧x = .cells e true a cs∧xS m cs=true∧h.tr.get b=some (.cells e true a (jo g cs))∧h.fl<=b∧b<h.sz
 | [],[],_=>⟨rfl,by simp⟩
 | [],_::_,hh=>by simp[vo] at hh
 | _::_,[],hh=>by simp[vo] at hh
 | b::at',.dead::xs,hh=>by simp[vo] at hh
 | b::at',.map _::xs,hh=>by simp[vo] at hh
 | b::at',.cells e false a cs::xs,hh=>by simp[vo] at hh
 | b::at',.cells e true a cs::xs,hh=>by
  obtain⟨⟨h1,⟨y,h2,h3⟩,h4,h5⟩,h6⟩:=hh;subst h3;obtain⟨h7,h8⟩:=vo.get h6;refine⟨by simp[h7],fun i x hx=>?_⟩
  cases i with
  | zero=>simp at hx;subst hx;exact⟨b,e,a,cs,rfl,rfl,h1,h2,h4,h5⟩
  | succ i=>simpa using h8 i x (by simpa using hx)
theorem Lent.of{at':List Nat}{bs:List Blk}(hn:at'.Nodup)(hl:vo h (gAt at' h.sz) bs.length at' bs):Lent h at' bs:=by
 obtain⟨h1,h2⟩:=hl.get;refine⟨h1,hn,fun i x hx=>?_⟩
 obtain⟨b,e,a,cs,q1,q2,q3,q4,q5,q6⟩:=h2 i x hx;have hi:i<at'.length:=(List.getElem?_eq_some_iff.1 q1).1
 have e1:gAt at' h.sz i=b:=by
  rw[wZ hi];exact (List.getElem?_eq_some_iff.1 q1).2
 exact⟨e,a,cs,q2,q3,by rw[e1];exact q4,by rw[e1];exact q5,by rw[e1];exact q6⟩
theorem qgP{g:Nat->Nat}{m:Nat}:vo h g m [] []↔True:=Iff.rfl
theorem qe4{g:Nat->Nat}{m b e:Nat}{at':List Nat}{a:Bool}{cs:List AV}{xs:List Blk}:vo h g m (b::at') (.cells e true a cs::xs)↔(xS m cs=true∧evB (h.tr.get b) (fun y=>y=Blk.cells e true a (jo g cs))∧h.fl<=b∧b<h.sz)∧vo h g m at' xs:=Iff.rfl
theorem zC{s f b:Nat}{tr:Tr Blk}{x:Blk}:Hp.put ⟨s,f,tr⟩ b x=⟨s,f,tr.set b x⟩:=rfl
theorem qc3{xs:List Blk}:w9 h [] xs=h:=by simp[w9]
theorem qbw{b:Nat}{at':List Nat}{x:Blk}{xs:List Blk}:w9 h (b::at') (x::xs)=w9 (h.put b x) at' xs:=rfl
theorem qjZ{g:Nat->Nat}{v:AV}(hv:clo v=true):rnv g v=v:=by
 have key:(∀v:AV,clo v=true->rnv g v=v):=fun v=>by
  refine AV.rec (motive_1:=fun v=>clo v=true->rnv g v=v) (motive_2:=fun vs=>qx vs=true->jo g vs=vs) ?_ ?_ ?_ ?_ ?_ ?_ ?_ ?_ ?_ ?_ ?_ ?_ ?_ ?_ ?_ ?_ ?_ ?_ ?_ ?_ ?_ ?_ ?_ ?_ ?_ ?_ v
  all_goals first
   | (intros;rfl)
   | (intros;rename_i hh;simp[clo] at hh;done)
   | skip
  ·intro f a c h1 h2 hh;simp only[clo,Bool.and_eq_true] at hh;simp only[rnv,h1 hh.1,h2 hh.2]
  ·intro t v h1 hh;simp only[clo] at hh;simp only[rnv,h1 hh]
  ·intro cs h1 hh;simp only[clo] at hh;simp only[rnv,h1 hh]
  ·intro cs h1 hh;simp only[clo] at hh;simp only[rnv,h1 hh]
  ·intro v vs h1 h2 hh;simp only[qx,Bool.and_eq_true] at hh;simp only[jo,h1 hh.1,h2 hh.2]
 exact key v hv
theorem qd{g:Nat->Nat}:∀{vs:List AV},qx vs=true->jo g vs=vs
 | [],_=>rfl
 | v::vs,h=>by
  simp only[qx,Bool.and_eq_true] at h;simp only[jo,qjZ h.1,qd h.2]
def zx:Blk->Bool
 | .dead=>false
 | _=>true
theorem qbv{α β:Type}{f:α->β}{p:α->Bool}:∀{l:List α},((l.filter p).map f).Nodup->∀{i j:Nat} {x y:α},l[i]?=some x->l[j]?=some y->p x=true->p y=true->f x=f y->i=j
 | [],_,i,j,x,y,hi,_,_,_,_=>by simp at hi
 | a::l,hn,i,j,x,y,hi,hj,hx,hy,he=>by
  have tail:((l.filter p).map f).Nodup:=by
   rw[List.filter_cons] at hn;split at hn
   ·exact (List.nodup_cons.1 hn).2
   ·exact hn
  have no:∀{z:α} {m:Nat},l[m]?=some z->p z=true->p a=true->f a=f z->False:=by
   intro z m hz hpz hpa hfz;rw[List.filter_cons,if_pos hpa] at hn;exact (List.nodup_cons.1 hn).1 (hfz ▸ List.mem_map_of_mem (List.mem_filter.2 ⟨List.mem_of_getElem? hz,hpz⟩))
  cases i with
  | zero =>
   simp at hi;subst hi;cases j with
   | zero=>rfl
   | succ j=>exact (no (by simpa using hj) hy hx he).elim
  | succ i =>
   cases j with
   | zero=>simp at hj;subst hj;exact (no (by simpa using hi) hx hy he.symm).elim
   | succ j =>
    have hij:i=j:=qbv tail (i:=i) (j:=j) (by simpa using hi) (by simpa using hj) hx hy he;rw[hij]
theorem Wk.mkd{n:Nat}{t:Tr AV}(ts:List (Nat×AV))(bl:List Blk)(src:List Nat)(hT:TWs t (rl src h.sz) bl.length ts)(hB:BWs h (rl src h.sz) bl.length src bl)
  (hI:(((src.zip bl).filter fun p=>decide (p.1<h.sz)&&zx p.2).map Prod.fst).Nodup) (hfl:h.fl=0) (hn:n<=bl.length) (hlow:∀b,b<n->rl src h.sz b=b):Wk n t h (mkT ts) (mkH 0 bl):=by
 obtain⟨hlen,hget⟩:=hB.get;refine Wk.of (r:=rl src h.sz) ⟨hfl.symm,fun b' x' hb hg=>?_,fun b1 b2 h1 h2 l1 l2 he hl=>?_,fun b' _ _ _=>by rw[hfl];exact Nat.zero_le _,hlow,hn,fun b _ hb=>by rw[hfl] at hb;exact absurd hb (Nat.not_lt_zero _),fun j v' hj=>?_⟩
 ·rw[zO] at hg;obtain⟨b,q1,q2⟩:=hget b' x' hg;have:rl src h.sz b'=b:=by simp[rl,List.getD_eq_getElem?_getD,q1]
  rw[this];exact q2
 ·obtain⟨x1,g1,d1⟩:=l1;obtain⟨x2,g2,d2⟩:=l2;rw[zO] at g1 g2;obtain⟨c1,q1,_⟩:=hget b1 x1 g1;obtain⟨c2,q2,_⟩:=hget b2 x2 g2;have e1:rl src h.sz b1=c1:=by simp[rl,List.getD_eq_getElem?_getD,q1]
  have e2:rl src h.sz b2=c2:=by simp[rl,List.getD_eq_getElem?_getD,q2]
  rw[e1,e2] at he;rw[e1] at hl;have v1:zx x1=true:=by cases x1<;>first|rfl|exact absurd rfl d1
  have v2:zx x2=true:=by cases x2<;>first|rfl|exact absurd rfl d2
  refine qbv hI (i:=b1) (j:=b2) (x:=(c1,x1)) (y:=(c2,x2)) ?_ ?_ ?_ ?_ he
  ·rw[List.getElem?_zip_eq_some];exact⟨q1,g1⟩
  ·rw[List.getElem?_zip_eq_some];exact⟨q2,g2⟩
  ·simp[hl,v1]
  ·simp[← he,hl,v2]
 ·exact hT.get _ (kh hj)
theorem qfd{b o:Nat}{k:AV->Prop}:Za (.ptr b o) k↔k (.ptr b o):=Iff.rfl
theorem qg4{cs:List AV}{o:Nat}{k:AV->Prop}:Za (.pf cs o) k↔k (.pf cs o):=Iff.rfl
theorem qfc{b:Nat}{k:AV->Prop}:Za (.map b) k↔k (.map b):=Iff.rfl
theorem qg5{b:Nat}{k:AV->Prop}:Za (.yl b) k↔k (.yl b):=Iff.rfl
theorem qg3{f:Nat}{a c:List AV}{k:AV->Prop}:Za (.fn f a c) k↔k (.fn f a c):=Iff.rfl
theorem qkl{C:qW}{ops:List ROp}{Q:Tr AV->Hp->Prop}{t:Tr AV}{s f f':Nat}{tr:Tr Blk}:VR' C ops Q t (Hp.down ⟨s,f,tr⟩ f')↔VR' C ops Q t ⟨s,f',tr⟩:=Iff.rfl
theorem qpi{C:qW}{ops:List ROp}{Q:Tr AV->Hp->Prop}{t:Tr AV}{s f:Nat}{tr:Tr Blk}{dst:Option Nat}{o:IOp}:VR' C (⟨dst,.op o,none⟩::ops) Q t ⟨s,f,tr⟩ ↔
  if wr (.op o)=true then opK qu o t ⟨s,f,tr⟩ (fun v h'=>xA t dst v (fun t'=>VR' C ops Q t' h')) else opK qu o t ⟨s,s,tr⟩ (fun v h'=>xA t dst v (fun t'=>VR' C ops Q t' (h'.down f))):=qkX
theorem qnn{C:qW}{Q:Tr AV->Hp->Prop}{t:Tr AV}{s f:Nat}{tr:Tr Blk}:VR' C [] Q t ⟨s,f,tr⟩↔Q t ⟨s,f,tr⟩:=Iff.rfl
theorem qim{m:Nat}:∀{v:AV},clo v=true->bnd m v=true:=by
 intro v;refine AV.rec (motive_1:=fun v=>clo v=true->bnd m v=true) (motive_2:=fun vs=>qx vs=true->xS m vs=true) ?_ ?_ ?_ ?_ ?_ ?_ ?_ ?_ ?_ ?_ ?_ ?_ ?_ ?_ ?_ ?_ ?_ ?_ ?_ ?_ ?_ ?_ ?_ ?_ ?_ ?_ v
 all_goals first
  | (intros;rfl)
  | (intros;rename_i hh;simp[clo] at hh;done)
  | skip
 ·intro f a c h1 h2 hh;simp only[clo,Bool.and_eq_true] at hh;simp only[bnd,h1 hh.1,h2 hh.2,Bool.and_self]
 ·intro t v h1 hh;simp only[clo] at hh;simp only[bnd,h1 hh]
 ·intro cs h1 hh;simp only[clo] at hh;simp only[bnd,h1 hh]
 ·intro cs h1 hh;simp only[clo] at hh;simp only[bnd,h1 hh]
 ·intro v vs h1 h2 hh;simp only[qx,Bool.and_eq_true] at hh;simp only[xS,h1 hh.1,h2 hh.2,Bool.and_self]
theorem qw{m:Nat}:∀{vs:List AV},qx vs=true->xS m vs=true
 | [],_=>rfl
 | v::vs,h=>by
  simp only[qx,Bool.and_eq_true] at h;simp only[xS,qim h.1,qw h.2,Bool.and_self]
end Go.Kc
end
section
/- One name for the lemmas that every walk names. No condition. -/
namespace Go.Kc
def vQ:=And.intro @List.map_cons.{0,0} (And.intro @List.map_nil.{0,0} (And.intro @Bool.and_true (And.intro @Bool.true_and (And.intro @Bool.and_self (And.intro @and_self (And.intro @Tr.get_set (And.intro @decide_eq_true_eq (And.intro @Bool.false_eq_true (And.intro @true_and (And.intro @and_true (And.intro @List.getElem?_cons_zero.{0} (And.intro @List.getElem?_cons_succ.{0} (And.intro @List.length_cons.{0} (And.intro @List.length_nil.{0} (And.intro @List.take_zero.{0} (And.intro @List.take_succ_cons.{0} (And.intro @List.drop_zero.{0} (And.intro @List.drop_succ_cons.{0} (And.intro @List.drop_nil.{0} (And.intro @List.take_nil.{0} (And.intro @List.nil_append.{0} (And.intro @List.cons_append.{0} (And.intro @List.append_nil.{0} (And.intro @Nat.zero_add (And.intro @Nat.add_zero (And.intro @Nat.le_refl (And.intro @Nat.zero_le (And.intro @Int.toNat_natCast (And.intro @Int.natCast_nonneg (And.intro @Int.ofNat_lt (And.intro @Bool.not_true (And.intro @Bool.not_false (And.intro @decide_true (And.intro @decide_false (And.intro @Bool.xor_false (And.intro @Bool.xor_true (And.intro @Bool.false_xor (And.intro @Bool.true_xor (And.intro @Nat.lt_irrefl (And.intro @List.replicate_succ.{0} (And.intro @List.replicate_zero.{0} (And.intro @List.flatten_cons.{0} (And.intro @List.flatten_nil.{0} (And.intro @Nat.succ_eq_add_one (And.intro @Option.isNone_none.{0} (And.intro @Option.isSome_none.{0} (And.intro @Bool.false_and (And.intro @Bool.and_false (And.intro @Nat.sub_zero (And.intro @qc3 (And.intro @qbw (And.intro @zC (And.intro @qjd (And.intro @qaj (And.intro @yo (And.intro @kl @List.append_assoc.{0}))))))))))))))))))))))))))))))))))))))))))))))))))))))))
def vX:=And.intro @qkl (And.intro @qpi (And.intro @qnn (And.intro @qhs (And.intro @qht (And.intro @qfk (And.intro @qhq (And.intro @qfd (And.intro @qg4 (And.intro @qfc (And.intro @qg5 @qg3))))))))))
def vU:=And.intro @shb.eq_1 (And.intro @shb.eq_2 (And.intro @shb.eq_3 (And.intro @shv.eq_1 (And.intro @shv.eq_2 (And.intro @shv.eq_3 (And.intro @shv.eq_4 (And.intro @shv.eq_5 (And.intro @shv.eq_6 (And.intro @shv.eq_7 (And.intro @shv.eq_8 (And.intro @shv.eq_9 (And.intro @shv.eq_10 (And.intro @kB.eq_1 @kB.eq_2)))))))))))))
def vY:=And.intro vU (And.intro @kF.eq_1 (And.intro @kF.eq_2 (And.intro @cellsOf.eq_1 (And.intro @cellsOf.eq_2 (And.intro @wr.eq_1 (And.intro @wr.eq_2 (And.intro @wr.eq_3 (And.intro @wr.eq_4 (And.intro @wr.eq_5 (And.intro @wr.eq_6 (And.intro @wr.eq_7 (And.intro @wr.eq_8 (And.intro @wr.eq_9 (And.intro @wr.eq_10 (And.intro @wr.eq_11 (And.intro @xX.eq_1 @xX.eq_2))))))))))))))))
def vS:=And.intro vA (And.intro vE (And.intro vO (And.intro vB (And.intro vF (And.intro vM (And.intro vR vX))))))
def vT:=And.intro vY (And.intro @qlv (And.intro @qlw (And.intro vP (And.intro vC (And.intro vQ (And.intro @qeo (And.intro @qc7 (And.intro not_false_eq_true (And.intro @eq_self.{1} @Int.cast_ofNat_Int)))))))))
def vw:=And.intro vW (And.intro @qiK (And.intro @qot (And.intro @qos (And.intro @qlA (And.intro @qiL (And.intro @qkh (And.intro @qhP (And.intro @qdB (And.intro @qlh (And.intro @qbs (And.intro @qe8 (And.intro @qdD (And.intro @Q8 (And.intro vP (And.intro vZ @Tr.get_set)))))))))))))))
def vK:=And.intro (And.intro @wd.eq_1 (And.intro @rnb.eq_1 (And.intro @rnb.eq_2 (And.intro @rnb.eq_3 (And.intro @jo.eq_1 (And.intro @jo.eq_2 (And.intro @rnv.eq_1 (And.intro @rnv.eq_2 (And.intro @rnv.eq_3 (And.intro @rnv.eq_4 (And.intro @rnv.eq_5 (And.intro @rnv.eq_6 (And.intro @rnv.eq_7 (And.intro @rnv.eq_8 (And.intro @rnv.eq_9 (And.intro @rnv.eq_10 @gAt.eq_1)))))))))))))))) (And.intro @List.cons_append.{0} (And.intro @List.nil_append.{0} (And.intro @List.length_cons.{0} (And.intro @List.length_nil.{0} (And.intro Nat.zero_add (And.intro @List.take_succ_cons.{0} (And.intro @List.take_zero.{0} (And.intro @List.drop_succ_cons.{0} (And.intro @List.drop_zero.{0} (And.intro @List.map_cons.{0,0} (And.intro @List.map_nil.{0,0} (And.intro @List.getD_cons_zero.{0} (And.intro @List.getD_cons_succ.{0} (And.intro @qbw (And.intro @qc3 (And.intro @kl (And.intro @yo (And.intro @zC @qaj))))))))))))))))))
def vJ:=And.intro vU (And.intro @kl (And.intro @yo (And.intro @qaj (And.intro @qeo (And.intro @qc7 (And.intro @List.map_cons.{0,0} (And.intro @List.map_nil.{0,0} (And.intro @qkP (And.intro @qdV Nat.zero_add)))))))))
def vL:=And.intro vU (And.intro (And.intro @xS.eq_1 (And.intro @xS.eq_2 (And.intro @bnd.eq_1 (And.intro @bnd.eq_2 (And.intro @bnd.eq_3 (And.intro @bnd.eq_4 (And.intro @bnd.eq_5 (And.intro @bnd.eq_6 (And.intro @bnd.eq_7 (And.intro @bnd.eq_8 (And.intro @bnd.eq_9 (And.intro @bnd.eq_10 (And.intro @jo.eq_1 (And.intro @jo.eq_2 (And.intro @rnv.eq_1 (And.intro @rnv.eq_2 (And.intro @rnv.eq_3 (And.intro @rnv.eq_4 (And.intro @rnv.eq_5 (And.intro @rnv.eq_6 (And.intro @rnv.eq_7 (And.intro @rnv.eq_8 (And.intro @rnv.eq_9 (And.intro @rnv.eq_10 @gAt.eq_1)))))))))))))))))))))))) (And.intro @qe4 (And.intro @qgP (And.intro @kl (And.intro @yo @qaj)))))
def ROp.q(n:Nat)(o:IOp):ROp:=⟨some n,.op o,none⟩
def ROp.m(n:Nat)(x:O):ROp:=⟨some n,.op (.mov x),none⟩
def ROp.g(n:Nat)(o:IOp)(c:Nat)(b:Bool):ROp:=⟨some n,.op o,some (c,b)⟩
def ROp.l(n f:Nat)(xs:List O):ROp:=⟨some n,.callF f xs,none⟩
def ROp.u(o:IOp):ROp:=⟨none,.op o,none⟩
def ICode.r(ops:List ROp):ICode:=.reg false ops
def O.k(n:Int):O:=.c (.i .i64 n)
def ROp.n(n a:Nat):ROp:=⟨some n,.op (.mov (.t a)),none⟩
def ROp.d(n a:Nat):ROp:=⟨some n,.op (.load1 (.t a)),none⟩
def ROp.v(n k a:Nat):ROp:=⟨some n,.op (.loadN k (.t a)),none⟩
def ROp.f(n k a:Nat):ROp:=⟨some n,.op (.fAddr k (.t a)),none⟩
def ROp.i(n k a b:Nat):ROp:=⟨some n,.op (.iAddrS k (.t a) (.t b)),none⟩
def ROp.a(n a:Nat)(k:Int):ROp:=⟨some n,.op (.bin .add (.t a) (.c (.i .i64 k))),none⟩
def ROp.b(n:Nat)(o:BinOp)(a b:Nat):ROp:=⟨some n,.op (.bin o (.t a) (.t b)),none⟩
def ROp.w(n:Nat)(o:BinOp)(a:Nat)(k:Int):ROp:=⟨some n,.op (.bin o (.t a) (.c (.i .i64 k))),none⟩
def ROp.e(n a:Nat):ROp:=⟨some n,.op (.len false (.t a)),none⟩
def ROp.x(n a k:Nat):ROp:=⟨some n,.op (.ext (.t a) k),none⟩
def ROp.s(n a b:Nat):ROp:=⟨some n,.op (.bin .lss (.t a) (.t b)),none⟩
def ROp.p(n a b:Nat):ROp:=⟨some n,.op (.pick (.t a) (.t b) (.c (.b false))),none⟩
def ROp.o(n a b:Nat):ROp:=⟨some n,.op (.pick (.t a) (.c (.b true)) (.t b)),none⟩
def ROp.y(n a c:Nat):ROp:=⟨some n,.op (.mov (.t a)),some (c,true)⟩
def ROp.z(n a c:Nat):ROp:=⟨some n,.op (.mov (.t a)),some (c,false)⟩
def ROp.j(n a c:Nat)(b:Bool):ROp:=⟨some n,.op (.load1 (.t a)),some (c,b)⟩
def ROp.h(n k a c:Nat)(b:Bool):ROp:=⟨some n,.op (.fAddr k (.t a)),some (c,b)⟩
def O.F:O:=.c (.b false)
def O.T:O:=.c (.b true)
def O.N:O:=.c .nils
theorem q_q{n:Nat}{o:IOp}:ROp.q n o=⟨some n,.op o,none⟩:=rfl
theorem q_m{n:Nat}{x:O}:ROp.m n x=⟨some n,.op (.mov x),none⟩:=rfl
theorem q_g{n:Nat}{o:IOp}{c:Nat}{b:Bool}:ROp.g n o c b=⟨some n,.op o,some (c,b)⟩:=rfl
theorem q_l{n f:Nat}{xs:List O}:ROp.l n f xs=⟨some n,.callF f xs,none⟩:=rfl
theorem q_u{o:IOp}:ROp.u o=⟨none,.op o,none⟩:=rfl
theorem q_r{ops:List ROp}:ICode.r ops = .reg false ops:=rfl
theorem q_k{n:Int}:O.k n = .c (.i .i64 n):=rfl
theorem qpU{n a:Nat}:ROp.n n a=⟨some n,.op (.mov (.t a)),none⟩:=rfl
theorem qpO{n a:Nat}:ROp.d n a=⟨some n,.op (.load1 (.t a)),none⟩:=rfl
theorem qpY{n k a:Nat}:ROp.v n k a=⟨some n,.op (.loadN k (.t a)),none⟩:=rfl
theorem qpQ{n k a:Nat}:ROp.f n k a=⟨some n,.op (.fAddr k (.t a)),none⟩:=rfl
theorem qpS{n k a b:Nat}:ROp.i n k a b=⟨some n,.op (.iAddrS k (.t a) (.t b)),none⟩:=rfl
theorem qpM{n a:Nat}{k:Int}:ROp.a n a k=⟨some n,.op (.bin .add (.t a) (.c (.i .i64 k))),none⟩:=rfl
theorem qpN{n:Nat}{o:BinOp}{a b:Nat}:ROp.b n o a b=⟨some n,.op (.bin o (.t a) (.t b)),none⟩:=rfl
theorem qpZ{n:Nat}{o:BinOp}{a:Nat}{k:Int}:ROp.w n o a k=⟨some n,.op (.bin o (.t a) (.c (.i .i64 k))),none⟩:=rfl
theorem qpP{n a:Nat}:ROp.e n a=⟨some n,.op (.len false (.t a)),none⟩:=rfl
theorem qp0{n a k:Nat}:ROp.x n a k=⟨some n,.op (.ext (.t a) k),none⟩:=rfl
theorem qpX{n a b:Nat}:ROp.s n a b=⟨some n,.op (.bin .lss (.t a) (.t b)),none⟩:=rfl
theorem qpW{n a b:Nat}:ROp.p n a b=⟨some n,.op (.pick (.t a) (.t b) (.c (.b false))),none⟩:=rfl
theorem qpV{n a b:Nat}:ROp.o n a b=⟨some n,.op (.pick (.t a) (.c (.b true)) (.t b)),none⟩:=rfl
theorem qp1{n a c:Nat}:ROp.y n a c=⟨some n,.op (.mov (.t a)),some (c,true)⟩:=rfl
theorem qp2{n a c:Nat}:ROp.z n a c=⟨some n,.op (.mov (.t a)),some (c,false)⟩:=rfl
theorem qpT{n a c:Nat}{b:Bool}:ROp.j n a c b=⟨some n,.op (.load1 (.t a)),some (c,b)⟩:=rfl
theorem qpR{n k a c:Nat}{b:Bool}:ROp.h n k a c b=⟨some n,.op (.fAddr k (.t a)),some (c,b)⟩:=rfl
theorem q_F:O.F = .c (.b false):=rfl
theorem q_T:O.T = .c (.b true):=rfl
theorem q_N:O.N = .c .nils:=rfl
def vI:=And.intro (And.intro @qpU (And.intro @qpO (And.intro @qpY (And.intro @qpQ (And.intro @qpS (And.intro @qpM (And.intro @qpN (And.intro @qpZ (And.intro @qpP (And.intro @qp0 (And.intro @qpX (And.intro @qpW (And.intro @qpV (And.intro @qp1 (And.intro @qp2 (And.intro @qpT (And.intro @qpR (And.intro q_F (And.intro q_T q_N))))))))))))))))))) (And.intro (And.intro @ve.eq_1 (And.intro @ve.eq_2 (And.intro @H0.eq_1 (And.intro @mkT.eq_1 (And.intro @mkT.eq_2 (And.intro @mkH.eq_1 (And.intro @trL.eq_1 @trL.eq_2))))))) (And.intro @List.length_cons.{0} (And.intro @List.length_nil.{0} (And.intro Nat.zero_add (And.intro @q_q (And.intro @q_m (And.intro @q_g (And.intro @q_l (And.intro @q_u (And.intro @q_r @q_k))))))))))
end Go.Kc
end
section
/- A row that is written no more becomes a row that stays as it is. No condition. -/
namespace Go.Kc
variable {P:Program}

mutual
def fzv(b e:Nat)(cs:List AV):AV->AV
 | .own b' n=>if b'=b then .fz n (if n=0 then [] else cs) else .own b' n
 | .ptr b' o=>if b'=b then .pf cs o else .ptr b' o
 | .sl b' o n c l=>if b'=b then (if n<=c then .fz n ((cs.drop o).take (n*e)) else .undef) else .sl b' o n c l
 | .map b'=>if b'=b then .undef else .map b'
 | .yl b'=>if b'=b then .undef else .yl b'
 | .fn f x c=>.fn f (kA b e cs x) (kA b e cs c)
 | .ifc t v=>.ifc t (fzv b e cs v)
 | .agg l=>.agg (kA b e cs l)
 | .tup l=>.tup (kA b e cs l)
 | v=>v
def kA(b e:Nat)(cs:List AV):List AV->List AV
 | []=>[]
 | v::vs=>fzv b e cs v::kA b e cs vs
end
def fzE(b e:Nat)(cs:List AV)(es:List (AV×AV)):List (AV×AV):=es.map fun p=>(p.1,fzv b e cs p.2)
def fzB(b e:Nat)(cs:List AV):Blk->Blk
 | .cells k w a l=>.cells k w a (kA b e cs l)
 | .dead=>.dead
 | .map es=>.map (fzE b e cs es)
theorem qaD{b e:Nat}{cs:List AV}:∀{vs:List AV} {j:Nat},(kA b e cs vs)[j]?=(vs[j]?).map (fzv b e cs)
 | [],j=>by simp[kA]
 | v::vs,0=>by simp[kA]
 | v::vs,j+1=>by simpa[kA] using qaD (vs:=vs) (j:=j)
theorem xK{b e:Nat}{cs:List AV}:∀{vs:List AV},(kA b e cs vs).length=vs.length
 | []=>rfl
 | v::vs=>by simp[kA,xK (vs:=vs)]
theorem qd3{b e:Nat}{cs:List AV}{v:AV}(hv:clo v=true):fzv b e cs v=v:=by
 refine AV.rec (motive_1:=fun v=>clo v=true->fzv b e cs v=v) (motive_2:=fun vs=>qx vs=true->kA b e cs vs=vs) ?_ ?_ ?_ ?_ ?_ ?_ ?_ ?_ ?_ ?_ ?_ ?_ ?_ ?_ ?_ ?_ ?_ ?_ ?_ ?_ ?_ ?_ ?_ ?_ ?_ ?_ v hv
 all_goals first
  | (intros;rfl)
  | (intros;rename_i hh;simp[clo] at hh;done)
  | skip
 ·intro f a c h1 h2 hh;simp only[clo,Bool.and_eq_true] at hh;simp only[fzv,h1 hh.1,h2 hh.2]
 ·intro t v h1 hh;simp only[clo] at hh;simp only[fzv,h1 hh]
 ·intro cs h1 hh;simp only[clo] at hh;simp only[fzv,h1 hh]
 ·intro cs h1 hh;simp only[clo] at hh;simp only[fzv,h1 hh]
 ·intro v vs h1 h2 hh;simp only[qx,Bool.and_eq_true] at hh;simp only[kA,h1 hh.1,h2 hh.2]
theorem CRs.cut{φ:Nat->Option (Array Value)}:∀{cs:List AV} {vs:List Value} (o m:Nat),CRs σ0 φ cs (vs.take cs.length)->CRs σ0 φ ((cs.drop o).take m) ((vs.drop o).take ((cs.drop o).take m).length)
 | [],vs,o,m,h=>by simp;exact .nil
 | c::cs,[],o,m,h=>by simp at h;cases h
 | c::cs,v::vs,0,0,h=>by simp;exact .nil
 | c::cs,v::vs,0,m+1,h=>by
  simp only[List.length_cons,List.take_succ_cons] at h;cases h with
  | cons _ _ _ _ h1 h2 =>
   have:=CRs.cut 0 m h2;simp only[List.drop_zero] at this;simp only[List.drop_zero,List.take_succ_cons,List.length_cons];exact .cons _ _ _ _ h1 this
 | c::cs,v::vs,o+1,m,h=>by
  simp only[List.length_cons,List.take_succ_cons] at h;cases h with
  | cons _ _ _ _ h1 h2=>simpa using CRs.cut o m h2
def Ren.iced(ρ:Ren)(b k:Nat)(arr:Array Value):Ren:=⟨fun b'=>if b'=b then none else ρ b',fun k'=>if k'=k then some arr else ρ.frz k',ρ.n⟩
mutual
theorem VR.iced{ρ:Ren}{b e:Nat}{cs:List AV}{L:Loc}{arr:Array Value}(hL:∀L',ρ b=some L'->L'=L)(hf:∀k a,ρ.frz k=some a->(ρ.iced b L.blk arr).frz k=some a)
  (hs:CRs σ0 (ρ.iced b L.blk arr).frz cs ((arr.toList.drop L.off).take cs.length)):∀{v:AV} {x:Value},VR σ0 ρ v x->VR σ0 (ρ.iced b L.blk arr) (fzv b e cs v) x
 | _,_,.undef v=>.undef v
 | _,_,.b x=>.b x
 | _,_,.i k n=>.i k n
 | _,_,.s x=>.s x
 | _,_,.nilp=>.nilp
 | _,_,.ptr b' o L' h=>by
  simp only[fzv];split
  ·rename_i hb;subst hb;obtain rfl:=hL _ h;refine .pf o L'.off cs L'.blk arr (by simp[Ren.iced]) hs
  ·rename_i hb;exact .ptr _ _ L' (by simp only[Ren.iced];rw[if_neg hb];exact h)
 | _,_,.nils=>.nils
 | _,_,.sl b' o n cap c l L' h hc=>by
  simp only[fzv];split
  ·rename_i hb;subst hb;obtain rfl:=hL _ h;split
   ·rename_i hn;refine .fz n (L'.off+o) c _ L'.blk arr (by omega) (by simp[Ren.iced]) ?_;have:=CRs.cut o (n*e) hs;rw[List.drop_drop] at this;exact this
   ·exact .undef _
  ·rename_i hb;exact .sl _ _ _ _ _ _ L' (by simp only[Ren.iced];rw[if_neg hb];exact h) hc
 | _,_,.slz b' o x l L' h=>by
  simp only[fzv];split
  ·simp;exact .fz0 _
  ·rename_i hb;exact .slz _ _ _ _ L' (by simp only[Ren.iced];rw[if_neg hb];exact h)
 | _,_,.nilf=>.nilf
 | _,_,.fn f first cap first' cap' h1 h2=>.fn _ _ _ _ _ (VRs.iced hL hf hs h1) (VRs.iced hL hf hs h2)
 | _,_,.nili=>.nili
 | _,_,.ifc t v v' h=>.ifc _ _ _ (VR.iced hL hf hs h)
 | _,_,.agg l l' h=>.agg _ _ (VRs.iced hL hf hs h)
 | _,_,.tup l l' h=>.tup _ _ (VRs.iced hL hf hs h)
 | _,_,.nilm=>.nilm
 | _,_,.map b' L' h h0=>by
  simp only[fzv];split
  ·exact .undef _
  ·rename_i hb;exact .map _ L' (by simp only[Ren.iced];rw[if_neg hb];exact h) h0
 | _,_,.sym j=>.sym j
 | _,_,.fz n off c l k a hn h h2=>.fz n off c l k a hn (hf _ _ h) (h2.mono hf)
 | _,_,.fz0 a=>.fz0 a
 | _,_,.pf off base l k a h h2=>.pf off base l k a (hf _ _ h) (h2.mono hf)
 | _,_,.e0 a=>.e0 a
 | _,_,.nz a c=>.nz a c
 | _,_,.own0 b' a hb=>by
  simp only[fzv];split
  ·simp;exact .fz0 _
  ·exact .own0 _ _ hb
 | _,_,.yl b' L' h=>by
  simp only[fzv];split
  ·exact .undef _
  ·rename_i hb;exact .yl _ L' (by simp only[Ren.iced];rw[if_neg hb];exact h)
 | _,_,.own b' n c L' h hn hc=>by
  simp only[fzv];split
  ·rename_i hb;subst hb;obtain rfl:=hL _ h;split
   ·rename_i h0;subst h0;exact .fz 0 L'.off c [] L'.blk arr (by omega) (by simp[Ren.iced]) (by simp;exact .nil)
   ·exact .fz n L'.off c cs L'.blk arr hn (by simp[Ren.iced]) hs
  ·rename_i hb;exact .own _ _ _ L' (by simp only[Ren.iced];rw[if_neg hb];exact h) hn hc
theorem VRs.iced{ρ:Ren}{b e:Nat}{cs:List AV}{L:Loc}{arr:Array Value}(hL:∀L',ρ b=some L'->L'=L)(hf:∀k a,ρ.frz k=some a->(ρ.iced b L.blk arr).frz k=some a)
  (hs:CRs σ0 (ρ.iced b L.blk arr).frz cs ((arr.toList.drop L.off).take cs.length)):∀{v:List AV} {x:List Value},VRs σ0 ρ v x->VRs σ0 (ρ.iced b L.blk arr) (kA b e cs v) x
 | _,_,.nil=>.nil
 | _,_,.cons v vs v' vs' h h2=>.cons _ _ _ _ (VR.iced hL hf hs h) (VRs.iced hL hf hs h2)
end
mutual
theorem VR.iced0{ρ:Ren}{b e:Nat}{cs:List AV}(hL:ρ b=none):∀{v:AV} {x:Value},VR σ0 ρ v x->VR σ0 ρ (fzv b e cs v) x
 | _,_,.undef v=>.undef v
 | _,_,.b x=>.b x
 | _,_,.i k n=>.i k n
 | _,_,.s x=>.s x
 | _,_,.nilp=>.nilp
 | _,_,.ptr b' o L' h=>by
  simp only[fzv];split
  ·rename_i hb;subst hb;rw[hL] at h;cases h
  ·exact .ptr _ _ L' h
 | _,_,.nils=>.nils
 | _,_,.sl b' o n cap c l L' h hc=>by
  simp only[fzv];split
  ·rename_i hb;subst hb;rw[hL] at h;cases h
  ·exact .sl _ _ _ _ _ _ L' h hc
 | _,_,.slz b' o x l L' h=>by
  simp only[fzv];split
  ·simp;exact .fz0 _
  ·exact .slz _ _ _ _ L' h
 | _,_,.nilf=>.nilf
 | _,_,.fn f first cap first' cap' h1 h2=>.fn _ _ _ _ _ (VRs.iced0 hL h1) (VRs.iced0 hL h2)
 | _,_,.nili=>.nili
 | _,_,.ifc t v v' h=>.ifc _ _ _ (VR.iced0 hL h)
 | _,_,.agg l l' h=>.agg _ _ (VRs.iced0 hL h)
 | _,_,.tup l l' h=>.tup _ _ (VRs.iced0 hL h)
 | _,_,.nilm=>.nilm
 | _,_,.map b' L' h h0=>by
  simp only[fzv];split
  ·exact .undef _
  ·exact .map _ L' h h0
 | _,_,.sym j=>.sym j
 | _,_,.fz n off c l k a hn h h2=>.fz n off c l k a hn h h2
 | _,_,.fz0 a=>.fz0 a
 | _,_,.pf off base l k a h h2=>.pf off base l k a h h2
 | _,_,.e0 a=>.e0 a
 | _,_,.nz a c=>.nz a c
 | _,_,.own0 b' a hb=>by
  simp only[fzv];split
  ·simp;exact .fz0 _
  ·exact .own0 _ _ hb
 | _,_,.yl b' L' h=>by
  simp only[fzv];split
  ·exact .undef _
  ·exact .yl _ L' h
 | _,_,.own b' n c L' h hn hc=>by
  simp only[fzv];split
  ·rename_i hb;subst hb;rw[hL] at h;cases h
  ·exact .own _ _ _ L' h hn hc
theorem VRs.iced0{ρ:Ren}{b e:Nat}{cs:List AV}(hL:ρ b=none):∀{v:List AV} {x:List Value},VRs σ0 ρ v x->VRs σ0 ρ (kA b e cs v) x
 | _,_,.nil=>.nil
 | _,_,.cons v vs v' vs' h h2=>.cons _ _ _ _ (VR.iced0 hL h) (VRs.iced0 hL h2)
end
def qkE(es:List (AV×AV)):Prop:=wG es∨∃r ts,es=xl r ts
theorem qd2{b e:Nat}{cs:List AV}:∀{es:List (AV×AV)},wG es->fzE b e cs es=es
 | [],_=>rfl
 | p::es,h=>by
  have h2:=Q8.1 h;show (p.1,fzv b e cs p.2)::fzE b e cs es=_;rw[qd2 h2.2,qd3 h2.1.2]
theorem qiZ{b e:Nat}{cs:List AV}{r:Loop}{ts:List (Nat×AV)}:fzE b e cs (xl r ts)=xl r (ts.map fun p=>(p.1,fzv b e cs p.2)):=by simp[fzE,xl,fzv]
theorem vd.ice{ρ ρ':Ren}{b e:Nat}{cs:List AV}(hv:∀{v:AV} {x:Value},VR σ0 ρ v x->VR σ0 ρ' (fzv b e cs v) x){es:List (AV×AV)}{o:Obj}(hm:qkE es)(h:vd σ0 ρ es o):vd σ0 ρ' (fzE b e cs es) o:=by
 rcases hm with hm|⟨r,ts,rfl⟩
 ·rw[qd2 hm];have hv':∀{v:AV} {x:Value},clo v=true->VR σ0 ρ v x->VR σ0 ρ' v x:=fun hc h=>by have:=hv h;rwa [qd3 hc] at this
  rcases h with⟨p1,vs,clk,p2,p3,p4⟩|p3|⟨r,ts,rfl,p2,p3⟩
  ·exact .inl ⟨p1,vs,clk,p2,p3,fun j e0 he=>let ⟨v,a1,a2,a3⟩:=p4 j e0 he
    ⟨v,a1,hv' (hm e0 (List.mem_of_getElem? he)).1 a2,hv' (hm e0 (List.mem_of_getElem? he)).2 a3⟩⟩
  ·exact .inr (.inl p3)
  ·exact absurd (hm (.lp r,.undef) (by simp[xl])).1 (by simp[clo])
 ·obtain⟨p2,p3⟩:=h.rec';rw[qiZ];refine .inr (.inr ⟨r,_,rfl,p2,fun p hp=>?_⟩)
  obtain⟨q,hq,rfl⟩:=List.mem_map.1 hp;exact⟨(p3 q hq).1,hv (p3 q hq).2⟩
theorem Wk.freeze{n:Nat}{ts:List (Nat×AV)}{bl:List Blk}(b e e':Nat){a:Bool}{cs:List AV}(hb:bl[b]?=some (.cells e' true a cs))(hc:qx cs=true)(hn:n<=b)(hm:∀es,Blk.map es ∈ bl->qkE es) :
  Wk n (mkT ts) (mkH 0 bl) (mkT (ts.map fun p=>(p.1,fzv b e cs p.2))) (mkH 0 ((bl.map (fzB b e cs)).set b .dead)):=by
 intro ρ B w tm ht r;have hlt:b<bl.length:=(List.getElem?_eq_some_iff.1 hb).1;have hgb:(mkH 0 bl).tr.get b=some (.cells e' true a cs):=by rw[zO];exact hb
 have tget:∀(ts:List (Nat×AV)) (j:Nat),(mkT (ts.map fun p=>(p.1,fzv b e cs p.2))).get j=((mkT ts).get j).map (fzv b e cs):=by
  intro ts j
  induction ts with
  | nil=>simp[mkT]
  | cons p l ih =>
   simp only[List.map_cons,mkT,Tr.get_set];split
   ·rfl
   ·exact ih
 have hget:∀b',b'≠b->(mkH 0 ((bl.map (fzB b e cs)).set b .dead)).tr.get b'=((mkH 0 bl).tr.get b').map (fzB b e cs):=by
  intro b' hne;rw[zO,zO,List.getElem?_set_ne (Ne.symm hne),List.getElem?_map]
 have hgd:(mkH 0 ((bl.map (fzB b e cs)).set b .dead)).tr.get b=some .dead:=by
  rw[zO,List.getElem?_set_self (by simpa using hlt)]
 -- a live block of the new heap comes from one of the old
 have zx:∀b' x,(mkH 0 ((bl.map (fzB b e cs)).set b .dead)).tr.get b'=some x->x≠.dead->b'≠b∧∃y,(mkH 0 bl).tr.get b'=some y∧x=fzB b e cs y∧y≠.dead:=by
  intro b' x hx hd
  have hne:b'≠b:=by
   rintro rfl;rw[hgd] at hx;cases hx;exact hd rfl
  rw[hget b' hne] at hx;cases hy:(mkH 0 bl).tr.get b' with
  | none=>rw[hy] at hx;simp at hx
  | some y =>
   rw[hy] at hx;simp at hx;exact⟨hne,y,rfl,hx.symm,by rintro rfl;subst hx;exact hd rfl⟩
 have hsz:(mkH 0 ((bl.map (fzB b e cs)).set b .dead)).sz=bl.length:=by simp[qdF]
 cases hρ:ρ b with
 | none =>
  refine⟨ρ,fun j v hj=>?_,⟨?_,?_,?_,?_,?_,?_,?_,r.base,?_,?_⟩,⟨fun _ _=>rfl,by rw[hsz];omega,rfl,fun b' hb'=>by simp[qgY] at hb',fun _ _=>rfl,Nat.le_refl _,⟨rfl,rfl⟩,fun _ _ h=>h,fun _ _ h=>.inl h,fun _ _ h=>h⟩⟩
  ·rw[tget] at hj;cases hv:(mkT ts).get j with
   | none=>rw[hv] at hj;simp at hj
   | some v0 =>
    rw[hv] at hj;simp at hj;subst hj;exact⟨(ht j v0 hv).1,VR.iced0 hρ (ht j v0 hv).2⟩
  ·intro b' L h1;rw[hsz];exact r.dom b' L h1
  ·intro b' L e1 wf af cs' h1 h2;obtain⟨h3,y,h4,h5,h6⟩:=zx b' _ h2 (by simp);cases y with
   | cells k w0 a0 l =>
    simp only[fzB,Blk.cells.injEq] at h5;obtain⟨rfl,rfl,rfl,rfl⟩:=h5;obtain⟨q1,c,ty,fz,q2,q3,q4,q5,q6⟩:=r.cells b' L _ _ _ l h1 h4;refine⟨q1,c,ty,fz,q2,q3,by rw[xK];exact q4,fun j v hv=>?_,q6⟩
    rw[qaD] at hv;cases hj:l[j]? with
    | none=>rw[hj] at hv;simp at hv
    | some v0 =>
     rw[hj] at hv;simp at hv;subst hv;obtain⟨v',g1,g2⟩:=q5 j v0 hj;exact⟨v',g1,VR.iced0 hρ g2⟩
   | dead=>simp[fzB] at h5
   | map es=>simp[fzB] at h5
  ·intro b' L es h1 h2;obtain⟨h3,y,h4,h5,h6⟩:=zx b' _ h2 (by simp);cases y with
   | cells k w0 a0 l=>simp[fzB] at h5
   | dead=>simp[fzB] at h5
   | map es' =>
    simp only[fzB,Blk.map.injEq] at h5;subst h5;obtain⟨p1,o,p2,p3⟩:=r.maps b' L _ h1 h4;exact⟨p1,o,p2,p3.ice (fun h=>VR.iced0 hρ h) (hm es' (by rw[zO] at h4;exact List.mem_of_getElem? h4))⟩
  ·intro b1 L1 e1 af1 cs1 h1 h2 b2 L2 x h3 h4 h5 h6;obtain⟨g1,y,g2,g3,g4⟩:=zx b1 _ h2 (by simp);obtain⟨i1,y2,i2,i3,i4⟩:=zx b2 _ h4 h5;cases y with
   | cells k w0 a0 l =>
    simp only[fzB,Blk.cells.injEq] at g3;obtain⟨rfl,rfl,rfl,rfl⟩:=g3;exact r.excl b1 L1 _ _ l h1 g2 b2 L2 y2 h3 i2 i4 h6
   | dead=>simp[fzB] at g3
   | map es=>simp[fzB] at g3
  ·intro b1 L1 es h1 h2 b2 L2 x h3 h4 h5 h6;obtain⟨g1,y,g2,g3,g4⟩:=zx b1 _ h2 (by simp);obtain⟨i1,y2,i2,i3,i4⟩:=zx b2 _ h4 h5;cases y with
   | cells k w0 a0 l=>simp[fzB] at g3
   | dead=>simp[fzB] at g3
   | map es'=>simp only[fzB,Blk.map.injEq] at g3;subst g3;exact r.exclm b1 L1 _ h1 g2 b2 L2 y2 h3 i2 i4 h6
  ·intro b1 L1 e1 wf1 cs1 h1 h2 b2 L2 e2 wf2 af2 cs2 h3 h4 h6;obtain⟨g1,y,g2,g3,g4⟩:=zx b1 _ h2 (by simp);obtain⟨i1,y2,i2,i3,i4⟩:=zx b2 _ h4 (by simp);cases y<;>simp only[fzB,Blk.cells.injEq,reduceCtorEq] at g3;cases y2<;>simp only[fzB,Blk.cells.injEq,reduceCtorEq] at i3;obtain⟨rfl,rfl,rfl,rfl⟩:=g3;obtain⟨rfl,rfl,rfl,rfl⟩:=i3;rw[xK,xK];exact r.app b1 L1 _ _ _ h1 g2 b2 L2 _ _ _ _ h3 i2 h6
  ·intro b' L h1 h2;exact r.flr b' L h1 (Nat.zero_le _)
  ·intro k arr hk;refine⟨(r.frz k arr hk).1,fun b' L x h1 h2 h3=>?_⟩
   obtain⟨g1,y,g2,g3,g4⟩:=zx b' _ h2 h3;exact (r.frz k arr hk).2 b' L y h1 g2 g4
  ·rw[hsz];exact r.dn
 | some L =>
  obtain⟨q1,c,ty,fz,q2,q3,q4,q5,q6⟩:=r.cells b L _ _ _ cs hρ hgb
  have hf:∀k a,ρ.frz k=some a->(ρ.iced b L.blk c).frz k=some a:=by
   intro k a' hk;simp only[Ren.iced];rw[if_neg (fun hh=>(r.frz k a' hk).2 b L _ hρ hgb (by simp) hh.symm)]
   exact hk
  have hLs:∀L',ρ b=some L'->L'=L:=by intro L' h;rw[hρ] at h;cases h;rfl
  have hcr:∀(l:List AV) (j:Nat),(∀i v,l[i]?=some v->∃v',c.toList[j+i]?=some v'∧VR σ0 ρ v v')->qx l=true->CRs σ0 (ρ.iced b L.blk c).frz l ((c.toList.drop j).take l.length):=by
   intro l
   induction l with
   | nil=>intro j _ _;simp;exact .nil
   | cons v l ih =>
    intro j hh hcl;simp only[qx,Bool.and_eq_true] at hcl;obtain⟨v',g1,g2⟩:=hh 0 v rfl;simp only[Nat.add_zero] at g1;obtain⟨hj,rfl⟩:=List.getElem?_eq_some_iff.1 g1;rw[List.drop_eq_getElem_cons hj,List.length_cons,List.take_succ_cons];refine .cons _ _ _ _ ((g2.cr hcl.1).mono hf) (ih (j+1) (fun i v hi=>?_) hcl.2)
    obtain⟨v',k1,k2⟩:=hh (i+1) v (by simpa using hi);exact⟨v',by rw[show j+1+i=j+(i+1) from by omega];exact k1,k2⟩
  have hs:CRs σ0 (ρ.iced b L.blk c).frz cs ((c.toList.drop L.off).take cs.length):=hcr cs L.off (fun i v hi=>by
   obtain⟨v',g1,g2⟩:=q5 i v hi;exact⟨v',by simpa using g1,g2⟩) hc
  have old:∀b' L',(ρ.iced b L.blk c) b'=some L'->b'≠b∧ρ b'=some L':=by
   intro b' L' h
   by_cases hbb:b'=b
   ·subst hbb;simp[Ren.iced] at h
   ·refine⟨hbb,?_⟩;simp only[Ren.iced] at h;rw[if_neg hbb] at h;exact h
  refine⟨ρ.iced b L.blk c,fun j v hj=>?_,⟨?_,?_,?_,?_,?_,?_,?_,r.base,?_,?_⟩,⟨fun b' hb'=>by simp only[Ren.iced];rw[if_neg (by omega)],by rw[hsz];omega,rfl,fun b' hb'=>by simp[qgY] at hb',fun _ _=>rfl,Nat.le_refl _,⟨rfl,rfl⟩,hf,fun k a' hk=>?_,fun _ _ h=>h⟩⟩
  ·rw[tget] at hj;cases hv:(mkT ts).get j with
   | none=>rw[hv] at hj;simp at hj
   | some v0 =>
    rw[hv] at hj;simp at hj;subst hj;exact⟨(ht j v0 hv).1,VR.iced hLs hf hs (ht j v0 hv).2⟩
  ·intro b' L' h1;rw[hsz];exact r.dom b' L' (old _ _ h1).2
  ·intro b' L' e1 wf af cs' h1 h2;obtain⟨h3,y,h4,h5,h6⟩:=zx b' _ h2 (by simp);cases y with
   | cells k w0 a0 l =>
    simp only[fzB,Blk.cells.injEq] at h5;obtain⟨rfl,rfl,rfl,rfl⟩:=h5;obtain⟨p1,c',ty',fz',p2,p3,p4,p5,p6⟩:=r.cells b' L' _ _ _ l (old _ _ h1).2 h4;refine⟨p1,c',ty',fz',p2,p3,by rw[xK];exact p4,fun j v hv=>?_,p6⟩
    rw[qaD] at hv;cases hj:l[j]? with
    | none=>rw[hj] at hv;simp at hv
    | some v0 =>
     rw[hj] at hv;simp at hv;subst hv;obtain⟨v',g1,g2⟩:=p5 j v0 hj;exact⟨v',g1,VR.iced hLs hf hs g2⟩
   | dead=>simp[fzB] at h5
   | map es=>simp[fzB] at h5
  ·intro b' L' es h1 h2;obtain⟨h3,y,h4,h5,h6⟩:=zx b' _ h2 (by simp);cases y with
   | cells k w0 a0 l=>simp[fzB] at h5
   | dead=>simp[fzB] at h5
   | map es' =>
    simp only[fzB,Blk.map.injEq] at h5;subst h5;obtain⟨p1,o,p2,p3⟩:=r.maps b' L' _ (old _ _ h1).2 h4;exact⟨p1,o,p2,p3.ice (fun h=>VR.iced hLs hf hs h) (hm es' (by rw[zO] at h4;exact List.mem_of_getElem? h4))⟩
  ·intro b1 L1 e1 af1 cs1 h1 h2 b2 L2 x h3 h4 h5 h6;obtain⟨g1,y,g2,g3,g4⟩:=zx b1 _ h2 (by simp);obtain⟨i1,y2,i2,i3,i4⟩:=zx b2 _ h4 h5;cases y<;>simp only[fzB,Blk.cells.injEq,reduceCtorEq] at g3;obtain⟨rfl,rfl,rfl,rfl⟩:=g3;exact r.excl b1 L1 _ _ _ (old _ _ h1).2 g2 b2 L2 y2 (old _ _ h3).2 i2 i4 h6
  ·intro b1 L1 es h1 h2 b2 L2 x h3 h4 h5 h6;obtain⟨g1,y,g2,g3,g4⟩:=zx b1 _ h2 (by simp);obtain⟨i1,y2,i2,i3,i4⟩:=zx b2 _ h4 h5;cases y<;>simp only[fzB,Blk.map.injEq,reduceCtorEq] at g3;subst g3;exact r.exclm b1 L1 _ (old _ _ h1).2 g2 b2 L2 y2 (old _ _ h3).2 i2 i4 h6
  ·intro b1 L1 e1 wf1 cs1 h1 h2 b2 L2 e2 wf2 af2 cs2 h3 h4 h6;obtain⟨g1,y,g2,g3,g4⟩:=zx b1 _ h2 (by simp);obtain⟨i1,y2,i2,i3,i4⟩:=zx b2 _ h4 (by simp);cases y<;>simp only[fzB,Blk.cells.injEq,reduceCtorEq] at g3;cases y2<;>simp only[fzB,Blk.cells.injEq,reduceCtorEq] at i3;obtain⟨rfl,rfl,rfl,rfl⟩:=g3;obtain⟨rfl,rfl,rfl,rfl⟩:=i3;rw[xK,xK];exact r.app b1 L1 _ _ _ (old _ _ h1).2 g2 b2 L2 _ _ _ _ (old _ _ h3).2 i2 h6
  ·intro b' L' h1 h2;exact r.flr b' L' (old _ _ h1).2 (Nat.zero_le _)
  ·intro k arr hk
   by_cases hkk:k=L.blk
   ·subst hkk;simp[Ren.iced] at hk;subst hk;refine⟨⟨ty,fz,q2⟩,fun b' L' x h1 h2 h3 h6=>?_⟩
    obtain⟨g1,y,g2,g3,g4⟩:=zx b' _ h2 h3;exact g1 (r.excl b L _ _ _ hρ hgb b' L' y (old _ _ h1).2 g2 g4 h6)
   ·simp only[Ren.iced] at hk;rw[if_neg hkk] at hk;refine⟨(r.frz k arr hk).1,fun b' L' x h1 h2 h3=>?_⟩
    obtain⟨g1,y,g2,g3,g4⟩:=zx b' _ h2 h3;exact (r.frz k arr hk).2 b' L' y (old _ _ h1).2 g2 g4
  ·rw[hsz];exact r.dn
  ·simp only[Ren.iced] at hk;split at hk
   ·rename_i hkk;subst hkk;exact .inr (r.flr b L hρ (Nat.zero_le _))
   ·exact .inl hk

theorem Own.pure{f:Nat}{vs:List AV}{v v':AV}{bs:List Blk}(hcl:qx vs=true)(ho:Own P f vs v bs)(hf:Frz (xu H0 (bs.map (shb 0))) (shv 0 v) v'):qb P f vs v' :=
 qb.of_SC hcl (ho H0 _ hf)
end Go.Kc
end
section
/- Rows of one's own opened to their capacity, and closed again; functions that the model itself answers. No condition. -/
namespace Go.Kc
variable {P:Program} {n:Nat} {t:Tr AV} {h:Hp}

theorem Wk.trans{t1 t2:Tr AV}{h1 h2:Hp}(a:Wk n t h t1 h1)(b:Wk n t1 h1 t2 h2):Wk n t h t2 h2:=by
 intro ρ B w tm ht r;obtain⟨ρ1,g1,g2,g3⟩:=a ρ B w tm ht r;obtain⟨ρ2,k1,k2,k3⟩:=b ρ1 B w tm g1 g2;exact⟨ρ2,k1,k2,g3.trans k3⟩
theorem S.open{x:ICode}{Q:X->Tr AV->Hp->Prop}(j b m e:Nat){a:Bool}{cs:List AV}(ht:t.get j=some (.own b m))(hb:h.tr.get b=some (.cells e true a cs))(hl:cs.length=m*e)(hfl:h.fl<=b)(hbs:b<h.sz)
  (h0:m=0->S P n x Q (t.set j .e0) h) (h1:∀c,m<=c->S P n x Q (t.set j (.sl b 0 m c false)) ⟨h.sz,h.fl,h.tr.set b (.cells e true false (cs++List.replicate ((c-m)*e) .undef))⟩):S P n x Q t h:=by
 intro nt code hc hn ro hro ρ B w ac htr hsz r;obtain⟨g1,g2⟩:=htr _ _ ht;generalize hgv:ac.tmps.getD j undef=gv at g2;cases g2 with
 | own0 _ ad hbn =>
  refine h0 rfl nt code hc hn ro hro ρ B w ac (fun i v hv=>?_) hsz r
  rw[Tr.get_set] at hv;split at hv
  ·rename_i hij;subst hij;cases hv;exact⟨g1,by rw[hgv];exact .e0 _⟩
  ·exact htr i v hv
 | own _ _ c L h3 h4 h5 =>
  obtain⟨q1,co,ty,fz,q2,q3,q4,q5,q6⟩:=r.cells b L _ _ _ cs h3 hb
  have old:∀b' y,((h.tr.set b (.cells e true false (cs++List.replicate ((c-m)*e) .undef))).get b'=some y)->(b'=b∧y = .cells e true false (cs++List.replicate ((c-m)*e) .undef))∨(b'≠b∧h.tr.get b'=some y):=by
   intro b' y hx;rw[Tr.get_set] at hx;split at hx
   ·rename_i h1;cases hx;exact .inl ⟨h1,rfl⟩
   ·rename_i h1;exact .inr ⟨h1,hx⟩
  have olive:∀b' y,((h.tr.set b (.cells e true false (cs++List.replicate ((c-m)*e) .undef))).get b'=some y)->y≠.dead->∃z,h.tr.get b'=some z∧z≠.dead:=by
   intro b' y hx hd;rcases old b' y hx with⟨rfl,rfl⟩|⟨_,g⟩
   ·exact⟨_,hb,by simp⟩
   ·exact⟨y,g,hd⟩
  have hlen:(cs++List.replicate ((c-m)*e) AV.undef).length=c*e:=by
   simp[hl];rw[← Nat.add_mul];congr 1;omega
  have r':Rel σ0 ρ B ⟨h.sz,h.fl,h.tr.set b (.cells e true false (cs++List.replicate ((c-m)*e) .undef))⟩ w:=by
   refine⟨r.dom,?_,?_,?_,?_,?_,r.flr,r.base,?_,r.dn⟩
   ·intro b' L' e1 wf af cs' k1 k2;rcases old b' _ k2 with⟨rfl,g⟩|⟨_,g⟩
    ·cases g;rw[h3] at k1;cases k1;refine⟨q1,co,ty,fz,q2,q3,by rw[hlen,← q1];exact h5,fun i v hv=>?_,fun _=>q6 (by simp)⟩
     by_cases hi:i<cs.length
     ·rw[List.getElem?_append_left hi] at hv;exact q5 i v hv
     ·have hlt:=(List.getElem?_eq_some_iff.1 hv).1;rw[List.getElem?_append_right (by omega),List.getElem?_replicate] at hv;split at hv
      ·cases hv;rw[hlen] at hlt;have hlt2:L.off+i<co.size:=by rw[q3];rw[q1] at h5;omega
       exact⟨co[L.off+i],by simp[hlt2],.undef _⟩
      ·cases hv
    ·exact r.cells _ L' _ _ _ _ k1 g
   ·intro b' L' es k1 k2;rcases old b' _ k2 with⟨rfl,g⟩|⟨_,g⟩
    ·cases g
    ·exact r.maps b' L' es k1 g
   ·intro b1 L1 e1 af1 cs1 k1 k2 b2 L2 y k3 k4 k5 k6;obtain⟨y2,i1,i2⟩:=olive b2 y k4 k5;rcases old b1 _ k2 with⟨rfl,g⟩|⟨_,g⟩
    ·exact r.excl _ L1 _ _ cs k1 hb b2 L2 y2 k3 i1 i2 k6
    ·exact r.excl _ L1 _ _ _ k1 g b2 L2 y2 k3 i1 i2 k6
   ·intro b1 L1 es k1 k2 b2 L2 y k3 k4 k5 k6;obtain⟨y2,i1,i2⟩:=olive b2 y k4 k5;rcases old b1 _ k2 with⟨rfl,g⟩|⟨_,g⟩
    ·cases g
    ·exact r.exclm _ L1 _ k1 g b2 L2 y2 k3 i1 i2 k6
   ·intro b1 L1 e1 wf1 cs1 k1 k2 b2 L2 e2 wf2 af2 cs2 k3 k4 k6;rcases old b1 _ k2 with⟨rfl,g⟩|⟨hne,g⟩
    ·cases g
    ·rcases old b2 _ k4 with⟨rfl,g'⟩|⟨hne',g'⟩
     ·cases g';exact absurd (r.excl _ L2 _ _ cs k3 hb b1 L1 _ k1 g (by simp) k6.symm) hne
     ·exact r.app b1 L1 _ _ _ k1 g b2 L2 _ _ _ _ k3 g' k6
   ·intro k arr hk;refine⟨(r.frz k arr hk).1,fun b' L' y k1 k2 k3=>?_⟩
    obtain⟨y2,i1,i2⟩:=olive b' y k2 k3;exact (r.frz k arr hk).2 b' L' y2 k1 i1 i2
  refine wpIn_mono (h1 c h4 nt code hc hn ro hro ρ B w ac (fun i v hv=>?_) hsz r') ?_
  ·rw[Tr.get_set] at hv;split at hv
   ·rename_i hij;subst hij;cases hv;refine⟨g1,?_⟩;rw[hgv];exact .sl b 0 m c c false L h3 (.inl rfl)
   ·exact htr i v hv
  ·intro e2 a2 w2 hp
   have kk:Kep n ρ B h w ρ ⟨h.sz,h.fl,h.tr.set b (.cells e true false (cs++List.replicate ((c-m)*e) .undef))⟩ w:=by
    refine⟨fun _ _=>rfl,hn,rfl,fun b' k1 k2=>?_,fun _ _=>rfl,Nat.le_refl _,⟨rfl,rfl⟩,fun _ _ h=>h,fun _ _ h=>.inl h,fun _ _ h=>h⟩
    show (h.tr.set b _).get b'=_;rw[Tr.get_set,if_neg (by omega)]
   exact jI.weaken kk hp
end Go.Kc
end
section
/- Functions that the model itself answers: an index of a byte, how strings compare, whether rows overlap. Condition: the functions are these. -/
namespace Go.Kc
variable {P:Program} {f:Nat}

def qd8(P:Program)(f:Nat)(e:Array Value->Sem Value):Prop:=∀args w,(callFunc f args).run P w=((e args).run P w).andThen fun v w'=>.ok (.value v) w'
theorem qd8.of{fn:Func}{e:Array Value->Sem Value}(hf:P.funcs[f]?=some fn)(hname:(fn.name == "runtime.NumGoroutine")=false)(hb:fn.body.isNone=true)(hn:Extern.findNext fn=none)(he:Extern.find fn=some e):qd8 P f e :=
 fun args w=>run_callFunc_extern hf hname hb hn he args w
theorem qd8.pure{e:Array Value->Sem Value}{vs:List AV}{v:AV}(h:qd8 P f e)(hr:∀ρ (args:Array Value) w,VRs σ0 ρ vs args.toList->∃v',(e args).run P w = .ok v' w∧VR σ0 ρ v v'):qb P f vs v:=by
 intro hp k hk;refine⟨trivial,fun ρ B w args r ha=>?_⟩
 obtain⟨v',h1,h2⟩:=hr ρ args w ha;exact .inr ⟨v',w,by rw[h,h1];rfl,v,v',hp,ρ,rfl,hk,h2,r,Kept.refl _ _ _ _⟩

theorem qjm{y:List UInt8}:ltS [] y = !y.isEmpty:=by cases y<;>rfl
theorem qc0{c:UInt8}{x:List UInt8}:ltS (c::x) []=false:=rfl
theorem qcZ{c d:UInt8}{x y:List UInt8}:ltS (c::x) (d::y)=if c<d then true else if c=d then ltS x y else false:=by
 rw[QJ,QJ];simp only[Op.bytesLess]
 by_cases h1:c<d
 ·simp[h1]
 ·by_cases h2:c=d
  ·simp[h2]
  ·simp[h1,h2]
end Go.Kc
end
section
/- Calls that shrink a row lent. No condition. -/
namespace Go.Kc
variable {P:Program}
end Go.Kc
end
section
/- Pure calls to which rows of one's own are given for good. No condition. -/
namespace Go.Kc
variable {P:Program} {h:Hp}

noncomputable def trP:List (Nat×Blk)->Tr Blk
 | []=>.leaf
 | p::l=>(trP l).set p.1 p.2
theorem Qv:∀{l:List (Nat×Blk)} {b:Nat} {x:Blk},(trP l).get b=some x->(b,x) ∈ l
 | [],b,x,h=>by simp[trP] at h
 | p::l,b,x,h=>by
  simp only[trP,Tr.get_set] at h;split at h
  ·cases h;subst_vars;simp
  ·exact List.mem_cons_of_mem _ (Qv h)
noncomputable def vn(h:Hp):List (Nat×Blk)->Hp
 | []=>h
 | p::l=>vn (h.put p.1 .dead) l
theorem Qm:∀{l:List (Nat×Blk)} {h:Hp},(vn h l).sz=h.sz
 | [],_=>rfl
 | _::l,h=>(Qm (l:=l)).trans rfl
theorem Ql:∀{l:List (Nat×Blk)} {h:Hp},(vn h l).fl=h.fl
 | [],_=>rfl
 | _::l,h=>(Ql (l:=l)).trans rfl
theorem kT:∀{l:List (Nat×Blk)} {h:Hp} {b:Nat},(vn h l).tr.get b=if b ∈ l.map Prod.fst then some .dead else h.tr.get b
 | [],_,_=>by simp[vn]
 | p::l,h,b=>by
  simp only[vn];rw[kT]
  by_cases h1:b ∈ l.map Prod.fst
  ·rw[if_pos h1,if_pos (by simp only[List.map_cons,List.mem_cons];exact .inr h1)]
  ·rw[if_neg h1];show (h.tr.set p.1 .dead).get b=_;rw[Tr.get_set]
   by_cases h2:b=p.1
   ·rw[if_pos h2,if_pos (by simp only[List.map_cons,List.mem_cons];exact .inl h2)]
   ·rw[if_neg h2,if_neg (by simp only[List.map_cons,List.mem_cons,not_or];exact⟨h2,h1⟩)]
theorem zw:vn h []=h:=rfl
theorem ze{b:Nat}{x:Blk}{l:List (Nat×Blk)}:vn h ((b,x)::l)=vn (h.put b .dead) l:=rfl
theorem Rel.sub{ρ:Ren}{B:Nat->Prop}{h h':Hp}{w:World}(r:Rel σ0 ρ B h w)(hs:h'.sz=h.sz)(hf:h'.fl=h.fl)(hg:∀b x,h'.tr.get b=some x->x≠.dead->h.tr.get b=some x):Rel σ0 ρ B h' w :=
 ⟨fun b L hb=>by rw[hs];exact r.dom b L hb,fun b L e wf af cs hb hx=>r.cells b L e wf af cs hb (hg _ _ hx (by simp)),fun b L es hb hx=>r.maps b L es hb (hg _ _ hx (by simp)),
  fun b L e af cs hb hx b' L' x hb' hx' hd=>r.excl b L e af cs hb (hg _ _ hx (by simp)) b' L' x hb' (hg _ _ hx' hd) hd,fun b L es hb hx b' L' x hb' hx' hd=>r.exclm b L es hb (hg _ _ hx (by simp)) b' L' x hb' (hg _ _ hx' hd) hd,
  fun b L e wf cs hb hx b' L' e' wf' af' cs' hb' hx'=>r.app b L e wf cs hb (hg _ _ hx (by simp)) b' L' e' wf' af' cs' hb' (hg _ _ hx' (by simp)),fun b L hb hf'=>r.flr b L hb (by rw[← hf];exact hf'),r.base,
  fun k arr hk=>⟨(r.frz k arr hk).1,fun b L x hb hx hd=>(r.frz k arr hk).2 b L x hb (hg _ _ hx hd) hd⟩,by rw[hs];exact r.dn⟩
theorem qb.give{f:Nat}{vs vs':List AV}{v:AV}{k:AV->Hp->Prop}(DB:List (Nat×Blk))(hg:∀p ∈ DB,h.tr.get p.1=some p.2∧h.fl<=p.1)(hp:qb P f vs' v)(hv:clo v=true)(hf:Frzs ⟨h.sz,h.fl,trP DB⟩ vs vs')(hk:k v (vn h DB)):SC P f vs h k:=by
 refine⟨trivial,fun ρ B w args r ha=>?_⟩
 have hp0:=hp H0 (fun v' h'=>v'=v∧h'=H0) ⟨rfl,rfl⟩
 have r0:Rel σ0 ρ B ⟨h.sz,h.fl,trP DB⟩ w:=r.sub rfl rfl (fun b x hx _=>(hg _ (Qv hx)).1)
 have hcr:=hf.ok r0 ha
 have fnew:∀kk a,zP ρ ⟨h.sz,h.fl,trP DB⟩ w kk=some a->ρ.frz kk=some a∨((∃ty fz,w.heap[kk]?=some (.cells a ty fz))∧∃b L e af cs,b ∈ DB.map Prod.fst∧ρ b=some L∧h.tr.get b=some (.cells e true af cs)∧L.blk=kk∧h.fl<=b):=by
  intro kk a hkk;rcases wA hkk with h1|⟨h1,b,L,e,af,cs,h2,h3,h4⟩
  ·exact .inl h1
  ·have hm:=Qv h3;exact .inr ⟨h1,b,L,e,af,cs,List.mem_map_of_mem (f:=Prod.fst) hm,h2,(hg _ hm).1,h4,(hg _ hm).2⟩
 -- the rows given are frozen,their blocks dead
 have r1:Rel σ0 ⟨ρ.loc,zP ρ ⟨h.sz,h.fl,trP DB⟩ w,ρ.n⟩ B (vn h DB) w:=by
  have le:ρ.le ⟨ρ.loc,zP ρ ⟨h.sz,h.fl,trP DB⟩ w,ρ.n⟩:=⟨fun _ _ h=>h,fun _ _ h=>xz h,Nat.le_refl _⟩
  have zx:∀b x,(vn h DB).tr.get b=some x->x≠.dead->b ∉ DB.map Prod.fst∧h.tr.get b=some x:=by
   intro b x hx hd;rw[kT] at hx;split at hx
   ·cases hx;exact absurd rfl hd
   ·exact⟨by assumption,hx⟩
  have rs:Rel σ0 ρ B (vn h DB) w:=r.sub Qm Ql (fun b x hx hd=>(zx b x hx hd).2)
  refine⟨rs.dom,fun b L e wf af cs hb hx=>?_,fun b L es hb hx=>?_,rs.excl,rs.exclm,rs.app,rs.flr,rs.base,fun kk arr hkk=>?_,rs.dn⟩
  ·obtain⟨q1,c,ty,fz,q2,q3,q4,q5,q6⟩:=rs.cells b L e wf af cs hb hx;exact⟨q1,c,ty,fz,q2,q3,q4,fun j v hv=>let ⟨v',k1,k2⟩:=q5 j v hv;⟨v',k1,k2.mono le⟩,q6⟩
  ·obtain⟨q1,o,q2,q3⟩:=rs.maps b L es hb hx;exact⟨q1,o,q2,q3.mono le⟩
  ·rcases fnew kk arr hkk with h1|⟨h1,b,L,e,af,cs,h2,h3,h4,h5,_⟩
   ·exact rs.frz kk arr h1
   ·refine⟨h1,fun b' L' x hb' hx hd he=>?_⟩
    obtain⟨g1,g2⟩:=zx b' x hx hd;have:=r.excl b L e af cs h3 h4 b' L' x hb' g2 hd (by rw[he,h5]);subst this;exact g1 h2
 refine j6.mono (hp0.2 ⟨fun _=>none,zP ρ ⟨h.sz,h.fl,trP DB⟩ w,0⟩ (low w.heap.size) w args
  ⟨(fun _ _ hb=>by cases hb),(fun _ _ _ _ _ _ hb=>by cases hb),(fun _ _ _ hb=>by cases hb),(fun _ _ _ _ _ hb=>by cases hb),(fun _ _ _ hb=>by cases hb),(fun _ _ _ _ _ hb=>by cases hb),(fun _ _ hb=>by cases hb),(fun _ h=>h),
   (fun k arr hk=>⟨(r1.frz k arr hk).1,fun _ _ _ hb=>by cases hb⟩),Nat.le_refl _⟩ (CRs.vr (ρ:=⟨fun _=>none,zP ρ ⟨h.sz,h.fl,trP DB⟩ w,0⟩) hcr)) ?_
 rintro e w' ⟨v0,v',h',ρ',rfl,⟨rfl,rfl⟩,g2,g3,g4⟩;have f1:∀k a,zP ρ ⟨h.sz,h.fl,trP DB⟩ w k=some a->ρ'.frz k=some a:=g4.frz;have f2:∀k a,ρ'.frz k=some a->zP ρ ⟨h.sz,h.fl,trP DB⟩ w k=some a∨w.heap.size<=k:=fun k a hk=>(g4.fnew k a hk).imp id Nat.not_lt.1
 have f3:∀k a,ρ'.frz k=some a->∃ty fz,w'.heap[k]?=some (.cells a ty fz):=fun k a hk=>(g3.frz k a hk).1
 have r2:=r1.frz' g4.pres g4.wle f1 f2 f3;refine⟨v0,v',vn h DB,⟨ρ.loc,ρ'.frz,ρ.n⟩,rfl,hk,CR.vr (ρ:=⟨ρ.loc,ρ'.frz,ρ.n⟩) (g2.cr hv),r2,?_⟩;refine⟨fun _ _=>rfl,by rw[Qm];exact Nat.le_refl _,Ql,fun b hb _=>?_,fun k hk=>g4.pres k (r.base _ hk),g4.wle,g4.io,fun k a hk=>f1 k a (xz hk),fun k a hk=>?_,Nat.le_refl _⟩
 ·rw[kT,if_neg];intro hm;obtain⟨p,hp1,hp2⟩:=List.mem_map.1 hm;have:=(hg p hp1).2;omega
 ·rcases f2 k a hk with h1|h1
  ·rcases fnew k a h1 with h2|⟨_,b,L,_,_,_,_,h3,_,h5,h6⟩
   ·exact .inl h2
   ·right;rw[← h5];exact r.flr b L h3 h6
  ·exact .inr (x7 r.base h1)
end Go.Kc
end
section
/- The last step from the abstract machine to a row: what a run keeps of the world; the tree of the code; a law's call. No condition. -/
namespace Go.Kc
variable {P:Program} {env:Tr IFn} {ho:yq}

inductive OkT (P:Program):Nat->Nat->Tr IFn->Prop where
 | leaf (a b:Nat):OkT P a b .leaf
 | no (a b:Nat) {l r:Tr IFn}:OkT P (2*a) (a+b) l->OkT P (2*a) (2*a+b) r->OkT P a b (.node none l r)
 | fn (a b:Nat) {i:IFn} {l r:Tr IFn}:qt P b i=true->OkT P (2*a) (a+b) l->OkT P (2*a) (2*a+b) r->OkT P a b (.node (some i) l r)

theorem OkT.get{a b:Nat}{t:Tr IFn}(h:OkT P a b t):∀n i,t.get n=some i->qt P (a*n+b) i=true:=by
 induction h with
 | leaf=>intro n i h;simp at h
 | no a b hl hr ihl ihr =>
  intro n i h;cases n with
  | zero=>rw[Tr.get_node] at h;cases h
  | succ m =>
   rcases Nat.mod_two_eq_zero_or_one m with h0|h0
   ·obtain⟨j,rfl⟩:∃j,m=2*j:=⟨m / 2,by omega⟩
    rw[Tr.get_node] at h;simp only[h0,if_true,Nat.mul_div_cancel_left j (Nat.zero_lt_two)] at h;have:=ihl j i h;rwa [show 2*a*j+(a+b)=a*(2*j+1)+b from by rw[Nat.mul_add,Nat.mul_one,← Nat.mul_assoc,Nat.mul_comm a 2];omega] at this
   ·obtain⟨j,rfl⟩:∃j,m=2*j+1:=⟨m / 2,by omega⟩
    rw[Tr.get_node] at h;simp only[h0,Nat.one_ne_zero,if_false,show (2*j+1) / 2=j from by omega] at h
    have:=ihr j i h;rwa [show 2*a*j+(2*a+b)=a*(2*j+1+1)+b from by rw[Nat.mul_add,Nat.mul_add,Nat.mul_one,← Nat.mul_assoc,Nat.mul_comm a 2];omega] at this
 | fn a b hc hl hr ihl ihr =>
  intro n i h;cases n with
  | zero=>rw[Tr.get_node] at h;cases h;simpa using hc
  | succ m =>
   rcases Nat.mod_two_eq_zero_or_one m with h0|h0
   ·obtain⟨j,rfl⟩:∃j,m=2*j:=⟨m / 2,by omega⟩
    rw[Tr.get_node] at h;simp only[h0,if_true,Nat.mul_div_cancel_left j (Nat.zero_lt_two)] at h;have:=ihl j i h;rwa [show 2*a*j+(a+b)=a*(2*j+1)+b from by rw[Nat.mul_add,Nat.mul_one,← Nat.mul_assoc,Nat.mul_comm a 2];omega] at this
   ·obtain⟨j,rfl⟩:∃j,m=2*j+1:=⟨m / 2,by omega⟩
    rw[Tr.get_node] at h;simp only[h0,Nat.one_ne_zero,if_false,show (2*j+1) / 2=j from by omega] at h
    have:=ihr j i h;rwa [show 2*a*j+(2*a+b)=a*(2*j+1+1)+b from by rw[Nat.mul_add,Nat.mul_add,Nat.mul_one,← Nat.mul_assoc,Nat.mul_comm a 2];omega] at this

theorem OkT.envOk{t:Tr IFn}(h:OkT P 1 0 t):QT P t:=fun f i hg=>by
 have:=h.get f i hg;rwa [Nat.one_mul] at this

theorem Kept.same{ρ ρ':Ren}{h h':Hp}{w w':World}(k:Kept ρ (low w.heap.size) h w ρ' h' w')(may:MemPlace->Prop):w.keptBut w' may:=by
 refine⟨k.io.1,k.io.2,fun i hi=>?_⟩
 have e:=k.pres i hi;rw[e];cases w.heap[i]? with
 | none=>rfl
 | some o=>cases o<;>simp
noncomputable def ice(w:World):Ren:=⟨fun _=>none,fun k=>match w.heap[k]? with|some (.cells arr _ _)=>some arr|_=>none,0⟩
theorem qd4{w:World}{k:Nat}{arr:Array Value}:(ice w).frz k=some arr↔∃ty fz,w.heap[k]?=some (.cells arr ty fz):=by
 show (match w.heap[k]? with|some (.cells arr _ _)=>some arr|_=>none)=some arr↔_
 cases w.heap[k]? with
 | none=>simp
 | some o=>cases o<;>simp
theorem Rel.ice(w:World):Rel σ0 (ice w) (low w.heap.size) H0 w :=
 ⟨(fun _ _ hb=>by cases hb),(fun _ _ _ _ _ _ hb=>by cases hb),(fun _ _ _ hb=>by cases hb),(fun _ _ _ _ _ hb=>by cases hb),(fun _ _ _ hb=>by cases hb),(fun _ _ _ _ _ hb=>by cases hb),(fun _ _ hb=>by cases hb),(fun _ h=>h),
  (fun k arr hk=>⟨qd4.1 hk,fun _ _ _ hb=>by cases hb⟩),Nat.le_refl _⟩
theorem qb.law{f:Nat}{vs:List AV}{args:Array Value}(hp:qb P f vs (.b true))(hc:qdU P f)(w:World)(ha:VRs σ0 (ice w) vs args.toList):Calls P f args w fun e w'=>e = .returned (.bool true)∧∀may,w.keptBut w' may:=by
 have h:=(hp H0 (fun v _=>v = .b true) rfl).2 (ice w) (low w.heap.size) w args (Rel.ice w) ha
 rcases h with⟨_,h⟩|⟨v,w',h,_⟩
 ·refine h.mono fun e w' hh=>?_
  obtain⟨v,v',h',ρ',rfl,rfl,hv,_,hk⟩:=hh;cases hv;exact⟨rfl,fun may=>hk.same may⟩
 ·obtain⟨fn,h1,h2,h3⟩:=hc;rw[vV h1 h2 h3] at h;cases h
end Go.Kc
end
section
/- Arguments of structs and rows, opened: what reads as data is a value of the abstract machine; what stays reads as before. Conditions: on the types, with each theorem. -/
namespace Go.Kc
section
variable {H:Type} {enc:TypeId×Value->H} {P:Program} {w:World} {α β:Type} {t e:TypeId}
theorem CRs.app{φ:Nat->Option (Array Value)}:∀{as bs:List AV} {us vs:List Value},CRs σ0 φ as us->CRs σ0 φ bs vs->CRs σ0 φ (as++bs) (us++vs)
 | _,_,_,_,.nil,h=>h
 | _,_,_,_,.cons v l v' l' h hs,h2=>.cons _ _ _ _ h (CRs.app hs h2)
def wL(enc:TypeId×Value->H)(P:Program)(w:World)(t:TypeId)(I:α->Prop)(E:α->List AV):Prop :=
 ∀(fuel:Nat) (cs:List Value) x,DataW.trod enc P w 0 (fun _=>true) true fuel t cs=some x->∃a,I a∧CRs σ0 (ice w).frz (E a) cs
theorem qnO{k:IntKind}(ht:P.underlying t=some (.int k)):wL enc P w t (fun n:Int=>(Lit.int k n).wf=true) (fun n=>[.i k n]):=by
 intro fuel cs x h;obtain⟨n,rfl,_,hw⟩:=DataW.trod_int ht h;exact⟨n,hw,.cons _ _ _ _ (.i _ _) .nil⟩
theorem qmR(ht:P.underlying t=some .bool):wL enc P w t (fun _:Bool=>True) (fun b=>[.b b]):=by
 intro fuel cs x h;obtain⟨b,rfl,_⟩:=DataW.trod_bool ht h;exact⟨b,trivial,.cons _ _ _ _ (.b _) .nil⟩
theorem qnP(ht:P.underlying t=some .string):wL enc P w t (fun s:List UInt8=>s.length<=maxLen) (fun s=>[.s s]):=by
 intro fuel cs x h;obtain⟨s,rfl,_,hw⟩:=DataW.trod_string ht h;obtain⟨⟨l⟩⟩:=s;exact⟨l,hw,.cons _ _ _ _ (.s _) .nil⟩
theorem qiy{a:Addr}{v:Value}(h:w.cell? a=some v):a.spot=none∧∃arr ty fz,w.heap[a.block]?=some (.cells arr ty fz)∧arr[a.off]?=some v:=by
 unfold World.cell? at h;split at h
 ·rename_i c ty fz hc;split at h
  ·cases h
  ·rename_i hs;refine⟨by simpa using hs,c,ty,fz,hc,h⟩
 ·cases h
theorem qkK{I:α->Prop}{E:α->List AV}{m:Nat}(ht:P.underlying t=some (.slice e))(he:wL enc P w e I E)(hE:∀a,(E a).length=m)(hc:P.cellsOf e=m)(hm:0<m) :
  wL enc P w t (fun l:List α=>l.length<=maxLen∧∀a ∈ l,I a) (fun l=>[.fz l.length (l.flatMap E)]):=by
 intro fuel cs x h;rcases DataW.trod_slice ht h with⟨rfl,_⟩|⟨a,len,cap,elems,rest,n,_,rfl,_,_,hl,hmx,hlen,hel,hsp,_⟩
 ·exact⟨[],⟨Nat.zero_le _,fun _ h=>by cases h⟩,.cons _ _ _ _ (.fz0 none) .nil⟩
 obtain⟨hrl,hr⟩:=hsp rfl;rcases Nat.eq_zero_or_pos cap with h0|hpos
 ·subst h0;obtain rfl:len=0:=by omega
  exact⟨[],⟨Nat.zero_le _,fun _ h=>by cases h⟩,.cons _ _ _ _ (.fz0 (some a)) .nil⟩
 have first:∃v,w.cell? a=some v:=by
  have:∃cs',w.cells? 0 (a.add (0*P.cellsOf e)) (P.cellsOf e)=some cs':=by
   rcases Nat.eq_zero_or_pos len with h1|h1
   ·have:=hr 0 (by omega);have hlt:0<rest.length:=by omega
    rw[List.getElem?_eq_getElem hlt,Option.bind_eq_some_iff] at this;obtain⟨c,hc',_⟩:=this;subst h1;exact⟨c,hc'⟩
   ·have:=hel 0 h1;have hlt:0<elems.length:=by omega
    rw[List.getElem?_eq_getElem hlt,Option.bind_eq_some_iff] at this;obtain⟨c,hc',_⟩:=this;exact⟨c,hc'⟩
  obtain⟨cs',h2⟩:=this;obtain⟨_,q1,q2⟩:=World.cells?_some h2;have:=q2 0 (by omega);rw[List.getElem?_eq_getElem (by omega)] at this;simp only[Nat.zero_mul,Addr.add,if_true] at this;exact⟨_,this⟩
 obtain⟨v0,hv0⟩:=first
 obtain⟨hs,arr,ty,fz,hb,_⟩:=qiy hv0
 have key:∀k,k<=len->∃l:List α,l.length=k∧(∀b ∈ l,I b)∧CRs σ0 (ice w).frz (l.flatMap E) ((arr.toList.drop a.off).take (k*m)):=by
  intro k
  induction k with
  | zero=>intro _;exact⟨[],rfl,(fun _ h=>by cases h),by simpa using .nil⟩
  | succ k ih =>
   intro hk;obtain⟨l,h1,h2,h3⟩:=ih (by omega);have hk':=hel k (by omega);have hlt:k<elems.length:=by omega
   rw[List.getElem?_eq_getElem hlt,Option.bind_eq_some_iff] at hk';obtain⟨c,hcs,htr⟩:=hk';obtain⟨_,q1,q2⟩:=World.cells?_some hcs;obtain⟨b,hb1,hb2⟩:=he _ _ _ htr
   have e1:c=((arr.toList.drop a.off).drop (k*m)).take m:=by
    refine List.ext_getElem? fun j=>?_
    by_cases hj:j<m
    ·have:=q2 j (by omega);rw[← this]
     have e2:w.cell? ((a.add (k*P.cellsOf e)).add j)=arr[a.off+(k*m+j)]?:=by
      have ha:(a.add (k*P.cellsOf e)).add j=⟨a.block,a.off+(k*m+j),none⟩:=by
       unfold Addr.add;rw[hc];split
       ·split
        ·rename_i h4 h5;rw[h4,h5];cases a;simp_all
        ·rename_i h4 h5;rw[h4];simp[hs]
       ·split
        ·rename_i h4 h5;rw[h5];cases a;simp_all
        ·simp;omega
      rw[ha];simp[World.cell?,hb]
     rw[e2,List.getElem?_take_of_lt hj,List.getElem?_drop,List.getElem?_drop];simp[Array.getElem?_toList]
    ·rw[List.getElem?_eq_none (by omega),List.getElem?_eq_none];simp;omega
   refine⟨l++[b],by simp[h1],fun x hx=>?_,?_⟩
   ·rcases List.mem_append.1 hx with hx|hx
    ·exact h2 x hx
    ·obtain rfl:=List.mem_singleton.1 hx;exact hb1
   ·rw[List.flatMap_append,Nat.succ_mul,List.take_add,← e1];simpa using h3.app hb2
 obtain⟨l,h1,h2,h3⟩:=key len (Nat.le_refl _);refine⟨l,⟨by omega,h2⟩,.cons _ _ _ _ ?_ .nil⟩
 have hfl:(l.flatMap E).length=len*m:=by
  rw[← h1];clear h1 h2 h3
  induction l with
  | nil=>simp
  | cons x l ih=>simp[hE,ih,Nat.succ_mul,Nat.add_comm]
 obtain⟨blk,off,spot⟩:=a;cases hs;rw[h1];exact .fz len off cap _ blk arr hl (qd4.2 ⟨ty,fz,hb⟩) (by rw[hfl];exact h3)
def qbK(enc:TypeId×Value->H)(P:Program)(w:World)(fs:List Field)(o n:Nat)(I:α->Prop)(E:α->List AV):Prop :=
 (∀a,(E a).length=n)∧∀(fuel:Nat) (cs:List Value),(∀f ∈ fs,∃x,DataW.trod enc P w 0 (fun _=>true) true fuel f.type ((cs.drop f.offset).take (P.cellsOf f.type))=some x)->∃a,I a∧CRs σ0 (ice w).frz (E a) ((cs.drop o).take n)
theorem qmQ{o:Nat}:qbK enc P w [] o 0 (fun _:Unit=>True) (fun _=>[]):=⟨fun _=>rfl,fun _ cs _=>⟨(),trivial,by simpa using .nil⟩⟩
theorem qkI{f:Field}{fs:List Field}{o m n:Nat}{I:α->Prop}{E:α->List AV}{J:β->Prop}{F:β->List AV}(h:wL enc P w f.type I E)(hE:∀a,(E a).length=m)(ho:f.offset=o)(hc:P.cellsOf f.type=m)
  (hr:qbK enc P w fs (o+m) n J F):qbK enc P w (f::fs) o (m+n) (fun p:α×β=>I p.1∧J p.2) (fun p=>E p.1++F p.2):=by
 refine⟨fun p=>by simp[hE,hr.1],fun fuel cs hf=>?_⟩
 obtain⟨x,hx⟩:=hf f (List.mem_cons_self ..);obtain⟨a,ha,h1⟩:=h _ _ _ hx;obtain⟨b,hb,h2⟩:=hr.2 fuel cs fun g hg=>hf g (List.mem_cons_of_mem _ hg)
 refine⟨(a,b),⟨ha,hb⟩,?_⟩;rw[ho,hc] at h1;rw[List.take_add,List.drop_drop];exact h1.app h2
theorem qjO{fs:Array Field}{n:Nat}{I:α->Prop}{E:α->List AV}(ht:P.underlying t=some (.struct fs))(hc:P.cellsOf t=n)(h:qbK enc P w fs.toList 0 n I E):wL enc P w t I E:=by
 intro fuel cs x hx;obtain⟨xs,m,rfl,_,hl,hxs,hf⟩:=DataW.trod_struct ht hx
 obtain⟨a,ha,h1⟩:=h.2 m cs fun f hfm=>by
  obtain⟨i,hi⟩:=List.getElem?_of_mem hfm;have hi':fs[i]?=some f:=by simpa using hi
  have:=hf i f hi'
  have hlt:i<xs.length:=by
   rw[hxs];exact (Array.getElem?_eq_some_iff.1 hi').1
  rw[List.getElem?_eq_getElem hlt] at this;exact⟨_,this⟩
 refine⟨a,ha,?_⟩;rwa [List.drop_zero,List.take_of_length_le (by omega)] at h1
theorem wL.map{I:α->Prop}{E:α->List AV}{J:β->Prop}{F:β->List AV}(h:wL enc P w t I E)(g:α->β)(hg:∀a,I a->J (g a)∧F (g a)=E a):wL enc P w t J F:=by
 intro fuel cs x hx;obtain⟨a,ha,h1⟩:=h _ _ _ hx;exact⟨g a,(hg a ha).1,by rw[(hg a ha).2];exact h1⟩
theorem wL.agg{I:α->Prop}{E:α->List AV}(h:wL enc P w t I E){v:Value}{d:DataW H}{p:List MemPlace}(ha:∃cs,v = .agg cs)(hd:DataW.Trod enc P w 0 (fun _=>true) true t v d p):∃a,I a∧VR σ0 (ice w) (.agg (E a)) v:=by
 obtain⟨cs,rfl⟩:=ha;obtain⟨fuel,hd⟩:=hd;obtain⟨a,h1,h2⟩:=h _ _ _ hd;exact⟨a,h1,.agg _ _ h2.vr⟩
theorem qcb{w':World}(hk:∀may,w.keptBut w' may){p:MemPlace}(hp:p.block<w.heap.size):w.sameAt w' p:=by
 have h:=(hk fun _=>False).2.2 p.block hp
 have h0:w.heap[p.block]?=some w.heap[p.block]:=Array.getElem?_eq_getElem hp;cases p with
 | cell b off =>
  show w'.cell? ⟨b,off,none⟩=w.cell? ⟨b,off,none⟩;simp only[MemPlace.block] at h h0 hp;unfold World.cell?;split at h
  ·rename_i c1 t1 f1 c2 t2 f2 e1 e2;dsimp only;rw[e1,e2];simpa using h.2.2.2 off (fun hh=>hh)
  ·rename_i e1 e2;dsimp only;rw[e1,e2]
  ·dsimp only;rw[h]
 | map b =>
  show w'.heap[b]?=w.heap[b]?;simp only[MemPlace.block] at h h0 hp;split at h
  ·rename_i c1 t1 f1 c2 t2 f2 e1 e2
   have:c2=c1:=by
    apply Array.ext_getElem?;intro j;exact h.2.2.2 j (fun hh=>hh)
   rw[e1,e2,h.1,h.2.1,this]
  ·rename_i e1 e2;rcases h with hh|⟨h1,h2⟩
   ·exact hh.elim
   ·rw[e1,e2,h1,h2]
  ·exact h
theorem Trod.stay{w':World}{T:TypeId->Prop}(K:Kids P T)(hz:∀t e,T t->P.underlying t=some (.slice e)->0<P.cellsOf e){ts:List TypeId}{vs:List Value}{ds:List (DataW H)}{ps:List MemPlace}(hT:∀t ∈ ts,T t)
  (h:DataW.TrodAll enc P w 0 (fun _=>true) true ts vs ds ps) (hk:∀may,w.keptBut w' may):DataW.TrodAll enc P w' 0 (fun b=>decide (b<w.heap.size)) true ts vs ds ps:=by
 have hlt:=DataW.TrodAll.lt h;have h1:DataW.TrodAll enc P w 0 (fun b=>decide (b<w.heap.size)) true ts vs ds ps:=h.respare K hz hT fun p hp=>decide_eq_true (hlt p hp)
 clear h
 induction ts generalizing vs ds ps with
 | nil =>
  cases vs<;>cases ds<;>first|exact h1|exact h1.elim
 | cons t ts ih =>
  cases vs with
  | nil=>exact h1.elim
  | cons v vs =>
   cases ds with
   | nil=>exact h1.elim
   | cons d ds =>
    obtain⟨p,q,⟨fuel,h2⟩,h3,e⟩:=h1;subst e;refine⟨p,q,⟨fuel,DataW.trod_carry _ _ _ _ h2 fun x hx=>qcb hk (hlt x (List.mem_append_left _ hx))⟩,?_,rfl⟩
    exact ih (fun t ht=>hT t (List.mem_cons_of_mem _ ht)) (fun x hx=>hlt x (List.mem_append_right _ hx)) h3
end
end Go.Kc
namespace Go.Kc
theorem qmW{k:IntKind}{l:List Int}:l.flatMap (fun n=>[AV.i k n])=l.map (.i k):=by
 induction l with
 | nil=>rfl
 | cons x l ih=>simp[ih]
theorem qjR{P:Program}{H:Type}{enc:TypeId×Value->H}{f:Func}{s:ChangeSpec}{apart fresh handsOn:Bool}{W W':World}{args:Array Value}{v:Value}{ds gs:List (DataW H)}{before pv:List MemPlace}
  (hW:DataW.Whole enc P f.params.toList s.vars apart W args.toList ds gs before) (hs:(s.fn H (ds++gs)).args=ds)
  {T:TypeId->Prop} (K:Kids P T) (hz:∀t e,T t->P.underlying t=some (.slice e)->0<P.cellsOf e) (hT:∀t ∈ f.params.toList,T t)
  (hres:∀(b:Nat) (sp:Nat->Bool) (hd:Bool),DataW.TrodAll enc P W' b sp hd f.resultTypes.toList (v.resultList f.resultTypes.size) (s.fn H (ds++gs)).results [])
  (hvars:∀sp:Nat->Bool,DataW.TrodVars enc P W' sp s.vars (s.fn H (ds++gs)).vars pv)
  (hk:∀may,W.keptBut W' may):s.post enc P f apart fresh handsOn false W args v W':=by
 have hW':=hW;obtain⟨p,q,hA,_,_⟩:=hW';exact⟨ds,gs,before,[],p,pv,hW,hres _ _ _,by rw[hs];exact Trod.stay K hz hT hA hk,hvars _,hk _,fun h=>by cases h⟩
end Go.Kc
end
section
/- A call on known data whose answer the kernel compares with a value that names no block. No condition. -/
namespace Go.Kc
variable {P:Program} {env:Tr IFn} {ho:yq}
def kOf:IntKind->Nat
 | .i8=>0 | .i16=>1 | .i32=>2 | .i64=>3 | .u8=>4 | .u16=>5 | .u32=>6 | .u64=>7
theorem qjf{a b:IntKind}(h:Nat.beq (kOf a) (kOf b)=true):a=b:=by
 cases a<;>cases b<;>first|rfl|cases h
def qoC:Int->Int->Bool
 | .ofNat a,.ofNat b=>Nat.beq a b
 | .negSucc a,.negSucc b=>Nat.beq a b
 | _,_=>false
theorem qi5:∀{a b:Int},qoC a b=true->a=b
 | .ofNat a,.ofNat b,h=>by rw[Nat.eq_of_beq_eq_true h]
 | .negSucc a,.negSucc b,h=>by rw[Nat.eq_of_beq_eq_true h]
 | .ofNat _,.negSucc _,h=>by cases h
 | .negSucc _,.ofNat _,h=>by cases h
mutual
noncomputable def jK(h:Hp):AV->AV->Bool
 | .b x,v=>match v with | .b y=>(x&&y)||(!x && !y)|_=>false
 | .i k n,v=>match v with | .i k' m=>Nat.beq (kOf k) (kOf k')&&qoC n m|_=>false
 | .s x,v=>match v with | .s y=>eqS x y|_=>false
 | .nils,v=>match v with | .nils=>true|_=>false
 | .nilp,v=>match v with | .nilp=>true|_=>false
 | .nilf,v=>match v with | .nilf=>true|_=>false
 | .nili,v=>match v with | .nili=>true|_=>false
 | .nilm,v=>match v with | .nilm=>true|_=>false
 | .agg cs',v=>match v with | .agg cs=>QZ h cs' cs|_=>false
 | .tup cs',v=>match v with | .tup cs=>QZ h cs' cs|_=>false
 | .fz n cs',v=>match v with
  | .nils=>Nat.beq n 0&&cs'.isEmpty
  | .sl b o m c _=>Nat.beq n m&&Nat.ble m c && !(Nat.beq c 0)&&(match h.tr.get b with|some (.cells _ true _ cs)=>Nat.ble (o+cs'.length) cs.length&&QZ h cs' ((cs.drop o).take cs'.length)|_=>false)
  | .own b m=>Nat.beq n m && !(Nat.beq m 0)&&(match h.tr.get b with|some (.cells _ true _ ys)=>QZ h cs' ys|_=>false)
  | _=>false
 | _,_=>false
noncomputable def QZ(h:Hp):List AV->List AV->Bool
 | [],vs=>vs.isEmpty
 | v'::vs',vs=>match vs with|v::vs=>jK h v' v&&QZ h vs' vs | []=>false
end
theorem qiI{x y:List UInt8}(h:eqS x y=true):x=y:=by
 rw[js] at h;simpa using h
mutual
theorem qd1{h:Hp}:∀(v' v:AV),jK h v' v=true->Frz h v v'
 | .b x,v,hb=>by
  unfold jK at hb;split at hb<;>first|(cases hb;done)|skip
  rename_i y;have:y=x:=by cases x<;>cases y<;>first|rfl|cases hb
  subst this;exact .b _
 | .i k n,v,hb=>by
  unfold jK at hb;split at hb<;>first|(cases hb;done)|skip
  simp only[Bool.and_eq_true] at hb;obtain rfl:=qjf hb.1;obtain rfl:=qi5 hb.2;exact .i _ _
 | .s x,v,hb=>by
  unfold jK at hb;split at hb<;>first|(cases hb;done)|skip
  obtain rfl:=qiI hb;exact .s _
 | .nils,v,hb=>by unfold jK at hb;split at hb<;>first|(cases hb;done)|exact .nils
 | .nilp,v,hb=>by unfold jK at hb;split at hb<;>first|(cases hb;done)|exact .nilp
 | .nilf,v,hb=>by unfold jK at hb;split at hb<;>first|(cases hb;done)|exact .nilf
 | .nili,v,hb=>by unfold jK at hb;split at hb<;>first|(cases hb;done)|exact .nili
 | .nilm,v,hb=>by unfold jK at hb;split at hb<;>first|(cases hb;done)|exact .nilm
 | .agg cs',v,hb=>by
  unfold jK at hb;split at hb<;>first|(cases hb;done)|skip
  exact .agg _ _ (kI cs' _ hb)
 | .tup cs',v,hb=>by
  unfold jK at hb;split at hb<;>first|(cases hb;done)|skip
  exact .tup _ _ (kI cs' _ hb)
 | .fz n cs',v,hb=>by
  unfold jK at hb;split at hb<;>first|(cases hb;done)|skip
  ·simp only[Bool.and_eq_true] at hb;obtain rfl:=Nat.eq_of_beq_eq_true hb.1;have:cs'=[]:=by simpa using hb.2
   rw[this];exact .nilz
  ·simp only[Bool.and_eq_true] at hb;obtain⟨⟨⟨h1,h2⟩,h3⟩,h4⟩:=hb;obtain rfl:=Nat.eq_of_beq_eq_true h1;split at h4<;>first|(cases h4;done)|skip
   rename_i hg;simp only[Bool.and_eq_true] at h4;refine .sl _ _ _ _ _ _ _ _ cs'.length _ hg (Nat.le_of_ble_eq_true h2) (Nat.le_of_ble_eq_true h4.1) (fun h0=>?_) (kI cs' _ h4.2)
   subst h0;cases h3
  ·simp only[Bool.and_eq_true] at hb;obtain⟨⟨h1,h2⟩,h4⟩:=hb;obtain rfl:=Nat.eq_of_beq_eq_true h1;split at h4<;>first|(cases h4;done)|skip
   rename_i hg;refine .own _ _ _ _ _ _ hg (fun h0=>?_) (kI cs' _ h4)
   subst h0;cases h2
 | .undef,v,hb=>by unfold jK at hb;cases hb
 | .ptr _ _,v,hb=>by unfold jK at hb;cases hb
 | .sl _ _ _ _ _,v,hb=>by unfold jK at hb;cases hb
 | .fn _ _ _,v,hb=>by unfold jK at hb;cases hb
 | .ifc _ _,v,hb=>by unfold jK at hb;cases hb
 | .map _,v,hb=>by unfold jK at hb;cases hb
 | .sym _,v,hb=>by unfold jK at hb;cases hb
 | .pf _ _,v,hb=>by unfold jK at hb;cases hb
 | .e0,v,hb=>by unfold jK at hb;cases hb
 | .own _ _,v,hb=>by unfold jK at hb;cases hb
 | .nz,v,hb=>by unfold jK at hb;cases hb
 | .yl _,v,hb=>by unfold jK at hb;cases hb
 | .lp _,v,hb=>by unfold jK at hb;cases hb
theorem kI{h:Hp}:∀(vs' vs:List AV),QZ h vs' vs=true->Frzs h vs vs'
 | [],vs,hb=>by
  unfold QZ at hb;have:vs=[]:=by simpa using hb
  rw[this];exact .nil
 | v'::vs',vs,hb=>by
  unfold QZ at hb;split at hb<;>first|(cases hb;done)|skip
  simp only[Bool.and_eq_true] at hb;exact .cons _ _ _ _ (qd1 v' _ hb.1) (kI vs' _ hb.2)
end
noncomputable def tt(b:Bool):Prop:=Bool.rec (motive:=fun _=>Prop) False True b
theorem qpb{b:Bool}(h:tt b):b=true:=by cases b with|true=>rfl|false=>exact h.elim
theorem qb.runF(he:QT P env)(hh:yH P ho)(m:Nat){f:Nat}{vs:List AV}{v:AV}(hcl:qx vs=true)(hk:yz env ho (fv env ho m) f vs H0 (fun v' h'=>tt (jK h' v v'))=True):qb P f vs v :=
 qb.of_SC hcl ((SC.run he hh m (of_eq_true hk)).mono fun v' h' hv=>qd1 _ _ (qpb hv))
end Go.Kc
end
section
/- The code of a run, checked at once; short forms for its tree and for tables. No condition. -/
namespace Go.Kc
variable {P:Program}
noncomputable def okB(P:Program):Tr IFn->Nat->Nat->Bool:=fun t=>Tr.rec (motive:=fun _=>Nat->Nat->Bool) (fun _ _=>true) (fun v _ _ il ir a b=>(match v with|none=>true|some i=>qt P b i)&&(il (2*a) (a+b)&&ir (2*a) (2*a+b))) t
theorem qaR:∀(t:Tr IFn) (a b:Nat),okB P t a b=true->OkT P a b t
 | .leaf,a,b,_=>.leaf a b
 | .node none l r,a,b,h=>by
  have h':(true&&(okB P l (2*a) (a+b)&&okB P r (2*a) (2*a+b)))=true:=h;simp only[Bool.and_eq_true] at h';exact .no a b (qaR l _ _ h'.2.1) (qaR r _ _ h'.2.2)
 | .node (some i) l r,a,b,h=>by
  have h':(qt P b i&&(okB P l (2*a) (a+b)&&okB P r (2*a) (2*a+b)))=true:=h;simp only[Bool.and_eq_true] at h';exact .fn a b h'.1 (qaR l _ _ h'.2.1) (qaR r _ _ h'.2.2)
theorem qpr{t:Tr IFn}(h:okB P t 1 0=true):QT P t:=(qaR t 1 0 h).envOk
def Tr.o(l r:Tr IFn):Tr IFn:=.node none l r
def Tr.f(i:IFn):Tr IFn:=.node (some i) .leaf .leaf
def Tr.g(i:IFn)(l r:Tr IFn):Tr IFn:=.node (some i) l r
end Go.Kc
end
section
/- An array among a law's arguments, opened. No condition. -/
namespace Go.Kc

variable {P:Program} {H:Type} {enc:TypeId×Value->H} {w:World} {t e:TypeId} {α:Type}
theorem qkJ{n m:Nat}{I:α->Prop}{E:α->List AV}(ht:P.underlying t=some (.array n e))(he:wL enc P w e I E)(hc:P.cellsOf e=m)(hct:P.cellsOf t=n*m) :
  wL enc P w t (fun l:List α=>l.length=n∧∀a ∈ l,I a) (fun l=>l.flatMap E):=by
 intro fuel cs x hx;obtain⟨xs,k,_,_,hl,hxs,hf⟩:=DataW.trod_array ht hx
 have go:∀j,j<=n->∃l:List α,(l.length=j∧∀a ∈ l,I a)∧CRs σ0 (ice w).frz (l.flatMap E) (cs.take (j*m)):=by
  intro j
  induction j with
  | zero=>intro _;exact⟨[],⟨rfl,fun _ h=>by cases h⟩,by simpa using CRs.nil⟩
  | succ j ih =>
   intro hj;obtain⟨l,⟨h1,h2⟩,h3⟩:=ih (by omega);have h4:=hf j (by omega);have hlt:j<xs.length:=by omega
   rw[List.getElem?_eq_getElem hlt,hc] at h4;obtain⟨a,ha,h5⟩:=he _ _ _ h4;refine⟨l++[a],⟨by simp[h1],fun b hb=>?_⟩,?_⟩
   ·rcases List.mem_append.1 hb with hb|hb
    ·exact h2 b hb
    ·rw[List.mem_singleton.1 hb];exact ha
   ·rw[List.flatMap_append,Nat.succ_mul,List.take_add];refine h3.app ?_;simpa using h5
 obtain⟨l,h1,h2⟩:=go n (Nat.le_refl _);rw[List.take_of_length_le (by omega)] at h2;exact⟨l,h1,h2⟩
end Go.Kc
end
section
/- Calls that answer rows of one's own, their arguments lent. No condition. -/
namespace Go.Kc
variable {P:Program}
mutual
def wy:AV->Bool
 | .map _=>false
 | .fz _ _=>false
 | .pf _ _=>false
 | .sym _=>false
 | .fn _ a c=>wz a&&wz c
 | .ifc _ v=>wy v
 | .agg cs=>wz cs
 | .tup cs=>wz cs
 | .ptr _ _=>true | .sl _ _ _ _ _=>true | .own _ _=>true
 | .undef=>true | .b _=>true | .i _ _=>true | .s _=>true | .nilp=>true | .nils=>true | .nilf=>true | .nili=>true | .nilm=>true | .e0=>true | .nz=>true | .yl _=>true | .lp _=>true
def wz:List AV->Bool
 | []=>true
 | v::vs=>wy v&&wz vs
end
mutual
theorem VR.thaw{ρ:Ren}{φ:Nat->Option (Array Value)}:∀{a:AV} {v:Value},VR σ0 ρ a v->wy a=true->VR σ0 ⟨ρ.loc,φ,ρ.n⟩ a v
 | _,_,.undef v,_=>.undef v
 | _,_,.b x,_=>.b x
 | _,_,.i k n,_=>.i k n
 | _,_,.s x,_=>.s x
 | _,_,.nilp,_=>.nilp
 | _,_,.ptr b o L h,_=>.ptr b o L h
 | _,_,.nils,_=>.nils
 | _,_,.sl b o len cap c loose L h hc,_=>.sl b o len cap c loose L h hc
 | _,_,.slz b o x l L h,_=>.slz b o x l L h
 | _,_,.nilf,_=>.nilf
 | _,_,.fn f first cap first' cap' h1 h2,hc=>by
  simp only[wy,Bool.and_eq_true] at hc;exact .fn _ _ _ _ _ (h1.thaw hc.1) (h2.thaw hc.2)
 | _,_,.nili,_=>.nili
 | _,_,.ifc t v v' h,hc=>by simp only[wy] at hc;exact .ifc _ _ _ (h.thaw hc)
 | _,_,.agg cs cs' h,hc=>by simp only[wy] at hc;exact .agg _ _ (h.thaw hc)
 | _,_,.tup cs cs' h,hc=>by simp only[wy] at hc;exact .tup _ _ (h.thaw hc)
 | _,_,.nilm,_=>.nilm
 | _,_,.map b L h h0,hc=>by simp[wy] at hc
 | _,_,.sym j,hc=>by simp[wy] at hc
 | _,_,.fz n off c cs k arr hn h hs,hc=>by simp[wy] at hc
 | _,_,.fz0 a,hc=>by simp[wy] at hc
 | _,_,.pf off base cs k arr h hs,hc=>by simp[wy] at hc
 | _,_,.e0 a,_=>.e0 a
 | _,_,.nz a c,_=>.nz a c
 | _,_,.own0 b a hb,_=>.own0 b a hb
 | _,_,.own b n c L h hn hc,_=>.own b n c L h hn hc
 | _,_,.yl b L h,_=>.yl b L h
theorem VRs.thaw{ρ:Ren}{φ:Nat->Option (Array Value)}:∀{a:List AV} {v:List Value},VRs σ0 ρ a v->wz a=true->VRs σ0 ⟨ρ.loc,φ,ρ.n⟩ a v
 | _,_,.nil,_=>.nil
 | _,_,.cons v vs v' vs' h hs,hc=>by
  simp only[wz,Bool.and_eq_true] at hc;exact .cons _ _ _ _ (h.thaw hc.1) (hs.thaw hc.2)
end
theorem qaz:∀{cs:List AV} {j:Nat} {v:AV},wz cs=true->cs[j]?=some v->wy v=true
 | [],_,_,_,h=>by simp at h
 | c::cs,0,v,hf,h=>by
  simp only[wz,Bool.and_eq_true] at hf;simp at h;rw[← h];exact hf.1
 | c::cs,j+1,v,hf,h=>by
  simp only[wz,Bool.and_eq_true] at hf;exact qaz hf.2 (by simpa using h)
def qgv:Blk->Bool
 | .cells _ _ _ cs=>wz cs
 | _=>false
theorem Rel.thaw{ρ:Ren}{φ:Nat->Option (Array Value)}{B:Nat->Prop}{h:Hp}{w:World}(r:Rel σ0 ρ B h w)(hφ:∀k a,φ k=some a->ρ.frz k=some a)(hh:∀b x,h.tr.get b=some x->qgv x=true):Rel σ0 ⟨ρ.loc,φ,ρ.n⟩ B h w:=by
 refine⟨r.dom,fun b L e wf af cs hb hg=>?_,fun b L es hb hg=>?_,r.excl,r.exclm,r.app,r.flr,r.base,fun k arr hk=>r.frz k arr (hφ k arr hk),r.dn⟩
 ·obtain⟨g1,c,ty,fz,g2,g3,g4,g5,g6⟩:=r.cells b L e wf af cs hb hg;exact⟨g1,c,ty,fz,g2,g3,g4,fun j v hv=>let ⟨v',g7,g8⟩:=g5 j v hv;⟨v',g7,g8.thaw (qaz (hh b _ hg) hv)⟩,g6⟩
 ·have:=hh b _ hg;cases this
theorem qam.own{f:Nat}{vs:List AV}{v:AV}{bs:List Blk}(ho:qam P f vs v bs)(hc:qx vs=true):Own P f vs v bs:=fun h k hk=>ho h vs k (Frzs.self hc) hk
theorem qam.sc{f:Nat}{vs vs':List AV}{v:AV}{bs:List Blk}{h:Hp}{k:AV->Hp->Prop}(ho:qam P f vs' v bs)(hf:Frzs h vs vs')(hk:k (shv h.sz v) (xu h (bs.map (shb h.sz)))):SC P f vs h k:=ho h vs k hf hk
theorem qam.of_SC{f:Nat}{vs':List AV}{v:AV}{bs:List Blk}(hv:wy v=true)(hbs:bs.all qgv=true)(hs:SC P f vs' H0 (qh0 v bs)):qam P f vs' v bs:=by
 intro h vs k hf hk;refine⟨hs.1,fun ρ B w args r ha=>?_⟩
 have hcr:=hf.ok r ha;refine j6.mono (hs.2 ⟨fun _=>none,zP ρ h w,0⟩ (low w.heap.size) w args r.bare (CRs.vr (ρ:=⟨fun _=>none,zP ρ h w,0⟩) hcr)) ?_
 rintro e w1 ⟨v0,v',h1,ρ1,rfl,g1,g2,g3,g4⟩;obtain⟨src,s1,s2,s3⟩:=g1 g4.fl;have hw:Wk 0 (mkT [(0,v0)]) h1 (mkT [(0,v)]) (mkH 0 bs):=Wk.mk [(0,v)] bs src ⟨⟨v0,by simp[mkT,Tr.get_set],s1⟩,trivial⟩ s2 s3 g4.fl
 obtain⟨ρ2,t2,r2,k2⟩:=hw ρ1 (low w.heap.size) w1 #[v'] (fun j x hj=>by
  have:=kh hj;simp at this;obtain⟨rfl,rfl⟩:=this;exact⟨by simp,by simpa using g2⟩) g3
 have hv2:VR σ0 ρ2 v v':=by
  have:=(t2 0 v (by simp[mkT,Tr.get_set])).2;simpa using this
 have hφ:∀k a,ρ.frz k=some a->ρ2.frz k=some a:=fun k a hk=>k2.frz k a (g4.frz k a (xz hk))
 have r3:=r2.thaw (φ:=ρ.frz) hφ (fun b x hx=>by
  rw[zO] at hx;exact List.all_eq_true.1 hbs x (List.mem_of_getElem? hx))
 have hv3:=hv2.thaw (φ:=ρ.frz) hv;refine⟨_,v',_,ρ.join ⟨ρ2.loc,ρ.frz,ρ2.n⟩ h.sz bs.length,rfl,hk,hv3.sh r3.dn,Rel.joinH r r3 g4.pres g4.wle (fun _ _ h=>h) (fun _ _ h=>.inl h),?_⟩
 refine⟨fun b hb=>qah hb,by rw[vx];omega,kX,fun b _ hb=>by rw[jm,if_pos hb],fun k hk=>g4.pres k (r.base _ hk),g4.wle,g4.io,fun _ _ h=>h,fun _ _ h=>.inl h,?_⟩
 exact Nat.le_trans r.dn (Nat.le_add_right _ _)
theorem qam.mk{f:Nat}{i:IFn}{vs:List AV}{v:AV}{bs:List Blk}(hc:qt P f i=true)(hv:wy v=true)(hbs:bs.all qgv=true)(hV:V P 0 i.body (jJ i.res (qh0 v bs)) (ve vs 0 .leaf) H0):qam P f vs v bs :=
 qam.of_SC hv hbs (SC.mk hc (qP hV))
end Go.Kc
end
section
/- Ranges over functions: the rules. No condition. -/
namespace Go.Kc
variable {P:Program} {n:Nat} {h:Hp}
def bsy(r:Loop):Loop:={ r with state:=.busy }
def rdy(r:Loop):Loop:={ r with state:=.ready,pending:=none }
def dne(r:Loop)(c:Code):Loop:={ r with state:=.done,pending:=some c }
structure LoopOk (P:Program) (r:Loop) (ps:List Nat) (ai bi:ICode):Prop where
 params:r.params.toList=ps
 code:∃nt,qB P nt r.assign ai=true∧qB P nt r.body bi=true∧nt<=r.tmps.size∧∀p ∈ ps,p<nt
 flat:QM ai=true∧QM bi=true
theorem LoopOk.bsy{r:Loop}{ps:List Nat}{ai bi:ICode}(h:LoopOk P r ps ai bi):LoopOk P (bsy r) ps ai bi:=⟨h.params,h.code,h.flat⟩
theorem LoopOk.rdy{r:Loop}{ps:List Nat}{ai bi:ICode}(h:LoopOk P r ps ai bi):LoopOk P (rdy r) ps ai bi:=⟨h.params,h.code,h.flat⟩
noncomputable def qjT:List Nat->List AV->Tr AV->Tr AV
 | p::ps,u::us,t=>qjT ps us (t.set p u)
 | _,_,t=>t
def qpy(b:Nat)(k:AV->Hp->Prop)(x:X)(_:Tr AV)(h:Hp):Prop :=
 ∃r ts,h.tr.get b=some (.map (xl r ts))∧onX x (k (.b true) (h.put b (.map (xl (rdy r) ts)))) (fun id=>k (.b false) (h.put b (.map (xl (dne r (.exit id)) ts)))) (k (.b false) (h.put b (.map (xl (dne r .ret) ts))))
def qpx(P:Program)(n b:Nat)(r:Loop)(bi:ICode)(Q:X->Tr AV->Hp->Prop)(x:X)(t:Tr AV)(h:Hp):Prop :=
 onX x (∃ts,h.tr.get b=some (.map (xl r ts))∧S P n bi Q t (h.put b (.map (xl (bsy r) ts)))) (fun _=>False) False
theorem qej{ρ:Ren}:∀{ps:List Nat} {us:List AV} {t:Tr AV} {tm:Array Value} {args:List Value},VRs σ0 ρ us args->ps.length=us.length->(∀p ∈ ps,p<tm.size)->TR σ0 ρ t tm->
  TR σ0 ρ (qjT ps us t) ((ps.zip args).foldl (fun tm (p,v)=>tm.setIfInBounds p v) tm)
 | [],[],_,_,_,hv,_,_,ht=>by cases hv;exact ht
 | [],_::_,_,_,_,_,hl,_,_=>by simp at hl
 | _::_,[],_,_,_,_,hl,_,_=>by simp at hl
 | p::ps,u::us,t,tm,args,hv,hl,hp,ht=>by
  cases hv with
  | cons _ _ v vs h1 h2 =>
   have hlt:=hp p (by simp);refine qej (ps:=ps) h2 (by simpa using hl) (fun q hq=>by simpa using hp q (by simp[hq])) (fun j x hj=>?_)
   rw[Tr.get_set] at hj;split at hj
   ·rename_i he;subst he;cases hj;exact⟨by simpa using hlt,by simpa[Array.getD,hlt] using h1⟩
   ·rename_i he;obtain⟨g1,g2⟩:=ht j x hj;refine⟨by simpa using g1,?_⟩
    rw[Array.getD_eq_getD_getElem?,Array.getElem?_setIfInBounds,if_neg (fun e=>he e.symm),← Array.getD_eq_getD_getElem?]
    exact g2
theorem qo4{ρ:Ren}{tm:Array Value}:∀{ts:List (Nat×AV)},(∀p ∈ ts,p.1<tm.size∧VR σ0 ρ p.2 (tm.getD p.1 undef))->TR σ0 ρ (mkT ts) tm :=
 fun h j v hj=>h (j,v) (kh hj)
theorem qec:∀{ts:List (Nat×AV)},(ts.map Prod.fst).Nodup->∀{p:Nat×AV},p ∈ ts->(mkT ts).get p.1=some p.2
 | [],_,_,hp=>by cases hp
 | q::ts,hn,p,hp=>by
  simp only[mkT,Tr.get_set];have hn2:=List.nodup_cons.1 hn;rcases List.mem_cons.1 hp with rfl|hp
  ·rw[if_pos rfl]
  ·rw[if_neg (fun e=>hn2.1 (List.mem_map.2 ⟨p,hp,e⟩))]
   exact qec hn2.2 hp
theorem Qd:∀(l:List (Nat×Value)) (tm:Array Value),(l.foldl (fun tm (p,v)=>tm.setIfInBounds p v) tm).size=tm.size
 | [],_=>rfl
 | p::l,tm=>by rw[List.foldl_cons,Qd l];simp
theorem SY.mk{b:Nat}{us:List AV}{k:AV->Hp->Prop}{r:Loop}{ts:List (Nat×AV)}{ps:List Nat}{ai bi:ICode}(hg:h.tr.get b=some (.map (xl r ts)))(hr:r.state = .ready)(hok:LoopOk P r ps ai bi)(hfl:h.fl<=b)(hbs:b<h.sz)(hl:ps.length=us.length)
  (hA:S P h.sz ai (qpx P h.sz b r bi (qpy b k)) (qjT ps us (mkT ts)) h):SY P b us h k:=by
 intro ρ B w args L hL rl hargs;obtain⟨L0,ob,hob,hrec⟩:=rl.maps b L _ hL hg;obtain⟨rfl,hts⟩:=hrec.rec';obtain⟨nt,hca,hcb,hnt,hps⟩:=hok.code
 have hsz:args.size=r.params.size:=by
  have:=hargs.length;have h2:r.params.size=ps.length:=by rw[← hok.params];simp
  rw[h2,hl,this];simp
 refine⟨r.fn,_,r.assign,r.body,run_yield hob hsz,fun ro=>roundIn_of_wpIn trivial ?_⟩
 have hfold:(r.params.zip args).foldl (fun tmps (t,a)=>tmps.setIfInBounds t a) r.tmps=(ps.zip args.toList).foldl (fun tm (p,v)=>tm.setIfInBounds p v) r.tmps:=by
  rw[← Array.foldl_toList,Array.toList_zip,hok.params]
 rw[hfold]
 have hT:TR σ0 ρ (qjT ps us (mkT ts)) ((ps.zip args.toList).foldl (fun tm (p,v)=>tm.setIfInBounds p v) r.tmps) :=
  qej hargs hl (fun p hp=>Nat.lt_of_lt_of_le (hps p hp) hnt) (qo4 hts)
 have hS:=hA nt r.assign hca (Nat.le_refl _) (some L.blk) (.inr hok.flat.1) ρ B w { tmps:=(ps.zip args.toList).foldl (fun tm (p,v)=>tm.setIfInBounds p v) r.tmps,defers:=[] } hT (by rw[Qd];exact hnt) rl
 refine wpIn_mono hS ?_;rintro e a1 w1 ⟨x1,t1,h1,ρ1,rs,hx,hq,ht1,hs1,hd1,hm,r1,k1⟩;cases hx with
 | exit id=>exact hq.elim
 | ret=>exact hq.elim
 | normal =>
  obtain⟨ts1,hg1,hB⟩:=hq;have r1:=r1.lessB (B:=B) fun k hk=>.inl hk
  have hL1:ρ1 b=some L:=(k1.ext b hbs).trans hL;obtain⟨_,ob1,hob1,hrec1⟩:=r1.maps b L _ hL1 hg1;obtain⟨rfl,hts1⟩:=hrec1.rec';refine⟨w1.putObj L.blk (.loop (Go.Kc.bsy r)),run_beginRound hob1 hr,?_⟩;obtain⟨r2,k2⟩:=r1.putMap (w':=w1.putObj L.blk (.loop (Go.Kc.bsy r))) hL1 hg1 (by rw[k1.fl];exact hfl) hob1 (es':=xl (Go.Kc.bsy r) ts1) (.inr (.inr ⟨_,_,rfl,rfl,hts1⟩)) rfl ⟨rfl,rfl⟩;have hSb:=hB nt r.body hcb k1.szle (some L.blk) (.inr hok.flat.2) ρ1 B _ a1 ht1 hs1 r2;refine wpIn_mono hSb ?_;rintro e a3 w3 ⟨x3,t3,h3,ρ3,rs3,hx3,hq3,ht3,hs3,hd3,hm3,r3,k3⟩;have r3:=r3.lessB (B:=B) fun k hk=>.inl hk
  have kk:=(k1.trans (k2.kep k1.szle)).trans k3;obtain⟨r',ts',hg3,hq3⟩:=hq3;have hL3:ρ3 b=some L:=(kk.ext b hbs).trans hL;obtain⟨_,ob3,hob3,hrec3⟩:=r3.maps b L _ hL3 hg3;obtain⟨rfl,hts3⟩:=hrec3.rec'
  have fin:∀(lp:Loop) (y:Bool),lp.tmps=r'.tmps->k (.b y) (h3.put b (.map (xl lp ts')))->(∃v v0 h' ρ',Ending.returned (Value.bool y) = .returned v0∧k v h'∧VR σ0 ρ' v v0∧Rel σ0 ρ' B h' (w3.putObj L.blk (.loop lp))∧Kept ρ B h w ρ' h' (w3.putObj L.blk (.loop lp))):=by
   intro lp y htm hk;obtain⟨r4,k4⟩:=r3.putMap (w':=w3.putObj L.blk (.loop lp)) hL3 hg3 (by rw[kk.fl];exact hfl) hob3 (es':=xl lp ts') (.inr (.inr ⟨_,_,rfl,rfl,by rw[htm];exact hts3⟩)) rfl ⟨rfl,rfl⟩
   exact⟨.b y,.bool y,_,ρ3,rfl,hk,.b _,r4,(kk.trans (k4.kep kk.szle)).kept rl.dn⟩
  cases hx3 with
  | normal=>exact⟨_,_,run_endRound none hob3,fin (Go.Kc.rdy r') true rfl hq3⟩
  | exit id=>exact⟨_,_,run_endRound (some (.exit id)) hob3,fin (dne r' (.exit id)) false rfl hq3⟩
  | ret=>exact⟨_,_,run_endRound (some .ret) hob3,fin (dne r' .ret) false rfl hq3⟩
def qor(b:Nat)(Q:X->Tr AV->Hp->Prop)(t:Tr AV)(_:AV)(h:Hp):Prop :=
 ∃r ts,h.tr.get b=some (.map (xl r ts))∧r.state≠.busy ∧
  match r.pending with
  | none=>Q .normal t (h.put b .dead)
  | some .ret=>Q .ret t (h.put b .dead)
  | some (.exit id)=>Q (.exit id) t (h.put b .dead)
  | _=>False
def rfK(P:Program)(ps:List Nat)(ai bi:ICode)(Q:X->Tr AV->Hp->Prop)(t:Tr AV)(ts:List (Nat×AV))(h:Hp)(g:AV):Prop :=
 match g with
 | .fn f first cap=>qdU P f∧∀r0,r0.state = .ready->r0.pending=none->LoopOk P r0 ps ai bi->SC P f (first++(.yl h.sz::cap)) (h.push (.map (xl r0 ts))) (qor h.sz Q t)
 | _=>False
set_option maxHeartbeats 1000000 in
theorem S.rangeF{g:O}{ps:List Nat}{ai bi:ICode}{Q:X->Tr AV->Hp->Prop}{ts:List (Nat×AV)}{bl:List Blk}(hlive:bl.all zx=true)(hnd:(ts.map Prod.fst).Nodup)(hnr:QM ai=true∧QM bi=true)(hk:evK (mkT ts) g (rfK P ps ai bi Q (mkT ts) ts (mkH 0 bl))):S P n (.rangeF g ps ai bi) Q (mkT ts) (mkH 0 bl):=by
 intro nt code hc hn ro hro ρ B w a ht hsz r
 obtain rfl:ro=none:=by
  rcases hro with h|h
  ·exact h
  ·cases h
 cases code<;>first|(simp[qB] at hc;done)|skip
 rename_i og ops oa ob;simp only[qB,Bool.and_eq_true] at hc;obtain⟨⟨⟨⟨h1,h2⟩,h3⟩,h4⟩,h5⟩:=hc;have h2:=eq_of_beq h2;obtain⟨gv,hgv,hk2⟩:=qz ht h1 hk;cases gv<;>try exact hgv.elim
 rename_i f first cap
 obtain⟨⟨fn0,c1,c2,c3⟩,hS⟩:=hgv;obtain⟨a',c',q1,q2,q3⟩:=hk2.un_fn
 have hLd:∀b L,ρ b=some L->L.blk<w.heap.size:=by
  intro b L hb;have hlt:=r.dom b L hb;rw[qdF] at hlt;have hx:(mkH 0 bl).tr.get b=some bl[b]:=by rw[zO];exact List.getElem?_eq_getElem hlt
  have hlv:=List.all_eq_true.1 hlive bl[b] (List.getElem_mem hlt);exact r.blk_lt b L hb _ hx (by intro he;rw[he] at hlv;cases hlv)
 refine wpIn_rangeFunc fun fn _=>?_
 let r0:Loop:={ state:=.ready,pending:=none,fn,tmps:=a.tmps,params:=ops,assign:=oa,body:=ob,defers:=w.heap.size }
 let W1:World:=(w.alloc (.deferred (some []))).alloc (.loop r0)
 have hold:∀k,k<w.heap.size->(w.alloc (.deferred (some []))).heap[k]?=w.heap[k]?:=fun k hk=>by
  show (w.heap.push _)[k]?=_;rw[Array.getElem?_push,if_neg (by omega)]
 have hD:(w.alloc (.deferred (some []))).heap[w.heap.size]?=some (.deferred (some [])):=World.alloc_heap_new w _
 have r1:Rel σ0 ρ (BM B [w.heap.size]) (mkH 0 bl) (w.alloc (.deferred (some []))):=by
  have r':=r.world (w':=w.alloc (.deferred (some []))) hold (by simp);refine⟨r'.dom,r'.cells,r'.maps,r'.excl,r'.exclm,r'.app,fun b L hb hf hB=>?_,fun k hk=>?_,r'.frz,r'.dn⟩
  ·rcases hB with hB|hB
   ·exact r.flr b L hb hf hB
   ·have:=hLd b L hb;rw[List.mem_singleton] at hB;omega
  ·rcases hk with hk|hk
   ·have:=r.base k hk;simp;omega
   ·rw[List.mem_singleton] at hk;simp;omega
 have hts:∀p ∈ ts,p.1<r0.tmps.size∧VR σ0 ρ p.2 (r0.tmps.getD p.1 undef):=fun p hp=>ht p.1 p.2 (qec hnd hp)
 obtain⟨r2,k2⟩:=r1.newMap (w':=W1) (es0:=xl r0 ts) (o:=.loop r0) (.inr (.inr ⟨_,_,rfl,rfl,hts⟩)) rfl ⟨rfl,rfl⟩;have hl:(w.alloc (.deferred (some []))).heap.size=w.heap.size+1:=by simp
 rw[hl] at r2 k2;obtain⟨Lc,hLc⟩:∃Lc:Loc,Lc=⟨w.heap.size+1,0,0,0⟩:=⟨_,rfl⟩;rw[← hLc] at r2 k2;have hself:(ρ.add (mkH 0 bl).sz Lc) (mkH 0 bl).sz=some Lc:=Ren.add_self _ _ _;have hle2:=k2.mono r1.dom;have hSC:=hS r0 rfl rfl ⟨h2,⟨nt,h4,h5,hsz,fun p hp=>by rw[← h2] at hp;have:=List.all_eq_true.1 h3 p hp;exact Nat.lt_of_succ_le (Nat.le_of_ble_eq_true this)⟩,hnr⟩
 have hargs:VRs σ0 (ρ.add (mkH 0 bl).sz Lc) (first++(.yl (mkH 0 bl).sz::cap)) (a' ++ #[Value.func (.yield (w.heap.size+1)) #[] #[]]++c').toList:=by
  have hy:VR σ0 (ρ.add (mkH 0 bl).sz Lc) (.yl (mkH 0 bl).sz) (.func (.yield Lc.blk) #[] #[]):=.yl _ Lc hself;have e2:Lc.blk=w.heap.size+1:=by rw[hLc]
  rw[e2] at hy;have:=(q1.mono hle2).append (VRs.cons _ _ _ _ hy (q2.mono hle2));simpa using this
 have hcf:=vV (P:=P) c1 c2 c3
 have hcalls:Calls P f (a' ++ #[Value.func (.yield (w.heap.size+1)) #[] #[]]++c') W1 fun e w'=>∃v v' h' ρ',e = .returned v'∧qor (mkH 0 bl).sz Q (mkT ts) v h'∧VR σ0 ρ' v v'∧Rel σ0 ρ' (BM B [w.heap.size]) h' w'∧Kept (ρ.add (mkH 0 bl).sz Lc) (BM B [w.heap.size]) ((mkH 0 bl).push (.map (xl r0 ts))) W1 ρ' h' w':=by
  rcases hSC.2 _ _ _ _ r2 hargs with⟨_,hh⟩|⟨v,w',hh,_⟩
  ·exact hh
  ·rw[hcf] at hh;cases hh
 have hev:(({ a with defers:=qaN [w.heap.size]++a.defers }:Act)).eval og = .func (.func f) a' c':=q3;refine⟨w.heap.size+1,[{ target:=.collected w.heap.size,args:=#[] }],W1,{ target:=.fn (.func f) c',args:=a' ++ #[Value.func (.yield (w.heap.size+1)) #[] #[]] },W1,f,a' ++ #[Value.func (.yield (w.heap.size+1)) #[] #[]]++c',W1,run_enterLoop_outer _ _ _ _ _,?_,fun _ _=>trivial,?_,fun hh=>(by cases hh),qcG (Calls.mono hcalls ?_)⟩
 ·simp only[resolve,q3];simp[go_sem,Deferred.ofValue,q3]
 ·simp[invoke,hcf]
 rintro e w2 ⟨v,v',h2',ρ2,rfl,hend,hv,r3,k3⟩;obtain⟨r',ts',hg',hst,hmt⟩:=hend;have hL2:ρ2 (mkH 0 bl).sz=some Lc:=(k3.ext _ (by show _<Nat.succ _;exact Nat.lt_succ_self _)).trans hself
 obtain⟨_,ob2,hob2,hrec2⟩:=r3.maps _ Lc _ hL2 hg';obtain⟨rfl,hts2⟩:=hrec2.rec';have hob3:w2.heap[w.heap.size+1]?=some (.loop r'):=by rw[hLc] at hob2;exact hob2
 have hfl2:h2'.fl=0:=k3.fl;obtain⟨re,hre⟩:∃re:Loop,re={ r' with state:=.exhausted }:=⟨_,rfl⟩;have hts4:∀p ∈ ts',p.1<re.tmps.size∧VR σ0 ρ2 p.2 (re.tmps.getD p.1 undef):=by rw[hre];exact hts2
 have hend2:=run_endLoop (P:=P) hob3 hst;rw[← hre] at hend2;clear hre;obtain⟨r4,k4⟩:=r3.putMap (w':=w2.putObj (w.heap.size+1) (.loop re)) hL2 hg' (by rw[hfl2];exact Nat.zero_le _) hob2 (es':=xl re ts') (.inr (.inr ⟨_,_,rfl,rfl,hts4⟩)) (by rw[hLc];rfl) ⟨rfl,rfl⟩
 have r5:Rel σ0 ρ2 (BM B [w.heap.size]) (h2'.put (mkH 0 bl).sz .dead) (w2.putObj (w.heap.size+1) (.loop re)):=by
  refine r4.sub rfl rfl fun b x hx hd=>?_
  simp only[Hp.put,Tr.get_set] at hx ⊢;split at hx
  ·cases hx;exact absurd rfl hd
  ·rename_i hne;rw[if_neg hne];exact hx
 have hD1:W1.heap[w.heap.size]?=some (.deferred (some [])):=by
  show ((w.alloc (.deferred (some []))).heap.push _)[w.heap.size]?=_;rw[Array.getElem?_push,if_neg (by rw[hl];omega)];exact hD
 have hD2:(w2.putObj (w.heap.size+1) (.loop re)).heap[w.heap.size]?=some (.deferred (some [])):=by
  rw[World.putObj_heap_other (by omega),k3.pres _ (.inr (by simp))];exact hD1
 have k0:Kep n ρ B (mkH 0 bl) w ρ (mkH 0 bl) (w.alloc (.deferred (some []))):=⟨fun _ _=>rfl,hn,rfl,fun _ _ _=>rfl,fun k hk=>hold k (r.base k hk),by simp,⟨rfl,rfl⟩,fun _ _ h=>h,fun _ _ h=>.inl h,fun _ _ h=>h⟩
 have hn2:n<=((mkH 0 bl).push (.map (xl r0 ts))).sz:=Nat.le_trans hn (Nat.le_succ _);have hn3:n<=h2'.sz:=Nat.le_trans hn2 k3.szle
 have k5:Kep n ρ2 (BM B [w.heap.size]) h2' w2 ρ2 (h2'.put (mkH 0 bl).sz .dead) (w2.putObj (w.heap.size+1) (.loop re)) :=
  ⟨fun _ _=>rfl,hn3,rfl,fun b hb _=>absurd hb (by rw[hfl2];exact Nat.not_lt_zero _),k4.pres,k4.wle,k4.io,fun _ _ h=>h,fun _ _ h=>.inl h,fun _ _ h=>h⟩
 have kk:Kep n ρ B (mkH 0 bl) w ρ2 (h2'.put (mkH 0 bl).sz .dead) (w2.putObj (w.heap.size+1) (.loop re)):=((k0.trans (k2.kep hn).bm).trans (k3.kep hn2).bm).trans k5.bm
 have fin:∀(x:X) (e:Exit),XR x e->Q x (mkT ts) (h2'.put (mkH 0 bl).sz .dead)->jI σ0 Q nt n ρ B (mkH 0 bl) w a.defers e { a with defers:=[{ target:=.collected w.heap.size,args:=#[] }]++a.defers } (w2.putObj (w.heap.size+1) (.loop re)):=fun x e hx hq =>
  ⟨x,mkT ts,_,ρ2,[w.heap.size],hx,hq,ht.mono (Ren.le_trans hle2 (k3.mono r2.dom)),hsz,rfl,⟨by simp,fun q hq=>by rw[List.mem_singleton] at hq;omega,fun q hq=>by rw[List.mem_singleton] at hq;subst hq;exact hD2⟩,r5,kk⟩
 refine⟨r'.pending,_,hend2,?_⟩;clear hend2;generalize r'.pending=pd at hmt ⊢;cases pd with
 | none=>exact fin .normal _ .normal hmt
 | some c =>
  cases c<;>first|exact hmt.elim|skip
  ·exact wpIn_exit (fin _ _ (.exit _) hmt)
  ·exact wpIn_ret (fin _ _ .ret hmt)
end Go.Kc
end
section
/- Rows of one's own given for good, in any call; an updating call in a region that draws. No condition. -/
namespace Go.Kc
variable {P:Program} {h:Hp}
inductive Gvs (h:Hp):List AV->List AV->Prop where
 | nil:Gvs h [] []
 | keep (v:AV) (vs vs':List AV) (h1:Gvs h vs vs'):Gvs h (v::vs) (v::vs')
 | fz (v v':AV) (vs vs':List AV) (hf:Frz h v v') (h1:Gvs h vs vs'):Gvs h (v::vs) (v'::vs')
theorem Gvs.ok{ρ:Ren}{B:Nat->Prop}{w:World}(hle:ρ.le ⟨ρ.loc,zP ρ h w,ρ.n⟩)(r:Rel σ0 ρ B h w):∀{vs vs':List AV} {xs:List Value},Gvs h vs vs'->VRs σ0 ρ vs xs->VRs σ0 ⟨ρ.loc,zP ρ h w,ρ.n⟩ vs' xs
 | _,_,_,.nil,hv=>by cases hv;exact .nil
 | _,_,_,.keep _ _ _ h1,hv=>by
  cases hv with
  | cons _ _ _ _ a1 a2=>exact .cons _ _ _ _ (a1.mono hle) (Gvs.ok hle r h1 a2)
 | _,_,_,.fz _ _ _ _ hf h1,hv=>by
  cases hv with
  | cons _ _ _ _ a1 a2=>exact .cons _ _ _ _ (CR.vr (ρ:=⟨ρ.loc,zP ρ h w,ρ.n⟩) (hf.ok r a1)) (Gvs.ok hle r h1 a2)
theorem SC.give{f:Nat}{vs vs':List AV}{k:AV->Hp->Prop}(DB:List (Nat×Blk))(hg:∀p ∈ DB,h.tr.get p.1=some p.2∧h.fl<=p.1)(hf:Gvs ⟨h.sz,h.fl,trP DB⟩ vs vs')(hk:SC P f vs' (vn h DB) k):SC P f vs h k:=by
 refine⟨hk.1,fun ρ B w args r ha=>?_⟩
 have r0:Rel σ0 ρ B ⟨h.sz,h.fl,trP DB⟩ w:=r.sub rfl rfl (fun b x hx _=>(hg _ (Qv hx)).1)
 have le:ρ.le ⟨ρ.loc,zP ρ ⟨h.sz,h.fl,trP DB⟩ w,ρ.n⟩:=⟨fun _ _ h=>h,fun _ _ h=>xz h,Nat.le_refl _⟩
 have hcr:=hf.ok le r0 ha
 have fnew:∀kk a,zP ρ ⟨h.sz,h.fl,trP DB⟩ w kk=some a->ρ.frz kk=some a∨((∃ty fz,w.heap[kk]?=some (.cells a ty fz))∧∃b L e af cs,b ∈ DB.map Prod.fst∧ρ b=some L∧h.tr.get b=some (.cells e true af cs)∧L.blk=kk∧h.fl<=b):=by
  intro kk a hkk;rcases wA hkk with h1|⟨h1,b,L,e,af,cs,h2,h3,h4⟩
  ·exact .inl h1
  ·have hm:=Qv h3;exact .inr ⟨h1,b,L,e,af,cs,List.mem_map_of_mem (f:=Prod.fst) hm,h2,(hg _ hm).1,h4,(hg _ hm).2⟩
 have zx:∀b x,(vn h DB).tr.get b=some x->x≠.dead->b ∉ DB.map Prod.fst∧h.tr.get b=some x:=by
  intro b x hx hd;rw[kT] at hx;split at hx
  ·cases hx;exact absurd rfl hd
  ·exact⟨by assumption,hx⟩
 have r1:Rel σ0 ⟨ρ.loc,zP ρ ⟨h.sz,h.fl,trP DB⟩ w,ρ.n⟩ B (vn h DB) w:=by
  have rs:Rel σ0 ρ B (vn h DB) w:=r.sub Qm Ql (fun b x hx hd=>(zx b x hx hd).2)
  refine⟨rs.dom,fun b L e wf af cs hb hx=>?_,fun b L es hb hx=>?_,rs.excl,rs.exclm,rs.app,rs.flr,rs.base,fun kk arr hkk=>?_,rs.dn⟩
  ·obtain⟨q1,c,ty,fz,q2,q3,q4,q5,q6⟩:=rs.cells b L e wf af cs hb hx;exact⟨q1,c,ty,fz,q2,q3,q4,fun j v hv=>let ⟨v',k1,k2⟩:=q5 j v hv;⟨v',k1,k2.mono le⟩,q6⟩
  ·obtain⟨q1,o,q2,q3⟩:=rs.maps b L es hb hx;exact⟨q1,o,q2,q3.mono le⟩
  ·rcases fnew kk arr hkk with h1|⟨h1,b,L,e,af,cs,h2,h3,h4,h5,_⟩
   ·exact rs.frz kk arr h1
   ·refine⟨h1,fun b' L' x hb' hx hd he=>?_⟩
    obtain⟨g1,g2⟩:=zx b' x hx hd;have:=r.excl b L e af cs h3 h4 b' L' x hb' g2 hd (by rw[he,h5]);subst this;exact g1 h2
 have k0:Kept ρ B h w ⟨ρ.loc,zP ρ ⟨h.sz,h.fl,trP DB⟩ w,ρ.n⟩ (vn h DB) w:=by
  refine⟨fun _ _=>rfl,by rw[Qm];exact Nat.le_refl _,Ql,fun b hb _=>?_,fun _ _=>rfl,Nat.le_refl _,⟨rfl,rfl⟩,fun k a hk=>xz hk,fun k a hk=>?_,Nat.le_refl _⟩
  ·rw[kT,if_neg];intro hm;obtain⟨p,hp1,hp2⟩:=List.mem_map.1 hm;have:=(hg p hp1).2;omega
  ·rcases fnew k a hk with h2|⟨_,b,L,_,_,_,_,h3,_,h5,h6⟩
   ·exact .inl h2
   ·right;rw[← h5];exact r.flr b L h3 h6
 refine j6.mono (hk.2 _ B w args r1 hcr) ?_;rintro e w' ⟨v0,v',h',ρ',he,g1,g2,g3,g4⟩;exact⟨v0,v',h',ρ',he,g1,g2,g3,k0.trans g4⟩
theorem PC.give{f:Nat}{vs vs':List AV}{k:AV->Hp->Prop}(DB:List (Nat×Blk))(hg:∀p ∈ DB,h.tr.get p.1=some p.2∧h.fl<=p.1)(hf:Gvs ⟨h.sz,h.fl,trP DB⟩ vs vs')(hk:PC P f vs' (vn h DB) k):PC P f vs h k:=by
 obtain⟨v,h',h1,h2⟩:=hk;exact⟨v,h',fun k' hk'=>SC.give DB hg hf (h1 k' hk'),h2⟩
theorem Upd.pc{f:Nat}{vs:List AV}{bs bs2:List Blk}{v:AV}{k:AV->Hp->Prop}(at':List Nat)(hu:Upd P f vs bs v bs2)(l:Lent h at' bs)(hk:k (rnv (gAt at' h.sz) v) (wd h at' bs2)):PC P f (jo (gAt at' h.sz) vs) h k :=
 ⟨_,_,fun _ h'=>hu.sc at' l h',hk⟩
end Go.Kc
end
section
/- Blocks by new names where dead ones do not count. No condition. -/
namespace Go.Kc
variable {P:Program} {h:Hp} {t:Tr AV}
theorem SL.loopd{n:Nat}{α:Type}{x:ICode}{Q:X->Tr AV->Hp->Prop}(T:α->List (Nat×AV))(B:α->List Blk)(I:α->Prop)(μ:α->Nat)(a0:α)(src:List Nat)
  (hT:TWs t (rl src h.sz) (B a0).length (T a0)) (hB:BWs h (rl src h.sz) (B a0).length src (B a0)) (hI:(List.map Prod.fst (List.filter (fun p=>decide (p.fst<h.sz)&&zx p.snd) (src.zip (B a0)))).Nodup) (hfl:h.fl=0) (hn:n<=(B a0).length) (hlow:∀b,b<n->rl src h.sz b=b) (h0:I a0)
  (step:∀a,I a->∀G:Tr AV->Hp->Prop,(∀b,I b->μ b<μ a->∀t' h',Wk n t' h' (mkT (T b)) (mkH 0 (B b))->G t' h')->
   V P n x (fun e t h=>onX e (G t h) (fun id=>Q (.exit id) t h) (Q .ret t h)) (mkT (T a)) (mkH 0 (B a))):SL P n x Q t h:=by
 have main:∀m a,μ a=m->I a->SL P n x Q (mkT (T a)) (mkH 0 (B a)):=by
  intro m
  induction m using Nat.strongRecOn with
  | ind m ih =>
   intro a ha hi;exact vz (step a hi (fun t h=>SL P n x Q t h) fun b hb hlt t' h' hw=>SL.weak hw (ih (μ b) (ha ▸ hlt) b rfl hb))
 exact SL.weak (Wk.mkd (T a0) (B a0) src hT hB hI hfl hn hlow) (main _ a0 rfl h0)
def qdg(m:Nat)(v:AV)(bs2:List Blk)(v':AV)(h':Hp):Prop:=h'.fl=0->∃src:List Nat,NV (rl src h'.sz) bs2.length v' v∧BWs h' (rl src h'.sz) bs2.length src bs2∧(List.map Prod.fst (List.filter (fun p=>decide (p.fst<h'.sz)&&zx p.snd) (src.zip bs2))).Nodup∧∀b,b<m->rl src h'.sz b=b
theorem qdg.w{m:Nat}{v:AV}{bs2:List Blk}{v':AV}{h':Hp}(hz:qdg m v bs2 v' h')(hle:m<=bs2.length):qfC m v bs2 v' h':=by
 intro hfl;obtain⟨src,s1,s2,s3,s4⟩:=hz hfl;exact Wk.mkd [(0,v)] bs2 src ⟨⟨v',by simp[mkT,Tr.get_set],s1⟩,trivial⟩ s2 s3 hfl hle s4
theorem Upd.mkd{f:Nat}{i:IFn}{vs:List AV}{v:AV}{bs bs2:List Blk}(hc:qt P f i=true)(hb:xS bs.length vs=true)(hl:bs.length<=bs2.length)(hV:V P bs.length i.body (jJ i.res (qdg bs.length v bs2)) (ve vs 0 .leaf) (mkH 0 bs)):Upd P f vs bs v bs2 :=
 ⟨hb,hl,(SC.mk hc (qP hV)).mono fun _ _ hz=>hz.w hl⟩
end Go.Kc
end
section
/- What functions of strings and names answer. Condition: the functions' texts are these. -/
namespace Go.Kc
variable {P:Program} {f:Nat}
end Go.Kc
end
section
/- What searches in lists answer. Condition: the functions' texts are these. -/
namespace Go.Kc
variable {P:Program} {f:Nat}
end Go.Kc
end
section
/- What names of errors, families and namespaces answer. Condition: the functions' texts are these. -/
namespace Go.Kc
variable {P:Program} {f:Nat}
def xd(q:IntKind)(p:List UInt8×Int):List AV:=[.s p.1,.i q p.2]
theorem Qs{q:IntKind}(p:List UInt8×Int):(xd q p).length=2:=rfl
def kt:IFn:=⟨[.cell 0 16 true],.seq (.r [.q 0 (.alloc [.s [],.i .u64 0,.s [],.i .u64 0,.s [],.i .u64 0,.s [],.i .u64 0,.s [],.i .u64 0,.s [],.i .u64 0,.s [],.i .u64 0,.s [],.i .u64 0])]) (.seq (.r [.q 1 (.build [.s [],.i .u64 0] [(0,1,(.c (.s [116,105,109,101]))),(1,1,(.c (.i .u64 128)))]),.q 2 (.build [.s [],.i .u64 0] [(0,1,(.c (.s [109,110,116]))),(1,1,(.c (.i .u64 131072)))]),.q 3 (.build [.s [],.i .u64 0] [(0,1,(.c (.s [99,103,114,111,117,112]))),(1,1,(.c (.i .u64 33554432)))]),.q 4 (.build [.s [],.i .u64 0] [(0,1,(.c (.s [117,116,115]))),(1,1,(.c (.i .u64 67108864)))]),.q 5 (.build [.s [],.i .u64 0] [(0,1,(.c (.s [105,112,99]))),(1,1,(.c (.i .u64 134217728)))]),.q 6 (.build [.s [],.i .u64 0] [(0,1,(.c (.s [117,115,101,114]))),(1,1,(.c (.i .u64 268435456)))]),.q 7 (.build [.s [],.i .u64 0] [(0,1,(.c (.s [112,105,100]))),(1,1,(.c (.i .u64 536870912)))]),.q 8 (.build [.s [],.i .u64 0] [(0,1,(.c (.s [110,101,116]))),(1,1,(.c (.i .u64 1073741824)))]),.q 9 (.build [.s [],.i .u64 0,.s [],.i .u64 0,.s [],.i .u64 0,.s [],.i .u64 0,.s [],.i .u64 0,.s [],.i .u64 0,.s [],.i .u64 0,.s [],.i .u64 0] [(0,2,(.t 1)),(2,2,(.t 2)),(4,2,(.t 3)),(6,2,(.t 4)),(8,2,(.t 5)),(10,2,(.t 6)),(12,2,(.t 7)),(14,2,(.t 8))]),.u (.store 16 (.t 0) (.t 9))]) (.ret))⟩
def qy:List (List UInt8×Int):=[([116,105,109,101],128),([109,110,116],131072),([99,103,114,111,117,112],33554432),([117,116,115],67108864),([105,112,99],134217728),([117,115,101,114],268435456),([112,105,100],536870912),([110,101,116],1073741824)]
theorem qkN(hc:qt P f kt=true):qb P f [] (.agg (qy.flatMap (xd .u64))):=by
 refine qb.mk hc rfl ?_;simp only[kt,vI,simprocAttr];simp only[↓vS,vT,simprocAttr,qy,xd,List.flatMap_cons,List.flatMap_nil,vZ]
def wO:IFn:=⟨[.cell 0 16 true],.seq (.r [.q 0 (.alloc [.s [],.i .u32 0,.s [],.i .u32 0,.s [],.i .u32 0,.s [],.i .u32 0,.s [],.i .u32 0,.s [],.i .u32 0,.s [],.i .u32 0,.s [],.i .u32 0])]) (.seq (.r [.q 1 (.build [.s [],.i .u32 0] [(0,1,(.c (.s [65,70,95,85,78,73,88]))),(1,1,(.c (.i .u32 1)))]),.q 2 (.build [.s [],.i .u32 0] [(0,1,(.c (.s [65,70,95,73,78,69,84]))),(1,1,(.c (.i .u32 2)))]),.q 3 (.build [.s [],.i .u32 0] [(0,1,(.c (.s [65,70,95,73,78,69,84,54]))),(1,1,(.c (.i .u32 10)))]),.q 4 (.build [.s [],.i .u32 0] [(0,1,(.c (.s [65,70,95,78,69,84,76,73,78,75]))),(1,1,(.c (.i .u32 16)))]),.q 5 (.build [.s [],.i .u32 0] [(0,1,(.c (.s [65,70,95,80,65,67,75,69,84]))),(1,1,(.c (.i .u32 17)))]),.q 6 (.build [.s [],.i .u32 0] [(0,1,(.c (.s [65,70,95,66,76,85,69,84,79,79,84,72]))),(1,1,(.c (.i .u32 31)))]),.q 7 (.build [.s [],.i .u32 0] [(0,1,(.c (.s [65,70,95,65,76,71]))),(1,1,(.c (.i .u32 38)))]),.q 8 (.build [.s [],.i .u32 0] [(0,1,(.c (.s [65,70,95,86,83,79,67,75]))),(1,1,(.c (.i .u32 40)))]),.q 9 (.build [.s [],.i .u32 0,.s [],.i .u32 0,.s [],.i .u32 0,.s [],.i .u32 0,.s [],.i .u32 0,.s [],.i .u32 0,.s [],.i .u32 0,.s [],.i .u32 0] [(0,2,(.t 1)),(2,2,(.t 2)),(4,2,(.t 3)),(6,2,(.t 4)),(8,2,(.t 5)),(10,2,(.t 6)),(12,2,(.t 7)),(14,2,(.t 8))]),.u (.store 16 (.t 0) (.t 9))]) (.ret))⟩
def zh:List (List UInt8×Int):=[([65,70,95,85,78,73,88],1),([65,70,95,73,78,69,84],2),([65,70,95,73,78,69,84,54],10),([65,70,95,78,69,84,76,73,78,75],16),([65,70,95,80,65,67,75,69,84],17),([65,70,95,66,76,85,69,84,79,79,84,72],31),([65,70,95,65,76,71],38),([65,70,95,86,83,79,67,75],40)]
theorem qhW(hc:qt P f wO=true):qb P f [] (.agg (zh.flatMap (xd .u32))):=by
 refine qb.mk hc rfl ?_;simp only[wO,vI,simprocAttr];simp only[↓vS,vT,simprocAttr,zh,xd,List.flatMap_cons,List.flatMap_nil,vZ]
def kr(a:Nat):IFn:=⟨[.tmp 0],.seq (.r [.m 0 (.c (.i .u64 0))]) (.seq (.r [.m 1 (.c (.i .u64 0))]) (.seq (.seq (.r [.l 4 a [],.m 5 (.k 0)]) (.blk 0 (.loop (.seq (.r [.w 6 .lss 5 8]) (.seq (.cond (.t 6) (.skip) (.exit 0)) (.seq (.blk 1 (.seq (.r [.q 7 (.idxA 8 2 true (.t 4) (.t 5)),.q 3 (.alloc [.s [],.i .u64 0]),.u (.store 2 (.t 3) (.t 7))]) (.r [.n 8 1,.f 9 1 3,.d 10 9,.b 11 .or 8 10,.n 1 11]))) (.r [.a 12 5 1,.n 5 12]))))))) (.seq (.r [.n 13 1,.n 0 13]) (.ret))))⟩
theorem qna{g1:Nat}(hc:qt P f (kr g1)=true)(h1:qb P g1 [] (.agg (qy.flatMap (xd .u64)))):qb P f [] (.i .u64 2114060416):=by
 refine qb.mk hc rfl ?_;simp only[kr,vI,simprocAttr];simp only[↓vS,vT,simprocAttr];refine h1.sc ?_;simp only[↓vS,vT,simprocAttr]
 iterate 8
  refine vz ?_;simp only[↓vS,vT,simprocAttr,qy,xd,List.flatMap_cons,List.flatMap_nil,Int.reduceLT,Int.reduceAdd,Int.reduceNeg,zg,(by decide:orI .u64 0 128=128),(by decide:orI .u64 128 131072=131200),(by decide:orI .u64 131200 33554432=33685632),(by decide:orI .u64 33685632 67108864=100794496),(by decide:orI .u64 100794496 134217728=235012224),(by decide:orI .u64 235012224 268435456=503447680),(by decide:orI .u64 503447680 536870912=1040318592),(by decide:orI .u64 1040318592 1073741824=2114060416)]
 refine vz ?_;simp only[↓vS,vT,simprocAttr,Int.reduceLT,vZ,and_self]
end Go.Kc
end
section
/- What slices.Clone answers: a row of one's own. Condition: the functions' texts are these. -/
namespace Go.Kc
variable {P:Program} {f:Nat}
def qbN(P:Program)(g esz bytes:Nat):Prop:=∀(n:Nat) (rows:List AV),rows.length=n*esz->qx rows=true->qA rows=true->n<=qg->n*bytes<=qg->Own P g [.fz n rows] (.own 0 n) [.cells esz true true rows]
end Go.Kc
end
section
/- What strings.FieldsFunc answers, of any string and any predicate. Condition: the string is not too great; the functions' texts are these. -/
namespace Go.Kc
variable {P:Program} {f:Nat}
def qng(b:Bool)(st:Option Nat)(i:Nat):Option Nat:=if b=true then none else (match st with|some s=>some s|none=>some i)
def qkf(b:Bool)(st:Option Nat)(i:Nat)(acc:List (Nat×Nat)):List (Nat×Nat):=if b=true then (match st with|some s=>acc++[(s,i)]|none=>acc) else acc
def qm6(p:Int->Bool)(l:List UInt8)(i:Nat)(st:Option Nat)(acc:List (Nat×Nat)):List (Nat×Nat)×Option Nat :=
 if i<l.length then qm6 p l (i+(vb l i).2) (qng (p (vb l i).1) st i) (qkf (p (vb l i).1) st i acc) else (acc,st)
termination_by l.length-i
decreasing_by have:=qm1 l i;omega
def qp6(l:List UInt8)(st:Option Nat)(z:Int)(i:Nat):Prop:=match st with|some s=>z=(s:Int)∧s<=i∧s<l.length|none=>z<0
structure St where
 i:Nat
 st:Option Nat
 acc:List (Nat×Nat)
 z:Int
structure StI (p:Int->Bool) (l:List UInt8) (a:St):Prop where
 z:qp6 l a.st a.z a.i
 lo:-1000001<=a.z
 n:a.acc.length<=a.i
 m:a.acc.length<=l.length
 sp:∀q ∈ a.acc,q.1<=q.2∧q.2<=l.length
 eq:qm6 p l a.i a.st a.acc=qm6 p l 0 none []
end Go.Kc
end
section
/- What values.Words answers. Condition: the functions' texts are these. -/
namespace Go.Kc
variable {P:Program} {f:Nat}
end Go.Kc
end
section
/- Words, byte by byte. No condition. -/
namespace Go.Kc
end Go.Kc
end
section
/- Rows of numbers, of strings. No condition. -/
namespace Go.Kc
def rI(k:IntKind)(l:List Int):List AV:=l.map (.i k)
section
variable {k:IntKind} {l m:List Int} {j:Nat}
theorem qhx:(rI k l).length=l.length:=by simp[rI]
theorem qc:qx (rI k l)=true:=qcy fun _=>rfl
theorem wc:(rI k l)[j]?=(l[j]?).map (.i k):=by simp[rI]
theorem qhw:rI k l++rI k m=rI k (l++m):=by simp[rI]
end
def rS(l:List (List UInt8)):List AV:=l.map .s
section
variable {l m:List (List UInt8)} {j:Nat}
theorem qb7:qx (rS l)=true:=qcy fun _=>rfl
theorem qmY:(rS l)[j]?=(l[j]?).map .s:=by simp[rS]
end
end Go.Kc
end
section
/- What searches by a function answer. Condition: the functions' texts are these. -/
namespace Go.Kc
variable {P:Program} {f:Nat}
def xH{α:Type}(p:α->Bool):List α->Nat->Int
 | [],_=>-1
 | x::xs,j=>if p x=true then (j:Int) else xH p xs (j+1)
theorem vk{α:Type}(p:α->Bool):∀(l:List α) (j:Nat),(xH p l j = -1∧l.find? p=none)∨∃i x,xH p l j=((j+i:Nat):Int)∧l[i]?=some x∧p x=true∧l.find? p=some x∧∀k y,k<i->l[k]?=some y->p y=false
 | [],j=>.inl ⟨rfl,rfl⟩
 | x::xs,j=>by
  by_cases h:p x=true
  ·refine .inr ⟨0,x,by simp[xH,h],rfl,h,by simp[h],fun k y hk=>by omega⟩
  ·rcases vk p xs (j+1) with⟨h1,h2⟩|⟨i,y,h1,h2,h3,h4,h5⟩
   ·exact .inl ⟨by simp[xH,h,h1],by simp[h,h2]⟩
   ·refine .inr ⟨i+1,y,?_,by simpa using h2,h3,by simp[h,h4],?_⟩
    ·rw[xH,if_neg h,h1];omega
    ·intro k z hk hz;cases k with
     | zero=>simp at hz;subst hz;simpa using h
     | succ k=>exact h5 k z (by omega) (by simpa using hz)
def ww(m:Nat)(P:Program)(f:Nat):Prop:=∀{α:Type} (enc:α->List AV) (p:α->Bool) (g:Nat) (a c:List AV) (l:List α),(∀x,(enc x).length=m)->qx a=true->qx c=true->l.length<=qg->
 (∀x ∈ l,qb P g (a++([.agg (enc x)]++c)) (.b (p x)))->qb P f [.fz l.length (l.flatMap enc),.fn g a c] (.i .i64 (xH p l 0))
def zy:IFn:=⟨[.tmp 4],.seq (.r [.m 4 (.k 0)]) (.seq (.seq (.r [.n 6 0,.e 7 6,.m 8 (.k 0)]) (.blk 0 (.loop (.seq (.r [.s 9 8 7]) (.seq (.cond (.t 9) (.skip) (.exit 0)) (.seq (.blk 1 (.seq (.r [.n 10 8,.n 5 10]) (.seq (.r [.n 11 1,.n 12 0,.n 13 5,.i 14 2 12 13,.v 15 2 14,⟨(some 16),.callV (.t 11) [.t 15],none⟩]) (.cond (.t 16) (.seq (.r [.n 17 5,.n 4 17]) (.ret)) (.skip))))) (.r [.a 18 8 1,.n 8 18]))))))) (.seq (.r [.q 4 (.mov (.c (.i .i64 (-1))))]) (.ret)))⟩
theorem qgF(hc:qt P f zy=true):ww 2 P f:=by
 intro α enc p g a c l hlen ha hc' hl hp;refine qb.mk hc (by simp[qx,clo,ha,hc']) ?_;simp only[zy,vI,simprocAttr];simp only[↓vS,vT,simprocAttr];refine SL.loop (α:=Nat) (fun j=>[(0,.fz l.length (l.flatMap enc)),(1,.fn g a c),(7,.i .i64 l.length),(8,.i .i64 j)]) (fun _=>[]) (fun j=>j<=l.length∧xH p l 0=xH p (l.drop j) j) (fun j=>l.length-j) 0 [] ?_ ?_ ?_ rfl ?_ ?_
 ·simp[vw,ql,ha,hc']
 ·trivial
 ·simp
 ·simp
 rintro j ⟨hj,hI⟩ G ih;simp only[vI,simprocAttr]
 by_cases hlt:j<l.length
 ·have hx:l[j]?=some l[j]:=List.getElem?_eq_getElem hlt;have hw:IntKind.wrap .i64 ((j:Int)+1)=(j:Int)+1:=zg (by omega) (by have:=hl;simp only[qg] at this;omega)
  have he:=xj hlen hx;have hb:j*2+2<=(l.flatMap enc).length:=by rw[z2 hlen];omega
  rw[List.drop_eq_getElem_cons hlt,xH] at hI;simp only[↓vS,vT,simprocAttr,hlt,hb,he,hw];refine (hp l[j] (List.getElem_mem hlt)).sc ?_
  by_cases hpx:p l[j]=true
  ·rw[if_pos hpx] at hI;simp only[↓vS,vT,simprocAttr,hpx,vZ,hI]
  ·rw[if_neg hpx] at hI;simp only[↓vS,vT,simprocAttr,hpx,hw];refine ih (j+1) ⟨by omega,hI⟩ (by omega) _ _ (Wk.mk _ _ [] ?_ ?_ ?_ rfl)
   ·simp[vw,ql,ha,hc']
   ·trivial
   ·simp
 ·simp only[↓vS,vT,simprocAttr,hlt];rw[List.drop_eq_nil_of_le (by omega)] at hI;simp[hI,xH,vZ]
def zm:IFn:=⟨[.tmp 4],.seq (.r [.m 4 (.k 0)]) (.seq (.seq (.r [.n 6 0,.e 7 6,.m 8 (.k 0)]) (.blk 0 (.loop (.seq (.r [.s 9 8 7]) (.seq (.cond (.t 9) (.skip) (.exit 0)) (.seq (.blk 1 (.seq (.r [.n 10 8,.n 5 10]) (.seq (.r [.n 11 1,.n 12 0,.n 13 5,.i 14 7 12 13,.v 15 7 14,⟨(some 16),.callV (.t 11) [.t 15],none⟩]) (.cond (.t 16) (.seq (.r [.n 17 5,.n 4 17]) (.ret)) (.skip))))) (.r [.a 18 8 1,.n 8 18]))))))) (.seq (.r [.q 4 (.mov (.c (.i .i64 (-1))))]) (.ret)))⟩
theorem qgG(hc:qt P f zm=true):ww 7 P f:=by
 intro α enc p g a c l hlen ha hc' hl hp;refine qb.mk hc (by simp[qx,clo,ha,hc']) ?_;simp only[zm,vI,simprocAttr];simp only[↓vS,vT,simprocAttr];refine SL.loop (α:=Nat) (fun j=>[(0,.fz l.length (l.flatMap enc)),(1,.fn g a c),(7,.i .i64 l.length),(8,.i .i64 j)]) (fun _=>[]) (fun j=>j<=l.length∧xH p l 0=xH p (l.drop j) j) (fun j=>l.length-j) 0 [] ?_ ?_ ?_ rfl ?_ ?_
 ·simp[vw,ql,ha,hc']
 ·trivial
 ·simp
 ·simp
 rintro j ⟨hj,hI⟩ G ih;simp only[vI,simprocAttr]
 by_cases hlt:j<l.length
 ·have hx:l[j]?=some l[j]:=List.getElem?_eq_getElem hlt;have hw:IntKind.wrap .i64 ((j:Int)+1)=(j:Int)+1:=zg (by omega) (by have:=hl;simp only[qg] at this;omega)
  have he:=xj hlen hx;have hb:j*7+7<=(l.flatMap enc).length:=by rw[z2 hlen];omega
  rw[List.drop_eq_getElem_cons hlt,xH] at hI;simp only[↓vS,vT,simprocAttr,hlt,hb,he,hw];refine (hp l[j] (List.getElem_mem hlt)).sc ?_
  by_cases hpx:p l[j]=true
  ·rw[if_pos hpx] at hI;simp only[↓vS,vT,simprocAttr,hpx,vZ,hI]
  ·rw[if_neg hpx] at hI;simp only[↓vS,vT,simprocAttr,hpx,hw];refine ih (j+1) ⟨by omega,hI⟩ (by omega) _ _ (Wk.mk _ _ [] ?_ ?_ ?_ rfl)
   ·simp[vw,ql,ha,hc']
   ·trivial
   ·simp
 ·simp only[↓vS,vT,simprocAttr,hlt];rw[List.drop_eq_nil_of_le (by omega)] at hI;simp[hI,xH,vZ]
def zE:IFn:=⟨[.tmp 4],.seq (.r [.m 4 (.k 0)]) (.seq (.seq (.r [.n 6 0,.e 7 6,.m 8 (.k 0)]) (.blk 0 (.loop (.seq (.r [.s 9 8 7]) (.seq (.cond (.t 9) (.skip) (.exit 0)) (.seq (.blk 1 (.seq (.r [.n 10 8,.n 5 10]) (.seq (.r [.n 11 1,.n 12 0,.n 13 5,.i 14 2 12 13,.v 15 2 14,⟨(some 16),.callV (.t 11) [.t 15],none⟩]) (.cond (.t 16) (.seq (.r [.n 17 5,.n 4 17]) (.ret)) (.skip))))) (.r [.a 18 8 1,.n 8 18]))))))) (.seq (.r [.q 4 (.mov (.c (.i .i64 (-1))))]) (.ret)))⟩
theorem qd5(hc:qt P f zE=true):ww 2 P f:=by
 intro α enc p g a c l hlen ha hc' hl hp;refine qb.mk hc (by simp[qx,clo,ha,hc']) ?_;simp only[zE,vI,simprocAttr];simp only[↓vS,vT,simprocAttr];refine SL.loop (α:=Nat) (fun j=>[(0,.fz l.length (l.flatMap enc)),(1,.fn g a c),(7,.i .i64 l.length),(8,.i .i64 j)]) (fun _=>[]) (fun j=>j<=l.length∧xH p l 0=xH p (l.drop j) j) (fun j=>l.length-j) 0 [] ?_ ?_ ?_ rfl ?_ ?_
 ·simp[vw,ql,ha,hc']
 ·trivial
 ·simp
 ·simp
 rintro j ⟨hj,hI⟩ G ih;simp only[vI,simprocAttr]
 by_cases hlt:j<l.length
 ·have hx:l[j]?=some l[j]:=List.getElem?_eq_getElem hlt;have hw:IntKind.wrap .i64 ((j:Int)+1)=(j:Int)+1:=zg (by omega) (by have:=hl;simp only[qg] at this;omega)
  have he:=xj hlen hx;have hb:j*2+2<=(l.flatMap enc).length:=by rw[z2 hlen];omega
  rw[List.drop_eq_getElem_cons hlt,xH] at hI;simp only[↓vS,vT,simprocAttr,hlt,hb,he,hw];refine (hp l[j] (List.getElem_mem hlt)).sc ?_
  by_cases hpx:p l[j]=true
  ·rw[if_pos hpx] at hI;simp only[↓vS,vT,simprocAttr,hpx,vZ,hI]
  ·rw[if_neg hpx] at hI;simp only[↓vS,vT,simprocAttr,hpx,hw];refine ih (j+1) ⟨by omega,hI⟩ (by omega) _ _ (Wk.mk _ _ [] ?_ ?_ ?_ rfl)
   ·simp[vw,ql,ha,hc']
   ·trivial
   ·simp
 ·simp only[↓vS,vT,simprocAttr,hlt];rw[List.drop_eq_nil_of_le (by omega)] at hI;simp[hI,xH,vZ]
end Go.Kc
end
section
/- What slices.DeleteFunc makes of a row of one's own. Condition: the functions' texts are these. -/
namespace Go.Kc
variable {P:Program} {f:Nat}
end Go.Kc
end
section
/- What slices.Insert makes of a row of one's own. Condition: the functions' texts are these. -/
namespace Go.Kc
variable {P:Program} {f:Nat}
end Go.Kc
end
section
/- What binary searches answer; a list with a number more or less. Condition: the functions' texts are these. -/
namespace Go.Kc
variable {P:Program} {f:Nat}
def qdd:IFn:=⟨[.tmp 2],.seq (.r [.m 2 .F]) (.seq (.r [.n 3 0,.n 4 0,.b 5 .neq 3 4,.n 2 5]) (.ret))⟩
end Go.Kc
end
section
/- A list with a number more or less, as the program makes it. Condition: the functions' texts are these. -/
namespace Go.Kc
variable {P:Program} {f:Nat}
end Go.Kc
end
section
/- What arch.Parse answers. Condition: the functions' texts are these. -/
namespace Go.Kc
variable {P:Program} {f:Nat}
def zc:List (List UInt8×Int):=[([120,56,54,45,54,52],3221225534),([120,56,54],1073741827),([120,51,50],3221225534),([97,114,109],1073741864),([97,114,109,54,52],3221225655),([114,105,115,99,118,54,52],3221225715)]
def yB:IFn:=⟨[.cell 0 12 true],.seq (.r [.q 0 (.alloc [.s [],.i .u32 0,.s [],.i .u32 0,.s [],.i .u32 0,.s [],.i .u32 0,.s [],.i .u32 0,.s [],.i .u32 0])]) (.seq (.r [.q 1 (.build [.s [],.i .u32 0] [(0,1,(.c (.s [120,56,54,45,54,52]))),(1,1,(.c (.i .u32 3221225534)))]),.q 2 (.build [.s [],.i .u32 0] [(0,1,(.c (.s [120,56,54]))),(1,1,(.c (.i .u32 1073741827)))]),.q 3 (.build [.s [],.i .u32 0] [(0,1,(.c (.s [120,51,50]))),(1,1,(.c (.i .u32 3221225534)))]),.q 4 (.build [.s [],.i .u32 0] [(0,1,(.c (.s [97,114,109]))),(1,1,(.c (.i .u32 1073741864)))]),.q 5 (.build [.s [],.i .u32 0] [(0,1,(.c (.s [97,114,109,54,52]))),(1,1,(.c (.i .u32 3221225655)))]),.q 6 (.build [.s [],.i .u32 0] [(0,1,(.c (.s [114,105,115,99,118,54,52]))),(1,1,(.c (.i .u32 3221225715)))]),.q 7 (.build [.s [],.i .u32 0,.s [],.i .u32 0,.s [],.i .u32 0,.s [],.i .u32 0,.s [],.i .u32 0,.s [],.i .u32 0] [(0,2,(.t 1)),(2,2,(.t 2)),(4,2,(.t 3)),(6,2,(.t 4)),(8,2,(.t 5)),(10,2,(.t 6))]),.u (.store 12 (.t 0) (.t 7))]) (.ret))⟩
theorem qla(hc:qt P f yB=true):qb P f [] (.agg (zc.flatMap (xd .u32))):=by
 refine qb.mk hc rfl ?_;simp only[yB,vI,simprocAttr];simp only[↓vS,vT,simprocAttr,zc,xd,List.flatMap_cons,List.flatMap_nil,vZ]
def Qh(a b:Nat):IFn:=⟨[.tmp 2],.seq (.r [.m 2 (.k 0)]) (.seq (.r [.l 4 a [],.q 3 (.alloc [.s [],.i .u32 0,.s [],.i .u32 0,.s [],.i .u32 0,.s [],.i .u32 0,.s [],.i .u32 0,.s [],.i .u32 0]),.u (.store 12 (.t 3) (.t 4))]) (.seq (.r [.q 5 (.slcA 6 2 (.t 3) none none none),.n 6 0,.l 7 b [.t 5,.t 6],.n 2 7]) (.ret)))⟩
def qbf(P:Program)(f:Nat):Prop:=∀(p:List UInt8×Int->Bool) (g:Nat) (a c:List AV),qx a=true->qx c=true->(∀x ∈ zc,qb P g (a++([.agg (xd .u32 x)]++c)) (.b (p x)))->qb P f [.fn g a c] (.i .i64 (xH p zc 0))
theorem qnq{g1 g2:Nat}(hc:qt P f (Qh g1 g2)=true)(h1:qb P g1 [] (.agg (zc.flatMap (xd .u32))))(h2:ww 2 P g2):qbf P f:=by
 intro p g a c ha hcc hp;refine qb.mk hc (by simp[qx,clo,ha,hcc]) ?_;simp only[Qh,vI,simprocAttr];simp only[↓vS,vT,simprocAttr];refine h1.sc ?_;simp only[↓vS,vT,simprocAttr,zc,xd,List.flatMap_cons,List.flatMap_nil];refine (h2 (xd .u32) p g a c zc Qs ha hcc (by decide) hp).lend (vs':=[.fz 6 (zc.flatMap (xd .u32)),.fn g a c]) ?_ rfl ?_
 ·refine .cons _ _ _ _ (.cut 2 rfl (Nat.le_refl _) ?_) (.cons _ _ _ _ (.fn _ _ _ _ _ (Frzs.self ha) (Frzs.self hcc)) .nil);simp[vw,zc,xd]
 simp only[↓vS,vT,simprocAttr,vZ,zc]
end Go.Kc
end
section
/- Calls, lists, policies, assignments, notes: the program's structs as Lean's. No condition. -/
namespace Go.Kc
structure GCall where
 name:List UInt8
 act:Int
def jG(c:GCall):List AV:=[.s c.name,.i .u32 c.act]
structure GNote where
 file:List UInt8
 line:Int
 err:Int
 text:List UInt8
structure Asg where
 file:List UInt8
 line:Int
 sec:List UInt8
 key:List UInt8
 val:List UInt8
def qlk(a:Asg):List AV:=[.s a.file,.i .i64 a.line,.s a.sec,.s a.key,.s a.val]
theorem vg(c:GCall):(jG c).length=2:=rfl
def rC(l:List GCall):List AV:=l.flatMap jG
section
variable {l m:List GCall} {j:Nat}
theorem qmV:(rC l).length=l.length*2:=z2 vg l
theorem qe:qx (rC l)=true:=QB fun _=>rfl
theorem qb6{c:GCall}(h:l[j]?=some c):((rC l).drop (j*2)).take 2=jG c:=xj vg h
theorem qdH{c:GCall}(h:l[j]?=some c){i:Nat}(hi:i<2):(rC l)[j*2+i]?=(jG c)[i]?:=qcD vg h hi
theorem qaU(h:j<l.length):j*2+2<=(rC l).length:=by rw[qmV];omega
end
section
variable {l m:List GNote} {j:Nat}
end
structure GList where
 mode:Int
 calls:List GCall
def xn(l:GList):List AV:=[.i .u8 l.mode,.fz l.calls.length (rC l.calls)]
structure Pol where
 arches:List Int
 filter:GList
 deny:Int
 log:GList
 fams:List Int
 fmode:Int
 spaces:Int
 we:Bool
 pe:Bool
 rt:Bool
 np:Bool
def qr(p:Pol):List AV:=[.fz p.arches.length (rI .i64 p.arches),.i .u8 p.filter.mode,.fz p.filter.calls.length (rC p.filter.calls),.i .u32 p.deny,.i .u8 p.log.mode,.fz p.log.calls.length (rC p.log.calls),
 .fz p.fams.length (rI .u32 p.fams),.i .u8 p.fmode,.i .u64 p.spaces,.b p.we,.b p.pe,.b p.rt,.b p.np]
end Go.Kc
end
section
/- What the setter's methods do: notes, yes and no. Condition: the functions' texts are these. -/
namespace Go.Kc
variable {P:Program} {f:Nat}
end Go.Kc
end
section
/- What the setter's methods do: yes and no by their keys; architectures. Condition: the functions' texts are these. -/
namespace Go.Kc
variable {P:Program} {f:Nat}
end Go.Kc
end
section
/- What the setter makes of families. Condition: the functions' texts are these. -/
namespace Go.Kc
variable {P:Program} {f:Nat}
end Go.Kc
end
section
/- What the setter makes of namespaces. Condition: the functions' texts are these. -/
namespace Go.Kc
variable {P:Program} {f:Nat}
end Go.Kc
end
section
/- What restrict.Set answers. Condition: the functions' texts are these. -/
namespace Go.Kc
variable {P:Program} {f:Nat}
theorem qbN.pure{g esz by':Nat}(h:qbN P g esz by'){n:Nat}{rows:List AV}(hl:rows.length=n*esz)(hc:qx rows=true)(ho:qA rows=true)(h1:n<=qg)(h2:n*by'<=qg):qb P g [.fz n rows] (.fz n rows):=by
 refine (h n rows hl hc ho h1 h2).pure (by simp[qx,clo]) ?_;refine .own 0 n esz true rows rows ?_ (fun h0=>?_) (Frzs.self hc)
 ·simp[xu,Hp.push,shb,H0,Tr.get_set,jz hc]
 ·subst h0;exact List.eq_nil_of_length_eq_zero (by omega)
structure PolOk (p:Pol):Prop where
 a:p.arches.length<=1000
 f:p.fams.length<=1000
 c:p.filter.calls.length<=1000
 l:p.log.calls.length<=1000
end Go.Kc
end
section
/- What restrict.Set and restrict.Key answer. Condition: the functions' texts are these. -/
namespace Go.Kc
variable {P:Program} {f:Nat}
end Go.Kc
end
section
/- The law RestrictSpaces. Condition: the functions' texts are these. -/
namespace Go.Kc
variable {P:Program} {f:Nat}
end Go.Kc
end
section
/- What a setter leaves: lists that rise still rise, only the named field differs, every note tells of a fault. No condition. -/
namespace Go.Kc
def qn3(p:Pol):Prop:=p.arches.Pairwise (· < ·)∧p.fams.Pairwise (· < ·)
instance (p:Pol):Decidable (qn3 p):=inferInstanceAs (Decidable (_∧_))
end Go.Kc
end
section
/- What the small functions of the law RestrictOwn answer. Condition: the functions' texts are these. -/
namespace Go.Kc
variable {P:Program} {f:Nat}
def jj:IFn:=⟨[.tmp 2],.seq (.r [.q 1 (.box (.t 0)),.m 2 .F]) (.seq (.r [.f 3 1 1,.d 4 3,.e 5 4,.w 6 .gtr 5 100,.n 2 6]) (.ret))⟩
def wn(l:GList):Bool:=decide (100<l.calls.length)
theorem qi0(hc:qt P f jj=true)(l:GList):qb P f [.agg (xn l)] (.b (wn l)):=by
 refine qb.mk hc rfl ?_;simp only[jj,xn,vI,simprocAttr]
 by_cases h:(100:Int)<l.calls.length
 ·have h':100<l.calls.length:=by omega
  simp only[↓vS,vT,simprocAttr,h,wn,h',vZ]
 ·have h':¬100<l.calls.length:=by omega
  simp only[↓vS,vT,simprocAttr,h,wn,h',vZ]
def jk(a:Nat):IFn:=⟨[.tmp 4],.seq (.r [.q 2 (.box (.t 0)),.q 3 (.box (.t 1)),.m 4 .F]) (.seq (.r [.f 5 0 2,.d 6 5,.e 7 6,.w 8 .gtr 7 20,.n 9 8,.h 10 6 2 9 false,.j 11 10 9 false,.g 12 (.len false (.t 11)) 9 false,.g 13 (.bin .gtr (.t 12) (.k 20)) 9 false,.o 14 9 13,.n 15 14,.h 16 1 2 15 false,.g 17 (.loadN 2 (.t 16)) 15 false,⟨(some 18),.callF a [.t 17],(some (15,false))⟩,.o 19 15 18,.n 20 19,.h 21 4 2 20 false,.g 22 (.loadN 2 (.t 21)) 20 false,⟨(some 23),.callF a [.t 22],(some (20,false))⟩,.o 24 20 23,.n 25 24,.h 26 4 3 25 false,.j 27 26 25 false,.g 28 (.len true (.t 27)) 25 false,.g 29 (.bin .gtr (.t 28) (.k 1000)) 25 false,.o 30 25 29,.n 31 30,.h 32 3 3 31 false,.j 33 32 31 false,.g 34 (.len true (.t 33)) 31 false,.g 35 (.bin .gtr (.t 34) (.k 200)) 31 false,.o 36 31 35,.n 37 36,.h 38 0 3 37 false,.j 39 38 37 false,.g 40 (.len true (.t 39)) 37 false,.g 41 (.bin .gtr (.t 40) (.k 200)) 37 false,.o 42 37 41,.n 4 42]) (.ret))⟩
def xE(p:Pol)(a:Asg):Bool:=decide (20<p.arches.length)||decide (20<p.fams.length)||wn p.filter||wn p.log||decide (1000<a.val.length)||decide (200<a.key.length)||decide (200<a.file.length)
theorem qi1{g:Nat}(hc:qt P f (jk g)=true)(hg:∀l,qb P g [.agg (xn l)] (.b (wn l)))(p:Pol)(a:Asg):qb P f [.agg (qr p),.agg (qlk a)] (.b (xE p a)):=by
 have cast:∀(n m:Nat),((n:Int)<(m:Int))=(n<m):=fun n m=>by simp
 refine qb.mk hc rfl ?_;simp only[jk,qr,qlk,vI,simprocAttr]
 by_cases h1:(20:Int)<p.arches.length
 ·have h1':20<p.arches.length:=by omega
  simp only[↓vS,vT,simprocAttr,h1,xE,h1',vZ];simp
 have h1':¬20<p.arches.length:=by omega
 by_cases h2:(20:Int)<p.fams.length
 ·have h2':20<p.fams.length:=by omega
  simp only[↓vS,vT,simprocAttr,h1,h2,xE,h1',h2',vZ];simp
 have h2':¬20<p.fams.length:=by omega
 simp only[↓vS,vT,simprocAttr,h1,h2];refine (hg p.filter).sc ?_;cases h3:wn p.filter
 case true =>
  simp only[↓vS,vT,simprocAttr];simp[xE,h3,vZ]
 simp only[↓vS,vT,simprocAttr];refine (hg p.log).sc ?_;cases h4:wn p.log
 case true =>
  simp only[↓vS,vT,simprocAttr];simp[xE,h4,vZ]
 by_cases h5:(1000:Int)<a.val.length
 ·have h5':1000<a.val.length:=by omega
  simp only[↓vS,vT,simprocAttr,h5];simp[xE,h5',vZ]
 have h5':¬1000<a.val.length:=by omega
 by_cases h6:(200:Int)<a.key.length
 ·have h6':200<a.key.length:=by omega
  simp only[↓vS,vT,simprocAttr,h5,h6];simp[xE,h6',vZ]
 have h6':¬200<a.key.length:=by omega
 by_cases h7:(200:Int)<a.file.length
 ·have h7':200<a.file.length:=by omega
  simp only[↓vS,vT,simprocAttr,h5,h6,h7];simp[xE,h7',vZ]
 have h7':¬200<a.file.length:=by omega
 simp only[↓vS,vT,simprocAttr,h5,h6,h7];simp[xE,h1',h2',h3,h4,h5',h6',h7',vZ]
end Go.Kc
end
section
/- Does a policy rise. Condition: the function's text is this. -/
namespace Go.Kc
variable {P:Program} {f:Nat}
end Go.Kc
end
section
/- The law RestrictOwn: whatever the policy and the assignment, true comes back. Condition: the functions' texts are these. -/
namespace Go.Kc
variable {P:Program} {f:Nat}
theorem qcK{p:Pol}{a:Asg}(h:xE p a=false):p.arches.length<=20∧p.fams.length<=20∧PolOk p∧a.val.length<=1000:=by
 simp only[xE,wn,Bool.or_eq_false_iff,decide_eq_false_iff_not] at h;obtain⟨⟨⟨⟨⟨⟨h1,h2⟩,h3⟩,h4⟩,h5⟩,h6⟩,h7⟩:=h;exact⟨by omega,by omega,⟨by omega,by omega,by omega,by omega⟩,by omega⟩
end Go.Kc
end
section
/- What the names of faults answer, the program's and the reference's. Condition: the functions' texts are these. -/
namespace Go.Kc
variable {P:Program} {f:Nat}
end Go.Kc
end
section
/- The law FilterKeys: the program's way. Condition: the functions' texts are these. -/
namespace Go.Kc
variable {P:Program} {f:Nat}
end Go.Kc
end
section
/- The small functions of fold: what they answer. Condition: the functions' texts are these. -/
namespace Go.Kc
variable {P:Program} {f:Nat}
def kM:IFn:=⟨[.tmp 2],.seq (.r [.m 2 .F]) (.seq (.r [.n 3 0,.q 4 (.bin .eql (.t 3) (.c (.i .u32 0))),.n 5 4,.z 6 0 5,.g 7 (.bin .eql (.t 6) (.c (.i .u32 2147483648))) 5 false,.o 8 5 7,.n 9 8,.z 10 0 9,.g 11 (.bin .geq (.t 10) (.c (.i .u32 327680))) 9 false,.z 12 11 9,.y 13 0 12,.g 14 (.bin .leq (.t 13) (.c (.i .u32 331775))) 12 true,.g 15 (.pick (.t 12) (.t 14) .F) 9 false,.o 16 9 15,.n 2 16]) (.ret))⟩
def qa6(n:Int):Bool:=decide (n=0)||decide (n=2147483648)||(decide (327680<=n)&&decide (n<=331775))
theorem qkm(hc:qt P f kM=true)(n:Int):qb P f [.i .u32 n] (.b (qa6 n)):=by
 refine qb.mk hc rfl ?_;simp only[kM,vI,simprocAttr]
 by_cases h1:n=0
 ·simp only[↓vS,vT,simprocAttr,h1];simp[vZ,qa6,h1]
 by_cases h2:n=2147483648
 ·simp only[↓vS,vT,simprocAttr,h1,h2];simp[vZ,qa6,h2]
 by_cases h3:327680<=n
 ·by_cases h4:n<=331775
  ·simp only[↓vS,vT,simprocAttr,h1,h2,h3,h4];simp[vZ,qa6,h3,h4]
  ·simp only[↓vS,vT,simprocAttr,h1,h2,h3,h4];simp[vZ,qa6,h1,h2,h4]
 ·simp only[↓vS,vT,simprocAttr,h1,h2,h3];simp[vZ,qa6,h1,h2,h3]
def Qj:IFn:=⟨[.tmp 3],.seq (.r [.q 2 (.box (.t 0)),.m 3 .F]) (.seq (.r [.f 4 0 2,.d 5 4,.d 6 1,.b 7 .eql 5 6,.n 3 7]) (.ret))⟩
theorem qok(hc:qt P f Qj=true)(s:List UInt8)(c:GCall):qb P f [.agg (jG c),.pf [.s s] 0] (.b (decide (c.name=s))):=by
 refine qb.mk hc (by simp[qx,clo,jG]) ?_;simp only[Qj,jG,vI,simprocAttr];simp only[↓vS,vT,simprocAttr,vZ]
def qaJ(a b:Nat):IFn:=⟨[.tmp 4],.seq (.r [.q 2 (.box (.t 0)),.q 3 (.box (.t 1)),.m 4 (.k 0)]) (.seq (.r [.f 5 1 2,.d 6 5,.q 7 (.mkF a [] [.t 3]),.l 8 b [.t 6,.t 7],.n 4 8]) (.ret))⟩
def atM(l:List GCall)(s:List UInt8):Int:=xH (fun c:GCall=>decide (c.name=s)) l 0
theorem qpm{g1 g2:Nat}(hc:qt P f (qaJ g1 g2)=true)(h1:∀s c,qb P g1 [.agg (jG c),.pf [.s s] 0] (.b (decide (c.name=s))))(h2:ww 2 P g2)(l:GList)(s:List UInt8)(hl:l.calls.length<=100000):qb P f [.agg (xn l),.s s] (.i .i64 (atM l.calls s)):=by
 refine qb.mk hc rfl ?_;simp only[qaJ,xn,vI,simprocAttr];simp only[↓vS,vT,simprocAttr];refine (h2 jG (fun c=>decide (c.name=s)) g1 [] [.pf [.s s] 0] l.calls vg rfl rfl (by simp only[qg];omega) (fun c _=>h1 s c)).lend (vs':=[.fz l.calls.length (rC l.calls),.fn g1 [] [.pf [.s s] 0]]) ?_ rfl ?_
 ·simp[vZ,vP,Tr.get_set,qe]
 simp only[↓vS,vT,simprocAttr,vZ,atM]
def Qi(a:Nat):IFn:=⟨[.tmp 4,.tmp 5],.seq (.r [.q 2 (.box (.t 0)),.m 4 (.c (.i .u32 0)),.m 5 .F]) (.seq (.r [.v 7 2 2,.n 8 1,.l 9 a [.t 7,.t 8],.n 6 9]) (.seq (.seq (.r [.n 10 6,.w 11 .lss 10 0]) (.cond (.t 11) (.seq (.r [.m 4 (.c (.i .u32 0)),.m 5 .F]) (.ret)) (.skip))) (.seq (.r [.f 12 1 2,.d 13 12,.n 14 6,.i 15 2 13 14,.f 16 1 15,.d 17 16,.n 4 17,.m 5 .T]) (.ret))))⟩
def zJ(l:List GCall)(s:List UInt8):Option GCall:=l.find? (fun c=>decide (c.name=s))
theorem qnD{g:Nat}(hc:qt P f (Qi g)=true)(hg:∀(l:GList) (s:List UInt8),l.calls.length<=100000->qb P g [.agg (xn l),.s s] (.i .i64 (atM l.calls s)))(l:GList)(s:List UInt8)(hl:l.calls.length<=100000) :
  qb P f [.agg (xn l),.s s] (.tup [.i .u32 (match zJ l.calls s with|some c=>c.act|none=>0),.b (zJ l.calls s).isSome]):=by
 refine qb.mk hc rfl ?_;simp only[Qi,xn,vI,simprocAttr];simp only[↓vS,vT,simprocAttr];refine (hg l s hl).sc ?_;rcases vk (fun c:GCall=>decide (c.name=s)) l.calls 0 with⟨h1,h2⟩|⟨i,x,h1,h2,h3,h4,h5⟩
 ·have e:atM l.calls s = -1:=h1;have e2:zJ l.calls s=none:=h2;rw[e,e2];simp only[↓vS,vT,simprocAttr];simp[vZ]
 ·have e:atM l.calls s=(i:Int):=by unfold atM;rw[h1];simp
  have e2:zJ l.calls s=some x:=h4
  have hi:i<l.calls.length:=by
   rcases Nat.lt_or_ge i l.calls.length with h|h
   ·exact h
   ·rw[List.getElem?_eq_none h] at h2;cases h2
  have g1:(rC l.calls)[i*2+1]?=some (.i .u32 x.act):=qdH h2 (i:=1) (by decide);have hn:¬(i:Int)<0:=by omega
  rw[e,e2];simp only[↓vS,vT,simprocAttr,hn,hi,g1];simp[vZ]
end Go.Kc
end
section
/- A binary search among calls by a function; a list of calls without some. Condition: the functions' texts are these. -/
namespace Go.Kc
variable {P:Program} {f:Nat}
end Go.Kc
end
section
/- What slices.DeleteFunc makes of a row of calls of one's own. Condition: the functions' texts are these. -/
namespace Go.Kc
variable {P:Program} {f:Nat}
end Go.Kc
end
