/- Part 6 of the abstract machine and of the functions' walks. Conditions: with each theorem. -/
import Derived.Test.YtkmehjebocbmlaaK5
import Derived.Laws.Externs
import Derived.Lib.Overlaps
import GoSem.ClaimChange
import Derived.ChangeArms
import Derived.ReadAgain
import Derived.ChangeOld
import Derived.ChangeBears
import Derived.OpenShut
import Derived.RecoverIn
set_option maxHeartbeats 4000000
set_option linter.unusedSectionVars false
set_option linter.unusedSimpArgs false
set_option linter.unusedVariables false
set_option linter.unnecessarySimpa false
set_option linter.defProp false
section
namespace Go.Kc
variable [Cur]
variable {P:Program} {h:Hp}

def kc(h:Hp)(g:Nat->Nat)(m:Nat):List Nat->List Blk->Prop
 | [],[]=>True
 | b::at',.cells e true a cs::xs=>(x5 m cs=true∧evB (h.tr.get b) (fun y=>y=Blk.cells e true a (ju g cs))∧h.fl<=b∧b<h.sz)∧kc h g m at' xs
 | _,_=>False
omit [Cur] in
theorem kc.get{g:Nat->Nat}{m:Nat}:∀{at':List Nat} {bs:List Blk},kc h g m at' bs->at'.length=bs.length∧∀(i:Nat) (x:Blk),bs[i]?=some x->∃b e a cs,at'[i]?=some b∧x = .cells e true a cs∧x5 m cs=true∧h.tr.get b=some (.cells e true a (ju g cs))∧h.fl<=b∧b<h.sz
 | [],[],_=>⟨rfl,by simp⟩
 | [],_::_,hh=>by simp[kc] at hh
 | _::_,[],hh=>by simp[kc] at hh
 | b::at',.dead::xs,hh=>by simp[kc] at hh
 | b::at',.map _::xs,hh=>by simp[kc] at hh
 | b::at',.cells e false a cs::xs,hh=>by simp[kc] at hh
 | b::at',.cells e true a cs::xs,hh=>by
  obtain⟨⟨h1,⟨y,h2,h3⟩,h4,h5⟩,h6⟩:=hh;subst h3;obtain⟨h7,h8⟩:=kc.get h6;refine⟨by simp[h7],fun i x hx=>?_⟩
  cases i with
  | zero=>simp at hx;subst hx;exact⟨b,e,a,cs,rfl,rfl,h1,h2,h4,h5⟩
  | succ i=>simpa using h8 i x (by simpa using hx)
omit [Cur] in
theorem Lent.of{at':List Nat}{bs:List Blk}(hn:at'.Nodup)(hl:kc h (gAt at' h.sz) bs.length at' bs):Lent h at' bs:=by
 obtain⟨h1,h2⟩:=hl.get;refine⟨h1,hn,fun i x hx=>?_⟩
 obtain⟨b,e,a,cs,q1,q2,q3,q4,q5,q6⟩:=h2 i x hx;have hi:i<at'.length:=(zzS.1 q1).1
 have e1:gAt at' h.sz i=b:=by
  rw[vq hi];exact (zzS.1 q1).2
 exact⟨e,a,cs,q2,q3,by rw[e1];exact q4,by rw[e1];exact q5,by rw[e1];exact q6⟩
omit [Cur] in
theorem qgG{g:Nat->Nat}{m:Nat}:kc h g m [] []↔True:=Iff.rfl
omit [Cur] in
theorem qeR{g:Nat->Nat}{m b e:Nat}{at':List Nat}{a:Bool}{cs:List AV}{xs:List Blk}:kc h g m (b::at') (.cells e true a cs::xs)↔(x5 m cs=true∧evB (h.tr.get b) (fun y=>y=Blk.cells e true a (ju g cs))∧h.fl<=b∧b<h.sz)∧kc h g m at' xs:=Iff.rfl
omit [Cur] in
theorem zE{s f b:Nat}{tr:Tr Blk}{x:Blk}:Hp.put ⟨s,f,tr⟩ b x=⟨s,f,tr.set b x⟩:=rfl
omit [Cur] in
theorem qcX{xs:List Blk}:vy h [] xs=h:=by simp[vy]
omit [Cur] in
theorem qbp{b:Nat}{at':List Nat}{x:Blk}{xs:List Blk}:vy h (b::at') (x::xs)=vy (h.put b x) at' xs:=rfl
omit [Cur] in
theorem qjZ{g:Nat->Nat}{v:AV}(hv:clo v=true):rnv g v=v:=by
 have key:(∀v:AV,clo v=true->rnv g v=v):=fun v=>by
  refine AV.rec (motive_1:=fun v=>clo v=true->rnv g v=v) (motive_2:=fun vs=>qR vs=true->ju g vs=vs) ?_ ?_ ?_ ?_ ?_ ?_ ?_ ?_ ?_ ?_ ?_ ?_ ?_ ?_ ?_ ?_ ?_ ?_ ?_ ?_ ?_ ?_ ?_ ?_ ?_ ?_ v
  all_goals first
   | (intros;rfl)
   | (intros;rename_i hh;simp[clo] at hh;done)
   | skip
  ·intro f a c h1 h2 hh;simp only[clo,Bool.and_eq_true] at hh;simp only[rnv,h1 hh.1,h2 hh.2]
  ·intro t v h1 hh;simp only[clo] at hh;simp only[rnv,h1 hh]
  ·intro cs h1 hh;simp only[clo] at hh;simp only[rnv,h1 hh]
  ·intro cs h1 hh;simp only[clo] at hh;simp only[rnv,h1 hh]
  ·intro v vs h1 h2 hh;simp only[qR,Bool.and_eq_true] at hh;simp only[ju,h1 hh.1,h2 hh.2]
 exact key v hv
omit [Cur] in
theorem qh{g:Nat->Nat}:∀{vs:List AV},qR vs=true->ju g vs=vs
 | [],_=>rfl
 | v::vs,h=>by
  simp only[qR,Bool.and_eq_true] at h;simp only[ju,qjZ h.1,qh h.2]
def jc:Blk->Bool
 | .dead=>false
 | _=>true
omit [Cur] in
theorem qbo{α β:Type}{f:α->β}{p:α->Bool}:∀{l:List α},((l.filter p).map f).Nodup->∀{i j:Nat} {x y:α},l[i]?=some x->l[j]?=some y->p x=true->p y=true->f x=f y->i=j
 | [],_,i,j,x,y,hi,_,_,_,_=>by simp at hi
 | a::l,hn,i,j,x,y,hi,hj,hx,hy,he=>by
  have tail:((l.filter p).map f).Nodup:=by
   rw[List.filter_cons] at hn;split at hn
   ·exact (List.nodup_cons.1 hn).2
   ·exact hn
  have no:∀{z:α} {m:Nat},l[m]?=some z->p z=true->p a=true->f a=f z->False:=by
   intro z m hz hpz hpa hfz;rw[List.filter_cons,if_pos hpa] at hn;exact (List.nodup_cons.1 hn).1 (hfz ▸ List.mem_map_of_mem (List.mem_filter.2 ⟨zzM hz,hpz⟩))
  cases i with
  | zero =>
   simp at hi;subst hi;cases j with
   | zero=>rfl
   | succ j=>exact (no (by simpa using hj) hy hx he).elim
  | succ i =>
   cases j with
   | zero=>simp at hj;subst hj;exact (no (by simpa using hi) hx hy he.symm).elim
   | succ j =>
    have hij:i=j:=qbo tail (i:=i) (j:=j) (by simpa using hi) (by simpa using hj) hx hy he;rw[hij]
theorem Wk.mkd{n:Nat}{t:Tr AV}(ts:List (Nat×AV))(bl:List Blk)(src:List Nat)(hT:TWs t (rl src h.sz) bl.length ts)(hB:BWs h (rl src h.sz) bl.length src bl)
  (hI:(((src.zip bl).filter fun p=>decide (p.1<h.sz)&&jc p.2).map Prod.fst).Nodup) (hfl:h.fl=0) (hn:n<=bl.length) (hlow:∀b,b<n->rl src h.sz b=b):Wk n t h (mkT ts) (mkH 0 bl):=by
 obtain⟨hlen,hget⟩:=hB.get;refine Wk.of (r:=rl src h.sz) ⟨hfl.symm,fun b' x' hb hg=>?_,fun b1 b2 h1 h2 l1 l2 he hl=>?_,fun b' _ _ _=>by rw[hfl];exact Nat.zero_le _,hlow,hn,fun b _ hb=>by rw[hfl] at hb;exact absurd hb (Nat.not_lt_zero _),fun j v' hj=>?_⟩
 ·rw[xp] at hg;obtain⟨b,q1,q2⟩:=hget b' x' hg;have:rl src h.sz b'=b:=by simp[rl,List.getD_eq_getElem?_getD,q1]
  rw[this];exact q2
 ·obtain⟨x1,g1,d1⟩:=l1;obtain⟨x2,g2,d2⟩:=l2;rw[xp] at g1 g2;obtain⟨c1,q1,_⟩:=hget b1 x1 g1;obtain⟨c2,q2,_⟩:=hget b2 x2 g2;have e1:rl src h.sz b1=c1:=by simp[rl,List.getD_eq_getElem?_getD,q1]
  have e2:rl src h.sz b2=c2:=by simp[rl,List.getD_eq_getElem?_getD,q2]
  rw[e1,e2] at he;rw[e1] at hl;have v1:jc x1=true:=by cases x1<;>first|rfl|exact absurd rfl d1
  have v2:jc x2=true:=by cases x2<;>first|rfl|exact absurd rfl d2
  refine qbo hI (i:=b1) (j:=b2) (x:=(c1,x1)) (y:=(c2,x2)) ?_ ?_ ?_ ?_ he
  ·rw[List.getElem?_zip_eq_some];exact⟨q1,g1⟩
  ·rw[List.getElem?_zip_eq_some];exact⟨q2,g2⟩
  ·simp[hl,v1]
  ·simp[← he,hl,v2]
 ·exact hT.get _ (yD hj)
omit [Cur] in
theorem qeX{b o:Nat}{k:AV->Prop}:qbn (.ptr b o) k↔k (.ptr b o):=Iff.rfl
omit [Cur] in
theorem qg2{cs:List AV}{o:Nat}{k:AV->Prop}:qbn (.pf cs o) k↔k (.pf cs o):=Iff.rfl
omit [Cur] in
theorem qeW{b:Nat}{k:AV->Prop}:qbn (.map b) k↔k (.map b):=Iff.rfl
omit [Cur] in
theorem qg3{b:Nat}{k:AV->Prop}:qbn (.yl b) k↔k (.yl b):=Iff.rfl
omit [Cur] in
theorem qg1{f:Nat}{a c:List AV}{k:AV->Prop}:qbn (.fn f a c) k↔k (.fn f a c):=Iff.rfl
omit [Cur] in
theorem qki{C:qW}{ops:List ROp}{Q:Tr AV->Hp->Prop}{t:Tr AV}{s f f':Nat}{tr:Tr Blk}:VR' C ops Q t (Hp.down ⟨s,f,tr⟩ f')↔VR' C ops Q t ⟨s,f',tr⟩:=Iff.rfl
omit [Cur] in
theorem qoS{C:qW}{ops:List ROp}{Q:Tr AV->Hp->Prop}{t:Tr AV}{s f:Nat}{tr:Tr Blk}{dst:Option Nat}{o:IOp}:VR' C (⟨dst,.op o,none⟩::ops) Q t ⟨s,f,tr⟩ ↔
  if wr (.op o)=true then opK qx o t ⟨s,f,tr⟩ (fun v h'=>xu t dst v (fun t'=>VR' C ops Q t' h')) else opK qx o t ⟨s,s,tr⟩ (fun v h'=>xu t dst v (fun t'=>VR' C ops Q t' (h'.down f))):=qkN
omit [Cur] in
theorem qm7{C:qW}{Q:Tr AV->Hp->Prop}{t:Tr AV}{s f:Nat}{tr:Tr Blk}:VR' C [] Q t ⟨s,f,tr⟩↔Q t ⟨s,f,tr⟩:=Iff.rfl
omit [Cur] in
theorem qil{m:Nat}:∀{v:AV},clo v=true->bnd m v=true:=by
 intro v;refine AV.rec (motive_1:=fun v=>clo v=true->bnd m v=true) (motive_2:=fun vs=>qR vs=true->x5 m vs=true) ?_ ?_ ?_ ?_ ?_ ?_ ?_ ?_ ?_ ?_ ?_ ?_ ?_ ?_ ?_ ?_ ?_ ?_ ?_ ?_ ?_ ?_ ?_ ?_ ?_ ?_ v
 all_goals first
  | (intros;rfl)
  | (intros;rename_i hh;simp[clo] at hh;done)
  | skip
 ·intro f a c h1 h2 hh;simp only[clo,Bool.and_eq_true] at hh;simp only[bnd,h1 hh.1,h2 hh.2,Bool.and_self]
 ·intro t v h1 hh;simp only[clo] at hh;simp only[bnd,h1 hh]
 ·intro cs h1 hh;simp only[clo] at hh;simp only[bnd,h1 hh]
 ·intro cs h1 hh;simp only[clo] at hh;simp only[bnd,h1 hh]
 ·intro v vs h1 h2 hh;simp only[qR,Bool.and_eq_true] at hh;simp only[x5,h1 hh.1,h2 hh.2,Bool.and_self]
omit [Cur] in
theorem qy{m:Nat}:∀{vs:List AV},qR vs=true->x5 m vs=true
 | [],_=>rfl
 | v::vs,h=>by
  simp only[qR,Bool.and_eq_true] at h;simp only[x5,qil h.1,qy h.2,Bool.and_self]
end Go.Kc
end
section
namespace Go.Kc
variable [Cur]
def vQ:=And.intro @List.map_cons.{0,0} (And.intro @List.map_nil.{0,0} (And.intro @Bool.and_true (And.intro @Bool.true_and (And.intro @Bool.and_self (And.intro @and_self (And.intro @Tr.get_set (And.intro @decide_eq_true_eq (And.intro @Bool.false_eq_true (And.intro @true_and (And.intro @and_true (And.intro @List.getElem?_cons_zero.{0} (And.intro @List.getElem?_cons_succ.{0} (And.intro @List.length_cons.{0} (And.intro @List.length_nil.{0} (And.intro @List.take_zero.{0} (And.intro @List.take_succ_cons.{0} (And.intro @List.drop_zero.{0} (And.intro @List.drop_succ_cons.{0} (And.intro @List.drop_nil.{0} (And.intro @List.take_nil.{0} (And.intro @List.nil_append.{0} (And.intro @List.cons_append.{0} (And.intro @List.append_nil.{0} (And.intro @Nat.zero_add (And.intro @Nat.add_zero (And.intro @Nat.le_refl (And.intro @Nat.zero_le (And.intro @Int.toNat_natCast (And.intro @Int.natCast_nonneg (And.intro @Int.ofNat_lt (And.intro @Bool.not_true (And.intro @Bool.not_false (And.intro @decide_true (And.intro @decide_false (And.intro @Bool.xor_false (And.intro @Bool.xor_true (And.intro @Bool.false_xor (And.intro @Bool.true_xor (And.intro @Nat.lt_irrefl (And.intro @List.replicate_succ.{0} (And.intro @List.replicate_zero.{0} (And.intro @List.flatten_cons.{0} (And.intro @List.flatten_nil.{0} (And.intro @Nat.succ_eq_add_one (And.intro @Option.isNone_none.{0} (And.intro @Option.isSome_none.{0} (And.intro @Bool.false_and (And.intro @Bool.and_false (And.intro @Nat.sub_zero (And.intro @qcX (And.intro @qbp (And.intro @zE (And.intro @qja (And.intro @qaj (And.intro @yF (And.intro @kC @List.append_assoc.{0}))))))))))))))))))))))))))))))))))))))))))))))))))))))))
def vX:=And.intro @qki (And.intro @qoS (And.intro @qm7 (And.intro @qhq (And.intro @qhr (And.intro @qe5 (And.intro @qho (And.intro @qeX (And.intro @qg2 (And.intro @qeW (And.intro @qg3 @qg1))))))))))
def vU:=And.intro @shb.eq_1 (And.intro @shb.eq_2 (And.intro @shb.eq_3 (And.intro @shv.eq_1 (And.intro @shv.eq_2 (And.intro @shv.eq_3 (And.intro @shv.eq_4 (And.intro @shv.eq_5 (And.intro @shv.eq_6 (And.intro @shv.eq_7 (And.intro @shv.eq_8 (And.intro @shv.eq_9 (And.intro @shv.eq_10 (And.intro @kl.eq_1 @kl.eq_2)))))))))))))
def vY:=And.intro vU (And.intro @k8.eq_1 (And.intro @k8.eq_2 (And.intro @cellsOf.eq_1 (And.intro @cellsOf.eq_2 (And.intro @wr.eq_1 (And.intro @wr.eq_2 (And.intro @wr.eq_3 (And.intro @wr.eq_4 (And.intro @wr.eq_5 (And.intro @wr.eq_6 (And.intro @wr.eq_7 (And.intro @wr.eq_8 (And.intro @wr.eq_9 (And.intro @wr.eq_10 (And.intro @wr.eq_11 (And.intro @xX.eq_1 @xX.eq_2))))))))))))))))
def vS:=And.intro vA (And.intro vE (And.intro vO (And.intro vB (And.intro vF (And.intro vM (And.intro vR vX))))))
def vT:=And.intro vY (And.intro @qli (And.intro @qlj (And.intro vP (And.intro vC (And.intro vQ (And.intro @qd8 (And.intro @qc2 (And.intro not_false_eq_true (And.intro @eq_self.{1} @Int.cast_ofNat_Int)))))))))
def vw:=And.intro vW (And.intro @qiI (And.intro @qn1 (And.intro @qn0 (And.intro @qln (And.intro @qiJ (And.intro @qke (And.intro @qhQ (And.intro @qdq (And.intro @qk5 (And.intro @qbk (And.intro @qeT (And.intro @qdr (And.intro @qcT (And.intro vP (And.intro vZ @Tr.get_set)))))))))))))))
def vK:=And.intro (And.intro @wA.eq_1 (And.intro @rnb.eq_1 (And.intro @rnb.eq_2 (And.intro @rnb.eq_3 (And.intro @ju.eq_1 (And.intro @ju.eq_2 (And.intro @rnv.eq_1 (And.intro @rnv.eq_2 (And.intro @rnv.eq_3 (And.intro @rnv.eq_4 (And.intro @rnv.eq_5 (And.intro @rnv.eq_6 (And.intro @rnv.eq_7 (And.intro @rnv.eq_8 (And.intro @rnv.eq_9 (And.intro @rnv.eq_10 @gAt.eq_1)))))))))))))))) (And.intro @List.cons_append.{0} (And.intro @List.nil_append.{0} (And.intro @List.length_cons.{0} (And.intro @List.length_nil.{0} (And.intro Nat.zero_add (And.intro @List.take_succ_cons.{0} (And.intro @List.take_zero.{0} (And.intro @List.drop_succ_cons.{0} (And.intro @List.drop_zero.{0} (And.intro @List.map_cons.{0,0} (And.intro @List.map_nil.{0,0} (And.intro @List.getD_cons_zero.{0} (And.intro @List.getD_cons_succ.{0} (And.intro @qbp (And.intro @qcX (And.intro @kC (And.intro @yF (And.intro @zE @qaj))))))))))))))))))
def vJ:=And.intro vU (And.intro @kC (And.intro @yF (And.intro @qaj (And.intro @qd8 (And.intro @qc2 (And.intro @List.map_cons.{0,0} (And.intro @List.map_nil.{0,0} (And.intro @qkG (And.intro @qdM Nat.zero_add)))))))))
def vL:=And.intro vU (And.intro (And.intro @x5.eq_1 (And.intro @x5.eq_2 (And.intro @bnd.eq_1 (And.intro @bnd.eq_2 (And.intro @bnd.eq_3 (And.intro @bnd.eq_4 (And.intro @bnd.eq_5 (And.intro @bnd.eq_6 (And.intro @bnd.eq_7 (And.intro @bnd.eq_8 (And.intro @bnd.eq_9 (And.intro @bnd.eq_10 (And.intro @ju.eq_1 (And.intro @ju.eq_2 (And.intro @rnv.eq_1 (And.intro @rnv.eq_2 (And.intro @rnv.eq_3 (And.intro @rnv.eq_4 (And.intro @rnv.eq_5 (And.intro @rnv.eq_6 (And.intro @rnv.eq_7 (And.intro @rnv.eq_8 (And.intro @rnv.eq_9 (And.intro @rnv.eq_10 @gAt.eq_1)))))))))))))))))))))))) (And.intro @qeR (And.intro @qgG (And.intro @kC (And.intro @yF @qaj)))))
def ROp.q(n:Nat)(o:IOp):ROp:=⟨some n,.op o,none⟩
def ROp.m(n:Nat)(x:O):ROp:=⟨some n,.op (.mov x),none⟩
def ROp.g(n:Nat)(o:IOp)(c:Nat)(b:Bool):ROp:=⟨some n,.op o,some (c,b)⟩
def ROp.l(n f:Nat)(xs:List O):ROp:=⟨some n,.callF f xs,none⟩
def ROp.u(o:IOp):ROp:=⟨none,.op o,none⟩
def ICode.r(ops:List ROp):ICode:=.reg false ops
def O.k(n:Int):O:=.c (.i .i64 n)
def ROp.n(n a:Nat):ROp:=⟨some n,.op (.mov (.t a)),none⟩
def ROp.d(n a:Nat):ROp:=⟨some n,.op (.load1 (.t a)),none⟩
def ROp.v(n k a:Nat):ROp:=⟨some n,.op (.loadN k (.t a)),none⟩
def ROp.f(n k a:Nat):ROp:=⟨some n,.op (.fAddr k (.t a)),none⟩
def ROp.i(n k a b:Nat):ROp:=⟨some n,.op (.iAddrS k (.t a) (.t b)),none⟩
def ROp.a(n a:Nat)(k:Int):ROp:=⟨some n,.op (.bin .add (.t a) (.c (.i .i64 k))),none⟩
def ROp.b(n:Nat)(o:BinOp)(a b:Nat):ROp:=⟨some n,.op (.bin o (.t a) (.t b)),none⟩
def ROp.w(n:Nat)(o:BinOp)(a:Nat)(k:Int):ROp:=⟨some n,.op (.bin o (.t a) (.c (.i .i64 k))),none⟩
def ROp.e(n a:Nat):ROp:=⟨some n,.op (.len false (.t a)),none⟩
def ROp.x(n a k:Nat):ROp:=⟨some n,.op (.ext (.t a) k),none⟩
def ROp.s(n a b:Nat):ROp:=⟨some n,.op (.bin .lss (.t a) (.t b)),none⟩
def ROp.p(n a b:Nat):ROp:=⟨some n,.op (.pick (.t a) (.t b) (.c (.b false))),none⟩
def ROp.o(n a b:Nat):ROp:=⟨some n,.op (.pick (.t a) (.c (.b true)) (.t b)),none⟩
def ROp.y(n a c:Nat):ROp:=⟨some n,.op (.mov (.t a)),some (c,true)⟩
def ROp.z(n a c:Nat):ROp:=⟨some n,.op (.mov (.t a)),some (c,false)⟩
def ROp.j(n a c:Nat)(b:Bool):ROp:=⟨some n,.op (.load1 (.t a)),some (c,b)⟩
def ROp.h(n k a c:Nat)(b:Bool):ROp:=⟨some n,.op (.fAddr k (.t a)),some (c,b)⟩
def O.F:O:=.c (.b false)
def O.T:O:=.c (.b true)
def O.N:O:=.c .nils
omit [Cur] in
theorem q_q{n:Nat}{o:IOp}:ROp.q n o=⟨some n,.op o,none⟩:=rfl
omit [Cur] in
theorem q_m{n:Nat}{x:O}:ROp.m n x=⟨some n,.op (.mov x),none⟩:=rfl
omit [Cur] in
theorem q_g{n:Nat}{o:IOp}{c:Nat}{b:Bool}:ROp.g n o c b=⟨some n,.op o,some (c,b)⟩:=rfl
omit [Cur] in
theorem q_l{n f:Nat}{xs:List O}:ROp.l n f xs=⟨some n,.callF f xs,none⟩:=rfl
omit [Cur] in
theorem q_u{o:IOp}:ROp.u o=⟨none,.op o,none⟩:=rfl
omit [Cur] in
theorem q_r{ops:List ROp}:ICode.r ops = .reg false ops:=rfl
omit [Cur] in
theorem q_k{n:Int}:O.k n = .c (.i .i64 n):=rfl
omit [Cur] in
theorem qpt{n a:Nat}:ROp.n n a=⟨some n,.op (.mov (.t a)),none⟩:=rfl
omit [Cur] in
theorem qpn{n a:Nat}:ROp.d n a=⟨some n,.op (.load1 (.t a)),none⟩:=rfl
omit [Cur] in
theorem qpx{n k a:Nat}:ROp.v n k a=⟨some n,.op (.loadN k (.t a)),none⟩:=rfl
omit [Cur] in
theorem qpp{n k a:Nat}:ROp.f n k a=⟨some n,.op (.fAddr k (.t a)),none⟩:=rfl
omit [Cur] in
theorem qpr{n k a b:Nat}:ROp.i n k a b=⟨some n,.op (.iAddrS k (.t a) (.t b)),none⟩:=rfl
omit [Cur] in
theorem qpl{n a:Nat}{k:Int}:ROp.a n a k=⟨some n,.op (.bin .add (.t a) (.c (.i .i64 k))),none⟩:=rfl
omit [Cur] in
theorem qpm{n:Nat}{o:BinOp}{a b:Nat}:ROp.b n o a b=⟨some n,.op (.bin o (.t a) (.t b)),none⟩:=rfl
omit [Cur] in
theorem qpy{n:Nat}{o:BinOp}{a:Nat}{k:Int}:ROp.w n o a k=⟨some n,.op (.bin o (.t a) (.c (.i .i64 k))),none⟩:=rfl
omit [Cur] in
theorem qpo{n a:Nat}:ROp.e n a=⟨some n,.op (.len false (.t a)),none⟩:=rfl
omit [Cur] in
theorem qpz{n a k:Nat}:ROp.x n a k=⟨some n,.op (.ext (.t a) k),none⟩:=rfl
omit [Cur] in
theorem qpw{n a b:Nat}:ROp.s n a b=⟨some n,.op (.bin .lss (.t a) (.t b)),none⟩:=rfl
omit [Cur] in
theorem qpv{n a b:Nat}:ROp.p n a b=⟨some n,.op (.pick (.t a) (.t b) (.c (.b false))),none⟩:=rfl
omit [Cur] in
theorem qpu{n a b:Nat}:ROp.o n a b=⟨some n,.op (.pick (.t a) (.c (.b true)) (.t b)),none⟩:=rfl
omit [Cur] in
theorem qpA{n a c:Nat}:ROp.y n a c=⟨some n,.op (.mov (.t a)),some (c,true)⟩:=rfl
omit [Cur] in
theorem qpB{n a c:Nat}:ROp.z n a c=⟨some n,.op (.mov (.t a)),some (c,false)⟩:=rfl
omit [Cur] in
theorem qps{n a c:Nat}{b:Bool}:ROp.j n a c b=⟨some n,.op (.load1 (.t a)),some (c,b)⟩:=rfl
omit [Cur] in
theorem qpq{n k a c:Nat}{b:Bool}:ROp.h n k a c b=⟨some n,.op (.fAddr k (.t a)),some (c,b)⟩:=rfl
omit [Cur] in
theorem q_F:O.F = .c (.b false):=rfl
omit [Cur] in
theorem q_T:O.T = .c (.b true):=rfl
omit [Cur] in
theorem q_N:O.N = .c .nils:=rfl
def vI:=And.intro (And.intro @qpt (And.intro @qpn (And.intro @qpx (And.intro @qpp (And.intro @qpr (And.intro @qpl (And.intro @qpm (And.intro @qpy (And.intro @qpo (And.intro @qpz (And.intro @qpw (And.intro @qpv (And.intro @qpu (And.intro @qpA (And.intro @qpB (And.intro @qps (And.intro @qpq (And.intro q_F (And.intro q_T q_N))))))))))))))))))) (And.intro (And.intro @yT.eq_1 (And.intro @yT.eq_2 (And.intro @H0.eq_1 (And.intro @mkT.eq_1 (And.intro @mkT.eq_2 (And.intro @mkH.eq_1 (And.intro @trL.eq_1 @trL.eq_2))))))) (And.intro @List.length_cons.{0} (And.intro @List.length_nil.{0} (And.intro Nat.zero_add (And.intro @q_q (And.intro @q_m (And.intro @q_g (And.intro @q_l (And.intro @q_u (And.intro @q_r @q_k))))))))))
end Go.Kc
end
section
namespace Go.Kc
variable [Cur]
variable {P:Program}

theorem Own.pure{f:Nat}{vs:List AV}{v v':AV}{bs:List Blk}(hcl:qR vs=true)(ho:Own P f vs v bs)(hf:Frz (xd H0 (bs.map (shb 0))) (shv 0 v) v'):qe P f vs v' :=
 qe.of_SC hcl (ho H0 _ hf)
end Go.Kc
end
section
namespace Go.Kc
variable [Cur]
variable {P:Program} {n:Nat} {t:Tr AV} {h:Hp}

theorem Wk.trans{t1 t2:Tr AV}{h1 h2:Hp}(a:Wk n t h t1 h1)(b:Wk n t1 h1 t2 h2):Wk n t h t2 h2:=by
 intro ρ B w tm ht r;obtain⟨ρ1,g1,g2,g3⟩:=a ρ B w tm ht r;obtain⟨ρ2,k1,k2,k3⟩:=b ρ1 B w tm g1 g2;exact⟨ρ2,k1,k2,g3.trans k3⟩
end Go.Kc
end
section
namespace Go.Kc
variable [Cur]
variable {P:Program} {f:Nat}

def qks(P:Program)(f:Nat)(e:Array Value->Sem Value):Prop:=∀args w,(callFunc f args).run P w=((e args).run P w).andThen fun v w'=>.ok (.value v) w'
theorem qks.pure{e:Array Value->Sem Value}{vs:List AV}{v:AV}(h:qks P f e)(hr:∀ρ (args:Array Value) w,VRs σ0 ρ vs args.toList->∃v',(e args).run P w = .ok v' w∧VR σ0 ρ v v'):qe P f vs v:=by
 intro hp k hk;refine⟨trivial,fun ρ B w args r ha=>?_⟩
 obtain⟨v',h1,h2⟩:=hr ρ args w ha;exact .inr ⟨v',w,by rw[h,h1];rfl,v,v',hp,ρ,rfl,hk,h2,r,Kept.refl _ _ _ _⟩

omit [Cur] in
theorem qjj{y:List UInt8}:ltS [] y = !y.isEmpty:=by cases y<;>rfl
omit [Cur] in
theorem qcS{c:UInt8}{x:List UInt8}:ltS (c::x) []=false:=rfl
omit [Cur] in
theorem qcR{c d:UInt8}{x y:List UInt8}:ltS (c::x) (d::y)=if c<d then true else if c=d then ltS x y else false:=by
 rw[Q4,Q4];simp only[Op.bytesLess]
 by_cases h1:c<d
 ·simp[h1]
 ·by_cases h2:c=d
  ·simp[h2]
  ·simp[h1,h2]
end Go.Kc
end
section
namespace Go.Kc
variable [Cur]
variable {P:Program}
end Go.Kc
end
section
namespace Go.Kc
variable [Cur]
variable {P:Program} {h:Hp}

noncomputable def trP:List (Nat×Blk)->Tr Blk
 | []=>.leaf
 | p::l=>(trP l).set p.1 p.2
omit [Cur] in
theorem qb4:∀{l:List (Nat×Blk)} {b:Nat} {x:Blk},(trP l).get b=some x->(b,x) ∈ l
 | [],b,x,h=>by simp[trP] at h
 | p::l,b,x,h=>by
  simp only[trP,Tr.get_set] at h;split at h
  ·cases h;subst_vars;simp
  ·exact List.mem_cons_of_mem _ (qb4 h)
noncomputable def Qf(h:Hp):List (Nat×Blk)->Hp
 | []=>h
 | p::l=>Qf (h.put p.1 .dead) l
omit [Cur] in
theorem qbR:∀{l:List (Nat×Blk)} {h:Hp},(Qf h l).sz=h.sz
 | [],_=>rfl
 | _::l,h=>(qbR (l:=l)).trans rfl
omit [Cur] in
theorem qbQ:∀{l:List (Nat×Blk)} {h:Hp},(Qf h l).fl=h.fl
 | [],_=>rfl
 | _::l,h=>(qbQ (l:=l)).trans rfl
omit [Cur] in
theorem qaI:∀{l:List (Nat×Blk)} {h:Hp} {b:Nat},(Qf h l).tr.get b=if b ∈ l.map Prod.fst then some .dead else h.tr.get b
 | [],_,_=>by simp[Qf]
 | p::l,h,b=>by
  simp only[Qf];rw[qaI]
  by_cases h1:b ∈ l.map Prod.fst
  ·rw[if_pos h1,if_pos (by simp only[List.map_cons,List.mem_cons];exact .inr h1)]
  ·rw[if_neg h1];show (h.tr.set p.1 .dead).get b=_;rw[Tr.get_set]
   by_cases h2:b=p.1
   ·rw[if_pos h2,if_pos (by simp only[List.map_cons,List.mem_cons];exact .inl h2)]
   ·rw[if_neg h2,if_neg (by simp only[List.map_cons,List.mem_cons,not_or];exact⟨h2,h1⟩)]
omit [Cur] in
theorem zt:Qf h []=h:=rfl
omit [Cur] in
theorem zd{b:Nat}{x:Blk}{l:List (Nat×Blk)}:Qf h ((b,x)::l)=Qf (h.put b .dead) l:=rfl
theorem Rel.sub{ρ:Ren}{B:Nat->Prop}{h h':Hp}{w:World}(r:Rel σ0 ρ B h w)(hs:h'.sz=h.sz)(hf:h'.fl=h.fl)(hg:∀b x,h'.tr.get b=some x->x≠.dead->h.tr.get b=some x):Rel σ0 ρ B h' w :=
 ⟨fun b L hb=>by rw[hs];exact r.dom b L hb,fun b L e wf af cs hb hx=>r.cells b L e wf af cs hb (hg _ _ hx (by simp)),fun b L es hb hx=>r.maps b L es hb (hg _ _ hx (by simp)),
  fun b L e af cs hb hx b' L' x hb' hx' hd=>r.excl b L e af cs hb (hg _ _ hx (by simp)) b' L' x hb' (hg _ _ hx' hd) hd,fun b L es hb hx b' L' x hb' hx' hd=>r.exclm b L es hb (hg _ _ hx (by simp)) b' L' x hb' (hg _ _ hx' hd) hd,
  fun b L e wf cs hb hx b' L' e' wf' af' cs' hb' hx'=>r.app b L e wf cs hb (hg _ _ hx (by simp)) b' L' e' wf' af' cs' hb' (hg _ _ hx' (by simp)),fun b L hb hf'=>r.flr b L hb (by rw[← hf];exact hf'),r.base,
  fun k arr hk=>⟨(r.frz k arr hk).1,fun b L x hb hx hd=>(r.frz k arr hk).2 b L x hb (hg _ _ hx hd) hd⟩,by rw[hs];exact r.dn⟩
end Go.Kc
end
section
namespace Go.Kc
variable [Cur] [NoOld]
variable {P:Program} {env:Tr IFn} {ho:QU}

inductive OkT (P:Program):Nat->Nat->Tr IFn->Prop where
 | leaf (a b:Nat):OkT P a b .leaf
 | no (a b:Nat) {l r:Tr IFn}:OkT P (2*a) (a+b) l->OkT P (2*a) (2*a+b) r->OkT P a b (.node none l r)
 | fn (a b:Nat) {i:IFn} {l r:Tr IFn}:qv P b i=true->OkT P (2*a) (a+b) l->OkT P (2*a) (2*a+b) r->OkT P a b (.node (some i) l r)

omit [Cur] [NoOld] in
theorem OkT.get{a b:Nat}{t:Tr IFn}(h:OkT P a b t):∀n i,t.get n=some i->qv P (a*n+b) i=true:=by
 induction h with
 | leaf=>intro n i h;simp at h
 | no a b hl hr ihl ihr =>
  intro n i h;cases n with
  | zero=>rw[Tr.get_node] at h;cases h
  | succ m =>
   rcases Nat.mod_two_eq_zero_or_one m with h0|h0
   ·obtain⟨j,rfl⟩:∃j,m=2*j:=⟨m / 2,by omega⟩
    rw[Tr.get_node] at h;simp only[h0,if_true,Nat.mul_div_cancel_left j (Nat.zero_lt_two)] at h;have:=ihl j i h;rwa [show 2*a*j+(a+b)=a*(2*j+1)+b from by rw[Nat.mul_add,Nat.mul_one,← Nat.mul_assoc,Nat.mul_comm a 2];omega] at this
   ·obtain⟨j,rfl⟩:∃j,m=2*j+1:=⟨m / 2,by omega⟩
    rw[Tr.get_node] at h;simp only[h0,Nat.one_ne_zero,if_false,show (2*j+1) / 2=j from by omega] at h
    have:=ihr j i h;rwa [show 2*a*j+(2*a+b)=a*(2*j+1+1)+b from by rw[Nat.mul_add,Nat.mul_add,Nat.mul_one,← Nat.mul_assoc,Nat.mul_comm a 2];omega] at this
 | fn a b hc hl hr ihl ihr =>
  intro n i h;cases n with
  | zero=>rw[Tr.get_node] at h;cases h;simpa using hc
  | succ m =>
   rcases Nat.mod_two_eq_zero_or_one m with h0|h0
   ·obtain⟨j,rfl⟩:∃j,m=2*j:=⟨m / 2,by omega⟩
    rw[Tr.get_node] at h;simp only[h0,if_true,Nat.mul_div_cancel_left j (Nat.zero_lt_two)] at h;have:=ihl j i h;rwa [show 2*a*j+(a+b)=a*(2*j+1)+b from by rw[Nat.mul_add,Nat.mul_one,← Nat.mul_assoc,Nat.mul_comm a 2];omega] at this
   ·obtain⟨j,rfl⟩:∃j,m=2*j+1:=⟨m / 2,by omega⟩
    rw[Tr.get_node] at h;simp only[h0,Nat.one_ne_zero,if_false,show (2*j+1) / 2=j from by omega] at h
    have:=ihr j i h;rwa [show 2*a*j+(2*a+b)=a*(2*j+1+1)+b from by rw[Nat.mul_add,Nat.mul_add,Nat.mul_one,← Nat.mul_assoc,Nat.mul_comm a 2];omega] at this

omit [Cur] [NoOld] in
theorem OkT.envOk{t:Tr IFn}(h:OkT P 1 0 t):Zd P t:=fun f i hg=>by
 have:=h.get f i hg;rwa [Nat.one_mul] at this

theorem Kept.same{ρ ρ':Ren}{h h':Hp}{w w':World}(k:Kept ρ (low w.heap.size) h w ρ' h' w')(may:MemPlace->Prop):w.keptBut w' may:=by
 refine⟨k.io.1,k.io.2,fun i hi=>?_⟩
 have e:=k.pres i hi;rw[e];cases w.heap[i]? with
 | none=>rfl
 | some o=>cases o<;>simp
noncomputable def qgw(w:World):Nat->Option (Array Value):=fun k=>match w.heap[k]? with|some (.cells arr _ _)=>some arr|_=>none
omit [Cur] [NoOld] in
theorem qaG{w:World}{k:Nat}{arr:Array Value}:qgw w k=some arr↔∃ty fz,w.heap[k]?=some (.cells arr ty fz):=by
 show (match w.heap[k]? with|some (.cells arr _ _)=>some arr|_=>none)=some arr↔_
 cases w.heap[k]? with
 | none=>simp
 | some o=>cases o<;>simp
noncomputable def ice(w:World) [t:TabOk w]:Ren:=⟨fun _=>none,⟨qgw w,fun k a h=>qaG.2 (t.ok k a h),fun k h=>absurd h (NoOld.no k)⟩,0⟩
theorem qi0{w:World} [TabOk w]{k:Nat}{arr:Array Value}:(ice w).frz k=some arr↔∃ty fz,w.heap[k]?=some (.cells arr ty fz):=qaG
theorem Rel.ice(w:World) [TabOk w]:Rel σ0 (ice w) (low w.heap.size) H0 w :=
 ⟨(fun _ _ hb=>by cases hb),(fun _ _ _ _ _ _ hb=>by cases hb),(fun _ _ _ hb=>by cases hb),(fun _ _ _ _ _ hb=>by cases hb),(fun _ _ _ hb=>by cases hb),(fun _ _ _ _ _ hb=>by cases hb),(fun _ _ hb=>by cases hb),(fun _ h=>h),
  (fun k arr hk=>⟨let ⟨ty,fz,h⟩:=qi0.1 hk;⟨ty,fz,h,.inl (NoOld.ro k)⟩,fun _ _ _ hb=>by cases hb⟩),⟨Nat.le_refl _,fun _ _ hb=>by cases hb⟩⟩
theorem qe.law{f:Nat}{vs:List AV}{args:Array Value}(hp:qe P f vs (.b true))(hc:qf2 P f)(w:World) [TabOk w](ha:VRs σ0 (ice w) vs args.toList):Calls P f args w fun e w'=>e = .returned (.bool true)∧∀may,w.keptBut w' may:=by
 have h:=(hp H0 (fun v _=>v = .b true) rfl).2 (ice w) (low w.heap.size) w args (Rel.ice w) ha
 rcases h with⟨_,h⟩|⟨v,w',h,_⟩
 ·refine h.mono fun e w' hh=>?_
  obtain⟨v,v',h',ρ',rfl,rfl,hv,_,hk⟩:=hh;cases hv;exact⟨rfl,fun may=>hk.same may⟩
 ·obtain⟨fn,h1,h2,h3⟩:=hc;rw[Qx h1 h2 h3] at h;cases h
end Go.Kc
end
section
namespace Go.Kc
variable [Cur] [NoOld]
section
variable {H:Type} {enc:TypeId×Value->H} {P:Program} {w:World} {α β:Type} {t e:TypeId}
theorem CRs.app{φ:Nat->Option (Array Value)}:∀{as bs:List AV} {us vs:List Value},CRs σ0 φ as us->CRs σ0 φ bs vs->CRs σ0 φ (as++bs) (us++vs)
 | _,_,_,_,.nil,h=>h
 | _,_,_,_,.cons v l v' l' h hs,h2=>.cons _ _ _ _ h (CRs.app hs h2)
def kF(enc:TypeId×Value->H)(P:Program)(w:World)(t:TypeId)(I:α->Prop)(E:α->List AV):Prop :=
 ∀(fuel:Nat) (cs:List Value) x,DataW.trod enc P w 0 (fun _=>true) true fuel t cs=some x->∃a,I a∧CRs σ0 (qgw w) (E a) cs
theorem qnl{k:IntKind}(ht:P.underlying t=some (.int k)):kF enc P w t (fun n:Int=>(Lit.int k n).wf=true) (fun n=>[.i k n]):=by
 intro fuel cs x h;obtain⟨n,rfl,_,hw⟩:=DataW.trod_int ht h;exact⟨n,hw,.cons _ _ _ _ (.i _ _) .nil⟩
theorem qmC(ht:P.underlying t=some .bool):kF enc P w t (fun _:Bool=>True) (fun b=>[.b b]):=by
 intro fuel cs x h;obtain⟨b,rfl,_⟩:=DataW.trod_bool ht h;exact⟨b,trivial,.cons _ _ _ _ (.b _) .nil⟩
theorem qnm(ht:P.underlying t=some .string):kF enc P w t (fun s:List UInt8=>s.length<=maxLen) (fun s=>[.s s]):=by
 intro fuel cs x h;obtain⟨s,rfl,_,hw⟩:=DataW.trod_string ht h;obtain⟨⟨l⟩⟩:=s;exact⟨l,hw,.cons _ _ _ _ (.s _) .nil⟩
omit [Cur] [NoOld] in
theorem qiw{a:Addr}{v:Value}(h:w.cell? a=some v):a.spot=none∧∃arr ty fz,w.heap[a.block]?=some (.cells arr ty fz)∧arr[a.off]?=some v:=by
 unfold World.cell? at h;split at h
 ·rename_i c ty fz hc;split at h
  ·cases h
  ·rename_i hs;refine⟨by simpa using hs,c,ty,fz,hc,h⟩
 ·cases h
theorem qkB{I:α->Prop}{E:α->List AV}{m:Nat}(ht:P.underlying t=some (.slice e))(he:kF enc P w e I E)(hE:∀a,(E a).length=m)(hc:P.cellsOf e=m)(hm:0<m) :
  kF enc P w t (fun l:List α=>l.length<=maxLen∧∀a ∈ l,I a) (fun l=>[.fz l.length (l.flatMap E)]):=by
 intro fuel cs x h;rcases DataW.trod_slice ht h with⟨rfl,_⟩|⟨a,len,cap,elems,rest,n,_,rfl,_,_,hl,hmx,hlen,hel,hsp,_⟩
 ·exact⟨[],⟨Nat.zero_le _,fun _ h=>by cases h⟩,.cons _ _ _ _ (.fz0 none) .nil⟩
 obtain⟨hrl,hr⟩:=hsp rfl;rcases Nat.eq_zero_or_pos cap with h0|hpos
 ·subst h0;obtain rfl:len=0:=by omega
  exact⟨[],⟨Nat.zero_le _,fun _ h=>by cases h⟩,.cons _ _ _ _ (.fz0 (some a)) .nil⟩
 have first:∃v,w.cell? a=some v:=by
  have:∃cs',w.cells? 0 (a.add (0*P.cellsOf e)) (P.cellsOf e)=some cs':=by
   rcases Nat.eq_zero_or_pos len with h1|h1
   ·have:=hr 0 (by omega);have hlt:0<rest.length:=by omega
    rw[zzE hlt,Option.bind_eq_some_iff] at this;obtain⟨c,hc',_⟩:=this;subst h1;exact⟨c,hc'⟩
   ·have:=hel 0 h1;have hlt:0<elems.length:=by omega
    rw[zzE hlt,Option.bind_eq_some_iff] at this;obtain⟨c,hc',_⟩:=this;exact⟨c,hc'⟩
  obtain⟨cs',h2⟩:=this;obtain⟨_,q1,q2⟩:=World.cells?_some h2;have:=q2 0 (by omega);rw[zzE (by omega)] at this;simp only[Nat.zero_mul,Addr.add,if_true] at this;exact⟨_,this⟩
 obtain⟨v0,hv0⟩:=first
 obtain⟨hs,arr,ty,fz,hb,_⟩:=qiw hv0
 have key:∀k,k<=len->∃l:List α,l.length=k∧(∀b ∈ l,I b)∧CRs σ0 (qgw w) (l.flatMap E) ((arr.toList.drop a.off).take (k*m)):=by
  intro k
  induction k with
  | zero=>intro _;exact⟨[],rfl,(fun _ h=>by cases h),by simpa using .nil⟩
  | succ k ih =>
   intro hk;obtain⟨l,h1,h2,h3⟩:=ih (by omega);have hk':=hel k (by omega);have hlt:k<elems.length:=by omega
   rw[zzE hlt,Option.bind_eq_some_iff] at hk';obtain⟨c,hcs,htr⟩:=hk';obtain⟨_,q1,q2⟩:=World.cells?_some hcs;obtain⟨b,hb1,hb2⟩:=he _ _ _ htr
   have e1:c=((arr.toList.drop a.off).drop (k*m)).take m:=by
    refine List.ext_getElem? fun j=>?_
    by_cases hj:j<m
    ·have:=q2 j (by omega);rw[← this]
     have e2:w.cell? ((a.add (k*P.cellsOf e)).add j)=arr[a.off+(k*m+j)]?:=by
      have ha:(a.add (k*P.cellsOf e)).add j=⟨a.block,a.off+(k*m+j),none⟩:=by
       unfold Addr.add;rw[hc];split
       ·split
        ·rename_i h4 h5;rw[h4,h5];cases a;simp_all
        ·rename_i h4 h5;rw[h4];simp[hs]
       ·split
        ·rename_i h4 h5;rw[h5];cases a;simp_all
        ·simp;omega
      rw[ha];simp[World.cell?,hb]
     rw[e2,List.getElem?_take_of_lt hj,List.getElem?_drop,List.getElem?_drop];simp[Array.getElem?_toList]
    ·rw[List.getElem?_eq_none (by omega),List.getElem?_eq_none];simp;omega
   refine⟨l++[b],by simp[h1],fun x hx=>?_,?_⟩
   ·rcases List.mem_append.1 hx with hx|hx
    ·exact h2 x hx
    ·obtain rfl:=List.mem_singleton.1 hx;exact hb1
   ·rw[List.flatMap_append,Nat.succ_mul,List.take_add,← e1];simpa using h3.app hb2
 obtain⟨l,h1,h2,h3⟩:=key len (Nat.le_refl _);refine⟨l,⟨by omega,h2⟩,.cons _ _ _ _ ?_ .nil⟩
 have hfl:(l.flatMap E).length=len*m:=by
  rw[← h1];clear h1 h2 h3
  induction l with
  | nil=>simp
  | cons x l ih=>simp[hE,ih,Nat.succ_mul,Nat.add_comm]
 obtain⟨blk,off,spot⟩:=a;cases hs;rw[h1];exact .fz len off cap _ blk arr hl (qaG.2 ⟨ty,fz,hb⟩) (by rw[hfl];exact h3) ⟨fun h=>absurd h (NoOld.no _),.inl (NoOld.ro _)⟩
def qbv(enc:TypeId×Value->H)(P:Program)(w:World)(fs:List Field)(o n:Nat)(I:α->Prop)(E:α->List AV):Prop :=
 (∀a,(E a).length=n)∧∀(fuel:Nat) (cs:List Value),(∀f ∈ fs,∃x,DataW.trod enc P w 0 (fun _=>true) true fuel f.type ((cs.drop f.offset).take (P.cellsOf f.type))=some x)->∃a,I a∧CRs σ0 (qgw w) (E a) ((cs.drop o).take n)
theorem qmB{o:Nat}:qbv enc P w [] o 0 (fun _:Unit=>True) (fun _=>[]):=⟨fun _=>rfl,fun _ cs _=>⟨(),trivial,by simpa using .nil⟩⟩
theorem qkA{f:Field}{fs:List Field}{o m n:Nat}{I:α->Prop}{E:α->List AV}{J:β->Prop}{F:β->List AV}(h:kF enc P w f.type I E)(hE:∀a,(E a).length=m)(ho:f.offset=o)(hc:P.cellsOf f.type=m)
  (hr:qbv enc P w fs (o+m) n J F):qbv enc P w (f::fs) o (m+n) (fun p:α×β=>I p.1∧J p.2) (fun p=>E p.1++F p.2):=by
 refine⟨fun p=>by simp[hE,hr.1],fun fuel cs hf=>?_⟩
 obtain⟨x,hx⟩:=hf f (List.mem_cons_self ..);obtain⟨a,ha,h1⟩:=h _ _ _ hx;obtain⟨b,hb,h2⟩:=hr.2 fuel cs fun g hg=>hf g (List.mem_cons_of_mem _ hg)
 refine⟨(a,b),⟨ha,hb⟩,?_⟩;rw[ho,hc] at h1;rw[List.take_add,List.drop_drop];exact h1.app h2
theorem qjN{fs:Array Field}{n:Nat}{I:α->Prop}{E:α->List AV}(ht:P.underlying t=some (.struct fs))(hc:P.cellsOf t=n)(h:qbv enc P w fs.toList 0 n I E):kF enc P w t I E:=by
 intro fuel cs x hx;obtain⟨xs,m,rfl,_,hl,hxs,hf⟩:=DataW.trod_struct ht hx
 obtain⟨a,ha,h1⟩:=h.2 m cs fun f hfm=>by
  obtain⟨i,hi⟩:=List.getElem?_of_mem hfm;have hi':fs[i]?=some f:=by simpa using hi
  have:=hf i f hi'
  have hlt:i<xs.length:=by
   rw[hxs];exact (Array.getElem?_eq_some_iff.1 hi').1
  rw[zzE hlt] at this;exact⟨_,this⟩
 refine⟨a,ha,?_⟩;rwa [List.drop_zero,List.take_of_length_le (by omega)] at h1
theorem kF.map{I:α->Prop}{E:α->List AV}{J:β->Prop}{F:β->List AV}(h:kF enc P w t I E)(g:α->β)(hg:∀a,I a->J (g a)∧F (g a)=E a):kF enc P w t J F:=by
 intro fuel cs x hx;obtain⟨a,ha,h1⟩:=h _ _ _ hx;exact⟨g a,(hg a ha).1,by rw[(hg a ha).2];exact h1⟩
theorem kF.agg [TabOk w]{I:α->Prop}{E:α->List AV}(h:kF enc P w t I E){v:Value}{d:DataW H}{p:List MemPlace}(ha:∃cs,v = .agg cs)(hd:DataW.Trod enc P w 0 (fun _=>true) true t v d p):∃a,I a∧VR σ0 (ice w) (.agg (E a)) v:=by
 obtain⟨cs,rfl⟩:=ha;obtain⟨fuel,hd⟩:=hd;obtain⟨a,h1,h2⟩:=h _ _ _ hd;exact⟨a,h1,.agg _ _ h2.vr⟩
omit [Cur] [NoOld] in
theorem qbZ{w':World}(hk:∀may,w.keptBut w' may){p:MemPlace}(hp:p.block<w.heap.size):w.sameAt w' p:=by
 have h:=(hk fun _=>False).2.2 p.block hp
 have h0:w.heap[p.block]?=some w.heap[p.block]:=Array.getElem?_eq_getElem hp;cases p with
 | cell b off =>
  show w'.cell? ⟨b,off,none⟩=w.cell? ⟨b,off,none⟩;simp only[MemPlace.block] at h h0 hp;unfold World.cell?;split at h
  ·rename_i c1 t1 f1 c2 t2 f2 e1 e2;dsimp only;rw[e1,e2];simpa using h.2.2.2 off (fun hh=>hh)
  ·rename_i e1 e2;dsimp only;rw[e1,e2]
  ·dsimp only;rw[h]
 | map b =>
  show w'.heap[b]?=w.heap[b]?;simp only[MemPlace.block] at h h0 hp;split at h
  ·rename_i c1 t1 f1 c2 t2 f2 e1 e2
   have:c2=c1:=by
    apply Array.ext_getElem?;intro j;exact h.2.2.2 j (fun hh=>hh)
   rw[e1,e2,h.1,h.2.1,this]
  ·rename_i e1 e2;rcases h with hh|⟨h1,h2⟩
   ·exact hh.elim
   ·rw[e1,e2,h1,h2]
  ·exact h
omit [Cur] [NoOld] in
theorem Trod.stay{w':World}{T:TypeId->Prop}(K:Kids P T)(hz:∀t e,T t->P.underlying t=some (.slice e)->0<P.cellsOf e){ts:List TypeId}{vs:List Value}{ds:List (DataW H)}{ps:List MemPlace}(hT:∀t ∈ ts,T t)
  (h:DataW.TrodAll enc P w 0 (fun _=>true) true ts vs ds ps) (hk:∀may,w.keptBut w' may):DataW.TrodAll enc P w' 0 (fun b=>decide (b<w.heap.size)) true ts vs ds ps:=by
 have hlt:=DataW.TrodAll.lt h;have h1:DataW.TrodAll enc P w 0 (fun b=>decide (b<w.heap.size)) true ts vs ds ps:=h.respare K hz hT fun p hp=>decide_eq_true (hlt p hp)
 clear h
 induction ts generalizing vs ds ps with
 | nil =>
  cases vs<;>cases ds<;>first|exact h1|exact h1.elim
 | cons t ts ih =>
  cases vs with
  | nil=>exact h1.elim
  | cons v vs =>
   cases ds with
   | nil=>exact h1.elim
   | cons d ds =>
    obtain⟨p,q,⟨fuel,h2⟩,h3,e⟩:=h1;subst e;refine⟨p,q,⟨fuel,DataW.trod_carry _ _ _ _ h2 fun x hx=>qbZ hk (hlt x (List.mem_append_left _ hx))⟩,?_,rfl⟩
    exact ih (fun t ht=>hT t (List.mem_cons_of_mem _ ht)) (fun x hx=>hlt x (List.mem_append_right _ hx)) h3
end
end Go.Kc
namespace Go.Kc
variable [Cur]
omit [Cur] in
theorem qmI{k:IntKind}{l:List Int}:l.flatMap (fun n=>[AV.i k n])=l.map (.i k):=by
 induction l with
 | nil=>rfl
 | cons x l ih=>simp[ih]
omit [Cur] in
theorem qjR{P:Program}{H:Type}{enc:TypeId×Value->H}{f:Func}{s:ChangeSpec}{apart fresh handsOn:Bool}{W W':World}{args:Array Value}{v:Value}{ds gs:List (DataW H)}{before pv:List MemPlace}
  (hW:DataW.Whole enc P f.params.toList s.vars apart W args.toList ds gs before) (hs:(s.fn H (ds++gs)).args=ds)
  {T:TypeId->Prop} (K:Kids P T) (hz:∀t e,T t->P.underlying t=some (.slice e)->0<P.cellsOf e) (hT:∀t ∈ f.params.toList,T t)
  (hres:∀(b:Nat) (sp:Nat->Bool) (hd:Bool),DataW.TrodAll enc P W' b sp hd f.resultTypes.toList (v.resultList f.resultTypes.size) (s.fn H (ds++gs)).results [])
  (hvars:∀sp:Nat->Bool,DataW.TrodVars enc P W' sp s.vars (s.fn H (ds++gs)).vars pv)
  (hk:∀may,W.keptBut W' may):s.post enc P f apart fresh handsOn false W args v W':=by
 have hW':=hW;obtain⟨p,q,hA,_,_⟩:=hW';exact⟨ds,gs,before,[],p,pv,hW,hres _ _ _,by rw[hs];exact Trod.stay K hz hT hA hk,hvars _,hk _,fun h=>by cases h⟩
end Go.Kc
end
section
namespace Go.Kc
variable [Cur]
variable {P:Program} {env:Tr IFn} {ho:QU}
def kOf:IntKind->Nat
 | .i8=>0 | .i16=>1 | .i32=>2 | .i64=>3 | .u8=>4 | .u16=>5 | .u32=>6 | .u64=>7
omit [Cur] in
theorem qjc{a b:IntKind}(h:Nat.beq (kOf a) (kOf b)=true):a=b:=by
 cases a<;>cases b<;>first|rfl|cases h
def qoa:Int->Int->Bool
 | .ofNat a,.ofNat b=>Nat.beq a b
 | .negSucc a,.negSucc b=>Nat.beq a b
 | _,_=>false
omit [Cur] in
theorem qi3:∀{a b:Int},qoa a b=true->a=b
 | .ofNat a,.ofNat b,h=>by rw[Nat.eq_of_beq_eq_true h]
 | .negSucc a,.negSucc b,h=>by rw[Nat.eq_of_beq_eq_true h]
 | .ofNat _,.negSucc _,h=>by cases h
 | .negSucc _,.ofNat _,h=>by cases h
mutual
noncomputable def jY(h:Hp):AV->AV->Bool
 | .b x,v=>match v with | .b y=>(x&&y)||(!x && !y)|_=>false
 | .i k n,v=>match v with | .i k' m=>Nat.beq (kOf k) (kOf k')&&qoa n m|_=>false
 | .s x,v=>match v with | .s y=>eqS x y|_=>false
 | .nils,v=>match v with | .nils=>true|_=>false
 | .nilp,v=>match v with | .nilp=>true|_=>false
 | .nilf,v=>match v with | .nilf=>true|_=>false
 | .nili,v=>match v with | .nili=>true|_=>false
 | .nilm,v=>match v with | .nilm=>true|_=>false
 | .agg cs',v=>match v with | .agg cs=>Zi h cs' cs|_=>false
 | .tup cs',v=>match v with | .tup cs=>Zi h cs' cs|_=>false
 | .fz n cs',v=>match v with
  | .nils=>Nat.beq n 0&&cs'.isEmpty
  | .sl b o m c _=>Nat.beq n m&&Nat.ble m c && !(Nat.beq c 0)&&(match h.tr.get b with|some (.cells _ true _ cs)=>Nat.ble (o+cs'.length) cs.length&&Zi h cs' ((cs.drop o).take cs'.length)|_=>false)
  | .own b m=>Nat.beq n m && !(Nat.beq m 0)&&(match h.tr.get b with|some (.cells _ true _ ys)=>Zi h cs' ys|_=>false)
  | _=>false
 | _,_=>false
noncomputable def Zi(h:Hp):List AV->List AV->Bool
 | [],vs=>vs.isEmpty
 | v'::vs',vs=>match vs with|v::vs=>jY h v' v&&Zi h vs' vs | []=>false
end
omit [Cur] in
theorem qiG{x y:List UInt8}(h:eqS x y=true):x=y:=by
 rw[jz] at h;simpa using h
mutual
theorem qdS{h:Hp}:∀(v' v:AV),jY h v' v=true->Frz h v v'
 | .b x,v,hb=>by
  unfold jY at hb;split at hb<;>first|(cases hb;done)|skip
  rename_i y;have:y=x:=by cases x<;>cases y<;>first|rfl|cases hb
  subst this;exact .b _
 | .i k n,v,hb=>by
  unfold jY at hb;split at hb<;>first|(cases hb;done)|skip
  simp only[Bool.and_eq_true] at hb;obtain rfl:=qjc hb.1;obtain rfl:=qi3 hb.2;exact .i _ _
 | .s x,v,hb=>by
  unfold jY at hb;split at hb<;>first|(cases hb;done)|skip
  obtain rfl:=qiG hb;exact .s _
 | .nils,v,hb=>by unfold jY at hb;split at hb<;>first|(cases hb;done)|exact .nils
 | .nilp,v,hb=>by unfold jY at hb;split at hb<;>first|(cases hb;done)|exact .nilp
 | .nilf,v,hb=>by unfold jY at hb;split at hb<;>first|(cases hb;done)|exact .nilf
 | .nili,v,hb=>by unfold jY at hb;split at hb<;>first|(cases hb;done)|exact .nili
 | .nilm,v,hb=>by unfold jY at hb;split at hb<;>first|(cases hb;done)|exact .nilm
 | .agg cs',v,hb=>by
  unfold jY at hb;split at hb<;>first|(cases hb;done)|skip
  exact .agg _ _ (yb cs' _ hb)
 | .tup cs',v,hb=>by
  unfold jY at hb;split at hb<;>first|(cases hb;done)|skip
  exact .tup _ _ (yb cs' _ hb)
 | .fz n cs',v,hb=>by
  unfold jY at hb;split at hb<;>first|(cases hb;done)|skip
  ·simp only[Bool.and_eq_true] at hb;obtain rfl:=Nat.eq_of_beq_eq_true hb.1;have:cs'=[]:=by simpa using hb.2
   rw[this];exact .nilz
  ·simp only[Bool.and_eq_true] at hb;obtain⟨⟨⟨h1,h2⟩,h3⟩,h4⟩:=hb;obtain rfl:=Nat.eq_of_beq_eq_true h1;split at h4<;>first|(cases h4;done)|skip
   rename_i hg;simp only[Bool.and_eq_true] at h4;refine .sl _ _ _ _ _ _ _ _ cs'.length _ hg (Nat.le_of_ble_eq_true h2) (Nat.le_of_ble_eq_true h4.1) (fun h0=>?_) (yb cs' _ h4.2)
   subst h0;cases h3
  ·simp only[Bool.and_eq_true] at hb;obtain⟨⟨h1,h2⟩,h4⟩:=hb;obtain rfl:=Nat.eq_of_beq_eq_true h1;split at h4<;>first|(cases h4;done)|skip
   rename_i hg;refine .own _ _ _ _ _ _ hg (fun h0=>?_) (yb cs' _ h4)
   subst h0;cases h2
 | .undef,v,hb=>by unfold jY at hb;cases hb
 | .ptr _ _,v,hb=>by unfold jY at hb;cases hb
 | .sl _ _ _ _ _,v,hb=>by unfold jY at hb;cases hb
 | .fn _ _ _,v,hb=>by unfold jY at hb;cases hb
 | .ifc _ _,v,hb=>by unfold jY at hb;cases hb
 | .map _,v,hb=>by unfold jY at hb;cases hb
 | .sym _,v,hb=>by unfold jY at hb;cases hb
 | .pf _ _,v,hb=>by unfold jY at hb;cases hb
 | .e0,v,hb=>by unfold jY at hb;cases hb
 | .own _ _,v,hb=>by unfold jY at hb;cases hb
 | .nz,v,hb=>by unfold jY at hb;cases hb
 | .yl _,v,hb=>by unfold jY at hb;cases hb
 | .lp _,v,hb=>by unfold jY at hb;cases hb
theorem yb{h:Hp}:∀(vs' vs:List AV),Zi h vs' vs=true->Frzs h vs vs'
 | [],vs,hb=>by
  unfold Zi at hb;have:vs=[]:=by simpa using hb
  rw[this];exact .nil
 | v'::vs',vs,hb=>by
  unfold Zi at hb;split at hb<;>first|(cases hb;done)|skip
  simp only[Bool.and_eq_true] at hb;exact .cons _ _ _ _ (qdS v' _ hb.1) (yb vs' _ hb.2)
end
noncomputable def tt(b:Bool):Prop:=Bool.rec (motive:=fun _=>Prop) False True b
omit [Cur] in
theorem qoL{b:Bool}(h:tt b):b=true:=by cases b with|true=>rfl|false=>exact h.elim
theorem qe.runF(he:Zd P env)(hh:qam P ho)(m:Nat){f:Nat}{vs:List AV}{v:AV}(hcl:qR vs=true)(hk:yW env ho (fv env ho m) f vs H0 (fun v' h'=>tt (jY h' v v'))=True):qe P f vs v :=
 qe.of_SC hcl ((SC.run he hh m (of_eq_true hk)).mono fun v' h' hv=>qdS _ _ (qoL hv))
end Go.Kc
end
section
namespace Go.Kc
variable [Cur]
variable {P:Program}
noncomputable def okB(P:Program):Tr IFn->Nat->Nat->Bool:=fun t=>Tr.rec (motive:=fun _=>Nat->Nat->Bool) (fun _ _=>true) (fun v _ _ il ir a b=>(match v with|none=>true|some i=>qv P b i)&&(il (2*a) (a+b)&&ir (2*a) (2*a+b))) t
omit [Cur] in
theorem qaP:∀(t:Tr IFn) (a b:Nat),okB P t a b=true->OkT P a b t
 | .leaf,a,b,_=>.leaf a b
 | .node none l r,a,b,h=>by
  have h':(true&&(okB P l (2*a) (a+b)&&okB P r (2*a) (2*a+b)))=true:=h;simp only[Bool.and_eq_true] at h';exact .no a b (qaP l _ _ h'.2.1) (qaP r _ _ h'.2.2)
 | .node (some i) l r,a,b,h=>by
  have h':(qv P b i&&(okB P l (2*a) (a+b)&&okB P r (2*a) (2*a+b)))=true:=h;simp only[Bool.and_eq_true] at h';exact .fn a b h'.1 (qaP l _ _ h'.2.1) (qaP r _ _ h'.2.2)
omit [Cur] in
theorem qoZ{t:Tr IFn}(h:okB P t 1 0=true):Zd P t:=(qaP t 1 0 h).envOk
def Tr.o(l r:Tr IFn):Tr IFn:=.node none l r
def Tr.f(i:IFn):Tr IFn:=.node (some i) .leaf .leaf
def Tr.g(i:IFn)(l r:Tr IFn):Tr IFn:=.node (some i) l r

end Go.Kc
end
section
namespace Go.Kc
variable [Cur]
variable {P:Program} {n:Nat} {h:Hp}
end Go.Kc
end
section
namespace Go.Kc
variable [Cur]
variable {P:Program} {h:Hp}
inductive Gvs (h:Hp):List AV->List AV->Prop where
 | nil:Gvs h [] []
 | keep (v:AV) (vs vs':List AV) (h1:Gvs h vs vs'):Gvs h (v::vs) (v::vs')
 | fz (v v':AV) (vs vs':List AV) (hf:Frz h v v') (h1:Gvs h vs vs'):Gvs h (v::vs) (v'::vs')
 | fn (f:Nat) (a c c':List AV) (vs vs':List AV) (hc:Gvs h c c') (h1:Gvs h vs vs'):Gvs h (.fn f a c::vs) (.fn f a c'::vs')
theorem Gvs.ok{ρ:Ren}{B:Nat->Prop}{w:World}(hle:ρ.le ⟨ρ.loc,xV ρ h w,ρ.n⟩)(r:Rel σ0 ρ B h w):∀{vs vs':List AV} {xs:List Value},Gvs h vs vs'->VRs σ0 ρ vs xs->VRs σ0 ⟨ρ.loc,xV ρ h w,ρ.n⟩ vs' xs
 | _,_,_,.nil,hv=>by cases hv;exact .nil
 | _,_,_,.keep _ _ _ h1,hv=>by
  cases hv with
  | cons _ _ _ _ a1 a2=>exact .cons _ _ _ _ (a1.mono hle) (Gvs.ok hle r h1 a2)
 | _,_,_,.fz _ _ _ _ hf h1,hv=>by
  cases hv with
  | cons _ _ _ _ a1 a2=>exact .cons _ _ _ _ (CR.vr (ρ:=⟨ρ.loc,xV ρ h w,ρ.n⟩) (hf.ok r a1)) (Gvs.ok hle r h1 a2)
 | _,_,_,.fn f a c c' _ _ hc h1,hv=>by
  cases hv with
  | cons _ _ _ _ a1 a2 =>
   obtain⟨a',c'',q1,q2,q3⟩:=a1.un_fn;subst q3;exact .cons _ _ _ _ (.fn _ _ _ _ _ (q1.mono hle) (Gvs.ok hle r hc q2)) (Gvs.ok hle r h1 a2)
theorem SC.give{f:Nat}{vs vs':List AV}{k:AV->Hp->Prop}(DB:List (Nat×Blk))(hg:∀p ∈ DB,h.tr.get p.1=some p.2∧h.fl<=p.1)(hf:Gvs ⟨h.sz,h.fl,trP DB⟩ vs vs')(hk:SC P f vs' (Qf h DB) k):SC P f vs h k:=by
 refine⟨hk.1,fun ρ B w args r ha=>?_⟩
 have r0:Rel σ0 ρ B ⟨h.sz,h.fl,trP DB⟩ w:=r.sub rfl rfl (fun b x hx _=>(hg _ (qb4 hx)).1)
 have le:ρ.le ⟨ρ.loc,xV ρ ⟨h.sz,h.fl,trP DB⟩ w,ρ.n⟩:=⟨fun _ _ h=>h,fun _ _ h=>jZ h,Nat.le_refl _⟩
 have hcr:=hf.ok le r0 ha
 have fnew:∀kk a,xV ρ ⟨h.sz,h.fl,trP DB⟩ w kk=some a->ρ.frz kk=some a∨((∃ty fz,w.heap[kk]?=some (.cells a ty fz))∧∃b L e af cs,b ∈ DB.map Prod.fst∧ρ b=some L∧h.tr.get b=some (.cells e true af cs)∧L.blk=kk∧h.fl<=b):=by
  intro kk a hkk;rcases Qd hkk with h1|⟨h1,b,L,e,af,cs,h2,h3,h4⟩
  ·exact .inl h1
  ·have hm:=qb4 h3;exact .inr ⟨h1,b,L,e,af,cs,List.mem_map_of_mem (f:=Prod.fst) hm,h2,(hg _ hm).1,h4,(hg _ hm).2⟩
 have jc:∀b x,(Qf h DB).tr.get b=some x->x≠.dead->b ∉ DB.map Prod.fst∧h.tr.get b=some x:=by
  intro b x hx hd;rw[qaI] at hx;split at hx
  ·cases hx;exact absurd rfl hd
  ·exact⟨by assumption,hx⟩
 have r1:Rel σ0 ⟨ρ.loc,xV ρ ⟨h.sz,h.fl,trP DB⟩ w,ρ.n⟩ B (Qf h DB) w:=by
  have rs:Rel σ0 ρ B (Qf h DB) w:=r.sub qbR qbQ (fun b x hx hd=>(jc b x hx hd).2)
  refine⟨rs.dom,fun b L e wf af cs hb hx=>?_,fun b L es hb hx=>?_,rs.excl,rs.exclm,rs.app,rs.flr,rs.base,fun kk arr hkk=>?_,rs.dn⟩
  ·obtain⟨q1,c,ty,fz,q2,q3,q4,q5,q6⟩:=rs.cells b L e wf af cs hb hx;exact⟨q1,c,ty,fz,q2,q3,q4,fun j v hv=>let ⟨v',k1,k2⟩:=q5 j v hv;⟨v',k1,k2.mono le⟩,q6⟩
  ·obtain⟨q1,o,q2,q3⟩:=rs.maps b L es hb hx;exact⟨q1,o,q2,q3.mono le⟩
  ·rcases fnew kk arr hkk with h1|⟨h1,b,L,e,af,cs,h2,h3,h4,h5,_⟩
   ·exact rs.frz kk arr h1
   ·refine⟨r0.frzRow hkk,fun b' L' x hb' hx hd he=>?_⟩
    obtain⟨g1,g2⟩:=jc b' x hx hd;have:=r.excl b L e af cs h3 h4 b' L' x hb' g2 hd (by rw[he,h5]);subst this;exact g1 h2
 have k0:Kept ρ B h w ⟨ρ.loc,xV ρ ⟨h.sz,h.fl,trP DB⟩ w,ρ.n⟩ (Qf h DB) w:=by
  refine⟨fun _ _=>rfl,by rw[qbR];exact Nat.le_refl _,qbQ,fun b hb _=>?_,fun _ _=>rfl,Nat.le_refl _,⟨rfl,rfl⟩,fun k a hk=>jZ hk,fun k a hk=>?_,Nat.le_refl _⟩
  ·rw[qaI,if_neg];intro hm;obtain⟨p,hp1,hp2⟩:=List.mem_map.1 hm;have:=(hg p hp1).2;omega
  ·rcases fnew k a hk with h2|⟨_,b,L,_,_,_,_,h3,_,h5,h6⟩
   ·exact .inl h2
   ·right;rw[← h5];exact r.flr b L h3 h6
 refine wP.mono (hk.2 _ B w args r1 hcr) ?_;rintro e w' ⟨v0,v',h',ρ',he,g1,g2,g3,g4⟩;exact⟨v0,v',h',ρ',he,g1,g2,g3,k0.trans g4⟩
theorem PC.give{f:Nat}{vs vs':List AV}{k:AV->Hp->Prop}(DB:List (Nat×Blk))(hg:∀p ∈ DB,h.tr.get p.1=some p.2∧h.fl<=p.1)(hf:Gvs ⟨h.sz,h.fl,trP DB⟩ vs vs')(hk:PC P f vs' (Qf h DB) k):PC P f vs h k:=by
 obtain⟨v,h',h1,h2⟩:=hk;exact⟨v,h',fun k' hk'=>SC.give DB hg hf (h1 k' hk'),h2⟩
theorem Upd.pc{f:Nat}{vs:List AV}{bs bs2:List Blk}{v:AV}{k:AV->Hp->Prop}(at':List Nat)(hu:Upd P f vs bs v bs2)(l:Lent h at' bs)(hk:k (rnv (gAt at' h.sz) v) (wA h at' bs2)):PC P f (ju (gAt at' h.sz) vs) h k :=
 ⟨_,_,fun _ h'=>hu.sc at' l h',hk⟩
end Go.Kc
end
section
namespace Go.Kc
variable [Cur]
variable {P:Program} {h:Hp} {t:Tr AV}
theorem SL.loopd{n:Nat}{α:Type}{x:ICode}{Q:X->Tr AV->Hp->Prop}(T:α->List (Nat×AV))(B:α->List Blk)(I:α->Prop)(μ:α->Nat)(a0:α)(src:List Nat)
  (hT:TWs t (rl src h.sz) (B a0).length (T a0)) (hB:BWs h (rl src h.sz) (B a0).length src (B a0)) (hI:(List.map Prod.fst (List.filter (fun p=>decide (p.fst<h.sz)&&jc p.snd) (src.zip (B a0)))).Nodup) (hfl:h.fl=0) (hn:n<=(B a0).length) (hlow:∀b,b<n->rl src h.sz b=b) (h0:I a0)
  (step:∀a,I a->∀G:Tr AV->Hp->Prop,(∀b,I b->μ b<μ a->∀t' h',Wk n t' h' (mkT (T b)) (mkH 0 (B b))->G t' h')->
   V P n x (fun e t h=>onX e (G t h) (fun id=>Q (.exit id) t h) (Q .ret t h)) (mkT (T a)) (mkH 0 (B a))):SL P n x Q t h:=by
 have main:∀m a,μ a=m->I a->SL P n x Q (mkT (T a)) (mkH 0 (B a)):=by
  intro m
  induction m using Nat.strongRecOn with
  | ind m ih =>
   intro a ha hi;exact jv (step a hi (fun t h=>SL P n x Q t h) fun b hb hlt t' h' hw=>SL.weak hw (ih (μ b) (ha ▸ hlt) b rfl hb))
 exact SL.weak (Wk.mkd (T a0) (B a0) src hT hB hI hfl hn hlow) (main _ a0 rfl h0)
def qc9(m:Nat)(v:AV)(bs2:List Blk)(v':AV)(h':Hp):Prop:=h'.fl=0->∃src:List Nat,NV (rl src h'.sz) bs2.length v' v∧BWs h' (rl src h'.sz) bs2.length src bs2∧(List.map Prod.fst (List.filter (fun p=>decide (p.fst<h'.sz)&&jc p.snd) (src.zip bs2))).Nodup∧∀b,b<m->rl src h'.sz b=b
theorem qc9.w{m:Nat}{v:AV}{bs2:List Blk}{v':AV}{h':Hp}(hz:qc9 m v bs2 v' h')(hle:m<=bs2.length):qh0 m v bs2 v' h':=by
 intro hfl;obtain⟨src,s1,s2,s3,s4⟩:=hz hfl;exact Wk.mkd [(0,v)] bs2 src ⟨⟨v',by simp[mkT,Tr.get_set],s1⟩,trivial⟩ s2 s3 hfl hle s4
theorem Upd.mkd{f:Nat}{i:IFn}{vs:List AV}{v:AV}{bs bs2:List Blk}(hc:qv P f i=true)(hb:x5 bs.length vs=true)(hl:bs.length<=bs2.length)(hV:V P bs.length i.body (js i.res (qc9 bs.length v bs2)) (yT vs 0 .leaf) (mkH 0 bs)):Upd P f vs bs v bs2 :=
 ⟨hb,hl,(SC.mk hc (qJ hV)).mono fun _ _ hz=>hz.w hl⟩
end Go.Kc
end
section
namespace Go.Kc
variable [Cur] [NoOld]

variable {P:Program} {H:Type} {enc:TypeId×Value->H} {w:World} {t e:TypeId} {α:Type}
end Go.Kc
end
section
namespace Go.Kc
variable [Cur]
variable {P:Program}

end Go.Kc
end
section
namespace Go.Kc
variable [Cur]
end Go.Kc
end
section
namespace Go.Kc
variable [Cur]
variable {P:Program} {h:Hp}
end Go.Kc
end
section
namespace Go.Kc
abbrev Cur.since (C:Cur) (φ:Nat->Option (Array Value)):Cur:=⟨C.ok,fun k=>φ k≠none,fun k=>φ k≠none,C.st⟩
mutual
def plA:AV->Bool
 | .fz _ cs=>nou cs&&yo cs
 | .pf cs _=>nou cs&&yo cs
 | .fn _ a c=>yo a&&yo c
 | .ifc _ v=>plA v
 | .agg l=>yo l
 | .tup l=>yo l
 | _=>true
def yo:List AV->Bool
 | []=>true
 | v::vs=>plA v&&yo vs
end
section
variable {C0:Cur} (c:Unit->Cur) {σ:Nat->Value} {φ:Nat->Option (Array Value)} (hro:∀k a,φ k=some a->(c ()).ro k)
include hro
mutual
theorem CR.to:∀{a:AV} {v:Value},@CR C0 σ φ a v->plA a=true->@CR (c ()) σ φ a v
 | _,_,.undef v,_=>by letI:=c ();exact .undef v
 | _,_,.b x,_=>by letI:=c ();exact .b x
 | _,_,.i k n,_=>by letI:=c ();exact .i k n
 | _,_,.s x,_=>by letI:=c ();exact .s x
 | _,_,.nilp,_=>by letI:=c ();exact .nilp
 | _,_,.nils,_=>by letI:=c ();exact .nils
 | _,_,.nilf,_=>by letI:=c ();exact .nilf
 | _,_,.fn f first cap first' cap' h1 h2,h=>by
  simp only[plA,Bool.and_eq_true] at h;have k1:=CRs.to h1 h.1;have k2:=CRs.to h2 h.2
  letI:=c ();exact .fn f first cap first' cap' k1 k2
 | _,_,.nili,_=>by letI:=c ();exact .nili
 | _,_,.ifc t v v' h1,h=>by have k1:=CR.to h1 h;letI:=c ();exact .ifc t v v' k1
 | _,_,.agg cs cs' h1,h=>by have k1:=CRs.to h1 h;letI:=c ();exact .agg cs cs' k1
 | _,_,.tup cs cs' h1,h=>by have k1:=CRs.to h1 h;letI:=c ();exact .tup cs cs' k1
 | _,_,.nilm,_=>by letI:=c ();exact .nilm
 | _,_,.sym j,_=>by letI:=c ();exact .sym j
 | _,_,.fz n off c' cs k arr hn h1 hs _,h=>by
  simp only[plA,Bool.and_eq_true] at h;have k1:=CRs.to hs h.2
  letI:=c ();exact .fz n off c' cs k arr hn h1 k1 ⟨fun _=>h.1,.inl (hro _ _ h1)⟩
 | _,_,.fz0 a,_=>by letI:=c ();exact .fz0 a
 | _,_,.pf off base cs k arr h1 hs _,h=>by
  simp only[plA,Bool.and_eq_true] at h;have k1:=CRs.to hs h.2
  letI:=c ();exact .pf off base cs k arr h1 k1 fun _=>h.1
 | _,_,.e0 a,_=>by letI:=c ();exact .e0 a
 | _,_,.nz a c',_=>by letI:=c ();exact .nz a c'
theorem CRs.to:∀{a:List AV} {v:List Value},@CRs C0 σ φ a v->yo a=true->@CRs (c ()) σ φ a v
 | _,_,.nil,_=>by letI:=c ();exact .nil
 | _,_,.cons v vs v' vs' h1 hs,h=>by
  simp only[yo,Bool.and_eq_true] at h;have k1:=CR.to h1 h.1;have k2:=CRs.to hs h.2
  letI:=c ();exact .cons v vs v' vs' k1 k2
end
end
open Classical in
noncomputable def yI(n m:Nat)(φ:Nat->Option (Array Value)):Value->AV
 | .int q x=>.i q x
 | .slice _ 0 0=>.e0
 | .slice (some ⟨k,o,none⟩) l c=>if n<=k∧k<n+m then .sl (k-n) o l c false else if l=0∧φ k≠none then .fz 0 [] else .undef
 | _=>.undef
theorem qh1{n m:Nat}{φ:Nat->Option (Array Value)}{k o l c:Nat}(h:¬(l=0∧c=0)):yI n m φ (.slice (some ⟨k,o,none⟩) l c)=if n<=k∧k<n+m then .sl (k-n) o l c false else if l=0∧φ k≠none then .fz 0 [] else .undef:=by
 rcases l with _|l
 ·rcases c with _|c
  ·exact absurd ⟨rfl,rfl⟩ h
  ·rfl
 ·rfl
def qgq(arr:Array Value)(fz:Nat×Nat):Prop:=∀j,j<arr.size->¬(fz.1<=j∧j<fz.2)
open Classical in
noncomputable def thB(n m:Nat)(φ:Nat->Option (Array Value))(w:World)(b:Nat):Blk:=match w.heap[n+b]? with
 | some (.cells arr _ fz)=>if qgq arr fz then .cells 4 true false (arr.toList.map (yI n m φ)) else .dead
 | _=>.dead
noncomputable def ws(n m:Nat)(φ:Nat->Option (Array Value))(w:World):List Blk:=(List.range m).map (thB n m φ w)
def thS(w:World)(k:Nat):Nat:=match w.heap[k]? with
 | some (.cells arr _ _)=>arr.size
 | _=>0
section
variable [Cur]
def thR(ρ:Ren)(n m:Nat)(w:World):Ren:=⟨fun b=>if b<m then some ⟨n+b,0,thS w (n+b),4⟩ else none,ρ.frz,m⟩
theorem qdI [NoOld]{ρ:Ren}{n m:Nat}{w:World}:∀x:Value,VR σ0 (thR ρ n m w) (yI n m ρ.frz.φ x) x:=by
 intro x;unfold yI;split
 ·exact .i _ _
 ·exact .e0 _
 ·rename_i k o l c _;split
  ·rename_i h;have:=VR.sl (σ:=σ0) (ρ:=thR ρ n m w) (k-n) o l c c false ⟨n+(k-n),0,thS w (n+(k-n)),4⟩ (by simp only[thR];rw[if_pos (by omega)]) (.inl rfl)
   simp only[Nat.zero_add] at this;rwa [show n+(k-n)=k from by omega] at this
  ·split
   ·rename_i h;obtain⟨rfl,h⟩:=h;cases hh:ρ.frz.φ k with
    | none=>exact absurd hh h
    | some arr=>exact .fz 0 o c [] k arr (Nat.zero_le _) hh (by simp;exact .nil) ⟨fun _=>rfl,.inl (NoOld.ro k)⟩
   ·exact .undef _
 ·exact .undef _
theorem yH{n m:Nat}{φ:Nat->Option (Array Value)}{w:World}{b:Nat}{x:Blk}(h:(ws n m φ w)[b]?=some x):b<m∧x=thB n m φ w b:=by
 unfold ws at h;rw[List.getElem?_map] at h
 by_cases hb:b<m
 ·rw[List.getElem?_range hb] at h;exact⟨hb,(Option.some.inj h).symm⟩
 ·rw[List.getElem?_eq_none (by simp;omega)] at h;cases h
theorem qbt{n m:Nat}{φ:Nat->Option (Array Value)}{w:World}{b e:Nat}{wf af:Bool}{cs:List AV}(h:thB n m φ w b = .cells e wf af cs):∃arr ty fz,w.heap[n+b]?=some (.cells arr ty fz)∧qgq arr fz∧e=4∧wf=true∧af=false∧cs=arr.toList.map (yI n m φ):=by
 unfold thB at h;split at h
 ·rename_i arr ty fz hh;split at h
  ·rename_i hf;cases h;exact⟨arr,ty,fz,hh,hf,rfl,rfl,rfl,rfl⟩
  ·cases h
 ·cases h
theorem qeb{n m:Nat}{φ:Nat->Option (Array Value)}{w:World}{b:Nat}{es:List (AV×AV)}(h:thB n m φ w b = .map es):False:=by
 unfold thB at h;split at h
 ·split at h<;>cases h
 ·cases h
theorem Rel.th [NoOld]{ρ:Ren}{B:Nat->Prop}{h:Hp}{w w':World}{m:Nat}(r:Rel σ0 ρ B h w)(hm:w'.heap.size=w.heap.size+m)(hp:∀k,k<w.heap.size->w'.heap[k]?=w.heap[k]?) :
  Rel σ0 (thR ρ w.heap.size m w') (low w.heap.size) (mkH 0 (ws w.heap.size m ρ.frz.φ w')) w':=by
 have loc:∀b L,(thR ρ w.heap.size m w') b=some L->b<m∧L=⟨w.heap.size+b,0,thS w' (w.heap.size+b),4⟩:=fun b L hb=>by
  simp only[thR] at hb;split at hb
  ·cases hb;exact⟨by assumption,rfl⟩
  ·cases hb
 have hsz:(mkH 0 (ws w.heap.size m ρ.frz.φ w')).sz=m:=by simp[qgX,ws]
 have frk:∀k arr,ρ.frz k=some arr->k<w.heap.size:=fun k arr hk=>by
  obtain⟨ty,fz,h1,_⟩:=(r.frz k arr hk).1;exact (Array.getElem?_eq_some_iff.1 h1).1
 refine⟨fun b L hb=>by rw[hsz];exact (loc b L hb).1,?_,?_,?_,?_,?_,?_,fun k hk=>by have:k<w.heap.size:=hk;omega,?_,⟨by rw[hsz];exact Nat.le_refl m,fun b L hb=>by obtain⟨h1,rfl⟩:=loc b L hb;show w.heap.size+b<_;omega⟩⟩
 ·intro b L e wf af cs hb hg;obtain⟨h1,rfl⟩:=loc b L hb;rw[xp] at hg;obtain⟨_,hx⟩:=yH hg;obtain⟨arr,ty,fz,h2,h3,rfl,rfl,rfl,rfl⟩:=qbt hx.symm;have hs:thS w' (w.heap.size+b)=arr.size:=by unfold thS;rw[h2]
  refine⟨rfl,arr,ty,fz,h2,hs.symm,by simp[hs],fun j v hv=>?_,fun _ j hj=>?_⟩
  ·rw[List.getElem?_map,Array.getElem?_toList] at hv;obtain⟨x,hx,rfl⟩:=Option.map_eq_some_iff.1 hv;exact⟨x,by simpa using hx,qdI x⟩
  ·rcases hj with hj|⟨hj,_⟩
   ·exact h3 j (by rw[← hs];exact hj)
   ·cases hj
 ·intro b L es hb hg;rw[xp] at hg;exact (qeb (yH hg).2.symm).elim
 ·intro b L e af cs hb _ b' L' x hb' _ _ he;obtain⟨_,rfl⟩:=loc b L hb;obtain⟨_,rfl⟩:=loc b' L' hb';simp only at he;omega
 ·intro b L es hb hg;rw[xp] at hg;exact (qeb (yH hg).2.symm).elim
 ·intro b L e wf cs hb hg;rw[xp] at hg;obtain⟨_,_,_,_,_,_,_,h,_⟩:=qbt (yH hg).2.symm;cases h
 ·intro b L hb _ hk;obtain⟨_,rfl⟩:=loc b L hb;have:w.heap.size+b<w.heap.size:=hk;omega
 ·intro k arr hk;have hk':ρ.frz k=some arr:=hk;refine⟨(r.frz k arr hk').1.of (hp k (frk k arr hk')),fun b L x hb _ _ he=>?_⟩
  obtain⟨_,rfl⟩:=loc b L hb;have:=frk k arr hk';simp only at he;omega
def qb8(n m:Nat)(φ0:Nat->Option (Array Value))(w:World)(C:Cur)(φ:Nat->Option (Array Value)):Prop :=
 ∀k off arr cs,φ k=some arr->@qiW C k off arr cs->(φ0 k≠none∧k<n∧nou cs=true)∨(n<=k∧k<n+m∧off<=arr.size∧(ws n m φ0 w)[k-n]?=some (.cells 4 true false (arr.toList.map (yI n m φ0))))
end
section
variable {C0:Cur} {ρ:Ren} {B:Nat->Prop} {h:Hp} {w:World}
def qhC(ρ:@Ren C0):@Ren (Cur.since C0 ρ.frz):=@Ren.mk (Cur.since C0 ρ.frz) (fun _=>none) (@Fz.mk (Cur.since C0 ρ.frz) ρ.frz.φ ρ.frz.ok (fun _ h=>h)) 0
theorem Rel.sinceR(r:Rel σ0 ρ B h w):@Rel (Cur.since C0 ρ.frz) σ0 (qhC ρ) (low w.heap.size) H0 w :=
 @Rel.mk (Cur.since C0 ρ.frz) σ0 (qhC ρ) (low w.heap.size) H0 w (fun _ _ hb=>by cases hb) (fun _ _ _ _ _ _ hb=>by cases hb) (fun _ _ _ hb=>by cases hb) (fun _ _ _ _ _ hb=>by cases hb) (fun _ _ _ hb=>by cases hb) (fun _ _ _ _ _ hb=>by cases hb) (fun _ _ hb=>by cases hb) (fun _ h=>h)
  (fun k arr hk=>⟨by
   have hk':ρ.frz k=some arr:=hk;obtain⟨ty,fz,h1,_⟩:=(r.frz k arr hk').1;exact⟨ty,fz,h1,.inl (by show ρ.frz.φ k≠none;rw[show ρ.frz.φ k=some arr from hk'];simp)⟩,fun _ _ _ hb=>by cases hb⟩) ⟨Nat.le_refl _,fun _ _ hb=>by cases hb⟩
theorem qgr(r:Rel σ0 ρ B h w){w':World}{ρ':@Ren (Cur.since C0 ρ.frz)}(g3:@Rel (Cur.since C0 ρ.frz) σ0 ρ' (low w.heap.size) H0 w')(g4:@Kept (Cur.since C0 ρ.frz) (qhC ρ) (low w.heap.size) H0 w ρ' H0 w') :
  qb8 w.heap.size (w'.heap.size-w.heap.size) ρ.frz.φ w' (Cur.since C0 ρ.frz) (@Fz.φ (Cur.since C0 ρ.frz) (@Ren.frz (Cur.since C0 ρ.frz) ρ')):=by
 intro k off arr cs h1 h2;obtain⟨ty,fz,q1,q2⟩:=(@Rel.frz (Cur.since C0 ρ.frz) _ _ _ _ _ g3 k arr h1).1;have hlt:k<w'.heap.size:=(Array.getElem?_eq_some_iff.1 q1).1
 by_cases hno:ρ.frz.φ k=none
 ·have hge:w.heap.size<=k:=by
   rcases @Kept.fnew (Cur.since C0 ρ.frz) _ _ _ _ _ _ _ g4 k arr h1 with hh|hh
   ·have hh':ρ.frz.φ k=some arr:=hh;rw[hno] at hh';cases hh'
   ·exact Nat.not_lt.1 hh
  refine .inr ⟨hge,by omega,h2.2.resolve_left fun hh=>hh hno,?_⟩
  have hfree:qgq arr fz:=q2.resolve_left fun hh=>hh hno
  unfold ws;rw[List.getElem?_map,List.getElem?_range (by omega),Option.map_some]
  congr 1
  unfold thB;rw[show w.heap.size+(k-w.heap.size)=k from by omega,q1]
  simp only[];rw[if_pos hfree]
 ·refine .inl ⟨hno,?_,h2.1 hno⟩;cases hh:ρ.frz.φ k with
  | none=>exact absurd hh hno
  | some a =>
   obtain⟨ty,fz,h3,_⟩:=(r.frz k a hh).1;exact (Array.getElem?_eq_some_iff.1 h3).1
theorem qe.fresh [NoOld]{P:Program}{f:Nat}{vs:List AV}{v:AV}(hcl:qR vs=true)(hpl:yo vs=true)(hp:∀C:Cur,@qe C P f vs v){h:Hp}{k:AV->Hp->Prop}
  (hk:∀(n m:Nat) (φ0:Nat->Option (Array Value)) (w:World) (ρ2:Ren),(∀x,VR σ0 ρ2 (yI n m φ0 x) x)->∀(c:Unit->Cur) (ρ':@Ren (c ())) (v':Value),@VR (c ()) σ0 ρ' v v'->qb8 n m φ0 w (c ()) (@Fz.φ (c ()) (@Ren.frz (c ()) ρ'))->∃a,VR σ0 ρ2 a v'∧k (shv h.sz a) (xd h ((ws n m φ0 w).map (shb h.sz)))):SC P f vs h k:=by
 refine⟨(hp C0 H0 (fun _ _=>True) trivial).1,fun ρ B w args r ha=>?_⟩
 have hcr:=CRs.to (fun _=>Cur.since C0 ρ.frz) (fun k a hk=>by show ρ.frz.φ k≠none;rw[hk];simp) (ha.crs hcl) hpl
 refine wP.mono ((hp (Cur.since C0 ρ.frz) H0 (fun v' h'=>v'=v∧h'=H0) ⟨rfl,rfl⟩).2 (qhC ρ) (low w.heap.size) w args r.sinceR (@CRs.vr (Cur.since C0 ρ.frz) σ0 (qhC ρ) _ _ hcr)) ?_
 rintro e w' ⟨v0,v',h',ρ',rfl,⟨rfl,rfl⟩,g2,g3,g4⟩;have hw:=@Kept.wle (Cur.since C0 ρ.frz) _ _ _ _ _ _ _ g4;have pres:∀k,k<w.heap.size->w'.heap[k]?=w.heap[k]?:=@Kept.pres (Cur.since C0 ρ.frz) _ _ _ _ _ _ _ g4;obtain⟨a,ha1,ha2⟩:=hk w.heap.size (w'.heap.size-w.heap.size) ρ.frz.φ w' (thR ρ w.heap.size (w'.heap.size-w.heap.size) w') qdI (fun _=>Cur.since C0 ρ.frz) ρ' v' g2 (qgr r g3 g4)
 have r2:=r.th (m:=w'.heap.size-w.heap.size) (by omega) pres;refine⟨_,v',_,ρ.join (thR ρ w.heap.size (w'.heap.size-w.heap.size) w') h.sz (ws w.heap.size (w'.heap.size-w.heap.size) ρ.frz.φ w').length,rfl,ha2,ha1.sh r2.dn.1,Rel.joinH r r2 pres (by omega) (fun _ _ h=>h) (fun _ _ h=>.inl h),?_⟩
 refine⟨fun b hb=>qah hb,by rw[wo];omega,kh,fun b _ hb=>by rw[xt,if_pos hb],fun k hk=>pres k (r.base _ hk),by omega,@Kept.io (Cur.since C0 ρ.frz) _ _ _ _ _ _ _ g4,fun _ _ h=>h,fun _ _ h=>.inl h,?_⟩
 exact Nat.le_trans r.dn.1 (Nat.le_add_right _ _)
end
end Go.Kc
end
section
namespace Go.Kc
variable [Cur]
variable {P:Program} {f:Nat}

def zn(q:IntKind)(p:List UInt8×Int):List AV:=[.s p.1,.i q p.2]
theorem kj{q:IntKind}(p:List UInt8×Int):(zn q p).length=2:=rfl
def kL:IFn:=⟨[.cell 0 16 true],.seq (.r [.q 0 (.alloc [.s [],.i .u64 0,.s [],.i .u64 0,.s [],.i .u64 0,.s [],.i .u64 0,.s [],.i .u64 0,.s [],.i .u64 0,.s [],.i .u64 0,.s [],.i .u64 0])]) (.seq (.r [.q 1 (.build [.s [],.i .u64 0] [(0,1,(.c (.s [116,105,109,101]))),(1,1,(.c (.i .u64 128)))]),.q 2 (.build [.s [],.i .u64 0] [(0,1,(.c (.s [109,110,116]))),(1,1,(.c (.i .u64 131072)))]),.q 3 (.build [.s [],.i .u64 0] [(0,1,(.c (.s [99,103,114,111,117,112]))),(1,1,(.c (.i .u64 33554432)))]),.q 4 (.build [.s [],.i .u64 0] [(0,1,(.c (.s [117,116,115]))),(1,1,(.c (.i .u64 67108864)))]),.q 5 (.build [.s [],.i .u64 0] [(0,1,(.c (.s [105,112,99]))),(1,1,(.c (.i .u64 134217728)))]),.q 6 (.build [.s [],.i .u64 0] [(0,1,(.c (.s [117,115,101,114]))),(1,1,(.c (.i .u64 268435456)))]),.q 7 (.build [.s [],.i .u64 0] [(0,1,(.c (.s [112,105,100]))),(1,1,(.c (.i .u64 536870912)))]),.q 8 (.build [.s [],.i .u64 0] [(0,1,(.c (.s [110,101,116]))),(1,1,(.c (.i .u64 1073741824)))]),.q 9 (.build [.s [],.i .u64 0,.s [],.i .u64 0,.s [],.i .u64 0,.s [],.i .u64 0,.s [],.i .u64 0,.s [],.i .u64 0,.s [],.i .u64 0,.s [],.i .u64 0] [(0,2,(.t 1)),(2,2,(.t 2)),(4,2,(.t 3)),(6,2,(.t 4)),(8,2,(.t 5)),(10,2,(.t 6)),(12,2,(.t 7)),(14,2,(.t 8))]),.u (.store 16 (.t 0) (.t 9))]) (.ret))⟩
def qj:List (List UInt8×Int):=[([116,105,109,101],128),([109,110,116],131072),([99,103,114,111,117,112],33554432),([117,116,115],67108864),([105,112,99],134217728),([117,115,101,114],268435456),([112,105,100],536870912),([110,101,116],1073741824)]
theorem qkE(hc:qv P f kL=true):qe P f [] (.agg (qj.flatMap (zn .u64))):=by
 refine qe.mk hc rfl ?_;simp only[kL,vI,simprocAttr];simp only[↓vS,vT,simprocAttr,qj,zn,List.flatMap_cons,List.flatMap_nil,vZ]
def vg:IFn:=⟨[.cell 0 16 true],.seq (.r [.q 0 (.alloc [.s [],.i .u32 0,.s [],.i .u32 0,.s [],.i .u32 0,.s [],.i .u32 0,.s [],.i .u32 0,.s [],.i .u32 0,.s [],.i .u32 0,.s [],.i .u32 0])]) (.seq (.r [.q 1 (.build [.s [],.i .u32 0] [(0,1,(.c (.s [65,70,95,85,78,73,88]))),(1,1,(.c (.i .u32 1)))]),.q 2 (.build [.s [],.i .u32 0] [(0,1,(.c (.s [65,70,95,73,78,69,84]))),(1,1,(.c (.i .u32 2)))]),.q 3 (.build [.s [],.i .u32 0] [(0,1,(.c (.s [65,70,95,73,78,69,84,54]))),(1,1,(.c (.i .u32 10)))]),.q 4 (.build [.s [],.i .u32 0] [(0,1,(.c (.s [65,70,95,78,69,84,76,73,78,75]))),(1,1,(.c (.i .u32 16)))]),.q 5 (.build [.s [],.i .u32 0] [(0,1,(.c (.s [65,70,95,80,65,67,75,69,84]))),(1,1,(.c (.i .u32 17)))]),.q 6 (.build [.s [],.i .u32 0] [(0,1,(.c (.s [65,70,95,66,76,85,69,84,79,79,84,72]))),(1,1,(.c (.i .u32 31)))]),.q 7 (.build [.s [],.i .u32 0] [(0,1,(.c (.s [65,70,95,65,76,71]))),(1,1,(.c (.i .u32 38)))]),.q 8 (.build [.s [],.i .u32 0] [(0,1,(.c (.s [65,70,95,86,83,79,67,75]))),(1,1,(.c (.i .u32 40)))]),.q 9 (.build [.s [],.i .u32 0,.s [],.i .u32 0,.s [],.i .u32 0,.s [],.i .u32 0,.s [],.i .u32 0,.s [],.i .u32 0,.s [],.i .u32 0,.s [],.i .u32 0] [(0,2,(.t 1)),(2,2,(.t 2)),(4,2,(.t 3)),(6,2,(.t 4)),(8,2,(.t 5)),(10,2,(.t 6)),(12,2,(.t 7)),(14,2,(.t 8))]),.u (.store 16 (.t 0) (.t 9))]) (.ret))⟩
def qF:List (List UInt8×Int):=[([65,70,95,85,78,73,88],1),([65,70,95,73,78,69,84],2),([65,70,95,73,78,69,84,54],10),([65,70,95,78,69,84,76,73,78,75],16),([65,70,95,80,65,67,75,69,84],17),([65,70,95,66,76,85,69,84,79,79,84,72],31),([65,70,95,65,76,71],38),([65,70,95,86,83,79,67,75],40)]
theorem qhV(hc:qv P f vg=true):qe P f [] (.agg (qF.flatMap (zn .u32))):=by
 refine qe.mk hc rfl ?_;simp only[vg,vI,simprocAttr];simp only[↓vS,vT,simprocAttr,qF,zn,List.flatMap_cons,List.flatMap_nil,vZ]
def kK(a:Nat):IFn:=⟨[.tmp 0],.seq (.r [.m 0 (.c (.i .u64 0))]) (.seq (.r [.m 1 (.c (.i .u64 0))]) (.seq (.seq (.r [.l 4 a [],.m 5 (.k 0)]) (.blk 0 (.loop (.seq (.r [.w 6 .lss 5 8]) (.seq (.cond (.t 6) (.skip) (.exit 0)) (.seq (.blk 1 (.seq (.r [.q 7 (.idxA 8 2 true (.t 4) (.t 5)),.q 3 (.alloc [.s [],.i .u64 0]),.u (.store 2 (.t 3) (.t 7))]) (.r [.n 8 1,.f 9 1 3,.d 10 9,.b 11 .or 8 10,.n 1 11]))) (.r [.a 12 5 1,.n 5 12]))))))) (.seq (.r [.n 13 1,.n 0 13]) (.ret))))⟩
theorem qmW{g1:Nat}(hc:qv P f (kK g1)=true)(h1:qe P g1 [] (.agg (qj.flatMap (zn .u64)))):qe P f [] (.i .u64 2114060416):=by
 refine qe.mk hc rfl ?_;simp only[kK,vI,simprocAttr];simp only[↓vS,vT,simprocAttr];refine h1.sc ?_;simp only[↓vS,vT,simprocAttr]
 iterate 8
  refine jv ?_;simp only[↓vS,vT,simprocAttr,qj,zn,List.flatMap_cons,List.flatMap_nil,Int.reduceLT,Int.reduceAdd,Int.reduceNeg,qz,(by decide:orI .u64 0 128=128),(by decide:orI .u64 128 131072=131200),(by decide:orI .u64 131200 33554432=33685632),(by decide:orI .u64 33685632 67108864=100794496),(by decide:orI .u64 100794496 134217728=235012224),(by decide:orI .u64 235012224 268435456=503447680),(by decide:orI .u64 503447680 536870912=1040318592),(by decide:orI .u64 1040318592 1073741824=2114060416)]
 refine jv ?_;simp only[↓vS,vT,simprocAttr,Int.reduceLT,vZ,and_self]
def qby(P:Program)(g esz bytes:Nat):Prop:=∀(n:Nat) (rows:List AV),rows.length=n*esz->qR rows=true->qA rows=true->n<=qd->n*bytes<=qd->Own P g [.fz n rows] (.own 0 n) [.cells esz true true rows]


end Go.Kc
end
section
namespace Go.Kc
variable [Cur]
def rI(k:IntKind)(l:List Int):List AV:=l.map (.i k)
section
variable {k:IntKind} {l m:List Int} {j:Nat}
theorem yp:(rI k l).length=l.length:=by simp[rI]
theorem qb:qR (rI k l)=true:=qcs fun _=>rfl
theorem qhu:qA (rI k l)=true:=qey fun _=>rfl
theorem zx:(rI k l)[j]?=(l[j]?).map (.i k):=by simp[rI]
theorem qdx:rI k l++rI k m=rI k (l++m):=by simp[rI]
theorem Q8:rI k []=[]:=rfl
end
def rS(l:List (List UInt8)):List AV:=l.map .s
section
variable {l m:List (List UInt8)} {j:Nat}
theorem qbW:qR (rS l)=true:=qcs fun _=>rfl
theorem qmK:(rS l)[j]?=(l[j]?).map .s:=by simp[rS]
end
end Go.Kc
end
section
namespace Go.Kc
variable [Cur]
variable {P:Program} {f:Nat}
def kS{α:Type}(p:α->Bool):List α->Nat->Int
 | [],_=>-1
 | x::xs,j=>if p x=true then (j:Int) else kS p xs (j+1)
theorem qbe{α:Type}(p:α->Bool):∀(l:List α) (j:Nat),(kS p l j = -1∧l.find? p=none)∨∃i x,kS p l j=((j+i:Nat):Int)∧l[i]?=some x∧p x=true∧l.find? p=some x∧∀k y,k<i->l[k]?=some y->p y=false
 | [],j=>.inl ⟨rfl,rfl⟩
 | x::xs,j=>by
  by_cases h:p x=true
  ·refine .inr ⟨0,x,by simp[kS,h],rfl,h,by simp[h],fun k y hk=>by omega⟩
  ·rcases qbe p xs (j+1) with⟨h1,h2⟩|⟨i,y,h1,h2,h3,h4,h5⟩
   ·exact .inl ⟨by simp[kS,h,h1],by simp[h,h2]⟩
   ·refine .inr ⟨i+1,y,?_,by simpa using h2,h3,by simp[h,h4],?_⟩
    ·rw[kS,if_neg h,h1];omega
    ·intro k z hk hz;cases k with
     | zero=>simp at hz;subst hz;simpa using h
     | succ k=>exact h5 k z (by omega) (by simpa using hz)
def qbz(m:Nat)(P:Program)(f:Nat):Prop:=∀{α:Type} (enc:α->List AV) (p:α->Bool) (g:Nat) (a c:List AV) (l:List α),(∀x,(enc x).length=m)->qR a=true->qR c=true->l.length<=qd->
 (∀x ∈ l,qe P g (a++([.agg (enc x)]++c)) (.b (p x)))->qe P f [.fz l.length (l.flatMap enc),.fn g a c] (.i .i64 (kS p l 0))
def zo:IFn:=⟨[.tmp 4],.seq (.r [.m 4 (.k 0)]) (.seq (.seq (.r [.n 6 0,.e 7 6,.m 8 (.k 0)]) (.blk 0 (.loop (.seq (.r [.s 9 8 7]) (.seq (.cond (.t 9) (.skip) (.exit 0)) (.seq (.blk 1 (.seq (.r [.n 10 8,.n 5 10]) (.seq (.r [.n 11 1,.n 12 0,.n 13 5,.i 14 7 12 13,.v 15 7 14,⟨(some 16),.callV (.t 11) [.t 15],none⟩]) (.cond (.t 16) (.seq (.r [.n 17 5,.n 4 17]) (.ret)) (.skip))))) (.r [.a 18 8 1,.n 8 18]))))))) (.seq (.r [.q 4 (.mov (.c (.i .i64 (-1))))]) (.ret)))⟩
theorem qgx(hc:qv P f zo=true):qbz 7 P f:=by
 intro α enc p g a c l hlen ha hc' hl hp;refine qe.mk hc (by simp[qR,clo,ha,hc']) ?_;simp only[zo,vI,simprocAttr];simp only[↓vS,vT,simprocAttr];refine SL.loop (α:=Nat) (fun j=>[(0,.fz l.length (l.flatMap enc)),(1,.fn g a c),(7,.i .i64 l.length),(8,.i .i64 j)]) (fun _=>[]) (fun j=>j<=l.length∧kS p l 0=kS p (l.drop j) j) (fun j=>l.length-j) 0 [] ?_ ?_ ?_ rfl ?_ ?_
 ·simp[vw,qk,ha,hc']
 ·trivial
 ·simp
 ·simp
 rintro j ⟨hj,hI⟩ G ih;simp only[vI,simprocAttr]
 by_cases hlt:j<l.length
 ·have hx:l[j]?=some l[j]:=zzE hlt;have hw:IntKind.wrap .i64 ((j:Int)+1)=(j:Int)+1:=qz (by omega) (by have:=hl;simp only[qd] at this;omega)
  have he:=jh hlen hx;have hb:j*7+7<=(l.flatMap enc).length:=by rw[xG hlen];omega
  rw[List.drop_eq_getElem_cons hlt,kS] at hI;simp only[↓vS,vT,simprocAttr,hlt,hb,he,hw];refine (hp l[j] (List.getElem_mem hlt)).sc ?_
  by_cases hpx:p l[j]=true
  ·rw[if_pos hpx] at hI;simp only[↓vS,vT,simprocAttr,hpx,vZ,hI]
  ·rw[if_neg hpx] at hI;simp only[↓vS,vT,simprocAttr,hpx,hw];refine ih (j+1) ⟨by omega,hI⟩ (by omega) _ _ (Wk.mk _ _ [] ?_ ?_ ?_ rfl)
   ·simp[vw,qk,ha,hc']
   ·trivial
   ·simp
 ·simp only[↓vS,vT,simprocAttr,hlt];rw[List.drop_eq_nil_of_le (by omega)] at hI;simp[hI,kS,vZ]
def zF:IFn:=⟨[.tmp 4],.seq (.r [.m 4 (.k 0)]) (.seq (.seq (.r [.n 6 0,.e 7 6,.m 8 (.k 0)]) (.blk 0 (.loop (.seq (.r [.s 9 8 7]) (.seq (.cond (.t 9) (.skip) (.exit 0)) (.seq (.blk 1 (.seq (.r [.n 10 8,.n 5 10]) (.seq (.r [.n 11 1,.n 12 0,.n 13 5,.i 14 2 12 13,.v 15 2 14,⟨(some 16),.callV (.t 11) [.t 15],none⟩]) (.cond (.t 16) (.seq (.r [.n 17 5,.n 4 17]) (.ret)) (.skip))))) (.r [.a 18 8 1,.n 8 18]))))))) (.seq (.r [.q 4 (.mov (.c (.i .i64 (-1))))]) (.ret)))⟩
theorem qdT(hc:qv P f zF=true):qbz 2 P f:=by
 intro α enc p g a c l hlen ha hc' hl hp;refine qe.mk hc (by simp[qR,clo,ha,hc']) ?_;simp only[zF,vI,simprocAttr];simp only[↓vS,vT,simprocAttr];refine SL.loop (α:=Nat) (fun j=>[(0,.fz l.length (l.flatMap enc)),(1,.fn g a c),(7,.i .i64 l.length),(8,.i .i64 j)]) (fun _=>[]) (fun j=>j<=l.length∧kS p l 0=kS p (l.drop j) j) (fun j=>l.length-j) 0 [] ?_ ?_ ?_ rfl ?_ ?_
 ·simp[vw,qk,ha,hc']
 ·trivial
 ·simp
 ·simp
 rintro j ⟨hj,hI⟩ G ih;simp only[vI,simprocAttr]
 by_cases hlt:j<l.length
 ·have hx:l[j]?=some l[j]:=zzE hlt;have hw:IntKind.wrap .i64 ((j:Int)+1)=(j:Int)+1:=qz (by omega) (by have:=hl;simp only[qd] at this;omega)
  have he:=jh hlen hx;have hb:j*2+2<=(l.flatMap enc).length:=by rw[xG hlen];omega
  rw[List.drop_eq_getElem_cons hlt,kS] at hI;simp only[↓vS,vT,simprocAttr,hlt,hb,he,hw];refine (hp l[j] (List.getElem_mem hlt)).sc ?_
  by_cases hpx:p l[j]=true
  ·rw[if_pos hpx] at hI;simp only[↓vS,vT,simprocAttr,hpx,vZ,hI]
  ·rw[if_neg hpx] at hI;simp only[↓vS,vT,simprocAttr,hpx,hw];refine ih (j+1) ⟨by omega,hI⟩ (by omega) _ _ (Wk.mk _ _ [] ?_ ?_ ?_ rfl)
   ·simp[vw,qk,ha,hc']
   ·trivial
   ·simp
 ·simp only[↓vS,vT,simprocAttr,hlt];rw[List.drop_eq_nil_of_le (by omega)] at hI;simp[hI,kS,vZ]


def qc7:IFn:=⟨[.tmp 2],.seq (.r [.m 2 .F]) (.seq (.r [.n 3 0,.n 4 0,.b 5 .neq 3 4,.n 2 5]) (.ret))⟩

def km:List (List UInt8×Int):=[([120,56,54,45,54,52],3221225534),([120,56,54],1073741827),([120,51,50],3221225534),([97,114,109],1073741864),([97,114,109,54,52],3221225655),([114,105,115,99,118,54,52],3221225715)]
def yX:IFn:=⟨[.cell 0 12 true],.seq (.r [.q 0 (.alloc [.s [],.i .u32 0,.s [],.i .u32 0,.s [],.i .u32 0,.s [],.i .u32 0,.s [],.i .u32 0,.s [],.i .u32 0])]) (.seq (.r [.q 1 (.build [.s [],.i .u32 0] [(0,1,(.c (.s [120,56,54,45,54,52]))),(1,1,(.c (.i .u32 3221225534)))]),.q 2 (.build [.s [],.i .u32 0] [(0,1,(.c (.s [120,56,54]))),(1,1,(.c (.i .u32 1073741827)))]),.q 3 (.build [.s [],.i .u32 0] [(0,1,(.c (.s [120,51,50]))),(1,1,(.c (.i .u32 3221225534)))]),.q 4 (.build [.s [],.i .u32 0] [(0,1,(.c (.s [97,114,109]))),(1,1,(.c (.i .u32 1073741864)))]),.q 5 (.build [.s [],.i .u32 0] [(0,1,(.c (.s [97,114,109,54,52]))),(1,1,(.c (.i .u32 3221225655)))]),.q 6 (.build [.s [],.i .u32 0] [(0,1,(.c (.s [114,105,115,99,118,54,52]))),(1,1,(.c (.i .u32 3221225715)))]),.q 7 (.build [.s [],.i .u32 0,.s [],.i .u32 0,.s [],.i .u32 0,.s [],.i .u32 0,.s [],.i .u32 0,.s [],.i .u32 0] [(0,2,(.t 1)),(2,2,(.t 2)),(4,2,(.t 3)),(6,2,(.t 4)),(8,2,(.t 5)),(10,2,(.t 6))]),.u (.store 12 (.t 0) (.t 7))]) (.ret))⟩
theorem qkY(hc:qv P f yX=true):qe P f [] (.agg (km.flatMap (zn .u32))):=by
 refine qe.mk hc rfl ?_;simp only[yX,vI,simprocAttr];simp only[↓vS,vT,simprocAttr,km,zn,List.flatMap_cons,List.flatMap_nil,vZ]
end Go.Kc
end
section
namespace Go.Kc
variable [Cur]
structure GCall where
 name:List UInt8
 act:Int
def vc(c:GCall):List AV:=[.s c.name,.i .u32 c.act]
structure GNote where
 file:List UInt8
 line:Int
 err:Int
 text:List UInt8
structure Asg where
 file:List UInt8
 line:Int
 sec:List UInt8
 key:List UInt8
 val:List UInt8
def qk8(a:Asg):List AV:=[.s a.file,.i .i64 a.line,.s a.sec,.s a.key,.s a.val]
theorem yx(c:GCall):(vc c).length=2:=rfl
def rC(l:List GCall):List AV:=l.flatMap vc
section
variable {l m:List GCall} {j:Nat}
theorem qdw:(rC l).length=l.length*2:=xG yx l
theorem qc:qR (rC l)=true:=yA fun _=>rfl
theorem qoE:qA (rC l)=true:=qat fun _=>rfl
theorem qak{c:GCall}(h:l[j]?=some c):((rC l).drop (j*2)).take 2=vc c:=jh yx h
theorem kD{c:GCall}(h:l[j]?=some c){i:Nat}(hi:i<2):(rC l)[j*2+i]?=(vc c)[i]?:=jB yx h hi
theorem qmG:rC []=[]:=rfl
theorem QK(h:j<l.length):j*2+2<=(rC l).length:=by rw[qdw];omega
end
section
variable {l m:List GNote} {j:Nat}
end
structure GList where
 mode:Int
 calls:List GCall
def qG(l:GList):List AV:=[.i .u8 l.mode,.fz l.calls.length (rC l.calls)]
structure Pol where
 arches:List Int
 filter:GList
 deny:Int
 log:GList
 fams:List Int
 fmode:Int
 spaces:Int
 we:Bool
 pe:Bool
 rt:Bool
 np:Bool
def qf(p:Pol):List AV:=[.fz p.arches.length (rI .i64 p.arches),.i .u8 p.filter.mode,.fz p.filter.calls.length (rC p.filter.calls),.i .u32 p.deny,.i .u8 p.log.mode,.fz p.log.calls.length (rC p.log.calls),
 .fz p.fams.length (rI .u32 p.fams),.i .u8 p.fmode,.i .u64 p.spaces,.b p.we,.b p.pe,.b p.rt,.b p.np]
end Go.Kc
end
section
namespace Go.Kc
variable [Cur]
variable {P:Program} {f:Nat}



theorem qby.pure{g esz by':Nat}(h:qby P g esz by'){n:Nat}{rows:List AV}(hl:rows.length=n*esz)(hc:qR rows=true)(ho:qA rows=true)(h1:n<=qd)(h2:n*by'<=qd):qe P g [.fz n rows] (.fz n rows):=by
 refine (h n rows hl hc ho h1 h2).pure (by simp[qR,clo]) ?_;refine .own 0 n esz true rows rows ?_ (fun h0=>?_) (Frzs.self hc)
 ·simp[xd,Hp.push,shb,H0,Tr.get_set,jP hc]
 ·subst h0;exact List.eq_nil_of_length_eq_zero (by omega)
structure PolOk (p:Pol):Prop where
 a:p.arches.length<=1000
 f:p.fams.length<=1000
 c:p.filter.calls.length<=1000
 l:p.log.calls.length<=1000
def qdK(P:Program)(f:Nat):Prop:=∀p,PolOk p->qe P f [.agg (qf p)] (.agg (qf p))


end Go.Kc
end
section
namespace Go.Kc
variable [Cur]
def qnA(p:Pol):Prop:=p.arches.Pairwise (· < ·)∧p.fams.Pairwise (· < ·)
instance (p:Pol):Decidable (qnA p):=inferInstanceAs (Decidable (_∧_))
end Go.Kc
end
section
namespace Go.Kc
variable [Cur]
variable {P:Program} {f:Nat}
theorem qaC{h:Hp}{b:Nat}:Frz h (.sl b 0 0 0 false) (.fz 0 [])↔evB (h.tr.get b) (fun z=>xY z (fun _ w _ _=>w=true)):=by
 constructor
 ·intro hh;cases hh with
  | sl _ _ _ _ _ e af cs m cs' hb=>exact⟨_,hb,rfl⟩
 ·rintro⟨z,hz,h2⟩;cases z with
  | cells e w af ys =>
   cases h2;exact .sl b 0 0 0 false e af ys 0 [] hz (Nat.le_refl _) (Nat.zero_le _) (fun _=>rfl) .nil
  | dead=>exact h2.elim
  | map es=>exact h2.elim
theorem qmH{q:IntKind}{l:List Int}:(l=[]->rI q l=[])↔True:=iff_true_intro fun h=>by rw[h];rfl
theorem qpC{l:List GCall}:(l=[]->rC l=[])↔True:=iff_true_intro fun h=>by rw[h];rfl
def jl:IFn:=⟨[.tmp 2],.seq (.r [.q 1 (.box (.t 0)),.m 2 .F]) (.seq (.r [.f 3 1 1,.d 4 3,.e 5 4,.w 6 .gtr 5 100,.n 2 6]) (.ret))⟩
def wH(l:GList):Bool:=decide (100<l.calls.length)
theorem qiX(hc:qv P f jl=true)(l:GList):qe P f [.agg (qG l)] (.b (wH l)):=by
 refine qe.mk hc rfl ?_;simp only[jl,qG,vI,simprocAttr]
 by_cases h:(100:Int)<l.calls.length
 ·have h':100<l.calls.length:=by omega
  simp only[↓vS,vT,simprocAttr,h,wH,h',vZ]
 ·have h':¬100<l.calls.length:=by omega
  simp only[↓vS,vT,simprocAttr,h,wH,h',vZ]
def jm(a:Nat):IFn:=⟨[.tmp 4],.seq (.r [.q 2 (.box (.t 0)),.q 3 (.box (.t 1)),.m 4 .F]) (.seq (.r [.f 5 0 2,.d 6 5,.e 7 6,.w 8 .gtr 7 20,.n 9 8,.h 10 6 2 9 false,.j 11 10 9 false,.g 12 (.len false (.t 11)) 9 false,.g 13 (.bin .gtr (.t 12) (.k 20)) 9 false,.o 14 9 13,.n 15 14,.h 16 1 2 15 false,.g 17 (.loadN 2 (.t 16)) 15 false,⟨(some 18),.callF a [.t 17],(some (15,false))⟩,.o 19 15 18,.n 20 19,.h 21 4 2 20 false,.g 22 (.loadN 2 (.t 21)) 20 false,⟨(some 23),.callF a [.t 22],(some (20,false))⟩,.o 24 20 23,.n 25 24,.h 26 4 3 25 false,.j 27 26 25 false,.g 28 (.len true (.t 27)) 25 false,.g 29 (.bin .gtr (.t 28) (.k 1000)) 25 false,.o 30 25 29,.n 31 30,.h 32 3 3 31 false,.j 33 32 31 false,.g 34 (.len true (.t 33)) 31 false,.g 35 (.bin .gtr (.t 34) (.k 200)) 31 false,.o 36 31 35,.n 37 36,.h 38 0 3 37 false,.j 39 38 37 false,.g 40 (.len true (.t 39)) 37 false,.g 41 (.bin .gtr (.t 40) (.k 200)) 37 false,.o 42 37 41,.n 4 42]) (.ret))⟩
def xR(p:Pol)(a:Asg):Bool:=decide (20<p.arches.length)||decide (20<p.fams.length)||wH p.filter||wH p.log||decide (1000<a.val.length)||decide (200<a.key.length)||decide (200<a.file.length)
theorem qiY{g:Nat}(hc:qv P f (jm g)=true)(hg:∀l,qe P g [.agg (qG l)] (.b (wH l)))(p:Pol)(a:Asg):qe P f [.agg (qf p),.agg (qk8 a)] (.b (xR p a)):=by
 have cast:∀(n m:Nat),((n:Int)<(m:Int))=(n<m):=fun n m=>by simp
 refine qe.mk hc rfl ?_;simp only[jm,qf,qk8,vI,simprocAttr]
 by_cases h1:(20:Int)<p.arches.length
 ·have h1':20<p.arches.length:=by omega
  simp only[↓vS,vT,simprocAttr,h1,xR,h1',vZ];simp
 have h1':¬20<p.arches.length:=by omega
 by_cases h2:(20:Int)<p.fams.length
 ·have h2':20<p.fams.length:=by omega
  simp only[↓vS,vT,simprocAttr,h1,h2,xR,h1',h2',vZ];simp
 have h2':¬20<p.fams.length:=by omega
 simp only[↓vS,vT,simprocAttr,h1,h2];refine (hg p.filter).sc ?_;cases h3:wH p.filter
 case true =>
  simp only[↓vS,vT,simprocAttr];simp[xR,h3,vZ]
 simp only[↓vS,vT,simprocAttr];refine (hg p.log).sc ?_;cases h4:wH p.log
 case true =>
  simp only[↓vS,vT,simprocAttr];simp[xR,h4,vZ]
 by_cases h5:(1000:Int)<a.val.length
 ·have h5':1000<a.val.length:=by omega
  simp only[↓vS,vT,simprocAttr,h5];simp[xR,h5',vZ]
 have h5':¬1000<a.val.length:=by omega
 by_cases h6:(200:Int)<a.key.length
 ·have h6':200<a.key.length:=by omega
  simp only[↓vS,vT,simprocAttr,h5,h6];simp[xR,h6',vZ]
 have h6':¬200<a.key.length:=by omega
 by_cases h7:(200:Int)<a.file.length
 ·have h7':200<a.file.length:=by omega
  simp only[↓vS,vT,simprocAttr,h5,h6,h7];simp[xR,h7',vZ]
 have h7':¬200<a.file.length:=by omega
 simp only[↓vS,vT,simprocAttr,h5,h6,h7];simp[xR,h1',h2',h3,h4,h5',h6',h7',vZ]
def x7:IFn:=⟨[.cell 2 2 true],.seq (.r [.q 1 (.box (.t 0)),.q 2 (.alloc [.i .u8 0,.nils])]) (.seq (.reg true [.f 3 0 1,.d 4 3,.q 5 (.buildS 0 [.s [],.i .u32 0] []),.f 6 1 1,.d 7 6,.q 8 (.appD 2 24 (.t 5) (.t 7) [3]),.q 9 (.build [.i .u8 0,.nils] [(0,1,(.t 4)),(1,1,(.t 8))]),.u (.store 2 (.t 2) (.t 9))]) (.ret))⟩
theorem qnW(hc:qv P f x7=true)(l:GList)(hl:l.calls.length<=1000):qe P f [.agg (qG l)] (.agg (qG l)):=by
 refine qe.mk hc rfl ?_;simp only[x7,qG,vI,simprocAttr];simp only[↓vS,vT,simprocAttr];refine xy ?_;have hT:List.take (l.calls.length*2) (rC l.calls)=rC l.calls:=List.take_of_length_le (by rw[qdw];exact Nat.le_refl _)
 by_cases h0:l.calls=[]
 ·simp only[↓vS,vT,simprocAttr,h0,qmG,Nat.zero_mul];simp[vZ,vP,Tr.get_set,j0,qaC]
 ·have hn:¬l.calls.length<=0:=by
   intro h;exact h0 (List.eq_nil_of_length_eq_zero (by omega))
  have hr:l.calls.length<=qd:=by simp only[qd];omega
  have hr2:l.calls.length*24<=qd:=by simp only[qd];omega
  simp only[↓vS,vT,simprocAttr,qdw,hT,hn,qoE,hr,hr2];simp[vZ,vP,Tr.get_set,j0 qc,qc,qpC]
def x8(a:Nat):IFn:=⟨[.cell 2 13 true],.seq (.r [.q 1 (.box (.t 0)),.q 2 (.alloc [.nils,.i .u8 0,.nils,.i .u32 0,.i .u8 0,.nils,.nils,.i .u8 0,.i .u64 0,.b false,.b false,.b false,.b false])]) (.seq (.r [.q 3 (.buildS 0 [.i .i64 0] []),.f 4 0 1,.d 5 4,.q 6 (.app 1 8 true (.t 3) (.t 5)),.f 7 0 1,.u (.store 1 (.t 7) (.t 6))]) (.seq (.r [.q 8 (.buildS 0 [.i .u32 0] []),.f 9 6 1,.d 10 9,.q 11 (.app 1 4 true (.t 8) (.t 10)),.f 12 6 1,.u (.store 1 (.t 12) (.t 11))]) (.seq (.r [.f 13 1 1,.v 14 2 13,.l 15 a [.t 14],.f 16 1 1,.u (.store 2 (.t 16) (.t 15))]) (.seq (.r [.f 17 4 1,.v 18 2 17,.l 19 a [.t 18],.f 20 4 1,.u (.store 2 (.t 20) (.t 19))]) (.seq (.r [.v 21 13 1,.u (.store 13 (.t 2) (.t 21))]) (.ret))))))⟩
theorem qnX{g:Nat}(hc:qv P f (x8 g)=true)(hg:∀l:GList,l.calls.length<=1000->qe P g [.agg (qG l)] (.agg (qG l))):qdK P f:=by
 intro p hp;have ha:=hp.a;have hf:=hp.f;have hcc:=hp.c;have hl:=hp.l;have hT:List.take p.arches.length (rI .i64 p.arches)=rI .i64 p.arches:=List.take_of_length_le (by rw[yp];exact Nat.le_refl _);have hT2:List.take p.fams.length (rI .u32 p.fams)=rI .u32 p.fams:=List.take_of_length_le (by rw[yp];exact Nat.le_refl _);refine qe.mk hc rfl ?_;simp only[x8,qf,vI,simprocAttr];simp only[↓vS,vT,simprocAttr]
 by_cases h0:p.arches=[]
 ·by_cases h1:p.fams=[]
  ·simp only[↓vS,vT,simprocAttr,h0,h1,Q8,Nat.zero_mul];refine (hg p.filter hcc).sc ?_;simp only[↓vS,vT,simprocAttr,qG];refine (hg p.log hl).sc ?_;simp only[↓vS,vT,simprocAttr,qG];simp[vZ,vP,Tr.get_set,j0,h0,h1,Q8,qaC]
  ·have hn:¬p.fams.length<=0:=by
    intro h;exact h1 (List.eq_nil_of_length_eq_zero (by omega))
   have hr:p.fams.length<=qd:=by simp only[qd];omega
   have hr2:p.fams.length*4<=qd:=by simp only[qd];omega
   simp only[↓vS,vT,simprocAttr,h0,Q8,Nat.zero_mul,yp,Nat.mul_one,hT2,hn,qhu,hr,hr2];refine (hg p.filter hcc).sc ?_;simp only[↓vS,vT,simprocAttr,qG];refine (hg p.log hl).sc ?_;simp only[↓vS,vT,simprocAttr,qG];simp[vZ,vP,Tr.get_set,j0 qb,qb,h0,Q8,qaC,qmH]
 ·have hm:¬p.arches.length<=0:=by
   intro h;exact h0 (List.eq_nil_of_length_eq_zero (by omega))
  have hs:p.arches.length<=qd:=by simp only[qd];omega
  have hs2:p.arches.length*8<=qd:=by simp only[qd];omega
  by_cases h1:p.fams=[]
  ·simp only[↓vS,vT,simprocAttr,h1,Q8,Nat.zero_mul,yp,Nat.mul_one,hT,hm,qhu,hs,hs2];refine (hg p.filter hcc).sc ?_;simp only[↓vS,vT,simprocAttr,qG];refine (hg p.log hl).sc ?_;simp only[↓vS,vT,simprocAttr,qG];simp[vZ,vP,Tr.get_set,j0 qb,qb,h1,Q8,qaC,qmH]
  ·have hn:¬p.fams.length<=0:=by
    intro h;exact h1 (List.eq_nil_of_length_eq_zero (by omega))
   have hr:p.fams.length<=qd:=by simp only[qd];omega
   have hr2:p.fams.length*4<=qd:=by simp only[qd];omega
   simp only[↓vS,vT,simprocAttr,yp,Nat.mul_one,hT,hT2,hn,hm,qhu,hr,hr2,hs,hs2];refine (hg p.filter hcc).sc ?_;simp only[↓vS,vT,simprocAttr,qG];refine (hg p.log hl).sc ?_;simp only[↓vS,vT,simprocAttr,qG];simp[vZ,vP,Tr.get_set,j0 qb,qb,qmH,qaC]

theorem qgu{p:Pol}{a:Asg}(h:xR p a=false):p.arches.length<=20∧p.fams.length<=20∧PolOk p∧a.val.length<=1000:=by
 simp only[xR,wH,Bool.or_eq_false_iff,decide_eq_false_iff_not] at h;obtain⟨⟨⟨⟨⟨⟨h1,h2⟩,h3⟩,h4⟩,h5⟩,h6⟩,h7⟩:=h;exact⟨by omega,by omega,⟨by omega,by omega,by omega,by omega⟩,by omega⟩


def yf:IFn:=⟨[.tmp 2],.seq (.r [.m 2 .F]) (.seq (.r [.n 3 0,.q 4 (.bin .eql (.t 3) (.c (.i .u32 0))),.n 5 4,.z 6 0 5,.g 7 (.bin .eql (.t 6) (.c (.i .u32 2147483648))) 5 false,.o 8 5 7,.n 9 8,.z 10 0 9,.g 11 (.bin .geq (.t 10) (.c (.i .u32 327680))) 9 false,.z 12 11 9,.y 13 0 12,.g 14 (.bin .leq (.t 13) (.c (.i .u32 331775))) 12 true,.g 15 (.pick (.t 12) (.t 14) .F) 9 false,.o 16 9 15,.n 2 16]) (.ret))⟩
def yJ(n:Int):Bool:=decide (n=0)||decide (n=2147483648)||(decide (327680<=n)&&decide (n<=331775))
theorem qkj(hc:qv P f yf=true)(n:Int):qe P f [.i .u32 n] (.b (yJ n)):=by
 refine qe.mk hc rfl ?_;simp only[yf,vI,simprocAttr]
 by_cases h1:n=0
 ·simp only[↓vS,vT,simprocAttr,h1];simp[vZ,yJ,h1]
 by_cases h2:n=2147483648
 ·simp only[↓vS,vT,simprocAttr,h1,h2];simp[vZ,yJ,h2]
 by_cases h3:327680<=n
 ·by_cases h4:n<=331775
  ·simp only[↓vS,vT,simprocAttr,h1,h2,h3,h4];simp[vZ,yJ,h3,h4]
  ·simp only[↓vS,vT,simprocAttr,h1,h2,h3,h4];simp[vZ,yJ,h1,h2,h4]
 ·simp only[↓vS,vT,simprocAttr,h1,h2,h3];simp[vZ,yJ,h1,h2,h3]
def xl(l:List GCall)(s:List UInt8):Option GCall:=l.find? (fun c=>decide (c.name=s))


def qL:List (List UInt8×List Int):=[([98,105,110,100],[49,361,49,282,200,200]),([98,112,102],[321,357,321,386,280,280]),([98,114,107],[12,45,12,45,214,214]),([99,108,111,99,107,95,115,101,116,116,105,109,101],[227,264,227,262,112,112]),([99,108,111,110,101],[56,120,56,120,220,220]),([99,108,111,110,101,51],[435,435,(-1),435,435,435]),([99,108,111,115,101],[3,6,3,6,57,57]),([99,111,110,110,101,99,116],[42,362,42,283,203,203]),([100,101,108,101,116,101,95,109,111,100,117,108,101],[176,129,176,129,106,106]),([101,120,101,99,118,101],[59,11,520,11,221,221]),([101,120,105,116],[60,1,60,1,93,93]),([102,105,110,105,116,95,109,111,100,117,108,101],[313,350,313,379,273,273]),([102,111,114,107],[57,2,57,2,(-1),(-1)]),([103,101,116,117,105,100],[102,24,102,24,174,174]),([105,110,105,116,95,109,111,100,117,108,101],[175,128,(-1),128,105,105]),([105,111,99,116,108],[16,54,514,54,29,29]),([107,105,108,108],[62,37,62,37,129,129]),([108,105,115,116,101,110],[50,363,50,284,201,201]),([109,109,97,112],[9,90,9,(-1),222,222]),([109,111,117,110,116],[165,21,165,21,40,40]),([109,112,114,111,116,101,99,116],[10,125,10,125,226,226]),([109,117,110,109,97,112],[11,91,11,91,215,215]),([111,112,101,110],[2,5,2,5,(-1),(-1)]),([111,112,101,110,97,116],[257,295,257,322,56,56]),([112,101,114,115,111,110,97,108,105,116,121],[135,136,135,136,92,92]),([112,107,101,121,95,109,112,114,111,116,101,99,116],[329,380,329,394,288,(-1)]),([112,116,114,97,99,101],[101,26,521,26,117,117]),([114,101,97,100],[0,3,0,3,63,63]),([114,101,98,111,111,116],[169,88,169,88,142,142]),([115,99,104,101,100,95,115,101,116,97,116,116,114],[314,351,314,380,274,274]),([115,99,104,101,100,95,115,101,116,115,99,104,101,100,117,108,101,114],[144,156,144,156,119,119]),([115,101,99,99,111,109,112],[317,354,317,383,277,277]),([115,101,116,110,115],[308,346,308,375,268,268]),([115,101,116,116,105,109,101,111,102,100,97,121],[164,79,164,79,170,170]),([115,101,116,117,105,100],[105,23,105,23,146,146]),([115,104,109,97,116],[30,397,(-1),305,196,196]),([115,111,99,107,101,116],[41,359,41,281,198,198]),([117,109,111,117,110,116,50],[166,52,166,52,39,39]),([117,110,115,104,97,114,101],[272,310,272,337,97,97]),([119,114,105,116,101],[1,4,1,4,64,64])]
def jf(x:List UInt8×List Int):List AV:=[.s x.1,.i .i64 (x.2.getD 0 0),.i .i64 (x.2.getD 1 0),.i .i64 (x.2.getD 2 0),.i .i64 (x.2.getD 3 0),.i .i64 (x.2.getD 4 0),.i .i64 (x.2.getD 5 0)]
theorem qcZ(x:List UInt8×List Int):(jf x).length=7:=rfl
def ye:IFn:=⟨[.cell 0 280 true],.seq (.r [.q 0 (.alloc [.s [],.i .i64 0,.i .i64 0,.i .i64 0,.i .i64 0,.i .i64 0,.i .i64 0,.s [],.i .i64 0,.i .i64 0,.i .i64 0,.i .i64 0,.i .i64 0,.i .i64 0,.s [],.i .i64 0,.i .i64 0,.i .i64 0,.i .i64 0,.i .i64 0,.i .i64 0,.s [],.i .i64 0,.i .i64 0,.i .i64 0,.i .i64 0,.i .i64 0,.i .i64 0,.s [],.i .i64 0,.i .i64 0,.i .i64 0,.i .i64 0,.i .i64 0,.i .i64 0,.s [],.i .i64 0,.i .i64 0,.i .i64 0,.i .i64 0,.i .i64 0,.i .i64 0,.s [],.i .i64 0,.i .i64 0,.i .i64 0,.i .i64 0,.i .i64 0,.i .i64 0,.s [],.i .i64 0,.i .i64 0,.i .i64 0,.i .i64 0,.i .i64 0,.i .i64 0,.s [],.i .i64 0,.i .i64 0,.i .i64 0,.i .i64 0,.i .i64 0,.i .i64 0,.s [],.i .i64 0,.i .i64 0,.i .i64 0,.i .i64 0,.i .i64 0,.i .i64 0,.s [],.i .i64 0,.i .i64 0,.i .i64 0,.i .i64 0,.i .i64 0,.i .i64 0,.s [],.i .i64 0,.i .i64 0,.i .i64 0,.i .i64 0,.i .i64 0,.i .i64 0,.s [],.i .i64 0,.i .i64 0,.i .i64 0,.i .i64 0,.i .i64 0,.i .i64 0,.s [],.i .i64 0,.i .i64 0,.i .i64 0,.i .i64 0,.i .i64 0,.i .i64 0,.s [],.i .i64 0,.i .i64 0,.i .i64 0,.i .i64 0,.i .i64 0,.i .i64 0,.s [],.i .i64 0,.i .i64 0,.i .i64 0,.i .i64 0,.i .i64 0,.i .i64 0,.s [],.i .i64 0,.i .i64 0,.i .i64 0,.i .i64 0,.i .i64 0,.i .i64 0,.s [],.i .i64 0,.i .i64 0,.i .i64 0,.i .i64 0,.i .i64 0,.i .i64 0,.s [],.i .i64 0,.i .i64 0,.i .i64 0,.i .i64 0,.i .i64 0,.i .i64 0,.s [],.i .i64 0,.i .i64 0,.i .i64 0,.i .i64 0,.i .i64 0,.i .i64 0,.s [],.i .i64 0,.i .i64 0,.i .i64 0,.i .i64 0,.i .i64 0,.i .i64 0,.s [],.i .i64 0,.i .i64 0,.i .i64 0,.i .i64 0,.i .i64 0,.i .i64 0,.s [],.i .i64 0,.i .i64 0,.i .i64 0,.i .i64 0,.i .i64 0,.i .i64 0,.s [],.i .i64 0,.i .i64 0,.i .i64 0,.i .i64 0,.i .i64 0,.i .i64 0,.s [],.i .i64 0,.i .i64 0,.i .i64 0,.i .i64 0,.i .i64 0,.i .i64 0,.s [],.i .i64 0,.i .i64 0,.i .i64 0,.i .i64 0,.i .i64 0,.i .i64 0,.s [],.i .i64 0,.i .i64 0,.i .i64 0,.i .i64 0,.i .i64 0,.i .i64 0,.s [],.i .i64 0,.i .i64 0,.i .i64 0,.i .i64 0,.i .i64 0,.i .i64 0,.s [],.i .i64 0,.i .i64 0,.i .i64 0,.i .i64 0,.i .i64 0,.i .i64 0,.s [],.i .i64 0,.i .i64 0,.i .i64 0,.i .i64 0,.i .i64 0,.i .i64 0,.s [],.i .i64 0,.i .i64 0,.i .i64 0,.i .i64 0,.i .i64 0,.i .i64 0,.s [],.i .i64 0,.i .i64 0,.i .i64 0,.i .i64 0,.i .i64 0,.i .i64 0,.s [],.i .i64 0,.i .i64 0,.i .i64 0,.i .i64 0,.i .i64 0,.i .i64 0,.s [],.i .i64 0,.i .i64 0,.i .i64 0,.i .i64 0,.i .i64 0,.i .i64 0,.s [],.i .i64 0,.i .i64 0,.i .i64 0,.i .i64 0,.i .i64 0,.i .i64 0,.s [],.i .i64 0,.i .i64 0,.i .i64 0,.i .i64 0,.i .i64 0,.i .i64 0,.s [],.i .i64 0,.i .i64 0,.i .i64 0,.i .i64 0,.i .i64 0,.i .i64 0,.s [],.i .i64 0,.i .i64 0,.i .i64 0,.i .i64 0,.i .i64 0,.i .i64 0,.s [],.i .i64 0,.i .i64 0,.i .i64 0,.i .i64 0,.i .i64 0,.i .i64 0,.s [],.i .i64 0,.i .i64 0,.i .i64 0,.i .i64 0,.i .i64 0,.i .i64 0])]) (.seq (.r [.q 1 (.build [.i .i64 0,.i .i64 0,.i .i64 0,.i .i64 0,.i .i64 0,.i .i64 0] [(0,1,(.k 49)),(1,1,(.k 361)),(2,1,(.k 49)),(3,1,(.k 282)),(4,1,(.k 200)),(5,1,(.k 200))]),.q 2 (.build [.s [],.i .i64 0,.i .i64 0,.i .i64 0,.i .i64 0,.i .i64 0,.i .i64 0] [(0,1,(.c (.s [98,105,110,100]))),(1,6,(.t 1))]),.q 3 (.build [.i .i64 0,.i .i64 0,.i .i64 0,.i .i64 0,.i .i64 0,.i .i64 0] [(0,1,(.k 321)),(1,1,(.k 357)),(2,1,(.k 321)),(3,1,(.k 386)),(4,1,(.k 280)),(5,1,(.k 280))]),.q 4 (.build [.s [],.i .i64 0,.i .i64 0,.i .i64 0,.i .i64 0,.i .i64 0,.i .i64 0] [(0,1,(.c (.s [98,112,102]))),(1,6,(.t 3))]),.q 5 (.build [.i .i64 0,.i .i64 0,.i .i64 0,.i .i64 0,.i .i64 0,.i .i64 0] [(0,1,(.k 12)),(1,1,(.k 45)),(2,1,(.k 12)),(3,1,(.k 45)),(4,1,(.k 214)),(5,1,(.k 214))]),.q 6 (.build [.s [],.i .i64 0,.i .i64 0,.i .i64 0,.i .i64 0,.i .i64 0,.i .i64 0] [(0,1,(.c (.s [98,114,107]))),(1,6,(.t 5))]),.q 7 (.build [.i .i64 0,.i .i64 0,.i .i64 0,.i .i64 0,.i .i64 0,.i .i64 0] [(0,1,(.k 227)),(1,1,(.k 264)),(2,1,(.k 227)),(3,1,(.k 262)),(4,1,(.k 112)),(5,1,(.k 112))]),.q 8 (.build [.s [],.i .i64 0,.i .i64 0,.i .i64 0,.i .i64 0,.i .i64 0,.i .i64 0] [(0,1,(.c (.s [99,108,111,99,107,95,115,101,116,116,105,109,101]))),(1,6,(.t 7))]),.q 9 (.build [.i .i64 0,.i .i64 0,.i .i64 0,.i .i64 0,.i .i64 0,.i .i64 0] [(0,1,(.k 56)),(1,1,(.k 120)),(2,1,(.k 56)),(3,1,(.k 120)),(4,1,(.k 220)),(5,1,(.k 220))]),.q 10 (.build [.s [],.i .i64 0,.i .i64 0,.i .i64 0,.i .i64 0,.i .i64 0,.i .i64 0] [(0,1,(.c (.s [99,108,111,110,101]))),(1,6,(.t 9))]),.q 11 (.build [.i .i64 0,.i .i64 0,.i .i64 0,.i .i64 0,.i .i64 0,.i .i64 0] [(0,1,(.k 435)),(1,1,(.k 435)),(2,1,(.c (.i .i64 (-1)))),(3,1,(.k 435)),(4,1,(.k 435)),(5,1,(.k 435))]),.q 12 (.build [.s [],.i .i64 0,.i .i64 0,.i .i64 0,.i .i64 0,.i .i64 0,.i .i64 0] [(0,1,(.c (.s [99,108,111,110,101,51]))),(1,6,(.t 11))]),.q 13 (.build [.i .i64 0,.i .i64 0,.i .i64 0,.i .i64 0,.i .i64 0,.i .i64 0] [(0,1,(.k 3)),(1,1,(.k 6)),(2,1,(.k 3)),(3,1,(.k 6)),(4,1,(.k 57)),(5,1,(.k 57))]),.q 14 (.build [.s [],.i .i64 0,.i .i64 0,.i .i64 0,.i .i64 0,.i .i64 0,.i .i64 0] [(0,1,(.c (.s [99,108,111,115,101]))),(1,6,(.t 13))]),.q 15 (.build [.i .i64 0,.i .i64 0,.i .i64 0,.i .i64 0,.i .i64 0,.i .i64 0] [(0,1,(.k 42)),(1,1,(.k 362)),(2,1,(.k 42)),(3,1,(.k 283)),(4,1,(.k 203)),(5,1,(.k 203))]),.q 16 (.build [.s [],.i .i64 0,.i .i64 0,.i .i64 0,.i .i64 0,.i .i64 0,.i .i64 0] [(0,1,(.c (.s [99,111,110,110,101,99,116]))),(1,6,(.t 15))]),.q 17 (.build [.i .i64 0,.i .i64 0,.i .i64 0,.i .i64 0,.i .i64 0,.i .i64 0] [(0,1,(.k 176)),(1,1,(.k 129)),(2,1,(.k 176)),(3,1,(.k 129)),(4,1,(.k 106)),(5,1,(.k 106))]),.q 18 (.build [.s [],.i .i64 0,.i .i64 0,.i .i64 0,.i .i64 0,.i .i64 0,.i .i64 0] [(0,1,(.c (.s [100,101,108,101,116,101,95,109,111,100,117,108,101]))),(1,6,(.t 17))]),.q 19 (.build [.i .i64 0,.i .i64 0,.i .i64 0,.i .i64 0,.i .i64 0,.i .i64 0] [(0,1,(.k 59)),(1,1,(.k 11)),(2,1,(.k 520)),(3,1,(.k 11)),(4,1,(.k 221)),(5,1,(.k 221))]),.q 20 (.build [.s [],.i .i64 0,.i .i64 0,.i .i64 0,.i .i64 0,.i .i64 0,.i .i64 0] [(0,1,(.c (.s [101,120,101,99,118,101]))),(1,6,(.t 19))]),.q 21 (.build [.i .i64 0,.i .i64 0,.i .i64 0,.i .i64 0,.i .i64 0,.i .i64 0] [(0,1,(.k 60)),(1,1,(.k 1)),(2,1,(.k 60)),(3,1,(.k 1)),(4,1,(.k 93)),(5,1,(.k 93))]),.q 22 (.build [.s [],.i .i64 0,.i .i64 0,.i .i64 0,.i .i64 0,.i .i64 0,.i .i64 0] [(0,1,(.c (.s [101,120,105,116]))),(1,6,(.t 21))]),.q 23 (.build [.i .i64 0,.i .i64 0,.i .i64 0,.i .i64 0,.i .i64 0,.i .i64 0] [(0,1,(.k 313)),(1,1,(.k 350)),(2,1,(.k 313)),(3,1,(.k 379)),(4,1,(.k 273)),(5,1,(.k 273))]),.q 24 (.build [.s [],.i .i64 0,.i .i64 0,.i .i64 0,.i .i64 0,.i .i64 0,.i .i64 0] [(0,1,(.c (.s [102,105,110,105,116,95,109,111,100,117,108,101]))),(1,6,(.t 23))]),.q 25 (.build [.i .i64 0,.i .i64 0,.i .i64 0,.i .i64 0,.i .i64 0,.i .i64 0] [(0,1,(.k 57)),(1,1,(.k 2)),(2,1,(.k 57)),(3,1,(.k 2)),(4,1,(.c (.i .i64 (-1)))),(5,1,(.c (.i .i64 (-1))))]),.q 26 (.build [.s [],.i .i64 0,.i .i64 0,.i .i64 0,.i .i64 0,.i .i64 0,.i .i64 0] [(0,1,(.c (.s [102,111,114,107]))),(1,6,(.t 25))]),.q 27 (.build [.i .i64 0,.i .i64 0,.i .i64 0,.i .i64 0,.i .i64 0,.i .i64 0] [(0,1,(.k 102)),(1,1,(.k 24)),(2,1,(.k 102)),(3,1,(.k 24)),(4,1,(.k 174)),(5,1,(.k 174))]),.q 28 (.build [.s [],.i .i64 0,.i .i64 0,.i .i64 0,.i .i64 0,.i .i64 0,.i .i64 0] [(0,1,(.c (.s [103,101,116,117,105,100]))),(1,6,(.t 27))]),.q 29 (.build [.i .i64 0,.i .i64 0,.i .i64 0,.i .i64 0,.i .i64 0,.i .i64 0] [(0,1,(.k 175)),(1,1,(.k 128)),(2,1,(.c (.i .i64 (-1)))),(3,1,(.k 128)),(4,1,(.k 105)),(5,1,(.k 105))]),.q 30 (.build [.s [],.i .i64 0,.i .i64 0,.i .i64 0,.i .i64 0,.i .i64 0,.i .i64 0] [(0,1,(.c (.s [105,110,105,116,95,109,111,100,117,108,101]))),(1,6,(.t 29))]),.q 31 (.build [.i .i64 0,.i .i64 0,.i .i64 0,.i .i64 0,.i .i64 0,.i .i64 0] [(0,1,(.k 16)),(1,1,(.k 54)),(2,1,(.k 514)),(3,1,(.k 54)),(4,1,(.k 29)),(5,1,(.k 29))]),.q 32 (.build [.s [],.i .i64 0,.i .i64 0,.i .i64 0,.i .i64 0,.i .i64 0,.i .i64 0] [(0,1,(.c (.s [105,111,99,116,108]))),(1,6,(.t 31))]),.q 33 (.build [.i .i64 0,.i .i64 0,.i .i64 0,.i .i64 0,.i .i64 0,.i .i64 0] [(0,1,(.k 62)),(1,1,(.k 37)),(2,1,(.k 62)),(3,1,(.k 37)),(4,1,(.k 129)),(5,1,(.k 129))]),.q 34 (.build [.s [],.i .i64 0,.i .i64 0,.i .i64 0,.i .i64 0,.i .i64 0,.i .i64 0] [(0,1,(.c (.s [107,105,108,108]))),(1,6,(.t 33))]),.q 35 (.build [.i .i64 0,.i .i64 0,.i .i64 0,.i .i64 0,.i .i64 0,.i .i64 0] [(0,1,(.k 50)),(1,1,(.k 363)),(2,1,(.k 50)),(3,1,(.k 284)),(4,1,(.k 201)),(5,1,(.k 201))]),.q 36 (.build [.s [],.i .i64 0,.i .i64 0,.i .i64 0,.i .i64 0,.i .i64 0,.i .i64 0] [(0,1,(.c (.s [108,105,115,116,101,110]))),(1,6,(.t 35))]),.q 37 (.build [.i .i64 0,.i .i64 0,.i .i64 0,.i .i64 0,.i .i64 0,.i .i64 0] [(0,1,(.k 9)),(1,1,(.k 90)),(2,1,(.k 9)),(3,1,(.c (.i .i64 (-1)))),(4,1,(.k 222)),(5,1,(.k 222))]),.q 38 (.build [.s [],.i .i64 0,.i .i64 0,.i .i64 0,.i .i64 0,.i .i64 0,.i .i64 0] [(0,1,(.c (.s [109,109,97,112]))),(1,6,(.t 37))]),.q 39 (.build [.i .i64 0,.i .i64 0,.i .i64 0,.i .i64 0,.i .i64 0,.i .i64 0] [(0,1,(.k 165)),(1,1,(.k 21)),(2,1,(.k 165)),(3,1,(.k 21)),(4,1,(.k 40)),(5,1,(.k 40))]),.q 40 (.build [.s [],.i .i64 0,.i .i64 0,.i .i64 0,.i .i64 0,.i .i64 0,.i .i64 0] [(0,1,(.c (.s [109,111,117,110,116]))),(1,6,(.t 39))]),.q 41 (.build [.i .i64 0,.i .i64 0,.i .i64 0,.i .i64 0,.i .i64 0,.i .i64 0] [(0,1,(.k 10)),(1,1,(.k 125)),(2,1,(.k 10)),(3,1,(.k 125)),(4,1,(.k 226)),(5,1,(.k 226))]),.q 42 (.build [.s [],.i .i64 0,.i .i64 0,.i .i64 0,.i .i64 0,.i .i64 0,.i .i64 0] [(0,1,(.c (.s [109,112,114,111,116,101,99,116]))),(1,6,(.t 41))]),.q 43 (.build [.i .i64 0,.i .i64 0,.i .i64 0,.i .i64 0,.i .i64 0,.i .i64 0] [(0,1,(.k 11)),(1,1,(.k 91)),(2,1,(.k 11)),(3,1,(.k 91)),(4,1,(.k 215)),(5,1,(.k 215))]),.q 44 (.build [.s [],.i .i64 0,.i .i64 0,.i .i64 0,.i .i64 0,.i .i64 0,.i .i64 0] [(0,1,(.c (.s [109,117,110,109,97,112]))),(1,6,(.t 43))]),.q 45 (.build [.i .i64 0,.i .i64 0,.i .i64 0,.i .i64 0,.i .i64 0,.i .i64 0] [(0,1,(.k 2)),(1,1,(.k 5)),(2,1,(.k 2)),(3,1,(.k 5)),(4,1,(.c (.i .i64 (-1)))),(5,1,(.c (.i .i64 (-1))))]),.q 46 (.build [.s [],.i .i64 0,.i .i64 0,.i .i64 0,.i .i64 0,.i .i64 0,.i .i64 0] [(0,1,(.c (.s [111,112,101,110]))),(1,6,(.t 45))]),.q 47 (.build [.i .i64 0,.i .i64 0,.i .i64 0,.i .i64 0,.i .i64 0,.i .i64 0] [(0,1,(.k 257)),(1,1,(.k 295)),(2,1,(.k 257)),(3,1,(.k 322)),(4,1,(.k 56)),(5,1,(.k 56))]),.q 48 (.build [.s [],.i .i64 0,.i .i64 0,.i .i64 0,.i .i64 0,.i .i64 0,.i .i64 0] [(0,1,(.c (.s [111,112,101,110,97,116]))),(1,6,(.t 47))]),.q 49 (.build [.i .i64 0,.i .i64 0,.i .i64 0,.i .i64 0,.i .i64 0,.i .i64 0] [(0,1,(.k 135)),(1,1,(.k 136)),(2,1,(.k 135)),(3,1,(.k 136)),(4,1,(.k 92)),(5,1,(.k 92))]),.q 50 (.build [.s [],.i .i64 0,.i .i64 0,.i .i64 0,.i .i64 0,.i .i64 0,.i .i64 0] [(0,1,(.c (.s [112,101,114,115,111,110,97,108,105,116,121]))),(1,6,(.t 49))]),.q 51 (.build [.i .i64 0,.i .i64 0,.i .i64 0,.i .i64 0,.i .i64 0,.i .i64 0] [(0,1,(.k 329)),(1,1,(.k 380)),(2,1,(.k 329)),(3,1,(.k 394)),(4,1,(.k 288)),(5,1,(.c (.i .i64 (-1))))]),.q 52 (.build [.s [],.i .i64 0,.i .i64 0,.i .i64 0,.i .i64 0,.i .i64 0,.i .i64 0] [(0,1,(.c (.s [112,107,101,121,95,109,112,114,111,116,101,99,116]))),(1,6,(.t 51))]),.q 53 (.build [.i .i64 0,.i .i64 0,.i .i64 0,.i .i64 0,.i .i64 0,.i .i64 0] [(0,1,(.k 101)),(1,1,(.k 26)),(2,1,(.k 521)),(3,1,(.k 26)),(4,1,(.k 117)),(5,1,(.k 117))]),.q 54 (.build [.s [],.i .i64 0,.i .i64 0,.i .i64 0,.i .i64 0,.i .i64 0,.i .i64 0] [(0,1,(.c (.s [112,116,114,97,99,101]))),(1,6,(.t 53))]),.q 55 (.build [.i .i64 0,.i .i64 0,.i .i64 0,.i .i64 0,.i .i64 0,.i .i64 0] [(0,1,(.k 0)),(1,1,(.k 3)),(2,1,(.k 0)),(3,1,(.k 3)),(4,1,(.k 63)),(5,1,(.k 63))]),.q 56 (.build [.s [],.i .i64 0,.i .i64 0,.i .i64 0,.i .i64 0,.i .i64 0,.i .i64 0] [(0,1,(.c (.s [114,101,97,100]))),(1,6,(.t 55))]),.q 57 (.build [.i .i64 0,.i .i64 0,.i .i64 0,.i .i64 0,.i .i64 0,.i .i64 0] [(0,1,(.k 169)),(1,1,(.k 88)),(2,1,(.k 169)),(3,1,(.k 88)),(4,1,(.k 142)),(5,1,(.k 142))]),.q 58 (.build [.s [],.i .i64 0,.i .i64 0,.i .i64 0,.i .i64 0,.i .i64 0,.i .i64 0] [(0,1,(.c (.s [114,101,98,111,111,116]))),(1,6,(.t 57))]),.q 59 (.build [.i .i64 0,.i .i64 0,.i .i64 0,.i .i64 0,.i .i64 0,.i .i64 0] [(0,1,(.k 314)),(1,1,(.k 351)),(2,1,(.k 314)),(3,1,(.k 380)),(4,1,(.k 274)),(5,1,(.k 274))]),.q 60 (.build [.s [],.i .i64 0,.i .i64 0,.i .i64 0,.i .i64 0,.i .i64 0,.i .i64 0] [(0,1,(.c (.s [115,99,104,101,100,95,115,101,116,97,116,116,114]))),(1,6,(.t 59))]),.q 61 (.build [.i .i64 0,.i .i64 0,.i .i64 0,.i .i64 0,.i .i64 0,.i .i64 0] [(0,1,(.k 144)),(1,1,(.k 156)),(2,1,(.k 144)),(3,1,(.k 156)),(4,1,(.k 119)),(5,1,(.k 119))]),.q 62 (.build [.s [],.i .i64 0,.i .i64 0,.i .i64 0,.i .i64 0,.i .i64 0,.i .i64 0] [(0,1,(.c (.s [115,99,104,101,100,95,115,101,116,115,99,104,101,100,117,108,101,114]))),(1,6,(.t 61))]),.q 63 (.build [.i .i64 0,.i .i64 0,.i .i64 0,.i .i64 0,.i .i64 0,.i .i64 0] [(0,1,(.k 317)),(1,1,(.k 354)),(2,1,(.k 317)),(3,1,(.k 383)),(4,1,(.k 277)),(5,1,(.k 277))]),.q 64 (.build [.s [],.i .i64 0,.i .i64 0,.i .i64 0,.i .i64 0,.i .i64 0,.i .i64 0] [(0,1,(.c (.s [115,101,99,99,111,109,112]))),(1,6,(.t 63))]),.q 65 (.build [.i .i64 0,.i .i64 0,.i .i64 0,.i .i64 0,.i .i64 0,.i .i64 0] [(0,1,(.k 308)),(1,1,(.k 346)),(2,1,(.k 308)),(3,1,(.k 375)),(4,1,(.k 268)),(5,1,(.k 268))]),.q 66 (.build [.s [],.i .i64 0,.i .i64 0,.i .i64 0,.i .i64 0,.i .i64 0,.i .i64 0] [(0,1,(.c (.s [115,101,116,110,115]))),(1,6,(.t 65))]),.q 67 (.build [.i .i64 0,.i .i64 0,.i .i64 0,.i .i64 0,.i .i64 0,.i .i64 0] [(0,1,(.k 164)),(1,1,(.k 79)),(2,1,(.k 164)),(3,1,(.k 79)),(4,1,(.k 170)),(5,1,(.k 170))]),.q 68 (.build [.s [],.i .i64 0,.i .i64 0,.i .i64 0,.i .i64 0,.i .i64 0,.i .i64 0] [(0,1,(.c (.s [115,101,116,116,105,109,101,111,102,100,97,121]))),(1,6,(.t 67))]),.q 69 (.build [.i .i64 0,.i .i64 0,.i .i64 0,.i .i64 0,.i .i64 0,.i .i64 0] [(0,1,(.k 105)),(1,1,(.k 23)),(2,1,(.k 105)),(3,1,(.k 23)),(4,1,(.k 146)),(5,1,(.k 146))]),.q 70 (.build [.s [],.i .i64 0,.i .i64 0,.i .i64 0,.i .i64 0,.i .i64 0,.i .i64 0] [(0,1,(.c (.s [115,101,116,117,105,100]))),(1,6,(.t 69))]),.q 71 (.build [.i .i64 0,.i .i64 0,.i .i64 0,.i .i64 0,.i .i64 0,.i .i64 0] [(0,1,(.k 30)),(1,1,(.k 397)),(2,1,(.c (.i .i64 (-1)))),(3,1,(.k 305)),(4,1,(.k 196)),(5,1,(.k 196))]),.q 72 (.build [.s [],.i .i64 0,.i .i64 0,.i .i64 0,.i .i64 0,.i .i64 0,.i .i64 0] [(0,1,(.c (.s [115,104,109,97,116]))),(1,6,(.t 71))]),.q 73 (.build [.i .i64 0,.i .i64 0,.i .i64 0,.i .i64 0,.i .i64 0,.i .i64 0] [(0,1,(.k 41)),(1,1,(.k 359)),(2,1,(.k 41)),(3,1,(.k 281)),(4,1,(.k 198)),(5,1,(.k 198))]),.q 74 (.build [.s [],.i .i64 0,.i .i64 0,.i .i64 0,.i .i64 0,.i .i64 0,.i .i64 0] [(0,1,(.c (.s [115,111,99,107,101,116]))),(1,6,(.t 73))]),.q 75 (.build [.i .i64 0,.i .i64 0,.i .i64 0,.i .i64 0,.i .i64 0,.i .i64 0] [(0,1,(.k 166)),(1,1,(.k 52)),(2,1,(.k 166)),(3,1,(.k 52)),(4,1,(.k 39)),(5,1,(.k 39))]),.q 76 (.build [.s [],.i .i64 0,.i .i64 0,.i .i64 0,.i .i64 0,.i .i64 0,.i .i64 0] [(0,1,(.c (.s [117,109,111,117,110,116,50]))),(1,6,(.t 75))]),.q 77 (.build [.i .i64 0,.i .i64 0,.i .i64 0,.i .i64 0,.i .i64 0,.i .i64 0] [(0,1,(.k 272)),(1,1,(.k 310)),(2,1,(.k 272)),(3,1,(.k 337)),(4,1,(.k 97)),(5,1,(.k 97))]),.q 78 (.build [.s [],.i .i64 0,.i .i64 0,.i .i64 0,.i .i64 0,.i .i64 0,.i .i64 0] [(0,1,(.c (.s [117,110,115,104,97,114,101]))),(1,6,(.t 77))]),.q 79 (.build [.i .i64 0,.i .i64 0,.i .i64 0,.i .i64 0,.i .i64 0,.i .i64 0] [(0,1,(.k 1)),(1,1,(.k 4)),(2,1,(.k 1)),(3,1,(.k 4)),(4,1,(.k 64)),(5,1,(.k 64))]),.q 80 (.build [.s [],.i .i64 0,.i .i64 0,.i .i64 0,.i .i64 0,.i .i64 0,.i .i64 0] [(0,1,(.c (.s [119,114,105,116,101]))),(1,6,(.t 79))]),.q 81 (.build [.s [],.i .i64 0,.i .i64 0,.i .i64 0,.i .i64 0,.i .i64 0,.i .i64 0,.s [],.i .i64 0,.i .i64 0,.i .i64 0,.i .i64 0,.i .i64 0,.i .i64 0,.s [],.i .i64 0,.i .i64 0,.i .i64 0,.i .i64 0,.i .i64 0,.i .i64 0,.s [],.i .i64 0,.i .i64 0,.i .i64 0,.i .i64 0,.i .i64 0,.i .i64 0,.s [],.i .i64 0,.i .i64 0,.i .i64 0,.i .i64 0,.i .i64 0,.i .i64 0,.s [],.i .i64 0,.i .i64 0,.i .i64 0,.i .i64 0,.i .i64 0,.i .i64 0,.s [],.i .i64 0,.i .i64 0,.i .i64 0,.i .i64 0,.i .i64 0,.i .i64 0,.s [],.i .i64 0,.i .i64 0,.i .i64 0,.i .i64 0,.i .i64 0,.i .i64 0,.s [],.i .i64 0,.i .i64 0,.i .i64 0,.i .i64 0,.i .i64 0,.i .i64 0,.s [],.i .i64 0,.i .i64 0,.i .i64 0,.i .i64 0,.i .i64 0,.i .i64 0,.s [],.i .i64 0,.i .i64 0,.i .i64 0,.i .i64 0,.i .i64 0,.i .i64 0,.s [],.i .i64 0,.i .i64 0,.i .i64 0,.i .i64 0,.i .i64 0,.i .i64 0,.s [],.i .i64 0,.i .i64 0,.i .i64 0,.i .i64 0,.i .i64 0,.i .i64 0,.s [],.i .i64 0,.i .i64 0,.i .i64 0,.i .i64 0,.i .i64 0,.i .i64 0,.s [],.i .i64 0,.i .i64 0,.i .i64 0,.i .i64 0,.i .i64 0,.i .i64 0,.s [],.i .i64 0,.i .i64 0,.i .i64 0,.i .i64 0,.i .i64 0,.i .i64 0,.s [],.i .i64 0,.i .i64 0,.i .i64 0,.i .i64 0,.i .i64 0,.i .i64 0,.s [],.i .i64 0,.i .i64 0,.i .i64 0,.i .i64 0,.i .i64 0,.i .i64 0,.s [],.i .i64 0,.i .i64 0,.i .i64 0,.i .i64 0,.i .i64 0,.i .i64 0,.s [],.i .i64 0,.i .i64 0,.i .i64 0,.i .i64 0,.i .i64 0,.i .i64 0,.s [],.i .i64 0,.i .i64 0,.i .i64 0,.i .i64 0,.i .i64 0,.i .i64 0,.s [],.i .i64 0,.i .i64 0,.i .i64 0,.i .i64 0,.i .i64 0,.i .i64 0,.s [],.i .i64 0,.i .i64 0,.i .i64 0,.i .i64 0,.i .i64 0,.i .i64 0,.s [],.i .i64 0,.i .i64 0,.i .i64 0,.i .i64 0,.i .i64 0,.i .i64 0,.s [],.i .i64 0,.i .i64 0,.i .i64 0,.i .i64 0,.i .i64 0,.i .i64 0,.s [],.i .i64 0,.i .i64 0,.i .i64 0,.i .i64 0,.i .i64 0,.i .i64 0,.s [],.i .i64 0,.i .i64 0,.i .i64 0,.i .i64 0,.i .i64 0,.i .i64 0,.s [],.i .i64 0,.i .i64 0,.i .i64 0,.i .i64 0,.i .i64 0,.i .i64 0,.s [],.i .i64 0,.i .i64 0,.i .i64 0,.i .i64 0,.i .i64 0,.i .i64 0,.s [],.i .i64 0,.i .i64 0,.i .i64 0,.i .i64 0,.i .i64 0,.i .i64 0,.s [],.i .i64 0,.i .i64 0,.i .i64 0,.i .i64 0,.i .i64 0,.i .i64 0,.s [],.i .i64 0,.i .i64 0,.i .i64 0,.i .i64 0,.i .i64 0,.i .i64 0,.s [],.i .i64 0,.i .i64 0,.i .i64 0,.i .i64 0,.i .i64 0,.i .i64 0,.s [],.i .i64 0,.i .i64 0,.i .i64 0,.i .i64 0,.i .i64 0,.i .i64 0,.s [],.i .i64 0,.i .i64 0,.i .i64 0,.i .i64 0,.i .i64 0,.i .i64 0,.s [],.i .i64 0,.i .i64 0,.i .i64 0,.i .i64 0,.i .i64 0,.i .i64 0,.s [],.i .i64 0,.i .i64 0,.i .i64 0,.i .i64 0,.i .i64 0,.i .i64 0,.s [],.i .i64 0,.i .i64 0,.i .i64 0,.i .i64 0,.i .i64 0,.i .i64 0,.s [],.i .i64 0,.i .i64 0,.i .i64 0,.i .i64 0,.i .i64 0,.i .i64 0,.s [],.i .i64 0,.i .i64 0,.i .i64 0,.i .i64 0,.i .i64 0,.i .i64 0] [(0,7,(.t 2)),(7,7,(.t 4)),(14,7,(.t 6)),(21,7,(.t 8)),(28,7,(.t 10)),(35,7,(.t 12)),(42,7,(.t 14)),(49,7,(.t 16)),(56,7,(.t 18)),(63,7,(.t 20)),(70,7,(.t 22)),(77,7,(.t 24)),(84,7,(.t 26)),(91,7,(.t 28)),(98,7,(.t 30)),(105,7,(.t 32)),(112,7,(.t 34)),(119,7,(.t 36)),(126,7,(.t 38)),(133,7,(.t 40)),(140,7,(.t 42)),(147,7,(.t 44)),(154,7,(.t 46)),(161,7,(.t 48)),(168,7,(.t 50)),(175,7,(.t 52)),(182,7,(.t 54)),(189,7,(.t 56)),(196,7,(.t 58)),(203,7,(.t 60)),(210,7,(.t 62)),(217,7,(.t 64)),(224,7,(.t 66)),(231,7,(.t 68)),(238,7,(.t 70)),(245,7,(.t 72)),(252,7,(.t 74)),(259,7,(.t 76)),(266,7,(.t 78)),(273,7,(.t 80))]),.u (.store 280 (.t 0) (.t 81))]) (.ret))⟩
set_option maxRecDepth 20000 in
theorem qm2(hc:qv P f ye=true):qe P f [] (.agg (qL.flatMap jf)):=by
 refine qe.mk hc rfl ?_;simp only[ye,vI,simprocAttr];simp only[↓vS,vT,simprocAttr,qL,jf,List.flatMap_cons,List.flatMap_nil,List.getD_cons_zero,List.getD_cons_succ,vZ]
def ka:IFn:=⟨[.tmp 3],.seq (.r [.q 2 (.box (.t 0)),.m 3 .F]) (.seq (.r [.f 4 0 2,.d 5 4,.d 6 1,.b 7 .eql 5 6,.n 3 7]) (.ret))⟩
theorem qku(hc:qv P f ka=true)(s:List UInt8)(x:List UInt8×List Int):qe P f [.agg (jf x),.pf [.s s] 0] (.b (decide (x.1=s))):=by
 refine qe.mk hc (by simp[qR,clo,jf]) ?_;simp only[ka,jf,vI,simprocAttr];simp only[↓vS,vT,simprocAttr,vZ]
def yY(a b:Nat):IFn:=⟨[.cell 2 7 true,.tmp 3],.seq (.r [.q 2 (.alloc [.s [],.i .i64 0,.i .i64 0,.i .i64 0,.i .i64 0,.i .i64 0,.i .i64 0]),.m 3 .F]) (.seq (.r [.l 6 a [],.q 4 (.alloc [.s [],.i .i64 0,.i .i64 0,.i .i64 0,.i .i64 0,.i .i64 0,.i .i64 0,.s [],.i .i64 0,.i .i64 0,.i .i64 0,.i .i64 0,.i .i64 0,.i .i64 0,.s [],.i .i64 0,.i .i64 0,.i .i64 0,.i .i64 0,.i .i64 0,.i .i64 0,.s [],.i .i64 0,.i .i64 0,.i .i64 0,.i .i64 0,.i .i64 0,.i .i64 0,.s [],.i .i64 0,.i .i64 0,.i .i64 0,.i .i64 0,.i .i64 0,.i .i64 0,.s [],.i .i64 0,.i .i64 0,.i .i64 0,.i .i64 0,.i .i64 0,.i .i64 0,.s [],.i .i64 0,.i .i64 0,.i .i64 0,.i .i64 0,.i .i64 0,.i .i64 0,.s [],.i .i64 0,.i .i64 0,.i .i64 0,.i .i64 0,.i .i64 0,.i .i64 0,.s [],.i .i64 0,.i .i64 0,.i .i64 0,.i .i64 0,.i .i64 0,.i .i64 0,.s [],.i .i64 0,.i .i64 0,.i .i64 0,.i .i64 0,.i .i64 0,.i .i64 0,.s [],.i .i64 0,.i .i64 0,.i .i64 0,.i .i64 0,.i .i64 0,.i .i64 0,.s [],.i .i64 0,.i .i64 0,.i .i64 0,.i .i64 0,.i .i64 0,.i .i64 0,.s [],.i .i64 0,.i .i64 0,.i .i64 0,.i .i64 0,.i .i64 0,.i .i64 0,.s [],.i .i64 0,.i .i64 0,.i .i64 0,.i .i64 0,.i .i64 0,.i .i64 0,.s [],.i .i64 0,.i .i64 0,.i .i64 0,.i .i64 0,.i .i64 0,.i .i64 0,.s [],.i .i64 0,.i .i64 0,.i .i64 0,.i .i64 0,.i .i64 0,.i .i64 0,.s [],.i .i64 0,.i .i64 0,.i .i64 0,.i .i64 0,.i .i64 0,.i .i64 0,.s [],.i .i64 0,.i .i64 0,.i .i64 0,.i .i64 0,.i .i64 0,.i .i64 0,.s [],.i .i64 0,.i .i64 0,.i .i64 0,.i .i64 0,.i .i64 0,.i .i64 0,.s [],.i .i64 0,.i .i64 0,.i .i64 0,.i .i64 0,.i .i64 0,.i .i64 0,.s [],.i .i64 0,.i .i64 0,.i .i64 0,.i .i64 0,.i .i64 0,.i .i64 0,.s [],.i .i64 0,.i .i64 0,.i .i64 0,.i .i64 0,.i .i64 0,.i .i64 0,.s [],.i .i64 0,.i .i64 0,.i .i64 0,.i .i64 0,.i .i64 0,.i .i64 0,.s [],.i .i64 0,.i .i64 0,.i .i64 0,.i .i64 0,.i .i64 0,.i .i64 0,.s [],.i .i64 0,.i .i64 0,.i .i64 0,.i .i64 0,.i .i64 0,.i .i64 0,.s [],.i .i64 0,.i .i64 0,.i .i64 0,.i .i64 0,.i .i64 0,.i .i64 0,.s [],.i .i64 0,.i .i64 0,.i .i64 0,.i .i64 0,.i .i64 0,.i .i64 0,.s [],.i .i64 0,.i .i64 0,.i .i64 0,.i .i64 0,.i .i64 0,.i .i64 0,.s [],.i .i64 0,.i .i64 0,.i .i64 0,.i .i64 0,.i .i64 0,.i .i64 0,.s [],.i .i64 0,.i .i64 0,.i .i64 0,.i .i64 0,.i .i64 0,.i .i64 0,.s [],.i .i64 0,.i .i64 0,.i .i64 0,.i .i64 0,.i .i64 0,.i .i64 0,.s [],.i .i64 0,.i .i64 0,.i .i64 0,.i .i64 0,.i .i64 0,.i .i64 0,.s [],.i .i64 0,.i .i64 0,.i .i64 0,.i .i64 0,.i .i64 0,.i .i64 0,.s [],.i .i64 0,.i .i64 0,.i .i64 0,.i .i64 0,.i .i64 0,.i .i64 0,.s [],.i .i64 0,.i .i64 0,.i .i64 0,.i .i64 0,.i .i64 0,.i .i64 0,.s [],.i .i64 0,.i .i64 0,.i .i64 0,.i .i64 0,.i .i64 0,.i .i64 0,.s [],.i .i64 0,.i .i64 0,.i .i64 0,.i .i64 0,.i .i64 0,.i .i64 0,.s [],.i .i64 0,.i .i64 0,.i .i64 0,.i .i64 0,.i .i64 0,.i .i64 0,.s [],.i .i64 0,.i .i64 0,.i .i64 0,.i .i64 0,.i .i64 0,.i .i64 0,.s [],.i .i64 0,.i .i64 0,.i .i64 0,.i .i64 0,.i .i64 0,.i .i64 0]),.u (.store 280 (.t 4) (.t 6))]) (.seq (.r [.q 7 (.slcA 40 7 (.t 4) none none none),.n 8 0,.l 9 b [.t 7,.t 8],.n 5 9]) (.seq (.seq (.r [.n 10 5,.w 11 .lss 10 0]) (.cond (.t 11) (.seq (.r [.q 12 (.build [.s [],.i .i64 0,.i .i64 0,.i .i64 0,.i .i64 0,.i .i64 0,.i .i64 0] []),.u (.store 7 (.t 2) (.t 12)),.m 3 .F]) (.ret)) (.skip))) (.seq (.r [.n 13 5,.q 14 (.iAddrA 40 7 (.t 4) (.t 13)),.v 15 7 14,.u (.store 7 (.t 2) (.t 15)),.m 3 .T]) (.ret)))))⟩
def qbY(p:List UInt8×List Int->Bool):AV:=match qL.find? p with|some x=>.tup [.agg (jf x),.b true]|none=>.tup [.agg [.s [],.i .i64 0,.i .i64 0,.i .i64 0,.i .i64 0,.i .i64 0,.i .i64 0],.b false]
set_option maxRecDepth 20000 in
theorem qle{g1 g2:Nat}(hc:qv P f (yY g1 g2)=true)(h1:qe P g1 [] (.agg (qL.flatMap jf)))(h2:qbz 7 P g2)(p:List UInt8×List Int->Bool)(g:Nat)(a c:List AV)(ha:qR a=true)(hcc:qR c=true)
  (hp:∀x ∈ qL,qe P g (a++([.agg (jf x)]++c)) (.b (p x))):qe P f [.fn g a c] (qbY p):=by
 refine qe.mk hc (by simp[qR,clo,ha,hcc]) ?_;simp only[yY,vI,simprocAttr];simp only[↓vS,vT,simprocAttr];refine h1.sc ?_;have hlen:(qL.flatMap jf).length=280:=by decide
 have hok:qA (qL.flatMap jf)=true:=by decide
 have hcl:qR (qL.flatMap jf)=true:=by decide
 generalize hT:qL.flatMap jf=T at hlen hok hcl;have htk:T.take 280=T:=List.take_of_length_le (by omega);simp only[↓vS,vT,simprocAttr,hlen,hok];refine (h2 jf p g a c qL qcZ ha hcc (by decide) hp).lend (vs':=[.fz 40 (qL.flatMap jf),.fn g a c]) ?_ rfl ?_
 ·refine .cons _ _ _ _ (.cut 7 rfl (Nat.le_refl _) ?_) (.cons _ _ _ _ (.fn _ _ _ _ _ (Frzs.self ha) (Frzs.self hcc)) .nil);rw[hT];simp[vw,hlen,htk,j0 hcl]
 rcases qbe p qL 0 with⟨e1,e2⟩|⟨i,x,e1,e2,e3,e4,e5⟩
 ·rw[e1];simp only[↓vS,vT,simprocAttr];simp[vZ,qbY,e2]
 ·have hi:i<40:=(zzS.1 e2).1;have hn:¬(i:Int)<0:=by omega
  have he:(T.drop (i*7)).take 7=jf x:=by rw[← hT];exact jh (f:=jf) (m:=7) qcZ e2
  have hb:i*7<=273:=by omega
  rw[e1,Nat.zero_add];simp only[↓vS,vT,simprocAttr,hn,hi,he,hb,hlen,jf];simp[vZ,qbY,e4,jf]
def yd(a b:Nat):IFn:=⟨[.tmp 2],.seq (.r [.q 1 (.box (.t 0)),.m 2 .F]) (.seq (.r [.q 6 (.mkF a [] [.t 1]),.l 7 b [.t 6],.n 5 7,.x 8 5 0,.x 9 5 1,.q 3 (.alloc [.s [],.i .i64 0,.i .i64 0,.i .i64 0,.i .i64 0,.i .i64 0,.i .i64 0]),.u (.store 7 (.t 3) (.t 8)),.n 4 9]) (.seq (.r [.n 10 4,.n 2 10]) (.ret)))⟩
def x3(s:List UInt8):Bool:=(qL.find? (fun x=>decide (x.1=s))).isSome
theorem qlJ{g1 g2:Nat}(hc:qv P f (yd g1 g2)=true)(h1:∀s x,qe P g1 [.agg (jf x),.pf [.s s] 0] (.b (decide (x.1=s))))
  (h2:∀(p:List UInt8×List Int->Bool) (g:Nat) (a c:List AV),qR a=true->qR c=true->(∀x ∈ qL,qe P g (a++([.agg (jf x)]++c)) (.b (p x)))->qe P g2 [.fn g a c] (qbY p)) (s:List UInt8):qe P f [.s s] (.b (x3 s)):=by
 refine qe.mk hc rfl ?_;simp only[yd,vI,simprocAttr];simp only[↓vS,vT,simprocAttr];refine (h2 (fun x=>decide (x.1=s)) g1 [] [.pf [.s s] 0] rfl rfl (fun x _=>h1 s x)).lend (vs':=[.fn g1 [] [.pf [.s s] 0]]) ?_ ?_ ?_
 ·simp[vZ,vP,Tr.get_set]
 ·unfold qbY;split<;>rfl
 unfold qbY x3;cases qL.find? (fun x=>decide (x.1=s)) with
 | none =>
  simp only[↓vS,vT,simprocAttr];simp[vZ]
 | some x =>
  simp only[↓vS,vT,simprocAttr,jf];simp[vZ]
def okC(c:GCall):Bool:=x3 c.name&&yJ c.act
noncomputable def zD:Option GCall->List GCall->Bool
 | _,[]=>true
 | o,c::l=>okC c&&(o.elim true fun b=>ltS b.name c.name)&&zD (some c) l
noncomputable def xo(l:GList):Bool:=decide (l.mode<=2)&&(decide (l.mode≠0)||decide (l.calls=[]))&&zD none l.calls
def wS(a b:Nat):ICode:=.seq (.seq (.r [.f 19 1 1,.d 20 19,.e 21 20,.m 22 (.k 0)]) (.blk 0 (.loop (.seq (.r [.s 23 22 21]) (.seq (.cond (.t 23) (.skip) (.exit 0)) (.seq (.blk 1 (.seq (.r [.n 24 22,.i 25 2 20 22,.v 26 2 25,.q 4 (.alloc [.s [],.i .u32 0]),.n 3 24,.u (.store 2 (.t 4) (.t 26))]) (.seq (.reg true [.f 27 0 4,.d 28 27,.l 29 a [.t 28],.q 30 (.un .not (.t 29)),.n 31 30,.h 32 1 4 31 false,.j 33 32 31 false,⟨(some 34),.callF b [.t 33],(some (31,false))⟩,.g 35 (.un .not (.t 34)) 31 false,.o 36 31 35,.n 37 36,.z 38 3 37,.g 39 (.bin .gtr (.t 38) (.k 0)) 37 false,.z 40 39 37,.h 41 1 1 40 true,.j 42 41 40 true,.y 43 3 40,.g 44 (.bin .sub (.t 43) (.k 1)) 40 true,.g 45 (.iAddrS 2 (.t 42) (.t 44)) 40 true,.h 46 0 45 40 true,.j 47 46 40 true,.h 48 0 4 40 true,.j 49 48 40 true,.g 50 (.bin .geq (.t 47) (.t 49)) 40 true,.g 51 (.pick (.t 40) (.t 50) .F) 37 false,.o 52 37 51]) (.cond (.t 52) (.seq (.r [.m 2 .F]) (.ret)) (.skip))))) (.r [.a 53 22 1,.n 22 53]))))))) (.seq (.r [.m 2 .T]) (.ret))
def Zj(a b:Nat):IFn:=⟨[.tmp 2],.seq (.r [.q 1 (.box (.t 0)),.m 2 .F]) (.seq (.seq (.r [.f 5 0 1,.d 6 5,.q 7 (.bin .gtr (.t 6) (.c (.i .u8 2))),.n 8 7,.h 9 0 1 8 false,.j 10 9 8 false,.g 11 (.bin .eql (.t 10) (.c (.i .u8 0))) 8 false,.z 12 11 8,.h 13 1 1 12 true,.j 14 13 12 true,.g 15 (.len false (.t 14)) 12 true,.g 16 (.bin .gtr (.t 15) (.k 0)) 12 true,.g 17 (.pick (.t 12) (.t 16) .F) 8 false,.o 18 8 17]) (.cond (.t 18) (.seq (.r [.m 2 .F]) (.ret)) (.skip))) (.cut (wS a b)))⟩
theorem qgW{g1 g2:Nat}(h1:∀s,qe P g1 [.s s] (.b (x3 s)))(h2:∀n,qe P g2 [.i .u32 n] (.b (yJ n)))(l:GList)(hl:l.calls.length<=100000){t':Tr AV}{h':Hp}(hw:Wk 0 t' h' (mkT [(1,.ptr 0 0),(2,.b false)]) (mkH 0 [.cells 0 true false (qG l)])) :
  S P 0 (wS g1 g2) (js [.tmp 2] fun v' h'=>Frz h' v' (.b (zD none l.calls))) t' h':=by
 refine S.weak hw (qJ ?_);simp only[wS,qG,vI,simprocAttr];simp only[↓vS,vT,simprocAttr]
 refine SL.loop (α:=Nat) (fun j=>[(1,.ptr 0 0),(2,.b false),(20,.fz l.calls.length (rC l.calls)),(21,.i .i64 l.calls.length),(22,.i .i64 j)]) (fun _=>[.cells 0 true false (qG l)])
  (fun j=>j<=l.calls.length∧zD none l.calls=zD (if j=0 then none else l.calls[j-1]?) (l.calls.drop j)) (fun j=>l.calls.length-j) 0 [0] ?_ ?_ ?_ rfl ?_ ?_
 ·simp[vw,qc]
 ·simp[vw,qG]
 ·simp
 ·exact⟨Nat.zero_le _,rfl⟩
 rintro j ⟨hj,hI⟩ G ih;simp only[vI,simprocAttr,qG]
 by_cases hlt:j<l.calls.length
 ·have hx:l.calls[j]?=some l.calls[j]:=zzE hlt;have he:=qak hx;have hb:=QK hlt;have hw:IntKind.wrap .i64 ((j:Int)+1)=((j+1:Nat):Int):=by rw[qz (by omega) (by omega)];omega
  rw[List.drop_eq_getElem_cons hlt,zD] at hI;have hnx:l.calls[j]?=some l.calls[j]:=hx;generalize hc0:l.calls[j]=c at hI he hx;simp only[↓vS,vT,simprocAttr,hlt,hb,he,vc];refine xy ?_;simp only[↓vS,vT,simprocAttr];refine (h1 c.name).pc ?_;cases hk:x3 c.name with
  | false =>
   have hw:zD none l.calls=false:=by rw[hI];simp[okC,hk]
   simp only[↓vS,vT,simprocAttr];simp[vZ,hw]
  | true =>
   simp only[↓vS,vT,simprocAttr];refine (h2 c.act).pc ?_;cases hac:yJ c.act with
   | false =>
    have hw:zD none l.calls=false:=by rw[hI];simp[okC,hac]
    simp only[↓vS,vT,simprocAttr];simp[vZ,hw]
   | true =>
    have hok:okC c=true:=by simp[okC,hk,hac]
    by_cases h0:j=0
    ·subst h0;have hn:¬(0:Int)<((0:Nat):Int):=by decide
     simp only[↓vS,vT,simprocAttr,hn,hw];refine ih 1 ⟨by omega,?_⟩ (by omega) _ _ (Wk.mk _ _ [0] ?_ ?_ ?_ rfl)
     ·rw[hI,hok];simp[hx]
     ·simp[vw,qc];exact qz (by decide) (by decide)
     ·simp[vw,qG]
     ·simp
    ·have hp:(0:Int)<(j:Int):=by omega
     have hpl:j-1<l.calls.length:=by omega
     have hy:l.calls[j-1]?=some l.calls[j-1]:=zzE hpl;have hw2:IntKind.wrap .i64 ((j:Int)-1)=((j-1:Nat):Int):=by rw[qz (by omega) (by omega)];omega
     have g0:(rC l.calls)[(j-1)*2]?=some (.s l.calls[j-1].name):=kD hy (i:=0) (by decide);rw[if_neg h0,hy] at hI;cases hlt2:ltS l.calls[j-1].name c.name with
     | false =>
      have hwf:zD none l.calls=false:=by rw[hI];simp[hlt2]
      simp only[↓vS,vT,simprocAttr,hp,hw2,hpl,g0,hlt2];simp[vZ,hwf]
     | true =>
      simp only[↓vS,vT,simprocAttr,hp,hw2,hpl,g0,hlt2,hw];refine ih (j+1) ⟨by omega,?_⟩ (by omega) _ _ (Wk.mk _ _ [0] ?_ ?_ ?_ rfl)
      ·rw[hI,hok];simp[hlt2,hx]
      ·simp[vw,qc]
      ·simp[vw,qG]
      ·simp
 ·rw[List.drop_of_length_le (by omega),zD] at hI;simp only[↓vS,vT,simprocAttr,hlt];simp[vZ,hI]
theorem qoo{g1 g2:Nat}(hc:qv P f (Zj g1 g2)=true)(h1:∀s,qe P g1 [.s s] (.b (x3 s)))(h2:∀n,qe P g2 [.i .u32 n] (.b (yJ n)))(l:GList)(hl:l.calls.length<=100000):qe P f [.agg (qG l)] (.b (xo l)):=by
 refine qe.mk hc rfl ?_;simp only[Zj,qG,vI,simprocAttr]
 by_cases m1:2<l.mode
 ·have hw:xo l=false:=by simp[xo];omega
  simp only[↓vS,vT,simprocAttr,m1];simp[vZ,hw]
 have tail:(l.mode≠0∨l.calls=[])->xo l=zD none l.calls:=fun h=>by
  have:(decide (l.mode<=2)&&(decide (l.mode≠0)||decide (l.calls=[])))=true:=by
   simp only[Bool.and_eq_true,Bool.or_eq_true,decide_eq_true_eq];exact⟨by omega,h⟩
  unfold xo;rw[this];rfl
 by_cases m2:l.mode=0
 ·by_cases m3:(0:Int)<l.calls.length
  ·have hne:l.calls≠[]:=by intro h;rw[h] at m3;simp at m3
   have hw:xo l=false:=by simp[xo,m2,hne]
   simp only[↓vS,vT,simprocAttr,m1,m2,m3];simp[vZ,hw]
  ·have hz:l.calls=[]:=List.eq_nil_of_length_eq_zero (by omega);rw[tail (.inr hz)];simp only[↓vS,vT,simprocAttr,m1,m2,m3];refine qgW h1 h2 l hl (Wk.mk _ _ [0] ?_ ?_ ?_ rfl)
   ·simp[vw]
   ·simp[vw,qG,m2]
   ·simp
 ·rw[tail (.inl m2)];simp only[↓vS,vT,simprocAttr,m1,m2];refine qgW h1 h2 l hl (Wk.mk _ _ [0] ?_ ?_ ?_ rfl)
  ·simp[vw]
  ·simp[vw,qG]
  ·simp
def qpR(P:Program)(f:Nat):Prop:=∀l:GList,l.calls.length<=100000->qe P f [.agg (qG l)] (.b (xo l))




end Go.Kc
end
section
namespace Go.Kc
variable [Cur]
variable (E:List UInt8->List (List UInt8)×Int)
end Go.Kc
end
section
namespace Go.Kc
variable [Cur]
theorem qdW:∀a:List UInt8,ltS a a=false
 | []=>rfl
 | c::x=>by rw[qcR,if_neg (UInt8.lt_irrefl c),if_pos rfl];exact qdW x
theorem qbj:∀{a b c:List UInt8},ltS a b=true->ltS b c=true->ltS a c=true
 | _,[],[],_,h2=>by simp[qjj] at h2
 | _,_::_,[],_,h2=>by simp[qcS] at h2
 | [],_,_::_,_,_=>rfl
 | _::_,[],_::_,h1,_=>by simp[qcS] at h1
 | a::x,b::y,c::z,h1,h2=>by
  rw[qcR] at h1 h2 ⊢;simp only[UInt8.lt_iff_toNat_lt,← UInt8.toNat_inj] at h1 h2 ⊢
  by_cases e1:a.toNat<b.toNat
  ·by_cases e2:b.toNat<c.toNat
   ·rw[if_pos (by omega)]
   ·rw[if_neg e2] at h2;split at h2
    ·rw[if_pos (by omega)]
    ·cases h2
  ·rw[if_neg e1] at h1;split at h1
   ·rename_i e3
    by_cases e2:b.toNat<c.toNat
    ·rw[if_pos (by omega)]
    ·rw[if_neg e2] at h2;split at h2
     ·rw[if_neg (by omega),if_pos (by omega)];exact qbj h1 h2
     ·cases h2
   ·cases h1
theorem qlV{a b:List UInt8}(h:ltS a b=true):a≠b:=by
 intro e;rw[e,qdW] at h;cases h
def Up(l:List GCall):Prop:=l.Pairwise fun a b=>ltS a.name b.name=true
theorem qa1:∀(o:Option GCall) (l:List GCall),zD o l=true↔((∀c ∈ l,okC c=true)∧Up l∧∀b,o=some b->∀c ∈ l,ltS b.name c.name=true)
 | o,[]=>by simp[zD,Up]
 | o,c::l=>by
  have ih:=qa1 (some c) l;simp only[zD,Bool.and_eq_true,ih,Up,List.pairwise_cons,List.mem_cons,forall_eq_or_imp];constructor
  ·rintro⟨⟨h1,h2⟩,h3,h4,h5⟩;refine⟨⟨h1,h3⟩,⟨h5 c rfl,h4⟩,?_⟩;rintro b rfl;exact⟨h2,fun d hd=>qbj h2 (h5 c rfl d hd)⟩
  ·rintro⟨⟨h1,h3⟩,⟨h5,h4⟩,h6⟩;refine⟨⟨h1,?_⟩,h3,h4,?_⟩
   ·cases o with
    | none=>rfl
    | some b=>exact (h6 b rfl).1
   ·rintro b hb;cases hb;exact h5
theorem qgV(l:GList):xo l=true↔(l.mode<=2∧(l.mode≠0∨l.calls=[]))∧(∀c ∈ l.calls,okC c=true)∧Up l.calls:=by
 unfold xo;rw[Bool.and_eq_true,Bool.and_eq_true,Bool.or_eq_true,decide_eq_true_eq,decide_eq_true_eq,decide_eq_true_eq,qa1];simp
theorem qdk{c:GCall}{l:List GCall}:xl (c::l) c.name=some c:=by unfold xl;rw[List.find?_cons];simp
theorem qdl{c:GCall}{l:List GCall}{t:List UInt8}(h:t≠c.name):xl (c::l) t=xl l t:=by unfold xl;rw[List.find?_cons];simp[Ne.symm h]
theorem qdo{s:List UInt8}(h:x3 s=true):s ∈ qL.map (·.1):=by
 unfold x3 at h;obtain⟨x,hx⟩:=Option.isSome_iff_exists.1 h;have h1:=List.mem_of_find?_eq_some hx;have h2:=List.find?_some hx;exact List.mem_map.2 ⟨x,h1,of_decide_eq_true h2⟩
end Go.Kc
end
section
namespace Go.Kc
variable [Cur]
variable {P:Program} {f:Nat}
end Go.Kc
end
section
namespace Go.Kc
variable [Cur]
variable (E:List UInt8->List (List UInt8)×Int)
variable {E}
end Go.Kc
end
section
namespace Go.Kc
variable [Cur]
variable {P:Program} {f:Nat}


def QW(P:Program)(f:Nat):Prop:=∀(l:GList) (s:List UInt8),l.calls.length<=100000->qe P f [.agg (qG l),.s s] (.tup [.i .u32 (match xl l.calls s with|some c=>c.act|none=>0),.b (xl l.calls s).isSome])
end Go.Kc
end
section
namespace Go.Kc
variable [Cur]
variable (E:List UInt8->List (List UInt8)×Int)
end Go.Kc
end
section
namespace Go.Kc
variable [Cur]
variable {P:Program} {f:Nat}
def qaQ(a:Asg)(n:GNote):GNote:=⟨a.file,a.line,n.err,n.text⟩


def qk9(P:Program)(f:Nat):Prop:=∀l:GList,l.calls.length<=100000->qe P f [.agg (qG l),.agg (qG l)] (.b true)
end Go.Kc
end
