/- Part 6 of the abstract machine and of the functions' walks. Conditions: with each theorem. -/
import Derived.Test.YtpgbjeabmkbmbaaGK5
import Derived.Laws.Externs
import Derived.Lib.Overlaps
import GoSem.ClaimChange
import Derived.ChangeArms
import Derived.ReadAgain
import Derived.ChangeOld
import Derived.ChangeBears
import Derived.OpenShut
import Derived.RecoverIn
import Derived.SizedLaws
import Derived.Lib.Join
import Derived.Below
import Derived.Lib.ItoaLen
set_option maxHeartbeats 4000000
set_option linter.unusedSectionVars false
set_option linter.unusedSimpArgs false
set_option linter.unusedVariables false
set_option linter.unnecessarySimpa false
set_option linter.defProp false
section
namespace Go.Kc
variable {P:Program} {h:Hp}

def qdd(h:Hp)(g:Nat->Nat)(m:Nat):List Nat->List Blk->Prop
 | [],[]=>True
 | b::at',.cells e true a cs::xs=>(qbu m cs=true∧evB (h.tr.get b) (fun y=>y=Blk.cells e true a (qa8 g cs))∧h.fl<=b∧b<h.sz)∧qdd h g m at' xs
 | _,_=>False
theorem qdd.get{g:Nat->Nat}{m:Nat}:∀{at':List Nat} {bs:List Blk},qdd h g m at' bs->at'.length=bs.length∧∀(i:Nat) (x:Blk),bs[i]?=some x->∃b e a cs,at'[i]?=some b∧x = .cells e true a cs∧qbu m cs=true∧h.tr.get b=some (.cells e true a (qa8 g cs))∧h.fl<=b∧b<h.sz
 | [],[],_=>⟨rfl,by simp⟩
 | [],_::_,hh=>by simp[qdd] at hh
 | _::_,[],hh=>by simp[qdd] at hh
 | b::at',.dead::xs,hh=>by simp[qdd] at hh
 | b::at',.map _::xs,hh=>by simp[qdd] at hh
 | b::at',.cells e false a cs::xs,hh=>by simp[qdd] at hh
 | b::at',.cells e true a cs::xs,hh=>by
  obtain⟨⟨h1,⟨y,h2,h3⟩,h4,h5⟩,h6⟩:=hh;subst h3;obtain⟨h7,h8⟩:=qdd.get h6;refine⟨by simp[h7],fun i x hx=>?_⟩
  cases i with
  | zero=>simp at hx;subst hx;exact⟨b,e,a,cs,rfl,rfl,h1,h2,h4,h5⟩
  | succ i=>simpa using h8 i x (by simpa using hx)
theorem Lent.of{at':List Nat}{bs:List Blk}(hn:at'.Nodup)(hl:qdd h (gAt at' h.sz) bs.length at' bs):Lent h at' bs:=by
 obtain⟨h1,h2⟩:=hl.get;refine⟨h1,hn,fun i x hx=>?_⟩
 obtain⟨b,e,a,cs,q1,q2,q3,q4,q5,q6⟩:=h2 i x hx;have hi:i<at'.length:=(zzS.1 q1).1
 have e1:gAt at' h.sz i=b:=by
  rw[qcO hi];exact (zzS.1 q1).2
 exact⟨e,a,cs,q2,q3,by rw[e1];exact q4,by rw[e1];exact q5,by rw[e1];exact q6⟩
theorem qo8{g:Nat->Nat}{m:Nat}:qdd h g m [] []↔True:=Iff.rfl
theorem qm0{g:Nat->Nat}{m b e:Nat}{at':List Nat}{a:Bool}{cs:List AV}{xs:List Blk}:qdd h g m (b::at') (.cells e true a cs::xs)↔(qbu m cs=true∧evB (h.tr.get b) (fun y=>y=Blk.cells e true a (qa8 g cs))∧h.fl<=b∧b<h.sz)∧qdd h g m at' xs:=Iff.rfl
theorem qar{s f b:Nat}{tr:Tr Blk}{x:Blk}:Hp.put ⟨s,f,tr⟩ b x=⟨s,f,tr.set b x⟩:=rfl
theorem qko{xs:List Blk}:qcW h [] xs=h:=by simp[qcW]
theorem qir{b:Nat}{at':List Nat}{x:Blk}{xs:List Blk}:qcW h (b::at') (x::xs)=qcW (h.put b x) at' xs:=rfl
theorem qsx{g:Nat->Nat}{v:AV}(hv:clo v=true):rnv g v=v:=by
 have key:(∀v:AV,clo v=true->rnv g v=v):=fun v=>by
  refine AV.rec (motive_1:=fun v=>clo v=true->rnv g v=v) (motive_2:=fun vs=>qF vs=true->qa8 g vs=vs) ?_ ?_ ?_ ?_ ?_ ?_ ?_ ?_ ?_ ?_ ?_ ?_ ?_ ?_ ?_ ?_ ?_ ?_ ?_ ?_ ?_ ?_ ?_ ?_ ?_ ?_ v
  all_goals first
   | (intros;rfl)
   | (intros;rename_i hh;simp[clo] at hh;done)
   | skip
  ·intro f a c h1 h2 hh;simp only[clo,Bool.and_eq_true] at hh;simp only[rnv,h1 hh.1,h2 hh.2]
  ·intro t v h1 hh;simp only[clo] at hh;simp only[rnv,h1 hh]
  ·intro cs h1 hh;simp only[clo] at hh;simp only[rnv,h1 hh]
  ·intro cs h1 hh;simp only[clo] at hh;simp only[rnv,h1 hh]
  ·intro v vs h1 h2 hh;simp only[qF,Bool.and_eq_true] at hh;simp only[qa8,h1 hh.1,h2 hh.2]
 exact key v hv
theorem qaI{g:Nat->Nat}:∀{vs:List AV},qF vs=true->qa8 g vs=vs
 | [],_=>rfl
 | v::vs,h=>by
  simp only[qF,Bool.and_eq_true] at h;simp only[qa8,qsx h.1,qaI h.2]
def qpg:Blk->Bool
 | .dead=>false
 | _=>true
theorem qnc{b o:Nat}{k:AV->Prop}:qgA (.ptr b o) k↔k (.ptr b o):=Iff.rfl
theorem qpu{cs:List AV}{o:Nat}{k:AV->Prop}:qgA (.pf cs o) k↔k (.pf cs o):=Iff.rfl
theorem qnb{b:Nat}{k:AV->Prop}:qgA (.map b) k↔k (.map b):=Iff.rfl
theorem qpv{b:Nat}{k:AV->Prop}:qgA (.yl b) k↔k (.yl b):=Iff.rfl
theorem qpt{f:Nat}{a c:List AV}{k:AV->Prop}:qgA (.fn f a c) k↔k (.fn f a c):=Iff.rfl
theorem qsT{C:qU}{ops:List ROp}{Q:Tr AV->Hp->Prop}{t:Tr AV}{s f f':Nat}{tr:Tr Blk}:VR' C ops Q t (Hp.down ⟨s,f,tr⟩ f')↔VR' C ops Q t ⟨s,f',tr⟩:=Iff.rfl
theorem qyB{C:qU}{ops:List ROp}{Q:Tr AV->Hp->Prop}{t:Tr AV}{s f:Nat}{tr:Tr Blk}{dst:Option Nat}{o:IOp}:VR' C (⟨dst,.op o,none⟩::ops) Q t ⟨s,f,tr⟩ ↔
  if wr (.op o)=true then opK qt o t ⟨s,f,tr⟩ (fun v h'=>qab t dst v (fun t'=>VR' C ops Q t' h')) else opK qt o t ⟨s,s,tr⟩ (fun v h'=>qab t dst v (fun t'=>VR' C ops Q t' (h'.down f))):=qtC
theorem qwn{C:qU}{Q:Tr AV->Hp->Prop}{t:Tr AV}{s f:Nat}{tr:Tr Blk}:VR' C [] Q t ⟨s,f,tr⟩↔Q t ⟨s,f,tr⟩:=Iff.rfl
theorem qqO{m:Nat}:∀{v:AV},clo v=true->bnd m v=true:=by
 intro v;refine AV.rec (motive_1:=fun v=>clo v=true->bnd m v=true) (motive_2:=fun vs=>qF vs=true->qbu m vs=true) ?_ ?_ ?_ ?_ ?_ ?_ ?_ ?_ ?_ ?_ ?_ ?_ ?_ ?_ ?_ ?_ ?_ ?_ ?_ ?_ ?_ ?_ ?_ ?_ ?_ ?_ v
 all_goals first
  | (intros;rfl)
  | (intros;rename_i hh;simp[clo] at hh;done)
  | skip
 ·intro f a c h1 h2 hh;simp only[clo,Bool.and_eq_true] at hh;simp only[bnd,h1 hh.1,h2 hh.2,Bool.and_self]
 ·intro t v h1 hh;simp only[clo] at hh;simp only[bnd,h1 hh]
 ·intro cs h1 hh;simp only[clo] at hh;simp only[bnd,h1 hh]
 ·intro cs h1 hh;simp only[clo] at hh;simp only[bnd,h1 hh]
 ·intro v vs h1 h2 hh;simp only[qF,Bool.and_eq_true] at hh;simp only[qbu,h1 hh.1,h2 hh.2,Bool.and_self]
theorem qc3{m:Nat}:∀{vs:List AV},qF vs=true->qbu m vs=true
 | [],_=>rfl
 | v::vs,h=>by
  simp only[qF,Bool.and_eq_true] at h;simp only[qbu,qqO h.1,qc3 h.2,Bool.and_self]
end Go.Kc
end
section
namespace Go.Kc
def vQ:=And.intro @List.map_cons.{0,0} (And.intro @List.map_nil.{0,0} (And.intro @Bool.and_true (And.intro @Bool.true_and (And.intro @Bool.and_self (And.intro @and_self (And.intro @Tr.get_set (And.intro @decide_eq_true_eq (And.intro @Bool.false_eq_true (And.intro @true_and (And.intro @and_true (And.intro @List.getElem?_cons_zero.{0} (And.intro @List.getElem?_cons_succ.{0} (And.intro @List.length_cons.{0} (And.intro @List.length_nil.{0} (And.intro @List.take_zero.{0} (And.intro @List.take_succ_cons.{0} (And.intro @List.drop_zero.{0} (And.intro @List.drop_succ_cons.{0} (And.intro @List.drop_nil.{0} (And.intro @List.take_nil.{0} (And.intro @List.nil_append.{0} (And.intro @List.cons_append.{0} (And.intro @List.append_nil.{0} (And.intro @Nat.zero_add (And.intro @Nat.add_zero (And.intro @Nat.le_refl (And.intro @Nat.zero_le (And.intro @Int.toNat_natCast (And.intro @Int.natCast_nonneg (And.intro @Int.ofNat_lt (And.intro @Bool.not_true (And.intro @Bool.not_false (And.intro @decide_true (And.intro @decide_false (And.intro @Bool.xor_false (And.intro @Bool.xor_true (And.intro @Bool.false_xor (And.intro @Bool.true_xor (And.intro @Nat.lt_irrefl (And.intro @List.replicate_succ.{0} (And.intro @List.replicate_zero.{0} (And.intro @List.flatten_cons.{0} (And.intro @List.flatten_nil.{0} (And.intro @Nat.succ_eq_add_one (And.intro @Option.isNone_none.{0} (And.intro @Option.isSome_none.{0} (And.intro @Bool.false_and (And.intro @Bool.and_false (And.intro @Nat.sub_zero (And.intro @qko (And.intro @qir (And.intro @qar (And.intro @qrG (And.intro @qgU (And.intro @qey (And.intro @qdI @List.append_assoc.{0}))))))))))))))))))))))))))))))))))))))))))))))))))))))))
def vX:=And.intro @qsT (And.intro @qyB (And.intro @qwn (And.intro @qpS (And.intro @qpT (And.intro @qnj (And.intro @qpP (And.intro @qnc (And.intro @qpu (And.intro @qnb (And.intro @qpv @qpt))))))))))
def vU:=And.intro @shb.eq_1 (And.intro @shb.eq_2 (And.intro @shb.eq_3 (And.intro @shv.eq_1 (And.intro @shv.eq_2 (And.intro @shv.eq_3 (And.intro @shv.eq_4 (And.intro @shv.eq_5 (And.intro @shv.eq_6 (And.intro @shv.eq_7 (And.intro @shv.eq_8 (And.intro @shv.eq_9 (And.intro @shv.eq_10 (And.intro @qdT.eq_1 @qdT.eq_2)))))))))))))
def vY:=And.intro vU (And.intro @qb6.eq_1 (And.intro @qb6.eq_2 (And.intro @cellsOf.eq_1 (And.intro @cellsOf.eq_2 (And.intro @wr.eq_1 (And.intro @wr.eq_2 (And.intro @wr.eq_3 (And.intro @wr.eq_4 (And.intro @wr.eq_5 (And.intro @wr.eq_6 (And.intro @wr.eq_7 (And.intro @wr.eq_8 (And.intro @wr.eq_9 (And.intro @wr.eq_10 (And.intro @wr.eq_11 (And.intro @qay.eq_1 @qay.eq_2))))))))))))))))
def vS:=And.intro vA (And.intro vE (And.intro vO (And.intro vB (And.intro vF (And.intro vM (And.intro vR vX))))))
def vT:=And.intro vY (And.intro @quf (And.intro @qug (And.intro vP (And.intro vC (And.intro vQ (And.intro @ql6 (And.intro @qku (And.intro not_false_eq_true (And.intro @eq_self.{1} @Int.cast_ofNat_Int)))))))))
def vw:=And.intro vW (And.intro @qrc (And.intro @qxJ (And.intro @qxI (And.intro @qup (And.intro @qrd (And.intro @qsQ (And.intro @qqf (And.intro @qk2 (And.intro @qtX (And.intro @qim (And.intro @qm8 (And.intro @qk3 (And.intro @qkh (And.intro vP (And.intro vZ @Tr.get_set)))))))))))))))
def vK:=And.intro (And.intro @qb4.eq_1 (And.intro @rnb.eq_1 (And.intro @rnb.eq_2 (And.intro @rnb.eq_3 (And.intro @qa8.eq_1 (And.intro @qa8.eq_2 (And.intro @rnv.eq_1 (And.intro @rnv.eq_2 (And.intro @rnv.eq_3 (And.intro @rnv.eq_4 (And.intro @rnv.eq_5 (And.intro @rnv.eq_6 (And.intro @rnv.eq_7 (And.intro @rnv.eq_8 (And.intro @rnv.eq_9 (And.intro @rnv.eq_10 @gAt.eq_1)))))))))))))))) (And.intro @List.cons_append.{0} (And.intro @List.nil_append.{0} (And.intro @List.length_cons.{0} (And.intro @List.length_nil.{0} (And.intro Nat.zero_add (And.intro @List.take_succ_cons.{0} (And.intro @List.take_zero.{0} (And.intro @List.drop_succ_cons.{0} (And.intro @List.drop_zero.{0} (And.intro @List.map_cons.{0,0} (And.intro @List.map_nil.{0,0} (And.intro @List.getD_cons_zero.{0} (And.intro @List.getD_cons_succ.{0} (And.intro @qir (And.intro @qko (And.intro @qdI (And.intro @qey (And.intro @qar @qgU))))))))))))))))))
def vJ:=And.intro vU (And.intro @qdI (And.intro @qey (And.intro @qgU (And.intro @ql6 (And.intro @qku (And.intro @List.map_cons.{0,0} (And.intro @List.map_nil.{0,0} (And.intro @qtr (And.intro @qlx Nat.zero_add)))))))))
def vL:=And.intro vU (And.intro (And.intro @qbu.eq_1 (And.intro @qbu.eq_2 (And.intro @bnd.eq_1 (And.intro @bnd.eq_2 (And.intro @bnd.eq_3 (And.intro @bnd.eq_4 (And.intro @bnd.eq_5 (And.intro @bnd.eq_6 (And.intro @bnd.eq_7 (And.intro @bnd.eq_8 (And.intro @bnd.eq_9 (And.intro @bnd.eq_10 (And.intro @qa8.eq_1 (And.intro @qa8.eq_2 (And.intro @rnv.eq_1 (And.intro @rnv.eq_2 (And.intro @rnv.eq_3 (And.intro @rnv.eq_4 (And.intro @rnv.eq_5 (And.intro @rnv.eq_6 (And.intro @rnv.eq_7 (And.intro @rnv.eq_8 (And.intro @rnv.eq_9 (And.intro @rnv.eq_10 @gAt.eq_1)))))))))))))))))))))))) (And.intro @qm0 (And.intro @qo8 (And.intro @qdI (And.intro @qey @qgU)))))
def ROp.q(n:Nat)(o:IOp):ROp:=⟨some n,.op o,none⟩
def ROp.m(n:Nat)(x:O):ROp:=⟨some n,.op (.mov x),none⟩
def ROp.g(n:Nat)(o:IOp)(c:Nat)(b:Bool):ROp:=⟨some n,.op o,some (c,b)⟩
def ROp.l(n f:Nat)(xs:List O):ROp:=⟨some n,.callF f xs,none⟩
def ROp.u(o:IOp):ROp:=⟨none,.op o,none⟩
def ICode.r(ops:List ROp):ICode:=.reg false ops
def O.k(n:Int):O:=.c (.i .i64 n)
def ROp.n(n a:Nat):ROp:=⟨some n,.op (.mov (.t a)),none⟩
def ROp.d(n a:Nat):ROp:=⟨some n,.op (.load1 (.t a)),none⟩
def ROp.v(n k a:Nat):ROp:=⟨some n,.op (.loadN k (.t a)),none⟩
def ROp.f(n k a:Nat):ROp:=⟨some n,.op (.fAddr k (.t a)),none⟩
def ROp.i(n k a b:Nat):ROp:=⟨some n,.op (.iAddrS k (.t a) (.t b)),none⟩
def ROp.a(n a:Nat)(k:Int):ROp:=⟨some n,.op (.bin .add (.t a) (.c (.i .i64 k))),none⟩
def ROp.b(n:Nat)(o:BinOp)(a b:Nat):ROp:=⟨some n,.op (.bin o (.t a) (.t b)),none⟩
def ROp.w(n:Nat)(o:BinOp)(a:Nat)(k:Int):ROp:=⟨some n,.op (.bin o (.t a) (.c (.i .i64 k))),none⟩
def ROp.e(n a:Nat):ROp:=⟨some n,.op (.len false (.t a)),none⟩
def ROp.x(n a k:Nat):ROp:=⟨some n,.op (.ext (.t a) k),none⟩
def ROp.s(n a b:Nat):ROp:=⟨some n,.op (.bin .lss (.t a) (.t b)),none⟩
def ROp.p(n a b:Nat):ROp:=⟨some n,.op (.pick (.t a) (.t b) (.c (.b false))),none⟩
def ROp.o(n a b:Nat):ROp:=⟨some n,.op (.pick (.t a) (.c (.b true)) (.t b)),none⟩
def ROp.y(n a c:Nat):ROp:=⟨some n,.op (.mov (.t a)),some (c,true)⟩
def ROp.z(n a c:Nat):ROp:=⟨some n,.op (.mov (.t a)),some (c,false)⟩
def ROp.j(n a c:Nat)(b:Bool):ROp:=⟨some n,.op (.load1 (.t a)),some (c,b)⟩
def ROp.h(n k a c:Nat)(b:Bool):ROp:=⟨some n,.op (.fAddr k (.t a)),some (c,b)⟩
def O.F:O:=.c (.b false)
def O.T:O:=.c (.b true)
def O.N:O:=.c .nils
theorem q_q{n:Nat}{o:IOp}:ROp.q n o=⟨some n,.op o,none⟩:=rfl
theorem q_m{n:Nat}{x:O}:ROp.m n x=⟨some n,.op (.mov x),none⟩:=rfl
theorem q_g{n:Nat}{o:IOp}{c:Nat}{b:Bool}:ROp.g n o c b=⟨some n,.op o,some (c,b)⟩:=rfl
theorem q_l{n f:Nat}{xs:List O}:ROp.l n f xs=⟨some n,.callF f xs,none⟩:=rfl
theorem q_u{o:IOp}:ROp.u o=⟨none,.op o,none⟩:=rfl
theorem q_r{ops:List ROp}:ICode.r ops = .reg false ops:=rfl
theorem q_k{n:Int}:O.k n = .c (.i .i64 n):=rfl
theorem qzp{n a:Nat}:ROp.n n a=⟨some n,.op (.mov (.t a)),none⟩:=rfl
theorem qzj{n a:Nat}:ROp.d n a=⟨some n,.op (.load1 (.t a)),none⟩:=rfl
theorem qzt{n k a:Nat}:ROp.v n k a=⟨some n,.op (.loadN k (.t a)),none⟩:=rfl
theorem qzl{n k a:Nat}:ROp.f n k a=⟨some n,.op (.fAddr k (.t a)),none⟩:=rfl
theorem qzn{n k a b:Nat}:ROp.i n k a b=⟨some n,.op (.iAddrS k (.t a) (.t b)),none⟩:=rfl
theorem qzh{n a:Nat}{k:Int}:ROp.a n a k=⟨some n,.op (.bin .add (.t a) (.c (.i .i64 k))),none⟩:=rfl
theorem qzi{n:Nat}{o:BinOp}{a b:Nat}:ROp.b n o a b=⟨some n,.op (.bin o (.t a) (.t b)),none⟩:=rfl
theorem qzu{n:Nat}{o:BinOp}{a:Nat}{k:Int}:ROp.w n o a k=⟨some n,.op (.bin o (.t a) (.c (.i .i64 k))),none⟩:=rfl
theorem qzk{n a:Nat}:ROp.e n a=⟨some n,.op (.len false (.t a)),none⟩:=rfl
theorem qzv{n a k:Nat}:ROp.x n a k=⟨some n,.op (.ext (.t a) k),none⟩:=rfl
theorem qzs{n a b:Nat}:ROp.s n a b=⟨some n,.op (.bin .lss (.t a) (.t b)),none⟩:=rfl
theorem qzr{n a b:Nat}:ROp.p n a b=⟨some n,.op (.pick (.t a) (.t b) (.c (.b false))),none⟩:=rfl
theorem qzq{n a b:Nat}:ROp.o n a b=⟨some n,.op (.pick (.t a) (.c (.b true)) (.t b)),none⟩:=rfl
theorem qzw{n a c:Nat}:ROp.y n a c=⟨some n,.op (.mov (.t a)),some (c,true)⟩:=rfl
theorem qzx{n a c:Nat}:ROp.z n a c=⟨some n,.op (.mov (.t a)),some (c,false)⟩:=rfl
theorem qzo{n a c:Nat}{b:Bool}:ROp.j n a c b=⟨some n,.op (.load1 (.t a)),some (c,b)⟩:=rfl
theorem qzm{n k a c:Nat}{b:Bool}:ROp.h n k a c b=⟨some n,.op (.fAddr k (.t a)),some (c,b)⟩:=rfl
theorem q_F:O.F = .c (.b false):=rfl
theorem q_T:O.T = .c (.b true):=rfl
theorem q_N:O.N = .c .nils:=rfl
def vI:=And.intro (And.intro @qzp (And.intro @qzj (And.intro @qzt (And.intro @qzl (And.intro @qzn (And.intro @qzh (And.intro @qzi (And.intro @qzu (And.intro @qzk (And.intro @qzv (And.intro @qzs (And.intro @qzr (And.intro @qzq (And.intro @qzw (And.intro @qzx (And.intro @qzo (And.intro @qzm (And.intro q_F (And.intro q_T q_N))))))))))))))))))) (And.intro (And.intro @qdZ.eq_1 (And.intro @qdZ.eq_2 (And.intro @H0.eq_1 (And.intro @mkT.eq_1 (And.intro @mkT.eq_2 (And.intro @mkH.eq_1 (And.intro @trL.eq_1 @trL.eq_2))))))) (And.intro @List.length_cons.{0} (And.intro @List.length_nil.{0} (And.intro Nat.zero_add (And.intro @q_q (And.intro @q_m (And.intro @q_g (And.intro @q_l (And.intro @q_u (And.intro @q_r @q_k))))))))))
end Go.Kc
end
section
namespace Go.Kc
variable {P:Program}

end Go.Kc
end
section
namespace Go.Kc
variable {P:Program} {n:Nat} {t:Tr AV} {h:Hp}

end Go.Kc
end
section
namespace Go.Kc
variable {P:Program} {f:Nat}

theorem qrQ{y:List UInt8}:ltS [] y = !y.isEmpty:=by cases y<;>rfl
theorem qkf{c:UInt8}{x:List UInt8}:ltS (c::x) []=false:=rfl
theorem qke{c d:UInt8}{x y:List UInt8}:ltS (c::x) (d::y)=if c<d then true else if c=d then ltS x y else false:=by
 rw[qf6,qf6];simp only[Op.bytesLess]
 by_cases h1:c<d
 ·simp[h1]
 ·by_cases h2:c=d
  ·simp[h2]
  ·simp[h1,h2]
end Go.Kc
end
section
namespace Go.Kc
variable {P:Program}
end Go.Kc
end
section
namespace Go.Kc
variable {P:Program} {h:Hp}

noncomputable def trP:List (Nat×Blk)->Tr Blk
 | []=>.leaf
 | p::l=>(trP l).set p.1 p.2
theorem qjj:∀{l:List (Nat×Blk)} {b:Nat} {x:Blk},(trP l).get b=some x->(b,x) ∈ l
 | [],b,x,h=>by simp[trP] at h
 | p::l,b,x,h=>by
  simp only[trP,Tr.get_set] at h;split at h
  ·cases h;subst_vars;simp
  ·exact List.mem_cons_of_mem _ (qjj h)
noncomputable def qfA(h:Hp):List (Nat×Blk)->Hp
 | []=>h
 | p::l=>qfA (h.put p.1 .dead) l
theorem qiV:∀{l:List (Nat×Blk)} {h:Hp},(qfA h l).sz=h.sz
 | [],_=>rfl
 | _::l,h=>(qiV (l:=l)).trans rfl
theorem qiU:∀{l:List (Nat×Blk)} {h:Hp},(qfA h l).fl=h.fl
 | [],_=>rfl
 | _::l,h=>(qiU (l:=l)).trans rfl
theorem qhr:∀{l:List (Nat×Blk)} {h:Hp} {b:Nat},(qfA h l).tr.get b=if b ∈ l.map Prod.fst then some .dead else h.tr.get b
 | [],_,_=>by simp[qfA]
 | p::l,h,b=>by
  simp only[qfA];rw[qhr]
  by_cases h1:b ∈ l.map Prod.fst
  ·rw[if_pos h1,if_pos (by simp only[List.map_cons,List.mem_cons];exact .inr h1)]
  ·rw[if_neg h1];show (h.tr.set p.1 .dead).get b=_;rw[Tr.get_set]
   by_cases h2:b=p.1
   ·rw[if_pos h2,if_pos (by simp only[List.map_cons,List.mem_cons];exact .inl h2)]
   ·rw[if_neg h2,if_neg (by simp only[List.map_cons,List.mem_cons,not_or];exact⟨h2,h1⟩)]
theorem qj9:qfA h []=h:=rfl
theorem qig{b:Nat}{x:Blk}{l:List (Nat×Blk)}:qfA h ((b,x)::l)=qfA (h.put b .dead) l:=rfl
theorem Rel.sub{ρ:Ren}{B:Nat->Prop}{h h':Hp}{w:World}(r:Rel σ0 ρ B h w)(hs:h'.sz=h.sz)(hf:h'.fl=h.fl)(hg:∀b x,h'.tr.get b=some x->x≠.dead->h.tr.get b=some x):Rel σ0 ρ B h' w :=
 ⟨fun b L hb=>by rw[hs];exact r.dom b L hb,fun b L e wf af cs hb hx=>r.cells b L e wf af cs hb (hg _ _ hx (by simp)),fun b L es hb hx=>r.maps b L es hb (hg _ _ hx (by simp)),
  fun b L e af cs hb hx b' L' x hb' hx' hd=>r.excl b L e af cs hb (hg _ _ hx (by simp)) b' L' x hb' (hg _ _ hx' hd) hd,fun b L es hb hx b' L' x hb' hx' hd=>r.exclm b L es hb (hg _ _ hx (by simp)) b' L' x hb' (hg _ _ hx' hd) hd,
  fun b L e wf cs hb hx b' L' e' wf' af' cs' hb' hx'=>r.app b L e wf cs hb (hg _ _ hx (by simp)) b' L' e' wf' af' cs' hb' (hg _ _ hx' (by simp)),fun b L hb hf'=>r.flr b L hb (by rw[← hf];exact hf'),r.base,
  fun k arr hk=>⟨(r.frz k arr hk).1,fun b L x hb hx hd=>(r.frz k arr hk).2 b L x hb (hg _ _ hx hd) hd⟩,by rw[hs];exact r.dn⟩
theorem qg.give{f:Nat}{vs vs':List AV}{v:AV}{k:AV->Hp->Prop}(DB:List (Nat×Blk))(hg:∀p ∈ DB,h.tr.get p.1=some p.2∧h.fl<=p.1)(hp:qg P f vs' v)(hv:clo v=true)(hf:Frzs ⟨h.sz,h.fl,trP DB⟩ vs vs')(hk:k v (qfA h DB)):SC P f vs h k:=by
 refine⟨trivial,fun ρ B w args r ha=>?_⟩
 have hp0:=hp H0 (fun v' h'=>v'=v∧h'=H0) ⟨rfl,rfl⟩
 have r0:Rel σ0 ρ B ⟨h.sz,h.fl,trP DB⟩ w:=r.sub rfl rfl (fun b x hx _=>(hg _ (qjj hx)).1)
 have hcr:=hf.ok r0 ha
 have fnew:∀kk a,xG ρ ⟨h.sz,h.fl,trP DB⟩ w kk=some a->ρ.frz kk=some a∨((∃ty fz,w.heap[kk]?=some (.cells a ty fz))∧∃b L e af cs,b ∈ DB.map Prod.fst∧ρ b=some L∧h.tr.get b=some (.cells e true af cs)∧L.blk=kk∧h.fl<=b):=by
  intro kk a hkk;rcases qdz hkk with h1|⟨h1,b,L,e,af,cs,h2,h3,h4⟩
  ·exact .inl h1
  ·have hm:=qjj h3;exact .inr ⟨h1,b,L,e,af,cs,List.mem_map_of_mem (f:=Prod.fst) hm,h2,(hg _ hm).1,h4,(hg _ hm).2⟩
 -- the rows given are frozen,their blocks dead
 have r1:Rel σ0 ⟨ρ.loc,xG ρ ⟨h.sz,h.fl,trP DB⟩ w,ρ.n⟩ B (qfA h DB) w:=by
  have le:ρ.le ⟨ρ.loc,xG ρ ⟨h.sz,h.fl,trP DB⟩ w,ρ.n⟩:=⟨fun _ _ h=>h,fun _ _ h=>qaY h,Nat.le_refl _⟩
  have qpg:∀b x,(qfA h DB).tr.get b=some x->x≠.dead->b ∉ DB.map Prod.fst∧h.tr.get b=some x:=by
   intro b x hx hd;rw[qhr] at hx;split at hx
   ·cases hx;exact absurd rfl hd
   ·exact⟨by assumption,hx⟩
  have rs:Rel σ0 ρ B (qfA h DB) w:=r.sub qiV qiU (fun b x hx hd=>(qpg b x hx hd).2)
  refine⟨rs.dom,fun b L e wf af cs hb hx=>?_,fun b L es hb hx=>?_,rs.excl,rs.exclm,rs.app,rs.flr,rs.base,fun kk arr hkk=>?_,rs.dn⟩
  ·obtain⟨q1,c,ty,fz,q2,q3,q4,q5,q6⟩:=rs.cells b L e wf af cs hb hx;exact⟨q1,c,ty,fz,q2,q3,q4,fun j v hv=>let ⟨v',k1,k2⟩:=q5 j v hv;⟨v',k1,k2.mono le⟩,q6⟩
  ·obtain⟨q1,o,q2,q3⟩:=rs.maps b L es hb hx;exact⟨q1,o,q2,q3.mono le⟩
  ·rcases fnew kk arr hkk with h1|⟨h1,b,L,e,af,cs,h2,h3,h4,h5,_⟩
   ·exact rs.frz kk arr h1
   ·refine⟨h1,fun b' L' x hb' hx hd he=>?_⟩
    obtain⟨g1,g2⟩:=qpg b' x hx hd;have:=r.excl b L e af cs h3 h4 b' L' x hb' g2 hd (by rw[he,h5]);subst this;exact g1 h2
 refine qcg.mono (hp0.2 ⟨fun _=>none,xG ρ ⟨h.sz,h.fl,trP DB⟩ w,0⟩ (low w.heap.size) w args
  ⟨(fun _ _ hb=>by cases hb),(fun _ _ _ _ _ _ hb=>by cases hb),(fun _ _ _ hb=>by cases hb),(fun _ _ _ _ _ hb=>by cases hb),(fun _ _ _ hb=>by cases hb),(fun _ _ _ _ _ hb=>by cases hb),(fun _ _ hb=>by cases hb),(fun _ h=>h),
   (fun k arr hk=>⟨(r1.frz k arr hk).1,fun _ _ _ hb=>by cases hb⟩),⟨Nat.le_refl _,fun _ _ hb=>by cases hb⟩⟩ (CRs.vr (ρ:=⟨fun _=>none,xG ρ ⟨h.sz,h.fl,trP DB⟩ w,0⟩) hcr)) ?_
 rintro e w' ⟨v0,v',h',ρ',rfl,⟨rfl,rfl⟩,g2,g3,g4⟩;have f1:∀k a,xG ρ ⟨h.sz,h.fl,trP DB⟩ w k=some a->ρ'.frz k=some a:=g4.frz;have f2:∀k a,ρ'.frz k=some a->xG ρ ⟨h.sz,h.fl,trP DB⟩ w k=some a∨w.heap.size<=k:=fun k a hk=>(g4.fnew k a hk).imp id Nat.not_lt.1
 have f3:∀k a,ρ'.frz k=some a->∃ty fz,w'.heap[k]?=some (.cells a ty fz):=fun k a hk=>(g3.frz k a hk).1
 have r2:=r1.frz' g4.pres g4.wle f1 f2 f3;refine⟨v0,v',qfA h DB,⟨ρ.loc,ρ'.frz,ρ.n⟩,rfl,hk,CR.vr (ρ:=⟨ρ.loc,ρ'.frz,ρ.n⟩) (g2.cr hv),r2,?_⟩;refine⟨fun _ _=>rfl,by rw[qiV];exact Nat.le_refl _,qiU,fun b hb _=>?_,fun k hk=>g4.pres k (r.base _ hk),g4.wle,g4.io,fun k a hk=>f1 k a (qaY hk),fun k a hk=>?_,Nat.le_refl _⟩
 ·rw[qhr,if_neg];intro hm;obtain⟨p,hp1,hp2⟩:=List.mem_map.1 hm;have:=(hg p hp1).2;omega
 ·rcases f2 k a hk with h1|h1
  ·rcases fnew k a h1 with h2|⟨_,b,L,_,_,_,_,h3,_,h5,h6⟩
   ·exact .inl h2
   ·right;rw[← h5];exact r.flr b L h3 h6
  ·exact .inr (qaF r.base h1)
end Go.Kc
end
section
namespace Go.Kc
variable {P:Program} {env:Tr IFn} {ho:qgD}

inductive OkT (P:Program):Nat->Nat->Tr IFn->Prop where
 | leaf (a b:Nat):OkT P a b .leaf
 | no (a b:Nat) {l r:Tr IFn}:OkT P (2*a) (a+b) l->OkT P (2*a) (2*a+b) r->OkT P a b (.node none l r)
 | fn (a b:Nat) {i:IFn} {l r:Tr IFn}:qd P b i=true->OkT P (2*a) (a+b) l->OkT P (2*a) (2*a+b) r->OkT P a b (.node (some i) l r)

theorem OkT.get{a b:Nat}{t:Tr IFn}(h:OkT P a b t):∀n i,t.get n=some i->qd P (a*n+b) i=true:=by
 induction h with
 | leaf=>intro n i h;simp at h
 | no a b hl hr ihl ihr =>
  intro n i h;cases n with
  | zero=>rw[Tr.get_node] at h;cases h
  | succ m =>
   rcases Nat.mod_two_eq_zero_or_one m with h0|h0
   ·obtain⟨j,rfl⟩:∃j,m=2*j:=⟨m / 2,by omega⟩
    rw[Tr.get_node] at h;simp only[h0,if_true,Nat.mul_div_cancel_left j (Nat.zero_lt_two)] at h;have:=ihl j i h;rwa [show 2*a*j+(a+b)=a*(2*j+1)+b from by rw[Nat.mul_add,Nat.mul_one,← Nat.mul_assoc,Nat.mul_comm a 2];omega] at this
   ·obtain⟨j,rfl⟩:∃j,m=2*j+1:=⟨m / 2,by omega⟩
    rw[Tr.get_node] at h;simp only[h0,Nat.one_ne_zero,if_false,show (2*j+1) / 2=j from by omega] at h
    have:=ihr j i h;rwa [show 2*a*j+(2*a+b)=a*(2*j+1+1)+b from by rw[Nat.mul_add,Nat.mul_add,Nat.mul_one,← Nat.mul_assoc,Nat.mul_comm a 2];omega] at this
 | fn a b hc hl hr ihl ihr =>
  intro n i h;cases n with
  | zero=>rw[Tr.get_node] at h;cases h;simpa using hc
  | succ m =>
   rcases Nat.mod_two_eq_zero_or_one m with h0|h0
   ·obtain⟨j,rfl⟩:∃j,m=2*j:=⟨m / 2,by omega⟩
    rw[Tr.get_node] at h;simp only[h0,if_true,Nat.mul_div_cancel_left j (Nat.zero_lt_two)] at h;have:=ihl j i h;rwa [show 2*a*j+(a+b)=a*(2*j+1)+b from by rw[Nat.mul_add,Nat.mul_one,← Nat.mul_assoc,Nat.mul_comm a 2];omega] at this
   ·obtain⟨j,rfl⟩:∃j,m=2*j+1:=⟨m / 2,by omega⟩
    rw[Tr.get_node] at h;simp only[h0,Nat.one_ne_zero,if_false,show (2*j+1) / 2=j from by omega] at h
    have:=ihr j i h;rwa [show 2*a*j+(2*a+b)=a*(2*j+1+1)+b from by rw[Nat.mul_add,Nat.mul_add,Nat.mul_one,← Nat.mul_assoc,Nat.mul_comm a 2];omega] at this

theorem OkT.envOk{t:Tr IFn}(h:OkT P 1 0 t):qg1 P t:=fun f i hg=>by
 have:=h.get f i hg;rwa [Nat.one_mul] at this

theorem Kept.same{ρ ρ':Ren}{h h':Hp}{w w':World}(k:Kept ρ (low w.heap.size) h w ρ' h' w')(may:MemPlace->Prop):w.keptBut w' may:=by
 refine⟨k.io.1,k.io.2,fun i hi=>?_⟩
 have e:=k.pres i hi;rw[e];cases w.heap[i]? with
 | none=>rfl
 | some o=>cases o<;>simp
noncomputable def qiO(w:World):Nat->Option (Array Value):=fun k=>match w.heap[k]? with|some (.cells arr _ _)=>some arr|_=>none
theorem qfu{w:World}{k:Nat}{arr:Array Value}:qiO w k=some arr↔∃ty fz,w.heap[k]?=some (.cells arr ty fz):=by
 show (match w.heap[k]? with|some (.cells arr _ _)=>some arr|_=>none)=some arr↔_
 cases w.heap[k]? with
 | none=>simp
 | some o=>cases o<;>simp
noncomputable def ice(w:World) [t:TabOk w]:Ren:=⟨fun _=>none,⟨qiO w,fun k a h=>qfu.2 (t.ok k a h)⟩,0⟩
theorem qrw{w:World} [TabOk w]{k:Nat}{arr:Array Value}:(ice w).frz k=some arr↔∃ty fz,w.heap[k]?=some (.cells arr ty fz):=qfu
theorem Rel.ice(w:World) [TabOk w]:Rel σ0 (ice w) (low w.heap.size) H0 w :=
 ⟨(fun _ _ hb=>by cases hb),(fun _ _ _ _ _ _ hb=>by cases hb),(fun _ _ _ hb=>by cases hb),(fun _ _ _ _ _ hb=>by cases hb),(fun _ _ _ hb=>by cases hb),(fun _ _ _ _ _ hb=>by cases hb),(fun _ _ hb=>by cases hb),(fun _ h=>h),
  (fun k arr hk=>⟨qrw.1 hk,fun _ _ _ hb=>by cases hb⟩),⟨Nat.le_refl _,fun _ _ hb=>by cases hb⟩⟩
theorem qg.law{f:Nat}{vs:List AV}{args:Array Value}(hp:qg P f vs (.b true))(hc:qjH P f)(w:World) [TabOk w](ha:VRs σ0 (ice w) vs args.toList):Calls P f args w fun e w'=>e = .returned (.bool true)∧∀may,w.keptBut w' may:=by
 have h:=(hp H0 (fun v _=>v = .b true) rfl).2 (ice w) (low w.heap.size) w args (Rel.ice w) ha
 rcases h with⟨_,h⟩|⟨v,w',h,_⟩
 ·refine h.mono fun e w' hh=>?_
  obtain⟨v,v',h',ρ',rfl,rfl,hv,_,hk⟩:=hh;cases hv;exact⟨rfl,fun may=>hk.same may⟩
 ·obtain⟨fn,h1,h2,h3⟩:=hc;rw[qdu h1 h2 h3] at h;cases h
theorem qhd{f:Nat}{i:IFn}(hc:qd P f i=true):qjH P f:=by
 unfold qd at hc;split at hc<;>try (cases hc;done)
 rename_i fn hfn;simp only[Bool.and_eq_true,bne_iff_ne] at hc;obtain⟨⟨hname,hbody⟩,hres⟩:=hc;split at hbody<;>try (cases hbody;done)
 rename_i c hcb;exact⟨fn,hfn,hname,by rw[hcb];rfl⟩
end Go.Kc
end
section
namespace Go.Kc
section
variable {H:Type} {enc:TypeId×Value->H} {P:Program} {w:World} {α β:Type} {t e:TypeId}
theorem CRs.app{φ:Nat->Option (Array Value)}:∀{as bs:List AV} {us vs:List Value},CRs σ0 φ as us->CRs σ0 φ bs vs->CRs σ0 φ (as++bs) (us++vs)
 | _,_,_,_,.nil,h=>h
 | _,_,_,_,.cons v l v' l' h hs,h2=>.cons _ _ _ _ h (CRs.app hs h2)
def qcy(enc:TypeId×Value->H)(P:Program)(w:World)(t:TypeId)(I:α->Prop)(E:α->List AV):Prop :=
 ∀(fuel:Nat) (cs:List Value) x,DataW.trod enc P w 0 (fun _=>true) true fuel t cs=some x->∃a,I a∧CRs σ0 (qiO w) (E a) cs
theorem qwW{k:IntKind}(ht:P.underlying t=some (.int k)):qcy enc P w t (fun n:Int=>(Lit.int k n).wf=true) (fun n=>[.i k n]):=by
 intro fuel cs x h;obtain⟨n,rfl,_,hw⟩:=DataW.trod_int ht h;exact⟨n,hw,.cons _ _ _ _ (.i _ _) .nil⟩
theorem qlv{a:Addr}{v:Value}(h:w.cell? a=some v):a.spot=none∧∃arr ty fz,w.heap[a.block]?=some (.cells arr ty fz)∧arr[a.off]?=some v:=by
 unfold World.cell? at h;split at h
 ·rename_i c ty fz hc;split at h
  ·cases h
  ·rename_i hs;refine⟨by simpa using hs,c,ty,fz,hc,h⟩
 ·cases h
theorem qtj{I:α->Prop}{E:α->List AV}{m:Nat}(ht:P.underlying t=some (.slice e))(he:qcy enc P w e I E)(hE:∀a,(E a).length=m)(hc:P.cellsOf e=m)(hm:0<m) :
  qcy enc P w t (fun l:List α=>l.length<=maxLen∧∀a ∈ l,I a) (fun l=>[.fz l.length (l.flatMap E)]):=by
 intro fuel cs x h;rcases DataW.trod_slice ht h with⟨rfl,_⟩|⟨a,len,cap,elems,rest,n,_,rfl,_,_,hl,hmx,hlen,hel,hsp,_⟩
 ·exact⟨[],⟨Nat.zero_le _,fun _ h=>by cases h⟩,.cons _ _ _ _ (.fz0 none) .nil⟩
 obtain⟨hrl,hr⟩:=hsp rfl;rcases Nat.eq_zero_or_pos cap with h0|hpos
 ·subst h0;obtain rfl:len=0:=by omega
  exact⟨[],⟨Nat.zero_le _,fun _ h=>by cases h⟩,.cons _ _ _ _ (.fz0 (some a)) .nil⟩
 have first:∃v,w.cell? a=some v:=by
  have:∃cs',w.cells? 0 (a.add (0*P.cellsOf e)) (P.cellsOf e)=some cs':=by
   rcases Nat.eq_zero_or_pos len with h1|h1
   ·have:=hr 0 (by omega);have hlt:0<rest.length:=by omega
    rw[zzE hlt,Option.bind_eq_some_iff] at this;obtain⟨c,hc',_⟩:=this;subst h1;exact⟨c,hc'⟩
   ·have:=hel 0 h1;have hlt:0<elems.length:=by omega
    rw[zzE hlt,Option.bind_eq_some_iff] at this;obtain⟨c,hc',_⟩:=this;exact⟨c,hc'⟩
  obtain⟨cs',h2⟩:=this;obtain⟨_,q1,q2⟩:=World.cells?_some h2;have:=q2 0 (by omega);rw[zzE (by omega)] at this;simp only[Nat.zero_mul,Addr.add,if_true] at this;exact⟨_,this⟩
 obtain⟨v0,hv0⟩:=first
 obtain⟨hs,arr,ty,fz,hb,_⟩:=qlv hv0
 have key:∀k,k<=len->∃l:List α,l.length=k∧(∀b ∈ l,I b)∧CRs σ0 (qiO w) (l.flatMap E) ((arr.toList.drop a.off).take (k*m)):=by
  intro k
  induction k with
  | zero=>intro _;exact⟨[],rfl,(fun _ h=>by cases h),by simpa using .nil⟩
  | succ k ih =>
   intro hk;obtain⟨l,h1,h2,h3⟩:=ih (by omega);have hk':=hel k (by omega);have hlt:k<elems.length:=by omega
   rw[zzE hlt,Option.bind_eq_some_iff] at hk';obtain⟨c,hcs,htr⟩:=hk';obtain⟨_,q1,q2⟩:=World.cells?_some hcs;obtain⟨b,hb1,hb2⟩:=he _ _ _ htr
   have e1:c=((arr.toList.drop a.off).drop (k*m)).take m:=by
    refine List.ext_getElem? fun j=>?_
    by_cases hj:j<m
    ·have:=q2 j (by omega);rw[← this]
     have e2:w.cell? ((a.add (k*P.cellsOf e)).add j)=arr[a.off+(k*m+j)]?:=by
      have ha:(a.add (k*P.cellsOf e)).add j=⟨a.block,a.off+(k*m+j),none⟩:=by
       unfold Addr.add;rw[hc];split
       ·split
        ·rename_i h4 h5;rw[h4,h5];cases a;simp_all
        ·rename_i h4 h5;rw[h4];simp[hs]
       ·split
        ·rename_i h4 h5;rw[h5];cases a;simp_all
        ·simp;omega
      rw[ha];simp[World.cell?,hb]
     rw[e2,List.getElem?_take_of_lt hj,List.getElem?_drop,List.getElem?_drop];simp[Array.getElem?_toList]
    ·rw[List.getElem?_eq_none (by omega),List.getElem?_eq_none];simp;omega
   refine⟨l++[b],by simp[h1],fun x hx=>?_,?_⟩
   ·rcases List.mem_append.1 hx with hx|hx
    ·exact h2 x hx
    ·obtain rfl:=List.mem_singleton.1 hx;exact hb1
   ·rw[List.flatMap_append,Nat.succ_mul,List.take_add,← e1];simpa using h3.app hb2
 obtain⟨l,h1,h2,h3⟩:=key len (Nat.le_refl _);refine⟨l,⟨by omega,h2⟩,.cons _ _ _ _ ?_ .nil⟩
 have hfl:(l.flatMap E).length=len*m:=by
  rw[← h1];clear h1 h2 h3
  induction l with
  | nil=>simp
  | cons x l ih=>simp[hE,ih,Nat.succ_mul,Nat.add_comm]
 obtain⟨blk,off,spot⟩:=a;cases hs;rw[h1];exact .fz len off cap _ blk arr hl (qfu.2 ⟨ty,fz,hb⟩) (by rw[hfl];exact h3)
def qix(enc:TypeId×Value->H)(P:Program)(w:World)(fs:List Field)(o n:Nat)(I:α->Prop)(E:α->List AV):Prop :=
 (∀a,(E a).length=n)∧∀(fuel:Nat) (cs:List Value),(∀f ∈ fs,∃x,DataW.trod enc P w 0 (fun _=>true) true fuel f.type ((cs.drop f.offset).take (P.cellsOf f.type))=some x)->∃a,I a∧CRs σ0 (qiO w) (E a) ((cs.drop o).take n)
theorem qvG{o:Nat}:qix enc P w [] o 0 (fun _:Unit=>True) (fun _=>[]):=⟨fun _=>rfl,fun _ cs _=>⟨(),trivial,by simpa using .nil⟩⟩
theorem qth{f:Field}{fs:List Field}{o m n:Nat}{I:α->Prop}{E:α->List AV}{J:β->Prop}{F:β->List AV}(h:qcy enc P w f.type I E)(hE:∀a,(E a).length=m)(ho:f.offset=o)(hc:P.cellsOf f.type=m)
  (hr:qix enc P w fs (o+m) n J F):qix enc P w (f::fs) o (m+n) (fun p:α×β=>I p.1∧J p.2) (fun p=>E p.1++F p.2):=by
 refine⟨fun p=>by simp[hE,hr.1],fun fuel cs hf=>?_⟩
 obtain⟨x,hx⟩:=hf f (List.mem_cons_self ..);obtain⟨a,ha,h1⟩:=h _ _ _ hx;obtain⟨b,hb,h2⟩:=hr.2 fuel cs fun g hg=>hf g (List.mem_cons_of_mem _ hg)
 refine⟨(a,b),⟨ha,hb⟩,?_⟩;rw[ho,hc] at h1;rw[List.take_add,List.drop_drop];exact h1.app h2
theorem qsj{fs:Array Field}{n:Nat}{I:α->Prop}{E:α->List AV}(ht:P.underlying t=some (.struct fs))(hc:P.cellsOf t=n)(h:qix enc P w fs.toList 0 n I E):qcy enc P w t I E:=by
 intro fuel cs x hx;obtain⟨xs,m,rfl,_,hl,hxs,hf⟩:=DataW.trod_struct ht hx
 obtain⟨a,ha,h1⟩:=h.2 m cs fun f hfm=>by
  obtain⟨i,hi⟩:=List.getElem?_of_mem hfm;have hi':fs[i]?=some f:=by simpa using hi
  have:=hf i f hi'
  have hlt:i<xs.length:=by
   rw[hxs];exact (Array.getElem?_eq_some_iff.1 hi').1
  rw[zzE hlt] at this;exact⟨_,this⟩
 refine⟨a,ha,?_⟩;rwa [List.drop_zero,List.take_of_length_le (by omega)] at h1
theorem qcy.map{I:α->Prop}{E:α->List AV}{J:β->Prop}{F:β->List AV}(h:qcy enc P w t I E)(g:α->β)(hg:∀a,I a->J (g a)∧F (g a)=E a):qcy enc P w t J F:=by
 intro fuel cs x hx;obtain⟨a,ha,h1⟩:=h _ _ _ hx;exact⟨g a,(hg a ha).1,by rw[(hg a ha).2];exact h1⟩
theorem qcy.agg [TabOk w]{I:α->Prop}{E:α->List AV}(h:qcy enc P w t I E){v:Value}{d:DataW H}{p:List MemPlace}(ha:∃cs,v = .agg cs)(hd:DataW.Trod enc P w 0 (fun _=>true) true t v d p):∃a,I a∧VR σ0 (ice w) (.agg (E a)) v:=by
 obtain⟨cs,rfl⟩:=ha;obtain⟨fuel,hd⟩:=hd;obtain⟨a,h1,h2⟩:=h _ _ _ hd;exact⟨a,h1,.agg _ _ h2.vr⟩
theorem qi6{w':World}(hk:∀may,w.keptBut w' may){p:MemPlace}(hp:p.block<w.heap.size):w.sameAt w' p:=by
 have h:=(hk fun _=>False).2.2 p.block hp
 have h0:w.heap[p.block]?=some w.heap[p.block]:=Array.getElem?_eq_getElem hp;cases p with
 | cell b off =>
  show w'.cell? ⟨b,off,none⟩=w.cell? ⟨b,off,none⟩;simp only[MemPlace.block] at h h0 hp;unfold World.cell?;split at h
  ·rename_i c1 t1 f1 c2 t2 f2 e1 e2;dsimp only;rw[e1,e2];simpa using h.2.2.2 off (fun hh=>hh)
  ·rename_i e1 e2;dsimp only;rw[e1,e2]
  ·dsimp only;rw[h]
 | map b =>
  show w'.heap[b]?=w.heap[b]?;simp only[MemPlace.block] at h h0 hp;split at h
  ·rename_i c1 t1 f1 c2 t2 f2 e1 e2
   have:c2=c1:=by
    apply Array.ext_getElem?;intro j;exact h.2.2.2 j (fun hh=>hh)
   rw[e1,e2,h.1,h.2.1,this]
  ·rename_i e1 e2;rcases h with hh|⟨h1,h2⟩
   ·exact hh.elim
   ·rw[e1,e2,h1,h2]
  ·exact h
theorem Trod.stay{w':World}{T:TypeId->Prop}(K:Kids P T)(hz:∀t e,T t->P.underlying t=some (.slice e)->0<P.cellsOf e){ts:List TypeId}{vs:List Value}{ds:List (DataW H)}{ps:List MemPlace}(hT:∀t ∈ ts,T t)
  (h:DataW.TrodAll enc P w 0 (fun _=>true) true ts vs ds ps) (hk:∀may,w.keptBut w' may):DataW.TrodAll enc P w' 0 (fun b=>decide (b<w.heap.size)) true ts vs ds ps:=by
 have hlt:=DataW.TrodAll.lt h;have h1:DataW.TrodAll enc P w 0 (fun b=>decide (b<w.heap.size)) true ts vs ds ps:=h.respare K hz hT fun p hp=>decide_eq_true (hlt p hp)
 clear h
 induction ts generalizing vs ds ps with
 | nil =>
  cases vs<;>cases ds<;>first|exact h1|exact h1.elim
 | cons t ts ih =>
  cases vs with
  | nil=>exact h1.elim
  | cons v vs =>
   cases ds with
   | nil=>exact h1.elim
   | cons d ds =>
    obtain⟨p,q,⟨fuel,h2⟩,h3,e⟩:=h1;subst e;refine⟨p,q,⟨fuel,DataW.trod_carry _ _ _ _ h2 fun x hx=>qi6 hk (hlt x (List.mem_append_left _ hx))⟩,?_,rfl⟩
    exact ih (fun t ht=>hT t (List.mem_cons_of_mem _ ht)) (fun x hx=>hlt x (List.mem_append_right _ hx)) h3
end
end Go.Kc
namespace Go.Kc
theorem qvP{k:IntKind}{l:List Int}:l.flatMap (fun n=>[AV.i k n])=l.map (.i k):=by
 induction l with
 | nil=>rfl
 | cons x l ih=>simp[ih]
theorem qsp{P:Program}{H:Type}{enc:TypeId×Value->H}{f:Func}{s:ChangeSpec}{apart fresh handsOn:Bool}{W W':World}{args:Array Value}{v:Value}{ds gs:List (DataW H)}{before pv:List MemPlace}
  (hW:DataW.Whole enc P f.params.toList s.vars apart W args.toList ds gs before) (hs:(s.fn H (ds++gs)).args=ds)
  {T:TypeId->Prop} (K:Kids P T) (hz:∀t e,T t->P.underlying t=some (.slice e)->0<P.cellsOf e) (hT:∀t ∈ f.params.toList,T t)
  (hres:∀(b:Nat) (sp:Nat->Bool) (hd:Bool),DataW.TrodAll enc P W' b sp hd f.resultTypes.toList (v.resultList f.resultTypes.size) (s.fn H (ds++gs)).results [])
  (hvars:∀sp:Nat->Bool,DataW.TrodVars enc P W' sp s.vars (s.fn H (ds++gs)).vars pv)
  (hk:∀may,W.keptBut W' may):s.post enc P f apart fresh handsOn false W args v W':=by
 have hW':=hW;obtain⟨p,q,hA,_,_⟩:=hW';exact⟨ds,gs,before,[],p,pv,hW,hres _ _ _,by rw[hs];exact Trod.stay K hz hT hA hk,hvars _,hk _,fun h=>by cases h⟩
end Go.Kc
end
section
namespace Go.Kc
variable {P:Program} {env:Tr IFn} {ho:qgD}
def kOf:IntKind->Nat
 | .i8=>0 | .i16=>1 | .i32=>2 | .i64=>3 | .u8=>4 | .u16=>5 | .u32=>6 | .u64=>7
theorem qrI{a b:IntKind}(h:Nat.beq (kOf a) (kOf b)=true):a=b:=by
 cases a<;>cases b<;>first|rfl|cases h
def qxU:Int->Int->Bool
 | .ofNat a,.ofNat b=>Nat.beq a b
 | .negSucc a,.negSucc b=>Nat.beq a b
 | _,_=>false
theorem qrz:∀{a b:Int},qxU a b=true->a=b
 | .ofNat a,.ofNat b,h=>by rw[Nat.eq_of_beq_eq_true h]
 | .negSucc a,.negSucc b,h=>by rw[Nat.eq_of_beq_eq_true h]
 | .ofNat _,.negSucc _,h=>by cases h
 | .negSucc _,.ofNat _,h=>by cases h
mutual
noncomputable def qbv(h:Hp):AV->AV->Bool
 | .b x,v=>match v with | .b y=>(x&&y)||(!x && !y)|_=>false
 | .i k n,v=>match v with | .i k' m=>Nat.beq (kOf k) (kOf k')&&qxU n m|_=>false
 | .s x,v=>match v with | .s y=>eqS x y|_=>false
 | .nils,v=>match v with | .nils=>true|_=>false
 | .nilp,v=>match v with | .nilp=>true|_=>false
 | .nilf,v=>match v with | .nilf=>true|_=>false
 | .nili,v=>match v with | .nili=>true|_=>false
 | .nilm,v=>match v with | .nilm=>true|_=>false
 | .agg cs',v=>match v with | .agg cs=>qgp h cs' cs|_=>false
 | .tup cs',v=>match v with | .tup cs=>qgp h cs' cs|_=>false
 | .fz n cs',v=>match v with
  | .nils=>Nat.beq n 0&&cs'.isEmpty
  | .sl b o m c _=>Nat.beq n m&&Nat.ble m c && !(Nat.beq c 0)&&(match h.tr.get b with|some (.cells _ true _ cs)=>Nat.ble (o+cs'.length) cs.length&&qgp h cs' ((cs.drop o).take cs'.length)|_=>false)
  | .own b m=>Nat.beq n m && !(Nat.beq m 0)&&(match h.tr.get b with|some (.cells _ true _ ys)=>qgp h cs' ys|_=>false)
  | _=>false
 | _,_=>false
noncomputable def qgp(h:Hp):List AV->List AV->Bool
 | [],vs=>vs.isEmpty
 | v'::vs',vs=>match vs with|v::vs=>qbv h v' v&&qgp h vs' vs | []=>false
end
theorem qra{x y:List UInt8}(h:eqS x y=true):x=y:=by
 rw[qbc] at h;simpa using h
mutual
theorem qlD{h:Hp}:∀(v' v:AV),qbv h v' v=true->Frz h v v'
 | .b x,v,hb=>by
  unfold qbv at hb;split at hb<;>first|(cases hb;done)|skip
  rename_i y;have:y=x:=by cases x<;>cases y<;>first|rfl|cases hb
  subst this;exact .b _
 | .i k n,v,hb=>by
  unfold qbv at hb;split at hb<;>first|(cases hb;done)|skip
  simp only[Bool.and_eq_true] at hb;obtain rfl:=qrI hb.1;obtain rfl:=qrz hb.2;exact .i _ _
 | .s x,v,hb=>by
  unfold qbv at hb;split at hb<;>first|(cases hb;done)|skip
  obtain rfl:=qra hb;exact .s _
 | .nils,v,hb=>by unfold qbv at hb;split at hb<;>first|(cases hb;done)|exact .nils
 | .nilp,v,hb=>by unfold qbv at hb;split at hb<;>first|(cases hb;done)|exact .nilp
 | .nilf,v,hb=>by unfold qbv at hb;split at hb<;>first|(cases hb;done)|exact .nilf
 | .nili,v,hb=>by unfold qbv at hb;split at hb<;>first|(cases hb;done)|exact .nili
 | .nilm,v,hb=>by unfold qbv at hb;split at hb<;>first|(cases hb;done)|exact .nilm
 | .agg cs',v,hb=>by
  unfold qbv at hb;split at hb<;>first|(cases hb;done)|skip
  exact .agg _ _ (qd6 cs' _ hb)
 | .tup cs',v,hb=>by
  unfold qbv at hb;split at hb<;>first|(cases hb;done)|skip
  exact .tup _ _ (qd6 cs' _ hb)
 | .fz n cs',v,hb=>by
  unfold qbv at hb;split at hb<;>first|(cases hb;done)|skip
  ·simp only[Bool.and_eq_true] at hb;obtain rfl:=Nat.eq_of_beq_eq_true hb.1;have:cs'=[]:=by simpa using hb.2
   rw[this];exact .nilz
  ·simp only[Bool.and_eq_true] at hb;obtain⟨⟨⟨h1,h2⟩,h3⟩,h4⟩:=hb;obtain rfl:=Nat.eq_of_beq_eq_true h1;split at h4<;>first|(cases h4;done)|skip
   rename_i hg;simp only[Bool.and_eq_true] at h4;refine .sl _ _ _ _ _ _ _ _ cs'.length _ hg (Nat.le_of_ble_eq_true h2) (Nat.le_of_ble_eq_true h4.1) (fun h0=>?_) (qd6 cs' _ h4.2)
   subst h0;cases h3
  ·simp only[Bool.and_eq_true] at hb;obtain⟨⟨h1,h2⟩,h4⟩:=hb;obtain rfl:=Nat.eq_of_beq_eq_true h1;split at h4<;>first|(cases h4;done)|skip
   rename_i hg;refine .own _ _ _ _ _ _ hg (fun h0=>?_) (qd6 cs' _ h4)
   subst h0;cases h2
 | .undef,v,hb=>by unfold qbv at hb;cases hb
 | .ptr _ _,v,hb=>by unfold qbv at hb;cases hb
 | .sl _ _ _ _ _,v,hb=>by unfold qbv at hb;cases hb
 | .fn _ _ _,v,hb=>by unfold qbv at hb;cases hb
 | .ifc _ _,v,hb=>by unfold qbv at hb;cases hb
 | .map _,v,hb=>by unfold qbv at hb;cases hb
 | .sym _,v,hb=>by unfold qbv at hb;cases hb
 | .pf _ _,v,hb=>by unfold qbv at hb;cases hb
 | .e0,v,hb=>by unfold qbv at hb;cases hb
 | .own _ _,v,hb=>by unfold qbv at hb;cases hb
 | .nz,v,hb=>by unfold qbv at hb;cases hb
 | .yl _,v,hb=>by unfold qbv at hb;cases hb
 | .lp _,v,hb=>by unfold qbv at hb;cases hb
theorem qd6{h:Hp}:∀(vs' vs:List AV),qgp h vs' vs=true->Frzs h vs vs'
 | [],vs,hb=>by
  unfold qgp at hb;have:vs=[]:=by simpa using hb
  rw[this];exact .nil
 | v'::vs',vs,hb=>by
  unfold qgp at hb;split at hb<;>first|(cases hb;done)|skip
  simp only[Bool.and_eq_true] at hb;exact .cons _ _ _ _ (qlD v' _ hb.1) (qd6 vs' _ hb.2)
end
noncomputable def tt(b:Bool):Prop:=Bool.rec (motive:=fun _=>Prop) False True b
theorem qyu{b:Bool}(h:tt b):b=true:=by cases b with|true=>rfl|false=>exact h.elim
theorem qg.runF(he:qg1 P env)(hh:qiw P ho)(m:Nat){f:Nat}{vs:List AV}{v:AV}(hcl:qF vs=true)(hk:qfn env ho (fv env ho m) f vs H0 (fun v' h'=>tt (qbv h' v v'))=True):qg P f vs v :=
 qg.of_SC hcl ((SC.run he hh m (of_eq_true hk)).mono fun v' h' hv=>qlD _ _ (qyu hv))
end Go.Kc
end
section
namespace Go.Kc
variable {P:Program}
noncomputable def okB(P:Program):Tr IFn->Nat->Nat->Bool:=fun t=>Tr.rec (motive:=fun _=>Nat->Nat->Bool) (fun _ _=>true) (fun v _ _ il ir a b=>(match v with|none=>true|some i=>qd P b i)&&(il (2*a) (a+b)&&ir (2*a) (2*a+b))) t
theorem qhB:∀(t:Tr IFn) (a b:Nat),okB P t a b=true->OkT P a b t
 | .leaf,a,b,_=>.leaf a b
 | .node none l r,a,b,h=>by
  have h':(true&&(okB P l (2*a) (a+b)&&okB P r (2*a) (2*a+b)))=true:=h;simp only[Bool.and_eq_true] at h';exact .no a b (qhB l _ _ h'.2.1) (qhB r _ _ h'.2.2)
 | .node (some i) l r,a,b,h=>by
  have h':(qd P b i&&(okB P l (2*a) (a+b)&&okB P r (2*a) (2*a+b)))=true:=h;simp only[Bool.and_eq_true] at h';exact .fn a b h'.1 (qhB l _ _ h'.2.1) (qhB r _ _ h'.2.2)
theorem qyK{t:Tr IFn}(h:okB P t 1 0=true):qg1 P t:=(qhB t 1 0 h).envOk
def Tr.o(l r:Tr IFn):Tr IFn:=.node none l r
def Tr.f(i:IFn):Tr IFn:=.node (some i) .leaf .leaf
mutual
def qcn:AV->Bool
 | .map _=>false
 | .fz _ _=>false
 | .pf _ _=>false
 | .sym _=>false
 | .fn _ a c=>xJ a&&xJ c
 | .ifc _ v=>qcn v
 | .agg cs=>xJ cs
 | .tup cs=>xJ cs
 | .ptr _ _=>true | .sl _ _ _ _ _=>true | .own _ _=>true
 | .undef=>true | .b _=>true | .i _ _=>true | .s _=>true | .nilp=>true | .nils=>true | .nilf=>true | .nili=>true | .nilm=>true | .e0=>true | .nz=>true | .yl _=>true | .lp _=>true
def xJ:List AV->Bool
 | []=>true
 | v::vs=>qcn v&&xJ vs
end
mutual
theorem VR.thaw{ρ:Ren}{φ:Fz}:∀{a:AV} {v:Value},VR σ0 ρ a v->qcn a=true->VR σ0 ⟨ρ.loc,φ,ρ.n⟩ a v
 | _,_,.undef v,_=>.undef v
 | _,_,.b x,_=>.b x
 | _,_,.i k n,_=>.i k n
 | _,_,.s x,_=>.s x
 | _,_,.nilp,_=>.nilp
 | _,_,.ptr b o L h,_=>.ptr b o L h
 | _,_,.nils,_=>.nils
 | _,_,.sl b o len cap c loose L h hc,_=>.sl b o len cap c loose L h hc
 | _,_,.slz b o x l L h,_=>.slz b o x l L h
 | _,_,.nilf,_=>.nilf
 | _,_,.fn f first cap first' cap' h1 h2,hc=>by
  simp only[qcn,Bool.and_eq_true] at hc;exact .fn _ _ _ _ _ (h1.thaw hc.1) (h2.thaw hc.2)
 | _,_,.nili,_=>.nili
 | _,_,.ifc t v v' h,hc=>by simp only[qcn] at hc;exact .ifc _ _ _ (h.thaw hc)
 | _,_,.agg cs cs' h,hc=>by simp only[qcn] at hc;exact .agg _ _ (h.thaw hc)
 | _,_,.tup cs cs' h,hc=>by simp only[qcn] at hc;exact .tup _ _ (h.thaw hc)
 | _,_,.nilm,_=>.nilm
 | _,_,.map b L h h0,hc=>by simp[qcn] at hc
 | _,_,.sym j,hc=>by simp[qcn] at hc
 | _,_,.fz n off c cs k arr hn h hs,hc=>by simp[qcn] at hc
 | _,_,.fz0 a,hc=>by simp[qcn] at hc
 | _,_,.pf off base cs k arr h hs,hc=>by simp[qcn] at hc
 | _,_,.e0 a,_=>.e0 a
 | _,_,.nz a c,_=>.nz a c
 | _,_,.own0 b a hb,_=>.own0 b a hb
 | _,_,.own b n c L h hn hc,_=>.own b n c L h hn hc
 | _,_,.yl b L h,_=>.yl b L h
theorem VRs.thaw{ρ:Ren}{φ:Fz}:∀{a:List AV} {v:List Value},VRs σ0 ρ a v->xJ a=true->VRs σ0 ⟨ρ.loc,φ,ρ.n⟩ a v
 | _,_,.nil,_=>.nil
 | _,_,.cons v vs v' vs' h hs,hc=>by
  simp only[xJ,Bool.and_eq_true] at hc;exact .cons _ _ _ _ (h.thaw hc.1) (hs.thaw hc.2)
end
theorem qhi:∀{cs:List AV} {j:Nat} {v:AV},xJ cs=true->cs[j]?=some v->qcn v=true
 | [],_,_,_,h=>by simp at h
 | c::cs,0,v,hf,h=>by
  simp only[xJ,Bool.and_eq_true] at hf;simp at h;rw[← h];exact hf.1
 | c::cs,j+1,v,hf,h=>by
  simp only[xJ,Bool.and_eq_true] at hf;exact qhi hf.2 (by simpa using h)
def qjN:Blk->Bool
 | .cells _ _ _ cs=>xJ cs
 | _=>false
theorem Rel.thaw{ρ:Ren}{φ:Fz}{B:Nat->Prop}{h:Hp}{w:World}(r:Rel σ0 ρ B h w)(hφ:∀k a,φ k=some a->ρ.frz k=some a)(hh:∀b x,h.tr.get b=some x->qjN x=true):Rel σ0 ⟨ρ.loc,φ,ρ.n⟩ B h w:=by
 refine⟨r.dom,fun b L e wf af cs hb hg=>?_,fun b L es hb hg=>?_,r.excl,r.exclm,r.app,r.flr,r.base,fun k arr hk=>r.frz k arr (hφ k arr hk),r.dn⟩
 ·obtain⟨g1,c,ty,fz,g2,g3,g4,g5,g6⟩:=r.cells b L e wf af cs hb hg;exact⟨g1,c,ty,fz,g2,g3,g4,fun j v hv=>let ⟨v',g7,g8⟩:=g5 j v hv;⟨v',g7,g8.thaw (qhi (hh b _ hg) hv)⟩,g6⟩
 ·have:=hh b _ hg;cases this
theorem qfi.of_SC{f:Nat}{vs':List AV}{v:AV}{bs:List Blk}(hv:qcn v=true)(hbs:bs.all qjN=true)(hs:SC P f vs' H0 (qqq v bs)):qfi P f vs' v bs:=by
 intro h vs k hf hk;refine⟨hs.1,fun ρ B w args r ha=>?_⟩
 have hcr:=hf.ok r ha;refine qcg.mono (hs.2 ⟨fun _=>none,xG ρ h w,0⟩ (low w.heap.size) w args r.bare (CRs.vr (ρ:=⟨fun _=>none,xG ρ h w,0⟩) hcr)) ?_
 rintro e w1 ⟨v0,v',h1,ρ1,rfl,g1,g2,g3,g4⟩;obtain⟨src,s1,s2,s3⟩:=g1 g4.fl;have hw:Wk 0 (mkT [(0,v0)]) h1 (mkT [(0,v)]) (mkH 0 bs):=Wk.mk [(0,v)] bs src ⟨⟨v0,by simp[mkT,Tr.get_set],s1⟩,trivial⟩ s2 s3 g4.fl
 obtain⟨ρ2,t2,r2,k2⟩:=hw ρ1 (low w.heap.size) w1 #[v'] (fun j x hj=>by
  have:=qdF hj;simp at this;obtain⟨rfl,rfl⟩:=this;exact⟨by simp,by simpa using g2⟩) g3
 have hv2:VR σ0 ρ2 v v':=by
  have:=(t2 0 v (by simp[mkT,Tr.get_set])).2;simpa using this
 have hφ:∀k a,ρ.frz k=some a->ρ2.frz k=some a:=fun k a hk=>k2.frz k a (g4.frz k a (qaY hk))
 have r3:=r2.thaw (φ:=ρ.frz) hφ (fun b x hx=>by
  rw[qcE] at hx;exact List.all_eq_true.1 hbs x (zzM hx))
 have hv3:=hv2.thaw (φ:=ρ.frz) hv;refine⟨_,v',_,ρ.join ⟨ρ2.loc,ρ.frz,ρ2.n⟩ h.sz bs.length,rfl,hk,hv3.sh r3.dn.1,Rel.joinH r r3 g4.pres g4.wle (fun _ _ h=>h) (fun _ _ h=>.inl h),?_⟩
 refine⟨fun b hb=>qgR hb,by rw[qdj];omega,qec,fun b _ hb=>by rw[qa5,if_pos hb],fun k hk=>g4.pres k (r.base _ hk),g4.wle,g4.io,fun _ _ h=>h,fun _ _ h=>.inl h,?_⟩
 exact Nat.le_trans r.dn.1 (Nat.le_add_right _ _)
theorem qfi.mk{f:Nat}{i:IFn}{vs:List AV}{v:AV}{bs:List Blk}(hc:qd P f i=true)(hv:qcn v=true)(hbs:bs.all qjN=true)(hV:V P 0 i.body (qcm i.res (qqq v bs)) (qdZ vs 0 .leaf) H0):qfi P f vs v bs :=
 qfi.of_SC hv hbs (SC.mk hc (qp hV))
end Go.Kc
end
section
namespace Go.Kc
variable {P:Program} {n:Nat} {h:Hp}
def bsy(r:Loop):Loop:={ r with state:=.busy }
def rdy(r:Loop):Loop:={ r with state:=.ready,pending:=none }
def dne(r:Loop)(c:Code):Loop:={ r with state:=.done,pending:=some c }
structure LoopOk (P:Program) (r:Loop) (ps:List Nat) (ai bi:ICode):Prop where
 params:r.params.toList=ps
 code:∃nt,qC P nt r.assign ai=true∧qC P nt r.body bi=true∧nt<=r.tmps.size∧∀p ∈ ps,p<nt
 flat:qe5 ai=true∧qe5 bi=true
 real:∀j,r.assign≠.goto j
def qlq(P:Program)(r:Loop)(ps:List Nat)(ai bi:ICode):Prop:=∀r',qcZ r r'->LoopOk P r' ps ai bi
theorem LoopOk.likes{r:Loop}{ps:List Nat}{ai bi:ICode}(h:LoopOk P r ps ai bi):qlq P r ps ai bi:=fun r' hl=>by
 rcases hl with⟨rfl,_⟩|⟨j,h1,_⟩
 ·exact h
 ·exact absurd h1 (h.real j)
theorem qcZ.bsy{r r':Loop}(h:qcZ r r'):qcZ (Go.Kc.bsy r) (Go.Kc.bsy r'):=by
 rcases h with⟨rfl,h0⟩|⟨j,h1,h2,_,h4⟩
 ·exact .inl ⟨rfl,h0⟩
 ·exact .inr ⟨j,h1,Cur.st .busy r'.pending h2,rfl,h4⟩
theorem qi4{r:Loop}:rdy (bsy r)=rdy r:=rfl
noncomputable def qkn:List Nat->List AV->Tr AV->Tr AV
 | p::ps,u::us,t=>qkn ps us (t.set p u)
 | _,_,t=>t
def qum(b:Nat)(k:AV->Hp->Prop)(x:X)(_:Tr AV)(h:Hp):Prop :=
 ∃r ts,h.tr.get b=some (.map (zD r ts))∧onX x (k (.b true) (h.put b (.map (zD (rdy r) ts)))) (fun id=>k (.b false) (h.put b (.map (zD (dne r (.exit id)) ts)))) (k (.b false) (h.put b (.map (zD (dne r .ret) ts))))
def qyX(P:Program)(n b:Nat)(r:Loop)(bi:ICode)(Q:X->Tr AV->Hp->Prop)(x:X)(t:Tr AV)(h:Hp):Prop :=
 onX x (∃ts,h.tr.get b=some (.map (zD r ts))∧S P n bi Q t (h.put b (.map (zD (bsy r) ts)))) (fun _=>False) False
def qxH(P:Program)(n b:Nat)(bi:ICode)(Q:X->Tr AV->Hp->Prop)(x:X)(t:Tr AV)(h:Hp):Prop :=
 onX x (∃r ts R,h.tr.get b=some (.map (zD r ts))∧r.state = .ready∧(∀q,qcZ r q->qcZ R (bsy q))∧S P n bi Q t (h.put b (.map (zD R ts)))) (fun _=>False) False
def quu:X->Loop->Loop
 | .normal,q=>rdy q
 | .exit id,q=>dne q (.exit id)
 | .ret,q=>dne q .ret
def qy5:X->Bool
 | .normal=>true
 | _=>false
def qs4(b:Nat)(k:AV->Hp->Prop)(x:X)(_:Tr AV)(h:Hp):Prop :=
 ∃r ts R,h.tr.get b=some (.map (zD r ts))∧(∀q,qcZ r q->qcZ R (quu x q))∧k (.b (qy5 x)) (h.put b (.map (zD R ts)))
theorem qoo{b:Nat}{k:AV->Hp->Prop}{x:X}{t:Tr AV}{h:Hp}(hq:qum b k x t h):qs4 b k x t h:=by
 obtain⟨r,ts,h1,h2⟩:=hq;cases x with
 | normal=>exact⟨r,ts,rdy r,h1,fun q hq=>hq.set .ready none,h2⟩
 | exit id=>exact⟨r,ts,dne r (.exit id),h1,fun q hq=>hq.set .done (some (.exit id)),h2⟩
 | ret=>exact⟨r,ts,dne r .ret,h1,fun q hq=>hq.set .done (some .ret),h2⟩
theorem qlU{ρ:Ren}:∀{ps:List Nat} {us:List AV} {t:Tr AV} {tm:Array Value} {args:List Value},VRs σ0 ρ us args->ps.length=us.length->(∀p ∈ ps,p<tm.size)->TR σ0 ρ t tm->
  TR σ0 ρ (qkn ps us t) ((ps.zip args).foldl (fun tm (p,v)=>tm.setIfInBounds p v) tm)
 | [],[],_,_,_,hv,_,_,ht=>by cases hv;exact ht
 | [],_::_,_,_,_,_,hl,_,_=>by simp at hl
 | _::_,[],_,_,_,_,hl,_,_=>by simp at hl
 | p::ps,u::us,t,tm,args,hv,hl,hp,ht=>by
  cases hv with
  | cons _ _ v vs h1 h2 =>
   have hlt:=hp p (by simp);refine qlU (ps:=ps) h2 (by simpa using hl) (fun q hq=>by simpa using hp q (by simp[hq])) (fun j x hj=>?_)
   rw[Tr.get_set] at hj;split at hj
   ·rename_i he;subst he;cases hj;exact⟨by simpa using hlt,by simpa[Array.getD,hlt] using h1⟩
   ·rename_i he;obtain⟨g1,g2⟩:=ht j x hj;refine⟨by simpa using g1,?_⟩
    rw[Array.getD_eq_getD_getElem?,Array.getElem?_setIfInBounds,if_neg (fun e=>he e.symm),← Array.getD_eq_getD_getElem?]
    exact g2
theorem qym{ρ:Ren}{tm:Array Value}:∀{ts:List (Nat×AV)},(∀p ∈ ts,p.1<tm.size∧VR σ0 ρ p.2 (tm.getD p.1 undef))->TR σ0 ρ (mkT ts) tm :=
 fun h j v hj=>h (j,v) (qdF hj)
theorem qlM:∀{ts:List (Nat×AV)},(ts.map Prod.fst).Nodup->∀{p:Nat×AV},p ∈ ts->(mkT ts).get p.1=some p.2
 | [],_,_,hp=>by cases hp
 | q::ts,hn,p,hp=>by
  simp only[mkT,Tr.get_set];have hn2:=List.nodup_cons.1 hn;rcases List.mem_cons.1 hp with rfl|hp
  ·rw[if_pos rfl]
  ·rw[if_neg (fun e=>hn2.1 (List.mem_map.2 ⟨p,hp,e⟩))]
   exact qlM hn2.2 hp
theorem qft:∀(l:List (Nat×Value)) (tm:Array Value),(l.foldl (fun tm (p,v)=>tm.setIfInBounds p v) tm).size=tm.size
 | [],_=>rfl
 | p::l,tm=>by rw[List.foldl_cons,qft l];simp
theorem SY.mkL{b:Nat}{us:List AV}{k:AV->Hp->Prop}{r:Loop}{ts:List (Nat×AV)}{ps:List Nat}{ai bi:ICode}(hg:h.tr.get b=some (.map (zD r ts)))(hok:qlq P r ps ai bi)(hfl:h.fl<=b)(hbs:b<h.sz)(hl:ps.length=us.length)
  (hA:S P h.sz ai (qxH P h.sz b bi (qs4 b k)) (qkn ps us (mkT ts)) h):SY P b us h k:=by
 intro ρ B w args L hL rl hargs;obtain⟨L0,ob,hob,hrec⟩:=rl.maps b L _ hL hg;obtain⟨q,rfl,hlk,hts⟩:=hrec.rec';have hokq:=hok q hlk;obtain⟨nt,hca,hcb,hnt,hps⟩:=hokq.code
 have hsz:args.size=q.params.size:=by
  have:=hargs.length;have h2:q.params.size=ps.length:=by rw[← hokq.params];simp
  rw[h2,hl,this];simp
 refine⟨q.fn,_,q.assign,q.body,run_yield hob hsz,fun ro=>roundIn_of_wpIn trivial ?_⟩
 have hfold:(q.params.zip args).foldl (fun tmps (t,a)=>tmps.setIfInBounds t a) q.tmps=(ps.zip args.toList).foldl (fun tm (p,v)=>tm.setIfInBounds p v) q.tmps:=by
  rw[← Array.foldl_toList,Array.toList_zip,hokq.params]
 rw[hfold]
 have hT:TR σ0 ρ (qkn ps us (mkT ts)) ((ps.zip args.toList).foldl (fun tm (p,v)=>tm.setIfInBounds p v) q.tmps) :=
  qlU hargs hl (fun p hp=>Nat.lt_of_lt_of_le (hps p hp) hnt) (qym hts)
 have hS:=hA nt q.assign hca (Nat.le_refl _) (some L.blk) (.inr hokq.flat.1) ρ B w { tmps:=(ps.zip args.toList).foldl (fun tm (p,v)=>tm.setIfInBounds p v) q.tmps,defers:=[] } hT (by rw[qft];exact hnt) rl
 refine wpIn_mono hS ?_;rintro e a1 w1 ⟨x1,t1,h1,ρ1,rs,hx,hq,ht1,hs1,hd1,hm,r1,k1⟩;cases hx with
 | exit id=>exact hq.elim
 | ret=>exact hq.elim
 | normal =>
  obtain⟨r',ts1,R',hg1,hrr,hRR,hB⟩:=hq;have r1:=r1.lessB (B:=B) fun k hk=>.inl hk
  have hL1:ρ1 b=some L:=(k1.ext b hbs).trans hL;obtain⟨_,ob1,hob1,hrec1⟩:=r1.maps b L _ hL1 hg1;obtain⟨q1,rfl,hlk1,hts1⟩:=hrec1.rec';refine⟨w1.putObj L.blk (.loop (Go.Kc.bsy q1)),run_beginRound hob1 (hlk1.state.trans hrr),?_⟩;obtain⟨r2,k2⟩:=r1.putMap (w':=w1.putObj L.blk (.loop (Go.Kc.bsy q1))) hL1 hg1 (by rw[k1.fl];exact hfl) hob1 (es':=zD R' ts1) (.inr (.inr ⟨_,_,_,rfl,rfl,hRR _ hlk1,hts1⟩)) rfl ⟨rfl,rfl⟩;have hSb:=hB nt q.body hcb k1.szle (some L.blk) (.inr hokq.flat.2) ρ1 B _ a1 ht1 hs1 r2;refine wpIn_mono hSb ?_;rintro e a3 w3 ⟨x3,t3,h3,ρ3,rs3,hx3,hq3,ht3,hs3,hd3,hm3,r3,k3⟩;have r3:=r3.lessB (B:=B) fun k hk=>.inl hk
  have kk:=(k1.trans (k2.kep k1.szle)).trans k3;obtain⟨r',ts',R3,hg3,hR3,hq3⟩:=hq3;have hL3:ρ3 b=some L:=(kk.ext b hbs).trans hL;obtain⟨_,ob3,hob3,hrec3⟩:=r3.maps b L _ hL3 hg3;obtain⟨q3,rfl,hlk3,hts3⟩:=hrec3.rec'
  have fin:∀(lq:Loop) (y:Bool),qcZ R3 lq->lq.tmps=q3.tmps->k (.b y) (h3.put b (.map (zD R3 ts')))->(∃v v0 h' ρ',Ending.returned (Value.bool y) = .returned v0∧k v h'∧VR σ0 ρ' v v0∧Rel σ0 ρ' B h' (w3.putObj L.blk (.loop lq))∧Kept ρ B h w ρ' h' (w3.putObj L.blk (.loop lq))):=by
   intro lq y hlp htm hk;obtain⟨r4,k4⟩:=r3.putMap (w':=w3.putObj L.blk (.loop lq)) hL3 hg3 (by rw[kk.fl];exact hfl) hob3 (es':=zD R3 ts') (.inr (.inr ⟨_,_,_,rfl,rfl,hlp,by rw[htm];exact hts3⟩)) rfl ⟨rfl,rfl⟩
   exact⟨.b y,.bool y,_,ρ3,rfl,hk,.b _,r4,(kk.trans (k4.kep kk.szle)).kept rl.dn.1⟩
  have hlf:=hR3 q3 hlk3;cases hx3 with
  | normal=>exact⟨_,_,run_endRound none hob3,fin (Go.Kc.rdy q3) true hlf rfl hq3⟩
  | exit id=>exact⟨_,_,run_endRound (some (.exit id)) hob3,fin (dne q3 (.exit id)) false hlf rfl hq3⟩
  | ret=>exact⟨_,_,run_endRound (some .ret) hob3,fin (dne q3 .ret) false hlf rfl hq3⟩
theorem SY.mk{b:Nat}{us:List AV}{k:AV->Hp->Prop}{r:Loop}{ts:List (Nat×AV)}{ps:List Nat}{ai bi:ICode}(hg:h.tr.get b=some (.map (zD r ts)))(hr:r.state = .ready)(hok:LoopOk P r ps ai bi)(hfl:h.fl<=b)(hbs:b<h.sz)(hl:ps.length=us.length)
  (hA:S P h.sz ai (qyX P h.sz b r bi (qum b k)) (qkn ps us (mkT ts)) h):SY P b us h k:=by
 refine SY.mkL hg hok.likes hfl hbs hl ?_;intro nt code hc hn ro hro ρ B w a ht hsz rl;refine wpIn_mono (hA nt code hc hn ro hro ρ B w a ht hsz rl) ?_;rintro e a1 w1 ⟨x1,t1,h1,ρ1,rs,hx,hq,rest⟩;refine⟨x1,t1,h1,ρ1,rs,hx,?_,rest⟩;cases x1 with
 | normal=>obtain⟨ts1,g1,g2⟩:=hq;exact⟨r,ts1,Go.Kc.bsy r,g1,hr,fun q hq=>hq.bsy,g2.mono fun e t h=>qoo⟩
 | exit id=>exact hq
 | ret=>exact hq
def qul(b:Nat)(Q:X->Tr AV->Hp->Prop)(t:Tr AV)(_:AV)(h:Hp):Prop :=
 ∃r ts,h.tr.get b=some (.map (zD r ts))∧r.state≠.busy ∧
  match r.pending with
  | none=>Q .normal t (h.put b .dead)
  | some .ret=>Q .ret t (h.put b .dead)
  | some (.exit id)=>Q (.exit id) t (h.put b .dead)
  | _=>False
def rfK(P:Program)(ps:List Nat)(ai bi:ICode)(Q:X->Tr AV->Hp->Prop)(t:Tr AV)(ts:List (Nat×AV))(h:Hp)(g:AV):Prop :=
 match g with
 | .fn f first cap=>qjH P f∧∀r0,r0.state = .ready->r0.pending=none->LoopOk P r0 ps ai bi->SC P f (first++(.yl h.sz::cap)) (h.push (.map (zD r0 ts))) (qul h.sz Q t)
 | _=>False
def qzy(P:Program)(ps:List Nat)(ai bi:ICode)(Q:X->Tr AV->Hp->Prop)(t:Tr AV)(ts:List (Nat×AV))(h:Hp)(g:AV):Prop :=
 match g with
 | .fn f first cap=>qjH P f∧∀r0,r0.state = .ready->r0.pending=none->LoopOk P r0 ps ai bi->∃R,qcZ R r0∧SC P f (first++(.yl h.sz::cap)) (h.push (.map (zD R ts))) (qul h.sz Q t)
 | _=>False
theorem S.rangeFL{j:Nat}{g:O}{ps:List Nat}{ai bi:ICode}{Q:X->Tr AV->Hp->Prop}{t:Tr AV}{h:Hp}{ts:List (Nat×AV)}(hfl:h.fl<=h.sz)(htg:∀p ∈ ts,t.get p.1=some p.2)(hnr:qe5 ai=true∧qe5 bi=true)(hk:evK t g (qzy P ps ai bi Q t ts h)):S P n (.rangeF j g ps ai bi) Q t h:=by
 intro nt code hc hn ro hro ρ B w a ht hsz r
 obtain rfl:ro=none:=by
  rcases hro with h|h
  ·exact h
  ·cases h
 cases code<;>first|(simp[qC] at hc;done)|skip
 rename_i og ops oa ob;simp only[qC,Bool.and_eq_true] at hc;obtain⟨⟨⟨⟨⟨h1,h2⟩,h3⟩,h4⟩,h5⟩,h6⟩:=hc;have hreal:∀j,oa≠.goto j:=fun j hj=>by rw[hj] at h6;cases h6
 have h2:=eq_of_beq h2;obtain⟨gv,hgv,hk2⟩:=qA ht h1 hk;cases gv<;>try exact hgv.elim
 rename_i f first cap
 obtain⟨⟨fn0,c1,c2,c3⟩,hS⟩:=hgv;obtain⟨a',c',q1,q2,q3⟩:=hk2.un_fn;have hLd:∀b L,ρ b=some L->L.blk<w.heap.size:=r.dn.2;refine wpIn_rangeFunc fun fn _=>?_
 let r0:Loop:={ state:=.ready,pending:=none,fn,tmps:=a.tmps,params:=ops,assign:=oa,body:=ob,defers:=w.heap.size }
 let W1:World:=(w.alloc (.deferred (some []))).alloc (.loop r0)
 have hold:∀k,k<w.heap.size->(w.alloc (.deferred (some []))).heap[k]?=w.heap[k]?:=fun k hk=>by
  show (w.heap.push _)[k]?=_;rw[Array.getElem?_push,if_neg (by omega)]
 have hD:(w.alloc (.deferred (some []))).heap[w.heap.size]?=some (.deferred (some [])):=World.alloc_heap_new w _
 have r1:Rel σ0 ρ (BM B [w.heap.size]) h (w.alloc (.deferred (some []))):=by
  have r':=r.world (w':=w.alloc (.deferred (some []))) hold (by simp);refine⟨r'.dom,r'.cells,r'.maps,r'.excl,r'.exclm,r'.app,fun b L hb hf hB=>?_,fun k hk=>?_,r'.frz,r'.dn⟩
  ·rcases hB with hB|hB
   ·exact r.flr b L hb hf hB
   ·have:=hLd b L hb;rw[List.mem_singleton] at hB;omega
  ·rcases hk with hk|hk
   ·have:=r.base k hk;simp;omega
   ·rw[List.mem_singleton] at hk;simp;omega
 have hts:∀p ∈ ts,p.1<r0.tmps.size∧VR σ0 ρ p.2 (r0.tmps.getD p.1 undef):=fun p hp=>ht p.1 p.2 (htg p hp)
 have hlo:LoopOk P r0 ps ai bi:=⟨h2,⟨nt,h4,h5,hsz,fun p hp=>by rw[← h2] at hp;have:=List.all_eq_true.1 h3 p hp;exact Nat.lt_of_succ_le (Nat.le_of_ble_eq_true this)⟩,hnr,hreal⟩
 obtain⟨R,hRl,hSC⟩:=hS r0 rfl rfl hlo;obtain⟨r2,k2⟩:=r1.newMap (w':=W1) (es0:=zD R ts) (o:=.loop r0) (.inr (.inr ⟨_,_,_,rfl,rfl,hRl,hts⟩)) rfl ⟨rfl,rfl⟩;have hl:(w.alloc (.deferred (some []))).heap.size=w.heap.size+1:=by simp
 rw[hl] at r2 k2;obtain⟨Lc,hLc⟩:∃Lc:Loc,Lc=⟨w.heap.size+1,0,0,0⟩:=⟨_,rfl⟩;rw[← hLc] at r2 k2;have hself:(ρ.add h.sz Lc) h.sz=some Lc:=Ren.add_self _ _ _;have hle2:=k2.mono r1.dom
 have hargs:VRs σ0 (ρ.add h.sz Lc) (first++(.yl h.sz::cap)) (a' ++ #[Value.func (.yield (w.heap.size+1)) #[] #[]]++c').toList:=by
  have hy:VR σ0 (ρ.add h.sz Lc) (.yl h.sz) (.func (.yield Lc.blk) #[] #[]):=.yl _ Lc hself;have e2:Lc.blk=w.heap.size+1:=by rw[hLc]
  rw[e2] at hy;have:=(q1.mono hle2).append (VRs.cons _ _ _ _ hy (q2.mono hle2));simpa using this
 have hcf:=qdu (P:=P) c1 c2 c3
 have hcalls:Calls P f (a' ++ #[Value.func (.yield (w.heap.size+1)) #[] #[]]++c') W1 fun e w'=>∃v v' h' ρ',e = .returned v'∧qul h.sz Q t v h'∧VR σ0 ρ' v v'∧Rel σ0 ρ' (BM B [w.heap.size]) h' w'∧Kept (ρ.add h.sz Lc) (BM B [w.heap.size]) (h.push (.map (zD R ts))) W1 ρ' h' w':=by
  rcases hSC.2 _ _ _ _ r2 hargs with⟨_,hh⟩|⟨v,w',hh,_⟩
  ·exact hh
  ·rw[hcf] at hh;cases hh
 have hev:(({ a with defers:=qhx [w.heap.size]++a.defers }:Act)).eval og = .func (.func f) a' c':=q3;refine⟨w.heap.size+1,[{ target:=.collected w.heap.size,args:=#[] }],W1,{ target:=.fn (.func f) c',args:=a' ++ #[Value.func (.yield (w.heap.size+1)) #[] #[]] },W1,f,a' ++ #[Value.func (.yield (w.heap.size+1)) #[] #[]]++c',W1,run_enterLoop_outer _ _ _ _ _,?_,fun _ _=>trivial,?_,fun hh=>(by cases hh),qjR (Calls.mono hcalls ?_)⟩
 ·simp only[resolve,q3];simp[go_sem,Deferred.ofValue,q3]
 ·simp[invoke,hcf]
 rintro e w2 ⟨v,v',h2',ρ2,rfl,hend,hv,r3,k3⟩;obtain⟨r',ts',hg',hst,hmt⟩:=hend;have hL2:ρ2 h.sz=some Lc:=(k3.ext _ (by show _<Nat.succ _;exact Nat.lt_succ_self _)).trans hself
 obtain⟨_,ob2,hob2,hrec2⟩:=r3.maps _ Lc _ hL2 hg';obtain⟨q2,rfl,hlk2,hts2⟩:=hrec2.rec';have hob3:w2.heap[w.heap.size+1]?=some (.loop q2):=by rw[hLc] at hob2;exact hob2
 have hfl2:h2'.fl<=h.sz:=by rw[k3.fl];exact hfl
 obtain⟨re,hre⟩:∃re:Loop,re={ q2 with state:=.exhausted }:=⟨_,rfl⟩;obtain⟨re',hre'⟩:∃re':Loop,re'={ r' with state:=.exhausted }:=⟨_,rfl⟩
 have hlre:qcZ re' re:=by
  have:=hlk2.set .exhausted q2.pending;rw[hre,hre'];have e:({ r' with state:=.exhausted,pending:=q2.pending }:Loop)={ r' with state:=.exhausted }:=by rw[hlk2.pending]
  rw[e] at this;exact this
 have hts4:∀p ∈ ts',p.1<re.tmps.size∧VR σ0 ρ2 p.2 (re.tmps.getD p.1 undef):=by rw[hre];exact hts2
 have hend2:=run_endLoop (P:=P) hob3 (by rw[hlk2.state];exact hst);rw[← hre] at hend2;clear hre;obtain⟨r4,k4⟩:=r3.putMap (w':=w2.putObj (w.heap.size+1) (.loop re)) hL2 hg' hfl2 hob2 (es':=zD re' ts') (.inr (.inr ⟨_,_,_,rfl,rfl,hlre,hts4⟩)) (by rw[hLc];rfl) ⟨rfl,rfl⟩
 have r5:Rel σ0 ρ2 (BM B [w.heap.size]) (h2'.put h.sz .dead) (w2.putObj (w.heap.size+1) (.loop re)):=by
  refine r4.sub rfl rfl fun b x hx hd=>?_
  simp only[Hp.put,Tr.get_set] at hx ⊢;split at hx
  ·cases hx;exact absurd rfl hd
  ·rename_i hne;rw[if_neg hne];exact hx
 have hD1:W1.heap[w.heap.size]?=some (.deferred (some [])):=by
  show ((w.alloc (.deferred (some []))).heap.push _)[w.heap.size]?=_;rw[Array.getElem?_push,if_neg (by rw[hl];omega)];exact hD
 have hD2:(w2.putObj (w.heap.size+1) (.loop re)).heap[w.heap.size]?=some (.deferred (some [])):=by
  rw[World.putObj_heap_other (by omega),k3.pres _ (.inr (by simp))];exact hD1
 have k0:Kep n ρ B h w ρ h (w.alloc (.deferred (some []))):=⟨fun _ _=>rfl,hn,rfl,fun _ _ _=>rfl,fun k hk=>hold k (r.base k hk),by simp,⟨rfl,rfl⟩,fun _ _ h=>h,fun _ _ h=>.inl h,fun _ _ h=>h⟩
 have hn2:n<=(h.push (.map (zD R ts))).sz:=Nat.le_trans hn (Nat.le_succ _);have hn3:n<=h2'.sz:=Nat.le_trans hn2 k3.szle
 have k5:Kep n ρ2 (BM B [w.heap.size]) h2' w2 ρ2 (h2'.put h.sz .dead) (w2.putObj (w.heap.size+1) (.loop re)) :=
  ⟨fun _ _=>rfl,hn3,rfl,fun b hb _=>by simp only[Hp.put,Tr.get_set];rw[if_neg (by omega)],k4.pres,k4.wle,k4.io,fun _ _ h=>h,fun _ _ h=>.inl h,fun _ _ h=>h⟩
 have kk:Kep n ρ B h w ρ2 (h2'.put h.sz .dead) (w2.putObj (w.heap.size+1) (.loop re)):=((k0.trans (k2.kep hn).bm).trans (k3.kep hn2).bm).trans k5.bm
 have fin:∀(x:X) (e:Exit),XR x e->Q x t (h2'.put h.sz .dead)->qbE σ0 Q nt n ρ B h w a.defers e { a with defers:=[{ target:=.collected w.heap.size,args:=#[] }]++a.defers } (w2.putObj (w.heap.size+1) (.loop re)):=fun x e hx hq =>
  ⟨x,t,_,ρ2,[w.heap.size],hx,hq,ht.mono (Ren.le_trans hle2 (k3.mono r2.dom)),hsz,rfl,⟨by simp,fun q hq=>by rw[List.mem_singleton] at hq;omega,fun q hq=>by rw[List.mem_singleton] at hq;subst hq;exact hD2⟩,r5,kk⟩
 refine⟨q2.pending,_,hend2,?_⟩;clear hend2;rw[hlk2.pending];generalize r'.pending=pd at hmt ⊢;cases pd with
 | none=>exact fin .normal _ .normal hmt
 | some c =>
  cases c<;>first|exact hmt.elim|skip
  ·exact wpIn_exit (fin _ _ (.exit _) hmt)
  ·exact wpIn_ret (fin _ _ .ret hmt)
theorem S.rangeF{j:Nat}{g:O}{ps:List Nat}{ai bi:ICode}{Q:X->Tr AV->Hp->Prop}{ts:List (Nat×AV)}{bl:List Blk}(_:bl.all qpg=true)(hnd:(ts.map Prod.fst).Nodup)(hnr:qe5 ai=true∧qe5 bi=true)(hk:evK (mkT ts) g (rfK P ps ai bi Q (mkT ts) ts (mkH 0 bl))):S P n (.rangeF j g ps ai bi) Q (mkT ts) (mkH 0 bl):=by
 refine S.rangeFL (ts:=ts) (Nat.zero_le _) (fun p hp=>qlM hnd hp) hnr ?_
 obtain⟨v,h1,h2⟩:=qn (mkT ts) g _ hk;refine h2 _ ?_;cases v<;>try exact h1.elim
 obtain⟨hc,hh⟩:=h1;exact⟨hc,fun r0 a b hlo=>⟨r0,.inl ⟨rfl,hlo.real⟩,hh r0 a b hlo⟩⟩
end Go.Kc
end
section
namespace Go.Kc
variable {P:Program} {h:Hp}
inductive Gvs (h:Hp):List AV->List AV->Prop where
 | nil:Gvs h [] []
 | keep (v:AV) (vs vs':List AV) (h1:Gvs h vs vs'):Gvs h (v::vs) (v::vs')
 | fz (v v':AV) (vs vs':List AV) (hf:Frz h v v') (h1:Gvs h vs vs'):Gvs h (v::vs) (v'::vs')
 | fn (f:Nat) (a c c':List AV) (vs vs':List AV) (hc:Gvs h c c') (h1:Gvs h vs vs'):Gvs h (.fn f a c::vs) (.fn f a c'::vs')
theorem Gvs.ok{ρ:Ren}{B:Nat->Prop}{w:World}(hle:ρ.le ⟨ρ.loc,xG ρ h w,ρ.n⟩)(r:Rel σ0 ρ B h w):∀{vs vs':List AV} {xs:List Value},Gvs h vs vs'->VRs σ0 ρ vs xs->VRs σ0 ⟨ρ.loc,xG ρ h w,ρ.n⟩ vs' xs
 | _,_,_,.nil,hv=>by cases hv;exact .nil
 | _,_,_,.keep _ _ _ h1,hv=>by
  cases hv with
  | cons _ _ _ _ a1 a2=>exact .cons _ _ _ _ (a1.mono hle) (Gvs.ok hle r h1 a2)
 | _,_,_,.fz _ _ _ _ hf h1,hv=>by
  cases hv with
  | cons _ _ _ _ a1 a2=>exact .cons _ _ _ _ (CR.vr (ρ:=⟨ρ.loc,xG ρ h w,ρ.n⟩) (hf.ok r a1)) (Gvs.ok hle r h1 a2)
 | _,_,_,.fn f a c c' _ _ hc h1,hv=>by
  cases hv with
  | cons _ _ _ _ a1 a2 =>
   obtain⟨a',c'',q1,q2,q3⟩:=a1.un_fn;subst q3;exact .cons _ _ _ _ (.fn _ _ _ _ _ (q1.mono hle) (Gvs.ok hle r hc q2)) (Gvs.ok hle r h1 a2)
theorem Upd.pc{f:Nat}{vs:List AV}{bs bs2:List Blk}{v:AV}{k:AV->Hp->Prop}(at':List Nat)(hu:Upd P f vs bs v bs2)(l:Lent h at' bs)(hk:k (rnv (gAt at' h.sz) v) (qb4 h at' bs2)):PC P f (qa8 (gAt at' h.sz) vs) h k :=
 ⟨_,_,fun _ h'=>hu.sc at' l h',hk⟩
end Go.Kc
end
section
namespace Go.Kc
variable {P:Program} {h:Hp} {t:Tr AV}
end Go.Kc
end
section
namespace Go.Kc

variable {P:Program} {H:Type} {enc:TypeId×Value->H} {w:World} {t e:TypeId} {α:Type}
theorem qti{n m:Nat}{I:α->Prop}{E:α->List AV}(ht:P.underlying t=some (.array n e))(he:qcy enc P w e I E)(hc:P.cellsOf e=m)(hct:P.cellsOf t=n*m) :
  qcy enc P w t (fun l:List α=>l.length=n∧∀a ∈ l,I a) (fun l=>l.flatMap E):=by
 intro fuel cs x hx;obtain⟨xs,k,_,_,hl,hxs,hf⟩:=DataW.trod_array ht hx
 have go:∀j,j<=n->∃l:List α,(l.length=j∧∀a ∈ l,I a)∧CRs σ0 (qiO w) (l.flatMap E) (cs.take (j*m)):=by
  intro j
  induction j with
  | zero=>intro _;exact⟨[],⟨rfl,fun _ h=>by cases h⟩,by simpa using CRs.nil⟩
  | succ j ih =>
   intro hj;obtain⟨l,⟨h1,h2⟩,h3⟩:=ih (by omega);have h4:=hf j (by omega);have hlt:j<xs.length:=by omega
   rw[zzE hlt,hc] at h4;obtain⟨a,ha,h5⟩:=he _ _ _ h4;refine⟨l++[a],⟨by simp[h1],fun b hb=>?_⟩,?_⟩
   ·rcases List.mem_append.1 hb with hb|hb
    ·exact h2 b hb
    ·rw[List.mem_singleton.1 hb];exact ha
   ·rw[List.flatMap_append,Nat.succ_mul,List.take_add];refine h3.app ?_;simpa using h5
 obtain⟨l,h1,h2⟩:=go n (Nat.le_refl _);rw[List.take_of_length_le (by omega)] at h2;exact⟨l,h1,h2⟩
end Go.Kc
end
section
namespace Go.Kc
variable {P:Program}

end Go.Kc
end
section
namespace Go.Kc
end Go.Kc
end
section
namespace Go.Kc
variable {P:Program} {h:Hp}
end Go.Kc
end
section
namespace Go.Kc
section
variable {H:Type} {enc:TypeId×Value->H} {P:Program} {w:World} {α β:Type} {t e:TypeId}
theorem qek{d:DataW H}{k:Nat}:∀{l:List (DataW H)},d ∈ l->k ∈ d.weights P e->k ∈ DataW.weightsAll P e l
 | x::l,h,hk=>by
  rw[DataW.weightsAll];rcases List.mem_cons.1 h with rfl|h
  ·exact List.mem_append_left _ hk
  ·exact List.mem_append_right _ (qek h hk)
theorem qdQ{d:DataW H}{k:Nat}:∀{ts:List TypeId} {l:List (DataW H)} {i:Nat},ts[i]?=some t->l[i]?=some d->k ∈ d.weights P t->k ∈ DataW.weightsEach P ts l
 | u::ts,x::l,0,h1,h2,hk=>by
  simp at h1 h2;subst h1 h2;rw[DataW.weightsEach];exact List.mem_append_left _ hk
 | u::ts,x::l,i+1,h1,h2,hk=>by
  rw[DataW.weightsEach];exact List.mem_append_right _ (qdQ (i:=i) (by simpa using h1) (by simpa using h2) hk)
 | [],_,_,h,_,_=>by simp at h
 | _::_,[],_,_,h,_=>by simp at h
def qcM(enc:TypeId×Value->H)(P:Program)(w:World)(t:TypeId)(I:α->Prop)(E:α->List AV):Prop :=
 ∀(fuel:Nat) (cs:List Value) x,DataW.trod enc P w 0 (fun _=>true) true fuel t cs=some x->(∀k ∈ x.1.weights P t,k<=reachBytes)->∃a,I a∧CRs σ0 (qiO w) (E a) cs
theorem qcy.ww{I:α->Prop}{E:α->List AV}(h:qcy enc P w t I E):qcM enc P w t I E:=fun fuel cs x hx _=>h fuel cs x hx
theorem qsi{I:α->Prop}{E:α->List AV}{m:Nat}(ht:P.underlying t=some (.slice e))(he:qcM enc P w e I E)(hE:∀a,(E a).length=m)(hc:P.cellsOf e=m)(hm:0<m) :
  qcM enc P w t (fun l:List α=>l.length*P.bytesOf e<=reachBytes∧∀a ∈ l,I a) (fun l=>[.fz l.length (l.flatMap E)]):=by
 intro fuel cs x h hwt;rcases DataW.trod_slice ht h with⟨rfl,_⟩|⟨a,len,cap,elems,rest,n,_,rfl,rfl,_,hl,hmx,hlen,hel,hsp,_⟩
 ·exact⟨[],⟨by simp,fun _ h=>by cases h⟩,.cons _ _ _ _ (.fz0 none) .nil⟩
 obtain⟨hrl,hr⟩:=hsp rfl;have hw1:(elems.length+rest.length)*P.bytesOf e<=reachBytes:=hwt _ (by unfold DataW.weights;rw[ht];simp)
 have hw2:∀d ∈ elems,∀k ∈ d.1.weights P e,k<=reachBytes:=fun d hd k hk=>hwt _ (by
  unfold DataW.weights;rw[ht];refine List.mem_cons_of_mem _ (List.mem_append_left _ (qek (List.mem_map_of_mem hd) hk)))
 rcases Nat.eq_zero_or_pos cap with h0|hpos
 ·subst h0;obtain rfl:len=0:=by omega
  exact⟨[],⟨by simp,fun _ h=>by cases h⟩,.cons _ _ _ _ (.fz0 (some a)) .nil⟩
 have first:∃v,w.cell? a=some v:=by
  have:∃cs',w.cells? 0 (a.add (0*P.cellsOf e)) (P.cellsOf e)=some cs':=by
   rcases Nat.eq_zero_or_pos len with h1|h1
   ·have:=hr 0 (by omega);have hlt:0<rest.length:=by omega
    rw[zzE hlt,Option.bind_eq_some_iff] at this;obtain⟨c,hc',_⟩:=this;subst h1;exact⟨c,hc'⟩
   ·have:=hel 0 h1;have hlt:0<elems.length:=by omega
    rw[zzE hlt,Option.bind_eq_some_iff] at this;obtain⟨c,hc',_⟩:=this;exact⟨c,hc'⟩
  obtain⟨cs',h2⟩:=this;obtain⟨_,q1,q2⟩:=World.cells?_some h2;have:=q2 0 (by omega);rw[zzE (by omega)] at this;simp only[Nat.zero_mul,Addr.add,if_true] at this;exact⟨_,this⟩
 obtain⟨v0,hv0⟩:=first
 obtain⟨hs,arr,ty,fz,hb,_⟩:=qlv hv0
 have key:∀k,k<=len->∃l:List α,l.length=k∧(∀b ∈ l,I b)∧CRs σ0 (qiO w) (l.flatMap E) ((arr.toList.drop a.off).take (k*m)):=by
  intro k
  induction k with
  | zero=>intro _;exact⟨[],rfl,(fun _ h=>by cases h),by simpa using .nil⟩
  | succ k ih =>
   intro hk;obtain⟨l,h1,h2,h3⟩:=ih (by omega);have hk':=hel k (by omega);have hlt:k<elems.length:=by omega
   rw[zzE hlt,Option.bind_eq_some_iff] at hk';obtain⟨c,hcs,htr⟩:=hk';obtain⟨_,q1,q2⟩:=World.cells?_some hcs;obtain⟨b,hb1,hb2⟩:=he _ _ _ htr (hw2 _ (List.getElem_mem hlt))
   have e1:c=((arr.toList.drop a.off).drop (k*m)).take m:=by
    refine List.ext_getElem? fun j=>?_
    by_cases hj:j<m
    ·have:=q2 j (by omega);rw[← this]
     have e2:w.cell? ((a.add (k*P.cellsOf e)).add j)=arr[a.off+(k*m+j)]?:=by
      have ha:(a.add (k*P.cellsOf e)).add j=⟨a.block,a.off+(k*m+j),none⟩:=by
       unfold Addr.add;rw[hc];split
       ·split
        ·rename_i h4 h5;rw[h4,h5];cases a;simp_all
        ·rename_i h4 h5;rw[h4];simp
       ·split
        ·rename_i h4 h5;rw[h5];cases a;simp_all
        ·simp;omega
      rw[ha];simp[World.cell?,hb]
     rw[e2,List.getElem?_take_of_lt hj,List.getElem?_drop,List.getElem?_drop];simp[Array.getElem?_toList]
    ·rw[List.getElem?_eq_none (by omega),List.getElem?_eq_none];simp;omega
   refine⟨l++[b],by simp[h1],fun x hx=>?_,?_⟩
   ·rcases List.mem_append.1 hx with hx|hx
    ·exact h2 x hx
    ·obtain rfl:=List.mem_singleton.1 hx;exact hb1
   ·rw[List.flatMap_append,Nat.succ_mul,List.take_add,← e1];simpa using h3.app hb2
 obtain⟨l,h1,h2,h3⟩:=key len (Nat.le_refl _);refine⟨l,⟨Nat.le_trans (Nat.mul_le_mul_right _ (by omega)) hw1,h2⟩,.cons _ _ _ _ ?_ .nil⟩
 have hfl:(l.flatMap E).length=len*m:=by
  rw[← h1];clear h1 h2 h3
  induction l with
  | nil=>simp
  | cons x l ih=>simp[hE,ih,Nat.succ_mul,Nat.add_comm]
 obtain⟨blk,off,spot⟩:=a;cases hs;rw[h1];exact .fz len off cap _ blk arr hl (qfu.2 ⟨ty,fz,hb⟩) (by rw[hfl];exact h3)
def qgK(enc:TypeId×Value->H)(P:Program)(w:World)(fs:List Field)(o n:Nat)(I:α->Prop)(E:α->List AV):Prop :=
 (∀a,(E a).length=n)∧∀(fuel:Nat) (cs:List Value),(∀f ∈ fs,∃x,DataW.trod enc P w 0 (fun _=>true) true fuel f.type ((cs.drop f.offset).take (P.cellsOf f.type))=some x∧∀k ∈ x.1.weights P f.type,k<=reachBytes)->∃a,I a∧CRs σ0 (qiO w) (E a) ((cs.drop o).take n)
theorem qtg{o:Nat}:qgK enc P w [] o 0 (fun _:Unit=>True) (fun _=>[]):=⟨fun _=>rfl,fun _ cs _=>⟨(),trivial,by simpa using .nil⟩⟩
theorem qsh{f:Field}{fs:List Field}{o m n:Nat}{I:α->Prop}{E:α->List AV}{J:β->Prop}{F:β->List AV}(h:qcM enc P w f.type I E)(hE:∀a,(E a).length=m)(ho:f.offset=o)(hc:P.cellsOf f.type=m)
  (hr:qgK enc P w fs (o+m) n J F):qgK enc P w (f::fs) o (m+n) (fun p:α×β=>I p.1∧J p.2) (fun p=>E p.1++F p.2):=by
 refine⟨fun p=>by simp[hE,hr.1],fun fuel cs hf=>?_⟩
 obtain⟨x,hx,hxw⟩:=hf f (List.mem_cons_self ..);obtain⟨a,ha,h1⟩:=h _ _ _ hx hxw;obtain⟨b,hb,h2⟩:=hr.2 fuel cs fun g hg=>hf g (List.mem_cons_of_mem _ hg)
 refine⟨(a,b),⟨ha,hb⟩,?_⟩;rw[ho,hc] at h1;rw[List.take_add,List.drop_drop];exact h1.app h2
theorem qqp{fs:Array Field}{n:Nat}{I:α->Prop}{E:α->List AV}(ht:P.underlying t=some (.struct fs))(hc:P.cellsOf t=n)(h:qgK enc P w fs.toList 0 n I E):qcM enc P w t I E:=by
 intro fuel cs x hx hwt;obtain⟨xs,m,rfl,rfl,hl,hxs,hf⟩:=DataW.trod_struct ht hx
 obtain⟨a,ha,h1⟩:=h.2 m cs fun f hfm=>by
  obtain⟨i,hi⟩:=List.getElem?_of_mem hfm;have hi':fs[i]?=some f:=by simpa using hi
  have:=hf i f hi'
  have hlt:i<xs.length:=by
   rw[hxs];exact (Array.getElem?_eq_some_iff.1 hi').1
  rw[zzE hlt] at this;refine⟨_,this,fun k hk=>hwt _ ?_⟩
  unfold DataW.weights;rw[ht];exact qdQ (i:=i) (t:=f.type) (d:=xs[i].1) (by rw[List.getElem?_map,hi];rfl) (by rw[List.getElem?_map,zzE hlt];rfl) hk
 refine⟨a,ha,?_⟩;rwa [List.drop_zero,List.take_of_length_le (by omega)] at h1
theorem qcM.map{I:α->Prop}{E:α->List AV}{J:β->Prop}{F:β->List AV}(h:qcM enc P w t I E)(g:α->β)(hg:∀a,I a->J (g a)∧F (g a)=E a):qcM enc P w t J F:=by
 intro fuel cs x hx hw;obtain⟨a,ha,h1⟩:=h _ _ _ hx hw;exact⟨g a,(hg a ha).1,by rw[(hg a ha).2];exact h1⟩
theorem qcM.agg [TabOk w]{I:α->Prop}{E:α->List AV}(h:qcM enc P w t I E){v:Value}{d:DataW H}{p:List MemPlace}(ha:∃cs,v = .agg cs)(hd:DataW.Trod enc P w 0 (fun _=>true) true t v d p)(hw:∀k ∈ d.weights P t,k<=reachBytes):∃a,I a∧VR σ0 (ice w) (.agg (E a)) v:=by
 obtain⟨cs,rfl⟩:=ha;obtain⟨fuel,hd⟩:=hd;obtain⟨a,h1,h2⟩:=h _ _ _ hd hw;exact⟨a,h1,.agg _ _ h2.vr⟩
end
end Go.Kc
end
section
namespace Go.Kc
variable {P:Program} {f:Nat}

def qsy(q:IntKind)(p:List UInt8×Int):List AV:=[.s p.1,.i q p.2]
def qb9:List (List UInt8×Int):=[([65,70,95,85,78,73,88],1),([65,70,95,73,78,69,84],2),([65,70,95,73,78,69,84,54],10),([65,70,95,78,69,84,76,73,78,75],16),([65,70,95,80,65,67,75,69,84],17),([65,70,95,66,76,85,69,84,79,79,84,72],31),([65,70,95,65,76,71],38),([65,70,95,86,83,79,67,75],40)]
def qdt(P:Program)(g esz bytes:Nat):Prop:=∀(n:Nat) (rows:List AV),rows.length=n*esz->qF rows=true->qB rows=true->n<=qe->n*bytes<=qe->Own P g [.fz n rows] (.own 0 n) [.cells esz true true rows]


end Go.Kc
end
section
namespace Go.Kc
end Go.Kc
end
section
namespace Go.Kc
def rI(k:IntKind)(l:List Int):List AV:=l.map (.i k)
section
variable {k:IntKind} {l m:List Int} {j:Nat}
theorem qaS:(rI k l).length=l.length:=by simp[rI]
theorem zf:qF (rI k l)=true:=qd3 fun _=>rfl
theorem qtn:qB (rI k l)=true:=qmD fun _=>rfl
theorem qct:(rI k l)[j]?=(l[j]?).map (.i k):=by simp[rI]
theorem qvO:rI k l++rI k m=rI k (l++m):=by simp[rI]
theorem qsr{x:Int}:rI k (x::l) = .i k x::rI k l:=rfl
end
section
variable {l m:List (List UInt8)} {j:Nat}
end
end Go.Kc
end
section
namespace Go.Kc
variable {P:Program} {f:Nat}
def qbO{α:Type}(p:α->Bool):List α->Nat->Int
 | [],_=>-1
 | x::xs,j=>if p x=true then (j:Int) else qbO p xs (j+1)
def qn7(P:Program)(f:Nat):Prop:=∀{α:Type} (enc:α->AV) (p:α->Bool) (g:Nat) (a c:List AV) (l:List α),qF a=true->qF c=true->l.length<=qe->
 (∀x ∈ l,qg P g (a++([enc x]++c)) (.b (p x)))->qg P f [.fz l.length (l.map enc),.fn g a c] (.i .i64 (qbO p l 0))
def qah:IFn:=⟨[.tmp 4],.seq (.r [.m 4 (.k 0)]) (.seq (.seq (.r [.n 6 0,.e 7 6,.m 8 (.k 0)]) (.blk 0 (.loop (.seq (.r [.s 9 8 7]) (.seq (.cond (.t 9) (.skip) (.exit 0)) (.seq (.blk 1 (.seq (.r [.n 10 8,.n 5 10]) (.seq (.r [.n 11 1,.n 12 0,.n 13 5,.i 14 1 12 13,.d 15 14,⟨(some 16),.callV (.t 11) [.t 15],none⟩]) (.cond (.t 16) (.seq (.r [.n 17 5,.n 4 17]) (.ret)) (.skip))))) (.r [.a 18 8 1,.n 8 18]))))))) (.seq (.r [.q 4 (.mov (.c (.i .i64 (-1))))]) (.ret)))⟩
theorem qqo(hc:qd P f qah=true):qn7 P f:=by
 intro α enc p g a c l ha hc' hl hp;refine qg.mk hc (by simp[qF,clo,ha,hc']) ?_;simp only[qah,vI,simprocAttr];simp only[↓vS,vT,simprocAttr];refine SL.loop (α:=Nat) (fun j=>[(0,.fz l.length (l.map enc)),(1,.fn g a c),(7,.i .i64 l.length),(8,.i .i64 j)]) (fun _=>[]) (fun j=>j<=l.length∧qbO p l 0=qbO p (l.drop j) j) (fun j=>l.length-j) 0 [] ?_ ?_ ?_ rfl ?_ ?_
 ·simp[vw,qb,ha,hc']
 ·trivial
 ·simp
 ·simp
 rintro j ⟨hj,hI⟩ G ih;simp only[vI,simprocAttr]
 by_cases hlt:j<l.length
 ·have hx:l[j]?=some l[j]:=zzE hlt;have hw:IntKind.wrap .i64 ((j:Int)+1)=(j:Int)+1:=qv (by omega) (by have:=hl;simp only[qe] at this;omega)
  rw[List.drop_eq_getElem_cons hlt,qbO] at hI;simp only[↓vS,vT,simprocAttr,hlt,Nat.mul_one,List.getElem?_map,hx,Option.map_some,hw];refine (hp l[j] (List.getElem_mem hlt)).sc ?_
  by_cases hpx:p l[j]=true
  ·rw[if_pos hpx] at hI;simp only[↓vS,vT,simprocAttr,hpx,vZ,hI]
  ·rw[if_neg hpx] at hI;simp only[↓vS,vT,simprocAttr,hpx,hw];refine ih (j+1) ⟨by omega,hI⟩ (by omega) _ _ (Wk.mk _ _ [] ?_ ?_ ?_ rfl)
   ·simp[vw,qb,ha,hc']
   ·trivial
   ·simp
 ·simp only[↓vS,vT,simprocAttr,hlt];rw[List.drop_eq_nil_of_le (by omega)] at hI;simp[hI,qbO,vZ]




def zJ:List (List UInt8×Int):=[([120,56,54,45,54,52],3221225534),([120,56,54],1073741827),([120,51,50],3221225534),([97,114,109],1073741864),([97,114,109,54,52],3221225655),([114,105,115,99,118,54,52],3221225715)]
def qeO:IFn:=⟨[.cell 0 12 true],.seq (.r [.q 0 (.alloc [.s [],.i .u32 0,.s [],.i .u32 0,.s [],.i .u32 0,.s [],.i .u32 0,.s [],.i .u32 0,.s [],.i .u32 0])]) (.seq (.r [.q 1 (.build [.s [],.i .u32 0] [(0,1,(.c (.s [120,56,54,45,54,52]))),(1,1,(.c (.i .u32 3221225534)))]),.q 2 (.build [.s [],.i .u32 0] [(0,1,(.c (.s [120,56,54]))),(1,1,(.c (.i .u32 1073741827)))]),.q 3 (.build [.s [],.i .u32 0] [(0,1,(.c (.s [120,51,50]))),(1,1,(.c (.i .u32 3221225534)))]),.q 4 (.build [.s [],.i .u32 0] [(0,1,(.c (.s [97,114,109]))),(1,1,(.c (.i .u32 1073741864)))]),.q 5 (.build [.s [],.i .u32 0] [(0,1,(.c (.s [97,114,109,54,52]))),(1,1,(.c (.i .u32 3221225655)))]),.q 6 (.build [.s [],.i .u32 0] [(0,1,(.c (.s [114,105,115,99,118,54,52]))),(1,1,(.c (.i .u32 3221225715)))]),.q 7 (.build [.s [],.i .u32 0,.s [],.i .u32 0,.s [],.i .u32 0,.s [],.i .u32 0,.s [],.i .u32 0,.s [],.i .u32 0] [(0,2,(.t 1)),(2,2,(.t 2)),(4,2,(.t 3)),(6,2,(.t 4)),(8,2,(.t 5)),(10,2,(.t 6))]),.u (.store 12 (.t 0) (.t 7))]) (.ret))⟩
theorem qtQ(hc:qd P f qeO=true):qg P f [] (.agg (zJ.flatMap (qsy .u32))):=by
 refine qg.mk hc rfl ?_;simp only[qeO,vI,simprocAttr];simp only[↓vS,vT,simprocAttr,zJ,qsy,List.flatMap_cons,List.flatMap_nil,vZ]
end Go.Kc
end
section
namespace Go.Kc
structure GCall where
 name:List UInt8
 act:Int
def qxw(c:GCall):List AV:=[.s c.name,.i .u32 c.act]
structure GNote where
 file:List UInt8
 line:Int
 err:Int
 text:List UInt8
structure Asg where
 file:List UInt8
 line:Int
 sec:List UInt8
 key:List UInt8
 val:List UInt8
def rC(l:List GCall):List AV:=l.flatMap qxw
section
variable {l m:List GCall} {j:Nat}
end
section
variable {l m:List GNote} {j:Nat}
end
structure GList where
 mode:Int
 calls:List GCall
def qsY(l:GList):List AV:=[.i .u8 l.mode,.fz l.calls.length (rC l.calls)]
structure Pol where
 arches:List Int
 filter:GList
 deny:Int
 log:GList
 fams:List Int
 fmode:Int
 spaces:Int
 we:Bool
 pe:Bool
 rt:Bool
 np:Bool
end Go.Kc
end
section
namespace Go.Kc
variable {P:Program} {f:Nat}



structure PolOk (p:Pol):Prop where
 a:p.arches.length<=1000
 f:p.fams.length<=1000
 c:p.filter.calls.length<=1000
 l:p.log.calls.length<=1000


end Go.Kc
end
section
namespace Go.Kc
def qxa(p:Pol):Prop:=p.arches.Pairwise (· < ·)∧p.fams.Pairwise (· < ·)
instance (p:Pol):Decidable (qxa p):=inferInstanceAs (Decidable (_∧_))
end Go.Kc
end
section
namespace Go.Kc
variable {P:Program} {f:Nat}




def qyP(n:Int):Bool:=decide (n=0)||decide (n=2147483648)||(decide (327680<=n)&&decide (n<=331775))
def qlA(l:List GCall)(s:List UInt8):Option GCall:=l.find? (fun c=>decide (c.name=s))


def qeB:List (List UInt8×List Int):=[([98,105,110,100],[49,361,49,282,200,200]),([98,112,102],[321,357,321,386,280,280]),([98,114,107],[12,45,12,45,214,214]),([99,108,111,99,107,95,115,101,116,116,105,109,101],[227,264,227,262,112,112]),([99,108,111,110,101],[56,120,56,120,220,220]),([99,108,111,110,101,51],[435,435,(-1),435,435,435]),([99,108,111,115,101],[3,6,3,6,57,57]),([99,111,110,110,101,99,116],[42,362,42,283,203,203]),([100,101,108,101,116,101,95,109,111,100,117,108,101],[176,129,176,129,106,106]),([101,120,101,99,118,101],[59,11,520,11,221,221]),([101,120,105,116],[60,1,60,1,93,93]),([102,105,110,105,116,95,109,111,100,117,108,101],[313,350,313,379,273,273]),([102,111,114,107],[57,2,57,2,(-1),(-1)]),([103,101,116,117,105,100],[102,24,102,24,174,174]),([105,110,105,116,95,109,111,100,117,108,101],[175,128,(-1),128,105,105]),([105,111,99,116,108],[16,54,514,54,29,29]),([107,105,108,108],[62,37,62,37,129,129]),([108,105,115,116,101,110],[50,363,50,284,201,201]),([109,109,97,112],[9,90,9,(-1),222,222]),([109,111,117,110,116],[165,21,165,21,40,40]),([109,112,114,111,116,101,99,116],[10,125,10,125,226,226]),([109,117,110,109,97,112],[11,91,11,91,215,215]),([111,112,101,110],[2,5,2,5,(-1),(-1)]),([111,112,101,110,97,116],[257,295,257,322,56,56]),([112,101,114,115,111,110,97,108,105,116,121],[135,136,135,136,92,92]),([112,107,101,121,95,109,112,114,111,116,101,99,116],[329,380,329,394,288,(-1)]),([112,116,114,97,99,101],[101,26,521,26,117,117]),([114,101,97,100],[0,3,0,3,63,63]),([114,101,98,111,111,116],[169,88,169,88,142,142]),([115,99,104,101,100,95,115,101,116,97,116,116,114],[314,351,314,380,274,274]),([115,99,104,101,100,95,115,101,116,115,99,104,101,100,117,108,101,114],[144,156,144,156,119,119]),([115,101,99,99,111,109,112],[317,354,317,383,277,277]),([115,101,116,110,115],[308,346,308,375,268,268]),([115,101,116,116,105,109,101,111,102,100,97,121],[164,79,164,79,170,170]),([115,101,116,117,105,100],[105,23,105,23,146,146]),([115,104,109,97,116],[30,397,(-1),305,196,196]),([115,111,99,107,101,116],[41,359,41,281,198,198]),([117,109,111,117,110,116,50],[166,52,166,52,39,39]),([117,110,115,104,97,114,101],[272,310,272,337,97,97]),([119,114,105,116,101],[1,4,1,4,64,64])]
def qkZ(s:List UInt8):Bool:=(qeB.find? (fun x=>decide (x.1=s))).isSome
def okC(c:GCall):Bool:=qkZ c.name&&qyP c.act
noncomputable def qhV:Option GCall->List GCall->Bool
 | _,[]=>true
 | o,c::l=>okC c&&(o.elim true fun b=>ltS b.name c.name)&&qhV (some c) l
noncomputable def qpo(l:GList):Bool:=decide (l.mode<=2)&&(decide (l.mode≠0)||decide (l.calls=[]))&&qhV none l.calls





end Go.Kc
end
section
namespace Go.Kc
variable (E:List UInt8->List (List UInt8)×Int)
end Go.Kc
end
section
namespace Go.Kc
theorem qlJ:∀a:List UInt8,ltS a a=false
 | []=>rfl
 | c::x=>by rw[qke,if_neg (UInt8.lt_irrefl c),if_pos rfl];exact qlJ x
theorem qil:∀{a b c:List UInt8},ltS a b=true->ltS b c=true->ltS a c=true
 | _,[],[],_,h2=>by simp[qrQ] at h2
 | _,_::_,[],_,h2=>by simp[qkf] at h2
 | [],_,_::_,_,_=>rfl
 | _::_,[],_::_,h1,_=>by simp[qkf] at h1
 | a::x,b::y,c::z,h1,h2=>by
  rw[qke] at h1 h2 ⊢;simp only[UInt8.lt_iff_toNat_lt,← UInt8.toNat_inj] at h1 h2 ⊢
  by_cases e1:a.toNat<b.toNat
  ·by_cases e2:b.toNat<c.toNat
   ·rw[if_pos (by omega)]
   ·rw[if_neg e2] at h2;split at h2
    ·rw[if_pos (by omega)]
    ·cases h2
  ·rw[if_neg e1] at h1;split at h1
   ·rename_i e3
    by_cases e2:b.toNat<c.toNat
    ·rw[if_pos (by omega)]
    ·rw[if_neg e2] at h2;split at h2
     ·rw[if_neg (by omega),if_pos (by omega)];exact qil h1 h2
     ·cases h2
   ·cases h1
theorem quS{a b:List UInt8}(h:ltS a b=true):a≠b:=by
 intro e;rw[e,qlJ] at h;cases h
def Up(l:List GCall):Prop:=l.Pairwise fun a b=>ltS a.name b.name=true
theorem qhW:∀(o:Option GCall) (l:List GCall),qhV o l=true↔((∀c ∈ l,okC c=true)∧Up l∧∀b,o=some b->∀c ∈ l,ltS b.name c.name=true)
 | o,[]=>by simp[qhV,Up]
 | o,c::l=>by
  have ih:=qhW (some c) l;simp only[qhV,Bool.and_eq_true,ih,Up,List.pairwise_cons,List.mem_cons,forall_eq_or_imp];constructor
  ·rintro⟨⟨h1,h2⟩,h3,h4,h5⟩;refine⟨⟨h1,h3⟩,⟨h5 c rfl,h4⟩,?_⟩;rintro b rfl;exact⟨h2,fun d hd=>qil h2 (h5 c rfl d hd)⟩
  ·rintro⟨⟨h1,h3⟩,⟨h5,h4⟩,h6⟩;refine⟨⟨h1,?_⟩,h3,h4,?_⟩
   ·cases o with
    | none=>rfl
    | some b=>exact (h6 b rfl).1
   ·rintro b hb;cases hb;exact h5
theorem qpp(l:GList):qpo l=true↔(l.mode<=2∧(l.mode≠0∨l.calls=[]))∧(∀c ∈ l.calls,okC c=true)∧Up l.calls:=by
 unfold qpo;rw[Bool.and_eq_true,Bool.and_eq_true,Bool.or_eq_true,decide_eq_true_eq,decide_eq_true_eq,decide_eq_true_eq,qhW];simp
theorem qew{α:Type} [DecidableEq α]:∀{l t:List α},l.Nodup->(∀x ∈ l,x ∈ t)->l.length<=t.length
 | [],_,_,_=>Nat.zero_le _
 | x::l,t,hn,hs=>by
  have hn':=List.nodup_cons.1 hn;have hx:=hs x List.mem_cons_self;have h1:=qew (t:=t.erase x) hn'.2 (fun y hy=>(List.mem_erase_of_ne (fun (e:y=x)=>hn'.1 (by rw[← e];exact hy))).2 (hs y (List.mem_cons_of_mem _ hy)))
  have h2:=List.length_erase_of_mem hx;have h3:0<t.length:=List.length_pos_of_mem hx;simp only[List.length_cons];omega
theorem qk0{s:List UInt8}(h:qkZ s=true):s ∈ qeB.map (·.1):=by
 unfold qkZ at h;obtain⟨x,hx⟩:=Option.isSome_iff_exists.1 h;have h1:=List.mem_of_find?_eq_some hx;have h2:=List.find?_some hx;exact List.mem_map.2 ⟨x,h1,of_decide_eq_true h2⟩
theorem qlL{l:GList}(h:qpo l=true):l.calls.length<=40:=by
 obtain⟨_,h1,h2⟩:=(qpp l).1 h
 have:=qew (l:=l.calls.map (·.name)) (t:=qeB.map (·.1)) (List.pairwise_map.2 (List.Pairwise.imp (R:=fun a b:GCall=>ltS a.name b.name=true) (fun hab=>quS hab) h2)) (by
  intro x hx;obtain⟨c,hc,rfl⟩:=List.mem_map.1 hx;have:=h1 c hc;simp only[okC,Bool.and_eq_true] at this;exact qk0 this.1)
 have e:(qeB.map (·.1)).length=40:=by rw[List.length_map];rfl
 rw[List.length_map] at this;omega
end Go.Kc
end
section
namespace Go.Kc
variable (E:List UInt8->List (List UInt8)×Int)
variable {E}
end Go.Kc
end
section
namespace Go.Kc
variable {P:Program} {f:Nat}


def qn6(P:Program)(f:Nat):Prop:=∀(l:GList) (s:List UInt8),l.calls.length<=100000->qg P f [.agg (qsY l),.s s] (.tup [.i .u32 (match qlA l.calls s with|some c=>c.act|none=>0),.b (qlA l.calls s).isSome])
def qhD(a:Asg)(n:GNote):GNote:=⟨a.file,a.line,n.err,n.text⟩









def qh0(x:Int):List Int->Nat->Int
 | [],_=>-1
 | y::ys,j=>if x=y then (j:Int) else qh0 x ys (j+1)




theorem qi0{k:IntKind}{L:List Int}{j:Nat}(h:j<L.length)(x:Int):(rI k L).take j++(AV.i k x::(rI k L).drop (j+1))=rI k (L.set j x):=by
 unfold rI;rw[List.set_eq_take_append_cons_drop,if_pos h,List.map_append,List.map_cons,List.map_take,List.map_drop]
def qaZ:IFn:=⟨[.tmp 4],.seq (.r [.m 4 (.k 0)]) (.seq (.seq (.r [.n 6 0,.e 7 6,.m 8 (.k 0)]) (.blk 0 (.loop (.seq (.r [.s 9 8 7]) (.seq (.cond (.t 9) (.skip) (.exit 0)) (.seq (.blk 1 (.seq (.r [.n 10 8,.n 5 10]) (.seq (.r [.n 11 1,.n 12 0,.n 13 5,.i 14 1 12 13,.d 15 14,.b 16 .eql 11 15]) (.cond (.t 16) (.seq (.r [.n 17 5,.n 4 17]) (.ret)) (.skip))))) (.r [.a 18 8 1,.n 8 18]))))))) (.seq (.r [.q 4 (.mov (.c (.i .i64 (-1))))]) (.ret)))⟩
theorem qwL(hc:qd P f qaZ=true)(xs:List Int)(x:Int)(hl:xs.length<=qe):qg P f [.fz xs.length (rI .i64 xs),.i .i64 x] (.i .i64 (qh0 x xs 0)):=by
 refine qg.mk hc (by simp[qF,clo,zf]) ?_;simp only[qaZ,vI,simprocAttr];simp only[↓vS,vT,simprocAttr];refine SL.loop (α:=Nat) (fun j=>[(0,.fz xs.length (rI .i64 xs)),(1,.i .i64 x),(7,.i .i64 xs.length),(8,.i .i64 j)]) (fun _=>[]) (fun j=>j<=xs.length∧qh0 x xs 0=qh0 x (xs.drop j) j) (fun j=>xs.length-j) 0 [] ?_ ?_ ?_ rfl ?_ ?_
 ·simp[vw,zf]
 ·trivial
 ·simp
 ·simp
 rintro j ⟨hj,hI⟩ G ih;simp only[vI,simprocAttr]
 by_cases hlt:j<xs.length
 ·have hx:xs[j]?=some xs[j]:=zzE hlt;have hw:IntKind.wrap .i64 ((j:Int)+1)=(j:Int)+1:=qv (by omega) (by have:=hl;simp only[qe] at this;omega)
  rw[List.drop_eq_getElem_cons hlt,qh0] at hI;simp only[↓vS,vT,simprocAttr,hlt,Nat.mul_one,qct,hx,Option.map_some,hw];split
  ·rename_i he;simp only[he,vZ,if_true] at hI ⊢;simp[hI]
  ·rename_i he;rw[if_neg he] at hI;refine ih (j+1) ⟨by omega,hI⟩ (by omega) _ _ (Wk.mk _ _ [] ?_ ?_ ?_ rfl)
   ·simp[vw,zf]
   ·trivial
   ·simp
 ·simp only[↓vS,vT,simprocAttr,hlt,vZ];rw[List.drop_eq_nil_of_le (by omega)] at hI;simp[hI,qh0]
theorem qj0(x:Int):∀(l:List Int) (j:Nat),decide (0<=qh0 x l j)=decide (x ∈ l)
 | [],j=>by simp[qh0]
 | y::l,j=>by
  rw[qh0]
  by_cases h:x=y
  ·simp[h]
  ·rw[if_neg h,qj0 x l (j+1)];simp[h]
def qam(a:Nat):IFn:=⟨[.tmp 4],.seq (.r [.m 4 .F]) (.seq (.r [.n 5 0,.n 6 1,.l 7 a [.t 5,.t 6],.w 8 .geq 7 0,.n 4 8]) (.ret))⟩
theorem qq4{g:Nat}(hc:qd P f (qam g)=true)(hg:∀(xs:List Int) (x:Int),xs.length<=qe->qg P g [.fz xs.length (rI .i64 xs),.i .i64 x] (.i .i64 (qh0 x xs 0)))(xs:List Int)(x:Int)(hl:xs.length<=qe):qg P f [.fz xs.length (rI .i64 xs),.i .i64 x] (.b (decide (x ∈ xs))):=by
 refine qg.mk hc (by simp[qF,clo,zf]) ?_;simp only[qam,vI,simprocAttr];simp only[↓vS,vT,simprocAttr];refine (hg xs x hl).sc ?_;simp only[↓vS,vT,simprocAttr];simp[vZ,← qj0 x xs 0]
def qkl(n:Int):List (List UInt8×Int)->List UInt8
 | []=>[]
 | p::l=>if p.2=n then p.1 else qkl n l
def qut(n:Int):Bool:=decide (qkl n qb9≠[])
theorem qj1{α:Type}(p:α->Bool):∀(l:List α) (j:Nat),decide (0<=qbO p l j)=l.any p
 | [],j=>by simp[qbO]
 | x::l,j=>by
  rw[qbO]
  by_cases h:p x=true
  ·simp[h]
  ·rw[if_neg h,qj1 p l (j+1)];simp[h]
def qxF(n:Int):Bool:=decide (n=2147483648)||(decide (327680<=n)&&decide (n<=331775))
section
variable {g1 g2 g3 g4:Nat}
end
structure GTest where
 arg:Int
 mask:Int
 val:Int
 act:Int
def qs0(t:GTest):List AV:=[.i .i64 t.arg,.i .u64 t.mask,.i .u64 t.val,.i .u32 t.act]
theorem qwu(t:GTest):(qs0 t).length=4:=rfl
def rT(l:List GTest):List AV:=l.flatMap qs0
structure GRule where
 nr:Int
 tests:List GTest
 act:Int
def qsZ(r:GRule):List AV:=[.i .u32 r.nr,.fz r.tests.length (rT r.tests),.i .u32 r.act]
theorem qwt(r:GRule):(qsZ r).length=3:=rfl
def rR(l:List GRule):List AV:=l.flatMap qsZ
structure GFil where
 arch:Int
 rules:List GRule
 dflt:Int
def qzK(x:GFil):List AV:=[.i .i64 x.arch,.fz x.rules.length (rR x.rules),.i .u32 x.dflt]
section
variable {l m:List GTest} {j:Nat}
end
section
variable {l m:List GRule} {j:Nat}
end









section
variable {l m:List GFil} {j:Nat}
end
def qgq:IFn:=⟨[.tmp 0],.seq (.r [.m 0 .N]) (.seq (.r [.m 1 .N]) (.seq (.seq (.r [.m 3 (.k 0)]) (.blk 0 (.loop (.seq (.r [.w 4 .lss 3 6]) (.seq (.cond (.t 4) (.skip) (.exit 0)) (.seq (.blk 1 (.seq (.r [.n 5 3,.n 2 5]) (.r [.n 6 1,.n 7 2,.q 8 (.buildS 1 [.i .i64 0] [(0,1,(.t 7))]),.q 9 (.app 1 8 true (.t 6) (.t 8)),.n 1 9]))) (.r [.a 10 3 1,.n 3 10]))))))) (.seq (.r [.n 11 1,.n 0 11]) (.ret))))⟩
theorem qyF(hc:qd P f qgq=true):qg P f [] (.fz 6 (rI .i64 [0,1,2,3,4,5])):=by
 refine qg.mk hc rfl ?_;simp only[qgq,vI,simprocAttr];simp only[↓vS,vT,simprocAttr];refine SL.loop (α:=Nat) (fun j=>[(1,.own 0 j),(3,.i .i64 j)]) (fun j=>[.cells 1 true true (rI .i64 ([0,1,2,3,4,5].take j))]) (fun j=>j<=6) (fun j=>6-j) 0 [9] ?_ ?_ ?_ rfl ?_ ?_
 ·simp[vw]
 ·simp[vw,rI]
 ·simp
 ·exact Nat.zero_le _
 rintro j hj G ih;simp only[vI,simprocAttr]
 by_cases hlt:j<6
 ·have hlt':(j:Int)<6:=by omega
  have hw:IntKind.wrap .i64 ((j:Int)+1)=((j+1:Nat):Int):=by rw[qv (by omega) (by omega)];omega
  have hln:(rI .i64 (([0,1,2,3,4,5]:List Int).take j)).length=j:=by rw[qaS];simp;omega
  have htk:(rI .i64 (([0,1,2,3,4,5]:List Int).take j)).take j=rI .i64 (([0,1,2,3,4,5]:List Int).take j):=List.take_of_length_le (by omega)
  have hap:rI .i64 (([0,1,2,3,4,5]:List Int).take j)++[AV.i .i64 (j:Int)]=rI .i64 (([0,1,2,3,4,5]:List Int).take (j+1)):=by
   have:j=0∨j=1∨j=2∨j=3∨j=4∨j=5:=by omega
   rcases this with rfl|rfl|rfl|rfl|rfl|rfl<;>rfl
  have hr1:j+1<=qe:=by simp only[qe];omega
  have hr2:(j+1)*8<=qe:=by simp only[qe];omega
  generalize hL:(([0,1,2,3,4,5]:List Int).take j)=L at *;simp +decide only[↓vS,vT,simprocAttr,hlt',Nat.mul_one,hw,hr1,hr2,hln,htk,hap];refine ih (j+1) hlt (by omega) _ _ (Wk.mk _ _ [2] ?_ ?_ ?_ rfl)
  ·simp[vw]
  ·simp[vw,qb,zf]
  ·simp
 ·have hj':j=6:=by omega
  subst hj';have hlt':¬(((6:Nat):Int)<6):=by decide
  simp only[↓vS,vT,simprocAttr,hlt'];refine .own 0 6 1 true (rI .i64 [0,1,2,3,4,5]) _ ?_ (fun h0=>absurd h0 (by decide)) (Frzs.self zf)
  simp[Tr.get_set]


def qy1(l:List GCall)(s:List UInt8):Int:=match qlA l s with|some c=>c.act|none=>0
theorem qn6.act(h:qn6 P f)(l:GList)(s:List UInt8)(hl:l.calls.length<=100000):qg P f [.agg (qsY l),.s s] (.tup [.i .u32 (qy1 l.calls s),.b (qlA l.calls s).isSome]):=h l s hl
section
variable {g1 g2:Nat}
end
section
variable {g1 g2:Nat}
end
section
variable {g1 g2 g3 g4 g5:Nat}
end

end Go.Kc
end
section
namespace Go.Kc
end Go.Kc
end
section
namespace Go.Kc
end Go.Kc
end
section
namespace Go.Kc
variable {P:Program} {f:Nat}



end Go.Kc
end
section
namespace Go.Kc
end Go.Kc
end
section
namespace Go.Kc
variable {P:Program} {f:Nat}
end Go.Kc
end
section
namespace Go.Kc
variable {P:Program} {f:Nat}
section
variable {g1 g2 g3 g4 g5:Nat}
end
end Go.Kc
end
section
namespace Go.Kc
structure PMay (p:Pol):Prop where
 own:∀c ∈ p.log.calls,c.act=0
 deny:qxF p.deny=true
 mode:p.fmode<=2∧(p.fmode≠0∨p.fams=[])
 ar:∀a ∈ p.arches,0<=a∧a<6
 ap:p.arches.Pairwise (· < ·)
 fr:∀n ∈ p.fams,qut n=true
 fp:p.fams.Pairwise (· < ·)
 fil:qpo p.filter=true
 log:qpo p.log=true
 sp:qua .u64 p.spaces 2114060416=0
structure PI (p:Pol):Prop where
 may:PMay p
 f0:0<=p.filter.mode
 l0:0<=p.log.mode
 m0:0<=p.fmode
 s0:0<=p.spaces∧p.spaces<18446744073709551616
theorem qhC{l:List Int}(h:l.Pairwise (· < ·)):l.Nodup:=h.imp fun h e=>by omega
theorem qoA{n:Int}(h:qut n=true):n ∈ qb9.map (·.2):=by
 unfold qut at h;have h':qkl n qb9≠[]:=by simpa using h
 have:∀(t:List (List UInt8×Int)),qkl n t≠[]->n ∈ t.map (·.2):=by
  intro t
  induction t with
  | nil=>intro h;exact absurd rfl h
  | cons x t ih =>
   intro h;unfold qkl at h;split at h
   ·rename_i e;simp[e]
   ·exact List.mem_cons_of_mem _ (ih h)
 exact this _ h'
theorem qnT{a:Int}(h:0<=a∧a<6):a ∈ ([0,1,2,3,4,5]:List Int):=by
 have:a=0∨a=1∨a=2∨a=3∨a=4∨a=5:=by omega
 simpa using this
theorem PMay.lens{p:Pol}(h:PMay p):p.arches.length<=6∧p.fams.length<=8∧p.filter.calls.length<=40∧p.log.calls.length<=40 :=
 ⟨qew (t:=[0,1,2,3,4,5]) (qhC h.ap) fun x hx=>qnT (h.ar x hx),qew (t:=qb9.map (·.2)) (qhC h.fp) fun x hx=>qoA (h.fr x hx),qlL h.fil,qlL h.log⟩
theorem PI.ok{p:Pol}(h:PI p):PolOk p:=by
 obtain⟨h1,h2,h3,h4⟩:=h.may.lens;exact⟨by omega,by omega,by omega,by omega⟩
variable {E:List UInt8->List (List UInt8)×Int}
variable (E)
variable {E}
end Go.Kc
end
section
namespace Go.Kc
variable {P:Program} {f:Nat}
instance:DecidableEq GCall:=fun a b=>if h:a.name=b.name∧a.act=b.act then isTrue (by obtain⟨h1,h2⟩:=h;cases a;cases b;simp_all) else isFalse (by rintro rfl;exact h ⟨rfl,rfl⟩)
section
variable {l m:List Asg} {j:Nat}
end
end Go.Kc
end
section
namespace Go.Kc
variable {P:Program} {f:Nat}
variable {E:List UInt8->List (List UInt8)×Int}
section
variable {g1 g2 g3 g4:Nat}
end
end Go.Kc
end
section
namespace Go.Kc
variable {P:Program} {f:Nat}
end Go.Kc
end
section
namespace Go.Kc
open Go.RowKit
variable {P:Program} {f:Nat}
end Go.Kc
end
section
namespace Go.Kc
variable {P:Program} {f:Nat}
structure GData where
 nr:Int
 arch:Int
 ip:Int
 a0:Int
 a1:Int
 a2:Int
 a3:Int
 a4:Int
 a5:Int
def qL(d:GData):List AV:=[.i .u32 d.nr,.i .u32 d.arch,.i .u64 d.ip,.i .u64 d.a0,.i .u64 d.a1,.i .u64 d.a2,.i .u64 d.a3,.i .u64 d.a4,.i .u64 d.a5]
def ofM(t n:Int):Int×Bool :=
 if qbO (fun x=>decide (x.2=t)) zJ 0<0 then (0,false)
 else if qbO (fun x=>decide (x.2=t)) zJ 0=0∧qdp .u32 n 1073741824≠0 then (2,true)
 else (qbO (fun x=>decide (x.2=t)) zJ 0,true)
def qgf(a:Int):Int:=(zJ.getD a.toNat ([],0)).2
def qeN(a:Nat):IFn:=⟨[.tmp 2,.tmp 3],.seq (.r [.m 2 (.c (.i .u32 0)),.m 3 (.k 0)]) (.seq (.seq (.r [.n 4 0,.w 5 .lss 4 0,.n 6 5,.z 7 0 6,.g 8 (.bin .geq (.t 7) (.k 6)) 6 false,.o 9 6 8]) (.cond (.t 9) (.seq (.r [.m 2 (.c (.i .u32 0)),.m 3 (.k 80)]) (.ret)) (.skip))) (.seq (.r [.l 10 a [],.n 11 0,.q 12 (.idxA 6 2 true (.t 10) (.t 11)),.q 13 (.fld 1 none (.t 12)),.n 2 13,.m 3 (.k 0)]) (.ret)))⟩
theorem qwg{g:Nat}(hc:qd P f (qeN g)=true)(hg:qg P g [] (.agg (zJ.flatMap (qsy .u32))))(a:Int)(h0:0<=a)(h6:a<6):qg P f [.i .i64 a] (.tup [.i .u32 (qgf a),.i .i64 0]):=by
 refine qg.mk hc rfl ?_;simp only[qeN,vI,simprocAttr];have n1:¬a<0:=by omega
 have n2:¬6<=a:=by omega
 simp only[↓vS,vT,simprocAttr,n1,n2];refine hg.sc ?_;have h3:a=0∨a=1∨a=2∨a=3∨a=4∨a=5:=by omega
 rcases h3 with rfl|rfl|rfl|rfl|rfl|rfl <;>
 ·simp only[↓vS,vT,simprocAttr,zJ,qsy,List.flatMap_cons,List.flatMap_nil];simp[vZ,qgf,zJ]
section
variable {g1 g2 g3 g4 g5:Nat}
end
section
variable {g1 g2:Nat}
end
end Go.Kc
end
section
namespace Go.Kc
def idxS:List Nat:=[25,27,30,17,29,7,28,26]
end Go.Kc
end
section
namespace Go.Kc
variable {P:Program} {f:Nat}

section
variable {e1 e2 g3 g4 g5 g6 g7:Nat}
end
section
variable {g1 g2 g3 g4 g5 g6 g7 g8 g9 g10 g11 g12:Nat}
end



end Go.Kc
end
section
namespace Go.Kc
variable {P:Program} {f g1 g2:Nat}

end Go.Kc
end
section
namespace Go.Kc
variable {P:Program} {f:Nat}
section
variable {g1 g2 g3 g4 g5 g6 g7 g8 g9:Nat}
end
end Go.Kc
end
section
namespace Go.Kc
section
variable {P:Program} {f g1 g2 g3 g4 g5 g6 g7 g8 g9:Nat}
end
section
variable {P:Program} {f g1 g2 g3 g4 g5 g6 g7 g8 g9:Nat}
end
end Go.Kc
end
section
namespace Go.Kc
variable {P:Program} {f:Nat}
def xu(x:Int×List UInt8×Int):List AV:=[.i .u16 x.1,.s x.2.1,.i .u8 x.2.2]
theorem qeg(x:Int×List UInt8×Int):(xu x).length=3:=rfl
def xT:List (Int×List UInt8×Int):=[(32,[108,100,97,98,115],1),(128,[108,100,108,101,110],1),(0,[108,100,105],1),(96,[108,100,109],1),(129,[108,100,120,108,101,110],1),(1,[108,100,120,105],1),(97,[108,100,120,109],1),(2,[115,116],2),(3,[115,116,120],2),(4,[97,100,100],3),(20,[115,117,98],3),(36,[109,117,108],3),(52,[100,105,118],3),(68,[111,114],3),(84,[97,110,100],3),(100,[108,115,104],3),(116,[114,115,104],3),(164,[120,111,114],3),(12,[97,100,100,120],3),(28,[115,117,98,120],3),(44,[109,117,108,120],3),(60,[100,105,118,120],3),(76,[111,114,120],3),(92,[97,110,100,120],3),(108,[108,115,104,120],3),(124,[114,115,104,120],3),(172,[120,111,114,120],3),(132,[110,101,103],3),(5,[106,97],4),(21,[106,101,113],4),(37,[106,103,116],4),(53,[106,103,101],4),(69,[106,115,101,116],4),(29,[106,101,113,120],4),(45,[106,103,116,120],4),(61,[106,103,101,120],4),(77,[106,115,101,116,120],4),(6,[114,101,116],5),(22,[114,101,116,97],5),(7,[116,97,120],6),(135,[116,120,97],6)]
def qaJ:List (Int×List UInt8×Int):=[(32,[108,100,97,98,115],1),(128,[108,100,108,101,110],1),(0,[108,100,105],1),(96,[108,100,109],1),(129,[108,100,120,108,101,110],1),(1,[108,100,120,105],1),(97,[108,100,120,109],1),(2,[115,116],2),(3,[115,116,120],2),(132,[110,101,103],3),(5,[106,97],4),(6,[114,101,116],5),(22,[114,101,116,97],5),(7,[116,97,120],6),(135,[116,120,97],6),(4,[97,100,100],3),(12,[97,100,100,120],3),(20,[115,117,98],3),(28,[115,117,98,120],3),(36,[109,117,108],3),(44,[109,117,108,120],3),(52,[100,105,118],3),(60,[100,105,118,120],3),(68,[111,114],3),(76,[111,114,120],3),(84,[97,110,100],3),(92,[97,110,100,120],3),(100,[108,115,104],3),(108,[108,115,104,120],3),(116,[114,115,104],3),(124,[114,115,104,120],3),(164,[120,111,114],3),(172,[120,111,114,120],3),(21,[106,101,113],4),(29,[106,101,113,120],4),(37,[106,103,116],4),(45,[106,103,116,120],4),(53,[106,103,101],4),(61,[106,103,101,120],4),(69,[106,115,101,116],4),(77,[106,115,101,116,120],4)]
def zE:List AV:=[.i .u16 0,.s [],.i .u8 0]
def qy(c:Int):Option (Int×List UInt8×Int):=xT.find? fun x=>decide (x.1=c)
def zt:Option (Int×List UInt8×Int)->List AV
 | some x=>xu x
 | none=>zE
def qh(c:Int):Int:=(qy c).elim 0 fun x=>x.2.2
def zI(c:Int):Bool:=(qy c).isSome
def qdM:IFn:=⟨[.cell 0 123 true],.seq (.r [.q 0 (.alloc [.i .u16 0,.s [],.i .u8 0,.i .u16 0,.s [],.i .u8 0,.i .u16 0,.s [],.i .u8 0,.i .u16 0,.s [],.i .u8 0,.i .u16 0,.s [],.i .u8 0,.i .u16 0,.s [],.i .u8 0,.i .u16 0,.s [],.i .u8 0,.i .u16 0,.s [],.i .u8 0,.i .u16 0,.s [],.i .u8 0,.i .u16 0,.s [],.i .u8 0,.i .u16 0,.s [],.i .u8 0,.i .u16 0,.s [],.i .u8 0,.i .u16 0,.s [],.i .u8 0,.i .u16 0,.s [],.i .u8 0,.i .u16 0,.s [],.i .u8 0,.i .u16 0,.s [],.i .u8 0,.i .u16 0,.s [],.i .u8 0,.i .u16 0,.s [],.i .u8 0,.i .u16 0,.s [],.i .u8 0,.i .u16 0,.s [],.i .u8 0,.i .u16 0,.s [],.i .u8 0,.i .u16 0,.s [],.i .u8 0,.i .u16 0,.s [],.i .u8 0,.i .u16 0,.s [],.i .u8 0,.i .u16 0,.s [],.i .u8 0,.i .u16 0,.s [],.i .u8 0,.i .u16 0,.s [],.i .u8 0,.i .u16 0,.s [],.i .u8 0,.i .u16 0,.s [],.i .u8 0,.i .u16 0,.s [],.i .u8 0,.i .u16 0,.s [],.i .u8 0,.i .u16 0,.s [],.i .u8 0,.i .u16 0,.s [],.i .u8 0,.i .u16 0,.s [],.i .u8 0,.i .u16 0,.s [],.i .u8 0,.i .u16 0,.s [],.i .u8 0,.i .u16 0,.s [],.i .u8 0,.i .u16 0,.s [],.i .u8 0,.i .u16 0,.s [],.i .u8 0,.i .u16 0,.s [],.i .u8 0,.i .u16 0,.s [],.i .u8 0])]) (.seq (.r [.q 1 (.build [.i .u16 0,.s [],.i .u8 0] [(0,1,(.c (.i .u16 32))),(1,1,(.c (.s [108,100,97,98,115]))),(2,1,(.c (.i .u8 1)))]),.q 2 (.build [.i .u16 0,.s [],.i .u8 0] [(0,1,(.c (.i .u16 128))),(1,1,(.c (.s [108,100,108,101,110]))),(2,1,(.c (.i .u8 1)))]),.q 3 (.build [.i .u16 0,.s [],.i .u8 0] [(0,1,(.c (.i .u16 0))),(1,1,(.c (.s [108,100,105]))),(2,1,(.c (.i .u8 1)))]),.q 4 (.build [.i .u16 0,.s [],.i .u8 0] [(0,1,(.c (.i .u16 96))),(1,1,(.c (.s [108,100,109]))),(2,1,(.c (.i .u8 1)))]),.q 5 (.build [.i .u16 0,.s [],.i .u8 0] [(0,1,(.c (.i .u16 129))),(1,1,(.c (.s [108,100,120,108,101,110]))),(2,1,(.c (.i .u8 1)))]),.q 6 (.build [.i .u16 0,.s [],.i .u8 0] [(0,1,(.c (.i .u16 1))),(1,1,(.c (.s [108,100,120,105]))),(2,1,(.c (.i .u8 1)))]),.q 7 (.build [.i .u16 0,.s [],.i .u8 0] [(0,1,(.c (.i .u16 97))),(1,1,(.c (.s [108,100,120,109]))),(2,1,(.c (.i .u8 1)))]),.q 8 (.build [.i .u16 0,.s [],.i .u8 0] [(0,1,(.c (.i .u16 2))),(1,1,(.c (.s [115,116]))),(2,1,(.c (.i .u8 2)))]),.q 9 (.build [.i .u16 0,.s [],.i .u8 0] [(0,1,(.c (.i .u16 3))),(1,1,(.c (.s [115,116,120]))),(2,1,(.c (.i .u8 2)))]),.q 10 (.build [.i .u16 0,.s [],.i .u8 0] [(0,1,(.c (.i .u16 4))),(1,1,(.c (.s [97,100,100]))),(2,1,(.c (.i .u8 3)))]),.q 11 (.build [.i .u16 0,.s [],.i .u8 0] [(0,1,(.c (.i .u16 20))),(1,1,(.c (.s [115,117,98]))),(2,1,(.c (.i .u8 3)))]),.q 12 (.build [.i .u16 0,.s [],.i .u8 0] [(0,1,(.c (.i .u16 36))),(1,1,(.c (.s [109,117,108]))),(2,1,(.c (.i .u8 3)))]),.q 13 (.build [.i .u16 0,.s [],.i .u8 0] [(0,1,(.c (.i .u16 52))),(1,1,(.c (.s [100,105,118]))),(2,1,(.c (.i .u8 3)))]),.q 14 (.build [.i .u16 0,.s [],.i .u8 0] [(0,1,(.c (.i .u16 68))),(1,1,(.c (.s [111,114]))),(2,1,(.c (.i .u8 3)))]),.q 15 (.build [.i .u16 0,.s [],.i .u8 0] [(0,1,(.c (.i .u16 84))),(1,1,(.c (.s [97,110,100]))),(2,1,(.c (.i .u8 3)))]),.q 16 (.build [.i .u16 0,.s [],.i .u8 0] [(0,1,(.c (.i .u16 100))),(1,1,(.c (.s [108,115,104]))),(2,1,(.c (.i .u8 3)))]),.q 17 (.build [.i .u16 0,.s [],.i .u8 0] [(0,1,(.c (.i .u16 116))),(1,1,(.c (.s [114,115,104]))),(2,1,(.c (.i .u8 3)))]),.q 18 (.build [.i .u16 0,.s [],.i .u8 0] [(0,1,(.c (.i .u16 164))),(1,1,(.c (.s [120,111,114]))),(2,1,(.c (.i .u8 3)))]),.q 19 (.build [.i .u16 0,.s [],.i .u8 0] [(0,1,(.c (.i .u16 12))),(1,1,(.c (.s [97,100,100,120]))),(2,1,(.c (.i .u8 3)))]),.q 20 (.build [.i .u16 0,.s [],.i .u8 0] [(0,1,(.c (.i .u16 28))),(1,1,(.c (.s [115,117,98,120]))),(2,1,(.c (.i .u8 3)))]),.q 21 (.build [.i .u16 0,.s [],.i .u8 0] [(0,1,(.c (.i .u16 44))),(1,1,(.c (.s [109,117,108,120]))),(2,1,(.c (.i .u8 3)))]),.q 22 (.build [.i .u16 0,.s [],.i .u8 0] [(0,1,(.c (.i .u16 60))),(1,1,(.c (.s [100,105,118,120]))),(2,1,(.c (.i .u8 3)))]),.q 23 (.build [.i .u16 0,.s [],.i .u8 0] [(0,1,(.c (.i .u16 76))),(1,1,(.c (.s [111,114,120]))),(2,1,(.c (.i .u8 3)))]),.q 24 (.build [.i .u16 0,.s [],.i .u8 0] [(0,1,(.c (.i .u16 92))),(1,1,(.c (.s [97,110,100,120]))),(2,1,(.c (.i .u8 3)))]),.q 25 (.build [.i .u16 0,.s [],.i .u8 0] [(0,1,(.c (.i .u16 108))),(1,1,(.c (.s [108,115,104,120]))),(2,1,(.c (.i .u8 3)))]),.q 26 (.build [.i .u16 0,.s [],.i .u8 0] [(0,1,(.c (.i .u16 124))),(1,1,(.c (.s [114,115,104,120]))),(2,1,(.c (.i .u8 3)))]),.q 27 (.build [.i .u16 0,.s [],.i .u8 0] [(0,1,(.c (.i .u16 172))),(1,1,(.c (.s [120,111,114,120]))),(2,1,(.c (.i .u8 3)))]),.q 28 (.build [.i .u16 0,.s [],.i .u8 0] [(0,1,(.c (.i .u16 132))),(1,1,(.c (.s [110,101,103]))),(2,1,(.c (.i .u8 3)))]),.q 29 (.build [.i .u16 0,.s [],.i .u8 0] [(0,1,(.c (.i .u16 5))),(1,1,(.c (.s [106,97]))),(2,1,(.c (.i .u8 4)))]),.q 30 (.build [.i .u16 0,.s [],.i .u8 0] [(0,1,(.c (.i .u16 21))),(1,1,(.c (.s [106,101,113]))),(2,1,(.c (.i .u8 4)))]),.q 31 (.build [.i .u16 0,.s [],.i .u8 0] [(0,1,(.c (.i .u16 37))),(1,1,(.c (.s [106,103,116]))),(2,1,(.c (.i .u8 4)))]),.q 32 (.build [.i .u16 0,.s [],.i .u8 0] [(0,1,(.c (.i .u16 53))),(1,1,(.c (.s [106,103,101]))),(2,1,(.c (.i .u8 4)))]),.q 33 (.build [.i .u16 0,.s [],.i .u8 0] [(0,1,(.c (.i .u16 69))),(1,1,(.c (.s [106,115,101,116]))),(2,1,(.c (.i .u8 4)))]),.q 34 (.build [.i .u16 0,.s [],.i .u8 0] [(0,1,(.c (.i .u16 29))),(1,1,(.c (.s [106,101,113,120]))),(2,1,(.c (.i .u8 4)))]),.q 35 (.build [.i .u16 0,.s [],.i .u8 0] [(0,1,(.c (.i .u16 45))),(1,1,(.c (.s [106,103,116,120]))),(2,1,(.c (.i .u8 4)))]),.q 36 (.build [.i .u16 0,.s [],.i .u8 0] [(0,1,(.c (.i .u16 61))),(1,1,(.c (.s [106,103,101,120]))),(2,1,(.c (.i .u8 4)))]),.q 37 (.build [.i .u16 0,.s [],.i .u8 0] [(0,1,(.c (.i .u16 77))),(1,1,(.c (.s [106,115,101,116,120]))),(2,1,(.c (.i .u8 4)))]),.q 38 (.build [.i .u16 0,.s [],.i .u8 0] [(0,1,(.c (.i .u16 6))),(1,1,(.c (.s [114,101,116]))),(2,1,(.c (.i .u8 5)))]),.q 39 (.build [.i .u16 0,.s [],.i .u8 0] [(0,1,(.c (.i .u16 22))),(1,1,(.c (.s [114,101,116,97]))),(2,1,(.c (.i .u8 5)))]),.q 40 (.build [.i .u16 0,.s [],.i .u8 0] [(0,1,(.c (.i .u16 7))),(1,1,(.c (.s [116,97,120]))),(2,1,(.c (.i .u8 6)))]),.q 41 (.build [.i .u16 0,.s [],.i .u8 0] [(0,1,(.c (.i .u16 135))),(1,1,(.c (.s [116,120,97]))),(2,1,(.c (.i .u8 6)))]),.q 42 (.build [.i .u16 0,.s [],.i .u8 0,.i .u16 0,.s [],.i .u8 0,.i .u16 0,.s [],.i .u8 0,.i .u16 0,.s [],.i .u8 0,.i .u16 0,.s [],.i .u8 0,.i .u16 0,.s [],.i .u8 0,.i .u16 0,.s [],.i .u8 0,.i .u16 0,.s [],.i .u8 0,.i .u16 0,.s [],.i .u8 0,.i .u16 0,.s [],.i .u8 0,.i .u16 0,.s [],.i .u8 0,.i .u16 0,.s [],.i .u8 0,.i .u16 0,.s [],.i .u8 0,.i .u16 0,.s [],.i .u8 0,.i .u16 0,.s [],.i .u8 0,.i .u16 0,.s [],.i .u8 0,.i .u16 0,.s [],.i .u8 0,.i .u16 0,.s [],.i .u8 0,.i .u16 0,.s [],.i .u8 0,.i .u16 0,.s [],.i .u8 0,.i .u16 0,.s [],.i .u8 0,.i .u16 0,.s [],.i .u8 0,.i .u16 0,.s [],.i .u8 0,.i .u16 0,.s [],.i .u8 0,.i .u16 0,.s [],.i .u8 0,.i .u16 0,.s [],.i .u8 0,.i .u16 0,.s [],.i .u8 0,.i .u16 0,.s [],.i .u8 0,.i .u16 0,.s [],.i .u8 0,.i .u16 0,.s [],.i .u8 0,.i .u16 0,.s [],.i .u8 0,.i .u16 0,.s [],.i .u8 0,.i .u16 0,.s [],.i .u8 0,.i .u16 0,.s [],.i .u8 0,.i .u16 0,.s [],.i .u8 0,.i .u16 0,.s [],.i .u8 0,.i .u16 0,.s [],.i .u8 0,.i .u16 0,.s [],.i .u8 0,.i .u16 0,.s [],.i .u8 0,.i .u16 0,.s [],.i .u8 0,.i .u16 0,.s [],.i .u8 0] [(0,3,(.t 1)),(3,3,(.t 2)),(6,3,(.t 3)),(9,3,(.t 4)),(12,3,(.t 5)),(15,3,(.t 6)),(18,3,(.t 7)),(21,3,(.t 8)),(24,3,(.t 9)),(27,3,(.t 10)),(30,3,(.t 11)),(33,3,(.t 12)),(36,3,(.t 13)),(39,3,(.t 14)),(42,3,(.t 15)),(45,3,(.t 16)),(48,3,(.t 17)),(51,3,(.t 18)),(54,3,(.t 19)),(57,3,(.t 20)),(60,3,(.t 21)),(63,3,(.t 22)),(66,3,(.t 23)),(69,3,(.t 24)),(72,3,(.t 25)),(75,3,(.t 26)),(78,3,(.t 27)),(81,3,(.t 28)),(84,3,(.t 29)),(87,3,(.t 30)),(90,3,(.t 31)),(93,3,(.t 32)),(96,3,(.t 33)),(99,3,(.t 34)),(102,3,(.t 35)),(105,3,(.t 36)),(108,3,(.t 37)),(111,3,(.t 38)),(114,3,(.t 39)),(117,3,(.t 40)),(120,3,(.t 41))]),.u (.store 123 (.t 0) (.t 42))]) (.ret))⟩
set_option maxRecDepth 20000 in
theorem qs5(hc:qd P f qdM=true):qg P f [] (.agg (xT.flatMap xu)):=by
 refine qg.mk hc rfl ?_;simp only[qdM,vI,simprocAttr];simp only[↓vS,vT,simprocAttr,xT,xu,List.flatMap_cons,List.flatMap_nil,vZ]
def qfz(a:Nat):IFn:=⟨[.cell 2 3 true,.tmp 3],.seq (.r [.q 2 (.alloc [.i .u16 0,.s [],.i .u8 0]),.m 3 .F]) (.seq (.seq (.r [.l 6 a [],.m 7 (.k 0)]) (.blk 0 (.loop (.seq (.r [.w 8 .lss 7 41]) (.seq (.cond (.t 8) (.skip) (.exit 0)) (.seq (.blk 1 (.seq (.r [.q 9 (.idxA 41 3 true (.t 6) (.t 7)),.q 5 (.alloc [.i .u16 0,.s [],.i .u8 0]),.u (.store 3 (.t 5) (.t 9))]) (.seq (.r [.n 10 0,.v 11 3 5,⟨(some 12),.callV (.t 10) [.t 11],none⟩]) (.cond (.t 12) (.seq (.r [.v 13 3 5,.u (.store 3 (.t 2) (.t 13)),.m 3 .T]) (.ret)) (.skip))))) (.r [.a 14 7 1,.n 7 14]))))))) (.seq (.r [.q 15 (.build [.i .u16 0,.s [],.i .u8 0] []),.u (.store 3 (.t 2) (.t 15)),.m 3 .F]) (.ret)))⟩
theorem qwM{e:Nat}(hc:qd P f (qfz e)=true)(he:qg P e [] (.agg (xT.flatMap xu))){g:Nat}{a c:List AV}(ha:qF a=true)(hcc:qF c=true)(p:Int×List UInt8×Int->Bool)(hp:∀x ∈ xT,qg P g (a++([.agg (xu x)]++c)) (.b (p x))) :
  qg P f [.fn g a c] (.tup [.agg (zt (xT.find? p)),.b (xT.find? p).isSome]):=by
 refine qg.mk hc (by simp[qF,clo,ha,hcc]) ?_;simp only[qfz,vI,simprocAttr];simp only[↓vS,vT,simprocAttr];refine he.sc ?_;simp only[↓vS,vT,simprocAttr];have hlen:(xT.flatMap xu).length=123:=by rw[qaX (m:=3) qeg];rfl
 have hTc:qF (xT.flatMap xu)=true:=rfl;refine SL.loop (α:=Nat) (fun j=>[(0,.fn g a c),(2,.ptr 0 0),(6,.agg (xT.flatMap xu)),(7,.i .i64 j)]) (fun _=>[.cells 0 true false zE]) (fun j=>j<=41∧xT.find? p=(xT.drop j).find? p) (fun j=>41-j) 0 [0] ?_ ?_ ?_ rfl ?_ ?_
 ·generalize xT.flatMap xu=T at hTc;simp[vw,qb,hTc,ha,hcc]
 ·simp[vw,zE]
 ·simp
 ·exact⟨Nat.zero_le _,rfl⟩
 rintro j ⟨hj,hI⟩ G ih;simp only[vI,simprocAttr]
 by_cases hlt:j<41
 ·have hlt':(j:Int)<41:=by omega
  have hjl:j<xT.length:=hlt;have hx:xT[j]?=some xT[j]:=zzE hjl;have hw:IntKind.wrap .i64 ((j:Int)+1)=((j+1:Nat):Int):=by rw[qv (by omega) (by omega)];omega
  have hel:=qaW (f:=xu) (m:=3) qeg hx;have hb:j*3+3<=(xT.flatMap xu).length:=by omega
  have hpx:=hp _ (List.getElem_mem hjl);rw[List.drop_eq_getElem_cons hjl,List.find?_cons] at hI;generalize hc0:xT[j]=x at hel hI hpx;generalize hT:xT.flatMap xu=T at hel hb hlen hTc;simp only[xu] at hpx;simp only[↓vS,vT,simprocAttr,hlt',hlt,hel,hb,xu,zE];refine hpx.sc ?_;cases hs:p x with
  | true =>
   rw[hs] at hI;simp +decide only[↓vS,vT,simprocAttr];rw[hI];simp[vZ,zt,xu]
  | false =>
   rw[hs] at hI;simp +decide only[↓vS,vT,simprocAttr,hw];refine ih (j+1) ⟨hlt,hI⟩ (by omega) _ _ (Wk.mk _ _ [0] ?_ ?_ ?_ rfl)
   ·rw[hT];simp[vw,qb,hTc,ha,hcc]
   ·simp[vw,zE]
   ·simp
 ·have hj':j=41:=by omega
  subst hj';have hlt':¬(((41:Nat):Int)<41):=by decide
  have hI':xT.find? p=none:=hI;clear ih;generalize xT.flatMap xu=T;simp +decide only[↓vS,vT,simprocAttr,hlt',zE];rw[hI'];simp[vZ,zt,zE]
def qfy:IFn:=⟨[.tmp 3],.seq (.r [.q 2 (.box (.t 0)),.m 3 .F]) (.seq (.r [.f 4 0 2,.d 5 4,.d 6 1,.b 7 .eql 5 6,.n 3 7]) (.ret))⟩
theorem qxV(hc:qd P f qfy=true)(x:Int×List UInt8×Int)(n:Int):qg P f [.agg (xu x),.pf [.i .u16 n] 0] (.b (decide (x.1=n))):=by
 refine qg.mk hc (by simp[qF,clo,xu]) ?_;simp only[qfy,xu,vI,simprocAttr];simp only[↓vS,vT,simprocAttr,vZ]
def qhq(a b:Nat):IFn:=⟨[.cell 2 3 true,.tmp 3],.seq (.r [.q 1 (.box (.t 0)),.q 2 (.alloc [.i .u16 0,.s [],.i .u8 0]),.m 3 .F]) (.seq (.r [.q 4 (.mkF a [] [.t 1]),.l 5 b [.t 4],.x 6 5 0,.x 7 5 1,.u (.store 3 (.t 2) (.t 6)),.n 3 7]) (.ret))⟩
theorem qyI{g1 g2:Nat}(hc:qd P f (qhq g1 g2)=true)(h1:∀x n,qg P g1 [.agg (xu x),.pf [.i .u16 n] 0] (.b (decide (x.1=n))))(h2:∀(g:Nat) (a c:List AV),qF a=true->qF c=true->∀p:Int×List UInt8×Int->Bool,(∀x ∈ xT,qg P g (a++([.agg (xu x)]++c)) (.b (p x)))->qg P g2 [.fn g a c] (.tup [.agg (zt (xT.find? p)),.b (xT.find? p).isSome]))(n:Int) :
  qg P f [.i .u16 n] (.tup [.agg (zt (qy n)),.b (zI n)]):=by
 refine qg.mk hc rfl ?_;have h:=h2 g1 [] [.pf [.i .u16 n] 0] rfl rfl (fun x=>decide (x.1=n)) (fun x _=>h1 x n)
 unfold zI qy;have hce:qF (zt (xT.find? fun x=>decide (x.1=n)))=true∧(zt (xT.find? fun x=>decide (x.1=n))).length=3:=by cases xT.find? fun x=>decide (x.1=n)<;>exact⟨rfl,rfl⟩
 generalize (xT.find? fun x=>decide (x.1=n))=o at h hce ⊢
 simp only[qhq,vI,simprocAttr];simp only[↓vS,vT,simprocAttr];refine (h.lend (vs':=[.fn g1 [] [.pf [.i .u16 n] 0]]) ?_ ?_ ?_)
 ·simp[vZ,vP,Tr.get_set]
 ·cases o<;>rfl
 cases o with
 | none =>
  simp +decide only[↓vS,vT,simprocAttr,zt,zE];simp[vZ]
 | some x =>
  simp +decide only[↓vS,vT,simprocAttr,zt,xu];simp[vZ]
def qhp(a:Nat):IFn:=⟨[.tmp 2],.seq (.r [.m 2 (.c (.i .u8 0))]) (.seq (.r [.n 6 0,.l 7 a [.t 6],.n 5 7,.x 8 5 0,.x 9 5 1,.q 3 (.alloc [.i .u16 0,.s [],.i .u8 0]),.u (.store 3 (.t 3) (.t 8)),.n 4 9]) (.seq (.r [.f 10 2 3,.d 11 10,.n 2 11]) (.ret)))⟩
theorem qyH{g:Nat}(hc:qd P f (qhp g)=true)(hg:∀n,qg P g [.i .u16 n] (.tup [.agg (zt (qy n)),.b (zI n)]))(n:Int):qg P f [.i .u16 n] (.i .u8 (qh n)):=by
 refine qg.mk hc rfl ?_;have h:=hg n;unfold zI at h;simp only[qhp,vI,simprocAttr];simp only[↓vS,vT,simprocAttr];refine h.sc ?_;cases hcn:qy n with
 | none =>
  simp +decide only[↓vS,vT,simprocAttr,zt,zE];simp[vZ,qh,zI,hcn]
 | some x =>
  simp +decide only[↓vS,vT,simprocAttr,zt,xu];simp[vZ,qh,zI,hcn]
theorem qmF(c:Int):(qaJ.find? fun x=>decide (x.1=c))=qy c:=by
 unfold qy
 by_cases h:c ∈ xT.map (·.1)
 ·have key:∀c ∈ xT.map (·.1),(qaJ.find? fun x=>decide (x.1=c))=xT.find? fun x=>decide (x.1=c):=by decide
  exact key c h
 ·have h2:c ∉ qaJ.map (·.1):=by
   have key:∀c ∈ qaJ.map (·.1),c ∈ xT.map (·.1):=by decide
   exact fun hh=>h (key c hh)
  rw[List.find?_eq_none.2,List.find?_eq_none.2]
  ·intro x hx;simp only[decide_eq_true_eq];exact fun e=>h (List.mem_map.2 ⟨x,hx,e⟩)
  ·intro x hx;simp only[decide_eq_true_eq];exact fun e=>h2 (List.mem_map.2 ⟨x,hx,e⟩)
def qbP(a:Nat):IFn:=⟨[.cell 2 3 true],.seq (.r [.q 2 (.alloc [.i .u16 0,.s [],.i .u8 0])]) (.seq (.r [.l 5 a [],.n 3 5]) (.seq (.seq (.r [.m 4 (.k 0)]) (.blk 0 (.loop (.seq (.seq (.r [.n 6 4,.n 7 3,.e 8 7,.s 9 6 8]) (.cond (.t 9) (.skip) (.exit 0))) (.seq (.blk 1 (.seq (.r [.n 12 3,.n 13 4,.i 14 3 12 13,.f 15 0 14,.d 16 15,.n 17 0,.b 18 .eql 16 17]) (.cond (.t 18) (.seq (.r [.n 19 3,.n 20 4,.i 21 3 19 20,.v 22 3 21,.u (.store 3 (.t 2) (.t 22))]) (.ret)) (.skip)))) (.r [.n 10 4,.a 11 10 1,.n 4 11])))))) (.seq (.r [.q 23 (.build [.i .u16 0,.s [],.i .u8 0] []),.u (.store 3 (.t 2) (.t 23))]) (.ret))))⟩
theorem qzM{g:Nat}(hc:qd P f (qbP g)=true)(hg:qg P g [] (.fz 41 (qaJ.flatMap xu)))(n:Int):qg P f [.i .u16 n] (.agg (zt (qy n))):=by
 refine qg.mk hc rfl ?_;rw[← qmF];simp only[qbP,vI,simprocAttr];simp only[↓vS,vT,simprocAttr];refine hg.sc ?_;simp only[↓vS,vT,simprocAttr];have hlen:(qaJ.flatMap xu).length=123:=by rw[qaX (m:=3) qeg];rfl
 have hTc:qF (qaJ.flatMap xu)=true:=rfl;refine SL.loop (α:=Nat) (fun j=>[(0,.i .u16 n),(2,.ptr 0 0),(3,.fz 41 (qaJ.flatMap xu)),(4,.i .i64 j)]) (fun _=>[.cells 0 true false zE]) (fun j=>j<=41∧(qaJ.find? fun x=>decide (x.1=n))=(qaJ.drop j).find? fun x=>decide (x.1=n)) (fun j=>41-j) 0 [0] ?_ ?_ ?_ rfl ?_ ?_
 ·generalize qaJ.flatMap xu=T at hTc;simp[vw,qb,hTc]
 ·simp[vw,zE]
 ·simp
 ·exact⟨Nat.zero_le _,rfl⟩
 rintro j ⟨hj,hI⟩ G ih;simp only[vI,simprocAttr]
 by_cases hlt:j<41
 ·have hlt':(j:Int)<41:=by omega
  have hjl:j<qaJ.length:=hlt;have hx:qaJ[j]?=some qaJ[j]:=zzE hjl;have hw:IntKind.wrap .i64 ((j:Int)+1)=((j+1:Nat):Int):=by rw[qv (by omega) (by omega)];omega
  have hel:=qaW (f:=xu) (m:=3) qeg hx;have g0:(qaJ.flatMap xu)[j*3]?=some (.i .u16 qaJ[j].1):=xN (f:=xu) (m:=3) qeg hx (i:=0) (by decide);have hb:j*3+3<=(qaJ.flatMap xu).length:=by omega
  rw[List.drop_eq_getElem_cons hjl,List.find?_cons] at hI;generalize hc0:qaJ[j]=x at hel hI g0;generalize hT:qaJ.flatMap xu=T at hel hb hlen hTc g0
  by_cases hs:x.1=n
  ·have hd:decide (x.1=n)=true:=decide_eq_true hs;rw[hd] at hI;simp +decide only[↓vS,vT,simprocAttr,hlt',hlt,g0,hel,hb,xu,zE,hs];rw[hI];simp[vZ,zt,xu,hs]
  ·have hd:decide (x.1=n)=false:=decide_eq_false hs;rw[hd] at hI;simp +decide only[↓vS,vT,simprocAttr,hlt',hlt,g0,hs,hw,zE];refine ih (j+1) ⟨hlt,hI⟩ (by omega) _ _ (Wk.mk _ _ [0] ?_ ?_ ?_ rfl)
   ·rw[hT];simp[vw,qb,hTc]
   ·simp[vw,zE]
   ·simp
 ·have hj':j=41:=by omega
  subst hj';have hlt':¬(((41:Nat):Int)<41):=by decide
  have hI':(qaJ.find? fun x=>decide (x.1=n))=none:=hI
  clear ih;generalize qaJ.flatMap xu=T;simp +decide only[↓vS,vT,simprocAttr,hlt',zE];rw[hI'];simp[vZ,zt,zE]
end Go.Kc
end
section
namespace Go.Kc
variable {P:Program} {f:Nat}
def leM:List Int->Int
 | []=>0
 | x::l=>x+256*leM l
def qcj(b:List Int):Prop:=∀x ∈ b,0<=x∧x<=255
theorem qii:∀{l:List Int},qcj l->0<=leM l∧leM l<256 ^ l.length
 | [],_=>by simp[leM]
 | x::l,h=>by
  have h1:=qii (l:=l) fun y hy=>h y (by simp[hy])
  have h2:=h x (by simp);simp only[leM,List.length_cons,Int.pow_succ];omega
theorem qjA{b:List Int}(h:qcj b)(n:Nat):qcj (b.take n):=fun x hx=>h x (List.mem_of_mem_take hx)
theorem qjz{b:List Int}(h:qcj b)(n:Nat):qcj (b.drop n):=fun x hx=>h x (List.mem_of_mem_drop hx)
def rB(b:List Int):List AV:=rI .u8 b
theorem qhG(b:List Int):(rB b).length=b.length:=qaS
theorem qat(b:List Int):qF (rB b)=true:=zf
theorem qvN(b:List Int)(j:Nat):(rB b)[j]?=(b[j]?).map (.i .u8):=qct
def qdU(b:List Int)(at' n:Nat):List Int:=(b.drop at').take n
theorem qqb{b:List Int}{at' n:Nat}(h:at'+n<=b.length):(qdU b at' n).length=n:=by unfold qdU;simp;omega
theorem qnB{b:List Int}{at' n:Nat}{c:Int}(h:b[at']?=some c):qdU b at' (n+1)=c::qdU b (at'+1) n:=by
 unfold qdU;obtain⟨hl,rfl⟩:=zzS.1 h;rw[List.drop_eq_getElem_cons hl,List.take_succ_cons]
theorem qsN{b:List Int}(h:qcj b)(at' n:Nat):qcj (qdU b at' n):=qjA (qjz h at') n
def qrs(b:List Int)(at' n:Nat):AV:=if at'+n<=b.length then .tup [.i .u64 (leM (qdU b at' n)),.b true] else .tup [.i .u64 0,.b false]
def qbq:IFn:=⟨[.tmp 6,.tmp 7],.seq (.r [.m 6 (.c (.i .u64 0)),.m 7 .F]) (.seq (.seq (.r [.n 10 1,.w 11 .lss 10 0,.n 12 11,.z 13 2 12,.z 14 0 12,.g 15 (.len false (.t 14)) 12 false,.g 16 (.bin .gtr (.t 13) (.t 15)) 12 false,.o 17 12 16,.n 18 17,.z 19 1 18,.z 20 0 18,.g 21 (.len false (.t 20)) 18 false,.z 22 2 18,.g 23 (.bin .sub (.t 21) (.t 22)) 18 false,.g 24 (.bin .gtr (.t 19) (.t 23)) 18 false,.o 25 18 24]) (.cond (.t 25) (.seq (.r [.m 6 (.c (.i .u64 0)),.m 7 .F]) (.ret)) (.skip))) (.seq (.r [.m 8 (.c (.i .u64 0))]) (.seq (.seq (.r [.n 26 2,.w 27 .sub 26 1,.n 9 27]) (.blk 0 (.loop (.seq (.seq (.r [.n 28 9,.w 29 .geq 28 0]) (.cond (.t 29) (.skip) (.exit 0))) (.seq (.blk 1 (.r [.n 32 8,.q 33 (.bin .mul (.t 32) (.c (.i .u64 256))),.n 34 0,.n 35 1,.n 36 9,.b 37 .add 35 36,.i 38 1 34 37,.d 39 38,.q 40 (.cvInt .u64 (.t 39)),.b 41 .add 33 40,.n 8 41])) (.r [.n 30 9,.w 31 .sub 30 1,.n 9 31])))))) (.seq (.r [.n 42 8,.n 6 42,.m 7 .T]) (.ret)))))⟩
theorem qzD(hc:qd P f qbq=true)(b:List Int)(hb:qcj b)(hl:b.length<=1000000)(at':Nat)(ha:at'<=1000000)(n:Nat)(hn8:n<=7):qg P f [.fz b.length (rB b),.i .i64 at',.i .i64 n] (qrs b at' n):=by
 refine qg.mk hc (by simp[qF,clo,qat]) ?_;have hn:¬(at':Int)<0:=by omega
 have hw0:IntKind.wrap .i64 ((b.length:Int)-(n:Int))=(b.length:Int)-n:=qv (by omega) (by omega);have hw1:IntKind.wrap .i64 ((n:Int)-1)=(n:Int)-1:=qv (by omega) (by omega);unfold qrs;simp only[qbq,vI,simprocAttr]
 by_cases h:at'+n<=b.length
 ·have h1:¬(b.length:Int)<(n:Int):=by omega
  have h':¬(b.length:Int)-n<(at':Int):=by omega
  rw[if_pos h];simp +decide only[↓vS,vT,simprocAttr,hn,h1,h',hw0,hw1];refine SL.loop (α:=Nat) (fun r=>[(0,.fz b.length (rB b)),(1,.i .i64 at'),(8,.i .u64 (leM (qdU b (at'+r) (n-r)))),(9,.i .i64 ((r:Int)-1))]) (fun _=>[]) (fun r=>r<=n) (fun r=>r) n [] ?_ ?_ ?_ rfl ?_ ?_
  ·simp[vw,qat,qdU,leM]
  ·trivial
  ·simp
  ·exact Nat.le_refl _
  rintro r hr G ih;simp only[vI,simprocAttr]
  by_cases hr0:r=0
  ·subst hr0;clear ih;simp +decide only[↓vS,vT,simprocAttr];simp[vZ]
  ·obtain⟨j,rfl⟩:∃j,r=j+1:=⟨r-1,by omega⟩
   have hge:(0:Int)<=((j+1:Nat):Int)-1:=by omega
   have hgel:¬((j+1:Nat):Int)-1<0:=by omega
   have hjl:at'+j<b.length:=by omega
   obtain⟨c,hcx⟩:∃c,b[at'+j]?=some c:=⟨_,zzE hjl⟩;have hcb:=hb c (zzM hcx);have hw2:IntKind.wrap .i64 ((at':Int)+(((j+1:Nat):Int)-1))=((at'+j:Nat):Int):=by rw[qv (by omega) (by omega)];omega
   have hw3:IntKind.wrap .i64 ((((j+1:Nat):Int)-1)-1)=(j:Int)-1:=by rw[qv (by omega) (by omega)];omega
   have hp:qdU b (at'+j) (n-j)=c::qdU b (at'+(j+1)) (n-(j+1)):=by
    have:n-j=(n-(j+1))+1:=by omega
    rw[this,qnB hcx];rfl
   have hbd:=qii (qsN hb (at'+(j+1)) (n-(j+1)));have hsl:(qdU b (at'+(j+1)) (n-(j+1))).length=n-(j+1):=qqb (by omega);rw[hsl] at hbd
   have hpw:(256:Int) ^ (n-(j+1))<=256 ^ 6:=by
    have:(256:Nat) ^ (n-(j+1))<=256 ^ 6:=Nat.pow_le_pow_right (by decide) (by omega);have h2:=Int.ofNat_le.2 this;rw[Int.natCast_pow,Int.natCast_pow] at h2;exact h2
   have h6:(256:Int) ^ 6=281474976710656:=by decide
   rw[h6] at hpw;have hx:leM (qdU b (at'+j) (n-j))=leM (qdU b (at'+(j+1)) (n-(j+1)))*256+c:=by rw[hp];simp only[leM];omega
   have ih2:=ih j;rw[hx] at ih2;generalize leM (qdU b (at'+(j+1)) (n-(j+1)))=x at hbd ih2 ⊢;have hw4:IntKind.wrap .u64 (x*256)=x*256:=qjn (by omega) (by omega);have hw5:IntKind.wrap .u64 c=c:=qjn (by omega) (by omega);have hw6:IntKind.wrap .u64 (x*256+c)=x*256+c:=qjn (by omega) (by omega);simp only[↓vS,vT,simprocAttr,hgel,hge,hw2,hjl,Nat.mul_one,qvN,hcx,Option.map_some,hw3,hw4,hw5,hw6];refine ih2 (by omega) (by omega) _ _ (Wk.mk _ _ [] ?_ ?_ ?_ rfl)
   ·simp[vw,qat]
   ·trivial
   ·simp
 ·rw[if_neg h]
  by_cases h1:(b.length:Int)<(n:Int)
  ·simp +decide only[↓vS,vT,simprocAttr,hn,h1];simp[vZ]
  ·have h':(b.length:Int)-n<(at':Int):=by omega
   simp +decide only[↓vS,vT,simprocAttr,hn,h1,h',hw0];simp[vZ]
structure Ins where
 code:Int
 jt:Int
 jf:Int
 k:Int
def zl(i:Ins):List AV:=[.i .u16 i.code,.i .u8 i.jt,.i .u8 i.jf,.i .u32 i.k]
theorem zP(i:Ins):(zl i).length=4:=rfl
def qxx(P:Program)(g:Nat):Prop:=∀(b:List Int),qcj b->b.length<=1000000->∀at':Nat,at'<=1000000->∀n:Nat,n<=7->qg P g [.fz b.length (rB b),.i .i64 at',.i .i64 n] (qrs b at' n)
def rP(p:List Ins):List AV:=p.flatMap zl
theorem qed(p:List Ins):(rP p).length=p.length*4:=qaX zP p
theorem qm(p:List Ins):qF (rP p)=true:=qfY (fun _=>rfl)
theorem qjZ{sz fl:Nat}{tr:Tr Blk}{x:Blk}:Hp.push ⟨sz,fl,tr⟩ x=⟨sz+1,fl,tr.set sz x⟩:=rfl
theorem qla{r:Loop}(h:r.state = .ready)(h2:r.pending=none):rdy r=r:=by cases r;simp_all [rdy]
end Go.Kc
end
