/- Part 6 of the abstract machine and of the functions' walks. Conditions: with each theorem. -/
import Derived.Test.YtpgbjeabmkbmbaaGreatEK5
import Derived.Laws.Externs
import Derived.Lib.Overlaps
import GoSem.ClaimChange
import Derived.ChangeArms
import Derived.ReadAgain
import Derived.ChangeOld
import Derived.ChangeBears
import Derived.OpenShut
import Derived.RecoverIn
set_option maxHeartbeats 4000000
set_option linter.unusedSectionVars false
set_option linter.unusedSimpArgs false
set_option linter.unusedVariables false
set_option linter.unnecessarySimpa false
set_option linter.defProp false
section
namespace Go.Kc
variable [Cur]
def vQ:=And.intro @List.map_cons.{0,0} (And.intro @List.map_nil.{0,0} (And.intro @Bool.and_true (And.intro @Bool.true_and (And.intro @Bool.and_self (And.intro @and_self (And.intro @Tr.get_set (And.intro @decide_eq_true_eq (And.intro @Bool.false_eq_true (And.intro @true_and (And.intro @and_true (And.intro @List.getElem?_cons_zero.{0} (And.intro @List.getElem?_cons_succ.{0} (And.intro @List.length_cons.{0} (And.intro @List.length_nil.{0} (And.intro @List.take_zero.{0} (And.intro @List.take_succ_cons.{0} (And.intro @List.drop_zero.{0} (And.intro @List.drop_succ_cons.{0} (And.intro @List.drop_nil.{0} (And.intro @List.take_nil.{0} (And.intro @List.nil_append.{0} (And.intro @List.cons_append.{0} (And.intro @List.append_nil.{0} (And.intro @Nat.zero_add (And.intro @Nat.add_zero (And.intro @Nat.le_refl (And.intro @Nat.zero_le (And.intro @Int.toNat_natCast (And.intro @Int.natCast_nonneg (And.intro @Int.ofNat_lt (And.intro @Bool.not_true (And.intro @Bool.not_false (And.intro @decide_true (And.intro @decide_false (And.intro @Bool.xor_false (And.intro @Bool.xor_true (And.intro @Bool.false_xor (And.intro @Bool.true_xor (And.intro @Nat.lt_irrefl (And.intro @List.replicate_succ.{0} (And.intro @List.replicate_zero.{0} (And.intro @List.flatten_cons.{0} (And.intro @List.flatten_nil.{0} (And.intro @Nat.succ_eq_add_one (And.intro @Option.isNone_none.{0} (And.intro @Option.isSome_none.{0} (And.intro @Bool.false_and (And.intro @Bool.and_false (And.intro @Nat.sub_zero (And.intro @qdD (And.intro @qbU (And.intro @zj (And.intro @qkj (And.intro @qaj (And.intro @y7 (And.intro @kG @List.append_assoc.{0}))))))))))))))))))))))))))))))))))))))))))))))))))))))))
def vX:=And.intro @qlg (And.intro @qqK (And.intro @qoJ (And.intro @qiD (And.intro @qiE (And.intro @qgf (And.intro @qiA (And.intro @qf7 (And.intro @qig (And.intro @qf6 (And.intro @qih @qif))))))))))
def vU:=And.intro @shb.eq_1 (And.intro @shb.eq_2 (And.intro @shb.eq_3 (And.intro @shv.eq_1 (And.intro @shv.eq_2 (And.intro @shv.eq_3 (And.intro @shv.eq_4 (And.intro @shv.eq_5 (And.intro @shv.eq_6 (And.intro @shv.eq_7 (And.intro @shv.eq_8 (And.intro @shv.eq_9 (And.intro @shv.eq_10 (And.intro @kV.eq_1 @kV.eq_2)))))))))))))
def vY:=And.intro vU (And.intro @yd.eq_1 (And.intro @yd.eq_2 (And.intro @cellsOf.eq_1 (And.intro @cellsOf.eq_2 (And.intro @wr.eq_1 (And.intro @wr.eq_2 (And.intro @wr.eq_3 (And.intro @wr.eq_4 (And.intro @wr.eq_5 (And.intro @wr.eq_6 (And.intro @wr.eq_7 (And.intro @wr.eq_8 (And.intro @wr.eq_9 (And.intro @wr.eq_10 (And.intro @wr.eq_11 (And.intro @xw.eq_1 @xw.eq_2))))))))))))))))
def vS:=And.intro vA (And.intro vE (And.intro vO (And.intro vB (And.intro vF (And.intro vM (And.intro vR vX))))))
def vT:=And.intro vY (And.intro @qmD (And.intro @qmE (And.intro vP (And.intro vC (And.intro vQ (And.intro @qfe (And.intro @qdL (And.intro not_false_eq_true (And.intro @eq_self.{1} @Int.cast_ofNat_Int)))))))))
def vw:=And.intro vW (And.intro @qjU (And.intro @qpU (And.intro @qpT (And.intro @qmK (And.intro @xd (And.intro @xg (And.intro @zK (And.intro @za (And.intro @qmm (And.intro @qbP (And.intro @qf4 (And.intro @qeg (And.intro @qdx (And.intro vP (And.intro vZ @Tr.get_set)))))))))))))))
def vK:=And.intro (And.intro @wg.eq_1 (And.intro @rnb.eq_1 (And.intro @rnb.eq_2 (And.intro @rnb.eq_3 (And.intro @xT.eq_1 (And.intro @xT.eq_2 (And.intro @rnv.eq_1 (And.intro @rnv.eq_2 (And.intro @rnv.eq_3 (And.intro @rnv.eq_4 (And.intro @rnv.eq_5 (And.intro @rnv.eq_6 (And.intro @rnv.eq_7 (And.intro @rnv.eq_8 (And.intro @rnv.eq_9 (And.intro @rnv.eq_10 @gAt.eq_1)))))))))))))))) (And.intro @List.cons_append.{0} (And.intro @List.nil_append.{0} (And.intro @List.length_cons.{0} (And.intro @List.length_nil.{0} (And.intro Nat.zero_add (And.intro @List.take_succ_cons.{0} (And.intro @List.take_zero.{0} (And.intro @List.drop_succ_cons.{0} (And.intro @List.drop_zero.{0} (And.intro @List.map_cons.{0,0} (And.intro @List.map_nil.{0,0} (And.intro @List.getD_cons_zero.{0} (And.intro @List.getD_cons_succ.{0} (And.intro @qbU (And.intro @qdD (And.intro @kG (And.intro @y7 (And.intro @zj @qaj))))))))))))))))))
def vJ:=And.intro vU (And.intro @kG (And.intro @y7 (And.intro @qaj (And.intro @qfe (And.intro @qdL (And.intro @List.map_cons.{0,0} (And.intro @List.map_nil.{0,0} (And.intro @qlO (And.intro @qeI Nat.zero_add)))))))))
def vL:=And.intro vU (And.intro (And.intro @xo.eq_1 (And.intro @xo.eq_2 (And.intro @bnd.eq_1 (And.intro @bnd.eq_2 (And.intro @bnd.eq_3 (And.intro @bnd.eq_4 (And.intro @bnd.eq_5 (And.intro @bnd.eq_6 (And.intro @bnd.eq_7 (And.intro @bnd.eq_8 (And.intro @bnd.eq_9 (And.intro @bnd.eq_10 (And.intro @xT.eq_1 (And.intro @xT.eq_2 (And.intro @rnv.eq_1 (And.intro @rnv.eq_2 (And.intro @rnv.eq_3 (And.intro @rnv.eq_4 (And.intro @rnv.eq_5 (And.intro @rnv.eq_6 (And.intro @rnv.eq_7 (And.intro @rnv.eq_8 (And.intro @rnv.eq_9 (And.intro @rnv.eq_10 @gAt.eq_1)))))))))))))))))))))))) (And.intro @qf3 (And.intro @qh1 (And.intro @kG (And.intro @y7 @qaj)))))
def ROp.q(n:Nat)(o:IOp):ROp:=⟨some n,.op o,none⟩
def ROp.m(n:Nat)(x:O):ROp:=⟨some n,.op (.mov x),none⟩
def ROp.g(n:Nat)(o:IOp)(c:Nat)(b:Bool):ROp:=⟨some n,.op o,some (c,b)⟩
def ROp.l(n f:Nat)(xs:List O):ROp:=⟨some n,.callF f xs,none⟩
def ROp.u(o:IOp):ROp:=⟨none,.op o,none⟩
def ICode.r(ops:List ROp):ICode:=.reg false ops
def O.k(n:Int):O:=.c (.i .i64 n)
def ROp.n(n a:Nat):ROp:=⟨some n,.op (.mov (.t a)),none⟩
def ROp.d(n a:Nat):ROp:=⟨some n,.op (.load1 (.t a)),none⟩
def ROp.v(n k a:Nat):ROp:=⟨some n,.op (.loadN k (.t a)),none⟩
def ROp.f(n k a:Nat):ROp:=⟨some n,.op (.fAddr k (.t a)),none⟩
def ROp.i(n k a b:Nat):ROp:=⟨some n,.op (.iAddrS k (.t a) (.t b)),none⟩
def ROp.a(n a:Nat)(k:Int):ROp:=⟨some n,.op (.bin .add (.t a) (.c (.i .i64 k))),none⟩
def ROp.b(n:Nat)(o:BinOp)(a b:Nat):ROp:=⟨some n,.op (.bin o (.t a) (.t b)),none⟩
def ROp.w(n:Nat)(o:BinOp)(a:Nat)(k:Int):ROp:=⟨some n,.op (.bin o (.t a) (.c (.i .i64 k))),none⟩
def ROp.e(n a:Nat):ROp:=⟨some n,.op (.len false (.t a)),none⟩
def ROp.x(n a k:Nat):ROp:=⟨some n,.op (.ext (.t a) k),none⟩
def ROp.s(n a b:Nat):ROp:=⟨some n,.op (.bin .lss (.t a) (.t b)),none⟩
def ROp.p(n a b:Nat):ROp:=⟨some n,.op (.pick (.t a) (.t b) (.c (.b false))),none⟩
def ROp.o(n a b:Nat):ROp:=⟨some n,.op (.pick (.t a) (.c (.b true)) (.t b)),none⟩
def ROp.y(n a c:Nat):ROp:=⟨some n,.op (.mov (.t a)),some (c,true)⟩
def ROp.z(n a c:Nat):ROp:=⟨some n,.op (.mov (.t a)),some (c,false)⟩
def ROp.j(n a c:Nat)(b:Bool):ROp:=⟨some n,.op (.load1 (.t a)),some (c,b)⟩
def ROp.h(n k a c:Nat)(b:Bool):ROp:=⟨some n,.op (.fAddr k (.t a)),some (c,b)⟩
def O.F:O:=.c (.b false)
def O.T:O:=.c (.b true)
def O.N:O:=.c .nils
omit [Cur] in
theorem q_q{n:Nat}{o:IOp}:ROp.q n o=⟨some n,.op o,none⟩:=rfl
omit [Cur] in
theorem q_m{n:Nat}{x:O}:ROp.m n x=⟨some n,.op (.mov x),none⟩:=rfl
omit [Cur] in
theorem q_g{n:Nat}{o:IOp}{c:Nat}{b:Bool}:ROp.g n o c b=⟨some n,.op o,some (c,b)⟩:=rfl
omit [Cur] in
theorem q_l{n f:Nat}{xs:List O}:ROp.l n f xs=⟨some n,.callF f xs,none⟩:=rfl
omit [Cur] in
theorem q_u{o:IOp}:ROp.u o=⟨none,.op o,none⟩:=rfl
omit [Cur] in
theorem q_r{ops:List ROp}:ICode.r ops = .reg false ops:=rfl
omit [Cur] in
theorem q_k{n:Int}:O.k n = .c (.i .i64 n):=rfl
omit [Cur] in
theorem qrE{n a:Nat}:ROp.n n a=⟨some n,.op (.mov (.t a)),none⟩:=rfl
omit [Cur] in
theorem qry{n a:Nat}:ROp.d n a=⟨some n,.op (.load1 (.t a)),none⟩:=rfl
omit [Cur] in
theorem qrI{n k a:Nat}:ROp.v n k a=⟨some n,.op (.loadN k (.t a)),none⟩:=rfl
omit [Cur] in
theorem qrA{n k a:Nat}:ROp.f n k a=⟨some n,.op (.fAddr k (.t a)),none⟩:=rfl
omit [Cur] in
theorem qrC{n k a b:Nat}:ROp.i n k a b=⟨some n,.op (.iAddrS k (.t a) (.t b)),none⟩:=rfl
omit [Cur] in
theorem qrw{n a:Nat}{k:Int}:ROp.a n a k=⟨some n,.op (.bin .add (.t a) (.c (.i .i64 k))),none⟩:=rfl
omit [Cur] in
theorem qrx{n:Nat}{o:BinOp}{a b:Nat}:ROp.b n o a b=⟨some n,.op (.bin o (.t a) (.t b)),none⟩:=rfl
omit [Cur] in
theorem qrJ{n:Nat}{o:BinOp}{a:Nat}{k:Int}:ROp.w n o a k=⟨some n,.op (.bin o (.t a) (.c (.i .i64 k))),none⟩:=rfl
omit [Cur] in
theorem qrz{n a:Nat}:ROp.e n a=⟨some n,.op (.len false (.t a)),none⟩:=rfl
omit [Cur] in
theorem qrK{n a k:Nat}:ROp.x n a k=⟨some n,.op (.ext (.t a) k),none⟩:=rfl
omit [Cur] in
theorem qrH{n a b:Nat}:ROp.s n a b=⟨some n,.op (.bin .lss (.t a) (.t b)),none⟩:=rfl
omit [Cur] in
theorem qrG{n a b:Nat}:ROp.p n a b=⟨some n,.op (.pick (.t a) (.t b) (.c (.b false))),none⟩:=rfl
omit [Cur] in
theorem qrF{n a b:Nat}:ROp.o n a b=⟨some n,.op (.pick (.t a) (.c (.b true)) (.t b)),none⟩:=rfl
omit [Cur] in
theorem qrL{n a c:Nat}:ROp.y n a c=⟨some n,.op (.mov (.t a)),some (c,true)⟩:=rfl
omit [Cur] in
theorem qrM{n a c:Nat}:ROp.z n a c=⟨some n,.op (.mov (.t a)),some (c,false)⟩:=rfl
omit [Cur] in
theorem qrD{n a c:Nat}{b:Bool}:ROp.j n a c b=⟨some n,.op (.load1 (.t a)),some (c,b)⟩:=rfl
omit [Cur] in
theorem qrB{n k a c:Nat}{b:Bool}:ROp.h n k a c b=⟨some n,.op (.fAddr k (.t a)),some (c,b)⟩:=rfl
omit [Cur] in
theorem q_F:O.F = .c (.b false):=rfl
omit [Cur] in
theorem q_T:O.T = .c (.b true):=rfl
omit [Cur] in
theorem q_N:O.N = .c .nils:=rfl
def vI:=And.intro (And.intro @qrE (And.intro @qry (And.intro @qrI (And.intro @qrA (And.intro @qrC (And.intro @qrw (And.intro @qrx (And.intro @qrJ (And.intro @qrz (And.intro @qrK (And.intro @qrH (And.intro @qrG (And.intro @qrF (And.intro @qrL (And.intro @qrM (And.intro @qrD (And.intro @qrB (And.intro q_F (And.intro q_T q_N))))))))))))))))))) (And.intro (And.intro @xz.eq_1 (And.intro @xz.eq_2 (And.intro @H0.eq_1 (And.intro @mkT.eq_1 (And.intro @mkT.eq_2 (And.intro @mkH.eq_1 (And.intro @trL.eq_1 @trL.eq_2))))))) (And.intro @List.length_cons.{0} (And.intro @List.length_nil.{0} (And.intro Nat.zero_add (And.intro @q_q (And.intro @q_m (And.intro @q_g (And.intro @q_l (And.intro @q_u (And.intro @q_r @q_k))))))))))
end Go.Kc
end
section
namespace Go.Kc
variable [Cur]
variable {P:Program}

end Go.Kc
end
section
namespace Go.Kc
variable [Cur]
variable {P:Program} {n:Nat} {t:Tr AV} {h:Hp}

end Go.Kc
end
section
namespace Go.Kc
variable [Cur]
variable {P:Program} {f:Nat}

omit [Cur] in
theorem qkq{y:List UInt8}:ltS [] y = !y.isEmpty:=by cases y<;>rfl
omit [Cur] in
theorem qdv{c:UInt8}{x:List UInt8}:ltS (c::x) []=false:=rfl
omit [Cur] in
theorem qdu{c d:UInt8}{x y:List UInt8}:ltS (c::x) (d::y)=if c<d then true else if c=d then ltS x y else false:=by
 rw[ZJ,ZJ];simp only[Op.bytesLess]
 by_cases h1:c<d
 ·simp[h1]
 ·by_cases h2:c=d
  ·simp[h2]
  ·simp[h1,h2]
end Go.Kc
end
section
namespace Go.Kc
variable [Cur]
variable {P:Program}
end Go.Kc
end
section
namespace Go.Kc
variable [Cur]
variable {P:Program} {h:Hp}

noncomputable def trP:List (Nat×Blk)->Tr Blk
 | []=>.leaf
 | p::l=>(trP l).set p.1 p.2
omit [Cur] in
theorem Zx:∀{l:List (Nat×Blk)} {b:Nat} {x:Blk},(trP l).get b=some x->(b,x) ∈ l
 | [],b,x,h=>by simp[trP] at h
 | p::l,b,x,h=>by
  simp only[trP,Tr.get_set] at h;split at h
  ·cases h;subst_vars;simp
  ·exact List.mem_cons_of_mem _ (Zx h)
noncomputable def kg(h:Hp):List (Nat×Blk)->Hp
 | []=>h
 | p::l=>kg (h.put p.1 .dead) l
omit [Cur] in
theorem Zn:∀{l:List (Nat×Blk)} {h:Hp},(kg h l).sz=h.sz
 | [],_=>rfl
 | _::l,h=>(Zn (l:=l)).trans rfl
omit [Cur] in
theorem Zm:∀{l:List (Nat×Blk)} {h:Hp},(kg h l).fl=h.fl
 | [],_=>rfl
 | _::l,h=>(Zm (l:=l)).trans rfl
omit [Cur] in
theorem yG:∀{l:List (Nat×Blk)} {h:Hp} {b:Nat},(kg h l).tr.get b=if b ∈ l.map Prod.fst then some .dead else h.tr.get b
 | [],_,_=>by simp[kg]
 | p::l,h,b=>by
  simp only[kg];rw[yG]
  by_cases h1:b ∈ l.map Prod.fst
  ·rw[if_pos h1,if_pos (by simp only[List.map_cons,List.mem_cons];exact .inr h1)]
  ·rw[if_neg h1];show (h.tr.set p.1 .dead).get b=_;rw[Tr.get_set]
   by_cases h2:b=p.1
   ·rw[if_pos h2,if_pos (by simp only[List.map_cons,List.mem_cons];exact .inl h2)]
   ·rw[if_neg h2,if_neg (by simp only[List.map_cons,List.mem_cons,not_or];exact⟨h2,h1⟩)]
omit [Cur] in
theorem wS:kg h []=h:=rfl
omit [Cur] in
theorem jH{b:Nat}{x:Blk}{l:List (Nat×Blk)}:kg h ((b,x)::l)=kg (h.put b .dead) l:=rfl
theorem Rel.sub{ρ:Ren}{B:Nat->Prop}{h h':Hp}{w:World}(r:Rel σ0 ρ B h w)(hs:h'.sz=h.sz)(hf:h'.fl=h.fl)(hg:∀b x,h'.tr.get b=some x->x≠.dead->h.tr.get b=some x):Rel σ0 ρ B h' w :=
 ⟨fun b L hb=>by rw[hs];exact r.dom b L hb,fun b L e wf af cs hb hx=>r.cells b L e wf af cs hb (hg _ _ hx (by simp)),fun b L es hb hx=>r.maps b L es hb (hg _ _ hx (by simp)),
  fun b L e af cs hb hx b' L' x hb' hx' hd=>r.excl b L e af cs hb (hg _ _ hx (by simp)) b' L' x hb' (hg _ _ hx' hd) hd,fun b L es hb hx b' L' x hb' hx' hd=>r.exclm b L es hb (hg _ _ hx (by simp)) b' L' x hb' (hg _ _ hx' hd) hd,
  fun b L e wf cs hb hx b' L' e' wf' af' cs' hb' hx'=>r.app b L e wf cs hb (hg _ _ hx (by simp)) b' L' e' wf' af' cs' hb' (hg _ _ hx' (by simp)),fun b L hb hf'=>r.flr b L hb (by rw[← hf];exact hf'),r.base,
  fun k arr hk=>⟨(r.frz k arr hk).1,fun b L x hb hx hd=>(r.frz k arr hk).2 b L x hb (hg _ _ hx hd) hd⟩,by rw[hs];exact r.dn⟩
theorem qb.give{f:Nat}{vs vs':List AV}{v:AV}{k:AV->Hp->Prop}(DB:List (Nat×Blk))(hg:∀p ∈ DB,h.tr.get p.1=some p.2∧h.fl<=p.1)(hp:qb P f vs' v)(hv:clo v=true)(hf:Frzs ⟨h.sz,h.fl,trP DB⟩ vs vs')(hk:k v (kg h DB)):SC P f vs h k:=by
 refine⟨trivial,fun ρ B w args r ha=>?_⟩
 have hp0:=hp H0 (fun v' h'=>v'=v∧h'=H0) ⟨rfl,rfl⟩
 have r0:Rel σ0 ρ B ⟨h.sz,h.fl,trP DB⟩ w:=r.sub rfl rfl (fun b x hx _=>(hg _ (Zx hx)).1)
 have hcr:=hf.ok r0 ha
 have fnew:∀kk a,zM ρ ⟨h.sz,h.fl,trP DB⟩ w kk=some a->ρ.frz kk=some a∨((∃ty fz,w.heap[kk]?=some (.cells a ty fz))∧∃b L e af cs,b ∈ DB.map Prod.fst∧ρ b=some L∧h.tr.get b=some (.cells e true af cs)∧L.blk=kk∧h.fl<=b):=by
  intro kk a hkk;rcases wM hkk with h1|⟨h1,b,L,e,af,cs,h2,h3,h4⟩
  ·exact .inl h1
  ·have hm:=Zx h3;exact .inr ⟨h1,b,L,e,af,cs,List.mem_map_of_mem (f:=Prod.fst) hm,h2,(hg _ hm).1,h4,(hg _ hm).2⟩
 -- the rows given are frozen,their blocks dead
 have r1:Rel σ0 ⟨ρ.loc,zM ρ ⟨h.sz,h.fl,trP DB⟩ w,ρ.n⟩ B (kg h DB) w:=by
  have le:ρ.le ⟨ρ.loc,zM ρ ⟨h.sz,h.fl,trP DB⟩ w,ρ.n⟩:=⟨fun _ _ h=>h,fun _ _ h=>xn h,Nat.le_refl _⟩
  have yI:∀b x,(kg h DB).tr.get b=some x->x≠.dead->b ∉ DB.map Prod.fst∧h.tr.get b=some x:=by
   intro b x hx hd;rw[yG] at hx;split at hx
   ·cases hx;exact absurd rfl hd
   ·exact⟨by assumption,hx⟩
  have rs:Rel σ0 ρ B (kg h DB) w:=r.sub Zn Zm (fun b x hx hd=>(yI b x hx hd).2)
  refine⟨rs.dom,fun b L e wf af cs hb hx=>?_,fun b L es hb hx=>?_,rs.excl,rs.exclm,rs.app,rs.flr,rs.base,fun kk arr hkk=>?_,rs.dn⟩
  ·obtain⟨q1,c,ty,fz,q2,q3,q4,q5,q6⟩:=rs.cells b L e wf af cs hb hx;exact⟨q1,c,ty,fz,q2,q3,q4,fun j v hv=>let ⟨v',k1,k2⟩:=q5 j v hv;⟨v',k1,k2.mono le⟩,q6⟩
  ·obtain⟨q1,o,q2,q3⟩:=rs.maps b L es hb hx;exact⟨q1,o,q2,q3.mono le⟩
  ·rcases fnew kk arr hkk with h1|⟨h1,b,L,e,af,cs,h2,h3,h4,h5,_⟩
   ·exact rs.frz kk arr h1
   ·refine⟨h1,fun b' L' x hb' hx hd he=>?_⟩
    obtain⟨g1,g2⟩:=yI b' x hx hd;have:=r.excl b L e af cs h3 h4 b' L' x hb' g2 hd (by rw[he,h5]);subst this;exact g1 h2
 refine jA.mono (hp0.2 ⟨fun _=>none,zM ρ ⟨h.sz,h.fl,trP DB⟩ w,0⟩ (low w.heap.size) w args
  ⟨(fun _ _ hb=>by cases hb),(fun _ _ _ _ _ _ hb=>by cases hb),(fun _ _ _ hb=>by cases hb),(fun _ _ _ _ _ hb=>by cases hb),(fun _ _ _ hb=>by cases hb),(fun _ _ _ _ _ hb=>by cases hb),(fun _ _ hb=>by cases hb),(fun _ h=>h),
   (fun k arr hk=>⟨(r1.frz k arr hk).1,fun _ _ _ hb=>by cases hb⟩),⟨Nat.le_refl _,fun _ _ hb=>by cases hb⟩⟩ (CRs.vr (ρ:=⟨fun _=>none,zM ρ ⟨h.sz,h.fl,trP DB⟩ w,0⟩) hcr)) ?_
 rintro e w' ⟨v0,v',h',ρ',rfl,⟨rfl,rfl⟩,g2,g3,g4⟩;have f1:∀k a,zM ρ ⟨h.sz,h.fl,trP DB⟩ w k=some a->ρ'.frz k=some a:=g4.frz;have f2:∀k a,ρ'.frz k=some a->zM ρ ⟨h.sz,h.fl,trP DB⟩ w k=some a∨w.heap.size<=k:=fun k a hk=>(g4.fnew k a hk).imp id Nat.not_lt.1
 have f3:∀k a,ρ'.frz k=some a->∃ty fz,w'.heap[k]?=some (.cells a ty fz):=fun k a hk=>(g3.frz k a hk).1
 have r2:=r1.frz' g4.pres g4.wle f1 f2 f3;refine⟨v0,v',kg h DB,⟨ρ.loc,ρ'.frz,ρ.n⟩,rfl,hk,CR.vr (ρ:=⟨ρ.loc,ρ'.frz,ρ.n⟩) (g2.cr hv),r2,?_⟩;refine⟨fun _ _=>rfl,by rw[Zn];exact Nat.le_refl _,Zm,fun b hb _=>?_,fun k hk=>g4.pres k (r.base _ hk),g4.wle,g4.io,fun k a hk=>f1 k a (xn hk),fun k a hk=>?_,Nat.le_refl _⟩
 ·rw[yG,if_neg];intro hm;obtain⟨p,hp1,hp2⟩:=List.mem_map.1 hm;have:=(hg p hp1).2;omega
 ·rcases f2 k a hk with h1|h1
  ·rcases fnew k a h1 with h2|⟨_,b,L,_,_,_,_,h3,_,h5,h6⟩
   ·exact .inl h2
   ·right;rw[← h5];exact r.flr b L h3 h6
  ·exact .inr (xG r.base h1)
end Go.Kc
end
section
namespace Go.Kc
variable [Cur]
variable {P:Program} {env:Tr IFn} {ho:Qb}

inductive OkT (P:Program):Nat->Nat->Tr IFn->Prop where
 | leaf (a b:Nat):OkT P a b .leaf
 | no (a b:Nat) {l r:Tr IFn}:OkT P (2*a) (a+b) l->OkT P (2*a) (2*a+b) r->OkT P a b (.node none l r)
 | fn (a b:Nat) {i:IFn} {l r:Tr IFn}:qh P b i=true->OkT P (2*a) (a+b) l->OkT P (2*a) (2*a+b) r->OkT P a b (.node (some i) l r)

omit [Cur] in
theorem OkT.get{a b:Nat}{t:Tr IFn}(h:OkT P a b t):∀n i,t.get n=some i->qh P (a*n+b) i=true:=by
 induction h with
 | leaf=>intro n i h;simp at h
 | no a b hl hr ihl ihr =>
  intro n i h;cases n with
  | zero=>rw[Tr.get_node] at h;cases h
  | succ m =>
   rcases Nat.mod_two_eq_zero_or_one m with h0|h0
   ·obtain⟨j,rfl⟩:∃j,m=2*j:=⟨m / 2,by omega⟩
    rw[Tr.get_node] at h;simp only[h0,if_true,Nat.mul_div_cancel_left j (Nat.zero_lt_two)] at h;have:=ihl j i h;rwa [show 2*a*j+(a+b)=a*(2*j+1)+b from by rw[Nat.mul_add,Nat.mul_one,← Nat.mul_assoc,Nat.mul_comm a 2];omega] at this
   ·obtain⟨j,rfl⟩:∃j,m=2*j+1:=⟨m / 2,by omega⟩
    rw[Tr.get_node] at h;simp only[h0,Nat.one_ne_zero,if_false,show (2*j+1) / 2=j from by omega] at h
    have:=ihr j i h;rwa [show 2*a*j+(2*a+b)=a*(2*j+1+1)+b from by rw[Nat.mul_add,Nat.mul_add,Nat.mul_one,← Nat.mul_assoc,Nat.mul_comm a 2];omega] at this
 | fn a b hc hl hr ihl ihr =>
  intro n i h;cases n with
  | zero=>rw[Tr.get_node] at h;cases h;simpa using hc
  | succ m =>
   rcases Nat.mod_two_eq_zero_or_one m with h0|h0
   ·obtain⟨j,rfl⟩:∃j,m=2*j:=⟨m / 2,by omega⟩
    rw[Tr.get_node] at h;simp only[h0,if_true,Nat.mul_div_cancel_left j (Nat.zero_lt_two)] at h;have:=ihl j i h;rwa [show 2*a*j+(a+b)=a*(2*j+1)+b from by rw[Nat.mul_add,Nat.mul_one,← Nat.mul_assoc,Nat.mul_comm a 2];omega] at this
   ·obtain⟨j,rfl⟩:∃j,m=2*j+1:=⟨m / 2,by omega⟩
    rw[Tr.get_node] at h;simp only[h0,Nat.one_ne_zero,if_false,show (2*j+1) / 2=j from by omega] at h
    have:=ihr j i h;rwa [show 2*a*j+(2*a+b)=a*(2*j+1+1)+b from by rw[Nat.mul_add,Nat.mul_add,Nat.mul_one,← Nat.mul_assoc,Nat.mul_comm a 2];omega] at this

omit [Cur] in
theorem Kept.same{ρ ρ':Ren}{h h':Hp}{w w':World}(k:Kept ρ (low w.heap.size) h w ρ' h' w')(may:MemPlace->Prop):w.keptBut w' may:=by
 refine⟨k.io.1,k.io.2,fun i hi=>?_⟩
 have e:=k.pres i hi;rw[e];cases w.heap[i]? with
 | none=>rfl
 | some o=>cases o<;>simp
noncomputable def qfW(w:World):Nat->Option (Array Value):=fun k=>match w.heap[k]? with|some (.cells arr _ _)=>some arr|_=>none
omit [Cur] in
theorem qaO{w:World}{k:Nat}{arr:Array Value}:qfW w k=some arr↔∃ty fz,w.heap[k]?=some (.cells arr ty fz):=by
 show (match w.heap[k]? with|some (.cells arr _ _)=>some arr|_=>none)=some arr↔_
 cases w.heap[k]? with
 | none=>simp
 | some o=>cases o<;>simp
noncomputable def ice(w:World) [t:TabOk w]:Ren:=⟨fun _=>none,⟨qfW w,fun k a h=>qaO.2 (t.ok k a h)⟩,0⟩
omit [Cur] in
theorem qka{w:World} [TabOk w]{k:Nat}{arr:Array Value}:(ice w).frz k=some arr↔∃ty fz,w.heap[k]?=some (.cells arr ty fz):=qaO
theorem Rel.ice(w:World) [TabOk w]:Rel σ0 (ice w) (low w.heap.size) H0 w :=
 ⟨(fun _ _ hb=>by cases hb),(fun _ _ _ _ _ _ hb=>by cases hb),(fun _ _ _ hb=>by cases hb),(fun _ _ _ _ _ hb=>by cases hb),(fun _ _ _ hb=>by cases hb),(fun _ _ _ _ _ hb=>by cases hb),(fun _ _ hb=>by cases hb),(fun _ h=>h),
  (fun k arr hk=>⟨qka.1 hk,fun _ _ _ hb=>by cases hb⟩),⟨Nat.le_refl _,fun _ _ hb=>by cases hb⟩⟩
theorem qb.law{f:Nat}{vs:List AV}{args:Array Value}(hp:qb P f vs (.b true))(hc:qby P f)(w:World) [TabOk w](ha:VRs σ0 (ice w) vs args.toList):Calls P f args w fun e w'=>e = .returned (.bool true)∧∀may,w.keptBut w' may:=by
 have h:=(hp H0 (fun v _=>v = .b true) rfl).2 (ice w) (low w.heap.size) w args (Rel.ice w) ha
 rcases h with⟨_,h⟩|⟨v,w',h,_⟩
 ·refine h.mono fun e w' hh=>?_
  obtain⟨v,v',h',ρ',rfl,rfl,hv,_,hk⟩:=hh;cases hv;exact⟨rfl,fun may=>hk.same may⟩
 ·obtain⟨fn,h1,h2,h3⟩:=hc;rw[ja h1 h2 h3] at h;cases h
omit [Cur] in
theorem ya{f:Nat}{i:IFn}(hc:qh P f i=true):qby P f:=by
 unfold qh at hc;split at hc<;>try (cases hc;done)
 rename_i fn hfn;simp only[Bool.and_eq_true,bne_iff_ne] at hc;obtain⟨⟨hname,hbody⟩,hres⟩:=hc;split at hbody<;>try (cases hbody;done)
 rename_i c hcb;exact⟨fn,hfn,hname,by rw[hcb];rfl⟩
end Go.Kc
end
section
namespace Go.Kc
variable [Cur]
section
variable {H:Type} {enc:TypeId×Value->H} {P:Program} {w:World} {α β:Type} {t e:TypeId}
omit [Cur] in
theorem CRs.app{φ:Nat->Option (Array Value)}:∀{as bs:List AV} {us vs:List Value},CRs σ0 φ as us->CRs σ0 φ bs vs->CRs σ0 φ (as++bs) (us++vs)
 | _,_,_,_,.nil,h=>h
 | _,_,_,_,.cons v l v' l' h hs,h2=>.cons _ _ _ _ h (CRs.app hs h2)
def kH(enc:TypeId×Value->H)(P:Program)(w:World)(t:TypeId)(I:α->Prop)(E:α->List AV):Prop :=
 ∀(fuel:Nat) (cs:List Value) x,DataW.trod enc P w 0 (fun _=>true) true fuel t cs=some x->∃a,I a∧CRs σ0 (qfW w) (E a) cs
omit [Cur] in
theorem qo5{k:IntKind}(ht:P.underlying t=some (.int k)):kH enc P w t (fun n:Int=>(Lit.int k n).wf=true) (fun n=>[.i k n]):=by
 intro fuel cs x h;obtain⟨n,rfl,_,hw⟩:=DataW.trod_int ht h;exact⟨n,hw,.cons _ _ _ _ (.i _ _) .nil⟩
omit [Cur] in
theorem qjG{a:Addr}{v:Value}(h:w.cell? a=some v):a.spot=none∧∃arr ty fz,w.heap[a.block]?=some (.cells arr ty fz)∧arr[a.off]?=some v:=by
 unfold World.cell? at h;split at h
 ·rename_i c ty fz hc;split at h
  ·cases h
  ·rename_i hs;refine⟨by simpa using hs,c,ty,fz,hc,h⟩
 ·cases h
omit [Cur] in
theorem qlI{I:α->Prop}{E:α->List AV}{m:Nat}(ht:P.underlying t=some (.slice e))(he:kH enc P w e I E)(hE:∀a,(E a).length=m)(hc:P.cellsOf e=m)(hm:0<m) :
  kH enc P w t (fun l:List α=>l.length<=maxLen∧∀a ∈ l,I a) (fun l=>[.fz l.length (l.flatMap E)]):=by
 intro fuel cs x h;rcases DataW.trod_slice ht h with⟨rfl,_⟩|⟨a,len,cap,elems,rest,n,_,rfl,_,_,hl,hmx,hlen,hel,hsp,_⟩
 ·exact⟨[],⟨Nat.zero_le _,fun _ h=>by cases h⟩,.cons _ _ _ _ (.fz0 none) .nil⟩
 obtain⟨hrl,hr⟩:=hsp rfl;rcases Nat.eq_zero_or_pos cap with h0|hpos
 ·subst h0;obtain rfl:len=0:=by omega
  exact⟨[],⟨Nat.zero_le _,fun _ h=>by cases h⟩,.cons _ _ _ _ (.fz0 (some a)) .nil⟩
 have first:∃v,w.cell? a=some v:=by
  have:∃cs',w.cells? 0 (a.add (0*P.cellsOf e)) (P.cellsOf e)=some cs':=by
   rcases Nat.eq_zero_or_pos len with h1|h1
   ·have:=hr 0 (by omega);have hlt:0<rest.length:=by omega
    rw[zzE hlt,Option.bind_eq_some_iff] at this;obtain⟨c,hc',_⟩:=this;subst h1;exact⟨c,hc'⟩
   ·have:=hel 0 h1;have hlt:0<elems.length:=by omega
    rw[zzE hlt,Option.bind_eq_some_iff] at this;obtain⟨c,hc',_⟩:=this;exact⟨c,hc'⟩
  obtain⟨cs',h2⟩:=this;obtain⟨_,q1,q2⟩:=World.cells?_some h2;have:=q2 0 (by omega);rw[zzE (by omega)] at this;simp only[Nat.zero_mul,Addr.add,if_true] at this;exact⟨_,this⟩
 obtain⟨v0,hv0⟩:=first
 obtain⟨hs,arr,ty,fz,hb,_⟩:=qjG hv0
 have key:∀k,k<=len->∃l:List α,l.length=k∧(∀b ∈ l,I b)∧CRs σ0 (qfW w) (l.flatMap E) ((arr.toList.drop a.off).take (k*m)):=by
  intro k
  induction k with
  | zero=>intro _;exact⟨[],rfl,(fun _ h=>by cases h),by simpa using .nil⟩
  | succ k ih =>
   intro hk;obtain⟨l,h1,h2,h3⟩:=ih (by omega);have hk':=hel k (by omega);have hlt:k<elems.length:=by omega
   rw[zzE hlt,Option.bind_eq_some_iff] at hk';obtain⟨c,hcs,htr⟩:=hk';obtain⟨_,q1,q2⟩:=World.cells?_some hcs;obtain⟨b,hb1,hb2⟩:=he _ _ _ htr
   have e1:c=((arr.toList.drop a.off).drop (k*m)).take m:=by
    refine List.ext_getElem? fun j=>?_
    by_cases hj:j<m
    ·have:=q2 j (by omega);rw[← this]
     have e2:w.cell? ((a.add (k*P.cellsOf e)).add j)=arr[a.off+(k*m+j)]?:=by
      have ha:(a.add (k*P.cellsOf e)).add j=⟨a.block,a.off+(k*m+j),none⟩:=by
       unfold Addr.add;rw[hc];split
       ·split
        ·rename_i h4 h5;rw[h4,h5];cases a;simp_all
        ·rename_i h4 h5;rw[h4];simp[hs]
       ·split
        ·rename_i h4 h5;rw[h5];cases a;simp_all
        ·simp;omega
      rw[ha];simp[World.cell?,hb]
     rw[e2,List.getElem?_take_of_lt hj,List.getElem?_drop,List.getElem?_drop];simp[Array.getElem?_toList]
    ·rw[List.getElem?_eq_none (by omega),List.getElem?_eq_none];simp;omega
   refine⟨l++[b],by simp[h1],fun x hx=>?_,?_⟩
   ·rcases List.mem_append.1 hx with hx|hx
    ·exact h2 x hx
    ·obtain rfl:=List.mem_singleton.1 hx;exact hb1
   ·rw[List.flatMap_append,Nat.succ_mul,List.take_add,← e1];simpa using h3.app hb2
 obtain⟨l,h1,h2,h3⟩:=key len (Nat.le_refl _);refine⟨l,⟨by omega,h2⟩,.cons _ _ _ _ ?_ .nil⟩
 have hfl:(l.flatMap E).length=len*m:=by
  rw[← h1];clear h1 h2 h3
  induction l with
  | nil=>simp
  | cons x l ih=>simp[hE,ih,Nat.succ_mul,Nat.add_comm]
 obtain⟨blk,off,spot⟩:=a;cases hs;rw[h1];exact .fz len off cap _ blk arr hl (qaO.2 ⟨ty,fz,hb⟩) (by rw[hfl];exact h3)
def qb3(enc:TypeId×Value->H)(P:Program)(w:World)(fs:List Field)(o n:Nat)(I:α->Prop)(E:α->List AV):Prop :=
 (∀a,(E a).length=n)∧∀(fuel:Nat) (cs:List Value),(∀f ∈ fs,∃x,DataW.trod enc P w 0 (fun _=>true) true fuel f.type ((cs.drop f.offset).take (P.cellsOf f.type))=some x)->∃a,I a∧CRs σ0 (qfW w) (E a) ((cs.drop o).take n)
omit [Cur] in
theorem qn7{o:Nat}:qb3 enc P w [] o 0 (fun _:Unit=>True) (fun _=>[]):=⟨fun _=>rfl,fun _ cs _=>⟨(),trivial,by simpa using .nil⟩⟩
omit [Cur] in
theorem qlG{f:Field}{fs:List Field}{o m n:Nat}{I:α->Prop}{E:α->List AV}{J:β->Prop}{F:β->List AV}(h:kH enc P w f.type I E)(hE:∀a,(E a).length=m)(ho:f.offset=o)(hc:P.cellsOf f.type=m)
  (hr:qb3 enc P w fs (o+m) n J F):qb3 enc P w (f::fs) o (m+n) (fun p:α×β=>I p.1∧J p.2) (fun p=>E p.1++F p.2):=by
 refine⟨fun p=>by simp[hE,hr.1],fun fuel cs hf=>?_⟩
 obtain⟨x,hx⟩:=hf f (List.mem_cons_self ..);obtain⟨a,ha,h1⟩:=h _ _ _ hx;obtain⟨b,hb,h2⟩:=hr.2 fuel cs fun g hg=>hf g (List.mem_cons_of_mem _ hg)
 refine⟨(a,b),⟨ha,hb⟩,?_⟩;rw[ho,hc] at h1;rw[List.take_add,List.drop_drop];exact h1.app h2
omit [Cur] in
theorem qkO{fs:Array Field}{n:Nat}{I:α->Prop}{E:α->List AV}(ht:P.underlying t=some (.struct fs))(hc:P.cellsOf t=n)(h:qb3 enc P w fs.toList 0 n I E):kH enc P w t I E:=by
 intro fuel cs x hx;obtain⟨xs,m,rfl,_,hl,hxs,hf⟩:=DataW.trod_struct ht hx
 obtain⟨a,ha,h1⟩:=h.2 m cs fun f hfm=>by
  obtain⟨i,hi⟩:=List.getElem?_of_mem hfm;have hi':fs[i]?=some f:=by simpa using hi
  have:=hf i f hi'
  have hlt:i<xs.length:=by
   rw[hxs];exact (Array.getElem?_eq_some_iff.1 hi').1
  rw[zzE hlt] at this;exact⟨_,this⟩
 refine⟨a,ha,?_⟩;rwa [List.drop_zero,List.take_of_length_le (by omega)] at h1
omit [Cur] in
theorem kH.map{I:α->Prop}{E:α->List AV}{J:β->Prop}{F:β->List AV}(h:kH enc P w t I E)(g:α->β)(hg:∀a,I a->J (g a)∧F (g a)=E a):kH enc P w t J F:=by
 intro fuel cs x hx;obtain⟨a,ha,h1⟩:=h _ _ _ hx;exact⟨g a,(hg a ha).1,by rw[(hg a ha).2];exact h1⟩
omit [Cur] in
theorem kH.agg [TabOk w]{I:α->Prop}{E:α->List AV}(h:kH enc P w t I E){v:Value}{d:DataW H}{p:List MemPlace}(ha:∃cs,v = .agg cs)(hd:DataW.Trod enc P w 0 (fun _=>true) true t v d p):∃a,I a∧VR σ0 (ice w) (.agg (E a)) v:=by
 obtain⟨cs,rfl⟩:=ha;obtain⟨fuel,hd⟩:=hd;obtain⟨a,h1,h2⟩:=h _ _ _ hd;exact⟨a,h1,.agg _ _ h2.vr⟩
omit [Cur] in
theorem qcu{w':World}(hk:∀may,w.keptBut w' may){p:MemPlace}(hp:p.block<w.heap.size):w.sameAt w' p:=by
 have h:=(hk fun _=>False).2.2 p.block hp
 have h0:w.heap[p.block]?=some w.heap[p.block]:=Array.getElem?_eq_getElem hp;cases p with
 | cell b off =>
  show w'.cell? ⟨b,off,none⟩=w.cell? ⟨b,off,none⟩;simp only[MemPlace.block] at h h0 hp;unfold World.cell?;split at h
  ·rename_i c1 t1 f1 c2 t2 f2 e1 e2;dsimp only;rw[e1,e2];simpa using h.2.2.2 off (fun hh=>hh)
  ·rename_i e1 e2;dsimp only;rw[e1,e2]
  ·dsimp only;rw[h]
 | map b =>
  show w'.heap[b]?=w.heap[b]?;simp only[MemPlace.block] at h h0 hp;split at h
  ·rename_i c1 t1 f1 c2 t2 f2 e1 e2
   have:c2=c1:=by
    apply Array.ext_getElem?;intro j;exact h.2.2.2 j (fun hh=>hh)
   rw[e1,e2,h.1,h.2.1,this]
  ·rename_i e1 e2;rcases h with hh|⟨h1,h2⟩
   ·exact hh.elim
   ·rw[e1,e2,h1,h2]
  ·exact h
omit [Cur] in
theorem Trod.stay{w':World}{T:TypeId->Prop}(K:Kids P T)(hz:∀t e,T t->P.underlying t=some (.slice e)->0<P.cellsOf e){ts:List TypeId}{vs:List Value}{ds:List (DataW H)}{ps:List MemPlace}(hT:∀t ∈ ts,T t)
  (h:DataW.TrodAll enc P w 0 (fun _=>true) true ts vs ds ps) (hk:∀may,w.keptBut w' may):DataW.TrodAll enc P w' 0 (fun b=>decide (b<w.heap.size)) true ts vs ds ps:=by
 have hlt:=DataW.TrodAll.lt h;have h1:DataW.TrodAll enc P w 0 (fun b=>decide (b<w.heap.size)) true ts vs ds ps:=h.respare K hz hT fun p hp=>decide_eq_true (hlt p hp)
 clear h
 induction ts generalizing vs ds ps with
 | nil =>
  cases vs<;>cases ds<;>first|exact h1|exact h1.elim
 | cons t ts ih =>
  cases vs with
  | nil=>exact h1.elim
  | cons v vs =>
   cases ds with
   | nil=>exact h1.elim
   | cons d ds =>
    obtain⟨p,q,⟨fuel,h2⟩,h3,e⟩:=h1;subst e;refine⟨p,q,⟨fuel,DataW.trod_carry _ _ _ _ h2 fun x hx=>qcu hk (hlt x (List.mem_append_left _ hx))⟩,?_,rfl⟩
    exact ih (fun t ht=>hT t (List.mem_cons_of_mem _ ht)) (fun x hx=>hlt x (List.mem_append_right _ hx)) h3
end
end Go.Kc
namespace Go.Kc
variable [Cur]
omit [Cur] in
theorem qog{k:IntKind}{l:List Int}:l.flatMap (fun n=>[AV.i k n])=l.map (.i k):=by
 induction l with
 | nil=>rfl
 | cons x l ih=>simp[ih]
omit [Cur] in
theorem qkR{P:Program}{H:Type}{enc:TypeId×Value->H}{f:Func}{s:ChangeSpec}{apart fresh handsOn:Bool}{W W':World}{args:Array Value}{v:Value}{ds gs:List (DataW H)}{before pv:List MemPlace}
  (hW:DataW.Whole enc P f.params.toList s.vars apart W args.toList ds gs before) (hs:(s.fn H (ds++gs)).args=ds)
  {T:TypeId->Prop} (K:Kids P T) (hz:∀t e,T t->P.underlying t=some (.slice e)->0<P.cellsOf e) (hT:∀t ∈ f.params.toList,T t)
  (hres:∀(b:Nat) (sp:Nat->Bool) (hd:Bool),DataW.TrodAll enc P W' b sp hd f.resultTypes.toList (v.resultList f.resultTypes.size) (s.fn H (ds++gs)).results [])
  (hvars:∀sp:Nat->Bool,DataW.TrodVars enc P W' sp s.vars (s.fn H (ds++gs)).vars pv)
  (hk:∀may,W.keptBut W' may):s.post enc P f apart fresh handsOn false W args v W':=by
 have hW':=hW;obtain⟨p,q,hA,_,_⟩:=hW';exact⟨ds,gs,before,[],p,pv,hW,hres _ _ _,by rw[hs];exact Trod.stay K hz hT hA hk,hvars _,hk _,fun h=>by cases h⟩
end Go.Kc
end
section
namespace Go.Kc
variable [Cur]
variable {P:Program} {env:Tr IFn} {ho:Qb}
def kOf:IntKind->Nat
 | .i8=>0 | .i16=>1 | .i32=>2 | .i64=>3 | .u8=>4 | .u16=>5 | .u32=>6 | .u64=>7
omit [Cur] in
theorem qch{a b:IntKind}(h:Nat.beq (kOf a) (kOf b)=true):a=b:=by
 cases a<;>cases b<;>first|rfl|cases h
def qkd:Int->Int->Bool
 | .ofNat a,.ofNat b=>Nat.beq a b
 | .negSucc a,.negSucc b=>Nat.beq a b
 | _,_=>false
omit [Cur] in
theorem qcg:∀{a b:Int},qkd a b=true->a=b
 | .ofNat a,.ofNat b,h=>by rw[Nat.eq_of_beq_eq_true h]
 | .negSucc a,.negSucc b,h=>by rw[Nat.eq_of_beq_eq_true h]
 | .ofNat _,.negSucc _,h=>by cases h
 | .negSucc _,.ofNat _,h=>by cases h
mutual
noncomputable def jU(h:Hp):AV->AV->Bool
 | .b x,v=>match v with | .b y=>(x&&y)||(!x && !y)|_=>false
 | .i k n,v=>match v with | .i k' m=>Nat.beq (kOf k) (kOf k')&&qkd n m|_=>false
 | .s x,v=>match v with | .s y=>eqS x y|_=>false
 | .nils,v=>match v with | .nils=>true|_=>false
 | .nilp,v=>match v with | .nilp=>true|_=>false
 | .nilf,v=>match v with | .nilf=>true|_=>false
 | .nili,v=>match v with | .nili=>true|_=>false
 | .nilm,v=>match v with | .nilm=>true|_=>false
 | .agg cs',v=>match v with | .agg cs=>ZV h cs' cs|_=>false
 | .tup cs',v=>match v with | .tup cs=>ZV h cs' cs|_=>false
 | .fz n cs',v=>match v with
  | .nils=>Nat.beq n 0&&cs'.isEmpty
  | .sl b o m c _=>Nat.beq n m&&Nat.ble m c && !(Nat.beq c 0)&&(match h.tr.get b with|some (.cells _ true _ cs)=>Nat.ble (o+cs'.length) cs.length&&ZV h cs' ((cs.drop o).take cs'.length)|_=>false)
  | .own b m=>Nat.beq n m && !(Nat.beq m 0)&&(match h.tr.get b with|some (.cells _ true _ ys)=>ZV h cs' ys|_=>false)
  | _=>false
 | _,_=>false
noncomputable def ZV(h:Hp):List AV->List AV->Bool
 | [],vs=>vs.isEmpty
 | v'::vs',vs=>match vs with|v::vs=>jU h v' v&&ZV h vs' vs | []=>false
end
omit [Cur] in
theorem qcd{x y:List UInt8}(h:eqS x y=true):x=y:=by
 rw[je] at h;simpa using h
mutual
theorem qj8{h:Hp}:∀(v' v:AV),jU h v' v=true->Frz h v v'
 | .b x,v,hb=>by
  unfold jU at hb;split at hb<;>first|(cases hb;done)|skip
  rename_i y;have:y=x:=by cases x<;>cases y<;>first|rfl|cases hb
  subst this;exact .b _
 | .i k n,v,hb=>by
  unfold jU at hb;split at hb<;>first|(cases hb;done)|skip
  simp only[Bool.and_eq_true] at hb;obtain rfl:=qch hb.1;obtain rfl:=qcg hb.2;exact .i _ _
 | .s x,v,hb=>by
  unfold jU at hb;split at hb<;>first|(cases hb;done)|skip
  obtain rfl:=qcd hb;exact .s _
 | .nils,v,hb=>by unfold jU at hb;split at hb<;>first|(cases hb;done)|exact .nils
 | .nilp,v,hb=>by unfold jU at hb;split at hb<;>first|(cases hb;done)|exact .nilp
 | .nilf,v,hb=>by unfold jU at hb;split at hb<;>first|(cases hb;done)|exact .nilf
 | .nili,v,hb=>by unfold jU at hb;split at hb<;>first|(cases hb;done)|exact .nili
 | .nilm,v,hb=>by unfold jU at hb;split at hb<;>first|(cases hb;done)|exact .nilm
 | .agg cs',v,hb=>by
  unfold jU at hb;split at hb<;>first|(cases hb;done)|skip
  exact .agg _ _ (yi cs' _ hb)
 | .tup cs',v,hb=>by
  unfold jU at hb;split at hb<;>first|(cases hb;done)|skip
  exact .tup _ _ (yi cs' _ hb)
 | .fz n cs',v,hb=>by
  unfold jU at hb;split at hb<;>first|(cases hb;done)|skip
  ·simp only[Bool.and_eq_true] at hb;obtain rfl:=Nat.eq_of_beq_eq_true hb.1;have:cs'=[]:=by simpa using hb.2
   rw[this];exact .nilz
  ·simp only[Bool.and_eq_true] at hb;obtain⟨⟨⟨h1,h2⟩,h3⟩,h4⟩:=hb;obtain rfl:=Nat.eq_of_beq_eq_true h1;split at h4<;>first|(cases h4;done)|skip
   rename_i hg;simp only[Bool.and_eq_true] at h4;refine .sl _ _ _ _ _ _ _ _ cs'.length _ hg (Nat.le_of_ble_eq_true h2) (Nat.le_of_ble_eq_true h4.1) (fun h0=>?_) (yi cs' _ h4.2)
   subst h0;cases h3
  ·simp only[Bool.and_eq_true] at hb;obtain⟨⟨h1,h2⟩,h4⟩:=hb;obtain rfl:=Nat.eq_of_beq_eq_true h1;split at h4<;>first|(cases h4;done)|skip
   rename_i hg;refine .own _ _ _ _ _ _ hg (fun h0=>?_) (yi cs' _ h4)
   subst h0;cases h2
 | .undef,v,hb=>by unfold jU at hb;cases hb
 | .ptr _ _,v,hb=>by unfold jU at hb;cases hb
 | .sl _ _ _ _ _,v,hb=>by unfold jU at hb;cases hb
 | .fn _ _ _,v,hb=>by unfold jU at hb;cases hb
 | .ifc _ _,v,hb=>by unfold jU at hb;cases hb
 | .map _,v,hb=>by unfold jU at hb;cases hb
 | .sym _,v,hb=>by unfold jU at hb;cases hb
 | .pf _ _,v,hb=>by unfold jU at hb;cases hb
 | .e0,v,hb=>by unfold jU at hb;cases hb
 | .own _ _,v,hb=>by unfold jU at hb;cases hb
 | .nz,v,hb=>by unfold jU at hb;cases hb
 | .yl _,v,hb=>by unfold jU at hb;cases hb
 | .lp _,v,hb=>by unfold jU at hb;cases hb
theorem yi{h:Hp}:∀(vs' vs:List AV),ZV h vs' vs=true->Frzs h vs vs'
 | [],vs,hb=>by
  unfold ZV at hb;have:vs=[]:=by simpa using hb
  rw[this];exact .nil
 | v'::vs',vs,hb=>by
  unfold ZV at hb;split at hb<;>first|(cases hb;done)|skip
  simp only[Bool.and_eq_true] at hb;exact .cons _ _ _ _ (qj8 v' _ hb.1) (yi vs' _ hb.2)
end
noncomputable def tt(b:Bool):Prop:=Bool.rec (motive:=fun _=>Prop) False True b
omit [Cur] in
theorem qqC{b:Bool}(h:tt b):b=true:=by cases b with|true=>rfl|false=>exact h.elim
end Go.Kc
end
section
namespace Go.Kc
variable [Cur]
variable {P:Program}
def Tr.o(l r:Tr IFn):Tr IFn:=.node none l r
def Tr.f(i:IFn):Tr IFn:=.node (some i) .leaf .leaf
def Tr.g(i:IFn)(l r:Tr IFn):Tr IFn:=.node (some i) l r
mutual
def wL:AV->Bool
 | .map _=>false
 | .fz _ _=>false
 | .pf _ _=>false
 | .sym _=>false
 | .fn _ a c=>wa a&&wa c
 | .ifc _ v=>wL v
 | .agg cs=>wa cs
 | .tup cs=>wa cs
 | .ptr _ _=>true | .sl _ _ _ _ _=>true | .own _ _=>true
 | .undef=>true | .b _=>true | .i _ _=>true | .s _=>true | .nilp=>true | .nils=>true | .nilf=>true | .nili=>true | .nilm=>true | .e0=>true | .nz=>true | .yl _=>true | .lp _=>true
def wa:List AV->Bool
 | []=>true
 | v::vs=>wL v&&wa vs
end
mutual
theorem VR.thaw{ρ:Ren}{φ:Fz}:∀{a:AV} {v:Value},VR σ0 ρ a v->wL a=true->VR σ0 ⟨ρ.loc,φ,ρ.n⟩ a v
 | _,_,.undef v,_=>.undef v
 | _,_,.b x,_=>.b x
 | _,_,.i k n,_=>.i k n
 | _,_,.s x,_=>.s x
 | _,_,.nilp,_=>.nilp
 | _,_,.ptr b o L h,_=>.ptr b o L h
 | _,_,.nils,_=>.nils
 | _,_,.sl b o len cap c loose L h hc,_=>.sl b o len cap c loose L h hc
 | _,_,.slz b o x l L h,_=>.slz b o x l L h
 | _,_,.nilf,_=>.nilf
 | _,_,.fn f first cap first' cap' h1 h2,hc=>by
  simp only[wL,Bool.and_eq_true] at hc;exact .fn _ _ _ _ _ (h1.thaw hc.1) (h2.thaw hc.2)
 | _,_,.nili,_=>.nili
 | _,_,.ifc t v v' h,hc=>by simp only[wL] at hc;exact .ifc _ _ _ (h.thaw hc)
 | _,_,.agg cs cs' h,hc=>by simp only[wL] at hc;exact .agg _ _ (h.thaw hc)
 | _,_,.tup cs cs' h,hc=>by simp only[wL] at hc;exact .tup _ _ (h.thaw hc)
 | _,_,.nilm,_=>.nilm
 | _,_,.map b L h h0,hc=>by simp[wL] at hc
 | _,_,.sym j,hc=>by simp[wL] at hc
 | _,_,.fz n off c cs k arr hn h hs,hc=>by simp[wL] at hc
 | _,_,.fz0 a,hc=>by simp[wL] at hc
 | _,_,.pf off base cs k arr h hs,hc=>by simp[wL] at hc
 | _,_,.e0 a,_=>.e0 a
 | _,_,.nz a c,_=>.nz a c
 | _,_,.own0 b a hb,_=>.own0 b a hb
 | _,_,.own b n c L h hn hc,_=>.own b n c L h hn hc
 | _,_,.yl b L h,_=>.yl b L h
theorem VRs.thaw{ρ:Ren}{φ:Fz}:∀{a:List AV} {v:List Value},VRs σ0 ρ a v->wa a=true->VRs σ0 ⟨ρ.loc,φ,ρ.n⟩ a v
 | _,_,.nil,_=>.nil
 | _,_,.cons v vs v' vs' h hs,hc=>by
  simp only[wa,Bool.and_eq_true] at hc;exact .cons _ _ _ _ (h.thaw hc.1) (hs.thaw hc.2)
end
omit [Cur] in
theorem qaI:∀{cs:List AV} {j:Nat} {v:AV},wa cs=true->cs[j]?=some v->wL v=true
 | [],_,_,_,h=>by simp at h
 | c::cs,0,v,hf,h=>by
  simp only[wa,Bool.and_eq_true] at hf;simp at h;rw[← h];exact hf.1
 | c::cs,j+1,v,hf,h=>by
  simp only[wa,Bool.and_eq_true] at hf;exact qaI hf.2 (by simpa using h)
def qeO:Blk->Bool
 | .cells _ _ _ cs=>wa cs
 | _=>false
theorem Rel.thaw{ρ:Ren}{φ:Fz}{B:Nat->Prop}{h:Hp}{w:World}(r:Rel σ0 ρ B h w)(hφ:∀k a,φ k=some a->ρ.frz k=some a)(hh:∀b x,h.tr.get b=some x->qeO x=true):Rel σ0 ⟨ρ.loc,φ,ρ.n⟩ B h w:=by
 refine⟨r.dom,fun b L e wf af cs hb hg=>?_,fun b L es hb hg=>?_,r.excl,r.exclm,r.app,r.flr,r.base,fun k arr hk=>r.frz k arr (hφ k arr hk),r.dn⟩
 ·obtain⟨g1,c,ty,fz,g2,g3,g4,g5,g6⟩:=r.cells b L e wf af cs hb hg;exact⟨g1,c,ty,fz,g2,g3,g4,fun j v hv=>let ⟨v',g7,g8⟩:=g5 j v hv;⟨v',g7,g8.thaw (qaI (hh b _ hg) hv)⟩,g6⟩
 ·have:=hh b _ hg;cases this
theorem qbr.of_SC{f:Nat}{vs':List AV}{v:AV}{bs:List Blk}(hv:wL v=true)(hbs:bs.all qeO=true)(hs:SC P f vs' H0 (qgx v bs)):qbr P f vs' v bs:=by
 intro h vs k hf hk;refine⟨hs.1,fun ρ B w args r ha=>?_⟩
 have hcr:=hf.ok r ha;refine jA.mono (hs.2 ⟨fun _=>none,zM ρ h w,0⟩ (low w.heap.size) w args r.bare (CRs.vr (ρ:=⟨fun _=>none,zM ρ h w,0⟩) hcr)) ?_
 rintro e w1 ⟨v0,v',h1,ρ1,rfl,g1,g2,g3,g4⟩;obtain⟨src,s1,s2,s3⟩:=g1 g4.fl;have hw:Wk 0 (mkT [(0,v0)]) h1 (mkT [(0,v)]) (mkH 0 bs):=Wk.mk [(0,v)] bs src ⟨⟨v0,by simp[mkT,Tr.get_set],s1⟩,trivial⟩ s2 s3 g4.fl
 obtain⟨ρ2,t2,r2,k2⟩:=hw ρ1 (low w.heap.size) w1 #[v'] (fun j x hj=>by
  have:=kD hj;simp at this;obtain⟨rfl,rfl⟩:=this;exact⟨by simp,by simpa using g2⟩) g3
 have hv2:VR σ0 ρ2 v v':=by
  have:=(t2 0 v (by simp[mkT,Tr.get_set])).2;simpa using this
 have hφ:∀k a,ρ.frz k=some a->ρ2.frz k=some a:=fun k a hk=>k2.frz k a (g4.frz k a (xn hk))
 have r3:=r2.thaw (φ:=ρ.frz) hφ (fun b x hx=>by
  rw[zZ] at hx;exact List.all_eq_true.1 hbs x (zzM hx))
 have hv3:=hv2.thaw (φ:=ρ.frz) hv;refine⟨_,v',_,ρ.join ⟨ρ2.loc,ρ.frz,ρ2.n⟩ h.sz bs.length,rfl,hk,hv3.sh r3.dn.1,Rel.joinH r r3 g4.pres g4.wle (fun _ _ h=>h) (fun _ _ h=>.inl h),?_⟩
 refine⟨fun b hb=>qai hb,by rw[km];omega,yL,fun b _ hb=>by rw[x5,if_pos hb],fun k hk=>g4.pres k (r.base _ hk),g4.wle,g4.io,fun _ _ h=>h,fun _ _ h=>.inl h,?_⟩
 exact Nat.le_trans r.dn.1 (Nat.le_add_right _ _)
theorem qbr.mk{f:Nat}{i:IFn}{vs:List AV}{v:AV}{bs:List Blk}(hc:qh P f i=true)(hv:wL v=true)(hbs:bs.all qeO=true)(hV:V P 0 i.body (jd i.res (qgx v bs)) (xz vs 0 .leaf) H0):qbr P f vs v bs :=
 qbr.of_SC hv hbs (SC.mk hc (qr hV))
end Go.Kc
end
section
namespace Go.Kc
variable [Cur]
variable {P:Program} {n:Nat} {h:Hp}
def bsy(r:Loop):Loop:={ r with state:=.busy }
def rdy(r:Loop):Loop:={ r with state:=.ready,pending:=none }
def dne(r:Loop)(c:Code):Loop:={ r with state:=.done,pending:=some c }
structure LoopOk (P:Program) (r:Loop) (ps:List Nat) (ai bi:ICode):Prop where
 params:r.params.toList=ps
 code:∃nt,qw P nt r.assign ai=true∧qw P nt r.body bi=true∧nt<=r.tmps.size∧∀p ∈ ps,p<nt
 flat:jx ai=true∧jx bi=true
 real:∀j,r.assign≠.goto j
def qey(P:Program)(r:Loop)(ps:List Nat)(ai bi:ICode):Prop:=∀r',jB r r'->LoopOk P r' ps ai bi
theorem LoopOk.likes{r:Loop}{ps:List Nat}{ai bi:ICode}(h:LoopOk P r ps ai bi):qey P r ps ai bi:=fun r' hl=>by
 rcases hl with⟨rfl,_⟩|⟨j,h1,_⟩
 ·exact h
 ·exact absurd h1 (h.real j)
theorem jB.bsy{r r':Loop}(h:jB r r'):jB (Go.Kc.bsy r) (Go.Kc.bsy r'):=by
 rcases h with⟨rfl,h0⟩|⟨j,h1,h2,_,h4⟩
 ·exact .inl ⟨rfl,h0⟩
 ·exact .inr ⟨j,h1,Cur.st .busy r'.pending h2,rfl,h4⟩
omit [Cur] in
theorem qan{r:Loop}:rdy (bsy r)=rdy r:=rfl
noncomputable def qa3:List Nat->List AV->Tr AV->Tr AV
 | p::ps,u::us,t=>qa3 ps us (t.set p u)
 | _,_,t=>t
def qpS(b:Nat)(k:AV->Hp->Prop)(x:X)(_:Tr AV)(h:Hp):Prop :=
 ∃r ts,h.tr.get b=some (.map (qZ r ts))∧onX x (k (.b true) (h.put b (.map (qZ (rdy r) ts)))) (fun id=>k (.b false) (h.put b (.map (qZ (dne r (.exit id)) ts)))) (k (.b false) (h.put b (.map (qZ (dne r .ret) ts))))
def qra(P:Program)(n b:Nat)(r:Loop)(bi:ICode)(Q:X->Tr AV->Hp->Prop)(x:X)(t:Tr AV)(h:Hp):Prop :=
 onX x (∃ts,h.tr.get b=some (.map (qZ r ts))∧S P n bi Q t (h.put b (.map (qZ (bsy r) ts)))) (fun _=>False) False
def qpR(P:Program)(n b:Nat)(bi:ICode)(Q:X->Tr AV->Hp->Prop)(x:X)(t:Tr AV)(h:Hp):Prop :=
 onX x (∃r ts R,h.tr.get b=some (.map (qZ r ts))∧r.state = .ready∧(∀q,jB r q->jB R (bsy q))∧S P n bi Q t (h.put b (.map (qZ R ts)))) (fun _=>False) False
def qmP:X->Loop->Loop
 | .normal,q=>rdy q
 | .exit id,q=>dne q (.exit id)
 | .ret,q=>dne q .ret
def qrj:X->Bool
 | .normal=>true
 | _=>false
def qls(b:Nat)(k:AV->Hp->Prop)(x:X)(_:Tr AV)(h:Hp):Prop :=
 ∃r ts R,h.tr.get b=some (.map (qZ r ts))∧(∀q,jB r q->jB R (qmP x q))∧k (.b (qrj x)) (h.put b (.map (qZ R ts)))
theorem qhn{b:Nat}{k:AV->Hp->Prop}{x:X}{t:Tr AV}{h:Hp}(hq:qpS b k x t h):qls b k x t h:=by
 obtain⟨r,ts,h1,h2⟩:=hq;cases x with
 | normal=>exact⟨r,ts,rdy r,h1,fun q hq=>hq.set .ready none,h2⟩
 | exit id=>exact⟨r,ts,dne r (.exit id),h1,fun q hq=>hq.set .done (some (.exit id)),h2⟩
 | ret=>exact⟨r,ts,dne r .ret,h1,fun q hq=>hq.set .done (some .ret),h2⟩
omit [Cur] in
theorem qe8{ρ:Ren}:∀{ps:List Nat} {us:List AV} {t:Tr AV} {tm:Array Value} {args:List Value},VRs σ0 ρ us args->ps.length=us.length->(∀p ∈ ps,p<tm.size)->TR σ0 ρ t tm->
  TR σ0 ρ (qa3 ps us t) ((ps.zip args).foldl (fun tm (p,v)=>tm.setIfInBounds p v) tm)
 | [],[],_,_,_,hv,_,_,ht=>by cases hv;exact ht
 | [],_::_,_,_,_,_,hl,_,_=>by simp at hl
 | _::_,[],_,_,_,_,hl,_,_=>by simp at hl
 | p::ps,u::us,t,tm,args,hv,hl,hp,ht=>by
  cases hv with
  | cons _ _ v vs h1 h2 =>
   have hlt:=hp p (by simp);refine qe8 (ps:=ps) h2 (by simpa using hl) (fun q hq=>by simpa using hp q (by simp[hq])) (fun j x hj=>?_)
   rw[Tr.get_set] at hj;split at hj
   ·rename_i he;subst he;cases hj;exact⟨by simpa using hlt,by simpa[Array.getD,hlt] using h1⟩
   ·rename_i he;obtain⟨g1,g2⟩:=ht j x hj;refine⟨by simpa using g1,?_⟩
    rw[Array.getD_eq_getD_getElem?,Array.getElem?_setIfInBounds,if_neg (fun e=>he e.symm),← Array.getD_eq_getD_getElem?]
    exact g2
omit [Cur] in
theorem qqy{ρ:Ren}{tm:Array Value}:∀{ts:List (Nat×AV)},(∀p ∈ ts,p.1<tm.size∧VR σ0 ρ p.2 (tm.getD p.1 undef))->TR σ0 ρ (mkT ts) tm :=
 fun h j v hj=>h (j,v) (kD hj)
omit [Cur] in
theorem qe1:∀{ts:List (Nat×AV)},(ts.map Prod.fst).Nodup->∀{p:Nat×AV},p ∈ ts->(mkT ts).get p.1=some p.2
 | [],_,_,hp=>by cases hp
 | q::ts,hn,p,hp=>by
  simp only[mkT,Tr.get_set];have hn2:=List.nodup_cons.1 hn;rcases List.mem_cons.1 hp with rfl|hp
  ·rw[if_pos rfl]
  ·rw[if_neg (fun e=>hn2.1 (List.mem_map.2 ⟨p,hp,e⟩))]
   exact qe1 hn2.2 hp
omit [Cur] in
theorem Ze:∀(l:List (Nat×Value)) (tm:Array Value),(l.foldl (fun tm (p,v)=>tm.setIfInBounds p v) tm).size=tm.size
 | [],_=>rfl
 | p::l,tm=>by rw[List.foldl_cons,Ze l];simp
theorem SY.mkL{b:Nat}{us:List AV}{k:AV->Hp->Prop}{r:Loop}{ts:List (Nat×AV)}{ps:List Nat}{ai bi:ICode}(hg:h.tr.get b=some (.map (qZ r ts)))(hok:qey P r ps ai bi)(hfl:h.fl<=b)(hbs:b<h.sz)(hl:ps.length=us.length)
  (hA:S P h.sz ai (qpR P h.sz b bi (qls b k)) (qa3 ps us (mkT ts)) h):SY P b us h k:=by
 intro ρ B w args L hL rl hargs;obtain⟨L0,ob,hob,hrec⟩:=rl.maps b L _ hL hg;obtain⟨q,rfl,hlk,hts⟩:=hrec.rec';have hokq:=hok q hlk;obtain⟨nt,hca,hcb,hnt,hps⟩:=hokq.code
 have hsz:args.size=q.params.size:=by
  have:=hargs.length;have h2:q.params.size=ps.length:=by rw[← hokq.params];simp
  rw[h2,hl,this];simp
 refine⟨q.fn,_,q.assign,q.body,run_yield hob hsz,fun ro=>roundIn_of_wpIn trivial ?_⟩
 have hfold:(q.params.zip args).foldl (fun tmps (t,a)=>tmps.setIfInBounds t a) q.tmps=(ps.zip args.toList).foldl (fun tm (p,v)=>tm.setIfInBounds p v) q.tmps:=by
  rw[← Array.foldl_toList,Array.toList_zip,hokq.params]
 rw[hfold]
 have hT:TR σ0 ρ (qa3 ps us (mkT ts)) ((ps.zip args.toList).foldl (fun tm (p,v)=>tm.setIfInBounds p v) q.tmps) :=
  qe8 hargs hl (fun p hp=>Nat.lt_of_lt_of_le (hps p hp) hnt) (qqy hts)
 have hS:=hA nt q.assign hca (Nat.le_refl _) (some L.blk) (.inr hokq.flat.1) ρ B w { tmps:=(ps.zip args.toList).foldl (fun tm (p,v)=>tm.setIfInBounds p v) q.tmps,defers:=[] } hT (by rw[Ze];exact hnt) rl
 refine wpIn_mono hS ?_;rintro e a1 w1 ⟨x1,t1,h1,ρ1,rs,hx,hq,ht1,hs1,hd1,hm,r1,k1⟩;cases hx with
 | exit id=>exact hq.elim
 | ret=>exact hq.elim
 | normal =>
  obtain⟨r',ts1,R',hg1,hrr,hRR,hB⟩:=hq;have r1:=r1.lessB (B:=B) fun k hk=>.inl hk
  have hL1:ρ1 b=some L:=(k1.ext b hbs).trans hL;obtain⟨_,ob1,hob1,hrec1⟩:=r1.maps b L _ hL1 hg1;obtain⟨q1,rfl,hlk1,hts1⟩:=hrec1.rec';refine⟨w1.putObj L.blk (.loop (Go.Kc.bsy q1)),run_beginRound hob1 (hlk1.state.trans hrr),?_⟩;obtain⟨r2,k2⟩:=r1.putMap (w':=w1.putObj L.blk (.loop (Go.Kc.bsy q1))) hL1 hg1 (by rw[k1.fl];exact hfl) hob1 (es':=qZ R' ts1) (.inr (.inr ⟨_,_,_,rfl,rfl,hRR _ hlk1,hts1⟩)) rfl ⟨rfl,rfl⟩;have hSb:=hB nt q.body hcb k1.szle (some L.blk) (.inr hokq.flat.2) ρ1 B _ a1 ht1 hs1 r2;refine wpIn_mono hSb ?_;rintro e a3 w3 ⟨x3,t3,h3,ρ3,rs3,hx3,hq3,ht3,hs3,hd3,hm3,r3,k3⟩;have r3:=r3.lessB (B:=B) fun k hk=>.inl hk
  have kk:=(k1.trans (k2.kep k1.szle)).trans k3;obtain⟨r',ts',R3,hg3,hR3,hq3⟩:=hq3;have hL3:ρ3 b=some L:=(kk.ext b hbs).trans hL;obtain⟨_,ob3,hob3,hrec3⟩:=r3.maps b L _ hL3 hg3;obtain⟨q3,rfl,hlk3,hts3⟩:=hrec3.rec'
  have fin:∀(lq:Loop) (y:Bool),jB R3 lq->lq.tmps=q3.tmps->k (.b y) (h3.put b (.map (qZ R3 ts')))->(∃v v0 h' ρ',Ending.returned (Value.bool y) = .returned v0∧k v h'∧VR σ0 ρ' v v0∧Rel σ0 ρ' B h' (w3.putObj L.blk (.loop lq))∧Kept ρ B h w ρ' h' (w3.putObj L.blk (.loop lq))):=by
   intro lq y hlp htm hk;obtain⟨r4,k4⟩:=r3.putMap (w':=w3.putObj L.blk (.loop lq)) hL3 hg3 (by rw[kk.fl];exact hfl) hob3 (es':=qZ R3 ts') (.inr (.inr ⟨_,_,_,rfl,rfl,hlp,by rw[htm];exact hts3⟩)) rfl ⟨rfl,rfl⟩
   exact⟨.b y,.bool y,_,ρ3,rfl,hk,.b _,r4,(kk.trans (k4.kep kk.szle)).kept rl.dn.1⟩
  have hlf:=hR3 q3 hlk3;cases hx3 with
  | normal=>exact⟨_,_,run_endRound none hob3,fin (Go.Kc.rdy q3) true hlf rfl hq3⟩
  | exit id=>exact⟨_,_,run_endRound (some (.exit id)) hob3,fin (dne q3 (.exit id)) false hlf rfl hq3⟩
  | ret=>exact⟨_,_,run_endRound (some .ret) hob3,fin (dne q3 .ret) false hlf rfl hq3⟩
theorem SY.mk{b:Nat}{us:List AV}{k:AV->Hp->Prop}{r:Loop}{ts:List (Nat×AV)}{ps:List Nat}{ai bi:ICode}(hg:h.tr.get b=some (.map (qZ r ts)))(hr:r.state = .ready)(hok:LoopOk P r ps ai bi)(hfl:h.fl<=b)(hbs:b<h.sz)(hl:ps.length=us.length)
  (hA:S P h.sz ai (qra P h.sz b r bi (qpS b k)) (qa3 ps us (mkT ts)) h):SY P b us h k:=by
 refine SY.mkL hg hok.likes hfl hbs hl ?_;intro nt code hc hn ro hro ρ B w a ht hsz rl;refine wpIn_mono (hA nt code hc hn ro hro ρ B w a ht hsz rl) ?_;rintro e a1 w1 ⟨x1,t1,h1,ρ1,rs,hx,hq,rest⟩;refine⟨x1,t1,h1,ρ1,rs,hx,?_,rest⟩;cases x1 with
 | normal=>obtain⟨ts1,g1,g2⟩:=hq;exact⟨r,ts1,Go.Kc.bsy r,g1,hr,fun q hq=>hq.bsy,g2.mono fun e t h=>qhn⟩
 | exit id=>exact hq
 | ret=>exact hq
def qjS(b:Nat)(Q:X->Tr AV->Hp->Prop)(t:Tr AV)(_:AV)(h:Hp):Prop :=
 ∃r ts,h.tr.get b=some (.map (qZ r ts))∧r.state≠.busy ∧
  match r.pending with
  | none=>Q .normal t (h.put b .dead)
  | some .ret=>Q .ret t (h.put b .dead)
  | some (.exit id)=>Q (.exit id) t (h.put b .dead)
  | _=>False
def rfK(P:Program)(ps:List Nat)(ai bi:ICode)(Q:X->Tr AV->Hp->Prop)(t:Tr AV)(ts:List (Nat×AV))(h:Hp)(g:AV):Prop :=
 match g with
 | .fn f first cap=>qby P f∧∀r0,r0.state = .ready->r0.pending=none->LoopOk P r0 ps ai bi->SC P f (first++(.yl h.sz::cap)) (h.push (.map (qZ r0 ts))) (qjS h.sz Q t)
 | _=>False
def qrN(P:Program)(ps:List Nat)(ai bi:ICode)(Q:X->Tr AV->Hp->Prop)(t:Tr AV)(ts:List (Nat×AV))(h:Hp)(g:AV):Prop :=
 match g with
 | .fn f first cap=>qby P f∧∀r0,r0.state = .ready->r0.pending=none->LoopOk P r0 ps ai bi->∃R,jB R r0∧SC P f (first++(.yl h.sz::cap)) (h.push (.map (qZ R ts))) (qjS h.sz Q t)
 | _=>False
theorem S.rangeFL{j:Nat}{g:O}{ps:List Nat}{ai bi:ICode}{Q:X->Tr AV->Hp->Prop}{t:Tr AV}{h:Hp}{ts:List (Nat×AV)}(hfl:h.fl<=h.sz)(htg:∀p ∈ ts,t.get p.1=some p.2)(hnr:jx ai=true∧jx bi=true)(hk:evK t g (qrN P ps ai bi Q t ts h)):S P n (.rangeF j g ps ai bi) Q t h:=by
 intro nt code hc hn ro hro ρ B w a ht hsz r
 obtain rfl:ro=none:=by
  rcases hro with h|h
  ·exact h
  ·cases h
 cases code<;>first|(simp[qw] at hc;done)|skip
 rename_i og ops oa ob;simp only[qw,Bool.and_eq_true] at hc;obtain⟨⟨⟨⟨⟨h1,h2⟩,h3⟩,h4⟩,h5⟩,h6⟩:=hc;have hreal:∀j,oa≠.goto j:=fun j hj=>by rw[hj] at h6;cases h6
 have h2:=eq_of_beq h2;obtain⟨gv,hgv,hk2⟩:=qy ht h1 hk;cases gv<;>try exact hgv.elim
 rename_i f first cap
 obtain⟨⟨fn0,c1,c2,c3⟩,hS⟩:=hgv;obtain⟨a',c',q1,q2,q3⟩:=hk2.un_fn;have hLd:∀b L,ρ b=some L->L.blk<w.heap.size:=r.dn.2;refine wpIn_rangeFunc fun fn _=>?_
 let r0:Loop:={ state:=.ready,pending:=none,fn,tmps:=a.tmps,params:=ops,assign:=oa,body:=ob,defers:=w.heap.size }
 let W1:World:=(w.alloc (.deferred (some []))).alloc (.loop r0)
 have hold:∀k,k<w.heap.size->(w.alloc (.deferred (some []))).heap[k]?=w.heap[k]?:=fun k hk=>by
  show (w.heap.push _)[k]?=_;rw[Array.getElem?_push,if_neg (by omega)]
 have hD:(w.alloc (.deferred (some []))).heap[w.heap.size]?=some (.deferred (some [])):=World.alloc_heap_new w _
 have r1:Rel σ0 ρ (BM B [w.heap.size]) h (w.alloc (.deferred (some []))):=by
  have r':=r.world (w':=w.alloc (.deferred (some []))) hold (by simp);refine⟨r'.dom,r'.cells,r'.maps,r'.excl,r'.exclm,r'.app,fun b L hb hf hB=>?_,fun k hk=>?_,r'.frz,r'.dn⟩
  ·rcases hB with hB|hB
   ·exact r.flr b L hb hf hB
   ·have:=hLd b L hb;rw[List.mem_singleton] at hB;omega
  ·rcases hk with hk|hk
   ·have:=r.base k hk;simp;omega
   ·rw[List.mem_singleton] at hk;simp;omega
 have hts:∀p ∈ ts,p.1<r0.tmps.size∧VR σ0 ρ p.2 (r0.tmps.getD p.1 undef):=fun p hp=>ht p.1 p.2 (htg p hp)
 have hlo:LoopOk P r0 ps ai bi:=⟨h2,⟨nt,h4,h5,hsz,fun p hp=>by rw[← h2] at hp;have:=List.all_eq_true.1 h3 p hp;exact Nat.lt_of_succ_le (Nat.le_of_ble_eq_true this)⟩,hnr,hreal⟩
 obtain⟨R,hRl,hSC⟩:=hS r0 rfl rfl hlo;obtain⟨r2,k2⟩:=r1.newMap (w':=W1) (es0:=qZ R ts) (o:=.loop r0) (.inr (.inr ⟨_,_,_,rfl,rfl,hRl,hts⟩)) rfl ⟨rfl,rfl⟩;have hl:(w.alloc (.deferred (some []))).heap.size=w.heap.size+1:=by simp
 rw[hl] at r2 k2;obtain⟨Lc,hLc⟩:∃Lc:Loc,Lc=⟨w.heap.size+1,0,0,0⟩:=⟨_,rfl⟩;rw[← hLc] at r2 k2;have hself:(ρ.add h.sz Lc) h.sz=some Lc:=Ren.add_self _ _ _;have hle2:=k2.mono r1.dom
 have hargs:VRs σ0 (ρ.add h.sz Lc) (first++(.yl h.sz::cap)) (a' ++ #[Value.func (.yield (w.heap.size+1)) #[] #[]]++c').toList:=by
  have hy:VR σ0 (ρ.add h.sz Lc) (.yl h.sz) (.func (.yield Lc.blk) #[] #[]):=.yl _ Lc hself;have e2:Lc.blk=w.heap.size+1:=by rw[hLc]
  rw[e2] at hy;have:=(q1.mono hle2).append (VRs.cons _ _ _ _ hy (q2.mono hle2));simpa using this
 have hcf:=ja (P:=P) c1 c2 c3
 have hcalls:Calls P f (a' ++ #[Value.func (.yield (w.heap.size+1)) #[] #[]]++c') W1 fun e w'=>∃v v' h' ρ',e = .returned v'∧qjS h.sz Q t v h'∧VR σ0 ρ' v v'∧Rel σ0 ρ' (BM B [w.heap.size]) h' w'∧Kept (ρ.add h.sz Lc) (BM B [w.heap.size]) (h.push (.map (qZ R ts))) W1 ρ' h' w':=by
  rcases hSC.2 _ _ _ _ r2 hargs with⟨_,hh⟩|⟨v,w',hh,_⟩
  ·exact hh
  ·rw[hcf] at hh;cases hh
 have hev:(({ a with defers:=Z6 [w.heap.size]++a.defers }:Act)).eval og = .func (.func f) a' c':=q3;refine⟨w.heap.size+1,[{ target:=.collected w.heap.size,args:=#[] }],W1,{ target:=.fn (.func f) c',args:=a' ++ #[Value.func (.yield (w.heap.size+1)) #[] #[]] },W1,f,a' ++ #[Value.func (.yield (w.heap.size+1)) #[] #[]]++c',W1,run_enterLoop_outer _ _ _ _ _,?_,fun _ _=>trivial,?_,fun hh=>(by cases hh),qdd (Calls.mono hcalls ?_)⟩
 ·simp only[resolve,q3];simp[go_sem,Deferred.ofValue,q3]
 ·simp[invoke,hcf]
 rintro e w2 ⟨v,v',h2',ρ2,rfl,hend,hv,r3,k3⟩;obtain⟨r',ts',hg',hst,hmt⟩:=hend;have hL2:ρ2 h.sz=some Lc:=(k3.ext _ (by show _<Nat.succ _;exact Nat.lt_succ_self _)).trans hself
 obtain⟨_,ob2,hob2,hrec2⟩:=r3.maps _ Lc _ hL2 hg';obtain⟨q2,rfl,hlk2,hts2⟩:=hrec2.rec';have hob3:w2.heap[w.heap.size+1]?=some (.loop q2):=by rw[hLc] at hob2;exact hob2
 have hfl2:h2'.fl<=h.sz:=by rw[k3.fl];exact hfl
 obtain⟨re,hre⟩:∃re:Loop,re={ q2 with state:=.exhausted }:=⟨_,rfl⟩;obtain⟨re',hre'⟩:∃re':Loop,re'={ r' with state:=.exhausted }:=⟨_,rfl⟩
 have hlre:jB re' re:=by
  have:=hlk2.set .exhausted q2.pending;rw[hre,hre'];have e:({ r' with state:=.exhausted,pending:=q2.pending }:Loop)={ r' with state:=.exhausted }:=by rw[hlk2.pending]
  rw[e] at this;exact this
 have hts4:∀p ∈ ts',p.1<re.tmps.size∧VR σ0 ρ2 p.2 (re.tmps.getD p.1 undef):=by rw[hre];exact hts2
 have hend2:=run_endLoop (P:=P) hob3 (by rw[hlk2.state];exact hst);rw[← hre] at hend2;clear hre;obtain⟨r4,k4⟩:=r3.putMap (w':=w2.putObj (w.heap.size+1) (.loop re)) hL2 hg' hfl2 hob2 (es':=qZ re' ts') (.inr (.inr ⟨_,_,_,rfl,rfl,hlre,hts4⟩)) (by rw[hLc];rfl) ⟨rfl,rfl⟩
 have r5:Rel σ0 ρ2 (BM B [w.heap.size]) (h2'.put h.sz .dead) (w2.putObj (w.heap.size+1) (.loop re)):=by
  refine r4.sub rfl rfl fun b x hx hd=>?_
  simp only[Hp.put,Tr.get_set] at hx ⊢;split at hx
  ·cases hx;exact absurd rfl hd
  ·rename_i hne;rw[if_neg hne];exact hx
 have hD1:W1.heap[w.heap.size]?=some (.deferred (some [])):=by
  show ((w.alloc (.deferred (some []))).heap.push _)[w.heap.size]?=_;rw[Array.getElem?_push,if_neg (by rw[hl];omega)];exact hD
 have hD2:(w2.putObj (w.heap.size+1) (.loop re)).heap[w.heap.size]?=some (.deferred (some [])):=by
  rw[World.putObj_heap_other (by omega),k3.pres _ (.inr (by simp))];exact hD1
 have k0:Kep n ρ B h w ρ h (w.alloc (.deferred (some []))):=⟨fun _ _=>rfl,hn,rfl,fun _ _ _=>rfl,fun k hk=>hold k (r.base k hk),by simp,⟨rfl,rfl⟩,fun _ _ h=>h,fun _ _ h=>.inl h,fun _ _ h=>h⟩
 have hn2:n<=(h.push (.map (qZ R ts))).sz:=Nat.le_trans hn (Nat.le_succ _);have hn3:n<=h2'.sz:=Nat.le_trans hn2 k3.szle
 have k5:Kep n ρ2 (BM B [w.heap.size]) h2' w2 ρ2 (h2'.put h.sz .dead) (w2.putObj (w.heap.size+1) (.loop re)) :=
  ⟨fun _ _=>rfl,hn3,rfl,fun b hb _=>by simp only[Hp.put,Tr.get_set];rw[if_neg (by omega)],k4.pres,k4.wle,k4.io,fun _ _ h=>h,fun _ _ h=>.inl h,fun _ _ h=>h⟩
 have kk:Kep n ρ B h w ρ2 (h2'.put h.sz .dead) (w2.putObj (w.heap.size+1) (.loop re)):=((k0.trans (k2.kep hn).bm).trans (k3.kep hn2).bm).trans k5.bm
 have fin:∀(x:X) (e:Exit),XR x e->Q x t (h2'.put h.sz .dead)->jO σ0 Q nt n ρ B h w a.defers e { a with defers:=[{ target:=.collected w.heap.size,args:=#[] }]++a.defers } (w2.putObj (w.heap.size+1) (.loop re)):=fun x e hx hq =>
  ⟨x,t,_,ρ2,[w.heap.size],hx,hq,ht.mono (Ren.le_trans hle2 (k3.mono r2.dom)),hsz,rfl,⟨by simp,fun q hq=>by rw[List.mem_singleton] at hq;omega,fun q hq=>by rw[List.mem_singleton] at hq;subst hq;exact hD2⟩,r5,kk⟩
 refine⟨q2.pending,_,hend2,?_⟩;clear hend2;rw[hlk2.pending];generalize r'.pending=pd at hmt ⊢;cases pd with
 | none=>exact fin .normal _ .normal hmt
 | some c =>
  cases c<;>first|exact hmt.elim|skip
  ·exact wpIn_exit (fin _ _ (.exit _) hmt)
  ·exact wpIn_ret (fin _ _ .ret hmt)
theorem S.rangeF{j:Nat}{g:O}{ps:List Nat}{ai bi:ICode}{Q:X->Tr AV->Hp->Prop}{ts:List (Nat×AV)}{bl:List Blk}(_:bl.all yI=true)(hnd:(ts.map Prod.fst).Nodup)(hnr:jx ai=true∧jx bi=true)(hk:evK (mkT ts) g (rfK P ps ai bi Q (mkT ts) ts (mkH 0 bl))):S P n (.rangeF j g ps ai bi) Q (mkT ts) (mkH 0 bl):=by
 refine S.rangeFL (ts:=ts) (Nat.zero_le _) (fun p hp=>qe1 hnd hp) hnr ?_
 obtain⟨v,h1,h2⟩:=ql (mkT ts) g _ hk;refine h2 _ ?_;cases v<;>try exact h1.elim
 obtain⟨hc,hh⟩:=h1;exact⟨hc,fun r0 a b hlo=>⟨r0,.inl ⟨rfl,hlo.real⟩,hh r0 a b hlo⟩⟩
end Go.Kc
end
section
namespace Go.Kc
variable [Cur]
variable {P:Program} {h:Hp}
inductive Gvs (h:Hp):List AV->List AV->Prop where
 | nil:Gvs h [] []
 | keep (v:AV) (vs vs':List AV) (h1:Gvs h vs vs'):Gvs h (v::vs) (v::vs')
 | fz (v v':AV) (vs vs':List AV) (hf:Frz h v v') (h1:Gvs h vs vs'):Gvs h (v::vs) (v'::vs')
 | fn (f:Nat) (a c c':List AV) (vs vs':List AV) (hc:Gvs h c c') (h1:Gvs h vs vs'):Gvs h (.fn f a c::vs) (.fn f a c'::vs')
theorem Gvs.ok{ρ:Ren}{B:Nat->Prop}{w:World}(hle:ρ.le ⟨ρ.loc,zM ρ h w,ρ.n⟩)(r:Rel σ0 ρ B h w):∀{vs vs':List AV} {xs:List Value},Gvs h vs vs'->VRs σ0 ρ vs xs->VRs σ0 ⟨ρ.loc,zM ρ h w,ρ.n⟩ vs' xs
 | _,_,_,.nil,hv=>by cases hv;exact .nil
 | _,_,_,.keep _ _ _ h1,hv=>by
  cases hv with
  | cons _ _ _ _ a1 a2=>exact .cons _ _ _ _ (a1.mono hle) (Gvs.ok hle r h1 a2)
 | _,_,_,.fz _ _ _ _ hf h1,hv=>by
  cases hv with
  | cons _ _ _ _ a1 a2=>exact .cons _ _ _ _ (CR.vr (ρ:=⟨ρ.loc,zM ρ h w,ρ.n⟩) (hf.ok r a1)) (Gvs.ok hle r h1 a2)
 | _,_,_,.fn f a c c' _ _ hc h1,hv=>by
  cases hv with
  | cons _ _ _ _ a1 a2 =>
   obtain⟨a',c'',q1,q2,q3⟩:=a1.un_fn;subst q3;exact .cons _ _ _ _ (.fn _ _ _ _ _ (q1.mono hle) (Gvs.ok hle r hc q2)) (Gvs.ok hle r h1 a2)
theorem SC.give{f:Nat}{vs vs':List AV}{k:AV->Hp->Prop}(DB:List (Nat×Blk))(hg:∀p ∈ DB,h.tr.get p.1=some p.2∧h.fl<=p.1)(hf:Gvs ⟨h.sz,h.fl,trP DB⟩ vs vs')(hk:SC P f vs' (kg h DB) k):SC P f vs h k:=by
 refine⟨hk.1,fun ρ B w args r ha=>?_⟩
 have r0:Rel σ0 ρ B ⟨h.sz,h.fl,trP DB⟩ w:=r.sub rfl rfl (fun b x hx _=>(hg _ (Zx hx)).1)
 have le:ρ.le ⟨ρ.loc,zM ρ ⟨h.sz,h.fl,trP DB⟩ w,ρ.n⟩:=⟨fun _ _ h=>h,fun _ _ h=>xn h,Nat.le_refl _⟩
 have hcr:=hf.ok le r0 ha
 have fnew:∀kk a,zM ρ ⟨h.sz,h.fl,trP DB⟩ w kk=some a->ρ.frz kk=some a∨((∃ty fz,w.heap[kk]?=some (.cells a ty fz))∧∃b L e af cs,b ∈ DB.map Prod.fst∧ρ b=some L∧h.tr.get b=some (.cells e true af cs)∧L.blk=kk∧h.fl<=b):=by
  intro kk a hkk;rcases wM hkk with h1|⟨h1,b,L,e,af,cs,h2,h3,h4⟩
  ·exact .inl h1
  ·have hm:=Zx h3;exact .inr ⟨h1,b,L,e,af,cs,List.mem_map_of_mem (f:=Prod.fst) hm,h2,(hg _ hm).1,h4,(hg _ hm).2⟩
 have yI:∀b x,(kg h DB).tr.get b=some x->x≠.dead->b ∉ DB.map Prod.fst∧h.tr.get b=some x:=by
  intro b x hx hd;rw[yG] at hx;split at hx
  ·cases hx;exact absurd rfl hd
  ·exact⟨by assumption,hx⟩
 have r1:Rel σ0 ⟨ρ.loc,zM ρ ⟨h.sz,h.fl,trP DB⟩ w,ρ.n⟩ B (kg h DB) w:=by
  have rs:Rel σ0 ρ B (kg h DB) w:=r.sub Zn Zm (fun b x hx hd=>(yI b x hx hd).2)
  refine⟨rs.dom,fun b L e wf af cs hb hx=>?_,fun b L es hb hx=>?_,rs.excl,rs.exclm,rs.app,rs.flr,rs.base,fun kk arr hkk=>?_,rs.dn⟩
  ·obtain⟨q1,c,ty,fz,q2,q3,q4,q5,q6⟩:=rs.cells b L e wf af cs hb hx;exact⟨q1,c,ty,fz,q2,q3,q4,fun j v hv=>let ⟨v',k1,k2⟩:=q5 j v hv;⟨v',k1,k2.mono le⟩,q6⟩
  ·obtain⟨q1,o,q2,q3⟩:=rs.maps b L es hb hx;exact⟨q1,o,q2,q3.mono le⟩
  ·rcases fnew kk arr hkk with h1|⟨h1,b,L,e,af,cs,h2,h3,h4,h5,_⟩
   ·exact rs.frz kk arr h1
   ·refine⟨h1,fun b' L' x hb' hx hd he=>?_⟩
    obtain⟨g1,g2⟩:=yI b' x hx hd;have:=r.excl b L e af cs h3 h4 b' L' x hb' g2 hd (by rw[he,h5]);subst this;exact g1 h2
 have k0:Kept ρ B h w ⟨ρ.loc,zM ρ ⟨h.sz,h.fl,trP DB⟩ w,ρ.n⟩ (kg h DB) w:=by
  refine⟨fun _ _=>rfl,by rw[Zn];exact Nat.le_refl _,Zm,fun b hb _=>?_,fun _ _=>rfl,Nat.le_refl _,⟨rfl,rfl⟩,fun k a hk=>xn hk,fun k a hk=>?_,Nat.le_refl _⟩
  ·rw[yG,if_neg];intro hm;obtain⟨p,hp1,hp2⟩:=List.mem_map.1 hm;have:=(hg p hp1).2;omega
  ·rcases fnew k a hk with h2|⟨_,b,L,_,_,_,_,h3,_,h5,h6⟩
   ·exact .inl h2
   ·right;rw[← h5];exact r.flr b L h3 h6
 refine jA.mono (hk.2 _ B w args r1 hcr) ?_;rintro e w' ⟨v0,v',h',ρ',he,g1,g2,g3,g4⟩;exact⟨v0,v',h',ρ',he,g1,g2,g3,k0.trans g4⟩
theorem PC.give{f:Nat}{vs vs':List AV}{k:AV->Hp->Prop}(DB:List (Nat×Blk))(hg:∀p ∈ DB,h.tr.get p.1=some p.2∧h.fl<=p.1)(hf:Gvs ⟨h.sz,h.fl,trP DB⟩ vs vs')(hk:PC P f vs' (kg h DB) k):PC P f vs h k:=by
 obtain⟨v,h',h1,h2⟩:=hk;exact⟨v,h',fun k' hk'=>SC.give DB hg hf (h1 k' hk'),h2⟩
theorem Upd.pc{f:Nat}{vs:List AV}{bs bs2:List Blk}{v:AV}{k:AV->Hp->Prop}(at':List Nat)(hu:Upd P f vs bs v bs2)(l:Lent h at' bs)(hk:k (rnv (gAt at' h.sz) v) (wg h at' bs2)):PC P f (xT (gAt at' h.sz) vs) h k :=
 ⟨_,_,fun _ h'=>hu.sc at' l h',hk⟩
end Go.Kc
end
section
namespace Go.Kc
variable [Cur]
variable {P:Program} {h:Hp} {t:Tr AV}
def qlW(m:Nat)(v:AV)(bs2:List Blk)(v':AV)(h':Hp):Prop:=h'.fl=0->∃src:List Nat,NV (rl src h'.sz) bs2.length v' v∧BWs h' (rl src h'.sz) bs2.length src bs2∧(List.map Prod.fst (List.filter (fun p=>decide (p.fst<h'.sz)&&yI p.snd) (src.zip bs2))).Nodup∧∀b,b<m->rl src h'.sz b=b
theorem qlW.w{m:Nat}{v:AV}{bs2:List Blk}{v':AV}{h':Hp}(hz:qlW m v bs2 v' h')(hle:m<=bs2.length):qjb m v bs2 v' h':=by
 intro hfl;obtain⟨src,s1,s2,s3,s4⟩:=hz hfl;exact Wk.mkd [(0,v)] bs2 src ⟨⟨v',by simp[mkT,Tr.get_set],s1⟩,trivial⟩ s2 s3 hfl hle s4
theorem Upd.mkd{f:Nat}{i:IFn}{vs:List AV}{v:AV}{bs bs2:List Blk}(hc:qh P f i=true)(hb:xo bs.length vs=true)(hl:bs.length<=bs2.length)(hV:V P bs.length i.body (jd i.res (qlW bs.length v bs2)) (xz vs 0 .leaf) (mkH 0 bs)):Upd P f vs bs v bs2 :=
 ⟨hb,hl,(SC.mk hc (qr hV)).mono fun _ _ hz=>hz.w hl⟩
end Go.Kc
end
section
namespace Go.Kc
variable [Cur]

variable {P:Program} {H:Type} {enc:TypeId×Value->H} {w:World} {t e:TypeId} {α:Type}
omit [Cur] in
theorem qlH{n m:Nat}{I:α->Prop}{E:α->List AV}(ht:P.underlying t=some (.array n e))(he:kH enc P w e I E)(hc:P.cellsOf e=m)(hct:P.cellsOf t=n*m) :
  kH enc P w t (fun l:List α=>l.length=n∧∀a ∈ l,I a) (fun l=>l.flatMap E):=by
 intro fuel cs x hx;obtain⟨xs,k,_,_,hl,hxs,hf⟩:=DataW.trod_array ht hx
 have go:∀j,j<=n->∃l:List α,(l.length=j∧∀a ∈ l,I a)∧CRs σ0 (qfW w) (l.flatMap E) (cs.take (j*m)):=by
  intro j
  induction j with
  | zero=>intro _;exact⟨[],⟨rfl,fun _ h=>by cases h⟩,by simpa using CRs.nil⟩
  | succ j ih =>
   intro hj;obtain⟨l,⟨h1,h2⟩,h3⟩:=ih (by omega);have h4:=hf j (by omega);have hlt:j<xs.length:=by omega
   rw[zzE hlt,hc] at h4;obtain⟨a,ha,h5⟩:=he _ _ _ h4;refine⟨l++[a],⟨by simp[h1],fun b hb=>?_⟩,?_⟩
   ·rcases List.mem_append.1 hb with hb|hb
    ·exact h2 b hb
    ·rw[List.mem_singleton.1 hb];exact ha
   ·rw[List.flatMap_append,Nat.succ_mul,List.take_add];refine h3.app ?_;simpa using h5
 obtain⟨l,h1,h2⟩:=go n (Nat.le_refl _);rw[List.take_of_length_le (by omega)] at h2;exact⟨l,h1,h2⟩
end Go.Kc
end
section
namespace Go.Kc
variable [Cur]
variable {P:Program}

def qhS:Op->Bool
 | .call c=>(match c.callee with | .builtin .recover=>true|_=>false)&&c.args.isEmpty
 | _=>false
def qhN(n:Nat):Op->Bool
 | .assign (.tmp m)=>m==n
 | _=>false
def qhQ(n:Nat):Op->Bool
 | .move (.tmp m)=>m==n
 | _=>false
def qm7(P:Program)(n:Nat):Op->Bool
 | .binOp .neq ty (.tmp m) y _=>m==n&&vz .iface y&&qf9 P .iface ty
 | _=>false
def qdf(o:Oper):Bool:=o.guard.isNone
def qiI(P:Program)(nt:Nat)(p q r s:Oper)(c:Nat):Bool :=
 qdf p&&qdf q&&qdf r&&qdf s&&match p.dst,q.dst,r.dst,s.dst with
  | some a,some b,some e,some c'=>Nat.blt a nt&&Nat.blt b nt&&Nat.blt e nt&&Nat.blt c nt&&c'==c&&qhS p.op&&qhN a q.op&&qhQ b r.op&&qm7 P e s.op
  | _,_,_,_=>false
def qiH(P:Program)(nt:Nat):Code->Bool
 | .seq (.region _ o1 false) (.seq (.region _ o2 false) (.cond (.tmp c) _ .skip))=>(match o1.toList,o2.toList with
  | [p,q],[r,s]=>qiI P nt p q r s c
  | _,_=>false)
 | _=>false
def k7(P:Program)(f:Nat):Bool :=
 match P.funcs[f]? with
 | some fn=>fn.name != "runtime.NumGoroutine" && fn.results.isEmpty&&(match fn.body with|some c=>qiH P fn.ntmps c|none=>false)
 | none=>false
omit [Cur] in
theorem qak{a:Act}{n:Nat}(h:n<a.tmps.size)(v:Value):(a.put (some n) v).eval (.tmp n)=v:=by
 simp[Act.put,Act.eval,Array.getD,h]
omit [Cur] in
theorem qdF{a:Act}{o:Oper}(h:qhS o.op=true)(w:World):(execOp a.eval o).run P w = .ok .recover w:=by
 unfold qhS at h;split at h
 ·rename_i c hc;simp only[Bool.and_eq_true] at h;obtain⟨h1,h2⟩:=h;split at h1<;>try (cases h1;done)
  rename_i hb;simp[execOp,hc,resolve,hb,invoke,builtin]
 ·cases h
omit [Cur] in
theorem qhO{n:Nat}{o:Op}(h:qhN n o=true):o = .assign (.tmp n):=by
 unfold qhN at h;split at h
 ·rw[eq_of_beq h]
 ·cases h
omit [Cur] in
theorem qhR{n:Nat}{o:Op}(h:qhQ n o=true):o = .move (.tmp n):=by
 unfold qhQ at h;split at h
 ·rw[eq_of_beq h]
 ·cases h
omit [Cur] in
theorem qnx(ρ:Ren){n:Nat}{a:Act}{o:Oper}(h:qm7 P n o.op=true)(hv:a.eval (.tmp n) = .nilIface)(w:World):(execOp a.eval o).run P w = .ok (.value (.bool false)) w:=by
 unfold qm7 at h;split at h
 ·rename_i ty m y uy ho;simp only[Bool.and_eq_true] at h;obtain⟨⟨h1,h2⟩,h3⟩:=h;obtain rfl:=eq_of_beq h1;have hx:VR σ0 ρ .nili (a.eval (.tmp m)):=by rw[hv];exact .nili
  obtain⟨c,z,g1,rfl,g2,g3,g4,g5,g6,g7⟩:=qaR (P:=P) (k:=fun c=>c=true) hx (show zN .iface .nili (fun c=>c=true) from rfl) h3 h2 w
  subst g1
  have hg:(eqGuard .neq ty (.tmp m) (.const z) (a.eval (.tmp m)) z).run P w = .ok () w:=by
   rw[hv];cases z<;>simp[eqGuard]
  refine yZ ho hg ?_;show (binOp .neq ty (a.eval (.tmp m)) z).run P w=_;rw[g6 .neq (.inr rfl)];have g2':(Op.equal ty (a.eval (.tmp m)) z).run P w = .ok true w:=g2;simp[g2']
 ·cases h
omit [Cur] in
theorem w9{o:Oper}(h:qdf o=true)(y:Nat->Option Bool):Region.wanted o y=true:=by
 unfold qdf at h;cases hg:o.guard with
 | none=>simp[Region.wanted,hg]
 | some _=>rw[hg] at h;cases h
omit [Cur] in
theorem qb7{a b:Nat}(h:Nat.blt a b=true):a<b:=by simpa using h
omit [Cur] in
theorem qdE(ρ:Ren){fd:Nat}(hc:k7 P fd=true)(args:Array Value)(w:World):CallsDIn (Fr none) 0 P fd args .returning w (fun e u' w'=>e = .returned (.tuple #[])∧u' = .returning∧w'=w):=by
 unfold k7 at hc;split at hc<;>try (cases hc;done)
 rename_i fn hfn;simp only[Bool.and_eq_true] at hc;obtain⟨⟨_,hres⟩,hbody⟩:=hc;split at hbody<;>try (cases hbody;done)
 rename_i c hcb;unfold qiH at hbody;split at hbody<;>try (cases hbody;done)
 rename_i i1 o1 i2 o2 c thn;split at hbody<;>try (cases hbody;done)
 rename_i p q r s hl1 hl2;unfold qiI at hbody;simp only[Bool.and_eq_true] at hbody;obtain⟨⟨⟨⟨f1,f2⟩,f3⟩,f4⟩,hb⟩:=hbody;split at hb<;>try (cases hb;done)
 rename_i a b e c' e1 e2 e3 e4;simp only[Bool.and_eq_true] at hb;obtain⟨⟨⟨⟨⟨⟨⟨⟨b1,b2⟩,b3⟩,b4⟩,b5⟩,b6⟩,b7⟩,b8⟩,b9⟩:=hb;have b1:=qb7 b1;have b2:=qb7 b2;have b3:=qb7 b3;have b4:=qb7 b4;obtain rfl:=eq_of_beq b5;have b7:=qhO b7;have b8:=qhR b8;have s1:o1 = #[p,q]:=by rw[← Array.toList_inj];exact hl1
 have s2:o2 = #[r,s]:=by rw[← Array.toList_inj];exact hl2
 subst s1 s2;refine callsDIn_of_wpSIn hfn hcb trivial fun c₀ cs hmode=>?_
 have hsz:fn.ntmps<=(args++Array.replicate (fn.ntmps-args.size) undef).size:=by simp;omega
 generalize hA:({ tmps:=args++Array.replicate (fn.ntmps-args.size) undef,defers:=[] }:Act)=A;have hsA:fn.ntmps<=A.tmps.size:=by rw[← hA];exact hsz
 have hdA:A.defers=[]:=by rw[← hA]
 have hrec:recoverD (c₀::cs)=none:=by simp[recoverD,hmode]
 have r1:=qdF (P:=P) (a:=A) b6 w;have m1:∀(x:Act),(execOp x.eval q).run P w = .ok (.value (x.eval (.tmp a))) w:=fun x=>by simp[execOp,b7]
 have m2:∀(x:Act),(execOp x.eval r).run P w = .ok (.value (x.eval (.tmp b))) w:=fun x=>by simp[execOp,b8]
 refine wpSIn_seq (wpSIn_region ?_);have hA1:(A.put (some a) .nilIface).eval (.tmp a) = .nilIface:=qak (by omega) _;generalize hB:A.put (some a) .nilIface=A1 at hA1;have z1:A1.tmps.size=A.tmps.size:=by rw[← hB,xk]
 have hA2:(A1.put (some b) .nilIface).eval (.tmp b) = .nilIface:=qak (by omega) _;generalize hC:A1.put (some b) .nilIface=A2 at hA2;have z2:A2.tmps.size=A.tmps.size:=by rw[← hC,xk,z1]
 have hA3:(A2.put (some e) .nilIface).eval (.tmp e) = .nilIface:=qak (by omega) _;generalize hD:A2.put (some e) .nilIface=A3 at hA3;have z3:A3.tmps.size=A.tmps.size:=by rw[← hD,xk,z2]
 have hA4:(A3.put (some c') (.bool false)).eval (.tmp c') = .bool false:=qak (by omega) _;generalize hE:A3.put (some c') (.bool false)=A4 at hA4;have d4:A4.defers=[]:=by rw[← hE,xe,← hD,xe,← hC,xe,← hB,xe,hdA]
 have m3:=qnx (P:=P) ρ b9 hA3 w;have l2:List.range (#[p,q]:Array Oper).size=[0,1]:=rfl;have l3:List.range (#[r,s]:Array Oper).size=[0,1]:=rfl;have g0:(#[p,q]:Array Oper)[0]?=some p:=rfl;have g1:(#[p,q]:Array Oper)[1]?=some q:=rfl;have g2:(#[r,s]:Array Oper)[0]?=some r:=rfl;have g3:(#[r,s]:Array Oper)[1]?=some s:=rfl;rw[l2];simp only[wpOpsSIn,g0,g1,w9 f1,w9 f2,if_true,r1,hrec,e1,hB,m1,hA1,e2,hC];refine⟨fun _ _=>trivial,fun _ _=>trivial,?_⟩
 refine wpSIn_seq (wpSIn_region ?_);rw[l3];simp only[wpOpsSIn,g2,g3,w9 f3,w9 f4,if_true,m2,hA2,e3,hD,m3,e4,hE];refine⟨fun _ _=>trivial,fun _ _=>trivial,?_⟩
 refine wpSIn_cond hA4 (wpSIn_of_wpIn rfl (wpIn_skip ?_));refine⟨d4,.returning,?_,.tuple #[],?_,rfl,rfl,rfl⟩
 ·cases c₀;cases hmode;rfl
 ·have:fn.results = #[]:=by simpa using hres
  rw[qbd,this];simp

def qhP(n:Nat):Op->Bool
 | .defer c=>(match c.callee with | .value (.tmp m)=>m==n|_=>false)&&c.args.isEmpty
 | _=>false
omit [Cur] in
theorem qbI{n fd:Nat}{a:Act}{o:Oper}{cap:Array Value}(h:qhP n o.op=true)(hv:a.eval (.tmp n) = .func (.func fd) #[] cap)(w:World):(execOp a.eval o).run P w = .ok (.defer { target:=.fn (.func fd) cap,args:=#[] }) w:=by
 unfold qhP at h;split at h
 ·rename_i c hc;simp only[Bool.and_eq_true] at h;obtain⟨h1,h2⟩:=h;split at h1<;>try (cases h1;done)
  rename_i m hb;obtain rfl:=eq_of_beq h1;have h2:c.args = #[]:=by simpa using h2
  simp[execOp,hc,resolve,hb,hv,h2,Deferred.ofValue]
 ·cases h
def wJ(P:Program)(f fd:Nat)(i:IFn):Bool :=
 k7 P fd&&match i.body with
 | .seq (.reg false rsA) (.seq (.reg false rsB) (.seq (.reg false (r0::_)) y))=>(match P.funcs[f]? with
  | some fn=>fn.name != "runtime.NumGoroutine" && (match fn.body with
   | some (.seq (.region _ oA false) (.seq (.region _ oB false) (.seq (.region _ oD false) c)))=>wK P oA fn.ntmps oA.toList rsA&&wK P oB fn.ntmps oB.toList rsB&&(match oD.toList,r0.dst with
    | [o0,o1],some d=>qc1 P oD fn.ntmps o0 r0&&r0.guard.isNone&&qdf o0&&qdf o1&&qhP d o1.op&&o1.dst.isNone
    | _,_=>false)&&qw P fn.ntmps c y
   | _=>false)&&jC P fn.results.toList i.res
  | none=>false)
 | _=>false
def qag(fd:Nat)(r0:ROp)(t:Tr AV):Prop:=∃d cs,r0.dst=some d∧t.get d=some (.fn fd [] cs)
def VDf(P:Program)(n fd:Nat):ICode->(X->Tr AV->Hp->Prop)->Tr AV->Hp->Prop
 | .seq (.reg _ rsA) (.seq (.reg _ rsB) (.seq (.reg _ (r0::_)) y)),Q,t,h=>VG P rsA (fun t h=>VG P rsB (fun t h=>VG P [r0] (fun t h=>qag fd r0 t∧V P n y Q t h) t h) t h) t h
 | _,_,_,_=>False
theorem QR{fn:Func}{tm:Array Value}{ρ ρ':Ren}{B:Nat->Prop}{h h':Hp}{w:World}{R:Ending->World->Prop}{ds:List Deferred}(hT:∀w',Rel σ0 ρ' B h' w'->Kept ρ B h w ρ' h' w'->LeavesInM (Fr none) 0 P fn tm R ds .returning w') :
  ∀(rs:List Nat) {w':World},(∀r ∈ rs,w'.heap[r]?=some (.deferred (some [])))->rs.Nodup->(∀r ∈ rs,¬B r)->Rel σ0 ρ' B h' w'->Kept ρ B h w ρ' h' w'->LeavesInM (Fr none) 0 P fn tm R (Z6 rs++ds) .returning w'
 | [],w',_,_,_,hr',hk=>hT w' hr' hk
 | r::rs,w',hm,hn,hB,hr',hk=>by
  have h1:=hm r (by simp);refine⟨by simp,.inl ⟨r,w'.putObj r (.deferred none),rfl,run_takeDeferred h1,?_⟩⟩
  have hn2:=List.nodup_cons.1 hn;refine QR hT rs (fun r' hr2=>?_) hn2.2 (fun r' hr2=>hB r' (by simp[hr2])) (hr'.shut h1 _) ?_
  ·rw[World.putObj_heap_other (by rintro rfl;exact hn2.1 hr2)];exact hm r' (by simp[hr2])
  ·exact⟨hk.ext,hk.szle,hk.fl,hk.akeep,fun k hb=>by rw[World.putObj_heap_other (by rintro rfl;exact hB _ (by simp) hb)];exact hk.pres k hb,by simpa using hk.wle,hk.io,hk.frz,hk.fnew,hk.nle⟩
theorem SC.mkD{f fd:Nat}{i:IFn}{vs:List AV}{h:Hp}{k:AV->Hp->Prop}(hc:wJ P f fd i=true)(hV:VDf P h.sz fd i.body (jd i.res k) (xz vs 0 .leaf) h):SC P f vs h k:=by
 unfold wJ at hc;simp only[Bool.and_eq_true] at hc;obtain⟨hquiet,hc⟩:=hc;split at hc<;>try (cases hc;done)
 rename_i rsA rsB r0 rest y hbody;rw[hbody] at hV;split at hc<;>try (cases hc;done)
 rename_i fn hfn;simp only[Bool.and_eq_true,bne_iff_ne] at hc;obtain⟨⟨hname,hc⟩,hres⟩:=hc;split at hc<;>try (cases hc;done)
 rename_i iA oA iB oB iD oD c hcb;simp only[Bool.and_eq_true] at hc;obtain⟨⟨⟨hA,hB⟩,hD⟩,hcode⟩:=hc;split at hD<;>try (cases hD;done)
 rename_i o0 o1 d hl hd0;simp only[Bool.and_eq_true] at hD;obtain⟨⟨⟨⟨⟨hr0,hg0⟩,hf0⟩,hf1⟩,hdef⟩,hdst⟩:=hD;have sD:oD = #[o0,o1]:=by rw[← Array.toList_inj];exact hl
 subst sD;have hdst:o1.dst=none:=by simpa using hdst
 refine⟨trivial,fun ρ B w args r ha=>.inl ⟨⟨fn,hfn,hname,by rw[hcb];rfl⟩,?_⟩⟩
 have r00:=r
 have ht:TR σ0 ρ (xz vs 0 .leaf) (args++Array.replicate (fn.ntmps-args.size) undef):=by
  intro j v hv;rcases yS _ _ _ _ _ hv with⟨_,h3⟩|h3
  ·simp only[Nat.sub_zero] at h3;obtain⟨v',h4,h5⟩:=ha.get h3
   have hn:j<args.size:=by
    have:=(zzS.1 h4).1;simpa using this
   refine⟨by simp;omega,?_⟩
   have:(args++Array.replicate (fn.ntmps-args.size) undef).getD j undef=v':=by
    rw[Array.getD_eq_getD_getElem?,Array.getElem?_append_left hn];rw[Array.getElem?_toList] at h4;rw[h4];rfl
   rw[this];exact h5
  ·simp at h3
 have hsize:fn.ntmps<=(args++Array.replicate (fn.ntmps-args.size) undef).size:=by simp;omega
 refine (callsIn_wide (n:=0)).1 (callsIn_of_wp_marks hfn hcb trivial ?_ rfl);refine wpIn_seq (wpIn_region ?_);have hreg:=fun K hK=>yO (ops:=oA) (nt:=fn.ntmps) (ro:=none) (K:=K) (ρ0:=ρ) (h0:=h) (w0:=w) (ds:=[]) (jL P) (v7 P) hK oA.toList rsA 0 hA rfl _ h ρ w { tmps:=args++Array.replicate (fn.ntmps-args.size) undef,defers:=[] } hV ht hsize rfl r (Kept.refl _ _ _ _)
 rw[List.range_eq_range'];refine hreg _ ?_;intro a0 w0 t0 h0 ρ0 hq0 ht0 hs0 hd0' r0' k0';refine wpIn_seq (wpIn_region ?_);have hreg2:=fun K hK=>yO (ops:=oB) (nt:=fn.ntmps) (ro:=none) (K:=K) (ρ0:=ρ) (h0:=h) (w0:=w) (ds:=[]) (jL P) (v7 P) hK oB.toList rsB 0 hB rfl _ h0 ρ0 w0 a0 hq0 ht0 hs0 hd0' r0' k0'
 rw[List.range_eq_range'];refine hreg2 _ ?_;intro a1 w1 t1 h1 ρ1 hq1 ht1 hs1 hd1 r1 k1;refine wpIn_seq (wpIn_region ?_);have l2:List.range (#[o0,o1]:Array Oper).size=[0,1]:=rfl;have g0:(#[o0,o1]:Array Oper)[0]?=some o0:=rfl;have g1:(#[o0,o1]:Array Oper)[1]?=some o1:=rfl;rw[l2];simp only[wpOpsIn,g0,w9 hf0,if_true];obtain⟨dst,rk,g⟩:=r0;simp only[qc1,Bool.and_eq_true] at hr0;obtain⟨⟨hc1,hc2⟩,hc3⟩:=hr0;have hgn:g=none:=by simpa using hg0
 subst hgn;refine qeq (draw:=false) (jL P) (v7 P) r1 ht1 hc3 hq1 _ _ ?_;intro v v' h2 ρ2 w2 p1 p2 r2 k2;obtain⟨t2,q1,ht2⟩:=(ht1.mono (k2.mono r1.dom)).put hs1 hc1 p2 p1;obtain⟨⟨d',cs,q3,q4⟩,q2⟩:=q1;rw[hd0] at q3;cases q3;obtain⟨z1,z2⟩:=ht2 d _ q4;obtain⟨a',c',z3,z4,z5⟩:=z2.un_fn
 have ha':a' = #[]:=by
  generalize hL:a'.toList=L at z3;cases z3;rw[← Array.toList_inj,hL]
 subst ha';generalize hA1:a1.put o0.dst v'=A1 at ht2 z1 z5;have hsA:fn.ntmps<=A1.tmps.size:=by rw[← hA1,xk];exact hs1
 have hdA:A1.defers=[]:=by rw[← hA1,xe];exact hd1
 have hev:A1.eval (.tmp d) = .func (.func fd) #[] c':=z5;change (if Region.wanted o1 (yielded #[o0,o1] A1.tmps)=true then o1.wpIn (Fr none) 0 P A1 w2 _ _ else _)
 rw[if_pos (w9 hf1 _)];refine⟨fun _ _=>trivial,?_⟩
 have hsem:(o1.semAt (Fr none).round A1.eval).run P w2 = .ok (.defer { target:=.fn (.func fd) c',args:=#[] }) w2:=qbI hdef hev w2;rw[hsem,Oper.uponIn_defer,hdst];have hle:h.sz<=h2.sz:=Nat.le_trans k1.szle k2.szle;have hw:=qr q2 fn.ntmps c hcode hle none (.inl rfl) ρ2 B w2 { A1 with defers:={ target:=.fn (.func fd) c',args:=#[] }::A1.defers } ht2 hsA r2;refine wpIn_mono hw ?_;rintro e a w' ⟨x,t',h',ρ',rs,hx,hq,ht',_,hd,hm,hr',hkept⟩;have hkk:Kep h.sz ρ B h w ρ' h' w':=((k1.trans k2).kep (Nat.le_refl _)).trans hkept;have hww:w.heap.size<=w2.heap.size:=(k1.trans k2).wle
 have hcod:(callFunc fd (#[]++c')).run P=fun w=>.ok (.enter fd (#[]++c')) w:=by
  funext w;have hq:=hquiet;unfold k7 at hq;split at hq<;>try (cases hq;done)
  rename_i fn' hfn';simp only[Bool.and_eq_true,bne_iff_ne] at hq;obtain⟨⟨q5,_⟩,q6⟩:=hq;split at q6<;>try (cases q6;done)
  rename_i cc hcc;exact ja hfn' q5 (by rw[hcc];rfl) _ w
 have key:∀(k':AV->Hp->Prop),xS t' h' i.res (fun vs=>k' (xw vs) h')->LeavesInM (Fr none) 0 P fn a.tmps (fun e w'=>∃v v' h' ρ',e = .returned v'∧k' v h'∧VR σ0 ρ' v v'∧Rel σ0 ρ' B h' w'∧Kept ρ B h w ρ' h' w') a.defers .returning w':=by
  intro k' hq';rw[hd,hdA];have hB:Rel σ0 ρ' B h' w':=hr'.lessB fun k hk=>.inl hk
  refine QR ?_ rs (fun r hr=>hm.at' r hr) hm.nodup (fun r hr hb=>absurd (r00.base r hb) (Nat.not_lt.2 (Nat.le_trans hww (hm.new r hr)))) hB (hkk.kept r00.dn.1)
  intro w3 hr3 hk3;refine⟨by simp,.inr ⟨fun hh=>(by cases hh),.func fd,c',fd,#[]++c',rfl,?_,fun _ _=>trivial,?_⟩⟩
  ·show (callFunc fd (#[]++c')).run P w3=_;rw[hcod]
  ·refine (qdE ρ hquiet (#[]++c') w3).mono ?_;rintro e u' w4 ⟨rfl,rfl,rfl⟩;obtain⟨v,v',e1,e2,e3⟩:=Q0 hr3 ht' hres hq';exact⟨v',e3,v,v',h',ρ',rfl,e1,e2,hr3,hk3⟩
 cases hx with
 | exit id=>exact hq.elim
 | normal=>exact key k hq
 | ret=>exact key k hq
end Go.Kc
end
section
namespace Go.Kc
variable [Cur]
theorem Wk.trunc{n:Nat}{ts:List (Nat×AV)}{bl:List Blk}(j b k e:Nat){cs:List AV}(hj:(mkT ts).get j=some (.sl b 0 0 k true))(hb:bl[b]?=some (.cells e true true cs))(hl:k*e<=cs.length)(hk:1<=k)(hn:n<=bl.length) :
  Wk n (mkT ts) (mkH 0 bl) (mkT ((j,.own b 0)::ts)) (mkH 0 (bl.set b (.cells e true true []))):=by
 intro ρ B w tm ht r;have hlt:b<bl.length:=(zzS.1 hb).1;have hgb:(mkH 0 bl).tr.get b=some (.cells e true true cs):=by rw[zZ];exact hb
 have hsz:(mkH 0 (bl.set b (.cells e true true []))).sz=bl.length:=by simp[qia]
 have hgd:(mkH 0 (bl.set b (.cells e true true []))).tr.get b=some (.cells e true true []):=by rw[zZ,List.getElem?_set_self hlt]
 have hget:∀b',b'≠b->(mkH 0 (bl.set b (.cells e true true []))).tr.get b'=(mkH 0 bl).tr.get b':=by
  intro b' hne;rw[zZ,zZ,List.getElem?_set_ne (Ne.symm hne)]
 have old:∀b' x,(mkH 0 (bl.set b (.cells e true true []))).tr.get b'=some x->x≠.dead->∃x',(mkH 0 bl).tr.get b'=some x'∧x'≠.dead:=by
  intro b' x hx hd
  by_cases hne:b'=b
  ·subst hne;exact⟨_,hgb,by simp⟩
  ·rw[hget b' hne] at hx;exact⟨x,hx,hd⟩
 have oldc:∀b' e' wf af cs',(mkH 0 (bl.set b (.cells e true true []))).tr.get b'=some (.cells e' wf af cs')->∃cs0,(mkH 0 bl).tr.get b'=some (.cells e' wf af cs0)∧cs'.length<=cs0.length∧(b'≠b->cs'=cs0)∧(b'=b->cs'=[]):=by
  intro b' e' wf af cs' hx
  by_cases hne:b'=b
  ·subst hne;rw[hgd] at hx;cases hx;exact⟨cs,hgb,by simp,fun h=>absurd rfl h,fun _=>rfl⟩
  ·rw[hget b' hne] at hx;exact⟨cs',hx,Nat.le_refl _,fun _=>rfl,fun h=>absurd h hne⟩
 refine⟨ρ,fun i v hi=>?_,⟨?_,?_,?_,?_,?_,?_,?_,r.base,?_,?_⟩,⟨fun _ _=>rfl,?_,rfl,fun b' hb'=>by simp[qnr] at hb',fun _ _=>rfl,Nat.le_refl _,⟨rfl,rfl⟩,fun _ _ h=>h,fun _ _ h=>.inl h,fun _ _ h=>h⟩⟩
 ·simp only[mkT,Tr.get_set] at hi;split at hi
  ·rename_i he;subst he;cases hi;obtain⟨h1,h2⟩:=ht _ _ hj;refine⟨h1,?_⟩;obtain⟨L,c,off,g1,g2,g3⟩:=h2.un_sl;obtain⟨q1,c',ty,fz,q2,q3,q4,q5,q6⟩:=r.cells b L _ _ _ _ g1 hgb;rw[g2];rcases g3 with⟨rfl,g3⟩|⟨_,g3,_⟩
   ·refine VR.own _ _ _ _ g1 (Nat.zero_le _) ?_;rcases g3 with rfl|⟨_,_,g3⟩
    ·rw[q1];omega
    ·simpa using g3
   ·omega
  ·exact ht i v hi
 ·intro b' L h1;rw[hsz];exact r.dom b' L h1
 ·intro b' L e1 wf af cs' h1 h2;obtain⟨cs0,h3,h4,h5,h6⟩:=oldc b' _ _ _ _ h2;obtain⟨q1,c,ty,fz,q2,q3,q4,q5,q6⟩:=r.cells b' L _ _ _ _ h1 h3;refine⟨q1,c,ty,fz,q2,q3,by omega,fun i v hv=>?_,q6⟩
  by_cases hne:b'=b
  ·rw[h6 hne] at hv;cases hv
  ·rw[h5 hne] at hv;exact q5 i v hv
 ·intro b' L es h1 h2
  by_cases hne:b'=b
  ·subst hne;rw[hgd] at h2;cases h2
  ·rw[hget b' hne] at h2;exact r.maps b' L es h1 h2
 ·intro b1 L1 e1 af1 cs1 h1 h2 b2 L2 x h3 h4 h5 h6;obtain⟨cs0,g1,_⟩:=oldc b1 _ _ _ _ h2;obtain⟨x',i1,i2⟩:=old b2 x h4 h5;exact r.excl b1 L1 _ _ _ h1 g1 b2 L2 x' h3 i1 i2 h6
 ·intro b1 L1 es h1 h2 b2 L2 x h3 h4 h5 h6;have hne:b1≠b:=by rintro rfl;rw[hgd] at h2;cases h2
  rw[hget b1 hne] at h2;obtain⟨x',i1,i2⟩:=old b2 x h4 h5;exact r.exclm b1 L1 es h1 h2 b2 L2 x' h3 i1 i2 h6
 ·intro b1 L1 e1 wf1 cs1 h1 h2 b2 L2 e2 wf2 af2 cs2 h3 h4 h5;obtain⟨c1,g1,g2,g3,g4⟩:=oldc b1 _ _ _ _ h2;obtain⟨c2,i1,i2,i3,i4⟩:=oldc b2 _ _ _ _ h4
  by_cases e1b:b1=b
  ·subst e1b;have hx:b2=b1:=r.excl b1 L1 e true cs (by exact h1) hgb b2 L2 _ h3 i1 (by simp) h5;subst hx;rw[h1] at h3;cases h3;rw[hgd] at h2 h4;cases h2;cases h4;exact⟨Nat.le_refl _,fun _=>rfl⟩
  ·obtain⟨k1,k2⟩:=r.app b1 L1 _ _ _ h1 g1 b2 L2 _ _ _ _ h3 i1 h5;rw[g3 e1b];exact⟨by omega,k2⟩
 ·intro b' L h1 h2;exact r.flr b' L h1 h2
 ·intro kk arr hkk;refine⟨(r.frz kk arr hkk).1,fun b' L x h1 h2 h3=>?_⟩
  obtain⟨x',i1,i2⟩:=old b' x h2 h3;exact (r.frz kk arr hkk).2 b' L x' h1 i1 i2
 ·exact⟨by rw[hsz];exact r.dn.1,r.dn.2⟩
 ·rw[hsz];exact hn
end Go.Kc
end
section
namespace Go.Kc
variable [Cur]
variable {P:Program} {h:Hp}
def Rd(P:Program)(f:Nat)(vs:List AV)(bs:List Blk)(v:AV):Prop :=
 xo bs.length vs=true∧clo v=true∧SC P f vs (mkH bs.length bs) (fun v' _=>v'=v)
theorem Rd.mk{f:Nat}{i:IFn}{vs:List AV}{v:AV}{bs:List Blk}(hc:qh P f i=true)(hb:xo bs.length vs=true)(hl:clo v=true)(hV:V P bs.length i.body (jd i.res (fun v' _=>v'=v)) (xz vs 0 .leaf) (mkH bs.length bs)):Rd P f vs bs v :=
 ⟨hb,hl,SC.mk hc (qr hV)⟩
theorem Rd.sc{f:Nat}{vs:List AV}{bs:List Blk}{v:AV}{k:AV->Hp->Prop}(at':List Nat)(hu:Rd P f vs bs v)(l:Lent ⟨h.sz,0,h.tr⟩ at' bs)(hk:k v h):SC P f (xT (gAt at' h.sz) vs) h k:=by
 obtain⟨hb,hcl,hu⟩:=hu;refine⟨hu.1,fun ρ B w args r ha=>?_⟩
 have r0:Rel σ0 ρ (fun _=>False) ⟨h.sz,0,h.tr⟩ w:=⟨r.dom,r.cells,r.maps,r.excl,r.exclm,r.app,fun _ _ _ _ h=>h,fun _ h=>h.elim,r.frz,r.dn⟩
 have rs:=r0.small l;have rs':Rel σ0 (ρ.small at' h.sz) (low w.heap.size) (mkH bs.length bs) w:=⟨rs.dom,rs.cells,rs.maps,rs.excl,rs.exclm,rs.app,fun b L hb hf=>absurd (rs.dom b L hb) (Nat.not_lt.2 hf),fun _ h=>h,rs.frz,rs.dn⟩
 have ha':VRs σ0 (ρ.small at' h.sz) vs args.toList:=VRs.nr (ρ:=ρ) (ρs:=ρ.small at' h.sz) (g:=gAt at' h.sz) (m:=bs.length) (fun b L hbm hbL=>by
  show (if b<at'.length then ρ (gAt at' h.sz b) else none)=some L
  rw[if_pos (by rw[l.len];exact hbm)];exact hbL) rfl l.len hb ha
 refine jA.mono (hu.2 (ρ.small at' h.sz) (low w.heap.size) w args rs' ha') ?_;rintro e w1 ⟨v0,v',h1,ρ1,rfl,rfl,g2,g3,g4⟩;have hcv:=g2.cr hcl;have f2:∀k a,ρ1.frz k=some a->ρ.frz k=some a∨w.heap.size<=k:=fun k a hk=>(g4.fnew k a hk).imp id Nat.not_lt.1
 exact⟨_,v',h,⟨ρ.loc,ρ1.frz,ρ.n⟩,rfl,hk,CR.vr (ρ:=⟨ρ.loc,ρ1.frz,ρ.n⟩) hcv,r.frz' g4.pres g4.wle g4.frz f2 (fun k a hk=>(g3.frz k a hk).1),
  ⟨fun _ _=>rfl,Nat.le_refl _,rfl,fun _ _ _=>rfl,fun k hk=>g4.pres k (r.base _ hk),g4.wle,g4.io,g4.frz,fun k a hk=>(f2 k a hk).imp id (xG r.base),Nat.le_refl _⟩⟩
theorem Rd.pc{f:Nat}{vs:List AV}{bs:List Blk}{v:AV}{k:AV->Hp->Prop}(at':List Nat)(hu:Rd P f vs bs v)(l:Lent ⟨h.sz,0,h.tr⟩ at' bs)(hk:k v h):PC P f (xT (gAt at' h.sz) vs) h k :=
 ⟨_,_,fun _ h'=>hu.sc at' l h',hk⟩
end Go.Kc
end
section
namespace Go.Kc
variable [Cur]
variable {P:Program}
abbrev x7:=Nat->Option (List Nat×ICode×ICode)
def tpl(j:Nat)(s:LoopState)(p:Option Code):Loop:={ state:=s,pending:=p,fn:=0,tmps:=#[],params:=#[],assign:=.goto j,body:=.skip,defers:=0 }
theorem jB.tpl{j:Nat}{r q:Loop}(hr:r.assign = .goto j)(h:jB r q)(s:LoopState)(p:Option Code):jB (Go.Kc.tpl j s p) { q with state:=s,pending:=p }:=by
 rcases h with⟨_,h0⟩|⟨j',h1,h2,_,_⟩
 ·exact absurd hr (h0 j)
 ·rw[hr] at h1;cases h1;exact .inr ⟨j,rfl,Cur.st s p h2,rfl,rfl⟩
noncomputable def qaV(t:Tr AV):Nat->Nat->List (Nat×AV)->(List (Nat×AV)->Prop)->Prop :=
 Tr.rec (motive:=fun _=>Nat->Nat->List (Nat×AV)->(List (Nat×AV)->Prop)->Prop) (fun _ _ acc k=>k acc)
  (fun v _ _ gl gr a m acc k=>qf (Nat.add a m) (fun a1=>qf (Nat.add a1 m) (fun a2=>qf (Nat.add m m) (fun m2 =>
   Option.rec (motive:=fun _=>Prop) (gl a1 m2 acc (fun acc=>gr a2 m2 acc k)) (fun x=>gl a1 m2 ((a,x)::acc) (fun acc=>gr a2 m2 acc k)) v)))) t
omit [Cur] in
theorem qbN{v:Option AV}{l r:Tr AV}{a m:Nat}{acc:List (Nat×AV)}{k:List (Nat×AV)->Prop}:qaV (.node v l r) a m acc k=qaV l (a+m) (m+m) (v.elim acc fun x=>(a,x)::acc) (fun acc=>qaV r (a+m+m) (m+m) acc k):=by
 have e:qaV (.node v l r) a m acc k=qf (Nat.add a m) (fun a1=>qf (Nat.add a1 m) (fun a2=>qf (Nat.add m m) (fun m2 =>
   Option.rec (motive:=fun _=>Prop) (qaV l a1 m2 acc (fun acc=>qaV r a2 m2 acc k)) (fun x=>qaV l a1 m2 ((a,x)::acc) (fun acc=>qaV r a2 m2 acc k)) v))):=rfl
 rw[e,qj,qj,qj];cases v<;>rfl
omit [Cur] in
theorem Zo:∀(t:Tr AV) (a m:Nat) (acc:List (Nat×AV)) (k:List (Nat×AV)->Prop),qaV t a m acc k->∃l,k l∧(∀p ∈ l,p ∈ acc∨∃n,p.1=a+m*n∧t.get n=some p.2)∧∀k':List (Nat×AV)->Prop,k' l->qaV t a m acc k'
 | .leaf,_,_,acc,_,hk=>⟨acc,hk,fun _ hp=>.inl hp,fun _ hk'=>hk'⟩
 | .node v l r,a,m,acc,k,hk=>by
  rw[qbN] at hk;obtain⟨l1,h1,h2,h3⟩:=Zo l _ _ _ _ hk;obtain⟨l2,h4,h5,h6⟩:=Zo r _ _ _ _ h1;refine⟨l2,h4,fun p hp=>?_,fun k' hk'=>?_⟩
  ·rcases h5 p hp with hp|⟨n,e1,e2⟩
   ·rcases h2 p hp with hp|⟨n,e1,e2⟩
    ·cases v with
     | none=>exact .inl hp
     | some x =>
      rcases List.mem_cons.1 hp with rfl|hp
      ·exact .inr ⟨0,by simp,by rw[Tr.get_node]⟩
      ·exact .inl hp
    ·refine .inr ⟨2*n+1,by rw[e1,Nat.mul_add,Nat.mul_one,Nat.mul_left_comm,Nat.add_mul];omega,?_⟩
     rw[Tr.get_node];show (if 2*n % 2=0 then l.get (2*n / 2) else r.get (2*n / 2))=_
     rw[if_pos (by omega),show 2*n / 2=n from by omega];exact e2
   ·refine .inr ⟨2*n+2,by rw[e1,Nat.mul_add,Nat.mul_left_comm,Nat.add_mul];omega,?_⟩
    rw[Tr.get_node];show (if (2*n+1) % 2=0 then l.get ((2*n+1) / 2) else r.get ((2*n+1) / 2))=_
    rw[if_neg (by omega),show (2*n+1) / 2=n from by omega];exact e2
  ·rw[qbN];exact h3 _ (h6 _ hk')
noncomputable def qjR(es:List (AV×AV)):(List (Nat×AV)->Prop)->Prop :=
 List.rec (motive:=fun _=>(List (Nat×AV)->Prop)->Prop) (fun k=>k []) (fun e _ ih k=>match e.1 with
  | .i .i64 (.ofNat n)=>ih (fun ts=>k ((n,e.2)::ts))
  | _=>False) es
omit [Cur] in
theorem qc5:∀(es:List (AV×AV)) (k:List (Nat×AV)->Prop),qjR es k->∃ts,k ts∧es=ts.map (fun p=>(.i .i64 (Int.ofNat p.1),p.2))∧∀k':List (Nat×AV)->Prop,k' ts->qjR es k'
 | [],k,hk=>⟨[],hk,rfl,fun _ h=>h⟩
 | (.i .i64 (.ofNat n),e2)::es,k,hk=>by
  have hk':qjR es (fun ts=>k ((n,e2)::ts)):=hk
  obtain⟨ts,h1,h2,h3⟩:=qc5 es _ hk';exact⟨(n,e2)::ts,h1,by rw[h2];rfl,fun k' h'=>h3 (fun ts=>k' ((n,e2)::ts)) h'⟩
noncomputable def qel(h:Hp)(b:Nat)(k:Loop->List (Nat×AV)->Prop):Prop :=
 h.tr.getK b (fun x=>Blk.rec (motive:=fun _=>Prop) (fun _ _ _ _=>False) False (fun es=>List.rec (motive:=fun _=>Prop) False (fun e rest _=>match e.1 with
  | .lp r=>(match e.2 with | .undef=>qjR rest (fun ts=>k r ts)|_=>False)
  | _=>False) es) x)
omit [Cur] in
theorem kn{h:Hp}{b:Nat}{k:Loop->List (Nat×AV)->Prop}(hk:qel h b k):∃r ts,h.tr.get b=some (.map (qZ r ts))∧k r ts∧∀k',k' r ts->qel h b k':=by
 obtain⟨x,h1,h2⟩:=(Tr.getK_iff _ _ _).1 hk;cases x with
 | cells _ _ _ _=>exact h2.elim
 | dead=>exact h2.elim
 | map es =>
  cases es with
  | nil=>exact h2.elim
  | cons e rest =>
   obtain⟨e1,e2⟩:=e;cases e1<;>try exact (h2:False).elim
   rename_i r;cases e2<;>try exact (h2:False).elim
   obtain⟨ts,g1,g2,g3⟩:=qc5 rest _ h2;exact⟨r,ts,by rw[h1,g2];rfl,g1,fun k' h'=>(Tr.getK_iff _ _ _).2 ⟨_,h1,g3 _ h'⟩⟩
noncomputable def qbQ(c:Code)(k:Nat->Prop):Prop:=match c with
 | .goto j=>k j
 | _=>False
omit [Cur] in
theorem y3{c:Code}{k:Nat->Prop}(hk:qbQ c k):∃j,c = .goto j∧k j:=by
 unfold qbQ at hk;split at hk
 ·exact⟨_,rfl,hk⟩
 ·exact hk.elim
noncomputable def qct(s:LoopState)(p:Prop):Prop:=match s with
 | .ready=>p
 | _=>False
omit [Cur] in
theorem qek{s:LoopState}{p:Prop}(hk:qct s p):s = .ready∧p:=by
 unfold qct at hk;split at hk
 ·exact⟨rfl,hk⟩
 ·exact hk.elim
noncomputable def qeH(s:LoopState)(p:Prop):Prop:=match s with
 | .busy=>False
 | _=>p
omit [Cur] in
theorem qbA{s:LoopState}{p:Prop}(hk:qeH s p):s≠.busy∧p:=by
 unfold qeH at hk;split at hk
 ·exact hk.elim
 ·rename_i h;exact⟨fun e=>h e,hk⟩
noncomputable def qiV(s:Option (List Nat×ICode×ICode))(k:List Nat->ICode->ICode->Prop):Prop:=match s with
 | some (ps,x,y)=>k ps x y
 | none=>False
omit [Cur] in
theorem qgq{s:Option (List Nat×ICode×ICode)}{k:List Nat->ICode->ICode->Prop}(hk:qiV s k):∃ps x y,s=some (ps,x,y)∧k ps x y:=by
 unfold qiV at hk;split at hk
 ·exact⟨_,_,_,rfl,hk⟩
 ·exact hk.elim
noncomputable def qnt(ts:List (Nat×AV)):(Tr AV->Prop)->Prop :=
 List.rec (motive:=fun _=>(Tr AV->Prop)->Prop) (fun k=>k .leaf) (fun p _ ih k=>ih (fun t=>t.setK p.1 p.2 k)) ts
omit [Cur] in
theorem Zq:∀{ts:List (Nat×AV)} {k:Tr AV->Prop},qnt ts k↔k (mkT ts)
 | [],_=>Iff.rfl
 | p::ts,k=>by
  show qnt ts (fun t=>t.setK p.1 p.2 k)↔_
  rw[Zq,Tr.setK_iff];rfl
noncomputable def qdC(ps:List Nat):List AV->Tr AV->(Tr AV->Prop)->Prop :=
 List.rec (motive:=fun _=>List AV->Tr AV->(Tr AV->Prop)->Prop) (fun _ t k=>k t) (fun p _ ih us t k=>List.rec (motive:=fun _=>Prop) False (fun u us _=>t.setK p u (fun t=>ih us t k)) us) ps
omit [Cur] in
theorem y8:∀{ps:List Nat} {us:List AV} {t:Tr AV} {k:Tr AV->Prop},qdC ps us t k->k (qa3 ps us t)∧∀k':Tr AV->Prop,k' (qa3 ps us t)->qdC ps us t k'
 | [],us,t,k,hk=>by cases us<;>exact⟨hk,fun _ h=>h⟩
 | p::ps,us,t,k,hk=>by
  cases us with
  | nil=>exact (hk:False).elim
  | cons u us =>
   have hk':t.setK p u (fun t=>qdC ps us t k):=hk
   rw[Tr.setK_iff] at hk';obtain⟨h1,h2⟩:=y8 hk';refine⟨h1,fun k' h'=>?_⟩
   show t.setK p u (fun t=>qdC ps us t k')
   rw[Tr.setK_iff];exact h2 k' h'
noncomputable def ql8(xs ys:List AV):(List AV->Prop)->Prop:=List.rec (motive:=fun _=>(List AV->Prop)->Prop) (fun k=>k ys) (fun x _ ih k=>ih (fun l=>k (x::l))) xs
omit [Cur] in
theorem Q7:∀{xs ys:List AV} {k:List AV->Prop},ql8 xs ys k↔k (xs++ys)
 | [],_,_=>Iff.rfl
 | x::xs,ys,k=>by
  show ql8 xs ys (fun l=>k (x::l))↔_
  rw[Q7];rfl
noncomputable def ylR(lc:x7)(ih:kW)(b:Nat)(us:List AV)(h:Hp)(k:AV->Hp->Prop):Prop :=
 qel h b (fun r ts=>qbQ r.assign (fun j=>qiV (lc j) (fun ps ai bi=>qd (and (Nat.ble h.fl b) (and (Nat.ble (Nat.succ b) h.sz) (Nat.beq ps.length us.length)))
  (qnt ts (fun t=>qdC ps us t (fun t=>ih ai (fun e t1 h1=>X.rec (motive:=fun _=>Prop)
   (qel h1 b (fun r1 ts1=>qbQ r1.assign (fun j1=>qct r1.state (xa h1 b (.map (qZ (tpl j1 .busy r1.pending) ts1)) (fun h2=>ih bi (fun e t3 h3 =>
    qel h3 b (fun r3 ts3=>qbQ r3.assign (fun j3=>X.rec (motive:=fun _=>Prop)
     (xa h3 b (.map (qZ (tpl j3 .ready none) ts3)) (fun h4=>k (.b true) h4))
     (fun id=>xa h3 b (.map (qZ (tpl j3 .done (some (.exit id))) ts3)) (fun h4=>k (.b false) h4))
     (xa h3 b (.map (qZ (tpl j3 .done (some .ret)) ts3)) (fun h4=>k (.b false) h4)) e))) t1 h2)))))
   (fun _=>False) False e) t h))))))
noncomputable def Q8(env:Tr IFn)(ho:Qb)(lc:x7)(ih:kW):qO:=fun f args h k=>Nat.rec (motive:=fun _=>Prop)
 (match args with | .yl b::us=>ylR lc ih b us h k|_=>False) (fun f _=>qav env ho ih f args h k) f
noncomputable def qeL(Q:X->Tr AV->Hp->Prop)(t:Tr AV)(p:Option Code)(h':Hp):Prop:=match p with
 | none=>Q .normal t h'
 | some .ret=>Q .ret t h'
 | some (.exit id)=>Q (.exit id) t h'
 | _=>False
noncomputable def qeK(b:Nat)(Q:X->Tr AV->Hp->Prop)(t:Tr AV)(h:Hp):Prop :=
 qel h b (fun r _=>qeH r.state (xa h b .dead (fun h'=>qeL Q t r.pending h')))
noncomputable def rfR(env:Tr IFn)(ih:kW)(j:Nat)(t:Tr AV)(h:Hp)(Q:X->Tr AV->Hp->Prop)(g:AV):Prop:=match g with
 | .fn f first cap=>qd (Nat.ble h.fl h.sz) (qaV t 0 1 [] (fun ts=>ql8 first (.yl h.sz::cap) (fun args=>zJ h (.map (qZ (tpl j .ready none) ts)) (fun b h'=>qaw env ih f args h' (fun _ h''=>qeK b Q t h'')))))
 | _=>False
noncomputable def fr(env:Tr IFn)(ho:Qb)(lc:x7)(n:Nat):kW :=
 Nat.rec (motive:=fun _=>kW) (fun _ _ _ _=>False) (fun _ ih c Q t h=>match c with
  | .skip=>Q .normal t h
  | .reg draw ops=>v4 qp draw (Q8 env ho lc ih) ops (fun t h=>Q .normal t h) t h
  | .rangeF j g _ _ _=>evK t g (fun v=>rfR env ih j t h Q v)
  | .seq x y=>ih x (fun e t h=>X.rec (motive:=fun _=>Prop) (ih y Q t h) (fun id=>Q (.exit id) t h) (Q .ret t h) e) t h
  | .cond c x y=>evK t c (fun v=>unB v (fun b=>Bool.rec (motive:=fun _=>Prop) (ih y Q t h) (ih x Q t h) b))
  | .blk id x=>ih x (fun e t h=>X.rec (motive:=fun _=>Prop) (Q .normal t h) (fun id'=>Bool.rec (motive:=fun _=>Prop) (Q (.exit id') t h) (Q .normal t h) (Nat.beq id' id)) (Q .ret t h) e) t h
  | .loop x=>ih x (fun e t h=>X.rec (motive:=fun _=>Prop) (ih (.loop x) Q t h) (fun id=>Q (.exit id) t h) (Q .ret t h) e) t h
  | .exit id=>Q (.exit id) t h
  | .ret=>Q .ret t h
  | .no=>False
  | .cut x=>ih x Q t h) n
omit [Cur] in
theorem qem(h:Hp)(b:Nat):L2 (qel h b):=fun _ hk=>by
 obtain⟨r,ts,_,h2,h3⟩:=kn hk;exact⟨r,ts,h2,h3⟩
omit [Cur] in
theorem qcm(c:Code):L1 (qbQ c):=fun k hk=>by
 obtain⟨j,rfl,h⟩:=y3 hk;exact⟨j,h,fun _ h=>h⟩
omit [Cur] in
theorem qiL{α β:Type}(s:LoopState){F:(α->β->Prop)->Prop}(hF:L2 F):L2 (fun k=>qct s (F k)):=by
 cases s<;>first|exact hF|exact L2.no
omit [Cur] in
theorem LB.l2{ih:kW}(hi:LB ih){α β:Type}(c:ICode)(t:Tr AV)(h:Hp){F:X->Tr AV->Hp->(α->β->Prop)->Prop}(hF:∀e t h,L2 (F e t h)):L2 (fun k=>ih c (fun e t h=>F e t h k) t h):=fun k hk=>by
 obtain⟨e,t',h',h1,h2⟩:=hi _ _ _ _ hk;obtain⟨x,y,h3,h4⟩:=hF e t' h' _ h1;exact⟨x,y,h3,fun k' hk'=>h2 _ (h4 k' hk')⟩
theorem qqM(lc:x7){ih:kW}(hi:LB ih)(b:Nat)(us:List AV)(h:Hp):L2 (ylR lc ih b us h):=by
 unfold ylR;refine L2.b2 (qem h b) fun r ts=>L1.b2 (qcm _) fun j=>?_
 cases hl:lc j with
 | none=>exact L2.no
 | some x =>
  obtain⟨ps,ai,bi⟩:=x;refine L2.wh _ (L1.b2 (fun k hk=>⟨mkT ts,Zq.1 hk,fun k' hk'=>Zq.2 hk'⟩) fun t=>L1.b2 (fun k hk=>⟨_,(y8 hk).1,(y8 hk).2⟩) fun t=>hi.l2 ai t h fun e t1 h1=>?_)
  cases e with
  | exit id=>exact L2.no
  | ret=>exact L2.no
  | normal =>
   refine L2.b2 (qem h1 b) fun r1 ts1=>L1.b2 (qcm _) fun j1=>qiL _ (L1.b2 (vN h1 b _) fun h2=>hi.l2 bi t1 h2 fun e t3 h3=>L2.b2 (qem h3 b) fun r3 ts3=>L1.b2 (qcm _) fun j3=>?_)
   cases e with
   | normal=>exact L1.b2 (vN h3 b _) fun h4=>L2.ret _ _
   | exit id=>exact L1.b2 (vN h3 b _) fun h4=>L2.ret _ _
   | ret=>exact L1.b2 (vN h3 b _) fun h4=>L2.ret _ _
theorem ku(env:Tr IFn)(ho:Qb)(lc:x7){ih:kW}(hi:LB ih):LC (Q8 env ho lc ih):=by
 intro f vs h;cases f with
 | succ f=>exact qjB env ho hi f vs h
 | zero =>
  cases vs with
  | nil=>exact L2.no
  | cons v us =>
   cases v<;>first|exact L2.no|exact qqM lc hi _ us h
omit [Cur] in
theorem qfP{b:Nat}{Q:X->Tr AV->Hp->Prop}{t:Tr AV}{h:Hp}(hk:qeK b Q t h):∃e h',Q e t h'∧∀Q',Q' e t h'->qeK b Q' t h:=by
 obtain⟨r,ts,h1,h2,h3⟩:=kn hk;obtain⟨g1,g2⟩:=qbA h2;obtain⟨g3,g4⟩:=(zf _ _ _ _).1 g2
 have back:∀Q':X->Tr AV->Hp->Prop,qeL Q' t r.pending (h.put b .dead)->qeK b Q' t h:=fun Q' hq=>by
  refine h3 _ ?_;show qeH r.state (xa h b .dead (fun h'=>qeL Q' t r.pending h'))
  have hp:=(zf h b .dead (fun h'=>qeL Q' t r.pending h')).2 ⟨g3,hq⟩
  cases hs:r.state<;>first|exact absurd hs g1|exact hp
 cases hp:r.pending with
 | none =>
  rw[hp] at g4;exact⟨.normal,_,g4,fun Q' hq=>back Q' (by rw[hp];exact hq)⟩
 | some c =>
  rw[hp] at g4;cases c<;>first|exact (g4:False).elim|skip
  ·exact⟨.exit _,_,g4,fun Q' hq=>back Q' (by rw[hp];exact hq)⟩
  ·exact⟨.ret,_,g4,fun Q' hq=>back Q' (by rw[hp];exact hq)⟩
omit [Cur] in
theorem qk1(env:Tr IFn){ih:kW}(hi:LB ih){j:Nat}{t:Tr AV}{h:Hp}{Q:X->Tr AV->Hp->Prop}{g:AV}(hk:rfR env ih j t h Q g):∃e h',Q e t h'∧∀Q',Q' e t h'->rfR env ih j t h Q' g:=by
 cases g<;>try exact (hk:False).elim
 rename_i f first cap
 obtain⟨g3,g4⟩:=(qa _ _).1 hk;obtain⟨ts,g5,_,g7⟩:=Zo t 0 1 [] _ g4;rw[Q7,qS] at g5;obtain⟨v,h',q1,q2⟩:=qcW env hi _ _ _ _ g5;obtain⟨e,h'',q3,q4⟩:=qfP q1;refine⟨e,h'',q3,fun Q' hQ=>(qa _ _).2 ⟨g3,g7 _ ?_⟩⟩
 rw[Q7,qS];exact q2 _ (q4 Q' hQ)
theorem qd9(env:Tr IFn)(ho:Qb)(lc:x7):∀n,LB (fr env ho lc n)
 | 0=>fun _ _ _ _ h=>h.elim
 | n+1=>fun c Q t h hk=>by
  have ih:=qd9 env ho lc n;cases c with
  | no=>exact hk.elim
  | rangeF j g ps x y =>
   obtain⟨v,g1,g2⟩:=ql t g _ hk;obtain⟨e,h',q1,q2⟩:=qk1 env ih g1;exact⟨e,t,h',q1,fun Q' hQ=>g2 _ (q2 Q' hQ)⟩
  | cut x=>exact ih _ _ _ _ hk
  | skip=>exact⟨_,_,_,hk,fun _ h=>h⟩
  | exit id=>exact⟨_,_,_,hk,fun _ h=>h⟩
  | ret=>exact⟨_,_,_,hk,fun _ h=>h⟩
  | reg draw ops =>
   obtain⟨t',h',h1,h2⟩:=yN qp draw (ku env ho lc ih) ops t h _ hk;exact⟨_,_,_,h1,fun Q' hQ=>h2 (fun t h=>Q' .normal t h) hQ⟩
  | seq x y =>
   obtain⟨e,t1,h1,g1,g2⟩:=ih _ _ _ _ hk;cases e with
   | normal =>
    obtain⟨e2,t2,h2,g3,g4⟩:=ih _ _ _ _ g1;exact⟨e2,t2,h2,g3,fun Q' hQ=>g2 (fun e t h=>X.rec (motive:=fun _=>Prop) (fr env ho lc n y Q' t h) (fun id=>Q' (.exit id) t h) (Q' .ret t h) e) (g4 _ hQ)⟩
   | exit id=>exact⟨_,t1,h1,g1,fun Q' hQ=>g2 (fun e t h=>X.rec (motive:=fun _=>Prop) (fr env ho lc n y Q' t h) (fun id=>Q' (.exit id) t h) (Q' .ret t h) e) hQ⟩
   | ret=>exact⟨_,t1,h1,g1,fun Q' hQ=>g2 (fun e t h=>X.rec (motive:=fun _=>Prop) (fr env ho lc n y Q' t h) (fun id=>Q' (.exit id) t h) (Q' .ret t h) e) hQ⟩
  | cond c x y =>
   obtain⟨v,g1,g2⟩:=ql t c _ hk;obtain⟨b,g3,g4⟩:=Zy v _ g1;cases b with
   | true =>
    obtain⟨e,t1,h1,g5,g6⟩:=ih _ _ _ _ g3;exact⟨e,t1,h1,g5,fun Q' hQ=>g2 (fun v=>unB v (fun b=>Bool.rec (motive:=fun _=>Prop) (fr env ho lc n y Q' t h) (fr env ho lc n x Q' t h) b)) (g4 (fun b=>Bool.rec (motive:=fun _=>Prop) (fr env ho lc n y Q' t h) (fr env ho lc n x Q' t h) b) (g6 _ hQ))⟩
   | false =>
    obtain⟨e,t1,h1,g5,g6⟩:=ih _ _ _ _ g3;exact⟨e,t1,h1,g5,fun Q' hQ=>g2 (fun v=>unB v (fun b=>Bool.rec (motive:=fun _=>Prop) (fr env ho lc n y Q' t h) (fr env ho lc n x Q' t h) b)) (g4 (fun b=>Bool.rec (motive:=fun _=>Prop) (fr env ho lc n y Q' t h) (fr env ho lc n x Q' t h) b) (g6 _ hQ))⟩
  | blk id x =>
   obtain⟨e,t1,h1,g1,g2⟩:=ih _ _ _ _ hk;cases e with
   | normal=>exact⟨_,t1,h1,g1,fun Q' hQ=>g2 (fun e t h=>X.rec (motive:=fun _=>Prop) (Q' .normal t h) (fun id'=>Bool.rec (motive:=fun _=>Prop) (Q' (.exit id') t h) (Q' .normal t h) (Nat.beq id' id)) (Q' .ret t h) e) hQ⟩
   | ret=>exact⟨_,t1,h1,g1,fun Q' hQ=>g2 (fun e t h=>X.rec (motive:=fun _=>Prop) (Q' .normal t h) (fun id'=>Bool.rec (motive:=fun _=>Prop) (Q' (.exit id') t h) (Q' .normal t h) (Nat.beq id' id)) (Q' .ret t h) e) hQ⟩
   | exit id' =>
    have g1':(Bool.rec (motive:=fun _=>Prop) (Q (.exit id') t1 h1) (Q .normal t1 h1) (Nat.beq id' id):Prop):=g1
    cases hb:Nat.beq id' id with
    | true =>
     rw[hb] at g1';refine⟨_,t1,h1,g1',fun Q' hQ=>g2 (fun e t h=>X.rec (motive:=fun _=>Prop) (Q' .normal t h) (fun id'=>Bool.rec (motive:=fun _=>Prop) (Q' (.exit id') t h) (Q' .normal t h) (Nat.beq id' id)) (Q' .ret t h) e) ?_⟩
     show (Bool.rec (motive:=fun _=>Prop) (Q' (.exit id') t1 h1) (Q' .normal t1 h1) (Nat.beq id' id):Prop)
     rw[hb];exact hQ
    | false =>
     rw[hb] at g1';refine⟨_,t1,h1,g1',fun Q' hQ=>g2 (fun e t h=>X.rec (motive:=fun _=>Prop) (Q' .normal t h) (fun id'=>Bool.rec (motive:=fun _=>Prop) (Q' (.exit id') t h) (Q' .normal t h) (Nat.beq id' id)) (Q' .ret t h) e) ?_⟩
     show (Bool.rec (motive:=fun _=>Prop) (Q' (.exit id') t1 h1) (Q' .normal t1 h1) (Nat.beq id' id):Prop)
     rw[hb];exact hQ
  | loop x =>
   obtain⟨e,t1,h1,g1,g2⟩:=ih _ _ _ _ hk;cases e with
   | normal =>
    obtain⟨e2,t2,h2,g3,g4⟩:=ih _ _ _ _ g1;exact⟨e2,t2,h2,g3,fun Q' hQ=>g2 (fun e t h=>X.rec (motive:=fun _=>Prop) (fr env ho lc n (.loop x) Q' t h) (fun id=>Q' (.exit id) t h) (Q' .ret t h) e) (g4 _ hQ)⟩
   | exit id=>exact⟨_,t1,h1,g1,fun Q' hQ=>g2 (fun e t h=>X.rec (motive:=fun _=>Prop) (fr env ho lc n (.loop x) Q' t h) (fun id=>Q' (.exit id) t h) (Q' .ret t h) e) hQ⟩
   | ret=>exact⟨_,t1,h1,g1,fun Q' hQ=>g2 (fun e t h=>X.rec (motive:=fun _=>Prop) (fr env ho lc n (.loop x) Q' t h) (fun id=>Q' (.exit id) t h) (Q' .ret t h) e) hQ⟩

def SR(P:Program)(rs:List ROp)(Q:Tr AV->Hp->Prop)(t:Tr AV)(h:Hp):Prop:=∃C,x8 P σ0 C∧v4 qp false C rs Q t h
def SDf(P:Program)(n fd:Nat):ICode->(X->Tr AV->Hp->Prop)->Tr AV->Hp->Prop
 | .seq (.reg _ rsA) (.seq (.reg _ rsB) (.seq (.reg _ (r0::_)) y)),Q,t,h=>SR P rsA (fun t h=>SR P rsB (fun t h=>SR P [r0] (fun t h=>qag fd r0 t∧S P n y Q t h) t h) t h) t h
 | _,_,_,_=>False
theorem SC.mkDS{f fd:Nat}{i:IFn}{vs:List AV}{h:Hp}{k:AV->Hp->Prop}(hc:wJ P f fd i=true)(hV:SDf P h.sz fd i.body (jd i.res k) (xz vs 0 .leaf) h):SC P f vs h k:=by
 unfold wJ at hc;simp only[Bool.and_eq_true] at hc;obtain⟨hquiet,hc⟩:=hc;split at hc<;>try (cases hc;done)
 rename_i rsA rsB r0 rest y hbody;rw[hbody] at hV;split at hc<;>try (cases hc;done)
 rename_i fn hfn;simp only[Bool.and_eq_true,bne_iff_ne] at hc;obtain⟨⟨hname,hc⟩,hres⟩:=hc;split at hc<;>try (cases hc;done)
 rename_i iA oA iB oB iD oD c hcb;simp only[Bool.and_eq_true] at hc;obtain⟨⟨⟨hA,hB⟩,hD⟩,hcode⟩:=hc;split at hD<;>try (cases hD;done)
 rename_i o0 o1 d hl hd0;simp only[Bool.and_eq_true] at hD;obtain⟨⟨⟨⟨⟨hr0,hg0⟩,hf0⟩,hf1⟩,hdef⟩,hdst⟩:=hD;have sD:oD = #[o0,o1]:=by rw[← Array.toList_inj];exact hl
 subst sD;have hdst:o1.dst=none:=by simpa using hdst
 refine⟨trivial,fun ρ B w args r ha=>.inl ⟨⟨fn,hfn,hname,by rw[hcb];rfl⟩,?_⟩⟩
 have r00:=r
 have ht:TR σ0 ρ (xz vs 0 .leaf) (args++Array.replicate (fn.ntmps-args.size) undef):=by
  intro j v hv;rcases yS _ _ _ _ _ hv with⟨_,h3⟩|h3
  ·simp only[Nat.sub_zero] at h3;obtain⟨v',h4,h5⟩:=ha.get h3
   have hn:j<args.size:=by
    have:=(zzS.1 h4).1;simpa using this
   refine⟨by simp;omega,?_⟩
   have:(args++Array.replicate (fn.ntmps-args.size) undef).getD j undef=v':=by
    rw[Array.getD_eq_getD_getElem?,Array.getElem?_append_left hn];rw[Array.getElem?_toList] at h4;rw[h4];rfl
   rw[this];exact h5
  ·simp at h3
 have hsize:fn.ntmps<=(args++Array.replicate (fn.ntmps-args.size) undef).size:=by simp;omega
 refine (callsIn_wide (n:=0)).1 (callsIn_of_wp_marks hfn hcb trivial ?_ rfl);obtain⟨CA,hCA,hV⟩:=hV;refine wpIn_seq (wpIn_region ?_);have hreg:=fun K hK=>yO (ops:=oA) (nt:=fn.ntmps) (ro:=none) (K:=K) (ρ0:=ρ) (h0:=h) (w0:=w) (ds:=[]) (jL P) hCA hK oA.toList rsA 0 hA rfl _ h ρ w { tmps:=args++Array.replicate (fn.ntmps-args.size) undef,defers:=[] } hV ht hsize rfl r (Kept.refl _ _ _ _)
 rw[List.range_eq_range'];refine hreg _ ?_;intro a0 w0 t0 h0 ρ0 hq0 ht0 hs0 hd0' r0' k0';obtain⟨CB,hCB,hq0⟩:=hq0;refine wpIn_seq (wpIn_region ?_);have hreg2:=fun K hK=>yO (ops:=oB) (nt:=fn.ntmps) (ro:=none) (K:=K) (ρ0:=ρ) (h0:=h) (w0:=w) (ds:=[]) (jL P) hCB hK oB.toList rsB 0 hB rfl _ h0 ρ0 w0 a0 hq0 ht0 hs0 hd0' r0' k0'
 rw[List.range_eq_range'];refine hreg2 _ ?_;intro a1 w1 t1 h1 ρ1 hq1 ht1 hs1 hd1 r1 k1;refine wpIn_seq (wpIn_region ?_);have l2:List.range (#[o0,o1]:Array Oper).size=[0,1]:=rfl;have g0:(#[o0,o1]:Array Oper)[0]?=some o0:=rfl;have g1:(#[o0,o1]:Array Oper)[1]?=some o1:=rfl;rw[l2];simp only[wpOpsIn,g0,w9 hf0,if_true];obtain⟨dst,rk,g⟩:=r0;simp only[qc1,Bool.and_eq_true] at hr0;obtain⟨⟨hc1,hc2⟩,hc3⟩:=hr0;have hgn:g=none:=by simpa using hg0
 subst hgn;obtain⟨CD,hCD,hq1⟩:=hq1;refine qeq (draw:=false) (jL P) hCD r1 ht1 hc3 hq1 _ _ ?_;intro v v' h2 ρ2 w2 p1 p2 r2 k2;obtain⟨t2,q1,ht2⟩:=(ht1.mono (k2.mono r1.dom)).put hs1 hc1 p2 p1;obtain⟨⟨d',cs,q3,q4⟩,q2⟩:=q1;rw[hd0] at q3;cases q3;obtain⟨z1,z2⟩:=ht2 d _ q4;obtain⟨a',c',z3,z4,z5⟩:=z2.un_fn
 have ha':a' = #[]:=by
  generalize hL:a'.toList=L at z3;cases z3;rw[← Array.toList_inj,hL]
 subst ha';generalize hA1:a1.put o0.dst v'=A1 at ht2 z1 z5;have hsA:fn.ntmps<=A1.tmps.size:=by rw[← hA1,xk];exact hs1
 have hdA:A1.defers=[]:=by rw[← hA1,xe];exact hd1
 have hev:A1.eval (.tmp d) = .func (.func fd) #[] c':=z5;change (if Region.wanted o1 (yielded #[o0,o1] A1.tmps)=true then o1.wpIn (Fr none) 0 P A1 w2 _ _ else _)
 rw[if_pos (w9 hf1 _)];refine⟨fun _ _=>trivial,?_⟩
 have hsem:(o1.semAt (Fr none).round A1.eval).run P w2 = .ok (.defer { target:=.fn (.func fd) c',args:=#[] }) w2:=qbI hdef hev w2;rw[hsem,Oper.uponIn_defer,hdst];have hle:h.sz<=h2.sz:=Nat.le_trans k1.szle k2.szle;have hw:=q2 fn.ntmps c hcode hle none (.inl rfl) ρ2 B w2 { A1 with defers:={ target:=.fn (.func fd) c',args:=#[] }::A1.defers } ht2 hsA r2;refine wpIn_mono hw ?_;rintro e a w' ⟨x,t',h',ρ',rs,hx,hq,ht',_,hd,hm,hr',hkept⟩;have hkk:Kep h.sz ρ B h w ρ' h' w':=((k1.trans k2).kep (Nat.le_refl _)).trans hkept;have hww:w.heap.size<=w2.heap.size:=(k1.trans k2).wle
 have hcod:(callFunc fd (#[]++c')).run P=fun w=>.ok (.enter fd (#[]++c')) w:=by
  funext w;have hq:=hquiet;unfold k7 at hq;split at hq<;>try (cases hq;done)
  rename_i fn' hfn';simp only[Bool.and_eq_true,bne_iff_ne] at hq;obtain⟨⟨q5,_⟩,q6⟩:=hq;split at q6<;>try (cases q6;done)
  rename_i cc hcc;exact ja hfn' q5 (by rw[hcc];rfl) _ w
 have key:∀(k':AV->Hp->Prop),xS t' h' i.res (fun vs=>k' (xw vs) h')->LeavesInM (Fr none) 0 P fn a.tmps (fun e w'=>∃v v' h' ρ',e = .returned v'∧k' v h'∧VR σ0 ρ' v v'∧Rel σ0 ρ' B h' w'∧Kept ρ B h w ρ' h' w') a.defers .returning w':=by
  intro k' hq';rw[hd,hdA];have hB:Rel σ0 ρ' B h' w':=hr'.lessB fun k hk=>.inl hk
  refine QR ?_ rs (fun r hr=>hm.at' r hr) hm.nodup (fun r hr hb=>absurd (r00.base r hb) (Nat.not_lt.2 (Nat.le_trans hww (hm.new r hr)))) hB (hkk.kept r00.dn.1)
  intro w3 hr3 hk3;refine⟨by simp,.inr ⟨fun hh=>(by cases hh),.func fd,c',fd,#[]++c',rfl,?_,fun _ _=>trivial,?_⟩⟩
  ·show (callFunc fd (#[]++c')).run P w3=_;rw[hcod]
  ·refine (qdE ρ hquiet (#[]++c') w3).mono ?_;rintro e u' w4 ⟨rfl,rfl,rfl⟩;obtain⟨v,v',e1,e2,e3⟩:=Q0 hr3 ht' hres hq';exact⟨v',e3,v,v',h',ρ',rfl,e1,e2,hr3,hk3⟩
 cases hx with
 | exit id=>exact hq.elim
 | normal=>exact key k hq
 | ret=>exact key k hq
def zp(lc:x7):ICode->Prop
 | .seq x y=>zp lc x∧zp lc y
 | .cond _ x y=>zp lc x∧zp lc y
 | .blk _ x=>zp lc x
 | .loop x=>zp lc x
 | .cut x=>zp lc x
 | .rangeF j _ ps x y=>lc j=some (ps,x,y)∧jx x=true∧jx y=true
 | _=>True
omit [Cur] in
theorem zp.of_no{lc:x7}:∀{c:ICode},jx c=true->zp lc c
 | .seq x y,h=>by
  have h:=(Bool.and_eq_true _ _ ▸ h:jx x=true∧jx y=true);exact⟨zp.of_no h.1,zp.of_no h.2⟩
 | .cond _ x y,h=>by
  have h:=(Bool.and_eq_true _ _ ▸ h:jx x=true∧jx y=true);exact⟨zp.of_no h.1,zp.of_no h.2⟩
 | .blk _ x,h=>zp.of_no (c:=x) h
 | .loop x,h=>zp.of_no (c:=x) h
 | .cut x,h=>zp.of_no (c:=x) h
 | .rangeF _ _ _ _ _,h=>by cases h
 | .skip,_=>trivial
 | .reg _ _,_=>trivial
 | .exit _,_=>trivial
 | .ret,_=>trivial
 | .no,_=>trivial
structure SitesOk (P:Program) (env:Tr IFn) (lc:x7):Prop where
 into:∀j ps x y r,lc j=some (ps,x,y)->LoopOk P r ps x y->Cur.ok j r
 out:∀j ps x y r,lc j=some (ps,x,y)->Cur.ok j r->LoopOk P r ps x y
 flat:∀j ps x y,lc j=some (ps,x,y)->jx x=true∧jx y=true
 node:∀f i,env.get f=some i->zp lc i.body
omit [Cur] in
theorem qfJ{f fd:Nat}{i:IFn}(hc:wJ P f fd i=true):qby P f:=by
 unfold wJ at hc;simp only[Bool.and_eq_true] at hc;obtain⟨_,hc⟩:=hc;split at hc<;>try (cases hc;done)
 split at hc<;>try (cases hc;done)
 rename_i fn hfn;simp only[Bool.and_eq_true,bne_iff_ne] at hc;obtain⟨⟨hname,hc⟩,_⟩:=hc;split at hc<;>try (cases hc;done)
 rename_i hcb;exact⟨fn,hfn,hname,by rw[hcb];rfl⟩
def qbx(rsA rsB:List ROp)(d fd:Nat)(caps:List O)(y:ICode):ICode:=.seq (.reg false rsA) (.seq (.reg false rsB) (.seq (.reg false [⟨some d,.op (.mkF fd [] caps),none⟩]) y))
def kX(P:Program)(env:Tr IFn):Prop:=∀f i,env.get f=some i->qh P f i=true∨∃rsA rsB d fd caps y,i.body=qbx rsA rsB d fd caps y∧wJ P f fd i=true
structure RunOk (P:Program) (lc:x7) (ih:kW):Prop where
 s:∀c,zp lc c->∀Q t h,ih c Q t h->∀n,S P n c Q t h
 d:∀rsA rsB d fd caps y,zp lc y->∀Q t h,ih (qbx rsA rsB d fd caps y) Q t h->∀n,SDf P n fd (qbx rsA rsB d fd caps y) Q t h
theorem Ql{env:Tr IFn}{lc:x7}(he:kX P env)(hs:SitesOk P env lc){ih:kW}(hi:RunOk P lc ih){f:Nat}{vs:List AV}{h:Hp}{k:AV->Hp->Prop}(hk:qaw env ih f vs h k):SC P f vs h k:=by
 obtain⟨fn,g1,g2⟩:=(Tr.getK_iff _ _ _).1 hk;have hn:=hs.node f _ g1;cases fn with
 | mk res body =>
  have g3:=qbv.1 g2;rcases he f _ g1 with hc|⟨rsA,rsB,d,fd,caps,y,hb,hc⟩
  ·exact SC.mk hc (hi.s _ hn _ _ _ g3 h.sz)
  ·have hb:body=qbx rsA rsB d fd caps y:=hb;subst hb;exact SC.mkDS hc (hi.d _ _ _ _ _ _ hn.2.2.2 _ _ _ g3 h.sz)
theorem jQ{env:Tr IFn}{ho:Qb}{lc:x7}(he:kX P env)(hh:QG P ho)(hs:SitesOk P env lc){ih:kW}(hi:RunOk P lc ih):x8 P σ0 (Q8 env ho lc ih):=by
 refine⟨fun f vs h k hk=>?_,fun b us h k hk=>?_⟩
 ·have hk':qav env ho ih f vs h k:=hk;unfold qav at hk';cases hv:ho f vs with
  | none=>rw[hv] at hk';exact Ql he hs hi hk'
  | some v=>rw[hv] at hk';exact hh f vs v hv h k hk'
 ·have hk':ylR lc ih b us h k:=hk;obtain⟨r,ts,hg,h2,_⟩:=kn hk';obtain⟨j,hj,h2⟩:=y3 h2;obtain⟨ps,ai,bi,hl,h2⟩:=qgq h2;obtain⟨hb,h2⟩:=(qa _ _).1 h2;simp only[Bool.and_eq_true] at hb;obtain⟨b1,b2,b3⟩:=hb;rw[w6] at b1 b2;have b1:=of_decide_eq_true b1;have b2:=of_decide_eq_true b2;have b3:=Nat.eq_of_beq_eq_true b3;have h2:=(y8 (Zq.1 h2)).1;obtain⟨fa,fb⟩:=hs.flat j ps ai bi hl;refine SY.mkL hg (ps:=ps) (ai:=ai) (bi:=bi) (fun r' hl'=>?_) b1 b2 b3 ?_
  ·rcases hl' with⟨_,h0⟩|⟨j',e1,e2,_,_⟩
   ·exact absurd hj (h0 j)
   ·rw[hj] at e1;cases e1;exact hs.out j ps ai bi r' hl e2
  ·refine (hi.s ai (zp.of_no fa) _ _ _ h2 h.sz).mono fun e t1 h1 hq=>?_
   cases e with
   | exit id=>exact hq
   | ret=>exact hq
   | normal =>
    obtain⟨r1,ts1,g1,hq,_⟩:=kn hq;obtain⟨j1,hj1,hq⟩:=y3 hq;obtain⟨hr1,hq⟩:=qek hq;obtain⟨_,hq⟩:=(zf _ _ _ _).1 hq;refine⟨r1,ts1,tpl j1 .busy r1.pending,g1,hr1,fun q hlq=>?_,?_⟩
    ·have e:tpl j1 .busy r1.pending=tpl j1 .busy q.pending:=by rw[hlq.pending]
     rw[e];exact jB.tpl hj1 hlq .busy q.pending
    ·refine (hi.s bi (zp.of_no fb) _ _ _ hq h.sz).mono fun e t3 h3 hq=>?_
     obtain⟨r3,ts3,g3,hq,_⟩:=kn hq;obtain⟨j3,hj3,hq⟩:=y3 hq;cases e with
     | normal =>
      obtain⟨_,hq⟩:=(zf _ _ _ _).1 hq;exact⟨r3,ts3,_,g3,fun q hlq=>jB.tpl hj3 hlq .ready none,hq⟩
     | exit id =>
      obtain⟨_,hq⟩:=(zf _ _ _ _).1 hq;exact⟨r3,ts3,_,g3,fun q hlq=>jB.tpl hj3 hlq .done (some (.exit id)),hq⟩
     | ret =>
      obtain⟨_,hq⟩:=(zf _ _ _ _).1 hq;exact⟨r3,ts3,_,g3,fun q hlq=>jB.tpl hj3 hlq .done (some .ret),hq⟩
theorem qrg{env:Tr IFn}{ho:Qb}{lc:x7}(he:kX P env)(hh:QG P ho)(hs:SitesOk P env lc):∀m,(∀m',m'<m->RunOk P lc (fr env ho lc m'))->∀rsA rsB d fd caps y,zp lc y->∀Q t h,fr env ho lc m (qbx rsA rsB d fd caps y) Q t h->∀n,SDf P n fd (qbx rsA rsB d fd caps y) Q t h
 | 0,_,_,_,_,_,_,_,_,_,_,_,h=>fun _=>h.elim
 | 1,_,_,_,_,_,_,_,_,_,_,_,h=>fun _=>h.elim
 | 2,_,_,_,_,_,_,_,_,_,_,_,h=>fun _=>by
  have h':v4 qp false _ _ (fun t h=>False) _ _:=h
  obtain⟨_,_,hf,_⟩:=yN qp false (ku env ho lc (qd9 env ho lc 0)) _ _ _ _ h';exact hf.elim
 | 3,_,_,_,_,_,_,_,_,_,_,_,h=>fun _=>by
  have h':v4 qp false _ _ (fun t h=>v4 qp false _ _ (fun t h=>False) t h) _ _:=h
  obtain⟨_,_,hf,_⟩:=yN qp false (ku env ho lc (qd9 env ho lc 1)) _ _ _ _ h';obtain⟨_,_,hf,_⟩:=yN qp false (ku env ho lc (qd9 env ho lc 0)) _ _ _ _ hf;exact hf.elim
 | m+4,hr,rsA,rsB,d,fd,caps,y,hy,Q,t,h,hq=>fun n=>by
  have hq:v4 qp false (Q8 env ho lc (fr env ho lc (m+2))) rsA (fun t h=>v4 qp false (Q8 env ho lc (fr env ho lc (m+1))) rsB (fun t h=>v4 qp false (Q8 env ho lc (fr env ho lc m)) [⟨some d,.op (.mkF fd [] caps),none⟩] (fun t h=>fr env ho lc (m+1) y Q t h) t h) t h) t h:=hq
  obtain⟨t1,h1,q1,b1⟩:=yN qp false (ku env ho lc (qd9 env ho lc (m+2))) _ _ _ _ hq;obtain⟨t2,h2,q2,b2⟩:=yN qp false (ku env ho lc (qd9 env ho lc (m+1))) _ _ _ _ q1;have sA:=jQ he hh hs (hr (m+2) (by omega));have sB:=jQ he hh hs (hr (m+1) (by omega));have sD:=jQ he hh hs (hr m (by omega));refine⟨_,sA,b1 _ ⟨_,sB,b2 _ ⟨_,sD,?_⟩⟩⟩;have q3:xh t2 caps (fun cs=>xc t2 (some d) (.fn fd [] cs) (fun t'=>fr env ho lc (m+1) y Q t' h2)):=q2
  obtain⟨cs,q4,b4⟩:=yg _ _ _ q3;show xh t2 caps (fun cs=>xc t2 (some d) (.fn fd [] cs) (fun t'=>qag fd _ t'∧S P n y Q t' h2))
  refine b4 _ ?_;have q5:=(Tr.setK_iff (t:=t2) (n:=d) (x:=AV.fn fd [] cs) (k:=fun t'=>fr env ho lc (m+1) y Q t' h2)).1 q4
  refine (Tr.setK_iff (t:=t2) (n:=d) (x:=AV.fn fd [] cs) (k:=fun t'=>qag fd _ t'∧S P n y Q t' h2)).2 ⟨⟨d,cs,rfl,by simp[Tr.get_set]⟩,?_⟩
  exact (hr (m+1) (by omega)).s y hy _ _ _ q5 n
theorem qde{env:Tr IFn}{ho:Qb}{lc:x7}(he:kX P env)(hh:QG P ho)(hs:SitesOk P env lc):∀m,(∀m',m'<=m->RunOk P lc (fr env ho lc m'))∧(∀x,zp lc x->∀Q t h,fr env ho lc m (.loop x) Q t h->∀n,SL P n x Q t h)
 | 0 => ⟨fun m' hm => by obtain rfl:m'=0:=by omega
                         exact⟨fun _ _ _ _ _ h=>h.elim,fun _ _ _ _ _ _ _ _ _ _ h=>h.elim⟩,fun _ _ _ _ _ h=>h.elim⟩
 | m+1=>by
  obtain⟨ihA,ihl⟩:=qde he hh hs m;have ihR:=ihA m (Nat.le_refl _);have ih:=ihR.s
  have loop:∀x,zp lc x->∀Q t h,fr env ho lc (m+1) (.loop x) Q t h->∀n,SL P n x Q t h:=by
   intro x hx Q t h hv n;have hv':fr env ho lc m x (fun e t h=>onX e (fr env ho lc m (.loop x) Q t h) (fun id=>Q (.exit id) t h) (Q .ret t h)) t h:=hv
   refine SL.of_S ((ih _ hx _ _ _ hv' n).mono ?_);intro e t h hq;cases e with
   | normal=>exact ihl x hx Q t h hq n
   | exit id=>exact hq
   | ret=>exact hq
  refine⟨fun m' hm=>?_,loop⟩
  rcases Nat.lt_or_eq_of_le hm with hm|rfl
  ·exact ihA m' (by omega)
  refine⟨fun c hc Q t h hv n=>?_,qrg he hh hs (m+1) (fun m' hm=>ihA m' (by omega))⟩
  cases c with
  | no=>exact hv.elim
  | rangeF j g ps x y =>
   obtain⟨hl,hx,hy⟩:=hc;obtain⟨v,g1,g2⟩:=ql t g _ hv;cases v<;>try exact (g1:False).elim
   rename_i f first cap
   obtain⟨g3,g4⟩:=(qa _ _).1 g1;rw[w6] at g3;obtain⟨ts,g5,g6,_⟩:=Zo t 0 1 [] _ g4;rw[Q7,qS] at g5;refine S.rangeFL (ts:=ts) (by simpa using g3) (fun p hp=>?_) ⟨hx,hy⟩ (g2 _ ?_)
   ·rcases g6 p hp with hp|⟨n,e1,e2⟩
    ·cases hp
    ·rw[e1];simpa using e2
   ·obtain⟨fn,e1,e2⟩:=(Tr.getK_iff _ _ _).1 g5;refine⟨(he f _ e1).elim ya (fun⟨_,_,_,_,_,_,_,hc⟩=>qfJ hc),fun r0 hr0 hp0 hlo=>⟨tpl j .ready none,.inr ⟨j,rfl,hs.into j ps x y r0 hl hlo,hr0,hp0⟩,?_⟩⟩
    refine (Ql he hs ihR g5).mono fun _ h' hq=>?_
    obtain⟨r,ts',q1,q2,_⟩:=kn hq;obtain⟨q3,q4⟩:=qbA q2;obtain⟨_,q5⟩:=(zf _ _ _ _).1 q4;refine⟨r,ts',q1,q3,?_⟩;cases hp:r.pending with
    | none=>rw[hp] at q5;exact q5
    | some c=>rw[hp] at q5;cases c<;>exact q5
  | cut x =>
   have hv':fr env ho lc m x Q t h:=hv;exact qr (c:=.cut x) (ih x hc _ _ _ hv' n)
  | skip=>exact qr (c:=.skip) hv
  | exit id=>exact qr (c:=.exit id) hv
  | ret=>exact qr (c:=.ret) hv
  | reg d ops=>exact S.reg (ku env ho lc (qd9 env ho lc m)) (jQ he hh hs ihR) hv
  | seq x y =>
   have hv':fr env ho lc m x (fun e t h=>onX e (fr env ho lc m y Q t h) (fun id=>Q (.exit id) t h) (Q .ret t h)) t h:=hv
   refine S.seq ((ih _ hc.1 _ _ _ hv' n).mono ?_);intro e t h hq;cases e with
   | normal=>exact ih y hc.2 Q t h hq n
   | exit id=>exact hq
   | ret=>exact hq
  | cond c x y =>
   obtain⟨v,g1,g2⟩:=ql t c _ hv;refine S.cond (g2 _ ?_);obtain⟨b,g3,g4⟩:=Zy v _ g1;refine g4 _ ?_;cases b with
   | true=>exact ih _ hc.1 _ _ _ g3 n
   | false=>exact ih _ hc.2 _ _ _ g3 n
  | blk id x =>
   have hv':fr env ho lc m x (fun e t h=>X.rec (motive:=fun _=>Prop) (Q .normal t h) (fun id'=>Bool.rec (motive:=fun _=>Prop) (Q (.exit id') t h) (Q .normal t h) (Nat.beq id' id)) (Q .ret t h) e) t h:=hv
   refine S.blk ((ih x hc _ _ _ hv' n).mono ?_);intro e t h hq;cases e with
   | normal=>exact hq
   | ret=>exact hq
   | exit i =>
    have hq':(Bool.rec (motive:=fun _=>Prop) (Q (.exit i) t h) (Q .normal t h) (Nat.beq i id):Prop):=hq
    show (if i=id then _ else _)
    by_cases hi:i=id
    ·subst hi;rw[Nat.beq_refl] at hq';rw[if_pos rfl];exact hq'
    ·rw[if_neg hi];cases hb:Nat.beq i id with
     | true=>exact absurd (Nat.eq_of_beq_eq_true hb) hi
     | false=>rw[hb] at hq';exact hq'
  | loop x=>exact S.loop (loop x hc Q t h hv n)
theorem SC.runR{env:Tr IFn}{ho:Qb}{lc:x7}(he:kX P env)(hh:QG P ho)(hs:SitesOk P env lc)(m:Nat){f:Nat}{vs:List AV}{h:Hp}{k:AV->Hp->Prop}(hk:Q8 env ho lc (fr env ho lc m) (Nat.succ f) vs h k):SC P f vs h k:=(jQ he hh hs ((qde he hh hs m).1 m (Nat.le_refl _))).1 f vs h k hk
theorem qb.runR{env:Tr IFn}{ho:Qb}{lc:x7}(he:kX P env)(hh:QG P ho)(hs:SitesOk P env lc)(m:Nat){f:Nat}{vs:List AV}{v:AV}(hcl:qx vs=true)(hk:Q8 env ho lc (fr env ho lc m) (Nat.succ f) vs H0 (fun v' h'=>Frz h' v' v)):qb P f vs v:=qb.of_SC hcl (SC.runR he hh hs m hk)
end Go.Kc
end
section
namespace Go.Kc
@[reducible] def qpO (P:Program) (lc:x7):Cur:=⟨fun j r=>∃ps x y,lc j=some (ps,x,y)∧LoopOk P r ps x y,fun _ _ ⟨ps,x,y,h1,h2⟩=>⟨ps,x,y,h1,⟨h2.params,h2.code,h2.flat,h2.real⟩⟩⟩
inductive AllT (p:Nat->IFn->Bool):Nat->Nat->Tr IFn->Prop where
 | leaf (a b:Nat):AllT p a b .leaf
 | no (a b:Nat) {l r:Tr IFn}:AllT p (2*a) (a+b) l->AllT p (2*a) (2*a+b) r->AllT p a b (.node none l r)
 | fn (a b:Nat) {i:IFn} {l r:Tr IFn}:p b i=true->AllT p (2*a) (a+b) l->AllT p (2*a) (2*a+b) r->AllT p a b (.node (some i) l r)

theorem AllT.get{p:Nat->IFn->Bool}{a b:Nat}{t:Tr IFn}(h:AllT p a b t):∀n i,t.get n=some i->p (a*n+b) i=true:=by
 induction h with
 | leaf=>intro n i h;simp at h
 | no a b hl hr ihl ihr =>
  intro n i h;cases n with
  | zero=>rw[Tr.get_node] at h;cases h
  | succ m =>
   rcases Nat.mod_two_eq_zero_or_one m with h0|h0
   ·obtain⟨j,rfl⟩:∃j,m=2*j:=⟨m / 2,by omega⟩
    rw[Tr.get_node] at h;simp only[h0,if_true,Nat.mul_div_cancel_left j (Nat.zero_lt_two)] at h;have:=ihl j i h;rwa [show 2*a*j+(a+b)=a*(2*j+1)+b from by rw[Nat.mul_add,Nat.mul_one,← Nat.mul_assoc,Nat.mul_comm a 2];omega] at this
   ·obtain⟨j,rfl⟩:∃j,m=2*j+1:=⟨m / 2,by omega⟩
    rw[Tr.get_node] at h;simp only[h0,Nat.one_ne_zero,if_false,show (2*j+1) / 2=j from by omega] at h
    have:=ihr j i h;rwa [show 2*a*j+(2*a+b)=a*(2*j+1+1)+b from by rw[Nat.mul_add,Nat.mul_add,Nat.mul_one,← Nat.mul_assoc,Nat.mul_comm a 2];omega] at this
 | fn a b hc hl hr ihl ihr =>
  intro n i h;cases n with
  | zero=>rw[Tr.get_node] at h;cases h;simpa using hc
  | succ m =>
   rcases Nat.mod_two_eq_zero_or_one m with h0|h0
   ·obtain⟨j,rfl⟩:∃j,m=2*j:=⟨m / 2,by omega⟩
    rw[Tr.get_node] at h;simp only[h0,if_true,Nat.mul_div_cancel_left j (Nat.zero_lt_two)] at h;have:=ihl j i h;rwa [show 2*a*j+(a+b)=a*(2*j+1)+b from by rw[Nat.mul_add,Nat.mul_one,← Nat.mul_assoc,Nat.mul_comm a 2];omega] at this
   ·obtain⟨j,rfl⟩:∃j,m=2*j+1:=⟨m / 2,by omega⟩
    rw[Tr.get_node] at h;simp only[h0,Nat.one_ne_zero,if_false,show (2*j+1) / 2=j from by omega] at h
    have:=ihr j i h;rwa [show 2*a*j+(2*a+b)=a*(2*j+1+1)+b from by rw[Nat.mul_add,Nat.mul_add,Nat.mul_one,← Nat.mul_assoc,Nat.mul_comm a 2];omega] at this

noncomputable def qdX(p:Nat->IFn->Bool):Tr IFn->Nat->Nat->Bool:=fun t=>Tr.rec (motive:=fun _=>Nat->Nat->Bool) (fun _ _=>true) (fun v _ _ il ir a b=>(match v with|none=>true|some i=>p b i)&&(il (2*a) (a+b)&&ir (2*a) (2*a+b))) t
theorem yR{p:Nat->IFn->Bool}:∀(t:Tr IFn) (a b:Nat),qdX p t a b=true->AllT p a b t
 | .leaf,a,b,_=>.leaf a b
 | .node none l r,a,b,h=>by
  have h':(true&&(qdX p l (2*a) (a+b)&&qdX p r (2*a) (2*a+b)))=true:=h;simp only[Bool.and_eq_true] at h';exact .no a b (yR l _ _ h'.2.1) (yR r _ _ h'.2.2)
 | .node (some i) l r,a,b,h=>by
  have h':(p b i&&(qdX p l (2*a) (a+b)&&qdX p r (2*a) (2*a+b)))=true:=h;simp only[Bool.and_eq_true] at h';exact .fn a b h'.1 (yR l _ _ h'.2.1) (yR r _ _ h'.2.2)
def qfg(l:List (List Nat×ICode×ICode)):x7:=fun j=>l[j]?
theorem qqX{P:Program}{env:Tr IFn}{l:List (List Nat×ICode×ICode)}{L:List Nat}(hflat:(l.all fun x=>jx x.2.1&&jx x.2.2)=true)(hn:qdX (fun n i=>jx i.body||L.any (Nat.beq n)) env 1 0=true)
  (hL:∀f ∈ L,∀i,env.get f=some i->zp (qfg l) i.body):@SitesOk (qpO P (qfg l)) P env (qfg l):=by
 letI:=qpO P (qfg l)
 refine⟨fun j ps x y r h1 h2=>⟨ps,x,y,h1,h2⟩,fun j ps x y r h1 ⟨ps',x',y',h2,h3⟩=>?_,fun j ps x y h=>?_,fun f i hg=>?_⟩
 ·rw[h1] at h2;cases h2;exact h3
 ·have:=List.all_eq_true.1 hflat _ (zzM h);simpa using this
 ·have h:=(yR env 1 0 hn).get f i hg;rw[Nat.one_mul] at h;rcases (Bool.or_eq_true _ _ ▸ h:jx i.body=true∨L.any (Nat.beq (f+0))=true) with h|h
  ·exact zp.of_no h
  ·obtain⟨g,hg1,hg2⟩:=List.any_eq_true.1 h;have:=Nat.eq_of_beq_eq_true hg2;exact hL f (by have e:f=g:=this;rw[e];exact hg1) i hg
def qer(fd:Nat)(i:IFn):Bool:=match i.body with
 | .seq (.reg false _) (.seq (.reg false _) (.seq (.reg false [⟨some _,.op (.mkF g [] _),none⟩]) _))=>Nat.beq g fd
 | _=>false
theorem qrb{P:Program}{env:Tr IFn}{D:List (Nat×Nat)}(h:qdX (fun n i=>qh P n i||D.any fun p=>Nat.beq p.1 n&&(qer p.2 i&&wJ P n p.2 i)) env 1 0=true):kX P env:=by
 intro f i hg;have h:=(yR env 1 0 h).get f i hg;rw[Nat.one_mul,Nat.add_zero] at h;rcases (Bool.or_eq_true _ _ ▸ h:qh P f i=true∨(D.any fun p=>Nat.beq p.1 f&&(qer p.2 i&&wJ P f p.2 i))=true) with h|h
 ·exact .inl h
 ·obtain⟨p,_,hp⟩:=List.any_eq_true.1 h;simp only[Bool.and_eq_true] at hp;obtain⟨_,h1,h2⟩:=hp;refine .inr ?_;unfold qer at h1;split at h1<;>try (cases h1;done)
  rename_i rsA rsB d g caps y hb;have e:=Nat.eq_of_beq_eq_true h1;rw[e] at hb;exact⟨rsA,rsB,d,p.2,caps,y,hb,h2⟩
end Go.Kc
end
section
namespace Go.Kc
variable [Cur]
variable {P:Program}
mutual
noncomputable def lkA:AV->AV->Bool
 | .b x,v=>match v with | .b y=>(x&&y)||(!x && !y)|_=>false
 | .i k n,v=>match v with | .i k' m=>Nat.beq (kOf k) (kOf k')&&qkd n m|_=>false
 | .s x,v=>match v with | .s y=>eqS x y|_=>false
 | .nils,v=>match v with | .nils=>true|_=>false
 | .nilp,v=>match v with | .nilp=>true|_=>false
 | .nilf,v=>match v with | .nilf=>true|_=>false
 | .nili,v=>match v with | .nili=>true|_=>false
 | .nilm,v=>match v with | .nilm=>true|_=>false
 | .agg cs',v=>match v with | .agg cs=>qaU cs' cs|_=>false
 | .tup cs',v=>match v with | .tup cs=>qaU cs' cs|_=>false
 | .fz n cs',v=>match v with | .fz m cs=>Nat.beq n m&&qaU cs' cs|_=>false
 | _,_=>false
noncomputable def qaU:List AV->List AV->Bool
 | [],vs=>vs.isEmpty
 | v'::vs',vs=>match vs with|v::vs=>lkA v' v&&qaU vs' vs | []=>false
end
mutual
theorem qnh:∀(v' v:AV),lkA v' v=true->v'=v
 | .b x,v,hb=>by
  unfold lkA at hb;split at hb<;>first|(cases hb;done)|skip
  rename_i y;have:x=y:=by cases x<;>cases y<;>first|rfl|cases hb
  rw[this]
 | .i k n,v,hb=>by
  unfold lkA at hb;split at hb<;>first|(cases hb;done)|skip
  simp only[Bool.and_eq_true] at hb;rw[qch hb.1,qcg hb.2]
 | .s x,v,hb=>by
  unfold lkA at hb;split at hb<;>first|(cases hb;done)|skip
  rw[qcd hb]
 | .nils,v,hb=>by unfold lkA at hb;split at hb<;>first|(cases hb;done)|rfl
 | .nilp,v,hb=>by unfold lkA at hb;split at hb<;>first|(cases hb;done)|rfl
 | .nilf,v,hb=>by unfold lkA at hb;split at hb<;>first|(cases hb;done)|rfl
 | .nili,v,hb=>by unfold lkA at hb;split at hb<;>first|(cases hb;done)|rfl
 | .nilm,v,hb=>by unfold lkA at hb;split at hb<;>first|(cases hb;done)|rfl
 | .agg cs',v,hb=>by
  unfold lkA at hb;split at hb<;>first|(cases hb;done)|skip
  rw[y2 cs' _ hb]
 | .tup cs',v,hb=>by
  unfold lkA at hb;split at hb<;>first|(cases hb;done)|skip
  rw[y2 cs' _ hb]
 | .fz n cs',v,hb=>by
  unfold lkA at hb;split at hb<;>first|(cases hb;done)|skip
  simp only[Bool.and_eq_true] at hb;rw[Nat.eq_of_beq_eq_true hb.1,y2 cs' _ hb.2]
 | .undef,v,hb=>by unfold lkA at hb;cases hb
 | .ptr _ _,v,hb=>by unfold lkA at hb;cases hb
 | .sl _ _ _ _ _,v,hb=>by unfold lkA at hb;cases hb
 | .fn _ _ _,v,hb=>by unfold lkA at hb;cases hb
 | .ifc _ _,v,hb=>by unfold lkA at hb;cases hb
 | .map _,v,hb=>by unfold lkA at hb;cases hb
 | .sym _,v,hb=>by unfold lkA at hb;cases hb
 | .pf _ _,v,hb=>by unfold lkA at hb;cases hb
 | .e0,v,hb=>by unfold lkA at hb;cases hb
 | .own _ _,v,hb=>by unfold lkA at hb;cases hb
 | .nz,v,hb=>by unfold lkA at hb;cases hb
 | .yl _,v,hb=>by unfold lkA at hb;cases hb
 | .lp _,v,hb=>by unfold lkA at hb;cases hb
theorem y2:∀(vs' vs:List AV),qaU vs' vs=true->vs'=vs
 | [],vs,hb=>by
  unfold qaU at hb;have:vs=[]:=by simpa using hb
  rw[this]
 | v'::vs',vs,hb=>by
  unfold qaU at hb;split at hb<;>first|(cases hb;done)|skip
  simp only[Bool.and_eq_true] at hb;rw[qnh v' _ hb.1,y2 vs' _ hb.2]
end
mutual
noncomputable def jD(h:Hp):AV->AV->Bool
 | .b x,v=>match v with | .b y=>(x&&y)||(!x && !y)|_=>false
 | .i k n,v=>match v with | .i k' m=>Nat.beq (kOf k) (kOf k')&&qkd n m|_=>false
 | .s x,v=>match v with | .s y=>eqS x y|_=>false
 | .nils,v=>match v with | .nils=>true|_=>false
 | .nilp,v=>match v with | .nilp=>true|_=>false
 | .nilf,v=>match v with | .nilf=>true|_=>false
 | .nili,v=>match v with | .nili=>true|_=>false
 | .nilm,v=>match v with | .nilm=>true|_=>false
 | .agg cs',v=>match v with | .agg cs=>ZW h cs' cs|_=>false
 | .tup cs',v=>match v with | .tup cs=>ZW h cs' cs|_=>false
 | .fz n cs',v=>match v with
  | .nils=>Nat.beq n 0&&cs'.isEmpty
  | .fz m cs=>Nat.beq n m&&qaU cs' cs
  | .sl b o m c _=>Nat.beq n m&&Nat.ble m c && !(Nat.beq c 0)&&(match h.tr.get b with|some (.cells _ true _ cs)=>Nat.ble (o+cs'.length) cs.length&&ZW h cs' ((cs.drop o).take cs'.length)|_=>false)
  | .own b m=>Nat.beq n m && !(Nat.beq m 0)&&(match h.tr.get b with|some (.cells _ true _ ys)=>ZW h cs' ys|_=>false)
  | _=>false
 | _,_=>false
noncomputable def ZW(h:Hp):List AV->List AV->Bool
 | [],vs=>vs.isEmpty
 | v'::vs',vs=>match vs with|v::vs=>jD h v' v&&ZW h vs' vs | []=>false
end
mutual
theorem qeQ{h:Hp}:∀(v' v:AV),jD h v' v=true->Frz h v v'
 | .b x,v,hb=>by
  unfold jD at hb;split at hb<;>first|(cases hb;done)|skip
  rename_i y;have:y=x:=by cases x<;>cases y<;>first|rfl|cases hb
  subst this;exact .b _
 | .i k n,v,hb=>by
  unfold jD at hb;split at hb<;>first|(cases hb;done)|skip
  simp only[Bool.and_eq_true] at hb;obtain rfl:=qch hb.1;obtain rfl:=qcg hb.2;exact .i _ _
 | .s x,v,hb=>by
  unfold jD at hb;split at hb<;>first|(cases hb;done)|skip
  obtain rfl:=qcd hb;exact .s _
 | .nils,v,hb=>by unfold jD at hb;split at hb<;>first|(cases hb;done)|exact .nils
 | .nilp,v,hb=>by unfold jD at hb;split at hb<;>first|(cases hb;done)|exact .nilp
 | .nilf,v,hb=>by unfold jD at hb;split at hb<;>first|(cases hb;done)|exact .nilf
 | .nili,v,hb=>by unfold jD at hb;split at hb<;>first|(cases hb;done)|exact .nili
 | .nilm,v,hb=>by unfold jD at hb;split at hb<;>first|(cases hb;done)|exact .nilm
 | .agg cs',v,hb=>by
  unfold jD at hb;split at hb<;>first|(cases hb;done)|skip
  exact .agg _ _ (yj cs' _ hb)
 | .tup cs',v,hb=>by
  unfold jD at hb;split at hb<;>first|(cases hb;done)|skip
  exact .tup _ _ (yj cs' _ hb)
 | .fz n cs',v,hb=>by
  unfold jD at hb;split at hb<;>first|(cases hb;done)|skip
  ·simp only[Bool.and_eq_true] at hb;obtain rfl:=Nat.eq_of_beq_eq_true hb.1;have:cs'=[]:=by simpa using hb.2
   rw[this];exact .nilz
  ·simp only[Bool.and_eq_true] at hb;rw[Nat.eq_of_beq_eq_true hb.1,y2 _ _ hb.2];exact .fz _ _
  ·simp only[Bool.and_eq_true] at hb;obtain⟨⟨⟨h1,h2⟩,h3⟩,h4⟩:=hb;obtain rfl:=Nat.eq_of_beq_eq_true h1;split at h4<;>first|(cases h4;done)|skip
   rename_i hg;simp only[Bool.and_eq_true] at h4;refine .sl _ _ _ _ _ _ _ _ cs'.length _ hg (Nat.le_of_ble_eq_true h2) (Nat.le_of_ble_eq_true h4.1) (fun h0=>?_) (yj cs' _ h4.2)
   subst h0;cases h3
  ·simp only[Bool.and_eq_true] at hb;obtain⟨⟨h1,h2⟩,h4⟩:=hb;obtain rfl:=Nat.eq_of_beq_eq_true h1;split at h4<;>first|(cases h4;done)|skip
   rename_i hg;refine .own _ _ _ _ _ _ hg (fun h0=>?_) (yj cs' _ h4)
   subst h0;cases h2
 | .undef,v,hb=>by unfold jD at hb;cases hb
 | .ptr _ _,v,hb=>by unfold jD at hb;cases hb
 | .sl _ _ _ _ _,v,hb=>by unfold jD at hb;cases hb
 | .fn _ _ _,v,hb=>by unfold jD at hb;cases hb
 | .ifc _ _,v,hb=>by unfold jD at hb;cases hb
 | .map _,v,hb=>by unfold jD at hb;cases hb
 | .sym _,v,hb=>by unfold jD at hb;cases hb
 | .pf _ _,v,hb=>by unfold jD at hb;cases hb
 | .e0,v,hb=>by unfold jD at hb;cases hb
 | .own _ _,v,hb=>by unfold jD at hb;cases hb
 | .nz,v,hb=>by unfold jD at hb;cases hb
 | .yl _,v,hb=>by unfold jD at hb;cases hb
 | .lp _,v,hb=>by unfold jD at hb;cases hb
theorem yj{h:Hp}:∀(vs' vs:List AV),ZW h vs' vs=true->Frzs h vs vs'
 | [],vs,hb=>by
  unfold ZW at hb;have:vs=[]:=by simpa using hb
  rw[this];exact .nil
 | v'::vs',vs,hb=>by
  unfold ZW at hb;split at hb<;>first|(cases hb;done)|skip
  simp only[Bool.and_eq_true] at hb;exact .cons _ _ _ _ (qeQ v' _ hb.1) (yj vs' _ hb.2)
end
abbrev qap:=List (List AV×AV)
noncomputable def qeW(vs:List AV)(l:qap):Option AV:=List.rec (motive:=fun _=>Option AV) none (fun e _ ih=>Bool.rec (motive:=fun _=>Option AV) ih (some e.2) (qaU e.1 vs)) l
theorem qdt{vs:List AV}{v:AV}:∀{l:qap},qeW vs l=some v->(vs,v) ∈ l
 | [],h=>by cases h
 | e::l,h=>by
  have h':(Bool.rec (motive:=fun _=>Option AV) (qeW vs l) (some e.2) (qaU e.1 vs):Option AV)=some v:=h
  cases he:qaU e.1 vs with
  | true =>
   rw[he] at h';have h2:e.2=v:=Option.some.inj h';have h1:=y2 _ _ he;obtain⟨e1,e2⟩:=e;subst h1 h2;exact .head _
  | false=>rw[he] at h';exact .tail _ (qdt h')
noncomputable def qlx(L:List (Nat×qap)):Qb:=fun f vs=>List.rec (motive:=fun _=>Option AV) none (fun e _ ih=>Bool.rec (motive:=fun _=>Option AV) ih (qeW vs e.2) (Nat.beq e.1 f)) L
theorem qhK:∀{L:List (Nat×qap)},(∀e ∈ L,∀q ∈ e.2,qb P e.1 q.1 q.2)->QG P (qlx L)
 | [],_=>fun _ _ _ h=>by cases h
 | e::L,hL=>fun f vs v h=>by
  have h':(Bool.rec (motive:=fun _=>Option AV) (qlx L f vs) (qeW vs e.2) (Nat.beq e.1 f):Option AV)=some v:=h
  cases he:Nat.beq e.1 f with
  | true =>
   rw[he] at h';have e1:=Nat.eq_of_beq_eq_true he;have:=hL e (.head _) _ (qdt h');rw[e1] at this;exact this
  | false=>rw[he] at h';exact qhK (fun e' he'=>hL e' (.tail _ he')) f vs v h'
theorem qoZ{f:Nat}:∀q ∈ ([]:qap),qb P f q.1 q.2:=fun _ h=>by cases h
theorem qna{f:Nat}{e:List AV×AV}{l:qap}(h:qb P f e.1 e.2)(hl:∀q ∈ l,qb P f q.1 q.2):∀q ∈ e::l,qb P f q.1 q.2:=fun q hq=>by
 rcases List.mem_cons.1 hq with rfl|hq
 ·exact h
 ·exact hl q hq
theorem qoY{f:Nat}{l m:qap}(hl:∀q ∈ l,qb P f q.1 q.2)(hm:∀q ∈ m,qb P f q.1 q.2):∀q ∈ l++m,qb P f q.1 q.2:=fun q hq=>(List.mem_append.1 hq).elim (hl q) (hm q)
theorem qb.runK{env:Tr IFn}{ho:Qb}{lc:x7}(he:kX P env)(hh:QG P ho)(hs:SitesOk P env lc)(m:Nat){f:Nat}{vs:List AV}{v:AV}(hcl:qx vs=true)(hk:Q8 env ho lc (fr env ho lc m) (Nat.succ f) vs H0 (fun v' h'=>tt (jD h' v v'))=True):qb P f vs v :=
 qb.of_SC hcl ((SC.runR he hh hs m (of_eq_true hk)).mono fun _ _ hv=>qeQ _ _ (qqC hv))
end Go.Kc
end
section
namespace Go.Kc
variable [Cur]
variable {P:Program} {f:Nat}

def ww:List (List UInt8×Int):=[([65,70,95,85,78,73,88],1),([65,70,95,73,78,69,84],2),([65,70,95,73,78,69,84,54],10),([65,70,95,78,69,84,76,73,78,75],16),([65,70,95,80,65,67,75,69,84],17),([65,70,95,66,76,85,69,84,79,79,84,72],31),([65,70,95,65,76,71],38),([65,70,95,86,83,79,67,75],40)]



end Go.Kc
end
section
namespace Go.Kc
variable [Cur]
def rI(k:IntKind)(l:List Int):List AV:=l.map (.i k)
section
variable {k:IntKind} {l m:List Int} {j:Nat}
theorem xf:(rI k l).length=l.length:=by simp[rI]
theorem zk:qx (rI k l)=true:=k9 fun _=>rfl
theorem qlK:qF (rI k l)=true:=qfG fun _=>rfl
theorem qa7:(rI k l)[j]?=(l[j]?).map (.i k):=by simp[rI]
theorem qej:rI k l++rI k m=rI k (l++m):=by simp[rI]
theorem qoh{x:Int}:rI k [x]=[.i k x]:=rfl
theorem qfb{x:Int}:rI k (x::l) = .i k x::rI k l:=rfl
end
section
variable {l m:List (List UInt8)} {j:Nat}
end
end Go.Kc
end
section
namespace Go.Kc
variable [Cur]
variable {P:Program} {f:Nat}
def Xc{α:Type}(p:α->Bool):List α->Nat->Int
 | [],_=>-1
 | x::xs,j=>if p x=true then (j:Int) else Xc p xs (j+1)
def qgZ(m:Nat)(P:Program)(f:Nat):Prop:=∀{α:Type} (enc:α->List AV) (p:α->Bool) (g:Nat) (a c:List AV) (l:List α),(∀x,(enc x).length=m)->qx a=true->qx c=true->l.length<=qe->
 (∀x ∈ l,qb P g (a++([.agg (enc x)]++c)) (.b (p x)))->qb P f [.fz l.length (l.flatMap enc),.fn g a c] (.i .i64 (Xc p l 0))




def qbi:List (List UInt8×Int):=[([120,56,54,45,54,52],3221225534),([120,56,54],1073741827),([120,51,50],3221225534),([97,114,109],1073741864),([97,114,109,54,52],3221225655),([114,105,115,99,118,54,52],3221225715)]
end Go.Kc
end
section
namespace Go.Kc
variable [Cur]
structure GCall where
 name:List UInt8
 act:Int
structure GNote where
 file:List UInt8
 line:Int
 err:Int
 text:List UInt8
structure Asg where
 file:List UInt8
 line:Int
 sec:List UInt8
 key:List UInt8
 val:List UInt8
section
variable {l m:List GCall} {j:Nat}
end
section
variable {l m:List GNote} {j:Nat}
end
structure GList where
 mode:Int
 calls:List GCall
structure Pol where
 arches:List Int
 filter:GList
 deny:Int
 log:GList
 fams:List Int
 fmode:Int
 spaces:Int
 we:Bool
 pe:Bool
 rt:Bool
 np:Bool
end Go.Kc
end
section
namespace Go.Kc
variable [Cur]
variable {P:Program} {f:Nat}



structure PolOk (p:Pol):Prop where
 a:p.arches.length<=1000
 f:p.fams.length<=1000
 c:p.filter.calls.length<=1000
 l:p.log.calls.length<=1000


end Go.Kc
end
section
namespace Go.Kc
variable [Cur]
def qpg(p:Pol):Prop:=p.arches.Pairwise (· < ·)∧p.fams.Pairwise (· < ·)
instance (p:Pol):Decidable (qpg p):=inferInstanceAs (Decidable (_∧_))
end Go.Kc
end
section
namespace Go.Kc
variable [Cur]
variable {P:Program} {f:Nat}




def qq1(n:Int):Bool:=decide (n=0)||decide (n=2147483648)||(decide (327680<=n)&&decide (n<=331775))

end Go.Kc
end
