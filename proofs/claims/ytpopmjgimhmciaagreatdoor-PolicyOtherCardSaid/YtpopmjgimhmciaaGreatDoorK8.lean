/- Part 8 of the abstract machine and of the functions' walks. Conditions: with each theorem. -/
import Derived.Test.YtpopmjgimhmciaaGreatDoorK7
set_option linter.unusedSimpArgs false
set_option linter.unusedVariables false
set_option linter.unnecessarySimpa false
section
/- What the setter's methods do: yes and no by their keys; architectures. Condition: the functions' texts are these. -/
namespace Go.Kc
variable {P:Program} {f:Nat}
def k9 (P:Program) (f:Nat) (M:Pol->List UInt8->Pol × List (Int × List UInt8)):Prop:=∀ (p:Pol) (a:Asg) (ns:List GNote) (v:List UInt8),v.length<=1000->ns.length<=1000->p.arches.length<=1000->p.fams.length<=1000->
 Upd P f [.ptr 0 0,.s v] [.cells 0 true false (qB p a 1 ns.length),.cells 4 true true (rN ns)] (.tup []) (qt (M p v).1 a ns ((M p v).2.map (qN a)))
noncomputable def qbp (p:Pol) (v:List UInt8):Pol × List (Int × List UInt8):=({ p with we:=(zz v).1.getD p.we },(zz v).2)
def xS (f_restrict_setter_says:Nat):IFn:=⟨[],.r [.m 4 (.t 0),.m 5 (.t 1),.m 6 (.t 0),.q 7 (.nilChk (.t 6)),.q 8 (.fAddr 0 (.t 7)),.q 9 (.fAddr 9 (.t 8)),.l 10 f_restrict_setter_says [.t 4,.t 5,.t 9]]⟩
theorem qrP {g:Nat} (hc:qm P f (xS g) = true) (h1:qhe P g):k9 P f qbp:=by
 intro p a ns v hv hn _ _
 refine Upd.mk hc (by simp [qW,bnd]) (by unfold qt; split <;> simp) ?_
 simp only [xS,qB,qh,H0,mkT,mkH,trL,vI,simprocAttr]
 simp only [↓vS,vT,shb,shv,qb,qc,cellsOf,wr,qa,simprocAttr]
 refine (h1 p a ns v (by simp only [qi]; omega)).sc (vs:=[.ptr 0 0,.s v,.ptr 0 9]) [0,1] (Lent.of (by decide) ?_) ?_
 ·simp [vL,shb,shv,qb,qW,bnd,qM,rnv,gAt,vw,qB,qJ qe,ql qe,qS,clo,qp]
 unfold qbp qt
 dsimp only
 by_cases hnew:(zz v).2.map (qN a) = []
 ·simp only [if_pos hnew]
  simp only [vK,qR,rnb,qM,rnv,gAt,simprocAttr,qB,ql qe,qp,clo]
  simp only [↓vS,vT,shb,shv,qb,qc,cellsOf,wr,qa,simprocAttr]
  intro _
  refine ⟨[0,1],?_⟩
  simp [vw,qd,qe]
  decide
 ·simp only [if_neg hnew]
  simp only [vK,qR,rnb,qM,rnv,gAt,simprocAttr,qB,ql qe,qp,clo]
  simp only [↓vS,vT,shb,shv,qb,qc,cellsOf,wr,qa,simprocAttr]
  intro _
  refine ⟨[0,1,2],?_⟩
  simp [vw,qd,qe]
  decide
noncomputable def qbn (p:Pol) (v:List UInt8):Pol × List (Int × List UInt8):=({ p with pe:=(zz v).1.getD p.pe },(zz v).2)
def jf (f_restrict_setter_says:Nat):IFn:=⟨[],.r [.m 4 (.t 0),.m 5 (.t 1),.m 6 (.t 0),.q 7 (.nilChk (.t 6)),.q 8 (.fAddr 0 (.t 7)),.q 9 (.fAddr 10 (.t 8)),.l 10 f_restrict_setter_says [.t 4,.t 5,.t 9]]⟩
theorem qrN {g:Nat} (hc:qm P f (jf g) = true) (h1:qeF P g):k9 P f qbn:=by
 intro p a ns v hv hn _ _
 refine Upd.mk hc (by simp [qW,bnd]) (by unfold qt; split <;> simp) ?_
 simp only [jf,qB,qh,H0,mkT,mkH,trL,vI,simprocAttr]
 simp only [↓vS,vT,shb,shv,qb,qc,cellsOf,wr,qa,simprocAttr]
 refine (h1 p a ns v (by simp only [qi]; omega)).sc (vs:=[.ptr 0 0,.s v,.ptr 0 10]) [0,1] (Lent.of (by decide) ?_) ?_
 ·simp [vL,shb,shv,qb,qW,bnd,qM,rnv,gAt,vw,qB,qJ qe,ql qe,qS,clo,qp]
 unfold qbn qt
 dsimp only
 by_cases hnew:(zz v).2.map (qN a) = []
 ·simp only [if_pos hnew]
  simp only [vK,qR,rnb,qM,rnv,gAt,simprocAttr,qB,ql qe,qp,clo]
  simp only [↓vS,vT,shb,shv,qb,qc,cellsOf,wr,qa,simprocAttr]
  intro _
  refine ⟨[0,1],?_⟩
  simp [vw,qd,qe]
  decide
 ·simp only [if_neg hnew]
  simp only [vK,qR,rnb,qM,rnv,gAt,simprocAttr,qB,ql qe,qp,clo]
  simp only [↓vS,vT,shb,shv,qb,qc,cellsOf,wr,qa,simprocAttr]
  intro _
  refine ⟨[0,1,2],?_⟩
  simp [vw,qd,qe]
  decide
noncomputable def qbo (p:Pol) (v:List UInt8):Pol × List (Int × List UInt8):=({ p with rt:=(zz v).1.getD p.rt },(zz v).2)
def jP (f_restrict_setter_says:Nat):IFn:=⟨[],.r [.m 4 (.t 0),.m 5 (.t 1),.m 6 (.t 0),.q 7 (.nilChk (.t 6)),.q 8 (.fAddr 0 (.t 7)),.q 9 (.fAddr 11 (.t 8)),.l 10 f_restrict_setter_says [.t 4,.t 5,.t 9]]⟩
theorem qrO {g:Nat} (hc:qm P f (jP g) = true) (h1:qeG P g):k9 P f qbo:=by
 intro p a ns v hv hn _ _
 refine Upd.mk hc (by simp [qW,bnd]) (by unfold qt; split <;> simp) ?_
 simp only [jP,qB,qh,H0,mkT,mkH,trL,vI,simprocAttr]
 simp only [↓vS,vT,shb,shv,qb,qc,cellsOf,wr,qa,simprocAttr]
 refine (h1 p a ns v (by simp only [qi]; omega)).sc (vs:=[.ptr 0 0,.s v,.ptr 0 11]) [0,1] (Lent.of (by decide) ?_) ?_
 ·simp [vL,shb,shv,qb,qW,bnd,qM,rnv,gAt,vw,qB,qJ qe,ql qe,qS,clo,qp]
 unfold qbo qt
 dsimp only
 by_cases hnew:(zz v).2.map (qN a) = []
 ·simp only [if_pos hnew]
  simp only [vK,qR,rnb,qM,rnv,gAt,simprocAttr,qB,ql qe,qp,clo]
  simp only [↓vS,vT,shb,shv,qb,qc,cellsOf,wr,qa,simprocAttr]
  intro _
  refine ⟨[0,1],?_⟩
  simp [vw,qd,qe]
  decide
 ·simp only [if_neg hnew]
  simp only [vK,qR,rnb,qM,rnv,gAt,simprocAttr,qB,ql qe,qp,clo]
  simp only [↓vS,vT,shb,shv,qb,qc,cellsOf,wr,qa,simprocAttr]
  intro _
  refine ⟨[0,1,2],?_⟩
  simp [vw,qd,qe]
  decide
noncomputable def qbm (p:Pol) (v:List UInt8):Pol × List (Int × List UInt8):=({ p with np:=(zz v).1.getD p.np },(zz v).2)
def xR (f_restrict_setter_says:Nat):IFn:=⟨[],.r [.m 4 (.t 0),.m 5 (.t 1),.m 6 (.t 0),.q 7 (.nilChk (.t 6)),.q 8 (.fAddr 0 (.t 7)),.q 9 (.fAddr 12 (.t 8)),.l 10 f_restrict_setter_says [.t 4,.t 5,.t 9]]⟩
theorem qrM {g:Nat} (hc:qm P f (xR g) = true) (h1:qeH P g):k9 P f qbm:=by
 intro p a ns v hv hn _ _
 refine Upd.mk hc (by simp [qW,bnd]) (by unfold qt; split <;> simp) ?_
 simp only [xR,qB,qh,H0,mkT,mkH,trL,vI,simprocAttr]
 simp only [↓vS,vT,shb,shv,qb,qc,cellsOf,wr,qa,simprocAttr]
 refine (h1 p a ns v (by simp only [qi]; omega)).sc (vs:=[.ptr 0 0,.s v,.ptr 0 12]) [0,1] (Lent.of (by decide) ?_) ?_
 ·simp [vL,shb,shv,qb,qW,bnd,qM,rnv,gAt,vw,qB,qJ qe,ql qe,qS,clo,qp]
 unfold qbm qt
 dsimp only
 by_cases hnew:(zz v).2.map (qN a) = []
 ·simp only [if_pos hnew]
  simp only [vK,qR,rnb,qM,rnv,gAt,simprocAttr,qB,ql qe,qp,clo]
  simp only [↓vS,vT,shb,shv,qb,qc,cellsOf,wr,qa,simprocAttr]
  intro _
  refine ⟨[0,1],?_⟩
  simp [vw,qd,qe]
  decide
 ·simp only [if_neg hnew]
  simp only [vK,qR,rnb,qM,rnv,gAt,simprocAttr,qB,ql qe,qp,clo]
  simp only [↓vS,vT,shb,shv,qb,qc,cellsOf,wr,qa,simprocAttr]
  intro _
  refine ⟨[0,1,2],?_⟩
  simp [vw,qd,qe]
  decide
def qj1 (P:Program) (f:Nat):Prop:=∀ (l:List Int) (n:Int) (is:Bool),l.length + 1<=qi->(l.length + 1) * 8<=qi->qg P f [.fz l.length (rI .i64 l),.i .i64 n,.b is] (.fz (jl l n is).length (rI .i64 (jl l n is)))
def qeI (P:Program) (f:Nat):Prop:=∀ (l:List Int) (n:Int) (is:Bool),l.length + 1<=qi->(l.length + 1) * 8<=qi->qg P f [.fz l.length (rI .u32 l),.i .u32 n,.b is] (.fz (jl l n is).length (rI .u32 (jl l n is)))
def qdU (P:Program) (f:Nat):Prop:=∀ s,qg P f [.s s] (.tup [.i .i64 (jx s).1,.i .i64 (jx s).2])
noncomputable def zt (s:List Int × List (Int × List UInt8)) (w:List UInt8):List Int × List (Int × List UInt8) :=
 if (jx w).2 = 0 then (jl s.1 (jx w).1 true,s.2) else (s.1,s.2++[((jx w).2,w)])
noncomputable def xG (p:Pol) (v:List UInt8):Pol × List (Int × List UInt8) :=
 let r:=(qn v).foldl zt (if qn v = [] then [] else p.arches,[])
 ({ p with arches:=r.1 },r.2)
theorem Xy (ws:List (List UInt8)):∀ s,(ws.foldl zt s).1.length<=s.1.length + ws.length∧(ws.foldl zt s).2.length<=s.2.length + ws.length:=by
 induction ws with
 | nil=>intro s; simp
 | cons w ws ih =>
  intro s
  have h:=ih (zt s w)
  have h2:(zt s w).1.length<=s.1.length + 1∧(zt s w).2.length<=s.2.length + 1:=by
   unfold zt
   split
   ·exact ⟨qbW s.1 (jx w).1 true,by simp⟩
   ·simp
  simp only [List.foldl_cons,List.length_cons]
  omega
def wl (f_values_Words f_arch_Parse f_restrict_setter_note f_restrict_with_int:Nat):IFn:=⟨[],.seq (.r [.m 9 (.t 1),.l 10 f_values_Words [.t 9],.m 4 (.t 10)]) (.seq (.seq (.r [.m 11 (.t 4),.q 12 (.len false (.t 11)),.q 13 (.bin .eql (.t 12) (.k 0))]) (.cond (.t 13) (.r [.m 14 (.t 0),.q 15 (.nilChk (.t 14)),.q 16 (.fAddr 0 (.t 15)),.q 17 (.fAddr 0 (.t 16)),.u (.store 1 (.t 17) (.c (.nils)))]) (.skip))) (.seq (.r [.m 18 (.t 4),.q 19 (.len false (.t 18)),.m 20 (.k 0)]) (.blk 0 (.loop (.seq (.r [.q 21 (.bin .lss (.t 20) (.t 19))]) (.seq (.cond (.t 21) (.skip) (.exit 0)) (.seq (.blk 1 (.seq (.r [.q 22 (.iAddrS 1 (.t 18) (.t 20)),.q 23 (.load1 (.t 22)),.m 6 (.t 23)]) (.seq (.r [.m 25 (.t 6),.l 26 f_arch_Parse [.t 25],.m 24 (.t 26),.q 27 (.ext (.t 24) 0),.q 28 (.ext (.t 24) 1),.m 7 (.t 27),.m 8 (.t 28)]) (.seq (.r [.m 29 (.t 8),.q 30 (.bin .neq (.t 29) (.k 0))]) (.cond (.t 30) (.r [.m 31 (.t 0),.m 32 (.t 8),.m 33 (.t 6),.l 34 f_restrict_setter_note [.t 31,.t 32,.t 33]]) (.r [.m 35 (.t 0),.m 36 (.t 0),.q 37 (.nilChk (.t 36)),.q 38 (.fAddr 0 (.t 37)),.q 39 (.fAddr 0 (.t 38)),.q 40 (.load1 (.t 39)),.m 41 (.t 7),.l 42 f_restrict_with_int [.t 40,.t 41,(.c (.b true))],.q 43 (.nilChk (.t 35)),.q 44 (.fAddr 0 (.t 43)),.q 45 (.fAddr 0 (.t 44)),.u (.store 1 (.t 45) (.t 42))])))))) (.r [.q 46 (.bin .add (.t 20) (.k 1)),.m 20 (.t 46)]))))))))⟩
theorem qmk {g1 g2 g3 g4:Nat} (hc:qm P f (wl g1 g2 g3 g4) = true) (h1:QT P g1) (h2:qdU P g2) (h3:yu P g3) (h4:qj1 P g4):k9 P f xG:=by
 intro p a ns v hv hn ha _
 have hwl:=wk v
 refine Upd.mk hc (by simp [qW,bnd]) (by unfold qt; split <;> simp) ?_
 simp only [wl,qB,qh,H0,mkT,mkH,trL,vI,simprocAttr]
 simp only [↓vS,vT,shb,shv,qb,qc,cellsOf,wr,qa,simprocAttr]
 refine (h1 v (by omega)).sc ?_
 by_cases hw:qn v = []
 ·simp only [↓vS,vT,shb,shv,qb,qc,cellsOf,wr,qa,simprocAttr,hw]
  refine vq ?_
  simp only [↓vS,vT,shb,shv,qb,qc,cellsOf,wr,qa,simprocAttr]
  intro _
  refine ⟨[0,1],?_⟩
  simp [vw,qd,qe,qt,qB,xG,hw,rI]
  decide
 ·have hwn:¬ ((qn v).length:Int) = 0:=by
   intro hh; exact hw (List.eq_nil_of_length_eq_zero (by omega))
  have hend:xG p v = (let r:=(qn v).foldl zt (p.arches,[]); ({ p with arches:=r.1 },r.2)):=by
   unfold xG; rw [if_neg hw]
  simp only [↓vS,vT,shb,shv,qb,qc,cellsOf,wr,qa,simprocAttr,hwn]
  refine SL.loopn (α:=Nat) (fun j=>[(0,.ptr 0 0),(18,.fz (qn v).length ((qn v).map .s)),(19,.i .i64 (qn v).length),(20,.i .i64 j)])
   (fun j=>qt { p with arches:=(((qn v).take j).foldl zt (p.arches,[])).1 } a ns ((((qn v).take j).foldl zt (p.arches,[])).2.map (qN a))) (fun j=>j<=(qn v).length) (fun j=>(qn v).length - j) 0 [0,1] ?_ ?_ ?_ rfl ?_ ?_ ?_ ?_
  ·simp [vw,qt]
  ·simp [vw,qd,qe,qt,qB]; try decide
  ·simp [vw]
  ·simp [qt]
  ·intro b hb
   have:b = 0∨b = 1:=by omega
   rcases this with rfl | rfl <;> rfl
  ·exact Nat.zero_le _
  rintro j hj G ih
  have hlen:=Xy ((qn v).take j) (p.arches,[])
  simp only [List.length_take,List.length_nil,Nat.zero_add] at hlen
  generalize hr:((qn v).take j).foldl zt (p.arches,[]) = r at hlen ih ⊢
  by_cases hlt:j < (qn v).length
  ·have hx:(qn v)[j]? = some (qn v)[j]:=List.getElem?_eq_getElem hlt
   have hwj:IntKind.wrap .i64 ((j:Int) + 1) = (j:Int) + 1:=qG (by omega) (by omega)
   have hnext:((qn v).take (j + 1)).foldl zt (p.arches,[]) = zt r (qn v)[j]:=by
    rw [List.take_add_one,hx,List.foldl_append,hr]; rfl
   generalize hww:(qn v)[j] = w at hx hnext
   have ih2:=ih (j + 1)
   rw [hnext] at ih2
   have sL:r.1.length + 1<=qi:=by simp only [qi]; omega
   have sL8:(r.1.length + 1) * 8<=qi:=by simp only [qi]; omega
   by_cases hnew:r.2.map (qN a) = []
   ·have hr2:r.2 = []:=List.map_eq_nil_iff.1 hnew
    simp only [qt,if_pos hnew,qB,qh,H0,mkT,mkH,trL,vI,simprocAttr]
    simp only [↓vS,vT,shb,shv,qb,qc,cellsOf,wr,qa,simprocAttr,hlt,hx,List.getElem?_map,Option.map_some,Nat.mul_one]
    refine (h2 w).sc ?_
    by_cases he:(jx w).2 = 0
    ·simp only [↓vS,vT,shb,shv,qb,qc,cellsOf,wr,qa,simprocAttr,he]
     refine (h4 r.1 (jx w).1 true sL sL8).sc ?_
     simp only [↓vS,vT,shb,shv,qb,qc,cellsOf,wr,qa,simprocAttr,hwj]
     unfold zt at ih2
     rw [if_pos he] at ih2
     refine ih2 (by omega) (by omega) _ _ (Wk.mkn _ _ [0,1] ?_ ?_ ?_ rfl (by simp [qt,hnew]) ?_)
     ·simp [vw,qt,hr2]
     ·simp [vw,qd,qe,qt,qB,hr2]; try decide
     ·simp [vw]
     ·intro b hb
      have:b = 0∨b = 1:=by omega
      rcases this with rfl | rfl <;> rfl
    ·simp only [↓vS,vT,shb,shv,qb,qc,cellsOf,wr,qa,simprocAttr,he]
     refine (h3 { p with arches:=r.1 } a ns (jx w).2 w (by simp only [qi]; omega)).sc (vs:=[.ptr 0 0,.i .i64 (jx w).2,.s w]) [0,1] (Lent.of (by decide) ?_) ?_
     ·simp [vL,shb,shv,qb,qW,bnd,qM,rnv,gAt,vw,qB,qJ qe,ql qe,qS,clo,qp]
     simp only [vK,qR,rnb,qM,rnv,gAt,simprocAttr,qB,ql qe,qp,clo]
     simp only [↓vS,vT,shb,shv,qb,qc,cellsOf,wr,qa,simprocAttr,hwj]
     unfold zt at ih2
     rw [if_neg he] at ih2
     refine ih2 (by omega) (by omega) _ _ (Wk.mkn _ _ [0,1,2] ?_ ?_ ?_ rfl (by simp [qt]) ?_)
     ·simp [vw,qt]
     ·simp [vw,qd,qe,qt,qB,hr2]; try decide
     ·simp [vw]
     ·intro b hb
      have:b = 0∨b = 1:=by omega
      rcases this with rfl | rfl <;> rfl
   ·have hr2n:¬ r.2 = []:=fun hh=>hnew (by rw [hh]; rfl)
    have hnl:(ns++r.2.map (qN a)).length<=2001:=by simp; omega
    simp only [qt,if_neg hnew,qB,qh,H0,mkT,mkH,trL,vI,simprocAttr]
    generalize hN:ns++r.2.map (qN a) = N at hnl ih2 ⊢
    simp only [↓vS,vT,shb,shv,qb,qc,cellsOf,wr,qa,simprocAttr,hlt,hx,List.getElem?_map,Option.map_some,Nat.mul_one]
    refine (h2 w).sc ?_
    by_cases he:(jx w).2 = 0
    ·simp only [↓vS,vT,shb,shv,qb,qc,cellsOf,wr,qa,simprocAttr,he]
     refine (h4 r.1 (jx w).1 true sL sL8).sc ?_
     simp only [↓vS,vT,shb,shv,qb,qc,cellsOf,wr,qa,simprocAttr,hwj]
     unfold zt at ih2
     rw [if_pos he] at ih2
     refine ih2 (by omega) (by omega) _ _ (Wk.mkn _ _ [0,1,2] ?_ ?_ ?_ rfl (by simp [qt,hnew]) ?_)
     ·simp [vw,qt,hr2n]
     ·simp [vw,qd,qe,qt,qB,hr2n,hN]; try decide
     ·simp [vw,qt,hr2n]
     ·intro b hb
      have:b = 0∨b = 1:=by omega
      rcases this with rfl | rfl <;> rfl
    ·simp only [↓vS,vT,shb,shv,qb,qc,cellsOf,wr,qa,simprocAttr,he]
     refine (h3 { p with arches:=r.1 } a N (jx w).2 w (by simp only [qi]; omega)).sc (vs:=[.ptr 0 0,.i .i64 (jx w).2,.s w]) [0,2] (Lent.of (by decide) ?_) ?_
     ·simp [vL,shb,shv,qb,qW,bnd,qM,rnv,gAt,vw,qB,qJ qe,ql qe,qS,clo,qp]
     simp only [vK,qR,rnb,qM,rnv,gAt,simprocAttr,qB,ql qe,qp,clo]
     simp only [↓vS,vT,shb,shv,qb,qc,cellsOf,wr,qa,simprocAttr,hwj]
     unfold zt at ih2
     rw [if_neg he] at ih2
     refine ih2 (by omega) (by omega) _ _ (Wk.mkn _ _ [0,1,3] ?_ ?_ ?_ rfl (by simp [qt]) ?_)
     ·simp [vw,qt]
     ·simp [vw,qd,qe,qt,qB,← hN]; try decide
     ·simp [vw,qt]
     ·intro b hb
      have:b = 0∨b = 1:=by omega
      rcases this with rfl | rfl <;> rfl
  ·have hjl:(qn v).take j = qn v:=List.take_of_length_le (by omega)
   rw [hjl] at hr
   rw [hend,hr]
   by_cases hnew:r.2.map (qN a) = []
   ·simp only [qt,if_pos hnew,qB,qh,H0,mkT,mkH,trL,vI,simprocAttr]
    simp only [↓vS,vT,shb,shv,qb,qc,cellsOf,wr,qa,simprocAttr,hlt]
    refine fun _=>⟨[0,1],?_⟩
    simp [vw,qd,qe]; try decide
   ·simp only [qt,if_neg hnew,qB,qh,H0,mkT,mkH,trL,vI,simprocAttr]
    simp only [↓vS,vT,shb,shv,qb,qc,cellsOf,wr,qa,simprocAttr,hlt]
    refine fun _=>⟨[0,1,2],?_⟩
    simp [vw,qd,qe]; try decide
end Go.Kc
end
section
/- What the setter makes of families. Condition: the functions' texts are these. -/
namespace Go.Kc
variable {P:Program} {f:Nat}
def xd (s:List UInt8) (no:Int):List (List UInt8 × Int)->Int × Int
 | []=>(0,no)
 | p :: l=>if p.1 = s then (p.2,0) else xd s no l
theorem qai (q:IntKind) (s:List UInt8) (no:Int):∀ l,wF q s no l = .tup [.i q (xd s no l).1,.i .i64 (xd s no l).2]
 | []=>rfl
 | p :: l=>by
  simp only [wF,xd]
  split
  ·rfl
  ·exact qai q s no l
def zb (v:List UInt8):List UInt8 × Bool:=if [126].isPrefixOf v = true then (v.drop 1,true) else (v,false)
theorem qaE (v:List UInt8):xZ v [126] = .tup [.s (zb v).1,.b (zb v).2]:=by
 unfold xZ zb; split <;> rfl
theorem y3 (v:List UInt8):(zb v).1.length<=v.length:=by
 unfold zb; split <;> simp
def XG (s:List UInt8):Int × Int:=xd s 180 qC
def qeD (P:Program) (f:Nat):Prop:=∀ s,qg P f [.s s] (wF .u32 s 180 qC)
def qb1 (P:Program) (f:Nat):Prop:=∀ s,qg P f [.s s] (xZ s [126])
def xC (is:Bool) (s:List Int × List (Int × List UInt8)) (w:List UInt8):List Int × List (Int × List UInt8) :=
 if (XG w).2 = 0 then (jl s.1 (XG w).1 is,s.2) else (s.1,s.2++[((XG w).2,w)])
def qaX:List UInt8:=[110,111,110,101]
def kq (m:Int) (t:Bool):Int:=if m = 0 then (if t = true then 2 else 1) else m
def zg (p:Pol) (v:List UInt8):Pol × List (Int × List UInt8) :=
 if qn v = [] then ({ p with fams:=[],fmode:=0 },[])
 else if qn v = [qaX] then ({ p with fams:=[],fmode:=1 },[])
 else
  let r:=(qn (zb v).1).foldl (xC ((zb v).2 == decide (kq p.fmode (zb v).2 = 2))) (p.fams,[])
  ({ p with fams:=r.1,fmode:=kq p.fmode (zb v).2 },r.2)
theorem JD (is:Bool) (ws:List (List UInt8)):∀ s,(ws.foldl (xC is) s).1.length<=s.1.length + ws.length∧(ws.foldl (xC is) s).2.length<=s.2.length + ws.length:=by
 induction ws with
 | nil=>intro s; simp
 | cons w ws ih =>
  intro s
  have h:=ih (xC is s w)
  have h2:(xC is s w).1.length<=s.1.length + 1∧(xC is s w).2.length<=s.2.length + 1:=by
   unfold xC
   split
   ·exact ⟨qbW s.1 (XG w).1 is,by simp⟩
   ·simp
  simp only [List.foldl_cons,List.length_cons]
  omega
def zd (f_values_Turned f_values_Words f_names_Family f_restrict_setter_note f_restrict_with_uint32:Nat):ICode:=.seq (.r [.m 63 (.t 4),.l 64 f_values_Words [.t 63],.q 65 (.len false (.t 64)),.m 66 (.k 0)]) (.blk 1 (.loop (.seq (.r [.q 67 (.bin .lss (.t 66) (.t 65))]) (.seq (.cond (.t 67) (.skip) (.exit 1)) (.seq (.blk 2 (.seq (.r [.q 68 (.iAddrS 1 (.t 64) (.t 66)),.q 69 (.load1 (.t 68)),.m 8 (.t 69)]) (.seq (.r [.m 71 (.t 8),.l 72 f_names_Family [.t 71],.m 70 (.t 72),.q 73 (.ext (.t 70) 0),.q 74 (.ext (.t 70) 1),.m 9 (.t 73),.m 10 (.t 74)]) (.seq (.r [.m 75 (.t 10),.q 76 (.bin .neq (.t 75) (.k 0))]) (.cond (.t 76) (.r [.m 77 (.t 0),.m 78 (.t 10),.m 79 (.t 8),.l 80 f_restrict_setter_note [.t 77,.t 78,.t 79]]) (.reg true [.m 81 (.t 0),.m 82 (.t 0),.q 83 (.nilChk (.t 82)),.q 84 (.fAddr 0 (.t 83)),.q 85 (.fAddr 6 (.t 84)),.q 86 (.load1 (.t 85)),.m 87 (.t 9),.m 88 (.t 5),.m 89 (.t 0),.q 90 (.nilChk (.t 89)),.q 91 (.fAddr 0 (.t 90)),.q 92 (.fAddr 7 (.t 91)),.q 93 (.load1 (.t 92)),.q 94 (.bin .eql (.t 93) (.c (.i .u8 2))),.q 95 (.eqB false (.t 88) (.t 94)),.l 96 f_restrict_with_uint32 [.t 86,.t 87,.t 95],.q 97 (.nilChk (.t 81)),.q 98 (.fAddr 0 (.t 97)),.q 99 (.fAddr 6 (.t 98)),.u (.store 1 (.t 99) (.t 96))])))))) (.r [.q 100 (.bin .add (.t 66) (.k 1)),.m 66 (.t 100)]))))))
def jO (f_values_Turned f_values_Words f_names_Family f_restrict_setter_note f_restrict_with_uint32:Nat):IFn:=⟨[],.seq (.r [.m 12 (.t 1),.l 13 f_values_Turned [.t 12],.m 11 (.t 13),.q 14 (.ext (.t 11) 0),.q 15 (.ext (.t 11) 1),.m 4 (.t 14),.m 5 (.t 15)]) (.seq (.seq (.r [.m 16 (.t 1),.l 17 f_values_Words [.t 16],.m 6 (.t 17)]) (.blk 0 (.seq (.r [.m 19 (.t 6),.q 20 (.len false (.t 19)),.q 21 (.bin .eql (.t 20) (.k 0)),.m 18 (.t 21)]) (.cond (.t 18) (.seq (.r [.m 22 (.t 0),.m 23 (.t 0),.q 24 (.nilChk (.t 22)),.q 25 (.fAddr 0 (.t 24)),.q 26 (.fAddr 6 (.t 25)),.u (.store 1 (.t 26) (.c (.nils))),.q 27 (.nilChk (.t 23)),.q 28 (.fAddr 0 (.t 27)),.q 29 (.fAddr 7 (.t 28)),.u (.store 1 (.t 29) (.c (.i .u8 0)))]) (.ret)) (.seq (.r [.m 31 (.t 6),.q 32 (.len false (.t 31)),.q 33 (.bin .eql (.t 32) (.k 1)),.m 34 (.t 33),.g 35 (.mov (.t 6)) 34 true,.g 36 (.iAddrS 1 (.t 35) (.k 0)) 34 true,.g 37 (.load1 (.t 36)) 34 true,.g 38 (.bin .eql (.t 37) (.c (.s [110,111,110,101]))) 34 true,.q 39 (.pick (.t 34) (.t 38) (.c (.b false))),.m 30 (.t 39)]) (.cond (.t 30) (.seq (.r [.m 40 (.t 0),.m 41 (.t 0),.q 42 (.nilChk (.t 40)),.q 43 (.fAddr 0 (.t 42)),.q 44 (.fAddr 6 (.t 43)),.u (.store 1 (.t 44) (.c (.nils))),.q 45 (.nilChk (.t 41)),.q 46 (.fAddr 0 (.t 45)),.q 47 (.fAddr 7 (.t 46)),.u (.store 1 (.t 47) (.c (.i .u8 1)))]) (.ret)) (.skip))))))) (.seq (.seq (.r [.m 48 (.t 0),.q 49 (.nilChk (.t 48)),.q 50 (.fAddr 0 (.t 49)),.q 51 (.fAddr 7 (.t 50)),.q 52 (.load1 (.t 51)),.q 53 (.bin .eql (.t 52) (.c (.i .u8 0)))]) (.cond (.t 53) (.seq (.r [.m 54 (.t 0),.q 55 (.nilChk (.t 54)),.q 56 (.fAddr 0 (.t 55)),.q 57 (.fAddr 7 (.t 56)),.u (.store 1 (.t 57) (.c (.i .u8 1)))]) (.seq (.r [.m 58 (.t 5)]) (.cond (.t 58) (.r [.m 59 (.t 0),.q 60 (.nilChk (.t 59)),.q 61 (.fAddr 0 (.t 60)),.q 62 (.fAddr 7 (.t 61)),.u (.store 1 (.t 62) (.c (.i .u8 2)))]) (.skip)))) (.skip))) (.cut (zd f_values_Turned f_values_Words f_names_Family f_restrict_setter_note f_restrict_with_uint32))))⟩
theorem qhR {g1 g2 g3 g4 g5:Nat} (h1:QT P g2) (h2:qeD P g3) (h3:yu P g4) (h4:qeI P g5) (p:Pol) (a:Asg) (ns:List GNote) (v:List UInt8) (t:Bool) (hv:v.length<=1000) (hn:ns.length<=1000) (ha:p.fams.length<=1000)
  (r:List Int × List (Int × List UInt8)) (hr:r = (qn v).foldl (xC (t == decide (p.fmode = 2))) (p.fams,[])) :
  S P 2 (zd g1 g2 g3 g4 g5) (jz [] (y5 2 (.tup []) (qt { p with fams:=r.1 } a ns (r.2.map (qN a))))) (mkT [(0,.ptr 0 0),(4,.s v),(5,.b t)]) (mkH 0 [.cells 0 true false (qB p a 1 ns.length),.cells 4 true true (rN ns)]):=by
 have hwl:=wk v
 refine qA ?_
 simp only [zd,qB,qh,H0,mkT,mkH,trL,vI,simprocAttr]
 simp only [↓vS,vT,shb,shv,qb,qc,cellsOf,wr,qa,simprocAttr]
 refine (h1 v (by omega)).sc ?_
 simp only [↓vS,vT,shb,shv,qb,qc,cellsOf,wr,qa,simprocAttr]
 generalize hfs:xC (t == decide (p.fmode = 2)) = fs at hr
 refine SL.loopn (α:=Nat) (fun j=>[(0,.ptr 0 0),(5,.b t),(64,.fz (qn v).length ((qn v).map .s)),(65,.i .i64 (qn v).length),(66,.i .i64 j)])
  (fun j=>qt { p with fams:=(((qn v).take j).foldl fs (p.fams,[])).1 } a ns ((((qn v).take j).foldl fs (p.fams,[])).2.map (qN a))) (fun j=>j<=(qn v).length) (fun j=>(qn v).length - j) 0 [0,1] ?_ ?_ ?_ rfl ?_ ?_ ?_ ?_
 ·simp [vw,qt]
 ·simp [vw,qd,qe,qt,qB]; try decide
 ·simp [vw]
 ·simp [qt]
 ·intro b hb
  have:b = 0∨b = 1:=by omega
  rcases this with rfl | rfl <;> rfl
 ·exact Nat.zero_le _
 rintro j hj G ih
 have hlen:=JD (t == decide (p.fmode = 2)) ((qn v).take j) (p.fams,[])
 rw [hfs] at hlen
 simp only [List.length_take,List.length_nil,Nat.zero_add] at hlen
 generalize hrr:((qn v).take j).foldl fs (p.fams,[]) = r1 at hlen ih ⊢
 by_cases hlt:j < (qn v).length
 ·have hx:(qn v)[j]? = some (qn v)[j]:=List.getElem?_eq_getElem hlt
  have hwj:IntKind.wrap .i64 ((j:Int) + 1) = (j:Int) + 1:=qG (by omega) (by omega)
  have hnext:((qn v).take (j + 1)).foldl fs (p.fams,[]) = fs r1 (qn v)[j]:=by
   rw [List.take_add_one,hx,List.foldl_append,hrr]; rfl
  generalize hww:(qn v)[j] = w at hx hnext
  have ih2:=ih (j + 1)
  rw [hnext,← hfs] at ih2
  have sL:r1.1.length + 1<=qi:=by simp only [qi]; omega
  have sL8:(r1.1.length + 1) * 8<=qi:=by simp only [qi]; omega
  have hfam:=qai .u32 w 180 qC
  by_cases hnew:r1.2.map (qN a) = []
  ·have hr2:r1.2 = []:=List.map_eq_nil_iff.1 hnew
   simp only [qt,if_pos hnew,qB,qh,H0,mkT,mkH,trL,vI,simprocAttr]
   simp only [↓vS,vT,shb,shv,qb,qc,cellsOf,wr,qa,simprocAttr,hlt,hx,List.getElem?_map,Option.map_some,Nat.mul_one]
   refine (h2 w).sc ?_
   rw [hfam]
   by_cases he:(XG w).2 = 0
   ·have he':(xd w 180 qC).2 = 0:=he
    simp only [↓vS,vT,shb,shv,qb,qc,cellsOf,wr,qa,simprocAttr,he']
    refine zS ?_
    simp only [↓vS,vT,shb,shv,qb,qc,cellsOf,wr,qa,simprocAttr]
    refine (h4 r1.1 (XG w).1 (t == decide (p.fmode = 2)) sL sL8).pc ?_
    simp only [↓vS,vT,shb,shv,qb,qc,cellsOf,wr,qa,simprocAttr,hwj]
    unfold xC at ih2
    rw [if_pos he] at ih2
    refine ih2 (by omega) (by omega) _ _ (Wk.mkn _ _ [0,1] ?_ ?_ ?_ rfl (by simp [qt,hnew]) ?_)
    ·simp [vw,qt,hr2]
    ·simp [vw,qd,qe,qt,qB,hr2]; try decide
    ·simp [vw]
    ·intro b hb
     have:b = 0∨b = 1:=by omega
     rcases this with rfl | rfl <;> rfl
   ·have he':¬ (xd w 180 qC).2 = 0:=he
    simp only [↓vS,vT,shb,shv,qb,qc,cellsOf,wr,qa,simprocAttr,he']
    refine (h3 { p with fams:=r1.1 } a ns (XG w).2 w (by simp only [qi]; omega)).sc (vs:=[.ptr 0 0,.i .i64 (XG w).2,.s w]) [0,1] (Lent.of (by decide) ?_) ?_
    ·simp [vL,shb,shv,qb,qW,bnd,qM,rnv,gAt,vw,qB,qJ qe,ql qe,qS,clo,qp]
    simp only [vK,qR,rnb,qM,rnv,gAt,simprocAttr,qB,ql qe,qp,clo]
    simp only [↓vS,vT,shb,shv,qb,qc,cellsOf,wr,qa,simprocAttr,hwj]
    unfold xC at ih2
    rw [if_neg he] at ih2
    refine ih2 (by omega) (by omega) _ _ (Wk.mkn _ _ [0,1,2] ?_ ?_ ?_ rfl (by simp [qt]) ?_)
    ·simp [vw,qt]
    ·simp [vw,qd,qe,qt,qB,hr2]; try decide
    ·simp [vw]
    ·intro b hb
     have:b = 0∨b = 1:=by omega
     rcases this with rfl | rfl <;> rfl
  ·have hr2n:¬ r1.2 = []:=fun hh=>hnew (by rw [hh]; rfl)
   have hnl:(ns++r1.2.map (qN a)).length<=2001:=by simp; omega
   simp only [qt,if_neg hnew,qB,qh,H0,mkT,mkH,trL,vI,simprocAttr]
   generalize hN:ns++r1.2.map (qN a) = N at hnl ih2 ⊢
   simp only [↓vS,vT,shb,shv,qb,qc,cellsOf,wr,qa,simprocAttr,hlt,hx,List.getElem?_map,Option.map_some,Nat.mul_one]
   refine (h2 w).sc ?_
   rw [hfam]
   by_cases he:(XG w).2 = 0
   ·have he':(xd w 180 qC).2 = 0:=he
    simp only [↓vS,vT,shb,shv,qb,qc,cellsOf,wr,qa,simprocAttr,he']
    refine zS ?_
    simp only [↓vS,vT,shb,shv,qb,qc,cellsOf,wr,qa,simprocAttr]
    refine (h4 r1.1 (XG w).1 (t == decide (p.fmode = 2)) sL sL8).pc ?_
    simp only [↓vS,vT,shb,shv,qb,qc,cellsOf,wr,qa,simprocAttr,hwj]
    unfold xC at ih2
    rw [if_pos he] at ih2
    refine ih2 (by omega) (by omega) _ _ (Wk.mkn _ _ [0,1,2] ?_ ?_ ?_ rfl (by simp [qt,hnew]) ?_)
    ·simp [vw,qt,hr2n]
    ·simp [vw,qd,qe,qt,qB,hr2n,hN]; try decide
    ·simp [vw,qt,hr2n]
    ·intro b hb
     have:b = 0∨b = 1:=by omega
     rcases this with rfl | rfl <;> rfl
   ·have he':¬ (xd w 180 qC).2 = 0:=he
    simp only [↓vS,vT,shb,shv,qb,qc,cellsOf,wr,qa,simprocAttr,he']
    refine (h3 { p with fams:=r1.1 } a N (XG w).2 w (by simp only [qi]; omega)).sc (vs:=[.ptr 0 0,.i .i64 (XG w).2,.s w]) [0,2] (Lent.of (by decide) ?_) ?_
    ·simp [vL,shb,shv,qb,qW,bnd,qM,rnv,gAt,vw,qB,qJ qe,ql qe,qS,clo,qp]
    simp only [vK,qR,rnb,qM,rnv,gAt,simprocAttr,qB,ql qe,qp,clo]
    simp only [↓vS,vT,shb,shv,qb,qc,cellsOf,wr,qa,simprocAttr,hwj]
    unfold xC at ih2
    rw [if_neg he] at ih2
    refine ih2 (by omega) (by omega) _ _ (Wk.mkn _ _ [0,1,3] ?_ ?_ ?_ rfl (by simp [qt]) ?_)
    ·simp [vw,qt]
    ·simp [vw,qd,qe,qt,qB,← hN]; try decide
    ·simp [vw,qt]
    ·intro b hb
     have:b = 0∨b = 1:=by omega
     rcases this with rfl | rfl <;> rfl
 ·have hjl:(qn v).take j = qn v:=List.take_of_length_le (by omega)
  rw [hjl,← hr] at hrr
  subst hrr
  by_cases hnew:r.2.map (qN a) = []
  ·simp only [qt,if_pos hnew,qB,qh,H0,mkT,mkH,trL,vI,simprocAttr]
   simp only [↓vS,vT,shb,shv,qb,qc,cellsOf,wr,qa,simprocAttr,hlt]
   refine fun _=>⟨[0,1],?_⟩
   simp [vw,qd,qe]; try decide
  ·simp only [qt,if_neg hnew,qB,qh,H0,mkT,mkH,trL,vI,simprocAttr]
   simp only [↓vS,vT,shb,shv,qb,qc,cellsOf,wr,qa,simprocAttr,hlt]
   refine fun _=>⟨[0,1,2],?_⟩
   simp [vw,qd,qe]; try decide
theorem qjy {g1 g2 g3 g4 g5:Nat} (hc:qm P f (jO g1 g2 g3 g4 g5) = true) (h0:qb1 P g1) (h1:QT P g2) (h2:qeD P g3) (h3:yu P g4) (h4:qeI P g5):k9 P f zg:=by
 intro p a ns v hv hn _ ha
 have hwl:=wk v
 have htl:=y3 v
 refine Upd.mk hc (by simp [qW,bnd]) (by unfold qt; split <;> simp) ?_
 simp only [jO,qB,qh,H0,mkT,mkH,trL,vI,simprocAttr]
 simp only [↓vS,vT,shb,shv,qb,qc,cellsOf,wr,qa,simprocAttr]
 refine (h0 v).sc ?_
 rw [qaE]
 simp only [↓vS,vT,shb,shv,qb,qc,cellsOf,wr,qa,simprocAttr]
 refine (h1 v (by omega)).sc ?_
 by_cases hw:qn v = []
 ·simp only [↓vS,vT,shb,shv,qb,qc,cellsOf,wr,qa,simprocAttr,hw]
  intro _
  refine ⟨[0,1],?_⟩
  simp [vw,qd,qe,qt,qB,zg,hw,rI]
  try decide
 ·have hwn:¬ ((qn v).length:Int) = 0:=by
   intro hh; exact hw (List.eq_nil_of_length_eq_zero (by omega))
  have hend:∀ (q:Pol),qn v≠[qaX]->q = { p with fmode:=kq p.fmode (zb v).2 }->S P 2 (zd g1 g2 g3 g4 g5) (jz [] (y5 2 (.tup []) (qt (zg p v).1 a ns ((zg p v).2.map (qN a))))) (mkT [(0,.ptr 0 0),(4,.s (zb v).1),(5,.b (zb v).2)]) (mkH 0 [.cells 0 true false (qB q a 1 ns.length),.cells 4 true true (rN ns)]):=by
   intro q hno hq
   subst hq
   have:=qhR (g1:=g1) h1 h2 h3 h4 { p with fmode:=kq p.fmode (zb v).2 } a ns (zb v).1 (zb v).2 (by omega) hn ha _ rfl
   unfold zg
   rw [if_neg hw,if_neg hno]
   exact this
  have main:qn v≠[qaX]->p.fmode = 0∨p.fmode≠0:=fun _=>Classical.em _
  by_cases hno:qn v = [qaX]
  ·simp only [↓vS,vT,shb,shv,qb,qc,cellsOf,wr,qa,simprocAttr,hno,qaX]
   intro _
   refine ⟨[0,1],?_⟩
   simp [vw,qd,qe,qt,qB,zg,hw,hno,rI,qaX]
   try decide
  ·have fin:∀ (q:Pol) (t':Tr AV) (h':Hp),q = { p with fmode:=kq p.fmode (zb v).2 }->Wk 2 t' h' (mkT [(0,.ptr 0 0),(4,.s (zb v).1),(5,.b (zb v).2)]) (mkH 0 [.cells 0 true false (qB q a 1 ns.length),.cells 4 true true (rN ns)])->
     S P 2 (zd g1 g2 g3 g4 g5) (jz [] (y5 2 (.tup []) (qt (zg p v).1 a ns ((zg p v).2.map (qN a))))) t' h':=fun q t' h' hq hk=>S.weak hk (hend q hno hq)
   have two:¬ qn v = [qaX]:=hno
   cases hws:qn v with
   | nil=>exact absurd hws hw
   | cons w ws =>
    rw [hws] at hno hwl
    simp only [List.length_cons] at hwl
    have hl0:¬ (((w :: ws).length:Nat):Int) = 0:=by simp; omega
    cases ws with
    | nil =>
     have hwno:¬ w = [110,111,110,101]:=fun hh=>hno (by rw [hh]; rfl)
     by_cases hm:p.fmode = 0
     ·cases ht:(zb v).2 with
      | true =>
       simp only [↓vS,vT,shb,shv,qb,qc,cellsOf,wr,qa,simprocAttr,hl0,hwno,hm]
       refine fin { p with fmode:=2 } _ _ (by simp [kq,hm,ht]) (Wk.mkn _ _ [0,1] ?_ ?_ ?_ rfl (by simp) ?_)
       ·simp [vw,ht]
       ·simp [vw,qd,qe,qB]; try decide
       ·simp [vw]
       ·intro b hb
        have:b = 0∨b = 1:=by omega
        rcases this with rfl | rfl <;> rfl
      | false =>
       simp only [↓vS,vT,shb,shv,qb,qc,cellsOf,wr,qa,simprocAttr,hl0,hwno,hm]
       refine fin { p with fmode:=1 } _ _ (by simp [kq,hm,ht]) (Wk.mkn _ _ [0,1] ?_ ?_ ?_ rfl (by simp) ?_)
       ·simp [vw,ht]
       ·simp [vw,qd,qe,qB]; try decide
       ·simp [vw]
       ·intro b hb
        have:b = 0∨b = 1:=by omega
        rcases this with rfl | rfl <;> rfl
     ·simp only [↓vS,vT,shb,shv,qb,qc,cellsOf,wr,qa,simprocAttr,hl0,hwno,hm]
      refine fin p _ _ (by simp [kq,hm]) (Wk.mkn _ _ [0,1] ?_ ?_ ?_ rfl (by simp) ?_)
      ·simp [vw]
      ·simp [vw,qd,qe,qB]; try decide
      ·simp [vw]
      ·intro b hb
       have:b = 0∨b = 1:=by omega
       rcases this with rfl | rfl <;> rfl
    | cons w2 ws =>
     have hl1:¬ (((w :: w2 :: ws).length:Nat):Int) = 1:=by simp; omega
     generalize hL:(((w :: w2 :: ws).length:Nat)) = L at hl0 hl1
     generalize (List.map AV.s (w :: w2 :: ws)) = RR
     by_cases hm:p.fmode = 0
     ·cases ht:(zb v).2 with
      | true =>
       simp only [↓vS,vT,shb,shv,qb,qc,cellsOf,wr,qa,simprocAttr,hl0,hl1,hm]
       refine fin { p with fmode:=2 } _ _ (by simp [kq,hm,ht]) (Wk.mkn _ _ [0,1] ?_ ?_ ?_ rfl (by simp) ?_)
       ·simp [vw,ht]
       ·simp [vw,qd,qe,qB]; try decide
       ·simp [vw]
       ·intro b hb
        have:b = 0∨b = 1:=by omega
        rcases this with rfl | rfl <;> rfl
      | false =>
       simp only [↓vS,vT,shb,shv,qb,qc,cellsOf,wr,qa,simprocAttr,hl0,hl1,hm]
       refine fin { p with fmode:=1 } _ _ (by simp [kq,hm,ht]) (Wk.mkn _ _ [0,1] ?_ ?_ ?_ rfl (by simp) ?_)
       ·simp [vw,ht]
       ·simp [vw,qd,qe,qB]; try decide
       ·simp [vw]
       ·intro b hb
        have:b = 0∨b = 1:=by omega
        rcases this with rfl | rfl <;> rfl
     ·simp only [↓vS,vT,shb,shv,qb,qc,cellsOf,wr,qa,simprocAttr,hl0,hl1,hm]
      refine fin p _ _ (by simp [kq,hm]) (Wk.mkn _ _ [0,1] ?_ ?_ ?_ rfl (by simp) ?_)
      ·simp [vw]
      ·simp [vw,qd,qe,qB]; try decide
      ·simp [vw]
      ·intro b hb
       have:b = 0∨b = 1:=by omega
       rcases this with rfl | rfl <;> rfl
end Go.Kc
end
section
/- What the setter makes of namespaces. Condition: the functions' texts are these. -/
namespace Go.Kc
variable {P:Program} {f:Nat}
def spM (s:List UInt8):Int × Int:=xd s 181 qY
def qhf (P:Program) (f:Nat):Prop:=∀ s,qg P f [.s s] (wF .u64 s 181 qY)
def jD:Int:=2114060416
def jj (s:Int × List (Int × List UInt8)) (w:List UInt8):Int × List (Int × List UInt8) :=
 (orI .u64 s.1 (spM w).1,if (spM w).2 = 0 then s.2 else s.2++[((spM w).2,w)])
def qbP (p:Pol) (t:Bool) (r:Int × List (Int × List UInt8)):Pol :=
 if r.2 = [] then (if t = true then { p with spaces:=r.1 } else { p with spaces:=kZ .u64 jD r.1 }) else p
noncomputable def zc (p:Pol) (v:List UInt8):Pol × List (Int × List UInt8) :=
 if qn v = [] then ({ p with spaces:=0 },[])
 else if v ∈ xH then ({ p with spaces:=0 },[])
 else if v ∈ z2 then ({ p with spaces:=jD },[])
 else
  let r:=(qn (zb v).1).foldl jj (0,[])
  (qbP p (zb v).2 r,r.2)
theorem qa6 (ws:List (List UInt8)):∀ s,(ws.foldl jj s).2.length<=s.2.length + ws.length:=by
 induction ws with
 | nil=>intro s; simp
 | cons w ws ih =>
  intro s
  have h:=ih (jj s w)
  have h2:(jj s w).2.length<=s.2.length + 1:=by
   unfold jj
   dsimp only
   split <;> simp
  simp only [List.foldl_cons,List.length_cons]
  omega
def zF (f_values_Words f_values_Bool f_names_Spaces f_values_Turned f_names_Space f_restrict_setter_note:Nat):ICode:=.seq (.r [.m 8 (.c (.i .u64 0)),.m 9 (.c (.b true))]) (.seq (.seq (.r [.m 44 (.t 6),.l 45 f_values_Words [.t 44],.q 46 (.len false (.t 45)),.m 47 (.k 0)]) (.blk 0 (.loop (.seq (.r [.q 48 (.bin .lss (.t 47) (.t 46))]) (.seq (.cond (.t 48) (.skip) (.exit 0)) (.seq (.blk 1 (.seq (.r [.q 49 (.iAddrS 1 (.t 45) (.t 47)),.q 50 (.load1 (.t 49)),.m 11 (.t 50)]) (.seq (.r [.m 52 (.t 11),.l 53 f_names_Space [.t 52],.m 51 (.t 53),.q 54 (.ext (.t 51) 0),.q 55 (.ext (.t 51) 1),.m 12 (.t 54),.m 13 (.t 55)]) (.seq (.seq (.r [.m 56 (.t 13),.q 57 (.bin .neq (.t 56) (.k 0))]) (.cond (.t 57) (.seq (.r [.m 58 (.t 0),.m 59 (.t 13),.m 60 (.t 11),.l 61 f_restrict_setter_note [.t 58,.t 59,.t 60]]) (.r [.m 9 (.c (.b false))])) (.skip))) (.r [.m 62 (.t 8),.m 63 (.t 12),.q 64 (.bin .or (.t 62) (.t 63)),.m 8 (.t 64)]))))) (.r [.q 65 (.bin .add (.t 47) (.k 1)),.m 47 (.t 65)]))))))) (.blk 2 (.seq (.r [.m 67 (.t 9),.m 68 (.t 67),.g 69 (.mov (.t 7)) 68 true,.q 70 (.pick (.t 68) (.t 69) (.c (.b false))),.m 66 (.t 70)]) (.cond (.t 66) (.r [.m 71 (.t 0),.m 72 (.t 8),.q 73 (.nilChk (.t 71)),.q 74 (.fAddr 0 (.t 73)),.q 75 (.fAddr 8 (.t 74)),.u (.store 1 (.t 75) (.t 72))]) (.seq (.r [.m 77 (.t 9),.m 76 (.t 77)]) (.cond (.t 76) (.r [.m 78 (.t 0),.l 79 f_names_Spaces [],.m 80 (.t 8),.q 81 (.bin .andNot (.t 79) (.t 80)),.q 82 (.nilChk (.t 78)),.q 83 (.fAddr 0 (.t 82)),.q 84 (.fAddr 8 (.t 83)),.u (.store 1 (.t 84) (.t 81))]) (.skip)))))))
def jn (f_values_Words f_values_Bool f_names_Spaces f_values_Turned f_names_Space f_restrict_setter_note:Nat):IFn:=⟨[],.seq (.seq (.r [.m 14 (.t 1),.l 15 f_values_Words [.t 14],.q 16 (.len false (.t 15)),.q 17 (.bin .eql (.t 16) (.k 0))]) (.cond (.t 17) (.seq (.r [.m 18 (.t 0),.q 19 (.nilChk (.t 18)),.q 20 (.fAddr 0 (.t 19)),.q 21 (.fAddr 8 (.t 20)),.u (.store 1 (.t 21) (.c (.i .u64 0)))]) (.ret)) (.skip))) (.seq (.seq (.r [.m 23 (.t 1),.l 24 f_values_Bool [.t 23],.m 22 (.t 24),.q 25 (.ext (.t 22) 0),.q 26 (.ext (.t 22) 1),.m 4 (.t 25),.m 5 (.t 26)]) (.seq (.r [.m 27 (.t 5),.q 28 (.bin .eql (.t 27) (.k 0))]) (.cond (.t 28) (.seq (.r [.m 29 (.t 0),.q 30 (.nilChk (.t 29)),.q 31 (.fAddr 0 (.t 30)),.q 32 (.fAddr 8 (.t 31)),.u (.store 1 (.t 32) (.c (.i .u64 0)))]) (.seq (.seq (.r [.m 33 (.t 4)]) (.cond (.t 33) (.r [.m 34 (.t 0),.l 35 f_names_Spaces [],.q 36 (.nilChk (.t 34)),.q 37 (.fAddr 0 (.t 36)),.q 38 (.fAddr 8 (.t 37)),.u (.store 1 (.t 38) (.t 35))]) (.skip))) (.ret))) (.skip)))) (.seq (.r [.m 40 (.t 1),.l 41 f_values_Turned [.t 40],.m 39 (.t 41),.q 42 (.ext (.t 39) 0),.q 43 (.ext (.t 39) 1),.m 6 (.t 42),.m 7 (.t 43)]) (.cut (zF f_values_Words f_values_Bool f_names_Spaces f_values_Turned f_names_Space f_restrict_setter_note))))⟩
theorem qlO {g1 g2 g3 g4 g5 g6:Nat} (h1:QT P g1) (h2:qhf P g5) (h3:yu P g6) (h4:qg P g3 [] (.i .u64 2114060416)) (p:Pol) (a:Asg) (ns:List GNote) (v:List UInt8) (t:Bool) (hv:v.length<=1000) (hn:ns.length<=1000)
  (r:Int × List (Int × List UInt8)) (hr:r = (qn v).foldl jj (0,[])) :
  S P 2 (zF g1 g2 g3 g4 g5 g6) (jz [] (y5 2 (.tup []) (qt (qbP p t r) a ns (r.2.map (qN a))))) (mkT [(0,.ptr 0 0),(6,.s v),(7,.b t)]) (mkH 0 [.cells 0 true false (qB p a 1 ns.length),.cells 4 true true (rN ns)]):=by
 have hwl:=wk v
 refine qA ?_
 simp only [zF,qB,qh,H0,mkT,mkH,trL,vI,simprocAttr]
 simp only [↓vS,vT,shb,shv,qb,qc,cellsOf,wr,qa,simprocAttr]
 refine (h1 v (by omega)).sc ?_
 simp only [↓vS,vT,shb,shv,qb,qc,cellsOf,wr,qa,simprocAttr]
 refine SL.loopn (α:=Nat) (fun j=>[(0,.ptr 0 0),(7,.b t),(8,.i .u64 (((qn v).take j).foldl jj (0,[])).1),(9,.b (decide ((((qn v).take j).foldl jj (0,[])).2 = []))),(45,.fz (qn v).length ((qn v).map .s)),(46,.i .i64 (qn v).length),(47,.i .i64 j)])
  (fun j=>qt p a ns ((((qn v).take j).foldl jj (0,[])).2.map (qN a))) (fun j=>j<=(qn v).length) (fun j=>(qn v).length - j) 0 [0,1] ?_ ?_ ?_ rfl ?_ ?_ ?_ ?_
 ·simp [vw,qt]
 ·simp [vw,qd,qe,qt,qB]; try decide
 ·simp [vw]
 ·simp [qt]
 ·intro b hb
  have:b = 0∨b = 1:=by omega
  rcases this with rfl | rfl <;> rfl
 ·exact Nat.zero_le _
 rintro j hj G ih
 have hlen:=qa6 ((qn v).take j) (0,[])
 simp only [List.length_take,List.length_nil,Nat.zero_add] at hlen
 generalize hrr:((qn v).take j).foldl jj (0,[]) = r1 at hlen ih ⊢
 by_cases hlt:j < (qn v).length
 ·have hx:(qn v)[j]? = some (qn v)[j]:=List.getElem?_eq_getElem hlt
  have hwj:IntKind.wrap .i64 ((j:Int) + 1) = (j:Int) + 1:=qG (by omega) (by omega)
  have hnext:((qn v).take (j + 1)).foldl jj (0,[]) = jj r1 (qn v)[j]:=by
   rw [List.take_add_one,hx,List.foldl_append,hrr]; rfl
  generalize hww:(qn v)[j] = w at hx hnext
  have ih2:=ih (j + 1)
  rw [hnext] at ih2
  have hsp:=qai .u64 w 181 qY
  by_cases hnew:r1.2.map (qN a) = []
  ·have hr2:r1.2 = []:=List.map_eq_nil_iff.1 hnew
   simp only [qt,if_pos hnew,qB,qh,H0,mkT,mkH,trL,vI,simprocAttr]
   simp only [↓vS,vT,shb,shv,qb,qc,cellsOf,wr,qa,simprocAttr,hlt,hx,List.getElem?_map,Option.map_some,Nat.mul_one,hr2]
   refine (h2 w).sc ?_
   rw [hsp]
   by_cases he:(spM w).2 = 0
   ·have he':(xd w 181 qY).2 = 0:=he
    simp only [↓vS,vT,shb,shv,qb,qc,cellsOf,wr,qa,simprocAttr,he',hwj]
    unfold jj at ih2
    rw [if_pos he] at ih2
    refine ih2 (by omega) (by omega) _ _ (Wk.mkn _ _ [0,1] ?_ ?_ ?_ rfl (by simp [qt,hnew]) ?_)
    ·simp [vw,qt,hr2,spM]
    ·simp [vw,qd,qe,qt,qB,hr2]; try decide
    ·simp [vw]
    ·intro b hb
     have:b = 0∨b = 1:=by omega
     rcases this with rfl | rfl <;> rfl
   ·have he':¬ (xd w 181 qY).2 = 0:=he
    simp only [↓vS,vT,shb,shv,qb,qc,cellsOf,wr,qa,simprocAttr,he']
    refine (h3 p a ns (spM w).2 w (by simp only [qi]; omega)).sc (vs:=[.ptr 0 0,.i .i64 (spM w).2,.s w]) [0,1] (Lent.of (by decide) ?_) ?_
    ·simp [vL,shb,shv,qb,qW,bnd,qM,rnv,gAt,vw,qB,qJ qe,ql qe,qS,clo,qp]
    simp only [vK,qR,rnb,qM,rnv,gAt,simprocAttr,qB,ql qe,qp,clo]
    simp only [↓vS,vT,shb,shv,qb,qc,cellsOf,wr,qa,simprocAttr,hwj]
    unfold jj at ih2
    rw [if_neg he] at ih2
    refine ih2 (by omega) (by omega) _ _ (Wk.mkn _ _ [0,1,2] ?_ ?_ ?_ rfl (by simp [qt]) ?_)
    ·simp [vw,qt,spM]
    ·simp [vw,qd,qe,qt,qB,hr2]; try decide
    ·simp [vw]
    ·intro b hb
     have:b = 0∨b = 1:=by omega
     rcases this with rfl | rfl <;> rfl
  ·have hr2n:¬ r1.2 = []:=fun hh=>hnew (by rw [hh]; rfl)
   have hnl:(ns++r1.2.map (qN a)).length<=2001:=by simp; omega
   simp only [qt,if_neg hnew,qB,qh,H0,mkT,mkH,trL,vI,simprocAttr]
   generalize hN:ns++r1.2.map (qN a) = N at hnl ih2 ⊢
   simp only [↓vS,vT,shb,shv,qb,qc,cellsOf,wr,qa,simprocAttr,hlt,hx,List.getElem?_map,Option.map_some,Nat.mul_one,hr2n]
   refine (h2 w).sc ?_
   rw [hsp]
   by_cases he:(spM w).2 = 0
   ·have he':(xd w 181 qY).2 = 0:=he
    simp only [↓vS,vT,shb,shv,qb,qc,cellsOf,wr,qa,simprocAttr,he',hwj]
    unfold jj at ih2
    rw [if_pos he] at ih2
    refine ih2 (by omega) (by omega) _ _ (Wk.mkn _ _ [0,1,2] ?_ ?_ ?_ rfl (by simp [qt,hnew]) ?_)
    ·simp [vw,qt,hr2n,spM]
    ·simp [vw,qd,qe,qt,qB,hr2n,hN]; try decide
    ·simp [vw,qt,hr2n]
    ·intro b hb
     have:b = 0∨b = 1:=by omega
     rcases this with rfl | rfl <;> rfl
   ·have he':¬ (xd w 181 qY).2 = 0:=he
    simp only [↓vS,vT,shb,shv,qb,qc,cellsOf,wr,qa,simprocAttr,he']
    refine (h3 p a N (spM w).2 w (by simp only [qi]; omega)).sc (vs:=[.ptr 0 0,.i .i64 (spM w).2,.s w]) [0,2] (Lent.of (by decide) ?_) ?_
    ·simp [vL,shb,shv,qb,qW,bnd,qM,rnv,gAt,vw,qB,qJ qe,ql qe,qS,clo,qp]
    simp only [vK,qR,rnb,qM,rnv,gAt,simprocAttr,qB,ql qe,qp,clo]
    simp only [↓vS,vT,shb,shv,qb,qc,cellsOf,wr,qa,simprocAttr,hwj]
    unfold jj at ih2
    rw [if_neg he] at ih2
    refine ih2 (by omega) (by omega) _ _ (Wk.mkn _ _ [0,1,3] ?_ ?_ ?_ rfl (by simp [qt]) ?_)
    ·simp [vw,qt,spM]
    ·simp [vw,qd,qe,qt,qB,← hN]; try decide
    ·simp [vw,qt]
    ·intro b hb
     have:b = 0∨b = 1:=by omega
     rcases this with rfl | rfl <;> rfl
 ·have hjl:(qn v).take j = qn v:=List.take_of_length_le (by omega)
  rw [hjl,← hr] at hrr
  subst hrr
  by_cases hnew:r.2 = []
  ·simp only [qt,hnew,List.map_nil,if_true,qB,qh,H0,mkT,mkH,trL,vI,simprocAttr]
   cases t with
   | true =>
    simp only [↓vS,vT,shb,shv,qb,qc,cellsOf,wr,qa,simprocAttr,hlt]
    refine fun _=>⟨[0,1],?_⟩
    simp [vw,qd,qe,qbP,hnew]; try decide
   | false =>
    simp only [↓vS,vT,shb,shv,qb,qc,cellsOf,wr,qa,simprocAttr,hlt]
    refine h4.sc ?_
    simp only [↓vS,vT,shb,shv,qb,qc,cellsOf,wr,qa,simprocAttr]
    refine fun _=>⟨[0,1],?_⟩
    simp [vw,qd,qe,qbP,hnew,jD]; try decide
  ·have hmn:¬ r.2.map (qN a) = []:=fun hh=>hnew (List.map_eq_nil_iff.1 hh)
   simp only [qt,if_neg hmn,hnew,qB,qh,H0,mkT,mkH,trL,vI,simprocAttr]
   simp only [↓vS,vT,shb,shv,qb,qc,cellsOf,wr,qa,simprocAttr,hlt]
   refine fun _=>⟨[0,1,2],?_⟩
   simp [vw,qd,qe,qbP,hnew]; try decide
theorem qgJ {g1 g2 g3 g4 g5 g6:Nat} (hc:qm P f (jn g1 g2 g3 g4 g5 g6) = true) (h1:QT P g1) (hb:qcP P g2) (h4:qg P g3 [] (.i .u64 2114060416)) (ht:qb1 P g4) (h2:qhf P g5) (h3:yu P g6):k9 P f zc:=by
 intro p a ns v hv hn _ _
 have hwl:=wk v
 have htl:=y3 v
 refine Upd.mk hc (by simp [qW,bnd]) (by unfold qt; split <;> simp) ?_
 simp only [jn,qB,qh,H0,mkT,mkH,trL,vI,simprocAttr]
 simp only [↓vS,vT,shb,shv,qb,qc,cellsOf,wr,qa,simprocAttr]
 refine (h1 v (by omega)).sc ?_
 by_cases hw:qn v = []
 ·simp only [↓vS,vT,shb,shv,qb,qc,cellsOf,wr,qa,simprocAttr,hw]
  intro _
  refine ⟨[0,1],?_⟩
  simp [vw,qd,qe,qt,qB,zc,hw]
  try decide
 ·have hwn:¬ ((qn v).length:Int) = 0:=by
   intro hh; exact hw (List.eq_nil_of_length_eq_zero (by omega))
  simp only [↓vS,vT,shb,shv,qb,qc,cellsOf,wr,qa,simprocAttr,hwn]
  refine (hb v).sc ?_
  unfold Jw
  by_cases hno:v ∈ xH
  ·simp only [↓vS,vT,shb,shv,qb,qc,cellsOf,wr,qa,simprocAttr,hno]
   intro _
   refine ⟨[0,1],?_⟩
   simp [vw,qd,qe,qt,qB,zc,hw,hno]
   try decide
  ·by_cases hy:v ∈ z2
   ·simp only [↓vS,vT,shb,shv,qb,qc,cellsOf,wr,qa,simprocAttr,hno,hy]
    refine h4.sc ?_
    simp only [↓vS,vT,shb,shv,qb,qc,cellsOf,wr,qa,simprocAttr]
    intro _
    refine ⟨[0,1],?_⟩
    simp [vw,qd,qe,qt,qB,zc,hw,hno,hy,jD]
    try decide
   ·simp only [↓vS,vT,shb,shv,qb,qc,cellsOf,wr,qa,simprocAttr,hno,hy]
    refine (ht v).sc ?_
    rw [qaE]
    simp only [↓vS,vT,shb,shv,qb,qc,cellsOf,wr,qa,simprocAttr]
    have:=qlO (g2:=g2) (g4:=g4) h1 h2 h3 h4 p a ns (zb v).1 (zb v).2 (by omega) hn _ rfl
    unfold zc
    rw [if_neg hw,if_neg hno,if_neg hy]
    refine S.weak (Wk.mkn _ _ [0,1] ?_ ?_ ?_ rfl (by simp) ?_) this
    ·simp [vw]
    ·simp [vw,qd,qe,qB]; try decide
    ·simp [vw]
    ·intro b hb
     have:b = 0∨b = 1:=by omega
     rcases this with rfl | rfl <;> rfl
end Go.Kc
end
section
/- What restrict.Set answers. Condition: the functions' texts are these. -/
namespace Go.Kc
variable {P:Program} {f:Nat}
theorem wT.pure {g esz by':Nat} (h:wT P g esz by') {n:Nat} {rows:List AV} (hl:rows.length = n * esz) (hc:qw rows = true) (ho:qI rows = true) (h1:n<=qi) (h2:n * by'<=qi):qg P g [.fz n rows] (.fz n rows):=by
 refine (h n rows hl hc ho h1 h2).pure (by simp [qw,clo]) ?_
 refine .own 0 n esz true rows rows ?_ (fun h0=>?_) (Frzs.self hc)
 ·simp [j0,Hp.push,shb,H0,Tr.get_set,z0 hc]
 ·subst h0; exact List.eq_nil_of_length_eq_zero (by omega)
structure PolOk (p:Pol):Prop where
 a:p.arches.length<=1000
 f:p.fams.length<=1000
 c:p.filter.calls.length<=1000
 l:p.log.calls.length<=1000
def qad (P:Program) (f:Nat):Prop:=∀ p,PolOk p->qg P f [.agg (qq p)] (.agg (qq p))
def kP (f_slices_Clone_int_int f_slices_Clone_uint32_uint32 f_slices_Clone_api_Call_api_Call:Nat):IFn:=⟨[.cell 2 13 true],.seq (.r [.q 1 (.box (.t 0)),.q 2 (.alloc [.nils,.i .u8 0,.nils,.i .u32 0,.i .u8 0,.nils,.nils,.i .u8 0,.i .u64 0,.b false,.b false,.b false,.b false])]) (.seq (.r [.q 3 (.fAddr 0 (.t 1)),.q 4 (.load1 (.t 3)),.l 5 f_slices_Clone_int_int [.t 4],.q 6 (.fAddr 0 (.t 1)),.u (.store 1 (.t 6) (.t 5))]) (.seq (.r [.q 7 (.fAddr 6 (.t 1)),.q 8 (.load1 (.t 7)),.l 9 f_slices_Clone_uint32_uint32 [.t 8],.q 10 (.fAddr 6 (.t 1)),.u (.store 1 (.t 10) (.t 9))]) (.seq (.r [.q 11 (.fAddr 1 (.t 1)),.q 12 (.fAddr 1 (.t 11)),.q 13 (.load1 (.t 12)),.l 14 f_slices_Clone_api_Call_api_Call [.t 13],.q 15 (.fAddr 1 (.t 1)),.q 16 (.fAddr 1 (.t 15)),.u (.store 1 (.t 16) (.t 14))]) (.seq (.r [.q 17 (.fAddr 4 (.t 1)),.q 18 (.fAddr 1 (.t 17)),.q 19 (.load1 (.t 18)),.l 20 f_slices_Clone_api_Call_api_Call [.t 19],.q 21 (.fAddr 4 (.t 1)),.q 22 (.fAddr 1 (.t 21)),.u (.store 1 (.t 22) (.t 20))]) (.seq (.r [.q 23 (.loadN 13 (.t 1)),.u (.store 13 (.t 2) (.t 23))]) (.ret))))))⟩
theorem qgH {g1 g2 g3:Nat} (hc:qm P f (kP g1 g2 g3) = true) (h1:wT P g1 1 8) (h2:wT P g2 1 4) (h3:wT P g3 2 24):qad P f:=by
 intro p hp
 have ha:=hp.a
 have hf:=hp.f
 have hcc:=hp.c
 have hl:=hp.l
 refine qg.mk hc rfl ?_
 simp only [kP,qq,qh,H0,mkT,mkH,trL,vI,simprocAttr]
 simp only [↓vS,vT,shb,shv,qb,qc,cellsOf,wr,qa,simprocAttr]
 refine (h1.pure (by rw [wo]; omega) qk Z4 (by simp only [qi]; omega) (by simp only [qi]; omega)).sc ?_
 simp only [↓vS,vT,shb,shv,qb,qc,cellsOf,wr,qa,simprocAttr]
 refine (h2.pure (by rw [wo]; omega) qk Z4 (by simp only [qi]; omega) (by simp only [qi]; omega)).sc ?_
 simp only [↓vS,vT,shb,shv,qb,qc,cellsOf,wr,qa,simprocAttr]
 refine (h3.pure kf qj qa1 (by simp only [qi]; omega) (by simp only [qi]; omega)).sc ?_
 simp only [↓vS,vT,shb,shv,qb,qc,cellsOf,wr,qa,simprocAttr]
 refine (h3.pure kf qj qa1 (by simp only [qi]; omega) (by simp only [qi]; omega)).sc ?_
 simp only [↓vS,vT,shb,shv,qb,qc,cellsOf,wr,qa,simprocAttr,vZ,and_self]
def yR (f_slices_Clone_int_int f_slices_Clone_uint32_uint32 f_slices_Clone_api_Call_api_Call:Nat):IFn:=⟨[.cell 2 13 true],.seq (.r [.q 1 (.box (.t 0)),.q 2 (.alloc [.nils,.i .u8 0,.nils,.i .u32 0,.i .u8 0,.nils,.nils,.i .u8 0,.i .u64 0,.b false,.b false,.b false,.b false])]) (.seq (.r [.q 3 (.fAddr 0 (.t 1)),.q 4 (.load1 (.t 3)),.l 5 f_slices_Clone_int_int [.t 4],.q 6 (.fAddr 0 (.t 1)),.u (.store 1 (.t 6) (.t 5))]) (.seq (.r [.q 7 (.fAddr 6 (.t 1)),.q 8 (.load1 (.t 7)),.l 9 f_slices_Clone_uint32_uint32 [.t 8],.q 10 (.fAddr 6 (.t 1)),.u (.store 1 (.t 10) (.t 9))]) (.seq (.r [.q 11 (.fAddr 1 (.t 1)),.q 12 (.fAddr 1 (.t 11)),.q 13 (.load1 (.t 12)),.l 14 f_slices_Clone_api_Call_api_Call [.t 13],.q 15 (.fAddr 1 (.t 1)),.q 16 (.fAddr 1 (.t 15)),.u (.store 1 (.t 16) (.t 14))]) (.seq (.r [.q 17 (.fAddr 4 (.t 1)),.q 18 (.fAddr 1 (.t 17)),.q 19 (.load1 (.t 18)),.l 20 f_slices_Clone_api_Call_api_Call [.t 19],.q 21 (.fAddr 4 (.t 1)),.q 22 (.fAddr 1 (.t 21)),.u (.store 1 (.t 22) (.t 20))]) (.seq (.r [.q 23 (.loadN 13 (.t 1)),.u (.store 13 (.t 2) (.t 23))]) (.ret))))))⟩
theorem qjt {g1 g2 g3:Nat} (hc:qm P f (yR g1 g2 g3) = true) (h1:wT P g1 1 8) (h2:wT P g2 1 4) (h3:wT P g3 2 24):qad P f:=by
 intro p hp
 have ha:=hp.a
 have hf:=hp.f
 have hcc:=hp.c
 have hl:=hp.l
 refine qg.mk hc rfl ?_
 simp only [yR,qq,qh,H0,mkT,mkH,trL,vI,simprocAttr]
 simp only [↓vS,vT,shb,shv,qb,qc,cellsOf,wr,qa,simprocAttr]
 refine (h1.pure (by rw [wo]; omega) qk Z4 (by simp only [qi]; omega) (by simp only [qi]; omega)).sc ?_
 simp only [↓vS,vT,shb,shv,qb,qc,cellsOf,wr,qa,simprocAttr]
 refine (h2.pure (by rw [wo]; omega) qk Z4 (by simp only [qi]; omega) (by simp only [qi]; omega)).sc ?_
 simp only [↓vS,vT,shb,shv,qb,qc,cellsOf,wr,qa,simprocAttr]
 refine (h3.pure kf qj qa1 (by simp only [qi]; omega) (by simp only [qi]; omega)).sc ?_
 simp only [↓vS,vT,shb,shv,qb,qc,cellsOf,wr,qa,simprocAttr]
 refine (h3.pure kf qj qa1 (by simp only [qi]; omega) (by simp only [qi]; omega)).sc ?_
 simp only [↓vS,vT,shb,shv,qb,qc,cellsOf,wr,qa,simprocAttr,vZ,and_self]
def yU (f_restrict_setter_arches f_restrict_setter_families f_restrict_setter_namespaces f_restrict_setter_writeExecute f_restrict_setter_personality f_restrict_setter_realtime f_restrict_setter_noPrivileges:Nat):IFn:=⟨[.tmp 0],.seq (.r [.m 0 (.c (.nilm))]) (.seq (.r [.q 1 (.mkM),.u (.updM none (.t 1) (.c (.s [83,121,115,116,101,109,67,97,108,108,65,114,99,104,105,116,101,99,116,117,114,101,115])) (.c (.fn f_restrict_setter_arches [] []))),.u (.updM none (.t 1) (.c (.s [82,101,115,116,114,105,99,116,65,100,100,114,101,115,115,70,97,109,105,108,105,101,115])) (.c (.fn f_restrict_setter_families [] []))),.u (.updM none (.t 1) (.c (.s [82,101,115,116,114,105,99,116,78,97,109,101,115,112,97,99,101,115])) (.c (.fn f_restrict_setter_namespaces [] []))),.u (.updM none (.t 1) (.c (.s [77,101,109,111,114,121,68,101,110,121,87,114,105,116,101,69,120,101,99,117,116,101])) (.c (.fn f_restrict_setter_writeExecute [] []))),.u (.updM none (.t 1) (.c (.s [76,111,99,107,80,101,114,115,111,110,97,108,105,116,121])) (.c (.fn f_restrict_setter_personality [] []))),.u (.updM none (.t 1) (.c (.s [82,101,115,116,114,105,99,116,82,101,97,108,116,105,109,101])) (.c (.fn f_restrict_setter_realtime [] []))),.u (.updM none (.t 1) (.c (.s [78,111,78,101,119,80,114,105,118,105,108,101,103,101,115])) (.c (.fn f_restrict_setter_noPrivileges [] []))),.m 2 (.t 1),.m 0 (.t 2)]) (.ret))⟩
def qbD:List UInt8:=[83,121,115,116,101,109,67,97,108,108,65,114,99,104,105,116,101,99,116,117,114,101,115]
def qf0:List UInt8:=[82,101,115,116,114,105,99,116,65,100,100,114,101,115,115,70,97,109,105,108,105,101,115]
def kSp:List UInt8:=[82,101,115,116,114,105,99,116,78,97,109,101,115,112,97,99,101,115]
def kWe:List UInt8:=[77,101,109,111,114,121,68,101,110,121,87,114,105,116,101,69,120,101,99,117,116,101]
def kPe:List UInt8:=[76,111,99,107,80,101,114,115,111,110,97,108,105,116,121]
def kRt:List UInt8:=[82,101,115,116,114,105,99,116,82,101,97,108,116,105,109,101]
def kNp:List UInt8:=[78,111,78,101,119,80,114,105,118,105,108,101,103,101,115]
def qbE (g1 g2 g3 g4 g5 g6 g7:Nat):List (AV × AV):=[(.s qbD,.fn g1 [] []),(.s qf0,.fn g2 [] []),(.s kSp,.fn g3 [] []),(.s kWe,.fn g4 [] []),(.s kPe,.fn g5 [] []),(.s kRt,.fn g6 [] []),(.s kNp,.fn g7 [] [])]
theorem qqU {g1 g2 g3 g4 g5 g6 g7:Nat} (hc:qm P f (yU g1 g2 g3 g4 g5 g6 g7) = true):Own P f [] (.map 0) [.map (qbE g1 g2 g3 g4 g5 g6 g7)]:=by
 refine Own.mk hc rfl ?_
 simp only [yU,qh,H0,mkT,mkH,trL,vI,simprocAttr]
 simp (decide:=true) only [↓vS,vT,shb,shv,qb,qc,cellsOf,wr,qa,simprocAttr]
 intro _
 refine ⟨[0],?_⟩
 simp [vw,qbE,qbD,qf0,kSp,kWe,kPe,kRt,kNp,clo,qw]
end Go.Kc
end
section
/- What restrict.Set and restrict.Key answer. Condition: the functions' texts are these. -/
namespace Go.Kc
variable {P:Program} {f:Nat}
noncomputable def wR (p:Pol) (k v:List UInt8):Pol × List (Int × List UInt8) :=
 if k = qbD then xG p v else if k = qf0 then zg p v else if k = kSp then zc p v else if k = kWe then qbp p v else if k = kPe then qbn p v else if k = kRt then qbo p v else if k = kNp then qbm p v else (p,[])
def qf3 (k:List UInt8):Bool:=decide (k = qbD) || decide (k = qf0) || decide (k = kSp) || decide (k = kWe) || decide (k = kPe) || decide (k = kRt) || decide (k = kNp)
def wS:List AV:=[.nils,.i .u8 0,.nils,.i .u32 0,.i .u8 0,.nils,.nils,.i .u8 0,.i .u64 0,.b false,.b false,.b false,.b false]
def jv (f_restrict_copied f_restrict_keys:Nat):ICode:=.seq (.reg true [.m 27 (.t 6),.q 28 (.nilChk (.t 27)),.q 29 (.fAddr 0 (.t 28)),.q 30 (.loadN 13 (.t 29)),.m 31 (.t 6),.q 32 (.nilChk (.t 31)),.q 33 (.fAddr 13 (.t 32)),.q 34 (.load1 (.t 33)),.u (.storeD 13 (.t 4) (.t 30) [33]),.m 5 (.t 34)]) (.ret)
def kO (f_restrict_copied f_restrict_keys:Nat):ICode:=.seq (.seq (.reg true [.l 15 f_restrict_keys [],.q 16 (.fAddr 3 (.t 3)),.q 17 (.load1 (.t 16)),.q 18 (.lookM none true (.nilf) (.t 15) (.t 17)),.m 14 (.t 18),.q 19 (.ext (.t 14) 0),.q 20 (.ext (.t 14) 1),.m 7 (.t 19),.m 8 (.t 20)]) (.seq (.r [.m 21 (.t 8)]) (.cond (.t 21) (.r [.m 22 (.t 7),.m 23 (.t 6),.q 24 (.fAddr 4 (.t 3)),.q 25 (.load1 (.t 24)),⟨(some 26),.callV (.t 22) [.t 23,.t 25],none⟩]) (.skip)))) (.cut (jv f_restrict_copied f_restrict_keys))
def QI (f_restrict_copied f_restrict_keys:Nat):IFn:=⟨[.cell 4 13 true,.tmp 5],.seq (.r [.q 2 (.box (.t 0)),.q 3 (.box (.t 1)),.q 4 (.alloc [.nils,.i .u8 0,.nils,.i .u32 0,.i .u8 0,.nils,.nils,.i .u8 0,.i .u64 0,.b false,.b false,.b false,.b false]),.m 5 (.c (.nils))]) (.seq (.reg true [.q 9 (.loadN 13 (.t 2)),.l 10 f_restrict_copied [.t 9],.q 11 (.loadN 5 (.t 3)),.q 12 (.build [.nils,.i .u8 0,.nils,.i .u32 0,.i .u8 0,.nils,.nils,.i .u8 0,.i .u64 0,.b false,.b false,.b false,.b false,.nils,.s [],.i .i64 0,.s [],.s [],.s []] [(0,13,(.t 10)),(14,5,(.t 11))]),.q 13 (.box (.t 12)),.m 6 (.t 13)]) (.cut (kO f_restrict_copied f_restrict_keys)))⟩
theorem xp (g1 g2:Nat) (q:Pol) (a:Asg) (new:List GNote) (src:List Nat) {t':Tr AV} {h':Hp} {k:Nat} (hk:k = (qt q a [] new).length) (res:List AV) (hres:res.length = 13)
  (hw:Wk 0 t' h' (mkT [(4,.ptr k 0),(6,.ptr 0 0)]) (mkH 0 (qt q a [] new++[.cells 0 true false res]))) :
  S P 0 (jv g1 g2) (jz [.cell 4 13 true,.tmp 5] (fun v' h'=>Frz h' v' (.tup [.agg (qq q),.fz new.length (rN new)]))) t' h':=by
 refine S.weak hw (qA ?_)
 subst hk
 have e1:(13:Nat)<=res.length:=by omega
 have e2:res.drop 13 = []:=List.drop_of_length_le (by omega)
 by_cases hn:new = []
 ·simp only [jv,qt,if_pos hn,qB,qh,H0,mkT,mkH,trL,vI,simprocAttr,List.cons_append,List.nil_append]
  simp only [↓vS,vT,shb,shv,qb,qc,cellsOf,wr,qa,simprocAttr]
  refine zS ?_
  simp (decide:=true) only [↓vS,vT,shb,shv,qb,qc,cellsOf,wr,qa,simprocAttr,e1,e2]
  simp [vZ,vP,Tr.get_set,qq,hn,qk,qH,qe,rN,qj]
 ·simp only [jv,qt,if_neg hn,qB,qh,H0,mkT,mkH,trL,vI,simprocAttr,List.cons_append,List.nil_append]
  simp only [↓vS,vT,shb,shv,qb,qc,cellsOf,wr,qa,simprocAttr]
  refine zS ?_
  simp (decide:=true) only [↓vS,vT,shb,shv,qb,qc,cellsOf,wr,qa,simprocAttr,e1,e2]
  simp [vZ,vP,Tr.get_set,qq,hn,qk,qH,qe,qj]
def qm4 (P:Program) (m1 m2 m3 m4 m5 m6 m7:Nat):Prop:=k9 P m1 xG∧k9 P m2 zg∧k9 P m3 zc∧k9 P m4 qbp∧k9 P m5 qbn∧k9 P m6 qbo∧k9 P m7 qbm
def qqv (P:Program) (f:Nat):Prop:=∀ (p:Pol) (a:Asg),PolOk p->a.val.length<=1000->qg P f [.agg (qq p),.agg (xb a)] (.tup [.agg (qq (wR p a.key a.val).1),.fz ((wR p a.key a.val).2.map (qN a)).length (rN ((wR p a.key a.val).2.map (qN a)))])
theorem qrp {g1 g2 m1 m2 m3 m4 m5 m6 m7:Nat} (hc:qm P f (QI g1 g2) = true) (h1:qad P g1) (h2:Own P g2 [] (.map 0) [.map (qbE m1 m2 m3 m4 m5 m6 m7)]) (hm:qm4 P m1 m2 m3 m4 m5 m6 m7):qqv P f:=by
 obtain ⟨hm1,hm2,hm3,hm4,hm5,hm6,hm7⟩:=hm
 intro p a hp hv
 refine qg.mk hc rfl ?_
 generalize hT:AV.tup [.agg (qq (wR p a.key a.val).1),.fz ((wR p a.key a.val).2.map (qN a)).length (rN ((wR p a.key a.val).2.map (qN a)))] = tgt
 simp only [QI,qq,xb,qh,H0,mkT,mkH,trL,vI,simprocAttr]
 simp only [↓vS,vT,shb,shv,qb,qc,cellsOf,wr,qa,simprocAttr]
 refine zS ?_
 simp (decide:=true) only [↓vS,vT,shb,shv,qb,qc,cellsOf,wr,qa,simprocAttr]
 refine (h1 p hp).pc ?_
 simp (decide:=true) only [↓vS,vT,shb,shv,qb,qc,cellsOf,wr,qa,simprocAttr,qq]
 refine S.weak (Wk.mk [(3,.ptr 2 0),(4,.ptr 3 0),(6,.ptr 0 0)] [.cells 0 true false (qB p a 1 0),.cells 4 true true [],.cells 0 true false (xb a),.cells 0 true false [.nils,.i .u8 0,.nils,.i .u32 0,.i .u8 0,.nils,.nils,.i .u8 0,.i .u64 0,.b false,.b false,.b false,.b false]] [3,9,1,2] ?_ ?_ ?_ rfl) (qA ?_)
 ·simp [vw]
 ·simp [vw,qB,xb]; try decide
 ·simp [vw]
 simp only [kO,qB,xb,qh,H0,mkT,mkH,trL,vI,simprocAttr]
 simp only [↓vS,vT,shb,shv,qb,qc,cellsOf,wr,qa,simprocAttr]
 refine zS ?_
 simp only [↓vS,vT,shb,shv,qb,qc,cellsOf,wr,qa,simprocAttr]
 refine h2.pc ?_
 simp only [vJ,shb,shv,qb,simprocAttr,qbE]
 simp only [↓vS,vT,shb,shv,qb,qc,cellsOf,wr,qa,simprocAttr]
 subst hT
 by_cases n0:a.key = qbD
 ·have hM:wR p a.key a.val = xG p a.val:=by unfold wR; rw [if_pos n0]
  simp only [↓vS,vT,shb,shv,qb,qc,cellsOf,wr,qa,simprocAttr,n0,if_true]
  refine (hm1 p a [] a.val hv (by simp) hp.a hp.f).sc (vs:=[.ptr 0 0,.s a.val]) [0,1] (Lent.of (by decide) ?_) ?_
  ·simp [vL,shb,shv,qb,qW,bnd,qM,rnv,gAt,vw,qB,qJ qe,ql qe,qS,clo,qp,rN]
  rw [← n0,hM]
  by_cases hnew:(xG p a.val).2.map (qN a) = []
  ·simp only [qt,if_pos hnew]
   simp only [vK,qR,rnb,qM,rnv,gAt,simprocAttr,qB,ql qe,qp,clo]
   simp only [↓vS,vT,shb,shv,qb,qc,cellsOf,wr,qa,simprocAttr]
   refine xp g1 g2 (xG p a.val).1 a ((xG p a.val).2.map (qN a)) [] (k:=2) (by simp only [qt,if_pos hnew]; rfl) wS rfl (Wk.mk _ _ [0,1,3] ?_ ?_ ?_ rfl)
   ·simp only [qt,if_pos hnew]; simp [vw]
   ·simp only [qt,if_pos hnew]; simp [vw,qB,wS,qd,qe]; try decide
   ·simp [vw]
  ·simp only [qt,if_neg hnew]
   simp only [vK,qR,rnb,qM,rnv,gAt,simprocAttr,qB,ql qe,qp,clo]
   simp only [↓vS,vT,shb,shv,qb,qc,cellsOf,wr,qa,simprocAttr]
   refine xp g1 g2 (xG p a.val).1 a ((xG p a.val).2.map (qN a)) [] (k:=3) (by simp only [qt,if_neg hnew]; rfl) wS rfl (Wk.mk _ _ [0,1,5,3] ?_ ?_ ?_ rfl)
   ·simp only [qt,if_neg hnew]; simp [vw]
   ·simp only [qt,if_neg hnew]; simp [vw,qB,wS,qd,qe]; try decide
   ·simp [vw]
 by_cases n1:a.key = qf0
 ·have hM:wR p a.key a.val = zg p a.val:=by unfold wR; rw [if_neg n0,if_pos n1]
  simp only [↓vS,vT,shb,shv,qb,qc,cellsOf,wr,qa,simprocAttr,n0,n1,if_true]
  refine (hm2 p a [] a.val hv (by simp) hp.a hp.f).sc (vs:=[.ptr 0 0,.s a.val]) [0,1] (Lent.of (by decide) ?_) ?_
  ·simp [vL,shb,shv,qb,qW,bnd,qM,rnv,gAt,vw,qB,qJ qe,ql qe,qS,clo,qp,rN]
  rw [← n1,hM]
  by_cases hnew:(zg p a.val).2.map (qN a) = []
  ·simp only [qt,if_pos hnew]
   simp only [vK,qR,rnb,qM,rnv,gAt,simprocAttr,qB,ql qe,qp,clo]
   simp only [↓vS,vT,shb,shv,qb,qc,cellsOf,wr,qa,simprocAttr]
   refine xp g1 g2 (zg p a.val).1 a ((zg p a.val).2.map (qN a)) [] (k:=2) (by simp only [qt,if_pos hnew]; rfl) wS rfl (Wk.mk _ _ [0,1,3] ?_ ?_ ?_ rfl)
   ·simp only [qt,if_pos hnew]; simp [vw]
   ·simp only [qt,if_pos hnew]; simp [vw,qB,wS,qd,qe]; try decide
   ·simp [vw]
  ·simp only [qt,if_neg hnew]
   simp only [vK,qR,rnb,qM,rnv,gAt,simprocAttr,qB,ql qe,qp,clo]
   simp only [↓vS,vT,shb,shv,qb,qc,cellsOf,wr,qa,simprocAttr]
   refine xp g1 g2 (zg p a.val).1 a ((zg p a.val).2.map (qN a)) [] (k:=3) (by simp only [qt,if_neg hnew]; rfl) wS rfl (Wk.mk _ _ [0,1,5,3] ?_ ?_ ?_ rfl)
   ·simp only [qt,if_neg hnew]; simp [vw]
   ·simp only [qt,if_neg hnew]; simp [vw,qB,wS,qd,qe]; try decide
   ·simp [vw]
 by_cases n2:a.key = kSp
 ·have hM:wR p a.key a.val = zc p a.val:=by unfold wR; rw [if_neg n0,if_neg n1,if_pos n2]
  simp only [↓vS,vT,shb,shv,qb,qc,cellsOf,wr,qa,simprocAttr,n0,n1,n2,if_true]
  refine (hm3 p a [] a.val hv (by simp) hp.a hp.f).sc (vs:=[.ptr 0 0,.s a.val]) [0,1] (Lent.of (by decide) ?_) ?_
  ·simp [vL,shb,shv,qb,qW,bnd,qM,rnv,gAt,vw,qB,qJ qe,ql qe,qS,clo,qp,rN]
  rw [← n2,hM]
  by_cases hnew:(zc p a.val).2.map (qN a) = []
  ·simp only [qt,if_pos hnew]
   simp only [vK,qR,rnb,qM,rnv,gAt,simprocAttr,qB,ql qe,qp,clo]
   simp only [↓vS,vT,shb,shv,qb,qc,cellsOf,wr,qa,simprocAttr]
   refine xp g1 g2 (zc p a.val).1 a ((zc p a.val).2.map (qN a)) [] (k:=2) (by simp only [qt,if_pos hnew]; rfl) wS rfl (Wk.mk _ _ [0,1,3] ?_ ?_ ?_ rfl)
   ·simp only [qt,if_pos hnew]; simp [vw]
   ·simp only [qt,if_pos hnew]; simp [vw,qB,wS,qd,qe]; try decide
   ·simp [vw]
  ·simp only [qt,if_neg hnew]
   simp only [vK,qR,rnb,qM,rnv,gAt,simprocAttr,qB,ql qe,qp,clo]
   simp only [↓vS,vT,shb,shv,qb,qc,cellsOf,wr,qa,simprocAttr]
   refine xp g1 g2 (zc p a.val).1 a ((zc p a.val).2.map (qN a)) [] (k:=3) (by simp only [qt,if_neg hnew]; rfl) wS rfl (Wk.mk _ _ [0,1,5,3] ?_ ?_ ?_ rfl)
   ·simp only [qt,if_neg hnew]; simp [vw]
   ·simp only [qt,if_neg hnew]; simp [vw,qB,wS,qd,qe]; try decide
   ·simp [vw]
 by_cases n3:a.key = kWe
 ·have hM:wR p a.key a.val = qbp p a.val:=by unfold wR; rw [if_neg n0,if_neg n1,if_neg n2,if_pos n3]
  simp only [↓vS,vT,shb,shv,qb,qc,cellsOf,wr,qa,simprocAttr,n0,n1,n2,n3,if_true]
  refine (hm4 p a [] a.val hv (by simp) hp.a hp.f).sc (vs:=[.ptr 0 0,.s a.val]) [0,1] (Lent.of (by decide) ?_) ?_
  ·simp [vL,shb,shv,qb,qW,bnd,qM,rnv,gAt,vw,qB,qJ qe,ql qe,qS,clo,qp,rN]
  rw [← n3,hM]
  by_cases hnew:(qbp p a.val).2.map (qN a) = []
  ·simp only [qt,if_pos hnew]
   simp only [vK,qR,rnb,qM,rnv,gAt,simprocAttr,qB,ql qe,qp,clo]
   simp only [↓vS,vT,shb,shv,qb,qc,cellsOf,wr,qa,simprocAttr]
   refine xp g1 g2 (qbp p a.val).1 a ((qbp p a.val).2.map (qN a)) [] (k:=2) (by simp only [qt,if_pos hnew]; rfl) wS rfl (Wk.mk _ _ [0,1,3] ?_ ?_ ?_ rfl)
   ·simp only [qt,if_pos hnew]; simp [vw]
   ·simp only [qt,if_pos hnew]; simp [vw,qB,wS,qd,qe]; try decide
   ·simp [vw]
  ·simp only [qt,if_neg hnew]
   simp only [vK,qR,rnb,qM,rnv,gAt,simprocAttr,qB,ql qe,qp,clo]
   simp only [↓vS,vT,shb,shv,qb,qc,cellsOf,wr,qa,simprocAttr]
   refine xp g1 g2 (qbp p a.val).1 a ((qbp p a.val).2.map (qN a)) [] (k:=3) (by simp only [qt,if_neg hnew]; rfl) wS rfl (Wk.mk _ _ [0,1,5,3] ?_ ?_ ?_ rfl)
   ·simp only [qt,if_neg hnew]; simp [vw]
   ·simp only [qt,if_neg hnew]; simp [vw,qB,wS,qd,qe]; try decide
   ·simp [vw]
 by_cases n4:a.key = kPe
 ·have hM:wR p a.key a.val = qbn p a.val:=by unfold wR; rw [if_neg n0,if_neg n1,if_neg n2,if_neg n3,if_pos n4]
  simp only [↓vS,vT,shb,shv,qb,qc,cellsOf,wr,qa,simprocAttr,n0,n1,n2,n3,n4,if_true]
  refine (hm5 p a [] a.val hv (by simp) hp.a hp.f).sc (vs:=[.ptr 0 0,.s a.val]) [0,1] (Lent.of (by decide) ?_) ?_
  ·simp [vL,shb,shv,qb,qW,bnd,qM,rnv,gAt,vw,qB,qJ qe,ql qe,qS,clo,qp,rN]
  rw [← n4,hM]
  by_cases hnew:(qbn p a.val).2.map (qN a) = []
  ·simp only [qt,if_pos hnew]
   simp only [vK,qR,rnb,qM,rnv,gAt,simprocAttr,qB,ql qe,qp,clo]
   simp only [↓vS,vT,shb,shv,qb,qc,cellsOf,wr,qa,simprocAttr]
   refine xp g1 g2 (qbn p a.val).1 a ((qbn p a.val).2.map (qN a)) [] (k:=2) (by simp only [qt,if_pos hnew]; rfl) wS rfl (Wk.mk _ _ [0,1,3] ?_ ?_ ?_ rfl)
   ·simp only [qt,if_pos hnew]; simp [vw]
   ·simp only [qt,if_pos hnew]; simp [vw,qB,wS,qd,qe]; try decide
   ·simp [vw]
  ·simp only [qt,if_neg hnew]
   simp only [vK,qR,rnb,qM,rnv,gAt,simprocAttr,qB,ql qe,qp,clo]
   simp only [↓vS,vT,shb,shv,qb,qc,cellsOf,wr,qa,simprocAttr]
   refine xp g1 g2 (qbn p a.val).1 a ((qbn p a.val).2.map (qN a)) [] (k:=3) (by simp only [qt,if_neg hnew]; rfl) wS rfl (Wk.mk _ _ [0,1,5,3] ?_ ?_ ?_ rfl)
   ·simp only [qt,if_neg hnew]; simp [vw]
   ·simp only [qt,if_neg hnew]; simp [vw,qB,wS,qd,qe]; try decide
   ·simp [vw]
 by_cases n5:a.key = kRt
 ·have hM:wR p a.key a.val = qbo p a.val:=by unfold wR; rw [if_neg n0,if_neg n1,if_neg n2,if_neg n3,if_neg n4,if_pos n5]
  simp only [↓vS,vT,shb,shv,qb,qc,cellsOf,wr,qa,simprocAttr,n0,n1,n2,n3,n4,n5,if_true]
  refine (hm6 p a [] a.val hv (by simp) hp.a hp.f).sc (vs:=[.ptr 0 0,.s a.val]) [0,1] (Lent.of (by decide) ?_) ?_
  ·simp [vL,shb,shv,qb,qW,bnd,qM,rnv,gAt,vw,qB,qJ qe,ql qe,qS,clo,qp,rN]
  rw [← n5,hM]
  by_cases hnew:(qbo p a.val).2.map (qN a) = []
  ·simp only [qt,if_pos hnew]
   simp only [vK,qR,rnb,qM,rnv,gAt,simprocAttr,qB,ql qe,qp,clo]
   simp only [↓vS,vT,shb,shv,qb,qc,cellsOf,wr,qa,simprocAttr]
   refine xp g1 g2 (qbo p a.val).1 a ((qbo p a.val).2.map (qN a)) [] (k:=2) (by simp only [qt,if_pos hnew]; rfl) wS rfl (Wk.mk _ _ [0,1,3] ?_ ?_ ?_ rfl)
   ·simp only [qt,if_pos hnew]; simp [vw]
   ·simp only [qt,if_pos hnew]; simp [vw,qB,wS,qd,qe]; try decide
   ·simp [vw]
  ·simp only [qt,if_neg hnew]
   simp only [vK,qR,rnb,qM,rnv,gAt,simprocAttr,qB,ql qe,qp,clo]
   simp only [↓vS,vT,shb,shv,qb,qc,cellsOf,wr,qa,simprocAttr]
   refine xp g1 g2 (qbo p a.val).1 a ((qbo p a.val).2.map (qN a)) [] (k:=3) (by simp only [qt,if_neg hnew]; rfl) wS rfl (Wk.mk _ _ [0,1,5,3] ?_ ?_ ?_ rfl)
   ·simp only [qt,if_neg hnew]; simp [vw]
   ·simp only [qt,if_neg hnew]; simp [vw,qB,wS,qd,qe]; try decide
   ·simp [vw]
 by_cases n6:a.key = kNp
 ·have hM:wR p a.key a.val = qbm p a.val:=by unfold wR; rw [if_neg n0,if_neg n1,if_neg n2,if_neg n3,if_neg n4,if_neg n5,if_pos n6]
  simp only [↓vS,vT,shb,shv,qb,qc,cellsOf,wr,qa,simprocAttr,n0,n1,n2,n3,n4,n5,n6,if_true]
  refine (hm7 p a [] a.val hv (by simp) hp.a hp.f).sc (vs:=[.ptr 0 0,.s a.val]) [0,1] (Lent.of (by decide) ?_) ?_
  ·simp [vL,shb,shv,qb,qW,bnd,qM,rnv,gAt,vw,qB,qJ qe,ql qe,qS,clo,qp,rN]
  rw [← n6,hM]
  by_cases hnew:(qbm p a.val).2.map (qN a) = []
  ·simp only [qt,if_pos hnew]
   simp only [vK,qR,rnb,qM,rnv,gAt,simprocAttr,qB,ql qe,qp,clo]
   simp only [↓vS,vT,shb,shv,qb,qc,cellsOf,wr,qa,simprocAttr]
   refine xp g1 g2 (qbm p a.val).1 a ((qbm p a.val).2.map (qN a)) [] (k:=2) (by simp only [qt,if_pos hnew]; rfl) wS rfl (Wk.mk _ _ [0,1,3] ?_ ?_ ?_ rfl)
   ·simp only [qt,if_pos hnew]; simp [vw]
   ·simp only [qt,if_pos hnew]; simp [vw,qB,wS,qd,qe]; try decide
   ·simp [vw]
  ·simp only [qt,if_neg hnew]
   simp only [vK,qR,rnb,qM,rnv,gAt,simprocAttr,qB,ql qe,qp,clo]
   simp only [↓vS,vT,shb,shv,qb,qc,cellsOf,wr,qa,simprocAttr]
   refine xp g1 g2 (qbm p a.val).1 a ((qbm p a.val).2.map (qN a)) [] (k:=3) (by simp only [qt,if_neg hnew]; rfl) wS rfl (Wk.mk _ _ [0,1,5,3] ?_ ?_ ?_ rfl)
   ·simp only [qt,if_neg hnew]; simp [vw]
   ·simp only [qt,if_neg hnew]; simp [vw,qB,wS,qd,qe]; try decide
   ·simp [vw]
 have hM:wR p a.key a.val = (p,[]):=by unfold wR; rw [if_neg n0,if_neg n1,if_neg n2,if_neg n3,if_neg n4,if_neg n5,if_neg n6]
 simp only [↓vS,vT,shb,shv,qb,qc,cellsOf,wr,qa,simprocAttr,n0,n1,n2,n3,n4,n5,n6]
 rw [hM]
 refine xp g1 g2 p a [] [] (k:=2) rfl wS rfl (Wk.mk _ _ [0,1,3] ?_ ?_ ?_ rfl)
 ·simp [vw,qt]
 ·simp [vw,qt,qB,wS,qd,qe,rN]; try decide
 ·simp [vw,qt]
end Go.Kc
end
section
/- The law RestrictSpaces. Condition: the functions' texts are these. -/
namespace Go.Kc
variable {P:Program} {f:Nat}
end Go.Kc
end
section
/- What a setter leaves: lists that rise still rise, only the named field differs, every note tells of a fault. No condition. -/
namespace Go.Kc
theorem qfw (p q:Nat->Bool):∀ (m i j:Nat),j - i = m->(∀ k,k < j->p k = q k)->bsN p i j = bsN q i j:=by
 intro m
 induction m using Nat.strongRecOn with
 | ind m ih =>
  intro i j hm h
  conv=>lhs; rw [bsN]
  conv=>rhs; rw [bsN]
  split
  ·rw [h _ (by omega)]
   split
   ·exact ih (j - ((i + j) / 2 + 1)) (by omega) _ _ rfl h
   ·exact ih ((i + j) / 2 - i) (by omega) _ _ rfl fun k hk=>h k (by omega)
  ·rfl
theorem qg9 {l:List Int} {x:Int} (h:l.Pairwise (· < ·)):(∀ a (ha:a < l.length),a < bsI l x->l[a] < x)∧(∀ a (ha:a < l.length),bsI l x<=a->¬ l[a] < x):=by
 have hp:=List.pairwise_iff_getElem.1 h
 have e:bsI l x = bsN (fun k=>if hk:k < l.length then decide (l[k] < x) else false) 0 l.length:=by
  refine qfw _ _ _ 0 l.length rfl fun k hk=>?_
  rw [dif_pos hk,List.getD_eq_getElem?_getD,List.getElem?_eq_getElem hk]; rfl
 have:=qcN (fun k=>if hk:k < l.length then decide (l[k] < x) else false) (fun a b hab hb=>by
  by_cases hbl:b < l.length
  ·simp only [dif_pos hbl,decide_eq_true_eq] at hb
   have hal:a < l.length:=by omega
   simp only [dif_pos hal,decide_eq_true_eq]
   rcases Nat.lt_or_eq_of_le hab with hlt | rfl
   ·have:=hp a b hal hbl hlt; omega
   ·exact hb
  ·simp only [dif_neg hbl] at hb; cases hb) l.length 0 l.length rfl (Nat.zero_le _) (fun a ha=>by omega) (fun a ha=>dif_neg (by omega))
 rw [← e] at this
 refine ⟨fun a ha hlt=>?_,fun a ha hle=>?_⟩
 ·have:=this.1 a hlt
  simpa only [dif_pos ha,decide_eq_true_eq] using this
 ·have:=this.2 a hle
  simpa only [dif_pos ha,decide_eq_false_iff_not] using this
theorem JW {l:List Int} (n:Int) (is:Bool) (h:l.Pairwise (· < ·)):(jl l n is).Pairwise (· < ·):=by
 unfold jl
 have hm:(l.filter (fun x=>!decide (x = n))).Pairwise (· < ·):=h.filter _
 have hne:∀ x ∈ l.filter (fun x=>!decide (x = n)),x≠n:=fun x hx=>by simpa using (List.mem_filter.1 hx).2
 generalize l.filter (fun x=>!decide (x = n)) = m at hm hne
 dsimp only
 split
 ·obtain ⟨h1,h2⟩:=qg9 (x:=n) hm
  have hp:=List.pairwise_iff_getElem.1 hm
  generalize bsI m n = k at h1 h2
  refine List.pairwise_append.2 ⟨hm.sublist (List.take_sublist _ _),List.pairwise_cons.2 ⟨fun y hy=>?_,hm.sublist (List.drop_sublist _ _)⟩,fun a ha b hb=>?_⟩
  ·obtain ⟨i,hi,rfl⟩:=List.mem_drop_iff_getElem.1 hy
   have:=h2 (k + i) (by omega) (by omega)
   have:=hne m[k + i] (List.getElem_mem _)
   omega
  ·obtain ⟨i,hi,rfl⟩:=List.mem_take_iff_getElem.1 ha
   have hi':i < m.length:=by omega
   have q1:=h1 i hi' (by omega)
   rcases List.mem_cons.1 hb with rfl | hb
   ·exact q1
   ·obtain ⟨j,hj,rfl⟩:=List.mem_drop_iff_getElem.1 hb
    exact hp i (k + j) hi' (by omega) (by omega)
 ·exact hm
def qqb (p:Pol):Prop:=p.arches.Pairwise (· < ·)∧p.fams.Pairwise (· < ·)
instance (p:Pol):Decidable (qqb p):=inferInstanceAs (Decidable (_∧_))
theorem qax (ws:List (List UInt8)):∀ s:List Int × List (Int × List UInt8),s.1.Pairwise (· < ·)->(ws.foldl zt s).1.Pairwise (· < ·):=by
 induction ws with
 | nil=>intro s h; exact h
 | cons w ws ih =>
  intro s h
  refine ih _ ?_
  unfold zt
  split
  ·exact JW (jx w).1 true h
  ·exact h
theorem qbi (b:Bool) (ws:List (List UInt8)):∀ s:List Int × List (Int × List UInt8),s.1.Pairwise (· < ·)->(ws.foldl (xC b) s).1.Pairwise (· < ·):=by
 induction ws with
 | nil=>intro s h; exact h
 | cons w ws ih =>
  intro s h
  refine ih _ ?_
  unfold xC
  split
  ·exact JW _ _ h
  ·exact h
end Go.Kc
end
section
/- What the small functions of the law RestrictOwn answer. Condition: the functions' texts are these. -/
namespace Go.Kc
variable {P:Program} {f:Nat}
def wL:IFn:=⟨[.tmp 2],.seq (.r [.q 1 (.box (.t 0)),.m 2 (.c (.b false))]) (.seq (.r [.q 3 (.fAddr 1 (.t 1)),.q 4 (.load1 (.t 3)),.q 5 (.len false (.t 4)),.q 6 (.bin .gtr (.t 5) (.k 100)),.m 2 (.t 6)]) (.ret))⟩
def yc (l:GList):Bool:=decide (100 < l.calls.length)
theorem qkG (hc:qm P f wL = true) (l:GList):qg P f [.agg (qE l)] (.b (yc l)):=by
 refine qg.mk hc rfl ?_
 simp only [wL,qE,qh,H0,mkT,mkH,trL,vI,simprocAttr]
 by_cases h:(100:Int) < l.calls.length
 ·have h':100 < l.calls.length:=by omega
  simp only [↓vS,vT,shb,shv,qb,qc,cellsOf,wr,qa,simprocAttr,h,yc,h',vZ]
 ·have h':¬ 100 < l.calls.length:=by omega
  simp only [↓vS,vT,shb,shv,qb,qc,cellsOf,wr,qa,simprocAttr,h,yc,h',vZ]
def wM (f_vestibulelaw16_Great:Nat):IFn:=⟨[.tmp 4],.seq (.r [.q 2 (.box (.t 0)),.q 3 (.box (.t 1)),.m 4 (.c (.b false))]) (.seq (.r [.q 5 (.fAddr 0 (.t 2)),.q 6 (.load1 (.t 5)),.q 7 (.len false (.t 6)),.q 8 (.bin .gtr (.t 7) (.k 20)),.m 9 (.t 8),.g 10 (.fAddr 6 (.t 2)) 9 false,.g 11 (.load1 (.t 10)) 9 false,.g 12 (.len false (.t 11)) 9 false,.g 13 (.bin .gtr (.t 12) (.k 20)) 9 false,.q 14 (.pick (.t 9) (.c (.b true)) (.t 13)),.m 15 (.t 14),.g 16 (.fAddr 1 (.t 2)) 15 false,.g 17 (.loadN 2 (.t 16)) 15 false,⟨(some 18),.callF f_vestibulelaw16_Great [.t 17],(some (15,false))⟩,.q 19 (.pick (.t 15) (.c (.b true)) (.t 18)),.m 20 (.t 19),.g 21 (.fAddr 4 (.t 2)) 20 false,.g 22 (.loadN 2 (.t 21)) 20 false,⟨(some 23),.callF f_vestibulelaw16_Great [.t 22],(some (20,false))⟩,.q 24 (.pick (.t 20) (.c (.b true)) (.t 23)),.m 25 (.t 24),.g 26 (.fAddr 4 (.t 3)) 25 false,.g 27 (.load1 (.t 26)) 25 false,.g 28 (.len true (.t 27)) 25 false,.g 29 (.bin .gtr (.t 28) (.k 1000)) 25 false,.q 30 (.pick (.t 25) (.c (.b true)) (.t 29)),.m 31 (.t 30),.g 32 (.fAddr 3 (.t 3)) 31 false,.g 33 (.load1 (.t 32)) 31 false,.g 34 (.len true (.t 33)) 31 false,.g 35 (.bin .gtr (.t 34) (.k 200)) 31 false,.q 36 (.pick (.t 31) (.c (.b true)) (.t 35)),.m 37 (.t 36),.g 38 (.fAddr 0 (.t 3)) 37 false,.g 39 (.load1 (.t 38)) 37 false,.g 40 (.len true (.t 39)) 37 false,.g 41 (.bin .gtr (.t 40) (.k 200)) 37 false,.q 42 (.pick (.t 37) (.c (.b true)) (.t 41)),.m 4 (.t 42)]) (.ret))⟩
def xD (p:Pol) (a:Asg):Bool:=decide (20 < p.arches.length) || decide (20 < p.fams.length) || yc p.filter || yc p.log || decide (1000 < a.val.length) || decide (200 < a.key.length) || decide (200 < a.file.length)
theorem qkH {g:Nat} (hc:qm P f (wM g) = true) (hg:∀ l,qg P g [.agg (qE l)] (.b (yc l))) (p:Pol) (a:Asg):qg P f [.agg (qq p),.agg (xb a)] (.b (xD p a)):=by
 have cast:∀ (n m:Nat),((n:Int) < (m:Int)) = (n < m):=fun n m=>by simp
 refine qg.mk hc rfl ?_
 simp only [wM,qq,xb,qh,H0,mkT,mkH,trL,vI,simprocAttr]
 by_cases h1:(20:Int) < p.arches.length
 ·have h1':20 < p.arches.length:=by omega
  simp only [↓vS,vT,shb,shv,qb,qc,cellsOf,wr,qa,simprocAttr,h1,xD,h1',vZ]
  simp
 have h1':¬ 20 < p.arches.length:=by omega
 by_cases h2:(20:Int) < p.fams.length
 ·have h2':20 < p.fams.length:=by omega
  simp only [↓vS,vT,shb,shv,qb,qc,cellsOf,wr,qa,simprocAttr,h1,h2,xD,h1',h2',vZ]
  simp
 have h2':¬ 20 < p.fams.length:=by omega
 simp only [↓vS,vT,shb,shv,qb,qc,cellsOf,wr,qa,simprocAttr,h1,h2]
 refine (hg p.filter).sc ?_
 cases h3:yc p.filter
 case true =>
  simp only [↓vS,vT,shb,shv,qb,qc,cellsOf,wr,qa,simprocAttr]
  simp [xD,h3,vZ]
 simp only [↓vS,vT,shb,shv,qb,qc,cellsOf,wr,qa,simprocAttr]
 refine (hg p.log).sc ?_
 cases h4:yc p.log
 case true =>
  simp only [↓vS,vT,shb,shv,qb,qc,cellsOf,wr,qa,simprocAttr]
  simp [xD,h4,vZ]
 by_cases h5:(1000:Int) < a.val.length
 ·have h5':1000 < a.val.length:=by omega
  simp only [↓vS,vT,shb,shv,qb,qc,cellsOf,wr,qa,simprocAttr,h5]
  simp [xD,h5',vZ]
 have h5':¬ 1000 < a.val.length:=by omega
 by_cases h6:(200:Int) < a.key.length
 ·have h6':200 < a.key.length:=by omega
  simp only [↓vS,vT,shb,shv,qb,qc,cellsOf,wr,qa,simprocAttr,h5,h6]
  simp [xD,h6',vZ]
 have h6':¬ 200 < a.key.length:=by omega
 by_cases h7:(200:Int) < a.file.length
 ·have h7':200 < a.file.length:=by omega
  simp only [↓vS,vT,shb,shv,qb,qc,cellsOf,wr,qa,simprocAttr,h5,h6,h7]
  simp [xD,h7',vZ]
 have h7':¬ 200 < a.file.length:=by omega
 simp only [↓vS,vT,shb,shv,qb,qc,cellsOf,wr,qa,simprocAttr,h5,h6,h7]
 simp [xD,h1',h2',h3,h4,h5',h6',h7',vZ]
def QH (f_restrict_keys:Nat):IFn:=⟨[.tmp 2],.seq (.r [.m 2 (.c (.b false))]) (.seq (.r [.l 6 f_restrict_keys [],.m 7 (.t 0),.q 8 (.lookM none true (.nilf) (.t 6) (.t 7)),.m 5 (.t 8),.q 9 (.ext (.t 5) 0),.q 10 (.ext (.t 5) 1),.m 3 (.t 9),.m 4 (.t 10)]) (.seq (.r [.m 11 (.t 4),.m 2 (.t 11)]) (.ret)))⟩
theorem qqS {g1 m1 m2 m3 m4 m5 m6 m7:Nat} (hc:qm P f (QH g1) = true) (h2:Own P g1 [] (.map 0) [.map (qbE m1 m2 m3 m4 m5 m6 m7)]) (k:List UInt8):qg P f [.s k] (.b (qf3 k)):=by
 refine qg.mk hc rfl ?_
 simp only [QH,qh,H0,mkT,mkH,trL,vI,simprocAttr]
 simp only [↓vS,vT,shb,shv,qb,qc,cellsOf,wr,qa,simprocAttr]
 refine h2.sc ?_
 simp only [vJ,shb,shv,qb,simprocAttr,qbE]
 simp only [↓vS,vT,shb,shv,qb,qc,cellsOf,wr,qa,simprocAttr]
 unfold qf3
 repeat' split
 all_goals simp_all [vZ,qbD,qf0,kSp,kWe,kPe,kRt,kNp]
end Go.Kc
end
section
/- Does a policy rise. Condition: the function's text is this. -/
namespace Go.Kc
variable {P:Program} {f:Nat}
end Go.Kc
end
section
/- The law RestrictOwn: whatever the policy and the assignment, true comes back. Condition: the functions' texts are these. -/
namespace Go.Kc
variable {P:Program} {f:Nat}
end Go.Kc
end
section
/- What the names of faults answer, the program's and the reference's. Condition: the functions' texts are these. -/
namespace Go.Kc
variable {P:Program} {f:Nat}
def yv:List UInt8->Nat->Option Nat
 | [],n=>some n
 | c :: l,n=>if c.toNat < 48∨57 < c.toNat then none else yv l (10 * n + (c.toNat - 48))
def zf (s:List UInt8):Int × Int :=
 if (xd s 160 zw).2 = 0 then ((xd s 160 zw).1,0)
 else if 4 < s.length then (0,160) else if s = [] then (0,160) else match yv s 0 with | none=>(0,160) | some n=>if 4095 < n then (0,160) else ((n:Int),0)
theorem JE (s:List UInt8) (no:Int):∀ l:List (List UInt8 × Int),(∀ p ∈ l,0<=p.2∧p.2<=110)->0<=(xd s no l).1∧(xd s no l).1<=110
 | [],_=>by simp [xd]
 | p :: l,h=>by
  simp only [xd]
  split
  ·exact h p (by simp)
  ·exact JE s no l fun q hq=>h q (by simp [hq])
theorem qqF (s:List UInt8):0<=(xd s 160 zw).1∧(xd s 160 zw).1<=110:=JE s 160 zw (by decide)
theorem qby {s:List UInt8} (he:¬ (xd s 160 zw).2 = 0) (h:4 < s.length):zf s = (0,160):=by
 unfold zf; rw [if_neg he,if_pos h]
theorem qdZ {s:List UInt8} (he:¬ (xd s 160 zw).2 = 0) (h:yv s 0 = none):zf s = (0,160):=by
 unfold zf; rw [if_neg he,h]; dsimp only
 repeat' split
 all_goals rfl
theorem qd0 {s:List UInt8} {n:Nat} (he:¬ (xd s 160 zw).2 = 0) (hl:¬ 4 < s.length) (h:yv s 0 = some n):zf s = if s = [] then (0,160) else if 4095 < n then (0,160) else ((n:Int),0):=by
 unfold zf; rw [if_neg he,if_neg hl,h]
def Q2 (f_filter_list_1:Nat):IFn:=⟨[.tmp 4],.seq (.r [.q 2 (.box (.t 0)),.q 3 (.box (.t 1)),.m 4 (.c (.nilf))]) (.seq (.r [.q 5 (.mkF f_filter_list_1 [] [.t 2,.t 3]),.m 4 (.t 5)]) (.ret))⟩
theorem qpL {g1:Nat} (hc:qm P f (Q2 g1) = true) (g:Nat) (b:Bool):qg P f [.fn g [] [],.b b] (.fn g1 [] [.pf [.fn g [] []] 0,.pf [.b b] 0]):=by
 refine qg.mk hc (by simp [qw,clo]) ?_
 simp only [Q2,qh,H0,mkT,mkH,trL,vI,simprocAttr]
 simp only [↓vS,vT,shb,shv,qb,qc,cellsOf,wr,qa,simprocAttr]
 simp [vZ,vP,Tr.get_set]
def Q8 (f_names_errnos f_names_find_uint32:Nat):IFn:=⟨[.tmp 2,.tmp 3],.seq (.r [.m 2 (.c (.i .u32 0)),.m 3 (.k 0)]) (.seq (.r [.l 10 f_names_errnos [],.q 4 (.alloc [.s [],.i .u32 0,.s [],.i .u32 0,.s [],.i .u32 0,.s [],.i .u32 0,.s [],.i .u32 0,.s [],.i .u32 0,.s [],.i .u32 0,.s [],.i .u32 0,.s [],.i .u32 0,.s [],.i .u32 0,.s [],.i .u32 0,.s [],.i .u32 0,.s [],.i .u32 0,.s [],.i .u32 0,.s [],.i .u32 0]),.u (.store 30 (.t 4) (.t 10))]) (.seq (.seq (.r [.q 12 (.slcA 15 2 (.t 4) none none none),.m 13 (.t 0),.l 14 f_names_find_uint32 [.t 12,.t 13,.k 160],.m 11 (.t 14),.q 15 (.ext (.t 11) 0),.q 16 (.ext (.t 11) 1),.m 5 (.t 15),.m 6 (.t 16)]) (.seq (.r [.m 17 (.t 6),.q 18 (.bin .eql (.t 17) (.k 0))]) (.cond (.t 18) (.seq (.r [.m 19 (.t 5),.m 2 (.t 19),.m 3 (.k 0)]) (.ret)) (.skip)))) (.seq (.r [.m 7 (.k 0)]) (.seq (.seq (.r [.m 20 (.t 0),.q 21 (.s2b (.t 20)),.q 22 (.len false (.t 21)),.m 23 (.k 0)]) (.blk 0 (.loop (.seq (.r [.q 24 (.bin .lss (.t 23) (.t 22))]) (.seq (.cond (.t 24) (.skip) (.exit 0)) (.seq (.blk 1 (.seq (.r [.q 25 (.iAddrS 1 (.t 21) (.t 23)),.q 26 (.load1 (.t 25)),.m 9 (.t 26)]) (.seq (.seq (.r [.m 27 (.t 9),.q 28 (.bin .lss (.t 27) (.c (.i .u8 48))),.m 29 (.t 28),.g 30 (.mov (.t 9)) 29 false,.g 31 (.bin .gtr (.t 30) (.c (.i .u8 57))) 29 false,.q 32 (.pick (.t 29) (.c (.b true)) (.t 31))]) (.cond (.t 32) (.seq (.r [.m 2 (.c (.i .u32 0)),.m 3 (.k 160)]) (.ret)) (.skip))) (.r [.m 33 (.t 7),.q 34 (.bin .mul (.k 10) (.t 33)),.m 35 (.t 9),.q 36 (.bin .sub (.t 35) (.c (.i .u8 48))),.q 37 (.cvInt .i64 (.t 36)),.q 38 (.bin .add (.t 34) (.t 37)),.q 39 (.min (.t 38) (.k 1048576)),.m 7 (.t 39)])))) (.r [.q 40 (.bin .add (.t 23) (.k 1)),.m 23 (.t 40)]))))))) (.seq (.seq (.r [.m 41 (.t 0),.q 42 (.len true (.t 41)),.q 43 (.bin .lss (.t 42) (.k 1)),.m 44 (.t 43),.g 45 (.mov (.t 0)) 44 false,.g 46 (.len true (.t 45)) 44 false,.g 47 (.bin .gtr (.t 46) (.k 4)) 44 false,.q 48 (.pick (.t 44) (.c (.b true)) (.t 47)),.m 49 (.t 48),.g 50 (.mov (.t 7)) 49 false,.g 51 (.bin .gtr (.t 50) (.k 4095)) 49 false,.q 52 (.pick (.t 49) (.c (.b true)) (.t 51))]) (.cond (.t 52) (.seq (.r [.m 2 (.c (.i .u32 0)),.m 3 (.k 160)]) (.ret)) (.skip))) (.seq (.r [.m 53 (.t 7),.q 54 (.cvInt .u32 (.t 53)),.m 2 (.t 54),.m 3 (.k 0)]) (.ret)))))))⟩
set_option maxRecDepth 8000 in
theorem qr6 {g1 g2:Nat} (hc:qm P f (Q8 g1 g2) = true) (h1:qg P g1 [] (.agg (zw.flatMap (zV .u32)))) (h2:qcQ P g2 .u32) (s:List UInt8) (hs:s.length<=1000000):qg P f [.s s] (.tup [.i .u32 (zf s).1,.i .i64 (zf s).2]):=by
 refine qg.mk hc rfl ?_
 simp only [Q8,qh,H0,mkT,mkH,trL,vI,simprocAttr]
 simp only [↓vS,vT,shb,shv,qb,qc,cellsOf,wr,qa,simprocAttr]
 refine h1.sc ?_
 simp only [↓vS,vT,shb,shv,qb,qc,cellsOf,wr,qa,simprocAttr,zw,zV,List.flatMap_cons,List.flatMap_nil]
 refine (h2 zw s 160 (by decide)).lend (vs':=[.fz 15 (zw.flatMap (zV .u32)),.s s,.i .i64 160]) ?_ (Qi _) ?_
 ·refine .cons _ _ _ _ (.cut 2 rfl (Nat.le_refl _) ?_) (.cons _ _ _ _ (.s _) (.cons _ _ _ _ (.i _ _) .nil))
  simp [vw,zw,zV]
 rw [qai]
 by_cases he:(xd s 160 zw).2 = 0
 ·simp only [↓vS,vT,shb,shv,qb,qc,cellsOf,wr,qa,simprocAttr,he]
  simp [vZ,zf,he]
 have bcl:qw (List.map (fun c:UInt8=>AV.i .u8 (c.toNat:Int)) s) = true:=XC fun _=>rfl
 simp only [↓vS,vT,shb,shv,qb,qc,cellsOf,wr,qa,simprocAttr,he]
 refine SL.loop (α:=Nat × Nat) (fun q=>[(0,.s s),(2,.i .u32 0),(3,.i .i64 0),(7,.i .i64 q.2),(21,.own 0 s.length),(22,.i .i64 s.length),(23,.i .i64 q.1)]) (fun _=>[.cells 1 true true (s.map fun c=>.i .u8 (Int.ofNat c.toNat))]) (fun q=>q.1<=s.length∧q.2<=1048576∧(q.1<=4->q.2 < 10 ^ q.1∧yv s 0 = yv (s.drop q.1) q.2)) (fun q=>s.length - q.1) (0,0) [1] ?_ ?_ ?_ rfl ?_ ?_
 ·simp [vw]
 ·simp [vw,qd,bcl]
 ·simp
 ·exact ⟨Nat.zero_le _,by decide,fun _=>⟨by decide,rfl⟩⟩
 rintro ⟨j,nn⟩ ⟨hj,hm,hI⟩ G ih
 dsimp only at hj hm hI ih ⊢
 simp only [qh,H0,mkT,mkH,trL,vI,simprocAttr]
 by_cases hlt:j < s.length
 ·have hx:s[j]? = some s[j]:=List.getElem?_eq_getElem hlt
  have hI2:j<=4->nn < 10 ^ j∧yv s 0 = if s[j].toNat < 48∨57 < s[j].toNat then none else yv (s.drop (j + 1)) (10 * nn + (s[j].toNat - 48)):=fun h=>by
   have:=hI h
   rwa [List.drop_eq_getElem_cons hlt,yv] at this
  clear hI
  generalize hc:s[j] = c at hI2 hx
  have hcl:=UInt8.toNat_lt c
  have hbad:(c.toNat < 48∨57 < c.toNat)->zf s = (0,160):=fun h=>by
   by_cases hl:4 < s.length
   ·exact qby he hl
   ·have:=(hI2 (by omega)).2
    rw [if_pos h] at this
    exact qdZ he this
  by_cases h1:(c.toNat:Int) < 48
  ·have hw:=hbad (.inl (by omega))
   simp only [↓vS,vT,shb,shv,qb,qc,cellsOf,wr,qa,simprocAttr,hlt,hx,List.getElem?_map,Option.map_some,Nat.mul_one,Int.ofNat_eq_natCast,h1]
   simp [vZ,hw]
  by_cases h2:(57:Int) < c.toNat
  ·have hw:=hbad (.inr (by omega))
   simp only [↓vS,vT,shb,shv,qb,qc,cellsOf,wr,qa,simprocAttr,hlt,hx,List.getElem?_map,Option.map_some,Nat.mul_one,Int.ofNat_eq_natCast,h1,h2]
   simp [vZ,hw]
  have e1:IntKind.wrap .u8 ((c.toNat:Int) - 48) = ((c.toNat - 48:Nat):Int):=by rw [qpi (by omega) (by omega)]; omega
  have e2:IntKind.wrap .i64 ((c.toNat - 48:Nat):Int) = ((c.toNat - 48:Nat):Int):=qG (by omega) (by omega)
  have e3:IntKind.wrap .i64 (10 * (nn:Int)) = ((10 * nn:Nat):Int):=by rw [qG (by omega) (by omega)]; omega
  have e4:IntKind.wrap .i64 (((10 * nn:Nat):Int) + ((c.toNat - 48:Nat):Int)) = ((10 * nn + (c.toNat - 48):Nat):Int):=by rw [qG (by omega) (by omega)]; omega
  have e5:IntKind.wrap .i64 ((j:Int) + 1) = ((j + 1:Nat):Int):=by rw [qG (by omega) (by omega)]; omega
  simp only [↓vS,vT,shb,shv,qb,qc,cellsOf,wr,qa,simprocAttr,hlt,hx,List.getElem?_map,Option.map_some,Nat.mul_one,Int.ofNat_eq_natCast,h1,h2,e1,e2,e3,e4,e5]
  have e6:(if (1048576:Int) < ((10 * nn + (c.toNat - 48):Nat):Int) then (1048576:Int) else ((10 * nn + (c.toNat - 48):Nat):Int)) = ((min (10 * nn + (c.toNat - 48)) 1048576:Nat):Int):=by
   split <;> omega
  rw [e6]
  refine ih (j + 1,min (10 * nn + (c.toNat - 48)) 1048576) ⟨by dsimp only; omega,by dsimp only; omega,fun h=>?_⟩ (by dsimp only; omega) _ _ (Wk.mk _ _ [0] ?_ ?_ ?_ rfl)
  ·dsimp only at h ⊢
   obtain ⟨q1,q2⟩:=hI2 (by omega)
   rw [if_neg (by omega)] at q2
   have hpow:10 ^ (j + 1)<=10 ^ 4:=Nat.pow_le_pow_right (by decide) h
   have q3:10 * nn + (c.toNat - 48) < 10 ^ (j + 1):=by rw [Nat.pow_succ]; omega
   have q4:min (10 * nn + (c.toNat - 48)) 1048576 = 10 * nn + (c.toNat - 48):=by omega
   rw [q4]
   exact ⟨q3,q2⟩
  ·simp [vw]
  ·simp [vw,qd,bcl]
  ·simp
 ·have ej:j = s.length:=by omega
  subst ej
  by_cases h1:(s.length:Int) < 1
  ·have h0:s = []:=List.eq_nil_of_length_eq_zero (by omega)
   simp only [↓vS,vT,shb,shv,qb,qc,cellsOf,wr,qa,simprocAttr,h1]
   have hw2:zf s = (0,160):=by
    unfold zf; rw [if_neg he,if_neg (by omega),if_pos h0]
   simp [vZ,hw2]
  by_cases h2:(4:Int) < s.length
  ·have hw:=qby he (s:=s) (by omega)
   simp only [↓vS,vT,shb,shv,qb,qc,cellsOf,wr,qa,simprocAttr,h1,h2]
   simp [vZ,hw]
  obtain ⟨q1,q2⟩:=hI (by omega)
  rw [List.drop_length,yv] at q2
  have hw:=qd0 he (by omega) q2
  rw [if_neg (by intro hh; rw [hh] at h1; simp at h1)] at hw
  by_cases h3:(4095:Int) < nn
  ·rw [if_pos (by omega)] at hw
   simp only [↓vS,vT,shb,shv,qb,qc,cellsOf,wr,qa,simprocAttr,h1,h2,h3]
   simp [vZ,hw]
  ·rw [if_neg (by omega)] at hw
   simp only [↓vS,vT,shb,shv,qb,qc,cellsOf,wr,qa,simprocAttr,h1,h2,h3,qcE (x:=(nn:Int)) (by omega) (by omega)]
   simp [vZ,hw]
end Go.Kc
end
section
/- The law FilterKeys: the program's way. Condition: the functions' texts are these. -/
namespace Go.Kc
variable {P:Program} {f:Nat}
theorem or5:∀ a b:Fin 64,orI .u32 327680 ((64 * a.val + b.val:Nat):Int) = 327680 + ((64 * a.val + b.val:Nat):Int):=by decide +kernel
theorem yL (s:List UInt8):0<=(zf s).1∧(zf s).1<=4095∧((zf s).2 = 0∨(zf s).2 = 160):=by
 have:=qqF s
 unfold zf
 repeat' split
 all_goals simp
 all_goals omega
def qaP:List UInt8:=[107,105,108,108]
noncomputable def k7 (s:List UInt8):Int × Int:=if s = []∨s = qaP then (2147483648,0) else if (zf s).2 = 0 then (327680 + (zf s).1,0) else (0,160)
theorem qdp (s:List UInt8):orI .u32 327680 (zf s).1 = 327680 + (zf s).1:=by
 obtain ⟨h0,h1,_⟩:=yL s
 have:=or5 ⟨(zf s).1.toNat / 64,by omega⟩ ⟨(zf s).1.toNat % 64,by omega⟩
 have e:((64 * ((zf s).1.toNat / 64) + (zf s).1.toNat % 64:Nat):Int) = (zf s).1:=by omega
 simpa only [e] using this
def qeC (P:Program) (f:Nat):Prop:=∀ s:List UInt8,s.length<=1000000->qg P f [.s s] (.tup [.i .u32 (k7 s).1,.i .i64 (k7 s).2])
def Qx (f_names_Errno:Nat):IFn:=⟨[.tmp 2,.tmp 3],.seq (.r [.m 2 (.c (.i .u32 0)),.m 3 (.k 0)]) (.seq (.seq (.r [.m 5 (.t 0),.q 6 (.bin .eql (.t 5) (.c (.s []))),.m 7 (.t 6),.g 8 (.mov (.t 0)) 7 false,.g 9 (.bin .eql (.t 8) (.c (.s [107,105,108,108]))) 7 false,.q 10 (.pick (.t 7) (.c (.b true)) (.t 9))]) (.cond (.t 10) (.seq (.r [.m 2 (.c (.i .u32 2147483648)),.m 3 (.k 0)]) (.ret)) (.skip))) (.seq (.r [.m 12 (.t 0),.l 13 f_names_Errno [.t 12],.m 11 (.t 13),.q 14 (.ext (.t 11) 0),.q 15 (.ext (.t 11) 1),.m 4 (.t 14),.m 3 (.t 15)]) (.seq (.seq (.r [.m 16 (.t 3),.q 17 (.bin .neq (.t 16) (.k 0))]) (.cond (.t 17) (.seq (.r [.m 18 (.t 3),.m 2 (.c (.i .u32 0)),.m 3 (.t 18)]) (.ret)) (.skip))) (.seq (.r [.m 19 (.t 4),.q 20 (.bin .or (.c (.i .u32 327680)) (.t 19)),.m 2 (.t 20),.m 3 (.k 0)]) (.ret)))))⟩
theorem ql7 {g:Nat} (hc:qm P f (Qx g) = true) (hg:∀ s:List UInt8,s.length<=1000000->qg P g [.s s] (.tup [.i .u32 (zf s).1,.i .i64 (zf s).2])):qeC P f:=by
 intro s hs
 obtain ⟨h0,h1,h2⟩:=yL s
 refine qg.mk hc (by simp [qw,clo]) ?_
 simp only [Qx,qh,H0,mkT,mkH,trL,vI,simprocAttr]
 by_cases e1:s = []
 ·have hw:k7 s = (2147483648,0):=if_pos (.inl e1)
  have e1':(s = []) = True:=eq_true e1
  simp only [↓vS,vT,shb,shv,qb,qc,cellsOf,wr,qa,simprocAttr,e1']
  simp [vZ,hw]
 by_cases e2:s = qaP
 ·have hw:k7 s = (2147483648,0):=if_pos (.inr e2)
  simp only [qaP] at e2
  have e2':(s = [107,105,108,108]) = True:=eq_true e2
  simp only [↓vS,vT,shb,shv,qb,qc,cellsOf,wr,qa,simprocAttr,e1,e2']
  simp [vZ,hw]
 have hne:¬ (s = []∨s = qaP):=by intro h; rcases h with h | h; exact e1 h; exact e2 h
 have e2':¬ s = [107,105,108,108]:=e2
 simp only [↓vS,vT,shb,shv,qb,qc,cellsOf,wr,qa,simprocAttr,e1,e2']
 refine (hg s hs).sc ?_
 rcases h2 with h2 | h2
 ·have hw:k7 s = (327680 + (zf s).1,0):=by unfold k7; rw [if_neg hne,if_pos h2]
  have hwr:=qcE (x:=327680 + (zf s).1) (by omega) (by omega)
  simp only [↓vS,vT,shb,shv,qb,qc,cellsOf,wr,qa,simprocAttr,h2,qdp,hwr]
  simp [vZ,hw]
 ·have hw:k7 s = (0,160):=by unfold k7; rw [if_neg hne,if_neg (by omega)]
  simp only [↓vS,vT,shb,shv,qb,qc,cellsOf,wr,qa,simprocAttr,h2]
  simp [vZ,hw]
def ZB:List UInt8:=[83,121,115,116,101,109,67,97,108,108,70,105,108,116,101,114]
def qf1:List UInt8:=[83,121,115,116,101,109,67,97,108,108,76,111,103]
def qfZ:List UInt8:=[83,121,115,116,101,109,67,97,108,108,69,114,114,111,114,78,117,109,98,101,114]
def qf2 (k:List UInt8):Bool:=decide (k = ZB) || decide (k = qf1) || decide (k = qfZ)
def qbF (l g1 g2 g3:Nat):List (AV × AV):=[(.s ZB,.fn l [] [.pf [.fn g1 [] []] 0,.pf [.b true] 0]),(.s qf1,.fn l [] [.pf [.fn g2 [] []] 0,.pf [.b false] 0]),(.s qfZ,.fn g3 [] [])]
def Q1 (f_filter_list f_filter_keys_1 f_filter_keys_2 f_filter_keys_3:Nat):IFn:=⟨[.tmp 0],.seq (.r [.m 0 (.c (.nilm))]) (.seq (.r [.q 1 (.mkM),.l 2 f_filter_list [(.c (.fn f_filter_keys_1 [] [])),(.c (.b true))],.u (.updM none (.t 1) (.c (.s [83,121,115,116,101,109,67,97,108,108,70,105,108,116,101,114])) (.t 2)),.l 3 f_filter_list [(.c (.fn f_filter_keys_2 [] [])),(.c (.b false))],.u (.updM none (.t 1) (.c (.s [83,121,115,116,101,109,67,97,108,108,76,111,103])) (.t 3)),.u (.updM none (.t 1) (.c (.s [83,121,115,116,101,109,67,97,108,108,69,114,114,111,114,78,117,109,98,101,114])) (.c (.fn f_filter_keys_3 [] []))),.m 4 (.t 1),.m 0 (.t 4)]) (.ret))⟩
theorem qpI {g0 g1 g2 g3 l:Nat} (hc:qm P f (Q1 g0 g1 g2 g3) = true) (h:∀ (g:Nat) (b:Bool),qg P g0 [.fn g [] [],.b b] (.fn l [] [.pf [.fn g [] []] 0,.pf [.b b] 0])):Own P f [] (.map 0) [.map (qbF l g1 g2 g3)]:=by
 refine Own.mk hc rfl ?_
 simp only [Q1,qh,H0,mkT,mkH,trL,vI,simprocAttr]
 simp (decide:=true) only [↓vS,vT,shb,shv,qb,qc,cellsOf,wr,qa,simprocAttr]
 refine (h g1 true).sc ?_
 simp (decide:=true) only [↓vS,vT,shb,shv,qb,qc,cellsOf,wr,qa,simprocAttr]
 refine (h g2 false).sc ?_
 simp (decide:=true) only [↓vS,vT,shb,shv,qb,qc,cellsOf,wr,qa,simprocAttr]
 intro _
 refine ⟨[0],?_⟩
 simp [vw,qbF,ZB,qf1,qfZ,clo,qw]
def ZX (f_filter_keys:Nat):IFn:=⟨[.tmp 2],.seq (.r [.m 2 (.c (.b false))]) (.seq (.r [.l 6 f_filter_keys [],.m 7 (.t 0),.q 8 (.lookM none true (.nilf) (.t 6) (.t 7)),.m 5 (.t 8),.q 9 (.ext (.t 5) 0),.q 10 (.ext (.t 5) 1),.m 3 (.t 9),.m 4 (.t 10)]) (.seq (.r [.m 11 (.t 4),.m 2 (.t 11)]) (.ret)))⟩
theorem qpH {g1 l m1 m2 m3:Nat} (hc:qm P f (ZX g1) = true) (h2:Own P g1 [] (.map 0) [.map (qbF l m1 m2 m3)]) (k:List UInt8):qg P f [.s k] (.b (qf2 k)):=by
 refine qg.mk hc rfl ?_
 simp only [ZX,qh,H0,mkT,mkH,trL,vI,simprocAttr]
 simp only [↓vS,vT,shb,shv,qb,qc,cellsOf,wr,qa,simprocAttr]
 refine h2.sc ?_
 simp only [vJ,shb,shv,qb,simprocAttr,qbF]
 simp only [↓vS,vT,shb,shv,qb,qc,cellsOf,wr,qa,simprocAttr]
 unfold qf2
 repeat' split
 all_goals simp_all [vZ,ZB,qf1,qfZ]
end Go.Kc
end
section
/- The small functions of fold: what they answer. Condition: the functions' texts are these. -/
namespace Go.Kc
variable {P:Program} {f:Nat}
def Q6:IFn:=⟨[.tmp 2],.seq (.r [.m 2 (.c (.b false))]) (.seq (.r [.m 3 (.t 0),.q 4 (.bin .eql (.t 3) (.c (.i .u32 0))),.m 5 (.t 4),.g 6 (.mov (.t 0)) 5 false,.g 7 (.bin .eql (.t 6) (.c (.i .u32 2147483648))) 5 false,.q 8 (.pick (.t 5) (.c (.b true)) (.t 7)),.m 9 (.t 8),.g 10 (.mov (.t 0)) 9 false,.g 11 (.bin .geq (.t 10) (.c (.i .u32 327680))) 9 false,.g 12 (.mov (.t 11)) 9 false,.g 13 (.mov (.t 0)) 12 true,.g 14 (.bin .leq (.t 13) (.c (.i .u32 331775))) 12 true,.g 15 (.pick (.t 12) (.t 14) (.c (.b false))) 9 false,.q 16 (.pick (.t 9) (.c (.b true)) (.t 15)),.m 2 (.t 16)]) (.ret))⟩
def QQ (n:Int):Bool:=decide (n = 0) || decide (n = 2147483648) || (decide (327680<=n) && decide (n<=331775))
theorem qlX (hc:qm P f Q6 = true) (n:Int):qg P f [.i .u32 n] (.b (QQ n)):=by
 refine qg.mk hc rfl ?_
 simp only [Q6,qh,H0,mkT,mkH,trL,vI,simprocAttr]
 by_cases h1:n = 0
 ·simp only [↓vS,vT,shb,shv,qb,qc,cellsOf,wr,qa,simprocAttr,h1]
  simp [vZ,QQ,h1]
 by_cases h2:n = 2147483648
 ·simp only [↓vS,vT,shb,shv,qb,qc,cellsOf,wr,qa,simprocAttr,h1,h2]
  simp [vZ,QQ,h2]
 by_cases h3:327680<=n
 ·by_cases h4:n<=331775
  ·simp only [↓vS,vT,shb,shv,qb,qc,cellsOf,wr,qa,simprocAttr,h1,h2,h3,h4]
   simp [vZ,QQ,h3,h4]
  ·simp only [↓vS,vT,shb,shv,qb,qc,cellsOf,wr,qa,simprocAttr,h1,h2,h3,h4]
   simp [vZ,QQ,h1,h2,h4]
 ·simp only [↓vS,vT,shb,shv,qb,qc,cellsOf,wr,qa,simprocAttr,h1,h2,h3]
  simp [vZ,QQ,h1,h2,h3]
def ve (l:List GCall) (s:List UInt8):Option GCall:=l.find? (fun c=>decide (c.name = s))
def Q7 (f_slices_Clone_api_Call_api_Call:Nat):IFn:=⟨[.cell 2 2 true],.seq (.r [.q 1 (.box (.t 0)),.q 2 (.alloc [.i .u8 0,.nils])]) (.seq (.reg true [.q 3 (.fAddr 0 (.t 1)),.q 4 (.load1 (.t 3)),.q 5 (.fAddr 1 (.t 1)),.q 6 (.load1 (.t 5)),.l 7 f_slices_Clone_api_Call_api_Call [.t 6],.q 8 (.build [.i .u8 0,.nils] [(0,1,(.t 4)),(1,1,(.t 7))]),.u (.store 2 (.t 2) (.t 8))]) (.ret))⟩
theorem qrK {g:Nat} (hc:qm P f (Q7 g) = true) (hg:wT P g 2 24) (l:GList) (hl:l.calls.length<=100000):Own P f [.agg (qE l)] (.agg [.i .u8 l.mode,.own 0 l.calls.length]) [.cells 2 true true (rC l.calls)]:=by
 refine Own.mk hc rfl ?_
 simp only [Q7,qE,qh,H0,mkT,mkH,trL,vI,simprocAttr]
 simp only [↓vS,vT,shb,shv,qb,qc,cellsOf,wr,qa,simprocAttr]
 refine zS ?_
 simp only [↓vS,vT,shb,shv,qb,qc,cellsOf,wr,qa,simprocAttr]
 refine (hg _ _ kf qj qa1 (by simp only [qi]; omega) (by simp only [qi]; omega)).pc ?_
 simp only [vJ,shb,shv,qb,simprocAttr]
 simp only [↓vS,vT,shb,shv,qb,qc,cellsOf,wr,qa,simprocAttr]
 intro _
 refine ⟨[2],?_⟩
 simp [vw,qd,qj,z0 qj]
def kQ (f_internal_bytealg_CompareString:Nat):IFn:=⟨[.tmp 4],.seq (.r [.m 4 (.k 0)]) (.seq (.r [.m 5 (.t 0),.m 6 (.t 1),.l 7 f_internal_bytealg_CompareString [.t 5,.t 6],.m 4 (.t 7)]) (.ret))⟩
theorem qkd {g:Nat} (hc:qm P f (kQ g) = true) (hg:∀ a b:List UInt8,qg P g [.s a,.s b] (.i .i64 (zE a b))) (a b:List UInt8):qg P f [.s a,.s b] (.i .i64 (zE a b)):=by
 refine qg.mk hc rfl ?_
 simp only [kQ,qh,H0,mkT,mkH,trL,vI,simprocAttr]
 simp only [↓vS,vT,shb,shv,qb,qc,cellsOf,wr,qa,simprocAttr]
 refine (hg a b).sc ?_
 simp only [↓vS,vT,shb,shv,qb,qc,cellsOf,wr,qa,simprocAttr,vZ]
def xt (f_internal_bytealg_abigen_runtime_cmpstring:Nat):IFn:=⟨[.tmp 4],.seq (.r [.m 4 (.k 0)]) (.seq (.r [.m 5 (.t 0),.m 6 (.t 1),.l 7 f_internal_bytealg_abigen_runtime_cmpstring [.t 5,.t 6],.m 4 (.t 7)]) (.ret))⟩
theorem qjs {g:Nat} (hc:qm P f (xt g) = true) (hg:∀ a b:List UInt8,qg P g [.s a,.s b] (.i .i64 (zE a b))) (a b:List UInt8):qg P f [.s a,.s b] (.i .i64 (zE a b)):=by
 refine qg.mk hc rfl ?_
 simp only [xt,qh,H0,mkT,mkH,trL,vI,simprocAttr]
 simp only [↓vS,vT,shb,shv,qb,qc,cellsOf,wr,qa,simprocAttr]
 refine (hg a b).sc ?_
 simp only [↓vS,vT,shb,shv,qb,qc,cellsOf,wr,qa,simprocAttr,vZ]
def ZZ (f_strings_Compare:Nat):IFn:=⟨[.tmp 4],.seq (.r [.q 2 (.box (.t 0)),.m 4 (.k 0)]) (.seq (.r [.q 5 (.fAddr 0 (.t 2)),.q 6 (.load1 (.t 5)),.m 7 (.t 1),.l 8 f_strings_Compare [.t 6,.t 7],.m 4 (.t 8)]) (.ret))⟩
theorem qpT {g:Nat} (hc:qm P f (ZZ g) = true) (hg:∀ a b:List UInt8,qg P g [.s a,.s b] (.i .i64 (zE a b))) (c:GCall) (s:List UInt8):qg P f [.agg (jy c),.s s] (.i .i64 (zE c.name s)):=by
 refine qg.mk hc rfl ?_
 simp only [ZZ,jy,qh,H0,mkT,mkH,trL,vI,simprocAttr]
 simp only [↓vS,vT,shb,shv,qb,qc,cellsOf,wr,qa,simprocAttr]
 refine (hg c.name s).sc ?_
 simp only [↓vS,vT,shb,shv,qb,qc,cellsOf,wr,qa,simprocAttr,vZ]
def Q5:IFn:=⟨[.tmp 3],.seq (.r [.q 2 (.box (.t 0)),.m 3 (.c (.b false))]) (.seq (.r [.q 4 (.fAddr 0 (.t 2)),.q 5 (.load1 (.t 4)),.q 6 (.load1 (.t 1)),.q 7 (.bin .eql (.t 5) (.t 6)),.m 3 (.t 7)]) (.ret))⟩
theorem qo5 (hc:qm P f Q5 = true) (s:List UInt8) (c:GCall):qg P f [.agg (jy c),.pf [.s s] 0] (.b (decide (c.name = s))):=by
 refine qg.mk hc (by simp [qw,clo,jy]) ?_
 simp only [Q5,jy,qh,H0,mkT,mkH,trL,vI,simprocAttr]
 simp only [↓vS,vT,shb,shv,qb,qc,cellsOf,wr,qa,simprocAttr,vZ]
end Go.Kc
end
section
/- A binary search among calls by a function; a list of calls without some. Condition: the functions' texts are these. -/
namespace Go.Kc
variable {P:Program} {f:Nat}
def bsQ (l:List GCall) (cm:GCall->Int) (k:Nat):Bool:=(l[k]?).elim false (fun c=>decide (cm c < 0))
def bsC (l:List GCall) (cm:GCall->Int):Nat:=bsN (bsQ l cm) 0 l.length
theorem qmY (l:List GCall) (cm:GCall->Int):bsC l cm<=l.length:=(qha _ _ 0 l.length rfl (Nat.zero_le _)).2
def zo:IFn:=⟨[.tmp 6,.tmp 7],.seq (.r [.m 6 (.k 0),.m 7 (.c (.b false))]) (.seq (.r [.m 12 (.t 0),.q 13 (.len false (.t 12)),.m 8 (.t 13)]) (.seq (.r [.m 14 (.t 8),.m 9 (.k 0),.m 10 (.t 14)]) (.seq (.blk 0 (.loop (.seq (.seq (.r [.m 15 (.t 9),.m 16 (.t 10),.q 17 (.bin .lss (.t 15) (.t 16))]) (.cond (.t 17) (.skip) (.exit 0))) (.blk 1 (.seq (.r [.m 18 (.t 9),.m 19 (.t 10),.q 20 (.bin .add (.t 18) (.t 19)),.q 21 (.cvInt .u64 (.t 20)),.q 22 (.bin .shr (.t 21) (.c (.i .u64 1))),.q 23 (.cvInt .i64 (.t 22)),.m 11 (.t 23)]) (.seq (.r [.m 24 (.t 2),.m 25 (.t 0),.m 26 (.t 11),.q 27 (.iAddrS 2 (.t 25) (.t 26)),.q 28 (.loadN 2 (.t 27)),.m 29 (.t 1),⟨(some 30),.callV (.t 24) [.t 28,.t 29],none⟩,.q 31 (.bin .lss (.t 30) (.k 0))]) (.cond (.t 31) (.r [.m 32 (.t 11),.q 33 (.bin .add (.t 32) (.k 1)),.m 9 (.t 33)]) (.r [.m 34 (.t 11),.m 10 (.t 34)])))))))) (.seq (.r [.m 35 (.t 9),.m 36 (.t 9),.m 37 (.t 8),.q 38 (.bin .lss (.t 36) (.t 37)),.m 39 (.t 38),.g 40 (.mov (.t 2)) 39 true,.g 41 (.mov (.t 0)) 39 true,.g 42 (.mov (.t 9)) 39 true,.g 43 (.iAddrS 2 (.t 41) (.t 42)) 39 true,.g 44 (.loadN 2 (.t 43)) 39 true,.g 45 (.mov (.t 1)) 39 true,⟨(some 46),.callV (.t 40) [.t 44,.t 45],(some (39,true))⟩,.g 47 (.bin .eql (.t 46) (.k 0)) 39 true,.q 48 (.pick (.t 39) (.t 47) (.c (.b false))),.m 6 (.t 35),.m 7 (.t 48)]) (.ret)))))⟩
def qqt (P:Program) (f:Nat):Prop:=∀ (l:List GCall) (s:List UInt8) (g:Nat) (cm:GCall->Int),l.length<=qi->(∀ c ∈ l,qg P g [.agg (jy c),.s s] (.i .i64 (cm c)))->
 qg P f [.fz l.length (rC l),.s s,.fn g [] []] (.tup [.i .i64 (bsC l cm:Int),.b ((l[bsC l cm]?).elim false (fun c=>decide (cm c = 0)))])
theorem qqs (hc:qm P f zo = true):qqt P f:=by
 intro l s g cm hl hg
 have hl2:=hl; simp only [qi] at hl2
 refine qg.mk hc (by simp [qw,clo,qj]) ?_
 simp only [zo,qh,H0,mkT,mkH,trL,vI,simprocAttr]
 simp only [↓vS,vT,shb,shv,qb,qc,cellsOf,wr,qa,simprocAttr]
 refine SL.loop (α:=Nat × Nat) (fun q=>[(0,.fz l.length (rC l)),(1,.s s),(2,.fn g [] []),(8,.i .i64 l.length),(9,.i .i64 q.1),(10,.i .i64 q.2)]) (fun _=>[]) (fun q=>q.1<=q.2∧q.2<=l.length∧bsC l cm = bsN (bsQ l cm) q.1 q.2) (fun q=>q.2 - q.1) (0,l.length) [] ?_ ?_ ?_ rfl ?_ ?_
 ·simp [vw,qj]
 ·trivial
 ·simp
 ·exact ⟨Nat.zero_le _,Nat.le_refl _,rfl⟩
 rintro ⟨i,j⟩ ⟨hij,hj,hI⟩ G ih
 dsimp only at hij hj hI ih ⊢
 simp only [qh,H0,mkT,mkH,trL,vI,simprocAttr]
 by_cases hlt:i < j
 ·have hh:=qd6 hij (by omega)
  have hm:(i + j) / 2 < l.length:=by omega
  have hx:l[(i + j) / 2]? = some l[(i + j) / 2]:=List.getElem?_eq_getElem hm
  have hd:bsQ l cm ((i + j) / 2) = decide (cm l[(i + j) / 2] < 0):=by unfold bsQ; rw [hx]; rfl
  have he:=ZG hx
  have hb:=kV hm
  rw [bsN,dif_pos hlt,hd] at hI
  simp only [↓vS,vT,shb,shv,qb,qc,cellsOf,wr,qa,simprocAttr,hlt,hh,hm,hb,he]
  refine (hg l[(i + j) / 2] (List.getElem_mem hm)).sc ?_
  by_cases hc2:cm l[(i + j) / 2] < 0
  ·have hw:IntKind.wrap .i64 ((((i + j) / 2:Nat):Int) + 1) = (((i + j) / 2 + 1:Nat):Int):=by rw [qG (by omega) (by omega)]; omega
   simp only [hc2,decide_true,if_true] at hI
   simp only [↓vS,vT,shb,shv,qb,qc,cellsOf,wr,qa,simprocAttr,hc2,hw]
   refine ih ((i + j) / 2 + 1,j) ⟨by dsimp only; omega,hj,hI⟩ (by dsimp only; omega) _ _ (Wk.mk _ _ [] ?_ ?_ ?_ rfl)
   ·simp [vw,qj]
   ·trivial
   ·simp
  ·simp only [hc2,decide_false,Bool.false_eq_true,if_false] at hI
   simp only [↓vS,vT,shb,shv,qb,qc,cellsOf,wr,qa,simprocAttr,hc2]
   refine ih (i,(i + j) / 2) ⟨by dsimp only; omega,by dsimp only; omega,hI⟩ (by dsimp only; omega) _ _ (Wk.mk _ _ [] ?_ ?_ ?_ rfl)
   ·simp [vw,qj]
   ·trivial
   ·simp
 ·have e:bsC l cm = i:=by rw [hI,bsN,dif_neg hlt]
  by_cases hil:i < l.length
  ·have hx:l[i]? = some l[i]:=List.getElem?_eq_getElem hil
   have he:=ZG hx
   have hb:=kV hil
   simp only [↓vS,vT,shb,shv,qb,qc,cellsOf,wr,qa,simprocAttr,hlt,hil,hb,he]
   refine (hg l[i] (List.getElem_mem hil)).sc ?_
   simp only [↓vS,vT,shb,shv,qb,qc,cellsOf,wr,qa,simprocAttr]
   simp [vZ,e,hx]
  ·have hx:l[i]? = none:=List.getElem?_eq_none (by omega)
   simp only [↓vS,vT,shb,shv,qb,qc,cellsOf,wr,qa,simprocAttr,hlt,hil]
   simp [vZ,e,hx]
end Go.Kc
end
section
/- What slices.DeleteFunc makes of a row of calls of one's own. Condition: the functions' texts are these. -/
namespace Go.Kc
variable {P:Program} {f:Nat}
def zY (f_slices_IndexFunc_api_Call_api_Call:Nat):IFn:=⟨[.tmp 4],.seq (.r [.m 4 (.c (.nils))]) (.seq (.r [.m 8 (.t 0),.m 9 (.t 1),.l 10 f_slices_IndexFunc_api_Call_api_Call [.t 8,.t 9],.m 5 (.t 10)]) (.seq (.seq (.r [.m 11 (.t 5),.q 12 (.bin .eql (.t 11) (.c (.i .i64 (-1))))]) (.cond (.t 12) (.seq (.r [.m 13 (.t 0),.m 4 (.t 13)]) (.ret)) (.skip))) (.seq (.seq (.r [.m 14 (.t 5),.q 15 (.bin .add (.t 14) (.k 1)),.m 6 (.t 15)]) (.blk 0 (.loop (.seq (.seq (.r [.m 16 (.t 6),.m 17 (.t 0),.q 18 (.len false (.t 17)),.q 19 (.bin .lss (.t 16) (.t 18))]) (.cond (.t 19) (.skip) (.exit 0))) (.seq (.blk 1 (.seq (.r [.m 22 (.t 0),.m 23 (.t 6),.q 24 (.iAddrS 2 (.t 22) (.t 23)),.q 25 (.loadN 2 (.t 24)),.q 7 (.alloc [.s [],.i .u32 0]),.u (.store 2 (.t 7) (.t 25))]) (.seq (.r [.m 26 (.t 1),.q 27 (.loadN 2 (.t 7)),⟨(some 28),.callV (.t 26) [.t 27],none⟩,.q 29 (.un .not (.t 28))]) (.cond (.t 29) (.seq (.r [.m 30 (.t 0),.m 31 (.t 5),.q 32 (.loadN 2 (.t 7)),.q 33 (.iAddrS 2 (.t 30) (.t 31)),.u (.store 2 (.t 33) (.t 32))]) (.r [.m 34 (.t 5),.q 35 (.bin .add (.t 34) (.k 1)),.m 5 (.t 35)])) (.skip))))) (.r [.m 20 (.t 6),.q 21 (.bin .add (.t 20) (.k 1)),.m 6 (.t 21)])))))) (.seq (.r [.m 36 (.t 0),.m 37 (.t 5),.q 38 (.slcS 2 (.t 36) (some (.t 37)) none none),.u (.clear [.s [],.i .u32 0] (.t 38))]) (.seq (.r [.m 39 (.t 0),.m 40 (.t 5),.q 41 (.slcS 2 (.t 39) none (some (.t 40)) none),.m 4 (.t 41)]) (.ret))))))⟩
theorem qoI {n:Nat}:(List.replicate n [AV.s [],AV.i .u32 0]).flatten = rC (List.replicate n ⟨[],0⟩):=by
 induction n with
 | zero=>rfl
 | succ n ih=>simp [List.replicate_succ,ih,qao]
def Xz (P:Program) (f:Nat):Prop:=∀ (p:GCall->Bool) (g:Nat) (a c:List AV) (l:List GCall),qw a = true->qw c = true->l.length<=qi->(∀ x ∈ l,qg P g (a++([.agg (jy x)]++c)) (.b (p x)))->
 Upd P f [.own 0 l.length,.fn g a c] [.cells 2 true true (rC l)] (.own 0 (l.filter fun x=>!p x).length) [.cells 2 true true (rC (l.filter fun x=>!p x))]
theorem qgI {g1:Nat} (hc:qm P f (zY g1) = true) (h1:Qa 2 P g1):Xz P f:=by
 intro p g a c l ha hcc hl hp
 have hl2:=hl; simp only [qi] at hl2
 refine Upd.mkS hc (by simp [qW,bnd,qJ ha,qJ hcc]) (Nat.le_refl _) (qA ?_)
 simp only [zY,qh,H0,mkT,mkH,trL,vI,simprocAttr]
 simp only [↓vS,vT,shb,shv,qb,qc,cellsOf,wr,qa,simprocAttr]
 refine (h1 jy p g a c l vh ha hcc hl hp).lend (vs':=[.fz l.length (rC l),.fn g a c]) ?_ rfl ?_
 ·simp [vZ,vP,Tr.get_set,qH ha,qH hcc,qH qj]
  intro h0; rw [h0]; rfl
 rcases kA p l 0 with ⟨hi,_⟩ | ⟨i,x,hi,hx,hpx,_,hb⟩
 ·simp only [↓vS,vT,shb,shv,qb,qc,cellsOf,wr,qa,simprocAttr,hi,Int.reduceNeg]
  refine y5.w (fun _=>⟨[0],?_⟩) (Nat.le_refl _)
  rw [Jc hi]
  simp [vw,qd,qj]
 ·have hne:¬ ((i:Nat):Int) = -1:=by omega
  have hil:i < l.length:=(List.getElem?_eq_some_iff.1 hx).1
  have hw:IntKind.wrap .i64 ((i:Int) + 1) = (i:Int) + 1:=qG (by omega) (by omega)
  rw [Nat.zero_add] at hi
  simp only [↓vS,vT,shb,shv,qb,qc,cellsOf,wr,qa,simprocAttr,hi,hne,hw]
  have htk:(l.take i).filter (fun x=>!p x) = l.take i:=by
   rw [List.filter_eq_self]
   intro y hy
   obtain ⟨k,hk,rfl⟩:=List.getElem_of_mem hy
   simp at hk
   rw [List.getElem_take]
   simp [hb k _ (by omega) (List.getElem?_eq_getElem (by omega))]
  have htk1:(l.take (i + 1)).filter (fun x=>!p x) = l.take i:=by
   rw [List.take_add_one,hx,List.filter_append,htk]; simp [hpx]
  refine SL.loopn (α:=Nat × List GCall) (fun s=>[(0,.own 0 l.length),(1,.fn g a c),(5,.i .i64 (((l.take s.1).filter fun x=>!p x).length:Int)),(6,.i .i64 (s.1:Int))])
   (fun s=>[.cells 2 true true (rC (((l.take s.1).filter fun x=>!p x)++(s.2++l.drop s.1)))]) (fun s=>s.1<=l.length∧((l.take s.1).filter fun x=>!p x).length + s.2.length = s.1) (fun s=>l.length - s.1) (i + 1,[x]) [0] ?_ ?_ ?_ rfl (Nat.le_refl _) ?_ ?_ ?_
  ·simp [vw,qd,ha,hcc,htk1]; omega
  ·have:(l.take i++([x]++l.drop (i + 1))) = l:=by
    have h2:=List.take_append_drop i l
    rw [List.drop_eq_getElem_cons hil] at h2
    obtain ⟨_,rfl⟩:=List.getElem?_eq_some_iff.1 hx
    simpa using h2
   dsimp only
   rw [htk1,this]
   simp [vw,qd,qj]
  ·simp [vw]
  ·intro b hb; obtain rfl:b = 0:=by simpa using hb
   simp [qbq]
  ·refine ⟨by omega,?_⟩
   dsimp only
   rw [htk1]; simp; omega
  rintro ⟨j,mid⟩ ⟨hj,hm⟩ G ih
  dsimp only at hj hm ih ⊢
  simp only [qh,H0,mkT,mkH,trL,vI,simprocAttr]
  generalize hF:(l.take j).filter (fun x=>!p x) = F at hm ih ⊢
  by_cases hlt:j < l.length
  ·have hxj:l[j]? = some l[j]:=List.getElem?_eq_getElem hlt
   have hwj:IntKind.wrap .i64 ((j:Int) + 1) = (j:Int) + 1:=qG (by omega) (by omega)
   have hwi:IntKind.wrap .i64 ((F.length:Int) + 1) = (F.length:Int) + 1:=qG (by omega) (by omega)
   have hgj:(F++(mid++l.drop j))[j]? = some l[j]:=by
    rw [← List.append_assoc,List.getElem?_append_right (by simp; omega),List.getElem?_drop]
    simp [hm,hxj]
   have hget:=ZG hgj
   have hbd:j * 2 + 2<=(rC (F++(mid++l.drop j))).length:=kV (by simp; omega)
   have htj:(l.take (j + 1)).filter (fun x=>!p x) = F++(if p l[j] = true then [] else [l[j]]):=by
    rw [List.take_add_one,hxj,List.filter_append,hF]
    cases hpj:p l[j] <;> simp [hpj]
   simp only [↓vS,vT,shb,shv,qb,qc,cellsOf,wr,qa,simprocAttr,hlt,hget,hbd,jy]
   refine (hp l[j] (List.getElem_mem hlt)).sc ?_
   by_cases hpj:p l[j] = true
   ·simp only [↓vS,vT,shb,shv,qb,qc,cellsOf,wr,qa,simprocAttr,hpj,hwj]
    rw [hpj] at htj
    refine ih (j + 1,mid++[l[j]]) ⟨by omega,by rw [htj]; simp; omega⟩ (by dsimp only; omega) _ _ (Wk.mkn _ _ [0] ?_ ?_ ?_ rfl (Nat.le_refl _) ?_)
    ·simp [vw,qd,ha,hcc,htj]
    ·have e:(F++(mid++l.drop j)) = (((l.take (j + 1)).filter fun x=>!p x)++((mid++[l[j]])++l.drop (j + 1))):=by
      rw [htj,List.drop_eq_getElem_cons hlt]; simp
     dsimp only
     rw [← e]
     simp [vw,qd,qj]
    ·simp [vw]
    ·intro b hb; obtain rfl:b = 0:=by simpa using hb
     simp [qbq]
   ·have hFl:F.length < l.length:=by omega
    have hlen:F.length * 2 + 2<=(rC (F++(mid++l.drop j))).length:=by rw [kf]; simp; omega
    have hFn:(F.length:Int) < l.length:=by omega
    simp only [↓vS,vT,shb,shv,qb,qc,cellsOf,wr,qa,simprocAttr,hpj,hwj,hwi,hFl,hlen]
    rw [if_neg hpj] at htj
    have hset:rC ((F++(mid++l.drop j)).take F.length)++(AV.s l[j].name :: AV.i .u32 l[j].act :: rC ((F++(mid++l.drop j)).drop (F.length + 1))) = rC (((l.take (j + 1)).filter fun x=>!p x)++((mid++[l[j]]).tail++l.drop (j + 1))):=by
     rw [htj,← qao,qei,List.take_left' rfl,← List.drop_drop,List.drop_left' rfl,List.drop_eq_getElem_cons hlt]
     cases mid <;> simp
    have e2:F.length * 2 + 2 = (F.length + 1) * 2:=by omega
    simp only [qap,e2,qcq,hset]
    refine ih (j + 1,(mid++[l[j]]).tail) ⟨by omega,by rw [htj]; simp; omega⟩ (by dsimp only; omega) _ _ (Wk.mkn _ _ [0] ?_ ?_ ?_ rfl (Nat.le_refl _) ?_)
    ·simp [vw,qd,ha,hcc,htj]
    ·simp [vw,qd,qj]
    ·simp [vw]
    ·intro b hb; obtain rfl:b = 0:=by simpa using hb
     simp [qbq]
  ·obtain rfl:j = l.length:=by omega
   have hl0:¬ l.length = 0:=by omega
   have hFl:F.length<=l.length:=by omega
   have hrl:(rC (F++(mid++l.drop l.length))).length = l.length * 2:=by rw [kf]; simp; omega
   have hz:¬ l.length - F.length = 0:=by
    intro hz
    have:F.length = l.length:=by omega
    rw [← hF,List.take_length] at this
    have h2:=List.length_filter_eq_length_iff.1 this x (List.mem_of_getElem? hx)
    simp [hpx] at h2
   have hsum:F.length + (l.length - F.length) = l.length:=by omega
   have hle:F.length * 2 + (l.length - F.length) * 2<=l.length * 2:=by omega
   simp only [↓vS,vT,shb,shv,qb,qc,cellsOf,wr,qa,simprocAttr,hlt,hl0,hFl,hz,qoI,qa1,kf,List.length_replicate,hrl,Int.ofNat_le,hle]
   rw [List.take_length] at hF
   subst hF
   refine QP.closed (by simp [Tr.get_set]; exact ⟨rfl,rfl⟩) rfl ?_ hFl ?_ qj
   ·simp [kf]; omega
   ·rw [List.take_left' (by rw [List.length_take,kf]; simp),qap,List.take_left' rfl]
end Go.Kc
end
section
/- Is a call known. Condition: the functions' texts are these. -/
namespace Go.Kc
variable {P:Program} {f:Nat}
def zy:List (List UInt8 × List Int):=[([98,105,110,100],[49,361,49,282,200,200]),([98,112,102],[321,357,321,386,280,280]),([98,114,107],[12,45,12,45,214,214]),([99,108,111,99,107,95,115,101,116,116,105,109,101],[227,264,227,262,112,112]),([99,108,111,110,101],[56,120,56,120,220,220]),([99,108,111,110,101,51],[435,435,(-1),435,435,435]),([99,108,111,115,101],[3,6,3,6,57,57]),([99,111,110,110,101,99,116],[42,362,42,283,203,203]),([100,101,108,101,116,101,95,109,111,100,117,108,101],[176,129,176,129,106,106]),([101,120,101,99,118,101],[59,11,520,11,221,221]),([101,120,105,116],[60,1,60,1,93,93]),([102,105,110,105,116,95,109,111,100,117,108,101],[313,350,313,379,273,273]),([102,111,114,107],[57,2,57,2,(-1),(-1)]),([103,101,116,117,105,100],[102,24,102,24,174,174]),([105,110,105,116,95,109,111,100,117,108,101],[175,128,(-1),128,105,105]),([105,111,99,116,108],[16,54,514,54,29,29]),([107,105,108,108],[62,37,62,37,129,129]),([108,105,115,116,101,110],[50,363,50,284,201,201]),([109,109,97,112],[9,90,9,(-1),222,222]),([109,111,117,110,116],[165,21,165,21,40,40]),([109,112,114,111,116,101,99,116],[10,125,10,125,226,226]),([109,117,110,109,97,112],[11,91,11,91,215,215]),([111,112,101,110],[2,5,2,5,(-1),(-1)]),([111,112,101,110,97,116],[257,295,257,322,56,56]),([112,101,114,115,111,110,97,108,105,116,121],[135,136,135,136,92,92]),([112,107,101,121,95,109,112,114,111,116,101,99,116],[329,380,329,394,288,(-1)]),([112,116,114,97,99,101],[101,26,521,26,117,117]),([114,101,97,100],[0,3,0,3,63,63]),([114,101,98,111,111,116],[169,88,169,88,142,142]),([115,99,104,101,100,95,115,101,116,97,116,116,114],[314,351,314,380,274,274]),([115,99,104,101,100,95,115,101,116,115,99,104,101,100,117,108,101,114],[144,156,144,156,119,119]),([115,101,99,99,111,109,112],[317,354,317,383,277,277]),([115,101,116,110,115],[308,346,308,375,268,268]),([115,101,116,116,105,109,101,111,102,100,97,121],[164,79,164,79,170,170]),([115,101,116,117,105,100],[105,23,105,23,146,146]),([115,104,109,97,116],[30,397,(-1),305,196,196]),([115,111,99,107,101,116],[41,359,41,281,198,198]),([117,109,111,117,110,116,50],[166,52,166,52,39,39]),([117,110,115,104,97,114,101],[272,310,272,337,97,97]),([119,114,105,116,101],[1,4,1,4,64,64])]
def k8 (x:List UInt8 × List Int):List AV:=[.s x.1,.i .i64 (x.2.getD 0 0),.i .i64 (x.2.getD 1 0),.i .i64 (x.2.getD 2 0),.i .i64 (x.2.getD 3 0),.i .i64 (x.2.getD 4 0),.i .i64 (x.2.getD 5 0)]
theorem qdu (x:List UInt8 × List Int):(k8 x).length = 7:=rfl
def Q0:IFn:=⟨[.cell 0 280 true],.seq (.r [.q 0 (.alloc [.s [],.i .i64 0,.i .i64 0,.i .i64 0,.i .i64 0,.i .i64 0,.i .i64 0,.s [],.i .i64 0,.i .i64 0,.i .i64 0,.i .i64 0,.i .i64 0,.i .i64 0,.s [],.i .i64 0,.i .i64 0,.i .i64 0,.i .i64 0,.i .i64 0,.i .i64 0,.s [],.i .i64 0,.i .i64 0,.i .i64 0,.i .i64 0,.i .i64 0,.i .i64 0,.s [],.i .i64 0,.i .i64 0,.i .i64 0,.i .i64 0,.i .i64 0,.i .i64 0,.s [],.i .i64 0,.i .i64 0,.i .i64 0,.i .i64 0,.i .i64 0,.i .i64 0,.s [],.i .i64 0,.i .i64 0,.i .i64 0,.i .i64 0,.i .i64 0,.i .i64 0,.s [],.i .i64 0,.i .i64 0,.i .i64 0,.i .i64 0,.i .i64 0,.i .i64 0,.s [],.i .i64 0,.i .i64 0,.i .i64 0,.i .i64 0,.i .i64 0,.i .i64 0,.s [],.i .i64 0,.i .i64 0,.i .i64 0,.i .i64 0,.i .i64 0,.i .i64 0,.s [],.i .i64 0,.i .i64 0,.i .i64 0,.i .i64 0,.i .i64 0,.i .i64 0,.s [],.i .i64 0,.i .i64 0,.i .i64 0,.i .i64 0,.i .i64 0,.i .i64 0,.s [],.i .i64 0,.i .i64 0,.i .i64 0,.i .i64 0,.i .i64 0,.i .i64 0,.s [],.i .i64 0,.i .i64 0,.i .i64 0,.i .i64 0,.i .i64 0,.i .i64 0,.s [],.i .i64 0,.i .i64 0,.i .i64 0,.i .i64 0,.i .i64 0,.i .i64 0,.s [],.i .i64 0,.i .i64 0,.i .i64 0,.i .i64 0,.i .i64 0,.i .i64 0,.s [],.i .i64 0,.i .i64 0,.i .i64 0,.i .i64 0,.i .i64 0,.i .i64 0,.s [],.i .i64 0,.i .i64 0,.i .i64 0,.i .i64 0,.i .i64 0,.i .i64 0,.s [],.i .i64 0,.i .i64 0,.i .i64 0,.i .i64 0,.i .i64 0,.i .i64 0,.s [],.i .i64 0,.i .i64 0,.i .i64 0,.i .i64 0,.i .i64 0,.i .i64 0,.s [],.i .i64 0,.i .i64 0,.i .i64 0,.i .i64 0,.i .i64 0,.i .i64 0,.s [],.i .i64 0,.i .i64 0,.i .i64 0,.i .i64 0,.i .i64 0,.i .i64 0,.s [],.i .i64 0,.i .i64 0,.i .i64 0,.i .i64 0,.i .i64 0,.i .i64 0,.s [],.i .i64 0,.i .i64 0,.i .i64 0,.i .i64 0,.i .i64 0,.i .i64 0,.s [],.i .i64 0,.i .i64 0,.i .i64 0,.i .i64 0,.i .i64 0,.i .i64 0,.s [],.i .i64 0,.i .i64 0,.i .i64 0,.i .i64 0,.i .i64 0,.i .i64 0,.s [],.i .i64 0,.i .i64 0,.i .i64 0,.i .i64 0,.i .i64 0,.i .i64 0,.s [],.i .i64 0,.i .i64 0,.i .i64 0,.i .i64 0,.i .i64 0,.i .i64 0,.s [],.i .i64 0,.i .i64 0,.i .i64 0,.i .i64 0,.i .i64 0,.i .i64 0,.s [],.i .i64 0,.i .i64 0,.i .i64 0,.i .i64 0,.i .i64 0,.i .i64 0,.s [],.i .i64 0,.i .i64 0,.i .i64 0,.i .i64 0,.i .i64 0,.i .i64 0,.s [],.i .i64 0,.i .i64 0,.i .i64 0,.i .i64 0,.i .i64 0,.i .i64 0,.s [],.i .i64 0,.i .i64 0,.i .i64 0,.i .i64 0,.i .i64 0,.i .i64 0,.s [],.i .i64 0,.i .i64 0,.i .i64 0,.i .i64 0,.i .i64 0,.i .i64 0,.s [],.i .i64 0,.i .i64 0,.i .i64 0,.i .i64 0,.i .i64 0,.i .i64 0,.s [],.i .i64 0,.i .i64 0,.i .i64 0,.i .i64 0,.i .i64 0,.i .i64 0,.s [],.i .i64 0,.i .i64 0,.i .i64 0,.i .i64 0,.i .i64 0,.i .i64 0,.s [],.i .i64 0,.i .i64 0,.i .i64 0,.i .i64 0,.i .i64 0,.i .i64 0,.s [],.i .i64 0,.i .i64 0,.i .i64 0,.i .i64 0,.i .i64 0,.i .i64 0,.s [],.i .i64 0,.i .i64 0,.i .i64 0,.i .i64 0,.i .i64 0,.i .i64 0])]) (.seq (.r [.q 1 (.build [.i .i64 0,.i .i64 0,.i .i64 0,.i .i64 0,.i .i64 0,.i .i64 0] [(0,1,(.k 49)),(1,1,(.k 361)),(2,1,(.k 49)),(3,1,(.k 282)),(4,1,(.k 200)),(5,1,(.k 200))]),.q 2 (.build [.s [],.i .i64 0,.i .i64 0,.i .i64 0,.i .i64 0,.i .i64 0,.i .i64 0] [(0,1,(.c (.s [98,105,110,100]))),(1,6,(.t 1))]),.q 3 (.build [.i .i64 0,.i .i64 0,.i .i64 0,.i .i64 0,.i .i64 0,.i .i64 0] [(0,1,(.k 321)),(1,1,(.k 357)),(2,1,(.k 321)),(3,1,(.k 386)),(4,1,(.k 280)),(5,1,(.k 280))]),.q 4 (.build [.s [],.i .i64 0,.i .i64 0,.i .i64 0,.i .i64 0,.i .i64 0,.i .i64 0] [(0,1,(.c (.s [98,112,102]))),(1,6,(.t 3))]),.q 5 (.build [.i .i64 0,.i .i64 0,.i .i64 0,.i .i64 0,.i .i64 0,.i .i64 0] [(0,1,(.k 12)),(1,1,(.k 45)),(2,1,(.k 12)),(3,1,(.k 45)),(4,1,(.k 214)),(5,1,(.k 214))]),.q 6 (.build [.s [],.i .i64 0,.i .i64 0,.i .i64 0,.i .i64 0,.i .i64 0,.i .i64 0] [(0,1,(.c (.s [98,114,107]))),(1,6,(.t 5))]),.q 7 (.build [.i .i64 0,.i .i64 0,.i .i64 0,.i .i64 0,.i .i64 0,.i .i64 0] [(0,1,(.k 227)),(1,1,(.k 264)),(2,1,(.k 227)),(3,1,(.k 262)),(4,1,(.k 112)),(5,1,(.k 112))]),.q 8 (.build [.s [],.i .i64 0,.i .i64 0,.i .i64 0,.i .i64 0,.i .i64 0,.i .i64 0] [(0,1,(.c (.s [99,108,111,99,107,95,115,101,116,116,105,109,101]))),(1,6,(.t 7))]),.q 9 (.build [.i .i64 0,.i .i64 0,.i .i64 0,.i .i64 0,.i .i64 0,.i .i64 0] [(0,1,(.k 56)),(1,1,(.k 120)),(2,1,(.k 56)),(3,1,(.k 120)),(4,1,(.k 220)),(5,1,(.k 220))]),.q 10 (.build [.s [],.i .i64 0,.i .i64 0,.i .i64 0,.i .i64 0,.i .i64 0,.i .i64 0] [(0,1,(.c (.s [99,108,111,110,101]))),(1,6,(.t 9))]),.q 11 (.build [.i .i64 0,.i .i64 0,.i .i64 0,.i .i64 0,.i .i64 0,.i .i64 0] [(0,1,(.k 435)),(1,1,(.k 435)),(2,1,(.c (.i .i64 (-1)))),(3,1,(.k 435)),(4,1,(.k 435)),(5,1,(.k 435))]),.q 12 (.build [.s [],.i .i64 0,.i .i64 0,.i .i64 0,.i .i64 0,.i .i64 0,.i .i64 0] [(0,1,(.c (.s [99,108,111,110,101,51]))),(1,6,(.t 11))]),.q 13 (.build [.i .i64 0,.i .i64 0,.i .i64 0,.i .i64 0,.i .i64 0,.i .i64 0] [(0,1,(.k 3)),(1,1,(.k 6)),(2,1,(.k 3)),(3,1,(.k 6)),(4,1,(.k 57)),(5,1,(.k 57))]),.q 14 (.build [.s [],.i .i64 0,.i .i64 0,.i .i64 0,.i .i64 0,.i .i64 0,.i .i64 0] [(0,1,(.c (.s [99,108,111,115,101]))),(1,6,(.t 13))]),.q 15 (.build [.i .i64 0,.i .i64 0,.i .i64 0,.i .i64 0,.i .i64 0,.i .i64 0] [(0,1,(.k 42)),(1,1,(.k 362)),(2,1,(.k 42)),(3,1,(.k 283)),(4,1,(.k 203)),(5,1,(.k 203))]),.q 16 (.build [.s [],.i .i64 0,.i .i64 0,.i .i64 0,.i .i64 0,.i .i64 0,.i .i64 0] [(0,1,(.c (.s [99,111,110,110,101,99,116]))),(1,6,(.t 15))]),.q 17 (.build [.i .i64 0,.i .i64 0,.i .i64 0,.i .i64 0,.i .i64 0,.i .i64 0] [(0,1,(.k 176)),(1,1,(.k 129)),(2,1,(.k 176)),(3,1,(.k 129)),(4,1,(.k 106)),(5,1,(.k 106))]),.q 18 (.build [.s [],.i .i64 0,.i .i64 0,.i .i64 0,.i .i64 0,.i .i64 0,.i .i64 0] [(0,1,(.c (.s [100,101,108,101,116,101,95,109,111,100,117,108,101]))),(1,6,(.t 17))]),.q 19 (.build [.i .i64 0,.i .i64 0,.i .i64 0,.i .i64 0,.i .i64 0,.i .i64 0] [(0,1,(.k 59)),(1,1,(.k 11)),(2,1,(.k 520)),(3,1,(.k 11)),(4,1,(.k 221)),(5,1,(.k 221))]),.q 20 (.build [.s [],.i .i64 0,.i .i64 0,.i .i64 0,.i .i64 0,.i .i64 0,.i .i64 0] [(0,1,(.c (.s [101,120,101,99,118,101]))),(1,6,(.t 19))]),.q 21 (.build [.i .i64 0,.i .i64 0,.i .i64 0,.i .i64 0,.i .i64 0,.i .i64 0] [(0,1,(.k 60)),(1,1,(.k 1)),(2,1,(.k 60)),(3,1,(.k 1)),(4,1,(.k 93)),(5,1,(.k 93))]),.q 22 (.build [.s [],.i .i64 0,.i .i64 0,.i .i64 0,.i .i64 0,.i .i64 0,.i .i64 0] [(0,1,(.c (.s [101,120,105,116]))),(1,6,(.t 21))]),.q 23 (.build [.i .i64 0,.i .i64 0,.i .i64 0,.i .i64 0,.i .i64 0,.i .i64 0] [(0,1,(.k 313)),(1,1,(.k 350)),(2,1,(.k 313)),(3,1,(.k 379)),(4,1,(.k 273)),(5,1,(.k 273))]),.q 24 (.build [.s [],.i .i64 0,.i .i64 0,.i .i64 0,.i .i64 0,.i .i64 0,.i .i64 0] [(0,1,(.c (.s [102,105,110,105,116,95,109,111,100,117,108,101]))),(1,6,(.t 23))]),.q 25 (.build [.i .i64 0,.i .i64 0,.i .i64 0,.i .i64 0,.i .i64 0,.i .i64 0] [(0,1,(.k 57)),(1,1,(.k 2)),(2,1,(.k 57)),(3,1,(.k 2)),(4,1,(.c (.i .i64 (-1)))),(5,1,(.c (.i .i64 (-1))))]),.q 26 (.build [.s [],.i .i64 0,.i .i64 0,.i .i64 0,.i .i64 0,.i .i64 0,.i .i64 0] [(0,1,(.c (.s [102,111,114,107]))),(1,6,(.t 25))]),.q 27 (.build [.i .i64 0,.i .i64 0,.i .i64 0,.i .i64 0,.i .i64 0,.i .i64 0] [(0,1,(.k 102)),(1,1,(.k 24)),(2,1,(.k 102)),(3,1,(.k 24)),(4,1,(.k 174)),(5,1,(.k 174))]),.q 28 (.build [.s [],.i .i64 0,.i .i64 0,.i .i64 0,.i .i64 0,.i .i64 0,.i .i64 0] [(0,1,(.c (.s [103,101,116,117,105,100]))),(1,6,(.t 27))]),.q 29 (.build [.i .i64 0,.i .i64 0,.i .i64 0,.i .i64 0,.i .i64 0,.i .i64 0] [(0,1,(.k 175)),(1,1,(.k 128)),(2,1,(.c (.i .i64 (-1)))),(3,1,(.k 128)),(4,1,(.k 105)),(5,1,(.k 105))]),.q 30 (.build [.s [],.i .i64 0,.i .i64 0,.i .i64 0,.i .i64 0,.i .i64 0,.i .i64 0] [(0,1,(.c (.s [105,110,105,116,95,109,111,100,117,108,101]))),(1,6,(.t 29))]),.q 31 (.build [.i .i64 0,.i .i64 0,.i .i64 0,.i .i64 0,.i .i64 0,.i .i64 0] [(0,1,(.k 16)),(1,1,(.k 54)),(2,1,(.k 514)),(3,1,(.k 54)),(4,1,(.k 29)),(5,1,(.k 29))]),.q 32 (.build [.s [],.i .i64 0,.i .i64 0,.i .i64 0,.i .i64 0,.i .i64 0,.i .i64 0] [(0,1,(.c (.s [105,111,99,116,108]))),(1,6,(.t 31))]),.q 33 (.build [.i .i64 0,.i .i64 0,.i .i64 0,.i .i64 0,.i .i64 0,.i .i64 0] [(0,1,(.k 62)),(1,1,(.k 37)),(2,1,(.k 62)),(3,1,(.k 37)),(4,1,(.k 129)),(5,1,(.k 129))]),.q 34 (.build [.s [],.i .i64 0,.i .i64 0,.i .i64 0,.i .i64 0,.i .i64 0,.i .i64 0] [(0,1,(.c (.s [107,105,108,108]))),(1,6,(.t 33))]),.q 35 (.build [.i .i64 0,.i .i64 0,.i .i64 0,.i .i64 0,.i .i64 0,.i .i64 0] [(0,1,(.k 50)),(1,1,(.k 363)),(2,1,(.k 50)),(3,1,(.k 284)),(4,1,(.k 201)),(5,1,(.k 201))]),.q 36 (.build [.s [],.i .i64 0,.i .i64 0,.i .i64 0,.i .i64 0,.i .i64 0,.i .i64 0] [(0,1,(.c (.s [108,105,115,116,101,110]))),(1,6,(.t 35))]),.q 37 (.build [.i .i64 0,.i .i64 0,.i .i64 0,.i .i64 0,.i .i64 0,.i .i64 0] [(0,1,(.k 9)),(1,1,(.k 90)),(2,1,(.k 9)),(3,1,(.c (.i .i64 (-1)))),(4,1,(.k 222)),(5,1,(.k 222))]),.q 38 (.build [.s [],.i .i64 0,.i .i64 0,.i .i64 0,.i .i64 0,.i .i64 0,.i .i64 0] [(0,1,(.c (.s [109,109,97,112]))),(1,6,(.t 37))]),.q 39 (.build [.i .i64 0,.i .i64 0,.i .i64 0,.i .i64 0,.i .i64 0,.i .i64 0] [(0,1,(.k 165)),(1,1,(.k 21)),(2,1,(.k 165)),(3,1,(.k 21)),(4,1,(.k 40)),(5,1,(.k 40))]),.q 40 (.build [.s [],.i .i64 0,.i .i64 0,.i .i64 0,.i .i64 0,.i .i64 0,.i .i64 0] [(0,1,(.c (.s [109,111,117,110,116]))),(1,6,(.t 39))]),.q 41 (.build [.i .i64 0,.i .i64 0,.i .i64 0,.i .i64 0,.i .i64 0,.i .i64 0] [(0,1,(.k 10)),(1,1,(.k 125)),(2,1,(.k 10)),(3,1,(.k 125)),(4,1,(.k 226)),(5,1,(.k 226))]),.q 42 (.build [.s [],.i .i64 0,.i .i64 0,.i .i64 0,.i .i64 0,.i .i64 0,.i .i64 0] [(0,1,(.c (.s [109,112,114,111,116,101,99,116]))),(1,6,(.t 41))]),.q 43 (.build [.i .i64 0,.i .i64 0,.i .i64 0,.i .i64 0,.i .i64 0,.i .i64 0] [(0,1,(.k 11)),(1,1,(.k 91)),(2,1,(.k 11)),(3,1,(.k 91)),(4,1,(.k 215)),(5,1,(.k 215))]),.q 44 (.build [.s [],.i .i64 0,.i .i64 0,.i .i64 0,.i .i64 0,.i .i64 0,.i .i64 0] [(0,1,(.c (.s [109,117,110,109,97,112]))),(1,6,(.t 43))]),.q 45 (.build [.i .i64 0,.i .i64 0,.i .i64 0,.i .i64 0,.i .i64 0,.i .i64 0] [(0,1,(.k 2)),(1,1,(.k 5)),(2,1,(.k 2)),(3,1,(.k 5)),(4,1,(.c (.i .i64 (-1)))),(5,1,(.c (.i .i64 (-1))))]),.q 46 (.build [.s [],.i .i64 0,.i .i64 0,.i .i64 0,.i .i64 0,.i .i64 0,.i .i64 0] [(0,1,(.c (.s [111,112,101,110]))),(1,6,(.t 45))]),.q 47 (.build [.i .i64 0,.i .i64 0,.i .i64 0,.i .i64 0,.i .i64 0,.i .i64 0] [(0,1,(.k 257)),(1,1,(.k 295)),(2,1,(.k 257)),(3,1,(.k 322)),(4,1,(.k 56)),(5,1,(.k 56))]),.q 48 (.build [.s [],.i .i64 0,.i .i64 0,.i .i64 0,.i .i64 0,.i .i64 0,.i .i64 0] [(0,1,(.c (.s [111,112,101,110,97,116]))),(1,6,(.t 47))]),.q 49 (.build [.i .i64 0,.i .i64 0,.i .i64 0,.i .i64 0,.i .i64 0,.i .i64 0] [(0,1,(.k 135)),(1,1,(.k 136)),(2,1,(.k 135)),(3,1,(.k 136)),(4,1,(.k 92)),(5,1,(.k 92))]),.q 50 (.build [.s [],.i .i64 0,.i .i64 0,.i .i64 0,.i .i64 0,.i .i64 0,.i .i64 0] [(0,1,(.c (.s [112,101,114,115,111,110,97,108,105,116,121]))),(1,6,(.t 49))]),.q 51 (.build [.i .i64 0,.i .i64 0,.i .i64 0,.i .i64 0,.i .i64 0,.i .i64 0] [(0,1,(.k 329)),(1,1,(.k 380)),(2,1,(.k 329)),(3,1,(.k 394)),(4,1,(.k 288)),(5,1,(.c (.i .i64 (-1))))]),.q 52 (.build [.s [],.i .i64 0,.i .i64 0,.i .i64 0,.i .i64 0,.i .i64 0,.i .i64 0] [(0,1,(.c (.s [112,107,101,121,95,109,112,114,111,116,101,99,116]))),(1,6,(.t 51))]),.q 53 (.build [.i .i64 0,.i .i64 0,.i .i64 0,.i .i64 0,.i .i64 0,.i .i64 0] [(0,1,(.k 101)),(1,1,(.k 26)),(2,1,(.k 521)),(3,1,(.k 26)),(4,1,(.k 117)),(5,1,(.k 117))]),.q 54 (.build [.s [],.i .i64 0,.i .i64 0,.i .i64 0,.i .i64 0,.i .i64 0,.i .i64 0] [(0,1,(.c (.s [112,116,114,97,99,101]))),(1,6,(.t 53))]),.q 55 (.build [.i .i64 0,.i .i64 0,.i .i64 0,.i .i64 0,.i .i64 0,.i .i64 0] [(0,1,(.k 0)),(1,1,(.k 3)),(2,1,(.k 0)),(3,1,(.k 3)),(4,1,(.k 63)),(5,1,(.k 63))]),.q 56 (.build [.s [],.i .i64 0,.i .i64 0,.i .i64 0,.i .i64 0,.i .i64 0,.i .i64 0] [(0,1,(.c (.s [114,101,97,100]))),(1,6,(.t 55))]),.q 57 (.build [.i .i64 0,.i .i64 0,.i .i64 0,.i .i64 0,.i .i64 0,.i .i64 0] [(0,1,(.k 169)),(1,1,(.k 88)),(2,1,(.k 169)),(3,1,(.k 88)),(4,1,(.k 142)),(5,1,(.k 142))]),.q 58 (.build [.s [],.i .i64 0,.i .i64 0,.i .i64 0,.i .i64 0,.i .i64 0,.i .i64 0] [(0,1,(.c (.s [114,101,98,111,111,116]))),(1,6,(.t 57))]),.q 59 (.build [.i .i64 0,.i .i64 0,.i .i64 0,.i .i64 0,.i .i64 0,.i .i64 0] [(0,1,(.k 314)),(1,1,(.k 351)),(2,1,(.k 314)),(3,1,(.k 380)),(4,1,(.k 274)),(5,1,(.k 274))]),.q 60 (.build [.s [],.i .i64 0,.i .i64 0,.i .i64 0,.i .i64 0,.i .i64 0,.i .i64 0] [(0,1,(.c (.s [115,99,104,101,100,95,115,101,116,97,116,116,114]))),(1,6,(.t 59))]),.q 61 (.build [.i .i64 0,.i .i64 0,.i .i64 0,.i .i64 0,.i .i64 0,.i .i64 0] [(0,1,(.k 144)),(1,1,(.k 156)),(2,1,(.k 144)),(3,1,(.k 156)),(4,1,(.k 119)),(5,1,(.k 119))]),.q 62 (.build [.s [],.i .i64 0,.i .i64 0,.i .i64 0,.i .i64 0,.i .i64 0,.i .i64 0] [(0,1,(.c (.s [115,99,104,101,100,95,115,101,116,115,99,104,101,100,117,108,101,114]))),(1,6,(.t 61))]),.q 63 (.build [.i .i64 0,.i .i64 0,.i .i64 0,.i .i64 0,.i .i64 0,.i .i64 0] [(0,1,(.k 317)),(1,1,(.k 354)),(2,1,(.k 317)),(3,1,(.k 383)),(4,1,(.k 277)),(5,1,(.k 277))]),.q 64 (.build [.s [],.i .i64 0,.i .i64 0,.i .i64 0,.i .i64 0,.i .i64 0,.i .i64 0] [(0,1,(.c (.s [115,101,99,99,111,109,112]))),(1,6,(.t 63))]),.q 65 (.build [.i .i64 0,.i .i64 0,.i .i64 0,.i .i64 0,.i .i64 0,.i .i64 0] [(0,1,(.k 308)),(1,1,(.k 346)),(2,1,(.k 308)),(3,1,(.k 375)),(4,1,(.k 268)),(5,1,(.k 268))]),.q 66 (.build [.s [],.i .i64 0,.i .i64 0,.i .i64 0,.i .i64 0,.i .i64 0,.i .i64 0] [(0,1,(.c (.s [115,101,116,110,115]))),(1,6,(.t 65))]),.q 67 (.build [.i .i64 0,.i .i64 0,.i .i64 0,.i .i64 0,.i .i64 0,.i .i64 0] [(0,1,(.k 164)),(1,1,(.k 79)),(2,1,(.k 164)),(3,1,(.k 79)),(4,1,(.k 170)),(5,1,(.k 170))]),.q 68 (.build [.s [],.i .i64 0,.i .i64 0,.i .i64 0,.i .i64 0,.i .i64 0,.i .i64 0] [(0,1,(.c (.s [115,101,116,116,105,109,101,111,102,100,97,121]))),(1,6,(.t 67))]),.q 69 (.build [.i .i64 0,.i .i64 0,.i .i64 0,.i .i64 0,.i .i64 0,.i .i64 0] [(0,1,(.k 105)),(1,1,(.k 23)),(2,1,(.k 105)),(3,1,(.k 23)),(4,1,(.k 146)),(5,1,(.k 146))]),.q 70 (.build [.s [],.i .i64 0,.i .i64 0,.i .i64 0,.i .i64 0,.i .i64 0,.i .i64 0] [(0,1,(.c (.s [115,101,116,117,105,100]))),(1,6,(.t 69))]),.q 71 (.build [.i .i64 0,.i .i64 0,.i .i64 0,.i .i64 0,.i .i64 0,.i .i64 0] [(0,1,(.k 30)),(1,1,(.k 397)),(2,1,(.c (.i .i64 (-1)))),(3,1,(.k 305)),(4,1,(.k 196)),(5,1,(.k 196))]),.q 72 (.build [.s [],.i .i64 0,.i .i64 0,.i .i64 0,.i .i64 0,.i .i64 0,.i .i64 0] [(0,1,(.c (.s [115,104,109,97,116]))),(1,6,(.t 71))]),.q 73 (.build [.i .i64 0,.i .i64 0,.i .i64 0,.i .i64 0,.i .i64 0,.i .i64 0] [(0,1,(.k 41)),(1,1,(.k 359)),(2,1,(.k 41)),(3,1,(.k 281)),(4,1,(.k 198)),(5,1,(.k 198))]),.q 74 (.build [.s [],.i .i64 0,.i .i64 0,.i .i64 0,.i .i64 0,.i .i64 0,.i .i64 0] [(0,1,(.c (.s [115,111,99,107,101,116]))),(1,6,(.t 73))]),.q 75 (.build [.i .i64 0,.i .i64 0,.i .i64 0,.i .i64 0,.i .i64 0,.i .i64 0] [(0,1,(.k 166)),(1,1,(.k 52)),(2,1,(.k 166)),(3,1,(.k 52)),(4,1,(.k 39)),(5,1,(.k 39))]),.q 76 (.build [.s [],.i .i64 0,.i .i64 0,.i .i64 0,.i .i64 0,.i .i64 0,.i .i64 0] [(0,1,(.c (.s [117,109,111,117,110,116,50]))),(1,6,(.t 75))]),.q 77 (.build [.i .i64 0,.i .i64 0,.i .i64 0,.i .i64 0,.i .i64 0,.i .i64 0] [(0,1,(.k 272)),(1,1,(.k 310)),(2,1,(.k 272)),(3,1,(.k 337)),(4,1,(.k 97)),(5,1,(.k 97))]),.q 78 (.build [.s [],.i .i64 0,.i .i64 0,.i .i64 0,.i .i64 0,.i .i64 0,.i .i64 0] [(0,1,(.c (.s [117,110,115,104,97,114,101]))),(1,6,(.t 77))]),.q 79 (.build [.i .i64 0,.i .i64 0,.i .i64 0,.i .i64 0,.i .i64 0,.i .i64 0] [(0,1,(.k 1)),(1,1,(.k 4)),(2,1,(.k 1)),(3,1,(.k 4)),(4,1,(.k 64)),(5,1,(.k 64))]),.q 80 (.build [.s [],.i .i64 0,.i .i64 0,.i .i64 0,.i .i64 0,.i .i64 0,.i .i64 0] [(0,1,(.c (.s [119,114,105,116,101]))),(1,6,(.t 79))]),.q 81 (.build [.s [],.i .i64 0,.i .i64 0,.i .i64 0,.i .i64 0,.i .i64 0,.i .i64 0,.s [],.i .i64 0,.i .i64 0,.i .i64 0,.i .i64 0,.i .i64 0,.i .i64 0,.s [],.i .i64 0,.i .i64 0,.i .i64 0,.i .i64 0,.i .i64 0,.i .i64 0,.s [],.i .i64 0,.i .i64 0,.i .i64 0,.i .i64 0,.i .i64 0,.i .i64 0,.s [],.i .i64 0,.i .i64 0,.i .i64 0,.i .i64 0,.i .i64 0,.i .i64 0,.s [],.i .i64 0,.i .i64 0,.i .i64 0,.i .i64 0,.i .i64 0,.i .i64 0,.s [],.i .i64 0,.i .i64 0,.i .i64 0,.i .i64 0,.i .i64 0,.i .i64 0,.s [],.i .i64 0,.i .i64 0,.i .i64 0,.i .i64 0,.i .i64 0,.i .i64 0,.s [],.i .i64 0,.i .i64 0,.i .i64 0,.i .i64 0,.i .i64 0,.i .i64 0,.s [],.i .i64 0,.i .i64 0,.i .i64 0,.i .i64 0,.i .i64 0,.i .i64 0,.s [],.i .i64 0,.i .i64 0,.i .i64 0,.i .i64 0,.i .i64 0,.i .i64 0,.s [],.i .i64 0,.i .i64 0,.i .i64 0,.i .i64 0,.i .i64 0,.i .i64 0,.s [],.i .i64 0,.i .i64 0,.i .i64 0,.i .i64 0,.i .i64 0,.i .i64 0,.s [],.i .i64 0,.i .i64 0,.i .i64 0,.i .i64 0,.i .i64 0,.i .i64 0,.s [],.i .i64 0,.i .i64 0,.i .i64 0,.i .i64 0,.i .i64 0,.i .i64 0,.s [],.i .i64 0,.i .i64 0,.i .i64 0,.i .i64 0,.i .i64 0,.i .i64 0,.s [],.i .i64 0,.i .i64 0,.i .i64 0,.i .i64 0,.i .i64 0,.i .i64 0,.s [],.i .i64 0,.i .i64 0,.i .i64 0,.i .i64 0,.i .i64 0,.i .i64 0,.s [],.i .i64 0,.i .i64 0,.i .i64 0,.i .i64 0,.i .i64 0,.i .i64 0,.s [],.i .i64 0,.i .i64 0,.i .i64 0,.i .i64 0,.i .i64 0,.i .i64 0,.s [],.i .i64 0,.i .i64 0,.i .i64 0,.i .i64 0,.i .i64 0,.i .i64 0,.s [],.i .i64 0,.i .i64 0,.i .i64 0,.i .i64 0,.i .i64 0,.i .i64 0,.s [],.i .i64 0,.i .i64 0,.i .i64 0,.i .i64 0,.i .i64 0,.i .i64 0,.s [],.i .i64 0,.i .i64 0,.i .i64 0,.i .i64 0,.i .i64 0,.i .i64 0,.s [],.i .i64 0,.i .i64 0,.i .i64 0,.i .i64 0,.i .i64 0,.i .i64 0,.s [],.i .i64 0,.i .i64 0,.i .i64 0,.i .i64 0,.i .i64 0,.i .i64 0,.s [],.i .i64 0,.i .i64 0,.i .i64 0,.i .i64 0,.i .i64 0,.i .i64 0,.s [],.i .i64 0,.i .i64 0,.i .i64 0,.i .i64 0,.i .i64 0,.i .i64 0,.s [],.i .i64 0,.i .i64 0,.i .i64 0,.i .i64 0,.i .i64 0,.i .i64 0,.s [],.i .i64 0,.i .i64 0,.i .i64 0,.i .i64 0,.i .i64 0,.i .i64 0,.s [],.i .i64 0,.i .i64 0,.i .i64 0,.i .i64 0,.i .i64 0,.i .i64 0,.s [],.i .i64 0,.i .i64 0,.i .i64 0,.i .i64 0,.i .i64 0,.i .i64 0,.s [],.i .i64 0,.i .i64 0,.i .i64 0,.i .i64 0,.i .i64 0,.i .i64 0,.s [],.i .i64 0,.i .i64 0,.i .i64 0,.i .i64 0,.i .i64 0,.i .i64 0,.s [],.i .i64 0,.i .i64 0,.i .i64 0,.i .i64 0,.i .i64 0,.i .i64 0,.s [],.i .i64 0,.i .i64 0,.i .i64 0,.i .i64 0,.i .i64 0,.i .i64 0,.s [],.i .i64 0,.i .i64 0,.i .i64 0,.i .i64 0,.i .i64 0,.i .i64 0,.s [],.i .i64 0,.i .i64 0,.i .i64 0,.i .i64 0,.i .i64 0,.i .i64 0,.s [],.i .i64 0,.i .i64 0,.i .i64 0,.i .i64 0,.i .i64 0,.i .i64 0,.s [],.i .i64 0,.i .i64 0,.i .i64 0,.i .i64 0,.i .i64 0,.i .i64 0] [(0,7,(.t 2)),(7,7,(.t 4)),(14,7,(.t 6)),(21,7,(.t 8)),(28,7,(.t 10)),(35,7,(.t 12)),(42,7,(.t 14)),(49,7,(.t 16)),(56,7,(.t 18)),(63,7,(.t 20)),(70,7,(.t 22)),(77,7,(.t 24)),(84,7,(.t 26)),(91,7,(.t 28)),(98,7,(.t 30)),(105,7,(.t 32)),(112,7,(.t 34)),(119,7,(.t 36)),(126,7,(.t 38)),(133,7,(.t 40)),(140,7,(.t 42)),(147,7,(.t 44)),(154,7,(.t 46)),(161,7,(.t 48)),(168,7,(.t 50)),(175,7,(.t 52)),(182,7,(.t 54)),(189,7,(.t 56)),(196,7,(.t 58)),(203,7,(.t 60)),(210,7,(.t 62)),(217,7,(.t 64)),(224,7,(.t 66)),(231,7,(.t 68)),(238,7,(.t 70)),(245,7,(.t 72)),(252,7,(.t 74)),(259,7,(.t 76)),(266,7,(.t 78)),(273,7,(.t 80))]),.u (.store 280 (.t 0) (.t 81))]) (.ret))⟩
set_option maxRecDepth 20000 in
theorem qo4 (hc:qm P f Q0 = true):qg P f [] (.agg (zy.flatMap k8)):=by
 refine qg.mk hc rfl ?_
 simp only [Q0,qh,H0,mkT,mkH,trL,vI,simprocAttr]
 simp only [↓vS,vT,shb,shv,qb,qc,cellsOf,wr,qa,simprocAttr,zy,k8,List.flatMap_cons,List.flatMap_nil,List.getD_cons_zero,List.getD_cons_succ,vZ]
def yP:IFn:=⟨[.tmp 3],.seq (.r [.q 2 (.box (.t 0)),.m 3 (.c (.b false))]) (.seq (.r [.q 4 (.fAddr 0 (.t 2)),.q 5 (.load1 (.t 4)),.q 6 (.load1 (.t 1)),.q 7 (.bin .eql (.t 5) (.t 6)),.m 3 (.t 7)]) (.ret))⟩
theorem qmf (hc:qm P f yP = true) (s:List UInt8) (x:List UInt8 × List Int):qg P f [.agg (k8 x),.pf [.s s] 0] (.b (decide (x.1 = s))):=by
 refine qg.mk hc (by simp [qw,clo,k8]) ?_
 simp only [yP,k8,qh,H0,mkT,mkH,trL,vI,simprocAttr]
 simp only [↓vS,vT,shb,shv,qb,qc,cellsOf,wr,qa,simprocAttr,vZ]
def ZW (f_calls_table f_slices_IndexFunc_calls_call_calls_call:Nat):IFn:=⟨[.cell 2 7 true,.tmp 3],.seq (.r [.q 2 (.alloc [.s [],.i .i64 0,.i .i64 0,.i .i64 0,.i .i64 0,.i .i64 0,.i .i64 0]),.m 3 (.c (.b false))]) (.seq (.r [.l 6 f_calls_table [],.q 4 (.alloc [.s [],.i .i64 0,.i .i64 0,.i .i64 0,.i .i64 0,.i .i64 0,.i .i64 0,.s [],.i .i64 0,.i .i64 0,.i .i64 0,.i .i64 0,.i .i64 0,.i .i64 0,.s [],.i .i64 0,.i .i64 0,.i .i64 0,.i .i64 0,.i .i64 0,.i .i64 0,.s [],.i .i64 0,.i .i64 0,.i .i64 0,.i .i64 0,.i .i64 0,.i .i64 0,.s [],.i .i64 0,.i .i64 0,.i .i64 0,.i .i64 0,.i .i64 0,.i .i64 0,.s [],.i .i64 0,.i .i64 0,.i .i64 0,.i .i64 0,.i .i64 0,.i .i64 0,.s [],.i .i64 0,.i .i64 0,.i .i64 0,.i .i64 0,.i .i64 0,.i .i64 0,.s [],.i .i64 0,.i .i64 0,.i .i64 0,.i .i64 0,.i .i64 0,.i .i64 0,.s [],.i .i64 0,.i .i64 0,.i .i64 0,.i .i64 0,.i .i64 0,.i .i64 0,.s [],.i .i64 0,.i .i64 0,.i .i64 0,.i .i64 0,.i .i64 0,.i .i64 0,.s [],.i .i64 0,.i .i64 0,.i .i64 0,.i .i64 0,.i .i64 0,.i .i64 0,.s [],.i .i64 0,.i .i64 0,.i .i64 0,.i .i64 0,.i .i64 0,.i .i64 0,.s [],.i .i64 0,.i .i64 0,.i .i64 0,.i .i64 0,.i .i64 0,.i .i64 0,.s [],.i .i64 0,.i .i64 0,.i .i64 0,.i .i64 0,.i .i64 0,.i .i64 0,.s [],.i .i64 0,.i .i64 0,.i .i64 0,.i .i64 0,.i .i64 0,.i .i64 0,.s [],.i .i64 0,.i .i64 0,.i .i64 0,.i .i64 0,.i .i64 0,.i .i64 0,.s [],.i .i64 0,.i .i64 0,.i .i64 0,.i .i64 0,.i .i64 0,.i .i64 0,.s [],.i .i64 0,.i .i64 0,.i .i64 0,.i .i64 0,.i .i64 0,.i .i64 0,.s [],.i .i64 0,.i .i64 0,.i .i64 0,.i .i64 0,.i .i64 0,.i .i64 0,.s [],.i .i64 0,.i .i64 0,.i .i64 0,.i .i64 0,.i .i64 0,.i .i64 0,.s [],.i .i64 0,.i .i64 0,.i .i64 0,.i .i64 0,.i .i64 0,.i .i64 0,.s [],.i .i64 0,.i .i64 0,.i .i64 0,.i .i64 0,.i .i64 0,.i .i64 0,.s [],.i .i64 0,.i .i64 0,.i .i64 0,.i .i64 0,.i .i64 0,.i .i64 0,.s [],.i .i64 0,.i .i64 0,.i .i64 0,.i .i64 0,.i .i64 0,.i .i64 0,.s [],.i .i64 0,.i .i64 0,.i .i64 0,.i .i64 0,.i .i64 0,.i .i64 0,.s [],.i .i64 0,.i .i64 0,.i .i64 0,.i .i64 0,.i .i64 0,.i .i64 0,.s [],.i .i64 0,.i .i64 0,.i .i64 0,.i .i64 0,.i .i64 0,.i .i64 0,.s [],.i .i64 0,.i .i64 0,.i .i64 0,.i .i64 0,.i .i64 0,.i .i64 0,.s [],.i .i64 0,.i .i64 0,.i .i64 0,.i .i64 0,.i .i64 0,.i .i64 0,.s [],.i .i64 0,.i .i64 0,.i .i64 0,.i .i64 0,.i .i64 0,.i .i64 0,.s [],.i .i64 0,.i .i64 0,.i .i64 0,.i .i64 0,.i .i64 0,.i .i64 0,.s [],.i .i64 0,.i .i64 0,.i .i64 0,.i .i64 0,.i .i64 0,.i .i64 0,.s [],.i .i64 0,.i .i64 0,.i .i64 0,.i .i64 0,.i .i64 0,.i .i64 0,.s [],.i .i64 0,.i .i64 0,.i .i64 0,.i .i64 0,.i .i64 0,.i .i64 0,.s [],.i .i64 0,.i .i64 0,.i .i64 0,.i .i64 0,.i .i64 0,.i .i64 0,.s [],.i .i64 0,.i .i64 0,.i .i64 0,.i .i64 0,.i .i64 0,.i .i64 0,.s [],.i .i64 0,.i .i64 0,.i .i64 0,.i .i64 0,.i .i64 0,.i .i64 0,.s [],.i .i64 0,.i .i64 0,.i .i64 0,.i .i64 0,.i .i64 0,.i .i64 0,.s [],.i .i64 0,.i .i64 0,.i .i64 0,.i .i64 0,.i .i64 0,.i .i64 0,.s [],.i .i64 0,.i .i64 0,.i .i64 0,.i .i64 0,.i .i64 0,.i .i64 0]),.u (.store 280 (.t 4) (.t 6))]) (.seq (.r [.q 7 (.slcA 40 7 (.t 4) none none none),.m 8 (.t 0),.l 9 f_slices_IndexFunc_calls_call_calls_call [.t 7,.t 8],.m 5 (.t 9)]) (.seq (.seq (.r [.m 10 (.t 5),.q 11 (.bin .lss (.t 10) (.k 0))]) (.cond (.t 11) (.seq (.r [.q 12 (.build [.s [],.i .i64 0,.i .i64 0,.i .i64 0,.i .i64 0,.i .i64 0,.i .i64 0] []),.u (.store 7 (.t 2) (.t 12)),.m 3 (.c (.b false))]) (.ret)) (.skip))) (.seq (.r [.m 13 (.t 5),.q 14 (.iAddrA 40 7 (.t 4) (.t 13)),.q 15 (.loadN 7 (.t 14)),.u (.store 7 (.t 2) (.t 15)),.m 3 (.c (.b true))]) (.ret)))))⟩
def qgu (p:List UInt8 × List Int->Bool):AV:=match zy.find? p with | some x=>.tup [.agg (k8 x),.b true] | none=>.tup [.agg [.s [],.i .i64 0,.i .i64 0,.i .i64 0,.i .i64 0,.i .i64 0,.i .i64 0],.b false]
set_option maxRecDepth 20000 in
theorem qna {g1 g2:Nat} (hc:qm P f (ZW g1 g2) = true) (h1:qg P g1 [] (.agg (zy.flatMap k8))) (h2:Qa 7 P g2) (p:List UInt8 × List Int->Bool) (g:Nat) (a c:List AV) (ha:qw a = true) (hcc:qw c = true)
  (hp:∀ x ∈ zy,qg P g (a++([.agg (k8 x)]++c)) (.b (p x))):qg P f [.fn g a c] (qgu p):=by
 refine qg.mk hc (by simp [qw,clo,ha,hcc]) ?_
 simp only [ZW,qh,H0,mkT,mkH,trL,vI,simprocAttr]
 simp only [↓vS,vT,shb,shv,qb,qc,cellsOf,wr,qa,simprocAttr]
 refine h1.sc ?_
 have hlen:(zy.flatMap k8).length = 280:=by decide
 have hok:qI (zy.flatMap k8) = true:=by decide
 have hcl:qw (zy.flatMap k8) = true:=by decide
 generalize hT:zy.flatMap k8 = T at hlen hok hcl
 have htk:T.take 280 = T:=List.take_of_length_le (by omega)
 simp only [↓vS,vT,shb,shv,qb,qc,cellsOf,wr,qa,simprocAttr,hlen,hok]
 refine (h2 k8 p g a c zy qdu ha hcc (by decide) hp).lend (vs':=[.fz 40 (zy.flatMap k8),.fn g a c]) ?_ rfl ?_
 ·refine .cons _ _ _ _ (.cut 7 rfl (Nat.le_refl _) ?_) (.cons _ _ _ _ (.fn _ _ _ _ _ (Frzs.self ha) (Frzs.self hcc)) .nil)
  rw [hT]
  simp [vw,hlen,htk,qH hcl]
 rcases kA p zy 0 with ⟨e1,e2⟩ | ⟨i,x,e1,e2,e3,e4,e5⟩
 ·rw [e1]
  simp only [↓vS,vT,shb,shv,qb,qc,cellsOf,wr,qa,simprocAttr]
  simp [vZ,qgu,e2]
 ·have hi:i < 40:=(List.getElem?_eq_some_iff.1 e2).1
  have hn:¬ (i:Int) < 0:=by omega
  have he:(T.drop (i * 7)).take 7 = k8 x:=by rw [← hT]; exact xl (f:=k8) (m:=7) qdu e2
  have hb:i * 7<=273:=by omega
  rw [e1,Nat.zero_add]
  simp only [↓vS,vT,shb,shv,qb,qc,cellsOf,wr,qa,simprocAttr,hn,hi,he,hb,hlen,k8]
  simp [vZ,qgu,e4,k8]
def QZ (f_calls_Known_1 f_calls_find:Nat):IFn:=⟨[.tmp 2],.seq (.r [.q 1 (.box (.t 0)),.m 2 (.c (.b false))]) (.seq (.r [.q 6 (.mkF f_calls_Known_1 [] [.t 1]),.l 7 f_calls_find [.t 6],.m 5 (.t 7),.q 8 (.ext (.t 5) 0),.q 9 (.ext (.t 5) 1),.q 3 (.alloc [.s [],.i .i64 0,.i .i64 0,.i .i64 0,.i .i64 0,.i .i64 0,.i .i64 0]),.u (.store 7 (.t 3) (.t 8)),.m 4 (.t 9)]) (.seq (.r [.m 10 (.t 4),.m 2 (.t 10)]) (.ret)))⟩
def jG (s:List UInt8):Bool:=(zy.find? (fun x=>decide (x.1 = s))).isSome
theorem qnO {g1 g2:Nat} (hc:qm P f (QZ g1 g2) = true) (h1:∀ s x,qg P g1 [.agg (k8 x),.pf [.s s] 0] (.b (decide (x.1 = s))))
  (h2:∀ (p:List UInt8 × List Int->Bool) (g:Nat) (a c:List AV),qw a = true->qw c = true->(∀ x ∈ zy,qg P g (a++([.agg (k8 x)]++c)) (.b (p x)))->qg P g2 [.fn g a c] (qgu p)) (s:List UInt8):qg P f [.s s] (.b (jG s)):=by
 refine qg.mk hc rfl ?_
 simp only [QZ,qh,H0,mkT,mkH,trL,vI,simprocAttr]
 simp only [↓vS,vT,shb,shv,qb,qc,cellsOf,wr,qa,simprocAttr]
 refine (h2 (fun x=>decide (x.1 = s)) g1 [] [.pf [.s s] 0] rfl rfl (fun x _=>h1 s x)).lend (vs':=[.fn g1 [] [.pf [.s s] 0]]) ?_ ?_ ?_
 ·simp [vZ,vP,Tr.get_set]
 ·unfold qgu; split <;> rfl
 unfold qgu jG
 cases zy.find? (fun x=>decide (x.1 = s)) with
 | none =>
  simp only [↓vS,vT,shb,shv,qb,qc,cellsOf,wr,qa,simprocAttr]
  simp [vZ]
 | some x =>
  simp only [↓vS,vT,shb,shv,qb,qc,cellsOf,wr,qa,simprocAttr,k8]
  simp [vZ]
end Go.Kc
end
