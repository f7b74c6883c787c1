/- Part 8 of the abstract machine and of the functions' walks. Conditions: with each theorem. -/
import Derived.Test.YtdmjpfekglajoaaK7
import Derived.ChangeArms
import Derived.ReadAgain
import Derived.ChangeOld
import Derived.ChangeBears
set_option linter.unusedSimpArgs false
set_option linter.unusedVariables false
set_option linter.unnecessarySimpa false
section
/- What the setter's methods do: yes and no by their keys; architectures. Condition: the functions' texts are these. -/
namespace Go.Kc
variable {P : Program} {f : Nat}
/-- a method: what it makes of the policy, what it notes -/
def cMeth (P : Program) (f : Nat) (M : Pol → List UInt8 → Pol × List (Int × List UInt8)) : Prop := ∀ (p : Pol) (a : Asg) (ns : List GNote) (v : List UInt8), v.length ≤ 1000 → ns.length ≤ 1000 → p.arches.length ≤ 1000 → p.fams.length ≤ 1000 →
  Upd P f [.ptr 0 0, .s v] [.cells 0 true false (setC p a 1 ns.length), .cells 4 true true (rN ns)] (.tup []) (setB (M p v).1 a ns ((M p v).2.map (noteOf a)))
noncomputable def m_we (p : Pol) (v : List UInt8) : Pol × List (Int × List UInt8) := ({ p with we := (saysM v).1.getD p.we }, (saysM v).2)
def ir_restrict_setter_writeExecute (f_restrict_setter_says : Nat) : IFn := ⟨[],
  .reg false [⟨(some 4), .op (.mov (.t 0)), none⟩,
    ⟨(some 5), .op (.mov (.t 1)), none⟩,
    ⟨(some 6), .op (.mov (.t 0)), none⟩,
    ⟨(some 7), .op (.nilChk (.t 6)), none⟩,
    ⟨(some 8), .op (.fAddr 0 (.t 7)), none⟩,
    ⟨(some 9), .op (.fAddr 9 (.t 8)), none⟩,
    ⟨(some 10), .callF f_restrict_setter_says [(.t 4), (.t 5), (.t 9)], none⟩]⟩
theorem meth_we {g : Nat} (hc : chkFn P f (ir_restrict_setter_writeExecute g) = true) (h1 : cSays9 P g) : cMeth P f m_we := by
  intro p a ns v hv hn _ _
  refine Upd.mk hc (by simp [bnds, bnd]) (by unfold setB; split <;> simp) ?_
  simp only [ir_restrict_setter_writeExecute, setC, argsT, H0, mkT, mkH, trL, List.length_cons, List.length_nil, Nat.reduceAdd, Nat.zero_add]
  simp only [↓vA, ↓vE, ↓vO, ↓vB, ↓vF, ↓vM, ↓vR, ↓vX, cvF_pc, vP, shb, shv, shvs, she_nil, she_cons, vC, vQ, Nat.reduceEqDiff, ↓reduceIte, eq_self, Nat.reduceAdd, Nat.reduceMul, Nat.reduceSub, Nat.reduceLeDiff, Nat.reduceLT, defd, cellsOf, wr, packR, Int.reduceLE, Int.reduceLT, Int.reduceEq, Int.cast_ofNat_Int, Int.reduceToNat]
  refine (h1 p a ns v (by simp only [roomB]; omega)).sc (vs := [.ptr 0 0, .s v, .ptr 0 9]) [0, 1] (Lent.of (by decide) ?_) ?_
  · simp [lent_cons, lent_nil, pushs_cons, pushs_nil, push_mk, shb, shv, shvs, bnds, bnd, rnvs, rnv, gAt, vW, bw_map, mapAt_map, mapClo_it, mapClo_nil, mapClo_cons, vP, vZ, Tr.get_set, setC, bnds_clo rN_clos, rnvs_clo rN_clos, bnd_clo, clo, rnv_clo]
  unfold m_we setB
  dsimp only
  by_cases hnew : (saysM v).2.map (noteOf a) = []
  · simp only [if_pos hnew]
    simp only [backH, List.cons_append, List.nil_append, List.length_cons, List.length_nil, Nat.zero_add, Nat.reduceAdd, List.take_succ_cons, List.take_zero, List.drop_succ_cons, List.drop_zero, List.map_cons, List.map_nil, rnb, rnvs, rnv, gAt, Nat.reduceLT, ↓reduceIte, List.getD_cons_zero, List.getD_cons_succ, Nat.reduceSub, puts_cons, puts_nil, pushs_cons, pushs_nil, hput_mk, push_mk, setC, rnvs_clo rN_clos, rnv_clo, clo]
    simp only [↓vA, ↓vE, ↓vO, ↓vB, ↓vF, ↓vM, ↓vR, ↓vX, cvF_pc, vP, shb, shv, shvs, she_nil, she_cons, vC, vQ, Nat.reduceEqDiff, ↓reduceIte, eq_self, Nat.reduceAdd, Nat.reduceMul, Nat.reduceSub, Nat.reduceLeDiff, Nat.reduceLT, defd, cellsOf, wr, packR, Int.reduceLE, Int.reduceLT, Int.reduceEq, Int.cast_ofNat_Int, Int.reduceToNat]
    intro _
    refine ⟨[0, 1], ?_⟩
    simp [vW, bw_map, mapAt_map, mapClo_it, mapClo_nil, mapClo_cons, vP, vZ, Tr.get_set, nvs_self, rN_clos]
    decide
  · simp only [if_neg hnew]
    simp only [backH, List.cons_append, List.nil_append, List.length_cons, List.length_nil, Nat.zero_add, Nat.reduceAdd, List.take_succ_cons, List.take_zero, List.drop_succ_cons, List.drop_zero, List.map_cons, List.map_nil, rnb, rnvs, rnv, gAt, Nat.reduceLT, ↓reduceIte, List.getD_cons_zero, List.getD_cons_succ, Nat.reduceSub, puts_cons, puts_nil, pushs_cons, pushs_nil, hput_mk, push_mk, setC, rnvs_clo rN_clos, rnv_clo, clo]
    simp only [↓vA, ↓vE, ↓vO, ↓vB, ↓vF, ↓vM, ↓vR, ↓vX, cvF_pc, vP, shb, shv, shvs, she_nil, she_cons, vC, vQ, Nat.reduceEqDiff, ↓reduceIte, eq_self, Nat.reduceAdd, Nat.reduceMul, Nat.reduceSub, Nat.reduceLeDiff, Nat.reduceLT, defd, cellsOf, wr, packR, Int.reduceLE, Int.reduceLT, Int.reduceEq, Int.cast_ofNat_Int, Int.reduceToNat]
    intro _
    refine ⟨[0, 1, 2], ?_⟩
    simp [vW, bw_map, mapAt_map, mapClo_it, mapClo_nil, mapClo_cons, vP, vZ, Tr.get_set, nvs_self, rN_clos]
    decide
noncomputable def m_pe (p : Pol) (v : List UInt8) : Pol × List (Int × List UInt8) := ({ p with pe := (saysM v).1.getD p.pe }, (saysM v).2)
def ir_restrict_setter_personality (f_restrict_setter_says : Nat) : IFn := ⟨[],
  .reg false [⟨(some 4), .op (.mov (.t 0)), none⟩,
    ⟨(some 5), .op (.mov (.t 1)), none⟩,
    ⟨(some 6), .op (.mov (.t 0)), none⟩,
    ⟨(some 7), .op (.nilChk (.t 6)), none⟩,
    ⟨(some 8), .op (.fAddr 0 (.t 7)), none⟩,
    ⟨(some 9), .op (.fAddr 10 (.t 8)), none⟩,
    ⟨(some 10), .callF f_restrict_setter_says [(.t 4), (.t 5), (.t 9)], none⟩]⟩
theorem meth_pe {g : Nat} (hc : chkFn P f (ir_restrict_setter_personality g) = true) (h1 : cSays10 P g) : cMeth P f m_pe := by
  intro p a ns v hv hn _ _
  refine Upd.mk hc (by simp [bnds, bnd]) (by unfold setB; split <;> simp) ?_
  simp only [ir_restrict_setter_personality, setC, argsT, H0, mkT, mkH, trL, List.length_cons, List.length_nil, Nat.reduceAdd, Nat.zero_add]
  simp only [↓vA, ↓vE, ↓vO, ↓vB, ↓vF, ↓vM, ↓vR, ↓vX, cvF_pc, vP, shb, shv, shvs, she_nil, she_cons, vC, vQ, Nat.reduceEqDiff, ↓reduceIte, eq_self, Nat.reduceAdd, Nat.reduceMul, Nat.reduceSub, Nat.reduceLeDiff, Nat.reduceLT, defd, cellsOf, wr, packR, Int.reduceLE, Int.reduceLT, Int.reduceEq, Int.cast_ofNat_Int, Int.reduceToNat]
  refine (h1 p a ns v (by simp only [roomB]; omega)).sc (vs := [.ptr 0 0, .s v, .ptr 0 10]) [0, 1] (Lent.of (by decide) ?_) ?_
  · simp [lent_cons, lent_nil, pushs_cons, pushs_nil, push_mk, shb, shv, shvs, bnds, bnd, rnvs, rnv, gAt, vW, bw_map, mapAt_map, mapClo_it, mapClo_nil, mapClo_cons, vP, vZ, Tr.get_set, setC, bnds_clo rN_clos, rnvs_clo rN_clos, bnd_clo, clo, rnv_clo]
  unfold m_pe setB
  dsimp only
  by_cases hnew : (saysM v).2.map (noteOf a) = []
  · simp only [if_pos hnew]
    simp only [backH, List.cons_append, List.nil_append, List.length_cons, List.length_nil, Nat.zero_add, Nat.reduceAdd, List.take_succ_cons, List.take_zero, List.drop_succ_cons, List.drop_zero, List.map_cons, List.map_nil, rnb, rnvs, rnv, gAt, Nat.reduceLT, ↓reduceIte, List.getD_cons_zero, List.getD_cons_succ, Nat.reduceSub, puts_cons, puts_nil, pushs_cons, pushs_nil, hput_mk, push_mk, setC, rnvs_clo rN_clos, rnv_clo, clo]
    simp only [↓vA, ↓vE, ↓vO, ↓vB, ↓vF, ↓vM, ↓vR, ↓vX, cvF_pc, vP, shb, shv, shvs, she_nil, she_cons, vC, vQ, Nat.reduceEqDiff, ↓reduceIte, eq_self, Nat.reduceAdd, Nat.reduceMul, Nat.reduceSub, Nat.reduceLeDiff, Nat.reduceLT, defd, cellsOf, wr, packR, Int.reduceLE, Int.reduceLT, Int.reduceEq, Int.cast_ofNat_Int, Int.reduceToNat]
    intro _
    refine ⟨[0, 1], ?_⟩
    simp [vW, bw_map, mapAt_map, mapClo_it, mapClo_nil, mapClo_cons, vP, vZ, Tr.get_set, nvs_self, rN_clos]
    decide
  · simp only [if_neg hnew]
    simp only [backH, List.cons_append, List.nil_append, List.length_cons, List.length_nil, Nat.zero_add, Nat.reduceAdd, List.take_succ_cons, List.take_zero, List.drop_succ_cons, List.drop_zero, List.map_cons, List.map_nil, rnb, rnvs, rnv, gAt, Nat.reduceLT, ↓reduceIte, List.getD_cons_zero, List.getD_cons_succ, Nat.reduceSub, puts_cons, puts_nil, pushs_cons, pushs_nil, hput_mk, push_mk, setC, rnvs_clo rN_clos, rnv_clo, clo]
    simp only [↓vA, ↓vE, ↓vO, ↓vB, ↓vF, ↓vM, ↓vR, ↓vX, cvF_pc, vP, shb, shv, shvs, she_nil, she_cons, vC, vQ, Nat.reduceEqDiff, ↓reduceIte, eq_self, Nat.reduceAdd, Nat.reduceMul, Nat.reduceSub, Nat.reduceLeDiff, Nat.reduceLT, defd, cellsOf, wr, packR, Int.reduceLE, Int.reduceLT, Int.reduceEq, Int.cast_ofNat_Int, Int.reduceToNat]
    intro _
    refine ⟨[0, 1, 2], ?_⟩
    simp [vW, bw_map, mapAt_map, mapClo_it, mapClo_nil, mapClo_cons, vP, vZ, Tr.get_set, nvs_self, rN_clos]
    decide
noncomputable def m_rt (p : Pol) (v : List UInt8) : Pol × List (Int × List UInt8) := ({ p with rt := (saysM v).1.getD p.rt }, (saysM v).2)
def ir_restrict_setter_realtime (f_restrict_setter_says : Nat) : IFn := ⟨[],
  .reg false [⟨(some 4), .op (.mov (.t 0)), none⟩,
    ⟨(some 5), .op (.mov (.t 1)), none⟩,
    ⟨(some 6), .op (.mov (.t 0)), none⟩,
    ⟨(some 7), .op (.nilChk (.t 6)), none⟩,
    ⟨(some 8), .op (.fAddr 0 (.t 7)), none⟩,
    ⟨(some 9), .op (.fAddr 11 (.t 8)), none⟩,
    ⟨(some 10), .callF f_restrict_setter_says [(.t 4), (.t 5), (.t 9)], none⟩]⟩
theorem meth_rt {g : Nat} (hc : chkFn P f (ir_restrict_setter_realtime g) = true) (h1 : cSays11 P g) : cMeth P f m_rt := by
  intro p a ns v hv hn _ _
  refine Upd.mk hc (by simp [bnds, bnd]) (by unfold setB; split <;> simp) ?_
  simp only [ir_restrict_setter_realtime, setC, argsT, H0, mkT, mkH, trL, List.length_cons, List.length_nil, Nat.reduceAdd, Nat.zero_add]
  simp only [↓vA, ↓vE, ↓vO, ↓vB, ↓vF, ↓vM, ↓vR, ↓vX, cvF_pc, vP, shb, shv, shvs, she_nil, she_cons, vC, vQ, Nat.reduceEqDiff, ↓reduceIte, eq_self, Nat.reduceAdd, Nat.reduceMul, Nat.reduceSub, Nat.reduceLeDiff, Nat.reduceLT, defd, cellsOf, wr, packR, Int.reduceLE, Int.reduceLT, Int.reduceEq, Int.cast_ofNat_Int, Int.reduceToNat]
  refine (h1 p a ns v (by simp only [roomB]; omega)).sc (vs := [.ptr 0 0, .s v, .ptr 0 11]) [0, 1] (Lent.of (by decide) ?_) ?_
  · simp [lent_cons, lent_nil, pushs_cons, pushs_nil, push_mk, shb, shv, shvs, bnds, bnd, rnvs, rnv, gAt, vW, bw_map, mapAt_map, mapClo_it, mapClo_nil, mapClo_cons, vP, vZ, Tr.get_set, setC, bnds_clo rN_clos, rnvs_clo rN_clos, bnd_clo, clo, rnv_clo]
  unfold m_rt setB
  dsimp only
  by_cases hnew : (saysM v).2.map (noteOf a) = []
  · simp only [if_pos hnew]
    simp only [backH, List.cons_append, List.nil_append, List.length_cons, List.length_nil, Nat.zero_add, Nat.reduceAdd, List.take_succ_cons, List.take_zero, List.drop_succ_cons, List.drop_zero, List.map_cons, List.map_nil, rnb, rnvs, rnv, gAt, Nat.reduceLT, ↓reduceIte, List.getD_cons_zero, List.getD_cons_succ, Nat.reduceSub, puts_cons, puts_nil, pushs_cons, pushs_nil, hput_mk, push_mk, setC, rnvs_clo rN_clos, rnv_clo, clo]
    simp only [↓vA, ↓vE, ↓vO, ↓vB, ↓vF, ↓vM, ↓vR, ↓vX, cvF_pc, vP, shb, shv, shvs, she_nil, she_cons, vC, vQ, Nat.reduceEqDiff, ↓reduceIte, eq_self, Nat.reduceAdd, Nat.reduceMul, Nat.reduceSub, Nat.reduceLeDiff, Nat.reduceLT, defd, cellsOf, wr, packR, Int.reduceLE, Int.reduceLT, Int.reduceEq, Int.cast_ofNat_Int, Int.reduceToNat]
    intro _
    refine ⟨[0, 1], ?_⟩
    simp [vW, bw_map, mapAt_map, mapClo_it, mapClo_nil, mapClo_cons, vP, vZ, Tr.get_set, nvs_self, rN_clos]
    decide
  · simp only [if_neg hnew]
    simp only [backH, List.cons_append, List.nil_append, List.length_cons, List.length_nil, Nat.zero_add, Nat.reduceAdd, List.take_succ_cons, List.take_zero, List.drop_succ_cons, List.drop_zero, List.map_cons, List.map_nil, rnb, rnvs, rnv, gAt, Nat.reduceLT, ↓reduceIte, List.getD_cons_zero, List.getD_cons_succ, Nat.reduceSub, puts_cons, puts_nil, pushs_cons, pushs_nil, hput_mk, push_mk, setC, rnvs_clo rN_clos, rnv_clo, clo]
    simp only [↓vA, ↓vE, ↓vO, ↓vB, ↓vF, ↓vM, ↓vR, ↓vX, cvF_pc, vP, shb, shv, shvs, she_nil, she_cons, vC, vQ, Nat.reduceEqDiff, ↓reduceIte, eq_self, Nat.reduceAdd, Nat.reduceMul, Nat.reduceSub, Nat.reduceLeDiff, Nat.reduceLT, defd, cellsOf, wr, packR, Int.reduceLE, Int.reduceLT, Int.reduceEq, Int.cast_ofNat_Int, Int.reduceToNat]
    intro _
    refine ⟨[0, 1, 2], ?_⟩
    simp [vW, bw_map, mapAt_map, mapClo_it, mapClo_nil, mapClo_cons, vP, vZ, Tr.get_set, nvs_self, rN_clos]
    decide
noncomputable def m_np (p : Pol) (v : List UInt8) : Pol × List (Int × List UInt8) := ({ p with np := (saysM v).1.getD p.np }, (saysM v).2)
def ir_restrict_setter_noPrivileges (f_restrict_setter_says : Nat) : IFn := ⟨[],
  .reg false [⟨(some 4), .op (.mov (.t 0)), none⟩,
    ⟨(some 5), .op (.mov (.t 1)), none⟩,
    ⟨(some 6), .op (.mov (.t 0)), none⟩,
    ⟨(some 7), .op (.nilChk (.t 6)), none⟩,
    ⟨(some 8), .op (.fAddr 0 (.t 7)), none⟩,
    ⟨(some 9), .op (.fAddr 12 (.t 8)), none⟩,
    ⟨(some 10), .callF f_restrict_setter_says [(.t 4), (.t 5), (.t 9)], none⟩]⟩
theorem meth_np {g : Nat} (hc : chkFn P f (ir_restrict_setter_noPrivileges g) = true) (h1 : cSays12 P g) : cMeth P f m_np := by
  intro p a ns v hv hn _ _
  refine Upd.mk hc (by simp [bnds, bnd]) (by unfold setB; split <;> simp) ?_
  simp only [ir_restrict_setter_noPrivileges, setC, argsT, H0, mkT, mkH, trL, List.length_cons, List.length_nil, Nat.reduceAdd, Nat.zero_add]
  simp only [↓vA, ↓vE, ↓vO, ↓vB, ↓vF, ↓vM, ↓vR, ↓vX, cvF_pc, vP, shb, shv, shvs, she_nil, she_cons, vC, vQ, Nat.reduceEqDiff, ↓reduceIte, eq_self, Nat.reduceAdd, Nat.reduceMul, Nat.reduceSub, Nat.reduceLeDiff, Nat.reduceLT, defd, cellsOf, wr, packR, Int.reduceLE, Int.reduceLT, Int.reduceEq, Int.cast_ofNat_Int, Int.reduceToNat]
  refine (h1 p a ns v (by simp only [roomB]; omega)).sc (vs := [.ptr 0 0, .s v, .ptr 0 12]) [0, 1] (Lent.of (by decide) ?_) ?_
  · simp [lent_cons, lent_nil, pushs_cons, pushs_nil, push_mk, shb, shv, shvs, bnds, bnd, rnvs, rnv, gAt, vW, bw_map, mapAt_map, mapClo_it, mapClo_nil, mapClo_cons, vP, vZ, Tr.get_set, setC, bnds_clo rN_clos, rnvs_clo rN_clos, bnd_clo, clo, rnv_clo]
  unfold m_np setB
  dsimp only
  by_cases hnew : (saysM v).2.map (noteOf a) = []
  · simp only [if_pos hnew]
    simp only [backH, List.cons_append, List.nil_append, List.length_cons, List.length_nil, Nat.zero_add, Nat.reduceAdd, List.take_succ_cons, List.take_zero, List.drop_succ_cons, List.drop_zero, List.map_cons, List.map_nil, rnb, rnvs, rnv, gAt, Nat.reduceLT, ↓reduceIte, List.getD_cons_zero, List.getD_cons_succ, Nat.reduceSub, puts_cons, puts_nil, pushs_cons, pushs_nil, hput_mk, push_mk, setC, rnvs_clo rN_clos, rnv_clo, clo]
    simp only [↓vA, ↓vE, ↓vO, ↓vB, ↓vF, ↓vM, ↓vR, ↓vX, cvF_pc, vP, shb, shv, shvs, she_nil, she_cons, vC, vQ, Nat.reduceEqDiff, ↓reduceIte, eq_self, Nat.reduceAdd, Nat.reduceMul, Nat.reduceSub, Nat.reduceLeDiff, Nat.reduceLT, defd, cellsOf, wr, packR, Int.reduceLE, Int.reduceLT, Int.reduceEq, Int.cast_ofNat_Int, Int.reduceToNat]
    intro _
    refine ⟨[0, 1], ?_⟩
    simp [vW, bw_map, mapAt_map, mapClo_it, mapClo_nil, mapClo_cons, vP, vZ, Tr.get_set, nvs_self, rN_clos]
    decide
  · simp only [if_neg hnew]
    simp only [backH, List.cons_append, List.nil_append, List.length_cons, List.length_nil, Nat.zero_add, Nat.reduceAdd, List.take_succ_cons, List.take_zero, List.drop_succ_cons, List.drop_zero, List.map_cons, List.map_nil, rnb, rnvs, rnv, gAt, Nat.reduceLT, ↓reduceIte, List.getD_cons_zero, List.getD_cons_succ, Nat.reduceSub, puts_cons, puts_nil, pushs_cons, pushs_nil, hput_mk, push_mk, setC, rnvs_clo rN_clos, rnv_clo, clo]
    simp only [↓vA, ↓vE, ↓vO, ↓vB, ↓vF, ↓vM, ↓vR, ↓vX, cvF_pc, vP, shb, shv, shvs, she_nil, she_cons, vC, vQ, Nat.reduceEqDiff, ↓reduceIte, eq_self, Nat.reduceAdd, Nat.reduceMul, Nat.reduceSub, Nat.reduceLeDiff, Nat.reduceLT, defd, cellsOf, wr, packR, Int.reduceLE, Int.reduceLT, Int.reduceEq, Int.cast_ofNat_Int, Int.reduceToNat]
    intro _
    refine ⟨[0, 1, 2], ?_⟩
    simp [vW, bw_map, mapAt_map, mapClo_it, mapClo_nil, mapClo_cons, vP, vZ, Tr.get_set, nvs_self, rN_clos]
    decide
def cWith64 (P : Program) (f : Nat) : Prop := ∀ (l : List Int) (n : Int) (is : Bool), l.length + 1 ≤ roomB → (l.length + 1) * 8 ≤ roomB → Pure P f [.fz l.length (rI .i64 l), .i .i64 n, .b is] (.fz (withL l n is).length (rI .i64 (withL l n is)))
def cWith32 (P : Program) (f : Nat) : Prop := ∀ (l : List Int) (n : Int) (is : Bool), l.length + 1 ≤ roomB → (l.length + 1) * 8 ≤ roomB → Pure P f [.fz l.length (rI .u32 l), .i .u32 n, .b is] (.fz (withL l n is).length (rI .u32 (withL l n is)))
def cArchParse (P : Program) (f : Nat) : Prop := ∀ s, Pure P f [.s s] (.tup [.i .i64 (archM s).1, .i .i64 (archM s).2])
noncomputable def archStep (s : List Int × List (Int × List UInt8)) (w : List UInt8) : List Int × List (Int × List UInt8) :=
  if (archM w).2 = 0 then (withL s.1 (archM w).1 true, s.2) else (s.1, s.2 ++ [((archM w).2, w)])
noncomputable def m_arches (p : Pol) (v : List UInt8) : Pol × List (Int × List UInt8) :=
  let r := (words v).foldl archStep (if words v = [] then [] else p.arches, [])
  ({ p with arches := r.1 }, r.2)
theorem archStep_len (ws : List (List UInt8)) : ∀ s, (ws.foldl archStep s).1.length ≤ s.1.length + ws.length ∧ (ws.foldl archStep s).2.length ≤ s.2.length + ws.length := by
  induction ws with
  | nil => intro s; simp
  | cons w ws ih =>
    intro s
    have h := ih (archStep s w)
    have h2 : (archStep s w).1.length ≤ s.1.length + 1 ∧ (archStep s w).2.length ≤ s.2.length + 1 := by
      unfold archStep
      split
      · exact ⟨withL_len s.1 (archM w).1 true, by simp⟩
      · simp
    simp only [List.foldl_cons, List.length_cons]
    omega
def ir_restrict_setter_arches (f_values_Words f_arch_Parse f_restrict_setter_note f_restrict_with_int : Nat) : IFn := ⟨[],
  .seq (.reg false [⟨(some 9), .op (.mov (.t 1)), none⟩,
    ⟨(some 10), .callF f_values_Words [(.t 9)], none⟩,
    ⟨(some 4), .op (.mov (.t 10)), none⟩])
  (.seq (.seq (.reg false [⟨(some 11), .op (.mov (.t 4)), none⟩,
    ⟨(some 12), .op (.len false (.t 11)), none⟩,
    ⟨(some 13), .op (.bin .eql (.t 12) (.c (.i .i64 0))), none⟩])
  (.cond (.t 13) (.reg false [⟨(some 14), .op (.mov (.t 0)), none⟩,
    ⟨(some 15), .op (.nilChk (.t 14)), none⟩,
    ⟨(some 16), .op (.fAddr 0 (.t 15)), none⟩,
    ⟨(some 17), .op (.fAddr 0 (.t 16)), none⟩,
    ⟨none, .op (.store 1 (.t 17) (.c (.nils))), none⟩]) (.skip)))
  (.seq (.reg false [⟨(some 18), .op (.mov (.t 4)), none⟩,
    ⟨(some 19), .op (.len false (.t 18)), none⟩,
    ⟨(some 20), .op (.mov (.c (.i .i64 0))), none⟩])
  (.blk 0 (.loop (.seq (.reg false [⟨(some 21), .op (.bin .lss (.t 20) (.t 19)), none⟩])
  (.seq (.cond (.t 21) (.skip) (.exit 0))
  (.seq (.blk 1 (.seq (.reg false [⟨(some 22), .op (.iAddrS 1 (.t 18) (.t 20)), none⟩,
    ⟨(some 23), .op (.load1 (.t 22)), none⟩,
    ⟨(some 6), .op (.mov (.t 23)), none⟩])
  (.seq (.reg false [⟨(some 25), .op (.mov (.t 6)), none⟩,
    ⟨(some 26), .callF f_arch_Parse [(.t 25)], none⟩,
    ⟨(some 24), .op (.mov (.t 26)), none⟩,
    ⟨(some 27), .op (.ext (.t 24) 0), none⟩,
    ⟨(some 28), .op (.ext (.t 24) 1), none⟩,
    ⟨(some 7), .op (.mov (.t 27)), none⟩,
    ⟨(some 8), .op (.mov (.t 28)), none⟩])
  (.seq (.reg false [⟨(some 29), .op (.mov (.t 8)), none⟩,
    ⟨(some 30), .op (.bin .neq (.t 29) (.c (.i .i64 0))), none⟩])
  (.cond (.t 30) (.reg false [⟨(some 31), .op (.mov (.t 0)), none⟩,
    ⟨(some 32), .op (.mov (.t 8)), none⟩,
    ⟨(some 33), .op (.mov (.t 6)), none⟩,
    ⟨(some 34), .callF f_restrict_setter_note [(.t 31), (.t 32), (.t 33)], none⟩]) (.reg false [⟨(some 35), .op (.mov (.t 0)), none⟩,
    ⟨(some 36), .op (.mov (.t 0)), none⟩,
    ⟨(some 37), .op (.nilChk (.t 36)), none⟩,
    ⟨(some 38), .op (.fAddr 0 (.t 37)), none⟩,
    ⟨(some 39), .op (.fAddr 0 (.t 38)), none⟩,
    ⟨(some 40), .op (.load1 (.t 39)), none⟩,
    ⟨(some 41), .op (.mov (.t 7)), none⟩,
    ⟨(some 42), .callF f_restrict_with_int [(.t 40), (.t 41), (.c (.b true))], none⟩,
    ⟨(some 43), .op (.nilChk (.t 35)), none⟩,
    ⟨(some 44), .op (.fAddr 0 (.t 43)), none⟩,
    ⟨(some 45), .op (.fAddr 0 (.t 44)), none⟩,
    ⟨none, .op (.store 1 (.t 45) (.t 42)), none⟩]))))))
  (.reg false [⟨(some 46), .op (.bin .add (.t 20) (.c (.i .i64 1))), none⟩,
    ⟨(some 20), .op (.mov (.t 46)), none⟩]))))))))⟩
theorem meth_arches {g1 g2 g3 g4 : Nat} (hc : chkFn P f (ir_restrict_setter_arches g1 g2 g3 g4) = true) (h1 : cWords P g1) (h2 : cArchParse P g2) (h3 : cNoteU P g3) (h4 : cWith64 P g4) : cMeth P f m_arches := by
  intro p a ns v hv hn ha _
  have hwl := words_len v
  refine Upd.mk hc (by simp [bnds, bnd]) (by unfold setB; split <;> simp) ?_
  simp only [ir_restrict_setter_arches, setC, argsT, H0, mkT, mkH, trL, List.length_cons, List.length_nil, Nat.reduceAdd, Nat.zero_add]
  simp only [↓vA, ↓vE, ↓vO, ↓vB, ↓vF, ↓vM, ↓vR, ↓vX, cvF_pc, vP, shb, shv, shvs, she_nil, she_cons, vC, vQ, Nat.reduceEqDiff, ↓reduceIte, eq_self, Nat.reduceAdd, Nat.reduceMul, Nat.reduceSub, Nat.reduceLeDiff, Nat.reduceLT, defd, cellsOf, wr, packR, Int.reduceLE, Int.reduceLT, Int.reduceEq, Int.cast_ofNat_Int, Int.reduceToNat]
  refine (h1 v (by omega)).sc ?_
  by_cases hw : words v = []
  · simp only [↓vA, ↓vE, ↓vO, ↓vB, ↓vF, ↓vM, ↓vR, ↓vX, cvF_pc, vP, shb, shv, shvs, she_nil, she_cons, vC, vQ, Nat.reduceEqDiff, ↓reduceIte, eq_self, Nat.reduceAdd, Nat.reduceMul, Nat.reduceSub, Nat.reduceLeDiff, Nat.reduceLT, defd, cellsOf, wr, packR, Int.reduceLE, Int.reduceLT, Int.reduceEq, Int.cast_ofNat_Int, Int.reduceToNat, hw]
    refine SL_step ?_
    simp only [↓vA, ↓vE, ↓vO, ↓vB, ↓vF, ↓vM, ↓vR, ↓vX, cvF_pc, vP, shb, shv, shvs, she_nil, she_cons, vC, vQ, Nat.reduceEqDiff, ↓reduceIte, eq_self, Nat.reduceAdd, Nat.reduceMul, Nat.reduceSub, Nat.reduceLeDiff, Nat.reduceLT, defd, cellsOf, wr, packR, Int.reduceLE, Int.reduceLT, Int.reduceEq, Int.cast_ofNat_Int, Int.reduceToNat]
    intro _
    refine ⟨[0, 1], ?_⟩
    simp [vW, bw_map, mapAt_map, mapClo_it, mapClo_nil, mapClo_cons, vP, vZ, Tr.get_set, nvs_self, rN_clos, setB, setC, m_arches, hw, rI]
    decide
  · have hwn : ¬ ((words v).length : Int) = 0 := by
      intro hh; exact hw (List.eq_nil_of_length_eq_zero (by omega))
    have hend : m_arches p v = (let r := (words v).foldl archStep (p.arches, []); ({ p with arches := r.1 }, r.2)) := by
      unfold m_arches; rw [if_neg hw]
    simp only [↓vA, ↓vE, ↓vO, ↓vB, ↓vF, ↓vM, ↓vR, ↓vX, cvF_pc, vP, shb, shv, shvs, she_nil, she_cons, vC, vQ, Nat.reduceEqDiff, ↓reduceIte, eq_self, Nat.reduceAdd, Nat.reduceMul, Nat.reduceSub, Nat.reduceLeDiff, Nat.reduceLT, defd, cellsOf, wr, packR, Int.reduceLE, Int.reduceLT, Int.reduceEq, Int.cast_ofNat_Int, Int.reduceToNat, hwn]
    refine SL.loopn (α := Nat) (fun j => [(0, .ptr 0 0), (18, .fz (words v).length ((words v).map .s)), (19, .i .i64 (words v).length), (20, .i .i64 j)])
      (fun j => setB { p with arches := (((words v).take j).foldl archStep (p.arches, [])).1 } a ns ((((words v).take j).foldl archStep (p.arches, [])).2.map (noteOf a))) (fun j => j ≤ (words v).length) (fun j => (words v).length - j) 0 [0, 1] ?_ ?_ ?_ rfl ?_ ?_ ?_ ?_
    · simp [vW, bw_map, mapAt_map, mapClo_it, mapClo_nil, mapClo_cons, vP, vZ, Tr.get_set, setB]
    · simp [vW, bw_map, mapAt_map, mapClo_it, mapClo_nil, mapClo_cons, vP, vZ, Tr.get_set, nvs_self, rN_clos, setB, setC]; try decide
    · simp [vW, bw_map, mapAt_map, mapClo_it, mapClo_nil, mapClo_cons, vP, vZ, Tr.get_set]
    · simp [setB]
    · intro b hb
      have : b = 0 ∨ b = 1 := by omega
      rcases this with rfl | rfl <;> rfl
    · exact Nat.zero_le _
    rintro j hj G ih
    have hlen := archStep_len ((words v).take j) (p.arches, [])
    simp only [List.length_take, List.length_nil, Nat.zero_add] at hlen
    generalize hr : ((words v).take j).foldl archStep (p.arches, []) = r at hlen ih ⊢
    by_cases hlt : j < (words v).length
    · have hx : (words v)[j]? = some (words v)[j] := List.getElem?_eq_getElem hlt
      have hwj : IntKind.wrap .i64 ((j : Int) + 1) = (j : Int) + 1 := wrap64 (by omega) (by omega)
      have hnext : ((words v).take (j + 1)).foldl archStep (p.arches, []) = archStep r (words v)[j] := by
        rw [List.take_add_one, hx, List.foldl_append, hr]; rfl
      generalize hww : (words v)[j] = w at hx hnext
      have ih2 := ih (j + 1)
      rw [hnext] at ih2
      have sL : r.1.length + 1 ≤ roomB := by simp only [roomB]; omega
      have sL8 : (r.1.length + 1) * 8 ≤ roomB := by simp only [roomB]; omega
      by_cases hnew : r.2.map (noteOf a) = []
      · have hr2 : r.2 = [] := List.map_eq_nil_iff.1 hnew
        simp only [setB, if_pos hnew, setC, argsT, H0, mkT, mkH, trL, List.length_cons, List.length_nil, Nat.reduceAdd, Nat.zero_add]
        simp only [↓vA, ↓vE, ↓vO, ↓vB, ↓vF, ↓vM, ↓vR, ↓vX, cvF_pc, vP, shb, shv, shvs, she_nil, she_cons, vC, vQ, Nat.reduceEqDiff, ↓reduceIte, eq_self, Nat.reduceAdd, Nat.reduceMul, Nat.reduceSub, Nat.reduceLeDiff, Nat.reduceLT, defd, cellsOf, wr, packR, Int.reduceLE, Int.reduceLT, Int.reduceEq, Int.cast_ofNat_Int, Int.reduceToNat, hlt, hx, List.getElem?_map, Option.map_some, Nat.mul_one]
        refine (h2 w).sc ?_
        by_cases he : (archM w).2 = 0
        · simp only [↓vA, ↓vE, ↓vO, ↓vB, ↓vF, ↓vM, ↓vR, ↓vX, cvF_pc, vP, shb, shv, shvs, she_nil, she_cons, vC, vQ, Nat.reduceEqDiff, ↓reduceIte, eq_self, Nat.reduceAdd, Nat.reduceMul, Nat.reduceSub, Nat.reduceLeDiff, Nat.reduceLT, defd, cellsOf, wr, packR, Int.reduceLE, Int.reduceLT, Int.reduceEq, Int.cast_ofNat_Int, Int.reduceToNat, he]
          refine (h4 r.1 (archM w).1 true sL sL8).sc ?_
          simp only [↓vA, ↓vE, ↓vO, ↓vB, ↓vF, ↓vM, ↓vR, ↓vX, cvF_pc, vP, shb, shv, shvs, she_nil, she_cons, vC, vQ, Nat.reduceEqDiff, ↓reduceIte, eq_self, Nat.reduceAdd, Nat.reduceMul, Nat.reduceSub, Nat.reduceLeDiff, Nat.reduceLT, defd, cellsOf, wr, packR, Int.reduceLE, Int.reduceLT, Int.reduceEq, Int.cast_ofNat_Int, Int.reduceToNat, hwj]
          unfold archStep at ih2
          rw [if_pos he] at ih2
          refine ih2 (by omega) (by omega) _ _ (Wk.mkn _ _ [0, 1] ?_ ?_ ?_ rfl (by simp [setB, hnew]) ?_)
          · simp [vW, bw_map, mapAt_map, mapClo_it, mapClo_nil, mapClo_cons, vP, vZ, Tr.get_set, setB, hr2]
          · simp [vW, bw_map, mapAt_map, mapClo_it, mapClo_nil, mapClo_cons, vP, vZ, Tr.get_set, nvs_self, rN_clos, setB, setC, hr2]; try decide
          · simp [vW, bw_map, mapAt_map, mapClo_it, mapClo_nil, mapClo_cons, vP, vZ, Tr.get_set]
          · intro b hb
            have : b = 0 ∨ b = 1 := by omega
            rcases this with rfl | rfl <;> rfl
        · simp only [↓vA, ↓vE, ↓vO, ↓vB, ↓vF, ↓vM, ↓vR, ↓vX, cvF_pc, vP, shb, shv, shvs, she_nil, she_cons, vC, vQ, Nat.reduceEqDiff, ↓reduceIte, eq_self, Nat.reduceAdd, Nat.reduceMul, Nat.reduceSub, Nat.reduceLeDiff, Nat.reduceLT, defd, cellsOf, wr, packR, Int.reduceLE, Int.reduceLT, Int.reduceEq, Int.cast_ofNat_Int, Int.reduceToNat, he]
          refine (h3 { p with arches := r.1 } a ns (archM w).2 w (by simp only [roomB]; omega)).sc (vs := [.ptr 0 0, .i .i64 (archM w).2, .s w]) [0, 1] (Lent.of (by decide) ?_) ?_
          · simp [lent_cons, lent_nil, pushs_cons, pushs_nil, push_mk, shb, shv, shvs, bnds, bnd, rnvs, rnv, gAt, vW, bw_map, mapAt_map, mapClo_it, mapClo_nil, mapClo_cons, vP, vZ, Tr.get_set, setC, bnds_clo rN_clos, rnvs_clo rN_clos, bnd_clo, clo, rnv_clo]
          simp only [backH, List.cons_append, List.nil_append, List.length_cons, List.length_nil, Nat.zero_add, Nat.reduceAdd, List.take_succ_cons, List.take_zero, List.drop_succ_cons, List.drop_zero, List.map_cons, List.map_nil, rnb, rnvs, rnv, gAt, Nat.reduceLT, ↓reduceIte, List.getD_cons_zero, List.getD_cons_succ, Nat.reduceSub, puts_cons, puts_nil, pushs_cons, pushs_nil, hput_mk, push_mk, setC, rnvs_clo rN_clos, rnv_clo, clo]
          simp only [↓vA, ↓vE, ↓vO, ↓vB, ↓vF, ↓vM, ↓vR, ↓vX, cvF_pc, vP, shb, shv, shvs, she_nil, she_cons, vC, vQ, Nat.reduceEqDiff, ↓reduceIte, eq_self, Nat.reduceAdd, Nat.reduceMul, Nat.reduceSub, Nat.reduceLeDiff, Nat.reduceLT, defd, cellsOf, wr, packR, Int.reduceLE, Int.reduceLT, Int.reduceEq, Int.cast_ofNat_Int, Int.reduceToNat, hwj]
          unfold archStep at ih2
          rw [if_neg he] at ih2
          refine ih2 (by omega) (by omega) _ _ (Wk.mkn _ _ [0, 1, 2] ?_ ?_ ?_ rfl (by simp [setB]) ?_)
          · simp [vW, bw_map, mapAt_map, mapClo_it, mapClo_nil, mapClo_cons, vP, vZ, Tr.get_set, setB]
          · simp [vW, bw_map, mapAt_map, mapClo_it, mapClo_nil, mapClo_cons, vP, vZ, Tr.get_set, nvs_self, rN_clos, setB, setC, hr2]; try decide
          · simp [vW, bw_map, mapAt_map, mapClo_it, mapClo_nil, mapClo_cons, vP, vZ, Tr.get_set]
          · intro b hb
            have : b = 0 ∨ b = 1 := by omega
            rcases this with rfl | rfl <;> rfl
      · have hr2n : ¬ r.2 = [] := fun hh => hnew (by rw [hh]; rfl)
        have hnl : (ns ++ r.2.map (noteOf a)).length ≤ 2001 := by simp; omega
        simp only [setB, if_neg hnew, setC, argsT, H0, mkT, mkH, trL, List.length_cons, List.length_nil, Nat.reduceAdd, Nat.zero_add]
        generalize hN : ns ++ r.2.map (noteOf a) = N at hnl ih2 ⊢
        simp only [↓vA, ↓vE, ↓vO, ↓vB, ↓vF, ↓vM, ↓vR, ↓vX, cvF_pc, vP, shb, shv, shvs, she_nil, she_cons, vC, vQ, Nat.reduceEqDiff, ↓reduceIte, eq_self, Nat.reduceAdd, Nat.reduceMul, Nat.reduceSub, Nat.reduceLeDiff, Nat.reduceLT, defd, cellsOf, wr, packR, Int.reduceLE, Int.reduceLT, Int.reduceEq, Int.cast_ofNat_Int, Int.reduceToNat, hlt, hx, List.getElem?_map, Option.map_some, Nat.mul_one]
        refine (h2 w).sc ?_
        by_cases he : (archM w).2 = 0
        · simp only [↓vA, ↓vE, ↓vO, ↓vB, ↓vF, ↓vM, ↓vR, ↓vX, cvF_pc, vP, shb, shv, shvs, she_nil, she_cons, vC, vQ, Nat.reduceEqDiff, ↓reduceIte, eq_self, Nat.reduceAdd, Nat.reduceMul, Nat.reduceSub, Nat.reduceLeDiff, Nat.reduceLT, defd, cellsOf, wr, packR, Int.reduceLE, Int.reduceLT, Int.reduceEq, Int.cast_ofNat_Int, Int.reduceToNat, he]
          refine (h4 r.1 (archM w).1 true sL sL8).sc ?_
          simp only [↓vA, ↓vE, ↓vO, ↓vB, ↓vF, ↓vM, ↓vR, ↓vX, cvF_pc, vP, shb, shv, shvs, she_nil, she_cons, vC, vQ, Nat.reduceEqDiff, ↓reduceIte, eq_self, Nat.reduceAdd, Nat.reduceMul, Nat.reduceSub, Nat.reduceLeDiff, Nat.reduceLT, defd, cellsOf, wr, packR, Int.reduceLE, Int.reduceLT, Int.reduceEq, Int.cast_ofNat_Int, Int.reduceToNat, hwj]
          unfold archStep at ih2
          rw [if_pos he] at ih2
          refine ih2 (by omega) (by omega) _ _ (Wk.mkn _ _ [0, 1, 2] ?_ ?_ ?_ rfl (by simp [setB, hnew]) ?_)
          · simp [vW, bw_map, mapAt_map, mapClo_it, mapClo_nil, mapClo_cons, vP, vZ, Tr.get_set, setB, hr2n]
          · simp [vW, bw_map, mapAt_map, mapClo_it, mapClo_nil, mapClo_cons, vP, vZ, Tr.get_set, nvs_self, rN_clos, setB, setC, hr2n, hN]; try decide
          · simp [vW, bw_map, mapAt_map, mapClo_it, mapClo_nil, mapClo_cons, vP, vZ, Tr.get_set, setB, hr2n]
          · intro b hb
            have : b = 0 ∨ b = 1 := by omega
            rcases this with rfl | rfl <;> rfl
        · simp only [↓vA, ↓vE, ↓vO, ↓vB, ↓vF, ↓vM, ↓vR, ↓vX, cvF_pc, vP, shb, shv, shvs, she_nil, she_cons, vC, vQ, Nat.reduceEqDiff, ↓reduceIte, eq_self, Nat.reduceAdd, Nat.reduceMul, Nat.reduceSub, Nat.reduceLeDiff, Nat.reduceLT, defd, cellsOf, wr, packR, Int.reduceLE, Int.reduceLT, Int.reduceEq, Int.cast_ofNat_Int, Int.reduceToNat, he]
          refine (h3 { p with arches := r.1 } a N (archM w).2 w (by simp only [roomB]; omega)).sc (vs := [.ptr 0 0, .i .i64 (archM w).2, .s w]) [0, 2] (Lent.of (by decide) ?_) ?_
          · simp [lent_cons, lent_nil, pushs_cons, pushs_nil, push_mk, shb, shv, shvs, bnds, bnd, rnvs, rnv, gAt, vW, bw_map, mapAt_map, mapClo_it, mapClo_nil, mapClo_cons, vP, vZ, Tr.get_set, setC, bnds_clo rN_clos, rnvs_clo rN_clos, bnd_clo, clo, rnv_clo]
          simp only [backH, List.cons_append, List.nil_append, List.length_cons, List.length_nil, Nat.zero_add, Nat.reduceAdd, List.take_succ_cons, List.take_zero, List.drop_succ_cons, List.drop_zero, List.map_cons, List.map_nil, rnb, rnvs, rnv, gAt, Nat.reduceLT, ↓reduceIte, List.getD_cons_zero, List.getD_cons_succ, Nat.reduceSub, puts_cons, puts_nil, pushs_cons, pushs_nil, hput_mk, push_mk, setC, rnvs_clo rN_clos, rnv_clo, clo]
          simp only [↓vA, ↓vE, ↓vO, ↓vB, ↓vF, ↓vM, ↓vR, ↓vX, cvF_pc, vP, shb, shv, shvs, she_nil, she_cons, vC, vQ, Nat.reduceEqDiff, ↓reduceIte, eq_self, Nat.reduceAdd, Nat.reduceMul, Nat.reduceSub, Nat.reduceLeDiff, Nat.reduceLT, defd, cellsOf, wr, packR, Int.reduceLE, Int.reduceLT, Int.reduceEq, Int.cast_ofNat_Int, Int.reduceToNat, hwj]
          unfold archStep at ih2
          rw [if_neg he] at ih2
          refine ih2 (by omega) (by omega) _ _ (Wk.mkn _ _ [0, 1, 3] ?_ ?_ ?_ rfl (by simp [setB]) ?_)
          · simp [vW, bw_map, mapAt_map, mapClo_it, mapClo_nil, mapClo_cons, vP, vZ, Tr.get_set, setB]
          · simp [vW, bw_map, mapAt_map, mapClo_it, mapClo_nil, mapClo_cons, vP, vZ, Tr.get_set, nvs_self, rN_clos, setB, setC, ← hN]; try decide
          · simp [vW, bw_map, mapAt_map, mapClo_it, mapClo_nil, mapClo_cons, vP, vZ, Tr.get_set, setB]
          · intro b hb
            have : b = 0 ∨ b = 1 := by omega
            rcases this with rfl | rfl <;> rfl
    · have hjl : (words v).take j = words v := List.take_of_length_le (by omega)
      rw [hjl] at hr
      rw [hend, hr]
      by_cases hnew : r.2.map (noteOf a) = []
      · simp only [setB, if_pos hnew, setC, argsT, H0, mkT, mkH, trL, List.length_cons, List.length_nil, Nat.reduceAdd, Nat.zero_add]
        simp only [↓vA, ↓vE, ↓vO, ↓vB, ↓vF, ↓vM, ↓vR, ↓vX, cvF_pc, vP, shb, shv, shvs, she_nil, she_cons, vC, vQ, Nat.reduceEqDiff, ↓reduceIte, eq_self, Nat.reduceAdd, Nat.reduceMul, Nat.reduceSub, Nat.reduceLeDiff, Nat.reduceLT, defd, cellsOf, wr, packR, Int.reduceLE, Int.reduceLT, Int.reduceEq, Int.cast_ofNat_Int, Int.reduceToNat, hlt]
        refine fun _ => ⟨[0, 1], ?_⟩
        simp [vW, bw_map, mapAt_map, mapClo_it, mapClo_nil, mapClo_cons, vP, vZ, Tr.get_set, nvs_self, rN_clos]; try decide
      · simp only [setB, if_neg hnew, setC, argsT, H0, mkT, mkH, trL, List.length_cons, List.length_nil, Nat.reduceAdd, Nat.zero_add]
        simp only [↓vA, ↓vE, ↓vO, ↓vB, ↓vF, ↓vM, ↓vR, ↓vX, cvF_pc, vP, shb, shv, shvs, she_nil, she_cons, vC, vQ, Nat.reduceEqDiff, ↓reduceIte, eq_self, Nat.reduceAdd, Nat.reduceMul, Nat.reduceSub, Nat.reduceLeDiff, Nat.reduceLT, defd, cellsOf, wr, packR, Int.reduceLE, Int.reduceLT, Int.reduceEq, Int.cast_ofNat_Int, Int.reduceToNat, hlt]
        refine fun _ => ⟨[0, 1, 2], ?_⟩
        simp [vW, bw_map, mapAt_map, mapClo_it, mapClo_nil, mapClo_cons, vP, vZ, Tr.get_set, nvs_self, rN_clos]; try decide
end Go.Kc
end
section
/- What the setter makes of families. Condition: the functions' texts are these. -/
namespace Go.Kc
variable {P : Program} {f : Nat}
/-- a name's number in a table, and what is wrong -/
def findP (s : List UInt8) (no : Int) : List (List UInt8 × Int) → Int × Int
  | [] => (0, no)
  | p :: l => if p.1 = s then (p.2, 0) else findP s no l
theorem findN_P (q : IntKind) (s : List UInt8) (no : Int) : ∀ l, findN q s no l = .tup [.i q (findP s no l).1, .i .i64 (findP s no l).2]
  | [] => rfl
  | p :: l => by
    simp only [findN, findP]
    split
    · rfl
    · exact findN_P q s no l
/-- a value without its turn, and whether it is turned -/
def turnP (v : List UInt8) : List UInt8 × Bool := if [126].isPrefixOf v = true then (v.drop 1, true) else (v, false)
theorem cut_turn (v : List UInt8) : cutPrefix v [126] = .tup [.s (turnP v).1, .b (turnP v).2] := by
  unfold cutPrefix turnP; split <;> rfl
theorem turnP_len (v : List UInt8) : (turnP v).1.length ≤ v.length := by
  unfold turnP; split <;> simp
def famM (s : List UInt8) : Int × Int := findP s 180 tab_families
def cFamily (P : Program) (f : Nat) : Prop := ∀ s, Pure P f [.s s] (findN .u32 s 180 tab_families)
def cTurned (P : Program) (f : Nat) : Prop := ∀ s, Pure P f [.s s] (cutPrefix s [126])
def famStep (is : Bool) (s : List Int × List (Int × List UInt8)) (w : List UInt8) : List Int × List (Int × List UInt8) :=
  if (famM w).2 = 0 then (withL s.1 (famM w).1 is, s.2) else (s.1, s.2 ++ [((famM w).2, w)])
def noneW : List UInt8 := [110, 111, 110, 101]
def modeF (m : Int) (t : Bool) : Int := if m = 0 then (if t = true then 2 else 1) else m
def m_families (p : Pol) (v : List UInt8) : Pol × List (Int × List UInt8) :=
  if words v = [] then ({ p with fams := [], fmode := 0 }, [])
  else if words v = [noneW] then ({ p with fams := [], fmode := 1 }, [])
  else
    let r := (words (turnP v).1).foldl (famStep ((turnP v).2 == decide (modeF p.fmode (turnP v).2 = 2))) (p.fams, [])
    ({ p with fams := r.1, fmode := modeF p.fmode (turnP v).2 }, r.2)
theorem famStep_len (is : Bool) (ws : List (List UInt8)) : ∀ s, (ws.foldl (famStep is) s).1.length ≤ s.1.length + ws.length ∧ (ws.foldl (famStep is) s).2.length ≤ s.2.length + ws.length := by
  induction ws with
  | nil => intro s; simp
  | cons w ws ih =>
    intro s
    have h := ih (famStep is s w)
    have h2 : (famStep is s w).1.length ≤ s.1.length + 1 ∧ (famStep is s w).2.length ≤ s.2.length + 1 := by
      unfold famStep
      split
      · exact ⟨withL_len s.1 (famM w).1 is, by simp⟩
      · simp
    simp only [List.foldl_cons, List.length_cons]
    omega
def ir_restrict_setter_families_c3 (f_values_Turned f_values_Words f_names_Family f_restrict_setter_note f_restrict_with_uint32 : Nat) : ICode := .seq (.reg false [⟨(some 63), .op (.mov (.t 4)), none⟩,
    ⟨(some 64), .callF f_values_Words [(.t 63)], none⟩,
    ⟨(some 65), .op (.len false (.t 64)), none⟩,
    ⟨(some 66), .op (.mov (.c (.i .i64 0))), none⟩])
  (.blk 1 (.loop (.seq (.reg false [⟨(some 67), .op (.bin .lss (.t 66) (.t 65)), none⟩])
  (.seq (.cond (.t 67) (.skip) (.exit 1))
  (.seq (.blk 2 (.seq (.reg false [⟨(some 68), .op (.iAddrS 1 (.t 64) (.t 66)), none⟩,
    ⟨(some 69), .op (.load1 (.t 68)), none⟩,
    ⟨(some 8), .op (.mov (.t 69)), none⟩])
  (.seq (.reg false [⟨(some 71), .op (.mov (.t 8)), none⟩,
    ⟨(some 72), .callF f_names_Family [(.t 71)], none⟩,
    ⟨(some 70), .op (.mov (.t 72)), none⟩,
    ⟨(some 73), .op (.ext (.t 70) 0), none⟩,
    ⟨(some 74), .op (.ext (.t 70) 1), none⟩,
    ⟨(some 9), .op (.mov (.t 73)), none⟩,
    ⟨(some 10), .op (.mov (.t 74)), none⟩])
  (.seq (.reg false [⟨(some 75), .op (.mov (.t 10)), none⟩,
    ⟨(some 76), .op (.bin .neq (.t 75) (.c (.i .i64 0))), none⟩])
  (.cond (.t 76) (.reg false [⟨(some 77), .op (.mov (.t 0)), none⟩,
    ⟨(some 78), .op (.mov (.t 10)), none⟩,
    ⟨(some 79), .op (.mov (.t 8)), none⟩,
    ⟨(some 80), .callF f_restrict_setter_note [(.t 77), (.t 78), (.t 79)], none⟩]) (.reg true [⟨(some 81), .op (.mov (.t 0)), none⟩,
    ⟨(some 82), .op (.mov (.t 0)), none⟩,
    ⟨(some 83), .op (.nilChk (.t 82)), none⟩,
    ⟨(some 84), .op (.fAddr 0 (.t 83)), none⟩,
    ⟨(some 85), .op (.fAddr 6 (.t 84)), none⟩,
    ⟨(some 86), .op (.load1 (.t 85)), none⟩,
    ⟨(some 87), .op (.mov (.t 9)), none⟩,
    ⟨(some 88), .op (.mov (.t 5)), none⟩,
    ⟨(some 89), .op (.mov (.t 0)), none⟩,
    ⟨(some 90), .op (.nilChk (.t 89)), none⟩,
    ⟨(some 91), .op (.fAddr 0 (.t 90)), none⟩,
    ⟨(some 92), .op (.fAddr 7 (.t 91)), none⟩,
    ⟨(some 93), .op (.load1 (.t 92)), none⟩,
    ⟨(some 94), .op (.bin .eql (.t 93) (.c (.i .u8 2))), none⟩,
    ⟨(some 95), .op (.eqB false (.t 88) (.t 94)), none⟩,
    ⟨(some 96), .callF f_restrict_with_uint32 [(.t 86), (.t 87), (.t 95)], none⟩,
    ⟨(some 97), .op (.nilChk (.t 81)), none⟩,
    ⟨(some 98), .op (.fAddr 0 (.t 97)), none⟩,
    ⟨(some 99), .op (.fAddr 6 (.t 98)), none⟩,
    ⟨none, .op (.store 1 (.t 99) (.t 96)), none⟩]))))))
  (.reg false [⟨(some 100), .op (.bin .add (.t 66) (.c (.i .i64 1))), none⟩,
    ⟨(some 66), .op (.mov (.t 100)), none⟩]))))))
def ir_restrict_setter_families (f_values_Turned f_values_Words f_names_Family f_restrict_setter_note f_restrict_with_uint32 : Nat) : IFn := ⟨[],
  .seq (.reg false [⟨(some 12), .op (.mov (.t 1)), none⟩,
    ⟨(some 13), .callF f_values_Turned [(.t 12)], none⟩,
    ⟨(some 11), .op (.mov (.t 13)), none⟩,
    ⟨(some 14), .op (.ext (.t 11) 0), none⟩,
    ⟨(some 15), .op (.ext (.t 11) 1), none⟩,
    ⟨(some 4), .op (.mov (.t 14)), none⟩,
    ⟨(some 5), .op (.mov (.t 15)), none⟩])
  (.seq (.seq (.reg false [⟨(some 16), .op (.mov (.t 1)), none⟩,
    ⟨(some 17), .callF f_values_Words [(.t 16)], none⟩,
    ⟨(some 6), .op (.mov (.t 17)), none⟩])
  (.blk 0 (.seq (.reg false [⟨(some 19), .op (.mov (.t 6)), none⟩,
    ⟨(some 20), .op (.len false (.t 19)), none⟩,
    ⟨(some 21), .op (.bin .eql (.t 20) (.c (.i .i64 0))), none⟩,
    ⟨(some 18), .op (.mov (.t 21)), none⟩])
  (.cond (.t 18) (.seq (.reg false [⟨(some 22), .op (.mov (.t 0)), none⟩,
    ⟨(some 23), .op (.mov (.t 0)), none⟩,
    ⟨(some 24), .op (.nilChk (.t 22)), none⟩,
    ⟨(some 25), .op (.fAddr 0 (.t 24)), none⟩,
    ⟨(some 26), .op (.fAddr 6 (.t 25)), none⟩,
    ⟨none, .op (.store 1 (.t 26) (.c (.nils))), none⟩,
    ⟨(some 27), .op (.nilChk (.t 23)), none⟩,
    ⟨(some 28), .op (.fAddr 0 (.t 27)), none⟩,
    ⟨(some 29), .op (.fAddr 7 (.t 28)), none⟩,
    ⟨none, .op (.store 1 (.t 29) (.c (.i .u8 0))), none⟩])
  (.ret)) (.seq (.reg false [⟨(some 31), .op (.mov (.t 6)), none⟩,
    ⟨(some 32), .op (.len false (.t 31)), none⟩,
    ⟨(some 33), .op (.bin .eql (.t 32) (.c (.i .i64 1))), none⟩,
    ⟨(some 34), .op (.mov (.t 33)), none⟩,
    ⟨(some 35), .op (.mov (.t 6)), (some (34, true))⟩,
    ⟨(some 36), .op (.iAddrS 1 (.t 35) (.c (.i .i64 0))), (some (34, true))⟩,
    ⟨(some 37), .op (.load1 (.t 36)), (some (34, true))⟩,
    ⟨(some 38), .op (.bin .eql (.t 37) (.c (.s [110, 111, 110, 101]))), (some (34, true))⟩,
    ⟨(some 39), .op (.pick (.t 34) (.t 38) (.c (.b false))), none⟩,
    ⟨(some 30), .op (.mov (.t 39)), none⟩])
  (.cond (.t 30) (.seq (.reg false [⟨(some 40), .op (.mov (.t 0)), none⟩,
    ⟨(some 41), .op (.mov (.t 0)), none⟩,
    ⟨(some 42), .op (.nilChk (.t 40)), none⟩,
    ⟨(some 43), .op (.fAddr 0 (.t 42)), none⟩,
    ⟨(some 44), .op (.fAddr 6 (.t 43)), none⟩,
    ⟨none, .op (.store 1 (.t 44) (.c (.nils))), none⟩,
    ⟨(some 45), .op (.nilChk (.t 41)), none⟩,
    ⟨(some 46), .op (.fAddr 0 (.t 45)), none⟩,
    ⟨(some 47), .op (.fAddr 7 (.t 46)), none⟩,
    ⟨none, .op (.store 1 (.t 47) (.c (.i .u8 1))), none⟩])
  (.ret)) (.skip)))))))
  (.seq (.seq (.reg false [⟨(some 48), .op (.mov (.t 0)), none⟩,
    ⟨(some 49), .op (.nilChk (.t 48)), none⟩,
    ⟨(some 50), .op (.fAddr 0 (.t 49)), none⟩,
    ⟨(some 51), .op (.fAddr 7 (.t 50)), none⟩,
    ⟨(some 52), .op (.load1 (.t 51)), none⟩,
    ⟨(some 53), .op (.bin .eql (.t 52) (.c (.i .u8 0))), none⟩])
  (.cond (.t 53) (.seq (.reg false [⟨(some 54), .op (.mov (.t 0)), none⟩,
    ⟨(some 55), .op (.nilChk (.t 54)), none⟩,
    ⟨(some 56), .op (.fAddr 0 (.t 55)), none⟩,
    ⟨(some 57), .op (.fAddr 7 (.t 56)), none⟩,
    ⟨none, .op (.store 1 (.t 57) (.c (.i .u8 1))), none⟩])
  (.seq (.reg false [⟨(some 58), .op (.mov (.t 5)), none⟩])
  (.cond (.t 58) (.reg false [⟨(some 59), .op (.mov (.t 0)), none⟩,
    ⟨(some 60), .op (.nilChk (.t 59)), none⟩,
    ⟨(some 61), .op (.fAddr 0 (.t 60)), none⟩,
    ⟨(some 62), .op (.fAddr 7 (.t 61)), none⟩,
    ⟨none, .op (.store 1 (.t 62) (.c (.i .u8 2))), none⟩]) (.skip)))) (.skip)))
  (.cut (ir_restrict_setter_families_c3 f_values_Turned f_values_Words f_names_Family f_restrict_setter_note f_restrict_with_uint32))))⟩
theorem fam_tail {g1 g2 g3 g4 g5 : Nat} (h1 : cWords P g2) (h2 : cFamily P g3) (h3 : cNoteU P g4) (h4 : cWith32 P g5) (p : Pol) (a : Asg) (ns : List GNote) (v : List UInt8) (t : Bool) (hv : v.length ≤ 1000) (hn : ns.length ≤ 1000) (ha : p.fams.length ≤ 1000)
    (r : List Int × List (Int × List UInt8)) (hr : r = (words v).foldl (famStep (t == decide (p.fmode = 2))) (p.fams, [])) :
    S P 2 (ir_restrict_setter_families_c3 g1 g2 g3 g4 g5) (endX [] (UpdZ 2 (.tup []) (setB { p with fams := r.1 } a ns (r.2.map (noteOf a))))) (mkT [(0, .ptr 0 0), (4, .s v), (5, .b t)]) (mkH 0 [.cells 0 true false (setC p a 1 ns.length), .cells 4 true true (rN ns)]) := by
  have hwl := words_len v
  refine V_sound ?_
  simp only [ir_restrict_setter_families_c3, setC, argsT, H0, mkT, mkH, trL, List.length_cons, List.length_nil, Nat.reduceAdd, Nat.zero_add]
  simp only [↓vA, ↓vE, ↓vO, ↓vB, ↓vF, ↓vM, ↓vR, ↓vX, cvF_pc, vP, shb, shv, shvs, she_nil, she_cons, vC, vQ, Nat.reduceEqDiff, ↓reduceIte, eq_self, Nat.reduceAdd, Nat.reduceMul, Nat.reduceSub, Nat.reduceLeDiff, Nat.reduceLT, defd, cellsOf, wr, packR, Int.reduceLE, Int.reduceLT, Int.reduceEq, Int.cast_ofNat_Int, Int.reduceToNat]
  refine (h1 v (by omega)).sc ?_
  simp only [↓vA, ↓vE, ↓vO, ↓vB, ↓vF, ↓vM, ↓vR, ↓vX, cvF_pc, vP, shb, shv, shvs, she_nil, she_cons, vC, vQ, Nat.reduceEqDiff, ↓reduceIte, eq_self, Nat.reduceAdd, Nat.reduceMul, Nat.reduceSub, Nat.reduceLeDiff, Nat.reduceLT, defd, cellsOf, wr, packR, Int.reduceLE, Int.reduceLT, Int.reduceEq, Int.cast_ofNat_Int, Int.reduceToNat]
  generalize hfs : famStep (t == decide (p.fmode = 2)) = fs at hr
  refine SL.loopn (α := Nat) (fun j => [(0, .ptr 0 0), (5, .b t), (64, .fz (words v).length ((words v).map .s)), (65, .i .i64 (words v).length), (66, .i .i64 j)])
    (fun j => setB { p with fams := (((words v).take j).foldl fs (p.fams, [])).1 } a ns ((((words v).take j).foldl fs (p.fams, [])).2.map (noteOf a))) (fun j => j ≤ (words v).length) (fun j => (words v).length - j) 0 [0, 1] ?_ ?_ ?_ rfl ?_ ?_ ?_ ?_
  · simp [vW, bw_map, mapAt_map, mapClo_it, mapClo_nil, mapClo_cons, vP, vZ, Tr.get_set, setB]
  · simp [vW, bw_map, mapAt_map, mapClo_it, mapClo_nil, mapClo_cons, vP, vZ, Tr.get_set, nvs_self, rN_clos, setB, setC]; try decide
  · simp [vW, bw_map, mapAt_map, mapClo_it, mapClo_nil, mapClo_cons, vP, vZ, Tr.get_set]
  · simp [setB]
  · intro b hb
    have : b = 0 ∨ b = 1 := by omega
    rcases this with rfl | rfl <;> rfl
  · exact Nat.zero_le _
  rintro j hj G ih
  have hlen := famStep_len (t == decide (p.fmode = 2)) ((words v).take j) (p.fams, [])
  rw [hfs] at hlen
  simp only [List.length_take, List.length_nil, Nat.zero_add] at hlen
  generalize hrr : ((words v).take j).foldl fs (p.fams, []) = r1 at hlen ih ⊢
  by_cases hlt : j < (words v).length
  · have hx : (words v)[j]? = some (words v)[j] := List.getElem?_eq_getElem hlt
    have hwj : IntKind.wrap .i64 ((j : Int) + 1) = (j : Int) + 1 := wrap64 (by omega) (by omega)
    have hnext : ((words v).take (j + 1)).foldl fs (p.fams, []) = fs r1 (words v)[j] := by
      rw [List.take_add_one, hx, List.foldl_append, hrr]; rfl
    generalize hww : (words v)[j] = w at hx hnext
    have ih2 := ih (j + 1)
    rw [hnext, ← hfs] at ih2
    have sL : r1.1.length + 1 ≤ roomB := by simp only [roomB]; omega
    have sL8 : (r1.1.length + 1) * 8 ≤ roomB := by simp only [roomB]; omega
    have hfam := findN_P .u32 w 180 tab_families
    by_cases hnew : r1.2.map (noteOf a) = []
    · have hr2 : r1.2 = [] := List.map_eq_nil_iff.1 hnew
      simp only [setB, if_pos hnew, setC, argsT, H0, mkT, mkH, trL, List.length_cons, List.length_nil, Nat.reduceAdd, Nat.zero_add]
      simp only [↓vA, ↓vE, ↓vO, ↓vB, ↓vF, ↓vM, ↓vR, ↓vX, cvF_pc, vP, shb, shv, shvs, she_nil, she_cons, vC, vQ, Nat.reduceEqDiff, ↓reduceIte, eq_self, Nat.reduceAdd, Nat.reduceMul, Nat.reduceSub, Nat.reduceLeDiff, Nat.reduceLT, defd, cellsOf, wr, packR, Int.reduceLE, Int.reduceLT, Int.reduceEq, Int.cast_ofNat_Int, Int.reduceToNat, hlt, hx, List.getElem?_map, Option.map_some, Nat.mul_one]
      refine (h2 w).sc ?_
      rw [hfam]
      by_cases he : (famM w).2 = 0
      · have he' : (findP w 180 tab_families).2 = 0 := he
        simp only [↓vA, ↓vE, ↓vO, ↓vB, ↓vF, ↓vM, ↓vR, ↓vX, cvF_pc, vP, shb, shv, shvs, she_nil, she_cons, vC, vQ, Nat.reduceEqDiff, ↓reduceIte, eq_self, Nat.reduceAdd, Nat.reduceMul, Nat.reduceSub, Nat.reduceLeDiff, Nat.reduceLT, defd, cellsOf, wr, packR, Int.reduceLE, Int.reduceLT, Int.reduceEq, Int.cast_ofNat_Int, Int.reduceToNat, he']
        refine VD_pc ?_
        simp only [↓vA, ↓vE, ↓vO, ↓vB, ↓vF, ↓vM, ↓vR, ↓vX, cvF_pc, vP, shb, shv, shvs, she_nil, she_cons, vC, vQ, Nat.reduceEqDiff, ↓reduceIte, eq_self, Nat.reduceAdd, Nat.reduceMul, Nat.reduceSub, Nat.reduceLeDiff, Nat.reduceLT, defd, cellsOf, wr, packR, Int.reduceLE, Int.reduceLT, Int.reduceEq, Int.cast_ofNat_Int, Int.reduceToNat]
        refine (h4 r1.1 (famM w).1 (t == decide (p.fmode = 2)) sL sL8).pc ?_
        simp only [↓vA, ↓vE, ↓vO, ↓vB, ↓vF, ↓vM, ↓vR, ↓vX, cvF_pc, vP, shb, shv, shvs, she_nil, she_cons, vC, vQ, Nat.reduceEqDiff, ↓reduceIte, eq_self, Nat.reduceAdd, Nat.reduceMul, Nat.reduceSub, Nat.reduceLeDiff, Nat.reduceLT, defd, cellsOf, wr, packR, Int.reduceLE, Int.reduceLT, Int.reduceEq, Int.cast_ofNat_Int, Int.reduceToNat, hwj]
        unfold famStep at ih2
        rw [if_pos he] at ih2
        refine ih2 (by omega) (by omega) _ _ (Wk.mkn _ _ [0, 1] ?_ ?_ ?_ rfl (by simp [setB, hnew]) ?_)
        · simp [vW, bw_map, mapAt_map, mapClo_it, mapClo_nil, mapClo_cons, vP, vZ, Tr.get_set, setB, hr2]
        · simp [vW, bw_map, mapAt_map, mapClo_it, mapClo_nil, mapClo_cons, vP, vZ, Tr.get_set, nvs_self, rN_clos, setB, setC, hr2]; try decide
        · simp [vW, bw_map, mapAt_map, mapClo_it, mapClo_nil, mapClo_cons, vP, vZ, Tr.get_set]
        · intro b hb
          have : b = 0 ∨ b = 1 := by omega
          rcases this with rfl | rfl <;> rfl
      · have he' : ¬ (findP w 180 tab_families).2 = 0 := he
        simp only [↓vA, ↓vE, ↓vO, ↓vB, ↓vF, ↓vM, ↓vR, ↓vX, cvF_pc, vP, shb, shv, shvs, she_nil, she_cons, vC, vQ, Nat.reduceEqDiff, ↓reduceIte, eq_self, Nat.reduceAdd, Nat.reduceMul, Nat.reduceSub, Nat.reduceLeDiff, Nat.reduceLT, defd, cellsOf, wr, packR, Int.reduceLE, Int.reduceLT, Int.reduceEq, Int.cast_ofNat_Int, Int.reduceToNat, he']
        refine (h3 { p with fams := r1.1 } a ns (famM w).2 w (by simp only [roomB]; omega)).sc (vs := [.ptr 0 0, .i .i64 (famM w).2, .s w]) [0, 1] (Lent.of (by decide) ?_) ?_
        · simp [lent_cons, lent_nil, pushs_cons, pushs_nil, push_mk, shb, shv, shvs, bnds, bnd, rnvs, rnv, gAt, vW, bw_map, mapAt_map, mapClo_it, mapClo_nil, mapClo_cons, vP, vZ, Tr.get_set, setC, bnds_clo rN_clos, rnvs_clo rN_clos, bnd_clo, clo, rnv_clo]
        simp only [backH, List.cons_append, List.nil_append, List.length_cons, List.length_nil, Nat.zero_add, Nat.reduceAdd, List.take_succ_cons, List.take_zero, List.drop_succ_cons, List.drop_zero, List.map_cons, List.map_nil, rnb, rnvs, rnv, gAt, Nat.reduceLT, ↓reduceIte, List.getD_cons_zero, List.getD_cons_succ, Nat.reduceSub, puts_cons, puts_nil, pushs_cons, pushs_nil, hput_mk, push_mk, setC, rnvs_clo rN_clos, rnv_clo, clo]
        simp only [↓vA, ↓vE, ↓vO, ↓vB, ↓vF, ↓vM, ↓vR, ↓vX, cvF_pc, vP, shb, shv, shvs, she_nil, she_cons, vC, vQ, Nat.reduceEqDiff, ↓reduceIte, eq_self, Nat.reduceAdd, Nat.reduceMul, Nat.reduceSub, Nat.reduceLeDiff, Nat.reduceLT, defd, cellsOf, wr, packR, Int.reduceLE, Int.reduceLT, Int.reduceEq, Int.cast_ofNat_Int, Int.reduceToNat, hwj]
        unfold famStep at ih2
        rw [if_neg he] at ih2
        refine ih2 (by omega) (by omega) _ _ (Wk.mkn _ _ [0, 1, 2] ?_ ?_ ?_ rfl (by simp [setB]) ?_)
        · simp [vW, bw_map, mapAt_map, mapClo_it, mapClo_nil, mapClo_cons, vP, vZ, Tr.get_set, setB]
        · simp [vW, bw_map, mapAt_map, mapClo_it, mapClo_nil, mapClo_cons, vP, vZ, Tr.get_set, nvs_self, rN_clos, setB, setC, hr2]; try decide
        · simp [vW, bw_map, mapAt_map, mapClo_it, mapClo_nil, mapClo_cons, vP, vZ, Tr.get_set]
        · intro b hb
          have : b = 0 ∨ b = 1 := by omega
          rcases this with rfl | rfl <;> rfl
    · have hr2n : ¬ r1.2 = [] := fun hh => hnew (by rw [hh]; rfl)
      have hnl : (ns ++ r1.2.map (noteOf a)).length ≤ 2001 := by simp; omega
      simp only [setB, if_neg hnew, setC, argsT, H0, mkT, mkH, trL, List.length_cons, List.length_nil, Nat.reduceAdd, Nat.zero_add]
      generalize hN : ns ++ r1.2.map (noteOf a) = N at hnl ih2 ⊢
      simp only [↓vA, ↓vE, ↓vO, ↓vB, ↓vF, ↓vM, ↓vR, ↓vX, cvF_pc, vP, shb, shv, shvs, she_nil, she_cons, vC, vQ, Nat.reduceEqDiff, ↓reduceIte, eq_self, Nat.reduceAdd, Nat.reduceMul, Nat.reduceSub, Nat.reduceLeDiff, Nat.reduceLT, defd, cellsOf, wr, packR, Int.reduceLE, Int.reduceLT, Int.reduceEq, Int.cast_ofNat_Int, Int.reduceToNat, hlt, hx, List.getElem?_map, Option.map_some, Nat.mul_one]
      refine (h2 w).sc ?_
      rw [hfam]
      by_cases he : (famM w).2 = 0
      · have he' : (findP w 180 tab_families).2 = 0 := he
        simp only [↓vA, ↓vE, ↓vO, ↓vB, ↓vF, ↓vM, ↓vR, ↓vX, cvF_pc, vP, shb, shv, shvs, she_nil, she_cons, vC, vQ, Nat.reduceEqDiff, ↓reduceIte, eq_self, Nat.reduceAdd, Nat.reduceMul, Nat.reduceSub, Nat.reduceLeDiff, Nat.reduceLT, defd, cellsOf, wr, packR, Int.reduceLE, Int.reduceLT, Int.reduceEq, Int.cast_ofNat_Int, Int.reduceToNat, he']
        refine VD_pc ?_
        simp only [↓vA, ↓vE, ↓vO, ↓vB, ↓vF, ↓vM, ↓vR, ↓vX, cvF_pc, vP, shb, shv, shvs, she_nil, she_cons, vC, vQ, Nat.reduceEqDiff, ↓reduceIte, eq_self, Nat.reduceAdd, Nat.reduceMul, Nat.reduceSub, Nat.reduceLeDiff, Nat.reduceLT, defd, cellsOf, wr, packR, Int.reduceLE, Int.reduceLT, Int.reduceEq, Int.cast_ofNat_Int, Int.reduceToNat]
        refine (h4 r1.1 (famM w).1 (t == decide (p.fmode = 2)) sL sL8).pc ?_
        simp only [↓vA, ↓vE, ↓vO, ↓vB, ↓vF, ↓vM, ↓vR, ↓vX, cvF_pc, vP, shb, shv, shvs, she_nil, she_cons, vC, vQ, Nat.reduceEqDiff, ↓reduceIte, eq_self, Nat.reduceAdd, Nat.reduceMul, Nat.reduceSub, Nat.reduceLeDiff, Nat.reduceLT, defd, cellsOf, wr, packR, Int.reduceLE, Int.reduceLT, Int.reduceEq, Int.cast_ofNat_Int, Int.reduceToNat, hwj]
        unfold famStep at ih2
        rw [if_pos he] at ih2
        refine ih2 (by omega) (by omega) _ _ (Wk.mkn _ _ [0, 1, 2] ?_ ?_ ?_ rfl (by simp [setB, hnew]) ?_)
        · simp [vW, bw_map, mapAt_map, mapClo_it, mapClo_nil, mapClo_cons, vP, vZ, Tr.get_set, setB, hr2n]
        · simp [vW, bw_map, mapAt_map, mapClo_it, mapClo_nil, mapClo_cons, vP, vZ, Tr.get_set, nvs_self, rN_clos, setB, setC, hr2n, hN]; try decide
        · simp [vW, bw_map, mapAt_map, mapClo_it, mapClo_nil, mapClo_cons, vP, vZ, Tr.get_set, setB, hr2n]
        · intro b hb
          have : b = 0 ∨ b = 1 := by omega
          rcases this with rfl | rfl <;> rfl
      · have he' : ¬ (findP w 180 tab_families).2 = 0 := he
        simp only [↓vA, ↓vE, ↓vO, ↓vB, ↓vF, ↓vM, ↓vR, ↓vX, cvF_pc, vP, shb, shv, shvs, she_nil, she_cons, vC, vQ, Nat.reduceEqDiff, ↓reduceIte, eq_self, Nat.reduceAdd, Nat.reduceMul, Nat.reduceSub, Nat.reduceLeDiff, Nat.reduceLT, defd, cellsOf, wr, packR, Int.reduceLE, Int.reduceLT, Int.reduceEq, Int.cast_ofNat_Int, Int.reduceToNat, he']
        refine (h3 { p with fams := r1.1 } a N (famM w).2 w (by simp only [roomB]; omega)).sc (vs := [.ptr 0 0, .i .i64 (famM w).2, .s w]) [0, 2] (Lent.of (by decide) ?_) ?_
        · simp [lent_cons, lent_nil, pushs_cons, pushs_nil, push_mk, shb, shv, shvs, bnds, bnd, rnvs, rnv, gAt, vW, bw_map, mapAt_map, mapClo_it, mapClo_nil, mapClo_cons, vP, vZ, Tr.get_set, setC, bnds_clo rN_clos, rnvs_clo rN_clos, bnd_clo, clo, rnv_clo]
        simp only [backH, List.cons_append, List.nil_append, List.length_cons, List.length_nil, Nat.zero_add, Nat.reduceAdd, List.take_succ_cons, List.take_zero, List.drop_succ_cons, List.drop_zero, List.map_cons, List.map_nil, rnb, rnvs, rnv, gAt, Nat.reduceLT, ↓reduceIte, List.getD_cons_zero, List.getD_cons_succ, Nat.reduceSub, puts_cons, puts_nil, pushs_cons, pushs_nil, hput_mk, push_mk, setC, rnvs_clo rN_clos, rnv_clo, clo]
        simp only [↓vA, ↓vE, ↓vO, ↓vB, ↓vF, ↓vM, ↓vR, ↓vX, cvF_pc, vP, shb, shv, shvs, she_nil, she_cons, vC, vQ, Nat.reduceEqDiff, ↓reduceIte, eq_self, Nat.reduceAdd, Nat.reduceMul, Nat.reduceSub, Nat.reduceLeDiff, Nat.reduceLT, defd, cellsOf, wr, packR, Int.reduceLE, Int.reduceLT, Int.reduceEq, Int.cast_ofNat_Int, Int.reduceToNat, hwj]
        unfold famStep at ih2
        rw [if_neg he] at ih2
        refine ih2 (by omega) (by omega) _ _ (Wk.mkn _ _ [0, 1, 3] ?_ ?_ ?_ rfl (by simp [setB]) ?_)
        · simp [vW, bw_map, mapAt_map, mapClo_it, mapClo_nil, mapClo_cons, vP, vZ, Tr.get_set, setB]
        · simp [vW, bw_map, mapAt_map, mapClo_it, mapClo_nil, mapClo_cons, vP, vZ, Tr.get_set, nvs_self, rN_clos, setB, setC, ← hN]; try decide
        · simp [vW, bw_map, mapAt_map, mapClo_it, mapClo_nil, mapClo_cons, vP, vZ, Tr.get_set, setB]
        · intro b hb
          have : b = 0 ∨ b = 1 := by omega
          rcases this with rfl | rfl <;> rfl
  · have hjl : (words v).take j = words v := List.take_of_length_le (by omega)
    rw [hjl, ← hr] at hrr
    subst hrr
    by_cases hnew : r.2.map (noteOf a) = []
    · simp only [setB, if_pos hnew, setC, argsT, H0, mkT, mkH, trL, List.length_cons, List.length_nil, Nat.reduceAdd, Nat.zero_add]
      simp only [↓vA, ↓vE, ↓vO, ↓vB, ↓vF, ↓vM, ↓vR, ↓vX, cvF_pc, vP, shb, shv, shvs, she_nil, she_cons, vC, vQ, Nat.reduceEqDiff, ↓reduceIte, eq_self, Nat.reduceAdd, Nat.reduceMul, Nat.reduceSub, Nat.reduceLeDiff, Nat.reduceLT, defd, cellsOf, wr, packR, Int.reduceLE, Int.reduceLT, Int.reduceEq, Int.cast_ofNat_Int, Int.reduceToNat, hlt]
      refine fun _ => ⟨[0, 1], ?_⟩
      simp [vW, bw_map, mapAt_map, mapClo_it, mapClo_nil, mapClo_cons, vP, vZ, Tr.get_set, nvs_self, rN_clos]; try decide
    · simp only [setB, if_neg hnew, setC, argsT, H0, mkT, mkH, trL, List.length_cons, List.length_nil, Nat.reduceAdd, Nat.zero_add]
      simp only [↓vA, ↓vE, ↓vO, ↓vB, ↓vF, ↓vM, ↓vR, ↓vX, cvF_pc, vP, shb, shv, shvs, she_nil, she_cons, vC, vQ, Nat.reduceEqDiff, ↓reduceIte, eq_self, Nat.reduceAdd, Nat.reduceMul, Nat.reduceSub, Nat.reduceLeDiff, Nat.reduceLT, defd, cellsOf, wr, packR, Int.reduceLE, Int.reduceLT, Int.reduceEq, Int.cast_ofNat_Int, Int.reduceToNat, hlt]
      refine fun _ => ⟨[0, 1, 2], ?_⟩
      simp [vW, bw_map, mapAt_map, mapClo_it, mapClo_nil, mapClo_cons, vP, vZ, Tr.get_set, nvs_self, rN_clos]; try decide
theorem meth_families {g1 g2 g3 g4 g5 : Nat} (hc : chkFn P f (ir_restrict_setter_families g1 g2 g3 g4 g5) = true) (h0 : cTurned P g1) (h1 : cWords P g2) (h2 : cFamily P g3) (h3 : cNoteU P g4) (h4 : cWith32 P g5) : cMeth P f m_families := by
  intro p a ns v hv hn _ ha
  have hwl := words_len v
  have htl := turnP_len v
  refine Upd.mk hc (by simp [bnds, bnd]) (by unfold setB; split <;> simp) ?_
  simp only [ir_restrict_setter_families, setC, argsT, H0, mkT, mkH, trL, List.length_cons, List.length_nil, Nat.reduceAdd, Nat.zero_add]
  simp only [↓vA, ↓vE, ↓vO, ↓vB, ↓vF, ↓vM, ↓vR, ↓vX, cvF_pc, vP, shb, shv, shvs, she_nil, she_cons, vC, vQ, Nat.reduceEqDiff, ↓reduceIte, eq_self, Nat.reduceAdd, Nat.reduceMul, Nat.reduceSub, Nat.reduceLeDiff, Nat.reduceLT, defd, cellsOf, wr, packR, Int.reduceLE, Int.reduceLT, Int.reduceEq, Int.cast_ofNat_Int, Int.reduceToNat]
  refine (h0 v).sc ?_
  rw [cut_turn]
  simp only [↓vA, ↓vE, ↓vO, ↓vB, ↓vF, ↓vM, ↓vR, ↓vX, cvF_pc, vP, shb, shv, shvs, she_nil, she_cons, vC, vQ, Nat.reduceEqDiff, ↓reduceIte, eq_self, Nat.reduceAdd, Nat.reduceMul, Nat.reduceSub, Nat.reduceLeDiff, Nat.reduceLT, defd, cellsOf, wr, packR, Int.reduceLE, Int.reduceLT, Int.reduceEq, Int.cast_ofNat_Int, Int.reduceToNat]
  refine (h1 v (by omega)).sc ?_
  by_cases hw : words v = []
  · simp only [↓vA, ↓vE, ↓vO, ↓vB, ↓vF, ↓vM, ↓vR, ↓vX, cvF_pc, vP, shb, shv, shvs, she_nil, she_cons, vC, vQ, Nat.reduceEqDiff, ↓reduceIte, eq_self, Nat.reduceAdd, Nat.reduceMul, Nat.reduceSub, Nat.reduceLeDiff, Nat.reduceLT, defd, cellsOf, wr, packR, Int.reduceLE, Int.reduceLT, Int.reduceEq, Int.cast_ofNat_Int, Int.reduceToNat, hw]
    intro _
    refine ⟨[0, 1], ?_⟩
    simp [vW, bw_map, mapAt_map, mapClo_it, mapClo_nil, mapClo_cons, vP, vZ, Tr.get_set, nvs_self, rN_clos, setB, setC, m_families, hw, rI]
    try decide
  · have hwn : ¬ ((words v).length : Int) = 0 := by
      intro hh; exact hw (List.eq_nil_of_length_eq_zero (by omega))
    have hend : ∀ (q : Pol), words v ≠ [noneW] → q = { p with fmode := modeF p.fmode (turnP v).2 } → S P 2 (ir_restrict_setter_families_c3 g1 g2 g3 g4 g5) (endX [] (UpdZ 2 (.tup []) (setB (m_families p v).1 a ns ((m_families p v).2.map (noteOf a))))) (mkT [(0, .ptr 0 0), (4, .s (turnP v).1), (5, .b (turnP v).2)]) (mkH 0 [.cells 0 true false (setC q a 1 ns.length), .cells 4 true true (rN ns)]) := by
      intro q hno hq
      subst hq
      have := fam_tail (g1 := g1) h1 h2 h3 h4 { p with fmode := modeF p.fmode (turnP v).2 } a ns (turnP v).1 (turnP v).2 (by omega) hn ha _ rfl
      unfold m_families
      rw [if_neg hw, if_neg hno]
      exact this
    have main : words v ≠ [noneW] → p.fmode = 0 ∨ p.fmode ≠ 0 := fun _ => Classical.em _
    by_cases hno : words v = [noneW]
    · simp only [↓vA, ↓vE, ↓vO, ↓vB, ↓vF, ↓vM, ↓vR, ↓vX, cvF_pc, vP, shb, shv, shvs, she_nil, she_cons, vC, vQ, Nat.reduceEqDiff, ↓reduceIte, eq_self, Nat.reduceAdd, Nat.reduceMul, Nat.reduceSub, Nat.reduceLeDiff, Nat.reduceLT, defd, cellsOf, wr, packR, Int.reduceLE, Int.reduceLT, Int.reduceEq, Int.cast_ofNat_Int, Int.reduceToNat, hno, noneW]
      intro _
      refine ⟨[0, 1], ?_⟩
      simp [vW, bw_map, mapAt_map, mapClo_it, mapClo_nil, mapClo_cons, vP, vZ, Tr.get_set, nvs_self, rN_clos, setB, setC, m_families, hw, hno, rI, noneW]
      try decide
    · have fin : ∀ (q : Pol) (t' : Tr AV) (h' : Hp), q = { p with fmode := modeF p.fmode (turnP v).2 } → Wk 2 t' h' (mkT [(0, .ptr 0 0), (4, .s (turnP v).1), (5, .b (turnP v).2)]) (mkH 0 [.cells 0 true false (setC q a 1 ns.length), .cells 4 true true (rN ns)]) →
          S P 2 (ir_restrict_setter_families_c3 g1 g2 g3 g4 g5) (endX [] (UpdZ 2 (.tup []) (setB (m_families p v).1 a ns ((m_families p v).2.map (noteOf a))))) t' h' := fun q t' h' hq hk => S.weak hk (hend q hno hq)
      have two : ¬ words v = [noneW] := hno
      cases hws : words v with
      | nil => exact absurd hws hw
      | cons w ws =>
        rw [hws] at hno hwl
        simp only [List.length_cons] at hwl
        have hl0 : ¬ (((w :: ws).length : Nat) : Int) = 0 := by simp; omega
        cases ws with
        | nil =>
          have hwno : ¬ w = [110, 111, 110, 101] := fun hh => hno (by rw [hh]; rfl)
          by_cases hm : p.fmode = 0
          · cases ht : (turnP v).2 with
            | true =>
              simp only [↓vA, ↓vE, ↓vO, ↓vB, ↓vF, ↓vM, ↓vR, ↓vX, cvF_pc, vP, shb, shv, shvs, she_nil, she_cons, vC, vQ, Nat.reduceEqDiff, ↓reduceIte, eq_self, Nat.reduceAdd, Nat.reduceMul, Nat.reduceSub, Nat.reduceLeDiff, Nat.reduceLT, defd, cellsOf, wr, packR, Int.reduceLE, Int.reduceLT, Int.reduceEq, Int.cast_ofNat_Int, Int.reduceToNat, hl0, hwno, hm]
              refine fin { p with fmode := 2 } _ _ (by simp [modeF, hm, ht]) (Wk.mkn _ _ [0, 1] ?_ ?_ ?_ rfl (by simp) ?_)
              · simp [vW, bw_map, mapAt_map, mapClo_it, mapClo_nil, mapClo_cons, vP, vZ, Tr.get_set, ht]
              · simp [vW, bw_map, mapAt_map, mapClo_it, mapClo_nil, mapClo_cons, vP, vZ, Tr.get_set, nvs_self, rN_clos, setC]; try decide
              · simp [vW, bw_map, mapAt_map, mapClo_it, mapClo_nil, mapClo_cons, vP, vZ, Tr.get_set]
              · intro b hb
                have : b = 0 ∨ b = 1 := by omega
                rcases this with rfl | rfl <;> rfl
            | false =>
              simp only [↓vA, ↓vE, ↓vO, ↓vB, ↓vF, ↓vM, ↓vR, ↓vX, cvF_pc, vP, shb, shv, shvs, she_nil, she_cons, vC, vQ, Nat.reduceEqDiff, ↓reduceIte, eq_self, Nat.reduceAdd, Nat.reduceMul, Nat.reduceSub, Nat.reduceLeDiff, Nat.reduceLT, defd, cellsOf, wr, packR, Int.reduceLE, Int.reduceLT, Int.reduceEq, Int.cast_ofNat_Int, Int.reduceToNat, hl0, hwno, hm]
              refine fin { p with fmode := 1 } _ _ (by simp [modeF, hm, ht]) (Wk.mkn _ _ [0, 1] ?_ ?_ ?_ rfl (by simp) ?_)
              · simp [vW, bw_map, mapAt_map, mapClo_it, mapClo_nil, mapClo_cons, vP, vZ, Tr.get_set, ht]
              · simp [vW, bw_map, mapAt_map, mapClo_it, mapClo_nil, mapClo_cons, vP, vZ, Tr.get_set, nvs_self, rN_clos, setC]; try decide
              · simp [vW, bw_map, mapAt_map, mapClo_it, mapClo_nil, mapClo_cons, vP, vZ, Tr.get_set]
              · intro b hb
                have : b = 0 ∨ b = 1 := by omega
                rcases this with rfl | rfl <;> rfl
          · simp only [↓vA, ↓vE, ↓vO, ↓vB, ↓vF, ↓vM, ↓vR, ↓vX, cvF_pc, vP, shb, shv, shvs, she_nil, she_cons, vC, vQ, Nat.reduceEqDiff, ↓reduceIte, eq_self, Nat.reduceAdd, Nat.reduceMul, Nat.reduceSub, Nat.reduceLeDiff, Nat.reduceLT, defd, cellsOf, wr, packR, Int.reduceLE, Int.reduceLT, Int.reduceEq, Int.cast_ofNat_Int, Int.reduceToNat, hl0, hwno, hm]
            refine fin p _ _ (by simp [modeF, hm]) (Wk.mkn _ _ [0, 1] ?_ ?_ ?_ rfl (by simp) ?_)
            · simp [vW, bw_map, mapAt_map, mapClo_it, mapClo_nil, mapClo_cons, vP, vZ, Tr.get_set]
            · simp [vW, bw_map, mapAt_map, mapClo_it, mapClo_nil, mapClo_cons, vP, vZ, Tr.get_set, nvs_self, rN_clos, setC]; try decide
            · simp [vW, bw_map, mapAt_map, mapClo_it, mapClo_nil, mapClo_cons, vP, vZ, Tr.get_set]
            · intro b hb
              have : b = 0 ∨ b = 1 := by omega
              rcases this with rfl | rfl <;> rfl
        | cons w2 ws =>
          have hl1 : ¬ (((w :: w2 :: ws).length : Nat) : Int) = 1 := by simp; omega
          generalize hL : (((w :: w2 :: ws).length : Nat)) = L at hl0 hl1
          generalize (List.map AV.s (w :: w2 :: ws)) = RR
          by_cases hm : p.fmode = 0
          · cases ht : (turnP v).2 with
            | true =>
              simp only [↓vA, ↓vE, ↓vO, ↓vB, ↓vF, ↓vM, ↓vR, ↓vX, cvF_pc, vP, shb, shv, shvs, she_nil, she_cons, vC, vQ, Nat.reduceEqDiff, ↓reduceIte, eq_self, Nat.reduceAdd, Nat.reduceMul, Nat.reduceSub, Nat.reduceLeDiff, Nat.reduceLT, defd, cellsOf, wr, packR, Int.reduceLE, Int.reduceLT, Int.reduceEq, Int.cast_ofNat_Int, Int.reduceToNat, hl0, hl1, hm]
              refine fin { p with fmode := 2 } _ _ (by simp [modeF, hm, ht]) (Wk.mkn _ _ [0, 1] ?_ ?_ ?_ rfl (by simp) ?_)
              · simp [vW, bw_map, mapAt_map, mapClo_it, mapClo_nil, mapClo_cons, vP, vZ, Tr.get_set, ht]
              · simp [vW, bw_map, mapAt_map, mapClo_it, mapClo_nil, mapClo_cons, vP, vZ, Tr.get_set, nvs_self, rN_clos, setC]; try decide
              · simp [vW, bw_map, mapAt_map, mapClo_it, mapClo_nil, mapClo_cons, vP, vZ, Tr.get_set]
              · intro b hb
                have : b = 0 ∨ b = 1 := by omega
                rcases this with rfl | rfl <;> rfl
            | false =>
              simp only [↓vA, ↓vE, ↓vO, ↓vB, ↓vF, ↓vM, ↓vR, ↓vX, cvF_pc, vP, shb, shv, shvs, she_nil, she_cons, vC, vQ, Nat.reduceEqDiff, ↓reduceIte, eq_self, Nat.reduceAdd, Nat.reduceMul, Nat.reduceSub, Nat.reduceLeDiff, Nat.reduceLT, defd, cellsOf, wr, packR, Int.reduceLE, Int.reduceLT, Int.reduceEq, Int.cast_ofNat_Int, Int.reduceToNat, hl0, hl1, hm]
              refine fin { p with fmode := 1 } _ _ (by simp [modeF, hm, ht]) (Wk.mkn _ _ [0, 1] ?_ ?_ ?_ rfl (by simp) ?_)
              · simp [vW, bw_map, mapAt_map, mapClo_it, mapClo_nil, mapClo_cons, vP, vZ, Tr.get_set, ht]
              · simp [vW, bw_map, mapAt_map, mapClo_it, mapClo_nil, mapClo_cons, vP, vZ, Tr.get_set, nvs_self, rN_clos, setC]; try decide
              · simp [vW, bw_map, mapAt_map, mapClo_it, mapClo_nil, mapClo_cons, vP, vZ, Tr.get_set]
              · intro b hb
                have : b = 0 ∨ b = 1 := by omega
                rcases this with rfl | rfl <;> rfl
          · simp only [↓vA, ↓vE, ↓vO, ↓vB, ↓vF, ↓vM, ↓vR, ↓vX, cvF_pc, vP, shb, shv, shvs, she_nil, she_cons, vC, vQ, Nat.reduceEqDiff, ↓reduceIte, eq_self, Nat.reduceAdd, Nat.reduceMul, Nat.reduceSub, Nat.reduceLeDiff, Nat.reduceLT, defd, cellsOf, wr, packR, Int.reduceLE, Int.reduceLT, Int.reduceEq, Int.cast_ofNat_Int, Int.reduceToNat, hl0, hl1, hm]
            refine fin p _ _ (by simp [modeF, hm]) (Wk.mkn _ _ [0, 1] ?_ ?_ ?_ rfl (by simp) ?_)
            · simp [vW, bw_map, mapAt_map, mapClo_it, mapClo_nil, mapClo_cons, vP, vZ, Tr.get_set]
            · simp [vW, bw_map, mapAt_map, mapClo_it, mapClo_nil, mapClo_cons, vP, vZ, Tr.get_set, nvs_self, rN_clos, setC]; try decide
            · simp [vW, bw_map, mapAt_map, mapClo_it, mapClo_nil, mapClo_cons, vP, vZ, Tr.get_set]
            · intro b hb
              have : b = 0 ∨ b = 1 := by omega
              rcases this with rfl | rfl <;> rfl
end Go.Kc
end
section
/- Arguments of structs and rows, opened: what reads as data is a value of the abstract machine; what stays reads as before. Conditions: on the types, with each theorem. -/
namespace Go.Kc
section
variable {H : Type} {enc : TypeId × Value → H} {P : Program} {w : World} {α β : Type} {t e : TypeId}
theorem CRs.app {φ : Nat → Option (Array Value)} : ∀ {as bs : List AV} {us vs : List Value}, CRs σ0 φ as us → CRs σ0 φ bs vs → CRs σ0 φ (as ++ bs) (us ++ vs)
  | _, _, _, _, .nil, h => h
  | _, _, _, _, .cons v l v' l' h hs, h2 => .cons _ _ _ _ h (CRs.app hs h2)
/-- whatever reads as data at a type is a row of cells E a -/
def Opens (enc : TypeId × Value → H) (P : Program) (w : World) (t : TypeId) (I : α → Prop) (E : α → List AV) : Prop :=
  ∀ (fuel : Nat) (cs : List Value) x, DataW.trod enc P w 0 (fun _ => true) true fuel t cs = some x → ∃ a, I a ∧ CRs σ0 (ice w).frz (E a) cs
theorem opens_int {k : IntKind} (ht : P.underlying t = some (.int k)) : Opens enc P w t (fun n : Int => (Lit.int k n).wf = true) (fun n => [.i k n]) := by
  intro fuel cs x h
  obtain ⟨n, rfl, _, hw⟩ := DataW.trod_int ht h
  exact ⟨n, hw, .cons _ _ _ _ (.i _ _) .nil⟩
theorem opens_bool (ht : P.underlying t = some .bool) : Opens enc P w t (fun _ : Bool => True) (fun b => [.b b]) := by
  intro fuel cs x h
  obtain ⟨b, rfl, _⟩ := DataW.trod_bool ht h
  exact ⟨b, trivial, .cons _ _ _ _ (.b _) .nil⟩
theorem opens_str (ht : P.underlying t = some .string) : Opens enc P w t (fun s : List UInt8 => s.length ≤ maxLen) (fun s => [.s s]) := by
  intro fuel cs x h
  obtain ⟨s, rfl, _, hw⟩ := DataW.trod_string ht h
  obtain ⟨⟨l⟩⟩ := s
  exact ⟨l, hw, .cons _ _ _ _ (.s _) .nil⟩
theorem cell_mk {a : Addr} {v : Value} (h : w.cell? a = some v) : a.spot = none ∧ ∃ arr ty fz, w.heap[a.block]? = some (.cells arr ty fz) ∧ arr[a.off]? = some v := by
  unfold World.cell? at h
  split at h
  · rename_i c ty fz hc
    split at h
    · cases h
    · rename_i hs
      refine ⟨by simpa using hs, c, ty, fz, hc, h⟩
  · cases h
theorem opens_slice {I : α → Prop} {E : α → List AV} {m : Nat} (ht : P.underlying t = some (.slice e)) (he : Opens enc P w e I E) (hE : ∀ a, (E a).length = m) (hc : P.cellsOf e = m) (hm : 0 < m) :
    Opens enc P w t (fun l : List α => l.length ≤ maxLen ∧ ∀ a ∈ l, I a) (fun l => [.fz l.length (l.flatMap E)]) := by
  intro fuel cs x h
  rcases DataW.trod_slice ht h with ⟨rfl, _⟩ | ⟨a, len, cap, elems, rest, n, _, rfl, _, _, hl, hmx, hlen, hel, hsp, _⟩
  · exact ⟨[], ⟨Nat.zero_le _, fun _ h => by cases h⟩, .cons _ _ _ _ (.fz0 none) .nil⟩
  obtain ⟨hrl, hr⟩ := hsp rfl
  rcases Nat.eq_zero_or_pos cap with h0 | hpos
  · subst h0
    obtain rfl : len = 0 := by omega
    exact ⟨[], ⟨Nat.zero_le _, fun _ h => by cases h⟩, .cons _ _ _ _ (.fz0 (some a)) .nil⟩
  have first : ∃ v, w.cell? a = some v := by
    have : ∃ cs', w.cells? 0 (a.add (0 * P.cellsOf e)) (P.cellsOf e) = some cs' := by
      rcases Nat.eq_zero_or_pos len with h1 | h1
      · have := hr 0 (by omega)
        have hlt : 0 < rest.length := by omega
        rw [List.getElem?_eq_getElem hlt, Option.bind_eq_some_iff] at this
        obtain ⟨c, hc', _⟩ := this
        subst h1
        exact ⟨c, hc'⟩
      · have := hel 0 h1
        have hlt : 0 < elems.length := by omega
        rw [List.getElem?_eq_getElem hlt, Option.bind_eq_some_iff] at this
        obtain ⟨c, hc', _⟩ := this
        exact ⟨c, hc'⟩
    obtain ⟨cs', h2⟩ := this
    obtain ⟨_, q1, q2⟩ := World.cells?_some h2
    have := q2 0 (by omega)
    rw [List.getElem?_eq_getElem (by omega)] at this
    simp only [Nat.zero_mul, Addr.add, if_true] at this
    exact ⟨_, this⟩
  obtain ⟨v0, hv0⟩ := first
  obtain ⟨hs, arr, ty, fz, hb, _⟩ := cell_mk hv0
  have key : ∀ k, k ≤ len → ∃ l : List α, l.length = k ∧ (∀ b ∈ l, I b) ∧ CRs σ0 (ice w).frz (l.flatMap E) ((arr.toList.drop a.off).take (k * m)) := by
    intro k
    induction k with
    | zero => intro _; exact ⟨[], rfl, (fun _ h => by cases h), by simpa using .nil⟩
    | succ k ih =>
      intro hk
      obtain ⟨l, h1, h2, h3⟩ := ih (by omega)
      have hk' := hel k (by omega)
      have hlt : k < elems.length := by omega
      rw [List.getElem?_eq_getElem hlt, Option.bind_eq_some_iff] at hk'
      obtain ⟨c, hcs, htr⟩ := hk'
      obtain ⟨_, q1, q2⟩ := World.cells?_some hcs
      obtain ⟨b, hb1, hb2⟩ := he _ _ _ htr
      have e1 : c = ((arr.toList.drop a.off).drop (k * m)).take m := by
        refine List.ext_getElem? fun j => ?_
        by_cases hj : j < m
        · have := q2 j (by omega)
          rw [← this]
          have e2 : w.cell? ((a.add (k * P.cellsOf e)).add j) = arr[a.off + (k * m + j)]? := by
            have ha : (a.add (k * P.cellsOf e)).add j = ⟨a.block, a.off + (k * m + j), none⟩ := by
              unfold Addr.add
              rw [hc]
              split
              · split
                · rename_i h4 h5
                  rw [h4, h5]
                  cases a; simp_all
                · rename_i h4 h5
                  rw [h4]
                  simp [hs]
              · split
                · rename_i h4 h5
                  rw [h5]
                  cases a; simp_all
                · simp; omega
            rw [ha]
            simp [World.cell?, hb]
          rw [e2, List.getElem?_take_of_lt hj, List.getElem?_drop, List.getElem?_drop]
          simp [Array.getElem?_toList]
        · rw [List.getElem?_eq_none (by omega), List.getElem?_eq_none]
          simp; omega
      refine ⟨l ++ [b], by simp [h1], fun x hx => ?_, ?_⟩
      · rcases List.mem_append.1 hx with hx | hx
        · exact h2 x hx
        · obtain rfl := List.mem_singleton.1 hx; exact hb1
      · rw [List.flatMap_append, Nat.succ_mul, List.take_add, ← e1]
        simpa using h3.app hb2
  obtain ⟨l, h1, h2, h3⟩ := key len (Nat.le_refl _)
  refine ⟨l, ⟨by omega, h2⟩, .cons _ _ _ _ ?_ .nil⟩
  have hfl : (l.flatMap E).length = len * m := by
    rw [← h1]
    clear h1 h2 h3
    induction l with
    | nil => simp
    | cons x l ih => simp [hE, ih, Nat.succ_mul, Nat.add_comm]
  obtain ⟨blk, off, spot⟩ := a
  cases hs
  rw [h1]
  exact .fz len off cap _ blk arr hl (ice_get.2 ⟨ty, fz, hb⟩) (by rw [hfl]; exact h3)
/-- fields that lie side by side -/
def OpensF (enc : TypeId × Value → H) (P : Program) (w : World) (fs : List Field) (o n : Nat) (I : α → Prop) (E : α → List AV) : Prop :=
  (∀ a, (E a).length = n) ∧ ∀ (fuel : Nat) (cs : List Value), (∀ f ∈ fs, ∃ x, DataW.trod enc P w 0 (fun _ => true) true fuel f.type ((cs.drop f.offset).take (P.cellsOf f.type)) = some x) → ∃ a, I a ∧ CRs σ0 (ice w).frz (E a) ((cs.drop o).take n)
theorem opensF_nil {o : Nat} : OpensF enc P w [] o 0 (fun _ : Unit => True) (fun _ => []) := ⟨fun _ => rfl, fun _ cs _ => ⟨(), trivial, by simpa using .nil⟩⟩
theorem opensF_cons {f : Field} {fs : List Field} {o m n : Nat} {I : α → Prop} {E : α → List AV} {J : β → Prop} {F : β → List AV} (h : Opens enc P w f.type I E) (hE : ∀ a, (E a).length = m) (ho : f.offset = o) (hc : P.cellsOf f.type = m)
    (hr : OpensF enc P w fs (o + m) n J F) : OpensF enc P w (f :: fs) o (m + n) (fun p : α × β => I p.1 ∧ J p.2) (fun p => E p.1 ++ F p.2) := by
  refine ⟨fun p => by simp [hE, hr.1], fun fuel cs hf => ?_⟩
  obtain ⟨x, hx⟩ := hf f (List.mem_cons_self ..)
  obtain ⟨a, ha, h1⟩ := h _ _ _ hx
  obtain ⟨b, hb, h2⟩ := hr.2 fuel cs fun g hg => hf g (List.mem_cons_of_mem _ hg)
  refine ⟨(a, b), ⟨ha, hb⟩, ?_⟩
  rw [ho, hc] at h1
  rw [List.take_add, List.drop_drop]
  exact h1.app h2
theorem opens_struct {fs : Array Field} {n : Nat} {I : α → Prop} {E : α → List AV} (ht : P.underlying t = some (.struct fs)) (hc : P.cellsOf t = n) (h : OpensF enc P w fs.toList 0 n I E) : Opens enc P w t I E := by
  intro fuel cs x hx
  obtain ⟨xs, m, rfl, _, hl, hxs, hf⟩ := DataW.trod_struct ht hx
  obtain ⟨a, ha, h1⟩ := h.2 m cs fun f hfm => by
    obtain ⟨i, hi⟩ := List.getElem?_of_mem hfm
    have hi' : fs[i]? = some f := by simpa using hi
    have := hf i f hi'
    have hlt : i < xs.length := by
      rw [hxs]
      exact (Array.getElem?_eq_some_iff.1 hi').1
    rw [List.getElem?_eq_getElem hlt] at this
    exact ⟨_, this⟩
  refine ⟨a, ha, ?_⟩
  rwa [List.drop_zero, List.take_of_length_le (by omega)] at h1
theorem Opens.map {I : α → Prop} {E : α → List AV} {J : β → Prop} {F : β → List AV} (h : Opens enc P w t I E) (g : α → β) (hg : ∀ a, I a → J (g a) ∧ F (g a) = E a) : Opens enc P w t J F := by
  intro fuel cs x hx
  obtain ⟨a, ha, h1⟩ := h _ _ _ hx
  exact ⟨g a, (hg a ha).1, by rw [(hg a ha).2]; exact h1⟩
/-- a struct that is an argument -/
theorem Opens.agg {I : α → Prop} {E : α → List AV} (h : Opens enc P w t I E) {v : Value} {d : DataW H} {p : List MemPlace} (ha : ∃ cs, v = .agg cs) (hd : DataW.Trod enc P w 0 (fun _ => true) true t v d p) : ∃ a, I a ∧ VR σ0 (ice w) (.agg (E a)) v := by
  obtain ⟨cs, rfl⟩ := ha
  obtain ⟨fuel, hd⟩ := hd
  obtain ⟨a, h1, h2⟩ := h _ _ _ hd
  exact ⟨a, h1, .agg _ _ h2.vr⟩
/-- an old place of a world whose blocks stay -/
theorem same_of_kept {w' : World} (hk : ∀ may, w.keptBut w' may) {p : MemPlace} (hp : p.block < w.heap.size) : w.sameAt w' p := by
  have h := (hk fun _ => False).2.2 p.block hp
  have h0 : w.heap[p.block]? = some w.heap[p.block] := Array.getElem?_eq_getElem hp
  cases p with
  | cell b off =>
    show w'.cell? ⟨b, off, none⟩ = w.cell? ⟨b, off, none⟩
    simp only [MemPlace.block] at h h0 hp
    unfold World.cell?
    split at h
    · rename_i c1 t1 f1 c2 t2 f2 e1 e2
      dsimp only
      rw [e1, e2]
      simpa using h.2.2.2 off (fun hh => hh)
    · rename_i e1 e2
      dsimp only
      rw [e1, e2]
    · dsimp only
      rw [h]
  | map b =>
    show w'.heap[b]? = w.heap[b]?
    simp only [MemPlace.block] at h h0 hp
    split at h
    · rename_i c1 t1 f1 c2 t2 f2 e1 e2
      have : c2 = c1 := by
        apply Array.ext_getElem?
        intro j; exact h.2.2.2 j (fun hh => hh)
      rw [e1, e2, h.1, h.2.1, this]
    · rename_i e1 e2
      rcases h with hh | ⟨h1, h2⟩
      · exact hh.elim
      · rw [e1, e2, h1, h2]
    · exact h
theorem Trod.stay {w' : World} {T : TypeId → Prop} (K : Kids P T) (hz : ∀ t e, T t → P.underlying t = some (.slice e) → 0 < P.cellsOf e) {ts : List TypeId} {vs : List Value} {ds : List (DataW H)} {ps : List MemPlace} (hT : ∀ t ∈ ts, T t)
    (h : DataW.TrodAll enc P w 0 (fun _ => true) true ts vs ds ps) (hk : ∀ may, w.keptBut w' may) : DataW.TrodAll enc P w' 0 (fun b => decide (b < w.heap.size)) true ts vs ds ps := by
  have hlt := DataW.TrodAll.lt h
  have h1 : DataW.TrodAll enc P w 0 (fun b => decide (b < w.heap.size)) true ts vs ds ps := h.respare K hz hT fun p hp => decide_eq_true (hlt p hp)
  clear h
  induction ts generalizing vs ds ps with
  | nil =>
    cases vs <;> cases ds <;> first | exact h1 | exact h1.elim
  | cons t ts ih =>
    cases vs with
    | nil => exact h1.elim
    | cons v vs =>
      cases ds with
      | nil => exact h1.elim
      | cons d ds =>
        obtain ⟨p, q, ⟨fuel, h2⟩, h3, e⟩ := h1
        subst e
        refine ⟨p, q, ⟨fuel, DataW.trod_carry _ _ _ _ h2 fun x hx => same_of_kept hk (hlt x (List.mem_append_left _ hx))⟩, ?_, rfl⟩
        exact ih (fun t ht => hT t (List.mem_cons_of_mem _ ht)) (fun x hx => hlt x (List.mem_append_right _ hx)) h3
end
end Go.Kc
namespace Go.Kc
theorem rI_flatMap {k : IntKind} {l : List Int} : l.flatMap (fun n => [AV.i k n]) = l.map (.i k) := by
  induction l with
  | nil => rfl
  | cons x l ih => simp [ih]
/-- a row's last step where nothing old has changed and the arguments come back as they were -/
theorem post_of_stay {P : Program} {H : Type} {enc : TypeId × Value → H} {f : Func} {s : ChangeSpec} {apart fresh handsOn : Bool} {W W' : World} {args : Array Value} {v : Value} {ds gs : List (DataW H)} {before pv : List MemPlace}
    (hW : DataW.Whole enc P f.params.toList s.vars apart W args.toList ds gs before) (hs : (s.fn H (ds ++ gs)).args = ds)
    {T : TypeId → Prop} (K : Kids P T) (hz : ∀ t e, T t → P.underlying t = some (.slice e) → 0 < P.cellsOf e) (hT : ∀ t ∈ f.params.toList, T t)
    (hres : ∀ (b : Nat) (sp : Nat → Bool) (hd : Bool), DataW.TrodAll enc P W' b sp hd f.resultTypes.toList (v.resultList f.resultTypes.size) (s.fn H (ds ++ gs)).results [])
    (hvars : ∀ sp : Nat → Bool, DataW.TrodVars enc P W' sp s.vars (s.fn H (ds ++ gs)).vars pv)
    (hk : ∀ may, W.keptBut W' may) : s.post enc P f apart fresh handsOn false W args v W' := by
  have hW' := hW
  obtain ⟨p, q, hA, _, _⟩ := hW'
  exact ⟨ds, gs, before, [], p, pv, hW, hres _ _ _, by rw [hs]; exact Trod.stay K hz hT hA hk, hvars _, hk _, fun h => by cases h⟩
end Go.Kc
end
section
/- What the names of faults answer, the program's and the reference's. Condition: the functions' texts are these. -/
namespace Go.Kc
variable {P : Program} {f : Nat}
def rowU (x : List UInt8 × Int) : List AV := [.s x.1, .i .u64 x.2]
def ir_vestibuleref10_Errnos : IFn := ⟨[.tmp 0],
  .seq (.reg false [⟨(some 0), .op (.mov (.c (.nils))), none⟩])
  (.seq (.reg false [⟨(some 1), .op (.build [.s [], .i .u64 0] [(0, 1, (.c (.s [69, 80, 69, 82, 77]))), (1, 1, (.c (.i .u64 1)))]), none⟩,
    ⟨(some 2), .op (.build [.s [], .i .u64 0] [(0, 1, (.c (.s [69, 78, 79, 69, 78, 84]))), (1, 1, (.c (.i .u64 2)))]), none⟩,
    ⟨(some 3), .op (.build [.s [], .i .u64 0] [(0, 1, (.c (.s [69, 73, 79]))), (1, 1, (.c (.i .u64 5)))]), none⟩,
    ⟨(some 4), .op (.build [.s [], .i .u64 0] [(0, 1, (.c (.s [69, 66, 65, 68, 70]))), (1, 1, (.c (.i .u64 9)))]), none⟩,
    ⟨(some 5), .op (.build [.s [], .i .u64 0] [(0, 1, (.c (.s [69, 65, 71, 65, 73, 78]))), (1, 1, (.c (.i .u64 11)))]), none⟩,
    ⟨(some 6), .op (.build [.s [], .i .u64 0] [(0, 1, (.c (.s [69, 78, 79, 77, 69, 77]))), (1, 1, (.c (.i .u64 12)))]), none⟩,
    ⟨(some 7), .op (.build [.s [], .i .u64 0] [(0, 1, (.c (.s [69, 65, 67, 67, 69, 83]))), (1, 1, (.c (.i .u64 13)))]), none⟩,
    ⟨(some 8), .op (.build [.s [], .i .u64 0] [(0, 1, (.c (.s [69, 70, 65, 85, 76, 84]))), (1, 1, (.c (.i .u64 14)))]), none⟩,
    ⟨(some 9), .op (.build [.s [], .i .u64 0] [(0, 1, (.c (.s [69, 66, 85, 83, 89]))), (1, 1, (.c (.i .u64 16)))]), none⟩,
    ⟨(some 10), .op (.build [.s [], .i .u64 0] [(0, 1, (.c (.s [69, 78, 79, 68, 69, 86]))), (1, 1, (.c (.i .u64 19)))]), none⟩,
    ⟨(some 11), .op (.build [.s [], .i .u64 0] [(0, 1, (.c (.s [69, 73, 78, 86, 65, 76]))), (1, 1, (.c (.i .u64 22)))]), none⟩,
    ⟨(some 12), .op (.build [.s [], .i .u64 0] [(0, 1, (.c (.s [69, 78, 79, 83, 89, 83]))), (1, 1, (.c (.i .u64 38)))]), none⟩,
    ⟨(some 13), .op (.build [.s [], .i .u64 0] [(0, 1, (.c (.s [69, 79, 80, 78, 79, 84, 83, 85, 80, 80]))), (1, 1, (.c (.i .u64 95)))]), none⟩,
    ⟨(some 14), .op (.build [.s [], .i .u64 0] [(0, 1, (.c (.s [69, 65, 70, 78, 79, 83, 85, 80, 80, 79, 82, 84]))), (1, 1, (.c (.i .u64 97)))]), none⟩,
    ⟨(some 15), .op (.build [.s [], .i .u64 0] [(0, 1, (.c (.s [69, 84, 73, 77, 69, 68, 79, 85, 84]))), (1, 1, (.c (.i .u64 110)))]), none⟩,
    ⟨(some 16), .op (.buildS 15 [.s [], .i .u64 0] [(0, 2, (.t 1)), (2, 2, (.t 2)), (4, 2, (.t 3)), (6, 2, (.t 4)), (8, 2, (.t 5)), (10, 2, (.t 6)), (12, 2, (.t 7)), (14, 2, (.t 8)), (16, 2, (.t 9)), (18, 2, (.t 10)), (20, 2, (.t 11)), (22, 2, (.t 12)), (24, 2, (.t 13)), (26, 2, (.t 14)), (28, 2, (.t 15))]), none⟩,
    ⟨(some 0), .op (.mov (.t 16)), none⟩])
  (.ret))⟩
set_option maxRecDepth 8000 in
theorem errnos10 (hc : chkFn P f ir_vestibuleref10_Errnos = true) : Pure P f [] (.fz 15 (tab_errnos.flatMap (rowN .u64))) := by
  refine Pure.mk hc rfl ?_
  simp only [ir_vestibuleref10_Errnos, argsT, H0, mkT, mkH, trL, List.length_cons, List.length_nil, Nat.reduceAdd, Nat.zero_add]
  simp (decide := true) only [↓vA, ↓vE, ↓vO, ↓vB, ↓vF, ↓vM, ↓vR, ↓vX, cvF_pc, vP, shb, shv, shvs, she_nil, she_cons, vC, vQ, Nat.reduceEqDiff, ↓reduceIte, eq_self, Nat.reduceAdd, Nat.reduceMul, Nat.reduceSub, Nat.reduceLeDiff, Nat.reduceLT, defd, cellsOf, wr, packR, Int.reduceLE, Int.reduceLT, Int.reduceEq, Int.cast_ofNat_Int, Int.reduceToNat]
  refine Frz.cut 2 rfl (Nat.le_refl _) ?_
  simp (decide := true) [vP, Tr.get_set, tab_errnos, rowN, frzs_self, vZ]
def ir_vestibuleref10_Find : IFn := ⟨[.tmp 6, .tmp 7],
  .seq (.reg false [⟨(some 6), .op (.mov (.c (.i .u64 0))), none⟩,
    ⟨(some 7), .op (.mov (.c (.i .i64 0))), none⟩])
  (.seq (.seq (.reg false [⟨(some 8), .op (.mov (.c (.i .i64 0))), none⟩])
  (.blk 0 (.loop (.seq (.seq (.reg false [⟨(some 9), .op (.mov (.t 8)), none⟩,
    ⟨(some 10), .op (.mov (.t 0)), none⟩,
    ⟨(some 11), .op (.len false (.t 10)), none⟩,
    ⟨(some 12), .op (.bin .lss (.t 9) (.t 11)), none⟩])
  (.cond (.t 12) (.skip) (.exit 0)))
  (.seq (.blk 1 (.seq (.reg false [⟨(some 15), .op (.mov (.t 0)), none⟩,
    ⟨(some 16), .op (.mov (.t 8)), none⟩,
    ⟨(some 17), .op (.iAddrS 2 (.t 15) (.t 16)), none⟩,
    ⟨(some 18), .op (.fAddr 0 (.t 17)), none⟩,
    ⟨(some 19), .op (.load1 (.t 18)), none⟩,
    ⟨(some 20), .op (.mov (.t 1)), none⟩,
    ⟨(some 21), .op (.bin .eql (.t 19) (.t 20)), none⟩])
  (.cond (.t 21) (.seq (.reg false [⟨(some 22), .op (.mov (.t 0)), none⟩,
    ⟨(some 23), .op (.mov (.t 8)), none⟩,
    ⟨(some 24), .op (.iAddrS 2 (.t 22) (.t 23)), none⟩,
    ⟨(some 25), .op (.fAddr 1 (.t 24)), none⟩,
    ⟨(some 26), .op (.load1 (.t 25)), none⟩,
    ⟨(some 6), .op (.mov (.t 26)), none⟩,
    ⟨(some 7), .op (.mov (.c (.i .i64 0))), none⟩])
  (.ret)) (.skip))))
  (.reg false [⟨(some 13), .op (.mov (.t 8)), none⟩,
    ⟨(some 14), .op (.bin .add (.t 13) (.c (.i .i64 1))), none⟩,
    ⟨(some 8), .op (.mov (.t 14)), none⟩]))))))
  (.seq (.reg false [⟨(some 27), .op (.mov (.t 2)), none⟩,
    ⟨(some 6), .op (.mov (.c (.i .u64 0))), none⟩,
    ⟨(some 7), .op (.mov (.t 27)), none⟩])
  (.ret)))⟩
theorem find10 (hc : chkFn P f ir_vestibuleref10_Find = true) : cFind P f .u64 := by
  intro l s no hl
  refine Pure.mk hc (by simp [clos, clo]) ?_
  simp only [ir_vestibuleref10_Find, argsT, H0, mkT, mkH, trL, List.length_cons, List.length_nil, Nat.reduceAdd, Nat.zero_add]
  simp only [↓vA, ↓vE, ↓vO, ↓vB, ↓vF, ↓vM, ↓vR, ↓vX, cvF_pc, vP, shb, shv, shvs, she_nil, she_cons, vC, vQ, Nat.reduceEqDiff, ↓reduceIte, eq_self, Nat.reduceAdd, Nat.reduceMul, Nat.reduceSub, Nat.reduceLeDiff, Nat.reduceLT, defd, cellsOf, wr, packR, Int.reduceLE, Int.reduceLT, Int.reduceEq, Int.cast_ofNat_Int, Int.reduceToNat]
  refine SL.loop (α := Nat) (fun j => [(0, .fz l.length (l.flatMap (rowN .u64))), (1, .s s), (2, .i .i64 no), (8, .i .i64 j)]) (fun _ => []) (fun j => findN .u64 s no l = findN .u64 s no (l.drop j)) (fun j => l.length - j) 0 [] ?_ ?_ ?_ rfl ?_ ?_
  · simp [vW, bw_map, mapAt_map, mapClo_it, mapClo_nil, mapClo_cons, vP, vZ, Tr.get_set]
  · trivial
  · simp
  · simp
  rintro j hI G ih
  simp only [argsT, H0, mkT, mkH, trL, List.length_cons, List.length_nil, Nat.reduceAdd, Nat.zero_add]
  by_cases hlt : j < l.length
  · have hx : l[j]? = some l[j] := List.getElem?_eq_getElem hlt
    have hw : IntKind.wrap .i64 ((j : Int) + 1) = ((j + 1 : Nat) : Int) := by rw [wrap64 (by omega) (by have := hl; simp only [roomB] at this; omega)]; omega
    have g0 : (l.flatMap (rowN .u64))[j * 2]? = some (.s l[j].1) := flat_get (f := rowN .u64) (m := 2) rowN_len hx (i := 0) (by decide)
    have g1 : (l.flatMap (rowN .u64))[j * 2 + 1]? = some (.i .u64 l[j].2) := flat_get (f := rowN .u64) (m := 2) rowN_len hx (i := 1) (by decide)
    rw [List.drop_eq_getElem_cons hlt, findN] at hI
    simp only [↓vA, ↓vE, ↓vO, ↓vB, ↓vF, ↓vM, ↓vR, ↓vX, cvF_pc, vP, shb, shv, shvs, she_nil, she_cons, vC, vQ, Nat.reduceEqDiff, ↓reduceIte, eq_self, Nat.reduceAdd, Nat.reduceMul, Nat.reduceSub, Nat.reduceLeDiff, Nat.reduceLT, defd, cellsOf, wr, packR, Int.reduceLE, Int.reduceLT, Int.reduceEq, Int.cast_ofNat_Int, Int.reduceToNat, hlt, g0, g1, hw]
    split
    · rename_i hs
      rw [hI, if_pos hs]
      simp only [vZ, and_self, true_and]
    · rename_i hs
      rw [if_neg hs] at hI
      refine ih (j + 1) hI (by omega) _ _ (Wk.mk _ _ [] ?_ ?_ ?_ rfl)
      · simp [vW, bw_map, mapAt_map, mapClo_it, mapClo_nil, mapClo_cons, vP, vZ, Tr.get_set]
      · trivial
      · simp
  · simp only [↓vA, ↓vE, ↓vO, ↓vB, ↓vF, ↓vM, ↓vR, ↓vX, cvF_pc, vP, shb, shv, shvs, she_nil, she_cons, vC, vQ, Nat.reduceEqDiff, ↓reduceIte, eq_self, Nat.reduceAdd, Nat.reduceMul, Nat.reduceSub, Nat.reduceLeDiff, Nat.reduceLT, defd, cellsOf, wr, packR, Int.reduceLE, Int.reduceLT, Int.reduceEq, Int.cast_ofNat_Int, Int.reduceToNat, hlt, vZ]
    rw [List.drop_eq_nil_of_le (by omega), findN] at hI
    rw [hI]
    simp only [vZ, and_self, true_and]
def ir_vestibuleref10_Errno (f_vestibuleref10_Errnos f_vestibuleref10_Find : Nat) : IFn := ⟨[.tmp 2, .tmp 3],
  .seq (.reg false [⟨(some 2), .op (.mov (.c (.i .u32 0))), none⟩,
    ⟨(some 3), .op (.mov (.c (.i .i64 0))), none⟩])
  (.seq (.reg false [⟨(some 9), .callF f_vestibuleref10_Errnos [], none⟩,
    ⟨(some 10), .op (.mov (.t 0)), none⟩,
    ⟨(some 11), .callF f_vestibuleref10_Find [(.t 9), (.t 10), (.c (.i .i64 160))], none⟩,
    ⟨(some 8), .op (.mov (.t 11)), none⟩,
    ⟨(some 12), .op (.ext (.t 8) 0), none⟩,
    ⟨(some 13), .op (.ext (.t 8) 1), none⟩,
    ⟨(some 4), .op (.mov (.t 12)), none⟩,
    ⟨(some 5), .op (.mov (.t 13)), none⟩])
  (.seq (.seq (.reg false [⟨(some 14), .op (.mov (.t 5)), none⟩,
    ⟨(some 15), .op (.bin .eql (.t 14) (.c (.i .i64 0))), none⟩])
  (.cond (.t 15) (.seq (.reg false [⟨(some 16), .op (.mov (.t 4)), none⟩,
    ⟨(some 17), .op (.cvInt .u32 (.t 16)), none⟩,
    ⟨(some 2), .op (.mov (.t 17)), none⟩,
    ⟨(some 3), .op (.mov (.c (.i .i64 0))), none⟩])
  (.ret)) (.skip)))
  (.seq (.reg false [⟨(some 6), .op (.mov (.c (.i .i64 0))), none⟩])
  (.seq (.seq (.reg false [⟨(some 7), .op (.mov (.c (.i .i64 0))), none⟩])
  (.blk 0 (.loop (.seq (.seq (.reg false [⟨(some 18), .op (.mov (.t 7)), none⟩,
    ⟨(some 19), .op (.mov (.t 0)), none⟩,
    ⟨(some 20), .op (.len true (.t 19)), none⟩,
    ⟨(some 21), .op (.bin .lss (.t 18) (.t 20)), none⟩])
  (.cond (.t 21) (.skip) (.exit 0)))
  (.seq (.blk 1 (.seq (.seq (.reg false [⟨(some 24), .op (.mov (.t 0)), none⟩,
    ⟨(some 25), .op (.mov (.t 7)), none⟩,
    ⟨(some 26), .op (.idxS (.t 24) (.t 25)), none⟩,
    ⟨(some 27), .op (.bin .lss (.t 26) (.c (.i .u8 48))), none⟩,
    ⟨(some 28), .op (.mov (.t 27)), none⟩,
    ⟨(some 29), .op (.mov (.t 0)), (some (28, false))⟩,
    ⟨(some 30), .op (.mov (.t 7)), (some (28, false))⟩,
    ⟨(some 31), .op (.idxS (.t 29) (.t 30)), (some (28, false))⟩,
    ⟨(some 32), .op (.bin .gtr (.t 31) (.c (.i .u8 57))), (some (28, false))⟩,
    ⟨(some 33), .op (.pick (.t 28) (.c (.b true)) (.t 32)), none⟩,
    ⟨(some 34), .op (.mov (.t 33)), none⟩,
    ⟨(some 35), .op (.mov (.t 7)), (some (34, false))⟩,
    ⟨(some 36), .op (.bin .gtr (.t 35) (.c (.i .i64 3))), (some (34, false))⟩,
    ⟨(some 37), .op (.pick (.t 34) (.c (.b true)) (.t 36)), none⟩])
  (.cond (.t 37) (.seq (.reg false [⟨(some 2), .op (.mov (.c (.i .u32 0))), none⟩,
    ⟨(some 3), .op (.mov (.c (.i .i64 160))), none⟩])
  (.ret)) (.skip)))
  (.reg false [⟨(some 38), .op (.mov (.t 6)), none⟩,
    ⟨(some 39), .op (.bin .mul (.c (.i .i64 10)) (.t 38)), none⟩,
    ⟨(some 40), .op (.mov (.t 0)), none⟩,
    ⟨(some 41), .op (.mov (.t 7)), none⟩,
    ⟨(some 42), .op (.idxS (.t 40) (.t 41)), none⟩,
    ⟨(some 43), .op (.bin .sub (.t 42) (.c (.i .u8 48))), none⟩,
    ⟨(some 44), .op (.cvInt .i64 (.t 43)), none⟩,
    ⟨(some 45), .op (.bin .add (.t 39) (.t 44)), none⟩,
    ⟨(some 6), .op (.mov (.t 45)), none⟩])))
  (.reg false [⟨(some 22), .op (.mov (.t 7)), none⟩,
    ⟨(some 23), .op (.bin .add (.t 22) (.c (.i .i64 1))), none⟩,
    ⟨(some 7), .op (.mov (.t 23)), none⟩]))))))
  (.seq (.seq (.reg false [⟨(some 46), .op (.mov (.t 0)), none⟩,
    ⟨(some 47), .op (.bin .eql (.t 46) (.c (.s []))), none⟩,
    ⟨(some 48), .op (.mov (.t 47)), none⟩,
    ⟨(some 49), .op (.mov (.t 6)), (some (48, false))⟩,
    ⟨(some 50), .op (.bin .gtr (.t 49) (.c (.i .i64 4095))), (some (48, false))⟩,
    ⟨(some 51), .op (.pick (.t 48) (.c (.b true)) (.t 50)), none⟩])
  (.cond (.t 51) (.seq (.reg false [⟨(some 2), .op (.mov (.c (.i .u32 0))), none⟩,
    ⟨(some 3), .op (.mov (.c (.i .i64 160))), none⟩])
  (.ret)) (.skip)))
  (.seq (.reg false [⟨(some 52), .op (.mov (.t 6)), none⟩,
    ⟨(some 53), .op (.cvInt .u32 (.t 52)), none⟩,
    ⟨(some 2), .op (.mov (.t 53)), none⟩,
    ⟨(some 3), .op (.mov (.c (.i .i64 0))), none⟩])
  (.ret)))))))⟩
/-- the number of digits that are read -/
def digits : List UInt8 → Nat → Option Nat
  | [], n => some n
  | c :: l, n => if c.toNat < 48 ∨ 57 < c.toNat then none else digits l (10 * n + (c.toNat - 48))
/-- the fault's number, and what is wrong -/
def errnoM (s : List UInt8) : Int × Int :=
  if (findP s 160 tab_errnos).2 = 0 then ((findP s 160 tab_errnos).1, 0)
  else if 4 < s.length then (0, 160) else if s = [] then (0, 160) else match digits s 0 with | none => (0, 160) | some n => if 4095 < n then (0, 160) else ((n : Int), 0)
theorem findP_bound (s : List UInt8) (no : Int) : ∀ l : List (List UInt8 × Int), (∀ p ∈ l, 0 ≤ p.2 ∧ p.2 ≤ 110) → 0 ≤ (findP s no l).1 ∧ (findP s no l).1 ≤ 110
  | [], _ => by simp [findP]
  | p :: l, h => by
    simp only [findP]
    split
    · exact h p (by simp)
    · exact findP_bound s no l fun q hq => h q (by simp [hq])
theorem findE (s : List UInt8) : 0 ≤ (findP s 160 tab_errnos).1 ∧ (findP s 160 tab_errnos).1 ≤ 110 := findP_bound s 160 tab_errnos (by decide)
theorem errno_len {s : List UInt8} (he : ¬ (findP s 160 tab_errnos).2 = 0) (h : 4 < s.length) : errnoM s = (0, 160) := by
  unfold errnoM; rw [if_neg he, if_pos h]
theorem errno_none {s : List UInt8} (he : ¬ (findP s 160 tab_errnos).2 = 0) (h : digits s 0 = none) : errnoM s = (0, 160) := by
  unfold errnoM; rw [if_neg he, h]; dsimp only
  repeat' split
  all_goals rfl
theorem errno_some {s : List UInt8} {n : Nat} (he : ¬ (findP s 160 tab_errnos).2 = 0) (hl : ¬ 4 < s.length) (h : digits s 0 = some n) : errnoM s = if s = [] then (0, 160) else if 4095 < n then (0, 160) else ((n : Int), 0) := by
  unfold errnoM; rw [if_neg he, if_neg hl, h]
theorem errno10 {g1 g2 : Nat} (hc : chkFn P f (ir_vestibuleref10_Errno g1 g2) = true) (h1 : Pure P g1 [] (.fz 15 (tab_errnos.flatMap (rowN .u64)))) (h2 : cFind P g2 .u64) (s : List UInt8) (hs : s.length ≤ 1000000) : Pure P f [.s s] (.tup [.i .u32 (errnoM s).1, .i .i64 (errnoM s).2]) := by
  refine Pure.mk hc rfl ?_
  simp only [ir_vestibuleref10_Errno, argsT, H0, mkT, mkH, trL, List.length_cons, List.length_nil, Nat.reduceAdd, Nat.zero_add]
  simp only [↓vA, ↓vE, ↓vO, ↓vB, ↓vF, ↓vM, ↓vR, ↓vX, cvF_pc, vP, shb, shv, shvs, she_nil, she_cons, vC, vQ, Nat.reduceEqDiff, ↓reduceIte, eq_self, Nat.reduceAdd, Nat.reduceMul, Nat.reduceSub, Nat.reduceLeDiff, Nat.reduceLT, defd, cellsOf, wr, packR, Int.reduceLE, Int.reduceLT, Int.reduceEq, Int.cast_ofNat_Int, Int.reduceToNat]
  refine h1.sc ?_
  simp only [↓vA, ↓vE, ↓vO, ↓vB, ↓vF, ↓vM, ↓vR, ↓vX, cvF_pc, vP, shb, shv, shvs, she_nil, she_cons, vC, vQ, Nat.reduceEqDiff, ↓reduceIte, eq_self, Nat.reduceAdd, Nat.reduceMul, Nat.reduceSub, Nat.reduceLeDiff, Nat.reduceLT, defd, cellsOf, wr, packR, Int.reduceLE, Int.reduceLT, Int.reduceEq, Int.cast_ofNat_Int, Int.reduceToNat]
  refine (h2 tab_errnos s 160 (by decide)).sc ?_
  rw [findN_P]
  simp only [↓vA, ↓vE, ↓vO, ↓vB, ↓vF, ↓vM, ↓vR, ↓vX, cvF_pc, vP, shb, shv, shvs, she_nil, she_cons, vC, vQ, Nat.reduceEqDiff, ↓reduceIte, eq_self, Nat.reduceAdd, Nat.reduceMul, Nat.reduceSub, Nat.reduceLeDiff, Nat.reduceLT, defd, cellsOf, wr, packR, Int.reduceLE, Int.reduceLT, Int.reduceEq, Int.cast_ofNat_Int, Int.reduceToNat]
  by_cases he : (findP s 160 tab_errnos).2 = 0
  · simp only [↓vA, ↓vE, ↓vO, ↓vB, ↓vF, ↓vM, ↓vR, ↓vX, cvF_pc, vP, shb, shv, shvs, she_nil, she_cons, vC, vQ, Nat.reduceEqDiff, ↓reduceIte, eq_self, Nat.reduceAdd, Nat.reduceMul, Nat.reduceSub, Nat.reduceLeDiff, Nat.reduceLT, defd, cellsOf, wr, packR, Int.reduceLE, Int.reduceLT, Int.reduceEq, Int.cast_ofNat_Int, Int.reduceToNat, he]
    have := findE s
    simp [vZ, errnoM, he, wrapu32 this.1 (by omega)]
  simp only [↓vA, ↓vE, ↓vO, ↓vB, ↓vF, ↓vM, ↓vR, ↓vX, cvF_pc, vP, shb, shv, shvs, she_nil, she_cons, vC, vQ, Nat.reduceEqDiff, ↓reduceIte, eq_self, Nat.reduceAdd, Nat.reduceMul, Nat.reduceSub, Nat.reduceLeDiff, Nat.reduceLT, defd, cellsOf, wr, packR, Int.reduceLE, Int.reduceLT, Int.reduceEq, Int.cast_ofNat_Int, Int.reduceToNat, he]
  refine SL.loop (α := Nat × Nat) (fun q => [(0, .s s), (2, .i .u32 0), (3, .i .i64 0), (6, .i .i64 q.2), (7, .i .i64 q.1)]) (fun _ => []) (fun q => q.1 ≤ 4 ∧ q.2 < 10 ^ q.1 ∧ digits s 0 = digits (s.drop q.1) q.2) (fun q => s.length - q.1) (0, 0) [] ?_ ?_ ?_ rfl ?_ ?_
  · simp [vW, bw_map, mapAt_map, mapClo_it, mapClo_nil, mapClo_cons, vP, vZ, Tr.get_set]
  · trivial
  · simp
  · exact ⟨by decide, by decide, rfl⟩
  rintro ⟨j, nn⟩ ⟨hj, hn, hI⟩ G ih
  dsimp only at hj hn hI ih ⊢
  simp only [argsT, H0, mkT, mkH, trL, List.length_cons, List.length_nil, Nat.reduceAdd, Nat.zero_add]
  by_cases hlt : j < s.length
  · have hx : s[j]? = some s[j] := List.getElem?_eq_getElem hlt
    have hpow : 10 ^ j ≤ 10 ^ 4 := Nat.pow_le_pow_right (by decide) hj
    rw [List.drop_eq_getElem_cons hlt, digits] at hI
    generalize hc : s[j] = c at hI hx
    have hcl := UInt8.toNat_lt c
    by_cases h1 : (c.toNat : Int) < 48
    · rw [if_pos (.inl (by omega))] at hI
      have hw := errno_none he hI
      simp only [↓vA, ↓vE, ↓vO, ↓vB, ↓vF, ↓vM, ↓vR, ↓vX, cvF_pc, vP, shb, shv, shvs, she_nil, she_cons, vC, vQ, Nat.reduceEqDiff, ↓reduceIte, eq_self, Nat.reduceAdd, Nat.reduceMul, Nat.reduceSub, Nat.reduceLeDiff, Nat.reduceLT, defd, cellsOf, wr, packR, Int.reduceLE, Int.reduceLT, Int.reduceEq, Int.cast_ofNat_Int, Int.reduceToNat, hlt, hx, evC_some, h1]
      simp [vZ, hw]
    by_cases h2 : (57 : Int) < c.toNat
    · rw [if_pos (.inr (by omega))] at hI
      have hw := errno_none he hI
      simp only [↓vA, ↓vE, ↓vO, ↓vB, ↓vF, ↓vM, ↓vR, ↓vX, cvF_pc, vP, shb, shv, shvs, she_nil, she_cons, vC, vQ, Nat.reduceEqDiff, ↓reduceIte, eq_self, Nat.reduceAdd, Nat.reduceMul, Nat.reduceSub, Nat.reduceLeDiff, Nat.reduceLT, defd, cellsOf, wr, packR, Int.reduceLE, Int.reduceLT, Int.reduceEq, Int.cast_ofNat_Int, Int.reduceToNat, hlt, hx, evC_some, h1, h2]
      simp [vZ, hw]
    by_cases h3 : (3 : Int) < j
    · have hw := errno_len he (s := s) (by omega)
      simp only [↓vA, ↓vE, ↓vO, ↓vB, ↓vF, ↓vM, ↓vR, ↓vX, cvF_pc, vP, shb, shv, shvs, she_nil, she_cons, vC, vQ, Nat.reduceEqDiff, ↓reduceIte, eq_self, Nat.reduceAdd, Nat.reduceMul, Nat.reduceSub, Nat.reduceLeDiff, Nat.reduceLT, defd, cellsOf, wr, packR, Int.reduceLE, Int.reduceLT, Int.reduceEq, Int.cast_ofNat_Int, Int.reduceToNat, hlt, hx, evC_some, h1, h2, h3]
      simp [vZ, hw]
    rw [if_neg (by omega)] at hI
    have e1 : IntKind.wrap .u8 ((c.toNat : Int) - 48) = ((c.toNat - 48 : Nat) : Int) := by rw [wrapu8 (by omega) (by omega)]; omega
    have e2 : IntKind.wrap .i64 ((c.toNat - 48 : Nat) : Int) = ((c.toNat - 48 : Nat) : Int) := wrap64 (by omega) (by omega)
    have e3 : IntKind.wrap .i64 (10 * (nn : Int)) = ((10 * nn : Nat) : Int) := by rw [wrap64 (by omega) (by omega)]; omega
    have e4 : IntKind.wrap .i64 (((10 * nn : Nat) : Int) + ((c.toNat - 48 : Nat) : Int)) = ((10 * nn + (c.toNat - 48) : Nat) : Int) := by rw [wrap64 (by omega) (by omega)]; omega
    have e5 : IntKind.wrap .i64 ((j : Int) + 1) = ((j + 1 : Nat) : Int) := by rw [wrap64 (by omega) (by omega)]; omega
    simp only [↓vA, ↓vE, ↓vO, ↓vB, ↓vF, ↓vM, ↓vR, ↓vX, cvF_pc, vP, shb, shv, shvs, she_nil, she_cons, vC, vQ, Nat.reduceEqDiff, ↓reduceIte, eq_self, Nat.reduceAdd, Nat.reduceMul, Nat.reduceSub, Nat.reduceLeDiff, Nat.reduceLT, defd, cellsOf, wr, packR, Int.reduceLE, Int.reduceLT, Int.reduceEq, Int.cast_ofNat_Int, Int.reduceToNat, hlt, hx, evC_some, h1, h2, h3, e1, e2, e3, e4, e5]
    refine ih (j + 1, 10 * nn + (c.toNat - 48)) ⟨by dsimp only; omega, ?_, hI⟩ (by dsimp only; omega) _ _ (Wk.mk _ _ [] ?_ ?_ ?_ rfl)
    · dsimp only; rw [Nat.pow_succ]; omega
    · simp [vW, bw_map, mapAt_map, mapClo_it, mapClo_nil, mapClo_cons, vP, vZ, Tr.get_set]
    · trivial
    · simp
  · rw [List.drop_eq_nil_of_le (by omega), digits] at hI
    have hpow : 10 ^ j ≤ 10 ^ 4 := Nat.pow_le_pow_right (by decide) hj
    have hw := errno_some he (by omega) hI
    by_cases h1 : s = []
    · rw [if_pos h1] at hw
      have h1' : (s = []) = True := eq_true h1
      simp only [↓vA, ↓vE, ↓vO, ↓vB, ↓vF, ↓vM, ↓vR, ↓vX, cvF_pc, vP, shb, shv, shvs, she_nil, she_cons, vC, vQ, Nat.reduceEqDiff, ↓reduceIte, eq_self, Nat.reduceAdd, Nat.reduceMul, Nat.reduceSub, Nat.reduceLeDiff, Nat.reduceLT, defd, cellsOf, wr, packR, Int.reduceLE, Int.reduceLT, Int.reduceEq, Int.cast_ofNat_Int, Int.reduceToNat, hlt, h1']
      simp [vZ, hw]
    rw [if_neg h1] at hw
    by_cases h2 : (4095 : Int) < nn
    · rw [if_pos (by omega)] at hw
      simp only [↓vA, ↓vE, ↓vO, ↓vB, ↓vF, ↓vM, ↓vR, ↓vX, cvF_pc, vP, shb, shv, shvs, she_nil, she_cons, vC, vQ, Nat.reduceEqDiff, ↓reduceIte, eq_self, Nat.reduceAdd, Nat.reduceMul, Nat.reduceSub, Nat.reduceLeDiff, Nat.reduceLT, defd, cellsOf, wr, packR, Int.reduceLE, Int.reduceLT, Int.reduceEq, Int.cast_ofNat_Int, Int.reduceToNat, hlt, h1, h2]
      simp [vZ, hw]
    · rw [if_neg (by omega)] at hw
      simp only [↓vA, ↓vE, ↓vO, ↓vB, ↓vF, ↓vM, ↓vR, ↓vX, cvF_pc, vP, shb, shv, shvs, she_nil, she_cons, vC, vQ, Nat.reduceEqDiff, ↓reduceIte, eq_self, Nat.reduceAdd, Nat.reduceMul, Nat.reduceSub, Nat.reduceLeDiff, Nat.reduceLT, defd, cellsOf, wr, packR, Int.reduceLE, Int.reduceLT, Int.reduceEq, Int.cast_ofNat_Int, Int.reduceToNat, hlt, h1, h2, wrapu32 (x := (nn : Int)) (by omega) (by omega)]
      simp [vZ, hw]
def ir_filter_list (f_filter_list_1 : Nat) : IFn := ⟨[.tmp 4],
  .seq (.reg false [⟨(some 2), .op (.box (.t 0)), none⟩,
    ⟨(some 3), .op (.box (.t 1)), none⟩,
    ⟨(some 4), .op (.mov (.c (.nilf))), none⟩])
  (.seq (.reg false [⟨(some 5), .op (.mkF f_filter_list_1 [] [(.t 2), (.t 3)]), none⟩,
    ⟨(some 4), .op (.mov (.t 5)), none⟩])
  (.ret))⟩
theorem list_pure {g1 : Nat} (hc : chkFn P f (ir_filter_list g1) = true) (g : Nat) (b : Bool) : Pure P f [.fn g [] [], .b b] (.fn g1 [] [.pf [.fn g [] []] 0, .pf [.b b] 0]) := by
  refine Pure.mk hc (by simp [clos, clo]) ?_
  simp only [ir_filter_list, argsT, H0, mkT, mkH, trL, List.length_cons, List.length_nil, Nat.reduceAdd, Nat.zero_add]
  simp only [↓vA, ↓vE, ↓vO, ↓vB, ↓vF, ↓vM, ↓vR, ↓vX, cvF_pc, vP, shb, shv, shvs, she_nil, she_cons, vC, vQ, Nat.reduceEqDiff, ↓reduceIte, eq_self, Nat.reduceAdd, Nat.reduceMul, Nat.reduceSub, Nat.reduceLeDiff, Nat.reduceLT, defd, cellsOf, wr, packR, Int.reduceLE, Int.reduceLT, Int.reduceEq, Int.cast_ofNat_Int, Int.reduceToNat]
  simp [vZ, vP, Tr.get_set]
def ir_names_Errno (f_names_errnos f_names_find_uint32 : Nat) : IFn := ⟨[.tmp 2, .tmp 3],
  .seq (.reg false [⟨(some 2), .op (.mov (.c (.i .u32 0))), none⟩,
    ⟨(some 3), .op (.mov (.c (.i .i64 0))), none⟩])
  (.seq (.reg false [⟨(some 10), .callF f_names_errnos [], none⟩,
    ⟨(some 4), .op (.alloc [.s [], .i .u32 0, .s [], .i .u32 0, .s [], .i .u32 0, .s [], .i .u32 0, .s [], .i .u32 0, .s [], .i .u32 0, .s [], .i .u32 0, .s [], .i .u32 0, .s [], .i .u32 0, .s [], .i .u32 0, .s [], .i .u32 0, .s [], .i .u32 0, .s [], .i .u32 0, .s [], .i .u32 0, .s [], .i .u32 0]), none⟩,
    ⟨none, .op (.store 30 (.t 4) (.t 10)), none⟩])
  (.seq (.seq (.reg false [⟨(some 12), .op (.slcA 15 2 (.t 4) none none none), none⟩,
    ⟨(some 13), .op (.mov (.t 0)), none⟩,
    ⟨(some 14), .callF f_names_find_uint32 [(.t 12), (.t 13), (.c (.i .i64 160))], none⟩,
    ⟨(some 11), .op (.mov (.t 14)), none⟩,
    ⟨(some 15), .op (.ext (.t 11) 0), none⟩,
    ⟨(some 16), .op (.ext (.t 11) 1), none⟩,
    ⟨(some 5), .op (.mov (.t 15)), none⟩,
    ⟨(some 6), .op (.mov (.t 16)), none⟩])
  (.seq (.reg false [⟨(some 17), .op (.mov (.t 6)), none⟩,
    ⟨(some 18), .op (.bin .eql (.t 17) (.c (.i .i64 0))), none⟩])
  (.cond (.t 18) (.seq (.reg false [⟨(some 19), .op (.mov (.t 5)), none⟩,
    ⟨(some 2), .op (.mov (.t 19)), none⟩,
    ⟨(some 3), .op (.mov (.c (.i .i64 0))), none⟩])
  (.ret)) (.skip))))
  (.seq (.reg false [⟨(some 7), .op (.mov (.c (.i .i64 0))), none⟩])
  (.seq (.seq (.reg false [⟨(some 20), .op (.mov (.t 0)), none⟩,
    ⟨(some 21), .op (.s2b (.t 20)), none⟩,
    ⟨(some 22), .op (.len false (.t 21)), none⟩,
    ⟨(some 23), .op (.mov (.c (.i .i64 0))), none⟩])
  (.blk 0 (.loop (.seq (.reg false [⟨(some 24), .op (.bin .lss (.t 23) (.t 22)), none⟩])
  (.seq (.cond (.t 24) (.skip) (.exit 0))
  (.seq (.blk 1 (.seq (.reg false [⟨(some 25), .op (.iAddrS 1 (.t 21) (.t 23)), none⟩,
    ⟨(some 26), .op (.load1 (.t 25)), none⟩,
    ⟨(some 9), .op (.mov (.t 26)), none⟩])
  (.seq (.seq (.reg false [⟨(some 27), .op (.mov (.t 9)), none⟩,
    ⟨(some 28), .op (.bin .lss (.t 27) (.c (.i .u8 48))), none⟩,
    ⟨(some 29), .op (.mov (.t 28)), none⟩,
    ⟨(some 30), .op (.mov (.t 9)), (some (29, false))⟩,
    ⟨(some 31), .op (.bin .gtr (.t 30) (.c (.i .u8 57))), (some (29, false))⟩,
    ⟨(some 32), .op (.pick (.t 29) (.c (.b true)) (.t 31)), none⟩])
  (.cond (.t 32) (.seq (.reg false [⟨(some 2), .op (.mov (.c (.i .u32 0))), none⟩,
    ⟨(some 3), .op (.mov (.c (.i .i64 160))), none⟩])
  (.ret)) (.skip)))
  (.reg false [⟨(some 33), .op (.mov (.t 7)), none⟩,
    ⟨(some 34), .op (.bin .mul (.c (.i .i64 10)) (.t 33)), none⟩,
    ⟨(some 35), .op (.mov (.t 9)), none⟩,
    ⟨(some 36), .op (.bin .sub (.t 35) (.c (.i .u8 48))), none⟩,
    ⟨(some 37), .op (.cvInt .i64 (.t 36)), none⟩,
    ⟨(some 38), .op (.bin .add (.t 34) (.t 37)), none⟩,
    ⟨(some 39), .op (.min (.t 38) (.c (.i .i64 1048576))), none⟩,
    ⟨(some 7), .op (.mov (.t 39)), none⟩]))))
  (.reg false [⟨(some 40), .op (.bin .add (.t 23) (.c (.i .i64 1))), none⟩,
    ⟨(some 23), .op (.mov (.t 40)), none⟩])))))))
  (.seq (.seq (.reg false [⟨(some 41), .op (.mov (.t 0)), none⟩,
    ⟨(some 42), .op (.len true (.t 41)), none⟩,
    ⟨(some 43), .op (.bin .lss (.t 42) (.c (.i .i64 1))), none⟩,
    ⟨(some 44), .op (.mov (.t 43)), none⟩,
    ⟨(some 45), .op (.mov (.t 0)), (some (44, false))⟩,
    ⟨(some 46), .op (.len true (.t 45)), (some (44, false))⟩,
    ⟨(some 47), .op (.bin .gtr (.t 46) (.c (.i .i64 4))), (some (44, false))⟩,
    ⟨(some 48), .op (.pick (.t 44) (.c (.b true)) (.t 47)), none⟩,
    ⟨(some 49), .op (.mov (.t 48)), none⟩,
    ⟨(some 50), .op (.mov (.t 7)), (some (49, false))⟩,
    ⟨(some 51), .op (.bin .gtr (.t 50) (.c (.i .i64 4095))), (some (49, false))⟩,
    ⟨(some 52), .op (.pick (.t 49) (.c (.b true)) (.t 51)), none⟩])
  (.cond (.t 52) (.seq (.reg false [⟨(some 2), .op (.mov (.c (.i .u32 0))), none⟩,
    ⟨(some 3), .op (.mov (.c (.i .i64 160))), none⟩])
  (.ret)) (.skip)))
  (.seq (.reg false [⟨(some 53), .op (.mov (.t 7)), none⟩,
    ⟨(some 54), .op (.cvInt .u32 (.t 53)), none⟩,
    ⟨(some 2), .op (.mov (.t 54)), none⟩,
    ⟨(some 3), .op (.mov (.c (.i .i64 0))), none⟩])
  (.ret)))))))⟩
set_option maxRecDepth 8000 in
theorem errnoN {g1 g2 : Nat} (hc : chkFn P f (ir_names_Errno g1 g2) = true) (h1 : Pure P g1 [] (.agg (tab_errnos.flatMap (rowN .u32)))) (h2 : cFind P g2 .u32) (s : List UInt8) (hs : s.length ≤ 1000000) : Pure P f [.s s] (.tup [.i .u32 (errnoM s).1, .i .i64 (errnoM s).2]) := by
  refine Pure.mk hc rfl ?_
  simp only [ir_names_Errno, argsT, H0, mkT, mkH, trL, List.length_cons, List.length_nil, Nat.reduceAdd, Nat.zero_add]
  simp only [↓vA, ↓vE, ↓vO, ↓vB, ↓vF, ↓vM, ↓vR, ↓vX, cvF_pc, vP, shb, shv, shvs, she_nil, she_cons, vC, vQ, Nat.reduceEqDiff, ↓reduceIte, eq_self, Nat.reduceAdd, Nat.reduceMul, Nat.reduceSub, Nat.reduceLeDiff, Nat.reduceLT, defd, cellsOf, wr, packR, Int.reduceLE, Int.reduceLT, Int.reduceEq, Int.cast_ofNat_Int, Int.reduceToNat]
  refine h1.sc ?_
  simp only [↓vA, ↓vE, ↓vO, ↓vB, ↓vF, ↓vM, ↓vR, ↓vX, cvF_pc, vP, shb, shv, shvs, she_nil, she_cons, vC, vQ, Nat.reduceEqDiff, ↓reduceIte, eq_self, Nat.reduceAdd, Nat.reduceMul, Nat.reduceSub, Nat.reduceLeDiff, Nat.reduceLT, defd, cellsOf, wr, packR, Int.reduceLE, Int.reduceLT, Int.reduceEq, Int.cast_ofNat_Int, Int.reduceToNat, tab_errnos, rowN, List.flatMap_cons, List.flatMap_nil]
  refine (h2 tab_errnos s 160 (by decide)).lend (vs' := [.fz 15 (tab_errnos.flatMap (rowN .u32)), .s s, .i .i64 160]) ?_ (findN_flat _) ?_
  · refine .cons _ _ _ _ (.cut 2 rfl (Nat.le_refl _) ?_) (.cons _ _ _ _ (.s _) (.cons _ _ _ _ (.i _ _) .nil))
    simp [vW, bw_map, mapAt_map, mapClo_it, mapClo_nil, mapClo_cons, vP, vZ, Tr.get_set, tab_errnos, rowN]
  rw [findN_P]
  by_cases he : (findP s 160 tab_errnos).2 = 0
  · simp only [↓vA, ↓vE, ↓vO, ↓vB, ↓vF, ↓vM, ↓vR, ↓vX, cvF_pc, vP, shb, shv, shvs, she_nil, she_cons, vC, vQ, Nat.reduceEqDiff, ↓reduceIte, eq_self, Nat.reduceAdd, Nat.reduceMul, Nat.reduceSub, Nat.reduceLeDiff, Nat.reduceLT, defd, cellsOf, wr, packR, Int.reduceLE, Int.reduceLT, Int.reduceEq, Int.cast_ofNat_Int, Int.reduceToNat, he]
    simp [vZ, errnoM, he]
  have bcl : clos (List.map (fun c : UInt8 => AV.i .u8 (c.toNat : Int)) s) = true := clos_map fun _ => rfl
  simp only [↓vA, ↓vE, ↓vO, ↓vB, ↓vF, ↓vM, ↓vR, ↓vX, cvF_pc, vP, shb, shv, shvs, she_nil, she_cons, vC, vQ, Nat.reduceEqDiff, ↓reduceIte, eq_self, Nat.reduceAdd, Nat.reduceMul, Nat.reduceSub, Nat.reduceLeDiff, Nat.reduceLT, defd, cellsOf, wr, packR, Int.reduceLE, Int.reduceLT, Int.reduceEq, Int.cast_ofNat_Int, Int.reduceToNat, he]
  refine SL.loop (α := Nat × Nat) (fun q => [(0, .s s), (2, .i .u32 0), (3, .i .i64 0), (7, .i .i64 q.2), (21, .own 0 s.length), (22, .i .i64 s.length), (23, .i .i64 q.1)]) (fun _ => [.cells 1 true true (s.map fun c => .i .u8 (Int.ofNat c.toNat))]) (fun q => q.1 ≤ s.length ∧ q.2 ≤ 1048576 ∧ (q.1 ≤ 4 → q.2 < 10 ^ q.1 ∧ digits s 0 = digits (s.drop q.1) q.2)) (fun q => s.length - q.1) (0, 0) [1] ?_ ?_ ?_ rfl ?_ ?_
  · simp [vW, bw_map, mapAt_map, mapClo_it, mapClo_nil, mapClo_cons, vP, vZ, Tr.get_set]
  · simp [vW, bw_map, mapAt_map, mapClo_it, mapClo_nil, mapClo_cons, vP, vZ, Tr.get_set, nvs_self, bcl]
  · simp
  · exact ⟨Nat.zero_le _, by decide, fun _ => ⟨by decide, rfl⟩⟩
  rintro ⟨j, nn⟩ ⟨hj, hm, hI⟩ G ih
  dsimp only at hj hm hI ih ⊢
  simp only [argsT, H0, mkT, mkH, trL, List.length_cons, List.length_nil, Nat.reduceAdd, Nat.zero_add]
  by_cases hlt : j < s.length
  · have hx : s[j]? = some s[j] := List.getElem?_eq_getElem hlt
    have hI2 : j ≤ 4 → nn < 10 ^ j ∧ digits s 0 = if s[j].toNat < 48 ∨ 57 < s[j].toNat then none else digits (s.drop (j + 1)) (10 * nn + (s[j].toNat - 48)) := fun h => by
      have := hI h
      rwa [List.drop_eq_getElem_cons hlt, digits] at this
    clear hI
    generalize hc : s[j] = c at hI2 hx
    have hcl := UInt8.toNat_lt c
    have hbad : (c.toNat < 48 ∨ 57 < c.toNat) → errnoM s = (0, 160) := fun h => by
      by_cases hl : 4 < s.length
      · exact errno_len he hl
      · have := (hI2 (by omega)).2
        rw [if_pos h] at this
        exact errno_none he this
    by_cases h1 : (c.toNat : Int) < 48
    · have hw := hbad (.inl (by omega))
      simp only [↓vA, ↓vE, ↓vO, ↓vB, ↓vF, ↓vM, ↓vR, ↓vX, cvF_pc, vP, shb, shv, shvs, she_nil, she_cons, vC, vQ, Nat.reduceEqDiff, ↓reduceIte, eq_self, Nat.reduceAdd, Nat.reduceMul, Nat.reduceSub, Nat.reduceLeDiff, Nat.reduceLT, defd, cellsOf, wr, packR, Int.reduceLE, Int.reduceLT, Int.reduceEq, Int.cast_ofNat_Int, Int.reduceToNat, hlt, hx, List.getElem?_map, Option.map_some, Nat.mul_one, Int.ofNat_eq_natCast, h1]
      simp [vZ, hw]
    by_cases h2 : (57 : Int) < c.toNat
    · have hw := hbad (.inr (by omega))
      simp only [↓vA, ↓vE, ↓vO, ↓vB, ↓vF, ↓vM, ↓vR, ↓vX, cvF_pc, vP, shb, shv, shvs, she_nil, she_cons, vC, vQ, Nat.reduceEqDiff, ↓reduceIte, eq_self, Nat.reduceAdd, Nat.reduceMul, Nat.reduceSub, Nat.reduceLeDiff, Nat.reduceLT, defd, cellsOf, wr, packR, Int.reduceLE, Int.reduceLT, Int.reduceEq, Int.cast_ofNat_Int, Int.reduceToNat, hlt, hx, List.getElem?_map, Option.map_some, Nat.mul_one, Int.ofNat_eq_natCast, h1, h2]
      simp [vZ, hw]
    have e1 : IntKind.wrap .u8 ((c.toNat : Int) - 48) = ((c.toNat - 48 : Nat) : Int) := by rw [wrapu8 (by omega) (by omega)]; omega
    have e2 : IntKind.wrap .i64 ((c.toNat - 48 : Nat) : Int) = ((c.toNat - 48 : Nat) : Int) := wrap64 (by omega) (by omega)
    have e3 : IntKind.wrap .i64 (10 * (nn : Int)) = ((10 * nn : Nat) : Int) := by rw [wrap64 (by omega) (by omega)]; omega
    have e4 : IntKind.wrap .i64 (((10 * nn : Nat) : Int) + ((c.toNat - 48 : Nat) : Int)) = ((10 * nn + (c.toNat - 48) : Nat) : Int) := by rw [wrap64 (by omega) (by omega)]; omega
    have e5 : IntKind.wrap .i64 ((j : Int) + 1) = ((j + 1 : Nat) : Int) := by rw [wrap64 (by omega) (by omega)]; omega
    simp only [↓vA, ↓vE, ↓vO, ↓vB, ↓vF, ↓vM, ↓vR, ↓vX, cvF_pc, vP, shb, shv, shvs, she_nil, she_cons, vC, vQ, Nat.reduceEqDiff, ↓reduceIte, eq_self, Nat.reduceAdd, Nat.reduceMul, Nat.reduceSub, Nat.reduceLeDiff, Nat.reduceLT, defd, cellsOf, wr, packR, Int.reduceLE, Int.reduceLT, Int.reduceEq, Int.cast_ofNat_Int, Int.reduceToNat, hlt, hx, List.getElem?_map, Option.map_some, Nat.mul_one, Int.ofNat_eq_natCast, h1, h2, e1, e2, e3, e4, e5]
    have e6 : (if (1048576 : Int) < ((10 * nn + (c.toNat - 48) : Nat) : Int) then (1048576 : Int) else ((10 * nn + (c.toNat - 48) : Nat) : Int)) = ((min (10 * nn + (c.toNat - 48)) 1048576 : Nat) : Int) := by
      split <;> omega
    rw [e6]
    refine ih (j + 1, min (10 * nn + (c.toNat - 48)) 1048576) ⟨by dsimp only; omega, by dsimp only; omega, fun h => ?_⟩ (by dsimp only; omega) _ _ (Wk.mk _ _ [0] ?_ ?_ ?_ rfl)
    · dsimp only at h ⊢
      obtain ⟨q1, q2⟩ := hI2 (by omega)
      rw [if_neg (by omega)] at q2
      have hpow : 10 ^ (j + 1) ≤ 10 ^ 4 := Nat.pow_le_pow_right (by decide) h
      have q3 : 10 * nn + (c.toNat - 48) < 10 ^ (j + 1) := by rw [Nat.pow_succ]; omega
      have q4 : min (10 * nn + (c.toNat - 48)) 1048576 = 10 * nn + (c.toNat - 48) := by omega
      rw [q4]
      exact ⟨q3, q2⟩
    · simp [vW, bw_map, mapAt_map, mapClo_it, mapClo_nil, mapClo_cons, vP, vZ, Tr.get_set]
    · simp [vW, bw_map, mapAt_map, mapClo_it, mapClo_nil, mapClo_cons, vP, vZ, Tr.get_set, nvs_self, bcl]
    · simp
  · have ej : j = s.length := by omega
    subst ej
    by_cases h1 : (s.length : Int) < 1
    · have h0 : s = [] := List.eq_nil_of_length_eq_zero (by omega)
      simp only [↓vA, ↓vE, ↓vO, ↓vB, ↓vF, ↓vM, ↓vR, ↓vX, cvF_pc, vP, shb, shv, shvs, she_nil, she_cons, vC, vQ, Nat.reduceEqDiff, ↓reduceIte, eq_self, Nat.reduceAdd, Nat.reduceMul, Nat.reduceSub, Nat.reduceLeDiff, Nat.reduceLT, defd, cellsOf, wr, packR, Int.reduceLE, Int.reduceLT, Int.reduceEq, Int.cast_ofNat_Int, Int.reduceToNat, h1]
      have hw2 : errnoM s = (0, 160) := by
        unfold errnoM; rw [if_neg he, if_neg (by omega), if_pos h0]
      simp [vZ, hw2]
    by_cases h2 : (4 : Int) < s.length
    · have hw := errno_len he (s := s) (by omega)
      simp only [↓vA, ↓vE, ↓vO, ↓vB, ↓vF, ↓vM, ↓vR, ↓vX, cvF_pc, vP, shb, shv, shvs, she_nil, she_cons, vC, vQ, Nat.reduceEqDiff, ↓reduceIte, eq_self, Nat.reduceAdd, Nat.reduceMul, Nat.reduceSub, Nat.reduceLeDiff, Nat.reduceLT, defd, cellsOf, wr, packR, Int.reduceLE, Int.reduceLT, Int.reduceEq, Int.cast_ofNat_Int, Int.reduceToNat, h1, h2]
      simp [vZ, hw]
    obtain ⟨q1, q2⟩ := hI (by omega)
    rw [List.drop_length, digits] at q2
    have hw := errno_some he (by omega) q2
    rw [if_neg (by intro hh; rw [hh] at h1; simp at h1)] at hw
    by_cases h3 : (4095 : Int) < nn
    · rw [if_pos (by omega)] at hw
      simp only [↓vA, ↓vE, ↓vO, ↓vB, ↓vF, ↓vM, ↓vR, ↓vX, cvF_pc, vP, shb, shv, shvs, she_nil, she_cons, vC, vQ, Nat.reduceEqDiff, ↓reduceIte, eq_self, Nat.reduceAdd, Nat.reduceMul, Nat.reduceSub, Nat.reduceLeDiff, Nat.reduceLT, defd, cellsOf, wr, packR, Int.reduceLE, Int.reduceLT, Int.reduceEq, Int.cast_ofNat_Int, Int.reduceToNat, h1, h2, h3]
      simp [vZ, hw]
    · rw [if_neg (by omega)] at hw
      simp only [↓vA, ↓vE, ↓vO, ↓vB, ↓vF, ↓vM, ↓vR, ↓vX, cvF_pc, vP, shb, shv, shvs, she_nil, she_cons, vC, vQ, Nat.reduceEqDiff, ↓reduceIte, eq_self, Nat.reduceAdd, Nat.reduceMul, Nat.reduceSub, Nat.reduceLeDiff, Nat.reduceLT, defd, cellsOf, wr, packR, Int.reduceLE, Int.reduceLT, Int.reduceEq, Int.cast_ofNat_Int, Int.reduceToNat, h1, h2, h3, wrapu32 (x := (nn : Int)) (by omega) (by omega)]
      simp [vZ, hw]
end Go.Kc
end
section
/- The law FilterKeys: the program's way. Condition: the functions' texts are these. -/
namespace Go.Kc
variable {P : Program} {f : Nat}
theorem or5 : ∀ a b : Fin 64, orI .u32 327680 ((64 * a.val + b.val : Nat) : Int) = 327680 + ((64 * a.val + b.val : Nat) : Int) := by decide +kernel
theorem errnoM_ok (s : List UInt8) : 0 ≤ (errnoM s).1 ∧ (errnoM s).1 ≤ 4095 ∧ ((errnoM s).2 = 0 ∨ (errnoM s).2 = 160) := by
  have := findE s
  unfold errnoM
  repeat' split
  all_goals simp
  all_goals omega
def killW : List UInt8 := [107, 105, 108, 108]
noncomputable def errF (s : List UInt8) : Int × Int := if s = [] ∨ s = killW then (2147483648, 0) else if (errnoM s).2 = 0 then (327680 + (errnoM s).1, 0) else (0, 160)
theorem or_errno (s : List UInt8) : orI .u32 327680 (errnoM s).1 = 327680 + (errnoM s).1 := by
  obtain ⟨h0, h1, _⟩ := errnoM_ok s
  have := or5 ⟨(errnoM s).1.toNat / 64, by omega⟩ ⟨(errnoM s).1.toNat % 64, by omega⟩
  have e : ((64 * ((errnoM s).1.toNat / 64) + (errnoM s).1.toNat % 64 : Nat) : Int) = (errnoM s).1 := by omega
  simpa only [e] using this
def cErrF (P : Program) (f : Nat) : Prop := ∀ s : List UInt8, s.length ≤ 1000000 → Pure P f [.s s] (.tup [.i .u32 (errF s).1, .i .i64 (errF s).2])
def ir_filter_Errno (f_names_Errno : Nat) : IFn := ⟨[.tmp 2, .tmp 3],
  .seq (.reg false [⟨(some 2), .op (.mov (.c (.i .u32 0))), none⟩,
    ⟨(some 3), .op (.mov (.c (.i .i64 0))), none⟩])
  (.seq (.seq (.reg false [⟨(some 5), .op (.mov (.t 0)), none⟩,
    ⟨(some 6), .op (.bin .eql (.t 5) (.c (.s []))), none⟩,
    ⟨(some 7), .op (.mov (.t 6)), none⟩,
    ⟨(some 8), .op (.mov (.t 0)), (some (7, false))⟩,
    ⟨(some 9), .op (.bin .eql (.t 8) (.c (.s [107, 105, 108, 108]))), (some (7, false))⟩,
    ⟨(some 10), .op (.pick (.t 7) (.c (.b true)) (.t 9)), none⟩])
  (.cond (.t 10) (.seq (.reg false [⟨(some 2), .op (.mov (.c (.i .u32 2147483648))), none⟩,
    ⟨(some 3), .op (.mov (.c (.i .i64 0))), none⟩])
  (.ret)) (.skip)))
  (.seq (.reg false [⟨(some 12), .op (.mov (.t 0)), none⟩,
    ⟨(some 13), .callF f_names_Errno [(.t 12)], none⟩,
    ⟨(some 11), .op (.mov (.t 13)), none⟩,
    ⟨(some 14), .op (.ext (.t 11) 0), none⟩,
    ⟨(some 15), .op (.ext (.t 11) 1), none⟩,
    ⟨(some 4), .op (.mov (.t 14)), none⟩,
    ⟨(some 3), .op (.mov (.t 15)), none⟩])
  (.seq (.seq (.reg false [⟨(some 16), .op (.mov (.t 3)), none⟩,
    ⟨(some 17), .op (.bin .neq (.t 16) (.c (.i .i64 0))), none⟩])
  (.cond (.t 17) (.seq (.reg false [⟨(some 18), .op (.mov (.t 3)), none⟩,
    ⟨(some 2), .op (.mov (.c (.i .u32 0))), none⟩,
    ⟨(some 3), .op (.mov (.t 18)), none⟩])
  (.ret)) (.skip)))
  (.seq (.reg false [⟨(some 19), .op (.mov (.t 4)), none⟩,
    ⟨(some 20), .op (.bin .or (.c (.i .u32 327680)) (.t 19)), none⟩,
    ⟨(some 2), .op (.mov (.t 20)), none⟩,
    ⟨(some 3), .op (.mov (.c (.i .i64 0))), none⟩])
  (.ret)))))⟩
theorem errF_filter {g : Nat} (hc : chkFn P f (ir_filter_Errno g) = true) (hg : ∀ s : List UInt8, s.length ≤ 1000000 → Pure P g [.s s] (.tup [.i .u32 (errnoM s).1, .i .i64 (errnoM s).2])) : cErrF P f := by
  intro s hs
  obtain ⟨h0, h1, h2⟩ := errnoM_ok s
  refine Pure.mk hc (by simp [clos, clo]) ?_
  simp only [ir_filter_Errno, argsT, H0, mkT, mkH, trL, List.length_cons, List.length_nil, Nat.reduceAdd, Nat.zero_add]
  by_cases e1 : s = []
  · have hw : errF s = (2147483648, 0) := if_pos (.inl e1)
    have e1' : (s = []) = True := eq_true e1
    simp only [↓vA, ↓vE, ↓vO, ↓vB, ↓vF, ↓vM, ↓vR, ↓vX, cvF_pc, vP, shb, shv, shvs, she_nil, she_cons, vC, vQ, Nat.reduceEqDiff, ↓reduceIte, eq_self, Nat.reduceAdd, Nat.reduceMul, Nat.reduceSub, Nat.reduceLeDiff, Nat.reduceLT, defd, cellsOf, wr, packR, Int.reduceLE, Int.reduceLT, Int.reduceEq, Int.cast_ofNat_Int, Int.reduceToNat, e1']
    simp [vZ, hw]
  by_cases e2 : s = killW
  · have hw : errF s = (2147483648, 0) := if_pos (.inr e2)
    simp only [killW] at e2
    have e2' : (s = [107, 105, 108, 108]) = True := eq_true e2
    simp only [↓vA, ↓vE, ↓vO, ↓vB, ↓vF, ↓vM, ↓vR, ↓vX, cvF_pc, vP, shb, shv, shvs, she_nil, she_cons, vC, vQ, Nat.reduceEqDiff, ↓reduceIte, eq_self, Nat.reduceAdd, Nat.reduceMul, Nat.reduceSub, Nat.reduceLeDiff, Nat.reduceLT, defd, cellsOf, wr, packR, Int.reduceLE, Int.reduceLT, Int.reduceEq, Int.cast_ofNat_Int, Int.reduceToNat, e1, e2']
    simp [vZ, hw]
  have hne : ¬ (s = [] ∨ s = killW) := by intro h; rcases h with h | h; exact e1 h; exact e2 h
  have e2' : ¬ s = [107, 105, 108, 108] := e2
  simp only [↓vA, ↓vE, ↓vO, ↓vB, ↓vF, ↓vM, ↓vR, ↓vX, cvF_pc, vP, shb, shv, shvs, she_nil, she_cons, vC, vQ, Nat.reduceEqDiff, ↓reduceIte, eq_self, Nat.reduceAdd, Nat.reduceMul, Nat.reduceSub, Nat.reduceLeDiff, Nat.reduceLT, defd, cellsOf, wr, packR, Int.reduceLE, Int.reduceLT, Int.reduceEq, Int.cast_ofNat_Int, Int.reduceToNat, e1, e2']
  refine (hg s hs).sc ?_
  rcases h2 with h2 | h2
  · have hw : errF s = (327680 + (errnoM s).1, 0) := by unfold errF; rw [if_neg hne, if_pos h2]
    have hwr := wrapu32 (x := 327680 + (errnoM s).1) (by omega) (by omega)
    simp only [↓vA, ↓vE, ↓vO, ↓vB, ↓vF, ↓vM, ↓vR, ↓vX, cvF_pc, vP, shb, shv, shvs, she_nil, she_cons, vC, vQ, Nat.reduceEqDiff, ↓reduceIte, eq_self, Nat.reduceAdd, Nat.reduceMul, Nat.reduceSub, Nat.reduceLeDiff, Nat.reduceLT, defd, cellsOf, wr, packR, Int.reduceLE, Int.reduceLT, Int.reduceEq, Int.cast_ofNat_Int, Int.reduceToNat, h2, or_errno, hwr]
    simp [vZ, hw]
  · have hw : errF s = (0, 160) := by unfold errF; rw [if_neg hne, if_neg (by omega)]
    simp only [↓vA, ↓vE, ↓vO, ↓vB, ↓vF, ↓vM, ↓vR, ↓vX, cvF_pc, vP, shb, shv, shvs, she_nil, she_cons, vC, vQ, Nat.reduceEqDiff, ↓reduceIte, eq_self, Nat.reduceAdd, Nat.reduceMul, Nat.reduceSub, Nat.reduceLeDiff, Nat.reduceLT, defd, cellsOf, wr, packR, Int.reduceLE, Int.reduceLT, Int.reduceEq, Int.cast_ofNat_Int, Int.reduceToNat, h2]
    simp [vZ, hw]
def ir_vestibuleref17_Errno (f_vestibuleref10_Errno : Nat) : IFn := ⟨[.tmp 2, .tmp 3],
  .seq (.reg false [⟨(some 2), .op (.mov (.c (.i .u32 0))), none⟩,
    ⟨(some 3), .op (.mov (.c (.i .i64 0))), none⟩])
  (.seq (.seq (.reg false [⟨(some 6), .op (.mov (.t 0)), none⟩,
    ⟨(some 7), .op (.bin .eql (.t 6) (.c (.s []))), none⟩,
    ⟨(some 8), .op (.mov (.t 7)), none⟩,
    ⟨(some 9), .op (.mov (.t 0)), (some (8, false))⟩,
    ⟨(some 10), .op (.bin .eql (.t 9) (.c (.s [107, 105, 108, 108]))), (some (8, false))⟩,
    ⟨(some 11), .op (.pick (.t 8) (.c (.b true)) (.t 10)), none⟩])
  (.cond (.t 11) (.seq (.reg false [⟨(some 2), .op (.mov (.c (.i .u32 2147483648))), none⟩,
    ⟨(some 3), .op (.mov (.c (.i .i64 0))), none⟩])
  (.ret)) (.skip)))
  (.seq (.reg false [⟨(some 13), .op (.mov (.t 0)), none⟩,
    ⟨(some 14), .callF f_vestibuleref10_Errno [(.t 13)], none⟩,
    ⟨(some 12), .op (.mov (.t 14)), none⟩,
    ⟨(some 15), .op (.ext (.t 12) 0), none⟩,
    ⟨(some 16), .op (.ext (.t 12) 1), none⟩,
    ⟨(some 4), .op (.mov (.t 15)), none⟩,
    ⟨(some 5), .op (.mov (.t 16)), none⟩])
  (.seq (.seq (.reg false [⟨(some 17), .op (.mov (.t 5)), none⟩,
    ⟨(some 18), .op (.bin .neq (.t 17) (.c (.i .i64 0))), none⟩])
  (.cond (.t 18) (.seq (.reg false [⟨(some 2), .op (.mov (.c (.i .u32 0))), none⟩,
    ⟨(some 3), .op (.mov (.c (.i .i64 160))), none⟩])
  (.ret)) (.skip)))
  (.seq (.reg false [⟨(some 19), .op (.mov (.t 4)), none⟩,
    ⟨(some 20), .op (.bin .add (.c (.i .u32 327680)) (.t 19)), none⟩,
    ⟨(some 2), .op (.mov (.t 20)), none⟩,
    ⟨(some 3), .op (.mov (.c (.i .i64 0))), none⟩])
  (.ret)))))⟩
theorem errF_vestibuleref17 {g : Nat} (hc : chkFn P f (ir_vestibuleref17_Errno g) = true) (hg : ∀ s : List UInt8, s.length ≤ 1000000 → Pure P g [.s s] (.tup [.i .u32 (errnoM s).1, .i .i64 (errnoM s).2])) : cErrF P f := by
  intro s hs
  obtain ⟨h0, h1, h2⟩ := errnoM_ok s
  refine Pure.mk hc (by simp [clos, clo]) ?_
  simp only [ir_vestibuleref17_Errno, argsT, H0, mkT, mkH, trL, List.length_cons, List.length_nil, Nat.reduceAdd, Nat.zero_add]
  by_cases e1 : s = []
  · have hw : errF s = (2147483648, 0) := if_pos (.inl e1)
    have e1' : (s = []) = True := eq_true e1
    simp only [↓vA, ↓vE, ↓vO, ↓vB, ↓vF, ↓vM, ↓vR, ↓vX, cvF_pc, vP, shb, shv, shvs, she_nil, she_cons, vC, vQ, Nat.reduceEqDiff, ↓reduceIte, eq_self, Nat.reduceAdd, Nat.reduceMul, Nat.reduceSub, Nat.reduceLeDiff, Nat.reduceLT, defd, cellsOf, wr, packR, Int.reduceLE, Int.reduceLT, Int.reduceEq, Int.cast_ofNat_Int, Int.reduceToNat, e1']
    simp [vZ, hw]
  by_cases e2 : s = killW
  · have hw : errF s = (2147483648, 0) := if_pos (.inr e2)
    simp only [killW] at e2
    have e2' : (s = [107, 105, 108, 108]) = True := eq_true e2
    simp only [↓vA, ↓vE, ↓vO, ↓vB, ↓vF, ↓vM, ↓vR, ↓vX, cvF_pc, vP, shb, shv, shvs, she_nil, she_cons, vC, vQ, Nat.reduceEqDiff, ↓reduceIte, eq_self, Nat.reduceAdd, Nat.reduceMul, Nat.reduceSub, Nat.reduceLeDiff, Nat.reduceLT, defd, cellsOf, wr, packR, Int.reduceLE, Int.reduceLT, Int.reduceEq, Int.cast_ofNat_Int, Int.reduceToNat, e1, e2']
    simp [vZ, hw]
  have hne : ¬ (s = [] ∨ s = killW) := by intro h; rcases h with h | h; exact e1 h; exact e2 h
  have e2' : ¬ s = [107, 105, 108, 108] := e2
  simp only [↓vA, ↓vE, ↓vO, ↓vB, ↓vF, ↓vM, ↓vR, ↓vX, cvF_pc, vP, shb, shv, shvs, she_nil, she_cons, vC, vQ, Nat.reduceEqDiff, ↓reduceIte, eq_self, Nat.reduceAdd, Nat.reduceMul, Nat.reduceSub, Nat.reduceLeDiff, Nat.reduceLT, defd, cellsOf, wr, packR, Int.reduceLE, Int.reduceLT, Int.reduceEq, Int.cast_ofNat_Int, Int.reduceToNat, e1, e2']
  refine (hg s hs).sc ?_
  rcases h2 with h2 | h2
  · have hw : errF s = (327680 + (errnoM s).1, 0) := by unfold errF; rw [if_neg hne, if_pos h2]
    have hwr := wrapu32 (x := 327680 + (errnoM s).1) (by omega) (by omega)
    simp only [↓vA, ↓vE, ↓vO, ↓vB, ↓vF, ↓vM, ↓vR, ↓vX, cvF_pc, vP, shb, shv, shvs, she_nil, she_cons, vC, vQ, Nat.reduceEqDiff, ↓reduceIte, eq_self, Nat.reduceAdd, Nat.reduceMul, Nat.reduceSub, Nat.reduceLeDiff, Nat.reduceLT, defd, cellsOf, wr, packR, Int.reduceLE, Int.reduceLT, Int.reduceEq, Int.cast_ofNat_Int, Int.reduceToNat, h2, or_errno, hwr]
    simp [vZ, hw]
  · have hw : errF s = (0, 160) := by unfold errF; rw [if_neg hne, if_neg (by omega)]
    simp only [↓vA, ↓vE, ↓vO, ↓vB, ↓vF, ↓vM, ↓vR, ↓vX, cvF_pc, vP, shb, shv, shvs, she_nil, she_cons, vC, vQ, Nat.reduceEqDiff, ↓reduceIte, eq_self, Nat.reduceAdd, Nat.reduceMul, Nat.reduceSub, Nat.reduceLeDiff, Nat.reduceLT, defd, cellsOf, wr, packR, Int.reduceLE, Int.reduceLT, Int.reduceEq, Int.cast_ofNat_Int, Int.reduceToNat, h2]
    simp [vZ, hw]
def kFilter : List UInt8 := [83, 121, 115, 116, 101, 109, 67, 97, 108, 108, 70, 105, 108, 116, 101, 114]
def kLog : List UInt8 := [83, 121, 115, 116, 101, 109, 67, 97, 108, 108, 76, 111, 103]
def kErr : List UInt8 := [83, 121, 115, 116, 101, 109, 67, 97, 108, 108, 69, 114, 114, 111, 114, 78, 117, 109, 98, 101, 114]
def keyF (k : List UInt8) : Bool := decide (k = kFilter) || decide (k = kLog) || decide (k = kErr)
def keysF (l g1 g2 g3 : Nat) : List (AV × AV) := [(.s kFilter, .fn l [] [.pf [.fn g1 [] []] 0, .pf [.b true] 0]), (.s kLog, .fn l [] [.pf [.fn g2 [] []] 0, .pf [.b false] 0]), (.s kErr, .fn g3 [] [])]
def ir_filter_keys (f_filter_list f_filter_keys_1 f_filter_keys_2 f_filter_keys_3 : Nat) : IFn := ⟨[.tmp 0],
  .seq (.reg false [⟨(some 0), .op (.mov (.c (.nilm))), none⟩])
  (.seq (.reg false [⟨(some 1), .op (.mkM), none⟩,
    ⟨(some 2), .callF f_filter_list [(.c (.fn f_filter_keys_1 [] [])), (.c (.b true))], none⟩,
    ⟨none, .op (.updM none (.t 1) (.c (.s [83, 121, 115, 116, 101, 109, 67, 97, 108, 108, 70, 105, 108, 116, 101, 114])) (.t 2)), none⟩,
    ⟨(some 3), .callF f_filter_list [(.c (.fn f_filter_keys_2 [] [])), (.c (.b false))], none⟩,
    ⟨none, .op (.updM none (.t 1) (.c (.s [83, 121, 115, 116, 101, 109, 67, 97, 108, 108, 76, 111, 103])) (.t 3)), none⟩,
    ⟨none, .op (.updM none (.t 1) (.c (.s [83, 121, 115, 116, 101, 109, 67, 97, 108, 108, 69, 114, 114, 111, 114, 78, 117, 109, 98, 101, 114])) (.c (.fn f_filter_keys_3 [] []))), none⟩,
    ⟨(some 4), .op (.mov (.t 1)), none⟩,
    ⟨(some 0), .op (.mov (.t 4)), none⟩])
  (.ret))⟩
theorem keysF_own {g0 g1 g2 g3 l : Nat} (hc : chkFn P f (ir_filter_keys g0 g1 g2 g3) = true) (h : ∀ (g : Nat) (b : Bool), Pure P g0 [.fn g [] [], .b b] (.fn l [] [.pf [.fn g [] []] 0, .pf [.b b] 0])) : Own P f [] (.map 0) [.map (keysF l g1 g2 g3)] := by
  refine Own.mk hc rfl ?_
  simp only [ir_filter_keys, argsT, H0, mkT, mkH, trL, List.length_cons, List.length_nil, Nat.reduceAdd, Nat.zero_add]
  simp (decide := true) only [↓vA, ↓vE, ↓vO, ↓vB, ↓vF, ↓vM, ↓vR, ↓vX, cvF_pc, vP, shb, shv, shvs, she_nil, she_cons, vC, vQ, Nat.reduceEqDiff, ↓reduceIte, eq_self, Nat.reduceAdd, Nat.reduceMul, Nat.reduceSub, Nat.reduceLeDiff, Nat.reduceLT, defd, cellsOf, wr, packR, Int.reduceLE, Int.reduceLT, Int.reduceEq, Int.cast_ofNat_Int, Int.reduceToNat]
  refine (h g1 true).sc ?_
  simp (decide := true) only [↓vA, ↓vE, ↓vO, ↓vB, ↓vF, ↓vM, ↓vR, ↓vX, cvF_pc, vP, shb, shv, shvs, she_nil, she_cons, vC, vQ, Nat.reduceEqDiff, ↓reduceIte, eq_self, Nat.reduceAdd, Nat.reduceMul, Nat.reduceSub, Nat.reduceLeDiff, Nat.reduceLT, defd, cellsOf, wr, packR, Int.reduceLE, Int.reduceLT, Int.reduceEq, Int.cast_ofNat_Int, Int.reduceToNat]
  refine (h g2 false).sc ?_
  simp (decide := true) only [↓vA, ↓vE, ↓vO, ↓vB, ↓vF, ↓vM, ↓vR, ↓vX, cvF_pc, vP, shb, shv, shvs, she_nil, she_cons, vC, vQ, Nat.reduceEqDiff, ↓reduceIte, eq_self, Nat.reduceAdd, Nat.reduceMul, Nat.reduceSub, Nat.reduceLeDiff, Nat.reduceLT, defd, cellsOf, wr, packR, Int.reduceLE, Int.reduceLT, Int.reduceEq, Int.cast_ofNat_Int, Int.reduceToNat]
  intro _
  refine ⟨[0], ?_⟩
  simp [vW, bw_map, mapAt_map, mapClo_it, mapClo_nil, mapClo_cons, vP, vZ, Tr.get_set, keysF, kFilter, kLog, kErr, clo, clos]
def ir_filter_Key (f_filter_keys : Nat) : IFn := ⟨[.tmp 2],
  .seq (.reg false [⟨(some 2), .op (.mov (.c (.b false))), none⟩])
  (.seq (.reg false [⟨(some 6), .callF f_filter_keys [], none⟩,
    ⟨(some 7), .op (.mov (.t 0)), none⟩,
    ⟨(some 8), .op (.lookM none true (.nilf) (.t 6) (.t 7)), none⟩,
    ⟨(some 5), .op (.mov (.t 8)), none⟩,
    ⟨(some 9), .op (.ext (.t 5) 0), none⟩,
    ⟨(some 10), .op (.ext (.t 5) 1), none⟩,
    ⟨(some 3), .op (.mov (.t 9)), none⟩,
    ⟨(some 4), .op (.mov (.t 10)), none⟩])
  (.seq (.reg false [⟨(some 11), .op (.mov (.t 4)), none⟩,
    ⟨(some 2), .op (.mov (.t 11)), none⟩])
  (.ret)))⟩
theorem keyF_pure {g1 l m1 m2 m3 : Nat} (hc : chkFn P f (ir_filter_Key g1) = true) (h2 : Own P g1 [] (.map 0) [.map (keysF l m1 m2 m3)]) (k : List UInt8) : Pure P f [.s k] (.b (keyF k)) := by
  refine Pure.mk hc rfl ?_
  simp only [ir_filter_Key, argsT, H0, mkT, mkH, trL, List.length_cons, List.length_nil, Nat.reduceAdd, Nat.zero_add]
  simp only [↓vA, ↓vE, ↓vO, ↓vB, ↓vF, ↓vM, ↓vR, ↓vX, cvF_pc, vP, shb, shv, shvs, she_nil, she_cons, vC, vQ, Nat.reduceEqDiff, ↓reduceIte, eq_self, Nat.reduceAdd, Nat.reduceMul, Nat.reduceSub, Nat.reduceLeDiff, Nat.reduceLT, defd, cellsOf, wr, packR, Int.reduceLE, Int.reduceLT, Int.reduceEq, Int.cast_ofNat_Int, Int.reduceToNat]
  refine h2.sc ?_
  simp only [pushs_cons, pushs_nil, push_mk, shb, shv, shvs, she_nil, she_cons, List.map_cons, List.map_nil, up_mk, down_mk, Nat.reduceAdd, Nat.zero_add, keysF]
  simp only [↓vA, ↓vE, ↓vO, ↓vB, ↓vF, ↓vM, ↓vR, ↓vX, cvF_pc, vP, shb, shv, shvs, she_nil, she_cons, vC, vQ, Nat.reduceEqDiff, ↓reduceIte, eq_self, Nat.reduceAdd, Nat.reduceMul, Nat.reduceSub, Nat.reduceLeDiff, Nat.reduceLT, defd, cellsOf, wr, packR, Int.reduceLE, Int.reduceLT, Int.reduceEq, Int.cast_ofNat_Int, Int.reduceToNat]
  unfold keyF
  repeat' split
  all_goals simp_all [vZ, kFilter, kLog, kErr]
def ir_vestibuleref17_Key : IFn := ⟨[.tmp 2],
  .seq (.reg false [⟨(some 2), .op (.mov (.c (.b false))), none⟩])
  (.seq (.reg false [⟨(some 3), .op (.mov (.t 0)), none⟩,
    ⟨(some 4), .op (.bin .eql (.t 3) (.c (.s [83, 121, 115, 116, 101, 109, 67, 97, 108, 108, 70, 105, 108, 116, 101, 114]))), none⟩,
    ⟨(some 5), .op (.mov (.t 4)), none⟩,
    ⟨(some 6), .op (.mov (.t 0)), (some (5, false))⟩,
    ⟨(some 7), .op (.bin .eql (.t 6) (.c (.s [83, 121, 115, 116, 101, 109, 67, 97, 108, 108, 76, 111, 103]))), (some (5, false))⟩,
    ⟨(some 8), .op (.pick (.t 5) (.c (.b true)) (.t 7)), none⟩,
    ⟨(some 9), .op (.mov (.t 8)), none⟩,
    ⟨(some 10), .op (.mov (.t 0)), (some (9, false))⟩,
    ⟨(some 11), .op (.bin .eql (.t 10) (.c (.s [83, 121, 115, 116, 101, 109, 67, 97, 108, 108, 69, 114, 114, 111, 114, 78, 117, 109, 98, 101, 114]))), (some (9, false))⟩,
    ⟨(some 12), .op (.pick (.t 9) (.c (.b true)) (.t 11)), none⟩,
    ⟨(some 2), .op (.mov (.t 12)), none⟩])
  (.ret))⟩
theorem key17 (hc : chkFn P f ir_vestibuleref17_Key = true) (k : List UInt8) : Pure P f [.s k] (.b (keyF k)) := by
  refine Pure.mk hc rfl ?_
  simp only [ir_vestibuleref17_Key, argsT, H0, mkT, mkH, trL, List.length_cons, List.length_nil, Nat.reduceAdd, Nat.zero_add]
  by_cases h1 : k = kFilter
  · have hw : keyF k = true := by simp [keyF, h1]
    simp (decide := true) only [↓vA, ↓vE, ↓vO, ↓vB, ↓vF, ↓vM, ↓vR, ↓vX, cvF_pc, vP, shb, shv, shvs, she_nil, she_cons, vC, vQ, Nat.reduceEqDiff, ↓reduceIte, eq_self, Nat.reduceAdd, Nat.reduceMul, Nat.reduceSub, Nat.reduceLeDiff, Nat.reduceLT, defd, cellsOf, wr, packR, Int.reduceLE, Int.reduceLT, Int.reduceEq, Int.cast_ofNat_Int, Int.reduceToNat, h1, kFilter]
    simp [vZ, ← hw, h1, kFilter]
  by_cases h2 : k = kLog
  · have hw : keyF k = true := by simp [keyF, h2]
    simp (decide := true) only [↓vA, ↓vE, ↓vO, ↓vB, ↓vF, ↓vM, ↓vR, ↓vX, cvF_pc, vP, shb, shv, shvs, she_nil, she_cons, vC, vQ, Nat.reduceEqDiff, ↓reduceIte, eq_self, Nat.reduceAdd, Nat.reduceMul, Nat.reduceSub, Nat.reduceLeDiff, Nat.reduceLT, defd, cellsOf, wr, packR, Int.reduceLE, Int.reduceLT, Int.reduceEq, Int.cast_ofNat_Int, Int.reduceToNat, h2, kLog]
    simp [vZ, ← hw, h2, kLog]
  have h1' : ¬ k = [83, 121, 115, 116, 101, 109, 67, 97, 108, 108, 70, 105, 108, 116, 101, 114] := h1
  have h2' : ¬ k = [83, 121, 115, 116, 101, 109, 67, 97, 108, 108, 76, 111, 103] := h2
  by_cases h3 : k = kErr
  · have hw : keyF k = true := by simp [keyF, h3]
    simp (decide := true) only [↓vA, ↓vE, ↓vO, ↓vB, ↓vF, ↓vM, ↓vR, ↓vX, cvF_pc, vP, shb, shv, shvs, she_nil, she_cons, vC, vQ, Nat.reduceEqDiff, ↓reduceIte, eq_self, Nat.reduceAdd, Nat.reduceMul, Nat.reduceSub, Nat.reduceLeDiff, Nat.reduceLT, defd, cellsOf, wr, packR, Int.reduceLE, Int.reduceLT, Int.reduceEq, Int.cast_ofNat_Int, Int.reduceToNat, h3, kErr]
    simp [vZ, ← hw, h3, kErr]
  have h3' : ¬ k = [83, 121, 115, 116, 101, 109, 67, 97, 108, 108, 69, 114, 114, 111, 114, 78, 117, 109, 98, 101, 114] := h3
  have hw : keyF k = false := by simp [keyF, h1, h2, h3]
  simp only [↓vA, ↓vE, ↓vO, ↓vB, ↓vF, ↓vM, ↓vR, ↓vX, cvF_pc, vP, shb, shv, shvs, she_nil, she_cons, vC, vQ, Nat.reduceEqDiff, ↓reduceIte, eq_self, Nat.reduceAdd, Nat.reduceMul, Nat.reduceSub, Nat.reduceLeDiff, Nat.reduceLT, defd, cellsOf, wr, packR, Int.reduceLE, Int.reduceLT, Int.reduceEq, Int.cast_ofNat_Int, Int.reduceToNat, h1', h2', h3']
  simp [vZ, hw]
def ir_vestibulelaw17_FilterKeys (f_filter_Errno f_vestibuleref17_Errno f_filter_Key f_vestibuleref17_Key f_vestibulelaw17_awake : Nat) : IFn := ⟨[.tmp 4],
  .seq (.reg false [⟨(some 4), .op (.mov (.c (.b false))), none⟩])
  (.seq (.seq (.reg false [⟨(some 9), .op (.mov (.t 0)), none⟩,
    ⟨(some 10), .op (.len true (.t 9)), none⟩,
    ⟨(some 11), .op (.bin .gtr (.t 10) (.c (.i .i64 200))), none⟩,
    ⟨(some 12), .op (.mov (.t 11)), none⟩,
    ⟨(some 13), .op (.mov (.t 1)), (some (12, false))⟩,
    ⟨(some 14), .op (.len true (.t 13)), (some (12, false))⟩,
    ⟨(some 15), .op (.bin .gtr (.t 14) (.c (.i .i64 200))), (some (12, false))⟩,
    ⟨(some 16), .op (.pick (.t 12) (.c (.b true)) (.t 15)), none⟩])
  (.cond (.t 16) (.seq (.reg false [⟨(some 4), .op (.mov (.c (.b true))), none⟩])
  (.ret)) (.skip)))
  (.seq (.reg false [⟨(some 18), .op (.mov (.t 1)), none⟩,
    ⟨(some 19), .callF f_filter_Errno [(.t 18)], none⟩,
    ⟨(some 17), .op (.mov (.t 19)), none⟩,
    ⟨(some 20), .op (.ext (.t 17) 0), none⟩,
    ⟨(some 21), .op (.ext (.t 17) 1), none⟩,
    ⟨(some 5), .op (.mov (.t 20)), none⟩,
    ⟨(some 6), .op (.mov (.t 21)), none⟩])
  (.seq (.reg false [⟨(some 23), .op (.mov (.t 1)), none⟩,
    ⟨(some 24), .callF f_vestibuleref17_Errno [(.t 23)], none⟩,
    ⟨(some 22), .op (.mov (.t 24)), none⟩,
    ⟨(some 25), .op (.ext (.t 22) 0), none⟩,
    ⟨(some 26), .op (.ext (.t 22) 1), none⟩,
    ⟨(some 7), .op (.mov (.t 25)), none⟩,
    ⟨(some 8), .op (.mov (.t 26)), none⟩])
  (.seq (.reg false [⟨(some 27), .op (.mov (.t 0)), none⟩,
    ⟨(some 28), .callF f_filter_Key [(.t 27)], none⟩,
    ⟨(some 29), .op (.mov (.t 0)), none⟩,
    ⟨(some 30), .callF f_vestibuleref17_Key [(.t 29)], none⟩,
    ⟨(some 31), .op (.eqB false (.t 28) (.t 30)), none⟩,
    ⟨(some 32), .op (.mov (.t 31)), none⟩,
    ⟨(some 33), .op (.mov (.t 5)), (some (32, true))⟩,
    ⟨(some 34), .op (.mov (.t 7)), (some (32, true))⟩,
    ⟨(some 35), .op (.bin .eql (.t 33) (.t 34)), (some (32, true))⟩,
    ⟨(some 36), .op (.pick (.t 32) (.t 35) (.c (.b false))), none⟩,
    ⟨(some 37), .op (.mov (.t 36)), none⟩,
    ⟨(some 38), .op (.mov (.t 6)), (some (37, true))⟩,
    ⟨(some 39), .op (.mov (.t 8)), (some (37, true))⟩,
    ⟨(some 40), .op (.bin .eql (.t 38) (.t 39)), (some (37, true))⟩,
    ⟨(some 41), .op (.pick (.t 37) (.t 40) (.c (.b false))), none⟩,
    ⟨(some 42), .op (.mov (.t 41)), none⟩,
    ⟨(some 43), .callF f_vestibulelaw17_awake [], (some (42, true))⟩,
    ⟨(some 44), .op (.pick (.t 42) (.t 43) (.c (.b false))), none⟩,
    ⟨(some 4), .op (.mov (.t 44)), none⟩])
  (.ret)))))⟩
theorem filterKeys {g1 g2 g3 g4 g5 : Nat} (hc : chkFn P f (ir_vestibulelaw17_FilterKeys g1 g2 g3 g4 g5) = true) (h1 : cErrF P g1) (h2 : cErrF P g2) (h3 : ∀ k, Pure P g3 [.s k] (.b (keyF k))) (h4 : ∀ k, Pure P g4 [.s k] (.b (keyF k))) (h5 : Pure P g5 [] (.b true))
    (k v : List UInt8) : Pure P f [.s k, .s v] (.b true) := by
  refine Pure.mk hc rfl ?_
  simp only [ir_vestibulelaw17_FilterKeys, argsT, H0, mkT, mkH, trL, List.length_cons, List.length_nil, Nat.reduceAdd, Nat.zero_add]
  by_cases e1 : (200 : Int) < k.length
  · simp only [↓vA, ↓vE, ↓vO, ↓vB, ↓vF, ↓vM, ↓vR, ↓vX, cvF_pc, vP, shb, shv, shvs, she_nil, she_cons, vC, vQ, Nat.reduceEqDiff, ↓reduceIte, eq_self, Nat.reduceAdd, Nat.reduceMul, Nat.reduceSub, Nat.reduceLeDiff, Nat.reduceLT, defd, cellsOf, wr, packR, Int.reduceLE, Int.reduceLT, Int.reduceEq, Int.cast_ofNat_Int, Int.reduceToNat, e1]
    simp [vZ]
  by_cases e2 : (200 : Int) < v.length
  · simp only [↓vA, ↓vE, ↓vO, ↓vB, ↓vF, ↓vM, ↓vR, ↓vX, cvF_pc, vP, shb, shv, shvs, she_nil, she_cons, vC, vQ, Nat.reduceEqDiff, ↓reduceIte, eq_self, Nat.reduceAdd, Nat.reduceMul, Nat.reduceSub, Nat.reduceLeDiff, Nat.reduceLT, defd, cellsOf, wr, packR, Int.reduceLE, Int.reduceLT, Int.reduceEq, Int.cast_ofNat_Int, Int.reduceToNat, e1, e2]
    simp [vZ]
  simp only [↓vA, ↓vE, ↓vO, ↓vB, ↓vF, ↓vM, ↓vR, ↓vX, cvF_pc, vP, shb, shv, shvs, she_nil, she_cons, vC, vQ, Nat.reduceEqDiff, ↓reduceIte, eq_self, Nat.reduceAdd, Nat.reduceMul, Nat.reduceSub, Nat.reduceLeDiff, Nat.reduceLT, defd, cellsOf, wr, packR, Int.reduceLE, Int.reduceLT, Int.reduceEq, Int.cast_ofNat_Int, Int.reduceToNat, e1, e2]
  refine (h1 v (by omega)).sc ?_
  simp only [↓vA, ↓vE, ↓vO, ↓vB, ↓vF, ↓vM, ↓vR, ↓vX, cvF_pc, vP, shb, shv, shvs, she_nil, she_cons, vC, vQ, Nat.reduceEqDiff, ↓reduceIte, eq_self, Nat.reduceAdd, Nat.reduceMul, Nat.reduceSub, Nat.reduceLeDiff, Nat.reduceLT, defd, cellsOf, wr, packR, Int.reduceLE, Int.reduceLT, Int.reduceEq, Int.cast_ofNat_Int, Int.reduceToNat]
  refine (h2 v (by omega)).sc ?_
  simp only [↓vA, ↓vE, ↓vO, ↓vB, ↓vF, ↓vM, ↓vR, ↓vX, cvF_pc, vP, shb, shv, shvs, she_nil, she_cons, vC, vQ, Nat.reduceEqDiff, ↓reduceIte, eq_self, Nat.reduceAdd, Nat.reduceMul, Nat.reduceSub, Nat.reduceLeDiff, Nat.reduceLT, defd, cellsOf, wr, packR, Int.reduceLE, Int.reduceLT, Int.reduceEq, Int.cast_ofNat_Int, Int.reduceToNat]
  refine (h3 k).sc ?_
  simp only [↓vA, ↓vE, ↓vO, ↓vB, ↓vF, ↓vM, ↓vR, ↓vX, cvF_pc, vP, shb, shv, shvs, she_nil, she_cons, vC, vQ, Nat.reduceEqDiff, ↓reduceIte, eq_self, Nat.reduceAdd, Nat.reduceMul, Nat.reduceSub, Nat.reduceLeDiff, Nat.reduceLT, defd, cellsOf, wr, packR, Int.reduceLE, Int.reduceLT, Int.reduceEq, Int.cast_ofNat_Int, Int.reduceToNat]
  refine (h4 k).sc ?_
  simp only [↓vA, ↓vE, ↓vO, ↓vB, ↓vF, ↓vM, ↓vR, ↓vX, cvF_pc, vP, shb, shv, shvs, she_nil, she_cons, vC, vQ, Nat.reduceEqDiff, ↓reduceIte, eq_self, Nat.reduceAdd, Nat.reduceMul, Nat.reduceSub, Nat.reduceLeDiff, Nat.reduceLT, defd, cellsOf, wr, packR, Int.reduceLE, Int.reduceLT, Int.reduceEq, Int.cast_ofNat_Int, Int.reduceToNat, beq_self_eq_true]
  refine h5.sc ?_
  simp only [↓vA, ↓vE, ↓vO, ↓vB, ↓vF, ↓vM, ↓vR, ↓vX, cvF_pc, vP, shb, shv, shvs, she_nil, she_cons, vC, vQ, Nat.reduceEqDiff, ↓reduceIte, eq_self, Nat.reduceAdd, Nat.reduceMul, Nat.reduceSub, Nat.reduceLeDiff, Nat.reduceLT, defd, cellsOf, wr, packR, Int.reduceLE, Int.reduceLT, Int.reduceEq, Int.cast_ofNat_Int, Int.reduceToNat, vZ]
end Go.Kc
end
