/- Part 8 of the abstract machine and of the functions' walks. Conditions: with each theorem. -/
import Derived.Test.YtdmjpfekglajoaaK7
import Derived.ChangeArms
import Derived.ReadAgain
import Derived.ChangeOld
import Derived.ChangeBears
set_option linter.unusedSimpArgs false
set_option linter.unusedVariables false
set_option linter.unnecessarySimpa false
section
/- What the setter's methods do: yes and no by their keys; architectures. Condition: the functions' texts are these. -/
namespace Go.Kc
variable {P : Program} {f : Nat}
/-- a method: what it makes of the policy, what it notes -/
def cMeth (P : Program) (f : Nat) (M : Pol → List UInt8 → Pol × List (Int × List UInt8)) : Prop := ∀ (p : Pol) (a : Asg) (ns : List GNote) (v : List UInt8), v.length ≤ 1000 → ns.length ≤ 1000 → p.arches.length ≤ 1000 → p.fams.length ≤ 1000 →
  Upd P f [.ptr 0 0, .s v] [.cells 0 true false (setC p a 1 ns.length), .cells 4 true true (rN ns)] (.tup []) (setB (M p v).1 a ns ((M p v).2.map (noteOf a)))
noncomputable def m_we (p : Pol) (v : List UInt8) : Pol × List (Int × List UInt8) := ({ p with we := (saysM v).1.getD p.we }, (saysM v).2)
def ir_restrict_setter_writeExecute (f_restrict_setter_says : Nat) : IFn := ⟨[],
  .reg false [⟨(some 4), .op (.mov (.t 0)), none⟩,
    ⟨(some 5), .op (.mov (.t 1)), none⟩,
    ⟨(some 6), .op (.mov (.t 0)), none⟩,
    ⟨(some 7), .op (.nilChk (.t 6)), none⟩,
    ⟨(some 8), .op (.fAddr 0 (.t 7)), none⟩,
    ⟨(some 9), .op (.fAddr 9 (.t 8)), none⟩,
    ⟨(some 10), .callF f_restrict_setter_says [(.t 4), (.t 5), (.t 9)], none⟩]⟩
theorem meth_we {g : Nat} (hc : chkFn P f (ir_restrict_setter_writeExecute g) = true) (h1 : cSays9 P g) : cMeth P f m_we := by
  intro p a ns v hv hn _ _
  refine Upd.mk hc (by simp [bnds, bnd]) (by unfold setB; split <;> simp) ?_
  simp only [ir_restrict_setter_writeExecute, setC, argsT, H0, mkT, mkH, trL, List.length_cons, List.length_nil, Nat.reduceAdd, Nat.zero_add]
  simp only [↓vA, ↓vE, ↓vO, ↓vB, ↓vF, ↓vM, ↓vR, ↓vX, cvF_pc, vP, shb, shv, shvs, she_nil, she_cons, vC, vQ, Nat.reduceEqDiff, ↓reduceIte, eq_self, Nat.reduceAdd, Nat.reduceMul, Nat.reduceSub, Nat.reduceLeDiff, Nat.reduceLT, defd, cellsOf, wr, packR, Int.reduceLE, Int.reduceLT, Int.reduceEq, Int.cast_ofNat_Int, Int.reduceToNat]
  refine (h1 p a ns v (by simp only [roomB]; omega)).sc (vs := [.ptr 0 0, .s v, .ptr 0 9]) [0, 1] (Lent.of (by decide) ?_) ?_
  · simp [lent_cons, lent_nil, pushs_cons, pushs_nil, push_mk, shb, shv, shvs, bnds, bnd, rnvs, rnv, gAt, vW, bw_map, mapAt_map, mapClo_it, mapClo_nil, mapClo_cons, vP, vZ, Tr.get_set, setC, bnds_clo rN_clos, rnvs_clo rN_clos, bnd_clo, clo, rnv_clo]
  unfold m_we setB
  dsimp only
  by_cases hnew : (saysM v).2.map (noteOf a) = []
  · simp only [if_pos hnew]
    simp only [backH, List.cons_append, List.nil_append, List.length_cons, List.length_nil, Nat.zero_add, Nat.reduceAdd, List.take_succ_cons, List.take_zero, List.drop_succ_cons, List.drop_zero, List.map_cons, List.map_nil, rnb, rnvs, rnv, gAt, Nat.reduceLT, ↓reduceIte, List.getD_cons_zero, List.getD_cons_succ, Nat.reduceSub, puts_cons, puts_nil, pushs_cons, pushs_nil, hput_mk, push_mk, setC, rnvs_clo rN_clos, rnv_clo, clo]
    simp only [↓vA, ↓vE, ↓vO, ↓vB, ↓vF, ↓vM, ↓vR, ↓vX, cvF_pc, vP, shb, shv, shvs, she_nil, she_cons, vC, vQ, Nat.reduceEqDiff, ↓reduceIte, eq_self, Nat.reduceAdd, Nat.reduceMul, Nat.reduceSub, Nat.reduceLeDiff, Nat.reduceLT, defd, cellsOf, wr, packR, Int.reduceLE, Int.reduceLT, Int.reduceEq, Int.cast_ofNat_Int, Int.reduceToNat]
    intro _
    refine ⟨[0, 1], ?_⟩
    simp [vW, bw_map, mapAt_map, mapClo_it, mapClo_nil, mapClo_cons, vP, vZ, Tr.get_set, nvs_self, rN_clos]
    decide
  · simp only [if_neg hnew]
    simp only [backH, List.cons_append, List.nil_append, List.length_cons, List.length_nil, Nat.zero_add, Nat.reduceAdd, List.take_succ_cons, List.take_zero, List.drop_succ_cons, List.drop_zero, List.map_cons, List.map_nil, rnb, rnvs, rnv, gAt, Nat.reduceLT, ↓reduceIte, List.getD_cons_zero, List.getD_cons_succ, Nat.reduceSub, puts_cons, puts_nil, pushs_cons, pushs_nil, hput_mk, push_mk, setC, rnvs_clo rN_clos, rnv_clo, clo]
    simp only [↓vA, ↓vE, ↓vO, ↓vB, ↓vF, ↓vM, ↓vR, ↓vX, cvF_pc, vP, shb, shv, shvs, she_nil, she_cons, vC, vQ, Nat.reduceEqDiff, ↓reduceIte, eq_self, Nat.reduceAdd, Nat.reduceMul, Nat.reduceSub, Nat.reduceLeDiff, Nat.reduceLT, defd, cellsOf, wr, packR, Int.reduceLE, Int.reduceLT, Int.reduceEq, Int.cast_ofNat_Int, Int.reduceToNat]
    intro _
    refine ⟨[0, 1, 2], ?_⟩
    simp [vW, bw_map, mapAt_map, mapClo_it, mapClo_nil, mapClo_cons, vP, vZ, Tr.get_set, nvs_self, rN_clos]
    decide
noncomputable def m_pe (p : Pol) (v : List UInt8) : Pol × List (Int × List UInt8) := ({ p with pe := (saysM v).1.getD p.pe }, (saysM v).2)
def ir_restrict_setter_personality (f_restrict_setter_says : Nat) : IFn := ⟨[],
  .reg false [⟨(some 4), .op (.mov (.t 0)), none⟩,
    ⟨(some 5), .op (.mov (.t 1)), none⟩,
    ⟨(some 6), .op (.mov (.t 0)), none⟩,
    ⟨(some 7), .op (.nilChk (.t 6)), none⟩,
    ⟨(some 8), .op (.fAddr 0 (.t 7)), none⟩,
    ⟨(some 9), .op (.fAddr 10 (.t 8)), none⟩,
    ⟨(some 10), .callF f_restrict_setter_says [(.t 4), (.t 5), (.t 9)], none⟩]⟩
theorem meth_pe {g : Nat} (hc : chkFn P f (ir_restrict_setter_personality g) = true) (h1 : cSays10 P g) : cMeth P f m_pe := by
  intro p a ns v hv hn _ _
  refine Upd.mk hc (by simp [bnds, bnd]) (by unfold setB; split <;> simp) ?_
  simp only [ir_restrict_setter_personality, setC, argsT, H0, mkT, mkH, trL, List.length_cons, List.length_nil, Nat.reduceAdd, Nat.zero_add]
  simp only [↓vA, ↓vE, ↓vO, ↓vB, ↓vF, ↓vM, ↓vR, ↓vX, cvF_pc, vP, shb, shv, shvs, she_nil, she_cons, vC, vQ, Nat.reduceEqDiff, ↓reduceIte, eq_self, Nat.reduceAdd, Nat.reduceMul, Nat.reduceSub, Nat.reduceLeDiff, Nat.reduceLT, defd, cellsOf, wr, packR, Int.reduceLE, Int.reduceLT, Int.reduceEq, Int.cast_ofNat_Int, Int.reduceToNat]
  refine (h1 p a ns v (by simp only [roomB]; omega)).sc (vs := [.ptr 0 0, .s v, .ptr 0 10]) [0, 1] (Lent.of (by decide) ?_) ?_
  · simp [lent_cons, lent_nil, pushs_cons, pushs_nil, push_mk, shb, shv, shvs, bnds, bnd, rnvs, rnv, gAt, vW, bw_map, mapAt_map, mapClo_it, mapClo_nil, mapClo_cons, vP, vZ, Tr.get_set, setC, bnds_clo rN_clos, rnvs_clo rN_clos, bnd_clo, clo, rnv_clo]
  unfold m_pe setB
  dsimp only
  by_cases hnew : (saysM v).2.map (noteOf a) = []
  · simp only [if_pos hnew]
    simp only [backH, List.cons_append, List.nil_append, List.length_cons, List.length_nil, Nat.zero_add, Nat.reduceAdd, List.take_succ_cons, List.take_zero, List.drop_succ_cons, List.drop_zero, List.map_cons, List.map_nil, rnb, rnvs, rnv, gAt, Nat.reduceLT, ↓reduceIte, List.getD_cons_zero, List.getD_cons_succ, Nat.reduceSub, puts_cons, puts_nil, pushs_cons, pushs_nil, hput_mk, push_mk, setC, rnvs_clo rN_clos, rnv_clo, clo]
    simp only [↓vA, ↓vE, ↓vO, ↓vB, ↓vF, ↓vM, ↓vR, ↓vX, cvF_pc, vP, shb, shv, shvs, she_nil, she_cons, vC, vQ, Nat.reduceEqDiff, ↓reduceIte, eq_self, Nat.reduceAdd, Nat.reduceMul, Nat.reduceSub, Nat.reduceLeDiff, Nat.reduceLT, defd, cellsOf, wr, packR, Int.reduceLE, Int.reduceLT, Int.reduceEq, Int.cast_ofNat_Int, Int.reduceToNat]
    intro _
    refine ⟨[0, 1], ?_⟩
    simp [vW, bw_map, mapAt_map, mapClo_it, mapClo_nil, mapClo_cons, vP, vZ, Tr.get_set, nvs_self, rN_clos]
    decide
  · simp only [if_neg hnew]
    simp only [backH, List.cons_append, List.nil_append, List.length_cons, List.length_nil, Nat.zero_add, Nat.reduceAdd, List.take_succ_cons, List.take_zero, List.drop_succ_cons, List.drop_zero, List.map_cons, List.map_nil, rnb, rnvs, rnv, gAt, Nat.reduceLT, ↓reduceIte, List.getD_cons_zero, List.getD_cons_succ, Nat.reduceSub, puts_cons, puts_nil, pushs_cons, pushs_nil, hput_mk, push_mk, setC, rnvs_clo rN_clos, rnv_clo, clo]
    simp only [↓vA, ↓vE, ↓vO, ↓vB, ↓vF, ↓vM, ↓vR, ↓vX, cvF_pc, vP, shb, shv, shvs, she_nil, she_cons, vC, vQ, Nat.reduceEqDiff, ↓reduceIte, eq_self, Nat.reduceAdd, Nat.reduceMul, Nat.reduceSub, Nat.reduceLeDiff, Nat.reduceLT, defd, cellsOf, wr, packR, Int.reduceLE, Int.reduceLT, Int.reduceEq, Int.cast_ofNat_Int, Int.reduceToNat]
    intro _
    refine ⟨[0, 1, 2], ?_⟩
    simp [vW, bw_map, mapAt_map, mapClo_it, mapClo_nil, mapClo_cons, vP, vZ, Tr.get_set, nvs_self, rN_clos]
    decide
noncomputable def m_rt (p : Pol) (v : List UInt8) : Pol × List (Int × List UInt8) := ({ p with rt := (saysM v).1.getD p.rt }, (saysM v).2)
def ir_restrict_setter_realtime (f_restrict_setter_says : Nat) : IFn := ⟨[],
  .reg false [⟨(some 4), .op (.mov (.t 0)), none⟩,
    ⟨(some 5), .op (.mov (.t 1)), none⟩,
    ⟨(some 6), .op (.mov (.t 0)), none⟩,
    ⟨(some 7), .op (.nilChk (.t 6)), none⟩,
    ⟨(some 8), .op (.fAddr 0 (.t 7)), none⟩,
    ⟨(some 9), .op (.fAddr 11 (.t 8)), none⟩,
    ⟨(some 10), .callF f_restrict_setter_says [(.t 4), (.t 5), (.t 9)], none⟩]⟩
theorem meth_rt {g : Nat} (hc : chkFn P f (ir_restrict_setter_realtime g) = true) (h1 : cSays11 P g) : cMeth P f m_rt := by
  intro p a ns v hv hn _ _
  refine Upd.mk hc (by simp [bnds, bnd]) (by unfold setB; split <;> simp) ?_
  simp only [ir_restrict_setter_realtime, setC, argsT, H0, mkT, mkH, trL, List.length_cons, List.length_nil, Nat.reduceAdd, Nat.zero_add]
  simp only [↓vA, ↓vE, ↓vO, ↓vB, ↓vF, ↓vM, ↓vR, ↓vX, cvF_pc, vP, shb, shv, shvs, she_nil, she_cons, vC, vQ, Nat.reduceEqDiff, ↓reduceIte, eq_self, Nat.reduceAdd, Nat.reduceMul, Nat.reduceSub, Nat.reduceLeDiff, Nat.reduceLT, defd, cellsOf, wr, packR, Int.reduceLE, Int.reduceLT, Int.reduceEq, Int.cast_ofNat_Int, Int.reduceToNat]
  refine (h1 p a ns v (by simp only [roomB]; omega)).sc (vs := [.ptr 0 0, .s v, .ptr 0 11]) [0, 1] (Lent.of (by decide) ?_) ?_
  · simp [lent_cons, lent_nil, pushs_cons, pushs_nil, push_mk, shb, shv, shvs, bnds, bnd, rnvs, rnv, gAt, vW, bw_map, mapAt_map, mapClo_it, mapClo_nil, mapClo_cons, vP, vZ, Tr.get_set, setC, bnds_clo rN_clos, rnvs_clo rN_clos, bnd_clo, clo, rnv_clo]
  unfold m_rt setB
  dsimp only
  by_cases hnew : (saysM v).2.map (noteOf a) = []
  · simp only [if_pos hnew]
    simp only [backH, List.cons_append, List.nil_append, List.length_cons, List.length_nil, Nat.zero_add, Nat.reduceAdd, List.take_succ_cons, List.take_zero, List.drop_succ_cons, List.drop_zero, List.map_cons, List.map_nil, rnb, rnvs, rnv, gAt, Nat.reduceLT, ↓reduceIte, List.getD_cons_zero, List.getD_cons_succ, Nat.reduceSub, puts_cons, puts_nil, pushs_cons, pushs_nil, hput_mk, push_mk, setC, rnvs_clo rN_clos, rnv_clo, clo]
    simp only [↓vA, ↓vE, ↓vO, ↓vB, ↓vF, ↓vM, ↓vR, ↓vX, cvF_pc, vP, shb, shv, shvs, she_nil, she_cons, vC, vQ, Nat.reduceEqDiff, ↓reduceIte, eq_self, Nat.reduceAdd, Nat.reduceMul, Nat.reduceSub, Nat.reduceLeDiff, Nat.reduceLT, defd, cellsOf, wr, packR, Int.reduceLE, Int.reduceLT, Int.reduceEq, Int.cast_ofNat_Int, Int.reduceToNat]
    intro _
    refine ⟨[0, 1], ?_⟩
    simp [vW, bw_map, mapAt_map, mapClo_it, mapClo_nil, mapClo_cons, vP, vZ, Tr.get_set, nvs_self, rN_clos]
    decide
  · simp only [if_neg hnew]
    simp only [backH, List.cons_append, List.nil_append, List.length_cons, List.length_nil, Nat.zero_add, Nat.reduceAdd, List.take_succ_cons, List.take_zero, List.drop_succ_cons, List.drop_zero, List.map_cons, List.map_nil, rnb, rnvs, rnv, gAt, Nat.reduceLT, ↓reduceIte, List.getD_cons_zero, List.getD_cons_succ, Nat.reduceSub, puts_cons, puts_nil, pushs_cons, pushs_nil, hput_mk, push_mk, setC, rnvs_clo rN_clos, rnv_clo, clo]
    simp only [↓vA, ↓vE, ↓vO, ↓vB, ↓vF, ↓vM, ↓vR, ↓vX, cvF_pc, vP, shb, shv, shvs, she_nil, she_cons, vC, vQ, Nat.reduceEqDiff, ↓reduceIte, eq_self, Nat.reduceAdd, Nat.reduceMul, Nat.reduceSub, Nat.reduceLeDiff, Nat.reduceLT, defd, cellsOf, wr, packR, Int.reduceLE, Int.reduceLT, Int.reduceEq, Int.cast_ofNat_Int, Int.reduceToNat]
    intro _
    refine ⟨[0, 1, 2], ?_⟩
    simp [vW, bw_map, mapAt_map, mapClo_it, mapClo_nil, mapClo_cons, vP, vZ, Tr.get_set, nvs_self, rN_clos]
    decide
noncomputable def m_np (p : Pol) (v : List UInt8) : Pol × List (Int × List UInt8) := ({ p with np := (saysM v).1.getD p.np }, (saysM v).2)
def ir_restrict_setter_noPrivileges (f_restrict_setter_says : Nat) : IFn := ⟨[],
  .reg false [⟨(some 4), .op (.mov (.t 0)), none⟩,
    ⟨(some 5), .op (.mov (.t 1)), none⟩,
    ⟨(some 6), .op (.mov (.t 0)), none⟩,
    ⟨(some 7), .op (.nilChk (.t 6)), none⟩,
    ⟨(some 8), .op (.fAddr 0 (.t 7)), none⟩,
    ⟨(some 9), .op (.fAddr 12 (.t 8)), none⟩,
    ⟨(some 10), .callF f_restrict_setter_says [(.t 4), (.t 5), (.t 9)], none⟩]⟩
theorem meth_np {g : Nat} (hc : chkFn P f (ir_restrict_setter_noPrivileges g) = true) (h1 : cSays12 P g) : cMeth P f m_np := by
  intro p a ns v hv hn _ _
  refine Upd.mk hc (by simp [bnds, bnd]) (by unfold setB; split <;> simp) ?_
  simp only [ir_restrict_setter_noPrivileges, setC, argsT, H0, mkT, mkH, trL, List.length_cons, List.length_nil, Nat.reduceAdd, Nat.zero_add]
  simp only [↓vA, ↓vE, ↓vO, ↓vB, ↓vF, ↓vM, ↓vR, ↓vX, cvF_pc, vP, shb, shv, shvs, she_nil, she_cons, vC, vQ, Nat.reduceEqDiff, ↓reduceIte, eq_self, Nat.reduceAdd, Nat.reduceMul, Nat.reduceSub, Nat.reduceLeDiff, Nat.reduceLT, defd, cellsOf, wr, packR, Int.reduceLE, Int.reduceLT, Int.reduceEq, Int.cast_ofNat_Int, Int.reduceToNat]
  refine (h1 p a ns v (by simp only [roomB]; omega)).sc (vs := [.ptr 0 0, .s v, .ptr 0 12]) [0, 1] (Lent.of (by decide) ?_) ?_
  · simp [lent_cons, lent_nil, pushs_cons, pushs_nil, push_mk, shb, shv, shvs, bnds, bnd, rnvs, rnv, gAt, vW, bw_map, mapAt_map, mapClo_it, mapClo_nil, mapClo_cons, vP, vZ, Tr.get_set, setC, bnds_clo rN_clos, rnvs_clo rN_clos, bnd_clo, clo, rnv_clo]
  unfold m_np setB
  dsimp only
  by_cases hnew : (saysM v).2.map (noteOf a) = []
  · simp only [if_pos hnew]
    simp only [backH, List.cons_append, List.nil_append, List.length_cons, List.length_nil, Nat.zero_add, Nat.reduceAdd, List.take_succ_cons, List.take_zero, List.drop_succ_cons, List.drop_zero, List.map_cons, List.map_nil, rnb, rnvs, rnv, gAt, Nat.reduceLT, ↓reduceIte, List.getD_cons_zero, List.getD_cons_succ, Nat.reduceSub, puts_cons, puts_nil, pushs_cons, pushs_nil, hput_mk, push_mk, setC, rnvs_clo rN_clos, rnv_clo, clo]
    simp only [↓vA, ↓vE, ↓vO, ↓vB, ↓vF, ↓vM, ↓vR, ↓vX, cvF_pc, vP, shb, shv, shvs, she_nil, she_cons, vC, vQ, Nat.reduceEqDiff, ↓reduceIte, eq_self, Nat.reduceAdd, Nat.reduceMul, Nat.reduceSub, Nat.reduceLeDiff, Nat.reduceLT, defd, cellsOf, wr, packR, Int.reduceLE, Int.reduceLT, Int.reduceEq, Int.cast_ofNat_Int, Int.reduceToNat]
    intro _
    refine ⟨[0, 1], ?_⟩
    simp [vW, bw_map, mapAt_map, mapClo_it, mapClo_nil, mapClo_cons, vP, vZ, Tr.get_set, nvs_self, rN_clos]
    decide
  · simp only [if_neg hnew]
    simp only [backH, List.cons_append, List.nil_append, List.length_cons, List.length_nil, Nat.zero_add, Nat.reduceAdd, List.take_succ_cons, List.take_zero, List.drop_succ_cons, List.drop_zero, List.map_cons, List.map_nil, rnb, rnvs, rnv, gAt, Nat.reduceLT, ↓reduceIte, List.getD_cons_zero, List.getD_cons_succ, Nat.reduceSub, puts_cons, puts_nil, pushs_cons, pushs_nil, hput_mk, push_mk, setC, rnvs_clo rN_clos, rnv_clo, clo]
    simp only [↓vA, ↓vE, ↓vO, ↓vB, ↓vF, ↓vM, ↓vR, ↓vX, cvF_pc, vP, shb, shv, shvs, she_nil, she_cons, vC, vQ, Nat.reduceEqDiff, ↓reduceIte, eq_self, Nat.reduceAdd, Nat.reduceMul, Nat.reduceSub, Nat.reduceLeDiff, Nat.reduceLT, defd, cellsOf, wr, packR, Int.reduceLE, Int.reduceLT, Int.reduceEq, Int.cast_ofNat_Int, Int.reduceToNat]
    intro _
    refine ⟨[0, 1, 2], ?_⟩
    simp [vW, bw_map, mapAt_map, mapClo_it, mapClo_nil, mapClo_cons, vP, vZ, Tr.get_set, nvs_self, rN_clos]
    decide
def cWith64 (P : Program) (f : Nat) : Prop := ∀ (l : List Int) (n : Int) (is : Bool), l.length + 1 ≤ roomB → (l.length + 1) * 8 ≤ roomB → Pure P f [.fz l.length (rI .i64 l), .i .i64 n, .b is] (.fz (withL l n is).length (rI .i64 (withL l n is)))
def cWith32 (P : Program) (f : Nat) : Prop := ∀ (l : List Int) (n : Int) (is : Bool), l.length + 1 ≤ roomB → (l.length + 1) * 8 ≤ roomB → Pure P f [.fz l.length (rI .u32 l), .i .u32 n, .b is] (.fz (withL l n is).length (rI .u32 (withL l n is)))
def cArchParse (P : Program) (f : Nat) : Prop := ∀ s, Pure P f [.s s] (.tup [.i .i64 (archM s).1, .i .i64 (archM s).2])
noncomputable def archStep (s : List Int × List (Int × List UInt8)) (w : List UInt8) : List Int × List (Int × List UInt8) :=
  if (archM w).2 = 0 then (withL s.1 (archM w).1 true, s.2) else (s.1, s.2 ++ [((archM w).2, w)])
noncomputable def m_arches (p : Pol) (v : List UInt8) : Pol × List (Int × List UInt8) :=
  let r := (words v).foldl archStep (if words v = [] then [] else p.arches, [])
  ({ p with arches := r.1 }, r.2)
theorem archStep_len (ws : List (List UInt8)) : ∀ s, (ws.foldl archStep s).1.length ≤ s.1.length + ws.length ∧ (ws.foldl archStep s).2.length ≤ s.2.length + ws.length := by
  induction ws with
  | nil => intro s; simp
  | cons w ws ih =>
    intro s
    have h := ih (archStep s w)
    have h2 : (archStep s w).1.length ≤ s.1.length + 1 ∧ (archStep s w).2.length ≤ s.2.length + 1 := by
      unfold archStep
      split
      · exact ⟨withL_len s.1 (archM w).1 true, by simp⟩
      · simp
    simp only [List.foldl_cons, List.length_cons]
    omega
def ir_restrict_setter_arches (f_values_Words f_arch_Parse f_restrict_setter_note f_restrict_with_int : Nat) : IFn := ⟨[],
  .seq (.reg false [⟨(some 9), .op (.mov (.t 1)), none⟩,
    ⟨(some 10), .callF f_values_Words [(.t 9)], none⟩,
    ⟨(some 4), .op (.mov (.t 10)), none⟩])
  (.seq (.seq (.reg false [⟨(some 11), .op (.mov (.t 4)), none⟩,
    ⟨(some 12), .op (.len false (.t 11)), none⟩,
    ⟨(some 13), .op (.bin .eql (.t 12) (.c (.i .i64 0))), none⟩])
  (.cond (.t 13) (.reg false [⟨(some 14), .op (.mov (.t 0)), none⟩,
    ⟨(some 15), .op (.nilChk (.t 14)), none⟩,
    ⟨(some 16), .op (.fAddr 0 (.t 15)), none⟩,
    ⟨(some 17), .op (.fAddr 0 (.t 16)), none⟩,
    ⟨none, .op (.store 1 (.t 17) (.c (.nils))), none⟩]) (.skip)))
  (.seq (.reg false [⟨(some 18), .op (.mov (.t 4)), none⟩,
    ⟨(some 19), .op (.len false (.t 18)), none⟩,
    ⟨(some 20), .op (.mov (.c (.i .i64 0))), none⟩])
  (.blk 0 (.loop (.seq (.reg false [⟨(some 21), .op (.bin .lss (.t 20) (.t 19)), none⟩])
  (.seq (.cond (.t 21) (.skip) (.exit 0))
  (.seq (.blk 1 (.seq (.reg false [⟨(some 22), .op (.iAddrS 1 (.t 18) (.t 20)), none⟩,
    ⟨(some 23), .op (.load1 (.t 22)), none⟩,
    ⟨(some 6), .op (.mov (.t 23)), none⟩])
  (.seq (.reg false [⟨(some 25), .op (.mov (.t 6)), none⟩,
    ⟨(some 26), .callF f_arch_Parse [(.t 25)], none⟩,
    ⟨(some 24), .op (.mov (.t 26)), none⟩,
    ⟨(some 27), .op (.ext (.t 24) 0), none⟩,
    ⟨(some 28), .op (.ext (.t 24) 1), none⟩,
    ⟨(some 7), .op (.mov (.t 27)), none⟩,
    ⟨(some 8), .op (.mov (.t 28)), none⟩])
  (.seq (.reg false [⟨(some 29), .op (.mov (.t 8)), none⟩,
    ⟨(some 30), .op (.bin .neq (.t 29) (.c (.i .i64 0))), none⟩])
  (.cond (.t 30) (.reg false [⟨(some 31), .op (.mov (.t 0)), none⟩,
    ⟨(some 32), .op (.mov (.t 8)), none⟩,
    ⟨(some 33), .op (.mov (.t 6)), none⟩,
    ⟨(some 34), .callF f_restrict_setter_note [(.t 31), (.t 32), (.t 33)], none⟩]) (.reg false [⟨(some 35), .op (.mov (.t 0)), none⟩,
    ⟨(some 36), .op (.mov (.t 0)), none⟩,
    ⟨(some 37), .op (.nilChk (.t 36)), none⟩,
    ⟨(some 38), .op (.fAddr 0 (.t 37)), none⟩,
    ⟨(some 39), .op (.fAddr 0 (.t 38)), none⟩,
    ⟨(some 40), .op (.load1 (.t 39)), none⟩,
    ⟨(some 41), .op (.mov (.t 7)), none⟩,
    ⟨(some 42), .callF f_restrict_with_int [(.t 40), (.t 41), (.c (.b true))], none⟩,
    ⟨(some 43), .op (.nilChk (.t 35)), none⟩,
    ⟨(some 44), .op (.fAddr 0 (.t 43)), none⟩,
    ⟨(some 45), .op (.fAddr 0 (.t 44)), none⟩,
    ⟨none, .op (.store 1 (.t 45) (.t 42)), none⟩]))))))
  (.reg false [⟨(some 46), .op (.bin .add (.t 20) (.c (.i .i64 1))), none⟩,
    ⟨(some 20), .op (.mov (.t 46)), none⟩]))))))))⟩
theorem meth_arches {g1 g2 g3 g4 : Nat} (hc : chkFn P f (ir_restrict_setter_arches g1 g2 g3 g4) = true) (h1 : cWords P g1) (h2 : cArchParse P g2) (h3 : cNoteU P g3) (h4 : cWith64 P g4) : cMeth P f m_arches := by
  intro p a ns v hv hn ha _
  have hwl := words_len v
  refine Upd.mk hc (by simp [bnds, bnd]) (by unfold setB; split <;> simp) ?_
  simp only [ir_restrict_setter_arches, setC, argsT, H0, mkT, mkH, trL, List.length_cons, List.length_nil, Nat.reduceAdd, Nat.zero_add]
  simp only [↓vA, ↓vE, ↓vO, ↓vB, ↓vF, ↓vM, ↓vR, ↓vX, cvF_pc, vP, shb, shv, shvs, she_nil, she_cons, vC, vQ, Nat.reduceEqDiff, ↓reduceIte, eq_self, Nat.reduceAdd, Nat.reduceMul, Nat.reduceSub, Nat.reduceLeDiff, Nat.reduceLT, defd, cellsOf, wr, packR, Int.reduceLE, Int.reduceLT, Int.reduceEq, Int.cast_ofNat_Int, Int.reduceToNat]
  refine (h1 v (by omega)).sc ?_
  by_cases hw : words v = []
  · simp only [↓vA, ↓vE, ↓vO, ↓vB, ↓vF, ↓vM, ↓vR, ↓vX, cvF_pc, vP, shb, shv, shvs, she_nil, she_cons, vC, vQ, Nat.reduceEqDiff, ↓reduceIte, eq_self, Nat.reduceAdd, Nat.reduceMul, Nat.reduceSub, Nat.reduceLeDiff, Nat.reduceLT, defd, cellsOf, wr, packR, Int.reduceLE, Int.reduceLT, Int.reduceEq, Int.cast_ofNat_Int, Int.reduceToNat, hw]
    refine SL_step ?_
    simp only [↓vA, ↓vE, ↓vO, ↓vB, ↓vF, ↓vM, ↓vR, ↓vX, cvF_pc, vP, shb, shv, shvs, she_nil, she_cons, vC, vQ, Nat.reduceEqDiff, ↓reduceIte, eq_self, Nat.reduceAdd, Nat.reduceMul, Nat.reduceSub, Nat.reduceLeDiff, Nat.reduceLT, defd, cellsOf, wr, packR, Int.reduceLE, Int.reduceLT, Int.reduceEq, Int.cast_ofNat_Int, Int.reduceToNat]
    intro _
    refine ⟨[0, 1], ?_⟩
    simp [vW, bw_map, mapAt_map, mapClo_it, mapClo_nil, mapClo_cons, vP, vZ, Tr.get_set, nvs_self, rN_clos, setB, setC, m_arches, hw, rI]
    decide
  · have hwn : ¬ ((words v).length : Int) = 0 := by
      intro hh; exact hw (List.eq_nil_of_length_eq_zero (by omega))
    have hend : m_arches p v = (let r := (words v).foldl archStep (p.arches, []); ({ p with arches := r.1 }, r.2)) := by
      unfold m_arches; rw [if_neg hw]
    simp only [↓vA, ↓vE, ↓vO, ↓vB, ↓vF, ↓vM, ↓vR, ↓vX, cvF_pc, vP, shb, shv, shvs, she_nil, she_cons, vC, vQ, Nat.reduceEqDiff, ↓reduceIte, eq_self, Nat.reduceAdd, Nat.reduceMul, Nat.reduceSub, Nat.reduceLeDiff, Nat.reduceLT, defd, cellsOf, wr, packR, Int.reduceLE, Int.reduceLT, Int.reduceEq, Int.cast_ofNat_Int, Int.reduceToNat, hwn]
    refine SL.loopn (α := Nat) (fun j => [(0, .ptr 0 0), (18, .fz (words v).length ((words v).map .s)), (19, .i .i64 (words v).length), (20, .i .i64 j)])
      (fun j => setB { p with arches := (((words v).take j).foldl archStep (p.arches, [])).1 } a ns ((((words v).take j).foldl archStep (p.arches, [])).2.map (noteOf a))) (fun j => j ≤ (words v).length) (fun j => (words v).length - j) 0 [0, 1] ?_ ?_ ?_ rfl ?_ ?_ ?_ ?_
    · simp [vW, bw_map, mapAt_map, mapClo_it, mapClo_nil, mapClo_cons, vP, vZ, Tr.get_set, setB]
    · simp [vW, bw_map, mapAt_map, mapClo_it, mapClo_nil, mapClo_cons, vP, vZ, Tr.get_set, nvs_self, rN_clos, setB, setC]; try decide
    · simp [vW, bw_map, mapAt_map, mapClo_it, mapClo_nil, mapClo_cons, vP, vZ, Tr.get_set]
    · simp [setB]
    · intro b hb
      have : b = 0 ∨ b = 1 := by omega
      rcases this with rfl | rfl <;> rfl
    · exact Nat.zero_le _
    rintro j hj G ih
    have hlen := archStep_len ((words v).take j) (p.arches, [])
    simp only [List.length_take, List.length_nil, Nat.zero_add] at hlen
    generalize hr : ((words v).take j).foldl archStep (p.arches, []) = r at hlen ih ⊢
    by_cases hlt : j < (words v).length
    · have hx : (words v)[j]? = some (words v)[j] := List.getElem?_eq_getElem hlt
      have hwj : IntKind.wrap .i64 ((j : Int) + 1) = (j : Int) + 1 := wrap64 (by omega) (by omega)
      have hnext : ((words v).take (j + 1)).foldl archStep (p.arches, []) = archStep r (words v)[j] := by
        rw [List.take_add_one, hx, List.foldl_append, hr]; rfl
      generalize hww : (words v)[j] = w at hx hnext
      have ih2 := ih (j + 1)
      rw [hnext] at ih2
      have sL : r.1.length + 1 ≤ roomB := by simp only [roomB]; omega
      have sL8 : (r.1.length + 1) * 8 ≤ roomB := by simp only [roomB]; omega
      by_cases hnew : r.2.map (noteOf a) = []
      · have hr2 : r.2 = [] := List.map_eq_nil_iff.1 hnew
        simp only [setB, if_pos hnew, setC, argsT, H0, mkT, mkH, trL, List.length_cons, List.length_nil, Nat.reduceAdd, Nat.zero_add]
        simp only [↓vA, ↓vE, ↓vO, ↓vB, ↓vF, ↓vM, ↓vR, ↓vX, cvF_pc, vP, shb, shv, shvs, she_nil, she_cons, vC, vQ, Nat.reduceEqDiff, ↓reduceIte, eq_self, Nat.reduceAdd, Nat.reduceMul, Nat.reduceSub, Nat.reduceLeDiff, Nat.reduceLT, defd, cellsOf, wr, packR, Int.reduceLE, Int.reduceLT, Int.reduceEq, Int.cast_ofNat_Int, Int.reduceToNat, hlt, hx, List.getElem?_map, Option.map_some, Nat.mul_one]
        refine (h2 w).sc ?_
        by_cases he : (archM w).2 = 0
        · simp only [↓vA, ↓vE, ↓vO, ↓vB, ↓vF, ↓vM, ↓vR, ↓vX, cvF_pc, vP, shb, shv, shvs, she_nil, she_cons, vC, vQ, Nat.reduceEqDiff, ↓reduceIte, eq_self, Nat.reduceAdd, Nat.reduceMul, Nat.reduceSub, Nat.reduceLeDiff, Nat.reduceLT, defd, cellsOf, wr, packR, Int.reduceLE, Int.reduceLT, Int.reduceEq, Int.cast_ofNat_Int, Int.reduceToNat, he]
          refine (h4 r.1 (archM w).1 true sL sL8).sc ?_
          simp only [↓vA, ↓vE, ↓vO, ↓vB, ↓vF, ↓vM, ↓vR, ↓vX, cvF_pc, vP, shb, shv, shvs, she_nil, she_cons, vC, vQ, Nat.reduceEqDiff, ↓reduceIte, eq_self, Nat.reduceAdd, Nat.reduceMul, Nat.reduceSub, Nat.reduceLeDiff, Nat.reduceLT, defd, cellsOf, wr, packR, Int.reduceLE, Int.reduceLT, Int.reduceEq, Int.cast_ofNat_Int, Int.reduceToNat, hwj]
          unfold archStep at ih2
          rw [if_pos he] at ih2
          refine ih2 (by omega) (by omega) _ _ (Wk.mkn _ _ [0, 1] ?_ ?_ ?_ rfl (by simp [setB, hnew]) ?_)
          · simp [vW, bw_map, mapAt_map, mapClo_it, mapClo_nil, mapClo_cons, vP, vZ, Tr.get_set, setB, hr2]
          · simp [vW, bw_map, mapAt_map, mapClo_it, mapClo_nil, mapClo_cons, vP, vZ, Tr.get_set, nvs_self, rN_clos, setB, setC, hr2]; try decide
          · simp [vW, bw_map, mapAt_map, mapClo_it, mapClo_nil, mapClo_cons, vP, vZ, Tr.get_set]
          · intro b hb
            have : b = 0 ∨ b = 1 := by omega
            rcases this with rfl | rfl <;> rfl
        · simp only [↓vA, ↓vE, ↓vO, ↓vB, ↓vF, ↓vM, ↓vR, ↓vX, cvF_pc, vP, shb, shv, shvs, she_nil, she_cons, vC, vQ, Nat.reduceEqDiff, ↓reduceIte, eq_self, Nat.reduceAdd, Nat.reduceMul, Nat.reduceSub, Nat.reduceLeDiff, Nat.reduceLT, defd, cellsOf, wr, packR, Int.reduceLE, Int.reduceLT, Int.reduceEq, Int.cast_ofNat_Int, Int.reduceToNat, he]
          refine (h3 { p with arches := r.1 } a ns (archM w).2 w (by simp only [roomB]; omega)).sc (vs := [.ptr 0 0, .i .i64 (archM w).2, .s w]) [0, 1] (Lent.of (by decide) ?_) ?_
          · simp [lent_cons, lent_nil, pushs_cons, pushs_nil, push_mk, shb, shv, shvs, bnds, bnd, rnvs, rnv, gAt, vW, bw_map, mapAt_map, mapClo_it, mapClo_nil, mapClo_cons, vP, vZ, Tr.get_set, setC, bnds_clo rN_clos, rnvs_clo rN_clos, bnd_clo, clo, rnv_clo]
          simp only [backH, List.cons_append, List.nil_append, List.length_cons, List.length_nil, Nat.zero_add, Nat.reduceAdd, List.take_succ_cons, List.take_zero, List.drop_succ_cons, List.drop_zero, List.map_cons, List.map_nil, rnb, rnvs, rnv, gAt, Nat.reduceLT, ↓reduceIte, List.getD_cons_zero, List.getD_cons_succ, Nat.reduceSub, puts_cons, puts_nil, pushs_cons, pushs_nil, hput_mk, push_mk, setC, rnvs_clo rN_clos, rnv_clo, clo]
          simp only [↓vA, ↓vE, ↓vO, ↓vB, ↓vF, ↓vM, ↓vR, ↓vX, cvF_pc, vP, shb, shv, shvs, she_nil, she_cons, vC, vQ, Nat.reduceEqDiff, ↓reduceIte, eq_self, Nat.reduceAdd, Nat.reduceMul, Nat.reduceSub, Nat.reduceLeDiff, Nat.reduceLT, defd, cellsOf, wr, packR, Int.reduceLE, Int.reduceLT, Int.reduceEq, Int.cast_ofNat_Int, Int.reduceToNat, hwj]
          unfold archStep at ih2
          rw [if_neg he] at ih2
          refine ih2 (by omega) (by omega) _ _ (Wk.mkn _ _ [0, 1, 2] ?_ ?_ ?_ rfl (by simp [setB]) ?_)
          · simp [vW, bw_map, mapAt_map, mapClo_it, mapClo_nil, mapClo_cons, vP, vZ, Tr.get_set, setB]
          · simp [vW, bw_map, mapAt_map, mapClo_it, mapClo_nil, mapClo_cons, vP, vZ, Tr.get_set, nvs_self, rN_clos, setB, setC, hr2]; try decide
          · simp [vW, bw_map, mapAt_map, mapClo_it, mapClo_nil, mapClo_cons, vP, vZ, Tr.get_set]
          · intro b hb
            have : b = 0 ∨ b = 1 := by omega
            rcases this with rfl | rfl <;> rfl
      · have hr2n : ¬ r.2 = [] := fun hh => hnew (by rw [hh]; rfl)
        have hnl : (ns ++ r.2.map (noteOf a)).length ≤ 2001 := by simp; omega
        simp only [setB, if_neg hnew, setC, argsT, H0, mkT, mkH, trL, List.length_cons, List.length_nil, Nat.reduceAdd, Nat.zero_add]
        generalize hN : ns ++ r.2.map (noteOf a) = N at hnl ih2 ⊢
        simp only [↓vA, ↓vE, ↓vO, ↓vB, ↓vF, ↓vM, ↓vR, ↓vX, cvF_pc, vP, shb, shv, shvs, she_nil, she_cons, vC, vQ, Nat.reduceEqDiff, ↓reduceIte, eq_self, Nat.reduceAdd, Nat.reduceMul, Nat.reduceSub, Nat.reduceLeDiff, Nat.reduceLT, defd, cellsOf, wr, packR, Int.reduceLE, Int.reduceLT, Int.reduceEq, Int.cast_ofNat_Int, Int.reduceToNat, hlt, hx, List.getElem?_map, Option.map_some, Nat.mul_one]
        refine (h2 w).sc ?_
        by_cases he : (archM w).2 = 0
        · simp only [↓vA, ↓vE, ↓vO, ↓vB, ↓vF, ↓vM, ↓vR, ↓vX, cvF_pc, vP, shb, shv, shvs, she_nil, she_cons, vC, vQ, Nat.reduceEqDiff, ↓reduceIte, eq_self, Nat.reduceAdd, Nat.reduceMul, Nat.reduceSub, Nat.reduceLeDiff, Nat.reduceLT, defd, cellsOf, wr, packR, Int.reduceLE, Int.reduceLT, Int.reduceEq, Int.cast_ofNat_Int, Int.reduceToNat, he]
          refine (h4 r.1 (archM w).1 true sL sL8).sc ?_
          simp only [↓vA, ↓vE, ↓vO, ↓vB, ↓vF, ↓vM, ↓vR, ↓vX, cvF_pc, vP, shb, shv, shvs, she_nil, she_cons, vC, vQ, Nat.reduceEqDiff, ↓reduceIte, eq_self, Nat.reduceAdd, Nat.reduceMul, Nat.reduceSub, Nat.reduceLeDiff, Nat.reduceLT, defd, cellsOf, wr, packR, Int.reduceLE, Int.reduceLT, Int.reduceEq, Int.cast_ofNat_Int, Int.reduceToNat, hwj]
          unfold archStep at ih2
          rw [if_pos he] at ih2
          refine ih2 (by omega) (by omega) _ _ (Wk.mkn _ _ [0, 1, 2] ?_ ?_ ?_ rfl (by simp [setB, hnew]) ?_)
          · simp [vW, bw_map, mapAt_map, mapClo_it, mapClo_nil, mapClo_cons, vP, vZ, Tr.get_set, setB, hr2n]
          · simp [vW, bw_map, mapAt_map, mapClo_it, mapClo_nil, mapClo_cons, vP, vZ, Tr.get_set, nvs_self, rN_clos, setB, setC, hr2n, hN]; try decide
          · simp [vW, bw_map, mapAt_map, mapClo_it, mapClo_nil, mapClo_cons, vP, vZ, Tr.get_set, setB, hr2n]
          · intro b hb
            have : b = 0 ∨ b = 1 := by omega
            rcases this with rfl | rfl <;> rfl
        · simp only [↓vA, ↓vE, ↓vO, ↓vB, ↓vF, ↓vM, ↓vR, ↓vX, cvF_pc, vP, shb, shv, shvs, she_nil, she_cons, vC, vQ, Nat.reduceEqDiff, ↓reduceIte, eq_self, Nat.reduceAdd, Nat.reduceMul, Nat.reduceSub, Nat.reduceLeDiff, Nat.reduceLT, defd, cellsOf, wr, packR, Int.reduceLE, Int.reduceLT, Int.reduceEq, Int.cast_ofNat_Int, Int.reduceToNat, he]
          refine (h3 { p with arches := r.1 } a N (archM w).2 w (by simp only [roomB]; omega)).sc (vs := [.ptr 0 0, .i .i64 (archM w).2, .s w]) [0, 2] (Lent.of (by decide) ?_) ?_
          · simp [lent_cons, lent_nil, pushs_cons, pushs_nil, push_mk, shb, shv, shvs, bnds, bnd, rnvs, rnv, gAt, vW, bw_map, mapAt_map, mapClo_it, mapClo_nil, mapClo_cons, vP, vZ, Tr.get_set, setC, bnds_clo rN_clos, rnvs_clo rN_clos, bnd_clo, clo, rnv_clo]
          simp only [backH, List.cons_append, List.nil_append, List.length_cons, List.length_nil, Nat.zero_add, Nat.reduceAdd, List.take_succ_cons, List.take_zero, List.drop_succ_cons, List.drop_zero, List.map_cons, List.map_nil, rnb, rnvs, rnv, gAt, Nat.reduceLT, ↓reduceIte, List.getD_cons_zero, List.getD_cons_succ, Nat.reduceSub, puts_cons, puts_nil, pushs_cons, pushs_nil, hput_mk, push_mk, setC, rnvs_clo rN_clos, rnv_clo, clo]
          simp only [↓vA, ↓vE, ↓vO, ↓vB, ↓vF, ↓vM, ↓vR, ↓vX, cvF_pc, vP, shb, shv, shvs, she_nil, she_cons, vC, vQ, Nat.reduceEqDiff, ↓reduceIte, eq_self, Nat.reduceAdd, Nat.reduceMul, Nat.reduceSub, Nat.reduceLeDiff, Nat.reduceLT, defd, cellsOf, wr, packR, Int.reduceLE, Int.reduceLT, Int.reduceEq, Int.cast_ofNat_Int, Int.reduceToNat, hwj]
          unfold archStep at ih2
          rw [if_neg he] at ih2
          refine ih2 (by omega) (by omega) _ _ (Wk.mkn _ _ [0, 1, 3] ?_ ?_ ?_ rfl (by simp [setB]) ?_)
          · simp [vW, bw_map, mapAt_map, mapClo_it, mapClo_nil, mapClo_cons, vP, vZ, Tr.get_set, setB]
          · simp [vW, bw_map, mapAt_map, mapClo_it, mapClo_nil, mapClo_cons, vP, vZ, Tr.get_set, nvs_self, rN_clos, setB, setC, ← hN]; try decide
          · simp [vW, bw_map, mapAt_map, mapClo_it, mapClo_nil, mapClo_cons, vP, vZ, Tr.get_set, setB]
          · intro b hb
            have : b = 0 ∨ b = 1 := by omega
            rcases this with rfl | rfl <;> rfl
    · have hjl : (words v).take j = words v := List.take_of_length_le (by omega)
      rw [hjl] at hr
      rw [hend, hr]
      by_cases hnew : r.2.map (noteOf a) = []
      · simp only [setB, if_pos hnew, setC, argsT, H0, mkT, mkH, trL, List.length_cons, List.length_nil, Nat.reduceAdd, Nat.zero_add]
        simp only [↓vA, ↓vE, ↓vO, ↓vB, ↓vF, ↓vM, ↓vR, ↓vX, cvF_pc, vP, shb, shv, shvs, she_nil, she_cons, vC, vQ, Nat.reduceEqDiff, ↓reduceIte, eq_self, Nat.reduceAdd, Nat.reduceMul, Nat.reduceSub, Nat.reduceLeDiff, Nat.reduceLT, defd, cellsOf, wr, packR, Int.reduceLE, Int.reduceLT, Int.reduceEq, Int.cast_ofNat_Int, Int.reduceToNat, hlt]
        refine fun _ => ⟨[0, 1], ?_⟩
        simp [vW, bw_map, mapAt_map, mapClo_it, mapClo_nil, mapClo_cons, vP, vZ, Tr.get_set, nvs_self, rN_clos]; try decide
      · simp only [setB, if_neg hnew, setC, argsT, H0, mkT, mkH, trL, List.length_cons, List.length_nil, Nat.reduceAdd, Nat.zero_add]
        simp only [↓vA, ↓vE, ↓vO, ↓vB, ↓vF, ↓vM, ↓vR, ↓vX, cvF_pc, vP, shb, shv, shvs, she_nil, she_cons, vC, vQ, Nat.reduceEqDiff, ↓reduceIte, eq_self, Nat.reduceAdd, Nat.reduceMul, Nat.reduceSub, Nat.reduceLeDiff, Nat.reduceLT, defd, cellsOf, wr, packR, Int.reduceLE, Int.reduceLT, Int.reduceEq, Int.cast_ofNat_Int, Int.reduceToNat, hlt]
        refine fun _ => ⟨[0, 1, 2], ?_⟩
        simp [vW, bw_map, mapAt_map, mapClo_it, mapClo_nil, mapClo_cons, vP, vZ, Tr.get_set, nvs_self, rN_clos]; try decide
end Go.Kc
end
section
/- What the setter makes of families. Condition: the functions' texts are these. -/
namespace Go.Kc
variable {P : Program} {f : Nat}
/-- a name's number in a table, and what is wrong -/
def findP (s : List UInt8) (no : Int) : List (List UInt8 × Int) → Int × Int
  | [] => (0, no)
  | p :: l => if p.1 = s then (p.2, 0) else findP s no l
theorem findN_P (q : IntKind) (s : List UInt8) (no : Int) : ∀ l, findN q s no l = .tup [.i q (findP s no l).1, .i .i64 (findP s no l).2]
  | [] => rfl
  | p :: l => by
    simp only [findN, findP]
    split
    · rfl
    · exact findN_P q s no l
/-- a value without its turn, and whether it is turned -/
def turnP (v : List UInt8) : List UInt8 × Bool := if [126].isPrefixOf v = true then (v.drop 1, true) else (v, false)
theorem cut_turn (v : List UInt8) : cutPrefix v [126] = .tup [.s (turnP v).1, .b (turnP v).2] := by
  unfold cutPrefix turnP; split <;> rfl
theorem turnP_len (v : List UInt8) : (turnP v).1.length ≤ v.length := by
  unfold turnP; split <;> simp
def famM (s : List UInt8) : Int × Int := findP s 180 tab_families
def cFamily (P : Program) (f : Nat) : Prop := ∀ s, Pure P f [.s s] (findN .u32 s 180 tab_families)
def cTurned (P : Program) (f : Nat) : Prop := ∀ s, Pure P f [.s s] (cutPrefix s [126])
def famStep (is : Bool) (s : List Int × List (Int × List UInt8)) (w : List UInt8) : List Int × List (Int × List UInt8) :=
  if (famM w).2 = 0 then (withL s.1 (famM w).1 is, s.2) else (s.1, s.2 ++ [((famM w).2, w)])
def noneW : List UInt8 := [110, 111, 110, 101]
def modeF (m : Int) (t : Bool) : Int := if m = 0 then (if t = true then 2 else 1) else m
def m_families (p : Pol) (v : List UInt8) : Pol × List (Int × List UInt8) :=
  if words v = [] then ({ p with fams := [], fmode := 0 }, [])
  else if words v = [noneW] then ({ p with fams := [], fmode := 1 }, [])
  else
    let r := (words (turnP v).1).foldl (famStep ((turnP v).2 == decide (modeF p.fmode (turnP v).2 = 2))) (p.fams, [])
    ({ p with fams := r.1, fmode := modeF p.fmode (turnP v).2 }, r.2)
theorem famStep_len (is : Bool) (ws : List (List UInt8)) : ∀ s, (ws.foldl (famStep is) s).1.length ≤ s.1.length + ws.length ∧ (ws.foldl (famStep is) s).2.length ≤ s.2.length + ws.length := by
  induction ws with
  | nil => intro s; simp
  | cons w ws ih =>
    intro s
    have h := ih (famStep is s w)
    have h2 : (famStep is s w).1.length ≤ s.1.length + 1 ∧ (famStep is s w).2.length ≤ s.2.length + 1 := by
      unfold famStep
      split
      · exact ⟨withL_len s.1 (famM w).1 is, by simp⟩
      · simp
    simp only [List.foldl_cons, List.length_cons]
    omega
def ir_restrict_setter_families_c3 (f_values_Turned f_values_Words f_names_Family f_restrict_setter_note f_restrict_with_uint32 : Nat) : ICode := .seq (.reg false [⟨(some 63), .op (.mov (.t 4)), none⟩,
    ⟨(some 64), .callF f_values_Words [(.t 63)], none⟩,
    ⟨(some 65), .op (.len false (.t 64)), none⟩,
    ⟨(some 66), .op (.mov (.c (.i .i64 0))), none⟩])
  (.blk 1 (.loop (.seq (.reg false [⟨(some 67), .op (.bin .lss (.t 66) (.t 65)), none⟩])
  (.seq (.cond (.t 67) (.skip) (.exit 1))
  (.seq (.blk 2 (.seq (.reg false [⟨(some 68), .op (.iAddrS 1 (.t 64) (.t 66)), none⟩,
    ⟨(some 69), .op (.load1 (.t 68)), none⟩,
    ⟨(some 8), .op (.mov (.t 69)), none⟩])
  (.seq (.reg false [⟨(some 71), .op (.mov (.t 8)), none⟩,
    ⟨(some 72), .callF f_names_Family [(.t 71)], none⟩,
    ⟨(some 70), .op (.mov (.t 72)), none⟩,
    ⟨(some 73), .op (.ext (.t 70) 0), none⟩,
    ⟨(some 74), .op (.ext (.t 70) 1), none⟩,
    ⟨(some 9), .op (.mov (.t 73)), none⟩,
    ⟨(some 10), .op (.mov (.t 74)), none⟩])
  (.seq (.reg false [⟨(some 75), .op (.mov (.t 10)), none⟩,
    ⟨(some 76), .op (.bin .neq (.t 75) (.c (.i .i64 0))), none⟩])
  (.cond (.t 76) (.reg false [⟨(some 77), .op (.mov (.t 0)), none⟩,
    ⟨(some 78), .op (.mov (.t 10)), none⟩,
    ⟨(some 79), .op (.mov (.t 8)), none⟩,
    ⟨(some 80), .callF f_restrict_setter_note [(.t 77), (.t 78), (.t 79)], none⟩]) (.reg true [⟨(some 81), .op (.mov (.t 0)), none⟩,
    ⟨(some 82), .op (.mov (.t 0)), none⟩,
    ⟨(some 83), .op (.nilChk (.t 82)), none⟩,
    ⟨(some 84), .op (.fAddr 0 (.t 83)), none⟩,
    ⟨(some 85), .op (.fAddr 6 (.t 84)), none⟩,
    ⟨(some 86), .op (.load1 (.t 85)), none⟩,
    ⟨(some 87), .op (.mov (.t 9)), none⟩,
    ⟨(some 88), .op (.mov (.t 5)), none⟩,
    ⟨(some 89), .op (.mov (.t 0)), none⟩,
    ⟨(some 90), .op (.nilChk (.t 89)), none⟩,
    ⟨(some 91), .op (.fAddr 0 (.t 90)), none⟩,
    ⟨(some 92), .op (.fAddr 7 (.t 91)), none⟩,
    ⟨(some 93), .op (.load1 (.t 92)), none⟩,
    ⟨(some 94), .op (.bin .eql (.t 93) (.c (.i .u8 2))), none⟩,
    ⟨(some 95), .op (.eqB false (.t 88) (.t 94)), none⟩,
    ⟨(some 96), .callF f_restrict_with_uint32 [(.t 86), (.t 87), (.t 95)], none⟩,
    ⟨(some 97), .op (.nilChk (.t 81)), none⟩,
    ⟨(some 98), .op (.fAddr 0 (.t 97)), none⟩,
    ⟨(some 99), .op (.fAddr 6 (.t 98)), none⟩,
    ⟨none, .op (.store 1 (.t 99) (.t 96)), none⟩]))))))
  (.reg false [⟨(some 100), .op (.bin .add (.t 66) (.c (.i .i64 1))), none⟩,
    ⟨(some 66), .op (.mov (.t 100)), none⟩]))))))
def ir_restrict_setter_families (f_values_Turned f_values_Words f_names_Family f_restrict_setter_note f_restrict_with_uint32 : Nat) : IFn := ⟨[],
  .seq (.reg false [⟨(some 12), .op (.mov (.t 1)), none⟩,
    ⟨(some 13), .callF f_values_Turned [(.t 12)], none⟩,
    ⟨(some 11), .op (.mov (.t 13)), none⟩,
    ⟨(some 14), .op (.ext (.t 11) 0), none⟩,
    ⟨(some 15), .op (.ext (.t 11) 1), none⟩,
    ⟨(some 4), .op (.mov (.t 14)), none⟩,
    ⟨(some 5), .op (.mov (.t 15)), none⟩])
  (.seq (.seq (.reg false [⟨(some 16), .op (.mov (.t 1)), none⟩,
    ⟨(some 17), .callF f_values_Words [(.t 16)], none⟩,
    ⟨(some 6), .op (.mov (.t 17)), none⟩])
  (.blk 0 (.seq (.reg false [⟨(some 19), .op (.mov (.t 6)), none⟩,
    ⟨(some 20), .op (.len false (.t 19)), none⟩,
    ⟨(some 21), .op (.bin .eql (.t 20) (.c (.i .i64 0))), none⟩,
    ⟨(some 18), .op (.mov (.t 21)), none⟩])
  (.cond (.t 18) (.seq (.reg false [⟨(some 22), .op (.mov (.t 0)), none⟩,
    ⟨(some 23), .op (.mov (.t 0)), none⟩,
    ⟨(some 24), .op (.nilChk (.t 22)), none⟩,
    ⟨(some 25), .op (.fAddr 0 (.t 24)), none⟩,
    ⟨(some 26), .op (.fAddr 6 (.t 25)), none⟩,
    ⟨none, .op (.store 1 (.t 26) (.c (.nils))), none⟩,
    ⟨(some 27), .op (.nilChk (.t 23)), none⟩,
    ⟨(some 28), .op (.fAddr 0 (.t 27)), none⟩,
    ⟨(some 29), .op (.fAddr 7 (.t 28)), none⟩,
    ⟨none, .op (.store 1 (.t 29) (.c (.i .u8 0))), none⟩])
  (.ret)) (.seq (.reg false [⟨(some 31), .op (.mov (.t 6)), none⟩,
    ⟨(some 32), .op (.len false (.t 31)), none⟩,
    ⟨(some 33), .op (.bin .eql (.t 32) (.c (.i .i64 1))), none⟩,
    ⟨(some 34), .op (.mov (.t 33)), none⟩,
    ⟨(some 35), .op (.mov (.t 6)), (some (34, true))⟩,
    ⟨(some 36), .op (.iAddrS 1 (.t 35) (.c (.i .i64 0))), (some (34, true))⟩,
    ⟨(some 37), .op (.load1 (.t 36)), (some (34, true))⟩,
    ⟨(some 38), .op (.bin .eql (.t 37) (.c (.s [110, 111, 110, 101]))), (some (34, true))⟩,
    ⟨(some 39), .op (.pick (.t 34) (.t 38) (.c (.b false))), none⟩,
    ⟨(some 30), .op (.mov (.t 39)), none⟩])
  (.cond (.t 30) (.seq (.reg false [⟨(some 40), .op (.mov (.t 0)), none⟩,
    ⟨(some 41), .op (.mov (.t 0)), none⟩,
    ⟨(some 42), .op (.nilChk (.t 40)), none⟩,
    ⟨(some 43), .op (.fAddr 0 (.t 42)), none⟩,
    ⟨(some 44), .op (.fAddr 6 (.t 43)), none⟩,
    ⟨none, .op (.store 1 (.t 44) (.c (.nils))), none⟩,
    ⟨(some 45), .op (.nilChk (.t 41)), none⟩,
    ⟨(some 46), .op (.fAddr 0 (.t 45)), none⟩,
    ⟨(some 47), .op (.fAddr 7 (.t 46)), none⟩,
    ⟨none, .op (.store 1 (.t 47) (.c (.i .u8 1))), none⟩])
  (.ret)) (.skip)))))))
  (.seq (.seq (.reg false [⟨(some 48), .op (.mov (.t 0)), none⟩,
    ⟨(some 49), .op (.nilChk (.t 48)), none⟩,
    ⟨(some 50), .op (.fAddr 0 (.t 49)), none⟩,
    ⟨(some 51), .op (.fAddr 7 (.t 50)), none⟩,
    ⟨(some 52), .op (.load1 (.t 51)), none⟩,
    ⟨(some 53), .op (.bin .eql (.t 52) (.c (.i .u8 0))), none⟩])
  (.cond (.t 53) (.seq (.reg false [⟨(some 54), .op (.mov (.t 0)), none⟩,
    ⟨(some 55), .op (.nilChk (.t 54)), none⟩,
    ⟨(some 56), .op (.fAddr 0 (.t 55)), none⟩,
    ⟨(some 57), .op (.fAddr 7 (.t 56)), none⟩,
    ⟨none, .op (.store 1 (.t 57) (.c (.i .u8 1))), none⟩])
  (.seq (.reg false [⟨(some 58), .op (.mov (.t 5)), none⟩])
  (.cond (.t 58) (.reg false [⟨(some 59), .op (.mov (.t 0)), none⟩,
    ⟨(some 60), .op (.nilChk (.t 59)), none⟩,
    ⟨(some 61), .op (.fAddr 0 (.t 60)), none⟩,
    ⟨(some 62), .op (.fAddr 7 (.t 61)), none⟩,
    ⟨none, .op (.store 1 (.t 62) (.c (.i .u8 2))), none⟩]) (.skip)))) (.skip)))
  (.cut (ir_restrict_setter_families_c3 f_values_Turned f_values_Words f_names_Family f_restrict_setter_note f_restrict_with_uint32))))⟩
theorem fam_tail {g1 g2 g3 g4 g5 : Nat} (h1 : cWords P g2) (h2 : cFamily P g3) (h3 : cNoteU P g4) (h4 : cWith32 P g5) (p : Pol) (a : Asg) (ns : List GNote) (v : List UInt8) (t : Bool) (hv : v.length ≤ 1000) (hn : ns.length ≤ 1000) (ha : p.fams.length ≤ 1000)
    (r : List Int × List (Int × List UInt8)) (hr : r = (words v).foldl (famStep (t == decide (p.fmode = 2))) (p.fams, [])) :
    S P 2 (ir_restrict_setter_families_c3 g1 g2 g3 g4 g5) (endX [] (UpdZ 2 (.tup []) (setB { p with fams := r.1 } a ns (r.2.map (noteOf a))))) (mkT [(0, .ptr 0 0), (4, .s v), (5, .b t)]) (mkH 0 [.cells 0 true false (setC p a 1 ns.length), .cells 4 true true (rN ns)]) := by
  have hwl := words_len v
  refine V_sound ?_
  simp only [ir_restrict_setter_families_c3, setC, argsT, H0, mkT, mkH, trL, List.length_cons, List.length_nil, Nat.reduceAdd, Nat.zero_add]
  simp only [↓vA, ↓vE, ↓vO, ↓vB, ↓vF, ↓vM, ↓vR, ↓vX, cvF_pc, vP, shb, shv, shvs, she_nil, she_cons, vC, vQ, Nat.reduceEqDiff, ↓reduceIte, eq_self, Nat.reduceAdd, Nat.reduceMul, Nat.reduceSub, Nat.reduceLeDiff, Nat.reduceLT, defd, cellsOf, wr, packR, Int.reduceLE, Int.reduceLT, Int.reduceEq, Int.cast_ofNat_Int, Int.reduceToNat]
  refine (h1 v (by omega)).sc ?_
  simp only [↓vA, ↓vE, ↓vO, ↓vB, ↓vF, ↓vM, ↓vR, ↓vX, cvF_pc, vP, shb, shv, shvs, she_nil, she_cons, vC, vQ, Nat.reduceEqDiff, ↓reduceIte, eq_self, Nat.reduceAdd, Nat.reduceMul, Nat.reduceSub, Nat.reduceLeDiff, Nat.reduceLT, defd, cellsOf, wr, packR, Int.reduceLE, Int.reduceLT, Int.reduceEq, Int.cast_ofNat_Int, Int.reduceToNat]
  generalize hfs : famStep (t == decide (p.fmode = 2)) = fs at hr
  refine SL.loopn (α := Nat) (fun j => [(0, .ptr 0 0), (5, .b t), (64, .fz (words v).length ((words v).map .s)), (65, .i .i64 (words v).length), (66, .i .i64 j)])
    (fun j => setB { p with fams := (((words v).take j).foldl fs (p.fams, [])).1 } a ns ((((words v).take j).foldl fs (p.fams, [])).2.map (noteOf a))) (fun j => j ≤ (words v).length) (fun j => (words v).length - j) 0 [0, 1] ?_ ?_ ?_ rfl ?_ ?_ ?_ ?_
  · simp [vW, bw_map, mapAt_map, mapClo_it, mapClo_nil, mapClo_cons, vP, vZ, Tr.get_set, setB]
  · simp [vW, bw_map, mapAt_map, mapClo_it, mapClo_nil, mapClo_cons, vP, vZ, Tr.get_set, nvs_self, rN_clos, setB, setC]; try decide
  · simp [vW, bw_map, mapAt_map, mapClo_it, mapClo_nil, mapClo_cons, vP, vZ, Tr.get_set]
  · simp [setB]
  · intro b hb
    have : b = 0 ∨ b = 1 := by omega
    rcases this with rfl | rfl <;> rfl
  · exact Nat.zero_le _
  rintro j hj G ih
  have hlen := famStep_len (t == decide (p.fmode = 2)) ((words v).take j) (p.fams, [])
  rw [hfs] at hlen
  simp only [List.length_take, List.length_nil, Nat.zero_add] at hlen
  generalize hrr : ((words v).take j).foldl fs (p.fams, []) = r1 at hlen ih ⊢
  by_cases hlt : j < (words v).length
  · have hx : (words v)[j]? = some (words v)[j] := List.getElem?_eq_getElem hlt
    have hwj : IntKind.wrap .i64 ((j : Int) + 1) = (j : Int) + 1 := wrap64 (by omega) (by omega)
    have hnext : ((words v).take (j + 1)).foldl fs (p.fams, []) = fs r1 (words v)[j] := by
      rw [List.take_add_one, hx, List.foldl_append, hrr]; rfl
    generalize hww : (words v)[j] = w at hx hnext
    have ih2 := ih (j + 1)
    rw [hnext, ← hfs] at ih2
    have sL : r1.1.length + 1 ≤ roomB := by simp only [roomB]; omega
    have sL8 : (r1.1.length + 1) * 8 ≤ roomB := by simp only [roomB]; omega
    have hfam := findN_P .u32 w 180 tab_families
    by_cases hnew : r1.2.map (noteOf a) = []
    · have hr2 : r1.2 = [] := List.map_eq_nil_iff.1 hnew
      simp only [setB, if_pos hnew, setC, argsT, H0, mkT, mkH, trL, List.length_cons, List.length_nil, Nat.reduceAdd, Nat.zero_add]
      simp only [↓vA, ↓vE, ↓vO, ↓vB, ↓vF, ↓vM, ↓vR, ↓vX, cvF_pc, vP, shb, shv, shvs, she_nil, she_cons, vC, vQ, Nat.reduceEqDiff, ↓reduceIte, eq_self, Nat.reduceAdd, Nat.reduceMul, Nat.reduceSub, Nat.reduceLeDiff, Nat.reduceLT, defd, cellsOf, wr, packR, Int.reduceLE, Int.reduceLT, Int.reduceEq, Int.cast_ofNat_Int, Int.reduceToNat, hlt, hx, List.getElem?_map, Option.map_some, Nat.mul_one]
      refine (h2 w).sc ?_
      rw [hfam]
      by_cases he : (famM w).2 = 0
      · have he' : (findP w 180 tab_families).2 = 0 := he
        simp only [↓vA, ↓vE, ↓vO, ↓vB, ↓vF, ↓vM, ↓vR, ↓vX, cvF_pc, vP, shb, shv, shvs, she_nil, she_cons, vC, vQ, Nat.reduceEqDiff, ↓reduceIte, eq_self, Nat.reduceAdd, Nat.reduceMul, Nat.reduceSub, Nat.reduceLeDiff, Nat.reduceLT, defd, cellsOf, wr, packR, Int.reduceLE, Int.reduceLT, Int.reduceEq, Int.cast_ofNat_Int, Int.reduceToNat, he']
        refine VD_pc ?_
        simp only [↓vA, ↓vE, ↓vO, ↓vB, ↓vF, ↓vM, ↓vR, ↓vX, cvF_pc, vP, shb, shv, shvs, she_nil, she_cons, vC, vQ, Nat.reduceEqDiff, ↓reduceIte, eq_self, Nat.reduceAdd, Nat.reduceMul, Nat.reduceSub, Nat.reduceLeDiff, Nat.reduceLT, defd, cellsOf, wr, packR, Int.reduceLE, Int.reduceLT, Int.reduceEq, Int.cast_ofNat_Int, Int.reduceToNat]
        refine (h4 r1.1 (famM w).1 (t == decide (p.fmode = 2)) sL sL8).pc ?_
        simp only [↓vA, ↓vE, ↓vO, ↓vB, ↓vF, ↓vM, ↓vR, ↓vX, cvF_pc, vP, shb, shv, shvs, she_nil, she_cons, vC, vQ, Nat.reduceEqDiff, ↓reduceIte, eq_self, Nat.reduceAdd, Nat.reduceMul, Nat.reduceSub, Nat.reduceLeDiff, Nat.reduceLT, defd, cellsOf, wr, packR, Int.reduceLE, Int.reduceLT, Int.reduceEq, Int.cast_ofNat_Int, Int.reduceToNat, hwj]
        unfold famStep at ih2
        rw [if_pos he] at ih2
        refine ih2 (by omega) (by omega) _ _ (Wk.mkn _ _ [0, 1] ?_ ?_ ?_ rfl (by simp [setB, hnew]) ?_)
        · simp [vW, bw_map, mapAt_map, mapClo_it, mapClo_nil, mapClo_cons, vP, vZ, Tr.get_set, setB, hr2]
        · simp [vW, bw_map, mapAt_map, mapClo_it, mapClo_nil, mapClo_cons, vP, vZ, Tr.get_set, nvs_self, rN_clos, setB, setC, hr2]; try decide
        · simp [vW, bw_map, mapAt_map, mapClo_it, mapClo_nil, mapClo_cons, vP, vZ, Tr.get_set]
        · intro b hb
          have : b = 0 ∨ b = 1 := by omega
          rcases this with rfl | rfl <;> rfl
      · have he' : ¬ (findP w 180 tab_families).2 = 0 := he
        simp only [↓vA, ↓vE, ↓vO, ↓vB, ↓vF, ↓vM, ↓vR, ↓vX, cvF_pc, vP, shb, shv, shvs, she_nil, she_cons, vC, vQ, Nat.reduceEqDiff, ↓reduceIte, eq_self, Nat.reduceAdd, Nat.reduceMul, Nat.reduceSub, Nat.reduceLeDiff, Nat.reduceLT, defd, cellsOf, wr, packR, Int.reduceLE, Int.reduceLT, Int.reduceEq, Int.cast_ofNat_Int, Int.reduceToNat, he']
        refine (h3 { p with fams := r1.1 } a ns (famM w).2 w (by simp only [roomB]; omega)).sc (vs := [.ptr 0 0, .i .i64 (famM w).2, .s w]) [0, 1] (Lent.of (by decide) ?_) ?_
        · simp [lent_cons, lent_nil, pushs_cons, pushs_nil, push_mk, shb, shv, shvs, bnds, bnd, rnvs, rnv, gAt, vW, bw_map, mapAt_map, mapClo_it, mapClo_nil, mapClo_cons, vP, vZ, Tr.get_set, setC, bnds_clo rN_clos, rnvs_clo rN_clos, bnd_clo, clo, rnv_clo]
        simp only [backH, List.cons_append, List.nil_append, List.length_cons, List.length_nil, Nat.zero_add, Nat.reduceAdd, List.take_succ_cons, List.take_zero, List.drop_succ_cons, List.drop_zero, List.map_cons, List.map_nil, rnb, rnvs, rnv, gAt, Nat.reduceLT, ↓reduceIte, List.getD_cons_zero, List.getD_cons_succ, Nat.reduceSub, puts_cons, puts_nil, pushs_cons, pushs_nil, hput_mk, push_mk, setC, rnvs_clo rN_clos, rnv_clo, clo]
        simp only [↓vA, ↓vE, ↓vO, ↓vB, ↓vF, ↓vM, ↓vR, ↓vX, cvF_pc, vP, shb, shv, shvs, she_nil, she_cons, vC, vQ, Nat.reduceEqDiff, ↓reduceIte, eq_self, Nat.reduceAdd, Nat.reduceMul, Nat.reduceSub, Nat.reduceLeDiff, Nat.reduceLT, defd, cellsOf, wr, packR, Int.reduceLE, Int.reduceLT, Int.reduceEq, Int.cast_ofNat_Int, Int.reduceToNat, hwj]
        unfold famStep at ih2
        rw [if_neg he] at ih2
        refine ih2 (by omega) (by omega) _ _ (Wk.mkn _ _ [0, 1, 2] ?_ ?_ ?_ rfl (by simp [setB]) ?_)
        · simp [vW, bw_map, mapAt_map, mapClo_it, mapClo_nil, mapClo_cons, vP, vZ, Tr.get_set, setB]
        · simp [vW, bw_map, mapAt_map, mapClo_it, mapClo_nil, mapClo_cons, vP, vZ, Tr.get_set, nvs_self, rN_clos, setB, setC, hr2]; try decide
        · simp [vW, bw_map, mapAt_map, mapClo_it, mapClo_nil, mapClo_cons, vP, vZ, Tr.get_set]
        · intro b hb
          have : b = 0 ∨ b = 1 := by omega
          rcases this with rfl | rfl <;> rfl
    · have hr2n : ¬ r1.2 = [] := fun hh => hnew (by rw [hh]; rfl)
      have hnl : (ns ++ r1.2.map (noteOf a)).length ≤ 2001 := by simp; omega
      simp only [setB, if_neg hnew, setC, argsT, H0, mkT, mkH, trL, List.length_cons, List.length_nil, Nat.reduceAdd, Nat.zero_add]
      generalize hN : ns ++ r1.2.map (noteOf a) = N at hnl ih2 ⊢
      simp only [↓vA, ↓vE, ↓vO, ↓vB, ↓vF, ↓vM, ↓vR, ↓vX, cvF_pc, vP, shb, shv, shvs, she_nil, she_cons, vC, vQ, Nat.reduceEqDiff, ↓reduceIte, eq_self, Nat.reduceAdd, Nat.reduceMul, Nat.reduceSub, Nat.reduceLeDiff, Nat.reduceLT, defd, cellsOf, wr, packR, Int.reduceLE, Int.reduceLT, Int.reduceEq, Int.cast_ofNat_Int, Int.reduceToNat, hlt, hx, List.getElem?_map, Option.map_some, Nat.mul_one]
      refine (h2 w).sc ?_
      rw [hfam]
      by_cases he : (famM w).2 = 0
      · have he' : (findP w 180 tab_families).2 = 0 := he
        simp only [↓vA, ↓vE, ↓vO, ↓vB, ↓vF, ↓vM, ↓vR, ↓vX, cvF_pc, vP, shb, shv, shvs, she_nil, she_cons, vC, vQ, Nat.reduceEqDiff, ↓reduceIte, eq_self, Nat.reduceAdd, Nat.reduceMul, Nat.reduceSub, Nat.reduceLeDiff, Nat.reduceLT, defd, cellsOf, wr, packR, Int.reduceLE, Int.reduceLT, Int.reduceEq, Int.cast_ofNat_Int, Int.reduceToNat, he']
        refine VD_pc ?_
        simp only [↓vA, ↓vE, ↓vO, ↓vB, ↓vF, ↓vM, ↓vR, ↓vX, cvF_pc, vP, shb, shv, shvs, she_nil, she_cons, vC, vQ, Nat.reduceEqDiff, ↓reduceIte, eq_self, Nat.reduceAdd, Nat.reduceMul, Nat.reduceSub, Nat.reduceLeDiff, Nat.reduceLT, defd, cellsOf, wr, packR, Int.reduceLE, Int.reduceLT, Int.reduceEq, Int.cast_ofNat_Int, Int.reduceToNat]
        refine (h4 r1.1 (famM w).1 (t == decide (p.fmode = 2)) sL sL8).pc ?_
        simp only [↓vA, ↓vE, ↓vO, ↓vB, ↓vF, ↓vM, ↓vR, ↓vX, cvF_pc, vP, shb, shv, shvs, she_nil, she_cons, vC, vQ, Nat.reduceEqDiff, ↓reduceIte, eq_self, Nat.reduceAdd, Nat.reduceMul, Nat.reduceSub, Nat.reduceLeDiff, Nat.reduceLT, defd, cellsOf, wr, packR, Int.reduceLE, Int.reduceLT, Int.reduceEq, Int.cast_ofNat_Int, Int.reduceToNat, hwj]
        unfold famStep at ih2
        rw [if_pos he] at ih2
        refine ih2 (by omega) (by omega) _ _ (Wk.mkn _ _ [0, 1, 2] ?_ ?_ ?_ rfl (by simp [setB, hnew]) ?_)
        · simp [vW, bw_map, mapAt_map, mapClo_it, mapClo_nil, mapClo_cons, vP, vZ, Tr.get_set, setB, hr2n]
        · simp [vW, bw_map, mapAt_map, mapClo_it, mapClo_nil, mapClo_cons, vP, vZ, Tr.get_set, nvs_self, rN_clos, setB, setC, hr2n, hN]; try decide
        · simp [vW, bw_map, mapAt_map, mapClo_it, mapClo_nil, mapClo_cons, vP, vZ, Tr.get_set, setB, hr2n]
        · intro b hb
          have : b = 0 ∨ b = 1 := by omega
          rcases this with rfl | rfl <;> rfl
      · have he' : ¬ (findP w 180 tab_families).2 = 0 := he
        simp only [↓vA, ↓vE, ↓vO, ↓vB, ↓vF, ↓vM, ↓vR, ↓vX, cvF_pc, vP, shb, shv, shvs, she_nil, she_cons, vC, vQ, Nat.reduceEqDiff, ↓reduceIte, eq_self, Nat.reduceAdd, Nat.reduceMul, Nat.reduceSub, Nat.reduceLeDiff, Nat.reduceLT, defd, cellsOf, wr, packR, Int.reduceLE, Int.reduceLT, Int.reduceEq, Int.cast_ofNat_Int, Int.reduceToNat, he']
        refine (h3 { p with fams := r1.1 } a N (famM w).2 w (by simp only [roomB]; omega)).sc (vs := [.ptr 0 0, .i .i64 (famM w).2, .s w]) [0, 2] (Lent.of (by decide) ?_) ?_
        · simp [lent_cons, lent_nil, pushs_cons, pushs_nil, push_mk, shb, shv, shvs, bnds, bnd, rnvs, rnv, gAt, vW, bw_map, mapAt_map, mapClo_it, mapClo_nil, mapClo_cons, vP, vZ, Tr.get_set, setC, bnds_clo rN_clos, rnvs_clo rN_clos, bnd_clo, clo, rnv_clo]
        simp only [backH, List.cons_append, List.nil_append, List.length_cons, List.length_nil, Nat.zero_add, Nat.reduceAdd, List.take_succ_cons, List.take_zero, List.drop_succ_cons, List.drop_zero, List.map_cons, List.map_nil, rnb, rnvs, rnv, gAt, Nat.reduceLT, ↓reduceIte, List.getD_cons_zero, List.getD_cons_succ, Nat.reduceSub, puts_cons, puts_nil, pushs_cons, pushs_nil, hput_mk, push_mk, setC, rnvs_clo rN_clos, rnv_clo, clo]
        simp only [↓vA, ↓vE, ↓vO, ↓vB, ↓vF, ↓vM, ↓vR, ↓vX, cvF_pc, vP, shb, shv, shvs, she_nil, she_cons, vC, vQ, Nat.reduceEqDiff, ↓reduceIte, eq_self, Nat.reduceAdd, Nat.reduceMul, Nat.reduceSub, Nat.reduceLeDiff, Nat.reduceLT, defd, cellsOf, wr, packR, Int.reduceLE, Int.reduceLT, Int.reduceEq, Int.cast_ofNat_Int, Int.reduceToNat, hwj]
        unfold famStep at ih2
        rw [if_neg he] at ih2
        refine ih2 (by omega) (by omega) _ _ (Wk.mkn _ _ [0, 1, 3] ?_ ?_ ?_ rfl (by simp [setB]) ?_)
        · simp [vW, bw_map, mapAt_map, mapClo_it, mapClo_nil, mapClo_cons, vP, vZ, Tr.get_set, setB]
        · simp [vW, bw_map, mapAt_map, mapClo_it, mapClo_nil, mapClo_cons, vP, vZ, Tr.get_set, nvs_self, rN_clos, setB, setC, ← hN]; try decide
        · simp [vW, bw_map, mapAt_map, mapClo_it, mapClo_nil, mapClo_cons, vP, vZ, Tr.get_set, setB]
        · intro b hb
          have : b = 0 ∨ b = 1 := by omega
          rcases this with rfl | rfl <;> rfl
  · have hjl : (words v).take j = words v := List.take_of_length_le (by omega)
    rw [hjl, ← hr] at hrr
    subst hrr
    by_cases hnew : r.2.map (noteOf a) = []
    · simp only [setB, if_pos hnew, setC, argsT, H0, mkT, mkH, trL, List.length_cons, List.length_nil, Nat.reduceAdd, Nat.zero_add]
      simp only [↓vA, ↓vE, ↓vO, ↓vB, ↓vF, ↓vM, ↓vR, ↓vX, cvF_pc, vP, shb, shv, shvs, she_nil, she_cons, vC, vQ, Nat.reduceEqDiff, ↓reduceIte, eq_self, Nat.reduceAdd, Nat.reduceMul, Nat.reduceSub, Nat.reduceLeDiff, Nat.reduceLT, defd, cellsOf, wr, packR, Int.reduceLE, Int.reduceLT, Int.reduceEq, Int.cast_ofNat_Int, Int.reduceToNat, hlt]
      refine fun _ => ⟨[0, 1], ?_⟩
      simp [vW, bw_map, mapAt_map, mapClo_it, mapClo_nil, mapClo_cons, vP, vZ, Tr.get_set, nvs_self, rN_clos]; try decide
    · simp only [setB, if_neg hnew, setC, argsT, H0, mkT, mkH, trL, List.length_cons, List.length_nil, Nat.reduceAdd, Nat.zero_add]
      simp only [↓vA, ↓vE, ↓vO, ↓vB, ↓vF, ↓vM, ↓vR, ↓vX, cvF_pc, vP, shb, shv, shvs, she_nil, she_cons, vC, vQ, Nat.reduceEqDiff, ↓reduceIte, eq_self, Nat.reduceAdd, Nat.reduceMul, Nat.reduceSub, Nat.reduceLeDiff, Nat.reduceLT, defd, cellsOf, wr, packR, Int.reduceLE, Int.reduceLT, Int.reduceEq, Int.cast_ofNat_Int, Int.reduceToNat, hlt]
      refine fun _ => ⟨[0, 1, 2], ?_⟩
      simp [vW, bw_map, mapAt_map, mapClo_it, mapClo_nil, mapClo_cons, vP, vZ, Tr.get_set, nvs_self, rN_clos]; try decide
theorem meth_families {g1 g2 g3 g4 g5 : Nat} (hc : chkFn P f (ir_restrict_setter_families g1 g2 g3 g4 g5) = true) (h0 : cTurned P g1) (h1 : cWords P g2) (h2 : cFamily P g3) (h3 : cNoteU P g4) (h4 : cWith32 P g5) : cMeth P f m_families := by
  intro p a ns v hv hn _ ha
  have hwl := words_len v
  have htl := turnP_len v
  refine Upd.mk hc (by simp [bnds, bnd]) (by unfold setB; split <;> simp) ?_
  simp only [ir_restrict_setter_families, setC, argsT, H0, mkT, mkH, trL, List.length_cons, List.length_nil, Nat.reduceAdd, Nat.zero_add]
  simp only [↓vA, ↓vE, ↓vO, ↓vB, ↓vF, ↓vM, ↓vR, ↓vX, cvF_pc, vP, shb, shv, shvs, she_nil, she_cons, vC, vQ, Nat.reduceEqDiff, ↓reduceIte, eq_self, Nat.reduceAdd, Nat.reduceMul, Nat.reduceSub, Nat.reduceLeDiff, Nat.reduceLT, defd, cellsOf, wr, packR, Int.reduceLE, Int.reduceLT, Int.reduceEq, Int.cast_ofNat_Int, Int.reduceToNat]
  refine (h0 v).sc ?_
  rw [cut_turn]
  simp only [↓vA, ↓vE, ↓vO, ↓vB, ↓vF, ↓vM, ↓vR, ↓vX, cvF_pc, vP, shb, shv, shvs, she_nil, she_cons, vC, vQ, Nat.reduceEqDiff, ↓reduceIte, eq_self, Nat.reduceAdd, Nat.reduceMul, Nat.reduceSub, Nat.reduceLeDiff, Nat.reduceLT, defd, cellsOf, wr, packR, Int.reduceLE, Int.reduceLT, Int.reduceEq, Int.cast_ofNat_Int, Int.reduceToNat]
  refine (h1 v (by omega)).sc ?_
  by_cases hw : words v = []
  · simp only [↓vA, ↓vE, ↓vO, ↓vB, ↓vF, ↓vM, ↓vR, ↓vX, cvF_pc, vP, shb, shv, shvs, she_nil, she_cons, vC, vQ, Nat.reduceEqDiff, ↓reduceIte, eq_self, Nat.reduceAdd, Nat.reduceMul, Nat.reduceSub, Nat.reduceLeDiff, Nat.reduceLT, defd, cellsOf, wr, packR, Int.reduceLE, Int.reduceLT, Int.reduceEq, Int.cast_ofNat_Int, Int.reduceToNat, hw]
    intro _
    refine ⟨[0, 1], ?_⟩
    simp [vW, bw_map, mapAt_map, mapClo_it, mapClo_nil, mapClo_cons, vP, vZ, Tr.get_set, nvs_self, rN_clos, setB, setC, m_families, hw, rI]
    try decide
  · have hwn : ¬ ((words v).length : Int) = 0 := by
      intro hh; exact hw (List.eq_nil_of_length_eq_zero (by omega))
    have hend : ∀ (q : Pol), words v ≠ [noneW] → q = { p with fmode := modeF p.fmode (turnP v).2 } → S P 2 (ir_restrict_setter_families_c3 g1 g2 g3 g4 g5) (endX [] (UpdZ 2 (.tup []) (setB (m_families p v).1 a ns ((m_families p v).2.map (noteOf a))))) (mkT [(0, .ptr 0 0), (4, .s (turnP v).1), (5, .b (turnP v).2)]) (mkH 0 [.cells 0 true false (setC q a 1 ns.length), .cells 4 true true (rN ns)]) := by
      intro q hno hq
      subst hq
      have := fam_tail (g1 := g1) h1 h2 h3 h4 { p with fmode := modeF p.fmode (turnP v).2 } a ns (turnP v).1 (turnP v).2 (by omega) hn ha _ rfl
      unfold m_families
      rw [if_neg hw, if_neg hno]
      exact this
    have main : words v ≠ [noneW] → p.fmode = 0 ∨ p.fmode ≠ 0 := fun _ => Classical.em _
    by_cases hno : words v = [noneW]
    · simp only [↓vA, ↓vE, ↓vO, ↓vB, ↓vF, ↓vM, ↓vR, ↓vX, cvF_pc, vP, shb, shv, shvs, she_nil, she_cons, vC, vQ, Nat.reduceEqDiff, ↓reduceIte, eq_self, Nat.reduceAdd, Nat.reduceMul, Nat.reduceSub, Nat.reduceLeDiff, Nat.reduceLT, defd, cellsOf, wr, packR, Int.reduceLE, Int.reduceLT, Int.reduceEq, Int.cast_ofNat_Int, Int.reduceToNat, hno, noneW]
      intro _
      refine ⟨[0, 1], ?_⟩
      simp [vW, bw_map, mapAt_map, mapClo_it, mapClo_nil, mapClo_cons, vP, vZ, Tr.get_set, nvs_self, rN_clos, setB, setC, m_families, hw, hno, rI, noneW]
      try decide
    · have fin : ∀ (q : Pol) (t' : Tr AV) (h' : Hp), q = { p with fmode := modeF p.fmode (turnP v).2 } → Wk 2 t' h' (mkT [(0, .ptr 0 0), (4, .s (turnP v).1), (5, .b (turnP v).2)]) (mkH 0 [.cells 0 true false (setC q a 1 ns.length), .cells 4 true true (rN ns)]) →
          S P 2 (ir_restrict_setter_families_c3 g1 g2 g3 g4 g5) (endX [] (UpdZ 2 (.tup []) (setB (m_families p v).1 a ns ((m_families p v).2.map (noteOf a))))) t' h' := fun q t' h' hq hk => S.weak hk (hend q hno hq)
      have two : ¬ words v = [noneW] := hno
      cases hws : words v with
      | nil => exact absurd hws hw
      | cons w ws =>
        rw [hws] at hno hwl
        simp only [List.length_cons] at hwl
        have hl0 : ¬ (((w :: ws).length : Nat) : Int) = 0 := by simp; omega
        cases ws with
        | nil =>
          have hwno : ¬ w = [110, 111, 110, 101] := fun hh => hno (by rw [hh]; rfl)
          by_cases hm : p.fmode = 0
          · cases ht : (turnP v).2 with
            | true =>
              simp only [↓vA, ↓vE, ↓vO, ↓vB, ↓vF, ↓vM, ↓vR, ↓vX, cvF_pc, vP, shb, shv, shvs, she_nil, she_cons, vC, vQ, Nat.reduceEqDiff, ↓reduceIte, eq_self, Nat.reduceAdd, Nat.reduceMul, Nat.reduceSub, Nat.reduceLeDiff, Nat.reduceLT, defd, cellsOf, wr, packR, Int.reduceLE, Int.reduceLT, Int.reduceEq, Int.cast_ofNat_Int, Int.reduceToNat, hl0, hwno, hm]
              refine fin { p with fmode := 2 } _ _ (by simp [modeF, hm, ht]) (Wk.mkn _ _ [0, 1] ?_ ?_ ?_ rfl (by simp) ?_)
              · simp [vW, bw_map, mapAt_map, mapClo_it, mapClo_nil, mapClo_cons, vP, vZ, Tr.get_set, ht]
              · simp [vW, bw_map, mapAt_map, mapClo_it, mapClo_nil, mapClo_cons, vP, vZ, Tr.get_set, nvs_self, rN_clos, setC]; try decide
              · simp [vW, bw_map, mapAt_map, mapClo_it, mapClo_nil, mapClo_cons, vP, vZ, Tr.get_set]
              · intro b hb
                have : b = 0 ∨ b = 1 := by omega
                rcases this with rfl | rfl <;> rfl
            | false =>
              simp only [↓vA, ↓vE, ↓vO, ↓vB, ↓vF, ↓vM, ↓vR, ↓vX, cvF_pc, vP, shb, shv, shvs, she_nil, she_cons, vC, vQ, Nat.reduceEqDiff, ↓reduceIte, eq_self, Nat.reduceAdd, Nat.reduceMul, Nat.reduceSub, Nat.reduceLeDiff, Nat.reduceLT, defd, cellsOf, wr, packR, Int.reduceLE, Int.reduceLT, Int.reduceEq, Int.cast_ofNat_Int, Int.reduceToNat, hl0, hwno, hm]
              refine fin { p with fmode := 1 } _ _ (by simp [modeF, hm, ht]) (Wk.mkn _ _ [0, 1] ?_ ?_ ?_ rfl (by simp) ?_)
              · simp [vW, bw_map, mapAt_map, mapClo_it, mapClo_nil, mapClo_cons, vP, vZ, Tr.get_set, ht]
              · simp [vW, bw_map, mapAt_map, mapClo_it, mapClo_nil, mapClo_cons, vP, vZ, Tr.get_set, nvs_self, rN_clos, setC]; try decide
              · simp [vW, bw_map, mapAt_map, mapClo_it, mapClo_nil, mapClo_cons, vP, vZ, Tr.get_set]
              · intro b hb
                have : b = 0 ∨ b = 1 := by omega
                rcases this with rfl | rfl <;> rfl
          · simp only [↓vA, ↓vE, ↓vO, ↓vB, ↓vF, ↓vM, ↓vR, ↓vX, cvF_pc, vP, shb, shv, shvs, she_nil, she_cons, vC, vQ, Nat.reduceEqDiff, ↓reduceIte, eq_self, Nat.reduceAdd, Nat.reduceMul, Nat.reduceSub, Nat.reduceLeDiff, Nat.reduceLT, defd, cellsOf, wr, packR, Int.reduceLE, Int.reduceLT, Int.reduceEq, Int.cast_ofNat_Int, Int.reduceToNat, hl0, hwno, hm]
            refine fin p _ _ (by simp [modeF, hm]) (Wk.mkn _ _ [0, 1] ?_ ?_ ?_ rfl (by simp) ?_)
            · simp [vW, bw_map, mapAt_map, mapClo_it, mapClo_nil, mapClo_cons, vP, vZ, Tr.get_set]
            · simp [vW, bw_map, mapAt_map, mapClo_it, mapClo_nil, mapClo_cons, vP, vZ, Tr.get_set, nvs_self, rN_clos, setC]; try decide
            · simp [vW, bw_map, mapAt_map, mapClo_it, mapClo_nil, mapClo_cons, vP, vZ, Tr.get_set]
            · intro b hb
              have : b = 0 ∨ b = 1 := by omega
              rcases this with rfl | rfl <;> rfl
        | cons w2 ws =>
          have hl1 : ¬ (((w :: w2 :: ws).length : Nat) : Int) = 1 := by simp; omega
          generalize hL : (((w :: w2 :: ws).length : Nat)) = L at hl0 hl1
          generalize (List.map AV.s (w :: w2 :: ws)) = RR
          by_cases hm : p.fmode = 0
          · cases ht : (turnP v).2 with
            | true =>
              simp only [↓vA, ↓vE, ↓vO, ↓vB, ↓vF, ↓vM, ↓vR, ↓vX, cvF_pc, vP, shb, shv, shvs, she_nil, she_cons, vC, vQ, Nat.reduceEqDiff, ↓reduceIte, eq_self, Nat.reduceAdd, Nat.reduceMul, Nat.reduceSub, Nat.reduceLeDiff, Nat.reduceLT, defd, cellsOf, wr, packR, Int.reduceLE, Int.reduceLT, Int.reduceEq, Int.cast_ofNat_Int, Int.reduceToNat, hl0, hl1, hm]
              refine fin { p with fmode := 2 } _ _ (by simp [modeF, hm, ht]) (Wk.mkn _ _ [0, 1] ?_ ?_ ?_ rfl (by simp) ?_)
              · simp [vW, bw_map, mapAt_map, mapClo_it, mapClo_nil, mapClo_cons, vP, vZ, Tr.get_set, ht]
              · simp [vW, bw_map, mapAt_map, mapClo_it, mapClo_nil, mapClo_cons, vP, vZ, Tr.get_set, nvs_self, rN_clos, setC]; try decide
              · simp [vW, bw_map, mapAt_map, mapClo_it, mapClo_nil, mapClo_cons, vP, vZ, Tr.get_set]
              · intro b hb
                have : b = 0 ∨ b = 1 := by omega
                rcases this with rfl | rfl <;> rfl
            | false =>
              simp only [↓vA, ↓vE, ↓vO, ↓vB, ↓vF, ↓vM, ↓vR, ↓vX, cvF_pc, vP, shb, shv, shvs, she_nil, she_cons, vC, vQ, Nat.reduceEqDiff, ↓reduceIte, eq_self, Nat.reduceAdd, Nat.reduceMul, Nat.reduceSub, Nat.reduceLeDiff, Nat.reduceLT, defd, cellsOf, wr, packR, Int.reduceLE, Int.reduceLT, Int.reduceEq, Int.cast_ofNat_Int, Int.reduceToNat, hl0, hl1, hm]
              refine fin { p with fmode := 1 } _ _ (by simp [modeF, hm, ht]) (Wk.mkn _ _ [0, 1] ?_ ?_ ?_ rfl (by simp) ?_)
              · simp [vW, bw_map, mapAt_map, mapClo_it, mapClo_nil, mapClo_cons, vP, vZ, Tr.get_set, ht]
              · simp [vW, bw_map, mapAt_map, mapClo_it, mapClo_nil, mapClo_cons, vP, vZ, Tr.get_set, nvs_self, rN_clos, setC]; try decide
              · simp [vW, bw_map, mapAt_map, mapClo_it, mapClo_nil, mapClo_cons, vP, vZ, Tr.get_set]
              · intro b hb
                have : b = 0 ∨ b = 1 := by omega
                rcases this with rfl | rfl <;> rfl
          · simp only [↓vA, ↓vE, ↓vO, ↓vB, ↓vF, ↓vM, ↓vR, ↓vX, cvF_pc, vP, shb, shv, shvs, she_nil, she_cons, vC, vQ, Nat.reduceEqDiff, ↓reduceIte, eq_self, Nat.reduceAdd, Nat.reduceMul, Nat.reduceSub, Nat.reduceLeDiff, Nat.reduceLT, defd, cellsOf, wr, packR, Int.reduceLE, Int.reduceLT, Int.reduceEq, Int.cast_ofNat_Int, Int.reduceToNat, hl0, hl1, hm]
            refine fin p _ _ (by simp [modeF, hm]) (Wk.mkn _ _ [0, 1] ?_ ?_ ?_ rfl (by simp) ?_)
            · simp [vW, bw_map, mapAt_map, mapClo_it, mapClo_nil, mapClo_cons, vP, vZ, Tr.get_set]
            · simp [vW, bw_map, mapAt_map, mapClo_it, mapClo_nil, mapClo_cons, vP, vZ, Tr.get_set, nvs_self, rN_clos, setC]; try decide
            · simp [vW, bw_map, mapAt_map, mapClo_it, mapClo_nil, mapClo_cons, vP, vZ, Tr.get_set]
            · intro b hb
              have : b = 0 ∨ b = 1 := by omega
              rcases this with rfl | rfl <;> rfl
end Go.Kc
end
section
/- What the setter makes of namespaces. Condition: the functions' texts are these. -/
namespace Go.Kc
variable {P : Program} {f : Nat}
def spM (s : List UInt8) : Int × Int := findP s 181 tab_spaces
def cSpace (P : Program) (f : Nat) : Prop := ∀ s, Pure P f [.s s] (findN .u64 s 181 tab_spaces)
def allSpaces : Int := 2114060416
def spStep (s : Int × List (Int × List UInt8)) (w : List UInt8) : Int × List (Int × List UInt8) :=
  (orI .u64 s.1 (spM w).1, if (spM w).2 = 0 then s.2 else s.2 ++ [((spM w).2, w)])
def spEnd (p : Pol) (t : Bool) (r : Int × List (Int × List UInt8)) : Pol :=
  if r.2 = [] then (if t = true then { p with spaces := r.1 } else { p with spaces := clrI .u64 allSpaces r.1 }) else p
noncomputable def m_namespaces (p : Pol) (v : List UInt8) : Pol × List (Int × List UInt8) :=
  if words v = [] then ({ p with spaces := 0 }, [])
  else if v ∈ noWords then ({ p with spaces := 0 }, [])
  else if v ∈ yesWords then ({ p with spaces := allSpaces }, [])
  else
    let r := (words (turnP v).1).foldl spStep (0, [])
    (spEnd p (turnP v).2 r, r.2)
theorem spStep_len (ws : List (List UInt8)) : ∀ s, (ws.foldl spStep s).2.length ≤ s.2.length + ws.length := by
  induction ws with
  | nil => intro s; simp
  | cons w ws ih =>
    intro s
    have h := ih (spStep s w)
    have h2 : (spStep s w).2.length ≤ s.2.length + 1 := by
      unfold spStep
      dsimp only
      split <;> simp
    simp only [List.foldl_cons, List.length_cons]
    omega
def ir_restrict_setter_namespaces_c3 (f_values_Words f_values_Bool f_names_Spaces f_values_Turned f_names_Space f_restrict_setter_note : Nat) : ICode := .seq (.reg false [⟨(some 8), .op (.mov (.c (.i .u64 0))), none⟩,
    ⟨(some 9), .op (.mov (.c (.b true))), none⟩])
  (.seq (.seq (.reg false [⟨(some 44), .op (.mov (.t 6)), none⟩,
    ⟨(some 45), .callF f_values_Words [(.t 44)], none⟩,
    ⟨(some 46), .op (.len false (.t 45)), none⟩,
    ⟨(some 47), .op (.mov (.c (.i .i64 0))), none⟩])
  (.blk 0 (.loop (.seq (.reg false [⟨(some 48), .op (.bin .lss (.t 47) (.t 46)), none⟩])
  (.seq (.cond (.t 48) (.skip) (.exit 0))
  (.seq (.blk 1 (.seq (.reg false [⟨(some 49), .op (.iAddrS 1 (.t 45) (.t 47)), none⟩,
    ⟨(some 50), .op (.load1 (.t 49)), none⟩,
    ⟨(some 11), .op (.mov (.t 50)), none⟩])
  (.seq (.reg false [⟨(some 52), .op (.mov (.t 11)), none⟩,
    ⟨(some 53), .callF f_names_Space [(.t 52)], none⟩,
    ⟨(some 51), .op (.mov (.t 53)), none⟩,
    ⟨(some 54), .op (.ext (.t 51) 0), none⟩,
    ⟨(some 55), .op (.ext (.t 51) 1), none⟩,
    ⟨(some 12), .op (.mov (.t 54)), none⟩,
    ⟨(some 13), .op (.mov (.t 55)), none⟩])
  (.seq (.seq (.reg false [⟨(some 56), .op (.mov (.t 13)), none⟩,
    ⟨(some 57), .op (.bin .neq (.t 56) (.c (.i .i64 0))), none⟩])
  (.cond (.t 57) (.seq (.reg false [⟨(some 58), .op (.mov (.t 0)), none⟩,
    ⟨(some 59), .op (.mov (.t 13)), none⟩,
    ⟨(some 60), .op (.mov (.t 11)), none⟩,
    ⟨(some 61), .callF f_restrict_setter_note [(.t 58), (.t 59), (.t 60)], none⟩])
  (.reg false [⟨(some 9), .op (.mov (.c (.b false))), none⟩])) (.skip)))
  (.reg false [⟨(some 62), .op (.mov (.t 8)), none⟩,
    ⟨(some 63), .op (.mov (.t 12)), none⟩,
    ⟨(some 64), .op (.bin .or (.t 62) (.t 63)), none⟩,
    ⟨(some 8), .op (.mov (.t 64)), none⟩])))))
  (.reg false [⟨(some 65), .op (.bin .add (.t 47) (.c (.i .i64 1))), none⟩,
    ⟨(some 47), .op (.mov (.t 65)), none⟩])))))))
  (.blk 2 (.seq (.reg false [⟨(some 67), .op (.mov (.t 9)), none⟩,
    ⟨(some 68), .op (.mov (.t 67)), none⟩,
    ⟨(some 69), .op (.mov (.t 7)), (some (68, true))⟩,
    ⟨(some 70), .op (.pick (.t 68) (.t 69) (.c (.b false))), none⟩,
    ⟨(some 66), .op (.mov (.t 70)), none⟩])
  (.cond (.t 66) (.reg false [⟨(some 71), .op (.mov (.t 0)), none⟩,
    ⟨(some 72), .op (.mov (.t 8)), none⟩,
    ⟨(some 73), .op (.nilChk (.t 71)), none⟩,
    ⟨(some 74), .op (.fAddr 0 (.t 73)), none⟩,
    ⟨(some 75), .op (.fAddr 8 (.t 74)), none⟩,
    ⟨none, .op (.store 1 (.t 75) (.t 72)), none⟩]) (.seq (.reg false [⟨(some 77), .op (.mov (.t 9)), none⟩,
    ⟨(some 76), .op (.mov (.t 77)), none⟩])
  (.cond (.t 76) (.reg false [⟨(some 78), .op (.mov (.t 0)), none⟩,
    ⟨(some 79), .callF f_names_Spaces [], none⟩,
    ⟨(some 80), .op (.mov (.t 8)), none⟩,
    ⟨(some 81), .op (.bin .andNot (.t 79) (.t 80)), none⟩,
    ⟨(some 82), .op (.nilChk (.t 78)), none⟩,
    ⟨(some 83), .op (.fAddr 0 (.t 82)), none⟩,
    ⟨(some 84), .op (.fAddr 8 (.t 83)), none⟩,
    ⟨none, .op (.store 1 (.t 84) (.t 81)), none⟩]) (.skip)))))))
def ir_restrict_setter_namespaces (f_values_Words f_values_Bool f_names_Spaces f_values_Turned f_names_Space f_restrict_setter_note : Nat) : IFn := ⟨[],
  .seq (.seq (.reg false [⟨(some 14), .op (.mov (.t 1)), none⟩,
    ⟨(some 15), .callF f_values_Words [(.t 14)], none⟩,
    ⟨(some 16), .op (.len false (.t 15)), none⟩,
    ⟨(some 17), .op (.bin .eql (.t 16) (.c (.i .i64 0))), none⟩])
  (.cond (.t 17) (.seq (.reg false [⟨(some 18), .op (.mov (.t 0)), none⟩,
    ⟨(some 19), .op (.nilChk (.t 18)), none⟩,
    ⟨(some 20), .op (.fAddr 0 (.t 19)), none⟩,
    ⟨(some 21), .op (.fAddr 8 (.t 20)), none⟩,
    ⟨none, .op (.store 1 (.t 21) (.c (.i .u64 0))), none⟩])
  (.ret)) (.skip)))
  (.seq (.seq (.reg false [⟨(some 23), .op (.mov (.t 1)), none⟩,
    ⟨(some 24), .callF f_values_Bool [(.t 23)], none⟩,
    ⟨(some 22), .op (.mov (.t 24)), none⟩,
    ⟨(some 25), .op (.ext (.t 22) 0), none⟩,
    ⟨(some 26), .op (.ext (.t 22) 1), none⟩,
    ⟨(some 4), .op (.mov (.t 25)), none⟩,
    ⟨(some 5), .op (.mov (.t 26)), none⟩])
  (.seq (.reg false [⟨(some 27), .op (.mov (.t 5)), none⟩,
    ⟨(some 28), .op (.bin .eql (.t 27) (.c (.i .i64 0))), none⟩])
  (.cond (.t 28) (.seq (.reg false [⟨(some 29), .op (.mov (.t 0)), none⟩,
    ⟨(some 30), .op (.nilChk (.t 29)), none⟩,
    ⟨(some 31), .op (.fAddr 0 (.t 30)), none⟩,
    ⟨(some 32), .op (.fAddr 8 (.t 31)), none⟩,
    ⟨none, .op (.store 1 (.t 32) (.c (.i .u64 0))), none⟩])
  (.seq (.seq (.reg false [⟨(some 33), .op (.mov (.t 4)), none⟩])
  (.cond (.t 33) (.reg false [⟨(some 34), .op (.mov (.t 0)), none⟩,
    ⟨(some 35), .callF f_names_Spaces [], none⟩,
    ⟨(some 36), .op (.nilChk (.t 34)), none⟩,
    ⟨(some 37), .op (.fAddr 0 (.t 36)), none⟩,
    ⟨(some 38), .op (.fAddr 8 (.t 37)), none⟩,
    ⟨none, .op (.store 1 (.t 38) (.t 35)), none⟩]) (.skip)))
  (.ret))) (.skip))))
  (.seq (.reg false [⟨(some 40), .op (.mov (.t 1)), none⟩,
    ⟨(some 41), .callF f_values_Turned [(.t 40)], none⟩,
    ⟨(some 39), .op (.mov (.t 41)), none⟩,
    ⟨(some 42), .op (.ext (.t 39) 0), none⟩,
    ⟨(some 43), .op (.ext (.t 39) 1), none⟩,
    ⟨(some 6), .op (.mov (.t 42)), none⟩,
    ⟨(some 7), .op (.mov (.t 43)), none⟩])
  (.cut (ir_restrict_setter_namespaces_c3 f_values_Words f_values_Bool f_names_Spaces f_values_Turned f_names_Space f_restrict_setter_note))))⟩
theorem sp_tail {g1 g2 g3 g4 g5 g6 : Nat} (h1 : cWords P g1) (h2 : cSpace P g5) (h3 : cNoteU P g6) (h4 : Pure P g3 [] (.i .u64 2114060416)) (p : Pol) (a : Asg) (ns : List GNote) (v : List UInt8) (t : Bool) (hv : v.length ≤ 1000) (hn : ns.length ≤ 1000)
    (r : Int × List (Int × List UInt8)) (hr : r = (words v).foldl spStep (0, [])) :
    S P 2 (ir_restrict_setter_namespaces_c3 g1 g2 g3 g4 g5 g6) (endX [] (UpdZ 2 (.tup []) (setB (spEnd p t r) a ns (r.2.map (noteOf a))))) (mkT [(0, .ptr 0 0), (6, .s v), (7, .b t)]) (mkH 0 [.cells 0 true false (setC p a 1 ns.length), .cells 4 true true (rN ns)]) := by
  have hwl := words_len v
  refine V_sound ?_
  simp only [ir_restrict_setter_namespaces_c3, setC, argsT, H0, mkT, mkH, trL, List.length_cons, List.length_nil, Nat.reduceAdd, Nat.zero_add]
  simp only [↓vA, ↓vE, ↓vO, ↓vB, ↓vF, ↓vM, ↓vR, ↓vX, cvF_pc, vP, shb, shv, shvs, she_nil, she_cons, vC, vQ, Nat.reduceEqDiff, ↓reduceIte, eq_self, Nat.reduceAdd, Nat.reduceMul, Nat.reduceSub, Nat.reduceLeDiff, Nat.reduceLT, defd, cellsOf, wr, packR, Int.reduceLE, Int.reduceLT, Int.reduceEq, Int.cast_ofNat_Int, Int.reduceToNat]
  refine (h1 v (by omega)).sc ?_
  simp only [↓vA, ↓vE, ↓vO, ↓vB, ↓vF, ↓vM, ↓vR, ↓vX, cvF_pc, vP, shb, shv, shvs, she_nil, she_cons, vC, vQ, Nat.reduceEqDiff, ↓reduceIte, eq_self, Nat.reduceAdd, Nat.reduceMul, Nat.reduceSub, Nat.reduceLeDiff, Nat.reduceLT, defd, cellsOf, wr, packR, Int.reduceLE, Int.reduceLT, Int.reduceEq, Int.cast_ofNat_Int, Int.reduceToNat]
  refine SL.loopn (α := Nat) (fun j => [(0, .ptr 0 0), (7, .b t), (8, .i .u64 (((words v).take j).foldl spStep (0, [])).1), (9, .b (decide ((((words v).take j).foldl spStep (0, [])).2 = []))), (45, .fz (words v).length ((words v).map .s)), (46, .i .i64 (words v).length), (47, .i .i64 j)])
    (fun j => setB p a ns ((((words v).take j).foldl spStep (0, [])).2.map (noteOf a))) (fun j => j ≤ (words v).length) (fun j => (words v).length - j) 0 [0, 1] ?_ ?_ ?_ rfl ?_ ?_ ?_ ?_
  · simp [vW, bw_map, mapAt_map, mapClo_it, mapClo_nil, mapClo_cons, vP, vZ, Tr.get_set, setB]
  · simp [vW, bw_map, mapAt_map, mapClo_it, mapClo_nil, mapClo_cons, vP, vZ, Tr.get_set, nvs_self, rN_clos, setB, setC]; try decide
  · simp [vW, bw_map, mapAt_map, mapClo_it, mapClo_nil, mapClo_cons, vP, vZ, Tr.get_set]
  · simp [setB]
  · intro b hb
    have : b = 0 ∨ b = 1 := by omega
    rcases this with rfl | rfl <;> rfl
  · exact Nat.zero_le _
  rintro j hj G ih
  have hlen := spStep_len ((words v).take j) (0, [])
  simp only [List.length_take, List.length_nil, Nat.zero_add] at hlen
  generalize hrr : ((words v).take j).foldl spStep (0, []) = r1 at hlen ih ⊢
  by_cases hlt : j < (words v).length
  · have hx : (words v)[j]? = some (words v)[j] := List.getElem?_eq_getElem hlt
    have hwj : IntKind.wrap .i64 ((j : Int) + 1) = (j : Int) + 1 := wrap64 (by omega) (by omega)
    have hnext : ((words v).take (j + 1)).foldl spStep (0, []) = spStep r1 (words v)[j] := by
      rw [List.take_add_one, hx, List.foldl_append, hrr]; rfl
    generalize hww : (words v)[j] = w at hx hnext
    have ih2 := ih (j + 1)
    rw [hnext] at ih2
    have hsp := findN_P .u64 w 181 tab_spaces
    by_cases hnew : r1.2.map (noteOf a) = []
    · have hr2 : r1.2 = [] := List.map_eq_nil_iff.1 hnew
      simp only [setB, if_pos hnew, setC, argsT, H0, mkT, mkH, trL, List.length_cons, List.length_nil, Nat.reduceAdd, Nat.zero_add]
      simp only [↓vA, ↓vE, ↓vO, ↓vB, ↓vF, ↓vM, ↓vR, ↓vX, cvF_pc, vP, shb, shv, shvs, she_nil, she_cons, vC, vQ, Nat.reduceEqDiff, ↓reduceIte, eq_self, Nat.reduceAdd, Nat.reduceMul, Nat.reduceSub, Nat.reduceLeDiff, Nat.reduceLT, defd, cellsOf, wr, packR, Int.reduceLE, Int.reduceLT, Int.reduceEq, Int.cast_ofNat_Int, Int.reduceToNat, hlt, hx, List.getElem?_map, Option.map_some, Nat.mul_one, hr2]
      refine (h2 w).sc ?_
      rw [hsp]
      by_cases he : (spM w).2 = 0
      · have he' : (findP w 181 tab_spaces).2 = 0 := he
        simp only [↓vA, ↓vE, ↓vO, ↓vB, ↓vF, ↓vM, ↓vR, ↓vX, cvF_pc, vP, shb, shv, shvs, she_nil, she_cons, vC, vQ, Nat.reduceEqDiff, ↓reduceIte, eq_self, Nat.reduceAdd, Nat.reduceMul, Nat.reduceSub, Nat.reduceLeDiff, Nat.reduceLT, defd, cellsOf, wr, packR, Int.reduceLE, Int.reduceLT, Int.reduceEq, Int.cast_ofNat_Int, Int.reduceToNat, he', hwj]
        unfold spStep at ih2
        rw [if_pos he] at ih2
        refine ih2 (by omega) (by omega) _ _ (Wk.mkn _ _ [0, 1] ?_ ?_ ?_ rfl (by simp [setB, hnew]) ?_)
        · simp [vW, bw_map, mapAt_map, mapClo_it, mapClo_nil, mapClo_cons, vP, vZ, Tr.get_set, setB, hr2, spM]
        · simp [vW, bw_map, mapAt_map, mapClo_it, mapClo_nil, mapClo_cons, vP, vZ, Tr.get_set, nvs_self, rN_clos, setB, setC, hr2]; try decide
        · simp [vW, bw_map, mapAt_map, mapClo_it, mapClo_nil, mapClo_cons, vP, vZ, Tr.get_set]
        · intro b hb
          have : b = 0 ∨ b = 1 := by omega
          rcases this with rfl | rfl <;> rfl
      · have he' : ¬ (findP w 181 tab_spaces).2 = 0 := he
        simp only [↓vA, ↓vE, ↓vO, ↓vB, ↓vF, ↓vM, ↓vR, ↓vX, cvF_pc, vP, shb, shv, shvs, she_nil, she_cons, vC, vQ, Nat.reduceEqDiff, ↓reduceIte, eq_self, Nat.reduceAdd, Nat.reduceMul, Nat.reduceSub, Nat.reduceLeDiff, Nat.reduceLT, defd, cellsOf, wr, packR, Int.reduceLE, Int.reduceLT, Int.reduceEq, Int.cast_ofNat_Int, Int.reduceToNat, he']
        refine (h3 p a ns (spM w).2 w (by simp only [roomB]; omega)).sc (vs := [.ptr 0 0, .i .i64 (spM w).2, .s w]) [0, 1] (Lent.of (by decide) ?_) ?_
        · simp [lent_cons, lent_nil, pushs_cons, pushs_nil, push_mk, shb, shv, shvs, bnds, bnd, rnvs, rnv, gAt, vW, bw_map, mapAt_map, mapClo_it, mapClo_nil, mapClo_cons, vP, vZ, Tr.get_set, setC, bnds_clo rN_clos, rnvs_clo rN_clos, bnd_clo, clo, rnv_clo]
        simp only [backH, List.cons_append, List.nil_append, List.length_cons, List.length_nil, Nat.zero_add, Nat.reduceAdd, List.take_succ_cons, List.take_zero, List.drop_succ_cons, List.drop_zero, List.map_cons, List.map_nil, rnb, rnvs, rnv, gAt, Nat.reduceLT, ↓reduceIte, List.getD_cons_zero, List.getD_cons_succ, Nat.reduceSub, puts_cons, puts_nil, pushs_cons, pushs_nil, hput_mk, push_mk, setC, rnvs_clo rN_clos, rnv_clo, clo]
        simp only [↓vA, ↓vE, ↓vO, ↓vB, ↓vF, ↓vM, ↓vR, ↓vX, cvF_pc, vP, shb, shv, shvs, she_nil, she_cons, vC, vQ, Nat.reduceEqDiff, ↓reduceIte, eq_self, Nat.reduceAdd, Nat.reduceMul, Nat.reduceSub, Nat.reduceLeDiff, Nat.reduceLT, defd, cellsOf, wr, packR, Int.reduceLE, Int.reduceLT, Int.reduceEq, Int.cast_ofNat_Int, Int.reduceToNat, hwj]
        unfold spStep at ih2
        rw [if_neg he] at ih2
        refine ih2 (by omega) (by omega) _ _ (Wk.mkn _ _ [0, 1, 2] ?_ ?_ ?_ rfl (by simp [setB]) ?_)
        · simp [vW, bw_map, mapAt_map, mapClo_it, mapClo_nil, mapClo_cons, vP, vZ, Tr.get_set, setB, spM]
        · simp [vW, bw_map, mapAt_map, mapClo_it, mapClo_nil, mapClo_cons, vP, vZ, Tr.get_set, nvs_self, rN_clos, setB, setC, hr2]; try decide
        · simp [vW, bw_map, mapAt_map, mapClo_it, mapClo_nil, mapClo_cons, vP, vZ, Tr.get_set]
        · intro b hb
          have : b = 0 ∨ b = 1 := by omega
          rcases this with rfl | rfl <;> rfl
    · have hr2n : ¬ r1.2 = [] := fun hh => hnew (by rw [hh]; rfl)
      have hnl : (ns ++ r1.2.map (noteOf a)).length ≤ 2001 := by simp; omega
      simp only [setB, if_neg hnew, setC, argsT, H0, mkT, mkH, trL, List.length_cons, List.length_nil, Nat.reduceAdd, Nat.zero_add]
      generalize hN : ns ++ r1.2.map (noteOf a) = N at hnl ih2 ⊢
      simp only [↓vA, ↓vE, ↓vO, ↓vB, ↓vF, ↓vM, ↓vR, ↓vX, cvF_pc, vP, shb, shv, shvs, she_nil, she_cons, vC, vQ, Nat.reduceEqDiff, ↓reduceIte, eq_self, Nat.reduceAdd, Nat.reduceMul, Nat.reduceSub, Nat.reduceLeDiff, Nat.reduceLT, defd, cellsOf, wr, packR, Int.reduceLE, Int.reduceLT, Int.reduceEq, Int.cast_ofNat_Int, Int.reduceToNat, hlt, hx, List.getElem?_map, Option.map_some, Nat.mul_one, hr2n]
      refine (h2 w).sc ?_
      rw [hsp]
      by_cases he : (spM w).2 = 0
      · have he' : (findP w 181 tab_spaces).2 = 0 := he
        simp only [↓vA, ↓vE, ↓vO, ↓vB, ↓vF, ↓vM, ↓vR, ↓vX, cvF_pc, vP, shb, shv, shvs, she_nil, she_cons, vC, vQ, Nat.reduceEqDiff, ↓reduceIte, eq_self, Nat.reduceAdd, Nat.reduceMul, Nat.reduceSub, Nat.reduceLeDiff, Nat.reduceLT, defd, cellsOf, wr, packR, Int.reduceLE, Int.reduceLT, Int.reduceEq, Int.cast_ofNat_Int, Int.reduceToNat, he', hwj]
        unfold spStep at ih2
        rw [if_pos he] at ih2
        refine ih2 (by omega) (by omega) _ _ (Wk.mkn _ _ [0, 1, 2] ?_ ?_ ?_ rfl (by simp [setB, hnew]) ?_)
        · simp [vW, bw_map, mapAt_map, mapClo_it, mapClo_nil, mapClo_cons, vP, vZ, Tr.get_set, setB, hr2n, spM]
        · simp [vW, bw_map, mapAt_map, mapClo_it, mapClo_nil, mapClo_cons, vP, vZ, Tr.get_set, nvs_self, rN_clos, setB, setC, hr2n, hN]; try decide
        · simp [vW, bw_map, mapAt_map, mapClo_it, mapClo_nil, mapClo_cons, vP, vZ, Tr.get_set, setB, hr2n]
        · intro b hb
          have : b = 0 ∨ b = 1 := by omega
          rcases this with rfl | rfl <;> rfl
      · have he' : ¬ (findP w 181 tab_spaces).2 = 0 := he
        simp only [↓vA, ↓vE, ↓vO, ↓vB, ↓vF, ↓vM, ↓vR, ↓vX, cvF_pc, vP, shb, shv, shvs, she_nil, she_cons, vC, vQ, Nat.reduceEqDiff, ↓reduceIte, eq_self, Nat.reduceAdd, Nat.reduceMul, Nat.reduceSub, Nat.reduceLeDiff, Nat.reduceLT, defd, cellsOf, wr, packR, Int.reduceLE, Int.reduceLT, Int.reduceEq, Int.cast_ofNat_Int, Int.reduceToNat, he']
        refine (h3 p a N (spM w).2 w (by simp only [roomB]; omega)).sc (vs := [.ptr 0 0, .i .i64 (spM w).2, .s w]) [0, 2] (Lent.of (by decide) ?_) ?_
        · simp [lent_cons, lent_nil, pushs_cons, pushs_nil, push_mk, shb, shv, shvs, bnds, bnd, rnvs, rnv, gAt, vW, bw_map, mapAt_map, mapClo_it, mapClo_nil, mapClo_cons, vP, vZ, Tr.get_set, setC, bnds_clo rN_clos, rnvs_clo rN_clos, bnd_clo, clo, rnv_clo]
        simp only [backH, List.cons_append, List.nil_append, List.length_cons, List.length_nil, Nat.zero_add, Nat.reduceAdd, List.take_succ_cons, List.take_zero, List.drop_succ_cons, List.drop_zero, List.map_cons, List.map_nil, rnb, rnvs, rnv, gAt, Nat.reduceLT, ↓reduceIte, List.getD_cons_zero, List.getD_cons_succ, Nat.reduceSub, puts_cons, puts_nil, pushs_cons, pushs_nil, hput_mk, push_mk, setC, rnvs_clo rN_clos, rnv_clo, clo]
        simp only [↓vA, ↓vE, ↓vO, ↓vB, ↓vF, ↓vM, ↓vR, ↓vX, cvF_pc, vP, shb, shv, shvs, she_nil, she_cons, vC, vQ, Nat.reduceEqDiff, ↓reduceIte, eq_self, Nat.reduceAdd, Nat.reduceMul, Nat.reduceSub, Nat.reduceLeDiff, Nat.reduceLT, defd, cellsOf, wr, packR, Int.reduceLE, Int.reduceLT, Int.reduceEq, Int.cast_ofNat_Int, Int.reduceToNat, hwj]
        unfold spStep at ih2
        rw [if_neg he] at ih2
        refine ih2 (by omega) (by omega) _ _ (Wk.mkn _ _ [0, 1, 3] ?_ ?_ ?_ rfl (by simp [setB]) ?_)
        · simp [vW, bw_map, mapAt_map, mapClo_it, mapClo_nil, mapClo_cons, vP, vZ, Tr.get_set, setB, spM]
        · simp [vW, bw_map, mapAt_map, mapClo_it, mapClo_nil, mapClo_cons, vP, vZ, Tr.get_set, nvs_self, rN_clos, setB, setC, ← hN]; try decide
        · simp [vW, bw_map, mapAt_map, mapClo_it, mapClo_nil, mapClo_cons, vP, vZ, Tr.get_set, setB]
        · intro b hb
          have : b = 0 ∨ b = 1 := by omega
          rcases this with rfl | rfl <;> rfl
  · have hjl : (words v).take j = words v := List.take_of_length_le (by omega)
    rw [hjl, ← hr] at hrr
    subst hrr
    by_cases hnew : r.2 = []
    · simp only [setB, hnew, List.map_nil, if_true, setC, argsT, H0, mkT, mkH, trL, List.length_cons, List.length_nil, Nat.reduceAdd, Nat.zero_add]
      cases t with
      | true =>
        simp only [↓vA, ↓vE, ↓vO, ↓vB, ↓vF, ↓vM, ↓vR, ↓vX, cvF_pc, vP, shb, shv, shvs, she_nil, she_cons, vC, vQ, Nat.reduceEqDiff, ↓reduceIte, eq_self, Nat.reduceAdd, Nat.reduceMul, Nat.reduceSub, Nat.reduceLeDiff, Nat.reduceLT, defd, cellsOf, wr, packR, Int.reduceLE, Int.reduceLT, Int.reduceEq, Int.cast_ofNat_Int, Int.reduceToNat, hlt]
        refine fun _ => ⟨[0, 1], ?_⟩
        simp [vW, bw_map, mapAt_map, mapClo_it, mapClo_nil, mapClo_cons, vP, vZ, Tr.get_set, nvs_self, rN_clos, spEnd, hnew]; try decide
      | false =>
        simp only [↓vA, ↓vE, ↓vO, ↓vB, ↓vF, ↓vM, ↓vR, ↓vX, cvF_pc, vP, shb, shv, shvs, she_nil, she_cons, vC, vQ, Nat.reduceEqDiff, ↓reduceIte, eq_self, Nat.reduceAdd, Nat.reduceMul, Nat.reduceSub, Nat.reduceLeDiff, Nat.reduceLT, defd, cellsOf, wr, packR, Int.reduceLE, Int.reduceLT, Int.reduceEq, Int.cast_ofNat_Int, Int.reduceToNat, hlt]
        refine h4.sc ?_
        simp only [↓vA, ↓vE, ↓vO, ↓vB, ↓vF, ↓vM, ↓vR, ↓vX, cvF_pc, vP, shb, shv, shvs, she_nil, she_cons, vC, vQ, Nat.reduceEqDiff, ↓reduceIte, eq_self, Nat.reduceAdd, Nat.reduceMul, Nat.reduceSub, Nat.reduceLeDiff, Nat.reduceLT, defd, cellsOf, wr, packR, Int.reduceLE, Int.reduceLT, Int.reduceEq, Int.cast_ofNat_Int, Int.reduceToNat]
        refine fun _ => ⟨[0, 1], ?_⟩
        simp [vW, bw_map, mapAt_map, mapClo_it, mapClo_nil, mapClo_cons, vP, vZ, Tr.get_set, nvs_self, rN_clos, spEnd, hnew, allSpaces]; try decide
    · have hmn : ¬ r.2.map (noteOf a) = [] := fun hh => hnew (List.map_eq_nil_iff.1 hh)
      simp only [setB, if_neg hmn, hnew, setC, argsT, H0, mkT, mkH, trL, List.length_cons, List.length_nil, Nat.reduceAdd, Nat.zero_add]
      simp only [↓vA, ↓vE, ↓vO, ↓vB, ↓vF, ↓vM, ↓vR, ↓vX, cvF_pc, vP, shb, shv, shvs, she_nil, she_cons, vC, vQ, Nat.reduceEqDiff, ↓reduceIte, eq_self, Nat.reduceAdd, Nat.reduceMul, Nat.reduceSub, Nat.reduceLeDiff, Nat.reduceLT, defd, cellsOf, wr, packR, Int.reduceLE, Int.reduceLT, Int.reduceEq, Int.cast_ofNat_Int, Int.reduceToNat, hlt]
      refine fun _ => ⟨[0, 1, 2], ?_⟩
      simp [vW, bw_map, mapAt_map, mapClo_it, mapClo_nil, mapClo_cons, vP, vZ, Tr.get_set, nvs_self, rN_clos, spEnd, hnew]; try decide
theorem meth_namespaces {g1 g2 g3 g4 g5 g6 : Nat} (hc : chkFn P f (ir_restrict_setter_namespaces g1 g2 g3 g4 g5 g6) = true) (h1 : cWords P g1) (hb : cBool P g2) (h4 : Pure P g3 [] (.i .u64 2114060416)) (ht : cTurned P g4) (h2 : cSpace P g5) (h3 : cNoteU P g6) : cMeth P f m_namespaces := by
  intro p a ns v hv hn _ _
  have hwl := words_len v
  have htl := turnP_len v
  refine Upd.mk hc (by simp [bnds, bnd]) (by unfold setB; split <;> simp) ?_
  simp only [ir_restrict_setter_namespaces, setC, argsT, H0, mkT, mkH, trL, List.length_cons, List.length_nil, Nat.reduceAdd, Nat.zero_add]
  simp only [↓vA, ↓vE, ↓vO, ↓vB, ↓vF, ↓vM, ↓vR, ↓vX, cvF_pc, vP, shb, shv, shvs, she_nil, she_cons, vC, vQ, Nat.reduceEqDiff, ↓reduceIte, eq_self, Nat.reduceAdd, Nat.reduceMul, Nat.reduceSub, Nat.reduceLeDiff, Nat.reduceLT, defd, cellsOf, wr, packR, Int.reduceLE, Int.reduceLT, Int.reduceEq, Int.cast_ofNat_Int, Int.reduceToNat]
  refine (h1 v (by omega)).sc ?_
  by_cases hw : words v = []
  · simp only [↓vA, ↓vE, ↓vO, ↓vB, ↓vF, ↓vM, ↓vR, ↓vX, cvF_pc, vP, shb, shv, shvs, she_nil, she_cons, vC, vQ, Nat.reduceEqDiff, ↓reduceIte, eq_self, Nat.reduceAdd, Nat.reduceMul, Nat.reduceSub, Nat.reduceLeDiff, Nat.reduceLT, defd, cellsOf, wr, packR, Int.reduceLE, Int.reduceLT, Int.reduceEq, Int.cast_ofNat_Int, Int.reduceToNat, hw]
    intro _
    refine ⟨[0, 1], ?_⟩
    simp [vW, bw_map, mapAt_map, mapClo_it, mapClo_nil, mapClo_cons, vP, vZ, Tr.get_set, nvs_self, rN_clos, setB, setC, m_namespaces, hw]
    try decide
  · have hwn : ¬ ((words v).length : Int) = 0 := by
      intro hh; exact hw (List.eq_nil_of_length_eq_zero (by omega))
    simp only [↓vA, ↓vE, ↓vO, ↓vB, ↓vF, ↓vM, ↓vR, ↓vX, cvF_pc, vP, shb, shv, shvs, she_nil, she_cons, vC, vQ, Nat.reduceEqDiff, ↓reduceIte, eq_self, Nat.reduceAdd, Nat.reduceMul, Nat.reduceSub, Nat.reduceLeDiff, Nat.reduceLT, defd, cellsOf, wr, packR, Int.reduceLE, Int.reduceLT, Int.reduceEq, Int.cast_ofNat_Int, Int.reduceToNat, hwn]
    refine (hb v).sc ?_
    unfold boolE
    by_cases hno : v ∈ noWords
    · simp only [↓vA, ↓vE, ↓vO, ↓vB, ↓vF, ↓vM, ↓vR, ↓vX, cvF_pc, vP, shb, shv, shvs, she_nil, she_cons, vC, vQ, Nat.reduceEqDiff, ↓reduceIte, eq_self, Nat.reduceAdd, Nat.reduceMul, Nat.reduceSub, Nat.reduceLeDiff, Nat.reduceLT, defd, cellsOf, wr, packR, Int.reduceLE, Int.reduceLT, Int.reduceEq, Int.cast_ofNat_Int, Int.reduceToNat, hno]
      intro _
      refine ⟨[0, 1], ?_⟩
      simp [vW, bw_map, mapAt_map, mapClo_it, mapClo_nil, mapClo_cons, vP, vZ, Tr.get_set, nvs_self, rN_clos, setB, setC, m_namespaces, hw, hno]
      try decide
    · by_cases hy : v ∈ yesWords
      · simp only [↓vA, ↓vE, ↓vO, ↓vB, ↓vF, ↓vM, ↓vR, ↓vX, cvF_pc, vP, shb, shv, shvs, she_nil, she_cons, vC, vQ, Nat.reduceEqDiff, ↓reduceIte, eq_self, Nat.reduceAdd, Nat.reduceMul, Nat.reduceSub, Nat.reduceLeDiff, Nat.reduceLT, defd, cellsOf, wr, packR, Int.reduceLE, Int.reduceLT, Int.reduceEq, Int.cast_ofNat_Int, Int.reduceToNat, hno, hy]
        refine h4.sc ?_
        simp only [↓vA, ↓vE, ↓vO, ↓vB, ↓vF, ↓vM, ↓vR, ↓vX, cvF_pc, vP, shb, shv, shvs, she_nil, she_cons, vC, vQ, Nat.reduceEqDiff, ↓reduceIte, eq_self, Nat.reduceAdd, Nat.reduceMul, Nat.reduceSub, Nat.reduceLeDiff, Nat.reduceLT, defd, cellsOf, wr, packR, Int.reduceLE, Int.reduceLT, Int.reduceEq, Int.cast_ofNat_Int, Int.reduceToNat]
        intro _
        refine ⟨[0, 1], ?_⟩
        simp [vW, bw_map, mapAt_map, mapClo_it, mapClo_nil, mapClo_cons, vP, vZ, Tr.get_set, nvs_self, rN_clos, setB, setC, m_namespaces, hw, hno, hy, allSpaces]
        try decide
      · simp only [↓vA, ↓vE, ↓vO, ↓vB, ↓vF, ↓vM, ↓vR, ↓vX, cvF_pc, vP, shb, shv, shvs, she_nil, she_cons, vC, vQ, Nat.reduceEqDiff, ↓reduceIte, eq_self, Nat.reduceAdd, Nat.reduceMul, Nat.reduceSub, Nat.reduceLeDiff, Nat.reduceLT, defd, cellsOf, wr, packR, Int.reduceLE, Int.reduceLT, Int.reduceEq, Int.cast_ofNat_Int, Int.reduceToNat, hno, hy]
        refine (ht v).sc ?_
        rw [cut_turn]
        simp only [↓vA, ↓vE, ↓vO, ↓vB, ↓vF, ↓vM, ↓vR, ↓vX, cvF_pc, vP, shb, shv, shvs, she_nil, she_cons, vC, vQ, Nat.reduceEqDiff, ↓reduceIte, eq_self, Nat.reduceAdd, Nat.reduceMul, Nat.reduceSub, Nat.reduceLeDiff, Nat.reduceLT, defd, cellsOf, wr, packR, Int.reduceLE, Int.reduceLT, Int.reduceEq, Int.cast_ofNat_Int, Int.reduceToNat]
        have := sp_tail (g2 := g2) (g4 := g4) h1 h2 h3 h4 p a ns (turnP v).1 (turnP v).2 (by omega) hn _ rfl
        unfold m_namespaces
        rw [if_neg hw, if_neg hno, if_neg hy]
        refine S.weak (Wk.mkn _ _ [0, 1] ?_ ?_ ?_ rfl (by simp) ?_) this
        · simp [vW, bw_map, mapAt_map, mapClo_it, mapClo_nil, mapClo_cons, vP, vZ, Tr.get_set]
        · simp [vW, bw_map, mapAt_map, mapClo_it, mapClo_nil, mapClo_cons, vP, vZ, Tr.get_set, nvs_self, rN_clos, setC]; try decide
        · simp [vW, bw_map, mapAt_map, mapClo_it, mapClo_nil, mapClo_cons, vP, vZ, Tr.get_set]
        · intro b hb
          have : b = 0 ∨ b = 1 := by omega
          rcases this with rfl | rfl <;> rfl
end Go.Kc
end
section
/- What restrict.Set answers. Condition: the functions' texts are these. -/
namespace Go.Kc
variable {P : Program} {f : Nat}
theorem cClone.pure {g esz by' : Nat} (h : cClone P g esz by') {n : Nat} {rows : List AV} (hl : rows.length = n * esz) (hc : clos rows = true) (ho : cellsOk rows = true) (h1 : n ≤ roomB) (h2 : n * by' ≤ roomB) : Pure P g [.fz n rows] (.fz n rows) := by
  refine (h n rows hl hc ho h1 h2).pure (by simp [clos, clo]) ?_
  refine .own 0 n esz true rows rows ?_ (fun h0 => ?_) (Frzs.self hc)
  · simp [pushs, Hp.push, shb, H0, Tr.get_set, shvs_clo hc]
  · subst h0; exact List.eq_nil_of_length_eq_zero (by omega)
/-- a policy that is not too great -/
structure PolOk (p : Pol) : Prop where
  a : p.arches.length ≤ 1000
  f : p.fams.length ≤ 1000
  c : p.filter.calls.length ≤ 1000
  l : p.log.calls.length ≤ 1000
def cCopied (P : Program) (f : Nat) : Prop := ∀ p, PolOk p → Pure P f [.agg (cPol p)] (.agg (cPol p))
def ir_restrict_copied (f_slices_Clone_int_int f_slices_Clone_uint32_uint32 f_slices_Clone_api_Call_api_Call : Nat) : IFn := ⟨[.cell 2 13 true],
  .seq (.reg false [⟨(some 1), .op (.box (.t 0)), none⟩,
    ⟨(some 2), .op (.alloc [.nils, .i .u8 0, .nils, .i .u32 0, .i .u8 0, .nils, .nils, .i .u8 0, .i .u64 0, .b false, .b false, .b false, .b false]), none⟩])
  (.seq (.reg false [⟨(some 3), .op (.fAddr 0 (.t 1)), none⟩,
    ⟨(some 4), .op (.load1 (.t 3)), none⟩,
    ⟨(some 5), .callF f_slices_Clone_int_int [(.t 4)], none⟩,
    ⟨(some 6), .op (.fAddr 0 (.t 1)), none⟩,
    ⟨none, .op (.store 1 (.t 6) (.t 5)), none⟩])
  (.seq (.reg false [⟨(some 7), .op (.fAddr 6 (.t 1)), none⟩,
    ⟨(some 8), .op (.load1 (.t 7)), none⟩,
    ⟨(some 9), .callF f_slices_Clone_uint32_uint32 [(.t 8)], none⟩,
    ⟨(some 10), .op (.fAddr 6 (.t 1)), none⟩,
    ⟨none, .op (.store 1 (.t 10) (.t 9)), none⟩])
  (.seq (.reg false [⟨(some 11), .op (.fAddr 1 (.t 1)), none⟩,
    ⟨(some 12), .op (.fAddr 1 (.t 11)), none⟩,
    ⟨(some 13), .op (.load1 (.t 12)), none⟩,
    ⟨(some 14), .callF f_slices_Clone_api_Call_api_Call [(.t 13)], none⟩,
    ⟨(some 15), .op (.fAddr 1 (.t 1)), none⟩,
    ⟨(some 16), .op (.fAddr 1 (.t 15)), none⟩,
    ⟨none, .op (.store 1 (.t 16) (.t 14)), none⟩])
  (.seq (.reg false [⟨(some 17), .op (.fAddr 4 (.t 1)), none⟩,
    ⟨(some 18), .op (.fAddr 1 (.t 17)), none⟩,
    ⟨(some 19), .op (.load1 (.t 18)), none⟩,
    ⟨(some 20), .callF f_slices_Clone_api_Call_api_Call [(.t 19)], none⟩,
    ⟨(some 21), .op (.fAddr 4 (.t 1)), none⟩,
    ⟨(some 22), .op (.fAddr 1 (.t 21)), none⟩,
    ⟨none, .op (.store 1 (.t 22) (.t 20)), none⟩])
  (.seq (.reg false [⟨(some 23), .op (.loadN 13 (.t 1)), none⟩,
    ⟨none, .op (.store 13 (.t 2) (.t 23)), none⟩])
  (.ret))))))⟩
theorem copied_restrict {g1 g2 g3 : Nat} (hc : chkFn P f (ir_restrict_copied g1 g2 g3) = true) (h1 : cClone P g1 1 8) (h2 : cClone P g2 1 4) (h3 : cClone P g3 2 24) : cCopied P f := by
  intro p hp
  have ha := hp.a
  have hf := hp.f
  have hcc := hp.c
  have hl := hp.l
  refine Pure.mk hc rfl ?_
  simp only [ir_restrict_copied, cPol, argsT, H0, mkT, mkH, trL, List.length_cons, List.length_nil, Nat.reduceAdd, Nat.zero_add]
  simp only [↓vA, ↓vE, ↓vO, ↓vB, ↓vF, ↓vM, ↓vR, ↓vX, cvF_pc, vP, shb, shv, shvs, she_nil, she_cons, vC, vQ, Nat.reduceEqDiff, ↓reduceIte, eq_self, Nat.reduceAdd, Nat.reduceMul, Nat.reduceSub, Nat.reduceLeDiff, Nat.reduceLT, defd, cellsOf, wr, packR, Int.reduceLE, Int.reduceLT, Int.reduceEq, Int.cast_ofNat_Int, Int.reduceToNat]
  refine (h1.pure (by rw [rI_len]; omega) rI_clos rI_ok (by simp only [roomB]; omega) (by simp only [roomB]; omega)).sc ?_
  simp only [↓vA, ↓vE, ↓vO, ↓vB, ↓vF, ↓vM, ↓vR, ↓vX, cvF_pc, vP, shb, shv, shvs, she_nil, she_cons, vC, vQ, Nat.reduceEqDiff, ↓reduceIte, eq_self, Nat.reduceAdd, Nat.reduceMul, Nat.reduceSub, Nat.reduceLeDiff, Nat.reduceLT, defd, cellsOf, wr, packR, Int.reduceLE, Int.reduceLT, Int.reduceEq, Int.cast_ofNat_Int, Int.reduceToNat]
  refine (h2.pure (by rw [rI_len]; omega) rI_clos rI_ok (by simp only [roomB]; omega) (by simp only [roomB]; omega)).sc ?_
  simp only [↓vA, ↓vE, ↓vO, ↓vB, ↓vF, ↓vM, ↓vR, ↓vX, cvF_pc, vP, shb, shv, shvs, she_nil, she_cons, vC, vQ, Nat.reduceEqDiff, ↓reduceIte, eq_self, Nat.reduceAdd, Nat.reduceMul, Nat.reduceSub, Nat.reduceLeDiff, Nat.reduceLT, defd, cellsOf, wr, packR, Int.reduceLE, Int.reduceLT, Int.reduceEq, Int.cast_ofNat_Int, Int.reduceToNat]
  refine (h3.pure rC_len rC_clos rC_ok (by simp only [roomB]; omega) (by simp only [roomB]; omega)).sc ?_
  simp only [↓vA, ↓vE, ↓vO, ↓vB, ↓vF, ↓vM, ↓vR, ↓vX, cvF_pc, vP, shb, shv, shvs, she_nil, she_cons, vC, vQ, Nat.reduceEqDiff, ↓reduceIte, eq_self, Nat.reduceAdd, Nat.reduceMul, Nat.reduceSub, Nat.reduceLeDiff, Nat.reduceLT, defd, cellsOf, wr, packR, Int.reduceLE, Int.reduceLT, Int.reduceEq, Int.cast_ofNat_Int, Int.reduceToNat]
  refine (h3.pure rC_len rC_clos rC_ok (by simp only [roomB]; omega) (by simp only [roomB]; omega)).sc ?_
  simp only [↓vA, ↓vE, ↓vO, ↓vB, ↓vF, ↓vM, ↓vR, ↓vX, cvF_pc, vP, shb, shv, shvs, she_nil, she_cons, vC, vQ, Nat.reduceEqDiff, ↓reduceIte, eq_self, Nat.reduceAdd, Nat.reduceMul, Nat.reduceSub, Nat.reduceLeDiff, Nat.reduceLT, defd, cellsOf, wr, packR, Int.reduceLE, Int.reduceLT, Int.reduceEq, Int.cast_ofNat_Int, Int.reduceToNat, vZ, and_self]
def ir_filter_copied (f_slices_Clone_int_int f_slices_Clone_uint32_uint32 f_slices_Clone_api_Call_api_Call : Nat) : IFn := ⟨[.cell 2 13 true],
  .seq (.reg false [⟨(some 1), .op (.box (.t 0)), none⟩,
    ⟨(some 2), .op (.alloc [.nils, .i .u8 0, .nils, .i .u32 0, .i .u8 0, .nils, .nils, .i .u8 0, .i .u64 0, .b false, .b false, .b false, .b false]), none⟩])
  (.seq (.reg false [⟨(some 3), .op (.fAddr 0 (.t 1)), none⟩,
    ⟨(some 4), .op (.load1 (.t 3)), none⟩,
    ⟨(some 5), .callF f_slices_Clone_int_int [(.t 4)], none⟩,
    ⟨(some 6), .op (.fAddr 0 (.t 1)), none⟩,
    ⟨none, .op (.store 1 (.t 6) (.t 5)), none⟩])
  (.seq (.reg false [⟨(some 7), .op (.fAddr 6 (.t 1)), none⟩,
    ⟨(some 8), .op (.load1 (.t 7)), none⟩,
    ⟨(some 9), .callF f_slices_Clone_uint32_uint32 [(.t 8)], none⟩,
    ⟨(some 10), .op (.fAddr 6 (.t 1)), none⟩,
    ⟨none, .op (.store 1 (.t 10) (.t 9)), none⟩])
  (.seq (.reg false [⟨(some 11), .op (.fAddr 1 (.t 1)), none⟩,
    ⟨(some 12), .op (.fAddr 1 (.t 11)), none⟩,
    ⟨(some 13), .op (.load1 (.t 12)), none⟩,
    ⟨(some 14), .callF f_slices_Clone_api_Call_api_Call [(.t 13)], none⟩,
    ⟨(some 15), .op (.fAddr 1 (.t 1)), none⟩,
    ⟨(some 16), .op (.fAddr 1 (.t 15)), none⟩,
    ⟨none, .op (.store 1 (.t 16) (.t 14)), none⟩])
  (.seq (.reg false [⟨(some 17), .op (.fAddr 4 (.t 1)), none⟩,
    ⟨(some 18), .op (.fAddr 1 (.t 17)), none⟩,
    ⟨(some 19), .op (.load1 (.t 18)), none⟩,
    ⟨(some 20), .callF f_slices_Clone_api_Call_api_Call [(.t 19)], none⟩,
    ⟨(some 21), .op (.fAddr 4 (.t 1)), none⟩,
    ⟨(some 22), .op (.fAddr 1 (.t 21)), none⟩,
    ⟨none, .op (.store 1 (.t 22) (.t 20)), none⟩])
  (.seq (.reg false [⟨(some 23), .op (.loadN 13 (.t 1)), none⟩,
    ⟨none, .op (.store 13 (.t 2) (.t 23)), none⟩])
  (.ret))))))⟩
theorem copied_filter {g1 g2 g3 : Nat} (hc : chkFn P f (ir_filter_copied g1 g2 g3) = true) (h1 : cClone P g1 1 8) (h2 : cClone P g2 1 4) (h3 : cClone P g3 2 24) : cCopied P f := by
  intro p hp
  have ha := hp.a
  have hf := hp.f
  have hcc := hp.c
  have hl := hp.l
  refine Pure.mk hc rfl ?_
  simp only [ir_filter_copied, cPol, argsT, H0, mkT, mkH, trL, List.length_cons, List.length_nil, Nat.reduceAdd, Nat.zero_add]
  simp only [↓vA, ↓vE, ↓vO, ↓vB, ↓vF, ↓vM, ↓vR, ↓vX, cvF_pc, vP, shb, shv, shvs, she_nil, she_cons, vC, vQ, Nat.reduceEqDiff, ↓reduceIte, eq_self, Nat.reduceAdd, Nat.reduceMul, Nat.reduceSub, Nat.reduceLeDiff, Nat.reduceLT, defd, cellsOf, wr, packR, Int.reduceLE, Int.reduceLT, Int.reduceEq, Int.cast_ofNat_Int, Int.reduceToNat]
  refine (h1.pure (by rw [rI_len]; omega) rI_clos rI_ok (by simp only [roomB]; omega) (by simp only [roomB]; omega)).sc ?_
  simp only [↓vA, ↓vE, ↓vO, ↓vB, ↓vF, ↓vM, ↓vR, ↓vX, cvF_pc, vP, shb, shv, shvs, she_nil, she_cons, vC, vQ, Nat.reduceEqDiff, ↓reduceIte, eq_self, Nat.reduceAdd, Nat.reduceMul, Nat.reduceSub, Nat.reduceLeDiff, Nat.reduceLT, defd, cellsOf, wr, packR, Int.reduceLE, Int.reduceLT, Int.reduceEq, Int.cast_ofNat_Int, Int.reduceToNat]
  refine (h2.pure (by rw [rI_len]; omega) rI_clos rI_ok (by simp only [roomB]; omega) (by simp only [roomB]; omega)).sc ?_
  simp only [↓vA, ↓vE, ↓vO, ↓vB, ↓vF, ↓vM, ↓vR, ↓vX, cvF_pc, vP, shb, shv, shvs, she_nil, she_cons, vC, vQ, Nat.reduceEqDiff, ↓reduceIte, eq_self, Nat.reduceAdd, Nat.reduceMul, Nat.reduceSub, Nat.reduceLeDiff, Nat.reduceLT, defd, cellsOf, wr, packR, Int.reduceLE, Int.reduceLT, Int.reduceEq, Int.cast_ofNat_Int, Int.reduceToNat]
  refine (h3.pure rC_len rC_clos rC_ok (by simp only [roomB]; omega) (by simp only [roomB]; omega)).sc ?_
  simp only [↓vA, ↓vE, ↓vO, ↓vB, ↓vF, ↓vM, ↓vR, ↓vX, cvF_pc, vP, shb, shv, shvs, she_nil, she_cons, vC, vQ, Nat.reduceEqDiff, ↓reduceIte, eq_self, Nat.reduceAdd, Nat.reduceMul, Nat.reduceSub, Nat.reduceLeDiff, Nat.reduceLT, defd, cellsOf, wr, packR, Int.reduceLE, Int.reduceLT, Int.reduceEq, Int.cast_ofNat_Int, Int.reduceToNat]
  refine (h3.pure rC_len rC_clos rC_ok (by simp only [roomB]; omega) (by simp only [roomB]; omega)).sc ?_
  simp only [↓vA, ↓vE, ↓vO, ↓vB, ↓vF, ↓vM, ↓vR, ↓vX, cvF_pc, vP, shb, shv, shvs, she_nil, she_cons, vC, vQ, Nat.reduceEqDiff, ↓reduceIte, eq_self, Nat.reduceAdd, Nat.reduceMul, Nat.reduceSub, Nat.reduceLeDiff, Nat.reduceLT, defd, cellsOf, wr, packR, Int.reduceLE, Int.reduceLT, Int.reduceEq, Int.cast_ofNat_Int, Int.reduceToNat, vZ, and_self]
def ir_restrict_keys (f_restrict_setter_arches f_restrict_setter_families f_restrict_setter_namespaces f_restrict_setter_writeExecute f_restrict_setter_personality f_restrict_setter_realtime f_restrict_setter_noPrivileges : Nat) : IFn := ⟨[.tmp 0],
  .seq (.reg false [⟨(some 0), .op (.mov (.c (.nilm))), none⟩])
  (.seq (.reg false [⟨(some 1), .op (.mkM), none⟩,
    ⟨none, .op (.updM none (.t 1) (.c (.s [83, 121, 115, 116, 101, 109, 67, 97, 108, 108, 65, 114, 99, 104, 105, 116, 101, 99, 116, 117, 114, 101, 115])) (.c (.fn f_restrict_setter_arches [] []))), none⟩,
    ⟨none, .op (.updM none (.t 1) (.c (.s [82, 101, 115, 116, 114, 105, 99, 116, 65, 100, 100, 114, 101, 115, 115, 70, 97, 109, 105, 108, 105, 101, 115])) (.c (.fn f_restrict_setter_families [] []))), none⟩,
    ⟨none, .op (.updM none (.t 1) (.c (.s [82, 101, 115, 116, 114, 105, 99, 116, 78, 97, 109, 101, 115, 112, 97, 99, 101, 115])) (.c (.fn f_restrict_setter_namespaces [] []))), none⟩,
    ⟨none, .op (.updM none (.t 1) (.c (.s [77, 101, 109, 111, 114, 121, 68, 101, 110, 121, 87, 114, 105, 116, 101, 69, 120, 101, 99, 117, 116, 101])) (.c (.fn f_restrict_setter_writeExecute [] []))), none⟩,
    ⟨none, .op (.updM none (.t 1) (.c (.s [76, 111, 99, 107, 80, 101, 114, 115, 111, 110, 97, 108, 105, 116, 121])) (.c (.fn f_restrict_setter_personality [] []))), none⟩,
    ⟨none, .op (.updM none (.t 1) (.c (.s [82, 101, 115, 116, 114, 105, 99, 116, 82, 101, 97, 108, 116, 105, 109, 101])) (.c (.fn f_restrict_setter_realtime [] []))), none⟩,
    ⟨none, .op (.updM none (.t 1) (.c (.s [78, 111, 78, 101, 119, 80, 114, 105, 118, 105, 108, 101, 103, 101, 115])) (.c (.fn f_restrict_setter_noPrivileges [] []))), none⟩,
    ⟨(some 2), .op (.mov (.t 1)), none⟩,
    ⟨(some 0), .op (.mov (.t 2)), none⟩])
  (.ret))⟩
def kArch : List UInt8 := [83, 121, 115, 116, 101, 109, 67, 97, 108, 108, 65, 114, 99, 104, 105, 116, 101, 99, 116, 117, 114, 101, 115]
def kFam : List UInt8 := [82, 101, 115, 116, 114, 105, 99, 116, 65, 100, 100, 114, 101, 115, 115, 70, 97, 109, 105, 108, 105, 101, 115]
def kSp : List UInt8 := [82, 101, 115, 116, 114, 105, 99, 116, 78, 97, 109, 101, 115, 112, 97, 99, 101, 115]
def kWe : List UInt8 := [77, 101, 109, 111, 114, 121, 68, 101, 110, 121, 87, 114, 105, 116, 101, 69, 120, 101, 99, 117, 116, 101]
def kPe : List UInt8 := [76, 111, 99, 107, 80, 101, 114, 115, 111, 110, 97, 108, 105, 116, 121]
def kRt : List UInt8 := [82, 101, 115, 116, 114, 105, 99, 116, 82, 101, 97, 108, 116, 105, 109, 101]
def kNp : List UInt8 := [78, 111, 78, 101, 119, 80, 114, 105, 118, 105, 108, 101, 103, 101, 115]
def keysE (g1 g2 g3 g4 g5 g6 g7 : Nat) : List (AV × AV) := [(.s kArch, .fn g1 [] []), (.s kFam, .fn g2 [] []), (.s kSp, .fn g3 [] []), (.s kWe, .fn g4 [] []), (.s kPe, .fn g5 [] []), (.s kRt, .fn g6 [] []), (.s kNp, .fn g7 [] [])]
theorem keys_own {g1 g2 g3 g4 g5 g6 g7 : Nat} (hc : chkFn P f (ir_restrict_keys g1 g2 g3 g4 g5 g6 g7) = true) : Own P f [] (.map 0) [.map (keysE g1 g2 g3 g4 g5 g6 g7)] := by
  refine Own.mk hc rfl ?_
  simp only [ir_restrict_keys, argsT, H0, mkT, mkH, trL, List.length_cons, List.length_nil, Nat.reduceAdd, Nat.zero_add]
  simp (decide := true) only [↓vA, ↓vE, ↓vO, ↓vB, ↓vF, ↓vM, ↓vR, ↓vX, cvF_pc, vP, shb, shv, shvs, she_nil, she_cons, vC, vQ, Nat.reduceEqDiff, ↓reduceIte, eq_self, Nat.reduceAdd, Nat.reduceMul, Nat.reduceSub, Nat.reduceLeDiff, Nat.reduceLT, defd, cellsOf, wr, packR, Int.reduceLE, Int.reduceLT, Int.reduceEq, Int.cast_ofNat_Int, Int.reduceToNat]
  intro _
  refine ⟨[0], ?_⟩
  simp [vW, bw_map, mapAt_map, mapClo_it, mapClo_nil, mapClo_cons, vP, vZ, Tr.get_set, keysE, kArch, kFam, kSp, kWe, kPe, kRt, kNp, clo, clos]
end Go.Kc
end
section
/- What restrict.Set and restrict.Key answer. Condition: the functions' texts are these. -/
namespace Go.Kc
variable {P : Program} {f : Nat}
noncomputable def setM (p : Pol) (k v : List UInt8) : Pol × List (Int × List UInt8) :=
  if k = kArch then m_arches p v else if k = kFam then m_families p v else if k = kSp then m_namespaces p v else if k = kWe then m_we p v else if k = kPe then m_pe p v else if k = kRt then m_rt p v else if k = kNp then m_np p v else (p, [])
def keyM (k : List UInt8) : Bool := decide (k = kArch) || decide (k = kFam) || decide (k = kSp) || decide (k = kWe) || decide (k = kPe) || decide (k = kRt) || decide (k = kNp)
def zPol : List AV := [.nils, .i .u8 0, .nils, .i .u32 0, .i .u8 0, .nils, .nils, .i .u8 0, .i .u64 0, .b false, .b false, .b false, .b false]
def ir_restrict_Set_c3 (f_restrict_copied f_restrict_keys : Nat) : ICode := .seq (.reg true [⟨(some 27), .op (.mov (.t 6)), none⟩,
    ⟨(some 28), .op (.nilChk (.t 27)), none⟩,
    ⟨(some 29), .op (.fAddr 0 (.t 28)), none⟩,
    ⟨(some 30), .op (.loadN 13 (.t 29)), none⟩,
    ⟨(some 31), .op (.mov (.t 6)), none⟩,
    ⟨(some 32), .op (.nilChk (.t 31)), none⟩,
    ⟨(some 33), .op (.fAddr 13 (.t 32)), none⟩,
    ⟨(some 34), .op (.load1 (.t 33)), none⟩,
    ⟨none, .op (.storeD 13 (.t 4) (.t 30) [33]), none⟩,
    ⟨(some 5), .op (.mov (.t 34)), none⟩])
  (.ret)
def ir_restrict_Set_c2 (f_restrict_copied f_restrict_keys : Nat) : ICode := .seq (.seq (.reg true [⟨(some 15), .callF f_restrict_keys [], none⟩,
    ⟨(some 16), .op (.fAddr 3 (.t 3)), none⟩,
    ⟨(some 17), .op (.load1 (.t 16)), none⟩,
    ⟨(some 18), .op (.lookM none true (.nilf) (.t 15) (.t 17)), none⟩,
    ⟨(some 14), .op (.mov (.t 18)), none⟩,
    ⟨(some 19), .op (.ext (.t 14) 0), none⟩,
    ⟨(some 20), .op (.ext (.t 14) 1), none⟩,
    ⟨(some 7), .op (.mov (.t 19)), none⟩,
    ⟨(some 8), .op (.mov (.t 20)), none⟩])
  (.seq (.reg false [⟨(some 21), .op (.mov (.t 8)), none⟩])
  (.cond (.t 21) (.reg false [⟨(some 22), .op (.mov (.t 7)), none⟩,
    ⟨(some 23), .op (.mov (.t 6)), none⟩,
    ⟨(some 24), .op (.fAddr 4 (.t 3)), none⟩,
    ⟨(some 25), .op (.load1 (.t 24)), none⟩,
    ⟨(some 26), .callV (.t 22) [(.t 23), (.t 25)], none⟩]) (.skip))))
  (.cut (ir_restrict_Set_c3 f_restrict_copied f_restrict_keys))
def ir_restrict_Set (f_restrict_copied f_restrict_keys : Nat) : IFn := ⟨[.cell 4 13 true, .tmp 5],
  .seq (.reg false [⟨(some 2), .op (.box (.t 0)), none⟩,
    ⟨(some 3), .op (.box (.t 1)), none⟩,
    ⟨(some 4), .op (.alloc [.nils, .i .u8 0, .nils, .i .u32 0, .i .u8 0, .nils, .nils, .i .u8 0, .i .u64 0, .b false, .b false, .b false, .b false]), none⟩,
    ⟨(some 5), .op (.mov (.c (.nils))), none⟩])
  (.seq (.reg true [⟨(some 9), .op (.loadN 13 (.t 2)), none⟩,
    ⟨(some 10), .callF f_restrict_copied [(.t 9)], none⟩,
    ⟨(some 11), .op (.loadN 5 (.t 3)), none⟩,
    ⟨(some 12), .op (.build [.nils, .i .u8 0, .nils, .i .u32 0, .i .u8 0, .nils, .nils, .i .u8 0, .i .u64 0, .b false, .b false, .b false, .b false, .nils, .s [], .i .i64 0, .s [], .s [], .s []] [(0, 13, (.t 10)), (14, 5, (.t 11))]), none⟩,
    ⟨(some 13), .op (.box (.t 12)), none⟩,
    ⟨(some 6), .op (.mov (.t 13)), none⟩])
  (.cut (ir_restrict_Set_c2 f_restrict_copied f_restrict_keys)))⟩
theorem set_tail (g1 g2 : Nat) (q : Pol) (a : Asg) (new : List GNote) (src : List Nat) {t' : Tr AV} {h' : Hp} {k : Nat} (hk : k = (setB q a [] new).length) (res : List AV) (hres : res.length = 13)
    (hw : Wk 0 t' h' (mkT [(4, .ptr k 0), (6, .ptr 0 0)]) (mkH 0 (setB q a [] new ++ [.cells 0 true false res]))) :
    S P 0 (ir_restrict_Set_c3 g1 g2) (endX [.cell 4 13 true, .tmp 5] (fun v' h' => Frz h' v' (.tup [.agg (cPol q), .fz new.length (rN new)]))) t' h' := by
  refine S.weak hw (V_sound ?_)
  subst hk
  have e1 : (13 : Nat) ≤ res.length := by omega
  have e2 : res.drop 13 = [] := List.drop_of_length_le (by omega)
  by_cases hn : new = []
  · simp only [ir_restrict_Set_c3, setB, if_pos hn, setC, argsT, H0, mkT, mkH, trL, List.length_cons, List.length_nil, Nat.reduceAdd, Nat.zero_add, List.cons_append, List.nil_append]
    simp only [↓vA, ↓vE, ↓vO, ↓vB, ↓vF, ↓vM, ↓vR, ↓vX, cvF_pc, vP, shb, shv, shvs, she_nil, she_cons, vC, vQ, Nat.reduceEqDiff, ↓reduceIte, eq_self, Nat.reduceAdd, Nat.reduceMul, Nat.reduceSub, Nat.reduceLeDiff, Nat.reduceLT, defd, cellsOf, wr, packR, Int.reduceLE, Int.reduceLT, Int.reduceEq, Int.cast_ofNat_Int, Int.reduceToNat]
    refine VD_pc ?_
    simp (decide := true) only [↓vA, ↓vE, ↓vO, ↓vB, ↓vF, ↓vM, ↓vR, ↓vX, cvF_pc, vP, shb, shv, shvs, she_nil, she_cons, vC, vQ, Nat.reduceEqDiff, ↓reduceIte, eq_self, Nat.reduceAdd, Nat.reduceMul, Nat.reduceSub, Nat.reduceLeDiff, Nat.reduceLT, defd, cellsOf, wr, packR, Int.reduceLE, Int.reduceLT, Int.reduceEq, Int.cast_ofNat_Int, Int.reduceToNat, e1, e2]
    simp [vZ, vP, Tr.get_set, cPol, hn, rI_clos, frzs_self, rN_clos, rN, rC_clos]
  · simp only [ir_restrict_Set_c3, setB, if_neg hn, setC, argsT, H0, mkT, mkH, trL, List.length_cons, List.length_nil, Nat.reduceAdd, Nat.zero_add, List.cons_append, List.nil_append]
    simp only [↓vA, ↓vE, ↓vO, ↓vB, ↓vF, ↓vM, ↓vR, ↓vX, cvF_pc, vP, shb, shv, shvs, she_nil, she_cons, vC, vQ, Nat.reduceEqDiff, ↓reduceIte, eq_self, Nat.reduceAdd, Nat.reduceMul, Nat.reduceSub, Nat.reduceLeDiff, Nat.reduceLT, defd, cellsOf, wr, packR, Int.reduceLE, Int.reduceLT, Int.reduceEq, Int.cast_ofNat_Int, Int.reduceToNat]
    refine VD_pc ?_
    simp (decide := true) only [↓vA, ↓vE, ↓vO, ↓vB, ↓vF, ↓vM, ↓vR, ↓vX, cvF_pc, vP, shb, shv, shvs, she_nil, she_cons, vC, vQ, Nat.reduceEqDiff, ↓reduceIte, eq_self, Nat.reduceAdd, Nat.reduceMul, Nat.reduceSub, Nat.reduceLeDiff, Nat.reduceLT, defd, cellsOf, wr, packR, Int.reduceLE, Int.reduceLT, Int.reduceEq, Int.cast_ofNat_Int, Int.reduceToNat, e1, e2]
    simp [vZ, vP, Tr.get_set, cPol, hn, rI_clos, frzs_self, rN_clos, rC_clos]
def cMeths (P : Program) (m1 m2 m3 m4 m5 m6 m7 : Nat) : Prop := cMeth P m1 m_arches ∧ cMeth P m2 m_families ∧ cMeth P m3 m_namespaces ∧ cMeth P m4 m_we ∧ cMeth P m5 m_pe ∧ cMeth P m6 m_rt ∧ cMeth P m7 m_np
def cSet (P : Program) (f : Nat) : Prop := ∀ (p : Pol) (a : Asg), PolOk p → a.val.length ≤ 1000 → Pure P f [.agg (cPol p), .agg (cAsg a)] (.tup [.agg (cPol (setM p a.key a.val).1), .fz ((setM p a.key a.val).2.map (noteOf a)).length (rN ((setM p a.key a.val).2.map (noteOf a)))])
theorem set_pure {g1 g2 m1 m2 m3 m4 m5 m6 m7 : Nat} (hc : chkFn P f (ir_restrict_Set g1 g2) = true) (h1 : cCopied P g1) (h2 : Own P g2 [] (.map 0) [.map (keysE m1 m2 m3 m4 m5 m6 m7)]) (hm : cMeths P m1 m2 m3 m4 m5 m6 m7) : cSet P f := by
  obtain ⟨hm1, hm2, hm3, hm4, hm5, hm6, hm7⟩ := hm
  intro p a hp hv
  refine Pure.mk hc rfl ?_
  generalize hT : AV.tup [.agg (cPol (setM p a.key a.val).1), .fz ((setM p a.key a.val).2.map (noteOf a)).length (rN ((setM p a.key a.val).2.map (noteOf a)))] = tgt
  simp only [ir_restrict_Set, cPol, cAsg, argsT, H0, mkT, mkH, trL, List.length_cons, List.length_nil, Nat.reduceAdd, Nat.zero_add]
  simp only [↓vA, ↓vE, ↓vO, ↓vB, ↓vF, ↓vM, ↓vR, ↓vX, cvF_pc, vP, shb, shv, shvs, she_nil, she_cons, vC, vQ, Nat.reduceEqDiff, ↓reduceIte, eq_self, Nat.reduceAdd, Nat.reduceMul, Nat.reduceSub, Nat.reduceLeDiff, Nat.reduceLT, defd, cellsOf, wr, packR, Int.reduceLE, Int.reduceLT, Int.reduceEq, Int.cast_ofNat_Int, Int.reduceToNat]
  refine VD_pc ?_
  simp (decide := true) only [↓vA, ↓vE, ↓vO, ↓vB, ↓vF, ↓vM, ↓vR, ↓vX, cvF_pc, vP, shb, shv, shvs, she_nil, she_cons, vC, vQ, Nat.reduceEqDiff, ↓reduceIte, eq_self, Nat.reduceAdd, Nat.reduceMul, Nat.reduceSub, Nat.reduceLeDiff, Nat.reduceLT, defd, cellsOf, wr, packR, Int.reduceLE, Int.reduceLT, Int.reduceEq, Int.cast_ofNat_Int, Int.reduceToNat]
  refine (h1 p hp).pc ?_
  simp (decide := true) only [↓vA, ↓vE, ↓vO, ↓vB, ↓vF, ↓vM, ↓vR, ↓vX, cvF_pc, vP, shb, shv, shvs, she_nil, she_cons, vC, vQ, Nat.reduceEqDiff, ↓reduceIte, eq_self, Nat.reduceAdd, Nat.reduceMul, Nat.reduceSub, Nat.reduceLeDiff, Nat.reduceLT, defd, cellsOf, wr, packR, Int.reduceLE, Int.reduceLT, Int.reduceEq, Int.cast_ofNat_Int, Int.reduceToNat, cPol]
  refine S.weak (Wk.mk [(3, .ptr 2 0), (4, .ptr 3 0), (6, .ptr 0 0)] [.cells 0 true false (setC p a 1 0), .cells 4 true true [], .cells 0 true false (cAsg a), .cells 0 true false [.nils, .i .u8 0, .nils, .i .u32 0, .i .u8 0, .nils, .nils, .i .u8 0, .i .u64 0, .b false, .b false, .b false, .b false]] [3, 9, 1, 2] ?_ ?_ ?_ rfl) (V_sound ?_)
  · simp [vW, bw_map, mapAt_map, mapClo_it, mapClo_nil, mapClo_cons, vP, vZ, Tr.get_set]
  · simp [vW, bw_map, mapAt_map, mapClo_it, mapClo_nil, mapClo_cons, vP, vZ, Tr.get_set, setC, cAsg]; try decide
  · simp [vW, bw_map, mapAt_map, mapClo_it, mapClo_nil, mapClo_cons, vP, vZ, Tr.get_set]
  simp only [ir_restrict_Set_c2, setC, cAsg, argsT, H0, mkT, mkH, trL, List.length_cons, List.length_nil, Nat.reduceAdd, Nat.zero_add]
  simp only [↓vA, ↓vE, ↓vO, ↓vB, ↓vF, ↓vM, ↓vR, ↓vX, cvF_pc, vP, shb, shv, shvs, she_nil, she_cons, vC, vQ, Nat.reduceEqDiff, ↓reduceIte, eq_self, Nat.reduceAdd, Nat.reduceMul, Nat.reduceSub, Nat.reduceLeDiff, Nat.reduceLT, defd, cellsOf, wr, packR, Int.reduceLE, Int.reduceLT, Int.reduceEq, Int.cast_ofNat_Int, Int.reduceToNat]
  refine VD_pc ?_
  simp only [↓vA, ↓vE, ↓vO, ↓vB, ↓vF, ↓vM, ↓vR, ↓vX, cvF_pc, vP, shb, shv, shvs, she_nil, she_cons, vC, vQ, Nat.reduceEqDiff, ↓reduceIte, eq_self, Nat.reduceAdd, Nat.reduceMul, Nat.reduceSub, Nat.reduceLeDiff, Nat.reduceLT, defd, cellsOf, wr, packR, Int.reduceLE, Int.reduceLT, Int.reduceEq, Int.cast_ofNat_Int, Int.reduceToNat]
  refine h2.pc ?_
  simp only [pushs_cons, pushs_nil, push_mk, shb, shv, shvs, she_nil, she_cons, List.map_cons, List.map_nil, up_mk, down_mk, Nat.reduceAdd, Nat.zero_add, keysE]
  simp only [↓vA, ↓vE, ↓vO, ↓vB, ↓vF, ↓vM, ↓vR, ↓vX, cvF_pc, vP, shb, shv, shvs, she_nil, she_cons, vC, vQ, Nat.reduceEqDiff, ↓reduceIte, eq_self, Nat.reduceAdd, Nat.reduceMul, Nat.reduceSub, Nat.reduceLeDiff, Nat.reduceLT, defd, cellsOf, wr, packR, Int.reduceLE, Int.reduceLT, Int.reduceEq, Int.cast_ofNat_Int, Int.reduceToNat]
  subst hT
  by_cases n0 : a.key = kArch
  · have hM : setM p a.key a.val = m_arches p a.val := by unfold setM; rw [if_pos n0]
    simp only [↓vA, ↓vE, ↓vO, ↓vB, ↓vF, ↓vM, ↓vR, ↓vX, cvF_pc, vP, shb, shv, shvs, she_nil, she_cons, vC, vQ, Nat.reduceEqDiff, ↓reduceIte, eq_self, Nat.reduceAdd, Nat.reduceMul, Nat.reduceSub, Nat.reduceLeDiff, Nat.reduceLT, defd, cellsOf, wr, packR, Int.reduceLE, Int.reduceLT, Int.reduceEq, Int.cast_ofNat_Int, Int.reduceToNat, n0, if_true]
    refine (hm1 p a [] a.val hv (by simp) hp.a hp.f).sc (vs := [.ptr 0 0, .s a.val]) [0, 1] (Lent.of (by decide) ?_) ?_
    · simp [lent_cons, lent_nil, pushs_cons, pushs_nil, push_mk, shb, shv, shvs, bnds, bnd, rnvs, rnv, gAt, vW, bw_map, mapAt_map, mapClo_it, mapClo_nil, mapClo_cons, vP, vZ, Tr.get_set, setC, bnds_clo rN_clos, rnvs_clo rN_clos, bnd_clo, clo, rnv_clo, rN]
    rw [← n0, hM]
    by_cases hnew : (m_arches p a.val).2.map (noteOf a) = []
    · simp only [setB, if_pos hnew]
      simp only [backH, List.cons_append, List.nil_append, List.length_cons, List.length_nil, Nat.zero_add, Nat.reduceAdd, List.take_succ_cons, List.take_zero, List.drop_succ_cons, List.drop_zero, List.map_cons, List.map_nil, rnb, rnvs, rnv, gAt, Nat.reduceLT, ↓reduceIte, List.getD_cons_zero, List.getD_cons_succ, Nat.reduceSub, puts_cons, puts_nil, pushs_cons, pushs_nil, hput_mk, push_mk, setC, rnvs_clo rN_clos, rnv_clo, clo]
      simp only [↓vA, ↓vE, ↓vO, ↓vB, ↓vF, ↓vM, ↓vR, ↓vX, cvF_pc, vP, shb, shv, shvs, she_nil, she_cons, vC, vQ, Nat.reduceEqDiff, ↓reduceIte, eq_self, Nat.reduceAdd, Nat.reduceMul, Nat.reduceSub, Nat.reduceLeDiff, Nat.reduceLT, defd, cellsOf, wr, packR, Int.reduceLE, Int.reduceLT, Int.reduceEq, Int.cast_ofNat_Int, Int.reduceToNat]
      refine set_tail g1 g2 (m_arches p a.val).1 a ((m_arches p a.val).2.map (noteOf a)) [] (k := 2) (by simp only [setB, if_pos hnew]; rfl) zPol rfl (Wk.mk _ _ [0, 1, 3] ?_ ?_ ?_ rfl)
      · simp only [setB, if_pos hnew]; simp [vW, bw_map, mapAt_map, mapClo_it, mapClo_nil, mapClo_cons, vP, vZ, Tr.get_set]
      · simp only [setB, if_pos hnew]; simp [vW, bw_map, mapAt_map, mapClo_it, mapClo_nil, mapClo_cons, vP, vZ, Tr.get_set, setC, zPol, nvs_self, rN_clos]; try decide
      · simp [vW, bw_map, mapAt_map, mapClo_it, mapClo_nil, mapClo_cons, vP, vZ, Tr.get_set]
    · simp only [setB, if_neg hnew]
      simp only [backH, List.cons_append, List.nil_append, List.length_cons, List.length_nil, Nat.zero_add, Nat.reduceAdd, List.take_succ_cons, List.take_zero, List.drop_succ_cons, List.drop_zero, List.map_cons, List.map_nil, rnb, rnvs, rnv, gAt, Nat.reduceLT, ↓reduceIte, List.getD_cons_zero, List.getD_cons_succ, Nat.reduceSub, puts_cons, puts_nil, pushs_cons, pushs_nil, hput_mk, push_mk, setC, rnvs_clo rN_clos, rnv_clo, clo]
      simp only [↓vA, ↓vE, ↓vO, ↓vB, ↓vF, ↓vM, ↓vR, ↓vX, cvF_pc, vP, shb, shv, shvs, she_nil, she_cons, vC, vQ, Nat.reduceEqDiff, ↓reduceIte, eq_self, Nat.reduceAdd, Nat.reduceMul, Nat.reduceSub, Nat.reduceLeDiff, Nat.reduceLT, defd, cellsOf, wr, packR, Int.reduceLE, Int.reduceLT, Int.reduceEq, Int.cast_ofNat_Int, Int.reduceToNat]
      refine set_tail g1 g2 (m_arches p a.val).1 a ((m_arches p a.val).2.map (noteOf a)) [] (k := 3) (by simp only [setB, if_neg hnew]; rfl) zPol rfl (Wk.mk _ _ [0, 1, 5, 3] ?_ ?_ ?_ rfl)
      · simp only [setB, if_neg hnew]; simp [vW, bw_map, mapAt_map, mapClo_it, mapClo_nil, mapClo_cons, vP, vZ, Tr.get_set]
      · simp only [setB, if_neg hnew]; simp [vW, bw_map, mapAt_map, mapClo_it, mapClo_nil, mapClo_cons, vP, vZ, Tr.get_set, setC, zPol, nvs_self, rN_clos]; try decide
      · simp [vW, bw_map, mapAt_map, mapClo_it, mapClo_nil, mapClo_cons, vP, vZ, Tr.get_set]
  by_cases n1 : a.key = kFam
  · have hM : setM p a.key a.val = m_families p a.val := by unfold setM; rw [if_neg n0, if_pos n1]
    simp only [↓vA, ↓vE, ↓vO, ↓vB, ↓vF, ↓vM, ↓vR, ↓vX, cvF_pc, vP, shb, shv, shvs, she_nil, she_cons, vC, vQ, Nat.reduceEqDiff, ↓reduceIte, eq_self, Nat.reduceAdd, Nat.reduceMul, Nat.reduceSub, Nat.reduceLeDiff, Nat.reduceLT, defd, cellsOf, wr, packR, Int.reduceLE, Int.reduceLT, Int.reduceEq, Int.cast_ofNat_Int, Int.reduceToNat, n0, n1, if_true]
    refine (hm2 p a [] a.val hv (by simp) hp.a hp.f).sc (vs := [.ptr 0 0, .s a.val]) [0, 1] (Lent.of (by decide) ?_) ?_
    · simp [lent_cons, lent_nil, pushs_cons, pushs_nil, push_mk, shb, shv, shvs, bnds, bnd, rnvs, rnv, gAt, vW, bw_map, mapAt_map, mapClo_it, mapClo_nil, mapClo_cons, vP, vZ, Tr.get_set, setC, bnds_clo rN_clos, rnvs_clo rN_clos, bnd_clo, clo, rnv_clo, rN]
    rw [← n1, hM]
    by_cases hnew : (m_families p a.val).2.map (noteOf a) = []
    · simp only [setB, if_pos hnew]
      simp only [backH, List.cons_append, List.nil_append, List.length_cons, List.length_nil, Nat.zero_add, Nat.reduceAdd, List.take_succ_cons, List.take_zero, List.drop_succ_cons, List.drop_zero, List.map_cons, List.map_nil, rnb, rnvs, rnv, gAt, Nat.reduceLT, ↓reduceIte, List.getD_cons_zero, List.getD_cons_succ, Nat.reduceSub, puts_cons, puts_nil, pushs_cons, pushs_nil, hput_mk, push_mk, setC, rnvs_clo rN_clos, rnv_clo, clo]
      simp only [↓vA, ↓vE, ↓vO, ↓vB, ↓vF, ↓vM, ↓vR, ↓vX, cvF_pc, vP, shb, shv, shvs, she_nil, she_cons, vC, vQ, Nat.reduceEqDiff, ↓reduceIte, eq_self, Nat.reduceAdd, Nat.reduceMul, Nat.reduceSub, Nat.reduceLeDiff, Nat.reduceLT, defd, cellsOf, wr, packR, Int.reduceLE, Int.reduceLT, Int.reduceEq, Int.cast_ofNat_Int, Int.reduceToNat]
      refine set_tail g1 g2 (m_families p a.val).1 a ((m_families p a.val).2.map (noteOf a)) [] (k := 2) (by simp only [setB, if_pos hnew]; rfl) zPol rfl (Wk.mk _ _ [0, 1, 3] ?_ ?_ ?_ rfl)
      · simp only [setB, if_pos hnew]; simp [vW, bw_map, mapAt_map, mapClo_it, mapClo_nil, mapClo_cons, vP, vZ, Tr.get_set]
      · simp only [setB, if_pos hnew]; simp [vW, bw_map, mapAt_map, mapClo_it, mapClo_nil, mapClo_cons, vP, vZ, Tr.get_set, setC, zPol, nvs_self, rN_clos]; try decide
      · simp [vW, bw_map, mapAt_map, mapClo_it, mapClo_nil, mapClo_cons, vP, vZ, Tr.get_set]
    · simp only [setB, if_neg hnew]
      simp only [backH, List.cons_append, List.nil_append, List.length_cons, List.length_nil, Nat.zero_add, Nat.reduceAdd, List.take_succ_cons, List.take_zero, List.drop_succ_cons, List.drop_zero, List.map_cons, List.map_nil, rnb, rnvs, rnv, gAt, Nat.reduceLT, ↓reduceIte, List.getD_cons_zero, List.getD_cons_succ, Nat.reduceSub, puts_cons, puts_nil, pushs_cons, pushs_nil, hput_mk, push_mk, setC, rnvs_clo rN_clos, rnv_clo, clo]
      simp only [↓vA, ↓vE, ↓vO, ↓vB, ↓vF, ↓vM, ↓vR, ↓vX, cvF_pc, vP, shb, shv, shvs, she_nil, she_cons, vC, vQ, Nat.reduceEqDiff, ↓reduceIte, eq_self, Nat.reduceAdd, Nat.reduceMul, Nat.reduceSub, Nat.reduceLeDiff, Nat.reduceLT, defd, cellsOf, wr, packR, Int.reduceLE, Int.reduceLT, Int.reduceEq, Int.cast_ofNat_Int, Int.reduceToNat]
      refine set_tail g1 g2 (m_families p a.val).1 a ((m_families p a.val).2.map (noteOf a)) [] (k := 3) (by simp only [setB, if_neg hnew]; rfl) zPol rfl (Wk.mk _ _ [0, 1, 5, 3] ?_ ?_ ?_ rfl)
      · simp only [setB, if_neg hnew]; simp [vW, bw_map, mapAt_map, mapClo_it, mapClo_nil, mapClo_cons, vP, vZ, Tr.get_set]
      · simp only [setB, if_neg hnew]; simp [vW, bw_map, mapAt_map, mapClo_it, mapClo_nil, mapClo_cons, vP, vZ, Tr.get_set, setC, zPol, nvs_self, rN_clos]; try decide
      · simp [vW, bw_map, mapAt_map, mapClo_it, mapClo_nil, mapClo_cons, vP, vZ, Tr.get_set]
  by_cases n2 : a.key = kSp
  · have hM : setM p a.key a.val = m_namespaces p a.val := by unfold setM; rw [if_neg n0, if_neg n1, if_pos n2]
    simp only [↓vA, ↓vE, ↓vO, ↓vB, ↓vF, ↓vM, ↓vR, ↓vX, cvF_pc, vP, shb, shv, shvs, she_nil, she_cons, vC, vQ, Nat.reduceEqDiff, ↓reduceIte, eq_self, Nat.reduceAdd, Nat.reduceMul, Nat.reduceSub, Nat.reduceLeDiff, Nat.reduceLT, defd, cellsOf, wr, packR, Int.reduceLE, Int.reduceLT, Int.reduceEq, Int.cast_ofNat_Int, Int.reduceToNat, n0, n1, n2, if_true]
    refine (hm3 p a [] a.val hv (by simp) hp.a hp.f).sc (vs := [.ptr 0 0, .s a.val]) [0, 1] (Lent.of (by decide) ?_) ?_
    · simp [lent_cons, lent_nil, pushs_cons, pushs_nil, push_mk, shb, shv, shvs, bnds, bnd, rnvs, rnv, gAt, vW, bw_map, mapAt_map, mapClo_it, mapClo_nil, mapClo_cons, vP, vZ, Tr.get_set, setC, bnds_clo rN_clos, rnvs_clo rN_clos, bnd_clo, clo, rnv_clo, rN]
    rw [← n2, hM]
    by_cases hnew : (m_namespaces p a.val).2.map (noteOf a) = []
    · simp only [setB, if_pos hnew]
      simp only [backH, List.cons_append, List.nil_append, List.length_cons, List.length_nil, Nat.zero_add, Nat.reduceAdd, List.take_succ_cons, List.take_zero, List.drop_succ_cons, List.drop_zero, List.map_cons, List.map_nil, rnb, rnvs, rnv, gAt, Nat.reduceLT, ↓reduceIte, List.getD_cons_zero, List.getD_cons_succ, Nat.reduceSub, puts_cons, puts_nil, pushs_cons, pushs_nil, hput_mk, push_mk, setC, rnvs_clo rN_clos, rnv_clo, clo]
      simp only [↓vA, ↓vE, ↓vO, ↓vB, ↓vF, ↓vM, ↓vR, ↓vX, cvF_pc, vP, shb, shv, shvs, she_nil, she_cons, vC, vQ, Nat.reduceEqDiff, ↓reduceIte, eq_self, Nat.reduceAdd, Nat.reduceMul, Nat.reduceSub, Nat.reduceLeDiff, Nat.reduceLT, defd, cellsOf, wr, packR, Int.reduceLE, Int.reduceLT, Int.reduceEq, Int.cast_ofNat_Int, Int.reduceToNat]
      refine set_tail g1 g2 (m_namespaces p a.val).1 a ((m_namespaces p a.val).2.map (noteOf a)) [] (k := 2) (by simp only [setB, if_pos hnew]; rfl) zPol rfl (Wk.mk _ _ [0, 1, 3] ?_ ?_ ?_ rfl)
      · simp only [setB, if_pos hnew]; simp [vW, bw_map, mapAt_map, mapClo_it, mapClo_nil, mapClo_cons, vP, vZ, Tr.get_set]
      · simp only [setB, if_pos hnew]; simp [vW, bw_map, mapAt_map, mapClo_it, mapClo_nil, mapClo_cons, vP, vZ, Tr.get_set, setC, zPol, nvs_self, rN_clos]; try decide
      · simp [vW, bw_map, mapAt_map, mapClo_it, mapClo_nil, mapClo_cons, vP, vZ, Tr.get_set]
    · simp only [setB, if_neg hnew]
      simp only [backH, List.cons_append, List.nil_append, List.length_cons, List.length_nil, Nat.zero_add, Nat.reduceAdd, List.take_succ_cons, List.take_zero, List.drop_succ_cons, List.drop_zero, List.map_cons, List.map_nil, rnb, rnvs, rnv, gAt, Nat.reduceLT, ↓reduceIte, List.getD_cons_zero, List.getD_cons_succ, Nat.reduceSub, puts_cons, puts_nil, pushs_cons, pushs_nil, hput_mk, push_mk, setC, rnvs_clo rN_clos, rnv_clo, clo]
      simp only [↓vA, ↓vE, ↓vO, ↓vB, ↓vF, ↓vM, ↓vR, ↓vX, cvF_pc, vP, shb, shv, shvs, she_nil, she_cons, vC, vQ, Nat.reduceEqDiff, ↓reduceIte, eq_self, Nat.reduceAdd, Nat.reduceMul, Nat.reduceSub, Nat.reduceLeDiff, Nat.reduceLT, defd, cellsOf, wr, packR, Int.reduceLE, Int.reduceLT, Int.reduceEq, Int.cast_ofNat_Int, Int.reduceToNat]
      refine set_tail g1 g2 (m_namespaces p a.val).1 a ((m_namespaces p a.val).2.map (noteOf a)) [] (k := 3) (by simp only [setB, if_neg hnew]; rfl) zPol rfl (Wk.mk _ _ [0, 1, 5, 3] ?_ ?_ ?_ rfl)
      · simp only [setB, if_neg hnew]; simp [vW, bw_map, mapAt_map, mapClo_it, mapClo_nil, mapClo_cons, vP, vZ, Tr.get_set]
      · simp only [setB, if_neg hnew]; simp [vW, bw_map, mapAt_map, mapClo_it, mapClo_nil, mapClo_cons, vP, vZ, Tr.get_set, setC, zPol, nvs_self, rN_clos]; try decide
      · simp [vW, bw_map, mapAt_map, mapClo_it, mapClo_nil, mapClo_cons, vP, vZ, Tr.get_set]
  by_cases n3 : a.key = kWe
  · have hM : setM p a.key a.val = m_we p a.val := by unfold setM; rw [if_neg n0, if_neg n1, if_neg n2, if_pos n3]
    simp only [↓vA, ↓vE, ↓vO, ↓vB, ↓vF, ↓vM, ↓vR, ↓vX, cvF_pc, vP, shb, shv, shvs, she_nil, she_cons, vC, vQ, Nat.reduceEqDiff, ↓reduceIte, eq_self, Nat.reduceAdd, Nat.reduceMul, Nat.reduceSub, Nat.reduceLeDiff, Nat.reduceLT, defd, cellsOf, wr, packR, Int.reduceLE, Int.reduceLT, Int.reduceEq, Int.cast_ofNat_Int, Int.reduceToNat, n0, n1, n2, n3, if_true]
    refine (hm4 p a [] a.val hv (by simp) hp.a hp.f).sc (vs := [.ptr 0 0, .s a.val]) [0, 1] (Lent.of (by decide) ?_) ?_
    · simp [lent_cons, lent_nil, pushs_cons, pushs_nil, push_mk, shb, shv, shvs, bnds, bnd, rnvs, rnv, gAt, vW, bw_map, mapAt_map, mapClo_it, mapClo_nil, mapClo_cons, vP, vZ, Tr.get_set, setC, bnds_clo rN_clos, rnvs_clo rN_clos, bnd_clo, clo, rnv_clo, rN]
    rw [← n3, hM]
    by_cases hnew : (m_we p a.val).2.map (noteOf a) = []
    · simp only [setB, if_pos hnew]
      simp only [backH, List.cons_append, List.nil_append, List.length_cons, List.length_nil, Nat.zero_add, Nat.reduceAdd, List.take_succ_cons, List.take_zero, List.drop_succ_cons, List.drop_zero, List.map_cons, List.map_nil, rnb, rnvs, rnv, gAt, Nat.reduceLT, ↓reduceIte, List.getD_cons_zero, List.getD_cons_succ, Nat.reduceSub, puts_cons, puts_nil, pushs_cons, pushs_nil, hput_mk, push_mk, setC, rnvs_clo rN_clos, rnv_clo, clo]
      simp only [↓vA, ↓vE, ↓vO, ↓vB, ↓vF, ↓vM, ↓vR, ↓vX, cvF_pc, vP, shb, shv, shvs, she_nil, she_cons, vC, vQ, Nat.reduceEqDiff, ↓reduceIte, eq_self, Nat.reduceAdd, Nat.reduceMul, Nat.reduceSub, Nat.reduceLeDiff, Nat.reduceLT, defd, cellsOf, wr, packR, Int.reduceLE, Int.reduceLT, Int.reduceEq, Int.cast_ofNat_Int, Int.reduceToNat]
      refine set_tail g1 g2 (m_we p a.val).1 a ((m_we p a.val).2.map (noteOf a)) [] (k := 2) (by simp only [setB, if_pos hnew]; rfl) zPol rfl (Wk.mk _ _ [0, 1, 3] ?_ ?_ ?_ rfl)
      · simp only [setB, if_pos hnew]; simp [vW, bw_map, mapAt_map, mapClo_it, mapClo_nil, mapClo_cons, vP, vZ, Tr.get_set]
      · simp only [setB, if_pos hnew]; simp [vW, bw_map, mapAt_map, mapClo_it, mapClo_nil, mapClo_cons, vP, vZ, Tr.get_set, setC, zPol, nvs_self, rN_clos]; try decide
      · simp [vW, bw_map, mapAt_map, mapClo_it, mapClo_nil, mapClo_cons, vP, vZ, Tr.get_set]
    · simp only [setB, if_neg hnew]
      simp only [backH, List.cons_append, List.nil_append, List.length_cons, List.length_nil, Nat.zero_add, Nat.reduceAdd, List.take_succ_cons, List.take_zero, List.drop_succ_cons, List.drop_zero, List.map_cons, List.map_nil, rnb, rnvs, rnv, gAt, Nat.reduceLT, ↓reduceIte, List.getD_cons_zero, List.getD_cons_succ, Nat.reduceSub, puts_cons, puts_nil, pushs_cons, pushs_nil, hput_mk, push_mk, setC, rnvs_clo rN_clos, rnv_clo, clo]
      simp only [↓vA, ↓vE, ↓vO, ↓vB, ↓vF, ↓vM, ↓vR, ↓vX, cvF_pc, vP, shb, shv, shvs, she_nil, she_cons, vC, vQ, Nat.reduceEqDiff, ↓reduceIte, eq_self, Nat.reduceAdd, Nat.reduceMul, Nat.reduceSub, Nat.reduceLeDiff, Nat.reduceLT, defd, cellsOf, wr, packR, Int.reduceLE, Int.reduceLT, Int.reduceEq, Int.cast_ofNat_Int, Int.reduceToNat]
      refine set_tail g1 g2 (m_we p a.val).1 a ((m_we p a.val).2.map (noteOf a)) [] (k := 3) (by simp only [setB, if_neg hnew]; rfl) zPol rfl (Wk.mk _ _ [0, 1, 5, 3] ?_ ?_ ?_ rfl)
      · simp only [setB, if_neg hnew]; simp [vW, bw_map, mapAt_map, mapClo_it, mapClo_nil, mapClo_cons, vP, vZ, Tr.get_set]
      · simp only [setB, if_neg hnew]; simp [vW, bw_map, mapAt_map, mapClo_it, mapClo_nil, mapClo_cons, vP, vZ, Tr.get_set, setC, zPol, nvs_self, rN_clos]; try decide
      · simp [vW, bw_map, mapAt_map, mapClo_it, mapClo_nil, mapClo_cons, vP, vZ, Tr.get_set]
  by_cases n4 : a.key = kPe
  · have hM : setM p a.key a.val = m_pe p a.val := by unfold setM; rw [if_neg n0, if_neg n1, if_neg n2, if_neg n3, if_pos n4]
    simp only [↓vA, ↓vE, ↓vO, ↓vB, ↓vF, ↓vM, ↓vR, ↓vX, cvF_pc, vP, shb, shv, shvs, she_nil, she_cons, vC, vQ, Nat.reduceEqDiff, ↓reduceIte, eq_self, Nat.reduceAdd, Nat.reduceMul, Nat.reduceSub, Nat.reduceLeDiff, Nat.reduceLT, defd, cellsOf, wr, packR, Int.reduceLE, Int.reduceLT, Int.reduceEq, Int.cast_ofNat_Int, Int.reduceToNat, n0, n1, n2, n3, n4, if_true]
    refine (hm5 p a [] a.val hv (by simp) hp.a hp.f).sc (vs := [.ptr 0 0, .s a.val]) [0, 1] (Lent.of (by decide) ?_) ?_
    · simp [lent_cons, lent_nil, pushs_cons, pushs_nil, push_mk, shb, shv, shvs, bnds, bnd, rnvs, rnv, gAt, vW, bw_map, mapAt_map, mapClo_it, mapClo_nil, mapClo_cons, vP, vZ, Tr.get_set, setC, bnds_clo rN_clos, rnvs_clo rN_clos, bnd_clo, clo, rnv_clo, rN]
    rw [← n4, hM]
    by_cases hnew : (m_pe p a.val).2.map (noteOf a) = []
    · simp only [setB, if_pos hnew]
      simp only [backH, List.cons_append, List.nil_append, List.length_cons, List.length_nil, Nat.zero_add, Nat.reduceAdd, List.take_succ_cons, List.take_zero, List.drop_succ_cons, List.drop_zero, List.map_cons, List.map_nil, rnb, rnvs, rnv, gAt, Nat.reduceLT, ↓reduceIte, List.getD_cons_zero, List.getD_cons_succ, Nat.reduceSub, puts_cons, puts_nil, pushs_cons, pushs_nil, hput_mk, push_mk, setC, rnvs_clo rN_clos, rnv_clo, clo]
      simp only [↓vA, ↓vE, ↓vO, ↓vB, ↓vF, ↓vM, ↓vR, ↓vX, cvF_pc, vP, shb, shv, shvs, she_nil, she_cons, vC, vQ, Nat.reduceEqDiff, ↓reduceIte, eq_self, Nat.reduceAdd, Nat.reduceMul, Nat.reduceSub, Nat.reduceLeDiff, Nat.reduceLT, defd, cellsOf, wr, packR, Int.reduceLE, Int.reduceLT, Int.reduceEq, Int.cast_ofNat_Int, Int.reduceToNat]
      refine set_tail g1 g2 (m_pe p a.val).1 a ((m_pe p a.val).2.map (noteOf a)) [] (k := 2) (by simp only [setB, if_pos hnew]; rfl) zPol rfl (Wk.mk _ _ [0, 1, 3] ?_ ?_ ?_ rfl)
      · simp only [setB, if_pos hnew]; simp [vW, bw_map, mapAt_map, mapClo_it, mapClo_nil, mapClo_cons, vP, vZ, Tr.get_set]
      · simp only [setB, if_pos hnew]; simp [vW, bw_map, mapAt_map, mapClo_it, mapClo_nil, mapClo_cons, vP, vZ, Tr.get_set, setC, zPol, nvs_self, rN_clos]; try decide
      · simp [vW, bw_map, mapAt_map, mapClo_it, mapClo_nil, mapClo_cons, vP, vZ, Tr.get_set]
    · simp only [setB, if_neg hnew]
      simp only [backH, List.cons_append, List.nil_append, List.length_cons, List.length_nil, Nat.zero_add, Nat.reduceAdd, List.take_succ_cons, List.take_zero, List.drop_succ_cons, List.drop_zero, List.map_cons, List.map_nil, rnb, rnvs, rnv, gAt, Nat.reduceLT, ↓reduceIte, List.getD_cons_zero, List.getD_cons_succ, Nat.reduceSub, puts_cons, puts_nil, pushs_cons, pushs_nil, hput_mk, push_mk, setC, rnvs_clo rN_clos, rnv_clo, clo]
      simp only [↓vA, ↓vE, ↓vO, ↓vB, ↓vF, ↓vM, ↓vR, ↓vX, cvF_pc, vP, shb, shv, shvs, she_nil, she_cons, vC, vQ, Nat.reduceEqDiff, ↓reduceIte, eq_self, Nat.reduceAdd, Nat.reduceMul, Nat.reduceSub, Nat.reduceLeDiff, Nat.reduceLT, defd, cellsOf, wr, packR, Int.reduceLE, Int.reduceLT, Int.reduceEq, Int.cast_ofNat_Int, Int.reduceToNat]
      refine set_tail g1 g2 (m_pe p a.val).1 a ((m_pe p a.val).2.map (noteOf a)) [] (k := 3) (by simp only [setB, if_neg hnew]; rfl) zPol rfl (Wk.mk _ _ [0, 1, 5, 3] ?_ ?_ ?_ rfl)
      · simp only [setB, if_neg hnew]; simp [vW, bw_map, mapAt_map, mapClo_it, mapClo_nil, mapClo_cons, vP, vZ, Tr.get_set]
      · simp only [setB, if_neg hnew]; simp [vW, bw_map, mapAt_map, mapClo_it, mapClo_nil, mapClo_cons, vP, vZ, Tr.get_set, setC, zPol, nvs_self, rN_clos]; try decide
      · simp [vW, bw_map, mapAt_map, mapClo_it, mapClo_nil, mapClo_cons, vP, vZ, Tr.get_set]
  by_cases n5 : a.key = kRt
  · have hM : setM p a.key a.val = m_rt p a.val := by unfold setM; rw [if_neg n0, if_neg n1, if_neg n2, if_neg n3, if_neg n4, if_pos n5]
    simp only [↓vA, ↓vE, ↓vO, ↓vB, ↓vF, ↓vM, ↓vR, ↓vX, cvF_pc, vP, shb, shv, shvs, she_nil, she_cons, vC, vQ, Nat.reduceEqDiff, ↓reduceIte, eq_self, Nat.reduceAdd, Nat.reduceMul, Nat.reduceSub, Nat.reduceLeDiff, Nat.reduceLT, defd, cellsOf, wr, packR, Int.reduceLE, Int.reduceLT, Int.reduceEq, Int.cast_ofNat_Int, Int.reduceToNat, n0, n1, n2, n3, n4, n5, if_true]
    refine (hm6 p a [] a.val hv (by simp) hp.a hp.f).sc (vs := [.ptr 0 0, .s a.val]) [0, 1] (Lent.of (by decide) ?_) ?_
    · simp [lent_cons, lent_nil, pushs_cons, pushs_nil, push_mk, shb, shv, shvs, bnds, bnd, rnvs, rnv, gAt, vW, bw_map, mapAt_map, mapClo_it, mapClo_nil, mapClo_cons, vP, vZ, Tr.get_set, setC, bnds_clo rN_clos, rnvs_clo rN_clos, bnd_clo, clo, rnv_clo, rN]
    rw [← n5, hM]
    by_cases hnew : (m_rt p a.val).2.map (noteOf a) = []
    · simp only [setB, if_pos hnew]
      simp only [backH, List.cons_append, List.nil_append, List.length_cons, List.length_nil, Nat.zero_add, Nat.reduceAdd, List.take_succ_cons, List.take_zero, List.drop_succ_cons, List.drop_zero, List.map_cons, List.map_nil, rnb, rnvs, rnv, gAt, Nat.reduceLT, ↓reduceIte, List.getD_cons_zero, List.getD_cons_succ, Nat.reduceSub, puts_cons, puts_nil, pushs_cons, pushs_nil, hput_mk, push_mk, setC, rnvs_clo rN_clos, rnv_clo, clo]
      simp only [↓vA, ↓vE, ↓vO, ↓vB, ↓vF, ↓vM, ↓vR, ↓vX, cvF_pc, vP, shb, shv, shvs, she_nil, she_cons, vC, vQ, Nat.reduceEqDiff, ↓reduceIte, eq_self, Nat.reduceAdd, Nat.reduceMul, Nat.reduceSub, Nat.reduceLeDiff, Nat.reduceLT, defd, cellsOf, wr, packR, Int.reduceLE, Int.reduceLT, Int.reduceEq, Int.cast_ofNat_Int, Int.reduceToNat]
      refine set_tail g1 g2 (m_rt p a.val).1 a ((m_rt p a.val).2.map (noteOf a)) [] (k := 2) (by simp only [setB, if_pos hnew]; rfl) zPol rfl (Wk.mk _ _ [0, 1, 3] ?_ ?_ ?_ rfl)
      · simp only [setB, if_pos hnew]; simp [vW, bw_map, mapAt_map, mapClo_it, mapClo_nil, mapClo_cons, vP, vZ, Tr.get_set]
      · simp only [setB, if_pos hnew]; simp [vW, bw_map, mapAt_map, mapClo_it, mapClo_nil, mapClo_cons, vP, vZ, Tr.get_set, setC, zPol, nvs_self, rN_clos]; try decide
      · simp [vW, bw_map, mapAt_map, mapClo_it, mapClo_nil, mapClo_cons, vP, vZ, Tr.get_set]
    · simp only [setB, if_neg hnew]
      simp only [backH, List.cons_append, List.nil_append, List.length_cons, List.length_nil, Nat.zero_add, Nat.reduceAdd, List.take_succ_cons, List.take_zero, List.drop_succ_cons, List.drop_zero, List.map_cons, List.map_nil, rnb, rnvs, rnv, gAt, Nat.reduceLT, ↓reduceIte, List.getD_cons_zero, List.getD_cons_succ, Nat.reduceSub, puts_cons, puts_nil, pushs_cons, pushs_nil, hput_mk, push_mk, setC, rnvs_clo rN_clos, rnv_clo, clo]
      simp only [↓vA, ↓vE, ↓vO, ↓vB, ↓vF, ↓vM, ↓vR, ↓vX, cvF_pc, vP, shb, shv, shvs, she_nil, she_cons, vC, vQ, Nat.reduceEqDiff, ↓reduceIte, eq_self, Nat.reduceAdd, Nat.reduceMul, Nat.reduceSub, Nat.reduceLeDiff, Nat.reduceLT, defd, cellsOf, wr, packR, Int.reduceLE, Int.reduceLT, Int.reduceEq, Int.cast_ofNat_Int, Int.reduceToNat]
      refine set_tail g1 g2 (m_rt p a.val).1 a ((m_rt p a.val).2.map (noteOf a)) [] (k := 3) (by simp only [setB, if_neg hnew]; rfl) zPol rfl (Wk.mk _ _ [0, 1, 5, 3] ?_ ?_ ?_ rfl)
      · simp only [setB, if_neg hnew]; simp [vW, bw_map, mapAt_map, mapClo_it, mapClo_nil, mapClo_cons, vP, vZ, Tr.get_set]
      · simp only [setB, if_neg hnew]; simp [vW, bw_map, mapAt_map, mapClo_it, mapClo_nil, mapClo_cons, vP, vZ, Tr.get_set, setC, zPol, nvs_self, rN_clos]; try decide
      · simp [vW, bw_map, mapAt_map, mapClo_it, mapClo_nil, mapClo_cons, vP, vZ, Tr.get_set]
  by_cases n6 : a.key = kNp
  · have hM : setM p a.key a.val = m_np p a.val := by unfold setM; rw [if_neg n0, if_neg n1, if_neg n2, if_neg n3, if_neg n4, if_neg n5, if_pos n6]
    simp only [↓vA, ↓vE, ↓vO, ↓vB, ↓vF, ↓vM, ↓vR, ↓vX, cvF_pc, vP, shb, shv, shvs, she_nil, she_cons, vC, vQ, Nat.reduceEqDiff, ↓reduceIte, eq_self, Nat.reduceAdd, Nat.reduceMul, Nat.reduceSub, Nat.reduceLeDiff, Nat.reduceLT, defd, cellsOf, wr, packR, Int.reduceLE, Int.reduceLT, Int.reduceEq, Int.cast_ofNat_Int, Int.reduceToNat, n0, n1, n2, n3, n4, n5, n6, if_true]
    refine (hm7 p a [] a.val hv (by simp) hp.a hp.f).sc (vs := [.ptr 0 0, .s a.val]) [0, 1] (Lent.of (by decide) ?_) ?_
    · simp [lent_cons, lent_nil, pushs_cons, pushs_nil, push_mk, shb, shv, shvs, bnds, bnd, rnvs, rnv, gAt, vW, bw_map, mapAt_map, mapClo_it, mapClo_nil, mapClo_cons, vP, vZ, Tr.get_set, setC, bnds_clo rN_clos, rnvs_clo rN_clos, bnd_clo, clo, rnv_clo, rN]
    rw [← n6, hM]
    by_cases hnew : (m_np p a.val).2.map (noteOf a) = []
    · simp only [setB, if_pos hnew]
      simp only [backH, List.cons_append, List.nil_append, List.length_cons, List.length_nil, Nat.zero_add, Nat.reduceAdd, List.take_succ_cons, List.take_zero, List.drop_succ_cons, List.drop_zero, List.map_cons, List.map_nil, rnb, rnvs, rnv, gAt, Nat.reduceLT, ↓reduceIte, List.getD_cons_zero, List.getD_cons_succ, Nat.reduceSub, puts_cons, puts_nil, pushs_cons, pushs_nil, hput_mk, push_mk, setC, rnvs_clo rN_clos, rnv_clo, clo]
      simp only [↓vA, ↓vE, ↓vO, ↓vB, ↓vF, ↓vM, ↓vR, ↓vX, cvF_pc, vP, shb, shv, shvs, she_nil, she_cons, vC, vQ, Nat.reduceEqDiff, ↓reduceIte, eq_self, Nat.reduceAdd, Nat.reduceMul, Nat.reduceSub, Nat.reduceLeDiff, Nat.reduceLT, defd, cellsOf, wr, packR, Int.reduceLE, Int.reduceLT, Int.reduceEq, Int.cast_ofNat_Int, Int.reduceToNat]
      refine set_tail g1 g2 (m_np p a.val).1 a ((m_np p a.val).2.map (noteOf a)) [] (k := 2) (by simp only [setB, if_pos hnew]; rfl) zPol rfl (Wk.mk _ _ [0, 1, 3] ?_ ?_ ?_ rfl)
      · simp only [setB, if_pos hnew]; simp [vW, bw_map, mapAt_map, mapClo_it, mapClo_nil, mapClo_cons, vP, vZ, Tr.get_set]
      · simp only [setB, if_pos hnew]; simp [vW, bw_map, mapAt_map, mapClo_it, mapClo_nil, mapClo_cons, vP, vZ, Tr.get_set, setC, zPol, nvs_self, rN_clos]; try decide
      · simp [vW, bw_map, mapAt_map, mapClo_it, mapClo_nil, mapClo_cons, vP, vZ, Tr.get_set]
    · simp only [setB, if_neg hnew]
      simp only [backH, List.cons_append, List.nil_append, List.length_cons, List.length_nil, Nat.zero_add, Nat.reduceAdd, List.take_succ_cons, List.take_zero, List.drop_succ_cons, List.drop_zero, List.map_cons, List.map_nil, rnb, rnvs, rnv, gAt, Nat.reduceLT, ↓reduceIte, List.getD_cons_zero, List.getD_cons_succ, Nat.reduceSub, puts_cons, puts_nil, pushs_cons, pushs_nil, hput_mk, push_mk, setC, rnvs_clo rN_clos, rnv_clo, clo]
      simp only [↓vA, ↓vE, ↓vO, ↓vB, ↓vF, ↓vM, ↓vR, ↓vX, cvF_pc, vP, shb, shv, shvs, she_nil, she_cons, vC, vQ, Nat.reduceEqDiff, ↓reduceIte, eq_self, Nat.reduceAdd, Nat.reduceMul, Nat.reduceSub, Nat.reduceLeDiff, Nat.reduceLT, defd, cellsOf, wr, packR, Int.reduceLE, Int.reduceLT, Int.reduceEq, Int.cast_ofNat_Int, Int.reduceToNat]
      refine set_tail g1 g2 (m_np p a.val).1 a ((m_np p a.val).2.map (noteOf a)) [] (k := 3) (by simp only [setB, if_neg hnew]; rfl) zPol rfl (Wk.mk _ _ [0, 1, 5, 3] ?_ ?_ ?_ rfl)
      · simp only [setB, if_neg hnew]; simp [vW, bw_map, mapAt_map, mapClo_it, mapClo_nil, mapClo_cons, vP, vZ, Tr.get_set]
      · simp only [setB, if_neg hnew]; simp [vW, bw_map, mapAt_map, mapClo_it, mapClo_nil, mapClo_cons, vP, vZ, Tr.get_set, setC, zPol, nvs_self, rN_clos]; try decide
      · simp [vW, bw_map, mapAt_map, mapClo_it, mapClo_nil, mapClo_cons, vP, vZ, Tr.get_set]
  have hM : setM p a.key a.val = (p, []) := by unfold setM; rw [if_neg n0, if_neg n1, if_neg n2, if_neg n3, if_neg n4, if_neg n5, if_neg n6]
  simp only [↓vA, ↓vE, ↓vO, ↓vB, ↓vF, ↓vM, ↓vR, ↓vX, cvF_pc, vP, shb, shv, shvs, she_nil, she_cons, vC, vQ, Nat.reduceEqDiff, ↓reduceIte, eq_self, Nat.reduceAdd, Nat.reduceMul, Nat.reduceSub, Nat.reduceLeDiff, Nat.reduceLT, defd, cellsOf, wr, packR, Int.reduceLE, Int.reduceLT, Int.reduceEq, Int.cast_ofNat_Int, Int.reduceToNat, n0, n1, n2, n3, n4, n5, n6]
  rw [hM]
  refine set_tail g1 g2 p a [] [] (k := 2) rfl zPol rfl (Wk.mk _ _ [0, 1, 3] ?_ ?_ ?_ rfl)
  · simp [vW, bw_map, mapAt_map, mapClo_it, mapClo_nil, mapClo_cons, vP, vZ, Tr.get_set, setB]
  · simp [vW, bw_map, mapAt_map, mapClo_it, mapClo_nil, mapClo_cons, vP, vZ, Tr.get_set, setB, setC, zPol, nvs_self, rN_clos, rN]; try decide
  · simp [vW, bw_map, mapAt_map, mapClo_it, mapClo_nil, mapClo_cons, vP, vZ, Tr.get_set, setB]
end Go.Kc
end
section
/- The law RestrictSpaces. Condition: the functions' texts are these. -/
namespace Go.Kc
variable {P : Program} {f : Nat}
theorem pol0_ok : PolOk pol0 := ⟨by decide, by decide, by decide, by decide⟩
theorem saysM_len (v : List UInt8) : (saysM v).2.length ≤ 1 := by
  unfold saysM; repeat' split
  all_goals simp
theorem setM_notes (p : Pol) (k v : List UInt8) : (setM p k v).2.length ≤ v.length + 1 := by
  have hw := words_len v
  have ht := turnP_len v
  have hw2 := words_len (turnP v).1
  have hs := saysM_len v
  unfold setM
  repeat' split
  · unfold m_arches
    have := (archStep_len (words v) (if words v = [] then [] else p.arches, [])).2
    simp only [List.length_nil] at this ⊢; omega
  · unfold m_families
    repeat' split
    · simp
    · simp
    · have := (famStep_len ((turnP v).2 == decide (modeF p.fmode (turnP v).2 = 2)) (words (turnP v).1) (p.fams, [])).2
      simp only [List.length_nil] at this ⊢; omega
  · unfold m_namespaces
    repeat' split
    · simp
    · simp
    · simp
    · have := spStep_len (words (turnP v).1) (0, [])
      simp only [List.length_nil] at this ⊢; omega
  · unfold m_we; simp only; omega
  · unfold m_pe; simp only; omega
  · unfold m_rt; simp only; omega
  · unfold m_np; simp only; omega
  · simp
def ir_vestibulelaw18_after (f_restrict_Set : Nat) : IFn := ⟨[.cell 4 13 true, .tmp 5],
  .seq (.reg false [⟨(some 4), .op (.alloc [.nils, .i .u8 0, .nils, .i .u32 0, .i .u8 0, .nils, .nils, .i .u8 0, .i .u64 0, .b false, .b false, .b false, .b false]), none⟩,
    ⟨(some 5), .op (.mov (.c (.i .i64 0))), none⟩])
  (.seq (.reg false [⟨(some 11), .op (.build [.nils, .i .u8 0, .nils, .i .u32 0, .i .u8 0, .nils, .nils, .i .u8 0, .i .u64 0, .b false, .b false, .b false, .b false] []), none⟩,
    ⟨(some 6), .op (.alloc [.nils, .i .u8 0, .nils, .i .u32 0, .i .u8 0, .nils, .nils, .i .u8 0, .i .u64 0, .b false, .b false, .b false, .b false]), none⟩,
    ⟨none, .op (.store 13 (.t 6) (.t 11)), none⟩])
  (.seq (.reg false [⟨(some 7), .op (.mov (.c (.i .i64 0))), none⟩])
  (.seq (.seq (.reg false [⟨(some 8), .op (.mov (.c (.i .i64 0))), none⟩])
  (.blk 0 (.loop (.seq (.seq (.reg false [⟨(some 12), .op (.mov (.t 8)), none⟩,
    ⟨(some 13), .op (.mov (.t 1)), none⟩,
    ⟨(some 14), .op (.len false (.t 13)), none⟩,
    ⟨(some 15), .op (.bin .lss (.t 12) (.t 14)), none⟩])
  (.cond (.t 15) (.skip) (.exit 0)))
  (.seq (.blk 1 (.seq (.reg true [⟨(some 19), .op (.loadN 13 (.t 6)), none⟩,
    ⟨(some 20), .op (.mov (.t 8)), none⟩,
    ⟨(some 21), .op (.bin .add (.t 20) (.c (.i .i64 1))), none⟩,
    ⟨(some 22), .op (.mov (.t 0)), none⟩,
    ⟨(some 23), .op (.mov (.t 1)), none⟩,
    ⟨(some 24), .op (.mov (.t 8)), none⟩,
    ⟨(some 25), .op (.iAddrS 1 (.t 23) (.t 24)), none⟩,
    ⟨(some 26), .op (.load1 (.t 25)), none⟩,
    ⟨(some 27), .op (.build [.s [], .i .i64 0, .s [], .s [], .s []] [(0, 1, (.c (.s [102]))), (1, 1, (.t 21)), (2, 1, (.c (.s [83, 101, 114, 118, 105, 99, 101]))), (3, 1, (.t 22)), (4, 1, (.t 26))]), none⟩,
    ⟨(some 28), .callF f_restrict_Set [(.t 19), (.t 27)], none⟩,
    ⟨(some 18), .op (.mov (.t 28)), none⟩,
    ⟨(some 29), .op (.ext (.t 18) 0), none⟩,
    ⟨(some 30), .op (.ext (.t 18) 1), none⟩,
    ⟨(some 9), .op (.alloc [.nils, .i .u8 0, .nils, .i .u32 0, .i .u8 0, .nils, .nils, .i .u8 0, .i .u64 0, .b false, .b false, .b false, .b false]), none⟩,
    ⟨none, .op (.store 13 (.t 9) (.t 29)), none⟩,
    ⟨(some 10), .op (.mov (.t 30)), none⟩])
  (.seq (.reg false [⟨(some 31), .op (.loadN 13 (.t 9)), none⟩,
    ⟨none, .op (.store 13 (.t 6) (.t 31)), none⟩])
  (.reg false [⟨(some 32), .op (.mov (.t 7)), none⟩,
    ⟨(some 33), .op (.mov (.t 10)), none⟩,
    ⟨(some 34), .op (.len false (.t 33)), none⟩,
    ⟨(some 35), .op (.bin .add (.t 32) (.t 34)), none⟩,
    ⟨(some 7), .op (.mov (.t 35)), none⟩]))))
  (.reg false [⟨(some 16), .op (.mov (.t 8)), none⟩,
    ⟨(some 17), .op (.bin .add (.t 16) (.c (.i .i64 1))), none⟩,
    ⟨(some 8), .op (.mov (.t 17)), none⟩]))))))
  (.seq (.reg false [⟨(some 36), .op (.loadN 13 (.t 6)), none⟩,
    ⟨(some 37), .op (.mov (.t 7)), none⟩,
    ⟨none, .op (.store 13 (.t 4) (.t 36)), none⟩,
    ⟨(some 5), .op (.mov (.t 37)), none⟩])
  (.ret)))))⟩
def cAfter1 (P : Program) (f : Nat) : Prop := ∀ (k v : List UInt8), v.length ≤ 1000 → Pure P f [.s k, .fz 1 [.s v]] (.tup [.agg (cPol (setM pol0 k v).1), .i .i64 ((setM pol0 k v).2.length : Int)])
theorem after1 {g : Nat} (hc : chkFn P f (ir_vestibulelaw18_after g) = true) (h1 : cSet P g) : cAfter1 P f := by
  intro k v hv
  refine Pure.mk hc rfl ?_
  simp only [ir_vestibulelaw18_after, argsT, H0, mkT, mkH, trL, List.length_cons, List.length_nil, Nat.reduceAdd, Nat.zero_add]
  simp only [↓vA, ↓vE, ↓vO, ↓vB, ↓vF, ↓vM, ↓vR, ↓vX, cvF_pc, vP, shb, shv, shvs, she_nil, she_cons, vC, vQ, Nat.reduceEqDiff, ↓reduceIte, eq_self, Nat.reduceAdd, Nat.reduceMul, Nat.reduceSub, Nat.reduceLeDiff, Nat.reduceLT, defd, cellsOf, wr, packR, Int.reduceLE, Int.reduceLT, Int.reduceEq, Int.cast_ofNat_Int, Int.reduceToNat]
  refine SL_step ?_
  simp (decide := true) only [↓vA, ↓vE, ↓vO, ↓vB, ↓vF, ↓vM, ↓vR, ↓vX, cvF_pc, vP, shb, shv, shvs, she_nil, she_cons, vC, vQ, Nat.reduceEqDiff, ↓reduceIte, eq_self, Nat.reduceAdd, Nat.reduceMul, Nat.reduceSub, Nat.reduceLeDiff, Nat.reduceLT, defd, cellsOf, wr, packR, Int.reduceLE, Int.reduceLT, Int.reduceEq, Int.cast_ofNat_Int, Int.reduceToNat]
  refine VD_pc ?_
  simp (decide := true) only [↓vA, ↓vE, ↓vO, ↓vB, ↓vF, ↓vM, ↓vR, ↓vX, cvF_pc, vP, shb, shv, shvs, she_nil, she_cons, vC, vQ, Nat.reduceEqDiff, ↓reduceIte, eq_self, Nat.reduceAdd, Nat.reduceMul, Nat.reduceSub, Nat.reduceLeDiff, Nat.reduceLT, defd, cellsOf, wr, packR, Int.reduceLE, Int.reduceLT, Int.reduceEq, Int.cast_ofNat_Int, Int.reduceToNat]
  refine ((h1 pol0 ⟨[102], IntKind.wrap .i64 (0 + 1), [83, 101, 114, 118, 105, 99, 101], k, v⟩ pol0_ok hv).coe ?_).pc ?_
  · intro h; simp [vZ, cPol, cAsg, pol0, rI, rC]
  simp (decide := true) only [↓vA, ↓vE, ↓vO, ↓vB, ↓vF, ↓vM, ↓vR, ↓vX, cvF_pc, vP, shb, shv, shvs, she_nil, she_cons, vC, vQ, Nat.reduceEqDiff, ↓reduceIte, eq_self, Nat.reduceAdd, Nat.reduceMul, Nat.reduceSub, Nat.reduceLeDiff, Nat.reduceLT, defd, cellsOf, wr, packR, Int.reduceLE, Int.reduceLT, Int.reduceEq, Int.cast_ofNat_Int, Int.reduceToNat, cPol]
  simp only [wrap64 (show (-9223372036854775808 : Int) ≤ 0 + 1 by decide) (by decide), List.length_map, Int.zero_add]
  have hl := setM_notes pol0 k v
  simp only [wrap64 (x := ((setM pol0 k v).2.length : Int)) (by omega) (by omega)]
  refine SL_step ?_
  simp (decide := true) only [↓vA, ↓vE, ↓vO, ↓vB, ↓vF, ↓vM, ↓vR, ↓vX, cvF_pc, vP, shb, shv, shvs, she_nil, she_cons, vC, vQ, Nat.reduceEqDiff, ↓reduceIte, eq_self, Nat.reduceAdd, Nat.reduceMul, Nat.reduceSub, Nat.reduceLeDiff, Nat.reduceLT, defd, cellsOf, wr, packR, Int.reduceLE, Int.reduceLT, Int.reduceEq, Int.cast_ofNat_Int, Int.reduceToNat]
  simp [vZ, vP, Tr.get_set, cPol]
end Go.Kc
end
section
/- Arguments of structs and rows, opened: what reads as data is a value of the abstract machine; what stays reads as before. Conditions: on the types, with each theorem. -/
namespace Go.Kc
section
variable {H : Type} {enc : TypeId × Value → H} {P : Program} {w : World} {α β : Type} {t e : TypeId}
theorem CRs.app {φ : Nat → Option (Array Value)} : ∀ {as bs : List AV} {us vs : List Value}, CRs σ0 φ as us → CRs σ0 φ bs vs → CRs σ0 φ (as ++ bs) (us ++ vs)
  | _, _, _, _, .nil, h => h
  | _, _, _, _, .cons v l v' l' h hs, h2 => .cons _ _ _ _ h (CRs.app hs h2)
/-- whatever reads as data at a type is a row of cells E a -/
def Opens (enc : TypeId × Value → H) (P : Program) (w : World) (t : TypeId) (I : α → Prop) (E : α → List AV) : Prop :=
  ∀ (fuel : Nat) (cs : List Value) x, DataW.trod enc P w 0 (fun _ => true) true fuel t cs = some x → ∃ a, I a ∧ CRs σ0 (ice w).frz (E a) cs
theorem opens_int {k : IntKind} (ht : P.underlying t = some (.int k)) : Opens enc P w t (fun n : Int => (Lit.int k n).wf = true) (fun n => [.i k n]) := by
  intro fuel cs x h
  obtain ⟨n, rfl, _, hw⟩ := DataW.trod_int ht h
  exact ⟨n, hw, .cons _ _ _ _ (.i _ _) .nil⟩
theorem opens_bool (ht : P.underlying t = some .bool) : Opens enc P w t (fun _ : Bool => True) (fun b => [.b b]) := by
  intro fuel cs x h
  obtain ⟨b, rfl, _⟩ := DataW.trod_bool ht h
  exact ⟨b, trivial, .cons _ _ _ _ (.b _) .nil⟩
theorem opens_str (ht : P.underlying t = some .string) : Opens enc P w t (fun s : List UInt8 => s.length ≤ maxLen) (fun s => [.s s]) := by
  intro fuel cs x h
  obtain ⟨s, rfl, _, hw⟩ := DataW.trod_string ht h
  obtain ⟨⟨l⟩⟩ := s
  exact ⟨l, hw, .cons _ _ _ _ (.s _) .nil⟩
theorem cell_mk {a : Addr} {v : Value} (h : w.cell? a = some v) : a.spot = none ∧ ∃ arr ty fz, w.heap[a.block]? = some (.cells arr ty fz) ∧ arr[a.off]? = some v := by
  unfold World.cell? at h
  split at h
  · rename_i c ty fz hc
    split at h
    · cases h
    · rename_i hs
      refine ⟨by simpa using hs, c, ty, fz, hc, h⟩
  · cases h
theorem opens_slice {I : α → Prop} {E : α → List AV} {m : Nat} (ht : P.underlying t = some (.slice e)) (he : Opens enc P w e I E) (hE : ∀ a, (E a).length = m) (hc : P.cellsOf e = m) (hm : 0 < m) :
    Opens enc P w t (fun l : List α => l.length ≤ maxLen ∧ ∀ a ∈ l, I a) (fun l => [.fz l.length (l.flatMap E)]) := by
  intro fuel cs x h
  rcases DataW.trod_slice ht h with ⟨rfl, _⟩ | ⟨a, len, cap, elems, rest, n, _, rfl, _, _, hl, hmx, hlen, hel, hsp, _⟩
  · exact ⟨[], ⟨Nat.zero_le _, fun _ h => by cases h⟩, .cons _ _ _ _ (.fz0 none) .nil⟩
  obtain ⟨hrl, hr⟩ := hsp rfl
  rcases Nat.eq_zero_or_pos cap with h0 | hpos
  · subst h0
    obtain rfl : len = 0 := by omega
    exact ⟨[], ⟨Nat.zero_le _, fun _ h => by cases h⟩, .cons _ _ _ _ (.fz0 (some a)) .nil⟩
  have first : ∃ v, w.cell? a = some v := by
    have : ∃ cs', w.cells? 0 (a.add (0 * P.cellsOf e)) (P.cellsOf e) = some cs' := by
      rcases Nat.eq_zero_or_pos len with h1 | h1
      · have := hr 0 (by omega)
        have hlt : 0 < rest.length := by omega
        rw [List.getElem?_eq_getElem hlt, Option.bind_eq_some_iff] at this
        obtain ⟨c, hc', _⟩ := this
        subst h1
        exact ⟨c, hc'⟩
      · have := hel 0 h1
        have hlt : 0 < elems.length := by omega
        rw [List.getElem?_eq_getElem hlt, Option.bind_eq_some_iff] at this
        obtain ⟨c, hc', _⟩ := this
        exact ⟨c, hc'⟩
    obtain ⟨cs', h2⟩ := this
    obtain ⟨_, q1, q2⟩ := World.cells?_some h2
    have := q2 0 (by omega)
    rw [List.getElem?_eq_getElem (by omega)] at this
    simp only [Nat.zero_mul, Addr.add, if_true] at this
    exact ⟨_, this⟩
  obtain ⟨v0, hv0⟩ := first
  obtain ⟨hs, arr, ty, fz, hb, _⟩ := cell_mk hv0
  have key : ∀ k, k ≤ len → ∃ l : List α, l.length = k ∧ (∀ b ∈ l, I b) ∧ CRs σ0 (ice w).frz (l.flatMap E) ((arr.toList.drop a.off).take (k * m)) := by
    intro k
    induction k with
    | zero => intro _; exact ⟨[], rfl, (fun _ h => by cases h), by simpa using .nil⟩
    | succ k ih =>
      intro hk
      obtain ⟨l, h1, h2, h3⟩ := ih (by omega)
      have hk' := hel k (by omega)
      have hlt : k < elems.length := by omega
      rw [List.getElem?_eq_getElem hlt, Option.bind_eq_some_iff] at hk'
      obtain ⟨c, hcs, htr⟩ := hk'
      obtain ⟨_, q1, q2⟩ := World.cells?_some hcs
      obtain ⟨b, hb1, hb2⟩ := he _ _ _ htr
      have e1 : c = ((arr.toList.drop a.off).drop (k * m)).take m := by
        refine List.ext_getElem? fun j => ?_
        by_cases hj : j < m
        · have := q2 j (by omega)
          rw [← this]
          have e2 : w.cell? ((a.add (k * P.cellsOf e)).add j) = arr[a.off + (k * m + j)]? := by
            have ha : (a.add (k * P.cellsOf e)).add j = ⟨a.block, a.off + (k * m + j), none⟩ := by
              unfold Addr.add
              rw [hc]
              split
              · split
                · rename_i h4 h5
                  rw [h4, h5]
                  cases a; simp_all
                · rename_i h4 h5
                  rw [h4]
                  simp [hs]
              · split
                · rename_i h4 h5
                  rw [h5]
                  cases a; simp_all
                · simp; omega
            rw [ha]
            simp [World.cell?, hb]
          rw [e2, List.getElem?_take_of_lt hj, List.getElem?_drop, List.getElem?_drop]
          simp [Array.getElem?_toList]
        · rw [List.getElem?_eq_none (by omega), List.getElem?_eq_none]
          simp; omega
      refine ⟨l ++ [b], by simp [h1], fun x hx => ?_, ?_⟩
      · rcases List.mem_append.1 hx with hx | hx
        · exact h2 x hx
        · obtain rfl := List.mem_singleton.1 hx; exact hb1
      · rw [List.flatMap_append, Nat.succ_mul, List.take_add, ← e1]
        simpa using h3.app hb2
  obtain ⟨l, h1, h2, h3⟩ := key len (Nat.le_refl _)
  refine ⟨l, ⟨by omega, h2⟩, .cons _ _ _ _ ?_ .nil⟩
  have hfl : (l.flatMap E).length = len * m := by
    rw [← h1]
    clear h1 h2 h3
    induction l with
    | nil => simp
    | cons x l ih => simp [hE, ih, Nat.succ_mul, Nat.add_comm]
  obtain ⟨blk, off, spot⟩ := a
  cases hs
  rw [h1]
  exact .fz len off cap _ blk arr hl (ice_get.2 ⟨ty, fz, hb⟩) (by rw [hfl]; exact h3)
/-- fields that lie side by side -/
def OpensF (enc : TypeId × Value → H) (P : Program) (w : World) (fs : List Field) (o n : Nat) (I : α → Prop) (E : α → List AV) : Prop :=
  (∀ a, (E a).length = n) ∧ ∀ (fuel : Nat) (cs : List Value), (∀ f ∈ fs, ∃ x, DataW.trod enc P w 0 (fun _ => true) true fuel f.type ((cs.drop f.offset).take (P.cellsOf f.type)) = some x) → ∃ a, I a ∧ CRs σ0 (ice w).frz (E a) ((cs.drop o).take n)
theorem opensF_nil {o : Nat} : OpensF enc P w [] o 0 (fun _ : Unit => True) (fun _ => []) := ⟨fun _ => rfl, fun _ cs _ => ⟨(), trivial, by simpa using .nil⟩⟩
theorem opensF_cons {f : Field} {fs : List Field} {o m n : Nat} {I : α → Prop} {E : α → List AV} {J : β → Prop} {F : β → List AV} (h : Opens enc P w f.type I E) (hE : ∀ a, (E a).length = m) (ho : f.offset = o) (hc : P.cellsOf f.type = m)
    (hr : OpensF enc P w fs (o + m) n J F) : OpensF enc P w (f :: fs) o (m + n) (fun p : α × β => I p.1 ∧ J p.2) (fun p => E p.1 ++ F p.2) := by
  refine ⟨fun p => by simp [hE, hr.1], fun fuel cs hf => ?_⟩
  obtain ⟨x, hx⟩ := hf f (List.mem_cons_self ..)
  obtain ⟨a, ha, h1⟩ := h _ _ _ hx
  obtain ⟨b, hb, h2⟩ := hr.2 fuel cs fun g hg => hf g (List.mem_cons_of_mem _ hg)
  refine ⟨(a, b), ⟨ha, hb⟩, ?_⟩
  rw [ho, hc] at h1
  rw [List.take_add, List.drop_drop]
  exact h1.app h2
theorem opens_struct {fs : Array Field} {n : Nat} {I : α → Prop} {E : α → List AV} (ht : P.underlying t = some (.struct fs)) (hc : P.cellsOf t = n) (h : OpensF enc P w fs.toList 0 n I E) : Opens enc P w t I E := by
  intro fuel cs x hx
  obtain ⟨xs, m, rfl, _, hl, hxs, hf⟩ := DataW.trod_struct ht hx
  obtain ⟨a, ha, h1⟩ := h.2 m cs fun f hfm => by
    obtain ⟨i, hi⟩ := List.getElem?_of_mem hfm
    have hi' : fs[i]? = some f := by simpa using hi
    have := hf i f hi'
    have hlt : i < xs.length := by
      rw [hxs]
      exact (Array.getElem?_eq_some_iff.1 hi').1
    rw [List.getElem?_eq_getElem hlt] at this
    exact ⟨_, this⟩
  refine ⟨a, ha, ?_⟩
  rwa [List.drop_zero, List.take_of_length_le (by omega)] at h1
theorem Opens.map {I : α → Prop} {E : α → List AV} {J : β → Prop} {F : β → List AV} (h : Opens enc P w t I E) (g : α → β) (hg : ∀ a, I a → J (g a) ∧ F (g a) = E a) : Opens enc P w t J F := by
  intro fuel cs x hx
  obtain ⟨a, ha, h1⟩ := h _ _ _ hx
  exact ⟨g a, (hg a ha).1, by rw [(hg a ha).2]; exact h1⟩
/-- a struct that is an argument -/
theorem Opens.agg {I : α → Prop} {E : α → List AV} (h : Opens enc P w t I E) {v : Value} {d : DataW H} {p : List MemPlace} (ha : ∃ cs, v = .agg cs) (hd : DataW.Trod enc P w 0 (fun _ => true) true t v d p) : ∃ a, I a ∧ VR σ0 (ice w) (.agg (E a)) v := by
  obtain ⟨cs, rfl⟩ := ha
  obtain ⟨fuel, hd⟩ := hd
  obtain ⟨a, h1, h2⟩ := h _ _ _ hd
  exact ⟨a, h1, .agg _ _ h2.vr⟩
/-- an old place of a world whose blocks stay -/
theorem same_of_kept {w' : World} (hk : ∀ may, w.keptBut w' may) {p : MemPlace} (hp : p.block < w.heap.size) : w.sameAt w' p := by
  have h := (hk fun _ => False).2.2 p.block hp
  have h0 : w.heap[p.block]? = some w.heap[p.block] := Array.getElem?_eq_getElem hp
  cases p with
  | cell b off =>
    show w'.cell? ⟨b, off, none⟩ = w.cell? ⟨b, off, none⟩
    simp only [MemPlace.block] at h h0 hp
    unfold World.cell?
    split at h
    · rename_i c1 t1 f1 c2 t2 f2 e1 e2
      dsimp only
      rw [e1, e2]
      simpa using h.2.2.2 off (fun hh => hh)
    · rename_i e1 e2
      dsimp only
      rw [e1, e2]
    · dsimp only
      rw [h]
  | map b =>
    show w'.heap[b]? = w.heap[b]?
    simp only [MemPlace.block] at h h0 hp
    split at h
    · rename_i c1 t1 f1 c2 t2 f2 e1 e2
      have : c2 = c1 := by
        apply Array.ext_getElem?
        intro j; exact h.2.2.2 j (fun hh => hh)
      rw [e1, e2, h.1, h.2.1, this]
    · rename_i e1 e2
      rcases h with hh | ⟨h1, h2⟩
      · exact hh.elim
      · rw [e1, e2, h1, h2]
    · exact h
theorem Trod.stay {w' : World} {T : TypeId → Prop} (K : Kids P T) (hz : ∀ t e, T t → P.underlying t = some (.slice e) → 0 < P.cellsOf e) {ts : List TypeId} {vs : List Value} {ds : List (DataW H)} {ps : List MemPlace} (hT : ∀ t ∈ ts, T t)
    (h : DataW.TrodAll enc P w 0 (fun _ => true) true ts vs ds ps) (hk : ∀ may, w.keptBut w' may) : DataW.TrodAll enc P w' 0 (fun b => decide (b < w.heap.size)) true ts vs ds ps := by
  have hlt := DataW.TrodAll.lt h
  have h1 : DataW.TrodAll enc P w 0 (fun b => decide (b < w.heap.size)) true ts vs ds ps := h.respare K hz hT fun p hp => decide_eq_true (hlt p hp)
  clear h
  induction ts generalizing vs ds ps with
  | nil =>
    cases vs <;> cases ds <;> first | exact h1 | exact h1.elim
  | cons t ts ih =>
    cases vs with
    | nil => exact h1.elim
    | cons v vs =>
      cases ds with
      | nil => exact h1.elim
      | cons d ds =>
        obtain ⟨p, q, ⟨fuel, h2⟩, h3, e⟩ := h1
        subst e
        refine ⟨p, q, ⟨fuel, DataW.trod_carry _ _ _ _ h2 fun x hx => same_of_kept hk (hlt x (List.mem_append_left _ hx))⟩, ?_, rfl⟩
        exact ih (fun t ht => hT t (List.mem_cons_of_mem _ ht)) (fun x hx => hlt x (List.mem_append_right _ hx)) h3
end
end Go.Kc
namespace Go.Kc
theorem rI_flatMap {k : IntKind} {l : List Int} : l.flatMap (fun n => [AV.i k n]) = l.map (.i k) := by
  induction l with
  | nil => rfl
  | cons x l ih => simp [ih]
/-- a row's last step where nothing old has changed and the arguments come back as they were -/
theorem post_of_stay {P : Program} {H : Type} {enc : TypeId × Value → H} {f : Func} {s : ChangeSpec} {apart fresh handsOn : Bool} {W W' : World} {args : Array Value} {v : Value} {ds gs : List (DataW H)} {before pv : List MemPlace}
    (hW : DataW.Whole enc P f.params.toList s.vars apart W args.toList ds gs before) (hs : (s.fn H (ds ++ gs)).args = ds)
    {T : TypeId → Prop} (K : Kids P T) (hz : ∀ t e, T t → P.underlying t = some (.slice e) → 0 < P.cellsOf e) (hT : ∀ t ∈ f.params.toList, T t)
    (hres : ∀ (b : Nat) (sp : Nat → Bool) (hd : Bool), DataW.TrodAll enc P W' b sp hd f.resultTypes.toList (v.resultList f.resultTypes.size) (s.fn H (ds ++ gs)).results [])
    (hvars : ∀ sp : Nat → Bool, DataW.TrodVars enc P W' sp s.vars (s.fn H (ds ++ gs)).vars pv)
    (hk : ∀ may, W.keptBut W' may) : s.post enc P f apart fresh handsOn false W args v W' := by
  have hW' := hW
  obtain ⟨p, q, hA, _, _⟩ := hW'
  exact ⟨ds, gs, before, [], p, pv, hW, hres _ _ _, by rw [hs]; exact Trod.stay K hz hT hA hk, hvars _, hk _, fun h => by cases h⟩
end Go.Kc
end
