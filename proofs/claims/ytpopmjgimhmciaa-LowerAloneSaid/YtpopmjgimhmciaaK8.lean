/- Part 8 of the abstract machine and of the functions' walks. Conditions: with each theorem. -/
import Derived.Test.YtpopmjgimhmciaaK7
set_option linter.unusedSimpArgs false
set_option linter.unusedVariables false
set_option linter.unnecessarySimpa false
section
/- The methods of lower's maker that make a few rules. Condition: the functions' texts are these. -/
namespace Go.Kc
variable {P:Program} {f:Nat}
def Qj (P:Program) (f:Nat):Prop:=∀ (arg mask act:Int) (l:List Int),l.length ≤ 100000 → qg P f [.i .i64 arg,.i .u64 mask,.i .u32 act,.fz l.length (rI .u64 l)] (.fz (qv arg mask act l).length (rT (qv arg mask act l)))
def qku (P:Program) (f:Nat):Prop:=∀ (arg act:Int) (l:List Int),l.length ≤ 100000 → qg P f [.i .i64 arg,.i .u32 act,.fz l.length (rI .u64 l)] (.fz (qA arg act l).length (rT (qA arg act l)))
theorem qbD.pure (h:qbD P f):Qj P f:=by
 intro arg mask act l hl
 rw [show (qv arg mask act l).length = l.length by simp [qv]]
 refine (h arg mask act l hl).pure (by simp [qK,clo]) ?_
 refine .own 0 _ 4 true _ _ ?_ (fun h0=>?_) (Frzs.self qZ)
 ·simp [xO,Hp.push,shb,H0,Tr.get_set,j7 qZ]
 ·rw [List.eq_nil_of_length_eq_zero h0]; rfl
theorem qbB.pure (h:qbB P f):qku P f:=by
 intro arg act l hl
 rw [show (qA arg act l).length = l.length by simp [qA]]
 refine (h arg act l hl).pure (by simp [qK,clo]) ?_
 refine .own 0 _ 4 true _ _ ?_ (fun h0=>?_) (Frzs.self qZ)
 ·simp [xO,Hp.push,shb,H0,Tr.get_set,j7 qZ]
 ·rw [List.eq_nil_of_length_eq_zero h0]; rfl
def j6:List UInt8:=[115,99,104,101,100,95,115,101,116,115,99,104,101,100,117,108,101,114]
def rtM (p:Pol) (a:Int):Bool × List GRule × Int:=(p.rt,qR a 327681 (qv 1 4294967295 2147418112 [0,3,5]) [j6],2147418112)
def jB (f_lower_tests f_lower_maker_rule:Nat):IFn:=⟨[.tmp 2],.seq (.r [.m 2 (.c (.b false))]) (.seq (.r [.m 3 (.t 0),.q 4 (.buildS 3 [.i .u64 0] [(0,1,(.c (.i .u64 0))),(1,1,(.c (.i .u64 3))),(2,1,(.c (.i .u64 5)))]),.l 5 f_lower_tests [.k 1,(.c (.i .u64 4294967295)),(.c (.i .u32 2147418112)),.t 4],.q 6 (.buildS 1 [.s []] [(0,1,(.c (.s [115,99,104,101,100,95,115,101,116,115,99,104,101,100,117,108,101,114])))]),.l 7 f_lower_maker_rule [.t 3,(.c (.i .u32 327681)),.t 5,.t 6]]) (.seq (.r [.m 8 (.t 0),.q 9 (.nilChk (.t 8)),.q 10 (.fAddr 0 (.t 9)),.q 11 (.fAddr 11 (.t 10)),.q 12 (.load1 (.t 11)),.m 2 (.t 12)]) (.ret)))⟩
theorem qh5 {g1 g2:Nat} (hc:qw P f (jB g1 g2) = true) (h1:Qj P g1) (h2:wK P g2):zm P f rtM:=by
 intro p a hp hR
 refine Upd.mkd hc (by simp [z6,bnd,mkB]) (by simp) ?_
 simp only [jB,mkB,mkC,qj,qi,H0,mkT,mkH,trL,vI,simprocAttr,List.cons_append,List.nil_append]
 simp only [↓vS,vT,shb,shv,qb,qc,cellsOf,wr,qa,simprocAttr]
 refine SC.give (vs':=[.i .i64 1,.i .u64 4294967295,.i .u32 2147418112,.fz 3 (rI .u64 [0,3,5])]) [(2,.cells 0 true false [.i .u64 0,.i .u64 3,.i .u64 5])] ?_ ?_ ?_
 ·intro q hq; simp at hq; subst hq; simp [Tr.get_set]
 ·refine .keep _ _ _ (.keep _ _ _ (.keep _ _ _ (.fz _ _ _ _ (.cut 1 rfl (Nat.le_refl _) ?_) .nil)))
  simp [vw,trP,rI]
 simp only [zh,zn,zK]
 refine (h1 1 4294967295 2147418112 [0,3,5] (by decide)).sc ?_
 generalize hts:qv 1 4294967295 2147418112 [0,3,5] = ts
 have hl:ts.length ≤ 100000:=by rw [← hts]; decide
 simp only [↓vS,vT,shb,shv,qb,qc,cellsOf,wr,qa,simprocAttr]
 refine SC.give (vs':=[.ptr 0 0,.i .u32 327681,.fz ts.length (rT ts),.fz 1 (rS [j6])]) [(3,.cells 0 true false [.s j6])] ?_ ?_ ?_
 ·intro q hq; simp at hq; subst hq; simp [Tr.get_set,j6]
 ·refine .keep _ _ _ (.keep _ _ _ (.keep _ _ _ (.fz _ _ _ _ (.cut 1 rfl (Nat.le_refl _) ?_) .nil)))
  simp [vw,trP,rS,j6]
 simp only [zh,zn,zK]
 refine (h2 p a 2147418112 327681 ts [j6] [] hl (by simp)).sc (vs:=[.ptr 0 0,.i .u32 327681,.fz ts.length (rT ts),.fz 1 (rS [j6])]) [0,1] (Lent.of (by decide) ?_) ?_
 ·simp [vL,shb,shv,qb,z6,bnd,zJ,rnv,gAt,vw,mkB,mkC,qj,qD qo,qm qo,qD qf,qm qf,qD qd,qm qd]
 simp only [vK,xm,rnb,zJ,rnv,gAt,simprocAttr,mkB,mkC,qj,List.cons_append,List.nil_append,qm qo,qm qf,qm qd]
 simp only [↓vS,vT,shb,shv,qb,qc,cellsOf,wr,qa,simprocAttr]
 intro _
 refine ⟨[0,1,4],?_⟩
 simp [vw,rtM,hts,mkB,mkC,qj,qk,qo,qf,qd,zz,rl]
 intro b hb
 have:b = 0 ∨ b = 1:=by omega
 rcases this with rfl | rfl <;> simp
end Go.Kc
end
section
/- The methods of lower's maker that make a few rules. Condition: the functions' texts are these. -/
namespace Go.Kc
variable {P:Program} {f:Nat}
def zA:List UInt8:=[115,111,99,107,101,116]
def zb:List UInt8:=[117,110,115,104,97,114,101]
def zD:List UInt8:=[99,108,111,110,101]
def zo:List UInt8:=[115,101,116,110,115]
def zl:List UInt8:=[99,108,111,110,101,51]
def jn:List UInt8:=[109,109,97,112]
def zg:List UInt8:=[109,112,114,111,116,101,99,116]
def qE:List UInt8:=[112,107,101,121,95,109,112,114,111,116,101,99,116]
def xr:List UInt8:=[115,104,109,97,116]
def qV:List UInt8:=[112,101,114,115,111,110,97,108,105,116,121]
def peM (p:Pol) (a:Int):Bool × List GRule × Int:=(p.pe,qR a 327681 (qv 0 4294967295 2147418112 [0,4294967295]) [qV],2147418112)
def xZ (f_lower_tests f_lower_maker_rule:Nat):IFn:=⟨[.tmp 2],.seq (.r [.m 2 (.c (.b false))]) (.seq (.r [.m 3 (.t 0),.q 4 (.buildS 2 [.i .u64 0] [(0,1,(.c (.i .u64 0))),(1,1,(.c (.i .u64 4294967295)))]),.l 5 f_lower_tests [.k 0,(.c (.i .u64 4294967295)),(.c (.i .u32 2147418112)),.t 4],.q 6 (.buildS 1 [.s []] [(0,1,(.c (.s [112,101,114,115,111,110,97,108,105,116,121])))]),.l 7 f_lower_maker_rule [.t 3,(.c (.i .u32 327681)),.t 5,.t 6]]) (.seq (.r [.m 8 (.t 0),.q 9 (.nilChk (.t 8)),.q 10 (.fAddr 0 (.t 9)),.q 11 (.fAddr 10 (.t 10)),.q 12 (.load1 (.t 11)),.m 2 (.t 12)]) (.ret)))⟩
theorem qe8 {g1 g2:Nat} (hc:qw P f (xZ g1 g2) = true) (h1:Qj P g1) (h2:wK P g2):zm P f peM:=by
 intro p a hp hR
 refine Upd.mkd hc (by simp [z6,bnd,mkB]) (by simp) ?_
 simp only [xZ,mkB,mkC,qj,qi,H0,mkT,mkH,trL,vI,simprocAttr,List.cons_append,List.nil_append]
 simp only [↓vS,vT,shb,shv,qb,qc,cellsOf,wr,qa,simprocAttr]
 refine SC.give (vs':=[.i .i64 0,.i .u64 4294967295,.i .u32 2147418112,.fz 2 (rI .u64 [0,4294967295])]) [(2,.cells 0 true false [.i .u64 0,.i .u64 4294967295])] ?_ ?_ ?_
 ·intro q hq; simp at hq; subst hq; simp [Tr.get_set]
 ·refine .keep _ _ _ (.keep _ _ _ (.keep _ _ _ (.fz _ _ _ _ (.cut 1 rfl (Nat.le_refl _) ?_) .nil)))
  simp [vw,trP,rI]
 simp only [zh,zn,zK]
 refine (h1 0 4294967295 2147418112 [0,4294967295] (by decide)).sc ?_
 generalize hts0:qv 0 4294967295 2147418112 [0,4294967295] = ts0
 have hlts0:ts0.length ≤ 100000:=by rw [← hts0]; decide
 simp only [↓vS,vT,shb,shv,qb,qc,cellsOf,wr,qa,simprocAttr]
 refine SC.give (vs':=[.ptr 0 0,.i .u32 327681,.fz ts0.length (rT ts0),.fz 1 (rS [qV])]) [(3,.cells 0 true false [.s qV])] ?_ ?_ ?_
 ·intro q hq; simp at hq; subst hq; simp [Tr.get_set,qV]
 ·refine .keep _ _ _ (.keep _ _ _ (.keep _ _ _ (.fz _ _ _ _ (.cut 1 rfl (Nat.le_refl _) ?_) .nil)))
  simp [vw,trP,rS,qV]
 simp only [zh,zn,zK]
 refine (h2 p a 2147418112 327681 ts0 [qV] [] hlts0 (by simp)).sc (vs:=[.ptr 0 0,.i .u32 327681,.fz ts0.length (rT ts0),.fz 1 (rS [qV])]) [0,1] (Lent.of (by decide) ?_) ?_
 ·simp [vL,shb,shv,qb,z6,bnd,zJ,rnv,gAt,vw,mkB,mkC,qj,qD qo,qm qo,qD qf,qm qf,qD qd,qm qd]
 simp only [vK,xm,rnb,zJ,rnv,gAt,simprocAttr,mkB,mkC,qj,List.cons_append,List.nil_append,qm qo,qm qf,qm qd]
 have hlA:(qR a 327681 ts0 [qV]).length ≤ 1:=by
  have:=jh a 327681 ts0 [qV]
  simp only [List.length_append,List.length_cons,List.length_nil] at this ⊢; omega
 generalize hA0:qR a 327681 ts0 [qV] = A0 at hlA
 simp only [↓vS,vT,shb,shv,qb,qc,cellsOf,wr,qa,simprocAttr]
 intro _
 refine ⟨[0,1,4],?_⟩
 have e:(peM p a).2.1 = A0:=by simp only [peM,← hA0,← hts0]
 rw [e]
 simp [vw,peM,mkB,mkC,qj,qk,qo,qf,qd,zz,rl]
 intro b hb
 have:b = 0 ∨ b = 1:=by omega
 rcases this with rfl | rfl <;> simp
def weM (p:Pol) (a:Int):Bool × List GRule × Int:=(p.we,qR a 2147418112 (qA 2 327681 [6]) [jn] ++ qR a 2147418112 (qA 2 327681 [4]) [zg,qE] ++ qR a 2147418112 (qA 2 327681 [32768]) [xr],2147418112)
def xU (f_lower_bits f_lower_maker_rule:Nat):IFn:=⟨[.tmp 2],.seq (.r [.m 2 (.c (.b false))]) (.seq (.r [.m 3 (.t 0),.q 4 (.buildS 1 [.i .u64 0] [(0,1,(.c (.i .u64 6)))]),.l 5 f_lower_bits [.k 2,(.c (.i .u32 327681)),.t 4],.q 6 (.buildS 1 [.s []] [(0,1,(.c (.s [109,109,97,112])))]),.l 7 f_lower_maker_rule [.t 3,(.c (.i .u32 2147418112)),.t 5,.t 6]]) (.seq (.r [.m 8 (.t 0),.q 9 (.buildS 1 [.i .u64 0] [(0,1,(.c (.i .u64 4)))]),.l 10 f_lower_bits [.k 2,(.c (.i .u32 327681)),.t 9],.q 11 (.buildS 2 [.s []] [(0,1,(.c (.s [109,112,114,111,116,101,99,116]))),(1,1,(.c (.s [112,107,101,121,95,109,112,114,111,116,101,99,116])))]),.l 12 f_lower_maker_rule [.t 8,(.c (.i .u32 2147418112)),.t 10,.t 11]]) (.seq (.r [.m 13 (.t 0),.q 14 (.buildS 1 [.i .u64 0] [(0,1,(.c (.i .u64 32768)))]),.l 15 f_lower_bits [.k 2,(.c (.i .u32 327681)),.t 14],.q 16 (.buildS 1 [.s []] [(0,1,(.c (.s [115,104,109,97,116])))]),.l 17 f_lower_maker_rule [.t 13,(.c (.i .u32 2147418112)),.t 15,.t 16]]) (.seq (.r [.m 18 (.t 0),.q 19 (.nilChk (.t 18)),.q 20 (.fAddr 0 (.t 19)),.q 21 (.fAddr 9 (.t 20)),.q 22 (.load1 (.t 21)),.m 2 (.t 22)]) (.ret)))))⟩
theorem qee {g1 g2:Nat} (hc:qw P f (xU g1 g2) = true) (h1:qku P g1) (h2:wK P g2):zm P f weM:=by
 intro p a hp hR
 refine Upd.mkd hc (by simp [z6,bnd,mkB]) (by simp) ?_
 simp only [xU,mkB,mkC,qj,qi,H0,mkT,mkH,trL,vI,simprocAttr,List.cons_append,List.nil_append]
 simp only [↓vS,vT,shb,shv,qb,qc,cellsOf,wr,qa,simprocAttr]
 refine SC.give (vs':=[.i .i64 2,.i .u32 327681,.fz 1 (rI .u64 [6])]) [(2,.cells 0 true false [.i .u64 6])] ?_ ?_ ?_
 ·intro q hq; simp at hq; subst hq; simp [Tr.get_set]
 ·refine .keep _ _ _ (.keep _ _ _ (.fz _ _ _ _ (.cut 1 rfl (Nat.le_refl _) ?_) .nil))
  simp [vw,trP,rI]
 simp only [zh,zn,zK]
 refine (h1 2 327681 [6] (by decide)).sc ?_
 generalize hts0:qA 2 327681 [6] = ts0
 have hlts0:ts0.length ≤ 100000:=by rw [← hts0]; decide
 simp only [↓vS,vT,shb,shv,qb,qc,cellsOf,wr,qa,simprocAttr]
 refine SC.give (vs':=[.ptr 0 0,.i .u32 2147418112,.fz ts0.length (rT ts0),.fz 1 (rS [jn])]) [(3,.cells 0 true false [.s jn])] ?_ ?_ ?_
 ·intro q hq; simp at hq; subst hq; simp [Tr.get_set,jn]
 ·refine .keep _ _ _ (.keep _ _ _ (.keep _ _ _ (.fz _ _ _ _ (.cut 1 rfl (Nat.le_refl _) ?_) .nil)))
  simp [vw,trP,rS,jn]
 simp only [zh,zn,zK]
 refine (h2 p a 2147418112 2147418112 ts0 [jn] [] hlts0 (by simp)).sc (vs:=[.ptr 0 0,.i .u32 2147418112,.fz ts0.length (rT ts0),.fz 1 (rS [jn])]) [0,1] (Lent.of (by decide) ?_) ?_
 ·simp [vL,shb,shv,qb,z6,bnd,zJ,rnv,gAt,vw,mkB,mkC,qj,qD qo,qm qo,qD qf,qm qf,qD qd,qm qd]
 simp only [vK,xm,rnb,zJ,rnv,gAt,simprocAttr,mkB,mkC,qj,List.cons_append,List.nil_append,qm qo,qm qf,qm qd]
 have hlA:(qR a 2147418112 ts0 [jn]).length ≤ 1:=by
  have:=jh a 2147418112 ts0 [jn]
  simp only [List.length_append,List.length_cons,List.length_nil] at this ⊢; omega
 generalize hA0:qR a 2147418112 ts0 [jn] = A0 at hlA
 simp only [↓vS,vT,shb,shv,qb,qc,cellsOf,wr,qa,simprocAttr]
 refine SC.give (vs':=[.i .i64 2,.i .u32 327681,.fz 1 (rI .u64 [4])]) [(5,.cells 0 true false [.i .u64 4])] ?_ ?_ ?_
 ·intro q hq; simp at hq; subst hq; simp [Tr.get_set]
 ·refine .keep _ _ _ (.keep _ _ _ (.fz _ _ _ _ (.cut 1 rfl (Nat.le_refl _) ?_) .nil))
  simp [vw,trP,rI]
 simp only [zh,zn,zK]
 refine (h1 2 327681 [4] (by decide)).sc ?_
 generalize hts1:qA 2 327681 [4] = ts1
 have hlts1:ts1.length ≤ 100000:=by rw [← hts1]; decide
 simp only [↓vS,vT,shb,shv,qb,qc,cellsOf,wr,qa,simprocAttr]
 refine SC.give (vs':=[.ptr 0 0,.i .u32 2147418112,.fz ts1.length (rT ts1),.fz 2 (rS [zg,qE])]) [(6,.cells 0 true false [.s zg,.s qE])] ?_ ?_ ?_
 ·intro q hq; simp at hq; subst hq; simp [Tr.get_set,zg,qE]
 ·refine .keep _ _ _ (.keep _ _ _ (.keep _ _ _ (.fz _ _ _ _ (.cut 1 rfl (Nat.le_refl _) ?_) .nil)))
  simp [vw,trP,rS,zg,qE]
 simp only [zh,zn,zK]
 refine (h2 p a 2147418112 2147418112 ts1 [zg,qE] A0 hlts1 (by simp; omega)).sc (vs:=[.ptr 0 0,.i .u32 2147418112,.fz ts1.length (rT ts1),.fz 2 (rS [zg,qE])]) [0,4] (Lent.of (by decide) ?_) ?_
 ·simp [vL,shb,shv,qb,z6,bnd,zJ,rnv,gAt,vw,mkB,mkC,qj,qD qo,qm qo,qD qf,qm qf,qD qd,qm qd]
 simp only [vK,xm,rnb,zJ,rnv,gAt,simprocAttr,mkB,mkC,qj,List.cons_append,List.nil_append,qm qo,qm qf,qm qd]
 have hlA:(A0 ++ qR a 2147418112 ts1 [zg,qE]).length ≤ 3:=by
  have:=jh a 2147418112 ts1 [zg,qE]
  simp only [List.length_append,List.length_cons,List.length_nil] at this ⊢; omega
 generalize hA1:A0 ++ qR a 2147418112 ts1 [zg,qE] = A1 at hlA
 simp only [↓vS,vT,shb,shv,qb,qc,cellsOf,wr,qa,simprocAttr]
 refine SC.give (vs':=[.i .i64 2,.i .u32 327681,.fz 1 (rI .u64 [32768])]) [(8,.cells 0 true false [.i .u64 32768])] ?_ ?_ ?_
 ·intro q hq; simp at hq; subst hq; simp [Tr.get_set]
 ·refine .keep _ _ _ (.keep _ _ _ (.fz _ _ _ _ (.cut 1 rfl (Nat.le_refl _) ?_) .nil))
  simp [vw,trP,rI]
 simp only [zh,zn,zK]
 refine (h1 2 327681 [32768] (by decide)).sc ?_
 generalize hts2:qA 2 327681 [32768] = ts2
 have hlts2:ts2.length ≤ 100000:=by rw [← hts2]; decide
 simp only [↓vS,vT,shb,shv,qb,qc,cellsOf,wr,qa,simprocAttr]
 refine SC.give (vs':=[.ptr 0 0,.i .u32 2147418112,.fz ts2.length (rT ts2),.fz 1 (rS [xr])]) [(9,.cells 0 true false [.s xr])] ?_ ?_ ?_
 ·intro q hq; simp at hq; subst hq; simp [Tr.get_set,xr]
 ·refine .keep _ _ _ (.keep _ _ _ (.keep _ _ _ (.fz _ _ _ _ (.cut 1 rfl (Nat.le_refl _) ?_) .nil)))
  simp [vw,trP,rS,xr]
 simp only [zh,zn,zK]
 refine (h2 p a 2147418112 2147418112 ts2 [xr] A1 hlts2 (by simp; omega)).sc (vs:=[.ptr 0 0,.i .u32 2147418112,.fz ts2.length (rT ts2),.fz 1 (rS [xr])]) [0,7] (Lent.of (by decide) ?_) ?_
 ·simp [vL,shb,shv,qb,z6,bnd,zJ,rnv,gAt,vw,mkB,mkC,qj,qD qo,qm qo,qD qf,qm qf,qD qd,qm qd]
 simp only [vK,xm,rnb,zJ,rnv,gAt,simprocAttr,mkB,mkC,qj,List.cons_append,List.nil_append,qm qo,qm qf,qm qd]
 have hlA:(A1 ++ qR a 2147418112 ts2 [xr]).length ≤ 4:=by
  have:=jh a 2147418112 ts2 [xr]
  simp only [List.length_append,List.length_cons,List.length_nil] at this ⊢; omega
 generalize hA2:A1 ++ qR a 2147418112 ts2 [xr] = A2 at hlA
 simp only [↓vS,vT,shb,shv,qb,qc,cellsOf,wr,qa,simprocAttr]
 intro _
 refine ⟨[0,1,10],?_⟩
 have e:(weM p a).2.1 = A2:=by simp only [weM,← hA2,← hA1,← hA0,← hts0,← hts1,← hts2]
 rw [e]
 simp [vw,weM,mkB,mkC,qj,qk,qo,qf,qd,zz,rl]
 intro b hb
 have:b = 0 ∨ b = 1:=by omega
 rcases this with rfl | rfl <;> simp
end Go.Kc
end
section
/- The namespaces method of lower's maker. Condition: the functions' texts are these. -/
namespace Go.Kc
variable {P:Program} {f:Nat}
def nsM (p:Pol) (a:Int):Bool × List GRule × Int:=(decide (p.spaces ≠ 0),qR a 2147418112 (qA 0 327681 (zi p.spaces)) [zb,zD] ++ qR a 2147418112 (qA 1 327681 (zi p.spaces) ++ qv 1 4294967295 327681 [0]) [zo] ++ qR a 327718 [] [zl],2147418112)
def jj (f_names_Flags f_lower_bits f_lower_maker_rule f_lower_tests:Nat):IFn:=⟨[.tmp 2],.seq (.r [.m 2 (.c (.b false))]) (.seq (.r [.m 4 (.t 0),.q 5 (.nilChk (.t 4)),.q 6 (.fAddr 0 (.t 5)),.q 7 (.fAddr 8 (.t 6)),.q 8 (.load1 (.t 7)),.l 9 f_names_Flags [.t 8],.m 3 (.t 9)]) (.seq (.r [.m 10 (.t 0),.m 11 (.t 3),.l 12 f_lower_bits [.k 0,(.c (.i .u32 327681)),.t 11],.q 13 (.buildS 2 [.s []] [(0,1,(.c (.s [117,110,115,104,97,114,101]))),(1,1,(.c (.s [99,108,111,110,101])))]),.l 14 f_lower_maker_rule [.t 10,(.c (.i .u32 2147418112)),.t 12,.t 13]]) (.seq (.r [.m 15 (.t 0),.m 16 (.t 3),.l 17 f_lower_bits [.k 1,(.c (.i .u32 327681)),.t 16],.q 18 (.buildS 1 [.i .u64 0] [(0,1,(.c (.i .u64 0)))]),.l 19 f_lower_tests [.k 1,(.c (.i .u64 4294967295)),(.c (.i .u32 327681)),.t 18],.q 20 (.app 4 32 true (.t 17) (.t 19)),.q 21 (.buildS 1 [.s []] [(0,1,(.c (.s [115,101,116,110,115])))]),.l 22 f_lower_maker_rule [.t 15,(.c (.i .u32 2147418112)),.t 20,.t 21]]) (.seq (.r [.m 23 (.t 0),.q 24 (.buildS 1 [.s []] [(0,1,(.c (.s [99,108,111,110,101,51])))]),.l 25 f_lower_maker_rule [.t 23,(.c (.i .u32 327718)),(.c (.nils)),.t 24]]) (.seq (.r [.m 26 (.t 0),.q 27 (.nilChk (.t 26)),.q 28 (.fAddr 0 (.t 27)),.q 29 (.fAddr 8 (.t 28)),.q 30 (.load1 (.t 29)),.q 31 (.bin .neq (.t 30) (.c (.i .u64 0))),.m 2 (.t 31)]) (.ret))))))⟩
theorem qfy {g0 g1 g2 g3:Nat} (hc:qw P f (jj g0 g1 g2 g3) = true) (h0:∀ s,qg P g0 [.i .u64 s] (.fz (zi s).length (rI .u64 (zi s)))) (hb:qbB P g1) (h1:Qj P g3) (h2:wK P g2):zm P f nsM:=by
 intro p a hp hR
 refine Upd.mkd hc (by simp [z6,bnd,mkB]) (by simp) ?_
 simp only [jj,mkB,mkC,qj,qi,H0,mkT,mkH,trL,vI,simprocAttr,List.cons_append,List.nil_append]
 simp only [↓vS,vT,shb,shv,qb,qc,cellsOf,wr,qa,simprocAttr]
 refine (h0 p.spaces).sc ?_
 have hfl:(zi p.spaces).length ≤ 8:=Nat.le_trans (List.length_filter_le _ _) (by decide)
 generalize hF:zi p.spaces = F at hfl
 simp only [↓vS,vT,shb,shv,qb,qc,cellsOf,wr,qa,simprocAttr]
 refine (hb.pure 0 327681 F (by omega)).sc ?_
 have hlts0:(qA 0 327681 F).length ≤ 100000:=by simp [qA]; omega
 generalize hts0:qA 0 327681 F = ts0 at hlts0
 simp only [↓vS,vT,shb,shv,qb,qc,cellsOf,wr,qa,simprocAttr]
 refine SC.give (vs':=[.ptr 0 0,.i .u32 2147418112,.fz ts0.length (rT ts0),.fz 2 (rS [zb,zD])]) [(2,.cells 0 true false [.s zb,.s zD])] ?_ ?_ ?_
 ·intro q hq; simp at hq; subst hq; simp [Tr.get_set,zb,zD]
 ·refine .keep _ _ _ (.keep _ _ _ (.keep _ _ _ (.fz _ _ _ _ (.cut 1 rfl (Nat.le_refl _) ?_) .nil)))
  simp [vw,trP,rS,zb,zD]
 simp only [zh,zn,zK]
 refine (h2 p a 2147418112 2147418112 ts0 [zb,zD] [] hlts0 (by simp)).sc (vs:=[.ptr 0 0,.i .u32 2147418112,.fz ts0.length (rT ts0),.fz 2 (rS [zb,zD])]) [0,1] (Lent.of (by decide) ?_) ?_
 ·simp [vL,shb,shv,qb,z6,bnd,zJ,rnv,gAt,vw,mkB,mkC,qj,qD qo,qm qo,qD qf,qm qf,qD qd,qm qd]
 simp only [vK,xm,rnb,zJ,rnv,gAt,simprocAttr,mkB,mkC,qj,List.cons_append,List.nil_append,qm qo,qm qf,qm qd]
 have hlA:(qR a 2147418112 ts0 [zb,zD]).length ≤ 2:=by
  have:=jh a 2147418112 ts0 [zb,zD]
  simp only [List.length_append,List.length_cons,List.length_nil] at this ⊢; omega
 generalize hA0:qR a 2147418112 ts0 [zb,zD] = A0 at hlA
 simp only [↓vS,vT,shb,shv,qb,qc,cellsOf,wr,qa,simprocAttr]
 refine (hb 1 327681 F (by omega)).sc ?_
 simp only [vJ,shb,shv,qb,simprocAttr,j7 qZ]
 have hlb:(qA 1 327681 F).length = F.length:=by simp [qA]
 have hlbT:(rT (qA 1 327681 F)).length = F.length * 4:=by rw [j0,hlb]
 simp only [↓vS,vT,shb,shv,qb,qc,cellsOf,wr,qa,simprocAttr]
 refine SC.give (vs':=[.i .i64 1,.i .u64 4294967295,.i .u32 327681,.fz 1 (rI .u64 [0])]) [(5,.cells 0 true false [.i .u64 0])] ?_ ?_ ?_
 ·intro q hq; simp at hq; subst hq; simp [Tr.get_set]
 ·refine .keep _ _ _ (.keep _ _ _ (.keep _ _ _ (.fz _ _ _ _ (.cut 1 rfl (Nat.le_refl _) ?_) .nil)))
  simp [vw,trP,rI]
 simp only [zh,zn,zK]
 refine (h1 1 4294967295 327681 [0] (by decide)).sc ?_
 generalize hts1:qv 1 4294967295 327681 [0] = ts1
 have hlts1:ts1.length ≤ 100000:=by rw [← hts1]; decide
 simp only [↓vS,vT,shb,shv,qb,qc,cellsOf,wr,qa,simprocAttr]
 have hl1:ts1.length = 1:=by rw [← hts1]; rfl
 have hl1T:(rT ts1).length = 4:=by rw [j0,hl1]
 obtain ⟨ts2,hts2⟩:∃ x,qA 1 327681 F ++ ts1 = x:=⟨_,rfl⟩
 have hl2:F.length + 1 = ts2.length:=by rw [← hts2,List.length_append,hlb,hl1]
 have hr1:ts2.length ≤ qh:=by simp only [qh]; omega
 have hr2:ts2.length * 32 ≤ qh:=by simp only [qh]; omega
 have hlts2:ts2.length ≤ 100000:=by omega
 have htk:(rT (qA 1 327681 F)).take (F.length * 4) = rT (qA 1 327681 F):=List.take_of_length_le (by omega)
 have htk1:(rT ts1).take 4 = rT ts1:=List.take_of_length_le (by omega)
 have hok:qM (rT ts1) = true:=qkM
 simp (decide:=true) only [↓vS,vT,shb,shv,qb,qc,cellsOf,wr,qa,simprocAttr,hl1,hl1T,hlbT,htk,htk1,hl2,hr1,hr2,kU,hts2,hok]
 refine SC.give (vs':=[.ptr 0 0,.i .u32 2147418112,.fz ts2.length (rT ts2),.fz 1 (rS [zo])]) [(6,.cells 4 true true (rT ts2)),(7,.cells 0 true false [.s zo])] ?_ ?_ ?_
 ·intro q hq; simp at hq; rcases hq with rfl | rfl <;> simp [Tr.get_set,zo]
 ·refine .keep _ _ _ (.keep _ _ _ (.fz _ _ _ _ (.own 6 _ 4 true (rT ts2) _ ?_ (fun h0=>?_) (Frzs.self qZ)) (.fz _ _ _ _ (.cut 1 rfl (Nat.le_refl _) ?_) .nil)))
  ·simp [trP,Tr.get_set]
  ·rw [List.eq_nil_of_length_eq_zero h0]; rfl
  simp [vw,trP,rS,zo]
 simp only [zh,zn,zK]
 refine (h2 p a 2147418112 2147418112 ts2 [zo] A0 hlts2 (by simp; omega)).sc (vs:=[.ptr 0 0,.i .u32 2147418112,.fz ts2.length (rT ts2),.fz 1 (rS [zo])]) [0,3] (Lent.of (by decide) ?_) ?_
 ·simp [vL,shb,shv,qb,z6,bnd,zJ,rnv,gAt,vw,mkB,mkC,qj,qD qo,qm qo,qD qf,qm qf,qD qd,qm qd]
 simp only [vK,xm,rnb,zJ,rnv,gAt,simprocAttr,mkB,mkC,qj,List.cons_append,List.nil_append,qm qo,qm qf,qm qd]
 have hlA:(A0 ++ qR a 2147418112 ts2 [zo]).length ≤ 3:=by
  have:=jh a 2147418112 ts2 [zo]
  simp only [List.length_append,List.length_cons,List.length_nil] at this ⊢; omega
 generalize hA1:A0 ++ qR a 2147418112 ts2 [zo] = A1 at hlA
 simp only [↓vS,vT,shb,shv,qb,qc,cellsOf,wr,qa,simprocAttr]
 refine SC.give (vs':=[.ptr 0 0,.i .u32 327718,.fz 0 (rT []),.fz 1 (rS [zl])]) [(9,.cells 0 true false [.s zl])] ?_ ?_ ?_
 ·intro q hq; simp at hq; subst hq; simp [Tr.get_set,zl]
 ·refine .keep _ _ _ (.keep _ _ _ (.fz _ _ _ _ .nilz (.fz _ _ _ _ (.cut 1 rfl (Nat.le_refl _) ?_) .nil)))
  simp [vw,trP,rS,zl]
 simp only [zh,zn,zK]
 refine (h2 p a 2147418112 327718 [] [zl] A1 (by simp) (by simp; omega)).sc (vs:=[.ptr 0 0,.i .u32 327718,.fz 0 (rT []),.fz 1 (rS [zl])]) [0,8] (Lent.of (by decide) ?_) ?_
 ·simp [vL,shb,shv,qb,z6,bnd,zJ,rnv,gAt,vw,mkB,mkC,qj,qD qo,qm qo,qD qf,qm qf,qD qd,qm qd]
 simp only [vK,xm,rnb,zJ,rnv,gAt,simprocAttr,mkB,mkC,qj,List.cons_append,List.nil_append,qm qo,qm qf,qm qd]
 have hlA:(A1 ++ qR a 327718 [] [zl]).length ≤ 4:=by
  have:=jh a 327718 [] [zl]
  simp only [List.length_append,List.length_cons,List.length_nil] at this ⊢; omega
 generalize hA2:A1 ++ qR a 327718 [] [zl] = A2 at hlA
 simp only [↓vS,vT,shb,shv,qb,qc,cellsOf,wr,qa,simprocAttr]
 intro _
 refine ⟨[0,1,10],?_⟩
 have e:(nsM p a).2.1 = A2:=by simp only [nsM,← hA2,← hA1,← hA0,← hts2,← hts0,← hts1,← hF]
 rw [e]
 simp [vw,nsM,mkB,mkC,qj,qk,qo,qf,qd,zz,rl]
 intro b hb
 have:b = 0 ∨ b = 1:=by omega
 rcases this with rfl | rfl <;> simp
end Go.Kc
end
section
/- The families method of lower's maker. Condition: the functions' texts are these. -/
namespace Go.Kc
variable {P:Program} {f:Nat}
def fmM (p:Pol) (a:Int):Bool × List GRule × Int :=
 (qW p.fmode p.fams.length true false,qR a (if p.fmode = 2 then 2147418112 else 327777) (qv 0 4294967295 (if p.fmode = 2 then 327777 else 2147418112) p.fams) [zA],2147418112)
def zY (f_lower_tests f_lower_maker_rule f_lower_lists:Nat):ICode:=.seq (.r [.m 32 (.t 0),.m 33 (.t 4),.m 34 (.t 3),.m 35 (.t 5),.l 36 f_lower_tests [.k 0,(.c (.i .u64 4294967295)),.t 34,.t 35],.q 37 (.buildS 1 [.s []] [(0,1,(.c (.s [115,111,99,107,101,116])))]),.l 38 f_lower_maker_rule [.t 32,.t 33,.t 36,.t 37]]) (.seq (.reg true [.m 39 (.t 0),.q 40 (.nilChk (.t 39)),.q 41 (.fAddr 0 (.t 40)),.q 42 (.fAddr 7 (.t 41)),.q 43 (.load1 (.t 42)),.m 44 (.t 0),.q 45 (.nilChk (.t 44)),.q 46 (.fAddr 0 (.t 45)),.q 47 (.fAddr 6 (.t 46)),.q 48 (.load1 (.t 47)),.q 49 (.len false (.t 48)),.l 50 f_lower_lists [.t 43,.t 49,(.c (.b true)),(.c (.b false))],.m 2 (.t 50)]) (.ret))
def zX (f_lower_tests f_lower_maker_rule f_lower_lists:Nat):ICode:=.seq (.r [.m 5 (.c (.nils))]) (.seq (.seq (.r [.m 16 (.t 0),.q 17 (.nilChk (.t 16)),.q 18 (.fAddr 0 (.t 17)),.q 19 (.fAddr 6 (.t 18)),.q 20 (.load1 (.t 19)),.q 21 (.len false (.t 20)),.m 22 (.k 0)]) (.blk 0 (.loop (.seq (.r [.q 23 (.bin .lss (.t 22) (.t 21))]) (.seq (.cond (.t 23) (.skip) (.exit 0)) (.seq (.blk 1 (.seq (.r [.q 24 (.iAddrS 1 (.t 20) (.t 22)),.q 25 (.load1 (.t 24)),.m 7 (.t 25)]) (.r [.m 26 (.t 5),.m 27 (.t 7),.q 28 (.cvInt .u64 (.t 27)),.q 29 (.buildS 1 [.i .u64 0] [(0,1,(.t 28))]),.q 30 (.app 1 8 true (.t 26) (.t 29)),.m 5 (.t 30)]))) (.r [.q 31 (.bin .add (.t 22) (.k 1)),.m 22 (.t 31)]))))))) (.cut (zY f_lower_tests f_lower_maker_rule f_lower_lists)))
def jA (f_lower_tests f_lower_maker_rule f_lower_lists:Nat):IFn:=⟨[.tmp 2],.seq (.r [.m 2 (.c (.b false))]) (.seq (.r [.m 3 (.c (.i .u32 2147418112)),.m 4 (.c (.i .u32 327777))]) (.seq (.seq (.r [.m 8 (.t 0),.q 9 (.nilChk (.t 8)),.q 10 (.fAddr 0 (.t 9)),.q 11 (.fAddr 7 (.t 10)),.q 12 (.load1 (.t 11)),.q 13 (.bin .eql (.t 12) (.c (.i .u8 2)))]) (.cond (.t 13) (.r [.m 14 (.t 4),.m 15 (.t 3),.m 3 (.t 14),.m 4 (.t 15)]) (.skip))) (.cut (zX f_lower_tests f_lower_maker_rule f_lower_lists))))⟩
theorem qjw {g1 g2 g3:Nat} (h1:Qj P g1) (h2:wK P g2) (h3:∀ mode n al dn,qg P g3 [.i .u8 mode,.i .i64 (n:Nat),.b al,.b dn] (.b (qW mode n al dn)))
  (p:Pol) (a nm ot:Int) (hp:PolOk p) {t':Tr AV} {h':Hp} (hw:Wk 2 t' h' (mkT [(0,.ptr 0 0),(2,.b false),(3,.i .u32 nm),(4,.i .u32 ot),(5,.own 2 p.fams.length)]) (mkH 0 [mkB p a 2147418112 1 0,.cells 3 true true (rR []),.cells 1 true true (rI .u64 p.fams)])) :
  S P 2 (zY g1 g2 g3) (je [.tmp 2] (qdf 2 (.b (qW p.fmode p.fams.length true false)) [mkB p a 2147418112 2 (qR a ot (qv 0 4294967295 nm p.fams) [zA]).length,.dead,.cells 3 true true (rR (qR a ot (qv 0 4294967295 nm p.fams) [zA]))])) t' h':=by
 have hl:=hp.f
 refine S.weak hw (qL ?_)
 simp only [zY,mkB,mkC,qj,List.cons_append,List.nil_append,qi,H0,mkT,mkH,trL,vI,simprocAttr]
 simp only [↓vS,vT,shb,shv,qb,qc,cellsOf,wr,qa,simprocAttr]
 refine SC.give (vs':=[.i .i64 0,.i .u64 4294967295,.i .u32 nm,.fz p.fams.length (rI .u64 p.fams)]) [(2,.cells 1 true true (rI .u64 p.fams))] ?_ ?_ ?_
 ·intro q hq; simp at hq; subst hq; simp [Tr.get_set]
 ·refine .keep _ _ _ (.keep _ _ _ (.keep _ _ _ (.fz _ _ _ _ (.own 2 _ 1 true (rI .u64 p.fams) _ ?_ (fun h0=>?_) (Frzs.self qd)) .nil)))
  ·simp [trP,Tr.get_set]
  ·rw [List.eq_nil_of_length_eq_zero h0]; rfl
 simp only [zh,zn,zK]
 refine (h1 0 4294967295 nm p.fams (by omega)).sc ?_
 have hlts:(qv 0 4294967295 nm p.fams).length ≤ 100000:=by simp [qv]; omega
 generalize hts:qv 0 4294967295 nm p.fams = ts at hlts
 simp only [↓vS,vT,shb,shv,qb,qc,cellsOf,wr,qa,simprocAttr]
 refine SC.give (vs':=[.ptr 0 0,.i .u32 ot,.fz ts.length (rT ts),.fz 1 (rS [zA])]) [(3,.cells 0 true false [.s zA])] ?_ ?_ ?_
 ·intro q hq; simp at hq; subst hq; simp [Tr.get_set,zA]
 ·refine .keep _ _ _ (.keep _ _ _ (.keep _ _ _ (.fz _ _ _ _ (.cut 1 rfl (Nat.le_refl _) ?_) .nil)))
  simp [vw,trP,rS,zA]
 simp only [zh,zn,zK]
 refine (h2 p a 2147418112 ot ts [zA] [] hlts (by simp)).sc (vs:=[.ptr 0 0,.i .u32 ot,.fz ts.length (rT ts),.fz 1 (rS [zA])]) [0,1] (Lent.of (by decide) ?_) ?_
 ·simp [vL,shb,shv,qb,z6,bnd,zJ,rnv,gAt,vw,mkB,mkC,qj,qD qo,qm qo,qD qf,qm qf,qD qd,qm qd]
 simp only [vK,xm,rnb,zJ,rnv,gAt,simprocAttr,mkB,mkC,qj,List.cons_append,List.nil_append,qm qo,qm qf,qm qd]
 generalize hA:qR a ot ts [zA] = A
 simp only [↓vS,vT,shb,shv,qb,qc,cellsOf,wr,qa,simprocAttr]
 refine xt ?_
 simp only [↓vS,vT,shb,shv,qb,qc,cellsOf,wr,qa,simprocAttr]
 refine (h3 p.fmode p.fams.length true false).pc ?_
 simp only [↓vS,vT,shb,shv,qb,qc,cellsOf,wr,qa,simprocAttr]
 intro _
 refine ⟨[0,1,4],?_⟩
 simp [vw,mkB,mkC,qj,qk,qo,qf,qd,zz,rl]
 intro b hb
 have:b = 0 ∨ b = 1:=by omega
 rcases this with rfl | rfl <;> simp
theorem qd9 {g1 g2 g3:Nat} (h1:Qj P g1) (h2:wK P g2) (h3:∀ mode n al dn,qg P g3 [.i .u8 mode,.i .i64 (n:Nat),.b al,.b dn] (.b (qW mode n al dn)))
  (p:Pol) (a nm ot:Int) (hp:PolOk p) (hR:PolR p) {t':Tr AV} {h':Hp} (hw:Wk 2 t' h' (mkT [(0,.ptr 0 0),(2,.b false),(3,.i .u32 nm),(4,.i .u32 ot)]) (mkH 0 [mkB p a 2147418112 1 0,.cells 3 true true (rR [])])) :
  S P 2 (zX g1 g2 g3) (je [.tmp 2] (qdf 2 (.b (qW p.fmode p.fams.length true false)) [mkB p a 2147418112 2 (qR a ot (qv 0 4294967295 nm p.fams) [zA]).length,.dead,.cells 3 true true (rR (qR a ot (qv 0 4294967295 nm p.fams) [zA]))])) t' h':=by
 have hl:=hp.f
 refine S.weak hw (qL ?_)
 simp only [zX,mkB,mkC,qj,List.cons_append,List.nil_append,qi,H0,mkT,mkH,trL,vI,simprocAttr]
 simp only [↓vS,vT,shb,shv,qb,qc,cellsOf,wr,qa,simprocAttr]
 refine SL.loopd (α:=Nat) (fun j=>[(0,.ptr 0 0),(2,.b false),(3,.i .u32 nm),(4,.i .u32 ot),(5,.own 2 j),(20,.fz p.fams.length (rI .u32 p.fams)),(21,.i .i64 p.fams.length),(22,.i .i64 j)])
  (fun j=>[mkB p a 2147418112 1 0,.cells 3 true true (rR []),.cells 1 true true (rI .u64 (p.fams.take j))])
  (fun j=>j ≤ p.fams.length) (fun j=>p.fams.length - j) 0 [0,1,99] ?_ ?_ ?_ rfl (by simp) ?_ ?_ ?_
 ·simp [vw,qd]
 ·simp [vw,mkB,mkC,qj,qk,qo,qf,qd]
 ·simp [zz,mkB]
 ·intro b hb; have:b = 0 ∨ b = 1:=by omega
  rcases this with rfl | rfl <;> simp [yN,rl]
 ·exact Nat.zero_le _
 rintro j hj G ih
 simp only [qi,H0,mkT,mkH,trL,vI,simprocAttr,mkB,mkC,qj,List.cons_append,List.nil_append]
 by_cases hlt:j < p.fams.length
 ·have hx:p.fams[j]? = some p.fams[j]:=List.getElem?_eq_getElem hlt
  have hw:IntKind.wrap .i64 ((j:Int) + 1) = ((j + 1:Nat):Int):=by rw [qz (by omega) (by omega)]; omega
  have hb:=hR.fams p.fams[j] (List.getElem_mem hlt)
  have hln:(rI .u64 (p.fams.take j)).length = j:=by rw [qbW]; simp; omega
  have htk:(rI .u64 (p.fams.take j)).take j = rI .u64 (p.fams.take j):=List.take_of_length_le (by omega)
  have hap:rI .u64 (p.fams.take j) ++ [AV.i .u64 p.fams[j]] = rI .u64 (p.fams.take (j + 1)):=by
   rw [List.take_add_one,hx]; simp only [Option.toList_some,← qdF]; rfl
  have hcv:IntKind.wrap .u64 p.fams[j] = p.fams[j]:=wY (by omega) (by omega)
  have hr1:j + 1 ≤ qh:=by simp only [qh]; omega
  have hr2:(j + 1) * 8 ≤ qh:=by simp only [qh]; omega
  simp (decide:=true) only [↓vS,vT,shb,shv,qb,qc,cellsOf,wr,qa,simprocAttr,hlt,Nat.mul_one,zF,hx,Option.map_some,hcv,hw,hr1,hr2,hln,htk,hap]
  refine ih (j + 1) hlt (by omega) _ _ (Wk.mkd _ _ [0,1,4] ?_ ?_ ?_ rfl (by simp) ?_)
  ·simp [vw,qd]
  ·simp [vw,mkB,mkC,qj,qk,qo,qf,qd]
  ·simp [zz,mkB]
  ·intro b hb; have:b = 0 ∨ b = 1:=by omega
   rcases this with rfl | rfl <;> simp [yN,rl]
 ·have hj':j = p.fams.length:=by omega
  subst hj'
  simp only [↓vS,vT,shb,shv,qb,qc,cellsOf,wr,qa,simprocAttr,hlt]
  refine qjw h1 h2 h3 p a nm ot hp (Wk.mkd _ _ [0,1,2] ?_ ?_ ?_ rfl (by simp) ?_)
  ·simp [vw]
  ·simp [vw,mkB,mkC,qj,qk,qo,qf,qd]
  ·simp [zz,mkB]
  ·intro b hb; have:b = 0 ∨ b = 1:=by omega
   rcases this with rfl | rfl <;> simp [yN,rl]
theorem qh4 {g1 g2 g3:Nat} (hc:qw P f (jA g1 g2 g3) = true) (h1:Qj P g1) (h2:wK P g2) (h3:∀ mode n al dn,qg P g3 [.i .u8 mode,.i .i64 (n:Nat),.b al,.b dn] (.b (qW mode n al dn))):zm P f fmM:=by
 intro p a hp hR
 refine Upd.mkd hc (by simp [z6,bnd,mkB]) (by simp) ?_
 simp only [jA,mkB,mkC,qj,qi,H0,mkT,mkH,trL,vI,simprocAttr,List.cons_append,List.nil_append]
 by_cases m:p.fmode = 2
 ·simp only [↓vS,vT,shb,shv,qb,qc,cellsOf,wr,qa,simprocAttr,m]
  have e:fmM p a = (qW p.fmode p.fams.length true false,qR a 2147418112 (qv 0 4294967295 327777 p.fams) [zA],2147418112):=by simp [fmM,m]
  rw [e]
  refine qd9 h1 h2 h3 p a 327777 2147418112 hp hR (Wk.mkd _ _ [0,1] ?_ ?_ ?_ rfl (by simp) ?_)
  ·simp [vw]
  ·simp [vw,mkB,mkC,qj,qk,qo,qf,qd,m]
  ·simp [zz,mkB]
  ·intro b hb; have:b = 0 ∨ b = 1:=by omega
   rcases this with rfl | rfl <;> simp [yN,rl]
 ·simp only [↓vS,vT,shb,shv,qb,qc,cellsOf,wr,qa,simprocAttr,m]
  have e:fmM p a = (qW p.fmode p.fams.length true false,qR a 327777 (qv 0 4294967295 2147418112 p.fams) [zA],2147418112):=by simp [fmM,m]
  rw [e]
  refine qd9 h1 h2 h3 p a 2147418112 327777 hp hR (Wk.mkd _ _ [0,1] ?_ ?_ ?_ rfl (by simp) ?_)
  ·simp [vw]
  ·simp [vw,mkB,mkC,qj,qk,qo,qf,qd]
  ·simp [zz,mkB]
  ·intro b hb; have:b = 0 ∨ b = 1:=by omega
   rcases this with rfl | rfl <;> simp [yN,rl]
end Go.Kc
end
section
/- What lower.Lower answers. Condition: the functions' texts are these. -/
namespace Go.Kc
variable {P:Program} {f:Nat}
def zV (rs:List GRule):List GRule:=rs.mergeSort fun x y=>decide (x.nr ≤ y.nr)
def qar (P:Program) (f c:Nat):Prop:=∀ rs:List GRule,rs.length ≤ 100000 → (rs.map GRule.nr).Nodup →
 Upd P f [.own 0 rs.length,.fn c [] []] [.cells 3 true true (rR rs)] (.tup []) [.cells 3 true true (rR (zV rs))]
def vG (d:Int):Option (Pol → Int → Bool × List GRule × Int) :=
 if d = 1 then some qay else if d = 2 then some qaO else if d = 3 then some fmM else if d = 4 then some nsM else if d = 5 then some weM else if d = 6 then some peM else if d = 7 then some rtM else none
noncomputable def wm (p:Pol) (d a:Int):Bool:=decide (0 ≤ d) && decide (d < 8) && (decide (0 ≤ a) && decide (a < 6)) && xA p && inA p.arches a
noncomputable def jW (p:Pol) (d a:Int):Option GFil :=
 if wm p d a = true then (vG d).bind fun F=>if (F p a).1 = true then some ⟨a,zV (F p a).2.1,(F p a).2.2⟩ else none else none
def kC:Option GFil → AV
 | some x=>.tup [.agg (xH x),.b true]
 | none=>.tup [.agg [.i .i64 0,.fz 0 [],.i .u32 0],.b false]
def qh6 (F:Pol → Int → Bool × List GRule × Int):Prop:=∀ p a,PolOk p → xA p = true → 0 ≤ a → a < 6 → (F p a).2.1.length ≤ 100000 ∧ ((F p a).2.1.map GRule.nr).Nodup
def ya (f_lower_maker_filter f_lower_maker_log f_lower_maker_families f_lower_maker_namespaces f_lower_maker_writeExecute f_lower_maker_personality f_lower_maker_realtime:Nat):IFn:=⟨[.cell 0 8 true],.seq (.r [.q 0 (.alloc [.nilf,.nilf,.nilf,.nilf,.nilf,.nilf,.nilf,.nilf])]) (.seq (.r [.q 1 (.build [.nilf,.nilf,.nilf,.nilf,.nilf,.nilf,.nilf,.nilf] [(0,1,(.c (.nilf))),(1,1,(.c (.fn f_lower_maker_filter [] []))),(2,1,(.c (.fn f_lower_maker_log [] []))),(3,1,(.c (.fn f_lower_maker_families [] []))),(4,1,(.c (.fn f_lower_maker_namespaces [] []))),(5,1,(.c (.fn f_lower_maker_writeExecute [] []))),(6,1,(.c (.fn f_lower_maker_personality [] []))),(7,1,(.c (.fn f_lower_maker_realtime [] [])))]),.u (.store 8 (.t 0) (.t 1))]) (.ret))⟩
theorem qkD {g1 g2 g3 g4 g5 g6 g7:Nat} (hc:qw P f (ya g1 g2 g3 g4 g5 g6 g7) = true):qg P f [] (.agg [.nilf,.fn g1 [] [],.fn g2 [] [],.fn g3 [] [],.fn g4 [] [],.fn g5 [] [],.fn g6 [] [],.fn g7 [] []]):=by
 refine qg.mk hc rfl ?_
 simp only [ya,qi,H0,mkT,mkH,trL,vI,simprocAttr]
 simp only [↓vS,vT,shb,shv,qb,qc,cellsOf,wr,qa,simprocAttr]
 simp [vZ]
def jR (f_arch_Name f_policy_May f_arch_In f_lower_makers f_slices_SortFunc_api_Rule_api_Rule f_lower_Lower_1:Nat):ICode:=.seq (.r [.m 51 (.t 8),.q 52 (.nilChk (.t 51)),.q 53 (.fAddr 13 (.t 52)),.q 54 (.fAddr 1 (.t 53)),.q 55 (.load1 (.t 54)),.l 56 f_slices_SortFunc_api_Rule_api_Rule [.t 55,(.c (.fn f_lower_Lower_1 [] []))]]) (.seq (.r [.m 57 (.t 8),.q 58 (.nilChk (.t 57)),.q 59 (.fAddr 13 (.t 58)),.q 60 (.loadN 3 (.t 59)),.u (.store 3 (.t 6) (.t 60)),.m 7 (.c (.b true))]) (.ret))
def jQ (f_arch_Name f_policy_May f_arch_In f_lower_makers f_slices_SortFunc_api_Rule_api_Rule f_lower_Lower_1:Nat):ICode:=.seq (.seq (.r [.l 39 f_lower_makers [],.m 40 (.t 1),.q 41 (.idxA 8 1 false (.t 39) (.t 40)),.m 9 (.t 41)]) (.seq (.r [.m 42 (.t 9),.q 43 (.eqN false .func (.t 42)),.m 44 (.t 43),.g 45 (.mov (.t 9)) 44 false,.g 46 (.mov (.t 8)) 44 false,⟨(some 47),.callV (.t 45) [.t 46],(some (44,false))⟩,.g 48 (.un .not (.t 47)) 44 false,.q 49 (.pick (.t 44) (.c (.b true)) (.t 48))]) (.cond (.t 49) (.seq (.r [.q 50 (.build [.i .i64 0,.nils,.i .u32 0] []),.u (.store 3 (.t 6) (.t 50)),.m 7 (.c (.b false))]) (.ret)) (.skip)))) (.cut (jR f_arch_Name f_policy_May f_arch_In f_lower_makers f_slices_SortFunc_api_Rule_api_Rule f_lower_Lower_1))
def jP (f_arch_Name f_policy_May f_arch_In f_lower_makers f_slices_SortFunc_api_Rule_api_Rule f_lower_Lower_1:Nat):ICode:=.seq (.r [.q 34 (.loadN 13 (.t 3)),.m 35 (.t 2),.q 36 (.build [.i .i64 0,.nils,.i .u32 0] [(0,1,(.t 35)),(2,1,(.c (.i .u32 2147418112)))]),.q 37 (.build [.nils,.i .u8 0,.nils,.i .u32 0,.i .u8 0,.nils,.nils,.i .u8 0,.i .u64 0,.b false,.b false,.b false,.b false,.i .i64 0,.nils,.i .u32 0] [(0,13,(.t 34)),(13,3,(.t 36))]),.q 38 (.box (.t 37)),.m 8 (.t 38)]) (.cut (jQ f_arch_Name f_policy_May f_arch_In f_lower_makers f_slices_SortFunc_api_Rule_api_Rule f_lower_Lower_1))
def yB (f_arch_Name f_policy_May f_arch_In f_lower_makers f_slices_SortFunc_api_Rule_api_Rule f_lower_Lower_1:Nat):IFn:=⟨[.cell 6 3 true,.tmp 7],.seq (.r [.q 3 (.box (.t 0)),.q 6 (.alloc [.i .i64 0,.nils,.i .u32 0]),.m 7 (.c (.b false))]) (.seq (.seq (.r [.m 10 (.t 1),.q 11 (.bin .lss (.t 10) (.k 0)),.m 12 (.t 11),.g 13 (.mov (.t 1)) 12 false,.g 14 (.bin .geq (.t 13) (.k 8)) 12 false,.q 15 (.pick (.t 12) (.c (.b true)) (.t 14)),.m 16 (.t 15),.g 17 (.mov (.t 2)) 16 false,⟨(some 18),.callF f_arch_Name [.t 17],(some (16,false))⟩,.g 19 (.bin .eql (.t 18) (.c (.s []))) 16 false,.q 20 (.pick (.t 16) (.c (.b true)) (.t 19)),.m 21 (.t 20),.g 22 (.loadN 13 (.t 3)) 21 false,⟨(some 23),.callF f_policy_May [.t 22],(some (21,false))⟩,.g 24 (.un .not (.t 23)) 21 false,.q 25 (.pick (.t 21) (.c (.b true)) (.t 24)),.m 26 (.t 25),.g 27 (.fAddr 0 (.t 3)) 26 false,.g 28 (.load1 (.t 27)) 26 false,.g 29 (.mov (.t 2)) 26 false,⟨(some 30),.callF f_arch_In [.t 28,.t 29],(some (26,false))⟩,.g 31 (.un .not (.t 30)) 26 false,.q 32 (.pick (.t 26) (.c (.b true)) (.t 31))]) (.cond (.t 32) (.seq (.r [.q 33 (.build [.i .i64 0,.nils,.i .u32 0] []),.u (.store 3 (.t 6) (.t 33)),.m 7 (.c (.b false))]) (.ret)) (.skip))) (.cut (jP f_arch_Name f_policy_May f_arch_In f_lower_makers f_slices_SortFunc_api_Rule_api_Rule f_lower_Lower_1)))⟩
theorem qgZ {g1 g2 g3 g4 g5 g6:Nat} (h5:qar P g5 g6) (p:Pol) (a d:Int) (rs:List GRule) (hr:rs.length ≤ 100000) (hn:(rs.map GRule.nr).Nodup) {t':Tr AV} {h':Hp} (hw:Wk 0 t' h' (mkT [(6,.ptr 0 0),(7,.b false),(8,.ptr 1 0)]) (mkH 0 [.cells 0 true false [.i .i64 0,.nils,.i .u32 0],mkB p a d 2 rs.length,.cells 3 true true (rR rs)])) :
  S P 0 (jR g1 g2 g3 g4 g5 g6) (je [.cell 6 3 true,.tmp 7] fun v' h'=>Frz h' v' (kC (some ⟨a,zV rs,d⟩))) t' h':=by
 refine S.weak hw (qL ?_)
 simp only [jR,mkB,mkC,qj,List.cons_append,List.nil_append,qi,H0,mkT,mkH,trL,vI,simprocAttr]
 simp only [↓vS,vT,shb,shv,qb,qc,cellsOf,wr,qa,simprocAttr]
 refine (h5 rs hr hn).sc (vs:=[.own 0 rs.length,.fn g6 [] []]) [2] (Lent.of (by decide) ?_) ?_
 ·simp [vL,shb,shv,qb,z6,bnd,zJ,rnv,gAt,vw,qD qo,qm qo]
 simp only [vK,xm,rnb,zJ,rnv,gAt,simprocAttr,qm qo]
 simp only [↓vS,vT,shb,shv,qb,qc,cellsOf,wr,qa,simprocAttr]
 have hsl:(zV rs).length = rs.length:=List.length_mergeSort _
 simp only [kC,xH,hsl]
 refine .tup _ _ (.cons _ _ _ _ (.agg _ _ (.cons _ _ _ _ (.i _ _) (.cons _ _ _ _ (.own 2 _ 3 true (rR (zV rs)) _ ?_ (fun h0=>?_) (Frzs.self qo)) (.cons _ _ _ _ (.i _ _) .nil)))) (.cons _ _ _ _ (.b _) .nil))
 ·simp [Tr.get_set]
 ·rw [List.eq_nil_of_length_eq_zero (hsl.trans h0)]; rfl
theorem qgY {g1 g2 g3 g4 g5 g6 m1 m2 m3 m4 m5 m6 m7:Nat} (h4:qg P g4 [] (.agg [.nilf,.fn m1 [] [],.fn m2 [] [],.fn m3 [] [],.fn m4 [] [],.fn m5 [] [],.fn m6 [] [],.fn m7 [] []])) (h5:qar P g5 g6)
  (hm1:zm P m1 qay) (hm2:zm P m2 qaO) (hm3:zm P m3 fmM) (hm4:zm P m4 nsM) (hm5:zm P m5 weM) (hm6:zm P m6 peM) (hm7:zm P m7 rtM)
  (hM:∀ d F,vG d = some F → qh6 F) (p:Pol) (hp:PolOk p) (hR:PolR p) (a d:Int) (ha:0 ≤ a) (ha6:a < 6) (hmay:xA p = true) (hd0:0 ≤ d) (hd8:d < 8) {t':Tr AV} {h':Hp} (hw:Wk 0 t' h' (mkT [(1,.i .i64 d),(6,.ptr 0 0),(7,.b false),(8,.ptr 1 0)]) (mkH 0 [.cells 0 true false [.i .i64 0,.nils,.i .u32 0],mkB p a 2147418112 2 0,.cells 3 true true (rR [])])) :
  S P 0 (jQ g1 g2 g3 g4 g5 g6) (je [.cell 6 3 true,.tmp 7] fun v' h'=>Frz h' v' (kC ((vG d).bind fun F=>if (F p a).1 = true then some ⟨a,zV (F p a).2.1,(F p a).2.2⟩ else none))) t' h':=by
 refine S.weak hw (qL ?_)
 simp only [jQ,mkB,mkC,qj,List.cons_append,List.nil_append,qi,H0,mkT,mkH,trL,vI,simprocAttr]
 simp only [↓vS,vT,shb,shv,qb,qc,cellsOf,wr,qa,simprocAttr]
 refine h4.sc ?_
 obtain ⟨j,rfl⟩:∃ j:Nat,d = j:=⟨d.toNat,by omega⟩
 have hj:j < 8:=by omega
 by_cases h0:j = 0
 ·subst h0
  simp only [↓vS,vT,shb,shv,qb,qc,cellsOf,wr,qa,simprocAttr]
  refine .tup _ _ (.cons _ _ _ _ (.agg _ _ (.cons _ _ _ _ (.i _ _) (.cons _ _ _ _ .nilz (.cons _ _ _ _ (.i _ _) .nil)))) (.cons _ _ _ _ (.b _) .nil))
 ·have hh:∃ g F,([.nilf,.fn m1 [] [],.fn m2 [] [],.fn m3 [] [],.fn m4 [] [],.fn m5 [] [],.fn m6 [] [],.fn m7 [] []]:List AV)[j]? = some (.fn g [] []) ∧ vG j = some F ∧ zm P g F:=by
   have:j = 1 ∨ j = 2 ∨ j = 3 ∨ j = 4 ∨ j = 5 ∨ j = 6 ∨ j = 7:=by omega
   rcases this with rfl | rfl | rfl | rfl | rfl | rfl | rfl
   ·exact ⟨_,_,rfl,rfl,hm1⟩
   ·exact ⟨_,_,rfl,rfl,hm2⟩
   ·exact ⟨_,_,rfl,rfl,hm3⟩
   ·exact ⟨_,_,rfl,rfl,hm4⟩
   ·exact ⟨_,_,rfl,rfl,hm5⟩
   ·exact ⟨_,_,rfl,rfl,hm6⟩
   ·exact ⟨_,_,rfl,rfl,hm7⟩
  obtain ⟨g,F,he,hF,hg⟩:=hh
  obtain ⟨hl,hn⟩:=hM _ _ hF p a hp hmay ha ha6
  obtain ⟨ok,rs,df,hFp⟩:∃ ok rs df,F p a = (ok,rs,df):=⟨_,_,_,rfl⟩
  have hu:=hg p a hp hR
  have e:((vG j).bind fun F=>if (F p a).1 = true then some (⟨a,zV (F p a).2.1,(F p a).2.2⟩:GFil) else none) = if ok = true then some ⟨a,zV rs,df⟩ else none:=by rw [hF]; simp [hFp]
  rw [e]
  rw [hFp] at hl hn hu
  dsimp only at hl hn hu
  generalize ([.nilf,.fn m1 [] [],.fn m2 [] [],.fn m3 [] [],.fn m4 [] [],.fn m5 [] [],.fn m6 [] [],.fn m7 [] []]:List AV) = L at he
  simp only [↓vS,vT,shb,shv,qb,qc,cellsOf,wr,qa,simprocAttr,hj,Nat.mul_one,he]
  refine hu.sc (vs:=[.ptr 0 0]) [1,2] (Lent.of (by decide) ?_) ?_
  ·simp [vL,shb,shv,qb,z6,bnd,zJ,rnv,gAt,vw,mkB,mkC,qj,qD qo,qm qo,qD qf,qm qf,qD qd,qm qd]
  simp only [vK,xm,rnb,zJ,rnv,gAt,simprocAttr,mkB,mkC,qj,List.cons_append,List.nil_append,qm qo,qm qf,qm qd]
  cases ok with
  | false =>
   simp only [↓vS,vT,shb,shv,qb,qc,cellsOf,wr,qa,simprocAttr]
   refine .tup _ _ (.cons _ _ _ _ (.agg _ _ (.cons _ _ _ _ (.i _ _) (.cons _ _ _ _ .nilz (.cons _ _ _ _ (.i _ _) .nil)))) (.cons _ _ _ _ (.b _) .nil))
  | true =>
   simp only [↓vS,vT,shb,shv,qb,qc,cellsOf,wr,qa,simprocAttr]
   refine qgZ h5 p a df rs hl hn (Wk.mk _ _ [0,1,3] ?_ ?_ ?_ rfl)
   ·simp [vw]
   ·simp [vw,mkB,mkC,qj,qk,qo,qf,qd]
   ·simp
theorem qgX {g1 g2 g3 g4 g5 g6 m1 m2 m3 m4 m5 m6 m7:Nat} (h4:qg P g4 [] (.agg [.nilf,.fn m1 [] [],.fn m2 [] [],.fn m3 [] [],.fn m4 [] [],.fn m5 [] [],.fn m6 [] [],.fn m7 [] []])) (h5:qar P g5 g6)
  (hm1:zm P m1 qay) (hm2:zm P m2 qaO) (hm3:zm P m3 fmM) (hm4:zm P m4 nsM) (hm5:zm P m5 weM) (hm6:zm P m6 peM) (hm7:zm P m7 rtM)
  (hM:∀ d F,vG d = some F → qh6 F) (p:Pol) (hp:PolOk p) (hR:PolR p) (a d:Int) (ha:0 ≤ a) (ha6:a < 6) (hmay:xA p = true) (hd0:0 ≤ d) (hd8:d < 8) {t':Tr AV} {h':Hp} (hw:Wk 0 t' h' (mkT [(1,.i .i64 d),(2,.i .i64 a),(3,.ptr 0 0),(6,.ptr 1 0),(7,.b false)]) (mkH 0 [.cells 0 true false (qj p),.cells 0 true false [.i .i64 0,.nils,.i .u32 0]])) :
  S P 0 (jP g1 g2 g3 g4 g5 g6) (je [.cell 6 3 true,.tmp 7] fun v' h'=>Frz h' v' (kC ((vG d).bind fun F=>if (F p a).1 = true then some ⟨a,zV (F p a).2.1,(F p a).2.2⟩ else none))) t' h':=by
 refine S.weak hw (qL ?_)
 simp only [jP,qj,qi,H0,mkT,mkH,trL,vI,simprocAttr]
 simp only [↓vS,vT,shb,shv,qb,qc,cellsOf,wr,qa,simprocAttr]
 refine qgY h4 h5 hm1 hm2 hm3 hm4 hm5 hm6 hm7 hM p hp hR a d ha ha6 hmay hd0 hd8 (Wk.mk _ _ [1,2,99] ?_ ?_ ?_ rfl)
 ·simp [vw]
 ·simp [vw,mkB,mkC,qj,qk,qo,qf,qd,rR]
 ·simp
theorem ql8 {g1 g2 g3 g4 g5 g6 m1 m2 m3 m4 m5 m6 m7:Nat} (hc:qw P f (yB g1 g2 g3 g4 g5 g6) = true) (h1:∀ a,qg P g1 [.i .i64 a] (.s (y5 a))) (h2:∀ p,PolOk p → qg P g2 [.agg (qj p)] (.b (xA p))) (h3:∀ (xs:List Int) (x:Int),xs.length ≤ qh → qg P g3 [.fz xs.length (rI .i64 xs),.i .i64 x] (.b (inA xs x)))
  (h4:qg P g4 [] (.agg [.nilf,.fn m1 [] [],.fn m2 [] [],.fn m3 [] [],.fn m4 [] [],.fn m5 [] [],.fn m6 [] [],.fn m7 [] []])) (h5:qar P g5 g6)
  (hm1:zm P m1 qay) (hm2:zm P m2 qaO) (hm3:zm P m3 fmM) (hm4:zm P m4 nsM) (hm5:zm P m5 weM) (hm6:zm P m6 peM) (hm7:zm P m7 rtM)
  (hM:∀ d F,vG d = some F → qh6 F) (p:Pol) (hp:PolOk p) (hR:PolR p) (d a:Int):qg P f [.agg (qj p),.i .i64 d,.i .i64 a] (kC (jW p d a)):=by
 have hl:=hp.a
 refine qg.mk hc rfl ?_
 have no:wm p d a = false → ∀ {h:Hp},Frz h (.tup [.agg [.i .i64 0,.nils,.i .u32 0],.b false]) (kC (jW p d a)):=by
  intro h0 h
  rw [jW,h0]
  exact .tup _ _ (.cons _ _ _ _ (.agg _ _ (.cons _ _ _ _ (.i _ _) (.cons _ _ _ _ .nilz (.cons _ _ _ _ (.i _ _) .nil)))) (.cons _ _ _ _ (.b _) .nil))
 simp only [yB,qj,qi,H0,mkT,mkH,trL,vI,simprocAttr]
 by_cases k1:d < 0
 ·simp only [↓vS,vT,shb,shv,qb,qc,cellsOf,wr,qa,simprocAttr,k1]
  exact no (by simp only [wm,decide_eq_false (by omega:¬ 0 ≤ d)]; simp)
 by_cases k2:8 ≤ d
 ·simp only [↓vS,vT,shb,shv,qb,qc,cellsOf,wr,qa,simprocAttr,k1,k2]
  exact no (by simp only [wm,decide_eq_false (by omega:¬ d < 8)]; simp)
 simp only [↓vS,vT,shb,shv,qb,qc,cellsOf,wr,qa,simprocAttr,k1,k2]
 refine (h1 a).sc ?_
 have hN:=qcf a
 by_cases k3:y5 a = []
 ·have k3':(decide (0 ≤ a) && decide (a < 6)) = false:=by
   rw [Bool.eq_false_iff]; intro h; exact hN.2 (by simpa using h) k3
  simp only [↓vS,vT,shb,shv,qb,qc,cellsOf,wr,qa,simprocAttr,k3]
  exact no (by simp only [wm,k3']; simp)
 have ⟨a0,a6⟩:=hN.1 k3
 simp only [↓vS,vT,shb,shv,qb,qc,cellsOf,wr,qa,simprocAttr,k3]
 refine (h2 p hp).sc ?_
 cases k4:xA p with
 | false =>
  simp only [↓vS,vT,shb,shv,qb,qc,cellsOf,wr,qa,simprocAttr]
  exact no (by simp [wm,k4])
 | true =>
  simp only [↓vS,vT,shb,shv,qb,qc,cellsOf,wr,qa,simprocAttr]
  refine (h3 p.arches a (by simp only [qh]; omega)).sc ?_
  cases k5:inA p.arches a with
  | false =>
   simp only [↓vS,vT,shb,shv,qb,qc,cellsOf,wr,qa,simprocAttr]
   exact no (by simp [wm,k5])
  | true =>
   have hok:wm p d a = true:=by simp [wm,k4,k5,a0,a6]; omega
   have e:jW p d a = (vG d).bind fun F=>if (F p a).1 = true then some ⟨a,zV (F p a).2.1,(F p a).2.2⟩ else none:=by rw [jW,if_pos hok]
   rw [e]
   simp only [↓vS,vT,shb,shv,qb,qc,cellsOf,wr,qa,simprocAttr]
   refine qgX h4 h5 hm1 hm2 hm3 hm4 hm5 hm6 hm7 hM p hp hR a d a0 a6 k4 (by omega) (by omega) (Wk.mk _ _ [0,1] ?_ ?_ ?_ rfl)
   ·simp [vw]
   ·simp [vw,qj,qk,qf,qd]
   ·simp
end Go.Kc
end
section
/- What lower.Active, lower.All answer. Condition: the functions' texts are these. -/
namespace Go.Kc
variable {P:Program} {f:Nat}
theorem qaq (x:GFil):(xH x).length = 3:=rfl
def rF (l:List GFil):List AV:=l.flatMap xH
section
variable {l m:List GFil} {j:Nat}
theorem qdE:(rF l).length = l.length * 3:=xc qaq l
theorem xq:qK (rF l) = true:=ko fun _=>rfl
theorem qej {c:GFil} (h:l[j]? = some c):((rF l).drop (j * 3)).take 3 = xH c:=xz qaq h
theorem qhH {c:GFil} (h:l[j]? = some c) {i:Nat} (hi:i < 3):(rF l)[j * 3 + i]? = (xH c)[i]?:=ve qaq h hi
theorem qhG:rF l ++ rF m = rF (l ++ m):=by simp [rF]
theorem qc1 (h:j < l.length):j * 3 + 3 ≤ (rF l).length:=by rw [qdE]; omega
end
def qeF (P:Program) (f:Nat):Prop:=∀ p,PolOk p → PolR p → ∀ d a:Int,qg P f [.agg (qj p),.i .i64 d,.i .i64 a] (kC (jW p d a))
def qfx (f_lower_Lower:Nat):IFn:=⟨[.tmp 6],.seq (.r [.q 3 (.box (.t 0)),.m 6 (.c (.b false))]) (.seq (.r [.q 10 (.loadN 13 (.t 3)),.m 11 (.t 1),.m 12 (.t 2),.l 13 f_lower_Lower [.t 10,.t 11,.t 12],.m 9 (.t 13),.q 14 (.ext (.t 9) 0),.q 15 (.ext (.t 9) 1),.q 7 (.alloc [.i .i64 0,.nils,.i .u32 0]),.u (.store 3 (.t 7) (.t 14)),.m 8 (.t 15)]) (.seq (.r [.m 16 (.t 8),.m 6 (.t 16)]) (.ret)))⟩
def Zt:IFn:=⟨[.tmp 0],.seq (.r [.m 0 (.c (.nils))]) (.seq (.r [.m 1 (.c (.nils))]) (.seq (.seq (.r [.m 3 (.k 0)]) (.blk 0 (.loop (.seq (.r [.q 4 (.bin .lss (.t 3) (.k 6))]) (.seq (.cond (.t 4) (.skip) (.exit 0)) (.seq (.blk 1 (.seq (.r [.m 5 (.t 3),.m 2 (.t 5)]) (.r [.m 6 (.t 1),.m 7 (.t 2),.q 8 (.buildS 1 [.i .i64 0] [(0,1,(.t 7))]),.q 9 (.app 1 8 true (.t 6) (.t 8)),.m 1 (.t 9)]))) (.r [.q 10 (.bin .add (.t 3) (.k 1)),.m 3 (.t 10)]))))))) (.seq (.r [.m 11 (.t 1),.m 0 (.t 11)]) (.ret))))⟩
theorem qpq (hc:qw P f Zt = true):qg P f [] (.fz 6 (rI .i64 [0,1,2,3,4,5])):=by
 refine qg.mk hc rfl ?_
 simp only [Zt,qi,H0,mkT,mkH,trL,vI,simprocAttr]
 simp only [↓vS,vT,shb,shv,qb,qc,cellsOf,wr,qa,simprocAttr]
 refine SL.loop (α:=Nat) (fun j=>[(1,.own 0 j),(3,.i .i64 j)]) (fun j=>[.cells 1 true true (rI .i64 ([0,1,2,3,4,5].take j))]) (fun j=>j ≤ 6) (fun j=>6 - j) 0 [9] ?_ ?_ ?_ rfl ?_ ?_
 ·simp [vw]
 ·simp [vw,rI]
 ·simp
 ·exact Nat.zero_le _
 rintro j hj G ih
 simp only [qi,H0,mkT,mkH,trL,vI,simprocAttr]
 by_cases hlt:j < 6
 ·have hlt':(j:Int) < 6:=by omega
  have hw:IntKind.wrap .i64 ((j:Int) + 1) = ((j + 1:Nat):Int):=by rw [qz (by omega) (by omega)]; omega
  have hln:(rI .i64 (([0,1,2,3,4,5]:List Int).take j)).length = j:=by rw [qbW]; simp; omega
  have htk:(rI .i64 (([0,1,2,3,4,5]:List Int).take j)).take j = rI .i64 (([0,1,2,3,4,5]:List Int).take j):=List.take_of_length_le (by omega)
  have hap:rI .i64 (([0,1,2,3,4,5]:List Int).take j) ++ [AV.i .i64 (j:Int)] = rI .i64 (([0,1,2,3,4,5]:List Int).take (j + 1)):=by
   have:j = 0 ∨ j = 1 ∨ j = 2 ∨ j = 3 ∨ j = 4 ∨ j = 5:=by omega
   rcases this with rfl | rfl | rfl | rfl | rfl | rfl <;> rfl
  have hr1:j + 1 ≤ qh:=by simp only [qh]; omega
  have hr2:(j + 1) * 8 ≤ qh:=by simp only [qh]; omega
  generalize hL:(([0,1,2,3,4,5]:List Int).take j) = L at *
  simp (decide:=true) only [↓vS,vT,shb,shv,qb,qc,cellsOf,wr,qa,simprocAttr,hlt',Nat.mul_one,hw,hr1,hr2,hln,htk,hap]
  refine ih (j + 1) hlt (by omega) _ _ (Wk.mk _ _ [2] ?_ ?_ ?_ rfl)
  ·simp [vw]
  ·simp [vw,qk,qd]
  ·simp
 ·have hj':j = 6:=by omega
  subst hj'
  have hlt':¬ (((6:Nat):Int) < 6):=by decide
  simp only [↓vS,vT,shb,shv,qb,qc,cellsOf,wr,qa,simprocAttr,hlt']
  refine .own 0 6 1 true (rI .i64 [0,1,2,3,4,5]) _ ?_ (fun h0=>absurd h0 (by decide)) (Frzs.self qd)
  simp [Tr.get_set]
noncomputable def wJ (p:Pol):List GFil:=(List.range 8).flatMap fun (d:Nat)=>(List.range 6).filterMap fun (a:Nat)=>jW p (d:Int) (a:Int)
noncomputable def wc (p:Pol) (d a:Nat):List GFil:=((List.range d).flatMap fun (d:Nat)=>(List.range 6).filterMap fun (a:Nat)=>jW p (d:Int) (a:Int)) ++ (List.range a).filterMap fun (a:Nat)=>jW p (d:Int) (a:Int)
theorem qfG (p:Pol) (d a:Nat):wc p d (a + 1) = wc p d a ++ (jW p d a).toList:=by
 unfold wc
 rw [List.range_succ (n:=a),List.filterMap_append,List.append_assoc]
 cases h:jW p d a <;> simp [h]
theorem qbA (p:Pol) (d:Nat):wc p (d + 1) 0 = wc p d 6:=by
 unfold wc
 rw [List.range_succ (n:=d),List.flatMap_append]; simp
theorem qao (p:Pol) (d a:Nat):(wc p d a).length ≤ 6 * d + a:=by
 unfold wc
 rw [List.length_append]
 have h1:((List.range a).filterMap fun (a:Nat)=>jW p (d:Int) (a:Int)).length ≤ a:=by
  refine Nat.le_trans (List.length_filterMap_le _ _) ?_; simp
 have h2:∀ n,((List.range n).flatMap fun (d:Nat)=>(List.range 6).filterMap fun (a:Nat)=>jW p (d:Int) (a:Int)).length ≤ 6 * n:=by
  intro n
  induction n with
  | zero=>simp
  | succ n ih =>
   rw [List.range_succ (n:=n),List.flatMap_append,List.length_append]
   have h3:((List.range 6).filterMap fun (a:Nat)=>jW p (n:Int) (a:Int)).length ≤ 6:=Nat.le_trans (List.length_filterMap_le _ _) (by simp)
   simp at ih h3 ⊢
   omega
 have:=h2 d
 omega
def QP (f_arch_All f_lower_Lower:Nat):IFn:=⟨[.tmp 2],.seq (.r [.q 1 (.box (.t 0)),.m 2 (.c (.nils))]) (.seq (.r [.m 3 (.c (.nils))]) (.seq (.seq (.r [.m 9 (.k 0)]) (.blk 0 (.loop (.seq (.r [.q 10 (.bin .lss (.t 9) (.k 8))]) (.seq (.cond (.t 10) (.skip) (.exit 0)) (.seq (.blk 1 (.seq (.r [.m 11 (.t 9),.m 4 (.t 11)]) (.seq (.r [.l 12 f_arch_All [],.q 13 (.len false (.t 12)),.m 14 (.k 0)]) (.blk 2 (.loop (.seq (.r [.q 15 (.bin .lss (.t 14) (.t 13))]) (.seq (.cond (.t 15) (.skip) (.exit 2)) (.seq (.blk 3 (.seq (.r [.q 16 (.iAddrS 1 (.t 12) (.t 14)),.q 17 (.load1 (.t 16)),.m 6 (.t 17)]) (.seq (.r [.q 19 (.loadN 13 (.t 1)),.m 20 (.t 4),.m 21 (.t 6),.l 22 f_lower_Lower [.t 19,.t 20,.t 21],.m 18 (.t 22),.q 23 (.ext (.t 18) 0),.q 24 (.ext (.t 18) 1),.q 7 (.alloc [.i .i64 0,.nils,.i .u32 0]),.u (.store 3 (.t 7) (.t 23)),.m 8 (.t 24)]) (.seq (.r [.m 25 (.t 8)]) (.cond (.t 25) (.r [.m 26 (.t 3),.q 27 (.loadN 3 (.t 7)),.q 28 (.buildS 1 [.i .i64 0,.nils,.i .u32 0] [(0,3,(.t 27))]),.q 29 (.app 3 40 true (.t 26) (.t 28)),.m 3 (.t 29)]) (.skip)))))) (.r [.q 30 (.bin .add (.t 14) (.k 1)),.m 14 (.t 30)]))))))))) (.r [.q 31 (.bin .add (.t 9) (.k 1)),.m 9 (.t 31)]))))))) (.seq (.r [.m 32 (.t 3),.m 2 (.t 32)]) (.ret))))⟩
theorem qom {g1 g2:Nat} (hc:qw P f (QP g1 g2) = true) (h1:qg P g1 [] (.fz 6 (rI .i64 [0,1,2,3,4,5]))) (h2:qeF P g2) (p:Pol) (hp:PolOk p) (hR:PolR p):qg P f [.agg (qj p)] (.fz (wJ p).length (rF (wJ p))):=by
 refine qg.mk hc rfl ?_
 simp only [QP,qj,qi,H0,mkT,mkH,trL,vI,simprocAttr]
 simp only [↓vS,vT,shb,shv,qb,qc,cellsOf,wr,qa,simprocAttr]
 refine SL.loop (α:=Nat) (fun d=>[(1,.ptr 0 0),(3,.own 1 (wc p d 0).length),(9,.i .i64 d)]) (fun d=>[.cells 0 true false (qj p),.cells 3 true true (rF (wc p d 0))]) (fun d=>d ≤ 8) (fun d=>8 - d) 0 [0,9] ?_ ?_ ?_ rfl ?_ ?_
 ·simp [vw,wc]
 ·simp [vw,wc,rF,qj,qk,qf,qd]
 ·simp
 ·exact Nat.zero_le _
 rintro d hd G ih
 simp only [qi,H0,mkT,mkH,trL,vI,simprocAttr,qj]
 by_cases hlt:d < 8
 ·have hlt':(d:Int) < 8:=by omega
  have hwd:IntKind.wrap .i64 ((d:Int) + 1) = ((d + 1:Nat):Int):=by rw [qz (by omega) (by omega)]; omega
  simp only [↓vS,vT,shb,shv,qb,qc,cellsOf,wr,qa,simprocAttr,hlt']
  refine h1.sc ?_
  simp only [↓vS,vT,shb,shv,qb,qc,cellsOf,wr,qa,simprocAttr]
  refine SL.loop (α:=Nat) (fun a=>[(1,.ptr 0 0),(3,.own 1 (wc p d a).length),(4,.i .i64 d),(9,.i .i64 d),(12,.fz 6 (rI .i64 [0,1,2,3,4,5])),(13,.i .i64 6),(14,.i .i64 a)]) (fun a=>[.cells 0 true false (qj p),.cells 3 true true (rF (wc p d a))]) (fun a=>a ≤ 6) (fun a=>6 - a) 0 [0,1] ?_ ?_ ?_ rfl ?_ ?_
  ·simp [vw,qd]
  ·simp [vw,qj,qk,qf,qd,xq]
  ·simp
  ·exact Nat.zero_le _
  rintro a ha G2 ih2
  simp only [qi,H0,mkT,mkH,trL,vI,simprocAttr,qj]
  by_cases hla:a < 6
  ·have hla':(a:Int) < 6:=by omega
   have hwa:IntKind.wrap .i64 ((a:Int) + 1) = ((a + 1:Nat):Int):=by rw [qz (by omega) (by omega)]; omega
   have hx:([0,1,2,3,4,5]:List Int)[a]? = some (a:Int):=by
    have:a = 0 ∨ a = 1 ∨ a = 2 ∨ a = 3 ∨ a = 4 ∨ a = 5:=by omega
    rcases this with rfl | rfl | rfl | rfl | rfl | rfl <;> rfl
   have hT:=qfG p d a
   have hlen:=qao p d a
   generalize hA:wc p d a = A at hT hlen
   simp only [↓vS,vT,shb,shv,qb,qc,cellsOf,wr,qa,simprocAttr,hla,hla',Nat.mul_one,zF,hx,Option.map_some]
   refine (h2 p hp hR d a).sc ?_
   cases hL:jW p d a with
   | none =>
    rw [hL] at hT
    simp only [Option.toList_none,List.append_nil] at hT
    simp only [kC,↓vS,vT,shb,shv,qb,qc,cellsOf,wr,qa,simprocAttr,hwa]
    refine ih2 (a + 1) hla (by omega) _ _ (Wk.mk _ _ [0,1] ?_ ?_ ?_ rfl)
    ·rw [hT]; simp [vw,qd]
    ·rw [hT]; simp [vw,qj,qk,qf,qd,xq]
    ·simp
   | some x =>
    rw [hL] at hT
    simp only [Option.toList_some] at hT
    have hap:rF A ++ [AV.i .i64 x.arch,.fz x.rules.length (rR x.rules),.i .u32 x.dflt] = rF (A ++ [x]):=by rw [← qhG]; rfl
    have hln:(rF A).length = A.length * 3:=qdE
    have htk:(rF A).take (A.length * 3) = rF A:=List.take_of_length_le (by omega)
    have hr1:A.length + 1 ≤ qh:=by simp only [qh]; omega
    have hr2:(A.length + 1) * 40 ≤ qh:=by simp only [qh]; omega
    simp (decide:=true) only [kC,xH,↓vS,vT,shb,shv,qb,qc,cellsOf,wr,qa,simprocAttr,hwa,hr1,hr2,hln,htk,hap]
    refine ih2 (a + 1) hla (by omega) _ _ (Wk.mk _ _ [0,4] ?_ ?_ ?_ rfl)
    ·rw [hT]; simp [vw,qd]
    ·rw [hT]; simp [vw,qj,qk,qf,qd,xq]
    ·simp
  ·have ha':a = 6:=by omega
   subst ha'
   have hla':¬ (((6:Nat):Int) < 6):=by decide
   simp only [↓vS,vT,shb,shv,qb,qc,cellsOf,wr,qa,simprocAttr,hla',hwd]
   refine ih (d + 1) hlt (by omega) _ _ (Wk.mk _ _ [0,1] ?_ ?_ ?_ rfl)
   ·rw [qbA]; simp [vw]
   ·rw [qbA]; simp [vw,qj,qk,qf,qd,xq]
   ·simp
 ·have hd':d = 8:=by omega
  subst hd'
  have hlt':¬ (((8:Nat):Int) < 8):=by decide
  have e:wc p 8 0 = wJ p:=by simp [wc,wJ]
  rw [e]
  simp only [↓vS,vT,shb,shv,qb,qc,cellsOf,wr,qa,simprocAttr,hlt']
  refine .own 1 _ 3 true (rF (wJ p)) _ ?_ (fun h0=>?_) (Frzs.self xq)
  ·simp [Tr.get_set]
  ·rw [List.eq_nil_of_length_eq_zero h0]; rfl
end Go.Kc
end
section
/- The document's flags, which directives are active. Condition: the functions' texts are these. -/
namespace Go.Kc
variable {P:Program} {f:Nat}
theorem qgy {s:Int} (h0:0 ≤ s) (h1:s < 18446744073709551616) (k:Nat) (hk:k < 64):(w8 .u64 s ((2 ^ k:Nat):Int) ≠ 0) ↔ (IntKind.wrap .u64 (s.tdiv ((2 ^ k:Nat):Int))).tmod 2 = 1:=by
 obtain ⟨m,rfl⟩:=Int.eq_ofNat_of_zero_le h0
 have hm:m < 2 ^ 64:=by omega
 have hp:2 ^ k < 2 ^ 64:=Nat.pow_lt_pow_right (by decide) hk
 have hp0:0 < 2 ^ k:=Nat.two_pow_pos k
 have e1:w8 .u64 (m:Int) ((2 ^ k:Nat):Int) = ((m &&& 2 ^ k:Nat):Int):=by
  have a1:(BitVec.ofInt 64 (m:Int)).toNat = m:=by rw [BitVec.toNat_ofInt]; omega
  have a2:(BitVec.ofInt 64 ((2 ^ k:Nat):Int)).toNat = 2 ^ k:=by rw [BitVec.toNat_ofInt]; omega
  show IntKind.wrap .u64 ((BitVec.ofInt 64 (m:Int) &&& BitVec.ofInt 64 ((2 ^ k:Nat):Int)).toNat:Int) = _
  rw [BitVec.toNat_and,a1,a2]
  exact wY (by omega) (by have:=@Nat.and_le_left m (2 ^ k); omega)
 have hd:m / 2 ^ k ≤ m:=Nat.div_le_self _ _
 have e2:IntKind.wrap .u64 ((m:Int).tdiv ((2 ^ k:Nat):Int)) = ((m / 2 ^ k:Nat):Int):=by
  rw [Int.tdiv_eq_ediv_of_nonneg (by omega),show (m:Int) / ((2 ^ k:Nat):Int) = ((m / 2 ^ k:Nat):Int) from rfl]
  generalize m / 2 ^ k = q at hd
  exact wY (by omega) (by omega)
 have e3:(m &&& 2 ^ k ≠ 0) ↔ m.testBit k = true:=by
  constructor
  ·intro h
   cases hb:m.testBit k with
   | true=>rfl
   | false =>
    exfalso; apply h
    apply Nat.eq_of_testBit_eq; intro i
    rw [Nat.testBit_and,Nat.testBit_two_pow,Nat.zero_testBit]
    by_cases hi:k = i
    ·subst hi; simp [hb]
    ·simp [hi]
  ·intro h h0
   have:(m &&& 2 ^ k).testBit k = true:=by rw [Nat.testBit_and,Nat.testBit_two_pow]; simp [h]
   rw [h0] at this; simp at this
 have e4:((m &&& 2 ^ k:Nat):Int) ≠ 0 ↔ m &&& 2 ^ k ≠ 0:=by omega
 rw [e1,e2,e4,e3,Nat.testBit_eq_decide_div_mod_eq]
 generalize m / 2 ^ k = q
 rw [Int.tmod_eq_emod_of_nonneg (by omega),decide_eq_true_eq]
 omega
theorem qgA {s:Int} (h0:0 ≤ s) (h1:s < 18446744073709551616):∀ x ∈ qp,(w8 .u64 s x.2 ≠ 0 ↔ (IntKind.wrap .u64 (s.tdiv x.2)).tmod 2 = 1) ∧ x.2 ≠ 0:=by
 intro x hx
 have ex:∃ k:Nat,k < 64 ∧ x.2 = ((2 ^ k:Nat):Int):=by
  simp only [qp,List.mem_cons,List.not_mem_nil,or_false] at hx
  rcases hx with rfl | rfl | rfl | rfl | rfl | rfl | rfl | rfl
  ·exact ⟨7,by decide,by decide⟩
  ·exact ⟨17,by decide,by decide⟩
  ·exact ⟨25,by decide,by decide⟩
  ·exact ⟨26,by decide,by decide⟩
  ·exact ⟨27,by decide,by decide⟩
  ·exact ⟨28,by decide,by decide⟩
  ·exact ⟨29,by decide,by decide⟩
  ·exact ⟨30,by decide,by decide⟩
 obtain ⟨k,hk,e⟩:=ex
 rw [e]
 exact ⟨qgy h0 h1 k hk,by have:=Nat.two_pow_pos k; omega⟩
def jG (f_vestibuleref10_Spaces:Nat):IFn:=⟨[.tmp 2],.seq (.r [.m 2 (.c (.nils))]) (.seq (.r [.l 6 f_vestibuleref10_Spaces [],.m 3 (.t 6)]) (.seq (.r [.m 4 (.c (.nils))]) (.seq (.seq (.r [.m 5 (.k 0)]) (.blk 0 (.loop (.seq (.seq (.r [.m 7 (.t 5),.m 8 (.t 3),.q 9 (.len false (.t 8)),.q 10 (.bin .lss (.t 7) (.t 9))]) (.cond (.t 10) (.skip) (.exit 0))) (.seq (.blk 1 (.seq (.r [.m 13 (.t 0),.m 14 (.t 3),.m 15 (.t 5),.q 16 (.iAddrS 2 (.t 14) (.t 15)),.q 17 (.fAddr 1 (.t 16)),.q 18 (.load1 (.t 17)),.q 19 (.bin .quo (.t 13) (.t 18)),.q 20 (.bin .rem (.t 19) (.c (.i .u64 2))),.q 21 (.bin .eql (.t 20) (.c (.i .u64 1)))]) (.cond (.t 21) (.r [.m 22 (.t 4),.m 23 (.t 3),.m 24 (.t 5),.q 25 (.iAddrS 2 (.t 23) (.t 24)),.q 26 (.fAddr 1 (.t 25)),.q 27 (.load1 (.t 26)),.q 28 (.buildS 1 [.i .u64 0] [(0,1,(.t 27))]),.q 29 (.app 1 8 true (.t 22) (.t 28)),.m 4 (.t 29)]) (.skip)))) (.r [.m 11 (.t 5),.q 12 (.bin .add (.t 11) (.k 1)),.m 5 (.t 12)])))))) (.seq (.r [.m 30 (.t 4),.m 2 (.t 30)]) (.ret)))))⟩
theorem qpt {g:Nat} (hc:qw P f (jG g) = true) (hg:qg P g [] (.fz 8 (qp.flatMap (zp .u64)))) (s:Int) (h0:0 ≤ s) (h1:s < 18446744073709551616):qg P f [.i .u64 s] (.fz (zi s).length (rI .u64 (zi s))):=by
 refine qg.mk hc rfl ?_
 simp only [jG,qi,H0,mkT,mkH,trL,vI,simprocAttr]
 simp only [↓vS,vT,shb,shv,qb,qc,cellsOf,wr,qa,simprocAttr]
 refine hg.sc ?_
 simp only [↓vS,vT,shb,shv,qb,qc,cellsOf,wr,qa,simprocAttr]
 have hlen:(qp.flatMap (zp .u64)).length = 16:=by decide
 have hTc:qK (qp.flatMap (zp .u64)) = true:=rfl
 refine SL.loop (α:=Nat) (fun j=>[(0,.i .u64 s),(4,.own 0 ((((qp.take j).map (·.2)).filter fun n=>decide (w8 .u64 s n ≠ 0)).length)),(3,.fz 8 (qp.flatMap (zp .u64))),(5,.i .i64 j)])
  (fun j=>[.cells 1 true true (rI .u64 (((qp.take j).map (·.2)).filter fun n=>decide (w8 .u64 s n ≠ 0)))])
  (fun j=>j ≤ 8) (fun j=>8 - j) 0 [9] ?_ ?_ ?_ rfl ?_ ?_
 ·simp [vw,hTc]
 ·simp [vw,rI]
 ·simp
 ·exact Nat.zero_le _
 rintro j hj G ih
 simp only [qi,H0,mkT,mkH,trL,vI,simprocAttr]
 by_cases hlt:j < 8
 ·have hlt':(j:Int) < 8:=by omega
  have hjl:j < qp.length:=hlt
  have hx:qp[j]? = some qp[j]:=List.getElem?_eq_getElem hjl
  have hw:IntKind.wrap .i64 ((j:Int) + 1) = ((j + 1:Nat):Int):=by rw [qz (by omega) (by omega)]; omega
  have g1:(qp.flatMap (zp .u64))[j * 2 + 1]? = some (.i .u64 qp[j].2):=by simpa [zp] using ve (f:=zp .u64) (m:=2) kz hx (i:=1) (by decide)
  obtain ⟨hfb,hne⟩:=qgA h0 h1 qp[j] (List.getElem_mem hjl)
  generalize hA:((qp.take j).map (·.2)).filter (fun n=>decide (w8 .u64 s n ≠ 0)) = A
  have hA1:((qp.take (j + 1)).map (·.2)).filter (fun n=>decide (w8 .u64 s n ≠ 0)) = A ++ (if w8 .u64 s qp[j].2 = 0 then [] else [qp[j].2]):=by
   rw [List.take_add_one,hx,List.map_append,List.filter_append,hA]
   by_cases h:w8 .u64 s qp[j].2 = 0 <;> simp [h]
  have hAl:A.length ≤ j:=by
   rw [← hA]; refine Nat.le_trans (List.length_filter_le _ _) ?_; simp; omega
  generalize hc0:qp[j] = c at hx g1 hA1 hfb hne
  generalize hT:qp.flatMap (zp .u64) = T at g1 hlen hTc
  have hr1:A.length + 1 ≤ qh:=by simp only [qh]; omega
  have hr2:(A.length + 1) * 8 ≤ qh:=by simp only [qh]; omega
  have h2:(2:Int) ≠ 0:=by decide
  by_cases hz:w8 .u64 s c.2 = 0
  ·rw [if_pos hz,List.append_nil] at hA1
   have hq:¬ (IntKind.wrap .u64 (s.tdiv c.2)).tmod 2 = 1:=fun h=>hfb.2 h hz
   simp only [↓vS,vT,shb,shv,qb,qc,cellsOf,wr,qa,simprocAttr,hlt',hlt,g1,↓jL hne,↓wT h2,hq,hw]
   refine ih (j + 1) hlt (by omega) _ _ (Wk.mk _ _ [0] ?_ ?_ ?_ rfl)
   ·rw [hA1,hT]; simp [vw,hTc]
   ·rw [hA1]; simp [vw,qk,qd]
   ·simp
  ·rw [if_neg hz] at hA1
   have hq:(IntKind.wrap .u64 (s.tdiv c.2)).tmod 2 = 1:=hfb.1 hz
   have hap:rI .u64 A ++ [AV.i .u64 c.2] = rI .u64 (A ++ [c.2]):=by rw [← qdF]; rfl
   simp (decide:=true) only [↓vS,vT,shb,shv,qb,qc,cellsOf,wr,qa,simprocAttr,hlt',hlt,g1,↓jL hne,↓wT h2,hq,hw,hr1,hr2,qbW,Nat.mul_one,hap]
   refine ih (j + 1) hlt (by omega) _ _ (Wk.mk _ _ [2] ?_ ?_ ?_ rfl)
   ·rw [hA1,hT]; simp [vw,hTc]
   ·rw [hA1]; simp [vw,qk,qd]
   ·simp
 ·have hj':j = 8:=by omega
  subst hj'
  have hlt':¬ (((8:Nat):Int) < 8):=by decide
  simp only [↓vS,vT,shb,shv,qb,qc,cellsOf,wr,qa,simprocAttr,hlt']
  refine .own 0 _ 1 true (rI .u64 (zi s)) _ ?_ (fun h0=>?_) (Frzs.self qd)
  ·simp [Tr.get_set,zi,qp]
  ·have h0:(zi s).length = 0:=h0
   rw [List.eq_nil_of_length_eq_zero h0]; rfl
end Go.Kc
end
section
/- Which directives are active, by the document; its rule of a call. Condition: the functions' texts are these. -/
namespace Go.Kc
variable {P:Program} {f:Nat}
def vt (p:Pol) (d:Int):Bool :=
 if d = 1 then qW p.filter.mode p.filter.calls.length true false else if d = 2 then qW p.log.mode p.log.calls.length false true else if d = 3 then qW p.fmode p.fams.length true false
 else if d = 4 then decide (p.spaces ≠ 0) else if d = 5 then p.we else if d = 6 then p.pe else if d = 7 then p.rt else false
def js:IFn:=⟨[.tmp 4],.seq (.r [.q 2 (.box (.t 0)),.m 4 (.c (.b false))]) (.seq (.seq (.r [.m 5 (.t 1)]) (.blk 0 (.seq (.r [.q 7 (.bin .eql (.t 5) (.k 1)),.m 6 (.t 7)]) (.cond (.t 6) (.seq (.r [.q 8 (.fAddr 1 (.t 2)),.q 9 (.fAddr 0 (.t 8)),.q 10 (.load1 (.t 9)),.q 11 (.bin .eql (.t 10) (.c (.i .u8 1))),.m 12 (.t 11),.g 13 (.fAddr 1 (.t 2)) 12 false,.g 14 (.fAddr 0 (.t 13)) 12 false,.g 15 (.load1 (.t 14)) 12 false,.g 16 (.bin .eql (.t 15) (.c (.i .u8 2))) 12 false,.g 17 (.mov (.t 16)) 12 false,.g 18 (.fAddr 1 (.t 2)) 17 true,.g 19 (.fAddr 1 (.t 18)) 17 true,.g 20 (.load1 (.t 19)) 17 true,.g 21 (.len false (.t 20)) 17 true,.g 22 (.bin .gtr (.t 21) (.k 0)) 17 true,.g 23 (.pick (.t 17) (.t 22) (.c (.b false))) 12 false,.q 24 (.pick (.t 12) (.c (.b true)) (.t 23)),.m 4 (.t 24)]) (.ret)) (.seq (.r [.q 26 (.bin .eql (.t 5) (.k 2)),.m 25 (.t 26)]) (.cond (.t 25) (.seq (.r [.q 27 (.fAddr 4 (.t 2)),.q 28 (.fAddr 0 (.t 27)),.q 29 (.load1 (.t 28)),.q 30 (.bin .eql (.t 29) (.c (.i .u8 2))),.m 31 (.t 30),.g 32 (.fAddr 4 (.t 2)) 31 false,.g 33 (.fAddr 0 (.t 32)) 31 false,.g 34 (.load1 (.t 33)) 31 false,.g 35 (.bin .eql (.t 34) (.c (.i .u8 1))) 31 false,.g 36 (.mov (.t 35)) 31 false,.g 37 (.fAddr 4 (.t 2)) 36 true,.g 38 (.fAddr 1 (.t 37)) 36 true,.g 39 (.load1 (.t 38)) 36 true,.g 40 (.len false (.t 39)) 36 true,.g 41 (.bin .gtr (.t 40) (.k 0)) 36 true,.g 42 (.pick (.t 36) (.t 41) (.c (.b false))) 31 false,.q 43 (.pick (.t 31) (.c (.b true)) (.t 42)),.m 4 (.t 43)]) (.ret)) (.seq (.r [.q 45 (.bin .eql (.t 5) (.k 3)),.m 44 (.t 45)]) (.cond (.t 44) (.seq (.r [.q 46 (.fAddr 7 (.t 2)),.q 47 (.load1 (.t 46)),.q 48 (.bin .eql (.t 47) (.c (.i .u8 1))),.m 49 (.t 48),.g 50 (.fAddr 7 (.t 2)) 49 false,.g 51 (.load1 (.t 50)) 49 false,.g 52 (.bin .eql (.t 51) (.c (.i .u8 2))) 49 false,.g 53 (.mov (.t 52)) 49 false,.g 54 (.fAddr 6 (.t 2)) 53 true,.g 55 (.load1 (.t 54)) 53 true,.g 56 (.len false (.t 55)) 53 true,.g 57 (.bin .gtr (.t 56) (.k 0)) 53 true,.g 58 (.pick (.t 53) (.t 57) (.c (.b false))) 49 false,.q 59 (.pick (.t 49) (.c (.b true)) (.t 58)),.m 4 (.t 59)]) (.ret)) (.seq (.r [.q 61 (.bin .eql (.t 5) (.k 4)),.m 60 (.t 61)]) (.cond (.t 60) (.seq (.r [.q 62 (.fAddr 8 (.t 2)),.q 63 (.load1 (.t 62)),.q 64 (.bin .neq (.t 63) (.c (.i .u64 0))),.m 4 (.t 64)]) (.ret)) (.seq (.r [.q 66 (.bin .eql (.t 5) (.k 5)),.m 65 (.t 66)]) (.cond (.t 65) (.seq (.r [.q 67 (.fAddr 9 (.t 2)),.q 68 (.load1 (.t 67)),.m 4 (.t 68)]) (.ret)) (.seq (.r [.q 70 (.bin .eql (.t 5) (.k 6)),.m 69 (.t 70)]) (.cond (.t 69) (.seq (.r [.q 71 (.fAddr 10 (.t 2)),.q 72 (.load1 (.t 71)),.m 4 (.t 72)]) (.ret)) (.seq (.r [.q 74 (.bin .eql (.t 5) (.k 7)),.m 73 (.t 74)]) (.cond (.t 73) (.seq (.r [.q 75 (.fAddr 11 (.t 2)),.q 76 (.load1 (.t 75)),.m 4 (.t 76)]) (.ret)) (.skip))))))))))))))))) (.seq (.r [.m 4 (.c (.b false))]) (.ret)))⟩
set_option maxRecDepth 4000 in
theorem qol (hc:qw P f js = true) (p:Pol) (d:Int):qg P f [.agg (qj p),.i .i64 d] (.b (vt p d)):=by
 refine qg.mk hc rfl ?_
 simp only [js,qj,qi,H0,mkT,mkH,trL,vI,simprocAttr]
 by_cases d1:d = 1
 ·subst d1
  by_cases m1:p.filter.mode = 1
  ·simp only [↓vS,vT,shb,shv,qb,qc,cellsOf,wr,qa,simprocAttr,m1]
   simp [vZ,vt,qW,m1]
  by_cases m2:p.filter.mode = 2
  ·simp only [↓vS,vT,shb,shv,qb,qc,cellsOf,wr,qa,simprocAttr,m1,m2]
   simp [vZ,vt,qW,m2]
  ·simp only [↓vS,vT,shb,shv,qb,qc,cellsOf,wr,qa,simprocAttr,m1,m2]
   simp [vZ,vt,qW,m1,m2]
 by_cases d2:d = 2
 ·subst d2
  by_cases m2:p.log.mode = 2
  ·simp only [↓vS,vT,shb,shv,qb,qc,cellsOf,wr,qa,simprocAttr,m2]
   simp [vZ,vt,qW,m2]
  by_cases m1:p.log.mode = 1
  ·simp only [↓vS,vT,shb,shv,qb,qc,cellsOf,wr,qa,simprocAttr,m1,m2]
   simp [vZ,vt,qW,m1]
  ·simp only [↓vS,vT,shb,shv,qb,qc,cellsOf,wr,qa,simprocAttr,m1,m2]
   simp [vZ,vt,qW,m1,m2]
 by_cases d3:d = 3
 ·subst d3
  by_cases m1:p.fmode = 1
  ·simp only [↓vS,vT,shb,shv,qb,qc,cellsOf,wr,qa,simprocAttr,m1]
   simp [vZ,vt,qW,m1]
  by_cases m2:p.fmode = 2
  ·simp only [↓vS,vT,shb,shv,qb,qc,cellsOf,wr,qa,simprocAttr,m1,m2]
   simp [vZ,vt,qW,m2]
  ·simp only [↓vS,vT,shb,shv,qb,qc,cellsOf,wr,qa,simprocAttr,m1,m2]
   simp [vZ,vt,qW,m1,m2]
 by_cases d4:d = 4
 ·subst d4
  simp only [↓vS,vT,shb,shv,qb,qc,cellsOf,wr,qa,simprocAttr]
  simp [vZ,vt]
 by_cases d5:d = 5
 ·subst d5
  simp only [↓vS,vT,shb,shv,qb,qc,cellsOf,wr,qa,simprocAttr]
  simp [vZ,vt]
 by_cases d6:d = 6
 ·subst d6
  simp only [↓vS,vT,shb,shv,qb,qc,cellsOf,wr,qa,simprocAttr]
  simp [vZ,vt]
 by_cases d7:d = 7
 ·subst d7
  simp only [↓vS,vT,shb,shv,qb,qc,cellsOf,wr,qa,simprocAttr]
  simp [vZ,vt]
 simp only [↓vS,vT,shb,shv,qb,qc,cellsOf,wr,qa,simprocAttr,d1,d2,d3,d4,d5,d6,d7]
 simp [vZ,vt,d1,d2,d3,d4,d5,d6,d7]
end Go.Kc
end
section
/- The document's rule of a call. Condition: the functions' texts are these. -/
namespace Go.Kc
variable {P:Program} {f:Nat}
def qcw (l:List GCall) (s:List UInt8):Int:=match xy l s with | some c=>c.act | none=>0
theorem Q4.act (h:Q4 P f) (l:GList) (s:List UInt8) (hl:l.calls.length ≤ 100000):qg P f [.agg (zj l),.s s] (.tup [.i .u32 (qcw l.calls s),.b (xy l.calls s).isSome]):=h l s hl
def qdh (p:Pol) (s:List UInt8):Int:=if qcw p.filter.calls s = 0 then (if p.filter.mode = 1 then 2147418112 else p.deny) else qcw p.filter.calls s
def xl (s:List UInt8):Int:=if s = jn then 6 else if s = zg ∨ s = qE then 4 else if s = xr then 32768 else 0
def wV (p:Pol) (d:Int) (s:List UInt8):Bool × List GTest × Int :=
 if d = 1 then ((xy p.filter.calls s).isSome,[],qdh p s)
 else if d = 2 then ((xy p.log.calls s).isSome,[],if p.log.mode = 1 then 2147221504 else 2147418112)
 else if d = 3 then (decide (s = zA),qv 0 4294967295 (if p.fmode = 2 then 327777 else 2147418112) p.fams,if p.fmode = 2 then 2147418112 else 327777)
 else if d = 4 then (if s = zl then (true,[],327718) else (decide (s = zo) || decide (s = zb) || decide (s = zD),qA (if s = zo then 1 else 0) 327681 (zi p.spaces) ++ (if s = zo then [⟨1,4294967295,0,327681⟩] else []),2147418112))
 else if d = 5 then (decide (0 < xl s),[⟨2,xl s,xl s,327681⟩],2147418112)
 else if d = 6 then (decide (s = qV),qv 0 4294967295 2147418112 [0,4294967295],327681)
 else (decide (s = j6),qv 1 4294967295 2147418112 [0,3,5],327681)
def ww (x:Bool × List GTest × Int):AV:=.tup [.agg [.i .u32 0,.fz x.2.1.length (rT x.2.1),.i .u32 x.2.2],.b x.1]
def ql (f_vestibuleref16_Find f_vestibuleref10_Flags:Nat):IFn:=⟨[.cell 6 3 true,.tmp 7],.seq (.r [.q 3 (.box (.t 0)),.q 6 (.alloc [.i .u32 0,.nils,.i .u32 0]),.m 7 (.c (.b false))]) (.seq (.r [.q 20 (.build [.i .u32 0,.nils,.i .u32 0] [(2,1,(.c (.i .u32 2147418112)))]),.q 8 (.alloc [.i .u32 0,.nils,.i .u32 0]),.u (.store 3 (.t 8) (.t 20))]) (.seq (.seq (.r [.m 21 (.t 1)]) (.blk 0 (.seq (.r [.q 23 (.bin .eql (.t 21) (.k 1)),.m 22 (.t 23)]) (.cond (.t 22) (.seq (.r [.q 25 (.fAddr 1 (.t 3)),.q 26 (.loadN 2 (.t 25)),.m 27 (.t 2),.l 28 f_vestibuleref16_Find [.t 26,.t 27],.m 24 (.t 28),.q 29 (.ext (.t 24) 0),.q 30 (.ext (.t 24) 1),.m 9 (.t 29),.m 10 (.t 30)]) (.seq (.seq (.r [.m 31 (.t 9),.q 32 (.bin .eql (.t 31) (.c (.i .u32 0))),.m 33 (.t 32),.g 34 (.fAddr 1 (.t 3)) 33 true,.g 35 (.fAddr 0 (.t 34)) 33 true,.g 36 (.load1 (.t 35)) 33 true,.g 37 (.bin .eql (.t 36) (.c (.i .u8 1))) 33 true,.q 38 (.pick (.t 33) (.t 37) (.c (.b false)))]) (.cond (.t 38) (.r [.m 9 (.c (.i .u32 2147418112))]) (.skip))) (.seq (.seq (.r [.m 39 (.t 9),.q 40 (.bin .eql (.t 39) (.c (.i .u32 0)))]) (.cond (.t 40) (.r [.q 41 (.fAddr 3 (.t 3)),.q 42 (.load1 (.t 41)),.m 9 (.t 42)]) (.skip))) (.seq (.r [.m 43 (.t 9),.q 44 (.fAddr 2 (.t 8)),.u (.store 1 (.t 44) (.t 43))]) (.seq (.r [.q 45 (.loadN 3 (.t 8)),.m 46 (.t 10),.u (.store 3 (.t 6) (.t 45)),.m 7 (.t 46)]) (.ret)))))) (.seq (.r [.q 48 (.bin .eql (.t 21) (.k 2)),.m 47 (.t 48)]) (.cond (.t 47) (.seq (.r [.q 50 (.fAddr 4 (.t 3)),.q 51 (.loadN 2 (.t 50)),.m 52 (.t 2),.l 53 f_vestibuleref16_Find [.t 51,.t 52],.m 49 (.t 53),.q 54 (.ext (.t 49) 0),.q 55 (.ext (.t 49) 1),.m 11 (.t 54),.m 12 (.t 55)]) (.seq (.seq (.r [.q 56 (.fAddr 4 (.t 3)),.q 57 (.fAddr 0 (.t 56)),.q 58 (.load1 (.t 57)),.q 59 (.bin .eql (.t 58) (.c (.i .u8 1)))]) (.cond (.t 59) (.r [.q 60 (.fAddr 2 (.t 8)),.u (.store 1 (.t 60) (.c (.i .u32 2147221504)))]) (.skip))) (.seq (.r [.q 61 (.loadN 3 (.t 8)),.m 62 (.t 12),.u (.store 3 (.t 6) (.t 61)),.m 7 (.t 62)]) (.ret)))) (.seq (.r [.q 64 (.bin .eql (.t 21) (.k 3)),.m 63 (.t 64)]) (.cond (.t 63) (.seq (.r [.m 13 (.c (.i .u32 2147418112)),.m 14 (.c (.i .u32 327777))]) (.seq (.seq (.r [.q 65 (.fAddr 7 (.t 3)),.q 66 (.load1 (.t 65)),.q 67 (.bin .eql (.t 66) (.c (.i .u8 2)))]) (.cond (.t 67) (.r [.m 68 (.t 14),.m 69 (.t 13),.m 13 (.t 68),.m 14 (.t 69)]) (.skip))) (.seq (.seq (.r [.m 15 (.k 0)]) (.blk 1 (.loop (.seq (.seq (.r [.m 70 (.t 15),.q 71 (.fAddr 6 (.t 3)),.q 72 (.load1 (.t 71)),.q 73 (.len false (.t 72)),.q 74 (.bin .lss (.t 70) (.t 73))]) (.cond (.t 74) (.skip) (.exit 1))) (.seq (.blk 2 (.reg true [.q 77 (.fAddr 1 (.t 8)),.q 78 (.load1 (.t 77)),.q 79 (.fAddr 6 (.t 3)),.q 80 (.load1 (.t 79)),.m 81 (.t 15),.q 82 (.iAddrS 1 (.t 80) (.t 81)),.q 83 (.load1 (.t 82)),.q 84 (.cvInt .u64 (.t 83)),.m 85 (.t 13),.q 86 (.build [.i .i64 0,.i .u64 0,.i .u64 0,.i .u32 0] [(1,1,(.c (.i .u64 4294967295))),(2,1,(.t 84)),(3,1,(.t 85))]),.q 87 (.buildS 1 [.i .i64 0,.i .u64 0,.i .u64 0,.i .u32 0] [(0,4,(.t 86))]),.q 88 (.app 4 32 true (.t 78) (.t 87)),.q 89 (.fAddr 1 (.t 8)),.u (.store 1 (.t 89) (.t 88))])) (.r [.m 75 (.t 15),.q 76 (.bin .add (.t 75) (.k 1)),.m 15 (.t 76)])))))) (.seq (.r [.m 90 (.t 14),.q 91 (.fAddr 2 (.t 8)),.u (.store 1 (.t 91) (.t 90))]) (.seq (.r [.q 92 (.loadN 3 (.t 8)),.m 93 (.t 2),.q 94 (.bin .eql (.t 93) (.c (.s [115,111,99,107,101,116]))),.u (.store 3 (.t 6) (.t 92)),.m 7 (.t 94)]) (.ret)))))) (.seq (.r [.q 96 (.bin .eql (.t 21) (.k 4)),.m 95 (.t 96)]) (.cond (.t 95) (.seq (.r [.m 16 (.k 0)]) (.seq (.seq (.r [.m 97 (.t 2),.q 98 (.bin .eql (.t 97) (.c (.s [115,101,116,110,115])))]) (.cond (.t 98) (.r [.m 16 (.k 1)]) (.skip))) (.seq (.r [.q 99 (.fAddr 8 (.t 3)),.q 100 (.load1 (.t 99)),.l 101 f_vestibuleref10_Flags [.t 100],.m 17 (.t 101)]) (.seq (.seq (.r [.m 18 (.k 0)]) (.blk 3 (.loop (.seq (.seq (.r [.m 102 (.t 18),.m 103 (.t 17),.q 104 (.len false (.t 103)),.q 105 (.bin .lss (.t 102) (.t 104))]) (.cond (.t 105) (.skip) (.exit 3))) (.seq (.blk 4 (.reg true [.q 108 (.fAddr 1 (.t 8)),.q 109 (.load1 (.t 108)),.m 110 (.t 16),.m 111 (.t 17),.m 112 (.t 18),.q 113 (.iAddrS 1 (.t 111) (.t 112)),.q 114 (.load1 (.t 113)),.m 115 (.t 17),.m 116 (.t 18),.q 117 (.iAddrS 1 (.t 115) (.t 116)),.q 118 (.load1 (.t 117)),.q 119 (.build [.i .i64 0,.i .u64 0,.i .u64 0,.i .u32 0] [(0,1,(.t 110)),(1,1,(.t 114)),(2,1,(.t 118)),(3,1,(.c (.i .u32 327681)))]),.q 120 (.buildS 1 [.i .i64 0,.i .u64 0,.i .u64 0,.i .u32 0] [(0,4,(.t 119))]),.q 121 (.app 4 32 true (.t 109) (.t 120)),.q 122 (.fAddr 1 (.t 8)),.u (.store 1 (.t 122) (.t 121))])) (.r [.m 106 (.t 18),.q 107 (.bin .add (.t 106) (.k 1)),.m 18 (.t 107)])))))) (.seq (.seq (.r [.m 123 (.t 2),.q 124 (.bin .eql (.t 123) (.c (.s [115,101,116,110,115])))]) (.cond (.t 124) (.r [.q 125 (.fAddr 1 (.t 8)),.q 126 (.load1 (.t 125)),.q 127 (.build [.i .i64 0,.i .u64 0,.i .u64 0,.i .u32 0] [(0,1,(.k 1)),(1,1,(.c (.i .u64 4294967295))),(3,1,(.c (.i .u32 327681)))]),.q 128 (.buildS 1 [.i .i64 0,.i .u64 0,.i .u64 0,.i .u32 0] [(0,4,(.t 127))]),.q 129 (.app 4 32 true (.t 126) (.t 128)),.q 130 (.fAddr 1 (.t 8)),.u (.store 1 (.t 130) (.t 129))]) (.skip))) (.seq (.seq (.r [.m 131 (.t 2),.q 132 (.bin .eql (.t 131) (.c (.s [99,108,111,110,101,51])))]) (.cond (.t 132) (.seq (.r [.q 133 (.build [.i .u32 0,.nils,.i .u32 0] [(2,1,(.c (.i .u32 327718)))]),.u (.store 3 (.t 6) (.t 133)),.m 7 (.c (.b true))]) (.ret)) (.skip))) (.seq (.r [.q 134 (.loadN 3 (.t 8)),.m 135 (.t 2),.q 136 (.bin .eql (.t 135) (.c (.s [115,101,116,110,115]))),.m 137 (.t 136),.g 138 (.mov (.t 2)) 137 false,.g 139 (.bin .eql (.t 138) (.c (.s [117,110,115,104,97,114,101]))) 137 false,.q 140 (.pick (.t 137) (.c (.b true)) (.t 139)),.m 141 (.t 140),.g 142 (.mov (.t 2)) 141 false,.g 143 (.bin .eql (.t 142) (.c (.s [99,108,111,110,101]))) 141 false,.q 144 (.pick (.t 141) (.c (.b true)) (.t 143)),.u (.store 3 (.t 6) (.t 134)),.m 7 (.t 144)]) (.ret)))))))) (.seq (.r [.q 146 (.bin .eql (.t 21) (.k 5)),.m 145 (.t 146)]) (.cond (.t 145) (.seq (.r [.m 19 (.c (.i .u64 0))]) (.seq (.seq (.r [.m 147 (.t 2)]) (.blk 5 (.seq (.r [.q 149 (.bin .eql (.t 147) (.c (.s [109,109,97,112]))),.m 148 (.t 149)]) (.cond (.t 148) (.r [.m 19 (.c (.i .u64 6))]) (.seq (.seq (.r [.q 151 (.bin .eql (.t 147) (.c (.s [109,112,114,111,116,101,99,116]))),.m 150 (.t 151)]) (.cond (.t 150) (.skip) (.r [.q 152 (.bin .eql (.t 147) (.c (.s [112,107,101,121,95,109,112,114,111,116,101,99,116]))),.m 150 (.t 152)]))) (.cond (.t 150) (.r [.m 19 (.c (.i .u64 4))]) (.seq (.r [.q 154 (.bin .eql (.t 147) (.c (.s [115,104,109,97,116]))),.m 153 (.t 154)]) (.cond (.t 153) (.r [.m 19 (.c (.i .u64 32768))]) (.skip))))))))) (.seq (.r [.m 155 (.t 19),.m 156 (.t 19),.q 157 (.build [.i .i64 0,.i .u64 0,.i .u64 0,.i .u32 0] [(0,1,(.k 2)),(1,1,(.t 155)),(2,1,(.t 156)),(3,1,(.c (.i .u32 327681)))]),.q 158 (.buildS 1 [.i .i64 0,.i .u64 0,.i .u64 0,.i .u32 0] [(0,4,(.t 157))]),.q 159 (.fAddr 1 (.t 8)),.u (.store 1 (.t 159) (.t 158))]) (.seq (.r [.q 160 (.loadN 3 (.t 8)),.m 161 (.t 19),.q 162 (.bin .gtr (.t 161) (.c (.i .u64 0))),.u (.store 3 (.t 6) (.t 160)),.m 7 (.t 162)]) (.ret))))) (.seq (.r [.q 164 (.bin .eql (.t 21) (.k 6)),.m 163 (.t 164)]) (.cond (.t 163) (.seq (.r [.q 165 (.build [.i .i64 0,.i .u64 0,.i .u64 0,.i .u32 0] [(1,1,(.c (.i .u64 4294967295))),(3,1,(.c (.i .u32 2147418112)))]),.q 166 (.build [.i .i64 0,.i .u64 0,.i .u64 0,.i .u32 0] [(1,1,(.c (.i .u64 4294967295))),(2,1,(.c (.i .u64 4294967295))),(3,1,(.c (.i .u32 2147418112)))]),.q 167 (.buildS 2 [.i .i64 0,.i .u64 0,.i .u64 0,.i .u32 0] [(0,4,(.t 165)),(4,4,(.t 166))]),.q 168 (.fAddr 1 (.t 8)),.u (.store 1 (.t 168) (.t 167))]) (.seq (.r [.q 169 (.fAddr 2 (.t 8)),.u (.store 1 (.t 169) (.c (.i .u32 327681)))]) (.seq (.r [.q 170 (.loadN 3 (.t 8)),.m 171 (.t 2),.q 172 (.bin .eql (.t 171) (.c (.s [112,101,114,115,111,110,97,108,105,116,121]))),.u (.store 3 (.t 6) (.t 170)),.m 7 (.t 172)]) (.ret)))) (.skip))))))))))))))) (.seq (.r [.q 173 (.build [.i .i64 0,.i .u64 0,.i .u64 0,.i .u32 0] [(0,1,(.k 1)),(1,1,(.c (.i .u64 4294967295))),(3,1,(.c (.i .u32 2147418112)))]),.q 174 (.build [.i .i64 0,.i .u64 0,.i .u64 0,.i .u32 0] [(0,1,(.k 1)),(1,1,(.c (.i .u64 4294967295))),(2,1,(.c (.i .u64 3))),(3,1,(.c (.i .u32 2147418112)))]),.q 175 (.build [.i .i64 0,.i .u64 0,.i .u64 0,.i .u32 0] [(0,1,(.k 1)),(1,1,(.c (.i .u64 4294967295))),(2,1,(.c (.i .u64 5))),(3,1,(.c (.i .u32 2147418112)))]),.q 176 (.buildS 3 [.i .i64 0,.i .u64 0,.i .u64 0,.i .u32 0] [(0,4,(.t 173)),(4,4,(.t 174)),(8,4,(.t 175))]),.q 177 (.fAddr 1 (.t 8)),.u (.store 1 (.t 177) (.t 176))]) (.seq (.r [.q 178 (.fAddr 2 (.t 8)),.u (.store 1 (.t 178) (.c (.i .u32 327681)))]) (.seq (.r [.q 179 (.loadN 3 (.t 8)),.m 180 (.t 2),.q 181 (.bin .eql (.t 180) (.c (.s [115,99,104,101,100,95,115,101,116,115,99,104,101,100,117,108,101,114]))),.u (.store 3 (.t 6) (.t 179)),.m 7 (.t 181)]) (.ret))))))⟩
section
variable {g1 g2:Nat}
theorem qj7 (hc:qw P f (ql g1 g2) = true) (h1:Q4 P g1) (p:Pol) (hp:PolOk p) (s:List UInt8):qg P f [.agg (qj p),.i .i64 1,.s s] (ww ((xy p.filter.calls s).isSome,[],qdh p s)):=by
 have hl:=hp.c
 refine qg.mk hc rfl ?_
 simp only [ql,qj,qi,H0,mkT,mkH,trL,vI,simprocAttr]
 simp only [↓vS,vT,shb,shv,qb,qc,cellsOf,wr,qa,simprocAttr]
 refine (h1.act p.filter s (by omega)).sc ?_
 have ea:qdh p s = if qcw p.filter.calls s = 0 then (if p.filter.mode = 1 then 2147418112 else p.deny) else qcw p.filter.calls s:=rfl
 generalize (xy p.filter.calls s).isSome = ok
 generalize qcw p.filter.calls s = x at ea
 by_cases x0:x = 0
 ·rw [if_pos x0] at ea
  by_cases m1:p.filter.mode = 1
  ·rw [if_pos m1] at ea
   simp (decide:=true) only [↓vS,vT,shb,shv,qb,qc,cellsOf,wr,qa,simprocAttr,x0,m1]
   rw [ea]
   simp [vZ,ww,rT]
  ·rw [if_neg m1] at ea
   simp (decide:=true) only [↓vS,vT,shb,shv,qb,qc,cellsOf,wr,qa,simprocAttr,x0,m1]
   rw [ea]
   simp [vZ,ww,rT]
 ·rw [if_neg x0] at ea
  simp (decide:=true) only [↓vS,vT,shb,shv,qb,qc,cellsOf,wr,qa,simprocAttr,x0]
  rw [ea]
  simp [vZ,ww,rT]
theorem qj8 (hc:qw P f (ql g1 g2) = true) (h1:Q4 P g1) (p:Pol) (hp:PolOk p) (s:List UInt8):qg P f [.agg (qj p),.i .i64 2,.s s] (ww ((xy p.log.calls s).isSome,[],if p.log.mode = 1 then 2147221504 else 2147418112)):=by
 have hl:=hp.l
 refine qg.mk hc rfl ?_
 simp only [ql,qj,qi,H0,mkT,mkH,trL,vI,simprocAttr]
 simp (decide:=true) only [↓vS,vT,shb,shv,qb,qc,cellsOf,wr,qa,simprocAttr]
 refine (h1.act p.log s (by omega)).sc ?_
 generalize (xy p.log.calls s).isSome = ok
 by_cases m1:p.log.mode = 1
 ·simp (decide:=true) only [↓vS,vT,shb,shv,qb,qc,cellsOf,wr,qa,simprocAttr,m1]
  simp [vZ,ww,rT]
 ·simp (decide:=true) only [↓vS,vT,shb,shv,qb,qc,cellsOf,wr,qa,simprocAttr,m1]
  simp [vZ,ww,rT]
set_option maxRecDepth 4000 in
theorem qkb (hc:qw P f (ql g1 g2) = true) (p:Pol) (s:List UInt8):qg P f [.agg (qj p),.i .i64 5,.s s] (ww (decide (0 < xl s),[⟨2,xl s,xl s,327681⟩],2147418112)):=by
 have go:∀ b,xl s = b → qg P f [.agg (qj p),.i .i64 5,.s s] (ww (decide (0 < b),[⟨2,b,b,327681⟩],2147418112)) → qg P f [.agg (qj p),.i .i64 5,.s s] (ww (decide (0 < xl s),[⟨2,xl s,xl s,327681⟩],2147418112)):=by
  rintro b rfl h; exact h
 have fin:∀ {h:Hp} {b x:Int},h.tr.get 3 = some (.cells 0 true false [.i .i64 2,.i .u64 b,.i .u64 b,.i .u32 327681]) → ∀ ok,Frz h (.tup [.agg [.i .u32 0,.sl 3 0 1 1 false,.i .u32 x],.b ok]) (ww (ok,[⟨2,b,b,327681⟩],x)):=by
  intro h b x hg ok
  refine .tup _ _ (.cons _ _ _ _ (.agg _ _ (.cons _ _ _ _ (.i _ _) (.cons _ _ _ _ (.sl 3 0 1 1 false 0 false _ 4 _ hg (Nat.le_refl _) (Nat.le_refl 4) (fun h=>absurd h (by decide)) (Frzs.self rfl)) (.cons _ _ _ _ (.i _ _) .nil)))) (.cons _ _ _ _ (.b _) .nil))
 by_cases k1:s = jn
 ·refine go 6 (by simp [xl,k1]) (qg.mk hc rfl ?_)
  have k1':(s = [109,109,97,112]) = True:=eq_true k1
  simp only [ql,qj,qi,H0,mkT,mkH,trL,vI,simprocAttr]
  simp (decide:=true) only [↓vS,vT,shb,shv,qb,qc,cellsOf,wr,qa,simprocAttr,k1']
  exact fin (by simp [Tr.get_set]) _
 have k1':(s = [109,109,97,112]) = False:=eq_false k1
 by_cases k2:s = zg
 ·refine go 4 (by simp [xl,k1,k2]; decide) (qg.mk hc rfl ?_)
  have k2':(s = [109,112,114,111,116,101,99,116]) = True:=eq_true k2
  simp only [ql,qj,qi,H0,mkT,mkH,trL,vI,simprocAttr]
  simp (decide:=true) only [↓vS,vT,shb,shv,qb,qc,cellsOf,wr,qa,simprocAttr,k1',k2']
  exact fin (by simp [Tr.get_set]) _
 have k2':(s = [109,112,114,111,116,101,99,116]) = False:=eq_false k2
 by_cases k3:s = qE
 ·refine go 4 (by simp [xl,k1,k3]; decide) (qg.mk hc rfl ?_)
  have k3':(s = [112,107,101,121,95,109,112,114,111,116,101,99,116]) = True:=eq_true k3
  simp only [ql,qj,qi,H0,mkT,mkH,trL,vI,simprocAttr]
  simp (decide:=true) only [↓vS,vT,shb,shv,qb,qc,cellsOf,wr,qa,simprocAttr,k1',k2',k3']
  exact fin (by simp [Tr.get_set]) _
 have k3':(s = [112,107,101,121,95,109,112,114,111,116,101,99,116]) = False:=eq_false k3
 by_cases k4:s = xr
 ·refine go 32768 (by simp [xl,k4]; decide) (qg.mk hc rfl ?_)
  have k4':(s = [115,104,109,97,116]) = True:=eq_true k4
  simp only [ql,qj,qi,H0,mkT,mkH,trL,vI,simprocAttr]
  simp (decide:=true) only [↓vS,vT,shb,shv,qb,qc,cellsOf,wr,qa,simprocAttr,k1',k2',k3',k4']
  exact fin (by simp [Tr.get_set]) _
 ·refine go 0 (by simp [xl,k1,k2,k3,k4]) (qg.mk hc rfl ?_)
  have k4':(s = [115,104,109,97,116]) = False:=eq_false k4
  simp only [ql,qj,qi,H0,mkT,mkH,trL,vI,simprocAttr]
  simp (decide:=true) only [↓vS,vT,shb,shv,qb,qc,cellsOf,wr,qa,simprocAttr,k1',k2',k3',k4']
  exact fin (by simp [Tr.get_set]) _
theorem qkc (hc:qw P f (ql g1 g2) = true) (p:Pol) (s:List UInt8):qg P f [.agg (qj p),.i .i64 6,.s s] (ww (decide (s = qV),qv 0 4294967295 2147418112 [0,4294967295],327681)):=by
 have fin:∀ {h:Hp} {x:Int},h.tr.get 3 = some (.cells 0 true false (rT (qv 0 4294967295 2147418112 [0,4294967295]))) → ∀ ok,Frz h (.tup [.agg [.i .u32 0,.sl 3 0 2 2 false,.i .u32 x],.b ok]) (ww (ok,qv 0 4294967295 2147418112 [0,4294967295],x)):=by
  intro h x hg ok
  exact .tup _ _ (.cons _ _ _ _ (.agg _ _ (.cons _ _ _ _ (.i _ _) (.cons _ _ _ _ (.sl 3 0 2 2 false 0 false _ 8 _ hg (Nat.le_refl _) (Nat.le_refl 8) (fun h=>absurd h (by decide)) (Frzs.self rfl)) (.cons _ _ _ _ (.i _ _) .nil)))) (.cons _ _ _ _ (.b _) .nil))
 refine qg.mk hc rfl ?_
 simp only [ql,qj,qi,H0,mkT,mkH,trL,vI,simprocAttr]
 simp (decide:=true) only [↓vS,vT,shb,shv,qb,qc,cellsOf,wr,qa,simprocAttr]
 exact fin (by simp [Tr.get_set,rT,qv,jp]) _
theorem qkd (hc:qw P f (ql g1 g2) = true) (p:Pol) (d:Int) (d1:d ≠ 1) (d2:d ≠ 2) (d3:d ≠ 3) (d4:d ≠ 4) (d5:d ≠ 5) (d6:d ≠ 6) (s:List UInt8):qg P f [.agg (qj p),.i .i64 d,.s s] (ww (decide (s = j6),qv 1 4294967295 2147418112 [0,3,5],327681)):=by
 have fin:∀ {h:Hp} {x:Int},h.tr.get 3 = some (.cells 0 true false (rT (qv 1 4294967295 2147418112 [0,3,5]))) → ∀ ok,Frz h (.tup [.agg [.i .u32 0,.sl 3 0 3 3 false,.i .u32 x],.b ok]) (ww (ok,qv 1 4294967295 2147418112 [0,3,5],x)):=by
  intro h x hg ok
  exact .tup _ _ (.cons _ _ _ _ (.agg _ _ (.cons _ _ _ _ (.i _ _) (.cons _ _ _ _ (.sl 3 0 3 3 false 0 false _ 12 _ hg (Nat.le_refl _) (Nat.le_refl 12) (fun h=>absurd h (by decide)) (Frzs.self rfl)) (.cons _ _ _ _ (.i _ _) .nil)))) (.cons _ _ _ _ (.b _) .nil))
 refine qg.mk hc rfl ?_
 simp only [ql,qj,qi,H0,mkT,mkH,trL,vI,simprocAttr]
 simp (decide:=true) only [↓vS,vT,shb,shv,qb,qc,cellsOf,wr,qa,simprocAttr,d1,d2,d3,d4,d5,d6]
 exact fin (by simp [Tr.get_set,rT,qv,jp]) _
set_option maxRecDepth 4000 in
theorem qj9 (hc:qw P f (ql g1 g2) = true) (p:Pol) (hp:PolOk p) (hR:PolR p) (s:List UInt8):qg P f [.agg (qj p),.i .i64 3,.s s] (ww (decide (s = zA),qv 0 4294967295 (if p.fmode = 2 then 327777 else 2147418112) p.fams,if p.fmode = 2 then 2147418112 else 327777)):=by
 have hl:=hp.f
 by_cases m:p.fmode = 2
 ·rw [if_pos m,if_pos m]
  refine qg.mk hc rfl ?_
  simp only [ql,qj,qi,H0,mkT,mkH,trL,vI,simprocAttr]
  simp (decide:=true) only [↓vS,vT,shb,shv,qb,qc,cellsOf,wr,qa,simprocAttr,m]
  refine SL.loop (α:=Nat) (fun j=>[(2,.s s),(3,.ptr 0 0),(6,.ptr 1 0),(8,.ptr 2 0),(13,.i .u32 327777),(14,.i .u32 2147418112),(15,.i .i64 j)])
   (fun j=>[.cells 0 true false (qj p),.cells 0 true false [.i .u32 0,.nils,.i .u32 0],.cells 0 true false [.i .u32 0,.own 3 j,.i .u32 2147418112],.cells 4 true true (rT (qv 0 4294967295 327777 (p.fams.take j)))])
   (fun j=>j ≤ p.fams.length) (fun j=>p.fams.length - j) 0 [0,1,2,99] ?_ ?_ ?_ rfl ?_ ?_
  ·simp [vw]
  ·simp [vw,qj,qk,qf,qd,qv,rT,m]
  ·simp
  ·exact Nat.zero_le _
  rintro j hj G ih
  simp only [qi,H0,mkT,mkH,trL,vI,simprocAttr,qj]
  by_cases hlt:j < p.fams.length
  ·have hx:p.fams[j]? = some p.fams[j]:=List.getElem?_eq_getElem hlt
   have hw:IntKind.wrap .i64 ((j:Int) + 1) = ((j + 1:Nat):Int):=by rw [qz (by omega) (by omega)]; omega
   have hb:=hR.fams p.fams[j] (List.getElem_mem hlt)
   have hcv:IntKind.wrap .u64 p.fams[j] = p.fams[j]:=wY (by omega) (by omega)
   have hln:(rT (qv 0 4294967295 327777 (p.fams.take j))).length = j * 4:=by rw [j0]; simp [qv]; omega
   have htk:(rT (qv 0 4294967295 327777 (p.fams.take j))).take (j * 4) = rT (qv 0 4294967295 327777 (p.fams.take j)):=List.take_of_length_le (by omega)
   have hap:rT (qv 0 4294967295 327777 (p.fams.take j)) ++ [AV.i .i64 0,.i .u64 4294967295,.i .u64 p.fams[j],.i .u32 327777] = rT (qv 0 4294967295 327777 (p.fams.take (j + 1))):=by
    rw [List.take_add_one,hx]; simp only [Option.toList_some,qv,List.map_append,List.map_cons,List.map_nil]; rw [← kU]; rfl
   have hr1:j + 1 ≤ qh:=by simp only [qh]; omega
   have hr2:(j + 1) * 32 ≤ qh:=by simp only [qh]; omega
   simp only [↓vS,vT,shb,shv,qb,qc,cellsOf,wr,qa,simprocAttr,hlt]
   refine xt ?_
   simp (decide:=true) only [↓vS,vT,shb,shv,qb,qc,cellsOf,wr,qa,simprocAttr,hlt,Nat.mul_one,zF,hx,Option.map_some,hcv,hw,hr1,hr2,hln,htk,hap]
   refine ih (j + 1) hlt (by omega) _ _ (Wk.mk _ _ [0,1,2,5] ?_ ?_ ?_ rfl)
   ·simp [vw]
   ·simp [vw,qj,qk,qf,qd,qZ]
   ·simp
  ·have hj':j = p.fams.length:=by omega
   subst hj'
   simp only [↓vS,vT,shb,shv,qb,qc,cellsOf,wr,qa,simprocAttr,hlt,List.take_length]
   have hl2:(qv 0 4294967295 327777 p.fams).length = p.fams.length:=by simp [qv]
   simp only [ww,hl2]
   refine .tup _ _ (.cons _ _ _ _ (.agg _ _ (.cons _ _ _ _ (.i _ _) (.cons _ _ _ _ (.own 3 _ 4 true (rT (qv 0 4294967295 327777 p.fams)) _ ?_ (fun h0=>?_) (Frzs.self qZ)) (.cons _ _ _ _ (.i _ _) .nil)))) (.cons _ _ _ _ (.b _) .nil))
   ·simp [Tr.get_set]
   ·rw [List.eq_nil_of_length_eq_zero (hl2.trans h0)]; rfl
 ·rw [if_neg m,if_neg m]
  refine qg.mk hc rfl ?_
  simp only [ql,qj,qi,H0,mkT,mkH,trL,vI,simprocAttr]
  simp (decide:=true) only [↓vS,vT,shb,shv,qb,qc,cellsOf,wr,qa,simprocAttr,m]
  refine SL.loop (α:=Nat) (fun j=>[(2,.s s),(3,.ptr 0 0),(6,.ptr 1 0),(8,.ptr 2 0),(13,.i .u32 2147418112),(14,.i .u32 327777),(15,.i .i64 j)])
   (fun j=>[.cells 0 true false (qj p),.cells 0 true false [.i .u32 0,.nils,.i .u32 0],.cells 0 true false [.i .u32 0,.own 3 j,.i .u32 2147418112],.cells 4 true true (rT (qv 0 4294967295 2147418112 (p.fams.take j)))])
   (fun j=>j ≤ p.fams.length) (fun j=>p.fams.length - j) 0 [0,1,2,99] ?_ ?_ ?_ rfl ?_ ?_
  ·simp [vw]
  ·simp [vw,qj,qk,qf,qd,qv,rT]
  ·simp
  ·exact Nat.zero_le _
  rintro j hj G ih
  simp only [qi,H0,mkT,mkH,trL,vI,simprocAttr,qj]
  by_cases hlt:j < p.fams.length
  ·have hx:p.fams[j]? = some p.fams[j]:=List.getElem?_eq_getElem hlt
   have hw:IntKind.wrap .i64 ((j:Int) + 1) = ((j + 1:Nat):Int):=by rw [qz (by omega) (by omega)]; omega
   have hb:=hR.fams p.fams[j] (List.getElem_mem hlt)
   have hcv:IntKind.wrap .u64 p.fams[j] = p.fams[j]:=wY (by omega) (by omega)
   have hln:(rT (qv 0 4294967295 2147418112 (p.fams.take j))).length = j * 4:=by rw [j0]; simp [qv]; omega
   have htk:(rT (qv 0 4294967295 2147418112 (p.fams.take j))).take (j * 4) = rT (qv 0 4294967295 2147418112 (p.fams.take j)):=List.take_of_length_le (by omega)
   have hap:rT (qv 0 4294967295 2147418112 (p.fams.take j)) ++ [AV.i .i64 0,.i .u64 4294967295,.i .u64 p.fams[j],.i .u32 2147418112] = rT (qv 0 4294967295 2147418112 (p.fams.take (j + 1))):=by
    rw [List.take_add_one,hx]; simp only [Option.toList_some,qv,List.map_append,List.map_cons,List.map_nil]; rw [← kU]; rfl
   have hr1:j + 1 ≤ qh:=by simp only [qh]; omega
   have hr2:(j + 1) * 32 ≤ qh:=by simp only [qh]; omega
   simp only [↓vS,vT,shb,shv,qb,qc,cellsOf,wr,qa,simprocAttr,hlt]
   refine xt ?_
   simp (decide:=true) only [↓vS,vT,shb,shv,qb,qc,cellsOf,wr,qa,simprocAttr,hlt,Nat.mul_one,zF,hx,Option.map_some,hcv,hw,hr1,hr2,hln,htk,hap]
   refine ih (j + 1) hlt (by omega) _ _ (Wk.mk _ _ [0,1,2,5] ?_ ?_ ?_ rfl)
   ·simp [vw]
   ·simp [vw,qj,qk,qf,qd,qZ]
   ·simp
  ·have hj':j = p.fams.length:=by omega
   subst hj'
   simp only [↓vS,vT,shb,shv,qb,qc,cellsOf,wr,qa,simprocAttr,hlt,List.take_length]
   have hl2:(qv 0 4294967295 2147418112 p.fams).length = p.fams.length:=by simp [qv]
   simp only [ww,hl2]
   refine .tup _ _ (.cons _ _ _ _ (.agg _ _ (.cons _ _ _ _ (.i _ _) (.cons _ _ _ _ (.own 3 _ 4 true (rT (qv 0 4294967295 2147418112 p.fams)) _ ?_ (fun h0=>?_) (Frzs.self qZ)) (.cons _ _ _ _ (.i _ _) .nil)))) (.cons _ _ _ _ (.b _) .nil))
   ·simp [Tr.get_set]
   ·rw [List.eq_nil_of_length_eq_zero (hl2.trans h0)]; rfl
end
end Go.Kc
end
section
/- The document's rule of a call: namespaces, and all of it. Condition: the functions' texts are these. -/
namespace Go.Kc
variable {P:Program} {f:Nat}
section
variable {g1 g2:Nat}
def qf3 (P:Program) (f:Nat):Prop:=∀ s,0 ≤ s → s < 18446744073709551616 → qg P f [.i .u64 s] (.fz (zi s).length (rI .u64 (zi s)))
def ns4 (p:Pol) (s:List UInt8):Bool × List GTest × Int:=if s = zl then (true,[],327718) else (decide (s = zo) || decide (s = zb) || decide (s = zD),qA (if s = zo then 1 else 0) 327681 (zi p.spaces) ++ (if s = zo then [⟨1,4294967295,0,327681⟩] else []),2147418112)
set_option maxRecDepth 4000 in
theorem qka (hc:qw P f (ql g1 g2) = true) (h2:qf3 P g2) (p:Pol) (hR:PolR p) (s:List UInt8):qg P f [.agg (qj p),.i .i64 4,.s s] (ww (ns4 p s)):=by
 by_cases k1:s = zo
 ·have n1:(s = [115,101,116,110,115]) = True:=eq_true k1
  have n2:(s = [99,108,111,110,101,51]) = False:=eq_false (by rw [k1]; decide)
  have e:ns4 p s = (true,qA 1 327681 (zi p.spaces) ++ [⟨1,4294967295,0,327681⟩],2147418112):=by
   unfold ns4; rw [if_neg (by rw [k1]; decide),if_pos k1,if_pos k1]; simp [k1]
  rw [e]
  refine qg.mk hc rfl ?_
  simp only [ql,qj,qi,H0,mkT,mkH,trL,vI,simprocAttr]
  simp (decide:=true) only [↓vS,vT,shb,shv,qb,qc,cellsOf,wr,qa,simprocAttr,n1,n2]
  refine (h2 p.spaces hR.spaces.1 hR.spaces.2).sc ?_
  have hfl:(zi p.spaces).length ≤ 8:=Nat.le_trans (List.length_filter_le _ _) (by decide)
  generalize zi p.spaces = F at hfl
  simp (decide:=true) only [↓vS,vT,shb,shv,qb,qc,cellsOf,wr,qa,simprocAttr,n1,n2]
  refine SL.loop (α:=Nat) (fun j=>[(2,.s s),(3,.ptr 0 0),(6,.ptr 1 0),(8,.ptr 2 0),(16,.i .i64 1),(17,.fz F.length (rI .u64 F)),(18,.i .i64 j)])
   (fun j=>[.cells 0 true false (qj p),.cells 0 true false [.i .u32 0,.nils,.i .u32 0],.cells 0 true false [.i .u32 0,.own 3 j,.i .u32 2147418112],.cells 4 true true (rT (qA 1 327681 (F.take j)))])
   (fun j=>j ≤ F.length) (fun j=>F.length - j) 0 [0,1,2,99] ?_ ?_ ?_ rfl ?_ ?_
  ·simp [vw,qd]
  ·simp [vw,qj,qk,qf,qd,qA,rT]
  ·simp
  ·exact Nat.zero_le _
  rintro j hj G ih
  simp only [qi,H0,mkT,mkH,trL,vI,simprocAttr,qj]
  by_cases hlt:j < F.length
  ·have hx:F[j]? = some F[j]:=List.getElem?_eq_getElem hlt
   have hw:IntKind.wrap .i64 ((j:Int) + 1) = ((j + 1:Nat):Int):=by rw [qz (by omega) (by omega)]; omega
   have hln:(rT (qA 1 327681 (F.take j))).length = j * 4:=by rw [j0]; simp [qA]; omega
   have htk:(rT (qA 1 327681 (F.take j))).take (j * 4) = rT (qA 1 327681 (F.take j)):=List.take_of_length_le (by omega)
   have hap:rT (qA 1 327681 (F.take j)) ++ [AV.i .i64 1,.i .u64 F[j],.i .u64 F[j],.i .u32 327681] = rT (qA 1 327681 (F.take (j + 1))):=by
    rw [List.take_add_one,hx]; simp only [Option.toList_some,qA,List.map_append,List.map_cons,List.map_nil]; rw [← kU]; rfl
   have hr1:j + 1 ≤ qh:=by simp only [qh]; omega
   have hr2:(j + 1) * 32 ≤ qh:=by simp only [qh]; omega
   simp only [↓vS,vT,shb,shv,qb,qc,cellsOf,wr,qa,simprocAttr,hlt]
   refine xt ?_
   simp (decide:=true) only [↓vS,vT,shb,shv,qb,qc,cellsOf,wr,qa,simprocAttr,hlt,Nat.mul_one,zF,hx,Option.map_some,hw,hr1,hr2,hln,htk,hap]
   refine ih (j + 1) hlt (by omega) _ _ (Wk.mk _ _ [0,1,2,5] ?_ ?_ ?_ rfl)
   ·simp [vw,qd]
   ·simp [vw,qj,qk,qf,qd,qZ]
   ·simp
  ·have hj':j = F.length:=by omega
   subst hj'
   have hl2:(qA 1 327681 F).length = F.length:=by simp [qA]
   have hln:(rT (qA 1 327681 F)).length = F.length * 4:=by rw [j0,hl2]
   have htk:(rT (qA 1 327681 F)).take (F.length * 4) = rT (qA 1 327681 F):=List.take_of_length_le (by omega)
   have hr1:F.length + 1 ≤ qh:=by simp only [qh]; omega
   have hr2:(F.length + 1) * 32 ≤ qh:=by simp only [qh]; omega
   clear ih
   rw [List.take_length]
   have hap:rT (qA 1 327681 F) ++ [AV.i .i64 1,.i .u64 4294967295,.i .u64 0,.i .u32 327681] = rT (qA 1 327681 F ++ [⟨1,4294967295,0,327681⟩]):=by rw [← kU]; rfl
   simp only [↓vS,vT,shb,shv,qb,qc,cellsOf,wr,qa,simprocAttr,hlt]
   simp (decide:=true) only [↓vS,vT,shb,shv,qb,qc,cellsOf,wr,qa,simprocAttr,n1,n2,hln,htk,hr1,hr2,hap]
   have hl3:(qA 1 327681 F ++ [(⟨1,4294967295,0,327681⟩:GTest)]).length = F.length + 1:=by simp [qA]
   simp only [ww,hl3]
   refine .tup _ _ (.cons _ _ _ _ (.agg _ _ (.cons _ _ _ _ (.i _ _) (.cons _ _ _ _ (.own 5 _ 4 true (rT (qA 1 327681 F ++ [⟨1,4294967295,0,327681⟩])) _ ?_ (fun h0=>?_) (Frzs.self qZ)) (.cons _ _ _ _ (.i _ _) .nil)))) (.cons _ _ _ _ (.b _) .nil))
   ·simp [Tr.get_set]
   ·omega
 by_cases k2:s = zl
 ·have n1:(s = [115,101,116,110,115]) = False:=eq_false k1
  have n2:(s = [99,108,111,110,101,51]) = True:=eq_true k2
  have e:ns4 p s = (true,[],327718):=by unfold ns4; rw [if_pos k2]
  rw [e]
  refine qg.mk hc rfl ?_
  simp only [ql,qj,qi,H0,mkT,mkH,trL,vI,simprocAttr]
  simp (decide:=true) only [↓vS,vT,shb,shv,qb,qc,cellsOf,wr,qa,simprocAttr,n1,n2]
  refine (h2 p.spaces hR.spaces.1 hR.spaces.2).sc ?_
  have hfl:(zi p.spaces).length ≤ 8:=Nat.le_trans (List.length_filter_le _ _) (by decide)
  generalize zi p.spaces = F at hfl
  simp (decide:=true) only [↓vS,vT,shb,shv,qb,qc,cellsOf,wr,qa,simprocAttr,n1,n2]
  refine SL.loop (α:=Nat) (fun j=>[(2,.s s),(3,.ptr 0 0),(6,.ptr 1 0),(8,.ptr 2 0),(16,.i .i64 0),(17,.fz F.length (rI .u64 F)),(18,.i .i64 j)])
   (fun j=>[.cells 0 true false (qj p),.cells 0 true false [.i .u32 0,.nils,.i .u32 0],.cells 0 true false [.i .u32 0,.own 3 j,.i .u32 2147418112],.cells 4 true true (rT (qA 0 327681 (F.take j)))])
   (fun j=>j ≤ F.length) (fun j=>F.length - j) 0 [0,1,2,99] ?_ ?_ ?_ rfl ?_ ?_
  ·simp [vw,qd]
  ·simp [vw,qj,qk,qf,qd,qA,rT]
  ·simp
  ·exact Nat.zero_le _
  rintro j hj G ih
  simp only [qi,H0,mkT,mkH,trL,vI,simprocAttr,qj]
  by_cases hlt:j < F.length
  ·have hx:F[j]? = some F[j]:=List.getElem?_eq_getElem hlt
   have hw:IntKind.wrap .i64 ((j:Int) + 1) = ((j + 1:Nat):Int):=by rw [qz (by omega) (by omega)]; omega
   have hln:(rT (qA 0 327681 (F.take j))).length = j * 4:=by rw [j0]; simp [qA]; omega
   have htk:(rT (qA 0 327681 (F.take j))).take (j * 4) = rT (qA 0 327681 (F.take j)):=List.take_of_length_le (by omega)
   have hap:rT (qA 0 327681 (F.take j)) ++ [AV.i .i64 0,.i .u64 F[j],.i .u64 F[j],.i .u32 327681] = rT (qA 0 327681 (F.take (j + 1))):=by
    rw [List.take_add_one,hx]; simp only [Option.toList_some,qA,List.map_append,List.map_cons,List.map_nil]; rw [← kU]; rfl
   have hr1:j + 1 ≤ qh:=by simp only [qh]; omega
   have hr2:(j + 1) * 32 ≤ qh:=by simp only [qh]; omega
   simp only [↓vS,vT,shb,shv,qb,qc,cellsOf,wr,qa,simprocAttr,hlt]
   refine xt ?_
   simp (decide:=true) only [↓vS,vT,shb,shv,qb,qc,cellsOf,wr,qa,simprocAttr,hlt,Nat.mul_one,zF,hx,Option.map_some,hw,hr1,hr2,hln,htk,hap]
   refine ih (j + 1) hlt (by omega) _ _ (Wk.mk _ _ [0,1,2,5] ?_ ?_ ?_ rfl)
   ·simp [vw,qd]
   ·simp [vw,qj,qk,qf,qd,qZ]
   ·simp
  ·have hj':j = F.length:=by omega
   subst hj'
   have hl2:(qA 0 327681 F).length = F.length:=by simp [qA]
   have hln:(rT (qA 0 327681 F)).length = F.length * 4:=by rw [j0,hl2]
   have htk:(rT (qA 0 327681 F)).take (F.length * 4) = rT (qA 0 327681 F):=List.take_of_length_le (by omega)
   have hr1:F.length + 1 ≤ qh:=by simp only [qh]; omega
   have hr2:(F.length + 1) * 32 ≤ qh:=by simp only [qh]; omega
   clear ih
   rw [List.take_length]
   simp (decide:=true) only [↓vS,vT,shb,shv,qb,qc,cellsOf,wr,qa,simprocAttr,hlt,n1,n2]
   simp [vZ,ww,rT]
 ·have n1:(s = [115,101,116,110,115]) = False:=eq_false k1
  have n2:(s = [99,108,111,110,101,51]) = False:=eq_false k2
  have e:ns4 p s = (decide (s = zb) || decide (s = zD),qA 0 327681 (zi p.spaces),2147418112):=by
   unfold ns4; rw [if_neg k2,if_neg k1,if_neg k1]; simp [k1]
  rw [e]
  refine qg.mk hc rfl ?_
  simp only [ql,qj,qi,H0,mkT,mkH,trL,vI,simprocAttr]
  simp (decide:=true) only [↓vS,vT,shb,shv,qb,qc,cellsOf,wr,qa,simprocAttr,n1,n2]
  refine (h2 p.spaces hR.spaces.1 hR.spaces.2).sc ?_
  have hfl:(zi p.spaces).length ≤ 8:=Nat.le_trans (List.length_filter_le _ _) (by decide)
  generalize zi p.spaces = F at hfl
  simp (decide:=true) only [↓vS,vT,shb,shv,qb,qc,cellsOf,wr,qa,simprocAttr,n1,n2]
  refine SL.loop (α:=Nat) (fun j=>[(2,.s s),(3,.ptr 0 0),(6,.ptr 1 0),(8,.ptr 2 0),(16,.i .i64 0),(17,.fz F.length (rI .u64 F)),(18,.i .i64 j)])
   (fun j=>[.cells 0 true false (qj p),.cells 0 true false [.i .u32 0,.nils,.i .u32 0],.cells 0 true false [.i .u32 0,.own 3 j,.i .u32 2147418112],.cells 4 true true (rT (qA 0 327681 (F.take j)))])
   (fun j=>j ≤ F.length) (fun j=>F.length - j) 0 [0,1,2,99] ?_ ?_ ?_ rfl ?_ ?_
  ·simp [vw,qd]
  ·simp [vw,qj,qk,qf,qd,qA,rT]
  ·simp
  ·exact Nat.zero_le _
  rintro j hj G ih
  simp only [qi,H0,mkT,mkH,trL,vI,simprocAttr,qj]
  by_cases hlt:j < F.length
  ·have hx:F[j]? = some F[j]:=List.getElem?_eq_getElem hlt
   have hw:IntKind.wrap .i64 ((j:Int) + 1) = ((j + 1:Nat):Int):=by rw [qz (by omega) (by omega)]; omega
   have hln:(rT (qA 0 327681 (F.take j))).length = j * 4:=by rw [j0]; simp [qA]; omega
   have htk:(rT (qA 0 327681 (F.take j))).take (j * 4) = rT (qA 0 327681 (F.take j)):=List.take_of_length_le (by omega)
   have hap:rT (qA 0 327681 (F.take j)) ++ [AV.i .i64 0,.i .u64 F[j],.i .u64 F[j],.i .u32 327681] = rT (qA 0 327681 (F.take (j + 1))):=by
    rw [List.take_add_one,hx]; simp only [Option.toList_some,qA,List.map_append,List.map_cons,List.map_nil]; rw [← kU]; rfl
   have hr1:j + 1 ≤ qh:=by simp only [qh]; omega
   have hr2:(j + 1) * 32 ≤ qh:=by simp only [qh]; omega
   simp only [↓vS,vT,shb,shv,qb,qc,cellsOf,wr,qa,simprocAttr,hlt]
   refine xt ?_
   simp (decide:=true) only [↓vS,vT,shb,shv,qb,qc,cellsOf,wr,qa,simprocAttr,hlt,Nat.mul_one,zF,hx,Option.map_some,hw,hr1,hr2,hln,htk,hap]
   refine ih (j + 1) hlt (by omega) _ _ (Wk.mk _ _ [0,1,2,5] ?_ ?_ ?_ rfl)
   ·simp [vw,qd]
   ·simp [vw,qj,qk,qf,qd,qZ]
   ·simp
  ·have hj':j = F.length:=by omega
   subst hj'
   have hl2:(qA 0 327681 F).length = F.length:=by simp [qA]
   have hln:(rT (qA 0 327681 F)).length = F.length * 4:=by rw [j0,hl2]
   have htk:(rT (qA 0 327681 F)).take (F.length * 4) = rT (qA 0 327681 F):=List.take_of_length_le (by omega)
   have hr1:F.length + 1 ≤ qh:=by simp only [qh]; omega
   have hr2:(F.length + 1) * 32 ≤ qh:=by simp only [qh]; omega
   clear ih
   rw [List.take_length]
   by_cases k3:s = zb
   ·have n3:(s = [117,110,115,104,97,114,101]) = True:=eq_true k3
    simp (decide:=true) only [↓vS,vT,shb,shv,qb,qc,cellsOf,wr,qa,simprocAttr,hlt,n1,n2,n3]
    have e2:(decide (s = zb) || decide (s = zD)) = true:=by simp [k3]
    rw [e2]
    simp only [ww,hl2]
    refine .tup _ _ (.cons _ _ _ _ (.agg _ _ (.cons _ _ _ _ (.i _ _) (.cons _ _ _ _ (.own 3 _ 4 true (rT (qA 0 327681 F)) _ ?_ (fun h0=>?_) (Frzs.self qZ)) (.cons _ _ _ _ (.i _ _) .nil)))) (.cons _ _ _ _ (.b _) .nil))
    ·simp [Tr.get_set]
    ·rw [List.eq_nil_of_length_eq_zero (hl2.trans h0)]; rfl
   ·have n3:(s = [117,110,115,104,97,114,101]) = False:=eq_false k3
    simp (decide:=true) only [↓vS,vT,shb,shv,qb,qc,cellsOf,wr,qa,simprocAttr,hlt,n1,n2,n3]
    have e2:(decide (s = zb) || decide (s = zD)) = decide (s = zD):=by simp [k3]
    rw [e2]
    simp only [ww,hl2]
    refine .tup _ _ (.cons _ _ _ _ (.agg _ _ (.cons _ _ _ _ (.i _ _) (.cons _ _ _ _ (.own 3 _ 4 true (rT (qA 0 327681 F)) _ ?_ (fun h0=>?_) (Frzs.self qZ)) (.cons _ _ _ _ (.i _ _) .nil)))) (.cons _ _ _ _ (.b _) .nil))
    ·simp [Tr.get_set]
    ·rw [List.eq_nil_of_length_eq_zero (hl2.trans h0)]; rfl
def qac (P:Program) (f:Nat):Prop:=∀ p,PolOk p → PolR p → ∀ (d:Int) (s:List UInt8),qg P f [.agg (qj p),.i .i64 d,.s s] (ww (wV p d s))
theorem qpY (hc:qw P f (ql g1 g2) = true) (h1:Q4 P g1) (h2:qf3 P g2):qac P f:=by
 intro p hp hR d s
 unfold wV
 by_cases d1:d = 1
 ·subst d1; rw [if_pos rfl]; exact qj7 hc h1 p hp s
 rw [if_neg d1]
 by_cases d2:d = 2
 ·subst d2; rw [if_pos rfl]; exact qj8 hc h1 p hp s
 rw [if_neg d2]
 by_cases d3:d = 3
 ·subst d3; rw [if_pos rfl]; exact qj9 hc p hp hR s
 rw [if_neg d3]
 by_cases d4:d = 4
 ·subst d4; rw [if_pos rfl]; exact qka hc h2 p hR s
 rw [if_neg d4]
 by_cases d5:d = 5
 ·subst d5; rw [if_pos rfl]; exact qkb hc p s
 rw [if_neg d5]
 by_cases d6:d = 6
 ·subst d6; rw [if_pos rfl]; exact qkc hc p s
 rw [if_neg d6]
 exact qkd hc p d d1 d2 d3 d4 d5 d6 s
end
end Go.Kc
end
section
/- What the document's Lower answers. Condition: the functions' texts are these. -/
namespace Go.Kc
variable {P:Program} {f:Nat}
def qbO (c:GCall):List GCall → List GCall
 | []=>[c]
 | x :: l=>if c.act ≤ x.act then c :: x :: l else x :: qbO c l
def v6 (a:Int):List GCall:=(qH.filterMap fun x=>(wF x a).map fun n=>(⟨x.1,n⟩:GCall)).foldr qbO []
def qf1 (P:Program) (f:Nat):Prop:=∀ a:Int,0 ≤ a → a < 6 → qg P f [.i .i64 a] (.fz (v6 a).length (rC (v6 a)))
theorem qcL (c:GCall):∀ l,(qbO c l).length = l.length + 1
 | []=>rfl
 | x :: l=>by unfold qbO; split <;> simp [qcL c l]
theorem qan (a:Int):(v6 a).length ≤ 40:=by
 unfold v6
 have h1:∀ l:List GCall,(l.foldr qbO []).length = l.length:=by
  intro l; induction l with
  | nil=>rfl
  | cons x l ih=>simp [qcL,ih]
 rw [h1]
 exact Nat.le_trans (List.length_filterMap_le _ _) (by decide)
def dfR (p:Pol) (d:Int):Int:=if d = 1 ∧ p.filter.mode = 1 then p.deny else if d = 2 ∧ p.log.mode = 2 then 2147221504 else 2147418112
def ruR (p:Pol) (d:Int) (l:List GCall):List GRule:=l.filterMap fun c=>if (wV p d c.name).1 = true then some ⟨c.act,(wV p d c.name).2.1,(wV p d c.name).2.2⟩ else none
noncomputable def vo (p:Pol) (d a:Int):Option GFil:=if (decide (0 ≤ a) && decide (a < 6) && xA p && inA p.arches a && vt p d) = true then some ⟨a,ruR p d (v6 a),dfR p d⟩ else none
theorem qhP {p:Pol} {d:Int} {l:List GCall} {j:Nat} {c:GCall} (h:l[j]? = some c):ruR p d (l.take (j + 1)) = ruR p d (l.take j) ++ (if (wV p d c.name).1 = true then [⟨c.act,(wV p d c.name).2.1,(wV p d c.name).2.2⟩] else []):=by
 rw [List.take_add_one,h]
 unfold ruR
 rw [List.filterMap_append]
 split <;> rename_i hh <;> simp [hh]
def z1 (f_vestibuleref19_May f_vestibuleref08_In f_vestibuleref22_active f_vestibuleref09_All f_vestibuleref22_rule:Nat):ICode:=.seq (.r [.m 60 (.t 2),.l 61 f_vestibuleref09_All [.t 60],.m 9 (.t 61)]) (.seq (.seq (.r [.m 10 (.k 0)]) (.blk 0 (.loop (.seq (.seq (.r [.m 62 (.t 10),.m 63 (.t 9),.q 64 (.len false (.t 63)),.q 65 (.bin .lss (.t 62) (.t 64))]) (.cond (.t 65) (.skip) (.exit 0))) (.seq (.blk 1 (.seq (.reg true [.q 69 (.loadN 13 (.t 3)),.m 70 (.t 1),.m 71 (.t 9),.m 72 (.t 10),.q 73 (.iAddrS 2 (.t 71) (.t 72)),.q 74 (.fAddr 0 (.t 73)),.q 75 (.load1 (.t 74)),.l 76 f_vestibuleref22_rule [.t 69,.t 70,.t 75],.m 68 (.t 76),.q 77 (.ext (.t 68) 0),.q 78 (.ext (.t 68) 1),.q 11 (.alloc [.i .u32 0,.nils,.i .u32 0]),.u (.store 3 (.t 11) (.t 77)),.m 12 (.t 78)]) (.seq (.r [.m 79 (.t 9),.m 80 (.t 10),.q 81 (.iAddrS 2 (.t 79) (.t 80)),.q 82 (.fAddr 1 (.t 81)),.q 83 (.load1 (.t 82)),.q 84 (.fAddr 0 (.t 11)),.u (.store 1 (.t 84) (.t 83))]) (.seq (.r [.m 85 (.t 12)]) (.cond (.t 85) (.r [.q 86 (.fAddr 1 (.t 8)),.q 87 (.load1 (.t 86)),.q 88 (.loadN 3 (.t 11)),.q 89 (.buildS 1 [.i .u32 0,.nils,.i .u32 0] [(0,3,(.t 88))]),.q 90 (.app 3 40 true (.t 87) (.t 89)),.q 91 (.fAddr 1 (.t 8)),.u (.store 1 (.t 91) (.t 90))]) (.skip)))))) (.r [.m 66 (.t 10),.q 67 (.bin .add (.t 66) (.k 1)),.m 10 (.t 67)])))))) (.seq (.r [.q 92 (.loadN 3 (.t 8)),.u (.store 3 (.t 6) (.t 92)),.m 7 (.c (.b true))]) (.ret)))
def zZ (f_vestibuleref19_May f_vestibuleref08_In f_vestibuleref22_active f_vestibuleref09_All f_vestibuleref22_rule:Nat):ICode:=.seq (.r [.m 38 (.t 2),.q 39 (.build [.i .i64 0,.nils,.i .u32 0] [(0,1,(.t 38)),(2,1,(.c (.i .u32 2147418112)))]),.q 8 (.alloc [.i .i64 0,.nils,.i .u32 0]),.u (.store 3 (.t 8) (.t 39))]) (.seq (.seq (.r [.m 40 (.t 1),.q 41 (.bin .eql (.t 40) (.k 1)),.m 42 (.t 41),.g 43 (.fAddr 1 (.t 3)) 42 true,.g 44 (.fAddr 0 (.t 43)) 42 true,.g 45 (.load1 (.t 44)) 42 true,.g 46 (.bin .eql (.t 45) (.c (.i .u8 1))) 42 true,.q 47 (.pick (.t 42) (.t 46) (.c (.b false)))]) (.cond (.t 47) (.r [.q 48 (.fAddr 3 (.t 3)),.q 49 (.load1 (.t 48)),.q 50 (.fAddr 2 (.t 8)),.u (.store 1 (.t 50) (.t 49))]) (.skip))) (.seq (.seq (.r [.m 51 (.t 1),.q 52 (.bin .eql (.t 51) (.k 2)),.m 53 (.t 52),.g 54 (.fAddr 4 (.t 3)) 53 true,.g 55 (.fAddr 0 (.t 54)) 53 true,.g 56 (.load1 (.t 55)) 53 true,.g 57 (.bin .eql (.t 56) (.c (.i .u8 2))) 53 true,.q 58 (.pick (.t 53) (.t 57) (.c (.b false)))]) (.cond (.t 58) (.r [.q 59 (.fAddr 2 (.t 8)),.u (.store 1 (.t 59) (.c (.i .u32 2147221504)))]) (.skip))) (.cut (z1 f_vestibuleref19_May f_vestibuleref08_In f_vestibuleref22_active f_vestibuleref09_All f_vestibuleref22_rule))))
def jH (f_vestibuleref19_May f_vestibuleref08_In f_vestibuleref22_active f_vestibuleref09_All f_vestibuleref22_rule:Nat):IFn:=⟨[.cell 6 3 true,.tmp 7],.seq (.r [.q 3 (.box (.t 0)),.q 6 (.alloc [.i .i64 0,.nils,.i .u32 0]),.m 7 (.c (.b false))]) (.seq (.seq (.r [.m 13 (.t 2),.q 14 (.bin .lss (.t 13) (.k 0)),.m 15 (.t 14),.g 16 (.mov (.t 2)) 15 false,.g 17 (.bin .gtr (.t 16) (.k 5)) 15 false,.q 18 (.pick (.t 15) (.c (.b true)) (.t 17)),.m 19 (.t 18),.g 20 (.loadN 13 (.t 3)) 19 false,⟨(some 21),.callF f_vestibuleref19_May [.t 20],(some (19,false))⟩,.g 22 (.un .not (.t 21)) 19 false,.q 23 (.pick (.t 19) (.c (.b true)) (.t 22)),.m 24 (.t 23),.g 25 (.fAddr 0 (.t 3)) 24 false,.g 26 (.load1 (.t 25)) 24 false,.g 27 (.mov (.t 2)) 24 false,⟨(some 28),.callF f_vestibuleref08_In [.t 26,.t 27],(some (24,false))⟩,.g 29 (.un .not (.t 28)) 24 false,.q 30 (.pick (.t 24) (.c (.b true)) (.t 29)),.m 31 (.t 30),.g 32 (.loadN 13 (.t 3)) 31 false,.g 33 (.mov (.t 1)) 31 false,⟨(some 34),.callF f_vestibuleref22_active [.t 32,.t 33],(some (31,false))⟩,.g 35 (.un .not (.t 34)) 31 false,.q 36 (.pick (.t 31) (.c (.b true)) (.t 35))]) (.cond (.t 36) (.seq (.r [.q 37 (.build [.i .i64 0,.nils,.i .u32 0] []),.u (.store 3 (.t 6) (.t 37)),.m 7 (.c (.b false))]) (.ret)) (.skip))) (.cut (zZ f_vestibuleref19_May f_vestibuleref08_In f_vestibuleref22_active f_vestibuleref09_All f_vestibuleref22_rule)))⟩
section
variable {g1 g2 g3 g4 g5:Nat}
theorem QX (h4:qf1 P g4) (h5:qac P g5) (p:Pol) (hp:PolOk p) (hR:PolR p) (a d df:Int) (ha:0 ≤ a) (ha6:a < 6) {t':Tr AV} {h':Hp} (hw:Wk 0 t' h' (mkT [(1,.i .i64 d),(2,.i .i64 a),(3,.ptr 0 0),(6,.ptr 1 0),(8,.ptr 2 0)]) (mkH 0 [.cells 0 true false (qj p),.cells 0 true false [.i .i64 0,.nils,.i .u32 0],.cells 0 true false [.i .i64 a,.nils,.i .u32 df]])) :
  S P 0 (z1 g1 g2 g3 g4 g5) (je [.cell 6 3 true,.tmp 7] fun v' h'=>Frz h' v' (kC (some ⟨a,ruR p d (v6 a),df⟩))) t' h':=by
 refine S.weak hw (qL ?_)
 simp only [z1,qj,qi,H0,mkT,mkH,trL,vI,simprocAttr]
 simp only [↓vS,vT,shb,shv,qb,qc,cellsOf,wr,qa,simprocAttr]
 refine (h4 a ha ha6).sc ?_
 have hL:=qan a
 generalize v6 a = L at hL
 simp only [↓vS,vT,shb,shv,qb,qc,cellsOf,wr,qa,simprocAttr]
 refine SL.loop (α:=Nat) (fun j=>[(1,.i .i64 d),(3,.ptr 0 0),(6,.ptr 1 0),(8,.ptr 2 0),(9,.fz L.length (rC L)),(10,.i .i64 j)])
  (fun j=>[.cells 0 true false (qj p),.cells 0 true false [.i .i64 0,.nils,.i .u32 0],.cells 0 true false [.i .i64 a,.own 3 (ruR p d (L.take j)).length,.i .u32 df],.cells 3 true true (rR (ruR p d (L.take j)))])
  (fun j=>j ≤ L.length) (fun j=>L.length - j) 0 [0,1,2,99] ?_ ?_ ?_ rfl ?_ ?_
 ·simp [vw,qf]
 ·simp [vw,qj,qk,qf,qd,ruR,rR]
 ·simp
 ·exact Nat.zero_le _
 rintro j hj G ih
 simp only [qi,H0,mkT,mkH,trL,vI,simprocAttr,qj]
 by_cases hlt:j < L.length
 ·have hx:L[j]? = some L[j]:=List.getElem?_eq_getElem hlt
  have g0:(rC L)[j * 2]? = some (.s L[j].name):=kT hx (i:=0) (by decide)
  have g1:(rC L)[j * 2 + 1]? = some (.i .u32 L[j].act):=kT hx (i:=1) (by decide)
  have hw:IntKind.wrap .i64 ((j:Int) + 1) = ((j + 1:Nat):Int):=by rw [qz (by omega) (by omega)]; omega
  have hA1:=qhP (p:=p) (d:=d) hx
  have hAl:(ruR p d (L.take j)).length ≤ j:=by
   unfold ruR; refine Nat.le_trans (List.length_filterMap_le _ _) ?_; simp; omega
  generalize hA:ruR p d (L.take j) = A at hA1 hAl
  generalize hc0:L[j] = c at g0 g1 hA1
  simp only [↓vS,vT,shb,shv,qb,qc,cellsOf,wr,qa,simprocAttr,hlt]
  refine xt ?_
  simp only [↓vS,vT,shb,shv,qb,qc,cellsOf,wr,qa,simprocAttr,hlt,g0]
  refine (h5 p hp hR d c.name).pc ?_
  generalize wV p d c.name = r at hA1
  obtain ⟨ok,ts,act⟩:=r
  dsimp only at hA1
  cases ok with
  | false =>
   rw [if_neg (by decide),List.append_nil] at hA1
   simp only [ww,↓vS,vT,shb,shv,qb,qc,cellsOf,wr,qa,simprocAttr,hlt,g1,hw]
   refine ih (j + 1) hlt (by omega) _ _ (Wk.mk _ _ [0,1,2,3] ?_ ?_ ?_ rfl)
   ·simp [vw,qf]
   ·rw [hA1]; simp [vw,qj,qk,qf,qd,qo]
   ·simp
  | true =>
   rw [if_pos rfl] at hA1
   have hln:(rR A).length = A.length * 3:=Qy
   have htk:(rR A).take (A.length * 3) = rR A:=List.take_of_length_le (by omega)
   have hap:rR A ++ [AV.i .u32 c.act,.fz ts.length (rT ts),.i .u32 act] = rR (A ++ [⟨c.act,ts,act⟩]):=by rw [← qhI]; rfl
   have hr1:A.length + 1 ≤ qh:=by simp only [qh]; omega
   have hr2:(A.length + 1) * 40 ≤ qh:=by simp only [qh]; omega
   simp (decide:=true) only [ww,↓vS,vT,shb,shv,qb,qc,cellsOf,wr,qa,simprocAttr,hlt,g1,hw,hln,htk,hap,hr1,hr2]
   refine ih (j + 1) hlt (by omega) _ _ (Wk.mk _ _ [0,1,2,6] ?_ ?_ ?_ rfl)
   ·simp [vw,qf]
   ·rw [hA1]; simp [vw,qj,qk,qf,qd,qo]
   ·simp
 ·have hj':j = L.length:=by omega
  subst hj'
  clear ih
  rw [List.take_length]
  simp only [↓vS,vT,shb,shv,qb,qc,cellsOf,wr,qa,simprocAttr,hlt]
  refine .tup _ _ (.cons _ _ _ _ (.agg _ _ (.cons _ _ _ _ (.i _ _) (.cons _ _ _ _ (.own 3 _ 3 true (rR (ruR p d L)) _ ?_ (fun h0=>?_) (Frzs.self qo)) (.cons _ _ _ _ (.i _ _) .nil)))) (.cons _ _ _ _ (.b _) .nil))
  ·simp [Tr.get_set]
  ·rw [List.eq_nil_of_length_eq_zero h0]; rfl
theorem qj5 (h4:qf1 P g4) (h5:qac P g5) (p:Pol) (hp:PolOk p) (hR:PolR p) (a d:Int) (ha:0 ≤ a) (ha6:a < 6) {t':Tr AV} {h':Hp} (hw:Wk 0 t' h' (mkT [(1,.i .i64 d),(2,.i .i64 a),(3,.ptr 0 0),(6,.ptr 1 0)]) (mkH 0 [.cells 0 true false (qj p),.cells 0 true false [.i .i64 0,.nils,.i .u32 0]])) :
  S P 0 (zZ g1 g2 g3 g4 g5) (je [.cell 6 3 true,.tmp 7] fun v' h'=>Frz h' v' (kC (some ⟨a,ruR p d (v6 a),dfR p d⟩))) t' h':=by
 refine S.weak hw (qL ?_)
 simp only [zZ,qj,qi,H0,mkT,mkH,trL,vI,simprocAttr]
 by_cases k1:d = 1
 ·subst k1
  by_cases m1:p.filter.mode = 1
  ·rw [show dfR p 1 = p.deny by simp [dfR,m1]]
   simp (decide:=true) only [↓vS,vT,shb,shv,qb,qc,cellsOf,wr,qa,simprocAttr,m1]
   refine QX h4 h5 p hp hR a 1 _ ha ha6 (Wk.mk _ _ [0,1,2] ?_ ?_ ?_ rfl)
   ·simp [vw]
   ·simp [vw,qj,qk,qf,qd,m1]
   ·simp
  ·rw [show dfR p 1 = 2147418112 by simp [dfR,m1]]
   simp (decide:=true) only [↓vS,vT,shb,shv,qb,qc,cellsOf,wr,qa,simprocAttr,m1]
   refine QX h4 h5 p hp hR a 1 _ ha ha6 (Wk.mk _ _ [0,1,2] ?_ ?_ ?_ rfl)
   ·simp [vw]
   ·simp [vw,qj,qk,qf,qd]
   ·simp
 by_cases k2:d = 2
 ·subst k2
  by_cases m2:p.log.mode = 2
  ·rw [show dfR p 2 = 2147221504 by simp [dfR,m2]]
   simp (decide:=true) only [↓vS,vT,shb,shv,qb,qc,cellsOf,wr,qa,simprocAttr,m2]
   refine QX h4 h5 p hp hR a 2 _ ha ha6 (Wk.mk _ _ [0,1,2] ?_ ?_ ?_ rfl)
   ·simp [vw]
   ·simp [vw,qj,qk,qf,qd,m2]
   ·simp
  ·rw [show dfR p 2 = 2147418112 by simp [dfR,m2]]
   simp (decide:=true) only [↓vS,vT,shb,shv,qb,qc,cellsOf,wr,qa,simprocAttr,m2]
   refine QX h4 h5 p hp hR a 2 _ ha ha6 (Wk.mk _ _ [0,1,2] ?_ ?_ ?_ rfl)
   ·simp [vw]
   ·simp [vw,qj,qk,qf,qd]
   ·simp
 rw [show dfR p d = 2147418112 by simp [dfR,k1,k2]]
 simp (decide:=true) only [↓vS,vT,shb,shv,qb,qc,cellsOf,wr,qa,simprocAttr,k1,k2]
 refine QX h4 h5 p hp hR a d _ ha ha6 (Wk.mk _ _ [0,1,2] ?_ ?_ ?_ rfl)
 ·simp [vw]
 ·simp [vw,qj,qk,qf,qd]
 ·simp
def qf4 (P:Program) (f:Nat):Prop:=∀ p,PolOk p → PolR p → ∀ d a:Int,qg P f [.agg (qj p),.i .i64 d,.i .i64 a] (kC (vo p d a))
theorem qnS (hc:qw P f (jH g1 g2 g3 g4 g5) = true) (h1:∀ p,PolOk p → PolR p → qg P g1 [.agg (qj p)] (.b (xA p))) (h2:∀ (xs:List Int) (x:Int),xs.length ≤ qh → qg P g2 [.fz xs.length (rI .i64 xs),.i .i64 x] (.b (inA xs x)))
  (h3:∀ p d,qg P g3 [.agg (qj p),.i .i64 d] (.b (vt p d))) (h4:qf1 P g4) (h5:qac P g5):qf4 P f:=by
 intro p hp hR d a
 have hl:=hp.a
 refine qg.mk hc rfl ?_
 have no:(decide (0 ≤ a) && decide (a < 6) && xA p && inA p.arches a && vt p d) = false → ∀ {h:Hp},Frz h (.tup [.agg [.i .i64 0,.nils,.i .u32 0],.b false]) (kC (vo p d a)):=by
  intro h0 h
  rw [vo,h0]
  exact .tup _ _ (.cons _ _ _ _ (.agg _ _ (.cons _ _ _ _ (.i _ _) (.cons _ _ _ _ .nilz (.cons _ _ _ _ (.i _ _) .nil)))) (.cons _ _ _ _ (.b _) .nil))
 simp only [jH,qj,qi,H0,mkT,mkH,trL,vI,simprocAttr]
 by_cases k1:a < 0
 ·simp only [↓vS,vT,shb,shv,qb,qc,cellsOf,wr,qa,simprocAttr,k1]
  exact no (by simp only [decide_eq_false (by omega:¬ 0 ≤ a)]; simp)
 by_cases k2:5 < a
 ·simp only [↓vS,vT,shb,shv,qb,qc,cellsOf,wr,qa,simprocAttr,k1,k2]
  exact no (by simp only [decide_eq_false (by omega:¬ a < 6)]; simp)
 simp only [↓vS,vT,shb,shv,qb,qc,cellsOf,wr,qa,simprocAttr,k1,k2]
 refine (h1 p hp hR).sc ?_
 cases k3:xA p with
 | false =>
  simp only [↓vS,vT,shb,shv,qb,qc,cellsOf,wr,qa,simprocAttr]
  exact no (by simp [k3])
 | true =>
  simp only [↓vS,vT,shb,shv,qb,qc,cellsOf,wr,qa,simprocAttr]
  refine (h2 p.arches a (by simp only [qh]; omega)).sc ?_
  cases k4:inA p.arches a with
  | false =>
   simp only [↓vS,vT,shb,shv,qb,qc,cellsOf,wr,qa,simprocAttr]
   exact no (by simp [k4])
  | true =>
   simp only [↓vS,vT,shb,shv,qb,qc,cellsOf,wr,qa,simprocAttr]
   refine (h3 p d).sc ?_
   cases k5:vt p d with
   | false =>
    simp only [↓vS,vT,shb,shv,qb,qc,cellsOf,wr,qa,simprocAttr]
    exact no (by simp [k5])
   | true =>
    have e:vo p d a = some ⟨a,ruR p d (v6 a),dfR p d⟩:=by
     rw [vo,if_pos]; simp [k3,k4,k5]; omega
    rw [e]
    simp only [↓vS,vT,shb,shv,qb,qc,cellsOf,wr,qa,simprocAttr]
    refine qj5 h4 h5 p hp hR a d (by omega) (by omega) (Wk.mk _ _ [0,1] ?_ ?_ ?_ rfl)
    ·simp [vw]
    ·simp [vw,qj,qk,qf,qd]
    ·simp
end
end Go.Kc
end
section
/- When two filters are the same, by the document; all its filters. Condition: the functions' texts are these. -/
namespace Go.Kc
variable {P:Program} {f:Nat}
def x8:IFn:=⟨[.tmp 4],.seq (.r [.q 2 (.box (.t 0)),.q 3 (.box (.t 1)),.m 4 (.c (.b false))]) (.seq (.seq (.r [.q 6 (.fAddr 0 (.t 2)),.q 7 (.load1 (.t 6)),.q 8 (.fAddr 0 (.t 3)),.q 9 (.load1 (.t 8)),.q 10 (.bin .neq (.t 7) (.t 9)),.m 11 (.t 10),.g 12 (.fAddr 2 (.t 2)) 11 false,.g 13 (.load1 (.t 12)) 11 false,.g 14 (.fAddr 2 (.t 3)) 11 false,.g 15 (.load1 (.t 14)) 11 false,.g 16 (.bin .neq (.t 13) (.t 15)) 11 false,.q 17 (.pick (.t 11) (.c (.b true)) (.t 16)),.m 18 (.t 17),.g 19 (.fAddr 1 (.t 2)) 18 false,.g 20 (.load1 (.t 19)) 18 false,.g 21 (.len false (.t 20)) 18 false,.g 22 (.fAddr 1 (.t 3)) 18 false,.g 23 (.load1 (.t 22)) 18 false,.g 24 (.len false (.t 23)) 18 false,.g 25 (.bin .neq (.t 21) (.t 24)) 18 false,.q 26 (.pick (.t 18) (.c (.b true)) (.t 25))]) (.cond (.t 26) (.seq (.r [.m 4 (.c (.b false))]) (.ret)) (.skip))) (.seq (.seq (.r [.m 5 (.k 0)]) (.blk 0 (.loop (.seq (.seq (.r [.m 27 (.t 5),.q 28 (.fAddr 1 (.t 2)),.q 29 (.load1 (.t 28)),.q 30 (.len false (.t 29)),.q 31 (.bin .lss (.t 27) (.t 30))]) (.cond (.t 31) (.skip) (.exit 0))) (.seq (.blk 1 (.seq (.reg true [.q 34 (.fAddr 1 (.t 2)),.q 35 (.load1 (.t 34)),.m 36 (.t 5),.q 37 (.iAddrS 4 (.t 35) (.t 36)),.q 38 (.loadN 4 (.t 37)),.q 39 (.fAddr 1 (.t 3)),.q 40 (.load1 (.t 39)),.m 41 (.t 5),.q 42 (.iAddrS 4 (.t 40) (.t 41)),.q 43 (.loadN 4 (.t 42)),.q 44 (.eqA true [.i,.i,.i,.i] (.t 38) (.t 43))]) (.cond (.t 44) (.seq (.r [.m 4 (.c (.b false))]) (.ret)) (.skip)))) (.r [.m 32 (.t 5),.q 33 (.bin .add (.t 32) (.k 1)),.m 5 (.t 33)])))))) (.seq (.r [.m 4 (.c (.b true))]) (.ret))))⟩
theorem qm1 (hc:qw P f x8 = true) (r:GRule) (hl:r.tests.length ≤ 100000):qg P f [.agg (xn r),.agg (xn r)] (.b true):=by
 refine qg.mk hc rfl ?_
 simp only [x8,xn,qi,H0,mkT,mkH,trL,vI,simprocAttr]
 simp only [↓vS,vT,shb,shv,qb,qc,cellsOf,wr,qa,simprocAttr]
 refine SL.loop (α:=Nat) (fun j=>[(2,.ptr 0 0),(3,.ptr 1 0),(5,.i .i64 j)]) (fun _=>[.cells 0 true false (xn r),.cells 0 true false (xn r)]) (fun j=>j ≤ r.tests.length) (fun j=>r.tests.length - j) 0 [0,1] ?_ ?_ ?_ rfl ?_ ?_
 ·simp [vw]
 ·simp [vw,xn,qZ]
 ·simp
 ·exact Nat.zero_le _
 rintro j hj G ih
 simp only [qi,H0,mkT,mkH,trL,vI,simprocAttr,xn]
 by_cases hlt:j < r.tests.length
 ·have hx:r.tests[j]? = some r.tests[j]:=List.getElem?_eq_getElem hlt
  have he:=qb0 hx
  have hb:=qaX hlt
  have hw:IntKind.wrap .i64 ((j:Int) + 1) = ((j + 1:Nat):Int):=by rw [qz (by omega) (by omega)]; omega
  generalize r.tests[j] = c at he
  simp only [↓vS,vT,shb,shv,qb,qc,cellsOf,wr,qa,simprocAttr,hlt]
  refine xt ?_
  simp only [↓vS,vT,shb,shv,qb,qc,cellsOf,wr,qa,simprocAttr,hlt,he,hb,jp,hw]
  refine ih (j + 1) hlt (by omega) _ _ (Wk.mk _ _ [0,1] ?_ ?_ ?_ rfl)
  ·simp [vw]
  ·simp [vw,xn,qZ]
  ·simp
 ·simp only [↓vS,vT,shb,shv,qb,qc,cellsOf,wr,qa,simprocAttr,hlt]
  simp [vZ]
def jV (f_vestibuleref21_SameRule:Nat):IFn:=⟨[.tmp 4],.seq (.r [.q 2 (.box (.t 0)),.q 3 (.box (.t 1)),.m 4 (.c (.b false))]) (.seq (.seq (.r [.q 6 (.fAddr 0 (.t 2)),.q 7 (.load1 (.t 6)),.q 8 (.fAddr 0 (.t 3)),.q 9 (.load1 (.t 8)),.q 10 (.bin .neq (.t 7) (.t 9)),.m 11 (.t 10),.g 12 (.fAddr 2 (.t 2)) 11 false,.g 13 (.load1 (.t 12)) 11 false,.g 14 (.fAddr 2 (.t 3)) 11 false,.g 15 (.load1 (.t 14)) 11 false,.g 16 (.bin .neq (.t 13) (.t 15)) 11 false,.q 17 (.pick (.t 11) (.c (.b true)) (.t 16)),.m 18 (.t 17),.g 19 (.fAddr 1 (.t 2)) 18 false,.g 20 (.load1 (.t 19)) 18 false,.g 21 (.len false (.t 20)) 18 false,.g 22 (.fAddr 1 (.t 3)) 18 false,.g 23 (.load1 (.t 22)) 18 false,.g 24 (.len false (.t 23)) 18 false,.g 25 (.bin .neq (.t 21) (.t 24)) 18 false,.q 26 (.pick (.t 18) (.c (.b true)) (.t 25))]) (.cond (.t 26) (.seq (.r [.m 4 (.c (.b false))]) (.ret)) (.skip))) (.seq (.seq (.r [.m 5 (.k 0)]) (.blk 0 (.loop (.seq (.seq (.r [.m 27 (.t 5),.q 28 (.fAddr 1 (.t 2)),.q 29 (.load1 (.t 28)),.q 30 (.len false (.t 29)),.q 31 (.bin .lss (.t 27) (.t 30))]) (.cond (.t 31) (.skip) (.exit 0))) (.seq (.blk 1 (.seq (.reg true [.q 34 (.fAddr 1 (.t 2)),.q 35 (.load1 (.t 34)),.m 36 (.t 5),.q 37 (.iAddrS 3 (.t 35) (.t 36)),.q 38 (.loadN 3 (.t 37)),.q 39 (.fAddr 1 (.t 3)),.q 40 (.load1 (.t 39)),.m 41 (.t 5),.q 42 (.iAddrS 3 (.t 40) (.t 41)),.q 43 (.loadN 3 (.t 42)),.l 44 f_vestibuleref21_SameRule [.t 38,.t 43],.q 45 (.un .not (.t 44))]) (.cond (.t 45) (.seq (.r [.m 4 (.c (.b false))]) (.ret)) (.skip)))) (.r [.m 32 (.t 5),.q 33 (.bin .add (.t 32) (.k 1)),.m 5 (.t 33)])))))) (.seq (.r [.m 4 (.c (.b true))]) (.ret))))⟩
theorem qpZ {g:Nat} (hc:qw P f (jV g) = true) (hg:∀ r:GRule,r.tests.length ≤ 100000 → qg P g [.agg (xn r),.agg (xn r)] (.b true)) (x:GFil) (hl:x.rules.length ≤ 100000) (ht:∀ r ∈ x.rules,r.tests.length ≤ 100000):qg P f [.agg (xH x),.agg (xH x)] (.b true):=by
 refine qg.mk hc rfl ?_
 simp only [jV,xH,qi,H0,mkT,mkH,trL,vI,simprocAttr]
 simp only [↓vS,vT,shb,shv,qb,qc,cellsOf,wr,qa,simprocAttr]
 refine SL.loop (α:=Nat) (fun j=>[(2,.ptr 0 0),(3,.ptr 1 0),(5,.i .i64 j)]) (fun _=>[.cells 0 true false (xH x),.cells 0 true false (xH x)]) (fun j=>j ≤ x.rules.length) (fun j=>x.rules.length - j) 0 [0,1] ?_ ?_ ?_ rfl ?_ ?_
 ·simp [vw]
 ·simp [vw,xH,qo]
 ·simp
 ·exact Nat.zero_le _
 rintro j hj G ih
 simp only [qi,H0,mkT,mkH,trL,vI,simprocAttr,xH]
 by_cases hlt:j < x.rules.length
 ·have hx:x.rules[j]? = some x.rules[j]:=List.getElem?_eq_getElem hlt
  have he:=qbX hx
  have hb:=qaW hlt
  have hw:IntKind.wrap .i64 ((j:Int) + 1) = ((j + 1:Nat):Int):=by rw [qz (by omega) (by omega)]; omega
  have htl:=ht _ (List.getElem_mem hlt)
  generalize x.rules[j] = c at he htl
  simp only [↓vS,vT,shb,shv,qb,qc,cellsOf,wr,qa,simprocAttr,hlt]
  refine xt ?_
  simp only [↓vS,vT,shb,shv,qb,qc,cellsOf,wr,qa,simprocAttr,hlt,he,hb]
  refine (hg c htl).pc ?_
  simp only [↓vS,vT,shb,shv,qb,qc,cellsOf,wr,qa,simprocAttr,hw]
  refine ih (j + 1) hlt (by omega) _ _ (Wk.mk _ _ [0,1] ?_ ?_ ?_ rfl)
  ·simp [vw]
  ·simp [vw,xH,qo]
  ·simp
 ·simp only [↓vS,vT,shb,shv,qb,qc,cellsOf,wr,qa,simprocAttr,hlt]
  simp [vZ]
def wl (f_vestibuleref22_Lower:Nat):IFn:=⟨[.tmp 2],.seq (.r [.q 1 (.box (.t 0)),.m 2 (.c (.nils))]) (.seq (.r [.m 3 (.c (.nils))]) (.seq (.seq (.r [.m 4 (.k 0)]) (.blk 0 (.loop (.seq (.seq (.r [.m 8 (.t 4),.q 9 (.bin .lss (.t 8) (.k 8))]) (.cond (.t 9) (.skip) (.exit 0))) (.seq (.blk 1 (.seq (.r [.m 5 (.k 0)]) (.blk 2 (.loop (.seq (.seq (.r [.m 12 (.t 5),.q 13 (.bin .lss (.t 12) (.k 6))]) (.cond (.t 13) (.skip) (.exit 2))) (.seq (.blk 3 (.seq (.r [.q 17 (.loadN 13 (.t 1)),.m 18 (.t 4),.m 19 (.t 5),.l 20 f_vestibuleref22_Lower [.t 17,.t 18,.t 19],.m 16 (.t 20),.q 21 (.ext (.t 16) 0),.q 22 (.ext (.t 16) 1),.q 6 (.alloc [.i .i64 0,.nils,.i .u32 0]),.u (.store 3 (.t 6) (.t 21)),.m 7 (.t 22)]) (.seq (.r [.m 23 (.t 7)]) (.cond (.t 23) (.r [.m 24 (.t 3),.q 25 (.loadN 3 (.t 6)),.q 26 (.buildS 1 [.i .i64 0,.nils,.i .u32 0] [(0,3,(.t 25))]),.q 27 (.app 3 40 true (.t 24) (.t 26)),.m 3 (.t 27)]) (.skip))))) (.r [.m 14 (.t 5),.q 15 (.bin .add (.t 14) (.k 1)),.m 5 (.t 15)]))))))) (.r [.m 10 (.t 4),.q 11 (.bin .add (.t 10) (.k 1)),.m 4 (.t 11)])))))) (.seq (.r [.m 28 (.t 3),.m 2 (.t 28)]) (.ret))))⟩
theorem qnP {g2:Nat} (hc:qw P f (wl g2) = true) (h2:qeF P g2) (p:Pol) (hp:PolOk p) (hR:PolR p):qg P f [.agg (qj p)] (.fz (wJ p).length (rF (wJ p))):=by
 refine qg.mk hc rfl ?_
 simp only [wl,qj,qi,H0,mkT,mkH,trL,vI,simprocAttr]
 simp only [↓vS,vT,shb,shv,qb,qc,cellsOf,wr,qa,simprocAttr]
 refine SL.loop (α:=Nat) (fun d=>[(1,.ptr 0 0),(3,.own 1 (wc p d 0).length),(4,.i .i64 d)]) (fun d=>[.cells 0 true false (qj p),.cells 3 true true (rF (wc p d 0))]) (fun d=>d ≤ 8) (fun d=>8 - d) 0 [0,9] ?_ ?_ ?_ rfl ?_ ?_
 ·simp [vw,wc]
 ·simp [vw,wc,rF,qj,qk,qf,qd]
 ·simp
 ·exact Nat.zero_le _
 rintro d hd G ih
 simp only [qi,H0,mkT,mkH,trL,vI,simprocAttr,qj]
 by_cases hlt:d < 8
 ·have hlt':(d:Int) < 8:=by omega
  have hwd:IntKind.wrap .i64 ((d:Int) + 1) = ((d + 1:Nat):Int):=by rw [qz (by omega) (by omega)]; omega
  simp only [↓vS,vT,shb,shv,qb,qc,cellsOf,wr,qa,simprocAttr,hlt']
  refine SL.loop (α:=Nat) (fun a=>[(1,.ptr 0 0),(3,.own 1 (wc p d a).length),(4,.i .i64 d),(5,.i .i64 a)]) (fun a=>[.cells 0 true false (qj p),.cells 3 true true (rF (wc p d a))]) (fun a=>a ≤ 6) (fun a=>6 - a) 0 [0,1] ?_ ?_ ?_ rfl ?_ ?_
  ·simp [vw,qd]
  ·simp [vw,qj,qk,qf,qd,xq]
  ·simp
  ·exact Nat.zero_le _
  rintro a ha G2 ih2
  simp only [qi,H0,mkT,mkH,trL,vI,simprocAttr,qj]
  by_cases hla:a < 6
  ·have hla':(a:Int) < 6:=by omega
   have hwa:IntKind.wrap .i64 ((a:Int) + 1) = ((a + 1:Nat):Int):=by rw [qz (by omega) (by omega)]; omega
   have hT:=qfG p d a
   have hlen:=qao p d a
   generalize hA:wc p d a = A at hT hlen
   simp only [↓vS,vT,shb,shv,qb,qc,cellsOf,wr,qa,simprocAttr,hla']
   refine (h2 p hp hR d a).sc ?_
   cases hL:jW p d a with
   | none =>
    rw [hL] at hT
    simp only [Option.toList_none,List.append_nil] at hT
    simp only [kC,↓vS,vT,shb,shv,qb,qc,cellsOf,wr,qa,simprocAttr,hwa]
    refine ih2 (a + 1) hla (by omega) _ _ (Wk.mk _ _ [0,1] ?_ ?_ ?_ rfl)
    ·rw [hT]; simp [vw,qd]
    ·rw [hT]; simp [vw,qj,qk,qf,qd,xq]
    ·simp
   | some x =>
    rw [hL] at hT
    simp only [Option.toList_some] at hT
    have hap:rF A ++ [AV.i .i64 x.arch,.fz x.rules.length (rR x.rules),.i .u32 x.dflt] = rF (A ++ [x]):=by rw [← qhG]; rfl
    have hln:(rF A).length = A.length * 3:=qdE
    have htk:(rF A).take (A.length * 3) = rF A:=List.take_of_length_le (by omega)
    have hr1:A.length + 1 ≤ qh:=by simp only [qh]; omega
    have hr2:(A.length + 1) * 40 ≤ qh:=by simp only [qh]; omega
    simp (decide:=true) only [kC,xH,↓vS,vT,shb,shv,qb,qc,cellsOf,wr,qa,simprocAttr,hwa,hr1,hr2,hln,htk,hap]
    refine ih2 (a + 1) hla (by omega) _ _ (Wk.mk _ _ [0,4] ?_ ?_ ?_ rfl)
    ·rw [hT]; simp [vw,qd]
    ·rw [hT]; simp [vw,qj,qk,qf,qd,xq]
    ·simp
  ·have ha':a = 6:=by omega
   subst ha'
   have hla':¬ (((6:Nat):Int) < 6):=by decide
   simp only [↓vS,vT,shb,shv,qb,qc,cellsOf,wr,qa,simprocAttr,hla',hwd]
   refine ih (d + 1) hlt (by omega) _ _ (Wk.mk _ _ [0,1] ?_ ?_ ?_ rfl)
   ·rw [qbA]; simp [vw]
   ·rw [qbA]; simp [vw,qj,qk,qf,qd,xq]
   ·simp
 ·have hd':d = 8:=by omega
  subst hd'
  have hlt':¬ (((8:Nat):Int) < 8):=by decide
  have e:wc p 8 0 = wJ p:=by simp [wc,wJ]
  rw [e]
  simp only [↓vS,vT,shb,shv,qb,qc,cellsOf,wr,qa,simprocAttr,hlt']
  refine .own 1 _ 3 true (rF (wJ p)) _ ?_ (fun h0=>?_) (Frzs.self xq)
  ·simp [Tr.get_set]
  ·rw [List.eq_nil_of_length_eq_zero h0]; rfl
end Go.Kc
end
section
/- The plain law of lower: what its code makes is what the document says. No condition. -/
namespace Go.Kc
theorem Zn {α:Type} (k:α → Int):∀ {l m:List α},l.Pairwise (fun x y=>k x < k y) → m.Pairwise (fun x y=>k x < k y) → (∀ x,x ∈ l ↔ x ∈ m) → l = m
 | [],[],_,_,_=>rfl
 | [],y :: m,_,_,h=>by have:=(h y).2 (by simp); simp at this
 | x :: l,[],_,_,h=>by have:=(h x).1 (by simp); simp at this
 | x :: l,y :: m,hl,hm,h=>by
  obtain ⟨h1,h2⟩:=List.pairwise_cons.1 hl
  obtain ⟨h3,h4⟩:=List.pairwise_cons.1 hm
  have e:x = y:=by
   rcases List.mem_cons.1 ((h x).1 (by simp)) with e | e
   ·exact e
   ·rcases List.mem_cons.1 ((h y).2 (by simp)) with e' | e'
    ·exact e'.symm
    ·have:=h3 x e; have:=h1 y e'; omega
  subst e
  congr 1
  refine Zn k h2 h4 fun z=>?_
  constructor
  ·intro hz
   rcases List.mem_cons.1 ((h z).1 (List.mem_cons_of_mem _ hz)) with e | e
   ·subst e; have:=h1 z hz; omega
   ·exact e
  ·intro hz
   rcases List.mem_cons.1 ((h z).2 (List.mem_cons_of_mem _ hz)) with e | e
   ·subst e; have:=h3 z hz; omega
   ·exact e
theorem QZ {rs:List GRule} (hn:(rs.map GRule.nr).Nodup):(zV rs).Pairwise (fun x y=>x.nr < y.nr):=by
 have h1:(zV rs).Pairwise (fun x y=>decide (x.nr ≤ y.nr) = true):=List.pairwise_mergeSort (fun a b c h1 h2=>by simp at *; omega) (fun a b=>by simp; omega) rs
 have h2:((zV rs).map GRule.nr).Nodup:=((List.mergeSort_perm rs _).map GRule.nr).nodup_iff.2 hn
 have h3:(zV rs).Pairwise (fun x y=>x.nr ≠ y.nr):=List.pairwise_map.1 h2
 refine (h1.and h3).imp ?_
 intro a b ⟨h,h'⟩
 simp at h; omega
theorem qbv {rs:List GRule} {r:GRule}:r ∈ zV rs ↔ r ∈ rs:=(List.mergeSort_perm rs _).mem_iff
theorem qcM {c x:GCall}:∀ {l:List GCall},x ∈ qbO c l ↔ x = c ∨ x ∈ l
 | []=>by simp [qbO]
 | y :: l=>by
  unfold qbO
  split
  ·simp
  ·rw [List.mem_cons,qcM,List.mem_cons]
   constructor
   ·rintro (h | h | h)
    ·exact .inr (.inl h)
    ·exact .inl h
    ·exact .inr (.inr h)
   ·rintro (h | h | h)
    ·exact .inr (.inl h)
    ·exact .inl h
    ·exact .inr (.inr h)
theorem qbd {a:Int} {c:GCall}:c ∈ v6 a ↔ ∃ x ∈ qH,wF x a = some c.act ∧ x.1 = c.name:=by
 unfold v6
 have h1:∀ l:List GCall,c ∈ l.foldr qbO [] ↔ c ∈ l:=by
  intro l; induction l with
  | nil=>simp
  | cons y l ih=>rw [List.foldr_cons,qcM,ih,List.mem_cons]
 rw [h1,List.mem_filterMap]
 constructor
 ·rintro ⟨x,hx,h⟩
  cases hn:wF x a with
  | none=>rw [hn] at h; cases h
  | some n=>rw [hn] at h; cases h; exact ⟨x,hx,hn,rfl⟩
 ·rintro ⟨x,hx,h,h2⟩
  refine ⟨x,hx,?_⟩
  rw [h]
  cases c; simp_all
theorem qfw:(qH.map (·.1)).Nodup:=by decide +kernel
theorem qbj {α:Type} (k:α → List UInt8) {l:List α} (hn:(l.map k).Nodup) {x:α} (hx:x ∈ l):l.find? (fun y=>decide (k y = k x)) = some x:=by
 induction l with
 | nil=>simp at hx
 | cons y l ih =>
  rw [List.map_cons,List.nodup_cons] at hn
  rw [List.find?_cons]
  by_cases h:k y = k x
  ·have e:y = x:=by
    rcases List.mem_cons.1 hx with e | e
    ·exact e.symm
    ·exact absurd (by rw [h]; exact List.mem_map_of_mem (f:=k) e) hn.1
   subst e; simp
  ·rcases List.mem_cons.1 hx with e | e
   ·subst e; exact absurd rfl h
   ·simp [h]; exact ih hn.2 e
theorem QG {a:Int} {c:GCall}:c ∈ v6 a ↔ yH a c.name = some c.act:=by
 rw [qbd]
 unfold yH
 constructor
 ·rintro ⟨x,hx,h,h2⟩
  rw [← h2,qbj (·.1) qfw hx]; exact h
 ·intro h
  cases hf:qH.find? (fun x=>decide (x.1 = c.name)) with
  | none=>rw [hf] at h; cases h
  | some x =>
   rw [hf] at h
   exact ⟨x,List.mem_of_find?_eq_some hf,h,by simpa using List.find?_some hf⟩
theorem ym {a:Int} (h0:0 ≤ a) (h6:a < 6):(v6 a).Pairwise (fun x y=>x.act < y.act):=by
 have:a = 0 ∨ a = 1 ∨ a = 2 ∨ a = 3 ∨ a = 4 ∨ a = 5:=by omega
 rcases this with rfl | rfl | rfl | rfl | rfl | rfl <;> decide +kernel
theorem qjC {a:Int} (h0:0 ≤ a) (h6:a < 6) {s t:List UInt8} {n:Int} (h1:yH a s = some n) (h2:yH a t = some n):s = t:=by
 have hs:(⟨s,n⟩:GCall) ∈ v6 a:=QG.2 h1
 have ht:(⟨t,n⟩:GCall) ∈ v6 a:=QG.2 h2
 have hp:=ym h0 h6
 by_cases e:s = t
 ·exact e
 ·exfalso
  have:∀ {l:List GCall},l.Pairwise (fun x y=>x.act < y.act) → (⟨s,n⟩:GCall) ∈ l → (⟨t,n⟩:GCall) ∈ l → False:=by
   intro l; induction l with
   | nil=>intro _ h; simp at h
   | cons x l ih =>
    intro hl h1 h2
    obtain ⟨k1,k2⟩:=List.pairwise_cons.1 hl
    rcases List.mem_cons.1 h1 with e1 | e1 <;> rcases List.mem_cons.1 h2 with e2 | e2
    ·rw [← e2] at e1; simp at e1; exact e e1
    ·subst e1; have:=k1 _ e2; simp at this
    ·subst e2; have:=k1 _ e1; simp at this
    ·exact ih k2 e1 e2
  exact this hp hs ht
def wA (a:Int) (g:List UInt8 → List GTest × Int) (ns:List (List UInt8)):List GRule:=ns.filterMap fun s=>(yH a s).map fun n=>⟨n,(g s).1,(g s).2⟩
theorem qcD {a:Int} {g:List UInt8 → List GTest × Int} {ns:List (List UInt8)} {r:GRule}:r ∈ wA a g ns ↔ ∃ s ∈ ns,yH a s = some r.nr ∧ r.tests = (g s).1 ∧ r.act = (g s).2:=by
 unfold wA
 rw [List.mem_filterMap]
 constructor
 ·rintro ⟨s,hs,h⟩
  cases hn:yH a s with
  | none=>rw [hn] at h; cases h
  | some n=>rw [hn] at h; cases h; exact ⟨s,hs,hn,rfl,rfl⟩
 ·rintro ⟨s,hs,h,h2,h3⟩
  refine ⟨s,hs,?_⟩
  rw [h]; cases r; simp_all
theorem qaG {a:Int} (h0:0 ≤ a) (h6:a < 6) {g:List UInt8 → List GTest × Int} {ns:List (List UInt8)} (hn:ns.Nodup):((wA a g ns).map GRule.nr).Nodup:=by
 induction ns with
 | nil=>exact List.nodup_nil
 | cons s ns ih =>
  obtain ⟨h1,h2⟩:=List.nodup_cons.1 hn
  unfold wA
  rw [List.filterMap_cons]
  cases hs:yH a s with
  | none=>exact ih h2
  | some n =>
   simp only [Option.map_some,List.map_cons]
   refine List.nodup_cons.2 ⟨?_,ih h2⟩
   intro hm
   obtain ⟨r,hr,e⟩:=List.mem_map.1 hm
   obtain ⟨t,ht,k1,_,_⟩:=qcD.1 hr
   rw [e] at k1
   exact h1 (qjC h0 h6 hs k1 ▸ ht)
theorem qgI {a:Int} {g:List UInt8 → List GTest × Int} {ns:List (List UInt8)}:(wA a g ns).length ≤ ns.length:=List.length_filterMap_le _ _
theorem yu {a:Int} {g:List UInt8 → List GTest × Int} {ns ms:List (List UInt8)}:wA a g (ns ++ ms) = wA a g ns ++ wA a g ms:=List.filterMap_append
theorem xE {a act:Int} {ts:List GTest} {g:List UInt8 → List GTest × Int}:∀ {ns:List (List UInt8)},(∀ s ∈ ns,g s = (ts,act)) → qR a act ts ns = wA a g ns
 | [],_=>rfl
 | s :: ns,h=>by
  have e:=xE (a:=a) (ns:=ns) fun t ht=>h t (List.mem_cons_of_mem _ ht)
  unfold qR wA at *
  rw [List.filterMap_cons,List.filterMap_cons,e,h s (by simp)]
theorem kL {p:Pol} {d a:Int} (h0:0 ≤ a) (h6:a < 6) {ns:List (List UInt8)} {g:List UInt8 → List GTest × Int} (hn:ns.Nodup) (h1:∀ s n,yH a s = some n → ((wV p d s).1 = true ↔ s ∈ ns)) (h2:∀ s ∈ ns,g s = (wV p d s).2):zV (wA a g ns) = ruR p d (v6 a):=by
 refine Zn GRule.nr (QZ (qaG h0 h6 hn)) ?_ fun r=>?_
 ·unfold ruR
  refine List.Pairwise.filterMap _ ?_ (ym h0 h6)
  intro c c' hlt x hx y hy
  split at hx
  ·split at hy
   ·cases hx; cases hy; exact hlt
   ·cases hy
  ·cases hx
 ·rw [qbv,qcD]
  unfold ruR
  rw [List.mem_filterMap]
  constructor
  ·rintro ⟨s,hs,k1,k2,k3⟩
   have k:=(h1 s _ k1).2 hs
   refine ⟨⟨s,r.nr⟩,QG.2 k1,?_⟩
   rw [h2 s hs] at k2 k3
   rw [if_pos k]; cases r; simp_all
  ·rintro ⟨c,hc,h⟩
   have k1:=QG.1 hc
   split at h
   ·rename_i k
    cases h
    have hs:=(h1 c.name _ k1).1 k
    exact ⟨c.name,hs,k1,by rw [h2 _ hs],by rw [h2 _ hs]⟩
   ·cases h
theorem ku {l:GList} (h:xK l = true):(l.calls.map (·.name)).Nodup:=by
 have h2:=((qcZ l).1 h).2.2
 exact List.pairwise_map.2 (List.Pairwise.imp (fun hab=>ql9 hab) h2)
theorem kP {p:Pol} (h:xA p = true):xK p.filter = true ∧ xK p.log = true:=by
 unfold xA jX at h
 simp only [Bool.and_eq_true] at h
 exact ⟨h.2.1.1,h.2.1.2⟩
theorem qeU {l:List GCall} (hn:(l.map (·.name)).Nodup) {c:GCall} (hc:c ∈ l):xy l c.name = some c:=qbj GCall.name hn hc
theorem qbi {l:List GCall} {s:List UInt8}:(xy l s).isSome = true ↔ s ∈ l.map (·.name):=by
 unfold xy
 rw [List.find?_isSome]
 simp only [decide_eq_true_eq,List.mem_map]
theorem qaC {a:Int} {g:List UInt8 → List GTest × Int} {A:GCall → Int}:∀ {l:List GCall},(∀ c ∈ l,g c.name = ([],A c)) → (l.flatMap fun c=>qR a (A c) [] [c.name]) = wA a g (l.map (·.name))
 | [],_=>rfl
 | c :: l,h=>by
  have e:=qaC (a:=a) (A:=A) (l:=l) fun x hx=>h x (List.mem_cons_of_mem _ hx)
  rw [List.flatMap_cons,e,xE (g:=g) (by intro s hs; simp at hs; subst hs; exact h c (by simp)),← yu]
  rfl
def qoD (p:Pol) (s:List UInt8):List GTest × Int:=([],qdh p s)
theorem qdX {p:Pol} {a:Int} (hm:xK p.filter = true):(qay p a).2.1 = wA a (qoD p) (p.filter.calls.map (·.name)):=by
 refine qaC fun c hc=>?_
 have hf:=qeU (ku hm) hc
 simp only [qoD,qdh,qcw,hf]
def qpN (p:Pol) (_:List UInt8):List GTest × Int:=([],if p.log.mode = 2 then 2147418112 else 2147221504)
theorem qd7 {p:Pol} {a:Int}:(qaO p a).2.1 = wA a (qpN p) (p.log.calls.map (·.name)):=qaC (A:=fun _=>if p.log.mode = 2 then 2147418112 else 2147221504) fun _ _=>rfl
def QN (p:Pol) (d:Int) (s:List UInt8):List GTest × Int:=(wV p d s).2
theorem qdW {p:Pol} {a:Int}:(fmM p a).2.1 = wA a (QN p 3) [zA]:=xE fun _ _=>rfl
def nsL:List (List UInt8):=[zb,zD,zo,zl]
theorem qhi {p:Pol} {a:Int}:(nsM p a).2.1 = wA a (QN p 4) nsL:=by
 have h1:qR a 2147418112 (qA 0 327681 (zi p.spaces)) [zb,zD] = wA a (QN p 4) [zb,zD]:=xE fun s hs=>by
  simp only [List.mem_cons,List.not_mem_nil,or_false] at hs
  rcases hs with rfl | rfl <;> simp (decide:=true) [QN,wV,zb,zD,zl,zo]
 have h2:qR a 2147418112 (qA 1 327681 (zi p.spaces) ++ qv 1 4294967295 327681 [0]) [zo] = wA a (QN p 4) [zo]:=xE fun s hs=>by
  simp only [List.mem_cons,List.not_mem_nil,or_false] at hs
  subst hs; simp (decide:=true) [QN,wV,zl,zo,qv]
 have h3:qR a 327718 [] [zl] = wA a (QN p 4) [zl]:=xE fun s hs=>by
  simp only [List.mem_cons,List.not_mem_nil,or_false] at hs
  subst hs; simp (decide:=true) [QN,wV]
 show _ ++ _ ++ _ = _
 rw [h1,h2,h3,← yu,← yu]; rfl
def weL:List (List UInt8):=[jn,zg,qE,xr]
theorem qh1 {p:Pol} {a:Int}:(weM p a).2.1 = wA a (QN p 5) weL:=by
 have h1:qR a 2147418112 (qA 2 327681 [6]) [jn] = wA a (QN p 5) [jn]:=xE fun s hs=>by
  simp only [List.mem_cons,List.not_mem_nil,or_false] at hs
  subst hs; rfl
 have h2:qR a 2147418112 (qA 2 327681 [4]) [zg,qE] = wA a (QN p 5) [zg,qE]:=xE fun s hs=>by
  simp only [List.mem_cons,List.not_mem_nil,or_false] at hs
  rcases hs with rfl | rfl <;> rfl
 have h3:qR a 2147418112 (qA 2 327681 [32768]) [xr] = wA a (QN p 5) [xr]:=xE fun s hs=>by
  simp only [List.mem_cons,List.not_mem_nil,or_false] at hs
  subst hs; rfl
 show _ ++ _ ++ _ = _
 rw [h1,h2,h3,← yu,← yu]; rfl
theorem qhE {p:Pol} {a:Int}:(peM p a).2.1 = wA a (QN p 6) [qV]:=xE fun _ _=>rfl
theorem qhO {p:Pol} {a:Int}:(rtM p a).2.1 = wA a (QN p 7) [j6]:=xE fun _ _=>rfl
theorem qpw:∀ d F,vG d = some F → qh6 F:=by
 intro d F h p a hp hmay h0 h6
 obtain ⟨hf,hl⟩:=kP hmay
 have k:∀ {g:List UInt8 → List GTest × Int} {ns:List (List UInt8)} {rs:List GRule},rs = wA a g ns → ns.Nodup → ns.length ≤ 1000 → rs.length ≤ 100000 ∧ (rs.map GRule.nr).Nodup:=by
  rintro g ns rs rfl hn hle
  exact ⟨by have:=qgI (a:=a) (g:=g) (ns:=ns); omega,qaG h0 h6 hn⟩
 unfold vG at h
 split at h
 ·cases h; exact k (qdX hf) (ku hf) (by rw [List.length_map]; exact hp.c)
 split at h
 ·cases h; exact k qd7 (ku hl) (by rw [List.length_map]; exact hp.l)
 split at h
 ·cases h; exact k qdW (by decide) (by decide)
 split at h
 ·cases h; exact k qhi (by decide) (by decide)
 split at h
 ·cases h; exact k qh1 (by decide) (by decide)
 split at h
 ·cases h; exact k qhE (by decide) (by decide)
 split at h
 ·cases h; exact k qhO (by decide) (by decide)
 ·cases h
end Go.Kc
end
section
/- The plain law of lower: its filters are the document's. No condition. -/
namespace Go.Kc
theorem qnm (s:List UInt8):(0 < xl s) ↔ s ∈ weL:=by
 unfold xl weL
 by_cases h1:s = jn
 ·simp [h1]
 by_cases h2:s = zg
 ·subst h2; decide
 by_cases h3:s = qE
 ·subst h3; decide
 by_cases h4:s = xr
 ·simp only [if_neg h1,if_neg (not_or.2 ⟨h2,h3⟩),if_pos h4]; simp [h4]
 ·simp [h1,h2,h3,h4]
theorem vj {p:Pol} {d a:Int} {F:Pol → Int → Bool × List GRule × Int} (hF:vG d = some F) (hd:0 ≤ d ∧ d < 8) (h1:vt p d = (F p a).1)
  (h2:wm p d a = true → (F p a).1 = true → zV (F p a).2.1 = ruR p d (v6 a) ∧ (F p a).2.2 = dfR p d):vo p d a = jW p d a:=by
 have e:wm p d a = (decide (0 ≤ a) && decide (a < 6) && xA p && inA p.arches a):=by
  unfold wm; simp [hd.1,hd.2]
 unfold vo jW
 rw [hF]
 cases hk:wm p d a with
 | false =>
  rw [e] at hk
  rw [if_neg (by rw [hk]; simp),if_neg (by decide)]
 | true =>
  have hk':=hk
  rw [e] at hk'
  rw [if_pos rfl]
  simp only [Option.bind_some]
  cases ha:(F p a).1 with
  | false=>rw [if_neg (by rw [h1,ha]; simp),if_neg (by decide)]
  | true =>
   obtain ⟨k1,k2⟩:=h2 hk ha
   rw [if_pos (by rw [h1,ha,hk']; rfl),if_pos rfl,k1,k2]
theorem ja {p:Pol} {d a:Int} (h:wm p d a = true):0 ≤ a ∧ a < 6 ∧ xA p = true:=by
 unfold wm at h
 simp only [Bool.and_eq_true,decide_eq_true_eq] at h
 exact ⟨h.1.1.2.1,h.1.1.2.2,h.1.2⟩
theorem qdy (p:Pol) (d a:Int):vo p d a = jW p d a:=by
 by_cases d1:d = 1
 ·subst d1
  refine vj (F:=qay) rfl (by decide) rfl fun hk _=>?_
  obtain ⟨h0,h6,hm⟩:=ja hk
  have hf:=(kP hm).1
  refine ⟨?_,?_⟩
  ·rw [qdX hf]
   refine kL h0 h6 (ku hf) (fun s n _=>?_) fun s _=>?_
   ·show (xy p.filter.calls s).isSome = true ↔ _
    exact qbi
   ·rfl
  ·show (if p.filter.mode = 1 then p.deny else 2147418112) = _
   simp [dfR]
 by_cases d2:d = 2
 ·subst d2
  refine vj (F:=qaO) rfl (by decide) rfl fun hk hact=>?_
  obtain ⟨h0,h6,hm⟩:=ja hk
  have hl:=(kP hm).2
  have hmode:p.log.mode = 1 ∨ p.log.mode = 2:=by
   have hact:qW p.log.mode p.log.calls.length false true = true:=hact
   unfold qW at hact
   split at hact
   ·exact .inl (by assumption)
   ·split at hact
    ·exact .inr (by assumption)
    ·cases hact
  refine ⟨?_,?_⟩
  ·rw [qd7]
   refine kL h0 h6 (ku hl) (fun s n _=>?_) fun s _=>?_
   ·show (xy p.log.calls s).isSome = true ↔ _
    exact qbi
   ·show ([],_) = ([],if p.log.mode = 1 then (2147221504:Int) else 2147418112)
    rcases hmode with h | h <;> simp [h]
  ·show (if p.log.mode = 2 then 2147221504 else 2147418112) = _
   simp [dfR]
 by_cases d3:d = 3
 ·subst d3
  refine vj (F:=fmM) rfl (by decide) rfl fun hk _=>?_
  obtain ⟨h0,h6,hm⟩:=ja hk
  refine ⟨?_,by simp [dfR,fmM]⟩
  rw [qdW]
  refine kL h0 h6 (by decide) (fun s n _=>?_) fun s _=>rfl
  show decide (s = zA) = true ↔ _
  simp
 by_cases d4:d = 4
 ·subst d4
  refine vj (F:=nsM) rfl (by decide) rfl fun hk _=>?_
  obtain ⟨h0,h6,hm⟩:=ja hk
  refine ⟨?_,by simp [dfR,nsM]⟩
  rw [qhi]
  refine kL h0 h6 (by decide) (fun s n _=>?_) fun s _=>rfl
  show (if s = zl then ((true,[],327718):Bool × List GTest × Int) else (decide (s = zo) || decide (s = zb) || decide (s = zD),_,_)).1 = true ↔ _
  unfold nsL
  by_cases k:s = zl
  ·simp [k]
  ·rw [if_neg k]
   simp only [Bool.or_eq_true,decide_eq_true_eq,List.mem_cons,List.not_mem_nil,or_false]
   constructor
   ·rintro ((h | h) | h)
    ·exact .inr (.inr (.inl h))
    ·exact .inl h
    ·exact .inr (.inl h)
   ·rintro (h | h | h | h)
    ·exact .inl (.inr h)
    ·exact .inr h
    ·exact .inl (.inl h)
    ·exact absurd h k
 by_cases d5:d = 5
 ·subst d5
  refine vj (F:=weM) rfl (by decide) rfl fun hk _=>?_
  obtain ⟨h0,h6,hm⟩:=ja hk
  refine ⟨?_,by simp [dfR,weM]⟩
  rw [qh1]
  refine kL h0 h6 (by decide) (fun s n _=>?_) fun s _=>rfl
  show decide (0 < xl s) = true ↔ _
  rw [decide_eq_true_eq]; exact qnm s
 by_cases d6:d = 6
 ·subst d6
  refine vj (F:=peM) rfl (by decide) rfl fun hk _=>?_
  obtain ⟨h0,h6,hm⟩:=ja hk
  refine ⟨?_,by simp [dfR,peM]⟩
  rw [qhE]
  refine kL h0 h6 (by decide) (fun s n _=>?_) fun s _=>rfl
  show decide (s = qV) = true ↔ _
  simp
 by_cases d7:d = 7
 ·subst d7
  refine vj (F:=rtM) rfl (by decide) rfl fun hk _=>?_
  obtain ⟨h0,h6,hm⟩:=ja hk
  refine ⟨?_,by simp [dfR,rtM]⟩
  rw [qhO]
  refine kL h0 h6 (by decide) (fun s n _=>?_) fun s _=>rfl
  show decide (s = j6) = true ↔ _
  simp
 have e1:vt p d = false:=by simp [vt,d1,d2,d3,d4,d5,d6,d7]
 have e2:vG d = none:=by simp [vG,d1,d2,d3,d4,d5,d6,d7]
 unfold vo jW
 rw [e1,e2,Bool.and_false,if_neg (by decide)]
 split <;> rfl
theorem qf4.low {P:Program} {f:Nat} (h:qf4 P f):qeF P f:=fun p hp hR d a=>by rw [← qdy]; exact h p hp hR d a
end Go.Kc
end
