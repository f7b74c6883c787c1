/- LowerFilters at this program's numbers. No condition. -/
import Derived.Test.YtkmehjebocbmlaaK8
import Derived.Test.YtkmehjebocbmlaaLowG
import Derived.Test.YtkmehjebocbmlaaEnvU
namespace Go.Proofs.Ytkmehjebocbmlaa.Walk
open Go.Kc
theorem knownR:∀s,qe Try.prog 83 [.s s] (.b (x3 s)):=qpd (by kernel_rfl) EnvU.table9
theorem mayR:qcl Try.prog 53:=qpM (by kernel_rfl) knownR
theorem spR:qe Try.prog 84 [] (.fz 8 (qj.flatMap (zn .u64))):=qoJ (by kernel_rfl)
theorem mayR19:∀p,PolOk p->PolR p->qe Try.prog 21 [.agg (qf p)] (.b (va p)):=qpN (by kernel_rfl) (qlr (f:=52) (by kernel_rfl)) (qpf (f:=51) (by kernel_rfl)) mayR (qpL (f:=54) (by kernel_rfl) spR)
theorem lowR:qfO Try.prog 7:=(qnp (by kernel_rfl) mayR19 (qpS (f:=22) (by kernel_rfl)) (qnQ (f:=23) (by kernel_rfl)) EnvU.all9r
 (qpE (f:=25) (by kernel_rfl) (qo8 (f:=57) (by kernel_rfl)) (qoW (f:=58) (by kernel_rfl) spR))).low
theorem xR:∀p a,qe Try.prog 4 [.agg (qf p),.agg (qk8 a)] (.b (Go.Kc.xR p a)):=qiY (by kernel_rfl) (qiX (f:=12) (by kernel_rfl))
theorem cpy:qdK Try.prog 5:=qnX (by kernel_rfl) (qnW (f:=13) (by kernel_rfl))
theorem lowerFilters{A B:Prop}(p:Pol)(d:Int)(_:A)(a:Int)(_:B)(hR:PolR p):qe Try.prog 3 [.agg (qf p),.i .i64 d,.i .i64 a] (.b true) :=
 qdV (by kernel_rfl) xR cpy (fun C=>@low C) lowR (fun p hp hR d a=>qkk (f:=8) (by kernel_rfl) low p hp hR d a) (qpH (f:=9) (by kernel_rfl) (qmP (f:=26) (by kernel_rfl)))
  (qpG (f:=10) (by kernel_rfl) (qpF (f:=27) (by kernel_rfl))) EnvU.awake p hR d a
end Go.Proofs.Ytkmehjebocbmlaa.Walk
