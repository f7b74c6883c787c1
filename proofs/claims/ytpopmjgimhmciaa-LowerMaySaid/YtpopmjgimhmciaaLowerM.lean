/- LowerMay at this program's numbers. No condition. -/
import Derived.Test.YtpopmjgimhmciaaK9
import Derived.Test.YtpopmjgimhmciaaLowerA
namespace Go.Proofs.Ytpopmjgimhmciaa.Walk
open Go.Kc
theorem knwA:∀ n,qg Try.prog 49 [.i .u32 n] (.b (knA n)):=qoj (by kernel_rfl) (qpo (f:=81) (by kernel_rfl) (qok (f:=107) (by kernel_rfl)) (qpp (f:=108) (by kernel_rfl)))
theorem mayRl:∀ r:GRule,r.tests.length ≤ 100000 → qg Try.prog 50 [.agg (xn r)] (.b (ZE r)):=qpu (by kernel_rfl) (fun l k a c p ha hc hk hl=>qlI (f:=82) (by kernel_rfl) (qd5 (f:=109) (by kernel_rfl)) l k a c p ha hc hk hl)
 (qnK (f:=83) (by kernel_rfl) (qpv (f:=84) knwA (by kernel_rfl))) knwA
theorem nameC:∀ a n,qg Try.prog 21 [.i .i64 a,.i .u32 n] (.s (ZC a n)):=qp6 (by kernel_rfl) (qpr (f:=53) (by kernel_rfl) (qpx (f:=54) (by kernel_rfl))) (qlp (f:=52) (by kernel_rfl) tabK idxK)
theorem lowerMay (p:Pol) (hR:PolR p):qg Try.prog 6 [.agg (qj p)] (.b true) :=
 qnH (by kernel_rfl) zS EnvU.awake allP mayP19 (qp7 (f:=19) (by kernel_rfl) knwA mayRl) archI nameC p hR
end Go.Proofs.Ytpopmjgimhmciaa.Walk
