/- LowerAlone at this program's numbers. No condition. -/
import Derived.Test.YtpopmjgimhmciaaK9
import Derived.Test.YtpopmjgimhmciaaLowerA
namespace Go.Proofs.Ytpopmjgimhmciaa.Walk
open Go.Kc
theorem lowerAlone {A B:Prop} (p q:Pol) (d:Int) (_:A) (a:Int) (_:B) (hR:PolR p) (hRq:PolR q):qg Try.prog 5 [.agg (qj p),.agg (qj q),.i .i64 d,.i .i64 a] (.b true) :=
 qk3 (by kernel_rfl) zS mayP19 EnvU.awake low (qpO (f:=18) (by kernel_rfl) (qps (f:=47) (by kernel_rfl) _ (qp0 (f:=48) (by kernel_rfl) (qpI (f:=80) (by kernel_rfl))))) p q hR hRq d a
end Go.Proofs.Ytpopmjgimhmciaa.Walk
