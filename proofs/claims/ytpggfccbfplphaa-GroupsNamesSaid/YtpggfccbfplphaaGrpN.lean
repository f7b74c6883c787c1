/- Runs of the law GroupsNames. No condition. -/
import Derived.Test.YtpggfccbfplphaaGrp
import Derived.Test.YtpggfccbfplphaaIr
import Derived.KernelRfl
namespace Go.Proofs.Ytpggfccbfplphaa.Grp
open Go.Ab
theorem runCN : allK rems (fun k q => yesK (orcR [] 0 0 k) Ir.env 1000000 10 [.sym 0] q) = True := by kernel_rfl
end Go.Proofs.Ytpggfccbfplphaa.Grp
