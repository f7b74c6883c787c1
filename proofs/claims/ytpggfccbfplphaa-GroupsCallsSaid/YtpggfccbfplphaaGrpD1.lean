/- Runs of the law GroupsCalls, an unknown name, part 1. No condition. -/
import Derived.Test.YtpggfccbfplphaaGrp
import Derived.Test.YtpggfccbfplphaaIr
import Derived.KernelRfl
namespace Go.Proofs.Ytpggfccbfplphaa.Grp
open Go.Ab
theorem runCU1 : allK rems1 (fun k q => yesK (orcR groups 0 200 k) Ir.env 1000000 9 [.sym 2, .sym 0] q) = True := by kernel_rfl
end Go.Proofs.Ytpggfccbfplphaa.Grp
