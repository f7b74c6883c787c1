/- Runs of the law GroupsCalls, by names. No condition. -/
import Derived.Test.YtpggfccbfplphaaGrp
import Derived.Test.YtpggfccbfplphaaIr
import Derived.KernelRfl
namespace Go.Proofs.Ytpggfccbfplphaa.Grp
open Go.Ab
theorem runCK : allK groups (fun x q => yesK (orcG [] 0 0) Ir.env 1000000 9 [.s x, .sym 0] q) = True := by kernel_rfl
theorem runCL : yesK (orcG [] 201 9223372036854775807) Ir.env 1000000 9 [.sym 2, .sym 0] True = True := by kernel_rfl
end Go.Proofs.Ytpggfccbfplphaa.Grp
