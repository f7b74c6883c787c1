/- Runs of the law T of groups, by names. No condition. -/
import Derived.Test.YtpggfccbfplphaaGrp
import Derived.Test.YtpggfccbfplphaaIr
import Derived.KernelRfl
namespace Go.Proofs.Ytpggfccbfplphaa.Grp
open Go.Ab
theorem runTK : allK groups (fun x q => yesK (orcG [] 0 0) Ir.env 1000000 8 [.s x] q) = True := by kernel_rfl
theorem runTU : yesK (orcG groups 0 200) Ir.env 1000000 8 [.sym 2] True = True := by kernel_rfl
theorem runTL : yesK (orcG [] 201 9223372036854775807) Ir.env 1000000 8 [.sym 2] True = True := by kernel_rfl
end Go.Proofs.Ytpggfccbfplphaa.Grp
