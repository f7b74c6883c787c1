/- Runs of the law E of groups, by names. No condition. -/
import Derived.Test.YtpggfccbfplphaaGrp
import Derived.Test.YtpggfccbfplphaaIr
import Derived.KernelRfl
namespace Go.Proofs.Ytpggfccbfplphaa.Grp
open Go.Ab
theorem awk : ansK (atOrc fun _ => .bool) Ir.env 1000000 25 [] (.b true) True = True := by kernel_rfl
theorem runEK : allK groups (fun x q => yesK (orcG [] 0 0) Ir.env 1000000 7 [.s x] q) = True := by kernel_rfl
theorem runEU : yesK (orcG groups 0 200) Ir.env 1000000 7 [.sym 2] True = True := by kernel_rfl
theorem runEL : yesK (orcG [] 201 9223372036854775807) Ir.env 1000000 7 [.sym 2] True = True := by kernel_rfl
end Go.Proofs.Ytpggfccbfplphaa.Grp
