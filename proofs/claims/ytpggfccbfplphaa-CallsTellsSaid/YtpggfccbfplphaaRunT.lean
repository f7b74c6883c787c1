/- Runs of the law CallsTells. No condition. -/
import Derived.Test.YtpggfccbfplphaaRuns
namespace Go.Proofs.Ytpggfccbfplphaa.Tab
open Go.Ab
theorem telT : yesK ((atOrc (telAt 0 200)).calls (telTab true)) Ir.env 1000000 3 [.sym 0, .sym 1, .sym 5] True = True := by kernel_rfl
theorem telF : yesK ((atOrc (telAt 0 200)).calls (telTab false)) Ir.env 1000000 3 [.sym 0, .sym 1, .sym 5] True = True := by kernel_rfl
theorem telL : yesK (atOrc (telAt 201 9223372036854775807)) Ir.env 1000000 3 [.sym 0, .sym 1, .sym 5] True = True := by kernel_rfl
end Go.Proofs.Ytpggfccbfplphaa.Tab
