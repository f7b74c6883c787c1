/- Runs of the law CallsKnown, no architecture. No condition. -/
import Derived.Test.YtpggfccbfplphaaRuns
namespace Go.Proofs.Ytpggfccbfplphaa.Tab
open Go.Ab
theorem outKn : allK names (fun x q => yesK ((atOrc (hasAt [] 0 0)).calls outT) Ir.env 1000000 6 [.s x, .sym 0] q) = True := by kernel_rfl
theorem outU1 : yesK ((atOrc (hasAt names 0 200)).calls outU) Ir.env 1000000 6 [.sym 1, .sym 0] True = True := by kernel_rfl
theorem hasL : yesK ((atOrc (hasAt [] 201 9223372036854775807)).calls [(19, [], .val (.b true))]) Ir.env 1000000 6 [.sym 1, .sym 0] True = True := by kernel_rfl
end Go.Proofs.Ytpggfccbfplphaa.Tab
