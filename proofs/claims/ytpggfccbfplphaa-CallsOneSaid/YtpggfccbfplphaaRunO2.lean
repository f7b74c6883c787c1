/- Runs of the law CallsOne, architecture 2. No condition. -/
import Derived.Test.YtpggfccbfplphaaRuns
namespace Go.Proofs.Ytpggfccbfplphaa.Tab
open Go.Ab
theorem oneK2 : allK nam2 (fun x q => yesK (oneOrc [] 2 (oneT 2 num2 nam2 37 srt2)) Ir.env 1000000 5 [.sym 0, .i .u32 x.1] q) = True := by kernel_rfl
theorem oneU2 : yesK (oneOrc (nam2.map (·.1)) 2 (oneU 2 num2 nam2 37 srt2)) Ir.env 1000000 5 [.sym 0, .sym 1] True = True := by kernel_rfl
end Go.Proofs.Ytpggfccbfplphaa.Tab
