/- Runs of the law CallsOne, architecture 1. No condition. -/
import Derived.Test.YtpggfccbfplphaaRuns
namespace Go.Proofs.Ytpggfccbfplphaa.Tab
open Go.Ab
theorem oneK1 : allK nam1 (fun x q => yesK (oneOrc [] 1 (oneT 1 num1 nam1 40 srt1)) Ir.env 1000000 5 [.sym 0, .i .u32 x.1] q) = True := by kernel_rfl
theorem oneU1 : yesK (oneOrc (nam1.map (·.1)) 1 (oneU 1 num1 nam1 40 srt1)) Ir.env 1000000 5 [.sym 0, .sym 1] True = True := by kernel_rfl
end Go.Proofs.Ytpggfccbfplphaa.Tab
