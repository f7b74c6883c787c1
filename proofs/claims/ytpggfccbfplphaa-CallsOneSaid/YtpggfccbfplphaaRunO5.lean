/- Runs of the law CallsOne, architecture 5. No condition. -/
import Derived.Test.YtpggfccbfplphaaRuns
namespace Go.Proofs.Ytpggfccbfplphaa.Tab
open Go.Ab
theorem oneK5 : allK nam5 (fun x q => yesK (oneOrc [] 5 (oneT 5 num5 nam5 37 srt5)) Ir.env 1000000 5 [.sym 0, .i .u32 x.1] q) = True := by kernel_rfl
theorem oneU5 : yesK (oneOrc (nam5.map (·.1)) 5 (oneU 5 num5 nam5 37 srt5)) Ir.env 1000000 5 [.sym 0, .sym 1] True = True := by kernel_rfl
end Go.Proofs.Ytpggfccbfplphaa.Tab
