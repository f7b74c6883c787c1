/- Runs of the law CallsOne, architecture 4. No condition. -/
import Derived.Test.YtpggfccbfplphaaRuns
namespace Go.Proofs.Ytpggfccbfplphaa.Tab
open Go.Ab
theorem oneK4 : allK nam4 (fun x q => yesK (oneOrc [] 4 (oneT 4 num4 nam4 38 srt4)) Ir.env 1000000 5 [.sym 0, .i .u32 x.1] q) = True := by kernel_rfl
theorem oneU4 : yesK (oneOrc (nam4.map (·.1)) 4 (oneU 4 num4 nam4 38 srt4)) Ir.env 1000000 5 [.sym 0, .sym 1] True = True := by kernel_rfl
end Go.Proofs.Ytpggfccbfplphaa.Tab
