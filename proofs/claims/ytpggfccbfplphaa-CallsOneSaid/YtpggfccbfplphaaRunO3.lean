/- Runs of the law CallsOne, architecture 3. No condition. -/
import Derived.Test.YtpggfccbfplphaaRuns
namespace Go.Proofs.Ytpggfccbfplphaa.Tab
open Go.Ab
theorem oneK3 : allK nam3 (fun x q => yesK (oneOrc [] 3 (oneT 3 num3 nam3 39 srt3)) Ir.env 1000000 5 [.sym 0, .i .u32 x.1] q) = True := by kernel_rfl
theorem oneU3 : yesK (oneOrc (nam3.map (·.1)) 3 (oneU 3 num3 nam3 39 srt3)) Ir.env 1000000 5 [.sym 0, .sym 1] True = True := by kernel_rfl
end Go.Proofs.Ytpggfccbfplphaa.Tab
