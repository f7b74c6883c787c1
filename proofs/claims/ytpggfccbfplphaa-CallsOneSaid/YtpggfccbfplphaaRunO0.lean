/- Runs of the law CallsOne, architecture 0. No condition. -/
import Derived.Test.YtpggfccbfplphaaRuns
namespace Go.Proofs.Ytpggfccbfplphaa.Tab
open Go.Ab
theorem oneK0 : allK nam0 (fun x q => yesK (oneOrc [] 0 (oneT 0 num0 nam0 40 srt0)) Ir.env 1000000 5 [.sym 0, .i .u32 x.1] q) = True := by kernel_rfl
theorem oneU0 : yesK (oneOrc (nam0.map (·.1)) 0 (oneU 0 num0 nam0 40 srt0)) Ir.env 1000000 5 [.sym 0, .sym 1] True = True := by kernel_rfl
end Go.Proofs.Ytpggfccbfplphaa.Tab
