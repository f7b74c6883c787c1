/- Runs of the law CallsKnown, architecture 0. No condition. -/
import Derived.Test.YtpggfccbfplphaaRuns
namespace Go.Proofs.Ytpggfccbfplphaa.Tab
open Go.Ab
theorem hasK0 : allK names (fun x q => yesK ((atOrc fun _ => .bool).calls (hasT 0 num0 40 srt0)) Ir.env 1000000 6 [.s x, .i .i64 0] q) = True := by kernel_rfl
theorem hasU0 : yesK ((atOrc (hasAt names 0 200)).calls (hasU 0 40 srt0)) Ir.env 1000000 6 [.sym 1, .i .i64 0] True = True := by kernel_rfl
end Go.Proofs.Ytpggfccbfplphaa.Tab
