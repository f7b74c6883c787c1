/- Runs of the law CallsKnown, architecture 4. No condition. -/
import Derived.Test.YtpggfccbfplphaaRuns
namespace Go.Proofs.Ytpggfccbfplphaa.Tab
open Go.Ab
theorem hasK4 : allK names (fun x q => yesK ((atOrc fun _ => .bool).calls (hasT 4 num4 38 srt4)) Ir.env 1000000 6 [.s x, .i .i64 4] q) = True := by kernel_rfl
theorem hasU4 : yesK ((atOrc (hasAt names 0 200)).calls (hasU 4 38 srt4)) Ir.env 1000000 6 [.sym 1, .i .i64 4] True = True := by kernel_rfl
end Go.Proofs.Ytpggfccbfplphaa.Tab
