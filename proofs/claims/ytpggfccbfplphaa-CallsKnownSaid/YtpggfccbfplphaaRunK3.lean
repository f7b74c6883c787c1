/- Runs of the law CallsKnown, architecture 3. No condition. -/
import Derived.Test.YtpggfccbfplphaaRuns
namespace Go.Proofs.Ytpggfccbfplphaa.Tab
open Go.Ab
theorem hasK3 : allK names (fun x q => yesK ((atOrc fun _ => .bool).calls (hasT 3 num3 39 srt3)) Ir.env 1000000 6 [.s x, .i .i64 3] q) = True := by kernel_rfl
theorem hasU3 : yesK ((atOrc (hasAt names 0 200)).calls (hasU 3 39 srt3)) Ir.env 1000000 6 [.sym 1, .i .i64 3] True = True := by kernel_rfl
end Go.Proofs.Ytpggfccbfplphaa.Tab
