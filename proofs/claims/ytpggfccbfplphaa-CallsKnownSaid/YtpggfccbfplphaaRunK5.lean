/- Runs of the law CallsKnown, architecture 5. No condition. -/
import Derived.Test.YtpggfccbfplphaaRuns
namespace Go.Proofs.Ytpggfccbfplphaa.Tab
open Go.Ab
theorem hasK5 : allK names (fun x q => yesK ((atOrc fun _ => .bool).calls (hasT 5 num5 37 srt5)) Ir.env 1000000 6 [.s x, .i .i64 5] q) = True := by kernel_rfl
theorem hasU5 : yesK ((atOrc (hasAt names 0 200)).calls (hasU 5 37 srt5)) Ir.env 1000000 6 [.sym 1, .i .i64 5] True = True := by kernel_rfl
end Go.Proofs.Ytpggfccbfplphaa.Tab
