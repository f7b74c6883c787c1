/- Runs of the law CallsKnown, architecture 1. No condition. -/
import Derived.Test.YtpggfccbfplphaaRuns
namespace Go.Proofs.Ytpggfccbfplphaa.Tab
open Go.Ab
theorem hasK1 : allK names (fun x q => yesK ((atOrc fun _ => .bool).calls (hasT 1 num1 40 srt1)) Ir.env 1000000 6 [.s x, .i .i64 1] q) = True := by kernel_rfl
theorem hasU1 : yesK ((atOrc (hasAt names 0 200)).calls (hasU 1 40 srt1)) Ir.env 1000000 6 [.sym 1, .i .i64 1] True = True := by kernel_rfl
end Go.Proofs.Ytpggfccbfplphaa.Tab
