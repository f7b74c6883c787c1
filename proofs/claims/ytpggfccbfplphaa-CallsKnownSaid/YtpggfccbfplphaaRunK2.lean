/- Runs of the law CallsKnown, architecture 2. No condition. -/
import Derived.Test.YtpggfccbfplphaaRuns
namespace Go.Proofs.Ytpggfccbfplphaa.Tab
open Go.Ab
theorem hasK2 : allK names (fun x q => yesK ((atOrc fun _ => .bool).calls (hasT 2 num2 37 srt2)) Ir.env 1000000 6 [.s x, .i .i64 2] q) = True := by kernel_rfl
theorem hasU2 : yesK ((atOrc (hasAt names 0 200)).calls (hasU 2 37 srt2)) Ir.env 1000000 6 [.sym 1, .i .i64 2] True = True := by kernel_rfl
end Go.Proofs.Ytpggfccbfplphaa.Tab
