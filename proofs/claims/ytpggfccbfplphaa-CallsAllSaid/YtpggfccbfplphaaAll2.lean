/- The abstract machine's run of the law CallsAll at the architectures 2 and 3: it answers true. No condition. -/
import Derived.Test.YtpggfccbfplphaaIr
import Derived.Test.YtpggfccbfplphaaCore22
import Derived.KernelRfl
namespace Go.Proofs.Ytpggfccbfplphaa.callsAll
open Go.Ab
theorem r2 : (callK Ir.env (awp (atOrc (fun _ => .bool)) Ir.env 1000000) 4 [.i .i64 2] hp0 (fun v _ => yes v)) = True := by kernel_rfl
theorem r3 : (callK Ir.env (awp (atOrc (fun _ => .bool)) Ir.env 1000000) 4 [.i .i64 3] hp0 (fun v _ => yes v)) = True := by kernel_rfl
end Go.Proofs.Ytpggfccbfplphaa.callsAll
