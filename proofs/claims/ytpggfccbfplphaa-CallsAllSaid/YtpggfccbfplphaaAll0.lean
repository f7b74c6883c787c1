/- The abstract machine's run of the law CallsAll at the architectures 0 and 1: it answers true. No condition. -/
import Derived.Test.YtpggfccbfplphaaIr
import Derived.Test.YtpggfccbfplphaaCore22
import Derived.KernelRfl
namespace Go.Proofs.Ytpggfccbfplphaa.callsAll
open Go.Ab
theorem r0 : (callK Ir.env (awp (atOrc (fun _ => .bool)) Ir.env 1000000) 4 [.i .i64 0] hp0 (fun v _ => yes v)) = True := by kernel_rfl
theorem r1 : (callK Ir.env (awp (atOrc (fun _ => .bool)) Ir.env 1000000) 4 [.i .i64 1] hp0 (fun v _ => yes v)) = True := by kernel_rfl
end Go.Proofs.Ytpggfccbfplphaa.callsAll
