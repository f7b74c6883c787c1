/- The law groupsCalls answers true. Condition: sizes and numbers are as their types allow. -/
import Derived.Test.YtpggfccbfplphaaGrpC
import Derived.Test.YtpggfccbfplphaaGrpD0
import Derived.Test.YtpggfccbfplphaaGrpD1
import Derived.Test.YtpggfccbfplphaaGrpD2
import Derived.Test.YtpggfccbfplphaaGrpW
namespace Go.Proofs.Ytpggfccbfplphaa.groupsCalls
open Go.Ab
theorem walk (s0 : ByteArray) (w0 : s0.size ≤ maxLen) (a1 : Int) (w1 : (Lit.int .i64 a1).wf = true) (w : World) : Calls Try.prog 9 #[.string s0, .int .i64 a1] w fun e w' => e = .returned (.bool true) ∧ ∀ may, w.keptBut w' may :=
  Grp.law2 Grp.runCK Grp.runCU0 Grp.runCU1 Grp.runCU2 Grp.runCL s0 w0 a1 (Grp.range w1) w
end Go.Proofs.Ytpggfccbfplphaa.groupsCalls
