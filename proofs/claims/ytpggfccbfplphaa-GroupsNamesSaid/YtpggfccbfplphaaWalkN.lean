/- The law groupsNames answers true. Condition: sizes and numbers are as their types allow. -/
import Derived.Test.YtpggfccbfplphaaGrpN
import Derived.Test.YtpggfccbfplphaaGrpW
namespace Go.Proofs.Ytpggfccbfplphaa.groupsNames
open Go.Ab
theorem walk (a0 : Int) (w0 : (Lit.int .i64 a0).wf = true) (w : World) : Calls Try.prog 10 #[.int .i64 a0] w fun e w' => e = .returned (.bool true) ∧ ∀ may, w.keptBut w' may :=
  Grp.law3 Grp.runCN a0 (Grp.range w0) w
end Go.Proofs.Ytpggfccbfplphaa.groupsNames
