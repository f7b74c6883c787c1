/- The law groupsExpands answers true. Condition: sizes and numbers are as their types allow. -/
import Derived.Test.YtpggfccbfplphaaGrpW
namespace Go.Proofs.Ytpggfccbfplphaa.groupsExpands
open Go.Ab
theorem walk (s0 : ByteArray) (w0 : s0.size ≤ maxLen) (w : World) : Calls Try.prog 7 #[.string s0] w fun e w' => e = .returned (.bool true) ∧ ∀ may, w.keptBut w' may :=
  Grp.law1 Grp.runEK Grp.runEU Grp.runEL s0 w0 w
end Go.Proofs.Ytpggfccbfplphaa.groupsExpands
