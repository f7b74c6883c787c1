/- The law CallsOne answers true. Condition: numbers are as their types allow. -/
import Derived.Test.YtpggfccbfplphaaRunO0
import Derived.Test.YtpggfccbfplphaaRunO1
import Derived.Test.YtpggfccbfplphaaRunO2
import Derived.Test.YtpggfccbfplphaaRunO3
import Derived.Test.YtpggfccbfplphaaRunO4
import Derived.Test.YtpggfccbfplphaaRunO5
import Derived.Test.YtpggfccbfplphaaWalkA
namespace Go.Proofs.Ytpggfccbfplphaa.callsOne
open Go.Ab Tab
theorem walk (a0 : Int) (w0 : (Lit.int .i64 a0).wf = true) (a1 : Int) (w1 : (Lit.int .u32 a1).wf = true) (w : World) :
    Calls Try.prog 5 #[.int .i64 a0, .int .u32 a1] w fun e w' => e = .returned (.bool true) ∧ ∀ may, w.keptBut w' may := by
  have hv : -9223372036854775808 ≤ a0 ∧ a0 ≤ 9223372036854775807 := by
    simp only [Lit.wf, Bool.and_eq_true, decide_eq_true_eq] at w0
    exact w0
  have hr : 0 ≤ a1 ∧ a1 ≤ 4294967295 := by
    simp only [Lit.wf, Bool.and_eq_true, decide_eq_true_eq] at w1
    exact w1
  have hm : (IntKind.wrap .u64 a0).tmod 6 = 0 ∨ (IntKind.wrap .u64 a0).tmod 6 = 1 ∨ (IntKind.wrap .u64 a0).tmod 6 = 2 ∨ (IntKind.wrap .u64 a0).tmod 6 = 3 ∨ (IntKind.wrap .u64 a0).tmod 6 = 4 ∨ (IntKind.wrap .u64 a0).tmod 6 = 5 := by
    obtain ⟨h1, _⟩ := u64_in a0
    generalize IntKind.wrap .u64 a0 = x at h1 ⊢
    rw [Int.tmod_eq_emod_of_nonneg h1]
    have h2 : 0 ≤ x % 6 := Int.emod_nonneg _ (by decide)
    have h3 : x % 6 < 6 := Int.emod_lt_of_pos _ (by decide)
    omega
  rcases hm with h | h | h | h | h | h
  · exact oneArch numK0 namK0 namU0 rowNK rowK0 known_all oneK0 oneU0 hv hr h w
  · exact oneArch numK1 namK1 namU1 rowNK rowK1 known_all oneK1 oneU1 hv hr h w
  · exact oneArch numK2 namK2 namU2 rowNK rowK2 known_all oneK2 oneU2 hv hr h w
  · exact oneArch numK3 namK3 namU3 rowNK rowK3 known_all oneK3 oneU3 hv hr h w
  · exact oneArch numK4 namK4 namU4 rowNK rowK4 known_all oneK4 oneU4 hv hr h w
  · exact oneArch numK5 namK5 namU5 rowNK rowK5 known_all oneK5 oneU5 hv hr h w
end Go.Proofs.Ytpggfccbfplphaa.callsOne
