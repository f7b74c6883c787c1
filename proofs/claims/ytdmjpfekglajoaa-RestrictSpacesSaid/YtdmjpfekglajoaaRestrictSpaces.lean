/- RestrictSpaces at this program's numbers: whatever the value, true comes back. No condition. -/
import Derived.Test.YtdmjpfekglajoaaRestrictSet
import Derived.Test.YtdmjpfekglajoaaEnv18
namespace Go.Proofs.Ytdmjpfekglajoaa.Walk
open Go.Kc
theorem aft : cAfter1 Try.prog 37 := after1 (by kernel_rfl) rset
theorem awake18 : Pure Try.prog 33 [] (.b true) := Pure.runB Env.envOk HookOk.none 1000000 rfl (Env.awakeRun _ rfl)
theorem spaces (v : List UInt8) : Pure Try.prog 10 [.s v] (.b true) :=
  restrictSpaces (by kernel_rfl) words awake18 bool turned aft spA (fun v hv => spaces1 (f := 39) (by kernel_rfl) aft v hv) v
end Go.Proofs.Ytdmjpfekglajoaa.Walk
namespace Go.Proofs.Ytdmjpfekglajoaa.restrictSpaces
open Go.Kc
theorem walk (s0 : ByteArray) (w0 : s0.size ≤ maxLen) (w : World) : Calls Try.prog 10 #[.string s0] w fun e w' => e = .returned (.bool true) ∧ ∀ may, w.keptBut w' may := by
  obtain ⟨⟨l⟩⟩ := s0
  exact (Walk.spaces l).law ⟨_, Try.func10, by first | kernel_rfl | decide, rfl⟩ w (.cons _ _ _ _ (.s _) .nil)
end Go.Proofs.Ytdmjpfekglajoaa.restrictSpaces
