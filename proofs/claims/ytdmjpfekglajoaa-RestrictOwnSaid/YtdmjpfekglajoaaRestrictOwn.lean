/- RestrictOwn at this program's numbers: whatever the policy and the assignment, true comes back. No condition. -/
import Derived.Test.YtdmjpfekglajoaaRestrictSet
import Derived.Test.YtdmjpfekglajoaaEnv18
import Derived.Test.YtdmjpfekglajoaaK9
namespace Go.Proofs.Ytdmjpfekglajoaa.Walk
open Go.Kc
theorem awake18 : Pure Try.prog 33 [] (.b true) := Pure.runB Env.envOk HookOk.none 1000000 rfl (Env.awakeRun _ rfl)
theorem keysO : Own Try.prog 66 [] (.map 0) [.map (keysE 93 94 95 96 97 98 99)] := keys_own (by kernel_rfl)
theorem own (p : Pol) (a : Asg) : Pure Try.prog 9 [.agg (cPol p), .agg (cAsg a)] (.b true) :=
  restrictOwn (by kernel_rfl) (great17_pure (f := 26) (by kernel_rfl) (great16_pure (f := 11) (by kernel_rfl))) (rises_pure (f := 32) (by kernel_rfl)) awake18
    (copied17 (f := 28) (by kernel_rfl) (copied16 (f := 64) (by kernel_rfl))) rset (key_pure (f := 35) (by kernel_rfl) keysO) p a
end Go.Proofs.Ytdmjpfekglajoaa.Walk
