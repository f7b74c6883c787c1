/- FilterOwn at this program's numbers. No condition. -/
import Derived.Test.YtdmjpfekglajoaaK9
import Derived.Test.YtdmjpfekglajoaaFoldA

namespace Go.Proofs.Ytdmjpfekglajoaa.Walk
open Go.Kc
theorem clC : cClone Try.prog 73 2 24 := clone_call (by kernel_rfl)
theorem fcop : cCopied Try.prog 63 := copied_filter (by kernel_rfl) (clone_int (f := 91) (by kernel_rfl)) (clone_u32 (f := 92) (by kernel_rfl)) clC
theorem keysO : Own Try.prog 62 [] (.map 0) [.map (keysF 114 88 89 90)] := keysF_own (by kernel_rfl) (list_pure (f := 87) (by kernel_rfl))
theorem erF : cErrF Try.prog 21 := errF_filter (by kernel_rfl) erN
theorem fset : cSetF expG Try.prog 27 := setF_pure (by kernel_rfl) fcop keysO (by kernel_rfl) stepO (by kernel_rfl) (by kernel_rfl) (by kernel_rfl) erF
theorem keyP : ∀ k, Pure Try.prog 23 [.s k] (.b (keyF k)) := keyF_pure (by kernel_rfl) keysO
theorem great17 : ∀ p a, Pure Try.prog 26 [.agg (cPol p), .agg (cAsg a)] (.b (Go.Kc.great17 p a)) := great17_pure (by kernel_rfl) great16
theorem cop17 : cCopied Try.prog 28 := copied17 (by kernel_rfl) (copied16 (f := 64) (by kernel_rfl))
theorem sameL : cSameL Try.prog 29 := sameLists_self (by kernel_rfl)
theorem own (p : Pol) (a : Asg) (hm : 0 ≤ p.filter.mode ∧ 0 ≤ p.log.mode) : Pure Try.prog 7 [.agg (cPol p), .agg (cAsg a)] (.b true) := filterOwn (by kernel_rfl) great17 EnvG.awake cop17 fset sameL keyP p a hm
end Go.Proofs.Ytdmjpfekglajoaa.Walk
