/- FilterLists at this program's numbers. No condition. -/
import Derived.Test.YtdmjpfekglajoaaK9
import Derived.Test.YtdmjpfekglajoaaFoldA

namespace Go.Proofs.Ytdmjpfekglajoaa.Walk
open Go.Kc
theorem clC:cClone Try.prog 73 2 24:=clone_call (by kernel_rfl)
theorem fcop:cCopied Try.prog 63:=copied_filter (by kernel_rfl) (clone_int (f:=91) (by kernel_rfl)) (clone_u32 (f:=92) (by kernel_rfl)) clC
theorem keysO:Own Try.prog 62 [] (.map 0) [.map (keysF 114 88 89 90)]:=keysF_own (by kernel_rfl) (list_pure (f:=87) (by kernel_rfl))
theorem erF:cErrF Try.prog 21:=errF_filter (by kernel_rfl) erN
theorem fset:cSetF expG Try.prog 27:=setF_pure (by kernel_rfl) fcop keysO (by kernel_rfl) stepO (by kernel_rfl) (by kernel_rfl) (by kernel_rfl) erF
theorem sameL:cSameL Try.prog 29:=sameLists_self (by kernel_rfl)
theorem fold:cFold expG Try.prog 31:=fold_pure (by kernel_rfl) expG_ok step
theorem flists (vs:List (List UInt8)) (ps:List Int) (h:∀ p ∈ ps,0 ≤ p):Pure Try.prog 8 [.fz vs.length (rS vs),.fz ps.length (rI .u8 ps)] (.b true) :=
  filterLists (by kernel_rfl) expG_ok EnvG.awake (of17 (f:=30) (by kernel_rfl)) fset erF fold sameL vs ps h
end Go.Proofs.Ytdmjpfekglajoaa.Walk
