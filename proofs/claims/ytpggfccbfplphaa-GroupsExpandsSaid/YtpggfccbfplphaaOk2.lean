/- The code in 'Ir2' is the program's. No condition. -/
import Derived.Test.YtpggfccbfplphaaCore21
import Derived.Test.YtpggfccbfplphaaIr2
import Derived.Test.YtpggfccbfplphaaProg
import Derived.KernelRfl
namespace Go.Proofs.Ytpggfccbfplphaa.Ir
open Go.Ab
theorem c62 : chkFn Try.prog 62 i62 = true := by kernel_rfl
theorem c63 : chkFn Try.prog 63 i63 = true := by kernel_rfl
theorem c64 : chkFn Try.prog 64 i64 = true := by kernel_rfl
theorem c65 : chkFn Try.prog 65 i65 = true := by kernel_rfl
theorem c66 : chkFn Try.prog 66 i66 = true := by kernel_rfl
theorem c67 : chkFn Try.prog 67 i67 = true := by kernel_rfl
theorem c68 : chkFn Try.prog 68 i68 = true := by kernel_rfl
theorem c69 : chkFn Try.prog 69 i69 = true := by kernel_rfl
theorem c70 : chkFn Try.prog 70 i70 = true := by kernel_rfl
theorem c71 : chkFn Try.prog 71 i71 = true := by kernel_rfl
theorem c72 : chkFn Try.prog 72 i72 = true := by kernel_rfl
theorem c73 : chkFn Try.prog 73 i73 = true := by kernel_rfl
theorem c74 : chkFn Try.prog 74 i74 = true := by kernel_rfl
theorem c75 : chkFn Try.prog 75 i75 = true := by kernel_rfl
theorem c76 : chkFn Try.prog 76 i76 = true := by kernel_rfl
theorem c77 : chkFn Try.prog 77 i77 = true := by kernel_rfl
theorem c78 : chkFn Try.prog 78 i78 = true := by kernel_rfl
theorem c79 : chkFn Try.prog 79 i79 = true := by kernel_rfl
theorem c80 : chkFn Try.prog 80 i80 = true := by kernel_rfl
theorem c81 : chkFn Try.prog 81 i81 = true := by kernel_rfl
theorem c82 : chkFn Try.prog 82 i82 = true := by kernel_rfl
theorem c83 : chkFn Try.prog 83 i83 = true := by kernel_rfl
theorem c84 : chkFn Try.prog 84 i84 = true := by kernel_rfl
theorem c85 : chkFn Try.prog 85 i85 = true := by kernel_rfl
theorem c86 : chkFn Try.prog 86 i86 = true := by kernel_rfl
end Go.Proofs.Ytpggfccbfplphaa.Ir
