/- The code in 'Ir1' is the program's. No condition. -/
import Derived.Test.YtpggfccbfplphaaCore21
import Derived.Test.YtpggfccbfplphaaIr1
import Derived.Test.YtpggfccbfplphaaProg
import Derived.KernelRfl
namespace Go.Proofs.Ytpggfccbfplphaa.Ir
open Go.Ab
theorem c37 : chkFn Try.prog 37 i37 = true := by kernel_rfl
theorem c38 : chkFn Try.prog 38 i38 = true := by kernel_rfl
theorem c39 : chkFn Try.prog 39 i39 = true := by kernel_rfl
theorem c40 : chkFn Try.prog 40 i40 = true := by kernel_rfl
theorem c41 : chkFn Try.prog 41 i41 = true := by kernel_rfl
theorem c42 : chkFn Try.prog 42 i42 = true := by kernel_rfl
theorem c43 : chkFn Try.prog 43 i43 = true := by kernel_rfl
theorem c44 : chkFn Try.prog 44 i44 = true := by kernel_rfl
theorem c45 : chkFn Try.prog 45 i45 = true := by kernel_rfl
theorem c46 : chkFn Try.prog 46 i46 = true := by kernel_rfl
theorem c47 : chkFn Try.prog 47 i47 = true := by kernel_rfl
theorem c48 : chkFn Try.prog 48 i48 = true := by kernel_rfl
theorem c49 : chkFn Try.prog 49 i49 = true := by kernel_rfl
theorem c50 : chkFn Try.prog 50 i50 = true := by kernel_rfl
theorem c51 : chkFn Try.prog 51 i51 = true := by kernel_rfl
theorem c52 : chkFn Try.prog 52 i52 = true := by kernel_rfl
theorem c53 : chkFn Try.prog 53 i53 = true := by kernel_rfl
theorem c54 : chkFn Try.prog 54 i54 = true := by kernel_rfl
theorem c55 : chkFn Try.prog 55 i55 = true := by kernel_rfl
theorem c56 : chkFn Try.prog 56 i56 = true := by kernel_rfl
theorem c57 : chkFn Try.prog 57 i57 = true := by kernel_rfl
theorem c58 : chkFn Try.prog 58 i58 = true := by kernel_rfl
theorem c59 : chkFn Try.prog 59 i59 = true := by kernel_rfl
theorem c60 : chkFn Try.prog 60 i60 = true := by kernel_rfl
theorem c61 : chkFn Try.prog 61 i61 = true := by kernel_rfl
end Go.Proofs.Ytpggfccbfplphaa.Ir
