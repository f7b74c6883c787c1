/- The code in 'Ir0' is the program's. No condition. -/
import Derived.Test.YtbcpapkjdphfpaaCore21
import Derived.Test.YtbcpapkjdphfpaaIr0
import Derived.Test.YtbcpapkjdphfpaaProg
import Derived.KernelRfl
namespace Go.Proofs.Ytbcpapkjdphfpaa.Ir
open Go.Ab
theorem c2 : chkFn Try.prog 2 i2 = true := by kernel_rfl
theorem c3 : chkFn Try.prog 3 i3 = true := by kernel_rfl
theorem c4 : chkFn Try.prog 4 i4 = true := by kernel_rfl
theorem c5 : chkFn Try.prog 5 i5 = true := by kernel_rfl
theorem c6 : chkFn Try.prog 6 i6 = true := by kernel_rfl
theorem c7 : chkFn Try.prog 7 i7 = true := by kernel_rfl
theorem c8 : chkFn Try.prog 8 i8 = true := by kernel_rfl
theorem c9 : chkFn Try.prog 9 i9 = true := by kernel_rfl
theorem c10 : chkFn Try.prog 10 i10 = true := by kernel_rfl
theorem c11 : chkFn Try.prog 11 i11 = true := by kernel_rfl
theorem c12 : chkFn Try.prog 12 i12 = true := by kernel_rfl
theorem c13 : chkFn Try.prog 13 i13 = true := by kernel_rfl
theorem c14 : chkFn Try.prog 14 i14 = true := by kernel_rfl
theorem c15 : chkFn Try.prog 15 i15 = true := by kernel_rfl
theorem c16 : chkFn Try.prog 16 i16 = true := by kernel_rfl
theorem c17 : chkFn Try.prog 17 i17 = true := by kernel_rfl
theorem c18 : chkFn Try.prog 18 i18 = true := by kernel_rfl
theorem c19 : chkFn Try.prog 19 i19 = true := by kernel_rfl
theorem c20 : chkFn Try.prog 20 i20 = true := by kernel_rfl
theorem c21 : chkFn Try.prog 21 i21 = true := by kernel_rfl
theorem c22 : chkFn Try.prog 22 i22 = true := by kernel_rfl
theorem c23 : chkFn Try.prog 23 i23 = true := by kernel_rfl
theorem c24 : chkFn Try.prog 24 i24 = true := by kernel_rfl
theorem c25 : chkFn Try.prog 25 i25 = true := by kernel_rfl
theorem c26 : chkFn Try.prog 26 i26 = true := by kernel_rfl
theorem c27 : chkFn Try.prog 27 i27 = true := by kernel_rfl
theorem c28 : chkFn Try.prog 28 i28 = true := by kernel_rfl
theorem c29 : chkFn Try.prog 29 i29 = true := by kernel_rfl
theorem c30 : chkFn Try.prog 30 i30 = true := by kernel_rfl
theorem c31 : chkFn Try.prog 31 i31 = true := by kernel_rfl
theorem c32 : chkFn Try.prog 32 i32 = true := by kernel_rfl
theorem c33 : chkFn Try.prog 33 i33 = true := by kernel_rfl
theorem c34 : chkFn Try.prog 34 i34 = true := by kernel_rfl
theorem c35 : chkFn Try.prog 35 i35 = true := by kernel_rfl
theorem c36 : chkFn Try.prog 36 i36 = true := by kernel_rfl
theorem c37 : chkFn Try.prog 37 i37 = true := by kernel_rfl
theorem c38 : chkFn Try.prog 38 i38 = true := by kernel_rfl
theorem c39 : chkFn Try.prog 39 i39 = true := by kernel_rfl
theorem c40 : chkFn Try.prog 40 i40 = true := by kernel_rfl
theorem c41 : chkFn Try.prog 41 i41 = true := by kernel_rfl
theorem c42 : chkFn Try.prog 42 i42 = true := by kernel_rfl
theorem c43 : chkFn Try.prog 43 i43 = true := by kernel_rfl
theorem c44 : chkFn Try.prog 44 i44 = true := by kernel_rfl
theorem c45 : chkFn Try.prog 45 i45 = true := by kernel_rfl
theorem c46 : chkFn Try.prog 46 i46 = true := by kernel_rfl
end Go.Proofs.Ytbcpapkjdphfpaa.Ir
