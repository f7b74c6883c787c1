/- The code in 'Ir1' is the program's. No condition. -/
import Derived.Test.YtbcpapkjdphfpaaCore21
import Derived.Test.YtbcpapkjdphfpaaIr1
import Derived.Test.YtbcpapkjdphfpaaProg
import Derived.KernelRfl
namespace Go.Proofs.Ytbcpapkjdphfpaa.Ir
open Go.Ab
theorem c47 : chkFn Try.prog 47 i47 = true := by kernel_rfl
theorem c48 : chkFn Try.prog 48 i48 = true := by kernel_rfl
theorem c49 : chkFn Try.prog 49 i49 = true := by kernel_rfl
theorem c50 : chkFn Try.prog 50 i50 = true := by kernel_rfl
theorem c51 : chkFn Try.prog 51 i51 = true := by kernel_rfl
theorem c52 : chkFn Try.prog 52 i52 = true := by kernel_rfl
theorem c53 : chkFn Try.prog 53 i53 = true := by kernel_rfl
theorem c54 : chkFn Try.prog 54 i54 = true := by kernel_rfl
theorem c55 : chkFn Try.prog 55 i55 = true := by kernel_rfl
theorem c56 : chkFn Try.prog 56 i56 = true := by kernel_rfl
theorem c57 : chkFn Try.prog 57 i57 = true := by kernel_rfl
theorem c58 : chkFn Try.prog 58 i58 = true := by kernel_rfl
theorem c59 : chkFn Try.prog 59 i59 = true := by kernel_rfl
theorem c60 : chkFn Try.prog 60 i60 = true := by kernel_rfl
theorem c61 : chkFn Try.prog 61 i61 = true := by kernel_rfl
theorem c62 : chkFn Try.prog 62 i62 = true := by kernel_rfl
theorem c63 : chkFn Try.prog 63 i63 = true := by kernel_rfl
theorem c64 : chkFn Try.prog 64 i64 = true := by kernel_rfl
theorem c65 : chkFn Try.prog 65 i65 = true := by kernel_rfl
theorem c66 : chkFn Try.prog 66 i66 = true := by kernel_rfl
theorem c67 : chkFn Try.prog 67 i67 = true := by kernel_rfl
theorem c68 : chkFn Try.prog 68 i68 = true := by kernel_rfl
theorem c69 : chkFn Try.prog 69 i69 = true := by kernel_rfl
theorem c70 : chkFn Try.prog 70 i70 = true := by kernel_rfl
theorem c72 : chkFn Try.prog 72 i72 = true := by kernel_rfl
theorem c73 : chkFn Try.prog 73 i73 = true := by kernel_rfl
theorem c74 : chkFn Try.prog 74 i74 = true := by kernel_rfl
theorem c75 : chkFn Try.prog 75 i75 = true := by kernel_rfl
theorem c77 : chkFn Try.prog 77 i77 = true := by kernel_rfl
theorem c78 : chkFn Try.prog 78 i78 = true := by kernel_rfl
theorem c79 : chkFn Try.prog 79 i79 = true := by kernel_rfl
theorem c80 : chkFn Try.prog 80 i80 = true := by kernel_rfl
theorem c81 : chkFn Try.prog 81 i81 = true := by kernel_rfl
theorem c82 : chkFn Try.prog 82 i82 = true := by kernel_rfl
theorem c83 : chkFn Try.prog 83 i83 = true := by kernel_rfl
end Go.Proofs.Ytbcpapkjdphfpaa.Ir
