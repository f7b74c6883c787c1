/- Number and Name at no architecture, Known, and the rows of awake: the program and the document answer the same. No condition. -/
import Derived.Test.YtpggfccbfplphaaTab
import Derived.Test.YtpggfccbfplphaaIr
import Derived.KernelRfl
namespace Go.Proofs.Ytpggfccbfplphaa.Tab
open Go.Ab
theorem numKL : allK names (fun x q => ansK (atOrc lowAt) Ir.env 1000000 11 [.sym 0, .s x] (.tup [.i .u32 0, .i .i64 90]) (ansK (atOrc lowAt) Ir.env 1000000 12 [.sym 0, .s x] (.tup [.i .u32 0, .i .i64 90]) q)) = True := by kernel_rfl
theorem numUL : ansK (atOrc lowAt) Ir.env 1000000 11 [.sym 0, .sym 1] (.tup [.i .u32 0, .i .i64 90]) (ansK (atOrc lowAt) Ir.env 1000000 12 [.sym 0, .sym 1] (.tup [.i .u32 0, .i .i64 90]) True) = True := by kernel_rfl
theorem namUL : ansK ((atOrc lowAt).calls (tabNone names)) Ir.env 1000000 17 [.sym 0, .sym 3] (.s []) (ansK ((atOrc lowAt).calls (tabNone names)) Ir.env 1000000 18 [.sym 0, .sym 3] (.s []) True) = True := by kernel_rfl
theorem numKH : allK names (fun x q => ansK (atOrc highAt) Ir.env 1000000 11 [.sym 0, .s x] (.tup [.i .u32 0, .i .i64 90]) (ansK (atOrc highAt) Ir.env 1000000 12 [.sym 0, .s x] (.tup [.i .u32 0, .i .i64 90]) q)) = True := by kernel_rfl
theorem numUH : ansK (atOrc highAt) Ir.env 1000000 11 [.sym 0, .sym 1] (.tup [.i .u32 0, .i .i64 90]) (ansK (atOrc highAt) Ir.env 1000000 12 [.sym 0, .sym 1] (.tup [.i .u32 0, .i .i64 90]) True) = True := by kernel_rfl
theorem namUH : ansK ((atOrc highAt).calls (tabNone names)) Ir.env 1000000 17 [.sym 0, .sym 3] (.s []) (ansK ((atOrc highAt).calls (tabNone names)) Ir.env 1000000 18 [.sym 0, .sym 3] (.s []) True) = True := by kernel_rfl
theorem knwK : allK names (fun x q => ansK (atOrc fun _ => .bool) Ir.env 1000000 15 [.s x] (.b true) (ansK (atOrc fun _ => .bool) Ir.env 1000000 16 [.s x] (.b true) q)) = True := by kernel_rfl
theorem knwU : ansK (atOrc strAt) Ir.env 1000000 15 [.sym 1] (.b false) (ansK (atOrc strAt) Ir.env 1000000 16 [.sym 1] (.b false) True) = True := by kernel_rfl
theorem awk : ansK (atOrc fun _ => .bool) Ir.env 1000000 19 [] (.b true) True = True := by kernel_rfl
end Go.Proofs.Ytpggfccbfplphaa.Tab
