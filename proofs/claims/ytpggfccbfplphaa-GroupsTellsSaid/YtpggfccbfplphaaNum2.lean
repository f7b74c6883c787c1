/- Number and Name at architecture 2: the program and the document answer the same, for every name and number. No condition. -/
import Derived.Test.YtpggfccbfplphaaTab
import Derived.Test.YtpggfccbfplphaaIr
import Derived.KernelRfl
namespace Go.Proofs.Ytpggfccbfplphaa.Tab
open Go.Ab
theorem numK2 : allK num2 (fun x q => ansK (atOrc fun _ => .bool) Ir.env 1000000 11 [.i .i64 2, .s x.1] (.tup [.i .u32 x.2.1, .i .i64 x.2.2]) (ansK (atOrc fun _ => .bool) Ir.env 1000000 12 [.i .i64 2, .s x.1] (.tup [.i .u32 x.2.1, .i .i64 x.2.2]) q)) = True := by kernel_rfl
theorem numU2 : ansK (atOrc strAt) Ir.env 1000000 11 [.i .i64 2, .sym 1] (.tup [.i .u32 0, .i .i64 90]) (ansK (atOrc strAt) Ir.env 1000000 12 [.i .i64 2, .sym 1] (.tup [.i .u32 0, .i .i64 90]) True) = True := by kernel_rfl
theorem namK2 : allK nam2 (fun x q => ansK ((atOrc fun _ => .bool).calls (tabOf 2 num2)) Ir.env 1000000 17 [.i .i64 2, .i .u32 x.1] (.s x.2) (ansK ((atOrc fun _ => .bool).calls (tabOf 2 num2)) Ir.env 1000000 18 [.i .i64 2, .i .u32 x.1] (.s x.2) q)) = True := by kernel_rfl
theorem namU2 : ansK ((atOrc (nrAt (nam2.map (·.1)))).calls (tabOf 2 num2)) Ir.env 1000000 17 [.i .i64 2, .sym 0] (.s []) (ansK ((atOrc (nrAt (nam2.map (·.1)))).calls (tabOf 2 num2)) Ir.env 1000000 18 [.i .i64 2, .sym 0] (.s []) True) = True := by kernel_rfl
end Go.Proofs.Ytpggfccbfplphaa.Tab
