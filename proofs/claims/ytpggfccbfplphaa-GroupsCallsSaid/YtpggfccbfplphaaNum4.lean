/- Number and Name at architecture 4: the program and the document answer the same, for every name and number. No condition. -/
import Derived.Test.YtpggfccbfplphaaTab
import Derived.Test.YtpggfccbfplphaaIr
import Derived.KernelRfl
namespace Go.Proofs.Ytpggfccbfplphaa.Tab
open Go.Ab
theorem numK4 : allK num4 (fun x q => ansK (atOrc fun _ => .bool) Ir.env 1000000 11 [.i .i64 4, .s x.1] (.tup [.i .u32 x.2.1, .i .i64 x.2.2]) (ansK (atOrc fun _ => .bool) Ir.env 1000000 12 [.i .i64 4, .s x.1] (.tup [.i .u32 x.2.1, .i .i64 x.2.2]) q)) = True := by kernel_rfl
theorem numU4 : ansK (atOrc strAt) Ir.env 1000000 11 [.i .i64 4, .sym 1] (.tup [.i .u32 0, .i .i64 90]) (ansK (atOrc strAt) Ir.env 1000000 12 [.i .i64 4, .sym 1] (.tup [.i .u32 0, .i .i64 90]) True) = True := by kernel_rfl
theorem namK4 : allK nam4 (fun x q => ansK ((atOrc fun _ => .bool).calls (tabOf 4 num4)) Ir.env 1000000 17 [.i .i64 4, .i .u32 x.1] (.s x.2) (ansK ((atOrc fun _ => .bool).calls (tabOf 4 num4)) Ir.env 1000000 18 [.i .i64 4, .i .u32 x.1] (.s x.2) q)) = True := by kernel_rfl
theorem namU4 : ansK ((atOrc (nrAt (nam4.map (·.1)))).calls (tabOf 4 num4)) Ir.env 1000000 17 [.i .i64 4, .sym 0] (.s []) (ansK ((atOrc (nrAt (nam4.map (·.1)))).calls (tabOf 4 num4)) Ir.env 1000000 18 [.i .i64 4, .sym 0] (.s []) True) = True := by kernel_rfl
end Go.Proofs.Ytpggfccbfplphaa.Tab
