/- Number and Name at architecture 0: the program and the document answer the same, for every name and number. No condition. -/
import Derived.Test.YtpggfccbfplphaaTab
import Derived.Test.YtpggfccbfplphaaIr
import Derived.KernelRfl
namespace Go.Proofs.Ytpggfccbfplphaa.Tab
open Go.Ab
theorem numK0 : allK num0 (fun x q => ansK (atOrc fun _ => .bool) Ir.env 1000000 11 [.i .i64 0, .s x.1] (.tup [.i .u32 x.2.1, .i .i64 x.2.2]) (ansK (atOrc fun _ => .bool) Ir.env 1000000 12 [.i .i64 0, .s x.1] (.tup [.i .u32 x.2.1, .i .i64 x.2.2]) q)) = True := by kernel_rfl
theorem numU0 : ansK (atOrc strAt) Ir.env 1000000 11 [.i .i64 0, .sym 1] (.tup [.i .u32 0, .i .i64 90]) (ansK (atOrc strAt) Ir.env 1000000 12 [.i .i64 0, .sym 1] (.tup [.i .u32 0, .i .i64 90]) True) = True := by kernel_rfl
theorem namK0 : allK nam0 (fun x q => ansK ((atOrc fun _ => .bool).calls (tabOf 0 num0)) Ir.env 1000000 17 [.i .i64 0, .i .u32 x.1] (.s x.2) (ansK ((atOrc fun _ => .bool).calls (tabOf 0 num0)) Ir.env 1000000 18 [.i .i64 0, .i .u32 x.1] (.s x.2) q)) = True := by kernel_rfl
theorem namU0 : ansK ((atOrc (nrAt (nam0.map (·.1)))).calls (tabOf 0 num0)) Ir.env 1000000 17 [.i .i64 0, .sym 0] (.s []) (ansK ((atOrc (nrAt (nam0.map (·.1)))).calls (tabOf 0 num0)) Ir.env 1000000 18 [.i .i64 0, .sym 0] (.s []) True) = True := by kernel_rfl
end Go.Proofs.Ytpggfccbfplphaa.Tab
