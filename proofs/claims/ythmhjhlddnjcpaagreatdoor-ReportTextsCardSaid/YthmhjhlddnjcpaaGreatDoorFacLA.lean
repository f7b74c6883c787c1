/- Answers of known calls, run. No condition. -/
import Derived.Test.YthmhjhlddnjcpaaGreatDoorFacV
import Derived.KernelRfl
namespace Go.Proofs.YthmhjhlddnjcpaaGreatDoor.FacLA
open Go.Kc EnvR FacV
noncomputable def kh:wZ:=extH
theorem kh_ok:vd Tryz.prog kh:=extOk
theorem g{f:Nat}{vs:List AV}{r:AV}(hc:qM vs=true:=by kernel_rfl)(h:∀n,n=1000000->qai env kh (qeu sites) (fr env kh (qeu sites) n) (Nat.succ f) vs H0 (fun v h=>tt (xA h r v))=True:=by rintro n rfl;kernel_rfl):qp Tryz.prog f vs r:=qp.runK envOk kh_ok qod 1000000 hc (h _ rfl)
def k80:qbf:=[
 ([pA,.i .i64 0,.i .i64 0],z0),
 ([pA,.i .i64 0,.i .i64 1],z0),
 ([pA,.i .i64 0,.i .i64 2],z0),
 ([pA,.i .i64 0,.i .i64 3],z0),
 ([pA,.i .i64 0,.i .i64 4],z0),
 ([pA,.i .i64 0,.i .i64 5],z0),
 ([pA,.i .i64 1,.i .i64 0],.tup [.agg [.i .i64 0,.fz 1 [.i .u32 62,.nils,.i .u32 2147483648],.i .u32 2147418112],.b true]),
 ([pA,.i .i64 1,.i .i64 1],.tup [.agg [.i .i64 1,.fz 1 [.i .u32 37,.nils,.i .u32 2147483648],.i .u32 2147418112],.b true]),
 ([pA,.i .i64 1,.i .i64 2],.tup [.agg [.i .i64 2,.fz 1 [.i .u32 1073741886,.nils,.i .u32 2147483648],.i .u32 2147418112],.b true]),
 ([pA,.i .i64 1,.i .i64 3],.tup [.agg [.i .i64 3,.fz 1 [.i .u32 37,.nils,.i .u32 2147483648],.i .u32 2147418112],.b true]),
 ([pA,.i .i64 1,.i .i64 4],.tup [.agg [.i .i64 4,.fz 1 [.i .u32 129,.nils,.i .u32 2147483648],.i .u32 2147418112],.b true]),
 ([pA,.i .i64 1,.i .i64 5],.tup [.agg [.i .i64 5,.fz 1 [.i .u32 129,.nils,.i .u32 2147483648],.i .u32 2147418112],.b true]),
 ([pA,.i .i64 2,.i .i64 0],z0),
 ([pA,.i .i64 2,.i .i64 1],z0),
 ([pA,.i .i64 2,.i .i64 2],z0),
 ([pA,.i .i64 2,.i .i64 3],z0),
 ([pA,.i .i64 2,.i .i64 4],z0),
 ([pA,.i .i64 2,.i .i64 5],z0),
 ([pA,.i .i64 3,.i .i64 0],z0),
 ([pA,.i .i64 3,.i .i64 1],z0),
 ([pA,.i .i64 3,.i .i64 2],z0),
 ([pA,.i .i64 3,.i .i64 3],z0),
 ([pA,.i .i64 3,.i .i64 4],z0),
 ([pA,.i .i64 3,.i .i64 5],z0),
 ([pA,.i .i64 4,.i .i64 0],z0),
 ([pA,.i .i64 4,.i .i64 1],z0),
 ([pA,.i .i64 4,.i .i64 2],z0),
 ([pA,.i .i64 4,.i .i64 3],z0),
 ([pA,.i .i64 4,.i .i64 4],z0),
 ([pA,.i .i64 4,.i .i64 5],z0),
 ([pA,.i .i64 5,.i .i64 0],z0),
 ([pA,.i .i64 5,.i .i64 1],z0),
 ([pA,.i .i64 5,.i .i64 2],z0),
 ([pA,.i .i64 5,.i .i64 3],z0),
 ([pA,.i .i64 5,.i .i64 4],z0),
 ([pA,.i .i64 5,.i .i64 5],z0),
 ([pA,.i .i64 6,.i .i64 0],z0),
 ([pA,.i .i64 6,.i .i64 1],z0),
 ([pA,.i .i64 6,.i .i64 2],z0),
 ([pA,.i .i64 6,.i .i64 3],z0),
 ([pA,.i .i64 6,.i .i64 4],z0),
 ([pA,.i .i64 6,.i .i64 5],z0),
 ([pA,.i .i64 7,.i .i64 0],z0),
 ([pA,.i .i64 7,.i .i64 1],z0),
 ([pA,.i .i64 7,.i .i64 2],z0),
 ([pA,.i .i64 7,.i .i64 3],z0),
 ([pA,.i .i64 7,.i .i64 4],z0),
 ([pA,.i .i64 7,.i .i64 5],z0)]
theorem k80_ok:∀q ∈ k80,qp Tryz.prog 80 q.1 q.2:=qlg g (qlg g (qlg g (qlg g (qlg g (qlg g (qlg g (qlg g (qlg g (qlg g (qlg g (qlg g (qlg g (qlg g (qlg g (qlg g (qlg g (qlg g (qlg g (qlg g (qlg g (qlg g (qlg g (qlg g (qlg g (qlg g (qlg g (qlg g (qlg g (qlg g (qlg g (qlg g (qlg g (qlg g (qlg g (qlg g (qlg g (qlg g (qlg g (qlg g (qlg g (qlg g (qlg g (qlg g (qlg g (qlg g (qlg g (qlg g (qmJ))))))))))))))))))))))))))))))))))))))))))))))))
end Go.Proofs.YthmhjhlddnjcpaaGreatDoor.FacLA
