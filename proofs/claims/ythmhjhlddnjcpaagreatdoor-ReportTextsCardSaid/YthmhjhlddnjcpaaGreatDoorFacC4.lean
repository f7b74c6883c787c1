/- Answers of known calls, run. No condition. -/
import Derived.Test.YthmhjhlddnjcpaaGreatDoorFacV
import Derived.KernelRfl
namespace Go.Proofs.YthmhjhlddnjcpaaGreatDoor.FacC4
open Go.Kc EnvR FacV
noncomputable def kh:wZ:=extH
theorem kh_ok:vd Tryz.prog kh:=extOk
theorem g{f:Nat}{vs:List AV}{r:AV}(hc:qM vs=true:=by kernel_rfl)(h:∀n,n=1000000->qai env kh (qeu sites) (fr env kh (qeu sites) n) (Nat.succ f) vs H0 (fun v h=>tt (xA h r v))=True:=by rintro n rfl;kernel_rfl):qp Tryz.prog f vs r:=qp.runK envOk kh_ok qod 1000000 hc (h _ rfl)
def k122:qbf:=[
 ([.agg [.i .i64 4,.fz 1 [.i .u32 129,.nils,.i .u32 2147483648],.i .u32 2147418112]],.tup [v25,.i .i64 0])]
theorem k122_ok:∀q ∈ k122,qp Tryz.prog 122 q.1 q.2:=qlg g (qmJ)
def k231:qbf:=[
 ([v25],.b true)]
theorem k231_ok:∀q ∈ k231,qp Tryz.prog 231 q.1 q.2:=qlg g (qmJ)
def k120:qbf:=[
 ([v25],.tup [v26,.i .i64 0]),
 ([v28],.tup [v29,.i .i64 0])]
theorem k120_ok:∀q ∈ k120,qp Tryz.prog 120 q.1 q.2:=qlg g (qlg g (qmJ))
def k234:qbf:=[
 ([v25],v27)]
theorem k234_ok:∀q ∈ k234,qp Tryz.prog 234 q.1 q.2:=qlg g (qmJ)
def k235:qbf:=[
 ([v27],v27)]
theorem k235_ok:∀q ∈ k235,qp Tryz.prog 235 q.1 q.2:=qlg g (qmJ)
def k236:qbf:=[
 ([v27],v28)]
theorem k236_ok:∀q ∈ k236,qp Tryz.prog 236 q.1 q.2:=qlg g (qmJ)
end Go.Proofs.YthmhjhlddnjcpaaGreatDoor.FacC4
