/- Answers of known calls, run. No condition. -/
import Derived.Test.YthmhjhlddnjcpaaGreatDoorFacV
import Derived.KernelRfl
namespace Go.Proofs.YthmhjhlddnjcpaaGreatDoor.FacR
open Go.Kc EnvR FacV
noncomputable def kh:wZ:=extH
theorem kh_ok:vd Tryz.prog kh:=extOk
theorem g{f:Nat}{vs:List AV}{r:AV}(hc:qM vs=true:=by kernel_rfl)(h:∀n,n=1000000->qai env kh (qeu sites) (fr env kh (qeu sites) n) (Nat.succ f) vs H0 (fun v h=>tt (xA h r v))=True:=by rintro n rfl;kernel_rfl):qp Tryz.prog f vs r:=qp.runK envOk kh_ok qod 1000000 hc (h _ rfl)
def k33:qbf:=[
 ([a0],.tup [pA,.fz 0 []]),
 ([a1],.tup [pB,.fz 1 [.s [102],.i .i64 2,.i .i64 90,.s [110,111,116,104,105,110,103]]]),
 ([a2],.tup [pC,.fz 1 [.s [102],.i .i64 2,.i .i64 90,.s [110,111,116,104,105,110,103]]]),
 ([a3],.tup [pM,.fz 1 [.s [102],.i .i64 2,.i .i64 150,.s [109,97,121,98,101]]]),
 ([.fz 0 []],.tup [pZ,.nils])]
theorem k33_ok:∀q ∈ k33,qp Tryz.prog 33 q.1 q.2:=qlg g (qlg g (qlg g (qlg g (qlg g (qmJ)))))
end Go.Proofs.YthmhjhlddnjcpaaGreatDoor.FacR
