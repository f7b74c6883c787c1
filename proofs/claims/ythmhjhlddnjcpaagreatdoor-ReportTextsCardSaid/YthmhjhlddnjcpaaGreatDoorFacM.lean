/- Answers of known calls, run. No condition. -/
import Derived.Test.YthmhjhlddnjcpaaGreatDoorFacV
import Derived.KernelRfl
namespace Go.Proofs.YthmhjhlddnjcpaaGreatDoor.FacM
open Go.Kc EnvR FacV
noncomputable def kh:wZ:=extH
theorem kh_ok:vd Tryz.prog kh:=extOk
theorem g{f:Nat}{vs:List AV}{r:AV}(hc:qM vs=true:=by kernel_rfl)(h:∀n,n=1000000->qai env kh (qeu sites) (fr env kh (qeu sites) n) (Nat.succ f) vs H0 (fun v h=>tt (xA h r v))=True:=by rintro n rfl;kernel_rfl):qp Tryz.prog f vs r:=qp.runK envOk kh_ok qod 1000000 hc (h _ rfl)
theorem r0:qp Tryz.prog 32 [fl t0,.nils] (.tup [a0,.nils]):=g
theorem r1:qp Tryz.prog 32 [fl t1,.nils] (.tup [a1,.nils]):=g
theorem r2:qp Tryz.prog 32 [fl t2,.nils] (.tup [a2,.nils]):=g
theorem r3:qp Tryz.prog 32 [fl t3,.nils] (.tup [a3,.nils]):=g
theorem r4:qp Tryz.prog 32 [fl t4,.nils] (.tup [.nils,.fz 1 [.s [102],.i .i64 1,.i .i64 130,.s [120]]]):=g
theorem r5:qp Tryz.prog 32 [fl t5,.nils] (.tup [.fz 0 [],.nils]):=qp.nil3 (cs:=[.nils]) g g
def k32:qbf:=[([fl t0,.nils],.tup [a0,.nils]),([fl t1,.nils],.tup [a1,.nils]),([fl t2,.nils],.tup [a2,.nils]),([fl t3,.nils],.tup [a3,.nils]),([fl t4,.nils],.tup [.nils,.fz 1 [.s [102],.i .i64 1,.i .i64 130,.s [120]]]),([fl t5,.nils],.tup [.fz 0 [],.nils])]
theorem k32_ok:∀q ∈ k32,qp Tryz.prog 32 q.1 q.2:=qlg r0 (qlg r1 (qlg r2 (qlg r3 (qlg r4 (qlg r5 (qmJ))))))
end Go.Proofs.YthmhjhlddnjcpaaGreatDoor.FacM
