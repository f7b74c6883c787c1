/- Answers of known calls, run. No condition. -/
import Derived.Test.YthmhjhlddnjcpaaGreatDoorFacD
import Derived.Test.YthmhjhlddnjcpaaGreatDoorFacLA
import Derived.Test.YthmhjhlddnjcpaaGreatDoorFacLB
import Derived.Test.YthmhjhlddnjcpaaGreatDoorFacLC
import Derived.Test.YthmhjhlddnjcpaaGreatDoorFacLZ
import Derived.KernelRfl
namespace Go.Proofs.YthmhjhlddnjcpaaGreatDoor.FacB
open Go.Kc EnvR FacV
noncomputable def kh:wZ:=qj5 [(80,(FacLA.k80++(FacLB.k80++(FacLC.k80++FacLZ.k80)))),(48,FacD.k48)]
theorem kh_ok:vd Tryz.prog kh:=qgF (by
 intro e he;simp only[List.mem_cons,List.not_mem_nil,or_false] at he;rcases he with rfl|rfl
 ·exact qmI FacLA.k80_ok (qmI FacLB.k80_ok (qmI FacLC.k80_ok (FacLZ.k80_ok)))
 ·exact FacD.k48_ok
)
theorem g{f:Nat}{vs:List AV}{r:AV}(hc:qM vs=true:=by kernel_rfl)(h:∀n,n=1000000->qai env kh (qeu sites) (fr env kh (qeu sites) n) (Nat.succ f) vs H0 (fun v h=>tt (xA h r v))=True:=by rintro n rfl;kernel_rfl):qp Tryz.prog f vs r:=qp.runK envOk kh_ok qod 1000000 hc (h _ rfl)
def k34:qbf:=[
 ([pA,.b true],s83),
 ([pB,.b true],s84),
 ([pC,.b true],s85),
 ([pZ,.b true],s86)]
theorem k34_ok:∀q ∈ k34,qp Tryz.prog 34 q.1 q.2:=qlg g (qlg g (qlg g (qlg g (qmJ))))
end Go.Proofs.YthmhjhlddnjcpaaGreatDoor.FacB
