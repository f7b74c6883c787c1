/- Answers of known calls, run. No condition. -/
import Derived.Test.YthmhjhlddnjcpaaGreatDoorFacB
import Derived.Test.YthmhjhlddnjcpaaGreatDoorFacM
import Derived.Test.YthmhjhlddnjcpaaGreatDoorFacR
import Derived.KernelRfl
namespace Go.Proofs.YthmhjhlddnjcpaaGreatDoor.FacP
open Go.Kc EnvR FacV
noncomputable def kh:wZ:=qj5 [(32,FacM.k32),(33,FacR.k33),(34,FacB.k34)]
theorem kh_ok:vd Tryz.prog kh:=qgF (by
 intro e he;simp only[List.mem_cons,List.not_mem_nil,or_false] at he;rcases he with rfl|rfl|rfl
 ·exact FacM.k32_ok
 ·exact FacR.k33_ok
 ·exact FacB.k34_ok
)
theorem g{f:Nat}{vs:List AV}{r:AV}(hc:qM vs=true:=by kernel_rfl)(h:∀n,n=1000000->qai env kh (qeu sites) (fr env kh (qeu sites) n) (Nat.succ f) vs H0 (fun v h=>tt (xA h r v))=True:=by rintro n rfl;kernel_rfl):qp Tryz.prog f vs r:=qp.runK envOk kh_ok qod 1000000 hc (h _ rfl)
theorem r0:qp Tryz.prog 21 [fl t0,.nils,.b true] (.agg rp87):=g
theorem r1:qp Tryz.prog 21 [fl t1,.nils,.b true] (.agg rp88):=g
theorem r2:qp Tryz.prog 21 [fl t2,.nils,.b true] (.agg rp89):=g
theorem r3:qp Tryz.prog 21 [fl t3,.nils,.b true] (.agg rp90):=g
theorem r4:qp Tryz.prog 21 [fl t4,.nils,.b true] (.agg rp91):=g
theorem r5:qp Tryz.prog 21 [fl t5,.nils,.b true] (.agg rp92):=g
end Go.Proofs.YthmhjhlddnjcpaaGreatDoor.FacP
