/- Answers of known calls, run. No condition. -/
import Derived.Test.YthmhjhlddnjcpaaGreatDoorFacP
import Derived.KernelRfl
namespace Go.Proofs.YthmhjhlddnjcpaaGreatDoor.FacA
open Go.Kc EnvR FacV
theorem i1:Lib.itoa 1=[49]:=by simp[Lib.itoa,Lib.decDigits]
theorem i2:Lib.itoa 2=[50]:=by simp[Lib.itoa,Lib.decDigits]
theorem i90:Lib.itoa 90=[57,48]:=by simp[Lib.itoa,Lib.decDigits]
theorem i130:Lib.itoa 130=[49,51,48]:=by simp[Lib.itoa,Lib.decDigits]
theorem i150:Lib.itoa 150=[49,53,48]:=by simp[Lib.itoa,Lib.decDigits]
theorem o0:qp Tryz.prog 14 [.s t0] (.agg rp87):=qoY (f:=14) (by kernel_rfl) t0 _ (by kernel_rfl) (by kernel_rfl) (by kernel_rfl) FacP.r0
theorem o1:qp Tryz.prog 14 [.s t1] (.agg rp88):=qoY (f:=14) (by kernel_rfl) t1 _ (by kernel_rfl) (by kernel_rfl) (by kernel_rfl) FacP.r1
theorem o2:qp Tryz.prog 14 [.s t2] (.agg rp89):=qoY (f:=14) (by kernel_rfl) t2 _ (by kernel_rfl) (by kernel_rfl) (by kernel_rfl) FacP.r2
theorem o3:qp Tryz.prog 14 [.s t3] (.agg rp90):=qoY (f:=14) (by kernel_rfl) t3 _ (by kernel_rfl) (by kernel_rfl) (by kernel_rfl) FacP.r3
theorem o4:qp Tryz.prog 14 [.s t4] (.agg rp91):=qoY (f:=14) (by kernel_rfl) t4 _ (by kernel_rfl) (by kernel_rfl) (by kernel_rfl) FacP.r4
theorem o5:qp Tryz.prog 14 [.s t5] (.agg rp92):=qoY (f:=14) (by kernel_rfl) t5 _ (by kernel_rfl) (by kernel_rfl) (by kernel_rfl) FacP.r5
def k14:qbf:=[([.s t0],.agg rp87),([.s t1],.agg rp88),([.s t2],.agg rp89),([.s t3],.agg rp90),([.s t4],.agg rp91),([.s t5],.agg rp92)]
theorem k14_ok:∀q ∈ k14,qp Tryz.prog 14 q.1 q.2:=qlg o0 (qlg o1 (qlg o2 (qlg o3 (qlg o4 (qlg o5 (qmJ))))))
def k13:qbf:=[([.i .i64 1],.s [49]),([.i .i64 2],.s [50]),([.i .i64 90],.s [57,48]),([.i .i64 130],.s [49,51,48]),([.i .i64 150],.s [49,53,48])]
section
variable (hI:qdF Tryz.prog 13)
include hI
theorem k13_ok:∀q ∈ k13,qp Tryz.prog 13 q.1 q.2:=qlg (i1 ▸ hI 1 (by decide) (by decide)) (qlg (i2 ▸ hI 2 (by decide) (by decide)) (qlg (i90 ▸ hI 90 (by decide) (by decide)) (qlg (i130 ▸ hI 130 (by decide) (by decide)) (qlg (i150 ▸ hI 150 (by decide) (by decide)) (qmJ)))))
noncomputable def kh:wZ:=qj5 [(14,k14),(13,k13)]
theorem kh_ok:vd Tryz.prog kh:=qgF (by
 intro e he;simp only[List.mem_cons,List.not_mem_nil,or_false] at he;rcases he with rfl|rfl
 ·exact k14_ok
 ·exact k13_ok hI)
theorem awake:qp Tryz.prog 9 [] (.b true):=qp.runK envOk (kh_ok hI) qod 1000000 rfl ((by rintro n rfl;kernel_rfl:∀n,n=1000000->qai env kh (qeu sites) (fr env kh (qeu sites) n) (Nat.succ 9) [] H0 (fun v h=>tt (xA h (.b true) v))=True) _ rfl)
end
end Go.Proofs.YthmhjhlddnjcpaaGreatDoor.FacA
