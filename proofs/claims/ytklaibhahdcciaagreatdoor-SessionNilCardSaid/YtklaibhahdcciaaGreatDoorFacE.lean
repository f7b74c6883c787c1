/- Answers of known calls, run. No condition. -/
import Derived.Test.YtklaibhahdcciaaGreatDoorFacH0
import Derived.Test.YtklaibhahdcciaaGreatDoorFacH1
import Derived.Test.YtklaibhahdcciaaGreatDoorFacH2
import Derived.Test.YtklaibhahdcciaaGreatDoorFacH3
import Derived.Test.YtklaibhahdcciaaGreatDoorFacH4
import Derived.Test.YtklaibhahdcciaaGreatDoorFacH5
import Derived.KernelRfl
namespace Go.Proofs.YtklaibhahdcciaaGreatDoor.FacE
open Go.Kc EnvS FacV
def kt:List (Nat×zZ):=[(175,(FacH0.k175++(FacH1.k175++(FacH2.k175++(FacH3.k175++(FacH4.k175++FacH5.k175))))))]
noncomputable def kh:HookG:=⟨qj6 (qi7 kt) extH,gvL kt⟩
theorem kt_ok:∀e ∈ kt,∀q ∈ e.2,zf Tryz.prog e.1 q.1 q.2:=by
 intro e he;simp only[kt,List.mem_cons,List.not_mem_nil,or_false] at he;subst he
 ·exact qls FacH0.k175_ok (qls FacH1.k175_ok (qls FacH2.k175_ok (qls FacH3.k175_ok (qls FacH4.k175_ok (FacH5.k175_ok)))))

theorem kh_ok:HookGOk Tryz.prog kh:=⟨qlp (qf5 kt_ok) extOk,qmW kt_ok⟩
theorem g{f:Nat}{vs:List AV}{r:AV}(hc:qbM vs=true:=by kernel_rfl)(h:∀n,n=1000000->qaP env kh (qd5 sites) (fr env kh (qd5 sites) n) (Nat.succ f) vs H0 (fun v h=>tt (xa h r v))=True:=by rintro n rfl;kernel_rfl):zf Tryz.prog f vs r:=zf.runK envOk kh_ok qmK 1000000 hc (h _ rfl)
def k47:zZ:=[
 ([st,dat 37 1073741827],.tup [.i .u32 327681,.i .i64 0]),
 ([st,dat 3 1073741864],.tup [.i .u32 2147418112,.i .i64 0])]
theorem k47_ok:∀q ∈ k47,zf Tryz.prog 47 q.1 q.2:=qkd g (qkd g (qlt))
end Go.Proofs.YtklaibhahdcciaaGreatDoor.FacE
