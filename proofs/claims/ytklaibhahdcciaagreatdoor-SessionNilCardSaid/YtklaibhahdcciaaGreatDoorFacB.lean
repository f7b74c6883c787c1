/- Answers of known calls, run. No condition. -/
import Derived.Test.YtklaibhahdcciaaGreatDoorFacD
import Derived.Test.YtklaibhahdcciaaGreatDoorFacL0
import Derived.Test.YtklaibhahdcciaaGreatDoorFacL1
import Derived.Test.YtklaibhahdcciaaGreatDoorFacL2
import Derived.KernelRfl
namespace Go.Proofs.YtklaibhahdcciaaGreatDoor.FacB
open Go.Kc EnvS FacV
def kt:List (Nat×zZ):=[(207,(FacL0.k207++(FacL1.k207++FacL2.k207))),(168,FacD.k168)]
noncomputable def kh:HookG:=⟨qj6 (qi7 kt) extH,gvL kt⟩
theorem kt_ok:∀e ∈ kt,∀q ∈ e.2,zf Tryz.prog e.1 q.1 q.2:=by
 intro e he;simp only[kt,List.mem_cons,List.not_mem_nil,or_false] at he;rcases he with rfl|rfl
 ·exact qls FacL0.k207_ok (qls FacL1.k207_ok (FacL2.k207_ok))
 ·exact FacD.k168_ok

theorem kh_ok:HookGOk Tryz.prog kh:=⟨qlp (qf5 kt_ok) extOk,qmW kt_ok⟩
theorem g{f:Nat}{vs:List AV}{r:AV}(hc:qbM vs=true:=by kernel_rfl)(h:∀n,n=1000000->qaP env kh (qd5 sites) (fr env kh (qd5 sites) n) (Nat.succ f) vs H0 (fun v h=>tt (xa h r v))=True:=by rintro n rfl;kernel_rfl):zf Tryz.prog f vs r:=zf.runK envOk kh_ok qmK 1000000 hc (h _ rfl)
def k111:zZ:=[
 ([pO,.b true],.tup [st,.i .i64 0])]
theorem k111_ok:∀q ∈ k111,zf Tryz.prog 111 q.1 q.2:=qkd g (qlt)
end Go.Proofs.YtklaibhahdcciaaGreatDoor.FacB
