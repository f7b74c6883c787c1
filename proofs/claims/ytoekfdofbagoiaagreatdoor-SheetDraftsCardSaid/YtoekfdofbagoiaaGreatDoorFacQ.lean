/- Answers of known calls, run. No condition. -/
import Derived.Test.YtoekfdofbagoiaaGreatDoorFacB
import Derived.Test.YtoekfdofbagoiaaGreatDoorFacK
import Derived.Test.YtoekfdofbagoiaaGreatDoorFacS0
import Derived.Test.YtoekfdofbagoiaaGreatDoorFacS2
import Derived.KernelRfl
namespace Go.Proofs.YtoekfdofbagoiaaGreatDoor.FacQ
open Go.Kc EnvS FacV
def kt:List (Nat×xg):=[(24,FacK.k24),(25,FacB.k25),(26,(FacS0.k26++FacS2.k26))]
noncomputable def kh:HookG:=⟨qlg (qka kt) extH,gvL kt⟩
theorem kt_ok:∀e ∈ kt,∀q ∈ e.2,qX Tryz.prog e.1 q.1 q.2:=by
 intro e he;simp only[kt,List.mem_cons,List.not_mem_nil,or_false] at he;rcases he with rfl|rfl|rfl
 ·exact FacK.k24_ok
 ·exact FacB.k25_ok
 ·exact qmL FacS0.k26_ok (FacS2.k26_ok)

theorem kh_ok:HookGOk Tryz.prog kh:=⟨qmI (qgJ kt_ok) extOk,qos kt_ok⟩
theorem g{f:Nat}{vs:List AV}{r:AV}(hc:zq vs=true:=by kernel_rfl)(h:∀n,n=1000000->qaT env kh (qez sites) (fr env kh (qez sites) n) (Nat.succ f) vs H0 (fun v h=>tt (xj h r v))=True:=by rintro n rfl;kernel_rfl):qX Tryz.prog f vs r:=qX.runK envOk kh_ok qof 1000000 hc (h _ rfl)
def k15:xg:=[
 ([pN,.i .i64 0],.tup [.i .i64 40,.i .i64 0,.i .i64 0]),
 ([pN,.i .i64 2],.tup [.i .i64 37,.i .i64 0,.i .i64 0]),
 ([pN,.i .i64 6],.tup [.i .i64 0,.i .i64 0,.i .i64 0])]
theorem k15_ok:∀q ∈ k15,qX Tryz.prog 15 q.1 q.2:=qln g (qln g (qln g (qmM)))
end Go.Proofs.YtoekfdofbagoiaaGreatDoor.FacQ
