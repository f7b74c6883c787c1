/- Answers of known calls, run. No condition. -/
import Derived.Test.YtoekfdofbagoiaaGreatDoorFacD
import Derived.Test.YtoekfdofbagoiaaGreatDoorFacL0
import Derived.Test.YtoekfdofbagoiaaGreatDoorFacL1
import Derived.Test.YtoekfdofbagoiaaGreatDoorFacL2
import Derived.Test.YtoekfdofbagoiaaGreatDoorFacL3
import Derived.Test.YtoekfdofbagoiaaGreatDoorFacL4
import Derived.KernelRfl
namespace Go.Proofs.YtoekfdofbagoiaaGreatDoor.FacB
open Go.Kc EnvS FacV
def kt:List (Nat×xg):=[(66,(FacL0.k66++(FacL1.k66++(FacL2.k66++(FacL3.k66++FacL4.k66))))),(38,FacD.k38)]
noncomputable def kh:HookG:=⟨qlg (qka kt) extH,gvL kt⟩
theorem kt_ok:∀e ∈ kt,∀q ∈ e.2,qX Tryz.prog e.1 q.1 q.2:=by
 intro e he;simp only[kt,List.mem_cons,List.not_mem_nil,or_false] at he;rcases he with rfl|rfl
 ·exact qmL FacL0.k66_ok (qmL FacL1.k66_ok (qmL FacL2.k66_ok (qmL FacL3.k66_ok (FacL4.k66_ok))))
 ·exact FacD.k38_ok

theorem kh_ok:HookGOk Tryz.prog kh:=⟨qmI (qgJ kt_ok) extOk,qos kt_ok⟩
theorem g{f:Nat}{vs:List AV}{r:AV}(hc:zq vs=true:=by kernel_rfl)(h:∀n,n=1000000->qaT env kh (qez sites) (fr env kh (qez sites) n) (Nat.succ f) vs H0 (fun v h=>tt (xj h r v))=True:=by rintro n rfl;kernel_rfl):qX Tryz.prog f vs r:=qX.runK envOk kh_ok qof 1000000 hc (h _ rfl)
def k25:xg:=[
 ([pN,.b false],.tup [.nils,.i .i64 0]),
 ([pO,.b true],.tup [st,.i .i64 0])]
theorem k25_ok:∀q ∈ k25,qX Tryz.prog 25 q.1 q.2:=qln g (qln g (qmM))
end Go.Proofs.YtoekfdofbagoiaaGreatDoor.FacB
