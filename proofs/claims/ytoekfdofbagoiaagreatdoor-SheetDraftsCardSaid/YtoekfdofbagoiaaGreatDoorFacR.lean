/- Answers of known calls, run. No condition. -/
import Derived.Test.YtoekfdofbagoiaaGreatDoorFacB
import Derived.Test.YtoekfdofbagoiaaGreatDoorFacK
import Derived.Test.YtoekfdofbagoiaaGreatDoorFacS1
import Derived.Test.YtoekfdofbagoiaaGreatDoorFacE0
import Derived.Test.YtoekfdofbagoiaaGreatDoorFacE1
import Derived.Test.YtoekfdofbagoiaaGreatDoorFacE2
import Derived.Test.YtoekfdofbagoiaaGreatDoorFacE3
import Derived.Test.YtoekfdofbagoiaaGreatDoorFacE4
import Derived.Test.YtoekfdofbagoiaaGreatDoorFacE5
import Derived.Test.YtoekfdofbagoiaaGreatDoorFacE6
import Derived.Test.YtoekfdofbagoiaaGreatDoorFacE7
import Derived.KernelRfl
namespace Go.Proofs.YtoekfdofbagoiaaGreatDoor.FacR
open Go.Kc EnvS FacV
def kt:List (Nat×xg):=[(24,FacK.k24),(25,FacB.k25),(26,FacS1.k26),(27,(FacE0.k27++(FacE1.k27++(FacE2.k27++(FacE3.k27++(FacE4.k27++(FacE5.k27++(FacE6.k27++FacE7.k27)))))))),(53,FacK.k53)]
noncomputable def kh:HookG:=⟨qlg (qka kt) extH,gvL kt⟩
theorem kt_ok:∀e ∈ kt,∀q ∈ e.2,qX Tryz.prog e.1 q.1 q.2:=by
 intro e he;simp only[kt,List.mem_cons,List.not_mem_nil,or_false] at he;rcases he with rfl|rfl|rfl|rfl|rfl
 ·exact FacK.k24_ok
 ·exact FacB.k25_ok
 ·exact FacS1.k26_ok
 ·exact qmL FacE0.k27_ok (qmL FacE1.k27_ok (qmL FacE2.k27_ok (qmL FacE3.k27_ok (qmL FacE4.k27_ok (qmL FacE5.k27_ok (qmL FacE6.k27_ok (FacE7.k27_ok)))))))
 ·exact FacK.k53_ok

theorem kh_ok:HookGOk Tryz.prog kh:=⟨qmI (qgJ kt_ok) extOk,qos kt_ok⟩
theorem g{f:Nat}{vs:List AV}{r:AV}(hc:zq vs=true:=by kernel_rfl)(h:∀n,n=1000000->qaT env kh (qez sites) (fr env kh (qez sites) n) (Nat.succ f) vs H0 (fun v h=>tt (xj h r v))=True:=by rintro n rfl;kernel_rfl):qX Tryz.prog f vs r:=qX.runK envOk kh_ok qof 1000000 hc (h _ rfl)
def k22:xg:=[
 ([pO,.i .i64 1,.b true],.tup [sh7,.i .i64 0])]
theorem k22_ok:∀q ∈ k22,qX Tryz.prog 22 q.1 q.2:=qln g (qmM)
end Go.Proofs.YtoekfdofbagoiaaGreatDoor.FacR
