/- Answers of known calls, run. No condition. -/
import Derived.Test.YtoekfdofbagoiaaGreatDoorFacK
import Derived.Test.YtoekfdofbagoiaaGreatDoorFacH0
import Derived.Test.YtoekfdofbagoiaaGreatDoorFacH1
import Derived.Test.YtoekfdofbagoiaaGreatDoorFacH2
import Derived.Test.YtoekfdofbagoiaaGreatDoorFacH3
import Derived.Test.YtoekfdofbagoiaaGreatDoorFacH4
import Derived.Test.YtoekfdofbagoiaaGreatDoorFacH5
import Derived.KernelRfl
namespace Go.Proofs.YtoekfdofbagoiaaGreatDoor.FacE3
open Go.Kc EnvS FacV
def kt:List (Nat×xg):=[(118,(FacH0.k118++(FacH1.k118++(FacH2.k118++(FacH3.k118++(FacH4.k118++FacH5.k118)))))),(121,FacK.k121)]
noncomputable def kh:HookG:=⟨qlg (qka kt) extH,gvL kt⟩
theorem kt_ok:∀e ∈ kt,∀q ∈ e.2,qX Tryz.prog e.1 q.1 q.2:=by
 intro e he;simp only[kt,List.mem_cons,List.not_mem_nil,or_false] at he;rcases he with rfl|rfl
 ·exact qmL FacH0.k118_ok (qmL FacH1.k118_ok (qmL FacH2.k118_ok (qmL FacH3.k118_ok (qmL FacH4.k118_ok (FacH5.k118_ok)))))
 ·exact FacK.k121_ok

theorem kh_ok:HookGOk Tryz.prog kh:=⟨qmI (qgJ kt_ok) extOk,qos kt_ok⟩
theorem g{f:Nat}{vs:List AV}{r:AV}(hc:zq vs=true:=by kernel_rfl)(h:∀n,n=1000000->qaT env kh (qez sites) (fr env kh (qez sites) n) (Nat.succ f) vs H0 (fun v h=>tt (xj h r v))=True:=by rintro n rfl;kernel_rfl):qX Tryz.prog f vs r:=qX.runK envOk kh_ok qof 1000000 hc (h _ rfl)
def k27:xg:=[
 ([st,dat 79],.tup [.i .u32 2147418112,.i .i64 0]),
 ([st,dat 88],.tup [.i .u32 2147418112,.i .i64 0]),
 ([st,dat 90],.tup [.i .u32 2147418112,.i .i64 0]),
 ([st,dat 91],.tup [.i .u32 2147418112,.i .i64 0]),
 ([st,dat 120],.tup [.i .u32 2147418112,.i .i64 0])]
theorem k27_ok:∀q ∈ k27,qX Tryz.prog 27 q.1 q.2:=qln g (qln g (qln g (qln g (qln g (qmM)))))
end Go.Proofs.YtoekfdofbagoiaaGreatDoor.FacE3
