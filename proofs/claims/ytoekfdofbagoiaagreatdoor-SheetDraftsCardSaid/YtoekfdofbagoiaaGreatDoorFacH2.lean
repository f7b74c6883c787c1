/- Answers of known calls, run. No condition. -/
import Derived.Test.YtoekfdofbagoiaaGreatDoorFacV
import Derived.KernelRfl
namespace Go.Proofs.YtoekfdofbagoiaaGreatDoor.FacH2
open Go.Kc EnvS FacV
noncomputable def kh:HookG:=⟨extH,fun _=>[]⟩
theorem kh_ok:HookGOk Tryz.prog kh:=⟨extOk,fun _ _ h=>by cases h⟩
theorem g{f:Nat}{vs:List AV}{r:AV}(hc:zq vs=true:=by kernel_rfl)(h:∀n,n=1000000->qaT env kh (qez sites) (fr env kh (qez sites) n) (Nat.succ f) vs H0 (fun v h=>tt (xj h r v))=True:=by rintro n rfl;kernel_rfl):qX Tryz.prog f vs r:=qX.runK envOk kh_ok qof 1000000 hc (h _ rfl)
def k118:xg:=[
 ([v2],.i .i64 0)]
theorem k118_ok:∀q ∈ k118,qX Tryz.prog 118 q.1 q.2:=qln g (qmM)
end Go.Proofs.YtoekfdofbagoiaaGreatDoor.FacH2
