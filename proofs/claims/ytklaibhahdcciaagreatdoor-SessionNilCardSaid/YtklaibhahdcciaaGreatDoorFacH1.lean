/- Answers of known calls, run. No condition. -/
import Derived.Test.YtklaibhahdcciaaGreatDoorFacV
import Derived.KernelRfl
namespace Go.Proofs.YtklaibhahdcciaaGreatDoor.FacH1
open Go.Kc EnvS FacV
noncomputable def kh:HookG:=⟨extH,fun _=>[]⟩
theorem kh_ok:HookGOk Tryz.prog kh:=⟨extOk,fun _ _ h=>by cases h⟩
theorem g{f:Nat}{vs:List AV}{r:AV}(hc:qbM vs=true:=by kernel_rfl)(h:∀n,n=1000000->qaP env kh (qd5 sites) (fr env kh (qd5 sites) n) (Nat.succ f) vs H0 (fun v h=>tt (xa h r v))=True:=by rintro n rfl;kernel_rfl):zf Tryz.prog f vs r:=zf.runK envOk kh_ok qmK 1000000 hc (h _ rfl)
def k175:zZ:=[
 ([v1],.i .i64 0)]
theorem k175_ok:∀q ∈ k175,zf Tryz.prog 175 q.1 q.2:=qkd g (qlt)
end Go.Proofs.YtklaibhahdcciaaGreatDoor.FacH1
