/- Answers of known calls, run. No condition. -/
import Derived.Test.YtklaibhahdcciaaGreatDoorFacV
import Derived.KernelRfl
namespace Go.Proofs.YtklaibhahdcciaaGreatDoor.FacL2
open Go.Kc EnvS FacV
noncomputable def kh:HookG:=⟨extH,fun _=>[]⟩
theorem kh_ok:HookGOk Tryz.prog kh:=⟨extOk,fun _ _ h=>by cases h⟩
theorem g{f:Nat}{vs:List AV}{r:AV}(hc:qbM vs=true:=by kernel_rfl)(h:∀n,n=1000000->qaP env kh (qd5 sites) (fr env kh (qd5 sites) n) (Nat.succ f) vs H0 (fun v h=>tt (xa h r v))=True:=by rintro n rfl;kernel_rfl):zf Tryz.prog f vs r:=zf.runK envOk kh_ok qmK 1000000 hc (h _ rfl)
def k207:zZ:=[
 ([pO,.i .i64 5,.i .i64 2],z0),
 ([pO,.i .i64 5,.i .i64 3],z0),
 ([pO,.i .i64 5,.i .i64 4],z0),
 ([pO,.i .i64 5,.i .i64 5],z0),
 ([pO,.i .i64 6,.i .i64 0],z0),
 ([pO,.i .i64 6,.i .i64 1],z0),
 ([pO,.i .i64 6,.i .i64 2],z0),
 ([pO,.i .i64 6,.i .i64 3],z0),
 ([pO,.i .i64 6,.i .i64 4],z0),
 ([pO,.i .i64 6,.i .i64 5],z0),
 ([pO,.i .i64 7,.i .i64 0],z0),
 ([pO,.i .i64 7,.i .i64 1],z0),
 ([pO,.i .i64 7,.i .i64 2],z0),
 ([pO,.i .i64 7,.i .i64 3],z0),
 ([pO,.i .i64 7,.i .i64 4],z0),
 ([pO,.i .i64 7,.i .i64 5],z0)]
theorem k207_ok:∀q ∈ k207,zf Tryz.prog 207 q.1 q.2:=qkd g (qkd g (qkd g (qkd g (qkd g (qkd g (qkd g (qkd g (qkd g (qkd g (qkd g (qkd g (qkd g (qkd g (qkd g (qkd g (qlt))))))))))))))))
end Go.Proofs.YtklaibhahdcciaaGreatDoor.FacL2
