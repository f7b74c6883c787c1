/- Answers of known calls, run. No condition. -/
import Derived.Test.YtklaibhahdcciaaGreatDoorFacV
import Derived.KernelRfl
namespace Go.Proofs.YtklaibhahdcciaaGreatDoor.FacM
open Go.Kc EnvS FacV
noncomputable def kh:HookG:=⟨extH,fun _=>[]⟩
theorem kh_ok:HookGOk Tryz.prog kh:=⟨extOk,fun _ _ h=>by cases h⟩
theorem g{f:Nat}{vs:List AV}{r:AV}(hc:qbM vs=true:=by kernel_rfl)(h:∀n,n=1000000->qaP env kh (qd5 sites) (fr env kh (qd5 sites) n) (Nat.succ f) vs H0 (fun v h=>tt (xa h r v))=True:=by rintro n rfl;kernel_rfl):zf Tryz.prog f vs r:=zf.runK envOk kh_ok qmK 1000000 hc (h _ rfl)
def k109:zZ:=[
 ([fA,.nils],.tup [as1,.nils]),
 ([fE,dr],.tup [.nils,.fz 1 [.s [97,46,99,111,110,102],.i .i64 1,.i .i64 130,.s [120]]])]
theorem k109_ok:∀q ∈ k109,zf Tryz.prog 109 q.1 q.2:=qkd g (qkd g (qlt))
def k110:zZ:=[
 ([as1],.tup [pO,.fz 0 []])]
theorem k110_ok:∀q ∈ k110,zf Tryz.prog 110 q.1 q.2:=qkd g (qlt)
end Go.Proofs.YtklaibhahdcciaaGreatDoor.FacM
