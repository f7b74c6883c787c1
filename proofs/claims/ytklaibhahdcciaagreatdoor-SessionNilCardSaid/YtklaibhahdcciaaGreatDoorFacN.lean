/- Answers of known calls, run. No condition. -/
import Derived.Test.YtklaibhahdcciaaGreatDoorFacV
import Derived.KernelRfl
namespace Go.Proofs.YtklaibhahdcciaaGreatDoor.FacN
open Go.Kc EnvS FacV
noncomputable def kh:HookG:=⟨extH,fun _=>[]⟩
theorem kh_ok:HookGOk Tryz.prog kh:=⟨extOk,fun _ _ h=>by cases h⟩
theorem g{f:Nat}{vs:List AV}{r:AV}(hc:qbM vs=true:=by kernel_rfl)(h:∀n,n=1000000->qaP env kh (qd5 sites) (fr env kh (qd5 sites) n) (Nat.succ f) vs H0 (fun v h=>tt (xa h r v))=True:=by rintro n rfl;kernel_rfl):zf Tryz.prog f vs r:=zf.runK envOk kh_ok qmK 1000000 hc (h _ rfl)
def k256:zZ:=[
 ([.agg [.i .i64 0,.fz 1 [.i .u32 62,.nils,.i .u32 327681],.i .u32 2147418112]],.tup [.agg [.i .i64 0,.fz 1 [.i .u32 62,.nils,.i .u32 327681],.i .u32 2147418112],.i .i64 0]),
 ([.agg [.i .i64 1,.fz 1 [.i .u32 37,.nils,.i .u32 327681],.i .u32 2147418112]],.tup [.agg [.i .i64 1,.fz 1 [.i .u32 37,.nils,.i .u32 327681],.i .u32 2147418112],.i .i64 0]),
 ([.agg [.i .i64 2,.fz 1 [.i .u32 1073741886,.nils,.i .u32 327681],.i .u32 2147418112]],.tup [.agg [.i .i64 2,.fz 1 [.i .u32 1073741886,.nils,.i .u32 327681],.i .u32 2147418112],.i .i64 0]),
 ([.agg [.i .i64 3,.fz 1 [.i .u32 37,.nils,.i .u32 327681],.i .u32 2147418112]],.tup [.agg [.i .i64 3,.fz 1 [.i .u32 37,.nils,.i .u32 327681],.i .u32 2147418112],.i .i64 0]),
 ([.agg [.i .i64 4,.fz 1 [.i .u32 129,.nils,.i .u32 327681],.i .u32 2147418112]],.tup [.agg [.i .i64 4,.fz 1 [.i .u32 129,.nils,.i .u32 327681],.i .u32 2147418112],.i .i64 0]),
 ([.agg [.i .i64 5,.fz 1 [.i .u32 129,.nils,.i .u32 327681],.i .u32 2147418112]],.tup [.agg [.i .i64 5,.fz 1 [.i .u32 129,.nils,.i .u32 327681],.i .u32 2147418112],.i .i64 0])]
theorem k256_ok:∀q ∈ k256,zf Tryz.prog 256 q.1 q.2:=qkd g (qkd g (qkd g (qkd g (qkd g (qkd g (qlt))))))
end Go.Proofs.YtklaibhahdcciaaGreatDoor.FacN
