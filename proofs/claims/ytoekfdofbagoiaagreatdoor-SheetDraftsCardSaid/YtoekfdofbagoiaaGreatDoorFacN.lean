/- Answers of known calls, run. No condition. -/
import Derived.Test.YtoekfdofbagoiaaGreatDoorFacV
import Derived.KernelRfl
namespace Go.Proofs.YtoekfdofbagoiaaGreatDoor.FacN
open Go.Kc EnvS FacV
noncomputable def kh:HookG:=⟨extH,fun _=>[]⟩
theorem kh_ok:HookGOk Tryz.prog kh:=⟨extOk,fun _ _ h=>by cases h⟩
theorem g{f:Nat}{vs:List AV}{r:AV}(hc:zq vs=true:=by kernel_rfl)(h:∀n,n=1000000->qaT env kh (qez sites) (fr env kh (qez sites) n) (Nat.succ f) vs H0 (fun v h=>tt (xj h r v))=True:=by rintro n rfl;kernel_rfl):qX Tryz.prog f vs r:=qX.runK envOk kh_ok qof 1000000 hc (h _ rfl)
def k106:xg:=[
 ([.agg [.i .i64 0,.fz 1 [.i .u32 135,v9,.i .u32 327681],.i .u32 2147418112]],.tup [.agg [.i .i64 0,.fz 1 [.i .u32 135,v9,.i .u32 327681],.i .u32 2147418112],.i .i64 0]),
 ([.agg [.i .i64 1,.fz 1 [.i .u32 136,v9,.i .u32 327681],.i .u32 2147418112]],.tup [.agg [.i .i64 1,.fz 1 [.i .u32 136,v9,.i .u32 327681],.i .u32 2147418112],.i .i64 0]),
 ([.agg [.i .i64 2,.fz 1 [.i .u32 1073741959,v9,.i .u32 327681],.i .u32 2147418112]],.tup [.agg [.i .i64 2,.fz 1 [.i .u32 1073741959,v9,.i .u32 327681],.i .u32 2147418112],.i .i64 0]),
 ([.agg [.i .i64 3,.fz 1 [.i .u32 136,v9,.i .u32 327681],.i .u32 2147418112]],.tup [.agg [.i .i64 3,.fz 1 [.i .u32 136,v9,.i .u32 327681],.i .u32 2147418112],.i .i64 0]),
 ([.agg [.i .i64 4,.fz 1 [.i .u32 92,v9,.i .u32 327681],.i .u32 2147418112]],.tup [.agg [.i .i64 4,.fz 1 [.i .u32 92,v9,.i .u32 327681],.i .u32 2147418112],.i .i64 0]),
 ([.agg [.i .i64 5,.fz 1 [.i .u32 92,v9,.i .u32 327681],.i .u32 2147418112]],.tup [.agg [.i .i64 5,.fz 1 [.i .u32 92,v9,.i .u32 327681],.i .u32 2147418112],.i .i64 0])]
theorem k106_ok:∀q ∈ k106,qX Tryz.prog 106 q.1 q.2:=qln g (qln g (qln g (qln g (qln g (qln g (qmM))))))
end Go.Proofs.YtoekfdofbagoiaaGreatDoor.FacN
