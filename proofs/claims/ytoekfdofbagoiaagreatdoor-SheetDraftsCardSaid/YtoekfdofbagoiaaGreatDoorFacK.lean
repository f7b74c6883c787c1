/- Answers of known calls, run. No condition. -/
import Derived.Test.YtoekfdofbagoiaaGreatDoorFacV
import Derived.KernelRfl
namespace Go.Proofs.YtoekfdofbagoiaaGreatDoor.FacK
open Go.Kc EnvS FacV
noncomputable def kh:HookG:=⟨extH,fun _=>[]⟩
theorem kh_ok:HookGOk Tryz.prog kh:=⟨extOk,fun _ _ h=>by cases h⟩
theorem g{f:Nat}{vs:List AV}{r:AV}(hc:zq vs=true:=by kernel_rfl)(h:∀n,n=1000000->qaT env kh (qez sites) (fr env kh (qez sites) n) (Nat.succ f) vs H0 (fun v h=>tt (xj h r v))=True:=by rintro n rfl;kernel_rfl):qX Tryz.prog f vs r:=qX.runK envOk kh_ok qof 1000000 hc (h _ rfl)
def k14:xg:=[
 ([],pN)]
theorem k14_ok:∀q ∈ k14,qX Tryz.prog 14 q.1 q.2:=qln g (qmM)
def k24:xg:=[
 ([.i .i64 0],.tup [.i .u32 3221225534,.i .i64 0]),
 ([.i .i64 1],.tup [.i .u32 1073741827,.i .i64 0]),
 ([.i .i64 2],.tup [.i .u32 3221225534,.i .i64 0]),
 ([.i .i64 6],.tup [.i .u32 0,.i .i64 80])]
theorem k24_ok:∀q ∈ k24,qX Tryz.prog 24 q.1 q.2:=qln g (qln g (qln g (qln g (qmM))))
def k121:xg:=[
 ([.i .u16 32],.i .u8 1),
 ([.i .u16 21],.i .u8 4),
 ([.i .u16 53],.i .u8 4),
 ([.i .u16 69],.i .u8 4),
 ([.i .u16 6],.i .u8 5)]
theorem k121_ok:∀q ∈ k121,qX Tryz.prog 121 q.1 q.2:=qln g (qln g (qln g (qln g (qln g (qmM)))))
def k53:xg:=[
 ([.i .u32 2147418112],.s [97,108,108,111,119])]
theorem k53_ok:∀q ∈ k53,qX Tryz.prog 53 q.1 q.2:=qln g (qmM)
theorem choices:qX Tryz.prog 9 [] (.agg (qcr qjY)):=g
theorem vals:qit Tryz.prog 12:=fun r hr=>by
 have h:r=0∨r=1∨r=2∨r=3∨r=4∨r=5∨r=6∨r=7:=by omega
 rcases h with rfl|rfl|rfl|rfl|rfl|rfl|rfl|rfl<;>exact g
theorem keys:qkL Tryz.prog 13:=fun r hr=>by
 have h:r=0∨r=1∨r=2∨r=3∨r=4∨r=5∨r=6∨r=7:=by omega
 rcases h with rfl|rfl|rfl|rfl|rfl|rfl|rfl|rfl<;>exact g
end Go.Proofs.YtoekfdofbagoiaaGreatDoor.FacK
