/- Answers of known calls, run. No condition. -/
import Derived.Test.YtoekfdofbagoiaaGreatDoorFacV
import Derived.KernelRfl
namespace Go.Proofs.YtoekfdofbagoiaaGreatDoor.FacC4
open Go.Kc EnvS FacV
noncomputable def kh:HookG:=⟨extH,fun _=>[]⟩
theorem kh_ok:HookGOk Tryz.prog kh:=⟨extOk,fun _ _ h=>by cases h⟩
theorem g{f:Nat}{vs:List AV}{r:AV}(hc:zq vs=true:=by kernel_rfl)(h:∀n,n=1000000->qaT env kh (qez sites) (fr env kh (qez sites) n) (Nat.succ f) vs H0 (fun v h=>tt (xj h r v))=True:=by rintro n rfl;kernel_rfl):qX Tryz.prog f vs r:=qX.runK envOk kh_ok qof 1000000 hc (h _ rfl)
def k105:xg:=[
 ([.agg [.i .i64 4,.fz 1 [.i .u32 92,v9,.i .u32 327681],.i .u32 2147418112]],.tup [v26,.i .i64 0])]
theorem k105_ok:∀q ∈ k105,qX Tryz.prog 105 q.1 q.2:=qln g (qmM)
def k228:xg:=[
 ([v26],.b true)]
theorem k228_ok:∀q ∈ k228,qX Tryz.prog 228 q.1 q.2:=qln g (qmM)
def k103:xg:=[
 ([v26],.tup [v27,.i .i64 0]),
 ([v29],.tup [v4,.i .i64 0])]
theorem k103_ok:∀q ∈ k103,qX Tryz.prog 103 q.1 q.2:=qln g (qln g (qmM))
def k231:xg:=[
 ([v26],v28)]
theorem k231_ok:∀q ∈ k231,qX Tryz.prog 231 q.1 q.2:=qln g (qmM)
def k232:xg:=[
 ([v28],v28)]
theorem k232_ok:∀q ∈ k232,qX Tryz.prog 232 q.1 q.2:=qln g (qmM)
def k233:xg:=[
 ([v28],v29)]
theorem k233_ok:∀q ∈ k233,qX Tryz.prog 233 q.1 q.2:=qln g (qmM)
end Go.Proofs.YtoekfdofbagoiaaGreatDoor.FacC4
