/- Answers of known calls, run. No condition. -/
import Derived.Test.YtoekfdofbagoiaaGreatDoorFacV
import Derived.KernelRfl
namespace Go.Proofs.YtoekfdofbagoiaaGreatDoor.FacM
open Go.Kc EnvS FacV
noncomputable def kh:HookG:=⟨extH,fun _=>[]⟩
theorem kh_ok:HookGOk Tryz.prog kh:=⟨extOk,fun _ _ h=>by cases h⟩
theorem g{f:Nat}{vs:List AV}{r:AV}(hc:zq vs=true:=by kernel_rfl)(h:∀n,n=1000000->qaT env kh (qez sites) (fr env kh (qez sites) n) (Nat.succ f) vs H0 (fun v h=>tt (xj h r v))=True:=by rintro n rfl;kernel_rfl):qX Tryz.prog f vs r:=qX.runK envOk kh_ok qof 1000000 hc (h _ rfl)
def k47:xg:=[
 ([f7,.nils],.tup [as7,.nils]),
 ([f15,.nils],.tup [as15,.nils])]
theorem k47_ok:∀q ∈ k47,qX Tryz.prog 47 q.1 q.2:=qln g (qln g (qmM))
def k48:xg:=[
 ([as7],.tup [pO,.fz 0 []]),
 ([as15],.tup [.agg [.nils,.i .u8 0,.nils,.i .u32 0,.i .u8 0,.nils,.nils,.i .u8 0,.i .u64 0,.b false,.b false,.b false,.b false],.fz 1 [.s [100,114,97,102,116,46,115,101,114,118,105,99,101],.i .i64 2,.i .i64 150,.s [109,97,121,98,101]]])]
theorem k48_ok:∀q ∈ k48,qX Tryz.prog 48 q.1 q.2:=qln g (qln g (qmM))
end Go.Proofs.YtoekfdofbagoiaaGreatDoor.FacM
