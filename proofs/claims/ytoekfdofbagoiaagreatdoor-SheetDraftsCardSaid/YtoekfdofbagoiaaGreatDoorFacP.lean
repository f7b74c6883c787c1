/- Answers of known calls, run. No condition. -/
import Derived.Test.YtoekfdofbagoiaaGreatDoorFacB
import Derived.Test.YtoekfdofbagoiaaGreatDoorFacM
import Derived.KernelRfl
namespace Go.Proofs.YtoekfdofbagoiaaGreatDoor.FacP
open Go.Kc EnvS FacV
def kt:List (Nat×xg):=[(47,FacM.k47),(48,FacM.k48),(25,FacB.k25)]
noncomputable def kh:HookG:=⟨qlg (qka kt) extH,gvL kt⟩
theorem kt_ok:∀e ∈ kt,∀q ∈ e.2,qX Tryz.prog e.1 q.1 q.2:=by
 intro e he;simp only[kt,List.mem_cons,List.not_mem_nil,or_false] at he;rcases he with rfl|rfl|rfl
 ·exact FacM.k47_ok
 ·exact FacM.k48_ok
 ·exact FacB.k25_ok

theorem kh_ok:HookGOk Tryz.prog kh:=⟨qmI (qgJ kt_ok) extOk,qos kt_ok⟩
theorem g{f:Nat}{vs:List AV}{r:AV}(hc:zq vs=true:=by kernel_rfl)(h:∀n,n=1000000->qaT env kh (qez sites) (fr env kh (qez sites) n) (Nat.succ f) vs H0 (fun v h=>tt (xj h r v))=True:=by rintro n rfl;kernel_rfl):qX Tryz.prog f vs r:=qX.runK envOk kh_ok qof 1000000 hc (h _ rfl)
def k19:xg:=[
 ([f15,.nils,.b true],.agg [.nils,.i .u8 0,.nils,.i .u32 0,.i .u8 0,.nils,.nils,.i .u8 0,.i .u64 0,.b false,.b false,.b false,.b false,.nils,.fz 1 [.s [100,114,97,102,116,46,115,101,114,118,105,99,101],.i .i64 2,.i .i64 150,.s [109,97,121,98,101]]]),
 ([f7,.nils,.b true],.agg [.nils,.i .u8 0,.nils,.i .u32 2147483648,.i .u8 0,.nils,.nils,.i .u8 0,.i .u64 0,.b false,.b true,.b false,.b false,st,.fz 0 []])]
theorem k19_ok:∀q ∈ k19,qX Tryz.prog 19 q.1 q.2:=qln g (qln g (qmM))
end Go.Proofs.YtoekfdofbagoiaaGreatDoor.FacP
