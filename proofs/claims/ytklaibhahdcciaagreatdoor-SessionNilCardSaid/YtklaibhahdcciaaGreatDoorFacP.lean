/- Answers of known calls, run. No condition. -/
import Derived.Test.YtklaibhahdcciaaGreatDoorFacB
import Derived.Test.YtklaibhahdcciaaGreatDoorFacM
import Derived.KernelRfl
namespace Go.Proofs.YtklaibhahdcciaaGreatDoor.FacP
open Go.Kc EnvS FacV
def kt:List (Nat×zZ):=[(109,FacM.k109),(110,FacM.k110),(111,FacB.k111)]
noncomputable def kh:HookG:=⟨qj6 (qi7 kt) extH,gvL kt⟩
theorem kt_ok:∀e ∈ kt,∀q ∈ e.2,zf Tryz.prog e.1 q.1 q.2:=by
 intro e he;simp only[kt,List.mem_cons,List.not_mem_nil,or_false] at he;rcases he with rfl|rfl|rfl
 ·exact FacM.k109_ok
 ·exact FacM.k110_ok
 ·exact FacB.k111_ok

theorem kh_ok:HookGOk Tryz.prog kh:=⟨qlp (qf5 kt_ok) extOk,qmW kt_ok⟩
theorem g{f:Nat}{vs:List AV}{r:AV}(hc:qbM vs=true:=by kernel_rfl)(h:∀n,n=1000000->qaP env kh (qd5 sites) (fr env kh (qd5 sites) n) (Nat.succ f) vs H0 (fun v h=>tt (xa h r v))=True:=by rintro n rfl;kernel_rfl):zf Tryz.prog f vs r:=zf.runK envOk kh_ok qmK 1000000 hc (h _ rfl)
def k39:zZ:=[
 ([fA,.nils,.b true],.agg [.nils,.i .u8 2,.fz 1 [.s [107,105,108,108],.i .u32 327681],.i .u32 2147483648,.i .u8 0,.nils,.nils,.i .u8 0,.i .u64 0,.b false,.b false,.b false,.b false,st,.fz 0 []]),
 ([fE,dr,.b true],.agg [.nils,.i .u8 0,.nils,.i .u32 0,.i .u8 0,.nils,.nils,.i .u8 0,.i .u64 0,.b false,.b false,.b false,.b false,.nils,.fz 1 [.s [97,46,99,111,110,102],.i .i64 1,.i .i64 130,.s [120]]])]
theorem k39_ok:∀q ∈ k39,zf Tryz.prog 39 q.1 q.2:=qkd g (qkd g (qlt))
end Go.Proofs.YtklaibhahdcciaaGreatDoor.FacP
