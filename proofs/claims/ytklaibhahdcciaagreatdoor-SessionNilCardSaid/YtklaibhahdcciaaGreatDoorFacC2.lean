/- Answers of known calls, run. No condition. -/
import Derived.Test.YtklaibhahdcciaaGreatDoorFacV
import Derived.KernelRfl
namespace Go.Proofs.YtklaibhahdcciaaGreatDoor.FacC2
open Go.Kc EnvS FacV
noncomputable def kh:HookG:=⟨extH,fun _=>[]⟩
theorem kh_ok:HookGOk Tryz.prog kh:=⟨extOk,fun _ _ h=>by cases h⟩
theorem g{f:Nat}{vs:List AV}{r:AV}(hc:qbM vs=true:=by kernel_rfl)(h:∀n,n=1000000->qaP env kh (qd5 sites) (fr env kh (qd5 sites) n) (Nat.succ f) vs H0 (fun v h=>tt (xa h r v))=True:=by rintro n rfl;kernel_rfl):zf Tryz.prog f vs r:=zf.runK envOk kh_ok qmK 1000000 hc (h _ rfl)
def k255:zZ:=[
 ([.agg [.i .i64 2,.fz 1 [.i .u32 1073741886,.nils,.i .u32 327681],.i .u32 2147418112]],.tup [v15,.i .i64 0])]
theorem k255_ok:∀q ∈ k255,zf Tryz.prog 255 q.1 q.2:=qkd g (qlt)
def k367:zZ:=[
 ([v15],.b true)]
theorem k367_ok:∀q ∈ k367,zf Tryz.prog 367 q.1 q.2:=qkd g (qlt)
def k253:zZ:=[
 ([v15],.tup [v16,.i .i64 0]),
 ([v18],.tup [v2,.i .i64 0])]
theorem k253_ok:∀q ∈ k253,zf Tryz.prog 253 q.1 q.2:=qkd g (qkd g (qlt))
def k370:zZ:=[
 ([v15],v17)]
theorem k370_ok:∀q ∈ k370,zf Tryz.prog 370 q.1 q.2:=qkd g (qlt)
def k371:zZ:=[
 ([v17],v17)]
theorem k371_ok:∀q ∈ k371,zf Tryz.prog 371 q.1 q.2:=qkd g (qlt)
def k372:zZ:=[
 ([v17],v18)]
theorem k372_ok:∀q ∈ k372,zf Tryz.prog 372 q.1 q.2:=qkd g (qlt)
end Go.Proofs.YtklaibhahdcciaaGreatDoor.FacC2
