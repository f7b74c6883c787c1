/- Answers of known calls, run. No condition. -/
import Derived.Test.YtklaibhahdcciaaGreatDoorFacN
import Derived.Test.YtklaibhahdcciaaGreatDoorFacC0
import Derived.Test.YtklaibhahdcciaaGreatDoorFacC1
import Derived.Test.YtklaibhahdcciaaGreatDoorFacC2
import Derived.Test.YtklaibhahdcciaaGreatDoorFacC3
import Derived.Test.YtklaibhahdcciaaGreatDoorFacC4
import Derived.Test.YtklaibhahdcciaaGreatDoorFacC5
import Derived.KernelRfl
namespace Go.Proofs.YtklaibhahdcciaaGreatDoor.FacD
open Go.Kc EnvS FacV
def kt:List (Nat×zZ):=[(256,FacN.k256),(255,(FacC0.k255++(FacC1.k255++(FacC2.k255++(FacC3.k255++(FacC4.k255++FacC5.k255)))))),(367,(FacC0.k367++(FacC1.k367++(FacC2.k367++(FacC3.k367++(FacC4.k367++FacC5.k367)))))),(370,(FacC0.k370++(FacC1.k370++(FacC2.k370++(FacC3.k370++(FacC4.k370++FacC5.k370)))))),(371,(FacC0.k371++(FacC1.k371++(FacC2.k371++(FacC3.k371++(FacC4.k371++FacC5.k371)))))),(372,(FacC0.k372++(FacC1.k372++(FacC2.k372++(FacC3.k372++(FacC4.k372++FacC5.k372)))))),(253,(FacC0.k253++(FacC1.k253++(FacC2.k253++(FacC3.k253++(FacC4.k253++FacC5.k253))))))]
noncomputable def kh:HookG:=⟨qj6 (qi7 kt) extH,gvL kt⟩
theorem kt_ok:∀e ∈ kt,∀q ∈ e.2,zf Tryz.prog e.1 q.1 q.2:=by
 intro e he;simp only[kt,List.mem_cons,List.not_mem_nil,or_false] at he;rcases he with rfl|rfl|rfl|rfl|rfl|rfl|rfl
 ·exact FacN.k256_ok
 ·exact qls FacC0.k255_ok (qls FacC1.k255_ok (qls FacC2.k255_ok (qls FacC3.k255_ok (qls FacC4.k255_ok (FacC5.k255_ok)))))
 ·exact qls FacC0.k367_ok (qls FacC1.k367_ok (qls FacC2.k367_ok (qls FacC3.k367_ok (qls FacC4.k367_ok (FacC5.k367_ok)))))
 ·exact qls FacC0.k370_ok (qls FacC1.k370_ok (qls FacC2.k370_ok (qls FacC3.k370_ok (qls FacC4.k370_ok (FacC5.k370_ok)))))
 ·exact qls FacC0.k371_ok (qls FacC1.k371_ok (qls FacC2.k371_ok (qls FacC3.k371_ok (qls FacC4.k371_ok (FacC5.k371_ok)))))
 ·exact qls FacC0.k372_ok (qls FacC1.k372_ok (qls FacC2.k372_ok (qls FacC3.k372_ok (qls FacC4.k372_ok (FacC5.k372_ok)))))
 ·exact qls FacC0.k253_ok (qls FacC1.k253_ok (qls FacC2.k253_ok (qls FacC3.k253_ok (qls FacC4.k253_ok (FacC5.k253_ok)))))

theorem kh_ok:HookGOk Tryz.prog kh:=⟨qlp (qf5 kt_ok) extOk,qmW kt_ok⟩
theorem g{f:Nat}{vs:List AV}{r:AV}(hc:qbM vs=true:=by kernel_rfl)(h:∀n,n=1000000->qaP env kh (qd5 sites) (fr env kh (qd5 sites) n) (Nat.succ f) vs H0 (fun v h=>tt (xa h r v))=True:=by rintro n rfl;kernel_rfl):zf Tryz.prog f vs r:=zf.runK envOk kh_ok qmK 1000000 hc (h _ rfl)
def k168:zZ:=[
 ([.agg [.i .i64 0,.fz 1 [.i .u32 62,.nils,.i .u32 327681],.i .u32 2147418112],.b true],.tup [v0,.i .i64 0]),
 ([.agg [.i .i64 1,.fz 1 [.i .u32 37,.nils,.i .u32 327681],.i .u32 2147418112],.b true],.tup [v1,.i .i64 0]),
 ([.agg [.i .i64 2,.fz 1 [.i .u32 1073741886,.nils,.i .u32 327681],.i .u32 2147418112],.b true],.tup [v2,.i .i64 0]),
 ([.agg [.i .i64 3,.fz 1 [.i .u32 37,.nils,.i .u32 327681],.i .u32 2147418112],.b true],.tup [v3,.i .i64 0]),
 ([.agg [.i .i64 4,.fz 1 [.i .u32 129,.nils,.i .u32 327681],.i .u32 2147418112],.b true],.tup [v4,.i .i64 0]),
 ([.agg [.i .i64 5,.fz 1 [.i .u32 129,.nils,.i .u32 327681],.i .u32 2147418112],.b true],.tup [v5,.i .i64 0])]
theorem k168_ok:∀q ∈ k168,zf Tryz.prog 168 q.1 q.2:=qkd g (qkd g (qkd g (qkd g (qkd g (qkd g (qlt))))))
end Go.Proofs.YtklaibhahdcciaaGreatDoor.FacD
