/- Answers of known calls, run. No condition. -/
import Derived.Test.YtoekfdofbagoiaaGreatDoorFacN
import Derived.Test.YtoekfdofbagoiaaGreatDoorFacC0
import Derived.Test.YtoekfdofbagoiaaGreatDoorFacC1
import Derived.Test.YtoekfdofbagoiaaGreatDoorFacC2
import Derived.Test.YtoekfdofbagoiaaGreatDoorFacC3
import Derived.Test.YtoekfdofbagoiaaGreatDoorFacC4
import Derived.Test.YtoekfdofbagoiaaGreatDoorFacC5
import Derived.KernelRfl
namespace Go.Proofs.YtoekfdofbagoiaaGreatDoor.FacD
open Go.Kc EnvS FacV
def kt:List (Nat×xg):=[(106,FacN.k106),(105,(FacC0.k105++(FacC1.k105++(FacC2.k105++(FacC3.k105++(FacC4.k105++FacC5.k105)))))),(228,(FacC0.k228++(FacC1.k228++(FacC2.k228++(FacC3.k228++(FacC4.k228++FacC5.k228)))))),(231,(FacC0.k231++(FacC1.k231++(FacC2.k231++(FacC3.k231++(FacC4.k231++FacC5.k231)))))),(232,(FacC0.k232++(FacC1.k232++(FacC2.k232++(FacC3.k232++(FacC4.k232++FacC5.k232)))))),(233,(FacC0.k233++(FacC1.k233++(FacC2.k233++(FacC3.k233++(FacC4.k233++FacC5.k233)))))),(103,(FacC0.k103++(FacC1.k103++(FacC2.k103++(FacC3.k103++(FacC4.k103++FacC5.k103))))))]
noncomputable def kh:HookG:=⟨qlg (qka kt) extH,gvL kt⟩
theorem kt_ok:∀e ∈ kt,∀q ∈ e.2,qX Tryz.prog e.1 q.1 q.2:=by
 intro e he;simp only[kt,List.mem_cons,List.not_mem_nil,or_false] at he;rcases he with rfl|rfl|rfl|rfl|rfl|rfl|rfl
 ·exact FacN.k106_ok
 ·exact qmL FacC0.k105_ok (qmL FacC1.k105_ok (qmL FacC2.k105_ok (qmL FacC3.k105_ok (qmL FacC4.k105_ok (FacC5.k105_ok)))))
 ·exact qmL FacC0.k228_ok (qmL FacC1.k228_ok (qmL FacC2.k228_ok (qmL FacC3.k228_ok (qmL FacC4.k228_ok (FacC5.k228_ok)))))
 ·exact qmL FacC0.k231_ok (qmL FacC1.k231_ok (qmL FacC2.k231_ok (qmL FacC3.k231_ok (qmL FacC4.k231_ok (FacC5.k231_ok)))))
 ·exact qmL FacC0.k232_ok (qmL FacC1.k232_ok (qmL FacC2.k232_ok (qmL FacC3.k232_ok (qmL FacC4.k232_ok (FacC5.k232_ok)))))
 ·exact qmL FacC0.k233_ok (qmL FacC1.k233_ok (qmL FacC2.k233_ok (qmL FacC3.k233_ok (qmL FacC4.k233_ok (FacC5.k233_ok)))))
 ·exact qmL FacC0.k103_ok (qmL FacC1.k103_ok (qmL FacC2.k103_ok (qmL FacC3.k103_ok (qmL FacC4.k103_ok (FacC5.k103_ok)))))

theorem kh_ok:HookGOk Tryz.prog kh:=⟨qmI (qgJ kt_ok) extOk,qos kt_ok⟩
theorem g{f:Nat}{vs:List AV}{r:AV}(hc:zq vs=true:=by kernel_rfl)(h:∀n,n=1000000->qaT env kh (qez sites) (fr env kh (qez sites) n) (Nat.succ f) vs H0 (fun v h=>tt (xj h r v))=True:=by rintro n rfl;kernel_rfl):qX Tryz.prog f vs r:=qX.runK envOk kh_ok qof 1000000 hc (h _ rfl)
def k38:xg:=[
 ([.agg [.i .i64 0,.fz 1 [.i .u32 135,v9,.i .u32 327681],.i .u32 2147418112],.b true],.tup [v0,.i .i64 0]),
 ([.agg [.i .i64 1,.fz 1 [.i .u32 136,v9,.i .u32 327681],.i .u32 2147418112],.b true],.tup [v1,.i .i64 0]),
 ([.agg [.i .i64 2,.fz 1 [.i .u32 1073741959,v9,.i .u32 327681],.i .u32 2147418112],.b true],.tup [v2,.i .i64 0]),
 ([.agg [.i .i64 3,.fz 1 [.i .u32 136,v9,.i .u32 327681],.i .u32 2147418112],.b true],.tup [v3,.i .i64 0]),
 ([.agg [.i .i64 4,.fz 1 [.i .u32 92,v9,.i .u32 327681],.i .u32 2147418112],.b true],.tup [v4,.i .i64 0]),
 ([.agg [.i .i64 5,.fz 1 [.i .u32 92,v9,.i .u32 327681],.i .u32 2147418112],.b true],.tup [v5,.i .i64 0])]
theorem k38_ok:∀q ∈ k38,qX Tryz.prog 38 q.1 q.2:=qln g (qln g (qln g (qln g (qln g (qln g (qmM))))))
end Go.Proofs.YtoekfdofbagoiaaGreatDoor.FacD
