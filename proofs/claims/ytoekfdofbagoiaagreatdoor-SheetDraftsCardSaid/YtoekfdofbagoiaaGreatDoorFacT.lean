/- Answers of known calls, run. No condition. -/
import Derived.Test.YtoekfdofbagoiaaGreatDoorFacP
import Derived.Test.YtoekfdofbagoiaaGreatDoorFacR
import Derived.Test.YtoekfdofbagoiaaGreatDoorFacQ
import Derived.KernelRfl
namespace Go.Proofs.YtoekfdofbagoiaaGreatDoor.FacT
open Go.Kc EnvS FacV
theorem i2:Lib.itoa 2=[50]:=by simp[Lib.itoa,Lib.decDigits]
theorem i150:Lib.itoa 150=[49,53,48]:=by simp[Lib.itoa,Lib.decDigits]
def k52:xg:=[([.i .i64 150],.s [49,53,48]),([.i .i64 2],.s [50])]
theorem k52_ok(hI:qkK Tryz.prog 52):∀q ∈ k52,qX Tryz.prog 52 q.1 q.2:=qln (i150 ▸ hI 150 (by decide) (by decide)) (qln (i2 ▸ hI 2 (by decide) (by decide)) qmM)
theorem d0(hD:qdI Tryz.prog 5):qX Tryz.prog 5 [.fz 1 [.i .u8 15]] f15:=by
 have h:=hD [15] (by decide);have e1:[AV.fz ([15]:List UInt8).length (bR [15])]=[.fz 1 [.i .u8 15]]:=by kernel_rfl
 have e2:AV.agg (qgz [15])=f15:=by kernel_rfl
 rw[e1,e2] at h;exact h
theorem d1(hD:qdI Tryz.prog 5):qX Tryz.prog 5 [.fz 1 [.i .u8 7]] f7:=by
 have h:=hD [7] (by decide);have e1:[AV.fz ([7]:List UInt8).length (bR [7])]=[.fz 1 [.i .u8 7]]:=by kernel_rfl
 have e2:AV.agg (qgz [7])=f7:=by kernel_rfl
 rw[e1,e2] at h;exact h
theorem d2(hD:qdI Tryz.prog 5):qX Tryz.prog 5 [.fz 3 [.i .u8 0,.i .u8 1,.i .u8 15]] f3:=by
 have h:=hD [0,1,15] (by decide);have e1:[AV.fz ([0,1,15]:List UInt8).length (bR [0,1,15])]=[.fz 3 [.i .u8 0,.i .u8 1,.i .u8 15]]:=by kernel_rfl
 have e2:AV.agg (qgz [0,1,15])=f3:=by kernel_rfl
 rw[e1,e2] at h;exact h
def k5:xg:=[([.fz 1 [.i .u8 15]],f15),([.fz 1 [.i .u8 7]],f7),([.fz 3 [.i .u8 0,.i .u8 1,.i .u8 15]],f3)]
theorem k5_ok(hD:qdI Tryz.prog 5):∀q ∈ k5,qX Tryz.prog 5 q.1 q.2:=qln (d0 hD) (qln (d1 hD) (qln (d2 hD) qmM))
set_option linter.unusedSectionVars false
section
variable (hI:qkK Tryz.prog 52) (hD:qdI Tryz.prog 5)
def kt0:List (Nat×xg):=[(52,k52)]
noncomputable def kh0:HookG:=⟨qlg (qka kt0) extH,gvL kt0⟩
include hI hD in
theorem kt0_ok:∀e ∈ kt0,∀q ∈ e.2,qX Tryz.prog e.1 q.1 q.2:=by
 intro e he;simp only[kt0,List.mem_cons,List.not_mem_nil,or_false] at he;subst he
 ·exact k52_ok hI

include hI hD in
theorem kh0_ok:HookGOk Tryz.prog kh0:=⟨qmI (qgJ (kt0_ok hI hD)) extOk,qos (kt0_ok hI hD)⟩
include hI hD in
theorem g0{f:Nat}{vs:List AV}{r:AV}(hc:zq vs=true:=by kernel_rfl)(h:∀n,n=1000000->qaT env kh0 (qez sites) (fr env kh0 (qez sites) n) (Nat.succ f) vs H0 (fun v h=>tt (xj h r v))=True:=by rintro n rfl;kernel_rfl):qX Tryz.prog f vs r:=qX.runK envOk (kh0_ok hI hD) qof 1000000 hc (h _ rfl)
def k32:xg:=[([note],line)]
include hI hD in
theorem k32_ok:∀q ∈ k32,qX Tryz.prog 32 q.1 q.2:=qln (g0 hI hD) qmM
def kt1:List (Nat×xg):=[(32,k32)]
noncomputable def kh1:HookG:=⟨qlg (qka kt1) extH,gvL kt1⟩
include hI hD in
theorem kt1_ok:∀e ∈ kt1,∀q ∈ e.2,qX Tryz.prog e.1 q.1 q.2:=by
 intro e he;simp only[kt1,List.mem_cons,List.not_mem_nil,or_false] at he;subst he
 ·exact k32_ok hI hD

include hI hD in
theorem kh1_ok:HookGOk Tryz.prog kh1:=⟨qmI (qgJ (kt1_ok hI hD)) extOk,qos (kt1_ok hI hD)⟩
include hI hD in
theorem g1{f:Nat}{vs:List AV}{r:AV}(hc:zq vs=true:=by kernel_rfl)(h:∀n,n=1000000->qaT env kh1 (qez sites) (fr env kh1 (qez sites) n) (Nat.succ f) vs H0 (fun v h=>tt (xj h r v))=True:=by rintro n rfl;kernel_rfl):qX Tryz.prog f vs r:=qX.runK envOk (kh1_ok hI hD) qof 1000000 hc (h _ rfl)
def k21:xg:=[([.agg [.nils,.i .u8 0,.nils,.i .u32 0,.i .u8 0,.nils,.nils,.i .u8 0,.i .u64 0,.b false,.b false,.b false,.b false,.nils,.fz 1 [.s [100,114,97,102,116,46,115,101,114,118,105,99,101],.i .i64 2,.i .i64 150,.s [109,97,121,98,101]]]],pl15)]
include hI hD in
theorem k21_ok:∀q ∈ k21,qX Tryz.prog 21 q.1 q.2:=qln (g1 hI hD) qmM
def kt2:List (Nat×xg):=[(5,k5),(19,FacP.k19),(21,k21),(22,FacR.k22)]
noncomputable def kh2:HookG:=⟨qlg (qka kt2) extH,gvL kt2⟩
include hI hD in
theorem kt2_ok:∀e ∈ kt2,∀q ∈ e.2,qX Tryz.prog e.1 q.1 q.2:=by
 intro e he;simp only[kt2,List.mem_cons,List.not_mem_nil,or_false] at he;rcases he with rfl|rfl|rfl|rfl
 ·exact k5_ok hD
 ·exact FacP.k19_ok
 ·exact k21_ok hI hD
 ·exact FacR.k22_ok

include hI hD in
theorem kh2_ok:HookGOk Tryz.prog kh2:=⟨qmI (qgJ (kt2_ok hI hD)) extOk,qos (kt2_ok hI hD)⟩
include hI hD in
theorem g2{f:Nat}{vs:List AV}{r:AV}(hc:zq vs=true:=by kernel_rfl)(h:∀n,n=1000000->qaT env kh2 (qez sites) (fr env kh2 (qez sites) n) (Nat.succ f) vs H0 (fun v h=>tt (xj h r v))=True:=by rintro n rfl;kernel_rfl):qX Tryz.prog f vs r:=qX.runK envOk (kh2_ok hI hD) qof 1000000 hc (h _ rfl)
def k16:xg:=[([.fz 1 [.i .u8 15],.i .i64 1],pl15),([.fz 1 [.i .u8 7],.i .i64 1],sh7)]
include hI hD in
theorem k16_ok:∀q ∈ k16,qX Tryz.prog 16 q.1 q.2:=qln (g2 hI hD) (qln (g2 hI hD) qmM)
def kt3:List (Nat×xg):=[(5,k5),(14,FacK.k14),(15,FacQ.k15),(16,k16)]
noncomputable def kh3:HookG:=⟨qlg (qka kt3) extH,gvL kt3⟩
include hI hD in
theorem kt3_ok:∀e ∈ kt3,∀q ∈ e.2,qX Tryz.prog e.1 q.1 q.2:=by
 intro e he;simp only[kt3,List.mem_cons,List.not_mem_nil,or_false] at he;rcases he with rfl|rfl|rfl|rfl
 ·exact k5_ok hD
 ·exact FacK.k14_ok
 ·exact FacQ.k15_ok
 ·exact k16_ok hI hD

include hI hD in
theorem kh3_ok:HookGOk Tryz.prog kh3:=⟨qmI (qgJ (kt3_ok hI hD)) extOk,qos (kt3_ok hI hD)⟩
include hI hD in
theorem g3{f:Nat}{vs:List AV}{r:AV}(hc:zq vs=true:=by kernel_rfl)(h:∀n,n=1000000->qaT env kh3 (qez sites) (fr env kh3 (qez sites) n) (Nat.succ f) vs H0 (fun v h=>tt (xj h r v))=True:=by rintro n rfl;kernel_rfl):qX Tryz.prog f vs r:=qX.runK envOk (kh3_ok hI hD) qof 1000000 hc (h _ rfl)
include hI hD in
theorem awake:qX Tryz.prog 7 [] (.b true):=g3 hI hD
end
end Go.Proofs.YtoekfdofbagoiaaGreatDoor.FacT
