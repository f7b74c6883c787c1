/- Answers of known calls, run. No condition. -/
import Derived.Test.YtklaibhahdcciaaGreatDoorFacP
import Derived.Test.YtklaibhahdcciaaGreatDoorFacE
import Derived.KernelRfl
namespace Go.Proofs.YtklaibhahdcciaaGreatDoor.FacT
open Go.Kc EnvS FacV
theorem i0:Lib.itoa 0=[48]:=by simp[Lib.itoa,Lib.decDigits]
theorem i1:Lib.itoa 1=[49]:=by simp[Lib.itoa,Lib.decDigits]
theorem i2:Lib.itoa 2=[50]:=by simp[Lib.itoa,Lib.decDigits]
theorem i6:Lib.itoa 6=[54]:=by simp[Lib.itoa,Lib.decDigits]
theorem i130:Lib.itoa 130=[49,51,48]:=by simp[Lib.itoa,Lib.decDigits]
def k17:zZ:=[([.i .i64 0],.s [48]),([.i .i64 1],.s [49]),([.i .i64 2],.s [50]),([.i .i64 6],.s [54]),([.i .i64 130],.s [49,51,48])]
theorem k17_ok(hI:qjC Tryz.prog 17):∀q ∈ k17,zf Tryz.prog 17 q.1 q.2:=qkd (i0 ▸ hI 0 (by decide) (by decide)) (qkd (i1 ▸ hI 1 (by decide) (by decide)) (qkd (i2 ▸ hI 2 (by decide) (by decide)) (qkd (i6 ▸ hI 6 (by decide) (by decide)) (qkd (i130 ▸ hI 130 (by decide) (by decide)) (qlt)))))
theorem j0(hJ:qlT Tryz.prog 31):zf Tryz.prog 31 [.fz 1 [.s [111,107]],.s [32]] (.s [111,107]):=by
 have h:=hJ [[111,107]] [32] (by decide) (Nat.le_of_ble_eq_true (by kernel_rfl));have e1:[AV.fz ([[111,107]]:List (List UInt8)).length (rS [[111,107]]),.s [32]]=[.fz 1 [.s [111,107]],.s [32]]:=by kernel_rfl
 have e2:AV.s (qi8 [32] [[111,107]]) = .s [111,107]:=by kernel_rfl
 rw[e1,e2] at h;exact h
theorem j1(hJ:qlT Tryz.prog 31):zf Tryz.prog 31 [.fz 2 [.s [101,114,114,111,114],.s [50]],.s [32]] (.s [101,114,114,111,114,32,50]):=by
 have h:=hJ [[101,114,114,111,114],[50]] [32] (by decide) (Nat.le_of_ble_eq_true (by kernel_rfl));have e1:[AV.fz ([[101,114,114,111,114],[50]]:List (List UInt8)).length (rS [[101,114,114,111,114],[50]]),.s [32]]=[.fz 2 [.s [101,114,114,111,114],.s [50]],.s [32]]:=by kernel_rfl
 have e2:AV.s (qi8 [32] [[101,114,114,111,114],[50]]) = .s [101,114,114,111,114,32,50]:=by kernel_rfl
 rw[e1,e2] at h;exact h
theorem j2(hJ:qlT Tryz.prog 31):zf Tryz.prog 31 [.fz 1 [.s [110,111,110,101]],.s [32]] (.s [110,111,110,101]):=by
 have h:=hJ [[110,111,110,101]] [32] (by decide) (Nat.le_of_ble_eq_true (by kernel_rfl));have e1:[AV.fz ([[110,111,110,101]]:List (List UInt8)).length (rS [[110,111,110,101]]),.s [32]]=[.fz 1 [.s [110,111,110,101]],.s [32]]:=by kernel_rfl
 have e2:AV.s (qi8 [32] [[110,111,110,101]]) = .s [110,111,110,101]:=by kernel_rfl
 rw[e1,e2] at h;exact h
theorem j3(hJ:qlT Tryz.prog 31):zf Tryz.prog 31 [.fz 2 [.s [111,107],.s [54]],.s [32]] (.s [111,107,32,54]):=by
 have h:=hJ [[111,107],[54]] [32] (by decide) (Nat.le_of_ble_eq_true (by kernel_rfl));have e1:[AV.fz ([[111,107],[54]]:List (List UInt8)).length (rS [[111,107],[54]]),.s [32]]=[.fz 2 [.s [111,107],.s [54]],.s [32]]:=by kernel_rfl
 have e2:AV.s (qi8 [32] [[111,107],[54]]) = .s [111,107,32,54]:=by kernel_rfl
 rw[e1,e2] at h;exact h
theorem j4(hJ:qlT Tryz.prog 31):zf Tryz.prog 31 [.fz 1 [.s [98,121,101]],.s [32]] (.s [98,121,101]):=by
 have h:=hJ [[98,121,101]] [32] (by decide) (Nat.le_of_ble_eq_true (by kernel_rfl));have e1:[AV.fz ([[98,121,101]]:List (List UInt8)).length (rS [[98,121,101]]),.s [32]]=[.fz 1 [.s [98,121,101]],.s [32]]:=by kernel_rfl
 have e2:AV.s (qi8 [32] [[98,121,101]]) = .s [98,121,101]:=by kernel_rfl
 rw[e1,e2] at h;exact h
theorem j5(hJ:qlT Tryz.prog 31):zf Tryz.prog 31 [.fz 2 [.s [97,110,115,119,101,114],.s [101,114,114,110,111,32,49]],.s [32]] (.s [97,110,115,119,101,114,32,101,114,114,110,111,32,49]):=by
 have h:=hJ [[97,110,115,119,101,114],[101,114,114,110,111,32,49]] [32] (by decide) (Nat.le_of_ble_eq_true (by kernel_rfl));have e1:[AV.fz ([[97,110,115,119,101,114],[101,114,114,110,111,32,49]]:List (List UInt8)).length (rS [[97,110,115,119,101,114],[101,114,114,110,111,32,49]]),.s [32]]=[.fz 2 [.s [97,110,115,119,101,114],.s [101,114,114,110,111,32,49]],.s [32]]:=by kernel_rfl
 have e2:AV.s (qi8 [32] [[97,110,115,119,101,114],[101,114,114,110,111,32,49]]) = .s [97,110,115,119,101,114,32,101,114,114,110,111,32,49]:=by kernel_rfl
 rw[e1,e2] at h;exact h
theorem j6(hJ:qlT Tryz.prog 31):zf Tryz.prog 31 [.fz 2 [.s [97,110,115,119,101,114],.s [97,108,108,111,119]],.s [32]] (.s [97,110,115,119,101,114,32,97,108,108,111,119]):=by
 have h:=hJ [[97,110,115,119,101,114],[97,108,108,111,119]] [32] (by decide) (Nat.le_of_ble_eq_true (by kernel_rfl));have e1:[AV.fz ([[97,110,115,119,101,114],[97,108,108,111,119]]:List (List UInt8)).length (rS [[97,110,115,119,101,114],[97,108,108,111,119]]),.s [32]]=[.fz 2 [.s [97,110,115,119,101,114],.s [97,108,108,111,119]],.s [32]]:=by kernel_rfl
 have e2:AV.s (qi8 [32] [[97,110,115,119,101,114],[97,108,108,111,119]]) = .s [97,110,115,119,101,114,32,97,108,108,111,119]:=by kernel_rfl
 rw[e1,e2] at h;exact h
theorem j7(hJ:qlT Tryz.prog 31):zf Tryz.prog 31 [.fz 1 [.s [107,105,108,108,58,69,80,69,82,77]],.s [32]] (.s [107,105,108,108,58,69,80,69,82,77]):=by
 have h:=hJ [[107,105,108,108,58,69,80,69,82,77]] [32] (by decide) (Nat.le_of_ble_eq_true (by kernel_rfl));have e1:[AV.fz ([[107,105,108,108,58,69,80,69,82,77]]:List (List UInt8)).length (rS [[107,105,108,108,58,69,80,69,82,77]]),.s [32]]=[.fz 1 [.s [107,105,108,108,58,69,80,69,82,77]],.s [32]]:=by kernel_rfl
 have e2:AV.s (qi8 [32] [[107,105,108,108,58,69,80,69,82,77]]) = .s [107,105,108,108,58,69,80,69,82,77]:=by kernel_rfl
 rw[e1,e2] at h;exact h
def k31:zZ:=[([.fz 1 [.s [111,107]],.s [32]],.s [111,107]),([.fz 2 [.s [101,114,114,111,114],.s [50]],.s [32]],.s [101,114,114,111,114,32,50]),([.fz 1 [.s [110,111,110,101]],.s [32]],.s [110,111,110,101]),([.fz 2 [.s [111,107],.s [54]],.s [32]],.s [111,107,32,54]),([.fz 1 [.s [98,121,101]],.s [32]],.s [98,121,101]),([.fz 2 [.s [97,110,115,119,101,114],.s [101,114,114,110,111,32,49]],.s [32]],.s [97,110,115,119,101,114,32,101,114,114,110,111,32,49]),([.fz 2 [.s [97,110,115,119,101,114],.s [97,108,108,111,119]],.s [32]],.s [97,110,115,119,101,114,32,97,108,108,111,119]),([.fz 1 [.s [107,105,108,108,58,69,80,69,82,77]],.s [32]],.s [107,105,108,108,58,69,80,69,82,77])]
theorem k31_ok(hJ:qlT Tryz.prog 31):∀q ∈ k31,zf Tryz.prog 31 q.1 q.2:=qkd (j0 hJ) (qkd (j1 hJ) (qkd (j2 hJ) (qkd (j3 hJ) (qkd (j4 hJ) (qkd (j5 hJ) (qkd (j6 hJ) (qkd (j7 hJ) (qlt))))))))
set_option linter.unusedSectionVars false
section
variable (hI:qjC Tryz.prog 17) (hJ:qlT Tryz.prog 31)
def kt0:List (Nat×zZ):=[(17,k17)]
noncomputable def kh0:HookG:=⟨qj6 (qi7 kt0) extH,gvL kt0⟩
include hI hJ in
theorem kt0_ok:∀e ∈ kt0,∀q ∈ e.2,zf Tryz.prog e.1 q.1 q.2:=by
 intro e he;simp only[kt0,List.mem_cons,List.not_mem_nil,or_false] at he;subst he
 ·exact k17_ok hI

include hI hJ in
theorem kh0_ok:HookGOk Tryz.prog kh0:=⟨qlp (qf5 (kt0_ok hI hJ)) extOk,qmW (kt0_ok hI hJ)⟩
include hI hJ in
theorem g0{f:Nat}{vs:List AV}{r:AV}(hc:qbM vs=true:=by kernel_rfl)(h:∀n,n=1000000->qaP env kh0 (qd5 sites) (fr env kh0 (qd5 sites) n) (Nat.succ f) vs H0 (fun v h=>tt (xa h r v))=True:=by rintro n rfl;kernel_rfl):zf Tryz.prog f vs r:=zf.runK envOk (kh0_ok hI hJ) qmK 1000000 hc (h _ rfl)
def k68:zZ:=[([note],line)]
include hI hJ in
theorem k68_ok:∀q ∈ k68,zf Tryz.prog 68 q.1 q.2:=qkd (g0 hI hJ) qlt
def kt1:List (Nat×zZ):=[(17,k17),(31,k31),(39,FacP.k39),(47,FacE.k47),(68,k68)]
noncomputable def kh1:HookG:=⟨qj6 (qi7 kt1) extH,gvL kt1⟩
include hI hJ in
theorem kt1_ok:∀e ∈ kt1,∀q ∈ e.2,zf Tryz.prog e.1 q.1 q.2:=by
 intro e he;simp only[kt1,List.mem_cons,List.not_mem_nil,or_false] at he;rcases he with rfl|rfl|rfl|rfl|rfl
 ·exact k17_ok hI
 ·exact k31_ok hJ
 ·exact FacP.k39_ok
 ·exact FacE.k47_ok
 ·exact k68_ok hI hJ

include hI hJ in
theorem kh1_ok:HookGOk Tryz.prog kh1:=⟨qlp (qf5 (kt1_ok hI hJ)) extOk,qmW (kt1_ok hI hJ)⟩
include hI hJ in
theorem g1{f:Nat}{vs:List AV}{r:AV}(hc:qbM vs=true:=by kernel_rfl)(h:∀n,n=1000000->qaP env kh1 (qd5 sites) (fr env kh1 (qd5 sites) n) (Nat.succ f) vs H0 (fun v h=>tt (xa h r v))=True:=by rintro n rfl;kernel_rfl):zf Tryz.prog f vs r:=zf.runK envOk (kh1_ok hI hJ) qmK 1000000 hc (h _ rfl)
def k14:zZ:=[
 ([.fz 4 [.s [109,97,105,110],.s [43,32,91,83,101,114,118,105,99,101,93],.s [43,32,83,121,115,116,101,109,67,97,108,108,70,105,108,116,101,114,61,126,107,105,108,108,58,69,80,69,82,77],.s [99,111,109,112,105,108,101]]],.s [111,107,32,54]),
 ([.fz 5 [.s [109,97,105,110],.s [43,32,91,83,101,114,118,105,99,101,93],.s [43,32,83,121,115,116,101,109,67,97,108,108,70,105,108,116,101,114,61,126,107,105,108,108,58,69,80,69,82,77],.s [99,111,109,112,105,108,101],.s [112,111,108,105,99,121]]],.s [83,121,115,116,101,109,67,97,108,108,70,105,108,116,101,114,61,126,107,105,108,108,58,69,80,69,82,77,47,111,107]),
 ([.fz 5 [.s [109,97,105,110],.s [43,32,91,83,101,114,118,105,99,101,93],.s [43,32,83,121,115,116,101,109,67,97,108,108,70,105,108,116,101,114,61,126,107,105,108,108,58,69,80,69,82,77],.s [99,111,109,112,105,108,101],.s [97,115,107,32,120,56,54,32,107,105,108,108]]],.s [97,110,115,119,101,114,32,101,114,114,110,111,32,49]),
 ([.fz 5 [.s [109,97,105,110],.s [43,32,91,83,101,114,118,105,99,101,93],.s [43,32,83,121,115,116,101,109,67,97,108,108,70,105,108,116,101,114,61,126,107,105,108,108,58,69,80,69,82,77],.s [99,111,109,112,105,108,101],.s [97,115,107,32,120,56,54,32,51,55]]],.s [97,110,115,119,101,114,32,101,114,114,110,111,32,49]),
 ([.fz 5 [.s [109,97,105,110],.s [43,32,91,83,101,114,118,105,99,101,93],.s [43,32,83,121,115,116,101,109,67,97,108,108,70,105,108,116,101,114,61,126,107,105,108,108,58,69,80,69,82,77],.s [99,111,109,112,105,108,101],.s [97,115,107,32,97,114,109,32,114,101,97,100]]],.s [97,110,115,119,101,114,32,97,108,108,111,119]),
 ([.fz 3 [.s [100,114,111,112,32,97,46,99,111,110,102,32,48],.s [43,32,120],.s [99,111,109,112,105,108,101]]],.s [97,46,99,111,110,102,58,49,58,32,101,114,114,111,114,32,49,51,48,58,32,120,47,102,97,105,108,101,100]),
 ([.fz 1 [.s [104,101,108,108,111]]],.s [101,114,114,111,114,32,50]),
 ([.fz 1 [.s [97,115,107,32,118,97,120,32,114,101,97,100]]],.s [101,114,114,111,114,32,50]),
 ([.fz 1 [.s [112,111,108,105,99,121]]],.s [110,111,110,101]),
 ([.fz 2 [.s [113,117,105,116],.s [109,97,105,110]]],.s [])]
include hI hJ in
theorem k14_ok:∀q ∈ k14,zf Tryz.prog 14 q.1 q.2:=qkd (g1 hI hJ) (qkd (g1 hI hJ) (qkd (g1 hI hJ) (qkd (g1 hI hJ) (qkd (g1 hI hJ) (qkd (g1 hI hJ) (qkd (g1 hI hJ) (qkd (g1 hI hJ) (qkd (g1 hI hJ) (qkd (g1 hI hJ) (qlt))))))))))
def kt2:List (Nat×zZ):=[(14,k14)]
noncomputable def kh2:HookG:=⟨qj6 (qi7 kt2) extH,gvL kt2⟩
include hI hJ in
theorem kt2_ok:∀e ∈ kt2,∀q ∈ e.2,zf Tryz.prog e.1 q.1 q.2:=by
 intro e he;simp only[kt2,List.mem_cons,List.not_mem_nil,or_false] at he;subst he
 ·exact k14_ok hI hJ

include hI hJ in
theorem kh2_ok:HookGOk Tryz.prog kh2:=⟨qlp (qf5 (kt2_ok hI hJ)) extOk,qmW (kt2_ok hI hJ)⟩
include hI hJ in
theorem g2{f:Nat}{vs:List AV}{r:AV}(hc:qbM vs=true:=by kernel_rfl)(h:∀n,n=1000000->qaP env kh2 (qd5 sites) (fr env kh2 (qd5 sites) n) (Nat.succ f) vs H0 (fun v h=>tt (xa h r v))=True:=by rintro n rfl;kernel_rfl):zf Tryz.prog f vs r:=zf.runK envOk (kh2_ok hI hJ) qmK 1000000 hc (h _ rfl)
def k13:zZ:=[
 ([.nils],.s [111,107,32,54]),
 ([.fz 1 [.s [112,111,108,105,99,121]]],.s [83,121,115,116,101,109,67,97,108,108,70,105,108,116,101,114,61,126,107,105,108,108,58,69,80,69,82,77,47,111,107]),
 ([.fz 1 [.s [97,115,107,32,120,56,54,32,107,105,108,108]]],.s [97,110,115,119,101,114,32,101,114,114,110,111,32,49]),
 ([.fz 1 [.s [97,115,107,32,120,56,54,32,51,55]]],.s [97,110,115,119,101,114,32,101,114,114,110,111,32,49]),
 ([.fz 1 [.s [97,115,107,32,97,114,109,32,114,101,97,100]]],.s [97,110,115,119,101,114,32,97,108,108,111,119])]
include hI hJ in
theorem k13_ok:∀q ∈ k13,zf Tryz.prog 13 q.1 q.2:=qkd (g2 hI hJ) (qkd (g2 hI hJ) (qkd (g2 hI hJ) (qkd (g2 hI hJ) (qkd (g2 hI hJ) (qlt)))))
def kt3:List (Nat×zZ):=[(13,k13),(14,k14)]
noncomputable def kh3:HookG:=⟨qj6 (qi7 kt3) extH,gvL kt3⟩
include hI hJ in
theorem kt3_ok:∀e ∈ kt3,∀q ∈ e.2,zf Tryz.prog e.1 q.1 q.2:=by
 intro e he;simp only[kt3,List.mem_cons,List.not_mem_nil,or_false] at he;rcases he with rfl|rfl
 ·exact k13_ok hI hJ
 ·exact k14_ok hI hJ

include hI hJ in
theorem kh3_ok:HookGOk Tryz.prog kh3:=⟨qlp (qf5 (kt3_ok hI hJ)) extOk,qmW (kt3_ok hI hJ)⟩
include hI hJ in
theorem g3{f:Nat}{vs:List AV}{r:AV}(hc:qbM vs=true:=by kernel_rfl)(h:∀n,n=1000000->qaP env kh3 (qd5 sites) (fr env kh3 (qd5 sites) n) (Nat.succ f) vs H0 (fun v h=>tt (xa h r v))=True:=by rintro n rfl;kernel_rfl):zf Tryz.prog f vs r:=zf.runK envOk (kh3_ok hI hJ) qmK 1000000 hc (h _ rfl)
include hI hJ in
theorem awake:zf Tryz.prog 6 [] (.b true):=g3 hI hJ
end
end Go.Proofs.YtklaibhahdcciaaGreatDoor.FacT
