/- Law 32's awake at this program: its front by runs, the stack and the sheets by contracts. No condition. -/
import Derived.Test.YtjllccjpflmjfaaGreatDoorFacV
import Derived.Test.YtjllccjpflmjfaaGreatDoorVK6
import Derived.Test.YtjllccjpflmjfaaGreatDoorVK6
import Derived.Test.YtjllccjpflmjfaaGreatDoorVK4
import Derived.Test.YtjllccjpflmjfaaGreatDoorVK3
import Derived.Test.YtjllccjpflmjfaaGreatDoorVK3
import Derived.KernelRfl
namespace Go.Proofs.YtjllccjpflmjfaaGreatDoor.FacT
open Go.Kc EnvS FacV
theorem kc{f:Nat}{k:qcE}{kt:List (Nat×qcE)}(h1:∀q ∈ k,qa Tryz.prog f q.1 q.2)(h2:∀e ∈ kt,∀q ∈ e.2,qa Tryz.prog e.1 q.1 q.2):∀e ∈ (f,k)::kt,∀q ∈ e.2,qa Tryz.prog e.1 q.1 q.2:=List.forall_mem_cons.2 ⟨h1,h2⟩
theorem kn:∀e ∈ ([]:List (Nat×qcE)),∀q ∈ e.2,qa Tryz.prog e.1 q.1 q.2:=fun _ h=>nomatch h
noncomputable def kh(kt:List (Nat×qcE)):HookG:=⟨qFZ (qD8 kt) extH,gvL kt⟩
theorem g{kt:List (Nat×qcE)}(hk:∀e ∈ kt,∀q ∈ e.2,qa Tryz.prog e.1 q.1 q.2){f:Nat}{vs:List AV}{r:AV}(hc:qu vs=true:=by kernel_rfl)(h:∀n,n=1000000->qlg env (kh kt) (qua sites) (fr env (kh kt) (qua sites) n) (Nat.succ f) vs H0 (fun v h=>tt (qch h r v))=True:=by rintro n rfl;kernel_rfl):qa Tryz.prog f vs r:=qa.runK envOk ⟨qIx (qx3 hk) extOk,qLM hk⟩ qLo 1000000 hc (h _ rfl)
theorem choices:qa Tryz.prog 35 [] (.agg (qph qDv)):=g kn
theorem allC:qwO Tryz.prog 10:=by
 intro a h0 h6;have h:a=0∨a=1∨a=2∨a=3∨a=4∨a=5:=Ac
 rcases h with rfl|rfl|rfl|rfl|rfl|rfl<;>exact g kn
theorem srt:qa Tryz.prog 22 [.nils,.fn 23 [] []] (.tup []):=g kn
theorem i2:Lib.itoa 2=[50]:=by simp[Lib.itoa,Lib.decDigits]
theorem i150:Lib.itoa 150=[49,53,48]:=by simp[Lib.itoa,Lib.decDigits]
def kI:qcE:=[([.i .i64 150],.s [49,53,48]),([.i .i64 2],.s [50])]
theorem kI_ok(hI:qwU Tryz.prog 70):∀q ∈ kI,qa Tryz.prog 70 q.1 q.2:=qF7 (i150 ▸ hI 150 Af Af) (qF7 (i2 ▸ hI 2 Af Af) qIC)
theorem dr(hD:qFc Tryz.prog 16)(l:List UInt8){v:AV}{c:AV}(h:decide (l.length<=1500)=true)(e1:AV.fz l.length (bR l)=c)(e2:AV.agg (qD2 l)=v):qa Tryz.prog 16 [c] v:=e1 ▸ e2 ▸ hD l (of_decide_eq_true h)
def kD:qcE:=[([.fz 1 [.i .u8 15]],f15),
 ([.fz 1 [.i .u8 7]],f7),
 ([.fz 3 [.i .u8 0,.i .u8 1,.i .u8 15]],f3)]
theorem kD_ok(hD:qFc Tryz.prog 16):∀q ∈ kD,qa Tryz.prog 16 q.1 q.2:=qF7 (dr hD [15] rfl Aa Aa) (qF7 (dr hD [7] rfl Aa Aa) (qF7 (dr hD [0,1,15] rfl Aa Aa) qIC))
def kM:qcE:=[([f7,.nils],.tup [as7,.nils]),
 ([f15,.nils],.tup [as15,.nils])]
theorem kM_ok:∀q ∈ kM,qa Tryz.prog 84 q.1 q.2:=qF7 (g kn) (qF7 (g kn) qIC)
def kR:qcE:=[([as7],.tup [pO,.fz 0 []]),
 ([as15],.tup [.agg [.nils,.i .u8 0,.nils,.i .u32 0,.i .u8 0,.nils,.nils,.i .u8 0,.i .u64 0,.b false,.b false,.b false,.b false],.fz 1 [ds,.i .i64 2,.i .i64 150,mb]])]
theorem kR_ok:∀q ∈ kR,qa Tryz.prog 85 q.1 q.2:=qF7 (g kn) (qF7 (g kn) qIC)
def kB:qcE:=[([pO,.b true],.tup [st,.i .i64 0])]
theorem kB_ok(hB:qA2 Tryz.prog 42):∀q ∈ kB,qa Tryz.prog 42 q.1 q.2:=qF7 (qMH hB Aa) qIC
def r15:AV:=.agg [.nils,.i .u8 0,.nils,.i .u32 0,.i .u8 0,.nils,.nils,.i .u8 0,.i .u64 0,.b false,.b false,.b false,.b false,.nils,.fz 1 [ds,.i .i64 2,.i .i64 150,mb]]
def kC:qcE:=[([f15,.nils,.b true],r15),
 ([f7,.nils,.b true],.agg [.nils,.i .u8 0,.nils,.i .u32 2147483648,.i .u8 0,.nils,.nils,.i .u8 0,.i .u64 0,.b false,.b true,.b false,.b false,st,.fz 0 []])]
theorem kC_ok(hB:qA2 Tryz.prog 42):∀q ∈ kC,qa Tryz.prog 38 q.1 q.2:=qF7 (g (kc kM_ok (kc kR_ok (kc (kB_ok hB) kn)))) (qF7 (g (kc kM_ok (kc kR_ok (kc (kB_ok hB) kn)))) qIC)
def kX:qcE:=[([note],line)]
theorem kX_ok(hI:qwU Tryz.prog 70):∀q ∈ kX,qa Tryz.prog 60 q.1 q.2:=qF7 (g (kc (kI_ok hI) kn)) qIC
def kT:qcE:=[([r15],.fz 1 [line])]
theorem kT_ok(hI:qwU Tryz.prog 70):∀q ∈ kT,qa Tryz.prog 40 q.1 q.2:=qF7 (g (kc (kX_ok hI) kn)) qIC
def kS:qcE:=[([pO,.i .i64 1,.b true],.tup [qLK 1,.i .i64 0])]
theorem kS_ok(hS:qA8 Tryz.prog 8):∀q ∈ kS,qa Tryz.prog 8 q.1 q.2:=qF7 (qMK hS) qIC
def kN:qcE:=[([pN,.i .i64 0],.tup [.i .i64 40,.i .i64 0,.i .i64 0]),
 ([pN,.i .i64 2],.tup [.i .i64 37,.i .i64 0,.i .i64 0]),
 ([pN,.i .i64 6],.tup [.i .i64 0,.i .i64 0,.i .i64 0])]
theorem kN_ok(hC:qA3 Tryz.prog 9):∀q ∈ kN,qa Tryz.prog 9 q.1 q.2:=qF7 (qMn hC) (qF7 (qMo hC) (qF7 (qMp hC) qIC))
def kP:qcE:=[([.fz 1 [.i .u8 15],.i .i64 1],.fz 1 [line]),
 ([.fz 1 [.i .u8 7],.i .i64 1],qLK 1)]
theorem kP_ok(hI:qwU Tryz.prog 70)(hD:qFc Tryz.prog 16)(hB:qA2 Tryz.prog 42)(hS:qA8 Tryz.prog 8):∀q ∈ kP,qa Tryz.prog 17 q.1 q.2:=qF7 (g (kc (kD_ok hD) (kc (kC_ok hB) (kc (kT_ok hI) (kc (kS_ok hS) kn))))) (qF7 (g (kc (kD_ok hD) (kc (kC_ok hB) (kc (kT_ok hI) (kc (kS_ok hS) kn))))) qIC)
theorem awake(hI:qwU Tryz.prog 70)(hD:qFc Tryz.prog 16)(hB:qA2 Tryz.prog 42)(hS:qA8 Tryz.prog 8)(hC:qA3 Tryz.prog 9):qa Tryz.prog 7 [] (.b true):=g (kc (kD_ok hD) (kc (kN_ok hC) (kc (kP_ok hI hD hB hS) kn)))
end Go.Proofs.YtjllccjpflmjfaaGreatDoor.FacT
