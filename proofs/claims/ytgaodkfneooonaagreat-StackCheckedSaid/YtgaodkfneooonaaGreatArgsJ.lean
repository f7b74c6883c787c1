/- The arguments of the laws, opened: policies. No condition. -/
import Derived.Test.YtgaodkfneooonaaGreatCK5
import Derived.Test.YtgaodkfneooonaaGreatCK5
import Derived.Test.YtgaodkfneooonaaGreatCK6
import Derived.Test.YtgaodkfneooonaaGreatCK6
import Derived.Test.YtgaodkfneooonaaGreatProg
import Derived.KernelRfl
namespace Go.Proofs.YtgaodkfneooonaaGreat.Args
open Go.Kc
section
variable {H:Type} {enc:TypeId×Value->H} {w:World}
theorem kids:Kids Tryz.prog (· < Tryz.prog.types.size):=kids_rows (by kernel_rfl) (by kernel_rfl)
theorem full:∀t e,t<Tryz.prog.types.size->Tryz.prog.underlying t=some (.slice e)->0<Tryz.prog.cellsOf e:=slices_full_of Tryz.prog (by kernel_rfl)
theorem wf8{n:Int}(h:(Lit.int .u8 n).wf=true):0<=n∧n<=255:=by
 have h':(decide (IntKind.u8.min<=n)&&decide (n<=IntKind.u8.max))=true:=h;simp only[Bool.and_eq_true,decide_eq_true_eq] at h';exact h'
theorem wf32{n:Int}(h:(Lit.int .u32 n).wf=true):0<=n∧n<=4294967295:=by
 have h':(decide (IntKind.u32.min<=n)&&decide (n<=IntKind.u32.max))=true:=h;simp only[Bool.and_eq_true,decide_eq_true_eq] at h';exact h'
theorem wf64{n:Int}(h:(Lit.int .u64 n).wf=true):0<=n∧n<18446744073709551616:=by
 have h':(decide (IntKind.u64.min<=n)&&decide (n<=IntKind.u64.max))=true:=h;simp only[Bool.and_eq_true,decide_eq_true_eq] at h';have e1:IntKind.u64.min=0:=by decide
 have e2:IntKind.u64.max=18446744073709551615:=by decide
 omega
theorem oCall:qfW enc Tryz.prog w 125 (fun c:GCall=>0<=c.act∧c.act<=4294967295) qe9 :=
 (qz5 Tryz.underlying125 (by kernel_rfl) (qBu (m:=1) (qFT Tryz.underlying9) (fun _=>rfl) rfl (by kernel_rfl) (qBu (m:=1) (qFS Tryz.underlying23) (fun _=>rfl) rfl (by kernel_rfl) qEh))).map (fun p=>⟨p.1,p.2.1⟩) (fun _ h=>⟨wf32 h.2.1,rfl⟩)
theorem oList:qfW enc Tryz.prog w 60 (fun l:GList=>0<=l.mode∧Rng l.calls) qc8 :=
 (qz5 Tryz.underlying60 (by kernel_rfl) (qBu (m:=1) (qFS Tryz.underlying5) (fun _=>rfl) rfl (by kernel_rfl)
  (qBu (m:=1) (qBv Tryz.underlying58 oCall qhr (by kernel_rfl) (by decide)) (fun _=>rfl) rfl (by kernel_rfl) qEh))).map (fun p=>⟨p.1,p.2.1⟩) (fun _ h=>⟨⟨(wf8 h.1).1,h.2.1.2⟩,rfl⟩)
theorem oIntsP:qfW enc Tryz.prog w 51 (fun _:List Int=>True) (fun l=>[.fz l.length (rI .i64 l)]) :=
 (qBv Tryz.underlying51 (qFS Tryz.underlying3) (m:=1) (fun _=>rfl) (by kernel_rfl) (by decide)).map (fun l=>l) (fun l _=>⟨trivial,by rw[qEy];rfl⟩)
theorem oU32s:qfW enc Tryz.prog w 61 (fun l:List Int=>∀x ∈ l,0<=x∧x<=4294967295) (fun l=>[.fz l.length (rI .u32 l)]) :=
 (qBv Tryz.underlying61 (qFS Tryz.underlying23) (m:=1) (fun _=>rfl) (by kernel_rfl) (by decide)).map (fun l=>l) (fun l h=>⟨fun x hx=>wf32 (h.2 x hx),by rw[qEy];rfl⟩)
theorem oPol:qfW enc Tryz.prog w 63 (fun p:Pol=>PolR p) qB :=
 (qz5 Tryz.underlying63 (by kernel_rfl) (qBu (m:=1) oIntsP (fun _=>rfl) rfl (by kernel_rfl) (qBu (m:=2) oList (fun _=>rfl) rfl (by kernel_rfl) (qBu (m:=1) (qFS Tryz.underlying23) (fun _=>rfl) rfl (by kernel_rfl)
  (qBu (m:=2) oList (fun _=>rfl) rfl (by kernel_rfl) (qBu (m:=1) oU32s (fun _=>rfl) rfl (by kernel_rfl) (qBu (m:=1) (qFS Tryz.underlying5) (fun _=>rfl) rfl (by kernel_rfl) (qBu (m:=1) (qFS Tryz.underlying26) (fun _=>rfl) rfl (by kernel_rfl)
  (qBu (m:=1) (qEi Tryz.underlying4) (fun _=>rfl) rfl (by kernel_rfl) (qBu (m:=1) (qEi Tryz.underlying4) (fun _=>rfl) rfl (by kernel_rfl) (qBu (m:=1) (qEi Tryz.underlying4) (fun _=>rfl) rfl (by kernel_rfl) (qBu (m:=1) (qEi Tryz.underlying4) (fun _=>rfl) rfl (by kernel_rfl) qEh)))))))))))).map
  (fun p=>⟨p.1,p.2.1,p.2.2.1,p.2.2.2.1,p.2.2.2.2.1,p.2.2.2.2.2.1,p.2.2.2.2.2.2.1,p.2.2.2.2.2.2.2.1,p.2.2.2.2.2.2.2.2.1,p.2.2.2.2.2.2.2.2.2.1,p.2.2.2.2.2.2.2.2.2.2.1⟩) (fun _ h=>⟨⟨h.2.2.2.2.1,wf32 h.2.2.1,wf64 h.2.2.2.2.2.2.1,h.2.1.2,h.2.2.2.1.2⟩,rfl⟩)
end
end Go.Proofs.YtgaodkfneooonaaGreat.Args
