/- The arguments of the laws, opened: policies. No condition. -/
import Derived.Test.YtkmehjebocbmlaaK6
import Derived.Test.YtkmehjebocbmlaaK6
import Derived.Test.YtkmehjebocbmlaaK7
import Derived.Test.YtkmehjebocbmlaaK7
import Derived.Test.YtkmehjebocbmlaaK8
import Derived.Test.YtkmehjebocbmlaaProg
import Derived.KernelRfl
namespace Go.Proofs.Ytkmehjebocbmlaa.Args
open Go.Kc
section
variable {H:Type} {enc:TypeId×Value->H} {w:World}
theorem kids:Kids Try.prog (· < Try.prog.types.size):=kids_rows (by kernel_rfl) (by kernel_rfl)
theorem full:∀t e,t<Try.prog.types.size->Try.prog.underlying t=some (.slice e)->0<Try.prog.cellsOf e:=slices_full_of Try.prog (by kernel_rfl)
theorem wf8{n:Int}(h:(Lit.int .u8 n).wf=true):0<=n∧n<=255:=by
 have h':(decide (IntKind.u8.min<=n)&&decide (n<=IntKind.u8.max))=true:=h;simp only[Bool.and_eq_true,decide_eq_true_eq] at h';exact h'
theorem wf32{n:Int}(h:(Lit.int .u32 n).wf=true):0<=n∧n<=4294967295:=by
 have h':(decide (IntKind.u32.min<=n)&&decide (n<=IntKind.u32.max))=true:=h;simp only[Bool.and_eq_true,decide_eq_true_eq] at h';exact h'
theorem wf64{n:Int}(h:(Lit.int .u64 n).wf=true):0<=n∧n<18446744073709551616:=by
 have h':(decide (IntKind.u64.min<=n)&&decide (n<=IntKind.u64.max))=true:=h;simp only[Bool.and_eq_true,decide_eq_true_eq] at h';have e1:IntKind.u64.min=0:=by decide
 have e2:IntKind.u64.max=18446744073709551615:=by decide
 omega
theorem oCall:kF enc Try.prog w 68 (fun c:GCall=>0<=c.act∧c.act<=4294967295) vc :=
 (qjN Try.underlying68 (by kernel_rfl) (qkA (m:=1) (qnm Try.underlying9) (fun _=>rfl) rfl (by kernel_rfl) (qkA (m:=1) (qnl Try.underlying26) (fun _=>rfl) rfl (by kernel_rfl) qmB))).map (fun p=>⟨p.1,p.2.1⟩) (fun _ h=>⟨wf32 h.2.1,rfl⟩)
theorem oList:kF enc Try.prog w 25 (fun l:GList=>0<=l.mode∧Rng l.calls) qG :=
 (qjN Try.underlying25 (by kernel_rfl) (qkA (m:=1) (qnl Try.underlying5) (fun _=>rfl) rfl (by kernel_rfl)
  (qkA (m:=1) (qkB Try.underlying23 oCall yx (by kernel_rfl) (by decide)) (fun _=>rfl) rfl (by kernel_rfl) qmB))).map (fun p=>⟨p.1,p.2.1⟩) (fun _ h=>⟨⟨(wf8 h.1).1,h.2.1.2⟩,rfl⟩)
theorem oIntsP:kF enc Try.prog w 22 (fun _:List Int=>True) (fun l=>[.fz l.length (rI .i64 l)]) :=
 (qkB Try.underlying22 (qnl Try.underlying3) (m:=1) (fun _=>rfl) (by kernel_rfl) (by decide)).map (fun l=>l) (fun l _=>⟨trivial,by rw[qmI];rfl⟩)
theorem oU32s:kF enc Try.prog w 27 (fun l:List Int=>∀x ∈ l,0<=x∧x<=4294967295) (fun l=>[.fz l.length (rI .u32 l)]) :=
 (qkB Try.underlying27 (qnl Try.underlying26) (m:=1) (fun _=>rfl) (by kernel_rfl) (by decide)).map (fun l=>l) (fun l h=>⟨fun x hx=>wf32 (h.2 x hx),by rw[qmI];rfl⟩)
theorem oPol:kF enc Try.prog w 30 (fun p:Pol=>PolR p) qf :=
 (qjN Try.underlying30 (by kernel_rfl) (qkA (m:=1) oIntsP (fun _=>rfl) rfl (by kernel_rfl) (qkA (m:=2) oList (fun _=>rfl) rfl (by kernel_rfl) (qkA (m:=1) (qnl Try.underlying26) (fun _=>rfl) rfl (by kernel_rfl)
  (qkA (m:=2) oList (fun _=>rfl) rfl (by kernel_rfl) (qkA (m:=1) oU32s (fun _=>rfl) rfl (by kernel_rfl) (qkA (m:=1) (qnl Try.underlying5) (fun _=>rfl) rfl (by kernel_rfl) (qkA (m:=1) (qnl Try.underlying28) (fun _=>rfl) rfl (by kernel_rfl)
  (qkA (m:=1) (qmC Try.underlying4) (fun _=>rfl) rfl (by kernel_rfl) (qkA (m:=1) (qmC Try.underlying4) (fun _=>rfl) rfl (by kernel_rfl) (qkA (m:=1) (qmC Try.underlying4) (fun _=>rfl) rfl (by kernel_rfl) (qkA (m:=1) (qmC Try.underlying4) (fun _=>rfl) rfl (by kernel_rfl) qmB)))))))))))).map
  (fun p=>⟨p.1,p.2.1,p.2.2.1,p.2.2.2.1,p.2.2.2.2.1,p.2.2.2.2.2.1,p.2.2.2.2.2.2.1,p.2.2.2.2.2.2.2.1,p.2.2.2.2.2.2.2.2.1,p.2.2.2.2.2.2.2.2.2.1,p.2.2.2.2.2.2.2.2.2.2.1⟩) (fun _ h=>⟨⟨h.2.2.2.2.1,wf32 h.2.2.1,wf64 h.2.2.2.2.2.2.1,h.2.1.2,h.2.2.2.1.2⟩,rfl⟩)
end
end Go.Proofs.Ytkmehjebocbmlaa.Args
