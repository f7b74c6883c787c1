/- The arguments of the laws, opened: bytes. No condition. -/
import Derived.Test.YtpgbjeabmkbmbaaK6
import Derived.Test.YtpgbjeabmkbmbaaK7
import Derived.Test.YtpgbjeabmkbmbaaProg
import Derived.KernelRfl
namespace Go.Proofs.Ytpgbjeabmkbmbaa.Args
open Go.Kc
section
variable {H:Type} {enc:TypeId×Value->H} {w:World}
theorem kids:Kids Try.prog (· < Try.prog.types.size):=kids_rows (by kernel_rfl) (by kernel_rfl)
theorem full:∀t e,t<Try.prog.types.size->Try.prog.underlying t=some (.slice e)->0<Try.prog.cellsOf e:=slices_full_of Try.prog (by kernel_rfl)
theorem wf8{n:Int}(h:(Lit.int .u8 n).wf=true):0<=n∧n<=255:=by
 have h':(decide (IntKind.u8.min<=n)&&decide (n<=IntKind.u8.max))=true:=h;simp only[Bool.and_eq_true,decide_eq_true_eq] at h';exact h'
theorem oBytes:QU enc Try.prog w 22 (fun l:List Int=>qK l) (fun l=>[.fz l.length (rB l)]) :=
 (qk5 Try.underlying22 (qof Try.underlying5) (m:=1) (fun _=>rfl) (by kernel_rfl) (by decide)).map (fun l=>l) (fun l h=>⟨fun x hx=>wf8 (h.2 x hx),by rw[qni];rfl⟩)
end
end Go.Proofs.Ytpgbjeabmkbmbaa.Args
