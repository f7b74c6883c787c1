/- The argument of the law, opened: notes. No condition. -/
import Derived.Test.YthmhjhlddnjcpaaGreatDoorK6
import Derived.Test.YthmhjhlddnjcpaaGreatDoorK6
import Derived.Test.YthmhjhlddnjcpaaGreatDoorEnvR
import Derived.KernelRfl
namespace Go.Proofs.YthmhjhlddnjcpaaGreatDoor.Args
open Go.Kc
section
variable {H:Type} {enc:TypeId×Value->H} {w:World}
theorem kids:Kids Tryz.prog (· < Tryz.prog.types.size):=kids_rows (by kernel_rfl) (by kernel_rfl)
theorem full:∀t e,t<Tryz.prog.types.size->Tryz.prog.underlying t=some (.slice e)->0<Tryz.prog.cellsOf e:=slices_full_of Tryz.prog (by kernel_rfl)
theorem wfi{n:Int}(h:(Lit.int .i64 n).wf=true):-9223372036854775808<=n∧n<=9223372036854775807:=by
 have h':(decide (IntKind.i64.min<=n)&&decide (n<=IntKind.i64.max))=true:=h;simp only[Bool.and_eq_true,decide_eq_true_eq] at h';have e1:IntKind.i64.min = -9223372036854775808:=by decide
 have e2:IntKind.i64.max=9223372036854775807:=by decide
 omega
theorem oNote:wk enc Tryz.prog w 25 (fun n:GNote=>(-9223372036854775808<=n.line∧n.line<=9223372036854775807)∧-9223372036854775808<=n.err∧n.err<=9223372036854775807) qE :=
 (qjD Tryz.underlying25 (by kernel_rfl) (qj9 (m:=1) (qmO Tryz.underlying9) (fun _=>rfl) rfl (by kernel_rfl) (qj9 (m:=1) (qmN Tryz.underlying3) (fun _=>rfl) rfl (by kernel_rfl) (qj9 (m:=1) (qmN Tryz.underlying23) (fun _=>rfl) rfl (by kernel_rfl)
  (qj9 (m:=1) (qmO Tryz.underlying9) (fun _=>rfl) rfl (by kernel_rfl) ql7))))).map (fun p=>⟨p.1,p.2.1,p.2.2.1,p.2.2.2.1⟩) (fun _ h=>⟨⟨wfi h.2.1,wfi h.2.2.1⟩,rfl⟩)
theorem oNotes:wk enc Tryz.prog w 22 (fun l:List GNote=>∀n ∈ l,(-9223372036854775808<=n.line∧n.line<=9223372036854775807)∧-9223372036854775808<=n.err∧n.err<=9223372036854775807) (fun l=>[.fz l.length (rN l)]) :=
 (qka Tryz.underlying22 oNote wK (by kernel_rfl) (by decide)).map (fun l=>l) (fun l h=>⟨h.2,rfl⟩)
end
end Go.Proofs.YthmhjhlddnjcpaaGreatDoor.Args
