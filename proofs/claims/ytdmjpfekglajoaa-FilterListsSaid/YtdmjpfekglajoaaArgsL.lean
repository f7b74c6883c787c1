/- Rows of strings and bytes as arguments, opened. No condition. -/
import Derived.Test.YtdmjpfekglajoaaK6
import Derived.Test.YtdmjpfekglajoaaK7
import Derived.Test.YtdmjpfekglajoaaProg
import Derived.KernelRfl
namespace Go.Proofs.Ytdmjpfekglajoaa.Args
open Go.Kc
section
variable {H:Type} {enc:TypeId × Value → H} {w:World}
theorem kids:Kids Try.prog (· < Try.prog.types.size):=kids_rows (by kernel_rfl) (by kernel_rfl)
theorem full:∀ t e,t < Try.prog.types.size → Try.prog.underlying t = some (.slice e) → 0 < Try.prog.cellsOf e:=slices_full_of Try.prog (by kernel_rfl)
theorem wf8 {n:Int} (h:(Lit.int .u8 n).wf = true):0 ≤ n:=by
  have h':(decide (IntKind.u8.min ≤ n) && decide (n ≤ IntKind.u8.max)) = true:=h
  simp only [Bool.and_eq_true,decide_eq_true_eq] at h'
  exact h'.1
theorem rS_flatMap:∀ l:List (List UInt8),l.flatMap (fun s=>[AV.s s]) = rS l
  | []=>rfl
  | x :: l=>by rw [List.flatMap_cons,rS_flatMap l]; rfl
theorem oStrs:Opens enc Try.prog w 30 (fun _:List (List UInt8)=>True) (fun l=>[.fz l.length (rS l)]) :=
  (opens_slice Try.underlying30 (opens_str Try.underlying9) (m:=1) (fun _=>rfl) (by kernel_rfl) (by decide)).map (fun l=>l) (fun l _=>⟨trivial,by rw [rS_flatMap]⟩)
theorem oBytes:Opens enc Try.prog w 65 (fun l:List Int=>∀ p ∈ l,0 ≤ p) (fun l=>[.fz l.length (rI .u8 l)]) :=
  (opens_slice Try.underlying65 (opens_int Try.underlying5) (m:=1) (fun _=>rfl) (by kernel_rfl) (by decide)).map (fun l=>l) (fun l h=>⟨fun p hp=>wf8 (h.2 p hp),by rw [rI_flatMap]; rfl⟩)
end
end Go.Proofs.Ytdmjpfekglajoaa.Args
