/- The arguments of the laws, opened: calls, lists, rows of strings. No condition. -/
import Derived.Test.YtdmjpfekglajoaaGreatK6
import Derived.Test.YtdmjpfekglajoaaGreatK9
import Derived.Test.YtdmjpfekglajoaaGreatProg
import Derived.KernelRfl
namespace Go.Proofs.YtdmjpfekglajoaaGreat.Args
open Go.Kc
section
variable {H:Type} {enc:TypeId × Value → H} {w:World}
theorem kids:Kids Tryz.prog (· < Tryz.prog.types.size):=kids_rows (by kernel_rfl) (by kernel_rfl)
theorem full:∀ t e,t < Tryz.prog.types.size → Tryz.prog.underlying t = some (.slice e) → 0 < Tryz.prog.cellsOf e:=slices_full_of Tryz.prog (by kernel_rfl)
theorem wf8 {n:Int} (h:(Lit.int .u8 n).wf = true):0 ≤ n:=by
  have h':(decide (IntKind.u8.min ≤ n) && decide (n ≤ IntKind.u8.max)) = true:=h
  simp only [Bool.and_eq_true,decide_eq_true_eq] at h'
  exact h'.1
theorem wf32 {n:Int} (h:(Lit.int .u32 n).wf = true):0 ≤ n ∧ n ≤ 4294967295:=by
  have h':(decide (IntKind.u32.min ≤ n) && decide (n ≤ IntKind.u32.max)) = true:=h
  simp only [Bool.and_eq_true,decide_eq_true_eq] at h'
  exact h'
theorem oCall:Opens enc Tryz.prog w 82 (fun c:GCall=>0 ≤ c.act ∧ c.act ≤ 4294967295) cCall :=
  (opens_struct Tryz.underlying82 (by kernel_rfl) (opensF_cons (m:=1) (opens_str Tryz.underlying9) (fun _=>rfl) rfl (by kernel_rfl) (opensF_cons (m:=1) (opens_int Tryz.underlying38) (fun _=>rfl) rfl (by kernel_rfl) opensF_nil))).map (fun p=>⟨p.1,p.2.1⟩) (fun _ h=>⟨wf32 h.2.1,rfl⟩)
theorem oList:Opens enc Tryz.prog w 24 (fun l:GList=>0 ≤ l.mode ∧ Rng l.calls) cList :=
  (opens_struct Tryz.underlying24 (by kernel_rfl) (opensF_cons (m:=1) (opens_int Tryz.underlying5) (fun _=>rfl) rfl (by kernel_rfl)
    (opensF_cons (m:=1) (opens_slice Tryz.underlying22 oCall cCall_len (by kernel_rfl) (by decide)) (fun _=>rfl) rfl (by kernel_rfl) opensF_nil))).map (fun p=>⟨p.1,p.2.1⟩) (fun _ h=>⟨⟨wf8 h.1,h.2.1.2⟩,rfl⟩)
theorem rS_flatMap:∀ l:List (List UInt8),l.flatMap (fun s=>[AV.s s]) = rS l
  | []=>rfl
  | x :: l=>by rw [List.flatMap_cons,rS_flatMap l]; rfl
theorem oStrs:Opens enc Tryz.prog w 35 (fun _:List (List UInt8)=>True) (fun l=>[.fz l.length (rS l)]) :=
  (opens_slice Tryz.underlying35 (opens_str Tryz.underlying9) (m:=1) (fun _=>rfl) (by kernel_rfl) (by decide)).map (fun l=>l) (fun l _=>⟨trivial,by rw [rS_flatMap]⟩)
end
end Go.Proofs.YtdmjpfekglajoaaGreat.Args
