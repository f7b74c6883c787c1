/- The arguments of the laws, opened: calls, lists, policies, assignments. No condition. -/
import Derived.Test.YtdmjpfekglajoaaK6
import Derived.Test.YtdmjpfekglajoaaK7
import Derived.Test.YtdmjpfekglajoaaProg
import Derived.KernelRfl
namespace Go.Proofs.Ytdmjpfekglajoaa.Args
open Go.Kc
section
variable {H : Type} {enc : TypeId × Value → H} {w : World}
theorem kids : Kids Try.prog (· < Try.prog.types.size) := kids_rows (by kernel_rfl) (by kernel_rfl)
theorem full : ∀ t e, t < Try.prog.types.size → Try.prog.underlying t = some (.slice e) → 0 < Try.prog.cellsOf e := slices_full_of Try.prog (by kernel_rfl)
theorem oCall : Opens enc Try.prog w 38 (fun _ : GCall => True) cCall :=
  (opens_struct Try.underlying38 (by kernel_rfl) (opensF_cons (m := 1) (opens_str Try.underlying9) (fun _ => rfl) rfl (by kernel_rfl) (opensF_cons (m := 1) (opens_int Try.underlying36) (fun _ => rfl) rfl (by kernel_rfl) opensF_nil))).map (fun p => ⟨p.1, p.2.1⟩) (fun _ _ => ⟨trivial, rfl⟩)
theorem wf8 {n : Int} (h : (Lit.int .u8 n).wf = true) : 0 ≤ n := by
  have h' : (decide (IntKind.u8.min ≤ n) && decide (n ≤ IntKind.u8.max)) = true := h
  simp only [Bool.and_eq_true, decide_eq_true_eq] at h'
  exact h'.1
theorem oList : Opens enc Try.prog w 24 (fun l : GList => 0 ≤ l.mode) cList :=
  (opens_struct Try.underlying24 (by kernel_rfl) (opensF_cons (m := 1) (opens_int Try.underlying5) (fun _ => rfl) rfl (by kernel_rfl)
    (opensF_cons (m := 1) (opens_slice Try.underlying22 oCall cCall_len (by kernel_rfl) (by decide)) (fun _ => rfl) rfl (by kernel_rfl) opensF_nil))).map (fun p => ⟨p.1, p.2.1⟩) (fun _ h => ⟨wf8 h.1, rfl⟩)
theorem oInts : Opens enc Try.prog w 51 (fun _ : List Int => True) (fun l => [.fz l.length (rI .i64 l)]) :=
  (opens_slice Try.underlying51 (opens_int Try.underlying3) (m := 1) (fun _ => rfl) (by kernel_rfl) (by decide)).map (fun l => l) (fun l _ => ⟨trivial, by rw [rI_flatMap]; rfl⟩)
theorem oU32s : Opens enc Try.prog w 52 (fun _ : List Int => True) (fun l => [.fz l.length (rI .u32 l)]) :=
  (opens_slice Try.underlying52 (opens_int Try.underlying36) (m := 1) (fun _ => rfl) (by kernel_rfl) (by decide)).map (fun l => l) (fun l _ => ⟨trivial, by rw [rI_flatMap]; rfl⟩)
theorem oPol : Opens enc Try.prog w 55 (fun p : Pol => 0 ≤ p.filter.mode ∧ 0 ≤ p.log.mode) cPol :=
  (opens_struct Try.underlying55 (by kernel_rfl) (opensF_cons (m := 1) oInts (fun _ => rfl) rfl (by kernel_rfl) (opensF_cons (m := 2) oList (fun _ => rfl) rfl (by kernel_rfl) (opensF_cons (m := 1) (opens_int Try.underlying36) (fun _ => rfl) rfl (by kernel_rfl)
    (opensF_cons (m := 2) oList (fun _ => rfl) rfl (by kernel_rfl) (opensF_cons (m := 1) oU32s (fun _ => rfl) rfl (by kernel_rfl) (opensF_cons (m := 1) (opens_int Try.underlying5) (fun _ => rfl) rfl (by kernel_rfl) (opensF_cons (m := 1) (opens_int Try.underlying53) (fun _ => rfl) rfl (by kernel_rfl)
    (opensF_cons (m := 1) (opens_bool Try.underlying4) (fun _ => rfl) rfl (by kernel_rfl) (opensF_cons (m := 1) (opens_bool Try.underlying4) (fun _ => rfl) rfl (by kernel_rfl) (opensF_cons (m := 1) (opens_bool Try.underlying4) (fun _ => rfl) rfl (by kernel_rfl) (opensF_cons (m := 1) (opens_bool Try.underlying4) (fun _ => rfl) rfl (by kernel_rfl) opensF_nil)))))))))))).map
    (fun p => ⟨p.1, p.2.1, p.2.2.1, p.2.2.2.1, p.2.2.2.2.1, p.2.2.2.2.2.1, p.2.2.2.2.2.2.1, p.2.2.2.2.2.2.2.1, p.2.2.2.2.2.2.2.2.1, p.2.2.2.2.2.2.2.2.2.1, p.2.2.2.2.2.2.2.2.2.2.1⟩) (fun _ h => ⟨⟨h.2.1, h.2.2.2.1⟩, rfl⟩)
theorem oAsg : Opens enc Try.prog w 57 (fun _ : Asg => True) cAsg :=
  (opens_struct Try.underlying57 (by kernel_rfl) (opensF_cons (m := 1) (opens_str Try.underlying9) (fun _ => rfl) rfl (by kernel_rfl) (opensF_cons (m := 1) (opens_int Try.underlying3) (fun _ => rfl) rfl (by kernel_rfl) (opensF_cons (m := 1) (opens_str Try.underlying9) (fun _ => rfl) rfl (by kernel_rfl)
    (opensF_cons (m := 1) (opens_str Try.underlying9) (fun _ => rfl) rfl (by kernel_rfl) (opensF_cons (m := 1) (opens_str Try.underlying9) (fun _ => rfl) rfl (by kernel_rfl) opensF_nil)))))).map (fun p => ⟨p.1, p.2.1, p.2.2.1, p.2.2.2.1, p.2.2.2.2.1⟩) (fun _ _ => ⟨trivial, rfl⟩)
end
end Go.Proofs.Ytdmjpfekglajoaa.Args
