/- The arguments of the laws, opened: calls, lists, rows of strings. No condition. -/
import Derived.Test.YtdmjpfekglajoaaGreatK6
import Derived.Test.YtdmjpfekglajoaaGreatK8
import Derived.Test.YtdmjpfekglajoaaGreatK7
import Derived.Test.YtdmjpfekglajoaaGreatProg
import Derived.KernelRfl
namespace Go.Proofs.YtdmjpfekglajoaaGreat.Args
open Go.Kc
section
variable {H:Type} {enc:TypeId × Value → H} {w:World}
theorem kids:Kids Tryz.prog (· < Tryz.prog.types.size):=kids_rows (by kernel_rfl) (by kernel_rfl)
theorem full:∀ t e,t < Tryz.prog.types.size → Tryz.prog.underlying t = some (.slice e) → 0 < Tryz.prog.cellsOf e:=slices_full_of Tryz.prog (by kernel_rfl)
theorem wf8 {n:Int} (h:(Lit.int .u8 n).wf = true):0 ≤ n:=by
  have h':(decide (IntKind.u8.min ≤ n) && decide (n ≤ IntKind.u8.max)) = true:=h
  simp only [Bool.and_eq_true,decide_eq_true_eq] at h'
  exact h'.1
theorem wf32 {n:Int} (h:(Lit.int .u32 n).wf = true):0 ≤ n ∧ n ≤ 4294967295:=by
  have h':(decide (IntKind.u32.min ≤ n) && decide (n ≤ IntKind.u32.max)) = true:=h
  simp only [Bool.and_eq_true,decide_eq_true_eq] at h'
  exact h'
theorem oCall:wH enc Tryz.prog w 82 (fun c:GCall=>0 ≤ c.act ∧ c.act ≤ 4294967295) j7 :=
  (vn Tryz.underlying82 (by kernel_rfl) (qO (m:=1) (kW Tryz.underlying9) (fun _=>rfl) rfl (by kernel_rfl) (qO (m:=1) (jV Tryz.underlying38) (fun _=>rfl) rfl (by kernel_rfl) yA))).map (fun p=>⟨p.1,p.2.1⟩) (fun _ h=>⟨wf32 h.2.1,rfl⟩)
theorem oList:wH enc Tryz.prog w 24 (fun l:GList=>0 ≤ l.mode ∧ Rng l.calls) qk :=
  (vn Tryz.underlying24 (by kernel_rfl) (qO (m:=1) (jV Tryz.underlying5) (fun _=>rfl) rfl (by kernel_rfl)
    (qO (m:=1) (yQ Tryz.underlying22 oCall wP (by kernel_rfl) (by decide)) (fun _=>rfl) rfl (by kernel_rfl) yA))).map (fun p=>⟨p.1,p.2.1⟩) (fun _ h=>⟨⟨wf8 h.1,h.2.1.2⟩,rfl⟩)
theorem oInts:wH enc Tryz.prog w 47 (fun _:List Int=>True) (fun l=>[.fz l.length (rI .i64 l)]) :=
  (yQ Tryz.underlying47 (jV Tryz.underlying3) (m:=1) (fun _=>rfl) (by kernel_rfl) (by decide)).map (fun l=>l) (fun l _=>⟨trivial,by rw [qcm]; rfl⟩)
theorem oU32s:wH enc Tryz.prog w 48 (fun _:List Int=>True) (fun l=>[.fz l.length (rI .u32 l)]) :=
  (yQ Tryz.underlying48 (jV Tryz.underlying38) (m:=1) (fun _=>rfl) (by kernel_rfl) (by decide)).map (fun l=>l) (fun l _=>⟨trivial,by rw [qcm]; rfl⟩)
theorem oPol:wH enc Tryz.prog w 51 (fun p:Pol=>(0 ≤ p.filter.mode ∧ 0 ≤ p.log.mode) ∧ Rng p.filter.calls ∧ Rng p.log.calls) zV :=
  (vn Tryz.underlying51 (by kernel_rfl) (qO (m:=1) oInts (fun _=>rfl) rfl (by kernel_rfl) (qO (m:=2) oList (fun _=>rfl) rfl (by kernel_rfl) (qO (m:=1) (jV Tryz.underlying38) (fun _=>rfl) rfl (by kernel_rfl)
    (qO (m:=2) oList (fun _=>rfl) rfl (by kernel_rfl) (qO (m:=1) oU32s (fun _=>rfl) rfl (by kernel_rfl) (qO (m:=1) (jV Tryz.underlying5) (fun _=>rfl) rfl (by kernel_rfl) (qO (m:=1) (jV Tryz.underlying49) (fun _=>rfl) rfl (by kernel_rfl)
    (qO (m:=1) (yk Tryz.underlying4) (fun _=>rfl) rfl (by kernel_rfl) (qO (m:=1) (yk Tryz.underlying4) (fun _=>rfl) rfl (by kernel_rfl) (qO (m:=1) (yk Tryz.underlying4) (fun _=>rfl) rfl (by kernel_rfl) (qO (m:=1) (yk Tryz.underlying4) (fun _=>rfl) rfl (by kernel_rfl) yA)))))))))))).map
    (fun p=>⟨p.1,p.2.1,p.2.2.1,p.2.2.2.1,p.2.2.2.2.1,p.2.2.2.2.2.1,p.2.2.2.2.2.2.1,p.2.2.2.2.2.2.2.1,p.2.2.2.2.2.2.2.2.1,p.2.2.2.2.2.2.2.2.2.1,p.2.2.2.2.2.2.2.2.2.2.1⟩) (fun _ h=>⟨⟨⟨h.2.1.1,h.2.2.2.1.1⟩,h.2.1.2,h.2.2.2.1.2⟩,rfl⟩)
theorem oAsg:wH enc Tryz.prog w 53 (fun _:Asg=>True) zL :=
  (vn Tryz.underlying53 (by kernel_rfl) (qO (m:=1) (kW Tryz.underlying9) (fun _=>rfl) rfl (by kernel_rfl) (qO (m:=1) (jV Tryz.underlying3) (fun _=>rfl) rfl (by kernel_rfl) (qO (m:=1) (kW Tryz.underlying9) (fun _=>rfl) rfl (by kernel_rfl)
    (qO (m:=1) (kW Tryz.underlying9) (fun _=>rfl) rfl (by kernel_rfl) (qO (m:=1) (kW Tryz.underlying9) (fun _=>rfl) rfl (by kernel_rfl) yA)))))).map (fun p=>⟨p.1,p.2.1,p.2.2.1,p.2.2.2.1,p.2.2.2.2.1⟩) (fun _ _=>⟨trivial,rfl⟩)
end
end Go.Proofs.YtdmjpfekglajoaaGreat.Args
