/- The arguments of the laws, opened: assignments, policies, notes. No condition. -/
import Derived.Test.YtpopmjgimhmciaaGreatDoorK6
import Derived.Test.YtpopmjgimhmciaaGreatDoorK7
import Derived.Test.YtpopmjgimhmciaaGreatDoorK8
import Derived.Test.YtpopmjgimhmciaaGreatDoorK8
import Derived.Test.YtpopmjgimhmciaaGreatDoorProg
import Derived.KernelRfl
namespace Go.Proofs.YtpopmjgimhmciaaGreatDoor.Args
open Go.Kc
section
variable {H:Type} {enc:TypeId×Value->H} {w:World}
theorem kids:Kids Tryz.prog (· < Tryz.prog.types.size):=kids_rows (by kernel_rfl) (by kernel_rfl)
theorem full:∀t e,t<Tryz.prog.types.size->Tryz.prog.underlying t=some (.slice e)->0<Tryz.prog.cellsOf e:=slices_full_of Tryz.prog (by kernel_rfl)
theorem oAsg:qcz enc Tryz.prog w 37 (fun _:Asg=>True) qlT :=
 (qp3 Tryz.underlying37 (by kernel_rfl) (qqL (m:=1) (qt3 Tryz.underlying9) (fun _=>rfl) rfl (by kernel_rfl) (qqL (m:=1) (qt2 Tryz.underlying3) (fun _=>rfl) rfl (by kernel_rfl) (qqL (m:=1) (qt3 Tryz.underlying9) (fun _=>rfl) rfl (by kernel_rfl)
  (qqL (m:=1) (qt3 Tryz.underlying9) (fun _=>rfl) rfl (by kernel_rfl) (qqL (m:=1) (qt3 Tryz.underlying9) (fun _=>rfl) rfl (by kernel_rfl) qsZ)))))).map (fun p=>⟨p.1,p.2.1,p.2.2.1,p.2.2.2.1,p.2.2.2.2.1⟩) (fun _ _=>⟨trivial,rfl⟩)
theorem oAsgs:qcz enc Tryz.prog w 22 (fun _:List Asg=>True) (fun l=>[.fz l.length (rA l)]) :=
 (qqM Tryz.underlying22 oAsg quz (by kernel_rfl) (by decide)).map (fun l=>l) (fun l _=>⟨trivial,rfl⟩)
theorem wf8{n:Int}(h:(Lit.int .u8 n).wf=true):0<=n:=by
 have h':(decide (IntKind.u8.min<=n)&&decide (n<=IntKind.u8.max))=true:=h;simp only[Bool.and_eq_true,decide_eq_true_eq] at h';exact h'.1
theorem wf32{n:Int}(h:(Lit.int .u32 n).wf=true):0<=n∧n<=4294967295:=by
 have h':(decide (IntKind.u32.min<=n)&&decide (n<=IntKind.u32.max))=true:=h;simp only[Bool.and_eq_true,decide_eq_true_eq] at h';exact h'
theorem wf64{n:Int}(h:(Lit.int .u64 n).wf=true):0<=n∧n<18446744073709551616:=by
 have h':(decide (IntKind.u64.min<=n)&&decide (n<=IntKind.u64.max))=true:=h;simp only[Bool.and_eq_true,decide_eq_true_eq] at h';have e1:IntKind.u64.min=0:=by decide
 have e2:IntKind.u64.max=18446744073709551615:=by decide
 omega
theorem oCall:qcz enc Tryz.prog w 67 (fun c:GCall=>0<=c.act∧c.act<=4294967295) zf :=
 (qp3 Tryz.underlying67 (by kernel_rfl) (qqL (m:=1) (qt3 Tryz.underlying9) (fun _=>rfl) rfl (by kernel_rfl) (qqL (m:=1) (qt2 Tryz.underlying28) (fun _=>rfl) rfl (by kernel_rfl) qsZ))).map (fun p=>⟨p.1,p.2.1⟩) (fun _ h=>⟨wf32 h.2.1,rfl⟩)
theorem oList:qcz enc Tryz.prog w 27 (fun l:GList=>0<=l.mode∧Rng l.calls) qu :=
 (qp3 Tryz.underlying27 (by kernel_rfl) (qqL (m:=1) (qt2 Tryz.underlying5) (fun _=>rfl) rfl (by kernel_rfl)
  (qqL (m:=1) (qqM Tryz.underlying25 oCall qdi (by kernel_rfl) (by decide)) (fun _=>rfl) rfl (by kernel_rfl) qsZ))).map (fun p=>⟨p.1,p.2.1⟩) (fun _ h=>⟨⟨wf8 h.1,h.2.1.2⟩,rfl⟩)
theorem oInts:qcz enc Tryz.prog w 24 (fun _:List Int=>True) (fun l=>[.fz l.length (rI .i64 l)]) :=
 (qqM Tryz.underlying24 (qt2 Tryz.underlying3) (m:=1) (fun _=>rfl) (by kernel_rfl) (by decide)).map (fun l=>l) (fun l _=>⟨trivial,by rw[qs7];rfl⟩)
theorem oU32s:qcz enc Tryz.prog w 29 (fun l:List Int=>∀x ∈ l,0<=x∧x<=4294967295) (fun l=>[.fz l.length (rI .u32 l)]) :=
 (qqM Tryz.underlying29 (qt2 Tryz.underlying28) (m:=1) (fun _=>rfl) (by kernel_rfl) (by decide)).map (fun l=>l) (fun l h=>⟨fun x hx=>wf32 (h.2 x hx),by rw[qs7];rfl⟩)
theorem oPol:qcz enc Tryz.prog w 32 (fun p:Pol=>PolR p) qj :=
 (qp3 Tryz.underlying32 (by kernel_rfl) (qqL (m:=1) oInts (fun _=>rfl) rfl (by kernel_rfl) (qqL (m:=2) oList (fun _=>rfl) rfl (by kernel_rfl) (qqL (m:=1) (qt2 Tryz.underlying28) (fun _=>rfl) rfl (by kernel_rfl)
  (qqL (m:=2) oList (fun _=>rfl) rfl (by kernel_rfl) (qqL (m:=1) oU32s (fun _=>rfl) rfl (by kernel_rfl) (qqL (m:=1) (qt2 Tryz.underlying5) (fun _=>rfl) rfl (by kernel_rfl) (qqL (m:=1) (qt2 Tryz.underlying30) (fun _=>rfl) rfl (by kernel_rfl)
  (qqL (m:=1) (qs0 Tryz.underlying4) (fun _=>rfl) rfl (by kernel_rfl) (qqL (m:=1) (qs0 Tryz.underlying4) (fun _=>rfl) rfl (by kernel_rfl) (qqL (m:=1) (qs0 Tryz.underlying4) (fun _=>rfl) rfl (by kernel_rfl) (qqL (m:=1) (qs0 Tryz.underlying4) (fun _=>rfl) rfl (by kernel_rfl) qsZ)))))))))))).map
  (fun p=>⟨p.1,p.2.1,p.2.2.1,p.2.2.2.1,p.2.2.2.2.1,p.2.2.2.2.2.1,p.2.2.2.2.2.2.1,p.2.2.2.2.2.2.2.1,p.2.2.2.2.2.2.2.2.1,p.2.2.2.2.2.2.2.2.2.1,p.2.2.2.2.2.2.2.2.2.2.1⟩) (fun _ h=>⟨⟨h.2.2.2.2.1,wf32 h.2.2.1,wf64 h.2.2.2.2.2.2.1,h.2.1.2,h.2.2.2.1.2⟩,rfl⟩)
theorem oNote:qcz enc Tryz.prog w 57 (fun _:GNote=>True) qel :=
 (qp3 Tryz.underlying57 (by kernel_rfl) (qqL (m:=1) (qt3 Tryz.underlying9) (fun _=>rfl) rfl (by kernel_rfl) (qqL (m:=1) (qt2 Tryz.underlying3) (fun _=>rfl) rfl (by kernel_rfl) (qqL (m:=1) (qt2 Tryz.underlying45) (fun _=>rfl) rfl (by kernel_rfl)
  (qqL (m:=1) (qt3 Tryz.underlying9) (fun _=>rfl) rfl (by kernel_rfl) qsZ))))).map (fun p=>⟨p.1,p.2.1,p.2.2.1,p.2.2.2.1⟩) (fun _ _=>⟨trivial,rfl⟩)
theorem oNotes:qcz enc Tryz.prog w 33 (fun _:List GNote=>True) (fun l=>[.fz l.length (rN l)]) :=
 (qqM Tryz.underlying33 oNote qgQ (by kernel_rfl) (by decide)).map (fun l=>l) (fun l _=>⟨trivial,rfl⟩)
end
end Go.Proofs.YtpopmjgimhmciaaGreatDoor.Args
