/- The arguments of the laws, opened: assignments. No condition. -/
import Derived.Test.YtpopmjgimhmciaaGreatDoorK6
import Derived.Test.YtpopmjgimhmciaaGreatDoorK9
import Derived.Test.YtpopmjgimhmciaaGreatDoorK10
import Derived.Test.YtpopmjgimhmciaaGreatDoorProg
import Derived.KernelRfl
namespace Go.Proofs.YtpopmjgimhmciaaGreatDoor.Args
open Go.Kc
section
variable {H:Type} {enc:TypeId×Value->H} {w:World}
theorem kids:Kids Tryz.prog (· < Tryz.prog.types.size):=kids_rows (by kernel_rfl) (by kernel_rfl)
theorem full:∀t e,t<Tryz.prog.types.size->Tryz.prog.underlying t=some (.slice e)->0<Tryz.prog.cellsOf e:=slices_full_of Tryz.prog (by kernel_rfl)
theorem oAsg:XD enc Tryz.prog w 37 (fun _:Asg=>True) xl :=
 (qmG Tryz.underlying37 (by kernel_rfl) (qny (m:=1) (qrh Tryz.underlying9) (fun _=>rfl) rfl (by kernel_rfl) (qny (m:=1) (qrg Tryz.underlying3) (fun _=>rfl) rfl (by kernel_rfl) (qny (m:=1) (qrh Tryz.underlying9) (fun _=>rfl) rfl (by kernel_rfl)
  (qny (m:=1) (qrh Tryz.underlying9) (fun _=>rfl) rfl (by kernel_rfl) (qny (m:=1) (qrh Tryz.underlying9) (fun _=>rfl) rfl (by kernel_rfl) qpT)))))).map (fun p=>⟨p.1,p.2.1,p.2.2.1,p.2.2.2.1,p.2.2.2.2.1⟩) (fun _ _=>⟨trivial,rfl⟩)
theorem oAsgs:XD enc Tryz.prog w 22 (fun _:List Asg=>True) (fun l=>[.fz l.length (rA l)]) :=
 (qnz Tryz.underlying22 oAsg qay (by kernel_rfl) (by decide)).map (fun l=>l) (fun l _=>⟨trivial,rfl⟩)
end
end Go.Proofs.YtpopmjgimhmciaaGreatDoor.Args
