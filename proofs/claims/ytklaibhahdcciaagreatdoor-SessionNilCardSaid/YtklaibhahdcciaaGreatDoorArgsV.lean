/- Types of the arguments. No condition. -/
import Derived.Test.YtklaibhahdcciaaGreatDoorK5
import Derived.Test.YtklaibhahdcciaaGreatDoorProg
import Derived.KernelRfl
namespace Go.Proofs.YtklaibhahdcciaaGreatDoor.Args
open Go.Kc
theorem kids:Kids Tryz.prog (· < Tryz.prog.types.size):=kids_rows (by kernel_rfl) (by kernel_rfl)
theorem full:∀t e,t<Tryz.prog.types.size->Tryz.prog.underlying t=some (.slice e)->0<Tryz.prog.cellsOf e:=slices_full_of Tryz.prog (by kernel_rfl)
end Go.Proofs.YtklaibhahdcciaaGreatDoor.Args
