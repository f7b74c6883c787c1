/- PolicyBack and PolicyBehind at this program's numbers. No condition. -/
import Derived.Test.YtpopmjgimhmciaaGreatDoorK11
import Derived.Test.YtpopmjgimhmciaaGreatDoorPolL
namespace Go.Proofs.YtpopmjgimhmciaaGreatDoor.Walk
open Go.Kc
theorem assP:qdg Tryz.prog 24:=qkE (by kernel_rfl) (qup (f:=32) (by kernel_rfl))
theorem polBack(l:List Asg):qc Tryz.prog 5 [.fz l.length (rA l)] (.b true) :=
 policyBack qtg (by kernel_rfl) great19P EnvW.awake res failP sameP linesP assP mayP19 l
end Go.Proofs.YtpopmjgimhmciaaGreatDoor.Walk
