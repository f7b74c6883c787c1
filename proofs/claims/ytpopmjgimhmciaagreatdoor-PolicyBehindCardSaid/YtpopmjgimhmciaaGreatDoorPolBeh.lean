/- PolicyBehind at this program's numbers. No condition. -/
import Derived.Test.YtpopmjgimhmciaaGreatDoorK11
import Derived.Test.YtpopmjgimhmciaaGreatDoorPolL
namespace Go.Proofs.YtpopmjgimhmciaaGreatDoor.Walk
open Go.Kc
theorem assP:qdg Tryz.prog 24:=qkE (by kernel_rfl) (qup (f:=32) (by kernel_rfl))
theorem polBeh{A:Prop}(l:List Asg)(at':Int)(_:A):qc Tryz.prog 6 [.fz l.length (rA l),.i .i64 at'] (.b true) :=
 policyBehind qtg (by kernel_rfl) great19P EnvW.awake res failP linesP assP sameP (qj8 (f:=12) (by kernel_rfl)) l at'
end Go.Proofs.YtpopmjgimhmciaaGreatDoor.Walk
