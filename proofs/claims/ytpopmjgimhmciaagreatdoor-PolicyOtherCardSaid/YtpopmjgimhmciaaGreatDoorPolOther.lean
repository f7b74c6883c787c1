/- PolicyOther at this program's numbers. No condition. -/
import Derived.Test.YtpopmjgimhmciaaGreatDoorK10
import Derived.Test.YtpopmjgimhmciaaGreatDoorPolA
namespace Go.Proofs.YtpopmjgimhmciaaGreatDoor.Walk
open Go.Kc
theorem polOther {A:Prop} (l:List Asg) (sec:List UInt8) (at':Int) (_:A) (val:List UInt8):qg Tryz.prog 7 [.fz l.length (rA l),.s sec,.i .i64 at',.s val] (.b true) :=
 policyOther (by kernel_rfl) qrI great19P EnvP.awake res sameP l sec at' val
end Go.Proofs.YtpopmjgimhmciaaGreatDoor.Walk
