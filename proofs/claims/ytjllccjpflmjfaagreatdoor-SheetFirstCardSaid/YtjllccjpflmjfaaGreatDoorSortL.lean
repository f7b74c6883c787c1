/- slices.SortFunc at rules: the kit's contract laid at this program. No condition. -/
import Derived.Shelf.SlSortCmp.NoneTotal
import Derived.Test.YtjllccjpflmjfaaGreatDoorVK4
import Derived.Test.YtjllccjpflmjfaaGreatDoorProg
namespace Go.Proofs
open Go.Shelf Go.RowKit Go.Lib Go.Sort
def Tryz.sortRule_ren:Go.Shelf.Ren:=⟨fun|6=>120|15=>46|14=>163|28=>79|29=>80|20=>219|21=>220|22=>221|23=>222|24=>223|25=>224|26=>225|27=>226|46=>291|47=>107|48=>108|49=>292|50=>293|57=>346|n=>n,fun|22=>139|24=>222|25=>223|3=>3|39=>108|0=>0|53=>26|55=>28|4=>4|46=>157|45=>156|50=>161|5=>5|9=>9|66=>197|70=>200|76=>249|77=>250|n=>n,fun n=>n⟩
theorem Tryz.sortRule:SlLaysF0.n6 Tryz.prog Tryz.sortRule_ren:={
 mixed:=(by kernel_rfl),
 f6:=⟨Tryz.f120.name,(by decide),Tryz.func120.trans (congrArg some (by kernel_rfl))⟩,
 f14:=⟨Tryz.f163.name,(by decide),Tryz.func163.trans (congrArg some (by kernel_rfl))⟩,
 f15:=Tryz.func46.trans (congrArg some (by kernel_rfl)),
 f20:=⟨Tryz.f219.name,(by decide),Tryz.func219.trans (congrArg some (by kernel_rfl))⟩,
 f21:=⟨Tryz.f220.name,(by decide),Tryz.func220.trans (congrArg some (by kernel_rfl))⟩,
 f22:=⟨Tryz.f221.name,(by decide),Tryz.func221.trans (congrArg some (by kernel_rfl))⟩,
 f23:=⟨Tryz.f222.name,(by decide),Tryz.func222.trans (congrArg some (by kernel_rfl))⟩,
 f24:=⟨Tryz.f223.name,(by decide),Tryz.func223.trans (congrArg some (by kernel_rfl))⟩,
 f25:=⟨Tryz.f224.name,(by decide),Tryz.func224.trans (congrArg some (by kernel_rfl))⟩,
 f26:=⟨Tryz.f225.name,(by decide),Tryz.func225.trans (congrArg some (by kernel_rfl))⟩,
 f27:=⟨Tryz.f226.name,(by decide),Tryz.func226.trans (congrArg some (by kernel_rfl))⟩,
 f28:=Tryz.func79.trans (congrArg some (by kernel_rfl)),
 f29:=Tryz.func80.trans (congrArg some (by kernel_rfl)),
 f46:=⟨Tryz.f291.name,(by decide),Tryz.func291.trans (congrArg some (by kernel_rfl))⟩,
 f47:=Tryz.func107.trans (congrArg some (by kernel_rfl)),
 f48:=Tryz.func108.trans (congrArg some (by kernel_rfl)),
 f49:=⟨Tryz.f292.name,(by decide),Tryz.func292.trans (congrArg some (by kernel_rfl))⟩,
 f50:=⟨Tryz.f293.name,(by decide),Tryz.func293.trans (congrArg some (by kernel_rfl))⟩,
 f57:=⟨Tryz.f346.name,(by decide),Tryz.func346.trans (congrArg some (by kernel_rfl))⟩,
 t0:=Tryz.underlying0,
 a0:=Tryz.isAgg0,
 z0:=Tryz.sizeOf0,
 v0:=Tryz.zeroValue0,
 t3:=Tryz.underlying3,
 a3:=Tryz.isAgg3,
 z3:=Tryz.sizeOf3,
 v3:=Tryz.zeroValue3,
 t4:=Tryz.underlying4,
 a4:=Tryz.isAgg4,
 z4:=Tryz.sizeOf4,
 v4:=Tryz.zeroValue4,
 t5:=Tryz.underlying5,
 a5:=Tryz.isAgg5,
 z5:=Tryz.sizeOf5,
 v5:=Tryz.zeroValue5,
 t9:=Tryz.underlying9,
 a9:=Tryz.isAgg9,
 z9:=Tryz.sizeOf9,
 v9:=Tryz.zeroValue9,
 t22:=Tryz.underlying139,
 a22:=Tryz.isAgg139,
 z22:=Tryz.sizeOf139,
 v22:=Tryz.zeroValue139,
 t25:=Tryz.underlying223,
 a25:=Tryz.isAgg223,
 z25:=Tryz.sizeOf223,
 v25:=Tryz.zeroValue223,
 t39:=Tryz.underlying108,
 a39:=Tryz.isAgg108,
 z39:=Tryz.sizeOf108,
 v39:=Tryz.zeroValue108,
 t45:=Tryz.underlying156,
 a45:=Tryz.isAgg156,
 z45:=Tryz.sizeOf156,
 v45:=Tryz.zeroValue156,
 t46:=Tryz.underlying157,
 a46:=Tryz.isAgg157,
 z46:=Tryz.sizeOf157,
 v46:=Tryz.zeroValue157,
 t50:=Tryz.underlying161,
 a50:=Tryz.isAgg161,
 z50:=Tryz.sizeOf161,
 v50:=Tryz.zeroValue161,
 t53:=Tryz.underlying26,
 a53:=Tryz.isAgg26,
 z53:=Tryz.sizeOf26,
 v53:=Tryz.zeroValue26,
 t55:=Tryz.underlying28,
 a55:=Tryz.isAgg28,
 z55:=Tryz.sizeOf28,
 v55:=Tryz.zeroValue28,
 t66:=Tryz.underlying197,
 a66:=Tryz.isAgg197,
 z66:=Tryz.sizeOf197,
 v66:=Tryz.zeroValue197,
 t70:=Tryz.underlying200,
 a70:=Tryz.isAgg200,
 z70:=Tryz.sizeOf200,
 v70:=Tryz.zeroValue200,
 t76:=Tryz.underlying249,
 a76:=Tryz.isAgg249,
 z76:=Tryz.sizeOf249,
 v76:=Tryz.zeroValue249,
 t77:=Tryz.underlying250,
 a77:=Tryz.isAgg250,
 z77:=Tryz.sizeOf250,
 v77:=Tryz.zeroValue250 }

theorem Tryz.sortNan(x:Int)(w:World):Calls Tryz.prog 47 #[.int .u32 x] w fun e w'=>e = .returned (.bool false)∧w'=w:=by
 go_enter Tryz.func47,Tryz.ntmps47
 go_wp2
 go_ret
 exact⟨by simp,rfl⟩
set_option maxHeartbeats 1000000 in
theorem Tryz.sortCmp(x y:Int)(w:World):Calls Tryz.prog 24 #[.int .u32 x,.int .u32 y] w fun e w'=>e = .returned (.int .i64 (Lib.compareInt x y))∧w'=w:=by
 go_enter Tryz.func24,Tryz.ntmps24
 go_wp2_with (go_at_call 47;refine (Tryz.sortNan _ _).mono ?_;rintro e w' ⟨rfl,hw⟩;rw[hw])
 all_goals (go_ret;refine⟨?_,rfl⟩;unfold Lib.compareInt;(repeat' split)<;>first|rfl|(exfalso;omega))
set_option maxHeartbeats 1000000 in
theorem Tryz.sortClo(x y:Int)(t u t' u':Value)(W:World):Calls Tryz.prog 121 #[.agg #[.int .u32 x,t,u],.agg #[.int .u32 y,t',u']] W fun e w'=>e = .returned (.int .i64 (Lib.compareInt x y))∧∃q os',w'=grow (W.drewN q) os':=by
 have hcon:=fun W'=>Tryz.sortCmp x y W'
 generalize Lib.compareInt x y=r at hcon ⊢
 go_enter Tryz.func121,Tryz.ntmps121
 go_wp2_with (go_at_call 24;refine (hcon _).mono ?_;rintro e w' ⟨rfl,rfl⟩)
 go_ret
 exact⟨rfl,0,_,by rw[alloc_eq_grow,alloc_eq_grow,grow_grow];rfl⟩
theorem Tryz.sortLt{n:Nat}(nr:Fin n->Int)(x y:Fin n):ltOf (fun x y=>Lib.compareInt (nr x) (nr y)) x y=decide (nr x<nr y):=by
 unfold ltOf Lib.compareInt
 by_cases h1:nr x<nr y
 ·simp[h1]
 ·by_cases h2:nr y<nr x<;>simp[h1,h2]
theorem Tryz.sortKit:Go.Kc.qAw Tryz.prog 120 121:=by
 refine⟨fun a cap w=>AnyF.slices_SortFunc_none Tryz.sortRule a cap _ w,?_⟩
 intro n i0 nr cs hinj hcs blk off cap w hH hblk hn;have hsz:(List.finRange n).toArray.size=n:=by simp
 have eg:∀args w,(callFunc 121 args).run Tryz.prog w = .ok (.enter 121 args) w:=enters_of Tryz.func121 (by kernel_rfl) rfl
 have hO:SWO (ltOf fun x y:Fin n=>Lib.compareInt (nr x) (nr y)) :=
  ⟨fun x=>by rw[Tryz.sortLt];simp,fun x y z h1 h2=>by rw[Tryz.sortLt] at *;simp at *;omega,fun x y z h1 h2=>by rw[Tryz.sortLt] at *;simp at *;omega⟩
 have hlen:∀x,(cs x).length=3:=fun x=>by obtain⟨t,u,e,_⟩:=hcs x;rw[e];rfl
 have h1:∀x,∀v ∈ cs x,v.oneCell'=true:=fun x v hv=>by
  obtain⟨t,u,e,ht,hu⟩:=hcs x;rw[e] at hv;simp only[List.mem_cons,List.not_mem_nil,or_false] at hv;rcases hv with rfl|rfl|rfl
  ·rfl
  ·exact ht
  ·exact hu
 have hcmp:CmpLays Tryz.prog 121 #[] cs 3 (fun x y=>Lib.compareInt (nr x) (nr y)) blk off (List.finRange n).toArray.size w:=fun _ _ _ _ x y=>by
  obtain⟨t,u,e,_⟩:=hcs x;obtain⟨t',u',e',_⟩:=hcs y;rw[e,e'];exact Tryz.sortClo (nr x) (nr y) t u t' u' _
 have hT:∀x y:Fin n,(ltOf fun x y=>Lib.compareInt (nr x) (nr y)) x y=false->(ltOf fun x y=>Lib.compareInt (nr x) (nr y)) y x=false->x=y:=fun x y a b=>by
  rw[Tryz.sortLt] at a b;simp at a b;exact hinj x y (by omega)
 have h:=AnyQ.slices_SortFunc_total Tryz.sortRule 3 Tryz.isAgg222 Tryz.sizeOf222 cs hlen h1 (fun x y=>Lib.compareInt (nr x) (nr y)) hO 121 #[] blk off cap (List.finRange n).toArray w eg hcmp hH hblk (by rw[hsz];exact hn) hT
 rw[hsz] at h
 have ef:(fun x y:Fin n=>!(ltOf fun x y=>Lib.compareInt (nr x) (nr y)) y x)=fun x y=>decide (nr x<=nr y):=by
  funext x y;rw[Tryz.sortLt];by_cases hh:nr y<nr x
  ·simp[hh]
  ·simp[hh];omega
 rw[ef] at h;exact h
end Go.Proofs
