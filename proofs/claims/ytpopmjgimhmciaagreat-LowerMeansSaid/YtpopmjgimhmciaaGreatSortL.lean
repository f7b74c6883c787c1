/- slices.SortFunc at rules: the kit's contract laid at this program. No condition. -/
import Derived.Shelf.SlSortCmp.NoneTotal
import Derived.Test.YtpopmjgimhmciaaGreatK8
import Derived.Test.YtpopmjgimhmciaaGreatProg
namespace Go.Proofs
open Go.Shelf Go.RowKit Go.Lib Go.Sort
def Tryz.sortRule_ren:Go.Shelf.Ren:=⟨fun|6=>35|15=>55|14=>64|28=>81|29=>82|20=>89|21=>90|22=>91|23=>92|24=>93|25=>94|26=>95|27=>96|46=>106|47=>100|48=>101|49=>107|50=>108|57=>111|n=>n,fun|22=>45|24=>71|25=>94|3=>3|39=>123|0=>0|53=>26|55=>28|4=>4|46=>136|45=>135|50=>50|5=>5|9=>9|66=>157|70=>160|76=>167|77=>168|n=>n,fun n=>n⟩
theorem Tryz.sortRule:SlLaysF0.n6 Tryz.prog Tryz.sortRule_ren:={
 mixed:=(by kernel_rfl),
 f6:=⟨Tryz.f35.name,(by decide),Tryz.func35.trans (congrArg some (by kernel_rfl))⟩,
 f14:=⟨Tryz.f64.name,(by decide),Tryz.func64.trans (congrArg some (by kernel_rfl))⟩,
 f15:=Tryz.func55.trans (congrArg some (by kernel_rfl)),
 f20:=⟨Tryz.f89.name,(by decide),Tryz.func89.trans (congrArg some (by kernel_rfl))⟩,
 f21:=⟨Tryz.f90.name,(by decide),Tryz.func90.trans (congrArg some (by kernel_rfl))⟩,
 f22:=⟨Tryz.f91.name,(by decide),Tryz.func91.trans (congrArg some (by kernel_rfl))⟩,
 f23:=⟨Tryz.f92.name,(by decide),Tryz.func92.trans (congrArg some (by kernel_rfl))⟩,
 f24:=⟨Tryz.f93.name,(by decide),Tryz.func93.trans (congrArg some (by kernel_rfl))⟩,
 f25:=⟨Tryz.f94.name,(by decide),Tryz.func94.trans (congrArg some (by kernel_rfl))⟩,
 f26:=⟨Tryz.f95.name,(by decide),Tryz.func95.trans (congrArg some (by kernel_rfl))⟩,
 f27:=⟨Tryz.f96.name,(by decide),Tryz.func96.trans (congrArg some (by kernel_rfl))⟩,
 f28:=Tryz.func81.trans (congrArg some (by kernel_rfl)),
 f29:=Tryz.func82.trans (congrArg some (by kernel_rfl)),
 f46:=⟨Tryz.f106.name,(by decide),Tryz.func106.trans (congrArg some (by kernel_rfl))⟩,
 f47:=Tryz.func100.trans (congrArg some (by kernel_rfl)),
 f48:=Tryz.func101.trans (congrArg some (by kernel_rfl)),
 f49:=⟨Tryz.f107.name,(by decide),Tryz.func107.trans (congrArg some (by kernel_rfl))⟩,
 f50:=⟨Tryz.f108.name,(by decide),Tryz.func108.trans (congrArg some (by kernel_rfl))⟩,
 f57:=⟨Tryz.f111.name,(by decide),Tryz.func111.trans (congrArg some (by kernel_rfl))⟩,
 t0:=Tryz.underlying0,
 a0:=Tryz.isAgg0,
 z0:=Tryz.sizeOf0,
 v0:=Tryz.zeroValue0,
 t3:=Tryz.underlying3,
 a3:=Tryz.isAgg3,
 z3:=Tryz.sizeOf3,
 v3:=Tryz.zeroValue3,
 t4:=Tryz.underlying4,
 a4:=Tryz.isAgg4,
 z4:=Tryz.sizeOf4,
 v4:=Tryz.zeroValue4,
 t5:=Tryz.underlying5,
 a5:=Tryz.isAgg5,
 z5:=Tryz.sizeOf5,
 v5:=Tryz.zeroValue5,
 t9:=Tryz.underlying9,
 a9:=Tryz.isAgg9,
 z9:=Tryz.sizeOf9,
 v9:=Tryz.zeroValue9,
 t22:=Tryz.underlying45,
 a22:=Tryz.isAgg45,
 z22:=Tryz.sizeOf45,
 v22:=Tryz.zeroValue45,
 t25:=Tryz.underlying94,
 a25:=Tryz.isAgg94,
 z25:=Tryz.sizeOf94,
 v25:=Tryz.zeroValue94,
 t39:=Tryz.underlying123,
 a39:=Tryz.isAgg123,
 z39:=Tryz.sizeOf123,
 v39:=Tryz.zeroValue123,
 t45:=Tryz.underlying135,
 a45:=Tryz.isAgg135,
 z45:=Tryz.sizeOf135,
 v45:=Tryz.zeroValue135,
 t46:=Tryz.underlying136,
 a46:=Tryz.isAgg136,
 z46:=Tryz.sizeOf136,
 v46:=Tryz.zeroValue136,
 t50:=Tryz.underlying50,
 a50:=Tryz.isAgg50,
 z50:=Tryz.sizeOf50,
 v50:=Tryz.zeroValue50,
 t53:=Tryz.underlying26,
 a53:=Tryz.isAgg26,
 z53:=Tryz.sizeOf26,
 v53:=Tryz.zeroValue26,
 t55:=Tryz.underlying28,
 a55:=Tryz.isAgg28,
 z55:=Tryz.sizeOf28,
 v55:=Tryz.zeroValue28,
 t66:=Tryz.underlying157,
 a66:=Tryz.isAgg157,
 z66:=Tryz.sizeOf157,
 v66:=Tryz.zeroValue157,
 t70:=Tryz.underlying160,
 a70:=Tryz.isAgg160,
 z70:=Tryz.sizeOf160,
 v70:=Tryz.zeroValue160,
 t76:=Tryz.underlying167,
 a76:=Tryz.isAgg167,
 z76:=Tryz.sizeOf167,
 v76:=Tryz.zeroValue167,
 t77:=Tryz.underlying168,
 a77:=Tryz.isAgg168,
 z77:=Tryz.sizeOf168,
 v77:=Tryz.zeroValue168 }

theorem Tryz.sortNan(x:Int)(w:World):Calls Tryz.prog 56 #[.int .u32 x] w fun e w'=>e = .returned (.bool false)∧w'=w:=by
 go_enter Tryz.func56,Tryz.ntmps56
 go_wp2
 go_ret
 exact⟨by simp,rfl⟩
set_option maxHeartbeats 1000000 in
theorem Tryz.sortCmp(x y:Int)(w:World):Calls Tryz.prog 33 #[.int .u32 x,.int .u32 y] w fun e w'=>e = .returned (.int .i64 (Lib.compareInt x y))∧w'=w:=by
 go_enter Tryz.func33,Tryz.ntmps33
 go_wp2_with (go_at_call 56;refine (Tryz.sortNan _ _).mono ?_;rintro e w' ⟨rfl,hw⟩;rw[hw])
 all_goals (go_ret;refine⟨?_,rfl⟩;unfold Lib.compareInt;(repeat' split)<;>first|rfl|(exfalso;omega))
set_option maxHeartbeats 1000000 in
theorem Tryz.sortClo(x y:Int)(t u t' u':Value)(W:World):Calls Tryz.prog 36 #[.agg #[.int .u32 x,t,u],.agg #[.int .u32 y,t',u']] W fun e w'=>e = .returned (.int .i64 (Lib.compareInt x y))∧∃q os',w'=grow (W.drewN q) os':=by
 have hcon:=fun W'=>Tryz.sortCmp x y W'
 generalize Lib.compareInt x y=r at hcon ⊢
 go_enter Tryz.func36,Tryz.ntmps36
 go_wp2_with (go_at_call 33;refine (hcon _).mono ?_;rintro e w' ⟨rfl,rfl⟩)
 go_ret
 exact⟨rfl,0,_,by rw[alloc_eq_grow,alloc_eq_grow,grow_grow];rfl⟩
theorem Tryz.sortLt{n:Nat}(nr:Fin n->Int)(x y:Fin n):ltOf (fun x y=>Lib.compareInt (nr x) (nr y)) x y=decide (nr x<nr y):=by
 unfold ltOf Lib.compareInt
 by_cases h1:nr x<nr y
 ·simp[h1]
 ·by_cases h2:nr y<nr x<;>simp[h1,h2]
theorem Tryz.sortKit:Go.Kc.qh1 Tryz.prog 35 36:=by
 refine⟨fun a cap w=>AnyF.slices_SortFunc_none Tryz.sortRule a cap _ w,?_⟩
 intro n i0 nr cs hinj hcs blk off cap w hH hblk hn;have hsz:(List.finRange n).toArray.size=n:=by simp
 have eg:∀args w,(callFunc 36 args).run Tryz.prog w = .ok (.enter 36 args) w:=enters_of Tryz.func36 (by kernel_rfl) rfl
 have hO:SWO (ltOf fun x y:Fin n=>Lib.compareInt (nr x) (nr y)) :=
  ⟨fun x=>by rw[Tryz.sortLt];simp,fun x y z h1 h2=>by rw[Tryz.sortLt] at *;simp at *;omega,fun x y z h1 h2=>by rw[Tryz.sortLt] at *;simp at *;omega⟩
 have hlen:∀x,(cs x).length=3:=fun x=>by obtain⟨t,u,e,_⟩:=hcs x;rw[e];rfl
 have h1:∀x,∀v ∈ cs x,v.oneCell'=true:=fun x v hv=>by
  obtain⟨t,u,e,ht,hu⟩:=hcs x;rw[e] at hv;simp only[List.mem_cons,List.not_mem_nil,or_false] at hv;rcases hv with rfl|rfl|rfl
  ·rfl
  ·exact ht
  ·exact hu
 have hcmp:CmpLays Tryz.prog 36 #[] cs 3 (fun x y=>Lib.compareInt (nr x) (nr y)) blk off (List.finRange n).toArray.size w:=fun _ _ _ _ x y=>by
  obtain⟨t,u,e,_⟩:=hcs x;obtain⟨t',u',e',_⟩:=hcs y;rw[e,e'];exact Tryz.sortClo (nr x) (nr y) t u t' u' _
 have hT:∀x y:Fin n,(ltOf fun x y=>Lib.compareInt (nr x) (nr y)) x y=false->(ltOf fun x y=>Lib.compareInt (nr x) (nr y)) y x=false->x=y:=fun x y a b=>by
  rw[Tryz.sortLt] at a b;simp at a b;exact hinj x y (by omega)
 have h:=AnyQ.slices_SortFunc_total Tryz.sortRule 3 Tryz.isAgg71 Tryz.sizeOf71 cs hlen h1 (fun x y=>Lib.compareInt (nr x) (nr y)) hO 36 #[] blk off cap (List.finRange n).toArray w eg hcmp hH hblk (by rw[hsz];exact hn) hT
 rw[hsz] at h
 have ef:(fun x y:Fin n=>!(ltOf fun x y=>Lib.compareInt (nr x) (nr y)) y x)=fun x y=>decide (nr x<=nr y):=by
  funext x y;rw[Tryz.sortLt];by_cases hh:nr y<nr x
  ·simp[hh]
  ·simp[hh];omega
 rw[ef] at h;exact h
end Go.Proofs
