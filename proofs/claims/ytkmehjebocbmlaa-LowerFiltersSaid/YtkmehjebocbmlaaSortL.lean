/- slices.SortFunc at rules: the kit's contract laid at this program. No condition. -/
import Derived.Shelf.SlSortCmp.NoneTotal
import Derived.Test.YtkmehjebocbmlaaK8
import Derived.Test.YtkmehjebocbmlaaProg
namespace Go.Proofs
open Go.Shelf Go.RowKit Go.Lib Go.Sort
def Try.sortRule_ren:Go.Shelf.Ren:=⟨fun|6=>18|15=>49|14=>48|28=>81|29=>82|20=>73|21=>74|22=>75|23=>76|24=>77|25=>78|26=>79|27=>80|46=>89|47=>90|48=>91|49=>92|50=>93|57=>98|n=>n,fun|22=>35|24=>44|25=>62|3=>3|39=>88|0=>0|53=>26|55=>28|4=>4|46=>123|45=>122|50=>127|5=>5|9=>9|66=>144|70=>147|76=>154|77=>155|n=>n,fun n=>n⟩
theorem Try.sortRule:SlLaysF0.n6 Try.prog Try.sortRule_ren:={
 mixed:=(by kernel_rfl),
 f6:=⟨Try.f18.name,(by decide),Try.func18.trans (congrArg some (by kernel_rfl))⟩,
 f14:=⟨Try.f48.name,(by decide),Try.func48.trans (congrArg some (by kernel_rfl))⟩,
 f15:=Try.func49.trans (congrArg some (by kernel_rfl)),
 f20:=⟨Try.f73.name,(by decide),Try.func73.trans (congrArg some (by kernel_rfl))⟩,
 f21:=⟨Try.f74.name,(by decide),Try.func74.trans (congrArg some (by kernel_rfl))⟩,
 f22:=⟨Try.f75.name,(by decide),Try.func75.trans (congrArg some (by kernel_rfl))⟩,
 f23:=⟨Try.f76.name,(by decide),Try.func76.trans (congrArg some (by kernel_rfl))⟩,
 f24:=⟨Try.f77.name,(by decide),Try.func77.trans (congrArg some (by kernel_rfl))⟩,
 f25:=⟨Try.f78.name,(by decide),Try.func78.trans (congrArg some (by kernel_rfl))⟩,
 f26:=⟨Try.f79.name,(by decide),Try.func79.trans (congrArg some (by kernel_rfl))⟩,
 f27:=⟨Try.f80.name,(by decide),Try.func80.trans (congrArg some (by kernel_rfl))⟩,
 f28:=Try.func81.trans (congrArg some (by kernel_rfl)),
 f29:=Try.func82.trans (congrArg some (by kernel_rfl)),
 f46:=⟨Try.f89.name,(by decide),Try.func89.trans (congrArg some (by kernel_rfl))⟩,
 f47:=Try.func90.trans (congrArg some (by kernel_rfl)),
 f48:=Try.func91.trans (congrArg some (by kernel_rfl)),
 f49:=⟨Try.f92.name,(by decide),Try.func92.trans (congrArg some (by kernel_rfl))⟩,
 f50:=⟨Try.f93.name,(by decide),Try.func93.trans (congrArg some (by kernel_rfl))⟩,
 f57:=⟨Try.f98.name,(by decide),Try.func98.trans (congrArg some (by kernel_rfl))⟩,
 t0:=Try.underlying0,
 a0:=Try.isAgg0,
 z0:=Try.sizeOf0,
 v0:=Try.zeroValue0,
 t3:=Try.underlying3,
 a3:=Try.isAgg3,
 z3:=Try.sizeOf3,
 v3:=Try.zeroValue3,
 t4:=Try.underlying4,
 a4:=Try.isAgg4,
 z4:=Try.sizeOf4,
 v4:=Try.zeroValue4,
 t5:=Try.underlying5,
 a5:=Try.isAgg5,
 z5:=Try.sizeOf5,
 v5:=Try.zeroValue5,
 t9:=Try.underlying9,
 a9:=Try.isAgg9,
 z9:=Try.sizeOf9,
 v9:=Try.zeroValue9,
 t22:=Try.underlying35,
 a22:=Try.isAgg35,
 z22:=Try.sizeOf35,
 v22:=Try.zeroValue35,
 t25:=Try.underlying62,
 a25:=Try.isAgg62,
 z25:=Try.sizeOf62,
 v25:=Try.zeroValue62,
 t39:=Try.underlying88,
 a39:=Try.isAgg88,
 z39:=Try.sizeOf88,
 v39:=Try.zeroValue88,
 t45:=Try.underlying122,
 a45:=Try.isAgg122,
 z45:=Try.sizeOf122,
 v45:=Try.zeroValue122,
 t46:=Try.underlying123,
 a46:=Try.isAgg123,
 z46:=Try.sizeOf123,
 v46:=Try.zeroValue123,
 t50:=Try.underlying127,
 a50:=Try.isAgg127,
 z50:=Try.sizeOf127,
 v50:=Try.zeroValue127,
 t53:=Try.underlying26,
 a53:=Try.isAgg26,
 z53:=Try.sizeOf26,
 v53:=Try.zeroValue26,
 t55:=Try.underlying28,
 a55:=Try.isAgg28,
 z55:=Try.sizeOf28,
 v55:=Try.zeroValue28,
 t66:=Try.underlying144,
 a66:=Try.isAgg144,
 z66:=Try.sizeOf144,
 v66:=Try.zeroValue144,
 t70:=Try.underlying147,
 a70:=Try.isAgg147,
 z70:=Try.sizeOf147,
 v70:=Try.zeroValue147,
 t76:=Try.underlying154,
 a76:=Try.isAgg154,
 z76:=Try.sizeOf154,
 v76:=Try.zeroValue154,
 t77:=Try.underlying155,
 a77:=Try.isAgg155,
 z77:=Try.sizeOf155,
 v77:=Try.zeroValue155 }

theorem Try.sortNan(x:Int)(w:World):Calls Try.prog 50 #[.int .u32 x] w fun e w'=>e = .returned (.bool false)∧w'=w:=by
 go_enter Try.func50,Try.ntmps50
 go_wp2
 go_ret
 exact⟨by simp,rfl⟩
set_option maxHeartbeats 1000000 in
theorem Try.sortCmp(x y:Int)(w:World):Calls Try.prog 20 #[.int .u32 x,.int .u32 y] w fun e w'=>e = .returned (.int .i64 (Lib.compareInt x y))∧w'=w:=by
 go_enter Try.func20,Try.ntmps20
 go_wp2_with (go_at_call 50;refine (Try.sortNan _ _).mono ?_;rintro e w' ⟨rfl,hw⟩;rw[hw])
 all_goals (go_ret;refine⟨?_,rfl⟩;unfold Lib.compareInt;(repeat' split)<;>first|rfl|(exfalso;omega))
set_option maxHeartbeats 1000000 in
theorem Try.sortClo(x y:Int)(t u t' u':Value)(W:World):Calls Try.prog 19 #[.agg #[.int .u32 x,t,u],.agg #[.int .u32 y,t',u']] W fun e w'=>e = .returned (.int .i64 (Lib.compareInt x y))∧∃q os',w'=grow (W.drewN q) os':=by
 have hcon:=fun W'=>Try.sortCmp x y W'
 generalize Lib.compareInt x y=r at hcon ⊢
 go_enter Try.func19,Try.ntmps19
 go_wp2_with (go_at_call 20;refine (hcon _).mono ?_;rintro e w' ⟨rfl,rfl⟩)
 go_ret
 exact⟨rfl,0,_,by rw[alloc_eq_grow,alloc_eq_grow,grow_grow];rfl⟩
theorem Try.sortLt{n:Nat}(nr:Fin n->Int)(x y:Fin n):ltOf (fun x y=>Lib.compareInt (nr x) (nr y)) x y=decide (nr x<nr y):=by
 unfold ltOf Lib.compareInt
 by_cases h1:nr x<nr y
 ·simp[h1]
 ·by_cases h2:nr y<nr x<;>simp[h1,h2]
theorem Try.sortKit:Go.Kc.qhZ Try.prog 18 19:=by
 refine⟨fun a cap w=>AnyF.slices_SortFunc_none Try.sortRule a cap _ w,?_⟩
 intro n i0 nr cs hinj hcs blk off cap w hH hblk hn;have hsz:(List.finRange n).toArray.size=n:=by simp
 have eg:∀args w,(callFunc 19 args).run Try.prog w = .ok (.enter 19 args) w:=enters_of Try.func19 (by kernel_rfl) rfl
 have hO:SWO (ltOf fun x y:Fin n=>Lib.compareInt (nr x) (nr y)) :=
  ⟨fun x=>by rw[Try.sortLt];simp,fun x y z h1 h2=>by rw[Try.sortLt] at *;simp at *;omega,fun x y z h1 h2=>by rw[Try.sortLt] at *;simp at *;omega⟩
 have hlen:∀x,(cs x).length=3:=fun x=>by obtain⟨t,u,e,_⟩:=hcs x;rw[e];rfl
 have h1:∀x,∀v ∈ cs x,v.oneCell'=true:=fun x v hv=>by
  obtain⟨t,u,e,ht,hu⟩:=hcs x;rw[e] at hv;simp only[List.mem_cons,List.not_mem_nil,or_false] at hv;rcases hv with rfl|rfl|rfl
  ·rfl
  ·exact ht
  ·exact hu
 have hcmp:CmpLays Try.prog 19 #[] cs 3 (fun x y=>Lib.compareInt (nr x) (nr y)) blk off (List.finRange n).toArray.size w:=fun _ _ _ _ x y=>by
  obtain⟨t,u,e,_⟩:=hcs x;obtain⟨t',u',e',_⟩:=hcs y;rw[e,e'];exact Try.sortClo (nr x) (nr y) t u t' u' _
 have hT:∀x y:Fin n,(ltOf fun x y=>Lib.compareInt (nr x) (nr y)) x y=false->(ltOf fun x y=>Lib.compareInt (nr x) (nr y)) y x=false->x=y:=fun x y a b=>by
  rw[Try.sortLt] at a b;simp at a b;exact hinj x y (by omega)
 have h:=AnyQ.slices_SortFunc_total Try.sortRule 3 Try.isAgg44 Try.sizeOf44 cs hlen h1 (fun x y=>Lib.compareInt (nr x) (nr y)) hO 19 #[] blk off cap (List.finRange n).toArray w eg hcmp hH hblk (by rw[hsz];exact hn) hT
 rw[hsz] at h
 have ef:(fun x y:Fin n=>!(ltOf fun x y=>Lib.compareInt (nr x) (nr y)) y x)=fun x y=>decide (nr x<=nr y):=by
  funext x y;rw[Try.sortLt];by_cases hh:nr y<nr x
  ·simp[hh]
  ·simp[hh];omega
 rw[ef] at h;exact h
end Go.Proofs
