/- slices.SortFunc at rules: the kit's contract laid at this program. No condition. -/
import Derived.Shelf.SlSortCmp.NoneTotal
import Derived.Test.YtpopmjgimhmciaaK9
import Derived.Test.YtpopmjgimhmciaaProg
namespace Go.Proofs
open Go.Shelf Go.RowKit Go.Lib Go.Sort
def Try.sortRule_ren:Go.Shelf.Ren:=⟨fun | 6=>26 | 15=>64 | 14=>63 | 28=>102 | 29=>103 | 20=>94 | 21=>95 | 22=>96 | 23=>97 | 24=>98 | 25=>99 | 26=>100 | 27=>101 | 46=>112 | 47=>113 | 48=>114 | 49=>115 | 50=>116 | 57=>118 | n=>n,fun | 22=>35 | 24=>44 | 25=>67 | 3=>3 | 39=>102 | 0=>0 | 53=>26 | 55=>28 | 4=>4 | 46=>143 | 45=>142 | 50=>147 | 5=>5 | 9=>9 | 66=>164 | 70=>167 | 76=>169 | 77=>170 | n=>n,fun n=>n⟩
theorem Try.sortRule:SlLaysF0.n6 Try.prog Try.sortRule_ren:={
 mixed:=(by kernel_rfl),
 f6:=⟨Try.f26.name,(by decide),Try.func26.trans (congrArg some (by kernel_rfl))⟩,
 f14:=⟨Try.f63.name,(by decide),Try.func63.trans (congrArg some (by kernel_rfl))⟩,
 f15:=Try.func64.trans (congrArg some (by kernel_rfl)),
 f20:=⟨Try.f94.name,(by decide),Try.func94.trans (congrArg some (by kernel_rfl))⟩,
 f21:=⟨Try.f95.name,(by decide),Try.func95.trans (congrArg some (by kernel_rfl))⟩,
 f22:=⟨Try.f96.name,(by decide),Try.func96.trans (congrArg some (by kernel_rfl))⟩,
 f23:=⟨Try.f97.name,(by decide),Try.func97.trans (congrArg some (by kernel_rfl))⟩,
 f24:=⟨Try.f98.name,(by decide),Try.func98.trans (congrArg some (by kernel_rfl))⟩,
 f25:=⟨Try.f99.name,(by decide),Try.func99.trans (congrArg some (by kernel_rfl))⟩,
 f26:=⟨Try.f100.name,(by decide),Try.func100.trans (congrArg some (by kernel_rfl))⟩,
 f27:=⟨Try.f101.name,(by decide),Try.func101.trans (congrArg some (by kernel_rfl))⟩,
 f28:=Try.func102.trans (congrArg some (by kernel_rfl)),
 f29:=Try.func103.trans (congrArg some (by kernel_rfl)),
 f46:=⟨Try.f112.name,(by decide),Try.func112.trans (congrArg some (by kernel_rfl))⟩,
 f47:=Try.func113.trans (congrArg some (by kernel_rfl)),
 f48:=Try.func114.trans (congrArg some (by kernel_rfl)),
 f49:=⟨Try.f115.name,(by decide),Try.func115.trans (congrArg some (by kernel_rfl))⟩,
 f50:=⟨Try.f116.name,(by decide),Try.func116.trans (congrArg some (by kernel_rfl))⟩,
 f57:=⟨Try.f118.name,(by decide),Try.func118.trans (congrArg some (by kernel_rfl))⟩,
 t0:=Try.underlying0,
 a0:=Try.isAgg0,
 z0:=Try.sizeOf0,
 v0:=Try.zeroValue0,
 t3:=Try.underlying3,
 a3:=Try.isAgg3,
 z3:=Try.sizeOf3,
 v3:=Try.zeroValue3,
 t4:=Try.underlying4,
 a4:=Try.isAgg4,
 z4:=Try.sizeOf4,
 v4:=Try.zeroValue4,
 t5:=Try.underlying5,
 a5:=Try.isAgg5,
 z5:=Try.sizeOf5,
 v5:=Try.zeroValue5,
 t9:=Try.underlying9,
 a9:=Try.isAgg9,
 z9:=Try.sizeOf9,
 v9:=Try.zeroValue9,
 t22:=Try.underlying35,
 a22:=Try.isAgg35,
 z22:=Try.sizeOf35,
 v22:=Try.zeroValue35,
 t25:=Try.underlying67,
 a25:=Try.isAgg67,
 z25:=Try.sizeOf67,
 v25:=Try.zeroValue67,
 t39:=Try.underlying102,
 a39:=Try.isAgg102,
 z39:=Try.sizeOf102,
 v39:=Try.zeroValue102,
 t45:=Try.underlying142,
 a45:=Try.isAgg142,
 z45:=Try.sizeOf142,
 v45:=Try.zeroValue142,
 t46:=Try.underlying143,
 a46:=Try.isAgg143,
 z46:=Try.sizeOf143,
 v46:=Try.zeroValue143,
 t50:=Try.underlying147,
 a50:=Try.isAgg147,
 z50:=Try.sizeOf147,
 v50:=Try.zeroValue147,
 t53:=Try.underlying26,
 a53:=Try.isAgg26,
 z53:=Try.sizeOf26,
 v53:=Try.zeroValue26,
 t55:=Try.underlying28,
 a55:=Try.isAgg28,
 z55:=Try.sizeOf28,
 v55:=Try.zeroValue28,
 t66:=Try.underlying164,
 a66:=Try.isAgg164,
 z66:=Try.sizeOf164,
 v66:=Try.zeroValue164,
 t70:=Try.underlying167,
 a70:=Try.isAgg167,
 z70:=Try.sizeOf167,
 v70:=Try.zeroValue167,
 t76:=Try.underlying169,
 a76:=Try.isAgg169,
 z76:=Try.sizeOf169,
 v76:=Try.zeroValue169,
 t77:=Try.underlying170,
 a77:=Try.isAgg170,
 z77:=Try.sizeOf170,
 v77:=Try.zeroValue170 }

theorem Try.sortNan (x:Int) (w:World):Calls Try.prog 65 #[.int .u32 x] w fun e w'=>e = .returned (.bool false) ∧ w' = w:=by
 go_enter Try.func65,Try.ntmps65
 go_wp2
 go_ret
 exact ⟨by simp,rfl⟩
set_option maxHeartbeats 1000000 in
theorem Try.sortCmp (x y:Int) (w:World):Calls Try.prog 28 #[.int .u32 x,.int .u32 y] w fun e w'=>e = .returned (.int .i64 (Lib.compareInt x y)) ∧ w' = w:=by
 go_enter Try.func28,Try.ntmps28
 go_wp2_with (go_at_call 65; refine (Try.sortNan _ _).mono ?_; rintro e w' ⟨rfl,hw⟩; rw [hw])
 all_goals (go_ret; refine ⟨?_,rfl⟩; unfold Lib.compareInt; (repeat' split) <;> first | rfl | (exfalso; omega))
set_option maxHeartbeats 1000000 in
theorem Try.sortClo (x y:Int) (t u t' u':Value) (W:World):Calls Try.prog 27 #[.agg #[.int .u32 x,t,u],.agg #[.int .u32 y,t',u']] W fun e w'=>e = .returned (.int .i64 (Lib.compareInt x y)) ∧ ∃ q os',w' = grow (W.drewN q) os':=by
 have hcon:=fun W'=>Try.sortCmp x y W'
 generalize Lib.compareInt x y = r at hcon ⊢
 go_enter Try.func27,Try.ntmps27
 go_wp2_with (go_at_call 28; refine (hcon _).mono ?_; rintro e w' ⟨rfl,rfl⟩)
 go_ret
 exact ⟨rfl,0,_,by rw [alloc_eq_grow,alloc_eq_grow,grow_grow]; rfl⟩
theorem Try.sortLt {n:Nat} (nr:Fin n → Int) (x y:Fin n):ltOf (fun x y=>Lib.compareInt (nr x) (nr y)) x y = decide (nr x < nr y):=by
 unfold ltOf Lib.compareInt
 by_cases h1:nr x < nr y
 ·simp [h1]
 ·by_cases h2:nr y < nr x <;> simp [h1,h2]
theorem Try.sortKit:Go.Kc.qh8 Try.prog 26 27:=by
 refine ⟨fun a cap w=>AnyF.slices_SortFunc_none Try.sortRule a cap _ w,?_⟩
 intro n i0 nr cs hinj hcs blk off cap w hH hblk hn
 have hsz:(List.finRange n).toArray.size = n:=by simp
 have eg:∀ args w,(callFunc 27 args).run Try.prog w = .ok (.enter 27 args) w:=enters_of Try.func27 (by kernel_rfl) rfl
 have hO:SWO (ltOf fun x y:Fin n=>Lib.compareInt (nr x) (nr y)) :=
  ⟨fun x=>by rw [Try.sortLt]; simp,fun x y z h1 h2=>by rw [Try.sortLt] at *; simp at *; omega,fun x y z h1 h2=>by rw [Try.sortLt] at *; simp at *; omega⟩
 have hlen:∀ x,(cs x).length = 3:=fun x=>by obtain ⟨t,u,e,_⟩:=hcs x; rw [e]; rfl
 have h1:∀ x,∀ v ∈ cs x,v.oneCell' = true:=fun x v hv=>by
  obtain ⟨t,u,e,ht,hu⟩:=hcs x
  rw [e] at hv
  simp only [List.mem_cons,List.not_mem_nil,or_false] at hv
  rcases hv with rfl | rfl | rfl
  ·rfl
  ·exact ht
  ·exact hu
 have hcmp:CmpLays Try.prog 27 #[] cs 3 (fun x y=>Lib.compareInt (nr x) (nr y)) blk off (List.finRange n).toArray.size w:=fun _ _ _ _ x y=>by
  obtain ⟨t,u,e,_⟩:=hcs x
  obtain ⟨t',u',e',_⟩:=hcs y
  rw [e,e']
  exact Try.sortClo (nr x) (nr y) t u t' u' _
 have hT:∀ x y:Fin n,(ltOf fun x y=>Lib.compareInt (nr x) (nr y)) x y = false → (ltOf fun x y=>Lib.compareInt (nr x) (nr y)) y x = false → x = y:=fun x y a b=>by
  rw [Try.sortLt] at a b; simp at a b; exact hinj x y (by omega)
 have h:=AnyQ.slices_SortFunc_total Try.sortRule 3 Try.isAgg44 Try.sizeOf44 cs hlen h1 (fun x y=>Lib.compareInt (nr x) (nr y)) hO 27 #[] blk off cap (List.finRange n).toArray w eg hcmp hH hblk (by rw [hsz]; exact hn) hT
 rw [hsz] at h
 have ef:(fun x y:Fin n=>!(ltOf fun x y=>Lib.compareInt (nr x) (nr y)) y x) = fun x y=>decide (nr x ≤ nr y):=by
  funext x y; rw [Try.sortLt]; by_cases hh:nr y < nr x
  ·simp [hh]
  ·simp [hh]; omega
 rw [ef] at h
 exact h
end Go.Proofs
