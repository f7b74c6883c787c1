/- slices.SortFunc at rules: the kit's contract laid at this program. No condition. -/
import Derived.Shelf.SlSortCmp.NoneTotal
import Derived.Test.YtgaodkfneooonaaGreatMK4
import Derived.Test.YtgaodkfneooonaaGreatProg
namespace Go.Proofs
open Go.Shelf Go.RowKit Go.Lib Go.Sort
theorem kq{a b:Func}(h:a=b:=by kernel_rfl):some a=some b:=congrArg some h
theorem kd{p:Prop}(h:p:=by decide):p:=h
def Tryz.sortRule_ren:Go.Shelf.Ren:=⟨fun|6=>194|15=>255|14=>254|28=>301|29=>302|20=>293|21=>294|22=>295|23=>296|24=>297|25=>298|26=>299|27=>300|46=>325|47=>326|48=>327|49=>328|50=>329|57=>333|n=>n,fun|22=>22|24=>41|25=>294|3=>3|39=>356|0=>0|53=>23|55=>26|4=>4|46=>393|45=>392|50=>100|5=>5|9=>9|66=>407|70=>410|76=>413|77=>73|n=>n,fun n=>n⟩
theorem Tryz.sortRule:SlLaysF0.n6 Tryz.prog Tryz.sortRule_ren:={
 mixed:=(by kernel_rfl),
 f6:=⟨Tryz.f194.name,kd,Tryz.func194.trans kq⟩,
 f14:=⟨Tryz.f254.name,kd,Tryz.func254.trans kq⟩,
 f15:=Tryz.func255.trans kq,
 f20:=⟨Tryz.f293.name,kd,Tryz.func293.trans kq⟩,
 f21:=⟨Tryz.f294.name,kd,Tryz.func294.trans kq⟩,
 f22:=⟨Tryz.f295.name,kd,Tryz.func295.trans kq⟩,
 f23:=⟨Tryz.f296.name,kd,Tryz.func296.trans kq⟩,
 f24:=⟨Tryz.f297.name,kd,Tryz.func297.trans kq⟩,
 f25:=⟨Tryz.f298.name,kd,Tryz.func298.trans kq⟩,
 f26:=⟨Tryz.f299.name,kd,Tryz.func299.trans kq⟩,
 f27:=⟨Tryz.f300.name,kd,Tryz.func300.trans kq⟩,
 f28:=Tryz.func301.trans kq,
 f29:=Tryz.func302.trans kq,
 f46:=⟨Tryz.f325.name,kd,Tryz.func325.trans kq⟩,
 f47:=Tryz.func326.trans kq,
 f48:=Tryz.func327.trans kq,
 f49:=⟨Tryz.f328.name,kd,Tryz.func328.trans kq⟩,
 f50:=⟨Tryz.f329.name,kd,Tryz.func329.trans kq⟩,
 f57:=⟨Tryz.f333.name,kd,Tryz.func333.trans kq⟩,
 t0:=Tryz.underlying0,
 a0:=Tryz.isAgg0,
 z0:=Tryz.sizeOf0,
 v0:=Tryz.zeroValue0,
 t3:=Tryz.underlying3,
 a3:=Tryz.isAgg3,
 z3:=Tryz.sizeOf3,
 v3:=Tryz.zeroValue3,
 t4:=Tryz.underlying4,
 a4:=Tryz.isAgg4,
 z4:=Tryz.sizeOf4,
 v4:=Tryz.zeroValue4,
 t5:=Tryz.underlying5,
 a5:=Tryz.isAgg5,
 z5:=Tryz.sizeOf5,
 v5:=Tryz.zeroValue5,
 t9:=Tryz.underlying9,
 a9:=Tryz.isAgg9,
 z9:=Tryz.sizeOf9,
 v9:=Tryz.zeroValue9,
 t22:=Tryz.underlying22,
 a22:=Tryz.isAgg22,
 z22:=Tryz.sizeOf22,
 v22:=Tryz.zeroValue22,
 t25:=Tryz.underlying294,
 a25:=Tryz.isAgg294,
 z25:=Tryz.sizeOf294,
 v25:=Tryz.zeroValue294,
 t39:=Tryz.underlying356,
 a39:=Tryz.isAgg356,
 z39:=Tryz.sizeOf356,
 v39:=Tryz.zeroValue356,
 t45:=Tryz.underlying392,
 a45:=Tryz.isAgg392,
 z45:=Tryz.sizeOf392,
 v45:=Tryz.zeroValue392,
 t46:=Tryz.underlying393,
 a46:=Tryz.isAgg393,
 z46:=Tryz.sizeOf393,
 v46:=Tryz.zeroValue393,
 t50:=Tryz.underlying100,
 a50:=Tryz.isAgg100,
 z50:=Tryz.sizeOf100,
 v50:=Tryz.zeroValue100,
 t53:=Tryz.underlying23,
 a53:=Tryz.isAgg23,
 z53:=Tryz.sizeOf23,
 v53:=Tryz.zeroValue23,
 t55:=Tryz.underlying26,
 a55:=Tryz.isAgg26,
 z55:=Tryz.sizeOf26,
 v55:=Tryz.zeroValue26,
 t66:=Tryz.underlying407,
 a66:=Tryz.isAgg407,
 z66:=Tryz.sizeOf407,
 v66:=Tryz.zeroValue407,
 t70:=Tryz.underlying410,
 a70:=Tryz.isAgg410,
 z70:=Tryz.sizeOf410,
 v70:=Tryz.zeroValue410,
 t76:=Tryz.underlying413,
 a76:=Tryz.isAgg413,
 z76:=Tryz.sizeOf413,
 v76:=Tryz.zeroValue413,
 t77:=Tryz.underlying73,
 a77:=Tryz.isAgg73,
 z77:=Tryz.sizeOf73,
 v77:=Tryz.zeroValue73 }
theorem Tryz.sortNan(x:Int)(w:World):Calls Tryz.prog 256 #[.int .u32 x] w fun e w'=>e = .returned (.bool false)∧w'=w:=by
 go_enter Tryz.func256,Tryz.ntmps256
 go_wp2
 go_ret
 exact⟨by simp,rfl⟩
set_option maxHeartbeats 1000000 in
theorem Tryz.sortCmp(x y:Int)(w:World):Calls Tryz.prog 196 #[.int .u32 x,.int .u32 y] w fun e w'=>e = .returned (.int .i64 (Lib.compareInt x y))∧w'=w:=by
 go_enter Tryz.func196,Tryz.ntmps196
 go_wp2_with (go_at_call 256;refine (Tryz.sortNan _ _).mono ?_;rintro e w' ⟨rfl,hw⟩;rw[hw])
 all_goals (go_ret;refine⟨?_,rfl⟩;unfold Lib.compareInt;(repeat' split)<;>first|rfl|(exfalso;omega))
set_option maxHeartbeats 1000000 in
theorem Tryz.sortClo(x y:Int)(t u t' u':Value)(W:World):Calls Tryz.prog 195 #[.agg #[.int .u32 x,t,u],.agg #[.int .u32 y,t',u']] W fun e w'=>e = .returned (.int .i64 (Lib.compareInt x y))∧∃q os',w'=grow (W.drewN q) os':=by
 have hcon:=fun W'=>Tryz.sortCmp x y W'
 generalize Lib.compareInt x y=r at hcon ⊢
 go_enter Tryz.func195,Tryz.ntmps195
 go_wp2_with (go_at_call 196;refine (hcon _).mono ?_;rintro e w' ⟨rfl,rfl⟩)
 go_ret
 exact⟨rfl,0,_,by rw[alloc_eq_grow,alloc_eq_grow,grow_grow];rfl⟩
theorem Tryz.sortLt{n:Nat}(nr:Fin n->Int)(x y:Fin n):ltOf (fun x y=>Lib.compareInt (nr x) (nr y)) x y=decide (nr x<nr y):=by
 unfold ltOf Lib.compareInt
 by_cases h1:nr x<nr y
 ·simp[h1]
 ·by_cases h2:nr y<nr x<;>simp[h1,h2]
theorem Tryz.sortKit:Go.Kc.qAs Tryz.prog 194 195:=by
 refine⟨fun a cap w=>AnyF.slices_SortFunc_none Tryz.sortRule a cap _ w,?_⟩
 intro n i0 nr cs hinj hcs blk off cap w hH hblk hn;have hsz:(List.finRange n).toArray.size=n:=by simp
 have eg:∀args w,(callFunc 195 args).run Tryz.prog w = .ok (.enter 195 args) w:=enters_of Tryz.func195 (by kernel_rfl) rfl
 have hO:SWO (ltOf fun x y:Fin n=>Lib.compareInt (nr x) (nr y)) :=
  ⟨fun x=>by rw[Tryz.sortLt];simp,fun x y z h1 h2=>by rw[Tryz.sortLt] at *;simp at *;omega,fun x y z h1 h2=>by rw[Tryz.sortLt] at *;simp at *;omega⟩
 have hlen:∀x,(cs x).length=3:=fun x=>by obtain⟨t,u,e,_⟩:=hcs x;rw[e];rfl
 have h1:∀x,∀v ∈ cs x,v.oneCell'=true:=fun x v hv=>by
  obtain⟨t,u,e,ht,hu⟩:=hcs x;rw[e] at hv;simp only[List.mem_cons,List.not_mem_nil,or_false] at hv;rcases hv with rfl|rfl|rfl
  ·rfl
  ·exact ht
  ·exact hu
 have hcmp:CmpLays Tryz.prog 195 #[] cs 3 (fun x y=>Lib.compareInt (nr x) (nr y)) blk off (List.finRange n).toArray.size w:=fun _ _ _ _ x y=>by
  obtain⟨t,u,e,_⟩:=hcs x;obtain⟨t',u',e',_⟩:=hcs y;rw[e,e'];exact Tryz.sortClo (nr x) (nr y) t u t' u' _
 have hT:∀x y:Fin n,(ltOf fun x y=>Lib.compareInt (nr x) (nr y)) x y=false->(ltOf fun x y=>Lib.compareInt (nr x) (nr y)) y x=false->x=y:=fun x y a b=>by
  rw[Tryz.sortLt] at a b;simp at a b;exact hinj x y (by omega)
 have h:=AnyQ.slices_SortFunc_total Tryz.sortRule 3 Tryz.isAgg41 Tryz.sizeOf41 cs hlen h1 (fun x y=>Lib.compareInt (nr x) (nr y)) hO 195 #[] blk off cap (List.finRange n).toArray w eg hcmp hH hblk (by rw[hsz];exact hn) hT
 rw[hsz] at h
 have ef:(fun x y:Fin n=>!(ltOf fun x y=>Lib.compareInt (nr x) (nr y)) y x)=fun x y=>decide (nr x<=nr y):=by
  funext x y;rw[Tryz.sortLt];by_cases hh:nr y<nr x
  ·simp[hh]
  ·simp[hh];omega
 rw[ef] at h;exact h
end Go.Proofs
