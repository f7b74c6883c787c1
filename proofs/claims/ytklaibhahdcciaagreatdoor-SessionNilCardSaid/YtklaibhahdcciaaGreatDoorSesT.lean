/- SessionNil at this program's numbers. No condition. -/
import Derived.Test.YtklaibhahdcciaaGreatDoorK6
import Derived.Test.YtklaibhahdcciaaGreatDoorFacT
import Derived.Test.YtklaibhahdcciaaGreatDoorItoaL
import Derived.Lib.LaidTab
import Derived.LaidSub
import Derived.MakeChecks
namespace Go.Proofs.YtklaibhahdcciaaGreatDoor.Walk
open Go.Kc EnvS
theorem tabsOk{W:World}{L:List (String×DataW Unit)}(hL:laidMetH Tryz.prog L W)(hf:(L.filter fun x=>x.1 == "internal/strconv.uint64pow10")=[("internal/strconv.uint64pow10",Lib.tabData .u64 Lib.pow10Tab)]):TabOk W:=by
 have h:=hL.filter (fun x=>x.1 == "internal/strconv.uint64pow10")
 rw[hf,MakeChecks.laidMetH_plain _ _ _ (by kernel_rfl)] at h;have hg:Tryz.prog.globalNamed "internal/strconv.uint64pow10" = some 1:=by kernel_rfl
 have ht:Lib.TabIs Tryz.prog W "internal/strconv.uint64pow10" .u64 Lib.pow10Tab:=Lib.tabIs_of_head (g:=1) (t:=224) (e:=56) (n:=20) hg (by kernel_rfl) Tryz.underlying224 Tryz.underlying56 (by kernel_rfl) (by kernel_rfl) h;refine⟨fun k a hk=>?_⟩
 unfold tab at hk;split at hk
 ·subst k;cases hk;unfold Lib.TabIs World.var? at ht;rw[hg] at ht;simp only[Option.bind_some] at ht;split at ht
  ·rename_i cs ty fz hw;cases ht;exact⟨ty,fz,hw⟩
  ·cases ht
 ·cases hk
theorem itoaC:qjC Tryz.prog 17:=qlr (g:=1) ⟨_,Tryz.func17,by first|kernel_rfl|decide,rfl⟩ (by kernel_rfl) rfl (fun n h0 h1 w ht=>Any.strconv_Itoa Tryz.laysM171 n h0 h1 w ht)
theorem joinK:qhf Tryz.prog 31:=⟨fun a c sep w=>Any.strings_Join_none Tryz.lays156 Tryz.joinExtra a c sep w,fun bk o c xs sep w h1 h2 h3 h4 h5=>Any.strings_Join Tryz.lays156 Tryz.joinExtra bk o c xs sep w h1 h2 h3 h4 h5⟩
theorem joinC:qlT Tryz.prog 31:=qmb ⟨_,Tryz.func31,by first|kernel_rfl|decide,rfl⟩ joinK
theorem awk:zf Tryz.prog 6 [] (.b true):=FacT.awake itoaC joinC
theorem sesNil(l:List UInt8):zf Tryz.prog 3 [.s l] (.b true):=qmX (d:=5) (a:=6) (fL:=4) (g2:=7) (g3:=8) (g4:=10) (g5:=9) (g6:=11) (g7:=12) (by kernel_rfl) (by kernel_rfl) (by kernel_rfl) awk l
end Go.Proofs.YtklaibhahdcciaaGreatDoor.Walk
