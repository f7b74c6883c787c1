/- SheetDrafts, SheetAgainst at this program's numbers. No condition. -/
import Derived.Test.YtoekfdofbagoiaaGreatDoorK6
import Derived.Test.YtoekfdofbagoiaaGreatDoorK6
import Derived.Test.YtoekfdofbagoiaaGreatDoorFacT
import Derived.Test.YtoekfdofbagoiaaGreatDoorDraftK
import Derived.Test.YtoekfdofbagoiaaGreatDoorItoaL
import Derived.Lib.LaidTab
import Derived.LaidSub
import Derived.MakeChecks
namespace Go.Proofs.YtoekfdofbagoiaaGreatDoor.Walk
open Go.Kc EnvS
theorem tabsOk{W:World}{L:List (String×DataW Unit)}(hL:laidMetH Tryz.prog L W)(hf:(L.filter fun x=>x.1 == "internal/strconv.uint64pow10")=[("internal/strconv.uint64pow10",Lib.tabData .u64 Lib.pow10Tab)]):TabOk W:=by
 have h:=hL.filter (fun x=>x.1 == "internal/strconv.uint64pow10")
 rw[hf,MakeChecks.laidMetH_plain _ _ _ (by kernel_rfl)] at h;have hg:Tryz.prog.globalNamed "internal/strconv.uint64pow10" = some 0:=by kernel_rfl
 have ht:Lib.TabIs Tryz.prog W "internal/strconv.uint64pow10" .u64 Lib.pow10Tab:=Lib.tabIs_of_head (g:=0) (t:=422) (e:=52) (n:=20) hg (by kernel_rfl) Tryz.underlying422 Tryz.underlying52 (by kernel_rfl) (by kernel_rfl) h;refine⟨fun k a hk=>?_⟩
 unfold tab at hk;split at hk
 ·subst k;cases hk;unfold Lib.TabIs World.var? at ht;rw[hg] at ht;simp only[Option.bind_some] at ht;split at ht
  ·rename_i cs ty fz hw;cases ht;exact⟨ty,fz,hw⟩
  ·cases ht
 ·cases hk
theorem itoaC:qkK Tryz.prog 52:=qmK (g:=0) ⟨_,Tryz.func52,by first|kernel_rfl|decide,rfl⟩ (by kernel_rfl) rfl (fun n h0 h1 w ht=>Any.strconv_Itoa Tryz.laysM171 n h0 h1 w ht)
theorem txt32:∀b:List UInt8,b.length<=100000->qX Tryz.prog 6 [.fz b.length (bR b)] (.s (za b)):=qoU (by kernel_rfl) FacK.vals FacK.keys
theorem against:∀old now:List (List UInt8),old.length<=100000->now.length<=100000->Own Tryz.prog 8 [.fz old.length (rS old),.fz now.length (rS now)] (.own 0 (agM old now).length) [.cells 1 true true (rS (agM old now))]:=qj4 (by kernel_rfl)
theorem draftC:qdI Tryz.prog 5:=Tryz.draftC FacK.choices
theorem awk:qX Tryz.prog 7 [] (.b true):=FacT.awake itoaC draftC
theorem sheAgainst(old now:List (List UInt8)):qX Tryz.prog 4 [.fz old.length (rS old),.fz now.length (rS now)] (.b true):=qlo (by kernel_rfl) awk against old now
theorem sheDrafts(b:List UInt8):qX Tryz.prog 3 [.fz b.length (bR b)] (.b true):=qmN (by kernel_rfl) draftC txt32 awk b
end Go.Proofs.YtoekfdofbagoiaaGreatDoor.Walk
