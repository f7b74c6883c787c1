/- policy.Lines at this program's numbers. No condition. -/
import Derived.Test.YtpopmjgimhmciaaGreatDoorK11
import Derived.Test.YtpopmjgimhmciaaGreatDoorK11
import Derived.Test.YtpopmjgimhmciaaGreatDoorPolA
import Derived.Test.YtpopmjgimhmciaaGreatDoorItoaL
import Derived.Lib.LaidTab
import Derived.LaidSub
import Derived.MakeChecks
namespace Go.Proofs.YtpopmjgimhmciaaGreatDoor.Walk
open Go.Kc
theorem tabsOk{W:World}{L:List (String×DataW Unit)}(hL:laidMetH Tryz.prog L W)(hf:(L.filter fun x=>x.1 == "internal/strconv.uint64pow10")=[("internal/strconv.uint64pow10",Lib.tabData .u64 Lib.pow10Tab)]):TabOk W:=by
 have h:=hL.filter (fun x=>x.1 == "internal/strconv.uint64pow10")
 rw[hf,MakeChecks.laidMetH_plain _ _ _ (by kernel_rfl)] at h;have hg:Tryz.prog.globalNamed "internal/strconv.uint64pow10" = some 1:=by kernel_rfl
 have ht:Lib.TabIs Tryz.prog W "internal/strconv.uint64pow10" .u64 Lib.pow10Tab:=Lib.tabIs_of_head (g:=1) (t:=254) (e:=30) (n:=20) hg (by kernel_rfl) Tryz.underlying254 Tryz.underlying30 (by kernel_rfl) (by kernel_rfl) h;refine⟨fun k a hk=>?_⟩
 unfold tab at hk;split at hk
 ·subst k;cases hk;unfold Lib.TabIs World.var? at ht;rw[hg] at ht;simp only[Option.bind_some] at ht;split at ht
  ·rename_i cs ty fz hw;cases ht;exact⟨ty,fz,hw⟩
  ·cases ht
 ·cases hk
theorem joinK:qkA Tryz.prog 79:=⟨fun a c sep w=>Any.strings_Join_none Tryz.lays156 Tryz.joinExtra a c sep w,fun bk o c xs sep w h1 h2 h3 h4 h5=>Any.strings_Join Tryz.lays156 Tryz.joinExtra bk o c xs sep w h1 h2 h3 h4 h5⟩
theorem joinC:qnc Tryz.prog 79:=qsi ⟨_,Tryz.func79,by first|kernel_rfl|decide,rfl⟩ joinK
theorem itoaC:qnb Tryz.prog 90:=qsf (g:=1) ⟨_,Tryz.func90,by first|kernel_rfl|decide,rfl⟩ (by kernel_rfl) rfl (fun n h0 h1 w ht=>Any.strconv_Itoa Tryz.laysM171 n h0 h1 w ht)
theorem lineC:QL Tryz.prog 35:=qss (by kernel_rfl) joinC
theorem yesC:qh5 Tryz.prog 45:=fun k is ls h1 h2=>qtt (by kernel_rfl) lineC k is ls h1 h2
theorem ofU:∀(l:List (List UInt8×Int)) (n:Int),l.length<=qf->qc Tryz.prog 89 [.fz l.length (l.flatMap (zo .u32)),.i .u32 n] (.s (zd n l)):=qtW (by kernel_rfl)
theorem errNm:∀n:Int,0<=n->n<=4294967295->qc Tryz.prog 39 [.i .u32 n] (.s (QJ n)):=qqU (by kernel_rfl) (qnk (f:=88) (by kernel_rfl)) ofU itoaC
theorem entC:Zj Tryz.prog 81:=qln (by kernel_rfl) (qru (f:=82) (by kernel_rfl) errNm)
theorem lstC:qcm Tryz.prog 38:=qst (e2:=83) (by kernel_rfl) entC (by kernel_rfl) (qtN (f:=84) (by kernel_rfl)) lineC (qtO (f:=85) (by kernel_rfl)) (qtP (f:=86) (by kernel_rfl)) (qtQ (f:=87) (by kernel_rfl))
theorem famN:∀n,qc Tryz.prog 41 [.i .u32 n] (.s (zd n qn)):=qoI (by kernel_rfl) (qku (f:=91) (by kernel_rfl)) ofU
theorem spcN:∀n,qc Tryz.prog 44 [.i .u64 n] (.s (zd n qk)):=qrp (by kernel_rfl) spT (qtX (f:=93) (by kernel_rfl))
theorem linesP(p:Pol)(hp:PolOk p)(ok:Wj p=true->LinOk p):qc Tryz.prog 18 [.agg (qo p)] (ql8 p):=by
 unfold ql8
 exact qpa (by kernel_rfl) mayP19 (fun l hl=>qsZ (f:=36) (by kernel_rfl) l hl fun x _=>archNm x) lineC lstC errNm (fun l hl=>qs0 (f:=40) (by kernel_rfl) l hl fun x _=>famN x)
  (qoN (f:=43) (by kernel_rfl) spT) (fun l hl=>qs1 (f:=42) (by kernel_rfl) l hl fun x _=>spcN x) yesC p hp ok
end Go.Proofs.YtpopmjgimhmciaaGreatDoor.Walk
