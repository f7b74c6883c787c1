/- PolicyTells at this program's numbers. No condition. -/
import Derived.Test.YtpopmjgimhmciaaGreatDoorK9
import Derived.Test.YtpopmjgimhmciaaGreatDoorK9
import Derived.Test.YtpopmjgimhmciaaGreatDoorK8
import Derived.Test.YtpopmjgimhmciaaGreatDoorPolT
import Derived.Test.YtpopmjgimhmciaaGreatDoorItoaL
import Derived.Lib.LaidTab
import Derived.LaidSub
import Derived.MakeChecks
namespace Go.Proofs.YtpopmjgimhmciaaGreatDoor.Walk
open Go.Kc
theorem tabsOk{W:World}{L:List (String×DataW Unit)}(hL:laidMetH Tryz.prog L W)(hf:(L.filter fun x=>x.1 == "internal/strconv.uint64pow10")=[("internal/strconv.uint64pow10",Lib.tabData .u64 Lib.pow10Tab)]):TabOk W:=by
 have h:=hL.filter (fun x=>x.1 == "internal/strconv.uint64pow10")
 rw[hf,MakeChecks.laidMetH_plain _ _ _ (by kernel_rfl)] at h;have hg:Tryz.prog.globalNamed "internal/strconv.uint64pow10" = some 1:=by kernel_rfl
 have ht:Lib.TabIs Tryz.prog W "internal/strconv.uint64pow10" .u64 Lib.pow10Tab:=Lib.tabIs_of_head (g:=1) (t:=254) (e:=30) (n:=20) hg (by kernel_rfl) Tryz.underlying254 Tryz.underlying30 (by kernel_rfl) (by kernel_rfl) h;refine⟨fun k a hk=>?_⟩
 unfold tab at hk;split at hk
 ·subst k;cases hk;unfold Lib.TabIs World.var? at ht;rw[hg] at ht;simp only[Option.bind_some] at ht;split at ht
  ·rename_i cs ty fz hw;cases ht;exact⟨ty,fz,hw⟩
  ·cases ht
 ·cases hk
theorem joinK:qod Tryz.prog 79:=⟨fun a c sep w=>Any.strings_Join_none Tryz.lays156 Tryz.joinExtra a c sep w,fun bk o c xs sep w h1 h2 h3 h4 h5=>Any.strings_Join Tryz.lays156 Tryz.joinExtra bk o c xs sep w h1 h2 h3 h4 h5⟩
theorem joinC:qqu Tryz.prog 79:=qu0 ⟨_,Tryz.func79,by first|kernel_rfl|decide,rfl⟩ joinK
theorem itoaC:qqt Tryz.prog 90:=quX (g:=1) ⟨_,Tryz.func90,by first|kernel_rfl|decide,rfl⟩ (by kernel_rfl) rfl (fun n h0 h1 w ht=>Any.strconv_Itoa Tryz.laysM171 n h0 h1 w ht)
theorem lineC:qbv Tryz.prog 35:=qvc (by kernel_rfl) joinC
theorem yesC:qlV Tryz.prog 45:=fun k is ls h1 h2=>qv1 (by kernel_rfl) lineC k is ls h1 h2
theorem ofU:∀(l:List (List UInt8×Int)) (n:Int),l.length<=qf->qe Tryz.prog 89 [.fz l.length (l.flatMap (qQ .u32)),.i .u32 n] (.s (qJ n l)):=qwp (by kernel_rfl)
theorem errNm:∀n:Int,0<=n->n<=4294967295->qe Tryz.prog 39 [.i .u32 n] (.s (qbs n)):=qtJ (by kernel_rfl) (qqx (f:=88) (by kernel_rfl)) ofU itoaC
theorem entC:qb1 Tryz.prog 81:=qoU (by kernel_rfl) (qua (f:=82) (by kernel_rfl) errNm)
theorem lstC:qhf Tryz.prog 38:=qvd (e2:=83) (by kernel_rfl) entC (by kernel_rfl) (qwg (f:=84) (by kernel_rfl)) lineC (qwh (f:=85) (by kernel_rfl)) (qwi (f:=86) (by kernel_rfl)) (qwj (f:=87) (by kernel_rfl))
theorem famN:∀n,qe Tryz.prog 41 [.i .u32 n] (.s (qJ n qm)):=qrH (by kernel_rfl) (qn6 (f:=91) (by kernel_rfl)) ofU
theorem spcN:∀n,qe Tryz.prog 44 [.i .u64 n] (.s (qJ n qg)):=qt7 (by kernel_rfl) spT (qwq (f:=93) (by kernel_rfl))
theorem linesP(p:Pol)(hp:PolOk p)(ok:qag p=true->LinOk p):qe Tryz.prog 18 [.agg (qj p)] (qpA p):=by
 unfold qpA
 exact qse (by kernel_rfl) mayP19 (fun l hl=>qvD (f:=36) (by kernel_rfl) l hl fun x _=>archNm x) lineC lstC errNm (fun l hl=>qvE (f:=40) (by kernel_rfl) l hl fun x _=>famN x)
  (qrK (f:=43) (by kernel_rfl) spT) (fun l hl=>qvF (f:=42) (by kernel_rfl) l hl fun x _=>spcN x) yesC p hp ok
theorem knownR:∀s,qe Tryz.prog 100 [.s s] (.b (jd s)):=qwf (by kernel_rfl) EnvT.table9
theorem mayR:qhV Tryz.prog 62:=qwR (by kernel_rfl) knownR
theorem spR:qe Tryz.prog 53 [] (.fz 8 (qg.flatMap (qQ .u64))):=qvB (by kernel_rfl)
theorem faR:qe Tryz.prog 51 [] (.fz 8 (qm.flatMap (qQ .u64))):=qrG (by kernel_rfl)
theorem nmR:∀(l:List (List UInt8×Int)) (n:Int),l.length<=qf->qe Tryz.prog 50 [.fz l.length (l.flatMap (qQ .u64)),.i .u64 n] (.s (qJ n l)):=qwl (by kernel_rfl)
theorem mayR19:∀p,PolOk p->PolR p->qe Tryz.prog 21 [.agg (qj p)] (.b (qag p)):=qwS (by kernel_rfl) faR nmR mayR (qwQ (f:=63) (by kernel_rfl) spR)
theorem joinR:qdj Tryz.prog 47:=qwe (by kernel_rfl)
theorem errR:∀n:Int,0<=n->n<=4294967295->qe Tryz.prog 49 [.i .u32 n] (.s (qbs n)):=quJ (by kernel_rfl) (quK (f:=95) (by kernel_rfl)) nmR (quH (f:=96) (by kernel_rfl))
theorem lstR:qfC Tryz.prog 48:=qqH (by kernel_rfl) (qwP (f:=94) (by kernel_rfl) errR) joinR
theorem linesR(p:Pol)(hp:PolOk p)(hr:PolR p)(ok:qag p=true->LinOk p∧Lin19 p):qe Tryz.prog 19 [.agg (qj p)] (qpA p):=by
 unfold qpA;exact qvT (by kernel_rfl) mayR19 (qvU (f:=46) (by kernel_rfl)) joinR lstR errR faR nmR (qvS (f:=52) (by kernel_rfl) spR) spR p hp hr ok
theorem fail19:∀l:List GNote,l.length<=qf->qe Tryz.prog 14 [.fz l.length (rN l)] (.b (jT l)):=quP (by kernel_rfl) (qv0 (f:=31) (by kernel_rfl))
theorem polTells{A:Prop}(p:Pol)(q:Pol)(n:List GNote)(hr:PolR p)(_:A):qe Tryz.prog 4 [.agg (qj p),.agg (qj q),.fz n.length (rN n)] (.b true) :=
 policyTells (by kernel_rfl) xV (quE (f:=17) (by kernel_rfl) (quD (f:=34) (by kernel_rfl))) linesP linesR mayP19 mayR19 sameP
  (qvY (f:=11) (by kernel_rfl) (qvX (f:=27) (by kernel_rfl))) failP fail19 (qvl (f:=23) (by kernel_rfl)) EnvT.awake p q n hr
end Go.Proofs.YtpopmjgimhmciaaGreatDoor.Walk
