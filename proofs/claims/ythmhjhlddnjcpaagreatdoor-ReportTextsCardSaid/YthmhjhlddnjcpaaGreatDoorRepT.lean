/- ReportTexts at this program's numbers. No condition. -/
import Derived.Test.YthmhjhlddnjcpaaGreatDoorK7
import Derived.Test.YthmhjhlddnjcpaaGreatDoorFacA
import Derived.Test.YthmhjhlddnjcpaaGreatDoorItoaL
import Derived.Lib.LaidTab
import Derived.LaidSub
import Derived.MakeChecks
namespace Go.Proofs.YthmhjhlddnjcpaaGreatDoor.Walk
open Go.Kc
theorem tabsOk{W:World}{L:List (String×DataW Unit)}(hL:laidMetH Tryz.prog L W)(hf:(L.filter fun x=>x.1 == "internal/strconv.uint64pow10")=[("internal/strconv.uint64pow10",Lib.tabData .u64 Lib.pow10Tab)]):TabOk W:=by
 have h:=hL.filter (fun x=>x.1 == "internal/strconv.uint64pow10")
 rw[hf,MakeChecks.laidMetH_plain _ _ _ (by kernel_rfl)] at h;have hg:Tryz.prog.globalNamed "internal/strconv.uint64pow10" = some 0:=by kernel_rfl
 have ht:Lib.TabIs Tryz.prog W "internal/strconv.uint64pow10" .u64 Lib.pow10Tab:=Lib.tabIs_of_head (g:=0) (t:=80) (e:=33) (n:=20) hg (by kernel_rfl) Tryz.underlying80 Tryz.underlying33 (by kernel_rfl) (by kernel_rfl) h;refine⟨fun k a hk=>?_⟩
 unfold tab at hk;split at hk
 ·subst k;cases hk;unfold Lib.TabIs World.var? at ht;rw[hg] at ht;simp only[Option.bind_some] at ht;split at ht
  ·rename_i cs ty fz hw;cases ht;exact⟨ty,fz,hw⟩
  ·cases ht
 ·cases hk
theorem itoaC:qdF Tryz.prog 13:=qmH (g:=0) ⟨_,Tryz.func13,by first|kernel_rfl|decide,rfl⟩ (by kernel_rfl) rfl (fun n h0 h1 w ht=>Any.strconv_Itoa Tryz.laysM171 n h0 h1 w ht)
theorem wrn:∀x,qp Tryz.prog 12 [.i .i64 x] (.b (jf x)):=qmv (by kernel_rfl) (qiA (f:=19) (by kernel_rfl) (qmG (f:=23) (by kernel_rfl)))
theorem wrn16:∀x,qp Tryz.prog 4 [.i .i64 x] (.b (jf x)):=qog (by kernel_rfl)
theorem txt:∀n,NotL n->qp Tryz.prog 8 [.agg (qE n)] (.s (zW n)):=qof (by kernel_rfl) wrn itoaC
theorem num:∀n:Int,-9223372036854775808<=n->n<=9223372036854775807->qp Tryz.prog 11 [.i .i64 n] (.s (Lib.itoa n)):=qnK (by kernel_rfl) (qnj (f:=18) (by kernel_rfl))
theorem txt30:∀n,NotL n->qp Tryz.prog 7 [.agg (qE n)] (.s (zW n)):=qoe (by kernel_rfl) num wrn16
theorem failC:∀l:List GNote,l.length<=qi->qp Tryz.prog 10 [.fz l.length (rN l)] (.b (zr l)):=qoc (by kernel_rfl) (qgh (f:=16) (by kernel_rfl) (qek (f:=22) (by kernel_rfl))) (qnq (f:=17) (by kernel_rfl) wrn)
theorem rep(l:List GNote)(hn:∀n ∈ l,(-9223372036854775808<=n.line∧n.line<=9223372036854775807)∧-9223372036854775808<=n.err∧n.err<=9223372036854775807):qp Tryz.prog 3 [.fz l.length (rN l)] (.b true) :=
 qoX (by kernel_rfl) wrn16 (fun l h1 h2 a h3 h4=>qoW (f:=5) (by kernel_rfl) txt a h3 h4 l h1 h2) (fun l h1 a h3 h4=>qoQ (f:=6) (by kernel_rfl) failC a h3 h4 l (Nat.le_trans h1 (by decide))) txt30 txt (FacA.awake itoaC) l
  fun n h h1 h2=>⟨(hn n h).1.1,(hn n h).1.2,(hn n h).2.1,(hn n h).2.2,h1,h2⟩
end Go.Proofs.YthmhjhlddnjcpaaGreatDoor.Walk
