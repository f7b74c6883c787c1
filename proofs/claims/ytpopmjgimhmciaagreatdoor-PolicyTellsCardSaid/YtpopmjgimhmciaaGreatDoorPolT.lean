/- The program's functions that PolicyTells calls, at this program's numbers. No condition. -/
import Derived.Test.YtpopmjgimhmciaaGreatDoorK8
import Derived.Test.YtpopmjgimhmciaaGreatDoorK7
import Derived.Test.YtpopmjgimhmciaaGreatDoorK7
import Derived.Test.YtpopmjgimhmciaaGreatDoorK7
import Derived.Test.YtpopmjgimhmciaaGreatDoorEnvT
namespace Go.Proofs.YtpopmjgimhmciaaGreatDoor.Walk
open Go.Kc
theorem known:∀s,qe Tryz.prog 98 [.s s] (.b (jd s)):=qrY (by kernel_rfl) (qqE (f:=120) (by kernel_rfl)) (qrr (f:=119) (by kernel_rfl) (qtt (f:=151) (by kernel_rfl)) (qmB (f:=152) (by kernel_rfl)))
theorem may:qwX Tryz.prog 60:=qvj (by kernel_rfl) known (qqr (f:=99) (by kernel_rfl))
theorem idxC:qeH 2 Tryz.prog 97:=qjA (by kernel_rfl)
theorem qaZ:∀l:GList,qe Tryz.prog 33 [.agg (qu l)] (.b (Go.Kc.qaZ l)):=qpd (by kernel_rfl)
theorem xV:∀p a,qe Tryz.prog 16 [.agg (qj p),.agg (qlT a)] (.b (Go.Kc.xV p a)):=qpe (by kernel_rfl) qaZ
theorem archT:qe Tryz.prog 80 [] (.agg (jR.flatMap (qQ .u32))):=qrd (by kernel_rfl)
theorem archNm:∀a,qe Tryz.prog 37 [.i .i64 a] (.s (x7 a)):=quy (by kernel_rfl) archT
theorem spT:qe Tryz.prog 92 [] (.agg (qg.flatMap (qQ .u64))):=qqP (by kernel_rfl)
theorem mayP19:∀p,PolOk p->qe Tryz.prog 20 [.agg (qj p)] (.b (qag p)):=qtZ (by kernel_rfl)
 (ql7 (f:=54) (by kernel_rfl) idxC) (qwT (f:=55) (by kernel_rfl))
 (qt4 (f:=56) (by kernel_rfl)) (qwU (f:=57) (by kernel_rfl) archNm)
 (qt5 (f:=58) (by kernel_rfl)) (qwV (f:=59) (by kernel_rfl) (qrH (f:=41) (by kernel_rfl) (qn6 (f:=91) (by kernel_rfl)) (qwp (f:=89) (by kernel_rfl))))
 may (qtl (f:=61) (by kernel_rfl) spT)
theorem warn:∀x,qe Tryz.prog 30 [.i .i64 x] (.b (qau x)):=qtA (by kernel_rfl) (qoO (f:=78) (by kernel_rfl) (qtT (f:=114) (by kernel_rfl)))
theorem failP:∀l:List GNote,l.length<=qf->qe Tryz.prog 13 [.fz l.length (rN l)] (.b (jT l)):=qvR (by kernel_rfl) (ql8 (f:=28) (by kernel_rfl) (qjB (f:=77) (by kernel_rfl))) (quQ (f:=29) (by kernel_rfl) warn)
theorem sameP:qeI Tryz.prog 22:=qwW (by kernel_rfl) (qvW (f:=64) (by kernel_rfl) (qrB (f:=65) (by kernel_rfl))) (qtH (f:=66) (by kernel_rfl)) (qtI (f:=67) (by kernel_rfl))
end Go.Proofs.YtpopmjgimhmciaaGreatDoor.Walk
