/- StackParse at this program's numbers. No condition. -/
import Derived.Test.YtpgbjeabmkbmbaaK8
import Derived.Test.YtpgbjeabmkbmbaaEnvH
namespace Go.Proofs.Ytpgbjeabmkbmbaa.Walk
open Go.Kc
theorem ent:qf Try.prog 125 [] (.agg (xm.flatMap zZ)):=qkU (by kernel_rfl)
theorem byM:∀n,qf Try.prog 102 [.i .u16 n] (.tup [.agg (xU (zV n)),.b (xI n)]):=qpZ (by kernel_rfl) (qo9 (f:=119) (by kernel_rfl)) (fun _ _ _ ha hc p hp=>qn6 (f:=118) (by kernel_rfl) ent ha hc p hp)
theorem ofM:cOf Try.prog 87:=qpY (by kernel_rfl) byM
theorem knoM:qlI Try.prog 112:=qmg (by kernel_rfl) byM
theorem ofR:qgs Try.prog 40:=qrc (by kernel_rfl) EnvH.all02
theorem getRR:qkL Try.prog 17:=fun b hb hl a ha n hn=>qq9 (by kernel_rfl) b hb hl a ha n hn
theorem g16:qgp Try.prog 14:=fun b hb hl a ha=>qqZ (by kernel_rfl) (qq1 (f:=29) (by kernel_rfl)) b hb hl a ha
theorem g32:qlH Try.prog 45:=fun b hb hl a ha=>qq0 (by kernel_rfl) (qq2 (f:=69) (by kernel_rfl)) b hb hl a ha
theorem insP:qgr Try.prog 15:=qoN fun b hb hl=>qmh (by kernel_rfl) (qqa (f:=30) (g:=44) (by kernel_rfl)) (by kernel_rfl) (qkX (f:=31) (by kernel_rfl) g16 g32) b hb hl
theorem insR:qgr Try.prog 18:=fun b hb m hm hl=>qp2 (by kernel_rfl) (qoW (f:=35) (by kernel_rfl) getRR) b hb m hm hl
theorem oneP:∀i,InsOk i->∀n:Nat,qf Try.prog 86 [.agg (qv i),.i .i64 (n:Int)] (.i .i64 (QH i n)):=fun i hi n=>by
 have h:=qpy (P:=Try.prog) (f:=86) (g0:=101) (by kernel_rfl) i n (wsM 111 113 114 115 116 117 i n) rfl (qld (by kernel_rfl) i n) (by
  intro x hx;simp only[wsM,List.mem_cons,List.not_mem_nil,or_false] at hx;rcases hx with rfl|rfl|rfl|rfl|rfl|rfl
  ·exact qq3 (by kernel_rfl) knoM i n
  ·exact qq4 (by kernel_rfl) i hi n
  ·exact qq5 (by kernel_rfl) ofM i n
  ·exact qq6 (by kernel_rfl) i n
  ·exact qq7 (by kernel_rfl) i n
  ·exact qq8 (by kernel_rfl) ofM i hi n)
 rw[qp1] at h;exact h
theorem come:qd1 Try.prog 120:=fun s r hr j hj x=>qoT (by kernel_rfl) s r hr j hj x
theorem wrP:cWr Try.prog 122:=fun i hi=>qlc (by kernel_rfl) ofM i hi
theorem vis:qoR Try.prog 104:=fun p hp l hl j i hj hi x=>qoq (by kernel_rfl) (qnm (f:=105) (by kernel_rfl)) p hp l hl j i hj hi x
theorem uns:∀p:List Ins,p.length<=4096->(∀i ∈ p,InsOk i)->qf Try.prog 88 [.fz p.length (rP p)] (.fz (vh p).length (rNt (vh p))):=fun p hp hi =>
 qk8 (by kernel_rfl) (g0:=103) (g2:=127) (by kernel_rfl) (gw:=126) (by kernel_rfl) ofM (by kernel_rfl) come wrP vis (qp3 (f:=121) (by kernel_rfl)) p hp hi
theorem chkAt:cAt Try.prog 70:=qiX (by kernel_rfl) oneP ofM uns
theorem mayPr:qkO Try.prog 16:=fun l hl hx=>qim (by kernel_rfl) (qgI (f:=32) (by kernel_rfl) (qec (f:=46) (by kernel_rfl)))
 (qoc (f:=33) (by kernel_rfl) (qk3 (f:=34) (by kernel_rfl) (qlO (f:=47) (by kernel_rfl) chkAt))) l hl hx
theorem nxt:qd2 Try.prog 82:=fun p hp j i hj hi=>qqx (by kernel_rfl) ofR p hp j i hj hi
theorem unsR:∀p:List Ins,p.length<=4096->(∀i ∈ p,InsOk i)->qf Try.prog 41 [.fz p.length (rP p)] (.fz (qbh p).length (rNt (qbh p))):=fun p hp hi =>
 qoo (by kernel_rfl) (qoj (f:=63) (by kernel_rfl) nxt) (qkm (f:=64) (by kernel_rfl) nxt) p hp hi (qpK p) (by rw[qh1];simp[st0])
theorem atR:qkK Try.prog 26:=qrb (by kernel_rfl) (qra (f:=39) (by kernel_rfl) ofR) ofR unsR
theorem mayR:qkO Try.prog 19:=fun l hl hx=>qmz (by kernel_rfl) atR l hl hx
theorem stackParse(b:List Int)(hb:qK b):qf Try.prog 3 [.fz b.length (rB b)] (.b true) :=
 qhf (by kernel_rfl) (qqb (f:=5) (by kernel_rfl)) (qfW (f:=6) (by kernel_rfl) g16 insP mayPr) (qkf (f:=7) (by kernel_rfl) getRR insR mayR)
  (qqW (f:=8) (by kernel_rfl) (qqV (f:=20) (by kernel_rfl))) (qqU (f:=9) (by kernel_rfl)) b hb
end Go.Proofs.Ytpgbjeabmkbmbaa.Walk
