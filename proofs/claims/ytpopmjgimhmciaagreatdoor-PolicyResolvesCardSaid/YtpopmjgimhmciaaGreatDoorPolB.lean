/- policy's functions, at this program's numbers. No condition. -/
import Derived.Test.YtpopmjgimhmciaaGreatDoorK10
import Derived.Test.YtpopmjgimhmciaaGreatDoorK9
import Derived.Test.YtpopmjgimhmciaaGreatDoorK9
import Derived.Test.YtpopmjgimhmciaaGreatDoorK8
import Derived.Test.YtpopmjgimhmciaaGreatDoorEnvR
namespace Go.Proofs.YtpopmjgimhmciaaGreatDoor.Walk
open Go.Kc
theorem qh:Xi Tryz.prog 156 :=
 qpZ (by kernel_rfl) (fun l hl=>qmN (f:=183) (by kernel_rfl) (qpY (f:=184) (by kernel_rfl)) l hl)
theorem hasL:∀s p:List UInt8,qd Tryz.prog 230 [.s s,.s p] (.b (p.isPrefixOf s)):=qix (by kernel_rfl)
theorem hasP:∀s p:List UInt8,qd Tryz.prog 206 [.s s,.s p] (.b (p.isPrefixOf s)):=qe4 (by kernel_rfl) hasL
theorem turned:qcm Tryz.prog 160:=qm8 (by kernel_rfl) (qeX (f:=191) (by kernel_rfl) (qh0 (f:=220) (by kernel_rfl) hasL))
theorem idxB1(a:List UInt8)(c:UInt8):qd Tryz.prog 268 [.s a,.i .u8 (c.toNat:Int)] (.i .i64 (kD c a 0)):=qj4 (qaW.of Tryz.func268 (by kernel_rfl) (by kernel_rfl) (by kernel_rfl) (by kernel_rfl)) a c
theorem cmpE(a b:List UInt8):qd Tryz.prog 248 [.s a,.s b] (.i .i64 (zQ a b)):=qj0 (qaW.of Tryz.func248 (by kernel_rfl) (by kernel_rfl) (by kernel_rfl) (by kernel_rfl)) a b
theorem cmpS:∀a b:List UInt8,qd Tryz.prog 210 [.s a,.s b] (.i .i64 (zQ a b)):=qkM (by kernel_rfl) (qj1 (f:=237) (by kernel_rfl) cmpE)
theorem cut:∀a:List UInt8,a.length<=1000000->qd Tryz.prog 205 [.s a,.s [58]] (.tup [.s (xT a).1,.s (xT a).2.1,.b (xT a).2.2]) :=
 qtI (by kernel_rfl) (qsV (f:=229) (by kernel_rfl) (qsA (f:=244) (g2:=253) (g3:=254) (g4:=255) (by kernel_rfl) (qiy (f:=252) (by kernel_rfl) idxB1)))
theorem erN:∀s:List UInt8,s.length<=1000000->qd Tryz.prog 155 [.s s] (.tup [.i .u32 (qP s).1,.i .i64 (qP s).2]):=qs2 (by kernel_rfl) (qmL (f:=88) (by kernel_rfl)) (qrr (f:=182) (by kernel_rfl))
theorem read:qc4 Tryz.prog 177:=qqB (by kernel_rfl) cut erN
theorem known:∀s,qd Tryz.prog 98 [.s s] (.b (zG s)):=qow (by kernel_rfl) (qmT (f:=120) (by kernel_rfl)) (qnQ (f:=119) (by kernel_rfl) (qpM (f:=151) (by kernel_rfl)) (qiA (f:=152) (by kernel_rfl)))
theorem may:qnH Tryz.prog 60:=qrR (by kernel_rfl) known (qmA (f:=99) (by kernel_rfl))
theorem cop:qnG Tryz.prog 175:=qsz (by kernel_rfl) (qnT (f:=129) (by kernel_rfl))
theorem idxC:Zv 2 Tryz.prog 97:=qe7 (by kernel_rfl)
theorem put:qnJ Tryz.prog 180:=qr7 (by kernel_rfl) cop may (qra (f:=208) (by kernel_rfl)) (qqA (f:=209) (by kernel_rfl) cmpS)
 (qmR (f:=211) (g2:=239) (by kernel_rfl) ⟨25,4,67,2,by kernel_rfl,fun w=>by kernel_rfl,qaW.of Tryz.func238 (by kernel_rfl) (by kernel_rfl) (by kernel_rfl) (by kernel_rfl)⟩)
theorem take:qhH Tryz.prog 181:=qqK (by kernel_rfl) cop may (qpN (f:=213) (by kernel_rfl)) (qg6 (f:=212) (by kernel_rfl) idxC)
theorem exp:qch qf5 Tryz.prog 207:=qn8 (g1:=231) (g2:=232) (g3:=233) (g4:=235) (g5:=236) (k1:=234) (k2:=245) (by kernel_rfl) (by kernel_rfl) (by kernel_rfl) EnvR.tableG EnvR.runs
theorem mem:qch (zO qf5) Tryz.prog 178:=qlE (by kernel_rfl) qf5 hasP exp known
theorem Qw:qcl qf5 Tryz.prog 154:=qsg (by kernel_rfl) qsx (qp5 cop) may qh turned (qqJ (f:=176) (by kernel_rfl)) read mem (qrz (f:=179) (by kernel_rfl)) put take
theorem QC:∀l:GList,qd Tryz.prog 33 [.agg (qj l)] (.b (Go.Kc.QC l)):=qle (by kernel_rfl)
theorem clC:v7 Tryz.prog 129 2 24:=qnT (by kernel_rfl)
theorem fcop:qae Tryz.prog 102:=qj2 (by kernel_rfl) (qp6 (f:=127) (by kernel_rfl)) (qp7 (f:=128) (by kernel_rfl)) clC
theorem keysO:Own Tryz.prog 101 [] (.map 0) [.map (qbX 153 123 124 125)]:=qqp (by kernel_rfl) (qqs (f:=122) (by kernel_rfl))
theorem erF:qbL Tryz.prog 126:=qmK (by kernel_rfl) erN
theorem fset:qmF qf5 Tryz.prog 69:=qqF (by kernel_rfl) fcop keysO (by kernel_rfl) Qw (by kernel_rfl) (by kernel_rfl) (by kernel_rfl) erF
theorem keyP:∀k,qd Tryz.prog 68 [.s k] (.b (Jd k)):=qqo (by kernel_rfl) keysO
theorem ja:∀p a,qd Tryz.prog 16 [.agg (qi p),.agg (qF a)] (.b (Go.Kc.ja p a)):=qlf (by kernel_rfl) QC
theorem cutP:∀s p,qd Tryz.prog 191 [.s s,.s p] (jB s p) :=
 qeX (by kernel_rfl) (qh0 (f:=220) (by kernel_rfl) (qix (f:=230) (by kernel_rfl)))
theorem bool:Vc Tryz.prog 163:=qp4 (by kernel_rfl) (qqE (f:=196) (by kernel_rfl)) (qg4 (f:=197) (by kernel_rfl) (qlm (f:=226) (by kernel_rfl)))
theorem clI:v7 Tryz.prog 127 1 8:=qp6 (by kernel_rfl)
theorem clU:v7 Tryz.prog 128 1 4:=qp7 (by kernel_rfl)
theorem ovI:qlp Tryz.prog 218:=⟨24,4,3,1,by kernel_rfl,fun w=>by kernel_rfl,qaW.of Tryz.func218 (by kernel_rfl) (by kernel_rfl) (by kernel_rfl) (by kernel_rfl)⟩
theorem ovU:qlp Tryz.prog 224:=⟨29,4,28,1,by kernel_rfl,fun w=>by kernel_rfl,qaW.of Tryz.func224 (by kernel_rfl) (by kernel_rfl) (by kernel_rfl) (by kernel_rfl)⟩
theorem insI:XU 1 8 Tryz.prog 190:=qor (g2:=219) (by kernel_rfl) ovI
theorem insU:XU 1 4 Tryz.prog 195:=qos (g2:=225) (by kernel_rfl) ovU
theorem delI:Vd Tryz.prog 187:=qh3 (by kernel_rfl) (qj5 (f:=215) (by kernel_rfl))
theorem delU:Ve Tryz.prog 192:=qh4 (by kernel_rfl) (qj6 (f:=221) (by kernel_rfl))
theorem bsI:qeM Tryz.prog 189:=qsT (by kernel_rfl) (qrJ (f:=216) (by kernel_rfl) (qnR (f:=240) (by kernel_rfl))) (qpz (f:=217) (by kernel_rfl))
theorem bsU:qeN Tryz.prog 194:=qsU (by kernel_rfl) (qrK (f:=222) (by kernel_rfl) (qnS (f:=242) (by kernel_rfl))) (qpA (f:=223) (by kernel_rfl))
theorem wI:qkA Tryz.prog 159:=qsq (by kernel_rfl) clI (qpW (f:=188) (by kernel_rfl)) delI bsI insI
theorem wU:qeV Tryz.prog 162:=qsr (by kernel_rfl) clU (qpX (f:=193) (by kernel_rfl)) delU bsU insU
theorem archP:Zu Tryz.prog 157:=qp1 (by kernel_rfl) (qmB (f:=186) (by kernel_rfl)) (qp2 (f:=185) (by kernel_rfl) (qnv (f:=80) (by kernel_rfl)) (qiz (f:=214) (by kernel_rfl)))
theorem nte:QT Tryz.prog 158:=qrU (by kernel_rfl)
theorem sp0:qd Tryz.prog 92 [] (.agg (qO.flatMap (zB .u64))):=qm5 (by kernel_rfl)
theorem spA:qd Tryz.prog 61 [] (.i .u64 2114060416):=qpG (by kernel_rfl) sp0
theorem spN:qhE Tryz.prog 164:=qpF (by kernel_rfl) sp0 (qrs (f:=198) (by kernel_rfl))
theorem faN:qeO Tryz.prog 161:=qmM (by kernel_rfl) (qj3 (f:=91) (by kernel_rfl)) (qrr (f:=182) (by kernel_rfl))
theorem m1:QA Tryz.prog 130 za:=qmY (by kernel_rfl) qh archP nte wI
theorem m2:QA Tryz.prog 131 qI:=qj7 (by kernel_rfl) turned qh faN nte wU
theorem m3:QA Tryz.prog 132 qy:=qg7 (by kernel_rfl) qh bool spA turned spN nte
theorem m4:QA Tryz.prog 133 WT:=qsE (by kernel_rfl) (qtB (f:=165) (by kernel_rfl) bool nte)
theorem m5:QA Tryz.prog 134 WR:=qsC (by kernel_rfl) (qsJ (f:=165) (by kernel_rfl) bool nte)
theorem m6:QA Tryz.prog 135 WS:=qsD (by kernel_rfl) (qsK (f:=165) (by kernel_rfl) bool nte)
theorem m7:QA Tryz.prog 136 WQ:=qsB (by kernel_rfl) (qsL (f:=165) (by kernel_rfl) bool nte)
theorem rset:qrd Tryz.prog 71:=qsb (by kernel_rfl) (qg5 (f:=104) (by kernel_rfl) clI clU clC) (qrF (f:=103) (by kernel_rfl)) ⟨m1,m2,m3,m4,m5,m6,m7⟩
theorem idxK:Zv 7 Tryz.prog 152:=qiA (by kernel_rfl)
theorem tabK:qd Tryz.prog 151 [] (.agg (zE.flatMap Qz)):=qpM (by kernel_rfl)
theorem archT:qd Tryz.prog 80 [] (.agg (zz.flatMap (zB .u32))):=qnv (by kernel_rfl)
theorem archNm:∀a,qd Tryz.prog 37 [.i .i64 a] (.s (Va a)):=qq8 (by kernel_rfl) archT
theorem spT:qd Tryz.prog 92 [] (.agg (qO.flatMap (zB .u64))):=qm5 (by kernel_rfl)
theorem mayP19:∀p,PolOk p->qd Tryz.prog 20 [.agg (qi p)] (.b (qrQ p)):=qqv (by kernel_rfl)
 (qhX (f:=54) (by kernel_rfl) idxC) (qtM (f:=55) (by kernel_rfl))
 (qqC (f:=56) (by kernel_rfl)) (qtN (f:=57) (by kernel_rfl) archNm)
 (qqD (f:=58) (by kernel_rfl)) (qtO (f:=59) (by kernel_rfl) (qoc (f:=41) (by kernel_rfl) (qj3 (f:=91) (by kernel_rfl)) (qtf (f:=89) (by kernel_rfl))))
 may (qpG (f:=61) (by kernel_rfl) spT)
theorem rkeysO:Own Tryz.prog 103 [] (.map 0) [.map (qbW 130 131 132 133 134 135 136)]:=qrF (by kernel_rfl)
theorem keyR:∀k,qd Tryz.prog 70 [.s k] (.b (qbE k)):=qrD (by kernel_rfl) rkeysO
theorem do':cDo qf5 Tryz.prog 25:=qsv (by kernel_rfl) keyP fset keyR rset
theorem warn:∀x,qd Tryz.prog 30 [.i .i64 x] (.b (kP x)):=qpV (by kernel_rfl) (qkN (f:=78) (by kernel_rfl) (qqm (f:=114) (by kernel_rfl)))
theorem failP:∀l:List GNote,l.length<=qf->qd Tryz.prog 13 [.fz l.length (rN l)] (.b (xG l)):=qsy (by kernel_rfl) (qhY (f:=28) (by kernel_rfl) (qe8 (f:=77) (by kernel_rfl))) (qrq (f:=29) (by kernel_rfl) warn)
theorem res:qfP qf5 Tryz.prog 9:=qsa qsx (by kernel_rfl) (qrT (f:=23) (by kernel_rfl)) do' failP
theorem sameP:qnL Tryz.prog 22:=qtP (by kernel_rfl) (qsI (f:=64) (by kernel_rfl) (qn4 (f:=65) (by kernel_rfl))) (qqb (f:=66) (by kernel_rfl)) (qqc (f:=67) (by kernel_rfl))
theorem great19P:∀l,qd Tryz.prog 8 [.fz l.length (rA l)] (.b (wD l)):=qlg (by kernel_rfl) ja
end Go.Proofs.YtpopmjgimhmciaaGreatDoor.Walk
