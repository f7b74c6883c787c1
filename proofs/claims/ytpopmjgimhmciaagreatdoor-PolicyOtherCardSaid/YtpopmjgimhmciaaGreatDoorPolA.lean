/- policy's functions, at this program's numbers. No condition. -/
import Derived.Test.YtpopmjgimhmciaaGreatDoorK10
import Derived.Test.YtpopmjgimhmciaaGreatDoorK9
import Derived.Test.YtpopmjgimhmciaaGreatDoorK9
import Derived.Test.YtpopmjgimhmciaaGreatDoorK8
import Derived.Test.YtpopmjgimhmciaaGreatDoorEnvP
namespace Go.Proofs.YtpopmjgimhmciaaGreatDoor.Walk
open Go.Kc
theorem qn:QT Tryz.prog 156 :=
 qph (by kernel_rfl) (fun l hl=>qma (f:=183) (by kernel_rfl) (qpg (f:=184) (by kernel_rfl)) l hl)
theorem hasL:∀ s p:List UInt8,qg Tryz.prog 230 [.s s,.s p] (.b (p.isPrefixOf s)):=qh3 (by kernel_rfl)
theorem hasP:∀ s p:List UInt8,qg Tryz.prog 206 [.s s,.s p] (.b (p.isPrefixOf s)):=qeS (by kernel_rfl) hasL
theorem turned:qb1 Tryz.prog 160:=qmu (by kernel_rfl) (qeK (f:=191) (by kernel_rfl) (qhy (f:=220) (by kernel_rfl) hasL))
theorem idxB1 (a:List UInt8) (c:UInt8):qg Tryz.prog 268 [.s a,.i .u8 (c.toNat:Int)] (.i .i64 (Qj c a 0)):=qjv (qaO.of Tryz.func268 (by kernel_rfl) (by kernel_rfl) (by kernel_rfl) (by kernel_rfl)) a c
theorem cmpE (a b:List UInt8):qg Tryz.prog 248 [.s a,.s b] (.i .i64 (zE a b)):=qjr (qaO.of Tryz.func248 (by kernel_rfl) (by kernel_rfl) (by kernel_rfl) (by kernel_rfl)) a b
theorem cmpS:∀ a b:List UInt8,qg Tryz.prog 210 [.s a,.s b] (.i .i64 (zE a b)):=qkd (by kernel_rfl) (qjs (f:=237) (by kernel_rfl) cmpE)
theorem cut:∀ a:List UInt8,a.length<=1000000->qg Tryz.prog 205 [.s a,.s [58]] (.tup [.s (xY a).1,.s (xY a).2.1,.b (xY a).2.2]) :=
 qsk (by kernel_rfl) (qrZ (f:=229) (by kernel_rfl) (qrL (f:=244) (g2:=253) (g3:=254) (g4:=255) (by kernel_rfl) (qh4 (f:=252) (by kernel_rfl) idxB1)))
theorem erN:∀ s:List UInt8,s.length<=1000000->qg Tryz.prog 155 [.s s] (.tup [.i .u32 (zf s).1,.i .i64 (zf s).2]):=qr6 (by kernel_rfl) (ql8 (f:=88) (by kernel_rfl)) (qqG (f:=182) (by kernel_rfl))
theorem read:ql2 Tryz.prog 177:=qpU (by kernel_rfl) cut erN
theorem known:∀ s,qg Tryz.prog 98 [.s s] (.b (jG s)):=qnO (by kernel_rfl) (qmf (f:=120) (by kernel_rfl)) (qna (f:=119) (by kernel_rfl) (qo4 (f:=151) (by kernel_rfl)) (qh6 (f:=152) (by kernel_rfl)))
theorem may:qm3 Tryz.prog 60:=qq6 (by kernel_rfl) known (qlX (f:=99) (by kernel_rfl))
theorem cop:qm2 Tryz.prog 175:=qrK (by kernel_rfl) (qnd (f:=129) (by kernel_rfl))
theorem idxC:Qa 2 Tryz.prog 97:=qeU (by kernel_rfl)
theorem put:qm5 Tryz.prog 180:=qrl (by kernel_rfl) cop may (qqs (f:=208) (by kernel_rfl)) (qpT (f:=209) (by kernel_rfl) cmpS)
 (qmd (f:=211) (g2:=239) (by kernel_rfl) ⟨25,4,67,2,by kernel_rfl,fun w=>by kernel_rfl,qaO.of Tryz.func238 (by kernel_rfl) (by kernel_rfl) (by kernel_rfl) (by kernel_rfl)⟩)
theorem take:qhh Tryz.prog 181:=qp3 (by kernel_rfl) cop may (qo5 (f:=213) (by kernel_rfl)) (qgI (f:=212) (by kernel_rfl) idxC)
theorem exp:qhd qkt Tryz.prog 207:=qns (g1:=231) (g2:=232) (g3:=233) (g4:=235) (g5:=236) (k1:=234) (k2:=245) (by kernel_rfl) (by kernel_rfl) (by kernel_rfl) EnvP.tableG EnvP.runs
theorem mem:qhd (xi qkt) Tryz.prog 178:=qk6 (by kernel_rfl) qkt hasP exp known
theorem kX:qb0 qkt Tryz.prog 154:=qrt (by kernel_rfl) qrI (qpo cop) may qn turned (qp2 (f:=176) (by kernel_rfl)) read mem (qqO (f:=179) (by kernel_rfl)) put take
theorem yc:∀ l:GList,qg Tryz.prog 33 [.agg (qE l)] (.b (Go.Kc.yc l)):=qkG (by kernel_rfl)
theorem clC:wT Tryz.prog 129 2 24:=qnd (by kernel_rfl)
theorem fcop:qad Tryz.prog 102:=qjt (by kernel_rfl) (qpp (f:=127) (by kernel_rfl)) (qpq (f:=128) (by kernel_rfl)) clC
theorem keysO:Own Tryz.prog 101 [] (.map 0) [.map (qbF 153 123 124 125)]:=qpI (by kernel_rfl) (qpL (f:=122) (by kernel_rfl))
theorem erF:qeC Tryz.prog 126:=ql7 (by kernel_rfl) erN
theorem fset:ql3 qkt Tryz.prog 69:=qpY (by kernel_rfl) fcop keysO (by kernel_rfl) kX (by kernel_rfl) (by kernel_rfl) (by kernel_rfl) erF
theorem keyP:∀ k,qg Tryz.prog 68 [.s k] (.b (qf2 k)):=qpH (by kernel_rfl) keysO
theorem xD:∀ p a,qg Tryz.prog 16 [.agg (qq p),.agg (xb a)] (.b (Go.Kc.xD p a)):=qkH (by kernel_rfl) yc
theorem cutP:∀ s p,qg Tryz.prog 191 [.s s,.s p] (xZ s p) :=
 qeK (by kernel_rfl) (qhy (f:=220) (by kernel_rfl) (qh3 (f:=230) (by kernel_rfl)))
theorem bool:qcP Tryz.prog 163:=qpn (by kernel_rfl) (qpX (f:=196) (by kernel_rfl)) (qgG (f:=197) (by kernel_rfl) (qkO (f:=226) (by kernel_rfl)))
theorem clI:wT Tryz.prog 127 1 8:=qpp (by kernel_rfl)
theorem clU:wT Tryz.prog 128 1 4:=qpq (by kernel_rfl)
theorem ovI:qkR Tryz.prog 218:=⟨24,4,3,1,by kernel_rfl,fun w=>by kernel_rfl,qaO.of Tryz.func218 (by kernel_rfl) (by kernel_rfl) (by kernel_rfl) (by kernel_rfl)⟩
theorem ovU:qkR Tryz.prog 224:=⟨29,4,28,1,by kernel_rfl,fun w=>by kernel_rfl,qaO.of Tryz.func224 (by kernel_rfl) (by kernel_rfl) (by kernel_rfl) (by kernel_rfl)⟩
theorem insI:Zu 1 8 Tryz.prog 190:=qnJ (g2:=219) (by kernel_rfl) ovI
theorem insU:Zu 1 4 Tryz.prog 195:=qnK (g2:=225) (by kernel_rfl) ovU
theorem delI:Jx Tryz.prog 187:=qhB (by kernel_rfl) (qjw (f:=215) (by kernel_rfl))
theorem delU:Jy Tryz.prog 192:=qhC (by kernel_rfl) (qjx (f:=221) (by kernel_rfl))
theorem bsI:qeA Tryz.prog 189:=qrX (by kernel_rfl) (qqY (f:=216) (by kernel_rfl) (qnb (f:=240) (by kernel_rfl))) (qoR (f:=217) (by kernel_rfl))
theorem bsU:qeB Tryz.prog 194:=qrY (by kernel_rfl) (qqZ (f:=222) (by kernel_rfl) (qnc (f:=242) (by kernel_rfl))) (qoS (f:=223) (by kernel_rfl))
theorem wI:qj1 Tryz.prog 159:=qrC (by kernel_rfl) clI (qpe (f:=188) (by kernel_rfl)) delI bsI insI
theorem wU:qeI Tryz.prog 162:=qrD (by kernel_rfl) clU (qpf (f:=193) (by kernel_rfl)) delU bsU insU
theorem archP:qdU Tryz.prog 157:=qpk (by kernel_rfl) (qlY (f:=186) (by kernel_rfl)) (qpl (f:=185) (by kernel_rfl) (qmR (f:=80) (by kernel_rfl)) (qh5 (f:=214) (by kernel_rfl)))
theorem nte:yu Tryz.prog 158:=qq9 (by kernel_rfl)
theorem sp0:qg Tryz.prog 92 [] (.agg (qY.flatMap (zV .u64))):=qmr (by kernel_rfl)
theorem spA:qg Tryz.prog 61 [] (.i .u64 2114060416):=qoY (by kernel_rfl) sp0
theorem spN:qhf Tryz.prog 164:=qoX (by kernel_rfl) sp0 (qqH (f:=198) (by kernel_rfl))
theorem faN:qeD Tryz.prog 161:=ql9 (by kernel_rfl) (qju (f:=91) (by kernel_rfl)) (qqG (f:=182) (by kernel_rfl))
theorem m1:k9 Tryz.prog 130 xG:=qmk (by kernel_rfl) qn archP nte wI
theorem m2:k9 Tryz.prog 131 zg:=qjy (by kernel_rfl) turned qn faN nte wU
theorem m3:k9 Tryz.prog 132 zc:=qgJ (by kernel_rfl) qn bool spA turned spN nte
theorem m4:k9 Tryz.prog 133 qbp:=qrP (by kernel_rfl) (qsh (f:=165) (by kernel_rfl) bool nte)
theorem m5:k9 Tryz.prog 134 qbn:=qrN (by kernel_rfl) (qrR (f:=165) (by kernel_rfl) bool nte)
theorem m6:k9 Tryz.prog 135 qbo:=qrO (by kernel_rfl) (qrS (f:=165) (by kernel_rfl) bool nte)
theorem m7:k9 Tryz.prog 136 qbm:=qrM (by kernel_rfl) (qrT (f:=165) (by kernel_rfl) bool nte)
theorem rset:qqv Tryz.prog 71:=qrp (by kernel_rfl) (qgH (f:=104) (by kernel_rfl) clI clU clC) (qqU (f:=103) (by kernel_rfl)) ⟨m1,m2,m3,m4,m5,m6,m7⟩
theorem idxK:Qa 7 Tryz.prog 152:=qh6 (by kernel_rfl)
theorem tabK:qg Tryz.prog 151 [] (.agg (zy.flatMap k8)):=qo4 (by kernel_rfl)
theorem archT:qg Tryz.prog 80 [] (.agg (zJ.flatMap (zV .u32))):=qmR (by kernel_rfl)
theorem archNm:∀ a,qg Tryz.prog 37 [.i .i64 a] (.s (Jv a)):=qqr (by kernel_rfl) archT
theorem spT:qg Tryz.prog 92 [] (.agg (qY.flatMap (zV .u64))):=qmr (by kernel_rfl)
theorem mayP19:∀ p,PolOk p->qg Tryz.prog 20 [.agg (qq p)] (.b (qq5 p)):=qpO (by kernel_rfl)
 (qhv (f:=54) (by kernel_rfl) idxC) (qsl (f:=55) (by kernel_rfl))
 (qpV (f:=56) (by kernel_rfl)) (qsm (f:=57) (by kernel_rfl) archNm)
 (qpW (f:=58) (by kernel_rfl)) (qsn (f:=59) (by kernel_rfl) (qnu (f:=41) (by kernel_rfl) (qju (f:=91) (by kernel_rfl)) (qsf (f:=89) (by kernel_rfl))))
 may (qoY (f:=61) (by kernel_rfl) spT)
theorem rkeysO:Own Tryz.prog 103 [] (.map 0) [.map (qbE 130 131 132 133 134 135 136)]:=qqU (by kernel_rfl)
theorem keyR:∀ k,qg Tryz.prog 70 [.s k] (.b (qf3 k)):=qqS (by kernel_rfl) rkeysO
theorem do':cDo qkt Tryz.prog 25:=qrH (by kernel_rfl) keyP fset keyR rset
theorem warn:∀ x,qg Tryz.prog 30 [.i .i64 x] (.b (Z5 x)):=qpd (by kernel_rfl) (qke (f:=78) (by kernel_rfl) (qpF (f:=114) (by kernel_rfl)))
theorem failP:∀ l:List GNote,l.length<=qi->qg Tryz.prog 13 [.fz l.length (rN l)] (.b (ju l)):=qrJ (by kernel_rfl) (qhw (f:=28) (by kernel_rfl) (qeV (f:=77) (by kernel_rfl))) (qqE (f:=29) (by kernel_rfl) warn)
theorem res:qj0 qkt Tryz.prog 9:=qro qrI (by kernel_rfl) (qq8 (f:=23) (by kernel_rfl)) do' failP
theorem sameP:X5 Tryz.prog 22:=qso (by kernel_rfl) (qrQ (f:=64) (by kernel_rfl) (qno (f:=65) (by kernel_rfl))) (qpu (f:=66) (by kernel_rfl)) (qpv (f:=67) (by kernel_rfl))
theorem great19P:∀ l,qg Tryz.prog 8 [.fz l.length (rA l)] (.b (j9 l)):=qkI (by kernel_rfl) xD
end Go.Proofs.YtpopmjgimhmciaaGreatDoor.Walk
