/- policy's functions, at this program's numbers. No condition. -/
import Derived.Test.YtpopmjgimhmciaaGreatDoorK10
import Derived.Test.YtpopmjgimhmciaaGreatDoorK9
import Derived.Test.YtpopmjgimhmciaaGreatDoorK9
import Derived.Test.YtpopmjgimhmciaaGreatDoorK8
import Derived.Test.YtpopmjgimhmciaaGreatDoorEnvW
namespace Go.Proofs.YtpopmjgimhmciaaGreatDoor.Walk
open Go.Kc
theorem ql:XG Tryz.prog 156 :=
 qqF (by kernel_rfl) (fun l hl=>qnm (f:=183) (by kernel_rfl) (qqE (f:=184) (by kernel_rfl)) l hl)
theorem hasL:∀s p:List UInt8,qc Tryz.prog 230 [.s s,.s p] (.b (p.isPrefixOf s)):=qiR (by kernel_rfl)
theorem hasP:∀s p:List UInt8,qc Tryz.prog 206 [.s s,.s p] (.b (p.isPrefixOf s)):=qfv (by kernel_rfl) hasL
theorem turned:qcp Tryz.prog 160:=qnH (by kernel_rfl) (qfm (f:=191) (by kernel_rfl) (qil (f:=220) (by kernel_rfl) hasL))
theorem idxB1(a:List UInt8)(c:UInt8):qc Tryz.prog 268 [.s a,.i .u8 (c.toNat:Int)] (.i .i64 (y6 c a 0)):=qkv (qaU.of Tryz.func268 (by kernel_rfl) (by kernel_rfl) (by kernel_rfl) (by kernel_rfl)) a c
theorem cmpE(a b:List UInt8):qc Tryz.prog 248 [.s a,.s b] (.i .i64 (zS a b)):=qkr (qaU.of Tryz.func248 (by kernel_rfl) (by kernel_rfl) (by kernel_rfl) (by kernel_rfl)) a b
theorem cmpS:∀a b:List UInt8,qc Tryz.prog 210 [.s a,.s b] (.i .i64 (zS a b)):=qlf (by kernel_rfl) (qks (f:=237) (by kernel_rfl) cmpE)
theorem cut:∀a:List UInt8,a.length<=1000000->qc Tryz.prog 205 [.s a,.s [58]] (.tup [.s (x5 a).1,.s (x5 a).2.1,.b (x5 a).2.2]) :=
 quj (by kernel_rfl) (qtz (f:=229) (by kernel_rfl) (qtj (f:=244) (g2:=253) (g3:=254) (g4:=255) (by kernel_rfl) (qiT (f:=252) (by kernel_rfl) idxB1)))
theorem erN:∀s:List UInt8,s.length<=1000000->qc Tryz.prog 155 [.s s] (.tup [.i .u32 (zh s).1,.i .i64 (zh s).2]):=qtJ (by kernel_rfl) (qnk (f:=88) (by kernel_rfl)) (qr6 (f:=182) (by kernel_rfl))
theorem read:qne Tryz.prog 177:=qrj (by kernel_rfl) cut erN
theorem known:∀s,qc Tryz.prog 98 [.s s] (.b (xM s)):=qo3 (by kernel_rfl) (qnr (f:=120) (by kernel_rfl)) (qon (f:=119) (by kernel_rfl) (qqs (f:=151) (by kernel_rfl)) (qiV (f:=152) (by kernel_rfl)))
theorem may:qof Tryz.prog 60:=qsz (by kernel_rfl) known (qm7 (f:=99) (by kernel_rfl))
theorem cop:qoe Tryz.prog 175:=qti (by kernel_rfl) (qoq (f:=129) (by kernel_rfl))
theorem idxC:ZO 2 Tryz.prog 97:=qfw (by kernel_rfl)
theorem put:qoh Tryz.prog 180:=qsO (by kernel_rfl) cop may (qrS (f:=208) (by kernel_rfl)) (qri (f:=209) (by kernel_rfl) cmpS)
 (qnp (f:=211) (g2:=239) (by kernel_rfl) ⟨25,4,67,2,by kernel_rfl,fun w=>by kernel_rfl,qaU.of Tryz.func238 (by kernel_rfl) (by kernel_rfl) (by kernel_rfl) (by kernel_rfl)⟩)
theorem take:qh4 Tryz.prog 181:=qrt (by kernel_rfl) cop may (qqt (f:=213) (by kernel_rfl)) (qhx (f:=212) (by kernel_rfl) idxC)
theorem exp:qh0 qlw Tryz.prog 207:=qoG (g1:=231) (g2:=232) (g3:=233) (g4:=235) (g5:=236) (k1:=234) (k2:=245) (by kernel_rfl) (by kernel_rfl) (by kernel_rfl) EnvW.tableG EnvW.runs
theorem mem:qh0 (xy qlw) Tryz.prog 178:=qmg (by kernel_rfl) qlw hasP exp known
theorem QE:qco qlw Tryz.prog 154:=qsY (by kernel_rfl) qtg (qqM cop) may ql turned (qrs (f:=176) (by kernel_rfl)) read mem (qse (f:=179) (by kernel_rfl)) put take
theorem QP:∀l:GList,qc Tryz.prog 33 [.agg (qv l)] (.b (Go.Kc.QP l)):=qlJ (by kernel_rfl)
theorem clC:kw Tryz.prog 129 2 24:=qoq (by kernel_rfl)
theorem fcop:qad Tryz.prog 102:=qkt (by kernel_rfl) (qqN (f:=127) (by kernel_rfl)) (qqO (f:=128) (by kernel_rfl)) clC
theorem keysO:Own Tryz.prog 101 [] (.map 0) [.map (qbV 153 123 124 125)]:=qq7 (by kernel_rfl) (qra (f:=122) (by kernel_rfl))
theorem erF:qfd Tryz.prog 126:=qnj (by kernel_rfl) erN
theorem fset:qnf qlw Tryz.prog 69:=qrn (by kernel_rfl) fcop keysO (by kernel_rfl) QE (by kernel_rfl) (by kernel_rfl) (by kernel_rfl) erF
theorem keyP:∀k,qc Tryz.prog 68 [.s k] (.b (qgJ k)):=qq6 (by kernel_rfl) keysO
theorem je:∀p a,qc Tryz.prog 16 [.agg (qo p),.agg (xl a)] (.b (Go.Kc.je p a)):=qlK (by kernel_rfl) QP
theorem cutP:∀s p,qc Tryz.prog 191 [.s s,.s p] (jF s p) :=
 qfm (by kernel_rfl) (qil (f:=220) (by kernel_rfl) (qiR (f:=230) (by kernel_rfl)))
theorem bool:qdh Tryz.prog 163:=qqL (by kernel_rfl) (qrm (f:=196) (by kernel_rfl)) (qhv (f:=197) (by kernel_rfl) (qlU (f:=226) (by kernel_rfl)))
theorem clI:kw Tryz.prog 127 1 8:=qqN (by kernel_rfl)
theorem clU:kw Tryz.prog 128 1 4:=qqO (by kernel_rfl)
theorem ovI:qlX Tryz.prog 218:=⟨24,4,3,1,by kernel_rfl,fun w=>by kernel_rfl,qaU.of Tryz.func218 (by kernel_rfl) (by kernel_rfl) (by kernel_rfl) (by kernel_rfl)⟩
theorem ovU:qlX Tryz.prog 224:=⟨29,4,28,1,by kernel_rfl,fun w=>by kernel_rfl,qaU.of Tryz.func224 (by kernel_rfl) (by kernel_rfl) (by kernel_rfl) (by kernel_rfl)⟩
theorem insI:Jq 1 8 Tryz.prog 190:=qoY (g2:=219) (by kernel_rfl) ovI
theorem insU:Jq 1 4 Tryz.prog 195:=qoZ (g2:=225) (by kernel_rfl) ovU
theorem delI:VO Tryz.prog 187:=qiq (by kernel_rfl) (qkw (f:=215) (by kernel_rfl))
theorem delU:VP Tryz.prog 192:=qir (by kernel_rfl) (qkx (f:=221) (by kernel_rfl))
theorem bsI:qfb Tryz.prog 189:=qtx (by kernel_rfl) (qsq (f:=216) (by kernel_rfl) (qoo (f:=240) (by kernel_rfl))) (qqf (f:=217) (by kernel_rfl))
theorem bsU:qfc Tryz.prog 194:=qty (by kernel_rfl) (qsr (f:=222) (by kernel_rfl) (qop (f:=242) (by kernel_rfl))) (qqg (f:=223) (by kernel_rfl))
theorem wI:qk3 Tryz.prog 159:=qta (by kernel_rfl) clI (qqC (f:=188) (by kernel_rfl)) delI bsI insI
theorem wU:qfk Tryz.prog 162:=qtb (by kernel_rfl) clU (qqD (f:=193) (by kernel_rfl)) delU bsU insU
theorem archP:qew Tryz.prog 157:=qqI (by kernel_rfl) (qm8 (f:=186) (by kernel_rfl)) (qqJ (f:=185) (by kernel_rfl) (qn3 (f:=80) (by kernel_rfl)) (qiU (f:=214) (by kernel_rfl)))
theorem nte:Q6 Tryz.prog 158:=qsC (by kernel_rfl)
theorem sp0:qc Tryz.prog 92 [] (.agg (qk.flatMap (zo .u64))):=qnE (by kernel_rfl)
theorem spA:qc Tryz.prog 61 [] (.i .u64 2114060416):=qqm (by kernel_rfl) sp0
theorem spN:qh2 Tryz.prog 164:=qql (by kernel_rfl) sp0 (qr7 (f:=198) (by kernel_rfl))
theorem faN:qfe Tryz.prog 161:=qnl (by kernel_rfl) (qku (f:=91) (by kernel_rfl)) (qr6 (f:=182) (by kernel_rfl))
theorem m1:QM Tryz.prog 130 xO:=qnw (by kernel_rfl) ql archP nte wI
theorem m2:QM Tryz.prog 131 zb:=qky (by kernel_rfl) turned ql faN nte wU
theorem m3:QM Tryz.prog 132 zc:=qhy (by kernel_rfl) ql bool spA turned spN nte
theorem m4:QM Tryz.prog 133 Kn:=qtn (by kernel_rfl) (qug (f:=165) (by kernel_rfl) bool nte)
theorem m5:QM Tryz.prog 134 Kl:=qtl (by kernel_rfl) (qtq (f:=165) (by kernel_rfl) bool nte)
theorem m6:QM Tryz.prog 135 Km:=qtm (by kernel_rfl) (qtr (f:=165) (by kernel_rfl) bool nte)
theorem m7:QM Tryz.prog 136 Kk:=qtk (by kernel_rfl) (qts (f:=165) (by kernel_rfl) bool nte)
theorem rset:qrV Tryz.prog 71:=qsU (by kernel_rfl) (qhw (f:=104) (by kernel_rfl) clI clU clC) (qsm (f:=103) (by kernel_rfl)) ⟨m1,m2,m3,m4,m5,m6,m7⟩
theorem idxK:ZO 7 Tryz.prog 152:=qiV (by kernel_rfl)
theorem tabK:qc Tryz.prog 151 [] (.agg (zm.flatMap QK)):=qqs (by kernel_rfl)
theorem archT:qc Tryz.prog 80 [] (.agg (zK.flatMap (zo .u32))):=qn3 (by kernel_rfl)
theorem archNm:∀a,qc Tryz.prog 37 [.i .i64 a] (.s (xU a)):=qrR (by kernel_rfl) archT
theorem spT:qc Tryz.prog 92 [] (.agg (qk.flatMap (zo .u64))):=qnE (by kernel_rfl)
theorem mayP19:∀p,PolOk p->qc Tryz.prog 20 [.agg (qo p)] (.b (Wj p)):=qrd (by kernel_rfl)
 (qii (f:=54) (by kernel_rfl) idxC) (quk (f:=55) (by kernel_rfl))
 (qrk (f:=56) (by kernel_rfl)) (qul (f:=57) (by kernel_rfl) archNm)
 (qrl (f:=58) (by kernel_rfl)) (qum (f:=59) (by kernel_rfl) (qoI (f:=41) (by kernel_rfl) (qku (f:=91) (by kernel_rfl)) (qtW (f:=89) (by kernel_rfl))))
 may (qqm (f:=61) (by kernel_rfl) spT)
theorem rkeysO:Own Tryz.prog 103 [] (.map 0) [.map (qbU 130 131 132 133 134 135 136)]:=qsm (by kernel_rfl)
theorem keyR:∀k,qc Tryz.prog 70 [.s k] (.b (qgK k)):=qsk (by kernel_rfl) rkeysO
theorem do':cDo qlw Tryz.prog 25:=qtf (by kernel_rfl) keyP fset keyR rset
theorem warn:∀x,qc Tryz.prog 30 [.i .i64 x] (.b (Ve x)):=qqB (by kernel_rfl) (qlg (f:=78) (by kernel_rfl) (qq4 (f:=114) (by kernel_rfl)))
theorem failP:∀l:List GNote,l.length<=qf->qc Tryz.prog 13 [.fz l.length (rN l)] (.b (jZ l)):=qth (by kernel_rfl) (qij (f:=28) (by kernel_rfl) (qfx (f:=77) (by kernel_rfl))) (qr4 (f:=29) (by kernel_rfl) warn)
theorem res:qoi qlw Tryz.prog 9:=qsS qtg (by kernel_rfl) (qsB (f:=23) (by kernel_rfl)) do' failP
theorem sameP:qcn Tryz.prog 22:=qun (by kernel_rfl) (qtp (f:=64) (by kernel_rfl) (qoC (f:=65) (by kernel_rfl))) (qqS (f:=66) (by kernel_rfl)) (qqT (f:=67) (by kernel_rfl))
theorem great19P:∀l,qc Tryz.prog 8 [.fz l.length (rA l)] (.b (j0 l)):=qlL (by kernel_rfl) je
end Go.Proofs.YtpopmjgimhmciaaGreatDoor.Walk
