/- fold's functions and the document's, at this program's numbers. No condition. -/
import Derived.Test.YtdmjpfekglajoaaGreatK10
import Derived.Test.YtdmjpfekglajoaaGreatK9
import Derived.Test.YtdmjpfekglajoaaGreatK7
import Derived.Test.YtdmjpfekglajoaaGreatEnvS
namespace Go.Proofs.YtdmjpfekglajoaaGreat.Walk
open Go.Kc
theorem qt:qeh Tryz.prog 35 :=
  qfz (by kernel_rfl) (fun l hl=>qeV (f:=67) (by kernel_rfl) (qgh (f:=68) (by kernel_rfl)) l hl)
theorem hasL:∀ s p:List UInt8,qg Tryz.prog 98 [.s s,.s p] (.b (p.isPrefixOf s)):=qcf (by kernel_rfl)
theorem hasP:∀ s p:List UInt8,qg Tryz.prog 72 [.s s,.s p] (.b (p.isPrefixOf s)):=qa1 (by kernel_rfl) hasL
theorem turned:qgu Tryz.prog 36:=qe1 (by kernel_rfl) (qbc (f:=69) (by kernel_rfl) (qc3 (f:=94) (by kernel_rfl) hasL))
theorem idxB1 (a:List UInt8) (c:UInt8):qg Tryz.prog 134 [.s a,.i .u8 (c.toNat:Int)] (.i .i64 (wb c a 0)):=qaf (yF.of Tryz.func134 (by kernel_rfl) (by kernel_rfl) (by kernel_rfl) (by kernel_rfl)) a c
theorem cmpE (a b:List UInt8):qg Tryz.prog 108 [.s a,.s b] (.i .i64 (zz a b)):=qad (yF.of Tryz.func108 (by kernel_rfl) (by kernel_rfl) (by kernel_rfl) (by kernel_rfl)) a b
theorem cmpS:∀ a b:List UInt8,qg Tryz.prog 52 [.s a,.s b] (.i .i64 (zz a b)):=qdS (by kernel_rfl) (qdd (f:=81) (by kernel_rfl) cmpE)
theorem cut:∀ a:List UInt8,a.length ≤ 1000000 → qg Tryz.prog 70 [.s a,.s [58]] (.tup [.s (z0 a).1,.s (z0 a).2.1,.b (z0 a).2.2]) :=
  qre (by kernel_rfl) (qoR (f:=95) (by kernel_rfl) (qlK (f:=113) (g2:=119) (g3:=120) (g4:=121) (by kernel_rfl) (qc9 (f:=118) (by kernel_rfl) idxB1)))
theorem erN:∀ s:List UInt8,s.length ≤ 1000000 → qg Tryz.prog 71 [.s s] (.tup [.i .u32 (qD s).1,.i .i64 (qD s).2]):=qnK (by kernel_rfl) (qeX (f:=96) (by kernel_rfl)) (qiX (f:=97) (by kernel_rfl))
theorem read:qcB Tryz.prog 38:=qht (by kernel_rfl) cut erN
theorem known:∀ s,qg Tryz.prog 56 [.s s] (.b (zn s)):=qf2 (by kernel_rfl) (qfn (f:=85) (by kernel_rfl)) (qfO (f:=84) (by kernel_rfl) (qfL (f:=110) (by kernel_rfl)) (qcD (f:=111) (by kernel_rfl)))
theorem may:qkR Tryz.prog 21:=qkq (by kernel_rfl) known (qeN (f:=57) (by kernel_rfl))
theorem cop:qmF Tryz.prog 34:=qmi (by kernel_rfl) (qcw (f:=66) (by kernel_rfl))
theorem idxC:qcX 2 Tryz.prog 79:=qaP (by kernel_rfl)
theorem putO:qq1 Tryz.prog 19:=qlg (by kernel_rfl) cop may (qjG (f:=50) (by kernel_rfl)) (qg3 (f:=51) (by kernel_rfl) cmpS)
  (qfe (f:=53) (g2:=83) (by kernel_rfl) ⟨22,4,82,2,by kernel_rfl,fun w=>by kernel_rfl,yF.of Tryz.func82 (by kernel_rfl) (by kernel_rfl) (by kernel_rfl) (by kernel_rfl)⟩)
theorem takeO:qpp Tryz.prog 20:=qkB (by kernel_rfl) cop may (qfM (f:=55) (by kernel_rfl)) (qbX (f:=54) (by kernel_rfl) idxC)
theorem exp:qbS qa9 Tryz.prog 73:=qgf (g1:=99) (g2:=100) (g3:=101) (g4:=103) (g5:=104) (k1:=102) (k2:=114) (by kernel_rfl) (by kernel_rfl) (by kernel_rfl) EnvS.tableG EnvS.runs
theorem mem:qbS (zB qa9) Tryz.prog 39:=qeb (by kernel_rfl) qa9 hasP exp known
theorem stepL:ym qa9 Tryz.prog 9:=qge (by kernel_rfl) qeg cop may qt turned (qh3 (f:=37) (by kernel_rfl)) read mem (qiW (f:=40) (by kernel_rfl)) putO takeO
theorem er10:∀ s:List UInt8,s.length ≤ 1000000 → qg Tryz.prog 74 [.s s] (.tup [.i .u32 (qD s).1,.i .i64 (qD s).2]):=qmw (by kernel_rfl) (qio (f:=106) (by kernel_rfl)) (qpz (f:=105) (by kernel_rfl))
theorem wordsR:qeS Tryz.prog 41:=ql4 (by kernel_rfl)
theorem turnR:qgH Tryz.prog 42:=qjf (by kernel_rfl)
theorem readR:qcB Tryz.prog 43:=qou (by kernel_rfl) er10
theorem knownR:∀ s,qg Tryz.prog 45 [.s s] (.b (zn s)):=qnk (by kernel_rfl) EnvS.table9
theorem mayR:qgC Tryz.prog 22:=qqQ (by kernel_rfl) knownR
theorem take0R:kH Tryz.prog 46:=qq5 (by kernel_rfl)
theorem putR:qbJ Tryz.prog 25:=qqP (by kernel_rfl) mayR take0R
theorem expR:qbS qa9 Tryz.prog 44:=qkh (g1:=75) (g2:=76) (g3:=77) (k1:=107) (by kernel_rfl) (by kernel_rfl) EnvS.table11 EnvS.runs11
theorem stepR:qf4 qa9 Tryz.prog 10:=qo9 (by kernel_rfl) qeg mayR wordsR turnR readR expR knownR putR take0R
theorem jq:qjL Tryz.prog 7:=qdQ (by kernel_rfl)
theorem clC:kJ Tryz.prog 66 2 24:=qcw (by kernel_rfl)
theorem fcopO:qcA Tryz.prog 59:=qmm (by kernel_rfl) (qho (f:=87) (by kernel_rfl)) (qg2 (f:=88) (by kernel_rfl)) clC
theorem keysO:Own Tryz.prog 60 [] (.map 0) [.map (qeZ 112 90 91 92)]:=qh2 (by kernel_rfl) (qig (f:=89) (by kernel_rfl))
theorem erF:qbK Tryz.prog 93:=qfd (by kernel_rfl) erN
theorem fset:qiC qa9 Tryz.prog 29:=qrw (by kernel_rfl) fcopO keysO (by kernel_rfl) stepL (by kernel_rfl) (by kernel_rfl) (by kernel_rfl) erF
theorem xK:∀ p a,qg Tryz.prog 27 [.agg (zV p),.agg (zL a)] (.b (Go.Kc.xK p a)):=qdZ (by kernel_rfl) jq
theorem cop17:qdW Tryz.prog 28:=qkC (by kernel_rfl) (qj2 (f:=8) (by kernel_rfl))
theorem erR:qbK Tryz.prog 61:=qaa (by kernel_rfl) er10
theorem setR:qjy qa9 Tryz.prog 30:=qqC (by kernel_rfl) stepR erR (qk9 (f:=62) (by kernel_rfl)) (qkD (f:=63) (by kernel_rfl))
theorem sets (p:Pol) (a:Asg) (hm:(0 ≤ p.filter.mode ∧ 0 ≤ p.log.mode) ∧ Rng p.filter.calls ∧ Rng p.log.calls):qg Tryz.prog 6 [.agg (zV p),.agg (zL a)] (.b true) :=
  filterSets (by kernel_rfl) qeg xK cop17 fset setR (qol (f:=31) (g:=11) (by kernel_rfl) (qo8 (by kernel_rfl))) (qcj (f:=12) (by kernel_rfl)) (qmJ (f:=32) (by kernel_rfl)) EnvS.awake p a hm.1 hm.2.1 hm.2.2
end Go.Proofs.YtdmjpfekglajoaaGreat.Walk
