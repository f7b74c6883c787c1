/- PolicyResolves at this program's numbers. No condition. -/
import Derived.Test.YtpopmjgimhmciaaGreatDoorK11
import Derived.Test.YtpopmjgimhmciaaGreatDoorK10
import Derived.Test.YtpopmjgimhmciaaGreatDoorPolB
namespace Go.Proofs.YtpopmjgimhmciaaGreatDoor.Walk
open Go.Kc
theorem er10:∀s:List UInt8,s.length<=1000000->qd Tryz.prog 143 [.s s] (.tup [.i .u32 (qP s).1,.i .i64 (qP s).2]):=qsw (by kernel_rfl) (qrj (f:=95) (by kernel_rfl)) (qs3 (f:=146) (by kernel_rfl))
theorem wordsR:qhJ Tryz.prog 137:=qsO (by kernel_rfl)
theorem turnR:qkz Tryz.prog 138:=qsi (by kernel_rfl)
theorem readR:qc4 Tryz.prog 139:=qtx (by kernel_rfl) er10
theorem knownR:∀s,qd Tryz.prog 100 [.s s] (.b (zG s)):=qs8 (by kernel_rfl) EnvR.table9
theorem mayR:qhB Tryz.prog 62:=qtL (by kernel_rfl) knownR
theorem take0R:Zw Tryz.prog 142:=qtW (by kernel_rfl)
theorem putR:qaC Tryz.prog 141:=qtQ (by kernel_rfl) mayR take0R
theorem expR:qch qf5 Tryz.prog 140:=qro (g1:=166) (g2:=167) (g3:=168) (k1:=199) (by kernel_rfl) (by kernel_rfl) EnvR.table11 EnvR.runs11
theorem stepR:qhG qf5 Tryz.prog 105:=qtE (by kernel_rfl) qsx mayR wordsR turnR readR expR knownR putR take0R
theorem erR:qbL Tryz.prog 106:=qdV (by kernel_rfl) er10
theorem setR:qmG qf5 Tryz.prog 73:=qtU (by kernel_rfl) stepR erR (qsM (f:=76) (by kernel_rfl)) (qr5 (f:=107) (by kernel_rfl))
theorem fam10:qci Tryz.prog 51:=qoa (by kernel_rfl)
theorem spc10:qbM Tryz.prog 53:=qse (by kernel_rfl)
theorem all10R:qd Tryz.prog 63 [] (.i .u64 2114060416):=qtH (by kernel_rfl) spc10
theorem fnd10:ZU Tryz.prog 146 .u64:=qs3 (by kernel_rfl)
theorem shrt:∀s,qd Tryz.prog 76 [.s s] (.s (s.take 60)):=qsM (by kernel_rfl)
theorem nt18:yV Tryz.prog 113:=qtb (by kernel_rfl) shrt
theorem tk18:J8 Tryz.prog 147:=qtG (by kernel_rfl)
theorem pt18:WF Tryz.prog 145:=qtR (by kernel_rfl) tk18
theorem fl18:∀k,qd Tryz.prog 108 [.s k] (.b (Za k)):=qs4 (by kernel_rfl)
theorem bl15:Vc Tryz.prog 112:=qsQ (by kernel_rfl)
theorem st18:qhD Tryz.prog 75:=qtV (by kernel_rfl)
 (qq9 (f:=109) (by kernel_rfl) wordsR (qsH (f:=144) (by kernel_rfl) (qsF (f:=46) (by kernel_rfl))) nt18 pt18)
 (qob (f:=110) (by kernel_rfl) wordsR turnR fam10 fnd10 nt18 tk18 pt18)
 (qlH (f:=111) (by kernel_rfl) bl15 wordsR all10R turnR spc10 fnd10 nt18) fl18 bl15 nt18
theorem fail19:∀l:List GNote,l.length<=qf->qd Tryz.prog 14 [.fz l.length (rN l)] (.b (xG l)):=qrp (by kernel_rfl) (qsN (f:=31) (by kernel_rfl))
theorem stp19:qeU qf5 Tryz.prog 26:=qtF (by kernel_rfl) (qtJ (f:=72) (by kernel_rfl)) setR (qtK (f:=74) (by kernel_rfl) fl18) st18 shrt
theorem resR:qfP qf5 Tryz.prog 10:=qtS qsx (by kernel_rfl) stp19 fail19
theorem polRes(l:List Asg):qd Tryz.prog 3 [.fz l.length (rA l)] (.b true) :=
 policyResolves qsx (by kernel_rfl) great19P res resR (qtA (f:=11) (by kernel_rfl) (qtz (f:=27) (by kernel_rfl))) (qjB (f:=12) (by kernel_rfl)) failP fail19 EnvR.awake l
end Go.Proofs.YtpopmjgimhmciaaGreatDoor.Walk
