/- lower's functions and the document's, at this program's numbers. No condition. -/
import Derived.Test.YtpopmjgimhmciaaK9
import Derived.Test.YtpopmjgimhmciaaK9
import Derived.Test.YtpopmjgimhmciaaK6
import Derived.Test.YtpopmjgimhmciaaSortL
import Derived.Test.YtpopmjgimhmciaaEnvU
namespace Go.Proofs.Ytpopmjgimhmciaa.Walk
open Go.Kc
theorem idxC:Q5 2 Try.prog 74:=qd4 (by kernel_rfl)
theorem idxK:Q5 7 Try.prog 87:=qgK (by kernel_rfl)
theorem tabK:qg Try.prog 86 [] (.agg (qH.flatMap xP)):=qng (by kernel_rfl)
theorem known:∀ s,qg Try.prog 77 [.s s] (.b (jl s)):=qlX (by kernel_rfl) (qkA (f:=106) (by kernel_rfl)) (qlp (f:=52) (by kernel_rfl) tabK idxK)
theorem may:qqd Try.prog 45:=qoR (by kernel_rfl) known (qks (f:=78) (by kernel_rfl))
theorem archT:qg Try.prog 55 [] (.agg (kA.flatMap (zp .u32))):=qlb (by kernel_rfl)
theorem archNm:∀ a,qg Try.prog 24 [.i .i64 a] (.s (y5 a)):=qon (by kernel_rfl) archT
theorem contI:∀ (xs:List Int) (x:Int),xs.length ≤ qh → qg Try.prog 51 [.fz xs.length (rI .i64 xs),.i .i64 x] (.b (decide (x ∈ xs))):=qiJ (by kernel_rfl) (qnB (f:=85) (by kernel_rfl))
theorem archI:∀ (xs:List Int) (x:Int),xs.length ≤ qh → qg Try.prog 20 [.fz xs.length (rI .i64 xs),.i .i64 x] (.b (inA xs x)):=qpz (by kernel_rfl) contI
theorem spT:qg Try.prog 79 [] (.agg (qp.flatMap (zp .u64))):=qkN (by kernel_rfl)
theorem mayP19:∀ p,PolOk p → qg Try.prog 17 [.agg (qj p)] (.b (xA p)):=qnJ (by kernel_rfl)
 (qgh (f:=38) (by kernel_rfl) idxC) (qqa (f:=39) (by kernel_rfl))
 (qnQ (f:=40) (by kernel_rfl)) (qqb (f:=41) (by kernel_rfl) archNm)
 (qnR (f:=42) (by kernel_rfl)) (qqc (f:=43) (by kernel_rfl) (qlF (f:=44) (by kernel_rfl) (qh3 (f:=75) (by kernel_rfl)) (qpV (f:=76) (by kernel_rfl))))
 may (qm9 (f:=46) (by kernel_rfl) spT)
theorem numb:∀ (a:Int) (s:List UInt8),qg Try.prog 110 [.i .i64 a,.s s] (match yH a s with | some n=>.tup [.i .u32 n,.i .i64 0] | none=>.tup [.i .u32 0,.i .i64 90]):=qkI (by kernel_rfl) (qoU (f:=117) (by kernel_rfl)) (qlp (f:=52) (by kernel_rfl) tabK idxK) (qpx (f:=54) (by kernel_rfl))
theorem ruleU:wK Try.prog 88:=qo7 (by kernel_rfl) numb (qlq (f:=111) (by kernel_rfl))
theorem lst:∀ mode n al dn,qg Try.prog 90 [.i .u8 mode,.i .i64 (n:Nat),.b al,.b dn] (.b (qW mode n al dn)):=ql4 (by kernel_rfl)
theorem tstO:qbD Try.prog 91:=qnW (by kernel_rfl)
theorem bitO:qbB Try.prog 93:=qoo (by kernel_rfl)
theorem flg:∀ s,qg Try.prog 92 [.i .u64 s] (.fz (zi s).length (rI .u64 (zi s))):=qlJ (by kernel_rfl) spT
theorem coded26:qdT Try.prog 26:=⟨_,Try.func26,by decide,by decide⟩
theorem low:qeF Try.prog 9:=fun p hp hR d a=>ql8 (by kernel_rfl) archNm mayP19 archI (qkD (f:=25) (by kernel_rfl)) (qpa coded26 Try.sortKit)
 (qkG (f:=56) (by kernel_rfl) (qpW (f:=89) (by kernel_rfl)) ruleU lst) (qoS (f:=57) (by kernel_rfl) ruleU lst) (qh4 (f:=58) (by kernel_rfl) tstO.pure ruleU lst)
 (qfy (f:=59) (by kernel_rfl) flg bitO tstO.pure ruleU) (qee (f:=60) (by kernel_rfl) bitO.pure ruleU) (qe8 (f:=61) (by kernel_rfl) tstO.pure ruleU) (qh5 (f:=62) (by kernel_rfl) tstO.pure ruleU)
 qpw p hp hR d a
theorem allP:∀ p,PolOk p → PolR p → qg Try.prog 15 [.agg (qj p)] (.fz (wJ p).length (rF (wJ p))):=qom (by kernel_rfl) (qpq (f:=37) (by kernel_rfl)) low
theorem knownR:∀ s,qg Try.prog 104 [.s s] (.b (jl s)):=qpP (by kernel_rfl) EnvU.table9
theorem mayR:qcl Try.prog 68:=qp8 (by kernel_rfl) knownR
theorem spR:qg Try.prog 105 [] (.fz 8 (qp.flatMap (zp .u64))):=qpb (by kernel_rfl)
theorem mayR19:∀ p,PolOk p → PolR p → qg Try.prog 29 [.agg (qj p)] (.b (xA p)):=qp9 (by kernel_rfl) (qlE (f:=67) (by kernel_rfl)) (qpR (f:=66) (by kernel_rfl)) mayR (qp5 (f:=69) (by kernel_rfl) spR)
theorem lowR:qeF Try.prog 10:=(qnS (by kernel_rfl) mayR19 (qqe (f:=30) (by kernel_rfl)) (qol (f:=31) (by kernel_rfl)) EnvU.all9r
 (qpY (f:=33) (by kernel_rfl) (qpJ (f:=72) (by kernel_rfl)) (qpt (f:=73) (by kernel_rfl) spR))).low
theorem zS:∀ p a,qg Try.prog 7 [.agg (qj p),.agg (qf2 a)] (.b (Go.Kc.zS p a)):=qi8 (by kernel_rfl) (qi7 (f:=22) (by kernel_rfl))
theorem lowerAll (p:Pol) (hR:PolR p):qg Try.prog 4 [.agg (qj p)] (.b true) :=
 qnD (by kernel_rfl) zS allP (qnP (f:=16) (by kernel_rfl) lowR) (qpZ (f:=12) (by kernel_rfl) (qm1 (f:=34) (by kernel_rfl))) EnvU.awake p hR
end Go.Proofs.Ytpopmjgimhmciaa.Walk
