/- LowerMeans at this program's numbers. No condition. -/
import Derived.Test.YtpopmjgimhmciaaGreatK8
import Derived.Test.YtpopmjgimhmciaaGreatK8
import Derived.Test.YtpopmjgimhmciaaGreatK6
import Derived.Test.YtpopmjgimhmciaaGreatK6
import Derived.Test.YtpopmjgimhmciaaGreatSortL
import Derived.Test.YtpopmjgimhmciaaGreatEnvZ
namespace Go.Proofs.YtpopmjgimhmciaaGreat.Walk
open Go.Kc
theorem idxC:ww 2 Tryz.prog 47:=qd5 (by kernel_rfl)
theorem idxK:ww 7 Tryz.prog 97:=qgG (by kernel_rfl)
theorem tabK:qb Tryz.prog 29 [] (.agg (qE.flatMap xy)):=qnh (by kernel_rfl)
theorem known:∀s,qb Tryz.prog 50 [.s s] (.b (QG s)):=qlY (by kernel_rfl) (qky (f:=72) (by kernel_rfl)) (qlp (f:=67) (by kernel_rfl) tabK idxK)
theorem may:qqj Tryz.prog 23:=qoP (by kernel_rfl) known (qkm (f:=51) (by kernel_rfl))
theorem archT:qb Tryz.prog 28 [] (.agg (zc.flatMap (xd .u32))):=qla (by kernel_rfl)
theorem archNm:∀a,qb Tryz.prog 19 [.i .i64 a] (.s (yx a)):=qoi (by kernel_rfl) archT
theorem contI:∀(xs:List Int) (x:Int),xs.length<=qg->qb Tryz.prog 39 [.fz xs.length (rI .i64 xs),.i .i64 x] (.b (decide (x ∈ xs))):=qiC (by kernel_rfl) (qnF (f:=66) (by kernel_rfl))
theorem archI:∀(xs:List Int) (x:Int),xs.length<=qg->qb Tryz.prog 11 [.fz xs.length (rI .i64 xs),.i .i64 x] (.b (inA xs x)):=qpt (by kernel_rfl) contI
theorem spT:qb Tryz.prog 52 [] (.agg (qy.flatMap (xd .u64))):=qkN (by kernel_rfl)
theorem mayP19:∀p,PolOk p->qb Tryz.prog 5 [.agg (qr p)] (.b (wK p)):=qnL (by kernel_rfl)
 (qge (f:=15) (by kernel_rfl) idxC) (qqg (f:=16) (by kernel_rfl))
 (qnQ (f:=17) (by kernel_rfl)) (qqh (f:=18) (by kernel_rfl) archNm)
 (qnR (f:=20) (by kernel_rfl)) (qqi (f:=21) (by kernel_rfl) (qlE (f:=22) (by kernel_rfl) (qhW (f:=48) (by kernel_rfl)) (qpK (f:=49) (by kernel_rfl))))
 may (qna (f:=24) (by kernel_rfl) spT)
theorem numb:∀(a:Int) (s:List UInt8),qb Tryz.prog 104 [.i .i64 a,.s s] (match vq a s with|some n=>.tup [.i .u32 n,.i .i64 0]|none=>.tup [.i .u32 0,.i .i64 90]):=qkH (by kernel_rfl) (qoS (f:=110) (by kernel_rfl)) (qlp (f:=67) (by kernel_rfl) tabK idxK) (qpp (f:=30) (by kernel_rfl))
theorem ruleU:j8 Tryz.prog 83:=qo5 (by kernel_rfl) numb (qlq (f:=105) (by kernel_rfl))
theorem lst:∀mode n al dn,qb Tryz.prog 85 [.i .u8 mode,.i .i64 (n:Nat),.b al,.b dn] (.b (qS mode n al dn)):=ql5 (by kernel_rfl)
theorem tstO:qbO Tryz.prog 86:=qnV (by kernel_rfl)
theorem bitO:qbM Tryz.prog 88:=qol (by kernel_rfl)
theorem flg:∀s,qb Tryz.prog 87 [.i .u64 s] (.fz (zW s).length (rI .u64 (zW s))):=qlJ (by kernel_rfl) spT
theorem coded26:qdU Tryz.prog 35:=⟨_,Tryz.func35,by decide,by decide⟩
theorem low:qis Tryz.prog 9:=fun p hp hR d a=>ql9 (by kernel_rfl) archNm mayP19 archI (qkC (f:=34) (by kernel_rfl)) (qo9 coded26 Tryz.sortKit)
 (qkF (f:=57) (by kernel_rfl) (qpL (f:=84) (by kernel_rfl)) ruleU lst) (qoQ (f:=58) (by kernel_rfl) ruleU lst) (qhX (f:=59) (by kernel_rfl) tstO.pure ruleU lst)
 (qfz (f:=60) (by kernel_rfl) flg bitO tstO.pure ruleU) (qeg (f:=61) (by kernel_rfl) bitO.pure ruleU) (qfa (f:=62) (by kernel_rfl) tstO.pure ruleU) (qhY (f:=63) (by kernel_rfl) tstO.pure ruleU)
 qpo p hp hR d a
theorem xE:∀p a,qb Tryz.prog 4 [.agg (qr p),.agg (qlk a)] (.b (Go.Kc.xE p a)):=qi1 (by kernel_rfl) (qi0 (f:=14) (by kernel_rfl))
theorem nameC:∀a n,qb Tryz.prog 40 [.i .i64 a,.i .u32 n] (.s (zd a n)):=qqf (by kernel_rfl) (qpn (f:=68) (by kernel_rfl) (qpp (f:=30) (by kernel_rfl))) (qlp (f:=67) (by kernel_rfl) tabK idxK)
theorem findL:qaq Tryz.prog 41:=qnD (by kernel_rfl) (qpm (f:=69) (by kernel_rfl) (qok (f:=98) (by kernel_rfl)) idxC)
theorem archF:qbf Tryz.prog 37:=qnq (by kernel_rfl) archT (qgF (f:=65) (by kernel_rfl))
theorem archO:∀t n,qb Tryz.prog 10 [.i .u32 t,.i .u32 n] (.tup [.i .i64 (ofM t n).1,.b (ofM t n).2]):=qpq (by kernel_rfl) (qqk (f:=38) (by kernel_rfl)) archF
theorem den(y:GFil)(x:GData)(h1:y.rules.length<=100000)(h2:∀r ∈ y.rules,r.tests.length<=100000):qb Tryz.prog 13 [.agg (y5 y),.agg (qI x)] (.i .u32 (qdu y x)) :=
 qkt (by kernel_rfl) archO (qop (f:=43) (by kernel_rfl)) (fun l k a c p ha hc hk hl=>qlH (f:=42) (by kernel_rfl) (qd6 (f:=70) (by kernel_rfl)) l k a c p ha hc hk hl)
  (qoq (f:=45) (by kernel_rfl) (qlU (f:=46) (by kernel_rfl))) (fun l k a c p ha hc hk hl=>qlI (f:=44) (by kernel_rfl) (qd7 (f:=71) (by kernel_rfl)) l k a c p ha hc hk hl) y x h1 h2
theorem lowerMeans{A B C:Prop}(p:Pol)(d:Int)(_:A)(a:Int)(_:B)(x:GData)(own:Bool)(which:Int)(_:C)(hR:PolR p∧0<=p.filter.mode)(hx:DOk x):qb Tryz.prog 3 [.agg (qr p),.i .i64 d,.i .i64 a,.agg (qI x),.b own,.i .i64 which] (.b true) :=
 qkB (by kernel_rfl) xE mayP19 EnvZ.awake (qni (f:=7) (by kernel_rfl) archT) EnvZ.allC low archO archI (qo6 (f:=12) (by kernel_rfl) nameC findL) den p hR.1 hR.2 d a x hx own which
end Go.Proofs.YtpopmjgimhmciaaGreat.Walk
