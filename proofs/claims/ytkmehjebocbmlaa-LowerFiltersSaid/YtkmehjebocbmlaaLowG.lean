/- lower's functions at this program's numbers, whatever rows are old. No condition. -/
import Derived.Test.YtkmehjebocbmlaaK8
import Derived.Test.YtkmehjebocbmlaaK8
import Derived.Test.YtkmehjebocbmlaaK6
import Derived.Test.YtkmehjebocbmlaaK8
import Derived.Test.YtkmehjebocbmlaaSortL
namespace Go.Proofs.Ytkmehjebocbmlaa.Walk
open Go.Kc
variable [Cur]
theorem idxC:qbz 2 Try.prog 60:=qdT (by kernel_rfl)
theorem idxK:qbz 7 Try.prog 95:=qgx (by kernel_rfl)
theorem tabK:qe Try.prog 94 [] (.agg (qL.flatMap jf)):=qm2 (by kernel_rfl)
theorem known:∀s,qe Try.prog 63 [.s s] (.b (x3 s)):=qlJ (by kernel_rfl) (qku (f:=86) (by kernel_rfl)) (qle (f:=85) (by kernel_rfl) tabK idxK)
theorem may:qpR Try.prog 38:=qoo (by kernel_rfl) known (qkj (f:=64) (by kernel_rfl))
theorem archT:qe Try.prog 30 [] (.agg (km.flatMap (zn .u32))):=qkY (by kernel_rfl)
theorem archNm:∀a,qe Try.prog 14 [.i .i64 a] (.s (yS a)):=qnR (by kernel_rfl) archT
theorem contI:∀(xs:List Int) (x:Int),xs.length<=qd->qe Try.prog 40 [.fz xs.length (rI .i64 xs),.i .i64 x] (.b (decide (x ∈ xs))):=qiA (by kernel_rfl) (qng (f:=66) (by kernel_rfl))
theorem archI:∀(xs:List Int) (x:Int),xs.length<=qd->qe Try.prog 16 [.fz xs.length (rI .i64 xs),.i .i64 x] (.b (inA xs x)):=qo1 (by kernel_rfl) contI
theorem spT:qe Try.prog 65 [] (.agg (qj.flatMap (zn .u64))):=qkE (by kernel_rfl)
theorem mayP19:∀p,PolOk p->qe Try.prog 15 [.agg (qf p)] (.b (va p)):=qnj (by kernel_rfl)
 (qf3 (f:=31) (by kernel_rfl) idxC) (qpO (f:=32) (by kernel_rfl))
 (qnn (f:=33) (by kernel_rfl)) (qpP (f:=34) (by kernel_rfl) archNm)
 (qno (f:=35) (by kernel_rfl)) (qpQ (f:=36) (by kernel_rfl) (qls (f:=37) (by kernel_rfl) (qhV (f:=61) (by kernel_rfl)) (qpj (f:=62) (by kernel_rfl))))
 may (qmW (f:=39) (by kernel_rfl) spT)
theorem numb:∀(a:Int) (s:List UInt8),qe Try.prog 87 [.i .i64 a,.s s] (match ym a s with|some n=>.tup [.i .u32 n,.i .i64 0]|none=>.tup [.i .u32 0,.i .i64 90]):=qkz (by kernel_rfl) (qos (f:=96) (by kernel_rfl)) (qle (f:=85) (by kernel_rfl) tabK idxK) (qoY (f:=97) (by kernel_rfl))
theorem ruleU:wx Try.prog 67:=qoF (by kernel_rfl) numb (qlf (f:=88) (by kernel_rfl))
theorem lst:∀mode n al dn,qe Try.prog 69 [.i .u8 mode,.i .i64 (n:Nat),.b al,.b dn] (.b (qS mode n al dn)):=qlQ (by kernel_rfl)
theorem tstO:qbA Try.prog 70:=qnr (by kernel_rfl)
theorem bitO:qbx Try.prog 72:=qnT (by kernel_rfl)
theorem flg:∀s,qe Try.prog 71 [.i .u64 s] (.fz (zj s).length (rI .u64 (zj s))):=qlv (by kernel_rfl) spT
omit [Cur] in
theorem coded26:qf2 Try.prog 18:=⟨_,Try.func18,by decide,by decide⟩
theorem low:qfO Try.prog 6:=fun p hp hR d a=>qlU (by kernel_rfl) archNm mayP19 archI (qkx (f:=17) (by kernel_rfl)) (qoI coded26 Try.sortKit)
 (qky (f:=41) (by kernel_rfl) (qpk (f:=68) (by kernel_rfl)) ruleU lst) (qop (f:=42) (by kernel_rfl) ruleU lst) (qhW (f:=43) (by kernel_rfl) tstO.pure ruleU lst)
 (qfk (f:=44) (by kernel_rfl) flg bitO tstO.pure ruleU) (qd1 (f:=45) (by kernel_rfl) bitO.pure ruleU) (qeV (f:=46) (by kernel_rfl) tstO.pure ruleU) (qhX (f:=47) (by kernel_rfl) tstO.pure ruleU)
 qoX p hp hR d a
end Go.Proofs.Ytkmehjebocbmlaa.Walk
