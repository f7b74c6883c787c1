/- Answers of known calls, run. No condition. -/
import Derived.Test.YtpgbjeabmkbmbaaGreatFactL1
import Derived.Test.YtpgbjeabmkbmbaaGreatFactH
import Derived.Test.YtpgbjeabmkbmbaaGreatSk
import Derived.KernelRfl
namespace Go.Proofs.YtpgbjeabmkbmbaaGreat.FactB1
open Go.Kc EnvR
abbrev p0:AV:=.agg [.nils,.i .u8 0,.nils,.i .u32 2147483648,.i .u8 0,.nils,.nils,.i .u8 0,.i .u64 0,.b false,.b false,.b false,.b false]
abbrev p1:AV:=.agg [.fz 1 [.i .i64 0],.i .u8 0,.nils,.i .u32 2147483648,.i .u8 0,.nils,.nils,.i .u8 0,.i .u64 0,.b false,.b false,.b false,.b false]
abbrev p2:AV:=.agg [.nils,.i .u8 0,.nils,.i .u32 2147483648,.i .u8 0,.nils,.nils,.i .u8 0,.i .u64 0,.b false,.b true,.b false,.b false]
abbrev z0:AV:=.tup [.agg [.i .i64 0,.nils,.i .u32 0],.b false]
noncomputable def kh:Qb:=qlx [(111,FactL1.k111),(82,FactH.k82)]
theorem kh_ok:QG Tryz.prog kh:=qhK (by
 intro e he;simp only[List.mem_cons,List.not_mem_nil,or_false] at he;rcases he with rfl|rfl
 ·exact FactL1.k111_ok
 ·exact FactH.k82_ok
)
theorem goK{f:Nat}{vs:List AV}{r:AV}(hc:qx vs=true)(h:∀n,n=1000000->Q8 env kh (qfg sites) (fr env kh (qfg sites) n) (Nat.succ f) vs H0 (fun v h=>tt (jD h r v))=True):qb Tryz.prog f vs r:=qb.runK envOk kh_ok qqX 1000000 hc (h _ rfl)
theorem r0:qb Tryz.prog 56 [p1,.b false] (.tup [.fz 1 (rPr Walk.sk1),.i .i64 0]):=goK rfl (by rintro n rfl;kernel_rfl)
theorem r1:qb Tryz.prog 56 [p1,.b true] (.tup [.fz 1 (rPr Walk.sk1),.i .i64 0]):=goK rfl (by rintro n rfl;kernel_rfl)
end Go.Proofs.YtpgbjeabmkbmbaaGreat.FactB1
