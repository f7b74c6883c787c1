/- Answers of known calls, run. No condition. -/
import Derived.Test.YtpgbjeabmkbmbaaGreatFactG
import Derived.KernelRfl
namespace Go.Proofs.YtpgbjeabmkbmbaaGreat.FactH
open Go.Kc EnvR
abbrev p0:AV:=.agg [.nils,.i .u8 0,.nils,.i .u32 2147483648,.i .u8 0,.nils,.nils,.i .u8 0,.i .u64 0,.b false,.b false,.b false,.b false]
abbrev p1:AV:=.agg [.fz 1 [.i .i64 0],.i .u8 0,.nils,.i .u32 2147483648,.i .u8 0,.nils,.nils,.i .u8 0,.i .u64 0,.b false,.b false,.b false,.b false]
abbrev p2:AV:=.agg [.nils,.i .u8 0,.nils,.i .u32 2147483648,.i .u8 0,.nils,.nils,.i .u8 0,.i .u64 0,.b false,.b true,.b false,.b false]
abbrev z0:AV:=.tup [.agg [.i .i64 0,.nils,.i .u32 0],.b false]
noncomputable def kh:Qb:=qlx [(144,FactG.k144),(145,FactG.k145),(235,FactG.k235),(238,FactG.k238),(239,FactG.k239),(240,FactG.k240)]
theorem kh_ok:QG Tryz.prog kh:=qhK (by
 intro e he;simp only[List.mem_cons,List.not_mem_nil,or_false] at he;rcases he with rfl|rfl|rfl|rfl|rfl|rfl
 ·exact FactG.k144_ok
 ·exact FactG.k145_ok
 ·exact FactG.k235_ok
 ·exact FactG.k238_ok
 ·exact FactG.k239_ok
 ·exact FactG.k240_ok
)
theorem goK{f:Nat}{vs:List AV}{r:AV}(hc:qx vs=true)(h:∀n,n=1000000->Q8 env kh (qfg sites) (fr env kh (qfg sites) n) (Nat.succ f) vs H0 (fun v h=>tt (jD h r v))=True):qb Tryz.prog f vs r:=qb.runK envOk kh_ok qqX 1000000 hc (h _ rfl)
theorem r0:qb Tryz.prog 82 [.fz 1 [.i .i64 0],.b false] (.tup [.fz 6 [.i .u16 32,.i .u8 0,.i .u8 0,.i .u32 4,.i .u16 21,.i .u8 0,.i .u8 2,.i .u32 3221225534,.i .u16 32,.i .u8 0,.i .u8 0,.i .u32 0,.i .u16 69,.i .u8 0,.i .u8 1,.i .u32 1073741824,.i .u16 6,.i .u8 0,.i .u8 0,.i .u32 2147483648,.i .u16 6,.i .u8 0,.i .u8 0,.i .u32 2147418112],.i .i64 0]):=goK rfl (by rintro n rfl;kernel_rfl)
theorem r1:qb Tryz.prog 82 [.fz 1 [.i .i64 0],.b true] (.tup [.fz 6 [.i .u16 32,.i .u8 0,.i .u8 0,.i .u32 4,.i .u16 21,.i .u8 0,.i .u8 2,.i .u32 3221225534,.i .u16 32,.i .u8 0,.i .u8 0,.i .u32 0,.i .u16 69,.i .u8 0,.i .u8 1,.i .u32 1073741824,.i .u16 6,.i .u8 0,.i .u8 0,.i .u32 2147483648,.i .u16 6,.i .u8 0,.i .u8 0,.i .u32 2147418112],.i .i64 0]):=goK rfl (by rintro n rfl;kernel_rfl)
def k82:qap:=[([.fz 1 [.i .i64 0],.b false],.tup [.fz 6 [.i .u16 32,.i .u8 0,.i .u8 0,.i .u32 4,.i .u16 21,.i .u8 0,.i .u8 2,.i .u32 3221225534,.i .u16 32,.i .u8 0,.i .u8 0,.i .u32 0,.i .u16 69,.i .u8 0,.i .u8 1,.i .u32 1073741824,.i .u16 6,.i .u8 0,.i .u8 0,.i .u32 2147483648,.i .u16 6,.i .u8 0,.i .u8 0,.i .u32 2147418112],.i .i64 0]),([.fz 1 [.i .i64 0],.b true],.tup [.fz 6 [.i .u16 32,.i .u8 0,.i .u8 0,.i .u32 4,.i .u16 21,.i .u8 0,.i .u8 2,.i .u32 3221225534,.i .u16 32,.i .u8 0,.i .u8 0,.i .u32 0,.i .u16 69,.i .u8 0,.i .u8 1,.i .u32 1073741824,.i .u16 6,.i .u8 0,.i .u8 0,.i .u32 2147483648,.i .u16 6,.i .u8 0,.i .u8 0,.i .u32 2147418112],.i .i64 0])]
theorem k82_ok:∀q ∈ k82,qb Tryz.prog 82 q.1 q.2:=qna r0 (qna r1 (qoZ))
end Go.Proofs.YtpgbjeabmkbmbaaGreat.FactH
