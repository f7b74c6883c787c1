/- Answers of known calls, run. No condition. -/
import Derived.Test.YtpgbjeabmkbmbaaGreatEnvR
import Derived.Test.YtpgbjeabmkbmbaaGreatEK6
import Derived.KernelRfl
namespace Go.Proofs.YtpgbjeabmkbmbaaGreat.FactL1
open Go.Kc EnvR
abbrev p0:AV:=.agg [.nils,.i .u8 0,.nils,.i .u32 2147483648,.i .u8 0,.nils,.nils,.i .u8 0,.i .u64 0,.b false,.b false,.b false,.b false]
abbrev p1:AV:=.agg [.fz 1 [.i .i64 0],.i .u8 0,.nils,.i .u32 2147483648,.i .u8 0,.nils,.nils,.i .u8 0,.i .u64 0,.b false,.b false,.b false,.b false]
abbrev p2:AV:=.agg [.nils,.i .u8 0,.nils,.i .u32 2147483648,.i .u8 0,.nils,.nils,.i .u8 0,.i .u64 0,.b false,.b true,.b false,.b false]
abbrev z0:AV:=.tup [.agg [.i .i64 0,.nils,.i .u32 0],.b false]
theorem r0:qb Tryz.prog 111 [p1,.i .i64 0,.i .i64 0] (z0):=go rfl (by rintro n rfl;kernel_rfl)
theorem r1:qb Tryz.prog 111 [p1,.i .i64 0,.i .i64 1] (z0):=go rfl (by rintro n rfl;kernel_rfl)
theorem r2:qb Tryz.prog 111 [p1,.i .i64 0,.i .i64 2] (z0):=go rfl (by rintro n rfl;kernel_rfl)
theorem r3:qb Tryz.prog 111 [p1,.i .i64 0,.i .i64 3] (z0):=go rfl (by rintro n rfl;kernel_rfl)
theorem r4:qb Tryz.prog 111 [p1,.i .i64 0,.i .i64 4] (z0):=go rfl (by rintro n rfl;kernel_rfl)
theorem r5:qb Tryz.prog 111 [p1,.i .i64 0,.i .i64 5] (z0):=go rfl (by rintro n rfl;kernel_rfl)
theorem r6:qb Tryz.prog 111 [p1,.i .i64 1,.i .i64 0] (z0):=go rfl (by rintro n rfl;kernel_rfl)
theorem r7:qb Tryz.prog 111 [p1,.i .i64 1,.i .i64 1] (z0):=go rfl (by rintro n rfl;kernel_rfl)
theorem r8:qb Tryz.prog 111 [p1,.i .i64 1,.i .i64 2] (z0):=go rfl (by rintro n rfl;kernel_rfl)
theorem r9:qb Tryz.prog 111 [p1,.i .i64 1,.i .i64 3] (z0):=go rfl (by rintro n rfl;kernel_rfl)
theorem r10:qb Tryz.prog 111 [p1,.i .i64 1,.i .i64 4] (z0):=go rfl (by rintro n rfl;kernel_rfl)
theorem r11:qb Tryz.prog 111 [p1,.i .i64 1,.i .i64 5] (z0):=go rfl (by rintro n rfl;kernel_rfl)
theorem r12:qb Tryz.prog 111 [p1,.i .i64 2,.i .i64 0] (z0):=go rfl (by rintro n rfl;kernel_rfl)
theorem r13:qb Tryz.prog 111 [p1,.i .i64 2,.i .i64 1] (z0):=go rfl (by rintro n rfl;kernel_rfl)
theorem r14:qb Tryz.prog 111 [p1,.i .i64 2,.i .i64 2] (z0):=go rfl (by rintro n rfl;kernel_rfl)
theorem r15:qb Tryz.prog 111 [p1,.i .i64 2,.i .i64 3] (z0):=go rfl (by rintro n rfl;kernel_rfl)
theorem r16:qb Tryz.prog 111 [p1,.i .i64 2,.i .i64 4] (z0):=go rfl (by rintro n rfl;kernel_rfl)
theorem r17:qb Tryz.prog 111 [p1,.i .i64 2,.i .i64 5] (z0):=go rfl (by rintro n rfl;kernel_rfl)
theorem r18:qb Tryz.prog 111 [p1,.i .i64 3,.i .i64 0] (z0):=go rfl (by rintro n rfl;kernel_rfl)
theorem r19:qb Tryz.prog 111 [p1,.i .i64 3,.i .i64 1] (z0):=go rfl (by rintro n rfl;kernel_rfl)
theorem r20:qb Tryz.prog 111 [p1,.i .i64 3,.i .i64 2] (z0):=go rfl (by rintro n rfl;kernel_rfl)
theorem r21:qb Tryz.prog 111 [p1,.i .i64 3,.i .i64 3] (z0):=go rfl (by rintro n rfl;kernel_rfl)
theorem r22:qb Tryz.prog 111 [p1,.i .i64 3,.i .i64 4] (z0):=go rfl (by rintro n rfl;kernel_rfl)
theorem r23:qb Tryz.prog 111 [p1,.i .i64 3,.i .i64 5] (z0):=go rfl (by rintro n rfl;kernel_rfl)
theorem r24:qb Tryz.prog 111 [p1,.i .i64 4,.i .i64 0] (z0):=go rfl (by rintro n rfl;kernel_rfl)
theorem r25:qb Tryz.prog 111 [p1,.i .i64 4,.i .i64 1] (z0):=go rfl (by rintro n rfl;kernel_rfl)
theorem r26:qb Tryz.prog 111 [p1,.i .i64 4,.i .i64 2] (z0):=go rfl (by rintro n rfl;kernel_rfl)
theorem r27:qb Tryz.prog 111 [p1,.i .i64 4,.i .i64 3] (z0):=go rfl (by rintro n rfl;kernel_rfl)
theorem r28:qb Tryz.prog 111 [p1,.i .i64 4,.i .i64 4] (z0):=go rfl (by rintro n rfl;kernel_rfl)
theorem r29:qb Tryz.prog 111 [p1,.i .i64 4,.i .i64 5] (z0):=go rfl (by rintro n rfl;kernel_rfl)
theorem r30:qb Tryz.prog 111 [p1,.i .i64 5,.i .i64 0] (z0):=go rfl (by rintro n rfl;kernel_rfl)
theorem r31:qb Tryz.prog 111 [p1,.i .i64 5,.i .i64 1] (z0):=go rfl (by rintro n rfl;kernel_rfl)
theorem r32:qb Tryz.prog 111 [p1,.i .i64 5,.i .i64 2] (z0):=go rfl (by rintro n rfl;kernel_rfl)
theorem r33:qb Tryz.prog 111 [p1,.i .i64 5,.i .i64 3] (z0):=go rfl (by rintro n rfl;kernel_rfl)
theorem r34:qb Tryz.prog 111 [p1,.i .i64 5,.i .i64 4] (z0):=go rfl (by rintro n rfl;kernel_rfl)
theorem r35:qb Tryz.prog 111 [p1,.i .i64 5,.i .i64 5] (z0):=go rfl (by rintro n rfl;kernel_rfl)
theorem r36:qb Tryz.prog 111 [p1,.i .i64 6,.i .i64 0] (z0):=go rfl (by rintro n rfl;kernel_rfl)
theorem r37:qb Tryz.prog 111 [p1,.i .i64 6,.i .i64 1] (z0):=go rfl (by rintro n rfl;kernel_rfl)
theorem r38:qb Tryz.prog 111 [p1,.i .i64 6,.i .i64 2] (z0):=go rfl (by rintro n rfl;kernel_rfl)
theorem r39:qb Tryz.prog 111 [p1,.i .i64 6,.i .i64 3] (z0):=go rfl (by rintro n rfl;kernel_rfl)
theorem r40:qb Tryz.prog 111 [p1,.i .i64 6,.i .i64 4] (z0):=go rfl (by rintro n rfl;kernel_rfl)
theorem r41:qb Tryz.prog 111 [p1,.i .i64 6,.i .i64 5] (z0):=go rfl (by rintro n rfl;kernel_rfl)
theorem r42:qb Tryz.prog 111 [p1,.i .i64 7,.i .i64 0] (z0):=go rfl (by rintro n rfl;kernel_rfl)
theorem r43:qb Tryz.prog 111 [p1,.i .i64 7,.i .i64 1] (z0):=go rfl (by rintro n rfl;kernel_rfl)
theorem r44:qb Tryz.prog 111 [p1,.i .i64 7,.i .i64 2] (z0):=go rfl (by rintro n rfl;kernel_rfl)
theorem r45:qb Tryz.prog 111 [p1,.i .i64 7,.i .i64 3] (z0):=go rfl (by rintro n rfl;kernel_rfl)
theorem r46:qb Tryz.prog 111 [p1,.i .i64 7,.i .i64 4] (z0):=go rfl (by rintro n rfl;kernel_rfl)
theorem r47:qb Tryz.prog 111 [p1,.i .i64 7,.i .i64 5] (z0):=go rfl (by rintro n rfl;kernel_rfl)
def k111:qap:=[([p1,.i .i64 0,.i .i64 0],z0),([p1,.i .i64 0,.i .i64 1],z0),([p1,.i .i64 0,.i .i64 2],z0),([p1,.i .i64 0,.i .i64 3],z0),([p1,.i .i64 0,.i .i64 4],z0),([p1,.i .i64 0,.i .i64 5],z0),([p1,.i .i64 1,.i .i64 0],z0),([p1,.i .i64 1,.i .i64 1],z0),([p1,.i .i64 1,.i .i64 2],z0),([p1,.i .i64 1,.i .i64 3],z0),([p1,.i .i64 1,.i .i64 4],z0),([p1,.i .i64 1,.i .i64 5],z0),([p1,.i .i64 2,.i .i64 0],z0),([p1,.i .i64 2,.i .i64 1],z0),([p1,.i .i64 2,.i .i64 2],z0),([p1,.i .i64 2,.i .i64 3],z0),([p1,.i .i64 2,.i .i64 4],z0),([p1,.i .i64 2,.i .i64 5],z0),([p1,.i .i64 3,.i .i64 0],z0),([p1,.i .i64 3,.i .i64 1],z0),([p1,.i .i64 3,.i .i64 2],z0),([p1,.i .i64 3,.i .i64 3],z0),([p1,.i .i64 3,.i .i64 4],z0),([p1,.i .i64 3,.i .i64 5],z0),([p1,.i .i64 4,.i .i64 0],z0),([p1,.i .i64 4,.i .i64 1],z0),([p1,.i .i64 4,.i .i64 2],z0),([p1,.i .i64 4,.i .i64 3],z0),([p1,.i .i64 4,.i .i64 4],z0),([p1,.i .i64 4,.i .i64 5],z0),([p1,.i .i64 5,.i .i64 0],z0),([p1,.i .i64 5,.i .i64 1],z0),([p1,.i .i64 5,.i .i64 2],z0),([p1,.i .i64 5,.i .i64 3],z0),([p1,.i .i64 5,.i .i64 4],z0),([p1,.i .i64 5,.i .i64 5],z0),([p1,.i .i64 6,.i .i64 0],z0),([p1,.i .i64 6,.i .i64 1],z0),([p1,.i .i64 6,.i .i64 2],z0),([p1,.i .i64 6,.i .i64 3],z0),([p1,.i .i64 6,.i .i64 4],z0),([p1,.i .i64 6,.i .i64 5],z0),([p1,.i .i64 7,.i .i64 0],z0),([p1,.i .i64 7,.i .i64 1],z0),([p1,.i .i64 7,.i .i64 2],z0),([p1,.i .i64 7,.i .i64 3],z0),([p1,.i .i64 7,.i .i64 4],z0),([p1,.i .i64 7,.i .i64 5],z0)]
theorem k111_ok:∀q ∈ k111,qb Tryz.prog 111 q.1 q.2:=qna r0 (qna r1 (qna r2 (qna r3 (qna r4 (qna r5 (qna r6 (qna r7 (qna r8 (qna r9 (qna r10 (qna r11 (qna r12 (qna r13 (qna r14 (qna r15 (qna r16 (qna r17 (qna r18 (qna r19 (qna r20 (qna r21 (qna r22 (qna r23 (qna r24 (qna r25 (qna r26 (qna r27 (qna r28 (qna r29 (qna r30 (qna r31 (qna r32 (qna r33 (qna r34 (qna r35 (qna r36 (qna r37 (qna r38 (qna r39 (qna r40 (qna r41 (qna r42 (qna r43 (qna r44 (qna r45 (qna r46 (qna r47 (qoZ))))))))))))))))))))))))))))))))))))))))))))))))
end Go.Proofs.YtpgbjeabmkbmbaaGreat.FactL1
