/- Answers of known calls, run. No condition. -/
import Derived.Test.YthmhjhlddnjcpaaGreatDoorFacN
import Derived.Test.YthmhjhlddnjcpaaGreatDoorFacC0
import Derived.Test.YthmhjhlddnjcpaaGreatDoorFacC1
import Derived.Test.YthmhjhlddnjcpaaGreatDoorFacC2
import Derived.Test.YthmhjhlddnjcpaaGreatDoorFacC3
import Derived.Test.YthmhjhlddnjcpaaGreatDoorFacC4
import Derived.Test.YthmhjhlddnjcpaaGreatDoorFacC5
import Derived.Test.YthmhjhlddnjcpaaGreatDoorFacC6
import Derived.Test.YthmhjhlddnjcpaaGreatDoorFacC7
import Derived.Test.YthmhjhlddnjcpaaGreatDoorFacC8
import Derived.Test.YthmhjhlddnjcpaaGreatDoorFacC9
import Derived.Test.YthmhjhlddnjcpaaGreatDoorFacC10
import Derived.Test.YthmhjhlddnjcpaaGreatDoorFacC11
import Derived.Test.YthmhjhlddnjcpaaGreatDoorFacC12
import Derived.Test.YthmhjhlddnjcpaaGreatDoorFacC13
import Derived.Test.YthmhjhlddnjcpaaGreatDoorFacC14
import Derived.Test.YthmhjhlddnjcpaaGreatDoorFacC15
import Derived.Test.YthmhjhlddnjcpaaGreatDoorFacC16
import Derived.Test.YthmhjhlddnjcpaaGreatDoorFacC17
import Derived.KernelRfl
namespace Go.Proofs.YthmhjhlddnjcpaaGreatDoor.FacD
open Go.Kc EnvR FacV
noncomputable def kh:wZ:=qj5 [(123,FacN.k123),(122,(FacC0.k122++(FacC1.k122++(FacC2.k122++(FacC3.k122++(FacC4.k122++(FacC5.k122++(FacC6.k122++(FacC7.k122++(FacC8.k122++(FacC9.k122++(FacC10.k122++(FacC11.k122++(FacC12.k122++(FacC13.k122++(FacC14.k122++(FacC15.k122++(FacC16.k122++FacC17.k122)))))))))))))))))),(231,(FacC0.k231++(FacC1.k231++(FacC2.k231++(FacC3.k231++(FacC4.k231++(FacC5.k231++(FacC6.k231++(FacC7.k231++(FacC8.k231++(FacC9.k231++(FacC10.k231++(FacC11.k231++(FacC12.k231++(FacC13.k231++(FacC14.k231++(FacC15.k231++(FacC16.k231++FacC17.k231)))))))))))))))))),(234,(FacC0.k234++(FacC1.k234++(FacC2.k234++(FacC3.k234++(FacC4.k234++(FacC5.k234++(FacC6.k234++(FacC7.k234++(FacC8.k234++(FacC9.k234++(FacC10.k234++(FacC11.k234++(FacC12.k234++(FacC13.k234++(FacC14.k234++(FacC15.k234++(FacC16.k234++FacC17.k234)))))))))))))))))),(235,(FacC0.k235++(FacC1.k235++(FacC2.k235++(FacC3.k235++(FacC4.k235++(FacC5.k235++(FacC6.k235++(FacC7.k235++(FacC8.k235++(FacC9.k235++(FacC10.k235++(FacC11.k235++(FacC12.k235++(FacC13.k235++(FacC14.k235++(FacC15.k235++(FacC16.k235++FacC17.k235)))))))))))))))))),(236,(FacC0.k236++(FacC1.k236++(FacC2.k236++(FacC3.k236++(FacC4.k236++(FacC5.k236++(FacC6.k236++(FacC7.k236++(FacC8.k236++(FacC9.k236++(FacC10.k236++(FacC11.k236++(FacC12.k236++(FacC13.k236++(FacC14.k236++(FacC15.k236++(FacC16.k236++FacC17.k236)))))))))))))))))),(120,(FacC0.k120++(FacC1.k120++(FacC2.k120++(FacC3.k120++(FacC4.k120++(FacC5.k120++(FacC6.k120++(FacC7.k120++(FacC8.k120++(FacC9.k120++(FacC10.k120++(FacC11.k120++(FacC12.k120++(FacC13.k120++(FacC14.k120++(FacC15.k120++(FacC16.k120++FacC17.k120))))))))))))))))))]
theorem kh_ok:vd Tryz.prog kh:=qgF (by
 intro e he;simp only[List.mem_cons,List.not_mem_nil,or_false] at he;rcases he with rfl|rfl|rfl|rfl|rfl|rfl|rfl
 ·exact FacN.k123_ok
 ·exact qmI FacC0.k122_ok (qmI FacC1.k122_ok (qmI FacC2.k122_ok (qmI FacC3.k122_ok (qmI FacC4.k122_ok (qmI FacC5.k122_ok (qmI FacC6.k122_ok (qmI FacC7.k122_ok (qmI FacC8.k122_ok (qmI FacC9.k122_ok (qmI FacC10.k122_ok (qmI FacC11.k122_ok (qmI FacC12.k122_ok (qmI FacC13.k122_ok (qmI FacC14.k122_ok (qmI FacC15.k122_ok (qmI FacC16.k122_ok (FacC17.k122_ok)))))))))))))))))
 ·exact qmI FacC0.k231_ok (qmI FacC1.k231_ok (qmI FacC2.k231_ok (qmI FacC3.k231_ok (qmI FacC4.k231_ok (qmI FacC5.k231_ok (qmI FacC6.k231_ok (qmI FacC7.k231_ok (qmI FacC8.k231_ok (qmI FacC9.k231_ok (qmI FacC10.k231_ok (qmI FacC11.k231_ok (qmI FacC12.k231_ok (qmI FacC13.k231_ok (qmI FacC14.k231_ok (qmI FacC15.k231_ok (qmI FacC16.k231_ok (FacC17.k231_ok)))))))))))))))))
 ·exact qmI FacC0.k234_ok (qmI FacC1.k234_ok (qmI FacC2.k234_ok (qmI FacC3.k234_ok (qmI FacC4.k234_ok (qmI FacC5.k234_ok (qmI FacC6.k234_ok (qmI FacC7.k234_ok (qmI FacC8.k234_ok (qmI FacC9.k234_ok (qmI FacC10.k234_ok (qmI FacC11.k234_ok (qmI FacC12.k234_ok (qmI FacC13.k234_ok (qmI FacC14.k234_ok (qmI FacC15.k234_ok (qmI FacC16.k234_ok (FacC17.k234_ok)))))))))))))))))
 ·exact qmI FacC0.k235_ok (qmI FacC1.k235_ok (qmI FacC2.k235_ok (qmI FacC3.k235_ok (qmI FacC4.k235_ok (qmI FacC5.k235_ok (qmI FacC6.k235_ok (qmI FacC7.k235_ok (qmI FacC8.k235_ok (qmI FacC9.k235_ok (qmI FacC10.k235_ok (qmI FacC11.k235_ok (qmI FacC12.k235_ok (qmI FacC13.k235_ok (qmI FacC14.k235_ok (qmI FacC15.k235_ok (qmI FacC16.k235_ok (FacC17.k235_ok)))))))))))))))))
 ·exact qmI FacC0.k236_ok (qmI FacC1.k236_ok (qmI FacC2.k236_ok (qmI FacC3.k236_ok (qmI FacC4.k236_ok (qmI FacC5.k236_ok (qmI FacC6.k236_ok (qmI FacC7.k236_ok (qmI FacC8.k236_ok (qmI FacC9.k236_ok (qmI FacC10.k236_ok (qmI FacC11.k236_ok (qmI FacC12.k236_ok (qmI FacC13.k236_ok (qmI FacC14.k236_ok (qmI FacC15.k236_ok (qmI FacC16.k236_ok (FacC17.k236_ok)))))))))))))))))
 ·exact qmI FacC0.k120_ok (qmI FacC1.k120_ok (qmI FacC2.k120_ok (qmI FacC3.k120_ok (qmI FacC4.k120_ok (qmI FacC5.k120_ok (qmI FacC6.k120_ok (qmI FacC7.k120_ok (qmI FacC8.k120_ok (qmI FacC9.k120_ok (qmI FacC10.k120_ok (qmI FacC11.k120_ok (qmI FacC12.k120_ok (qmI FacC13.k120_ok (qmI FacC14.k120_ok (qmI FacC15.k120_ok (qmI FacC16.k120_ok (FacC17.k120_ok)))))))))))))))))
)
theorem g{f:Nat}{vs:List AV}{r:AV}(hc:qM vs=true:=by kernel_rfl)(h:∀n,n=1000000->qai env kh (qeu sites) (fr env kh (qeu sites) n) (Nat.succ f) vs H0 (fun v h=>tt (xA h r v))=True:=by rintro n rfl;kernel_rfl):qp Tryz.prog f vs r:=qp.runK envOk kh_ok qod 1000000 hc (h _ rfl)
def k48:qbf:=[
 ([.agg [.i .i64 0,.fz 1 [.i .u32 62,.nils,.i .u32 2147483648],.i .u32 2147418112],.b true],.tup [v9,.i .i64 0]),
 ([.agg [.i .i64 1,.fz 1 [.i .u32 37,.nils,.i .u32 2147483648],.i .u32 2147418112],.b true],.tup [v14,.i .i64 0]),
 ([.agg [.i .i64 2,.fz 1 [.i .u32 1073741886,.nils,.i .u32 2147483648],.i .u32 2147418112],.b true],.tup [v19,.i .i64 0]),
 ([.agg [.i .i64 3,.fz 1 [.i .u32 37,.nils,.i .u32 2147483648],.i .u32 2147418112],.b true],.tup [v24,.i .i64 0]),
 ([.agg [.i .i64 4,.fz 1 [.i .u32 129,.nils,.i .u32 2147483648],.i .u32 2147418112],.b true],.tup [v29,.i .i64 0]),
 ([.agg [.i .i64 5,.fz 1 [.i .u32 129,.nils,.i .u32 2147483648],.i .u32 2147418112],.b true],.tup [v34,.i .i64 0]),
 ([.agg [.i .i64 0,.fz 1 [.i .u32 144,v4,.i .u32 327681],.i .u32 2147418112],.b true],.tup [v39,.i .i64 0]),
 ([.agg [.i .i64 1,.fz 1 [.i .u32 156,v4,.i .u32 327681],.i .u32 2147418112],.b true],.tup [v44,.i .i64 0]),
 ([.agg [.i .i64 2,.fz 1 [.i .u32 1073741968,v4,.i .u32 327681],.i .u32 2147418112],.b true],.tup [v49,.i .i64 0]),
 ([.agg [.i .i64 3,.fz 1 [.i .u32 156,v4,.i .u32 327681],.i .u32 2147418112],.b true],.tup [v54,.i .i64 0]),
 ([.agg [.i .i64 4,.fz 1 [.i .u32 119,v4,.i .u32 327681],.i .u32 2147418112],.b true],.tup [v59,.i .i64 0]),
 ([.agg [.i .i64 5,.fz 1 [.i .u32 119,v4,.i .u32 327681],.i .u32 2147418112],.b true],.tup [v64,.i .i64 0]),
 ([.agg [.i .i64 0,.nils,.i .u32 2147483648],.b true],.tup [v69,.i .i64 0]),
 ([.agg [.i .i64 1,.nils,.i .u32 2147483648],.b true],.tup [v71,.i .i64 0]),
 ([.agg [.i .i64 2,.nils,.i .u32 2147483648],.b true],.tup [v76,.i .i64 0]),
 ([.agg [.i .i64 3,.nils,.i .u32 2147483648],.b true],.tup [v78,.i .i64 0]),
 ([.agg [.i .i64 4,.nils,.i .u32 2147483648],.b true],.tup [v80,.i .i64 0]),
 ([.agg [.i .i64 5,.nils,.i .u32 2147483648],.b true],.tup [v82,.i .i64 0])]
theorem k48_ok:∀q ∈ k48,qp Tryz.prog 48 q.1 q.2:=qlg g (qlg g (qlg g (qlg g (qlg g (qlg g (qlg g (qlg g (qlg g (qlg g (qlg g (qlg g (qlg g (qlg g (qlg g (qlg g (qlg g (qlg g (qmJ))))))))))))))))))
end Go.Proofs.YthmhjhlddnjcpaaGreatDoor.FacD
