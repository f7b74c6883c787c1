/- StackAsks at this program's numbers. No condition. -/
import Derived.Test.YtpgbjeabmkbmbaaGreatK10
import Derived.Test.YtpgbjeabmkbmbaaGreatK10
import Derived.Test.YtpgbjeabmkbmbaaGreatEnvH
namespace Go.Proofs.YtpgbjeabmkbmbaaGreat.Walk
open Go.Kc
theorem ent:qc Tryz.prog 149 [] (.agg (xF.flatMap xt)):=qmi (by kernel_rfl)
theorem byM:∀n,qc Tryz.prog 86 [.i .u16 n] (.tup [.agg (zj (qw n)),.b (zk n)]):=qso (by kernel_rfl) (qrm (f:=121) (by kernel_rfl)) (fun _ _ _ ha hc p hp=>qp0 (f:=120) (by kernel_rfl) ent ha hc p hp)
theorem ofM:cOf Tryz.prog 62:=qsn (by kernel_rfl) byM
theorem knoM:qnj Tryz.prog 154:=qnW (by kernel_rfl) byM
theorem ofR:Je Tryz.prog 50:=que (by kernel_rfl) EnvH.all02
theorem getRR:qqS Tryz.prog 130:=fun b hb hl a ha n hn=>qtZ (by kernel_rfl) b hb hl a ha n hn
theorem oneP:∀i,InsOk i->∀n:Nat,qc Tryz.prog 93 [.agg (qn i),.i .i64 (n:Int)] (.i .i64 (kt i n)):=fun i hi n=>by
 have h:=qrO (P:=Tryz.prog) (f:=93) (g0:=126) (by kernel_rfl) i n (wsM 153 155 156 157 158 159 i n) rfl (qmI (by kernel_rfl) i n) (by
  intro x hx;simp only[wsM,List.mem_cons,List.not_mem_nil,or_false] at hx;rcases hx with rfl|rfl|rfl|rfl|rfl|rfl
  ·exact qtS (by kernel_rfl) knoM i n
  ·exact qtT (by kernel_rfl) i hi n
  ·exact qtU (by kernel_rfl) ofM i n
  ·exact qtV (by kernel_rfl) i n
  ·exact qtW (by kernel_rfl) i n
  ·exact qtX (by kernel_rfl) ofM i hi n)
 rw[qsr] at h;exact h
theorem come:qeE Tryz.prog 160:=fun s r hr j hj x=>qq3 (by kernel_rfl) s r hr j hj x
theorem wrP:cWr Tryz.prog 162:=fun i hi=>qmH (by kernel_rfl) ofM i hi
theorem vis:qq1 Tryz.prog 128:=fun p hp l hl j i hj hi x=>qqp (by kernel_rfl) (qpb (f:=129) (by kernel_rfl)) p hp l hl j i hj hi x
theorem uns:∀p:List Ins,p.length<=4096->(∀i ∈ p,InsOk i)->qc Tryz.prog 94 [.fz p.length (rP p)] (.fz (kY p).length (rNt (kY p))):=fun p hp hi =>
 qmB (by kernel_rfl) (g0:=127) (g2:=212) (by kernel_rfl) (gw:=211) (by kernel_rfl) ofM (by kernel_rfl) come wrP vis (qsv (f:=161) (by kernel_rfl)) p hp hi
theorem chkAt:cAt Tryz.prog 69:=qkd (by kernel_rfl) oneP ofM uns
theorem nxt:qeG Tryz.prog 95:=fun p hp j i hj hi=>qta (by kernel_rfl) ofR p hp j i hj hi
theorem unsR:∀p:List Ins,p.length<=4096->(∀i ∈ p,InsOk i)->qc Tryz.prog 51 [.fz p.length (rP p)] (.fz (qbv p).length (rNt (qbv p))):=fun p hp hi =>
 qqn (by kernel_rfl) (qqi (f:=71) (by kernel_rfl) nxt) (qlE (f:=72) (by kernel_rfl) nxt) p hp hi (qr3 p) (by rw[qi6];simp[st0])
theorem atR:ql7 Tryz.prog 27:=quc (by kernel_rfl) (qt0 (f:=49) (by kernel_rfl) ofR) ofR unsR
theorem wx:cWX Tryz.prog 151:=fun c=>qpG (by kernel_rfl) byM c
theorem hal:qsF Tryz.prog 196:=fun x h0 h1=>qml (by kernel_rfl) x h0 h1
theorem wid:qsJ Tryz.prog 195:=fun x l hl=>qsf (by kernel_rfl) x l hl
theorem wordP:qhn Tryz.prog 122:=fun d hd k h0 h1=>qq6 (by kernel_rfl) (qpQ (f:=150) (by kernel_rfl) wid hal) d hd k h0 h1
def gP(n:Nat):Nat:=([0,197,198,199,200,201,202,203,204,205,206,207,208,209,210]:List Nat).getD n 0
theorem prs:Prs Tryz.prog gP:=⟨qt1 (by kernel_rfl),qt2 (by kernel_rfl),qt3 (by kernel_rfl),qt4 (by kernel_rfl),qt5 (by kernel_rfl),qt6 (by kernel_rfl),qt7 (by kernel_rfl),qt8 (by kernel_rfl),qt9 (by kernel_rfl),qte (by kernel_rfl),qtf (by kernel_rfl),qtg (by kernel_rfl),qth (by kernel_rfl),qti (by kernel_rfl)⟩
theorem byV(c:Int)(r:Int×Option Nat×Option Nat)(h:((qrU gP).find? fun x=>decide (x.1=qau c))=some r):qc Tryz.prog 124 [.i .u16 c] (.agg (jx r)):=qsk (by kernel_rfl) wx (qrU gP) rfl (qo0 (f:=152) (by kernel_rfl)) c r h
theorem secV:qqZ Tryz.prog 123:=fun m d hl i=>qmy (by kernel_rfl) wx m d hl i
theorem cellV:qhf Tryz.prog 88:=fun m d n hn=>qtK (g:=61) (by kernel_rfl) m d n hn
theorem loadV:qnl Tryz.prog 87:=fun m hm d hd i hi hc hz=>qtM (g2:=61) (by kernel_rfl) wordP cellV m hm d hd i hi hc hz
theorem qlb:qqV Tryz.prog 89:=fun m hm d i hi hc hz=>qsd (g2:=61) (by kernel_rfl) secV (byN prs byV) m hm d i hi hc hz
theorem jumpV:qni Tryz.prog 90:=fun m d hl i hi hc=>qtL (by kernel_rfl) (byJ prs byV) secV m d hl i hi hc
theorem doV:qsD Tryz.prog 63:=fun m hm d hd i hi hz=>quf (g6:=61) (by kernel_rfl) ofM loadV cellV qlb jumpV m hm d hd i hi hz
theorem runV:qqY Tryz.prog 18:=fun p hp d hd=>qub (by kernel_rfl) (qqq (f:=41) (fd:=60) (g1:=61) (by kernel_rfl) ofM doV) p hp d hd
theorem wxR:cWX Tryz.prog 97:=fun c=>qsw (by kernel_rfl) ofR c
theorem shf:qsI Tryz.prog 98:=fun a h0 h1 left n hn=>qqc (by kernel_rfl) a h0 h1 left n hn
theorem putR:qdZ Tryz.prog 33:=fun x h0 h1 n hn=>qtj (by kernel_rfl) x h0 h1 n hn
theorem wordR:qhn Tryz.prog 96:=fun d hd k h0 h1=>qtP (by kernel_rfl) (fun d hd=>qst (f:=131) (by kernel_rfl) putR d hd) getRR d hd k h0 h1
theorem loadR:qnk Tryz.prog 75:=fun m hm i hi d hd=>qs8 (by kernel_rfl) wordR m hm i hi d hd
theorem numR:qqU Tryz.prog 76:=fun m hm i hi hc=>qrG (by kernel_rfl) ofR wxR shf m hm i hi hc
theorem jumpR:qnh Tryz.prog 77:=fun m hm i hi hc=>qs3 (by kernel_rfl) wxR m hm i hi hc
theorem doRR:qsC Tryz.prog 53:=fun m hm i hi d hd=>qud (by kernel_rfl) (qsp (f:=74) (by kernel_rfl) ofR) ofR loadR numR jumpR m hm i hi d hd
theorem runRR:∀p:List Ins,p.length<=4096->(∀i ∈ p,InsOk i)->∀d,DatOk d->qc Tryz.prog 31 [.fz p.length (rP p),.agg (qE d)] (qlJ p d):=fun p hp hi d hd=>qua (by kernel_rfl) doRR ofR p hp hi d hd
theorem p16:∀x:Int,qc Tryz.prog 23 [.i .u16 x] (.fz 2 (rB (qM 2 x))):=qtN (by kernel_rfl) (qtQ (f:=46) (by kernel_rfl))
theorem p32:∀x:Int,qc Tryz.prog 92 [.i .u32 x] (.fz 4 (rB (qM 4 x))):=qtO (by kernel_rfl) (qtR (f:=125) (by kernel_rfl))
theorem cat:qaw Tryz.prog 22:=qug (by kernel_rfl) (qme (f:=45) (by kernel_rfl) (qrj (f:=68) (by kernel_rfl)))
theorem prI:qqW Tryz.prog 21:=qnX (g3:=66) (by kernel_rfl) (qsl (f:=44) (by kernel_rfl)) (by kernel_rfl) cat (qmm (f:=67) (by kernel_rfl) p16 p32 cat)
theorem catR:qhe Tryz.prog 79:=qtY (by kernel_rfl)
theorem prR:qsH Tryz.prog 34:=fun p hp hi=>qss (by kernel_rfl) (fun i hi=>qq7 (f:=55) (by kernel_rfl) putR catR i hi) p hp hi
theorem lessP:ql9 Tryz.prog 65:=fun a b ha hb=>qsi (by kernel_rfl) (qsj (f:=91) (by kernel_rfl)) a b ha hb
theorem com:qdY Tryz.prog 19:=qmW (g3:=64) (by kernel_rfl) (qqM (f:=42) (by kernel_rfl)) (by kernel_rfl) (qqI (f:=43) (by kernel_rfl) lessP)
theorem comb:qdY Tryz.prog 20:=qjv (by kernel_rfl) com
theorem lessR:ql9 Tryz.prog 54:=fun a b ha hb=>qs6 (by kernel_rfl) (qrX (f:=78) (by kernel_rfl)) a b ha hb
theorem comR:qdY Tryz.prog 32:=fun l hl hn=>qpM (by kernel_rfl) lessR l hl hn
theorem mayA:Jd Tryz.prog 8:=qlV (by kernel_rfl) (qhC (f:=24) (by kernel_rfl) (qeV (f:=47) (by kernel_rfl)))
 (qrD (f:=25) (by kernel_rfl) (qog (f:=26) (by kernel_rfl) (qpL (f:=48) (by kernel_rfl) (qmb (f:=69) (g1:=93) (g2:=62) (g3:=94) (by kernel_rfl) chkAt))))
theorem mayAR:Jd Tryz.prog 9:=qp6 (by kernel_rfl) (qqL (f:=27) (g1:=49) (g2:=50) (g3:=51) (by kernel_rfl) atR)
theorem samS:qcU Tryz.prog 10:=qqh (by kernel_rfl) (qsm (f:=28) (by kernel_rfl) 29 (qpt (f:=29) (by kernel_rfl) (qrl (f:=52) (by kernel_rfl) (qsS (f:=73) (by kernel_rfl)))))
theorem samR:qcU Tryz.prog 11:=fun l m hl hx=>qqb (by kernel_rfl) (qqa (f:=30) (by kernel_rfl)) l m hl hx
theorem stackAsks(l m:List Prg)(d:GData)(hl:l.length<=9223372036854775807∧∀x ∈ l,PrgIn x)(hm:m.length<=9223372036854775807∧∀x ∈ m,PrgIn x)(hd:DatOk d):qc Tryz.prog 3 [.fz l.length (rPr l),.fz m.length (rPr m),.agg (qE d)] (.b true) :=
 qjw (by kernel_rfl) (qnV (f:=5) (by kernel_rfl)) (qqg (f:=6) (by kernel_rfl) mayA runV comb) (qps (f:=7) (by kernel_rfl) mayA prI p16 cat) mayA mayAR samS samR
  (qsU (f:=12) (by kernel_rfl) runRR comR) (qsu (f:=14) (by kernel_rfl) putR prR) (qtF (f:=13) (by kernel_rfl)) l m hl.1 hm.1 hl.2 d hd
end Go.Proofs.YtpgbjeabmkbmbaaGreat.Walk
