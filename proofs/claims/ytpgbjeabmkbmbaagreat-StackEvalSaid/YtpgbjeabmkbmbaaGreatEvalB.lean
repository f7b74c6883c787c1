/- StackEval at this program's numbers. No condition. -/
import Derived.Test.YtpgbjeabmkbmbaaGreatEK9
import Derived.Test.YtpgbjeabmkbmbaaGreatFactB0
import Derived.Test.YtpgbjeabmkbmbaaGreatFactB1
import Derived.Test.YtpgbjeabmkbmbaaGreatFactB2
namespace Go.Proofs.YtpgbjeabmkbmbaaGreat.Walk
open Go.Kc
theorem ent:qb Tryz.prog 149 [] (.agg (xJ.flatMap wd)):=qlt (by kernel_rfl)
theorem byM:∀n,qb Tryz.prog 86 [.i .u16 n] (.tup [.agg (kc (xr n)),.b (zO n)]):=qqV (by kernel_rfl) (qp2 (f:=121) (by kernel_rfl)) (fun _ _ _ ha hc p hp=>qoX (f:=120) (by kernel_rfl) ent ha hc p hp)
theorem ofM:cOf Tryz.prog 62:=qqU (by kernel_rfl) byM
theorem knoM:qms Tryz.prog 154:=qm3 (by kernel_rfl) byM
theorem oneP:∀i,InsOk i->∀n:Nat,qb Tryz.prog 93 [.agg (qt i),.i .i64 (n:Int)] (.i .i64 (yJ i n)):=fun i hi n=>by
 have h:=qqq (P:=Tryz.prog) (f:=93) (g0:=126) (by kernel_rfl) i n (wsM 153 155 156 157 158 159 i n) rfl (qlT (by kernel_rfl) i n) (by
  intro x hx;simp only[wsM,List.mem_cons,List.not_mem_nil,or_false] at hx;rcases hx with rfl|rfl|rfl|rfl|rfl|rfl
  ·exact qr4 (by kernel_rfl) knoM i n
  ·exact qr5 (by kernel_rfl) i hi n
  ·exact qr6 (by kernel_rfl) ofM i n
  ·exact qr7 (by kernel_rfl) i n
  ·exact qr8 (by kernel_rfl) i n
  ·exact qr9 (by kernel_rfl) ofM i hi n)
 rw[qqW] at h;exact h
theorem come:qeF Tryz.prog 160:=fun s r hr j hj x=>qpL (by kernel_rfl) s r hr j hj x
theorem wrP:cWr Tryz.prog 162:=fun i hi=>qlS (by kernel_rfl) ofM i hi
theorem vis:qpJ Tryz.prog 128:=fun p hp l hl j i hj hi x=>qpc (by kernel_rfl) (qoo (f:=129) (by kernel_rfl)) p hp l hl j i hj hi x
theorem uns:∀p:List Ins,p.length<=4096->(∀i ∈ p,InsOk i)->qb Tryz.prog 94 [.fz p.length (rP p)] (.fz (kq p).length (rNt (kq p))):=fun p hp hi =>
 qlN (by kernel_rfl) (g0:=127) (g2:=212) (by kernel_rfl) (gw:=211) (by kernel_rfl) ofM (by kernel_rfl) come wrP vis (qqZ (f:=161) (by kernel_rfl)) p hp hi
theorem chkAt:cAt Tryz.prog 69:=qjK (by kernel_rfl) oneP ofM uns
theorem wx:cWX Tryz.prog 151:=fun c=>qoK (by kernel_rfl) byM c
theorem hal:qq5 Tryz.prog 196:=fun x h0 h1=>qlw (by kernel_rfl) x h0 h1
theorem wid:qq6 Tryz.prog 195:=fun x l hl=>qqL (by kernel_rfl) x l hl
theorem wordP:qmu Tryz.prog 122:=fun d hd k h0 h1=>qpP (by kernel_rfl) (qoP (f:=150) (by kernel_rfl) wid hal) d hd k h0 h1
def gP(n:Nat):Nat:=([0,197,198,199,200,201,202,203,204,205,206,207,208,209,210]:List Nat).getD n 0
theorem prs:Prs Tryz.prog gP:=⟨qsb (by kernel_rfl),qsc (by kernel_rfl),qsd (by kernel_rfl),qse (by kernel_rfl),qsf (by kernel_rfl),qsg (by kernel_rfl),qsh (by kernel_rfl),qsi (by kernel_rfl),qsj (by kernel_rfl),qrr (by kernel_rfl),qrs (by kernel_rfl),qrt (by kernel_rfl),qru (by kernel_rfl),qrv (by kernel_rfl)⟩
theorem byV(c:Int)(r:Int×Option Nat×Option Nat)(h:((qqv gP).find? fun x=>decide (x.1=qat c))=some r):qb Tryz.prog 124 [.i .u16 c] (.agg (xM r)):=qqS (by kernel_rfl) wx (qqv gP) rfl (qn9 (f:=152) (by kernel_rfl)) c r h
theorem secV:qpH Tryz.prog 123:=fun m d hl i=>qlL (by kernel_rfl) wx m d hl i
theorem cellV:qgX Tryz.prog 88:=fun m d n hn=>qrT (g:=61) (by kernel_rfl) m d n hn
theorem loadV:qmt Tryz.prog 87:=fun m hm d hd i hi hc hz=>qrV (g2:=61) (by kernel_rfl) wordP cellV m hm d hd i hi hc hz
theorem qsm:qpE Tryz.prog 89:=fun m hm d i hi hc hz=>qqJ (g2:=61) (by kernel_rfl) secV (byN prs byV) m hm d i hi hc hz
theorem jumpV:qmr Tryz.prog 90:=fun m d hl i hi hc=>qrU (by kernel_rfl) (byJ prs byV) secV m d hl i hi hc
theorem doV:qq4 Tryz.prog 63:=fun m hm d hd i hi hz=>qsn (g6:=61) (by kernel_rfl) ofM loadV cellV qsm jumpV m hm d hd i hi hz
theorem runV:qg0 Tryz.prog 18:=fun p hp d hd=>qsk (by kernel_rfl) (qpd (f:=41) (fd:=60) (g1:=61) (by kernel_rfl) ofM doV) p hp d hd
theorem p16:∀x:Int,qb Tryz.prog 23 [.i .u16 x] (.fz 2 (rB (zL 2 x))):=qrY (by kernel_rfl) (qr2 (f:=46) (by kernel_rfl))
theorem p32:∀x:Int,qb Tryz.prog 92 [.i .u32 x] (.fz 4 (rB (zL 4 x))):=qrZ (by kernel_rfl) (qr3 (f:=125) (by kernel_rfl))
theorem cat:qau Tryz.prog 22:=qso (by kernel_rfl) (qlp (f:=45) (by kernel_rfl) (qp1 (f:=68) (by kernel_rfl)))
theorem prI:qpF Tryz.prog 21:=qm5 (g3:=66) (by kernel_rfl) (qqT (f:=44) (by kernel_rfl)) (by kernel_rfl) cat (qlz (f:=67) (by kernel_rfl) p16 p32 cat)
theorem lessP:qpC Tryz.prog 65:=fun a b ha hb=>qqP (by kernel_rfl) (qqQ (f:=91) (by kernel_rfl)) a b ha hb
theorem com:qcR Tryz.prog 19:=ql6 (g3:=64) (by kernel_rfl) (qpw (f:=42) (by kernel_rfl)) (by kernel_rfl) (qpv (f:=43) (by kernel_rfl) lessP)
theorem comb:qcR Tryz.prog 20:=qi8 (by kernel_rfl) com
theorem mayA:qcS Tryz.prog 8:=qla (by kernel_rfl) (qhi (f:=24) (by kernel_rfl) (qeU (f:=47) (by kernel_rfl)))
 (qqg (f:=25) (by kernel_rfl) (qno (f:=26) (by kernel_rfl) (qoN (f:=48) (by kernel_rfl) (qlm (f:=69) (g1:=93) (g2:=62) (g3:=94) (by kernel_rfl) chkAt))))
theorem g16:qgY Tryz.prog 38:=fun b hb hl a ha=>qrW (by kernel_rfl) (qr0 (f:=57) (by kernel_rfl)) b hb hl a ha
theorem g32:qmq Tryz.prog 85:=fun b hb hl a ha=>qrX (by kernel_rfl) (qr1 (f:=119) (by kernel_rfl)) b hb hl a ha
theorem insP:qll Tryz.prog 39:=qpB fun b hb hl=>qm4 (by kernel_rfl) (qq8 (f:=58) (g:=84) (by kernel_rfl)) (by kernel_rfl) (qly (f:=59) (by kernel_rfl) g16 g32) b hb hl
theorem mayPr:qpD Tryz.prog 8:=fun l hl hx=>qja (by kernel_rfl) (qhi (f:=24) (by kernel_rfl) (qeU (f:=47) (by kernel_rfl)))
 (qo3 (f:=25) (by kernel_rfl) (qlE (f:=26) (by kernel_rfl) (qmz (f:=48) (by kernel_rfl) chkAt))) l hl hx
theorem parseP(b:List Int)(hb:qG b)(hl:b.length<=8000):qb Tryz.prog 16 [.fz b.length (rB b)] (qb5 (ZM 48 b.length b [])):=qgv (by kernel_rfl) g16 insP mayPr b hb hl
theorem evP(l:List Prg)(hl:l.length<=100)(hx:∀x ∈ l,PrgIn x)(d:GData)(hd:DatOk d):qb Tryz.prog 6 [.fz l.length (rPr l),.agg (qP d)] (if zz l=true then .tup [.i .u32 (evS l d),.i .i64 0] else .tup [.i .u32 0,.i .i64 290]):=Go.Kc.stackEval (by kernel_rfl) mayA runV comb l hl hx d hd
theorem bld0:∀b:Bool,qb Tryz.prog 56 [.agg (zT .nils false),.b b] (.tup [.fz 0 (rPr []),.i .i64 0])|false=>FactB0.r0|true=>FactB0.r1
theorem bld1:∀b:Bool,qb Tryz.prog 56 [.agg (zT (.fz 1 [.i .i64 0]) false),.b b] (.tup [.fz 1 (rPr sk1),.i .i64 0])|false=>FactB1.r0|true=>FactB1.r1
def sk2(b:Bool):List Prg:=if b=true then sk2t else sk2f
theorem bld2:∀b:Bool,qb Tryz.prog 56 [.agg (zT .nils true),.b b] (.tup [.fz 6 (rPr (sk2 b)),.i .i64 0])|false=>FactB2.r0|true=>FactB2.r1
theorem ht:qg1 Tryz.prog 36 :=
 ⟨qqY (by kernel_rfl) .nils rfl rfl false 3221225534 1 1 0 2147418112 _ (by decide) bld0 fun _=>qpW evP [] 3221225534 1 1 2147418112 (by kernel_rfl),
  qqY (by kernel_rfl) (.fz 1 [.i .i64 0]) rfl rfl false 1073741827 1 1 1 2147483648 _ (by decide) bld1 fun _=>qpW evP sk1 1073741827 1 1 2147483648 (by kernel_rfl),
  qqY (by kernel_rfl) (.fz 1 [.i .i64 0]) rfl rfl false 3221225534 1 1 1 2147418112 _ (by decide) bld1 fun _=>qpW evP sk1 3221225534 1 1 2147418112 (by kernel_rfl),
  qqY (by kernel_rfl) .nils rfl rfl true 3221225534 135 1 6 327681 (fun b=>rPr (sk2 b)) (by decide) bld2 fun b=>(by cases b;exact qpW evP sk2f 3221225534 135 1 327681 (by kernel_rfl);exact qpW evP sk2t 3221225534 135 1 327681 (by kernel_rfl)),
  qqY (by kernel_rfl) .nils rfl rfl true 3221225534 135 0 6 2147418112 (fun b=>rPr (sk2 b)) (by decide) bld2 fun b=>(by cases b;exact qpW evP sk2f 3221225534 135 0 2147418112 (by kernel_rfl);exact qpW evP sk2t 3221225534 135 0 2147418112 (by kernel_rfl))⟩
theorem awake:qb Tryz.prog 15 [] (.b true):=qqR (by kernel_rfl) (qsa (f:=35) (by kernel_rfl)) (qq7 (f:=37) (by kernel_rfl)) ht (parseP [1] (fun x hx=>by rw[List.mem_singleton] at hx;subst hx;decide) (by decide))
theorem stackEval(l:List Prg)(b:List Int)(d:GData)(hl:l.length<=9223372036854775807∧∀x ∈ l,PrgIn x)(hb:b.length<=9223372036854775807∧qG b)(hd:DatOk d):qb Tryz.prog 4 [.fz l.length (rPr l),.fz b.length (rB b),.agg (qP d)] (.b true) :=
 qi9 (by kernel_rfl) awake (qm2 (f:=5) (by kernel_rfl)) parseP (qoC (f:=7) (by kernel_rfl) mayA prI p16 cat) (qoL (f:=17) (by kernel_rfl) (qmp (f:=40) (by kernel_rfl))) evP mayA runV com l hl.1 hl.2 b hb.2 d hd
end Go.Proofs.YtpgbjeabmkbmbaaGreat.Walk
