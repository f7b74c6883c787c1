/- CodegenCalls at this program's numbers. No condition. -/
import Derived.Test.YtgaodkfneooonaaGreatK11
import Derived.Test.YtgaodkfneooonaaGreatProg
import Derived.KernelRfl
namespace Go.Proofs.YtgaodkfneooonaaGreat.Walk
open Go.Kc
theorem ent:qd Tryz.prog 279 [] (.agg (qaC.flatMap qcw)):=qx3 (by kernel_rfl)
theorem byM:∀n,qd Tryz.prog 170 [.i .u16 n] (.tup [.agg (qe3 (qaF n)),.b (z9 n)]):=qEm (by kernel_rfl) (qDh (f:=229) (by kernel_rfl)) (fun _ _ _ ha hc p hp=>qB3 (f:=228) (by kernel_rfl) ent ha hc p hp)
theorem ofM:cOf Tryz.prog 112:=qEl (by kernel_rfl) byM
theorem hal:qvl Tryz.prog 264:=fun x h0 h1=>qx7 (by kernel_rfl) x h0 h1
theorem wid:qEy Tryz.prog 309:=fun x l hl=>qEe (by kernel_rfl) x l hl
theorem wordP:qrX Tryz.prog 230:=fun d hd k h0 h1=>qC1 (by kernel_rfl) (qBS (f:=280) (by kernel_rfl) wid hal) d hd k h0 h1
theorem knwA:∀n,qd Tryz.prog 57 [.i .u32 n] (.b (knA n)):=qCH (by kernel_rfl) (qEh (f:=105) (by kernel_rfl) (qCI (f:=169) (by kernel_rfl)) (qEi (f:=87) (by kernel_rfl)))
theorem mayRl:∀r:GRule,r.tests.length<=100000->qd Tryz.prog 58 [.agg (qw r)] (.b (qbD r)):=qEn (by kernel_rfl) (fun l k a c p ha hc hk hl=>qzD (f:=67) (by kernel_rfl) (qoU (f:=119) (by kernel_rfl)) l k a c p ha hc hk hl)
 (qCb (f:=106) (by kernel_rfl) (qEo (f:=107) knwA (by kernel_rfl))) knwA
theorem mayF:qrQ Tryz.prog 22:=fun x hx=>qFB (by kernel_rfl) knwA mayRl x hx.1 hx.2
theorem plA:∀a b:Int,0<=a->a<6->0<=b->b<=4->qd Tryz.prog 304 [.i .i64 a,.i .i64 b] (.tup [.i .u32 (16+8*a+b),.b true]):=fun a b h0 h6 hb0 hb=>qAY (by kernel_rfl) a b h0 h6 hb0 hb
theorem lo:qpX Tryz.prog 262 0:=fun a h0 h6=>by have:=qB9 (f:=262) (by kernel_rfl) plA a h0 h6;simpa using this
theorem hi:qpX Tryz.prog 263 4:=fun a h0 h6=>qzM (by kernel_rfl) plA a h0 h6
theorem tok:qCW Tryz.prog 178:=fun a h0 h6=>qBy (by kernel_rfl) (qyQ (f:=184) (by kernel_rfl)) a h0 h6
theorem wfn:WFn Tryz.prog 234 177 216 179 156 157:=⟨by kernel_rfl,by kernel_rfl,by kernel_rfl,by kernel_rfl,by kernel_rfl⟩
theorem efn:EFn Tryz.prog 234 177 216 179 156 157 152 155 158 159 217 265 262 263 264 178 :=
 ⟨wfn,by kernel_rfl,by kernel_rfl,by kernel_rfl,by kernel_rfl,by kernel_rfl,by kernel_rfl,by kernel_rfl,lo,hi,hal,tok⟩
theorem spn:qxU Tryz.prog 153:=qFt (g1:=213) (g2:=212) (g3:=261) (h1:=260) (by kernel_rfl) (by kernel_rfl) (by kernel_rfl) (by kernel_rfl) (by kernel_rfl)
theorem tre:qxV Tryz.prog 154:=qFx (g1:=214) (g2:=215) (by kernel_rfl) (by kernel_rfl) (by kernel_rfl)
theorem emi:qrN Tryz.prog 98:=qEC (by kernel_rfl) efn mayF spn tre
theorem twn:∀r:GRule,r.tests.length<=100000->qd Tryz.prog 61 [.agg (qw r)] (.agg (qw r)):=fun r hl=>qCj (by kernel_rfl) (qze (qzd (f:=109) (by kernel_rfl))) r hl
theorem nor:qrR Tryz.prog 100:=qEY (g2:=162) (by kernel_rfl) mayF fun r hl=>qyf (by kernel_rfl) twn (qoU (f:=119) (by kernel_rfl)) (qDD (f:=221) (by kernel_rfl)) r hl
theorem mayL:∀l,MayL l->qd Tryz.prog 218 [.fz l.length (rSy l)] (.b true):=fun l hl=>qEX (g:=266) (by kernel_rfl) (fun s j n h1 h2 h3=>qCa (g1:=305) (g2:=230) (g3:=306) (by kernel_rfl) (qBv (by kernel_rfl)) wordP (qBM (by kernel_rfl)) s j n h1 h2 h3) l hl
theorem asks:qeY Tryz.prog 274:=qEp (by kernel_rfl) ofM
theorem clS:qbH Tryz.prog 272 4 24:=qBO (by kernel_rfl)
theorem bkS:∀l:List Sy,qd Tryz.prog 219 [.fz l.length (rSy l)] (.fn 267 [] [.pf [.fz l.length (rSy l)] 0]):=qCM (by kernel_rfl)
theorem bkI:∀l:List Ins,qd Tryz.prog 307 [.fz l.length (rP l)] (.fn 330 [] [.pf [.fz l.length (rP l)] 0]):=qCL (by kernel_rfl)
theorem optP:qy4 Tryz.prog 101:=qFD (g1:=163) (g2:=164) (gs:=222) (gt:=223) (gl:=224) (s1:=271) (s2:=270) (t1:=273) (v1:=275) (v2:=276)
 (by kernel_rfl) (by kernel_rfl) (by kernel_rfl) mayL (by kernel_rfl) (by kernel_rfl) (by kernel_rfl) clS ofM asks (by kernel_rfl) (by kernel_rfl) bkS (by kernel_rfl) (by kernel_rfl) (by kernel_rfl) (by kernel_rfl)
theorem lkOne:qvm Tryz.prog 220:=qFC (gD:=269) (gP:=268) (by kernel_rfl) (by kernel_rfl) ofM (by kernel_rfl) bkI (by kernel_rfl)
theorem lnk:qrP Tryz.prog 99:=qEU (g1:=160) (g2:=161) (by kernel_rfl) (by kernel_rfl) (by kernel_rfl) mayL bkS (by kernel_rfl) lkOne
theorem cmp:qoC Tryz.prog 13:=qEz (gd:=45) (gwN:=48) (gwE:=46) (gwO:=49) (gwL:=47) (gs:=50) (by kernel_rfl) (by kernel_rfl) (by kernel_rfl) (by kernel_rfl) (by kernel_rfl) (by kernel_rfl) (by kernel_rfl) emi nor optP lnk
theorem wx:cWX Tryz.prog 281:=fun c=>qBJ (by kernel_rfl) byM c
def gP(n:Nat):Nat:=([0,310,311,312,313,314,315,316,317,318,319,320,321,322,323]:List Nat).getD n 0
theorem prs:Prs Tryz.prog gP:=⟨qFE (by kernel_rfl),qFF (by kernel_rfl),qFG (by kernel_rfl),qFH (by kernel_rfl),qFI (by kernel_rfl),qFJ (by kernel_rfl),qFK (by kernel_rfl),qFL (by kernel_rfl),qFM (by kernel_rfl),qE2 (by kernel_rfl),qE3 (by kernel_rfl),qE4 (by kernel_rfl),qE5 (by kernel_rfl),qE6 (by kernel_rfl)⟩
theorem byV(c:Int)(r:Int×Option Nat×Option Nat)(h:((qDR gP).find? fun x=>decide (x.1=qje c))=some r):qd Tryz.prog 232 [.i .u16 c] (.agg (qaG r)):=qEk (by kernel_rfl) wx (qDR gP) rfl (qAW (f:=282) (by kernel_rfl)) c r h
theorem secV:qCV Tryz.prog 231:=fun m d hl i=>qym (by kernel_rfl) wx m d hl i
theorem cellV:qrM Tryz.prog 172:=fun m d n hn=>qFy (g:=111) (by kernel_rfl) m d n hn
theorem loadV:qy3 Tryz.prog 171:=fun m hm d hd i hi hc hz=>qFA (g2:=111) (by kernel_rfl) wordP cellV m hm d hd i hi hc hz
theorem qwy:qCU Tryz.prog 173:=fun m hm d i hi hc hz=>qEc (g2:=111) (by kernel_rfl) secV (byN prs byV) m hm d i hi hc hz
theorem jumpV:qy2 Tryz.prog 174:=fun m d hl i hi hc=>qFz (by kernel_rfl) (byJ prs byV) secV m d hl i hi hc
theorem doV:qEw Tryz.prog 113:=fun m hm d hd i hi hz=>qFO (g6:=111) (by kernel_rfl) ofM loadV cellV qwy jumpV m hm d hd i hi hz
theorem runV:qrS Tryz.prog 24:=fun p hp d hd=>qFN (by kernel_rfl) (qCp (f:=62) (fd:=110) (g1:=111) (by kernel_rfl) ofM doV) p hp d hd
theorem szP:∀x,qfW x->qd Tryz.prog 16 [.agg (qD x)] (.i .i64 (szF x:Int)):=qCf (by kernel_rfl)
theorem tlP:∀p,PrgGood p->∀d,DatOk d->∀w:Int,(qeA p d).1=w->qd Tryz.prog 25 [.fz p.length (rP p),.agg (qT d),.i .u32 w] (.b true):=fun p hp d hd w h=>qEq (by kernel_rfl) runV p hp d hd w h
theorem gd0:qd Tryz.prog 26 [.nils,.b true] (.tup [.fz 0 [],.i .i64 2]):=qB1 (gd:=45) (gwG:=63) (gwO:=49) (gwL:=47) (gs:=50) (gG:=114) (gO:=101) (gL:=99)
 (by kernel_rfl) (by kernel_rfl) (by kernel_rfl) (by kernel_rfl) (by kernel_rfl) (by kernel_rfl) (quT (g1:=175) (g2:=176) (g3:=177) (g4:=133) (g5:=131) (g6:=178) (g7:=179) (g8:=156) (g9:=157) (g10:=159) (by kernel_rfl))
theorem awk:qd Tryz.prog 21 [] (.b true):=qEj (by kernel_rfl) cmp gd0 tlP szP
theorem fndP:∀x,qfW x->∀n:Int,qd Tryz.prog 23 [.agg (qD x),.i .u32 n] (qmi x n):=fun x hL n=>qER (g1:=60) (g2:=59) (g3:=61) (by kernel_rfl) (qEM (by kernel_rfl)) (fun l k a c p ha hc hk hl=>qzC (by kernel_rfl) (qoT (f:=108) (by kernel_rfl)) l k a c p ha hc hk hl) twn x n hL
theorem codegenCalls(x:GFil)(d:GData)(o:Bool)(hx:FilB x∧FilR x∧FilU x)(hd:DatOk d):qd Tryz.prog 4 [.agg (qD x),.agg (qT d),.b o] (.b true) :=
 qqs (by kernel_rfl) awk (qv1 (f:=11) (by kernel_rfl)) mayF szP fndP cmp runV tlP x hx.1 hx.2.1 hx.2.2 d hd o
end Go.Proofs.YtgaodkfneooonaaGreat.Walk
