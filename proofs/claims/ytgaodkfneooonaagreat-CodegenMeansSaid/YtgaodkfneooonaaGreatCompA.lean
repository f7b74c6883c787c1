/- CodegenMeans at this program's numbers. No condition. -/
import Derived.Test.YtgaodkfneooonaaGreatK12
import Derived.Test.YtgaodkfneooonaaGreatEnvH
namespace Go.Proofs.YtgaodkfneooonaaGreat.Walk
open Go.Kc
theorem ent:qf Tryz.prog 279 [] (.agg (jL.flatMap x8)):=qx3 (by kernel_rfl)
theorem byM:∀n,qf Tryz.prog 170 [.i .u16 n] (.tup [.agg (zG (qC n)),.b (z5 n)]):=qEn (by kernel_rfl) (qDn (f:=229) (by kernel_rfl)) (fun _ _ _ ha hc p hp=>qB4 (f:=228) (by kernel_rfl) ent ha hc p hp)
theorem ofM:cOf Tryz.prog 112:=qEm (by kernel_rfl) byM
theorem ofR:qim Tryz.prog 82:=qFL (by kernel_rfl) EnvH.all02
theorem getRR:qCW Tryz.prog 277:=fun b hb hl a ha n hn=>qFC (by kernel_rfl) b hb hl a ha n hn
theorem nxt:qoN Tryz.prog 205:=fun p hp j i hj hi=>qE2 (by kernel_rfl) ofR p hp j i hj hi
theorem unsR:∀p:List Ins,p.length<=4096->(∀i ∈ p,InsOk i)->qf Tryz.prog 83 [.fz p.length (rP p)] (.fz (qiQ p).length (rNt (qiQ p))):=fun p hp hi =>
 qCs (by kernel_rfl) (qCm (f:=142) (by kernel_rfl) nxt) (qxc (f:=143) (by kernel_rfl) nxt) p hp hi (qD4 p) (by rw[qug];simp[st0])
theorem atR:qxQ Tryz.prog 36:=qFJ (by kernel_rfl) (qFF (f:=81) (by kernel_rfl) ofR) ofR unsR
theorem hal:qvg Tryz.prog 264:=fun x h0 h1=>qx8 (by kernel_rfl) x h0 h1
theorem wid:qED Tryz.prog 309:=fun x l hl=>qEg (by kernel_rfl) x l hl
theorem wordP:qr9 Tryz.prog 230:=fun d hd k h0 h1=>qC5 (by kernel_rfl) (qBU (f:=280) (by kernel_rfl) wid hal) d hd k h0 h1
theorem wxR:cWX Tryz.prog 226:=fun c=>qEv (by kernel_rfl) ofR c
theorem shf:qEC Tryz.prog 227:=fun a h0 h1 left n hn=>qCh (by kernel_rfl) a h0 h1 left n hn
theorem putR:qy3 Tryz.prog 308:=fun x h0 h1 n hn=>qE8 (by kernel_rfl) x h0 h1 n hn
theorem wordR:qr9 Tryz.prog 225:=fun d hd k h0 h1=>qFB (by kernel_rfl) (fun d hd=>qEu (f:=278) (by kernel_rfl) putR d hd) getRR d hd k h0 h1
theorem loadR:qy1 Tryz.prog 166:=fun m hm i hi d hd=>qEZ (by kernel_rfl) wordR m hm i hi d hd
theorem numR:qCY Tryz.prog 167:=fun m hm i hi hc=>qDJ (by kernel_rfl) ofR wxR shf m hm i hi hc
theorem jumpR:qy0 Tryz.prog 168:=fun m hm i hi hc=>qEU (by kernel_rfl) wxR m hm i hi hc
theorem doRR:qEA Tryz.prog 103:=fun m hm i hi d hd=>qFK (by kernel_rfl) (qEo (f:=165) (by kernel_rfl) ofR) ofR loadR numR jumpR m hm i hi d hd
theorem runRR:qy5 Tryz.prog 53:=fun p hp hi d hd=>qFI (by kernel_rfl) doRR ofR p hp hi d hd
theorem knwA:∀n,qf Tryz.prog 57 [.i .u32 n] (.b (knA n)):=qCL (by kernel_rfl) (qEj (f:=105) (by kernel_rfl) (qCM (f:=169) (by kernel_rfl)) (qEk (f:=87) (by kernel_rfl)))
theorem mayRl:∀r:GRule,r.tests.length<=100000->qf Tryz.prog 58 [.agg (qB r)] (.b (qak r)):=qEq (by kernel_rfl) (fun l k a c p ha hc hk hl=>qzB (f:=67) (by kernel_rfl) (qo6 (f:=119) (by kernel_rfl)) l k a c p ha hc hk hl)
 (qCc (f:=106) (by kernel_rfl) (qEr (f:=107) knwA (by kernel_rfl))) knwA
theorem mayF:qxT Tryz.prog 22:=fun x hx=>qFD (by kernel_rfl) knwA mayRl x hx.1 hx.2
-- code.Emit
theorem plA:∀a b:Int,0<=a->a<6->0<=b->b<=4->qf Tryz.prog 304 [.i .i64 a,.i .i64 b] (.tup [.i .u32 (16+8*a+b),.b true]):=fun a b h0 h6 hb0 hb=>qAU (by kernel_rfl) a b h0 h6 hb0 hb
theorem lo:qqe Tryz.prog 262 0:=fun a h0 h6=>by have:=qCa (f:=262) (by kernel_rfl) plA a h0 h6;simpa using this
theorem hi:qqe Tryz.prog 263 4:=fun a h0 h6=>qzK (by kernel_rfl) plA a h0 h6
theorem tok:qC0 Tryz.prog 178:=fun a h0 h6=>qBA (by kernel_rfl) (qyQ (f:=184) (by kernel_rfl)) a h0 h6
theorem wfn:WFn Tryz.prog 234 177 216 179 156 157:=⟨by kernel_rfl,by kernel_rfl,by kernel_rfl,by kernel_rfl,by kernel_rfl⟩
theorem efn:EFn Tryz.prog 234 177 216 179 156 157 152 155 158 159 217 265 262 263 264 178 :=
 ⟨wfn,by kernel_rfl,by kernel_rfl,by kernel_rfl,by kernel_rfl,by kernel_rfl,by kernel_rfl,by kernel_rfl,lo,hi,hal,tok⟩
theorem spn:qxV Tryz.prog 153:=qFx (g1:=213) (g2:=212) (g3:=261) (h1:=260) (by kernel_rfl) (by kernel_rfl) (by kernel_rfl) (by kernel_rfl) (by kernel_rfl)
theorem tre:qxW Tryz.prog 154:=qFA (g1:=214) (g2:=215) (by kernel_rfl) (by kernel_rfl) (by kernel_rfl)
theorem emi:qr5 Tryz.prog 98:=qEI (by kernel_rfl) efn mayF spn tre
-- ir.Normal
theorem twn:∀r:GRule,r.tests.length<=100000->qf Tryz.prog 61 [.agg (qB r)] (.agg (qB r)):=fun r hl=>qCn (by kernel_rfl) (qzd (qzc (f:=109) (by kernel_rfl))) r hl
theorem nor:qr8 Tryz.prog 100:=qE3 (g2:=162) (by kernel_rfl) mayF fun r hl=>qyg (by kernel_rfl) twn (qo6 (f:=119) (by kernel_rfl)) (qDI (f:=221) (by kernel_rfl)) r hl
-- rows
theorem mayL:∀l,MayL l->qf Tryz.prog 218 [.fz l.length (rSy l)] (.b true):=fun l hl=>qE1 (g:=266) (by kernel_rfl) (fun s j n h1 h2 h3=>qCb (g1:=305) (g2:=230) (g3:=306) (by kernel_rfl) (qBx (by kernel_rfl)) wordP (qBO (by kernel_rfl)) s j n h1 h2 h3) l hl
theorem asks:qfk Tryz.prog 274:=qEt (by kernel_rfl) ofM
theorem clS:qb8 Tryz.prog 272 4 24:=qBQ (by kernel_rfl)
theorem bkS:∀l:List Sy,qf Tryz.prog 219 [.fz l.length (rSy l)] (.fn 267 [] [.pf [.fz l.length (rSy l)] 0]):=qCQ (by kernel_rfl)
theorem bkI:∀l:List Ins,qf Tryz.prog 307 [.fz l.length (rP l)] (.fn 330 [] [.pf [.fz l.length (rP l)] 0]):=qCP (by kernel_rfl)
theorem optP:qy2 Tryz.prog 101:=qFH (g1:=163) (g2:=164) (gs:=222) (gt:=223) (gl:=224) (s1:=271) (s2:=270) (t1:=273) (v1:=275) (v2:=276)
 (by kernel_rfl) (by kernel_rfl) (by kernel_rfl) mayL (by kernel_rfl) (by kernel_rfl) (by kernel_rfl) clS ofM asks (by kernel_rfl) (by kernel_rfl) bkS (by kernel_rfl) (by kernel_rfl) (by kernel_rfl) (by kernel_rfl)
theorem lkOne:qvh Tryz.prog 220:=qFG (gD:=269) (gP:=268) (by kernel_rfl) (by kernel_rfl) ofM (by kernel_rfl) bkI (by kernel_rfl)
theorem lnk:qr7 Tryz.prog 99:=qEX (g1:=160) (g2:=161) (by kernel_rfl) (by kernel_rfl) (by kernel_rfl) mayL bkS (by kernel_rfl) lkOne
theorem cmp:qxR Tryz.prog 13:=qEE (gd:=45) (gwN:=48) (gwE:=46) (gwO:=49) (gwL:=47) (gs:=50) (by kernel_rfl) (by kernel_rfl) (by kernel_rfl) (by kernel_rfl) (by kernel_rfl) (by kernel_rfl) (by kernel_rfl) emi nor optP lnk
-- the law
theorem knR:∀n:Int,0<=n->n<=4294967295->qf Tryz.prog 52 [.i .u32 n] (.b (knA n)):=fun n h0 h1=>qEp (by kernel_rfl) (qFs (f:=102) (by kernel_rfl)) n h0 h1
theorem archR:∀t n:Int,0<=n->n<=4294967295->qf Tryz.prog 54 [.i .u32 t,.i .u32 n] (.tup [.i .i64 (Go.Kc.ofM t n).1,.b (Go.Kc.ofM t n).2]):=fun t n h0 h1=>qCe (by kernel_rfl) (qD7 (f:=104) (by kernel_rfl)) t n h0 h1
theorem codegenMeans(x:GFil)(o:Bool)(d:GData)(i:Int)(_:(Lit.int .i64 i).wf=true)(b:Int)(_:(Lit.int .i64 b).wf=true)(hx:FilB x∧FilR x∧FilU x)(hd:DatOk d):qf Tryz.prog 3 [.agg (qz x),.b o,.agg (qX d),.i .i64 i,.i .i64 b] (.b true) :=
 qqK (g1:=11) (g2:=12) (g3:=13) (g4:=14) (g5:=15) (g6:=16) (g7:=17) (g8:=18) (g9:=20) (g10:=19)
  (by kernel_rfl) (qvX (by kernel_rfl)) (qEF (by kernel_rfl)) cmp (qxd (by kernel_rfl)) (fun x hx=>qFw (by kernel_rfl) (qBb (f:=51) (by kernel_rfl)) x hx.1 hx.2) (qCi (by kernel_rfl)) (fun x hL hR hU=>qFE (by kernel_rfl) knR x hL hR hU)
  (qBu (by kernel_rfl) atR) (qC6 (by kernel_rfl) archR (qx5 (f:=55) (by kernel_rfl)) (qEl (f:=56) (by kernel_rfl))) (qBv (by kernel_rfl) runRR) x hx.1 hx.2.1 hx.2.2 o d hd i b
end Go.Proofs.YtgaodkfneooonaaGreat.Walk
