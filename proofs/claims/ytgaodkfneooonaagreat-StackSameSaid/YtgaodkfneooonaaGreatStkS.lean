/- StackSame at this program's numbers. No condition. -/
import Derived.Test.YtgaodkfneooonaaGreatOK12
import Derived.Test.YtgaodkfneooonaaGreatOK12
import Derived.Test.YtgaodkfneooonaaGreatOK12
import Derived.Test.YtgaodkfneooonaaGreatOK12
import Derived.Test.YtgaodkfneooonaaGreatOK6
import Derived.Test.YtgaodkfneooonaaGreatOK5
import Derived.Test.YtgaodkfneooonaaGreatProg
import Derived.Test.YtgaodkfneooonaaGreatSortL
import Derived.KernelRfl
namespace Go.Proofs.YtgaodkfneooonaaGreat.Walk
open Go.Kc
theorem ent:qa Tryz.prog 279 [] (.agg (qaO.flatMap qc2)):=qBc (by kernel_rfl)
theorem byM:∀n,qa Tryz.prog 170 [.i .u16 n] (.tup [.agg (qff (qag n)),.b (zY n)]):=qIb (by kernel_rfl) (qGZ (f:=229) (by kernel_rfl)) (fun _ _ _ ha hc p hp=>qFw (f:=228) (by kernel_rfl) ent ha hc p hp)
theorem ofM:cOf Tryz.prog 112:=qIa (by kernel_rfl) byM
theorem hal:qyB Tryz.prog 264:=fun x h0 h1=>qBg (by kernel_rfl) x h0 h1
theorem wid:qIr Tryz.prog 309:=fun x l hl=>qHX (by kernel_rfl) x l hl
theorem wordP:quR Tryz.prog 230:=fun d hd k h0 h1=>qGI (by kernel_rfl) (qFl (f:=280) (by kernel_rfl) wid hal) d hd k h0 h1
theorem knwA:∀n,qa Tryz.prog 57 [.i .u32 n] (.b (knA n)):=qGj (by kernel_rfl) (qH1 (f:=105) (by kernel_rfl) (qGl (f:=169) (by kernel_rfl)) (qH2 (f:=87) (by kernel_rfl)))
theorem mayRl:∀r:GRule,r.tests.length<=100000->qa Tryz.prog 58 [.agg (zu r)] (.b (qb2 r)):=qIg (by kernel_rfl) (fun l k a c p ha hc hk hl=>qCR (f:=67) (by kernel_rfl) (qrv (f:=119) (by kernel_rfl)) l k a c p ha hc hk hl)
 (qFF (f:=106) (by kernel_rfl) (qIh (f:=107) knwA (by kernel_rfl))) knwA
theorem mayF:qA1 Tryz.prog 22:=fun x hx=>qJw (by kernel_rfl) knwA mayRl x hx.1 hx.2
theorem plA:∀a b:Int,0<=a->a<6->0<=b->b<=4->qa Tryz.prog 304 [.i .i64 a,.i .i64 b] (.tup [.i .u32 (16+8*a+b),.b true]):=fun a b h0 h6 hb0 hb=>qEf (by kernel_rfl) a b h0 h6 hb0 hb
theorem lo:qsG Tryz.prog 262 0:=fun a h0 h6=>by have:=qFC (f:=262) (by kernel_rfl) plA a h0 h6;simpa using this
theorem hi:qsG Tryz.prog 263 4:=fun a h0 h6=>qC1 (by kernel_rfl) plA a h0 h6
theorem tok:qqk Tryz.prog 178:=fun a h0 h6=>qE1 (by kernel_rfl) (qB3 (f:=184) (by kernel_rfl)) a h0 h6
theorem wfn:WFn Tryz.prog 234 177 216 179 156 157:=⟨by kernel_rfl,by kernel_rfl,by kernel_rfl,by kernel_rfl,by kernel_rfl⟩
theorem efn:EFn Tryz.prog 234 177 216 179 156 157 152 155 158 159 217 265 262 263 264 178 :=
 ⟨wfn,by kernel_rfl,by kernel_rfl,by kernel_rfl,by kernel_rfl,by kernel_rfl,by kernel_rfl,by kernel_rfl,lo,hi,hal,tok⟩
theorem spn:qA4 Tryz.prog 153:=qJg (g1:=213) (g2:=212) (g3:=261) (h1:=260) (by kernel_rfl) (by kernel_rfl) (by kernel_rfl) (by kernel_rfl) (by kernel_rfl)
theorem tre:qA5 Tryz.prog 154:=qJj (g1:=214) (g2:=215) (by kernel_rfl) (by kernel_rfl) (by kernel_rfl)
theorem emi:quK Tryz.prog 98:=qIv (by kernel_rfl) efn mayF spn tre
theorem twn:∀r:GRule,r.tests.length<=100000->qa Tryz.prog 61 [.agg (zu r)] (.agg (zu r)):=fun r hl=>qFT (by kernel_rfl) (qCt (qCs (f:=109) (by kernel_rfl))) r hl
theorem nor:quM Tryz.prog 100:=qIJ (g2:=162) (by kernel_rfl) mayF fun r hl=>qBq (by kernel_rfl) twn (qrv (f:=119) (by kernel_rfl)) (qHk (f:=221) (by kernel_rfl)) r hl
theorem mayL:∀l,MayL l->qa Tryz.prog 218 [.fz l.length (rSy l)] (.b true):=fun l hl=>qII (g:=266) (by kernel_rfl) (fun s j n h1 h2 h3=>qFD (g1:=305) (g2:=230) (g3:=306) (by kernel_rfl) (qEY (by kernel_rfl)) wordP (qFd (by kernel_rfl)) s j n h1 h2 h3) l hl
theorem asks:qgy Tryz.prog 274:=qIk (by kernel_rfl) ofM
theorem clS:qbx Tryz.prog 272 4 24:=qFg (by kernel_rfl)
theorem bkS:∀l:List Sy,qa Tryz.prog 219 [.fz l.length (rSy l)] (.fn 267 [] [.pf [.fz l.length (rSy l)] 0]):=qGp (by kernel_rfl)
theorem bkI:∀l:List Ins,qa Tryz.prog 307 [.fz l.length (rP l)] (.fn 330 [] [.pf [.fz l.length (rP l)] 0]):=qGo (by kernel_rfl)
theorem optP:qyE Tryz.prog 101:=qJC (g1:=163) (g2:=164) (gs:=222) (gt:=223) (gl:=224) (s1:=271) (s2:=270) (t1:=273) (v1:=275) (v2:=276)
 (by kernel_rfl) (by kernel_rfl) (by kernel_rfl) mayL (by kernel_rfl) (by kernel_rfl) (by kernel_rfl) clS ofM asks (by kernel_rfl) (by kernel_rfl) bkS (by kernel_rfl) (by kernel_rfl) (by kernel_rfl) (by kernel_rfl)
theorem lkOne:qyD Tryz.prog 220:=qJB (gD:=269) (gP:=268) (by kernel_rfl) (by kernel_rfl) ofM (by kernel_rfl) bkI (by kernel_rfl)
theorem lnk:qrb Tryz.prog 99:=qIG (g1:=160) (g2:=161) (by kernel_rfl) (by kernel_rfl) (by kernel_rfl) mayL bkS (by kernel_rfl) lkOne
theorem cmp:qmI Tryz.prog 13:=qIt (gd:=45) (gwN:=48) (gwE:=46) (gwO:=49) (gwL:=47) (gs:=50) (by kernel_rfl) (by kernel_rfl) (by kernel_rfl) (by kernel_rfl) (by kernel_rfl) (by kernel_rfl) (by kernel_rfl) emi nor optP lnk
theorem wx:cWX Tryz.prog 281:=fun c=>qFa (by kernel_rfl) byM c
def gP(n:Nat):Nat:=([0,310,311,312,313,314,315,316,317,318,319,320,321,322,323]:List Nat).getD n 0
theorem prs:Prs Tryz.prog gP:=⟨qJD (by kernel_rfl),qJE (by kernel_rfl),qJF (by kernel_rfl),qJG (by kernel_rfl),qJH (by kernel_rfl),qJI (by kernel_rfl),qJJ (by kernel_rfl),qJK (by kernel_rfl),qJL (by kernel_rfl),qIQ (by kernel_rfl),qIR (by kernel_rfl),qIS (by kernel_rfl),qIT (by kernel_rfl),qIU (by kernel_rfl)⟩
theorem byV(c:Int)(r:Int×Option Nat×Option Nat)(h:((qHB gP).find? fun x=>decide (x.1=qlh c))=some r):qa Tryz.prog 232 [.i .u16 c] (.agg (qaQ r)):=qH5 (by kernel_rfl) wx (qHB gP) rfl (qEd (f:=282) (by kernel_rfl)) c r h
theorem secV:qGB Tryz.prog 231:=fun m d hl i=>qBx (by kernel_rfl) wx m d hl i
theorem cellV:quI Tryz.prog 172:=fun m d n hn=>qJk (g:=111) (by kernel_rfl) m d n hn
theorem loadV:qCl Tryz.prog 171:=fun m hm d hd i hi hc hz=>qJm (g2:=111) (by kernel_rfl) wordP cellV m hm d hd i hi hc hz
theorem qfT:qGy Tryz.prog 173:=fun m hm d i hi hc hz=>qHV (g2:=111) (by kernel_rfl) secV (byN prs byV) m hm d i hi hc hz
theorem jumpV:qCj Tryz.prog 174:=fun m d hl i hi hc=>qJl (by kernel_rfl) (byJ prs byV) secV m d hl i hi hc
theorem doV:qIq Tryz.prog 113:=fun m hm d hd i hi hz=>qJO (g6:=111) (by kernel_rfl) ofM loadV cellV qfT jumpV m hm d hd i hi hz
theorem runV:qGz Tryz.prog 24:=fun p hp d hd=>qJM (by kernel_rfl) (qF0 (f:=62) (fd:=110) (g1:=111) (by kernel_rfl) ofM doV) p hp d hd
theorem qmy:quL Tryz.prog 233:=qxZ (by kernel_rfl)
theorem cntF:∀l:List Int,l.length<=qi->qa Tryz.prog 175 [.fz l.length (rI .i64 l),.fn 176 [] []] (.b (l.any fun a=>decide (a<0)||decide (6<=a))):=fun l hl=>qxX (by kernel_rfl) qmy l _ _ (qH9 (by kernel_rfl)) hl
theorem cntI:∀(l:List Int) (x:Int),l.length<=qi->qa Tryz.prog 133 [.fz l.length (rI .i64 l),.i .i64 x] (.b (decide (x ∈ l))):=fun l x hl=>qyP (by kernel_rfl) (fun xs x hl=>qFv (f:=197) (by kernel_rfl) xs x hl) l x hl
theorem allP:qa Tryz.prog 131 [] (.fz 6 (rI .i64 [0,1,2,3,4,5])):=qH3 (by kernel_rfl)
theorem cGd:∀l:List Int,l.length<=qi->qa Tryz.prog 114 [.fz l.length (rI .i64 l)] (.tup [.fz (gdA l).1.length (rSy (gdA l).1),.i .i64 (gdA l).2]):=fun l hl=>qFh (g:=234) (gp:=216) (gd:=159) (by kernel_rfl) wfn (by kernel_rfl) (by kernel_rfl) tok cntF cntI allP l hl
theorem grd:qoP Tryz.prog 26:=qJv (gd:=45) (gwG:=63) (gwO:=49) (gwL:=47) (gs:=50) (by kernel_rfl) (by kernel_rfl) (by kernel_rfl) (by kernel_rfl) (by kernel_rfl) (by kernel_rfl) cGd optP lnk
theorem knoM:qCk Tryz.prog 236:=qC2 (by kernel_rfl) byM
theorem oneP:∀i,InsOk i->∀n:Nat,qa Tryz.prog 115 [.agg (qI i),.i .i64 (n:Int)] (.i .i64 (qd4 i n)):=fun i hi n=>by
 have h:=qHu (P:=Tryz.prog) (f:=115) (g0:=180) (by kernel_rfl) i n (wsM 235 237 238 239 240 241 i n) rfl (qBI (by kernel_rfl) i n) (by
  intro x hx;simp only[wsM,List.mem_cons,List.not_mem_nil,or_false] at hx;rcases hx with rfl|rfl|rfl|rfl|rfl|rfl
  ·exact qJp (by kernel_rfl) knoM i n
  ·exact qJq (by kernel_rfl) i hi n
  ·exact qJr (by kernel_rfl) ofM i n
  ·exact qJs (by kernel_rfl) i n
  ·exact qJt (by kernel_rfl) i n
  ·exact qJu (by kernel_rfl) ofM i hi n)
 rw[qIj] at h;exact h
theorem come:qra Tryz.prog 242:=fun s r hr j hj x=>qGF (by kernel_rfl) s r hr j hj x
theorem wrP:cWr Tryz.prog 244:=fun i hi=>qBH (by kernel_rfl) ofM i hi
theorem vis:qGC Tryz.prog 182:=fun p hp l hl j i hj hi x=>qFZ (by kernel_rfl) (qEv (f:=183) (by kernel_rfl)) p hp l hl j i hj hi x
theorem uns:∀p:List Ins,p.length<=4096->(∀i ∈ p,InsOk i)->qa Tryz.prog 116 [.fz p.length (rP p)] (.fz (qd5 p).length (rNt (qd5 p))):=fun p hp hi =>
 qBA (by kernel_rfl) (g0:=181) (g2:=284) (by kernel_rfl) (gw:=283) (by kernel_rfl) ofM (by kernel_rfl) come wrP vis (qIl (f:=243) (by kernel_rfl)) p hp hi
theorem chkAt:cAt Tryz.prog 64:=qyN (by kernel_rfl) oneP ofM uns
theorem idxC:qfH 2 Tryz.prog 186:=qrt (by kernel_rfl)
theorem idxK:qfH 7 Tryz.prog 286:=qvQ (by kernel_rfl)
theorem tabK:qa Tryz.prog 285 [] (.agg (zc.flatMap qbg)):=qEV (by kernel_rfl)
theorem known:∀s,qa Tryz.prog 189 [.s s] (.b (qjS s)):=qC9 (by kernel_rfl) (qBi (f:=246) (by kernel_rfl)) (qCq (f:=245) (by kernel_rfl) tabK idxK)
theorem may:qJN Tryz.prog 128:=qHg (by kernel_rfl) known (qAW (f:=190) (by kernel_rfl))
theorem archT:qa Tryz.prog 184 [] (.agg (zH.flatMap (qa1 .u32))):=qB3 (by kernel_rfl)
theorem archNm:∀a,qa Tryz.prog 124 [.i .i64 a] (.s (qhM a)):=qGn (by kernel_rfl) archT
theorem contI:∀(xs:List Int) (x:Int),xs.length<=qi->qa Tryz.prog 133 [.fz xs.length (rI .i64 xs),.i .i64 x] (.b (decide (x ∈ xs))):=qyP (by kernel_rfl) (qFv (f:=197) (by kernel_rfl))
theorem archI:∀(xs:List Int) (x:Int),xs.length<=qi->qa Tryz.prog 192 [.fz xs.length (rI .i64 xs),.i .i64 x] (.b (inA xs x)):=qIn (by kernel_rfl) contI
theorem spT:qa Tryz.prog 191 [] (.agg (qR.flatMap (qa1 .u64))):=qBy (by kernel_rfl)
theorem mayP19:∀p,PolOk p->qa Tryz.prog 70 [.agg (qx p)] (.b (qhK p)):=qFE (by kernel_rfl)
 (qu5 (f:=120) (by kernel_rfl) idxC) (qJx (f:=121) (by kernel_rfl))
 (qFL (f:=122) (by kernel_rfl)) (qJy (f:=123) (by kernel_rfl) archNm)
 (qFM (f:=125) (by kernel_rfl)) (qJz (f:=126) (by kernel_rfl) (qCO (f:=127) (by kernel_rfl) (qxY (f:=187) (by kernel_rfl)) (qIN (f:=188) (by kernel_rfl))))
 may (qEL (f:=129) (by kernel_rfl) spT)
theorem numb:∀(a:Int) (s:List UInt8),qa Tryz.prog 324 [.i .i64 a,.s s] (match qgq a s with|some n=>.tup [.i .u32 n,.i .i64 0]|none=>.tup [.i .u32 0,.i .i64 90]):=qBr (by kernel_rfl) (qHl (f:=331) (by kernel_rfl)) (qCq (f:=245) (by kernel_rfl) tabK idxK) (qIi (f:=332) (by kernel_rfl))
theorem ruleU:qcP Tryz.prog 287:=qHI (by kernel_rfl) numb (qCs (f:=109) (by kernel_rfl))
theorem lst:∀mode n al dn,qa Tryz.prog 289 [.i .u8 mode,.i .i64 (n:Nat),.b al,.b dn] (.b (xr mode n al dn)):=qDg (by kernel_rfl)
theorem tstO:qnK Tryz.prog 290:=qFS (by kernel_rfl)
theorem bitO:qnH Tryz.prog 292:=qGs (by kernel_rfl)
theorem flg:∀s,qa Tryz.prog 291 [.i .u64 s] (.fz (qaR s).length (rI .u64 (qaR s))):=qCS (by kernel_rfl) spT
theorem coded26:qmM Tryz.prog 194:=⟨_,Tryz.func194,by decide,by decide⟩
theorem low:qyC Tryz.prog 132:=fun p hp hR d a=>qDl (by kernel_rfl) archNm mayP19 archI (qBm (f:=193) (by kernel_rfl)) (qHL coded26 Tryz.sortKit)
 (qBo (f:=247) (by kernel_rfl) (qIP (f:=288) (by kernel_rfl)) ruleU lst) (qHh (f:=248) (by kernel_rfl) ruleU lst) (qx1 (f:=249) (by kernel_rfl) tstO.pure ruleU lst)
 (qt5 (f:=250) (by kernel_rfl) flg bitO tstO.pure ruleU) (qrJ (f:=251) (by kernel_rfl) bitO.pure ruleU) (qtw (f:=252) (by kernel_rfl) tstO.pure ruleU) (qx2 (f:=253) (by kernel_rfl) tstO.pure ruleU)
 qzF p hp hR d a
theorem lessP:qGx Tryz.prog 40:=fun a b ha hb=>qH0 (by kernel_rfl) (qH2 (f:=87) (by kernel_rfl)) a b ha hb
theorem com:quJ Tryz.prog 134:=qBU (g3:=257) (by kernel_rfl) (qGq (f:=198) (by kernel_rfl)) (by kernel_rfl) (qGk (f:=199) (by kernel_rfl) lessP)
theorem comb:quJ Tryz.prog 73:=qxW (by kernel_rfl) com
theorem mayA:qA2 Tryz.prog 43:=qAF (by kernel_rfl) (qu6 (f:=93) (by kernel_rfl) (qru (f:=150) (by kernel_rfl)))
 (qHf (f:=94) (by kernel_rfl) (qDq (f:=95) (by kernel_rfl) (qFf (f:=27) (by kernel_rfl) (qA6 (f:=64) (g1:=115) (g2:=112) (g3:=116) (by kernel_rfl) chkAt))))
theorem g16:qCi Tryz.prog 91:=fun b hb hl a ha=>qJn (by kernel_rfl) (qJo (f:=147) (by kernel_rfl)) b hb hl a ha
theorem evP:qsF Tryz.prog 37:=fun l hl hx d hd=>Go.Kc.qFQ (by kernel_rfl) mayA runV comb l hl hx d hd
theorem bldP:quH Tryz.prog 30:=qCe (g:=130) (by kernel_rfl) mayP19 (qHz (f:=71) (by kernel_rfl)) (by kernel_rfl) allP low grd cmp
theorem awake:qa Tryz.prog 39 [] (.b true):=qH4 (by kernel_rfl) (qJA (f:=84) (by kernel_rfl)) (qIs (f:=86) (by kernel_rfl)) (qFR (gT:=85) (by kernel_rfl) bldP evP) (qFK (f:=42) (g2:=92) (g3:=43) (by kernel_rfl) g16)
theorem stackSame(p:Pol)(d:GData)(hR:PolR p)(hd:DatOk d):qa Tryz.prog 8 [.agg (qx p),.agg (zt d)] (.b true) :=
 qx0 (by kernel_rfl) awake (qH8 (f:=29) (by kernel_rfl)) bldP evP p hR d hd
end Go.Proofs.YtgaodkfneooonaaGreat.Walk
