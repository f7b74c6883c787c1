/- StackAlone at this program's numbers. No condition. -/
import Derived.Test.YtgaodkfneooonaaGreatOK12
import Derived.Test.YtgaodkfneooonaaGreatOK12
import Derived.Test.YtgaodkfneooonaaGreatOK12
import Derived.Test.YtgaodkfneooonaaGreatOK12
import Derived.Test.YtgaodkfneooonaaGreatOK12
import Derived.Test.YtgaodkfneooonaaGreatOK7
import Derived.Test.YtgaodkfneooonaaGreatOK5
import Derived.Test.YtgaodkfneooonaaGreatProg
import Derived.Test.YtgaodkfneooonaaGreatSortL
import Derived.KernelRfl
namespace Go.Proofs.YtgaodkfneooonaaGreat.Walk
open Go.Kc
theorem ent:qa Tryz.prog 279 [] (.agg (qaO.flatMap qc2)):=qBb (by kernel_rfl)
theorem byM:∀n,qa Tryz.prog 170 [.i .u16 n] (.tup [.agg (qff (qag n)),.b (zY n)]):=qIa (by kernel_rfl) (qGY (f:=229) (by kernel_rfl)) (fun _ _ _ ha hc p hp=>qFv (f:=228) (by kernel_rfl) ent ha hc p hp)
theorem ofM:cOf Tryz.prog 112:=qH9 (by kernel_rfl) byM
theorem hal:qyA Tryz.prog 264:=fun x h0 h1=>qBf (by kernel_rfl) x h0 h1
theorem wid:qIq Tryz.prog 309:=fun x l hl=>qHW (by kernel_rfl) x l hl
theorem wordP:quQ Tryz.prog 230:=fun d hd k h0 h1=>qGH (by kernel_rfl) (qFk (f:=280) (by kernel_rfl) wid hal) d hd k h0 h1
theorem knwA:∀n,qa Tryz.prog 57 [.i .u32 n] (.b (knA n)):=qGi (by kernel_rfl) (qH0 (f:=105) (by kernel_rfl) (qGk (f:=169) (by kernel_rfl)) (qH1 (f:=87) (by kernel_rfl)))
theorem mayRl:∀r:GRule,r.tests.length<=100000->qa Tryz.prog 58 [.agg (zu r)] (.b (qb2 r)):=qIf (by kernel_rfl) (fun l k a c p ha hc hk hl=>qCQ (f:=67) (by kernel_rfl) (qru (f:=119) (by kernel_rfl)) l k a c p ha hc hk hl)
 (qFE (f:=106) (by kernel_rfl) (qIg (f:=107) knwA (by kernel_rfl))) knwA
theorem mayF:qA0 Tryz.prog 22:=fun x hx=>qJv (by kernel_rfl) knwA mayRl x hx.1 hx.2
theorem plA:∀a b:Int,0<=a->a<6->0<=b->b<=4->qa Tryz.prog 304 [.i .i64 a,.i .i64 b] (.tup [.i .u32 (16+8*a+b),.b true]):=fun a b h0 h6 hb0 hb=>qEe (by kernel_rfl) a b h0 h6 hb0 hb
theorem lo:qsF Tryz.prog 262 0:=fun a h0 h6=>by have:=qFB (f:=262) (by kernel_rfl) plA a h0 h6;simpa using this
theorem hi:qsF Tryz.prog 263 4:=fun a h0 h6=>qC0 (by kernel_rfl) plA a h0 h6
theorem tok:qqj Tryz.prog 178:=fun a h0 h6=>qE0 (by kernel_rfl) (qB2 (f:=184) (by kernel_rfl)) a h0 h6
theorem wfn:WFn Tryz.prog 234 177 216 179 156 157:=⟨by kernel_rfl,by kernel_rfl,by kernel_rfl,by kernel_rfl,by kernel_rfl⟩
theorem efn:EFn Tryz.prog 234 177 216 179 156 157 152 155 158 159 217 265 262 263 264 178 :=
 ⟨wfn,by kernel_rfl,by kernel_rfl,by kernel_rfl,by kernel_rfl,by kernel_rfl,by kernel_rfl,by kernel_rfl,lo,hi,hal,tok⟩
theorem spn:qA3 Tryz.prog 153:=qJf (g1:=213) (g2:=212) (g3:=261) (h1:=260) (by kernel_rfl) (by kernel_rfl) (by kernel_rfl) (by kernel_rfl) (by kernel_rfl)
theorem tre:qA4 Tryz.prog 154:=qJi (g1:=214) (g2:=215) (by kernel_rfl) (by kernel_rfl) (by kernel_rfl)
theorem emi:quJ Tryz.prog 98:=qIu (by kernel_rfl) efn mayF spn tre
theorem twn:∀r:GRule,r.tests.length<=100000->qa Tryz.prog 61 [.agg (zu r)] (.agg (zu r)):=fun r hl=>qFS (by kernel_rfl) (qCs (qCr (f:=109) (by kernel_rfl))) r hl
theorem nor:quL Tryz.prog 100:=qII (g2:=162) (by kernel_rfl) mayF fun r hl=>qBp (by kernel_rfl) twn (qru (f:=119) (by kernel_rfl)) (qHj (f:=221) (by kernel_rfl)) r hl
theorem mayL:∀l,MayL l->qa Tryz.prog 218 [.fz l.length (rSy l)] (.b true):=fun l hl=>qIH (g:=266) (by kernel_rfl) (fun s j n h1 h2 h3=>qFC (g1:=305) (g2:=230) (g3:=306) (by kernel_rfl) (qEX (by kernel_rfl)) wordP (qFc (by kernel_rfl)) s j n h1 h2 h3) l hl
theorem asks:qgy Tryz.prog 274:=qIj (by kernel_rfl) ofM
theorem clS:qbx Tryz.prog 272 4 24:=qFf (by kernel_rfl)
theorem bkS:∀l:List Sy,qa Tryz.prog 219 [.fz l.length (rSy l)] (.fn 267 [] [.pf [.fz l.length (rSy l)] 0]):=qGo (by kernel_rfl)
theorem bkI:∀l:List Ins,qa Tryz.prog 307 [.fz l.length (rP l)] (.fn 330 [] [.pf [.fz l.length (rP l)] 0]):=qGn (by kernel_rfl)
theorem optP:qyD Tryz.prog 101:=qJB (g1:=163) (g2:=164) (gs:=222) (gt:=223) (gl:=224) (s1:=271) (s2:=270) (t1:=273) (v1:=275) (v2:=276)
 (by kernel_rfl) (by kernel_rfl) (by kernel_rfl) mayL (by kernel_rfl) (by kernel_rfl) (by kernel_rfl) clS ofM asks (by kernel_rfl) (by kernel_rfl) bkS (by kernel_rfl) (by kernel_rfl) (by kernel_rfl) (by kernel_rfl)
theorem lkOne:qyC Tryz.prog 220:=qJA (gD:=269) (gP:=268) (by kernel_rfl) (by kernel_rfl) ofM (by kernel_rfl) bkI (by kernel_rfl)
theorem lnk:qra Tryz.prog 99:=qIF (g1:=160) (g2:=161) (by kernel_rfl) (by kernel_rfl) (by kernel_rfl) mayL bkS (by kernel_rfl) lkOne
theorem cmp:qmI Tryz.prog 13:=qIs (gd:=45) (gwN:=48) (gwE:=46) (gwO:=49) (gwL:=47) (gs:=50) (by kernel_rfl) (by kernel_rfl) (by kernel_rfl) (by kernel_rfl) (by kernel_rfl) (by kernel_rfl) (by kernel_rfl) emi nor optP lnk
theorem wx:cWX Tryz.prog 281:=fun c=>qE9 (by kernel_rfl) byM c
def gP(n:Nat):Nat:=([0,310,311,312,313,314,315,316,317,318,319,320,321,322,323]:List Nat).getD n 0
theorem prs:Prs Tryz.prog gP:=⟨qJC (by kernel_rfl),qJD (by kernel_rfl),qJE (by kernel_rfl),qJF (by kernel_rfl),qJG (by kernel_rfl),qJH (by kernel_rfl),qJI (by kernel_rfl),qJJ (by kernel_rfl),qJK (by kernel_rfl),qIP (by kernel_rfl),qIQ (by kernel_rfl),qIR (by kernel_rfl),qIS (by kernel_rfl),qIT (by kernel_rfl)⟩
theorem byV(c:Int)(r:Int×Option Nat×Option Nat)(h:((qHA gP).find? fun x=>decide (x.1=qlh c))=some r):qa Tryz.prog 232 [.i .u16 c] (.agg (qaQ r)):=qH4 (by kernel_rfl) wx (qHA gP) rfl (qEc (f:=282) (by kernel_rfl)) c r h
theorem secV:qGA Tryz.prog 231:=fun m d hl i=>qBw (by kernel_rfl) wx m d hl i
theorem cellV:quH Tryz.prog 172:=fun m d n hn=>qJj (g:=111) (by kernel_rfl) m d n hn
theorem loadV:qCk Tryz.prog 171:=fun m hm d hd i hi hc hz=>qJl (g2:=111) (by kernel_rfl) wordP cellV m hm d hd i hi hc hz
theorem qfT:qGx Tryz.prog 173:=fun m hm d i hi hc hz=>qHU (g2:=111) (by kernel_rfl) secV (byN prs byV) m hm d i hi hc hz
theorem jumpV:qCi Tryz.prog 174:=fun m d hl i hi hc=>qJk (by kernel_rfl) (byJ prs byV) secV m d hl i hi hc
theorem doV:qIp Tryz.prog 113:=fun m hm d hd i hi hz=>qJN (g6:=111) (by kernel_rfl) ofM loadV cellV qfT jumpV m hm d hd i hi hz
theorem runV:qGy Tryz.prog 24:=fun p hp d hd=>qJL (by kernel_rfl) (qFZ (f:=62) (fd:=110) (g1:=111) (by kernel_rfl) ofM doV) p hp d hd
theorem qmy:quK Tryz.prog 233:=qxY (by kernel_rfl)
theorem cntF:∀l:List Int,l.length<=qi->qa Tryz.prog 175 [.fz l.length (rI .i64 l),.fn 176 [] []] (.b (l.any fun a=>decide (a<0)||decide (6<=a))):=fun l hl=>qxW (by kernel_rfl) qmy l _ _ (qH8 (by kernel_rfl)) hl
theorem cntI:∀(l:List Int) (x:Int),l.length<=qi->qa Tryz.prog 133 [.fz l.length (rI .i64 l),.i .i64 x] (.b (decide (x ∈ l))):=fun l x hl=>qyO (by kernel_rfl) (fun xs x hl=>qFu (f:=197) (by kernel_rfl) xs x hl) l x hl
theorem allP:qa Tryz.prog 131 [] (.fz 6 (rI .i64 [0,1,2,3,4,5])):=qH2 (by kernel_rfl)
theorem cGd:∀l:List Int,l.length<=qi->qa Tryz.prog 114 [.fz l.length (rI .i64 l)] (.tup [.fz (gdA l).1.length (rSy (gdA l).1),.i .i64 (gdA l).2]):=fun l hl=>qFg (g:=234) (gp:=216) (gd:=159) (by kernel_rfl) wfn (by kernel_rfl) (by kernel_rfl) tok cntF cntI allP l hl
theorem grd:qoP Tryz.prog 26:=qJu (gd:=45) (gwG:=63) (gwO:=49) (gwL:=47) (gs:=50) (by kernel_rfl) (by kernel_rfl) (by kernel_rfl) (by kernel_rfl) (by kernel_rfl) (by kernel_rfl) cGd optP lnk
theorem knoM:qCj Tryz.prog 236:=qC1 (by kernel_rfl) byM
theorem oneP:∀i,InsOk i->∀n:Nat,qa Tryz.prog 115 [.agg (qI i),.i .i64 (n:Int)] (.i .i64 (qd4 i n)):=fun i hi n=>by
 have h:=qHt (P:=Tryz.prog) (f:=115) (g0:=180) (by kernel_rfl) i n (wsM 235 237 238 239 240 241 i n) rfl (qBH (by kernel_rfl) i n) (by
  intro x hx;simp only[wsM,List.mem_cons,List.not_mem_nil,or_false] at hx;rcases hx with rfl|rfl|rfl|rfl|rfl|rfl
  ·exact qJo (by kernel_rfl) knoM i n
  ·exact qJp (by kernel_rfl) i hi n
  ·exact qJq (by kernel_rfl) ofM i n
  ·exact qJr (by kernel_rfl) i n
  ·exact qJs (by kernel_rfl) i n
  ·exact qJt (by kernel_rfl) ofM i hi n)
 rw[qIi] at h;exact h
theorem come:qq9 Tryz.prog 242:=fun s r hr j hj x=>qGE (by kernel_rfl) s r hr j hj x
theorem wrP:cWr Tryz.prog 244:=fun i hi=>qBG (by kernel_rfl) ofM i hi
theorem vis:qGB Tryz.prog 182:=fun p hp l hl j i hj hi x=>qFY (by kernel_rfl) (qEu (f:=183) (by kernel_rfl)) p hp l hl j i hj hi x
theorem uns:∀p:List Ins,p.length<=4096->(∀i ∈ p,InsOk i)->qa Tryz.prog 116 [.fz p.length (rP p)] (.fz (qd5 p).length (rNt (qd5 p))):=fun p hp hi =>
 qBz (by kernel_rfl) (g0:=181) (g2:=284) (by kernel_rfl) (gw:=283) (by kernel_rfl) ofM (by kernel_rfl) come wrP vis (qIk (f:=243) (by kernel_rfl)) p hp hi
theorem chkAt:cAt Tryz.prog 64:=qyM (by kernel_rfl) oneP ofM uns
theorem idxC:qfH 2 Tryz.prog 186:=qrs (by kernel_rfl)
theorem idxK:qfH 7 Tryz.prog 286:=qvP (by kernel_rfl)
theorem tabK:qa Tryz.prog 285 [] (.agg (zp.flatMap qbg)):=qEU (by kernel_rfl)
theorem known:∀s,qa Tryz.prog 189 [.s s] (.b (qjS s)):=qC8 (by kernel_rfl) (qBh (f:=246) (by kernel_rfl)) (qCp (f:=245) (by kernel_rfl) tabK idxK)
theorem may:qJM Tryz.prog 128:=qHf (by kernel_rfl) known (qAV (f:=190) (by kernel_rfl))
theorem archT:qa Tryz.prog 184 [] (.agg (zH.flatMap (qa1 .u32))):=qB2 (by kernel_rfl)
theorem archNm:∀a,qa Tryz.prog 124 [.i .i64 a] (.s (qhM a)):=qGm (by kernel_rfl) archT
theorem contI:∀(xs:List Int) (x:Int),xs.length<=qi->qa Tryz.prog 133 [.fz xs.length (rI .i64 xs),.i .i64 x] (.b (decide (x ∈ xs))):=qyO (by kernel_rfl) (qFu (f:=197) (by kernel_rfl))
theorem archI:∀(xs:List Int) (x:Int),xs.length<=qi->qa Tryz.prog 192 [.fz xs.length (rI .i64 xs),.i .i64 x] (.b (inA xs x)):=qIm (by kernel_rfl) contI
theorem spT:qa Tryz.prog 191 [] (.agg (qR.flatMap (qa1 .u64))):=qBx (by kernel_rfl)
theorem mayP19:∀p,PolOk p->qa Tryz.prog 70 [.agg (qx p)] (.b (qhK p)):=qFD (by kernel_rfl)
 (qu4 (f:=120) (by kernel_rfl) idxC) (qJw (f:=121) (by kernel_rfl))
 (qFK (f:=122) (by kernel_rfl)) (qJx (f:=123) (by kernel_rfl) archNm)
 (qFL (f:=125) (by kernel_rfl)) (qJy (f:=126) (by kernel_rfl) (qCN (f:=127) (by kernel_rfl) (qxX (f:=187) (by kernel_rfl)) (qIM (f:=188) (by kernel_rfl))))
 may (qEK (f:=129) (by kernel_rfl) spT)
theorem numb:∀(a:Int) (s:List UInt8),qa Tryz.prog 324 [.i .i64 a,.s s] (match qgq a s with|some n=>.tup [.i .u32 n,.i .i64 0]|none=>.tup [.i .u32 0,.i .i64 90]):=qBq (by kernel_rfl) (qHk (f:=331) (by kernel_rfl)) (qCp (f:=245) (by kernel_rfl) tabK idxK) (qIh (f:=332) (by kernel_rfl))
theorem ruleU:qcP Tryz.prog 287:=qHH (by kernel_rfl) numb (qCr (f:=109) (by kernel_rfl))
theorem lst:∀mode n al dn,qa Tryz.prog 289 [.i .u8 mode,.i .i64 (n:Nat),.b al,.b dn] (.b (xr mode n al dn)):=qDf (by kernel_rfl)
theorem tstO:qnK Tryz.prog 290:=qFR (by kernel_rfl)
theorem bitO:qnH Tryz.prog 292:=qGr (by kernel_rfl)
theorem flg:∀s,qa Tryz.prog 291 [.i .u64 s] (.fz (qaR s).length (rI .u64 (qaR s))):=qCR (by kernel_rfl) spT
theorem coded26:qmM Tryz.prog 194:=⟨_,Tryz.func194,by decide,by decide⟩
theorem low:qyB Tryz.prog 132:=fun p hp hR d a=>qDk (by kernel_rfl) archNm mayP19 archI (qBl (f:=193) (by kernel_rfl)) (qHK coded26 Tryz.sortKit)
 (qBn (f:=247) (by kernel_rfl) (qIO (f:=288) (by kernel_rfl)) ruleU lst) (qHg (f:=248) (by kernel_rfl) ruleU lst) (qx0 (f:=249) (by kernel_rfl) tstO.pure ruleU lst)
 (qt4 (f:=250) (by kernel_rfl) flg bitO tstO.pure ruleU) (qrI (f:=251) (by kernel_rfl) bitO.pure ruleU) (qtv (f:=252) (by kernel_rfl) tstO.pure ruleU) (qx1 (f:=253) (by kernel_rfl) tstO.pure ruleU)
 qzE p hp hR d a
theorem lessP:qGw Tryz.prog 40:=fun a b ha hb=>qHZ (by kernel_rfl) (qH1 (f:=87) (by kernel_rfl)) a b ha hb
theorem com:quI Tryz.prog 134:=qBT (g3:=257) (by kernel_rfl) (qGp (f:=198) (by kernel_rfl)) (by kernel_rfl) (qGj (f:=199) (by kernel_rfl) lessP)
theorem comb:quI Tryz.prog 73:=qxV (by kernel_rfl) com
theorem mayA:qA1 Tryz.prog 43:=qAE (by kernel_rfl) (qu5 (f:=93) (by kernel_rfl) (qrt (f:=150) (by kernel_rfl)))
 (qHe (f:=94) (by kernel_rfl) (qDp (f:=95) (by kernel_rfl) (qFe (f:=27) (by kernel_rfl) (qA5 (f:=64) (g1:=115) (g2:=112) (g3:=116) (by kernel_rfl) chkAt))))
theorem g16:qCh Tryz.prog 91:=fun b hb hl a ha=>qJm (by kernel_rfl) (qJn (f:=147) (by kernel_rfl)) b hb hl a ha
theorem evP:qsE Tryz.prog 37:=fun l hl hx d hd=>Go.Kc.qFP (by kernel_rfl) mayA runV comb l hl hx d hd
theorem bldP:quG Tryz.prog 30:=qCd (g:=130) (by kernel_rfl) mayP19 (qHy (f:=71) (by kernel_rfl)) (by kernel_rfl) allP low grd cmp
theorem awake:qa Tryz.prog 39 [] (.b true):=qH3 (by kernel_rfl) (qJz (f:=84) (by kernel_rfl)) (qIr (f:=86) (by kernel_rfl)) (qEV (gT:=85) (by kernel_rfl) bldP evP) (qFJ (f:=42) (g2:=92) (g3:=43) (by kernel_rfl) g16)
theorem stackAlone{A:Prop}(p:Pol)(w:Int)(_:A)(d:GData)(hR:PolR p)(hd:DatOk d):qa Tryz.prog 9 [.agg (qx p),.i .i64 w,.agg (zt d)] (.b true) :=
 qt3 (by kernel_rfl) awake (qH7 (f:=29) (by kernel_rfl)) bldP evP lessP p hR w d hd
end Go.Proofs.YtgaodkfneooonaaGreat.Walk
