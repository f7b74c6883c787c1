/- StackChecked at this program's numbers. No condition. -/
import Derived.Test.YtgaodkfneooonaaGreatCK12
import Derived.Test.YtgaodkfneooonaaGreatCK12
import Derived.Test.YtgaodkfneooonaaGreatCK12
import Derived.Test.YtgaodkfneooonaaGreatCK12
import Derived.Test.YtgaodkfneooonaaGreatCK12
import Derived.Test.YtgaodkfneooonaaGreatCK6
import Derived.Test.YtgaodkfneooonaaGreatCK5
import Derived.Test.YtgaodkfneooonaaGreatProg
import Derived.Test.YtgaodkfneooonaaGreatSortL
import Derived.KernelRfl
namespace Go.Proofs.YtgaodkfneooonaaGreat.Walk
open Go.Kc
theorem ent:qa Tryz.prog 279 [] (.agg (qaO.flatMap qc5)):=qBd (by kernel_rfl)
theorem byM:∀n,qa Tryz.prog 170 [.i .u16 n] (.tup [.agg (qfc (qag n)),.b (xE n)]):=qIl (by kernel_rfl) (qG8 (f:=229) (by kernel_rfl)) (fun _ _ _ ha hc p hp=>qFG (f:=228) (by kernel_rfl) ent ha hc p hp)
theorem ofM:cOf Tryz.prog 112:=qIk (by kernel_rfl) byM
theorem hal:qyB Tryz.prog 264:=fun x h0 h1=>qBg (by kernel_rfl) x h0 h1
theorem wid:qIB Tryz.prog 309:=fun x l hl=>qH6 (by kernel_rfl) x l hl
theorem wordP:quS Tryz.prog 230:=fun d hd k h0 h1=>qGU (by kernel_rfl) (qFv (f:=280) (by kernel_rfl) wid hal) d hd k h0 h1
theorem knwA:∀n,qa Tryz.prog 57 [.i .u32 n] (.b (knA n)):=qGu (by kernel_rfl) (qIa (f:=105) (by kernel_rfl) (qGw (f:=169) (by kernel_rfl)) (qIb (f:=87) (by kernel_rfl)))
theorem mayRl:∀r:GRule,r.tests.length<=100000->qa Tryz.prog 58 [.agg (zw r)] (.b (qb1 r)):=qIq (by kernel_rfl) (fun l k a c p ha hc hk hl=>qCT (f:=67) (by kernel_rfl) (qrE (f:=119) (by kernel_rfl)) l k a c p ha hc hk hl)
 (qFP (f:=106) (by kernel_rfl) (qIr (f:=107) knwA (by kernel_rfl))) knwA
theorem mayF:qA1 Tryz.prog 22:=fun x hx=>qJQ (by kernel_rfl) knwA mayRl x hx.1 hx.2
theorem plA:∀a b:Int,0<=a->a<6->0<=b->b<=4->qa Tryz.prog 304 [.i .i64 a,.i .i64 b] (.tup [.i .u32 (16+8*a+b),.b true]):=fun a b h0 h6 hb0 hb=>qEo (by kernel_rfl) a b h0 h6 hb0 hb
theorem lo:qsN Tryz.prog 262 0:=fun a h0 h6=>by have:=qFM (f:=262) (by kernel_rfl) plA a h0 h6;simpa using this
theorem hi:qsN Tryz.prog 263 4:=fun a h0 h6=>qC5 (by kernel_rfl) plA a h0 h6
theorem tok:qqz Tryz.prog 178:=fun a h0 h6=>qFc (by kernel_rfl) (qB6 (f:=184) (by kernel_rfl)) a h0 h6
theorem wfn:WFn Tryz.prog 234 177 216 179 156 157:=⟨by kernel_rfl,by kernel_rfl,by kernel_rfl,by kernel_rfl,by kernel_rfl⟩
theorem efn:EFn Tryz.prog 234 177 216 179 156 157 152 155 158 159 217 265 262 263 264 178 :=
 ⟨wfn,by kernel_rfl,by kernel_rfl,by kernel_rfl,by kernel_rfl,by kernel_rfl,by kernel_rfl,by kernel_rfl,lo,hi,hal,tok⟩
theorem spn:qA4 Tryz.prog 153:=qJt (g1:=213) (g2:=212) (g3:=261) (h1:=260) (by kernel_rfl) (by kernel_rfl) (by kernel_rfl) (by kernel_rfl) (by kernel_rfl)
theorem tre:qA5 Tryz.prog 154:=qJw (g1:=214) (g2:=215) (by kernel_rfl) (by kernel_rfl) (by kernel_rfl)
theorem emi:quL Tryz.prog 98:=qIG (by kernel_rfl) efn mayF spn tre
theorem twn:∀r:GRule,r.tests.length<=100000->qa Tryz.prog 61 [.agg (zw r)] (.agg (zw r)):=fun r hl=>qF4 (by kernel_rfl) (qCx (qCw (f:=109) (by kernel_rfl))) r hl
theorem nor:quN Tryz.prog 100:=qIU (g2:=162) (by kernel_rfl) mayF fun r hl=>qBs (by kernel_rfl) twn (qrE (f:=119) (by kernel_rfl)) (qHt (f:=221) (by kernel_rfl)) r hl
theorem mayL:∀l,MayL l->qa Tryz.prog 218 [.fz l.length (rSy l)] (.b true):=fun l hl=>qIT (g:=266) (by kernel_rfl) (fun s j n h1 h2 h3=>qFN (g1:=305) (g2:=230) (g3:=306) (by kernel_rfl) (qFa (by kernel_rfl)) wordP (qFn (by kernel_rfl)) s j n h1 h2 h3) l hl
theorem asks:qgt Tryz.prog 274:=qIu (by kernel_rfl) ofM
theorem clS:qbz Tryz.prog 272 4 24:=qFq (by kernel_rfl)
theorem bkS:∀l:List Sy,qa Tryz.prog 219 [.fz l.length (rSy l)] (.fn 267 [] [.pf [.fz l.length (rSy l)] 0]):=qGA (by kernel_rfl)
theorem bkI:∀l:List Ins,qa Tryz.prog 307 [.fz l.length (rP l)] (.fn 330 [] [.pf [.fz l.length (rP l)] 0]):=qGz (by kernel_rfl)
theorem optP:qyE Tryz.prog 101:=qJW (g1:=163) (g2:=164) (gs:=222) (gt:=223) (gl:=224) (s1:=271) (s2:=270) (t1:=273) (v1:=275) (v2:=276)
 (by kernel_rfl) (by kernel_rfl) (by kernel_rfl) mayL (by kernel_rfl) (by kernel_rfl) (by kernel_rfl) clS ofM asks (by kernel_rfl) (by kernel_rfl) bkS (by kernel_rfl) (by kernel_rfl) (by kernel_rfl) (by kernel_rfl)
theorem lkOne:qyD Tryz.prog 220:=qJV (gD:=269) (gP:=268) (by kernel_rfl) (by kernel_rfl) ofM (by kernel_rfl) bkI (by kernel_rfl)
theorem lnk:qrp Tryz.prog 99:=qIR (g1:=160) (g2:=161) (by kernel_rfl) (by kernel_rfl) (by kernel_rfl) mayL bkS (by kernel_rfl) lkOne
theorem cmp:qmL Tryz.prog 13:=qIE (gd:=45) (gwN:=48) (gwE:=46) (gwO:=49) (gwL:=47) (gs:=50) (by kernel_rfl) (by kernel_rfl) (by kernel_rfl) (by kernel_rfl) (by kernel_rfl) (by kernel_rfl) (by kernel_rfl) emi nor optP lnk
theorem wx:cWX Tryz.prog 281:=fun c=>qFk (by kernel_rfl) byM c
def gP(n:Nat):Nat:=([0,310,311,312,313,314,315,316,317,318,319,320,321,322,323]:List Nat).getD n 0
theorem prs:Prs Tryz.prog gP:=⟨qJX (by kernel_rfl),qJY (by kernel_rfl),qJZ (by kernel_rfl),qJ0 (by kernel_rfl),qJ1 (by kernel_rfl),qJ2 (by kernel_rfl),qJ3 (by kernel_rfl),qJ4 (by kernel_rfl),qJ5 (by kernel_rfl),qI1 (by kernel_rfl),qI2 (by kernel_rfl),qI3 (by kernel_rfl),qI4 (by kernel_rfl),qI5 (by kernel_rfl)⟩
theorem byV(c:Int)(r:Int×Option Nat×Option Nat)(h:((qHL gP).find? fun x=>decide (x.1=qln c))=some r):qa Tryz.prog 232 [.i .u16 c] (.agg (qaT r)):=qIe (by kernel_rfl) wx (qHL gP) rfl (qEm (f:=282) (by kernel_rfl)) c r h
theorem secV:qGN Tryz.prog 231:=fun m d hl i=>qBz (by kernel_rfl) wx m d hl i
theorem cellV:quJ Tryz.prog 172:=fun m d n hn=>qJy (g:=111) (by kernel_rfl) m d n hn
theorem loadV:qCo Tryz.prog 171:=fun m hm d hd i hi hc hz=>qJA (g2:=111) (by kernel_rfl) wordP cellV m hm d hd i hi hc hz
theorem qfP:qGK Tryz.prog 173:=fun m hm d i hi hc hz=>qH4 (g2:=111) (by kernel_rfl) secV (byN prs byV) m hm d i hi hc hz
theorem jumpV:qCm Tryz.prog 174:=fun m d hl i hi hc=>qJz (by kernel_rfl) (byJ prs byV) secV m d hl i hi hc
theorem doV:qIA Tryz.prog 113:=fun m hm d hd i hi hz=>qJ9 (g6:=111) (by kernel_rfl) ofM loadV cellV qfP jumpV m hm d hd i hi hz
theorem runV:qGM Tryz.prog 24:=fun p hp d hd=>qJ6 (by kernel_rfl) (qGb (f:=62) (fd:=110) (g1:=111) (by kernel_rfl) ofM doV) p hp d hd
theorem qmB:quM Tryz.prog 233:=qx4 (by kernel_rfl)
theorem cntF:∀l:List Int,l.length<=qf->qa Tryz.prog 175 [.fz l.length (rI .i64 l),.fn 176 [] []] (.b (l.any fun a=>decide (a<0)||decide (6<=a))):=fun l hl=>qx2 (by kernel_rfl) qmB l _ _ (qIj (by kernel_rfl)) hl
theorem cntI:∀(l:List Int) (x:Int),l.length<=qf->qa Tryz.prog 133 [.fz l.length (rI .i64 l),.i .i64 x] (.b (decide (x ∈ l))):=fun l x hl=>qyQ (by kernel_rfl) (fun xs x hl=>qFF (f:=197) (by kernel_rfl) xs x hl) l x hl
theorem allP:qa Tryz.prog 131 [] (.fz 6 (rI .i64 [0,1,2,3,4,5])):=qIc (by kernel_rfl)
theorem cGd:∀l:List Int,l.length<=qf->qa Tryz.prog 114 [.fz l.length (rI .i64 l)] (.tup [.fz (gdA l).1.length (rSy (gdA l).1),.i .i64 (gdA l).2]):=fun l hl=>qFr (g:=234) (gp:=216) (gd:=159) (by kernel_rfl) wfn (by kernel_rfl) (by kernel_rfl) tok cntF cntI allP l hl
theorem grd:qsM Tryz.prog 26:=qJP (gd:=45) (gwG:=63) (gwO:=49) (gwL:=47) (gs:=50) (by kernel_rfl) (by kernel_rfl) (by kernel_rfl) (by kernel_rfl) (by kernel_rfl) (by kernel_rfl) cGd optP lnk
theorem knoM:qCn Tryz.prog 236:=qC6 (by kernel_rfl) byM
theorem oneP:∀i,InsOk i->∀n:Nat,qa Tryz.prog 115 [.agg (qC i),.i .i64 (n:Int)] (.i .i64 (qea i n)):=fun i hi n=>by
 have h:=qHD (P:=Tryz.prog) (f:=115) (g0:=180) (by kernel_rfl) i n (wsM 235 237 238 239 240 241 i n) rfl (qBK (by kernel_rfl) i n) (by
  intro x hx;simp only[wsM,List.mem_cons,List.not_mem_nil,or_false] at hx;rcases hx with rfl|rfl|rfl|rfl|rfl|rfl
  ·exact qJJ (by kernel_rfl) knoM i n
  ·exact qJK (by kernel_rfl) i hi n
  ·exact qJL (by kernel_rfl) ofM i n
  ·exact qJM (by kernel_rfl) i n
  ·exact qJN (by kernel_rfl) i n
  ·exact qJO (by kernel_rfl) ofM i hi n)
 rw[qIt] at h;exact h
theorem come:qro Tryz.prog 242:=fun s r hr j hj x=>qGR (by kernel_rfl) s r hr j hj x
theorem wrP:cWr Tryz.prog 244:=fun i hi=>qBJ (by kernel_rfl) ofM i hi
theorem vis:qGO Tryz.prog 182:=fun p hp l hl j i hj hi x=>qGa (by kernel_rfl) (qEH (f:=183) (by kernel_rfl)) p hp l hl j i hj hi x
theorem uns:∀p:List Ins,p.length<=4096->(∀i ∈ p,InsOk i)->qa Tryz.prog 116 [.fz p.length (rP p)] (.fz (qeb p).length (rNt (qeb p))):=fun p hp hi =>
 qBC (by kernel_rfl) (g0:=181) (g2:=284) (by kernel_rfl) (gw:=283) (by kernel_rfl) ofM (by kernel_rfl) come wrP vis (qIv (f:=243) (by kernel_rfl)) p hp hi
theorem chkAt:cAt Tryz.prog 64:=qyN (by kernel_rfl) oneP ofM uns
theorem idxC:qfC 2 Tryz.prog 186:=qrC (by kernel_rfl)
theorem idxK:qfC 7 Tryz.prog 286:=qvT (by kernel_rfl)
theorem tabK:qa Tryz.prog 285 [] (.agg (zf.flatMap qbh)):=qE7 (by kernel_rfl)
theorem known:∀s,qa Tryz.prog 189 [.s s] (.b (qj7 s)):=qDf (by kernel_rfl) (qBk (f:=246) (by kernel_rfl)) (qCu (f:=245) (by kernel_rfl) tabK idxK)
theorem may:qJ8 Tryz.prog 128:=qHp (by kernel_rfl) known (qAU (f:=190) (by kernel_rfl))
theorem archT:qa Tryz.prog 184 [] (.agg (xc.flatMap (qa5 .u32))):=qB6 (by kernel_rfl)
theorem archNm:∀a,qa Tryz.prog 124 [.i .i64 a] (.s (qhR a)):=qGy (by kernel_rfl) archT
theorem contI:∀(xs:List Int) (x:Int),xs.length<=qf->qa Tryz.prog 133 [.fz xs.length (rI .i64 xs),.i .i64 x] (.b (decide (x ∈ xs))):=qyQ (by kernel_rfl) (qFF (f:=197) (by kernel_rfl))
theorem archI:∀(xs:List Int) (x:Int),xs.length<=qf->qa Tryz.prog 192 [.fz xs.length (rI .i64 xs),.i .i64 x] (.b (inA xs x)):=qIx (by kernel_rfl) contI
theorem spT:qa Tryz.prog 191 [] (.agg (qS.flatMap (qa5 .u64))):=qBA (by kernel_rfl)
theorem mayP19:∀p,PolOk p->qa Tryz.prog 70 [.agg (qB p)] (.b (qjt p)):=qFO (by kernel_rfl)
 (qu6 (f:=120) (by kernel_rfl) idxC) (qJR (f:=121) (by kernel_rfl))
 (qFW (f:=122) (by kernel_rfl)) (qJS (f:=123) (by kernel_rfl) archNm)
 (qFX (f:=125) (by kernel_rfl)) (qJT (f:=126) (by kernel_rfl) (qCQ (f:=127) (by kernel_rfl) (qx3 (f:=187) (by kernel_rfl)) (qIY (f:=188) (by kernel_rfl))))
 may (qEV (f:=129) (by kernel_rfl) spT)
theorem numb:∀(a:Int) (s:List UInt8),qa Tryz.prog 324 [.i .i64 a,.s s] (match qgm a s with|some n=>.tup [.i .u32 n,.i .i64 0]|none=>.tup [.i .u32 0,.i .i64 90]):=qBt (by kernel_rfl) (qHu (f:=331) (by kernel_rfl)) (qCu (f:=245) (by kernel_rfl) tabK idxK) (qIs (f:=332) (by kernel_rfl))
theorem ruleU:qcQ Tryz.prog 287:=qHS (by kernel_rfl) numb (qCw (f:=109) (by kernel_rfl))
theorem lst:∀mode n al dn,qa Tryz.prog 289 [.i .u8 mode,.i .i64 (n:Nat),.b al,.b dn] (.b (xv mode n al dn)):=qDm (by kernel_rfl)
theorem tstO:qnM Tryz.prog 290:=qF3 (by kernel_rfl)
theorem bitO:qnL Tryz.prog 292:=qGD (by kernel_rfl)
theorem flg:∀s,qa Tryz.prog 291 [.i .u64 s] (.fz (qaU s).length (rI .u64 (qaU s))):=qCU (by kernel_rfl) spT
theorem coded26:qmP Tryz.prog 194:=⟨_,Tryz.func194,by decide,by decide⟩
theorem low:qyC Tryz.prog 132:=fun p hp hR d a=>qDr (by kernel_rfl) archNm mayP19 archI (qBo (f:=193) (by kernel_rfl)) (qHV coded26 Tryz.sortKit)
 (qBq (f:=247) (by kernel_rfl) (qI0 (f:=288) (by kernel_rfl)) ruleU lst) (qHq (f:=248) (by kernel_rfl) ruleU lst) (qx5 (f:=249) (by kernel_rfl) tstO.pure ruleU lst)
 (qub (f:=250) (by kernel_rfl) flg bitO tstO.pure ruleU) (qrR (f:=251) (by kernel_rfl) bitO.pure ruleU) (qtE (f:=252) (by kernel_rfl) tstO.pure ruleU) (qx6 (f:=253) (by kernel_rfl) tstO.pure ruleU)
 qzF p hp hR d a
theorem lessP:qGJ Tryz.prog 40:=fun a b ha hb=>qH9 (by kernel_rfl) (qIb (f:=87) (by kernel_rfl)) a b ha hb
theorem com:quK Tryz.prog 134:=qBW (g3:=257) (by kernel_rfl) (qGB (f:=198) (by kernel_rfl)) (by kernel_rfl) (qGv (f:=199) (by kernel_rfl) lessP)
theorem comb:quK Tryz.prog 73:=qx1 (by kernel_rfl) com
theorem mayA:qoV Tryz.prog 43:=qAE (by kernel_rfl) (qu7 (f:=93) (by kernel_rfl) (qrD (f:=150) (by kernel_rfl)))
 (qHo (f:=94) (by kernel_rfl) (qDw (f:=95) (by kernel_rfl) (qFp (f:=27) (by kernel_rfl) (qA6 (f:=64) (g1:=115) (g2:=112) (g3:=116) (by kernel_rfl) chkAt))))
theorem g16:qqx Tryz.prog 91:=fun b hb hl a ha=>qJB (by kernel_rfl) (qJF (f:=147) (by kernel_rfl)) b hb hl a ha
theorem evP:qCk Tryz.prog 37:=fun l hl hx d hd=>Go.Kc.qF1 (by kernel_rfl) mayA runV comb l hl hx d hd
theorem bldP:qyA Tryz.prog 30:=qCf (g:=130) (by kernel_rfl) mayP19 (qHI (f:=71) (by kernel_rfl)) (by kernel_rfl) allP low grd cmp
theorem awake:qa Tryz.prog 39 [] (.b true):=qId (by kernel_rfl) (qJU (f:=84) (by kernel_rfl)) (qIC (f:=86) (by kernel_rfl)) (qE8 (gT:=85) (by kernel_rfl) bldP evP) (qFU (f:=42) (g2:=92) (g3:=43) (by kernel_rfl) g16)
theorem p16:∀x:Int,qa Tryz.prog 90 [.i .u16 x] (.fz 2 (rB (xw 2 x))):=qJD (by kernel_rfl) (qJH (f:=146) (by kernel_rfl))
theorem p32:∀x:Int,qa Tryz.prog 258 [.i .u32 x] (.fz 4 (rB (xw 4 x))):=qJE (by kernel_rfl) (qJI (f:=303) (by kernel_rfl))
theorem cat:qlo Tryz.prog 89:=qKa (by kernel_rfl) (qA9 (f:=145) (by kernel_rfl) (qG6 (f:=208) (by kernel_rfl)))
theorem prI:qGL Tryz.prog 88:=qC8 (g3:=206) (by kernel_rfl) (qIg (f:=144) (by kernel_rfl)) (by kernel_rfl) cat (qBi (f:=207) (by kernel_rfl) p16 p32 cat)
theorem g32:qCl Tryz.prog 210:=fun b hb hl a ha=>qJC (by kernel_rfl) (qJG (f:=259) (by kernel_rfl)) b hb hl a ha
theorem insP:qA0 Tryz.prog 92:=qGI fun b hb hl=>qC7 (by kernel_rfl) (qID (f:=148) (g:=209) (by kernel_rfl)) (by kernel_rfl) (qBh (f:=149) (by kernel_rfl) g16 g32) b hb hl
theorem chkP:qJ7 Tryz.prog 27:=qFp (by kernel_rfl) (qA6 (f:=64) (g1:=115) (g2:=112) (g3:=116) (by kernel_rfl) chkAt)
theorem samS:qA3 Tryz.prog 44:=qF2 (by kernel_rfl) (qIh (f:=96) (by kernel_rfl) 97 (qE4 (f:=97) (by kernel_rfl) (qG7 (f:=151) (by kernel_rfl) (qIL (f:=211) (by kernel_rfl)))))
theorem stackChecked(p:Pol)(o:Bool)(hR:PolR p):qa Tryz.prog 10 [.agg (qB p),.b o] (.b true) :=
 qtp (by kernel_rfl) awake (qIi (f:=29) (by kernel_rfl)) bldP (qE3 (f:=41) (by kernel_rfl) mayA prI p16 cat)
  (fun l hl hm hx=>qFV (f:=42) (by kernel_rfl) g16 insP mayA hl hm hx) mayA samS chkP p hR o
end Go.Proofs.YtgaodkfneooonaaGreat.Walk
