/- SheetCalls at this program's numbers. No condition. -/
import Derived.Test.YtjllccjpflmjfaaGreatDoorVK7
import Derived.Test.YtjllccjpflmjfaaGreatDoorArgsE
import Derived.Test.YtjllccjpflmjfaaGreatDoorVK4
import Derived.Test.YtjllccjpflmjfaaGreatDoorVK3
import Derived.Test.YtjllccjpflmjfaaGreatDoorFacT
import Derived.Test.YtjllccjpflmjfaaGreatDoorDraftK
import Derived.Test.YtjllccjpflmjfaaGreatDoorItoaL
import Derived.Test.YtjllccjpflmjfaaGreatDoorSortL
import Derived.Lib.LaidTab
import Derived.LaidSub
import Derived.MakeChecks
import Derived.KernelRfl
namespace Go.Proofs.YtjllccjpflmjfaaGreatDoor.Walk
open Go.Kc EnvS
noncomputable abbrev T:=Tryz.prog
theorem ent:qa T 318 [] (.agg (qaK.flatMap qdh)):=qD1 Aa
theorem byM:∀n,qa T 183 [.i .u16 n] (.tup [.agg (qfl (qai n)),.b (xf n)]):=qLh Aa (qJ0 (f:=249) Aa) (fun _ _ _ ha hc p hp=>qIA (f:=248) Aa ent ha hc p hp)
theorem ofM:cOf T 131:=qLg Aa byM
theorem hal:qA4 T 312:=fun x h0 h1=>qD7 Aa x h0 h1
theorem wid:qLx T 361:=fun x l hl=>qK3 Aa x l hl
theorem wordP:qw0 T 250:=fun d hd k h0 h1=>qJJ Aa (qIo (f:=319) Aa wid hal) d hd k h0 h1
theorem knwA:∀n,qa T 236 [.i .u32 n] (.b (knA n)):=qJk Aa (qK9 (f:=67) Aa (qJm (f:=104) Aa) (qLa (f:=69) Aa))
theorem mayRl:∀r:GRule,r.tests.length<=100000->qa T 237 [.agg (zx r)] (.b (qaZ r)):=qLj Aa (fun l k a c p ha hc hk hl=>qFN (f:=305) Aa (qtk (f:=244) Aa) l k a c p ha hc hk hl)
 (qIJ (f:=306) Aa (qLk (f:=307) knwA Aa)) knwA
theorem mayF:qDQ T 175:=fun x hx=>qMr Aa knwA mayRl x hx.1 hx.2
theorem plA:∀a b:Int,0<=a->a<6->0<=b->b<=4->qa T 350 [.i .i64 a,.i .i64 b] (.tup [.i .u32 (16+8*a+b),.b true]):=fun a b h0 h6 hb0 hb=>qHo Aa a b h0 h6 hb0 hb
theorem lo:quC T 310 0:=fun a h0 h6=>by have:=qIG (f:=310) Aa plA a h0 h6;exact D0
theorem hi:quC T 311 4:=fun a h0 h6=>qFY Aa plA a h0 h6
theorem tok:qqo T 41:=fun a h0 h6=>qH8 Aa (qEY (f:=49) Aa) a h0 h6
theorem wfn:WFn T 229 166 228 167 168 169:=⟨Aa,Aa,Aa,Aa,Aa⟩
theorem efn:EFn T 229 166 228 167 168 169 176 179 180 170 242 313 310 311 312 41 :=
 ⟨wfn,Aa,Aa,Aa,Aa,Aa,Aa,Aa,lo,hi,hal,tok⟩
theorem spn:qDT T 177:=qL9 (g1:=239) (g2:=238) (g3:=309) (h1:=308) Aa Aa Aa Aa Aa
theorem tre:qDU T 178:=qMc (g1:=240) (g2:=241) Aa Aa Aa
theorem emi:qwS T 125:=qLB Aa efn mayF spn tre
theorem twn:∀r:GRule,r.tests.length<=100000->qa T 243 [.agg (zx r)] (.agg (zx r)):=fun r hl=>qIW Aa (qFq (qFp (f:=290) Aa)) r hl
theorem nor:qwV T 126:=qLS (g2:=181) Aa mayF fun r hl=>qEj Aa twn (qtk (f:=244) Aa) (qKm (f:=245) Aa) r hl
theorem mayL:∀l,MayL l->qa T 230 [.fz l.length (rSy l)] (.b true):=fun l hl=>qLR (g:=294) Aa (fun s j n h1 h2 h3=>qIH (g1:=347) (g2:=250) (g3:=348) Aa (qH4 Aa) wordP (qIj Aa) s j n h1 h2 h3) l hl
theorem asks:qgZ T 302:=qLn Aa ofM
theorem clS:qbB T 300 4 24:=qIl Aa
theorem bkS:∀l:List Sy,qa T 231 [.fz l.length (rSy l)] (.fn 295 [] [.pf [.fz l.length (rSy l)] 0]):=qJq Aa
theorem bkI:∀l:List Ins,qa T 349 [.fz l.length (rP l)] (.fn 409 [] [.pf [.fz l.length (rP l)] 0]):=qJp Aa
theorem optP:qA7 T 124:=qMw (g1:=173) (g2:=174) (gs:=233) (gt:=234) (gl:=235) (s1:=299) (s2:=298) (t1:=301) (v1:=303) (v2:=304)
 Aa Aa Aa mayL Aa Aa Aa clS ofM asks Aa Aa bkS Aa Aa Aa Aa
theorem lkOne:qA6 T 232:=qMv (gD:=297) (gP:=296) Aa Aa ofM Aa bkI Aa
theorem lnk:qsU T 123:=qLP (g1:=171) (g2:=172) Aa Aa Aa mayL bkS Aa lkOne
theorem cmp:qwR T 63:=qLy (gd:=92) (gwN:=98) (gwE:=97) (gwO:=95) (gwL:=94) (gs:=96) Aa Aa Aa Aa Aa Aa Aa emi nor optP lnk
theorem wx:cWX T 320:=fun c=>qIh Aa byM c
def gP(n:Nat):Nat:=([0,362,363,364,365,366,367,368,369,370,371,372,373,374,375]:List Nat).getD n 0
theorem prs:Prs T gP:=⟨qMx Aa,qMy Aa,qMz Aa,qMA Aa,qMB Aa,qMC Aa,qMD Aa,qME Aa,qMF Aa,qLZ Aa,qL0 Aa,qL1 Aa,qL2 Aa,qL3 Aa⟩
theorem byV(c:Int)(r:Int×Option Nat×Option Nat)(h:((qKC gP).find? fun x=>decide (x.1=qmp c))=some r):qa T 252 [.i .u16 c] (.agg (qaM r)):=qLd Aa wx (qKC gP) rfl (qHn (f:=321) Aa) c r h
theorem secV:qJB T 251:=fun m d hl i=>qEq Aa wx m d hl i
theorem cellV:qwP T 185:=fun m d n hn=>qMd (g:=130) Aa m d n hn
theorem loadV:qFh T 184:=fun m hm d hd i hi hc hz=>qMf (g2:=130) Aa wordP cellV m hm d hd i hi hc hz
theorem qds:qJz T 186:=fun m hm d i hi hc hz=>qK1 (g2:=130) Aa secV (byN prs byV) m hm d i hi hc hz
theorem jumpV:qFf T 187:=fun m d hl i hi hc=>qMe Aa (byJ prs byV) secV m d hl i hi hc
theorem doV:qLw T 132:=fun m hm d hd i hi hz=>qML (g6:=130) Aa ofM loadV cellV qds jumpV m hm d hd i hi hz
theorem runV:qJA T 65:=fun p hp d hd=>qMG Aa (qI2 (f:=102) (fd:=129) (g1:=130) Aa ofM doV) p hp d hd
theorem qnP:qwT T 227:=qAs Aa
theorem cntF:∀l:List Int,l.length<=qe->qa T 164 [.fz l.length (rI .i64 l),.fn 165 [] []] (.b (l.any fun a=>decide (a<0)||decide (6<=a))):=fun l hl=>qAp Aa qnP l _ _ (qLf Aa) hl
theorem cntI:∀(l:List Int) (x:Int),l.length<=qe->qa T 155 [.fz l.length (rI .i64 l),.i .i64 x] (.b (decide (x ∈ l))):=fun l x hl=>qBp Aa (fun xs x hl=>qIz (f:=212) Aa xs x hl) l x hl
theorem allP:qa T 90 [] (.fz 6 (rI .i64 [0,1,2,3,4,5])):=qLc Aa
theorem cGd:∀l:List Int,l.length<=qe->qa T 122 [.fz l.length (rI .i64 l)] (.tup [.fz (gdA l).1.length (rSy (gdA l).1),.i .i64 (gdA l).2]):=fun l hl=>qIm (g:=229) (gp:=228) (gd:=170) Aa wfn Aa Aa tok cntF cntI allP l hl
theorem grd:qFe T 62:=qMq (gd:=92) (gwG:=93) (gwO:=95) (gwL:=94) (gs:=96) Aa Aa Aa Aa Aa Aa cGd optP lnk
theorem knoM:qFg T 352:=qF1 Aa byM
theorem oneP:∀i,InsOk i->∀n:Nat,qa T 246 [.agg (qK i),.i .i64 (n:Int)] (.i .i64 (qej i n)):=fun i hi n=>by
 have h:=qKw (P:=T) (f:=246) (g0:=314) Aa i n (wsM 351 353 354 355 356 357 i n) rfl (qEB Aa i n) (by
  intro x hx;simp only[wsM,List.mem_cons,List.not_mem_nil,or_false] at hx;rcases hx with rfl|rfl|rfl|rfl|rfl|rfl
  ·exact qMg Aa knoM i n
  ·exact qMh Aa i hi n
  ·exact qMi Aa ofM i n
  ·exact qMj Aa i n
  ·exact qMk Aa i n
  ·exact qMl Aa ofM i hi n)
 rw[qLm] at h;exact h
theorem come:qsT T 358:=fun s r hr j hj x=>qJF Aa s r hr j hj x
theorem wrP:cWr T 360:=fun i hi=>qEA Aa ofM i hi
theorem vis:qJC T 316:=fun p hp l hl j i hj hi x=>qI1 Aa (qHE (f:=317) Aa) p hp l hl j i hj hi x
theorem uns:∀p:List Ins,p.length<=4096->(∀i ∈ p,InsOk i)->qa T 247 [.fz p.length (rP p)] (.fz (qfQ p).length (rNt (qfQ p))):=fun p hp hi =>
 qEt Aa (g0:=315) (g2:=411) Aa (gw:=410) Aa ofM Aa come wrP vis (qLp (f:=359) Aa) p hp hi
theorem chkAt:cAt T 182:=qBk Aa oneP ofM uns
theorem idxC:qfV 2 T 48:=qti Aa
theorem idxK:qfV 7 T 111:=qx5 Aa
theorem tabK:qa T 20 [] (.agg (qD.flatMap jS)):=qH2 Aa
theorem known:∀s,qa T 52 [.s s] (.b (qkW s)):=qF8 Aa (qEa (f:=82) Aa) (qFn (f:=81) Aa tabK idxK)
theorem may:qMI T 33:=qKh Aa known (qDK (f:=53) Aa)
theorem archT:qa T 49 [] (.agg (zO.flatMap (qaY .u32))):=qEY Aa
theorem archNm:∀a,qa T 29 [.i .i64 a] (.s (qis a)):=qJo Aa archT
theorem contI:∀(xs:List Int) (x:Int),xs.length<=qe->qa T 155 [.fz xs.length (rI .i64 xs),.i .i64 x] (.b (decide (x ∈ xs))):=qBp Aa (qIz (f:=212) Aa)
theorem archI:∀(xs:List Int) (x:Int),xs.length<=qe->qa T 118 [.fz xs.length (rI .i64 xs),.i .i64 x] (.b (inA xs x)):=qLs Aa contI
theorem spT:qa T 54 [] (.agg (qU.flatMap (qaY .u64))):=qEr Aa
theorem mayP19:∀p,PolOk p->qa T 11 [.agg (qr p)] (.b (qae p)):=qII Aa
 (qxk (f:=25) Aa idxC) (qMs (f:=26) Aa)
 (qIN (f:=27) Aa) (qMt (f:=28) Aa archNm)
 (qIO (f:=30) Aa) (qMu (f:=31) Aa (qFK (f:=32) Aa (qAq (f:=50) Aa) (qLW (f:=51) Aa)))
 may (qHT (f:=34) Aa spT)
theorem numb:∀(a:Int) (s:List UInt8),qa T 289 [.i .i64 a,.s s] (match qfF a s with|some n=>.tup [.i .u32 n,.i .i64 0]|none=>.tup [.i .u32 0,.i .i64 90]):=qEk Aa (qKn (f:=345) Aa) (qFn (f:=81) Aa tabK idxK) (qLl (f:=21) Aa)
theorem ruleU:qc6 T 213:=qKL Aa numb (qFp (f:=290) Aa)
theorem lst:∀mode n al dn,qa T 215 [.i .u8 mode,.i .i64 (n:Nat),.b al,.b dn] (.b (z6 mode n al dn)):=qGf Aa
theorem tstO:qpd T 216:=qIV Aa
theorem bitO:qpb T 218:=qJt Aa
theorem flg:∀s,qa T 217 [.i .u64 s] (.fz (jN s).length (rI .u64 (jN s))):=qFO Aa spT
theorem coded26:qiv T 120:=⟨_,Tryz.func120,Af,Af⟩
theorem low:qA5 T 91:=fun p hp hR d a=>qGn Aa archNm mayP19 archI (qEf (f:=119) Aa) (qKP coded26 Tryz.sortKit)
 (qEh (f:=156) Aa (qLY (f:=214) Aa) ruleU lst) (qKi (f:=157) Aa ruleU lst) (qAt (f:=158) Aa tstO.pure ruleU lst)
 (qv2 (f:=159) Aa flg bitO tstO.pure ruleU) (qtD (f:=160) Aa bitO.pure ruleU) (qvr (f:=161) Aa tstO.pure ruleU) (qAu (f:=162) Aa tstO.pure ruleU)
 qCi p hp hR d a
theorem lessP:qJy T 189:=fun a b ha hb=>qK8 Aa (qLa (f:=69) Aa) a b ha hb
theorem com:qwQ T 103:=qEN (g3:=188) Aa (qJr (f:=133) Aa) Aa (qJl (f:=134) Aa lessP)
theorem comb:qwQ T 66:=qAo Aa com
theorem mayA:qDR T 64:=qDs Aa (qxl (f:=99) Aa (qtj (f:=127) Aa))
 (qKg (f:=100) Aa (qGv (f:=101) Aa (qIk (f:=128) Aa (qDV (f:=182) (g1:=246) (g2:=131) (g3:=247) Aa chkAt))))
theorem evP:qFd T 43:=fun l hl hx d hd=>Go.Kc.qIT Aa mayA runV comb l hl hx d hd
theorem bldP:qA2 T 42:=qE8 (g:=89) Aa mayP19 (qKB (f:=61) Aa) Aa allP low grd cmp
theorem tabsOk{W:World}{L:List (String×DataW Unit)}(hL:laidMetH T L W)(hf:(L.filter fun x=>x.1 == "internal/strconv.uint64pow10")=[("internal/strconv.uint64pow10",Lib.tabData .u64 Lib.pow10Tab)]):TabOk W:=by
 have h:=hL.filter (fun x=>x.1 == "internal/strconv.uint64pow10")
 rw[hf,MakeChecks.laidMetH_plain _ _ _ Aa] at h;have hg:T.globalNamed "internal/strconv.uint64pow10" = some 0:=Aa
 have ht:Lib.TabIs T W "internal/strconv.uint64pow10" .u64 Lib.pow10Tab:=Lib.tabIs_of_head (g:=0) (t:=404) (e:=28) (n:=20) hg Aa Tryz.underlying404 Tryz.underlying28 Aa Aa h;exact Au
theorem itoaC:qwU T 70:=qIB (g:=0) ⟨_,Tryz.func70,Df,rfl⟩ Aa rfl (fun n h0 h1 w ht=>Any.strconv_Itoa Tryz.laysM171 n h0 h1 w ht)
theorem zJ:∀p a,qa T 6 [.agg (qr p),.agg (qjJ a)] (.b (Go.Kc.zJ p a)):=qBU Aa (qBT (f:=15) Aa)
theorem mayP2:∀p,PolOk p->PolR p->qa T 11 [.agg (qr p)] (.b (qae p)):=fun p hp _=>mayP19 p hp
theorem rowsP:∀p,PolOk p->PolR p->∀a o,qa T 18 [.agg (qr p),.i .i64 a,.b o] (.tup [.fz (shM p a o).1.length (rC (shM p a o).1),.i .i64 (shM p a o).2]):=qIQ Aa tok (qKT (g:=49) Aa) bldP FacT.allC evP
theorem actT:∀n,qa T 44 [.i .u32 n] (.s (qgj n)):=qLb Aa (qK9 (f:=67) Aa (qJm (f:=104) Aa) (qLa (f:=69) Aa)) (qK7 (f:=68) Aa) (qLa (f:=69) Aa) itoaC
theorem sheP:qA8 T 8:=qHM Aa rowsP (qIP (f:=19) Aa actT)
theorem cntP:qA3 T 9:=qFu Aa rowsP
theorem draftC:qFc T 16:=Tryz.draftC FacT.choices
theorem awk:qa T 7 [] (.b true):=FacT.awake itoaC draftC bldP sheP cntP
theorem qp8:∀a,qa T 10 [.i .i64 a] (.fz (Go.Kc.qp8 a).length (rC (Go.Kc.qp8 a))):=qMm FacT.allC (qLr Aa tabK (qLl (f:=21) Aa) FacT.srt)
theorem sheCalls{A:Prop}(p:Pol)(a:Int)(_:A)(hR:PolR p):qa Tryz.prog 3 [.agg (qr p),.i .i64 a] (.b true) :=
 qyl Aa zJ awk sheP cntP qp8 mayP2 p hR a
end Go.Proofs.YtjllccjpflmjfaaGreatDoor.Walk
