/- StackMeans at this program's numbers. No condition. -/
import Derived.Test.YtgaodkfneooonaaGreatMK7
import Derived.Test.YtgaodkfneooonaaGreatMK5
import Derived.Test.YtgaodkfneooonaaGreatMK4
import Derived.Test.YtgaodkfneooonaaGreatMK3
import Derived.Test.YtgaodkfneooonaaGreatProg
import Derived.Test.YtgaodkfneooonaaGreatSortL
import Derived.Test.YtgaodkfneooonaaGreatEnvU
import Derived.KernelRfl
namespace Go.Proofs.YtgaodkfneooonaaGreat.Walk
open Go.Kc
noncomputable abbrev T:=Tryz.prog
theorem ent:qc T 279 [] (.agg (vf.flatMap wR)):=qDL Ad
theorem byM:∀n,qc T 170 [.i .u16 n] (.tup [.agg (xj (qM n)),.b (zI n)]):=qLf Ad (qJ1 (f:=229) Ad) (fun _ _ _ ha hc p hp=>qIk (f:=228) Ad ent ha hc p hp)
theorem ofM:cOf T 112:=qLe Ad byM
theorem hal:qAV T 264:=fun x h0 h1=>qDQ Ad x h0 h1
theorem wid:qLC T 309:=fun x l hl=>qK0 Ad x l hl
theorem wordP:qr8 T 230:=fun d hd k h0 h1=>qJG Ad (qH9 (f:=280) Ad wid hal) d hd k h0 h1
theorem knwA:∀n,qc T 57 [.i .u32 n] (.b (knA n)):=qI9 Ad (qK4 (f:=105) Ad (qJb (f:=169) Ad) (qK5 (f:=87) Ad))
theorem mayRl:∀r:GRule,r.tests.length<=100000->qc T 58 [.agg (zn r)] (.b (qcJ r)):=qLj Ad (fun l k a c p ha hc hk hl=>qFE (f:=67) Ad (qtn (f:=119) Ad) l k a c p ha hc hk hl)
 (qIt (f:=106) Ad (qLk (f:=107) knwA Ad)) knwA
theorem mayF:qDz T 22:=fun x hx=>qMD Ad knwA mayRl x hx.1 hx.2
theorem plA:∀a b:Int,0<=a->a<6->0<=b->b<=4->qc T 304 [.i .i64 a,.i .i64 b] (.tup [.i .u32 (16+8*a+b),.b true]):=fun a b h0 h6 hb0 hb=>qG8 Ad a b h0 h6 hb0 hb
theorem lo:quB T 262 0:=fun a h0 h6=>by have:=qIq (f:=262) Ad plA a h0 h6;exact H5
theorem hi:quB T 263 4:=fun a h0 h6=>qFQ Ad plA a h0 h6
theorem tok:qr7 T 178:=fun a h0 h6=>qHN Ad (qEL (f:=184) Ad) a h0 h6
theorem wfn:WFn T 234 177 216 179 156 157:=⟨Ad,Ad,Ad,Ad,Ad⟩
theorem efn:EFn T 234 177 216 179 156 157 152 155 158 159 217 265 262 263 264 178 :=
 ⟨wfn,Ad,Ad,Ad,Ad,Ad,Ad,Ad,lo,hi,hal,tok⟩
theorem spn:qDC T 153:=qMl (g1:=213) (g2:=212) (g3:=261) (h1:=260) Ad Ad Ad Ad Ad
theorem tre:qDD T 154:=qMn (g1:=214) (g2:=215) Ad Ad Ad
theorem emi:qwX T 98:=qLH Ad efn mayF spn tre
theorem twn:∀r:GRule,r.tests.length<=100000->qc T 61 [.agg (zn r)] (.agg (zn r)):=fun r hl=>qIJ Ad (qFd (qFc (f:=109) Ad)) r hl
theorem nor:qw3 T 100:=qL3 (g2:=162) Ad mayF fun r hl=>qD2 Ad twn (qtn (f:=119) Ad) (qKm (f:=221) Ad) r hl
theorem mayL:∀l,MayL l->qc T 218 [.fz l.length (rSy l)] (.b true):=fun l hl=>qL0 (g:=266) Ad (fun s j n h1 h2 h3=>qIr (g1:=305) (g2:=230) (g3:=306) Ad (qHK Ad) wordP (qH0 Ad) s j n h1 h2 h3) l hl
theorem asks:qhv T 274:=qLp Ad ofM
theorem clS:qb2 T 272 4 24:=qH3 Ad
theorem bkS:∀l:List Sy,qc T 219 [.fz l.length (rSy l)] (.fn 267 [] [.pf [.fz l.length (rSy l)] 0]):=qJg Ad
theorem bkI:∀l:List Ins,qc T 307 [.fz l.length (rP l)] (.fn 330 [] [.pf [.fz l.length (rP l)] 0]):=qJf Ad
theorem optP:qAX T 101:=qML (g1:=163) (g2:=164) (gs:=222) (gt:=223) (gl:=224) (s1:=271) (s2:=270) (t1:=273) (v1:=275) (v2:=276)
 Ad Ad Ad mayL Ad Ad Ad clS ofM asks Ad Ad bkS Ad Ad Ad Ad
theorem lkOne:qAW T 220:=qMK (gD:=269) (gP:=268) Ad Ad ofM Ad bkI Ad
theorem lnk:qs1 T 99:=qLX (g1:=160) (g2:=161) Ad Ad Ad mayL bkS Ad lkOne
theorem cmp:qwW T 13:=qLD (gd:=45) (gwN:=48) (gwE:=46) (gwO:=49) (gwL:=47) (gs:=50) Ad Ad Ad Ad Ad Ad Ad emi nor optP lnk
theorem wx:cWX T 281:=fun c=>qHW Ad byM c
def gP(n:Nat):Nat:=([0,310,311,312,313,314,315,316,317,318,319,320,321,322,323]:List Nat).getD n 0
theorem prs:Prs T gP:=⟨qMM Ad,qMN Ad,qMO Ad,qMP Ad,qMQ Ad,qMR Ad,qMS Ad,qMT Ad,qMU Ad,qL9 Ad,qMa Ad,qMb Ad,qMc Ad,qMd Ad⟩
theorem byV(c:Int)(r:Int×Option Nat×Option Nat)(h:((qKD gP).find? fun x=>decide (x.1=qmE c))=some r):qc T 232 [.i .u16 c] (.agg (qaW r)):=qK7 Ad wx (qKD gP) rfl (qG7 (f:=282) Ad) c r h
theorem secV:qJy T 231:=fun m d hl i=>qEd Ad wx m d hl i
theorem cellV:qwV T 172:=fun m d n hn=>qMo (g:=111) Ad m d n hn
theorem loadV:qE4 T 171:=fun m hm d hd i hi hc hz=>qMq (g2:=111) Ad wordP cellV m hm d hd i hi hc hz
theorem qgI:qJv T 173:=fun m hm d i hi hc hz=>qKY (g2:=111) Ad secV (byN prs byV) m hm d i hi hc hz
theorem jumpV:qE1 T 174:=fun m d hl i hi hc=>qMp Ad (byJ prs byV) secV m d hl i hi hc
theorem doV:qLz T 113:=fun m hm d hd i hi hz=>qM3 (g6:=111) Ad ofM loadV cellV qgI jumpV m hm d hd i hi hz
theorem runV:qJx T 24:=fun p hp d hd=>qMW Ad (qIR (f:=62) (fd:=110) (g1:=111) Ad ofM doV) p hp d hd
theorem qnZ:qwZ T 233:=qAo Ad
theorem cntF:∀l:List Int,l.length<=qe->qc T 175 [.fz l.length (rI .i64 l),.fn 176 [] []] (.b (l.any fun a=>decide (a<0)||decide (6<=a))):=fun l hl=>qAm Ad qnZ l _ _ (qLc Ad) hl
theorem cntI:∀(l:List Int) (x:Int),l.length<=qe->qc T 133 [.fz l.length (rI .i64 l),.i .i64 x] (.b (decide (x ∈ l))):=fun l x hl=>qBa Ad (fun xs x hl=>qIj (f:=197) Ad xs x hl) l x hl
theorem allP:qc T 131 [] (.fz 6 (rI .i64 [0,1,2,3,4,5])):=qK6 Ad
theorem cGd:∀l:List Int,l.length<=qe->qc T 114 [.fz l.length (rI .i64 l)] (.tup [.fz (gdA l).1.length (rSy (gdA l).1),.i .i64 (gdA l).2]):=fun l hl=>qH4 (g:=234) (gp:=216) (gd:=159) Ad wfn Ad Ad tok cntF cntI allP l hl
theorem grd:qEZ T 26:=qMC (gd:=45) (gwG:=63) (gwO:=49) (gwL:=47) (gs:=50) Ad Ad Ad Ad Ad Ad cGd optP lnk
theorem knoM:qE2 T 236:=qFS Ad byM
theorem oneP:∀i,InsOk i->∀n:Nat,qc T 115 [.agg (qD i),.i .i64 (n:Int)] (.i .i64 (qc3 i n)):=fun i hi n=>by
 have h:=qKw (P:=T) (f:=115) (g0:=180) Ad i n (wsM 235 237 238 239 240 241 i n) rfl (qEq Ad i n) (by
  intro x hx;simp only[wsM,List.mem_cons,List.not_mem_nil,or_false] at hx;rcases hx with rfl|rfl|rfl|rfl|rfl|rfl
  ·exact qMu Ad knoM i n
  ·exact qMv Ad i hi n
  ·exact qMw Ad ofM i n
  ·exact qMx Ad i n
  ·exact qMy Ad i n
  ·exact qMz Ad ofM i hi n)
 rw[qLo] at h;exact h
theorem come:qs0 T 242:=fun s r hr j hj x=>qJD Ad s r hr j hj x
theorem wrP:cWr T 244:=fun i hi=>qEp Ad ofM i hi
theorem vis:qJA T 182:=fun p hp l hl j i hj hi x=>qIQ Ad (qHk (f:=183) Ad) p hp l hl j i hj hi x
theorem uns:∀p:List Ins,p.length<=4096->(∀i ∈ p,InsOk i)->qc T 116 [.fz p.length (rP p)] (.fz (qdU p).length (rNt (qdU p))):=fun p hp hi =>
 qEi Ad (g0:=181) (g2:=284) Ad (gw:=283) Ad ofM Ad come wrP vis (qLr (f:=243) Ad) p hp hi
theorem chkAt:cAt T 64:=qA7 Ad oneP ofM uns
theorem idxC:qcN 2 T 186:=qtk Ad
theorem idxK:qcN 7 T 286:=qx6 Ad
theorem tabK:qc T 285 [] (.agg (zo.flatMap qbD)):=qHI Ad
theorem known:∀s,qc T 189 [.s s] (.b (qa5 s)):=qFZ Ad (qDS (f:=246) Ad) (qFa (f:=245) Ad tabK idxK)
theorem may:qMY T 128:=qKh Ad known (qDs (f:=190) Ad)
theorem archT:qc T 184 [] (.agg (zf.flatMap (xb .u32))):=qEL Ad
theorem archNm:∀a,qc T 124 [.i .i64 a] (.s (qiL a)):=qJe Ad archT
theorem contI:∀(xs:List Int) (x:Int),xs.length<=qe->qc T 133 [.fz xs.length (rI .i64 xs),.i .i64 x] (.b (decide (x ∈ xs))):=qBa Ad (qIj (f:=197) Ad)
theorem archI:∀(xs:List Int) (x:Int),xs.length<=qe->qc T 192 [.fz xs.length (rI .i64 xs),.i .i64 x] (.b (inA xs x)):=qLu Ad contI
theorem spT:qc T 191 [] (.agg (qx.flatMap (xb .u64))):=qEe Ad
theorem mayP19:∀p,PolOk p->qc T 70 [.agg (qm p)] (.b (qbz p)):=qIs Ad
 (qxl (f:=120) Ad idxC) (qMG (f:=121) Ad)
 (qIz (f:=122) Ad) (qMH (f:=123) Ad archNm)
 (qIA (f:=125) Ad) (qMI (f:=126) Ad (qFA (f:=127) Ad (qAn (f:=187) Ad) (qL7 (f:=188) Ad)))
 may (qHz (f:=129) Ad spT)
theorem numb:∀(a:Int) (s:List UInt8),qc T 324 [.i .i64 a,.s s] (match qgH a s with|some n=>.tup [.i .u32 n,.i .i64 0]|none=>.tup [.i .u32 0,.i .i64 90]):=qD3 Ad (qKo (f:=331) Ad) (qFa (f:=245) Ad tabK idxK) (qLl (f:=332) Ad)
theorem ruleU:qdI T 287:=qKJ Ad numb (qFc (f:=109) Ad)
theorem lst:∀mode n al dn,qc T 289 [.i .u8 mode,.i .i64 (n:Nat),.b al,.b dn] (.b (zJ mode n al dn)):=qF6 Ad
theorem tstO:qpi T 290:=qII Ad
theorem bitO:qph T 292:=qJj Ad
theorem flg:∀s,qc T 291 [.i .u64 s] (.fz (xq s).length (rI .u64 (xq s))):=qFF Ad spT
theorem coded26:qoh T 194:=⟨_,Tryz.func194,Af,Af⟩
theorem low:qlU T 132:=fun p hp hR d a=>qGc Ad archNm mayP19 archI (qDX (f:=193) Ad) (qKN coded26 Tryz.sortKit)
 (qD0 (f:=247) Ad (qL8 (f:=288) Ad) ruleU lst) (qKi (f:=248) Ad ruleU lst) (qAp (f:=249) Ad tstO.pure ruleU lst)
 (qwf (f:=250) Ad flg bitO tstO.pure ruleU) (qtC (f:=251) Ad bitO.pure ruleU) (qvA (f:=252) Ad tstO.pure ruleU) (qAq (f:=253) Ad tstO.pure ruleU)
 qB3 p hp hR d a
theorem lessP:qDy T 40:=fun a b ha hb=>qK3 Ad (qK5 (f:=87) Ad) a b ha hb
theorem com:qnX T 134:=qEC (g3:=257) Ad (qJh (f:=198) Ad) Ad (qJa (f:=199) Ad lessP)
theorem comb:qnX T 73:=qAl Ad com
theorem mayA:qDA T 43:=qDd Ad (qxm (f:=93) Ad (qtl (f:=150) Ad))
 (qKg (f:=94) Ad (qGi (f:=95) Ad (qH2 (f:=27) Ad (qDE (f:=64) (g1:=115) (g2:=112) (g3:=116) Ad chkAt))))
theorem g16:qLA T 91:=fun b hb hl a ha=>qMr Ad (qMs (f:=147) Ad) b hb hl a ha
theorem evP:qEY T 37:=fun l hl hx d hd=>Go.Kc.qIG Ad mayA runV comb l hl hx d hd
theorem bldP:qJm T 30:=qEU (g:=130) Ad mayP19 (qKC (f:=71) Ad) Ad allP low grd cmp
theorem ofR:qlu T 82:=qM1 Ad EnvU.all02
theorem getRR:qJt T 277:=fun b hb hl a ha n hn=>qMB Ad b hb hl a ha n hn
theorem nxt:qs2 T 205:=fun p hp j i hj hi=>qL2 Ad ofR p hp j i hj hi
theorem unsR:∀p:List Ins,p.length<=4096->(∀i ∈ p,InsOk i)->qc T 83 [.fz p.length (rP p)] (.fz (qlo p).length (rNt (qlo p))):=fun p hp hi =>
 qIO Ad (qIH (f:=142) Ad nxt) (qCN (f:=143) Ad nxt) p hp hi (qKQ p) (by rw[qzI];simp[st0])
theorem atR:qqs T 36:=qMX Ad (qMJ (f:=81) Ad ofR) ofR unsR
theorem wxR:cWX T 226:=fun c=>qLs Ad ofR c
theorem shf:qLB T 227:=fun a h0 h1 left n hn=>qIC Ad a h0 h1 left n hn
theorem putR:qE5 T 308:=fun x h0 h1 n hn=>qMf Ad x h0 h1 n hn
theorem wordR:qr8 T 225:=fun d hd k h0 h1=>qMt Ad (fun d hd=>qLq (f:=278) Ad putR d hd) getRR d hd k h0 h1
theorem loadR:qE3 T 166:=fun m hm i hi d hd=>qLZ Ad wordR m hm i hi d hd
theorem numR:qJu T 167:=fun m hm i hi hc=>qKn Ad ofR wxR shf m hm i hi hc
theorem jumpR:qE0 T 168:=fun m hm i hi hc=>qLT Ad wxR m hm i hi hc
theorem doRR:qLy T 103:=fun m hm i hi d hd=>qMZ Ad (qLh (f:=165) Ad ofR) ofR loadR numR jumpR m hm i hi d hd
theorem runRR:∀p:List Ins,p.length<=4096->(∀i ∈ p,InsOk i)->∀d,DatOk d->qc T 53 [.fz p.length (rP p),.agg (qq d)] (qC0 p d):=fun p hp hi d hd=>qMV Ad doRR ofR p hp hi d hd
theorem lessR:qDy T 140:=fun a b ha hb=>qLW Ad (qKK (f:=204) Ad) a b ha hb
theorem comR:qnX T 80:=fun l hl hn=>qH5 Ad lessR l hl hn
theorem knownR:∀s,qc T 135 [.s s] (.b (qa5 s)):=qLU Ad EnvU.table9
theorem mayR:qqt T 76:=qME Ad knownR
theorem spR:qc T 136 [] (.fz 8 (qx.flatMap (xb .u64))):=qKO Ad
theorem mayR19:∀p,PolOk p->PolR p->qc T 32 [.agg (qm p)] (.b (qbz p)):=qMF Ad (qFz (f:=75) Ad) (qL1 (f:=74) Ad) mayR (qMA (f:=77) Ad spR)
theorem lowR:qlU T 79:=(qIB Ad mayR19 (qM0 (f:=78) Ad) (qJc (f:=137) Ad) EnvU.all9r
 (qMj (f:=139) Ad (qLN (f:=202) Ad) (qLa (f:=203) Ad spR))).low
theorem archR:∀t n:Int,0<=n->n<=4294967295->qc T 54 [.i .u32 t,.i .u32 n] (.tup [.i .i64 (Go.Kc.ofM t n).1,.b (Go.Kc.ofM t n).2]):=fun t n h0 h1=>qIv Ad (qKR (f:=104) Ad) t n h0 h1
theorem archF:qob T 117:=qHZ Ad archT (qx5 (f:=185) Ad)
theorem archO:∀t n,qc T 65 [.i .u32 t,.i .u32 n] (.tup [.i .i64 (Go.Kc.ofM t n).1,.b (Go.Kc.ofM t n).2]):=qLm Ad (qM2 (f:=118) Ad) archF
theorem den(y:GFil)(x:GData)(h1:y.rules.length<=100000)(h2:∀r ∈ y.rules,r.tests.length<=100000):qc T 28 [.agg (ze y),.agg (qq x)] (.i .u32 (qd8 y x)) :=
 qDJ Ad archO (qJI (f:=66) Ad) (fun l k a c p ha hc hk hl=>qFD (f:=59) Ad (qtm (f:=108) Ad) l k a c p ha hc hk hl)
  (qJJ (f:=68) Ad (qFR (f:=69) Ad)) (fun l k a c p ha hc hk hl=>qFE (f:=67) Ad (qtn (f:=119) Ad) l k a c p ha hc hk hl) y x h1 h2
theorem gdd:qJs T 72:=fun l hl d=>qBF Ad archO (fun l hl x=>contI l x hl) l hl d
theorem hF{p:Pol}(hp:PolOk p)(hR:PolR p):∀d a x,qby p d a=some x->FilR x∧qd5 x:=fun d a x h=>let ⟨a1,a2,_⟩:=qtu hp hR h;⟨a1,a2⟩
theorem denP:qJq T 31:=fun p hp hR d=>qEf (g:=130) Ad mayP19 (qKC (f:=71) Ad) Ad allP low gdd (fun x hx d=>den x d hx.1 hx.2) comb p hp hR (hF hp hR) d (qLF hp hR d)
theorem hD{p:Pol}(hp:PolOk p)(hR:PolR p):qw0 p:=fun d a x h=>let ⟨_,a2,_,a4,_⟩:=qtu hp hR h;⟨a2,a4⟩
theorem den21:∀x,qd5 x->∀d,DatOk d->qc T 20 [.agg (ze x),.agg (qq d)] (.i .u32 (qd8 x d)):=fun x hx d hd=>qJH Ad archR (qDN (f:=55) Ad) (qLd (f:=56) Ad) x hx d hd
theorem denR:qJr T 33:=fun p hp hR d hd=>qFo Ad archR (qM0 (f:=78) Ad) lowR den21 comR hp hR (hD hp hR) hd (qLF hp hR d)
theorem prgR:qJw T 34:=fun p hp hR=>qG9 Ad lowR hp hR
theorem stackMeans(p:Pol)(o:Bool)(d:GData)(hR:PolR p)(hd:DatOk d):qc Tryz.prog 7 [.agg (qm p),.b o,.agg (qq d)] (.b true) :=
 qyo Ad (qLb (f:=29) Ad) bldP denP mayR19 denR prgR (qGg (f:=35) Ad atR) atR evP (qLM (f:=38) Ad runRR comR) p hR o d hd
end Go.Proofs.YtgaodkfneooonaaGreat.Walk
