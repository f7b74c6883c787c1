/- CodegenSame at this program's numbers. No condition. -/
import Derived.Test.YtgaodkfneooonaaGreatSK12
import Derived.Test.YtgaodkfneooonaaGreatProg
import Derived.KernelRfl
namespace Go.Proofs.YtgaodkfneooonaaGreat.Walk
open Go.Kc
theorem ent:qd Tryz.prog 279 [] (.agg (qaE.flatMap qco)):=qxF (by kernel_rfl)
theorem byM:∀n,qd Tryz.prog 170 [.i .u16 n] (.tup [.agg (qd2 (qag n)),.b (zI n)]):=qDP (by kernel_rfl) (qCO (f:=229) (by kernel_rfl)) (fun _ _ _ ha hc p hp=>qBA (f:=228) (by kernel_rfl) ent ha hc p hp)
theorem ofM:cOf Tryz.prog 112:=qDO (by kernel_rfl) byM
theorem hal:qu9 Tryz.prog 264:=fun x h0 h1=>qxJ (by kernel_rfl) x h0 h1
theorem wid:qD1 Tryz.prog 309:=fun x l hl=>qDF (by kernel_rfl) x l hl
theorem wordP:qrF Tryz.prog 230:=fun d hd k h0 h1=>qCz (by kernel_rfl) (qBp (f:=280) (by kernel_rfl) wid hal) d hd k h0 h1
theorem knwA:∀n,qd Tryz.prog 57 [.i .u32 n] (.b (knA n)):=qCg (by kernel_rfl) (qDI (f:=105) (by kernel_rfl) (qCh (f:=169) (by kernel_rfl)) (qDJ (f:=87) (by kernel_rfl)))
theorem mayRl:∀r:GRule,r.tests.length<=100000->qd Tryz.prog 58 [.agg (zc r)] (.b (qbF r)):=qDQ (by kernel_rfl) (fun l k a c p ha hc hk hl=>qza (f:=67) (by kernel_rfl) (qoO (f:=119) (by kernel_rfl)) l k a c p ha hc hk hl)
 (qBI (f:=106) (by kernel_rfl) (qDR (f:=107) knwA (by kernel_rfl))) knwA
theorem mayF:qxt Tryz.prog 22:=fun x hx=>qE0 (by kernel_rfl) knwA mayRl x hx.1 hx.2
theorem plA:∀a b:Int,0<=a->a<6->0<=b->b<=4->qd Tryz.prog 304 [.i .i64 a,.i .i64 b] (.tup [.i .u32 (16+8*a+b),.b true]):=fun a b h0 h6 hb0 hb=>qAv (by kernel_rfl) a b h0 h6 hb0 hb
theorem lo:qpN Tryz.prog 262 0:=fun a h0 h6=>by have:=qBG (f:=262) (by kernel_rfl) plA a h0 h6;simpa using this
theorem hi:qpN Tryz.prog 263 4:=fun a h0 h6=>qzk (by kernel_rfl) plA a h0 h6
theorem tok:qnP Tryz.prog 178:=fun a h0 h6=>qA6 (by kernel_rfl) (qys (f:=184) (by kernel_rfl)) a h0 h6
theorem wfn:WFn Tryz.prog 234 177 216 179 156 157:=⟨by kernel_rfl,by kernel_rfl,by kernel_rfl,by kernel_rfl,by kernel_rfl⟩
theorem efn:EFn Tryz.prog 234 177 216 179 156 157 152 155 158 159 217 265 262 263 264 178 :=
 ⟨wfn,by kernel_rfl,by kernel_rfl,by kernel_rfl,by kernel_rfl,by kernel_rfl,by kernel_rfl,by kernel_rfl,lo,hi,hal,tok⟩
theorem spn:qxv Tryz.prog 153:=qEM (g1:=213) (g2:=212) (g3:=261) (h1:=260) (by kernel_rfl) (by kernel_rfl) (by kernel_rfl) (by kernel_rfl) (by kernel_rfl)
theorem tre:qxw Tryz.prog 154:=qEP (g1:=214) (g2:=215) (by kernel_rfl) (by kernel_rfl) (by kernel_rfl)
theorem emi:qrx Tryz.prog 98:=qD4 (by kernel_rfl) efn mayF spn tre
theorem twn:∀r:GRule,r.tests.length<=100000->qd Tryz.prog 61 [.agg (zc r)] (.agg (zc r)):=fun r hl=>qBQ (by kernel_rfl) (qyP (qyO (f:=109) (by kernel_rfl))) r hl
theorem nor:qrA Tryz.prog 100:=qEi (g2:=162) (by kernel_rfl) mayF fun r hl=>qxP (by kernel_rfl) twn (qoO (f:=119) (by kernel_rfl)) (qC7 (f:=221) (by kernel_rfl)) r hl
theorem mayL:∀l,MayL l->qd Tryz.prog 218 [.fz l.length (rSy l)] (.b true):=fun l hl=>qEh (g:=266) (by kernel_rfl) (fun s j n h1 h2 h3=>qBH (g1:=305) (g2:=230) (g3:=306) (by kernel_rfl) (qA3 (by kernel_rfl)) wordP (qBh (by kernel_rfl)) s j n h1 h2 h3) l hl
theorem asks:qfc Tryz.prog 274:=qDT (by kernel_rfl) ofM
theorem clS:qcT Tryz.prog 272 4 24:=qBk (by kernel_rfl)
theorem bkS:∀l:List Sy,qd Tryz.prog 219 [.fz l.length (rSy l)] (.fn 267 [] [.pf [.fz l.length (rSy l)] 0]):=qCk (by kernel_rfl)
theorem bkI:∀l:List Ins,qd Tryz.prog 307 [.fz l.length (rP l)] (.fn 330 [] [.pf [.fz l.length (rP l)] 0]):=qCj (by kernel_rfl)
theorem optP:qvb Tryz.prog 101:=qE2 (g1:=163) (g2:=164) (gs:=222) (gt:=223) (gl:=224) (s1:=271) (s2:=270) (t1:=273) (v1:=275) (v2:=276)
 (by kernel_rfl) (by kernel_rfl) (by kernel_rfl) mayL (by kernel_rfl) (by kernel_rfl) (by kernel_rfl) clS ofM asks (by kernel_rfl) (by kernel_rfl) bkS (by kernel_rfl) (by kernel_rfl) (by kernel_rfl) (by kernel_rfl)
theorem lkOne:qva Tryz.prog 220:=qE1 (gD:=269) (gP:=268) (by kernel_rfl) (by kernel_rfl) ofM (by kernel_rfl) bkI (by kernel_rfl)
theorem lnk:qow Tryz.prog 99:=qEf (g1:=160) (g2:=161) (by kernel_rfl) (by kernel_rfl) (by kernel_rfl) mayL bkS (by kernel_rfl) lkOne
theorem cmp:qmn Tryz.prog 13:=qD2 (gd:=45) (gwN:=48) (gwE:=46) (gwO:=49) (gwL:=47) (gs:=50) (by kernel_rfl) (by kernel_rfl) (by kernel_rfl) (by kernel_rfl) (by kernel_rfl) (by kernel_rfl) (by kernel_rfl) emi nor optP lnk
theorem wx:cWX Tryz.prog 281:=fun c=>qBe (by kernel_rfl) byM c
def gP(n:Nat):Nat:=([0,310,311,312,313,314,315,316,317,318,319,320,321,322,323]:List Nat).getD n 0
theorem prs:Prs Tryz.prog gP:=⟨qE3 (by kernel_rfl),qE4 (by kernel_rfl),qE5 (by kernel_rfl),qE6 (by kernel_rfl),qE7 (by kernel_rfl),qE8 (by kernel_rfl),qE9 (by kernel_rfl),qFa (by kernel_rfl),qFb (by kernel_rfl),qEn (by kernel_rfl),qEo (by kernel_rfl),qEp (by kernel_rfl),qEq (by kernel_rfl),qEr (by kernel_rfl)⟩
theorem byV(c:Int)(r:Int×Option Nat×Option Nat)(h:((qDm gP).find? fun x=>decide (x.1=qjk c))=some r):qd Tryz.prog 232 [.i .u16 c] (.agg (qaG r)):=qDM (by kernel_rfl) wx (qDm gP) rfl (qAu (f:=282) (by kernel_rfl)) c r h
theorem secV:qCs Tryz.prog 231:=fun m d hl i=>qxW (by kernel_rfl) wx m d hl i
theorem cellV:qrw Tryz.prog 172:=fun m d n hn=>qEQ (g:=111) (by kernel_rfl) m d n hn
theorem loadV:qyH Tryz.prog 171:=fun m hm d hd i hi hc hz=>qES (g2:=111) (by kernel_rfl) wordP cellV m hm d hd i hi hc hz
theorem qFd:qCr Tryz.prog 173:=fun m hm d i hi hc hz=>qDD (g2:=111) (by kernel_rfl) secV (byN prs byV) m hm d i hi hc hz
theorem jumpV:qyF Tryz.prog 174:=fun m d hl i hi hc=>qER (by kernel_rfl) (byJ prs byV) secV m d hl i hi hc
theorem doV:qD0 Tryz.prog 113:=fun m hm d hd i hi hz=>qFe (g6:=111) (by kernel_rfl) ofM loadV cellV qFd jumpV m hm d hd i hi hz
theorem runV:qox Tryz.prog 24:=fun p hp d hd=>qFc (by kernel_rfl) (qBX (f:=62) (fd:=110) (g1:=111) (by kernel_rfl) ofM doV) p hp d hd
theorem szP:∀x,qf6 x->qd Tryz.prog 16 [.agg (qN x)] (.i .i64 (szF x:Int)):=qBM (by kernel_rfl)
theorem tlP:∀p,PrgGood p->∀d,DatOk d->∀w:Int,(qej p d).1=w->qd Tryz.prog 25 [.fz p.length (rP p),.agg (qT d),.i .u32 w] (.b true):=fun p hp d hd w h=>qDU (by kernel_rfl) runV p hp d hd w h
theorem qkr:qrz Tryz.prog 233:=quF (by kernel_rfl)
theorem cntF:∀l:List Int,l.length<=qg->qd Tryz.prog 175 [.fz l.length (rI .i64 l),.fn 176 [] []] (.b (l.any fun a=>decide (a<0)||decide (6<=a))):=fun l hl=>quE (by kernel_rfl) qkr l _ _ (qDN (by kernel_rfl)) hl
theorem cntI:∀(l:List Int) (x:Int),l.length<=qg->qd Tryz.prog 133 [.fz l.length (rI .i64 l),.i .i64 x] (.b (decide (x ∈ l))):=fun l x hl=>qvm (by kernel_rfl) (fun xs x hl=>qBz (f:=197) (by kernel_rfl) xs x hl) l x hl
theorem allP:qd Tryz.prog 131 [] (.fz 6 (rI .i64 [0,1,2,3,4,5])):=qDK (by kernel_rfl)
theorem cGd:∀l:List Int,l.length<=qg->qd Tryz.prog 114 [.fz l.length (rI .i64 l)] (.tup [.fz (gdA l).1.length (rSy (gdA l).1),.i .i64 (gdA l).2]):=fun l hl=>qBl (g:=234) (gp:=216) (gd:=159) (by kernel_rfl) wfn (by kernel_rfl) (by kernel_rfl) tok cntF cntI allP l hl
theorem grd:qu8 Tryz.prog 26:=qEZ (gd:=45) (gwG:=63) (gwO:=49) (gwL:=47) (gs:=50) (by kernel_rfl) (by kernel_rfl) (by kernel_rfl) (by kernel_rfl) (by kernel_rfl) (by kernel_rfl) cGd optP lnk
theorem knoM:qyG Tryz.prog 236:=qzl (by kernel_rfl) byM
theorem oneP:∀i,InsOk i->∀n:Nat,qd Tryz.prog 115 [.agg (qC i),.i .i64 (n:Int)] (.i .i64 (qe5 i n)):=fun i hi n=>by
 have h:=qDg (P:=Tryz.prog) (f:=115) (g0:=180) (by kernel_rfl) i n (wsM 235 237 238 239 240 241 i n) rfl (qx6 (by kernel_rfl) i n) (by
  intro x hx;simp only[wsM,List.mem_cons,List.not_mem_nil,or_false] at hx;rcases hx with rfl|rfl|rfl|rfl|rfl|rfl
  ·exact qET (by kernel_rfl) knoM i n
  ·exact qEU (by kernel_rfl) i hi n
  ·exact qEV (by kernel_rfl) ofM i n
  ·exact qEW (by kernel_rfl) i n
  ·exact qEX (by kernel_rfl) i n
  ·exact qEY (by kernel_rfl) ofM i hi n)
 rw[qDS] at h;exact h
theorem come:qov Tryz.prog 242:=fun s r hr j hj x=>qCw (by kernel_rfl) s r hr j hj x
theorem wrP:cWr Tryz.prog 244:=fun i hi=>qx5 (by kernel_rfl) ofM i hi
theorem vis:qCt Tryz.prog 182:=fun p hp l hl j i hj hi x=>qBW (by kernel_rfl) (qAF (f:=183) (by kernel_rfl)) p hp l hl j i hj hi x
theorem uns:∀p:List Ins,p.length<=4096->(∀i ∈ p,InsOk i)->qd Tryz.prog 116 [.fz p.length (rP p)] (.fz (qfH p).length (rNt (qfH p))):=fun p hp hi =>
 qxY (by kernel_rfl) (g0:=181) (g2:=284) (by kernel_rfl) (gw:=283) (by kernel_rfl) ofM (by kernel_rfl) come wrP vis (qDV (f:=243) (by kernel_rfl)) p hp hi
theorem chkAt:cAt Tryz.prog 64:=qvj (by kernel_rfl) oneP ofM uns
theorem chkP:qyE Tryz.prog 27:=qBj (by kernel_rfl) (qxy (f:=64) (g1:=115) (g2:=112) (g3:=116) (by kernel_rfl) chkAt)
theorem awk:qd Tryz.prog 21 [] (.b true):=qDL (by kernel_rfl) cmp (grd.nil true) tlP szP
theorem wf_le{n:Int}(h:(Lit.int .i64 n).wf=true):n<=9223372036854775807:=by
 have h':(decide (IntKind.i64.min<=n)&&decide (n<=IntKind.i64.max))=true:=h;simp only[Bool.and_eq_true,decide_eq_true_eq] at h';exact h'.2
theorem codegenSame(x:GFil)(l:List Int)(d:GData)(i:Int)(wi:(Lit.int .i64 i).wf=true)(hx:FilB x∧FilR x∧FilU x)(hd:DatOk d):qd Tryz.prog 5 [.agg (qN x),.fz l.length (rI .i64 l),.agg (qT d),.i .i64 i] (.b true) :=
 qq0 (by kernel_rfl) awk (qvM (f:=11) (by kernel_rfl)) grd runV tlP chkP cmp szP x hx.1 hx.2.1 hx.2.2 l d hd i (wf_le wi)
end Go.Proofs.YtgaodkfneooonaaGreat.Walk
