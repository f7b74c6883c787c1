/- CodegenBounds at this program's numbers. No condition. -/
import Derived.Test.YtgaodkfneooonaaGreatBK12
import Derived.Test.YtgaodkfneooonaaGreatBK12
import Derived.Test.YtgaodkfneooonaaGreatProg
import Derived.KernelRfl
namespace Go.Proofs.YtgaodkfneooonaaGreat.Walk
open Go.Kc
theorem ent:qd Tryz.prog 279 [] (.agg (qaF.flatMap qcp)):=qxG (by kernel_rfl)
theorem byM:∀n,qd Tryz.prog 170 [.i .u16 n] (.tup [.agg (qd7 (qah n)),.b (zN n)]):=qDY (by kernel_rfl) (qCX (f:=229) (by kernel_rfl)) (fun _ _ _ ha hc p hp=>qBF (f:=228) (by kernel_rfl) ent ha hc p hp)
theorem ofM:cOf Tryz.prog 112:=qDX (by kernel_rfl) byM
theorem hal:qu9 Tryz.prog 264:=fun x h0 h1=>qxK (by kernel_rfl) x h0 h1
theorem wid:qEf Tryz.prog 309:=fun x l hl=>qDO (by kernel_rfl) x l hl
theorem wordP:qrJ Tryz.prog 230:=fun d hd k h0 h1=>qCH (by kernel_rfl) (qBu (f:=280) (by kernel_rfl) wid hal) d hd k h0 h1
theorem knwA:∀n,qd Tryz.prog 57 [.i .u32 n] (.b (knA n)):=qCk (by kernel_rfl) (qDR (f:=105) (by kernel_rfl) (qCl (f:=169) (by kernel_rfl)) (qDS (f:=87) (by kernel_rfl)))
theorem mayRl:∀r:GRule,r.tests.length<=100000->qd Tryz.prog 58 [.agg (qM r)] (.b (qbf r)):=qDZ (by kernel_rfl) (fun l k a c p ha hc hk hl=>qzd (f:=67) (by kernel_rfl) (qoR (f:=119) (by kernel_rfl)) l k a c p ha hc hk hl)
 (qBN (f:=106) (by kernel_rfl) (qD0 (f:=107) knwA (by kernel_rfl))) knwA
theorem mayF:qxt Tryz.prog 22:=fun x hx=>qFe (by kernel_rfl) knwA mayRl x hx.1 hx.2
theorem plA:∀a b:Int,0<=a->a<6->0<=b->b<=4->qd Tryz.prog 304 [.i .i64 a,.i .i64 b] (.tup [.i .u32 (16+8*a+b),.b true]):=fun a b h0 h6 hb0 hb=>qAz (by kernel_rfl) a b h0 h6 hb0 hb
theorem lo:qpO Tryz.prog 262 0:=fun a h0 h6=>by have:=qBL (f:=262) (by kernel_rfl) plA a h0 h6;simpa using this
theorem hi:qpO Tryz.prog 263 4:=fun a h0 h6=>qzo (by kernel_rfl) plA a h0 h6
theorem tok:qnW Tryz.prog 178:=fun a h0 h6=>qBa (by kernel_rfl) (qyv (f:=184) (by kernel_rfl)) a h0 h6
theorem wfn:WFn Tryz.prog 234 177 216 179 156 157:=⟨by kernel_rfl,by kernel_rfl,by kernel_rfl,by kernel_rfl,by kernel_rfl⟩
theorem efn:EFn Tryz.prog 234 177 216 179 156 157 152 155 158 159 217 265 262 263 264 178 :=
 ⟨wfn,by kernel_rfl,by kernel_rfl,by kernel_rfl,by kernel_rfl,by kernel_rfl,by kernel_rfl,by kernel_rfl,lo,hi,hal,tok⟩
theorem spn:qxv Tryz.prog 153:=qE0 (g1:=213) (g2:=212) (g3:=261) (h1:=260) (by kernel_rfl) (by kernel_rfl) (by kernel_rfl) (by kernel_rfl) (by kernel_rfl)
theorem tre:qxw Tryz.prog 154:=qE3 (g1:=214) (g2:=215) (by kernel_rfl) (by kernel_rfl) (by kernel_rfl)
theorem emi:qrB Tryz.prog 98:=qEi (by kernel_rfl) efn mayF spn tre
theorem twn:∀r:GRule,r.tests.length<=100000->qd Tryz.prog 61 [.agg (qM r)] (.agg (qM r)):=fun r hl=>qBV (by kernel_rfl) (qyS (qyR (f:=109) (by kernel_rfl))) r hl
theorem nor:qrE Tryz.prog 100:=qEw (g2:=162) (by kernel_rfl) mayF fun r hl=>qxR (by kernel_rfl) twn (qoR (f:=119) (by kernel_rfl)) (qDg (f:=221) (by kernel_rfl)) r hl
theorem mayL:∀l,MayL l->qd Tryz.prog 218 [.fz l.length (rSy l)] (.b true):=fun l hl=>qEv (g:=266) (by kernel_rfl) (fun s j n h1 h2 h3=>qBM (g1:=305) (g2:=230) (g3:=306) (by kernel_rfl) (qA7 (by kernel_rfl)) wordP (qBm (by kernel_rfl)) s j n h1 h2 h3) l hl
theorem asks:qfd Tryz.prog 274:=qD3 (by kernel_rfl) ofM
theorem clS:qcU Tryz.prog 272 4 24:=qBp (by kernel_rfl)
theorem bkS:∀l:List Sy,qd Tryz.prog 219 [.fz l.length (rSy l)] (.fn 267 [] [.pf [.fz l.length (rSy l)] 0]):=qCp (by kernel_rfl)
theorem bkI:∀l:List Ins,qd Tryz.prog 307 [.fz l.length (rP l)] (.fn 330 [] [.pf [.fz l.length (rP l)] 0]):=qCo (by kernel_rfl)
theorem optP:qvb Tryz.prog 101:=qFg (g1:=163) (g2:=164) (gs:=222) (gt:=223) (gl:=224) (s1:=271) (s2:=270) (t1:=273) (v1:=275) (v2:=276)
 (by kernel_rfl) (by kernel_rfl) (by kernel_rfl) mayL (by kernel_rfl) (by kernel_rfl) (by kernel_rfl) clS ofM asks (by kernel_rfl) (by kernel_rfl) bkS (by kernel_rfl) (by kernel_rfl) (by kernel_rfl) (by kernel_rfl)
theorem lkOne:qva Tryz.prog 220:=qFf (gD:=269) (gP:=268) (by kernel_rfl) (by kernel_rfl) ofM (by kernel_rfl) bkI (by kernel_rfl)
theorem lnk:qoB Tryz.prog 99:=qEt (g1:=160) (g2:=161) (by kernel_rfl) (by kernel_rfl) (by kernel_rfl) mayL bkS (by kernel_rfl) lkOne
theorem cmp:qmu Tryz.prog 13:=qEg (gd:=45) (gwN:=48) (gwE:=46) (gwO:=49) (gwL:=47) (gs:=50) (by kernel_rfl) (by kernel_rfl) (by kernel_rfl) (by kernel_rfl) (by kernel_rfl) (by kernel_rfl) (by kernel_rfl) emi nor optP lnk
theorem wx:cWX Tryz.prog 281:=fun c=>qBi (by kernel_rfl) byM c
def gP(n:Nat):Nat:=([0,310,311,312,313,314,315,316,317,318,319,320,321,322,323]:List Nat).getD n 0
theorem prs:Prs Tryz.prog gP:=⟨qFh (by kernel_rfl),qFi (by kernel_rfl),qFj (by kernel_rfl),qFk (by kernel_rfl),qFl (by kernel_rfl),qFm (by kernel_rfl),qFn (by kernel_rfl),qFo (by kernel_rfl),qFp (by kernel_rfl),qEB (by kernel_rfl),qEC (by kernel_rfl),qED (by kernel_rfl),qEE (by kernel_rfl),qEF (by kernel_rfl)⟩
theorem byV(c:Int)(r:Int×Option Nat×Option Nat)(h:((qDv gP).find? fun x=>decide (x.1=qjs c))=some r):qd Tryz.prog 232 [.i .u16 c] (.agg (qaH r)):=qDV (by kernel_rfl) wx (qDv gP) rfl (qAy (f:=282) (by kernel_rfl)) c r h
theorem secV:qCA Tryz.prog 231:=fun m d hl i=>qxY (by kernel_rfl) wx m d hl i
theorem cellV:qrA Tryz.prog 172:=fun m d n hn=>qE4 (g:=111) (by kernel_rfl) m d n hn
theorem loadV:qyK Tryz.prog 171:=fun m hm d hd i hi hc hz=>qE6 (g2:=111) (by kernel_rfl) wordP cellV m hm d hd i hi hc hz
theorem qFt:qCy Tryz.prog 173:=fun m hm d i hi hc hz=>qDM (g2:=111) (by kernel_rfl) secV (byN prs byV) m hm d i hi hc hz
theorem jumpV:qyI Tryz.prog 174:=fun m d hl i hi hc=>qE5 (by kernel_rfl) (byJ prs byV) secV m d hl i hi hc
theorem doV:qEe Tryz.prog 113:=fun m hm d hd i hi hz=>qFv (g6:=111) (by kernel_rfl) ofM loadV cellV qFt jumpV m hm d hd i hi hz
theorem runV:qCz Tryz.prog 24:=fun p hp d hd=>qFr (by kernel_rfl) (qB2 (f:=62) (fd:=110) (g1:=111) (by kernel_rfl) ofM doV) p hp d hd
theorem szP:∀x,qgE x->qd Tryz.prog 16 [.agg (qS x)] (.i .i64 (szF x:Int)):=qBR (by kernel_rfl)
theorem tlP:∀p,PrgGood p->∀d,DatOk d->∀w:Int,(qe8 p d).1=w->qd Tryz.prog 25 [.fz p.length (rP p),.agg (qw d),.i .u32 w] (.b true):=fun p hp d hd w h=>qD4 (by kernel_rfl) runV p hp d hd w h
theorem qky:qrD Tryz.prog 233:=quG (by kernel_rfl)
theorem cntF:∀l:List Int,l.length<=qg->qd Tryz.prog 175 [.fz l.length (rI .i64 l),.fn 176 [] []] (.b (l.any fun a=>decide (a<0)||decide (6<=a))):=fun l hl=>quF (by kernel_rfl) qky l _ _ (qDW (by kernel_rfl)) hl
theorem cntI:∀(l:List Int) (x:Int),l.length<=qg->qd Tryz.prog 133 [.fz l.length (rI .i64 l),.i .i64 x] (.b (decide (x ∈ l))):=fun l x hl=>qvm (by kernel_rfl) (fun xs x hl=>qBE (f:=197) (by kernel_rfl) xs x hl) l x hl
theorem allP:qd Tryz.prog 131 [] (.fz 6 (rI .i64 [0,1,2,3,4,5])):=qDT (by kernel_rfl)
theorem cGd:∀l:List Int,l.length<=qg->qd Tryz.prog 114 [.fz l.length (rI .i64 l)] (.tup [.fz (gdA l).1.length (rSy (gdA l).1),.i .i64 (gdA l).2]):=fun l hl=>qBq (g:=234) (gp:=216) (gd:=159) (by kernel_rfl) wfn (by kernel_rfl) (by kernel_rfl) tok cntF cntI allP l hl
theorem grd:qyH Tryz.prog 26:=qFd (gd:=45) (gwG:=63) (gwO:=49) (gwL:=47) (gs:=50) (by kernel_rfl) (by kernel_rfl) (by kernel_rfl) (by kernel_rfl) (by kernel_rfl) (by kernel_rfl) cGd optP lnk
theorem knoM:qyJ Tryz.prog 236:=qzq (by kernel_rfl) byM
theorem oneP:∀i,InsOk i->∀n:Nat,qd Tryz.prog 115 [.agg (qD i),.i .i64 (n:Int)] (.i .i64 (qe6 i n)):=fun i hi n=>by
 have h:=qDp (P:=Tryz.prog) (f:=115) (g0:=180) (by kernel_rfl) i n (wsM 235 237 238 239 240 241 i n) rfl (qx8 (by kernel_rfl) i n) (by
  intro x hx;simp only[wsM,List.mem_cons,List.not_mem_nil,or_false] at hx;rcases hx with rfl|rfl|rfl|rfl|rfl|rfl
  ·exact qE7 (by kernel_rfl) knoM i n
  ·exact qE8 (by kernel_rfl) i hi n
  ·exact qE9 (by kernel_rfl) ofM i n
  ·exact qFa (by kernel_rfl) i n
  ·exact qFb (by kernel_rfl) i n
  ·exact qFc (by kernel_rfl) ofM i hi n)
 rw[qD2] at h;exact h
theorem come:qoA Tryz.prog 242:=fun s r hr j hj x=>qCE (by kernel_rfl) s r hr j hj x
theorem wrP:cWr Tryz.prog 244:=fun i hi=>qx7 (by kernel_rfl) ofM i hi
theorem vis:qCB Tryz.prog 182:=fun p hp l hl j i hj hi x=>qB1 (by kernel_rfl) (qAJ (f:=183) (by kernel_rfl)) p hp l hl j i hj hi x
theorem uns:∀p:List Ins,p.length<=4096->(∀i ∈ p,InsOk i)->qd Tryz.prog 116 [.fz p.length (rP p)] (.fz (qer p).length (rNt (qer p))):=fun p hp hi =>
 qx0 (by kernel_rfl) (g0:=181) (g2:=284) (by kernel_rfl) (gw:=283) (by kernel_rfl) ofM (by kernel_rfl) come wrP vis (qD5 (f:=243) (by kernel_rfl)) p hp hi
theorem chkAt:cAt Tryz.prog 64:=qvj (by kernel_rfl) oneP ofM uns
theorem chkP:qFs Tryz.prog 27:=qBo (by kernel_rfl) (qxy (f:=64) (g1:=115) (g2:=112) (g3:=116) (by kernel_rfl) chkAt)
theorem awk:qd Tryz.prog 21 [] (.b true):=qDU (by kernel_rfl) cmp (grd.nil true) tlP szP
theorem archF:qkJ Tryz.prog 117:=qBl (by kernel_rfl) (qyv (f:=184) (by kernel_rfl)) (qsF (f:=185) (by kernel_rfl))
theorem archO:∀t n,qd Tryz.prog 65 [.i .u32 t,.i .u32 n] (.tup [.i .i64 (Go.Kc.ofM t n).1,.b (Go.Kc.ofM t n).2]):=qD1 (by kernel_rfl) (qFu (f:=118) (by kernel_rfl)) archF
theorem denP:∀x d,qgE x->qd Tryz.prog 28 [.agg (qS x),.agg (qw d)] (.i .u32 (qfj x d)):=fun x d hx =>
 qxE (by kernel_rfl) archO (qCI (f:=66) (by kernel_rfl)) (fun l k a c p ha hc hk hl=>qzc (f:=59) (by kernel_rfl) (qoQ (f:=108) (by kernel_rfl)) l k a c p ha hc hk hl)
 (qCJ (f:=68) (by kernel_rfl) (fun t d=>qzp (f:=69) (by kernel_rfl) t d)) (fun l k a c p ha hc hk hl=>qzd (f:=67) (by kernel_rfl) (qoR (f:=119) (by kernel_rfl)) l k a c p ha hc hk hl) x d hx.1 hx.2
theorem wf_le{n:Int}(h:(Lit.int .i64 n).wf=true):n<=9223372036854775807:=by
 have h':(decide (IntKind.i64.min<=n)&&decide (n<=IntKind.i64.max))=true:=h;simp only[Bool.and_eq_true,decide_eq_true_eq] at h';exact h'.2
theorem codegenBounds(a:Int)(_:(Lit.int .i64 a).wf=true)(n:Int)(_:(Lit.int .i64 n).wf=true)(step:Int)(_:(Lit.int .i64 step).wf=true)(m:Int)(_:(Lit.int .i64 m).wf=true)(d:GData)(i:Int)(wi:(Lit.int .i64 i).wf=true)(o:Bool)(hd:DatOk d) :
  qd Tryz.prog 6 [.i .i64 a,.i .i64 n,.i .i64 step,.i .i64 m,.agg (qw d),.i .i64 i,.b o] (.b true) :=
 qoV (by kernel_rfl) awk cmp chkP denP tlP a n step m i (wf_le wi) o d hd
end Go.Proofs.YtgaodkfneooonaaGreat.Walk
