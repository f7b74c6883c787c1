/- CodegenGuard at this program's numbers. No condition. -/
import Derived.Test.YtpgbjeabmkbmbaaGK10
import Derived.Test.YtpgbjeabmkbmbaaGK9
import Derived.Test.YtpgbjeabmkbmbaaEnvH
namespace Go.Proofs.Ytpgbjeabmkbmbaa.Walk
open Go.Kc
theorem ent:qg Try.prog 125 [] (.agg (xT.flatMap xu)):=qs5 (by kernel_rfl)
theorem byM:∀n,qg Try.prog 102 [.i .u16 n] (.tup [.agg (zt (qy n)),.b (zI n)]):=qyI (by kernel_rfl) (qxV (f:=119) (by kernel_rfl)) (fun _ _ _ ha hc p hp=>qwM (f:=118) (by kernel_rfl) ent ha hc p hp)
theorem ofM:cOf Try.prog 87:=qyH (by kernel_rfl) byM
theorem ofR:qgj Try.prog 40:=qzM (by kernel_rfl) EnvH.all02
theorem getRR:qxx Try.prog 17:=fun b hb hl a ha n hn=>qzD (by kernel_rfl) b hb hl a ha n hn
theorem nxt:qlu Try.prog 82:=fun p hp j i hj hi=>qzb (by kernel_rfl) ofR p hp j i hj hi
theorem unsR:∀p:List Ins,p.length<=4096->(∀i ∈ p,InsOk i)->qg Try.prog 41 [.fz p.length (rP p)] (.fz (qgg p).length (rNt (qgg p))):=fun p hp hi =>
 qw6 (by kernel_rfl) (qw1 (f:=63) (by kernel_rfl) nxt) (qsu (f:=64) (by kernel_rfl) nxt) p hp hi (qys p) (by rw[qpZ];simp[st0])
theorem atR:qsW Try.prog 26:=qzJ (by kernel_rfl) (qzF (f:=39) (by kernel_rfl) ofR) ofR unsR
theorem hal:qyT Try.prog 129:=fun x h0 h1=>qs9 (by kernel_rfl) x h0 h1
theorem wid:qyV Try.prog 128:=fun x l hl=>qyC (by kernel_rfl) x l hl
theorem wordP:qn9 Try.prog 107:=fun d hd k h0 h1=>qxE (by kernel_rfl) (qwA (f:=123) (by kernel_rfl) wid hal) d hd k h0 h1
theorem wxR:cWX Try.prog 84:=fun c=>qyN (by kernel_rfl) ofR c
theorem shf:qyU Try.prog 85:=fun a h0 h1 left n hn=>qwX (by kernel_rfl) a h0 h1 left n hn
theorem putR:qt2 Try.prog 110:=fun x h0 h1 n hn=>qzg (by kernel_rfl) x h0 h1 n hn
theorem wordR:qn9 Try.prog 83:=fun d hd k h0 h1=>qzC (by kernel_rfl) (fun d hd=>qyM (f:=100) (by kernel_rfl) putR d hd) getRR d hd k h0 h1
theorem loadR:qt1 Try.prog 66:=fun m hm i hi d hd=>qy9 (by kernel_rfl) wordR m hm i hi d hd
theorem numR:qxy Try.prog 67:=fun m hm i hi hc=>qya (by kernel_rfl) ofR wxR shf m hm i hi hc
theorem jumpR:qt0 Try.prog 68:=fun m hm i hi hc=>qy6 (by kernel_rfl) wxR m hm i hi hc
theorem doRR:qyS Try.prog 42:=fun m hm i hi d hd=>qzL (by kernel_rfl) (qyJ (f:=65) (by kernel_rfl) ofR) ofR loadR numR jumpR m hm i hi d hd
theorem runRR:qt4 Try.prog 27:=fun p hp hi d hd=>qzI (by kernel_rfl) doRR ofR p hp hi d hd
theorem tok:qn8 Try.prog 53:=fun a h0 h6=>qwg (by kernel_rfl) (qtQ (f:=74) (by kernel_rfl)) a h0 h6
theorem wfn:WFn Try.prog 75 50 72 54 55 56:=⟨by kernel_rfl,by kernel_rfl,by kernel_rfl,by kernel_rfl,by kernel_rfl⟩
theorem mayL:∀l,MayL l->qg Try.prog 76 [.fz l.length (rSy l)] (.b true):=fun l hl=>qza (g:=89) (by kernel_rfl) (fun s j n h1 h2 h3=>qwS (g1:=106) (g2:=107) (g3:=108) (by kernel_rfl) (qwd (by kernel_rfl)) wordP (qwr (by kernel_rfl)) s j n h1 h2 h3) l hl
theorem asks:qd1 Try.prog 97:=qyL (by kernel_rfl) ofM
theorem clS:qdt Try.prog 95 4 24:=qwv (by kernel_rfl)
theorem bkS:∀l:List Sy,qg Try.prog 77 [.fz l.length (rSy l)] (.fn 90 [] [.pf [.fz l.length (rSy l)] 0]):=qxs (by kernel_rfl)
theorem bkI:∀l:List Ins,qg Try.prog 109 [.fz l.length (rP l)] (.fn 124 [] [.pf [.fz l.length (rP l)] 0]):=qxr (by kernel_rfl)
theorem optP:qxz Try.prog 38:=qzH (g1:=60) (g2:=61) (gs:=79) (gt:=80) (gl:=81) (s1:=94) (s2:=93) (t1:=96) (v1:=98) (v2:=99)
 (by kernel_rfl) (by kernel_rfl) (by kernel_rfl) mayL (by kernel_rfl) (by kernel_rfl) (by kernel_rfl) clS ofM asks (by kernel_rfl) (by kernel_rfl) bkS (by kernel_rfl) (by kernel_rfl) (by kernel_rfl) (by kernel_rfl)
theorem lkOne:qqV Try.prog 78:=qzG (gD:=92) (gP:=91) (by kernel_rfl) (by kernel_rfl) ofM (by kernel_rfl) bkI (by kernel_rfl)
theorem lnk:qsX Try.prog 37:=qy7 (g1:=58) (g2:=59) (by kernel_rfl) (by kernel_rfl) (by kernel_rfl) mayL bkS (by kernel_rfl) lkOne
theorem qh0:qn7 Try.prog 71:=qqo (by kernel_rfl)
theorem cntF:∀l:List Int,l.length<=qe->qg Try.prog 48 [.fz l.length (rI .i64 l),.fn 49 [] []] (.b (l.any fun a=>decide (a<0)||decide (6<=a))):=fun l hl=>qqn (by kernel_rfl) qh0 l _ _ (qyG (by kernel_rfl)) hl
theorem cntI:∀(l:List Int) (x:Int),l.length<=qe->qg Try.prog 51 [.fz l.length (rI .i64 l),.i .i64 x] (.b (decide (x ∈ l))):=fun l x hl=>qq4 (by kernel_rfl) (fun xs x hl=>qwL (f:=73) (by kernel_rfl) xs x hl) l x hl
theorem allP:qg Try.prog 52 [] (.fz 6 (rI .i64 [0,1,2,3,4,5])):=qyF (by kernel_rfl)
theorem cGd:∀l:List Int,l.length<=qe->qg Try.prog 36 [.fz l.length (rI .i64 l)] (.tup [.fz (gdA l).1.length (rSy (gdA l).1),.i .i64 (gdA l).2]):=fun l hl=>qww (g:=75) (gp:=72) (gd:=57) (by kernel_rfl) wfn (by kernel_rfl) (by kernel_rfl) tok cntF cntI allP l hl
theorem grd:qqU Try.prog 10:=qzE (gd:=21) (gwG:=22) (gwO:=24) (gwL:=23) (gs:=25) (by kernel_rfl) (by kernel_rfl) (by kernel_rfl) (by kernel_rfl) (by kernel_rfl) (by kernel_rfl) cGd optP lnk
theorem archR:∀t n:Int,0<=n->n<=4294967295->qg Try.prog 28 [.i .u32 t,.i .u32 n] (.tup [.i .i64 (Go.Kc.ofM t n).1,.b (Go.Kc.ofM t n).2]):=fun t n h0 h1=>qwU (by kernel_rfl) (qyt (f:=43) (by kernel_rfl)) t n h0 h1
theorem codegenGuard(l:List Int)(o:Bool)(d:GData)(hd:DatOk d):qg Try.prog 4 [.fz l.length (rI .i64 l),.b o,.agg (qL d)] (.b true) :=
 qmY (by kernel_rfl) grd (fun p hp hu=>qwb (f:=11) (by kernel_rfl) atR p hp hu) (fun l hl d hd=>qwJ (f:=13) (by kernel_rfl) archR l hl d hd) (fun p hp d hd w h1 h2=>qwc (f:=12) (by kernel_rfl) runRR p hp d hd w h1 h2) l o d hd
end Go.Proofs.Ytpgbjeabmkbmbaa.Walk
