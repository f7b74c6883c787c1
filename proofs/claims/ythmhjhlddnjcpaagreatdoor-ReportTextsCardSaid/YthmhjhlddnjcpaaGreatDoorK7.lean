/- Part 7 of the abstract machine and of the functions' walks. Conditions: with each theorem. -/
import Derived.Test.YthmhjhlddnjcpaaGreatDoorK6
set_option maxHeartbeats 4000000
set_option linter.unusedSectionVars false
set_option linter.unusedSimpArgs false
set_option linter.unusedVariables false
set_option linter.unnecessarySimpa false
section
namespace Go.Kc
variable [Cur]
variable {P:Program} {f:Nat}
def aN:List AV:=[.nils,.i .u8 0,.nils,.i .u32 0,.i .u8 0,.nils,.nils,.i .u8 0,.i .u64 0,.b false,.b false,.b false,.b false,.nils]
def qK(a b c d e g:Nat):ICode:=.seq (.seq (.r [.m 7 (.k 0)]) (.blk 2 (.loop (.seq (.seq (.r [.n 58 7,.n 59 0,.e 60 59,.s 61 58 60]) (.cond (.t 61) (.skip) (.exit 2))) (.seq (.blk 3 (.seq (.reg true [.n 64 6,.n 65 7,.i 66 1 64 65,.d 67 66,.n 68 0,.n 69 7,.i 70 4 68 69,.v 71 4 70,.l 72 d [.t 71],.b 73 .neq 67 72,.n 74 73,.z 75 0 74,.z 76 7 74,.g 77 (.iAddrS 4 (.t 75) (.t 76)) 74 false,.g 78 (.loadN 4 (.t 77)) 74 false,⟨(some 79),.callF e [.t 78],(some (74,false))⟩,.z 80 6 74,.z 81 7 74,.g 82 (.iAddrS 1 (.t 80) (.t 81)) 74 false,.j 83 82 74 false,.g 84 (.bin .neq (.t 79) (.t 83)) 74 false,.o 85 74 84]) (.cond (.t 85) (.seq (.r [.m 2 .F]) (.ret)) (.skip)))) (.r [.n 62 7,.a 63 62 1,.n 7 63])))))) (.seq (.r [.l 86 g [],.n 2 86]) (.ret))
def qH(a b c d e g:Nat):ICode:=.seq (.r [.n 43 0,.q 44 (.build [.nils,.i .u8 0,.nils,.i .u32 0,.i .u8 0,.nils,.nils,.i .u8 0,.i .u64 0,.b false,.b false,.b false,.b false,.nils,.nils] [(14,1,(.t 43))]),.q 5 (.alloc [.nils,.i .u8 0,.nils,.i .u32 0,.i .u8 0,.nils,.nils,.i .u8 0,.i .u64 0,.b false,.b false,.b false,.b false,.nils,.nils]),.u (.store 15 (.t 5) (.t 44))]) (.seq (.r [.v 45 15 5,.l 46 b [.t 45],.n 6 46]) (.seq (.seq (.r [.n 47 6,.e 48 47,.n 49 0,.e 50 49,.b 51 .neq 48 50,.n 52 51,.g 53 (.loadN 15 (.t 5)) 52 false,⟨(some 54),.callF c [.t 53],(some (52,false))⟩,.z 55 3 52,.g 56 (.eqB false (.t 54) (.t 55)) 52 false,.o 57 52 56]) (.cond (.t 57) (.seq (.r [.m 2 .F]) (.ret)) (.skip))) (.cut (qK a b c d e g))))
def zx(a b c d e g:Nat):IFn:=⟨[.tmp 2],.seq (.r [.m 2 .F]) (.seq (.seq (.r [.n 8 0,.e 9 8,.w 10 .gtr 9 40]) (.cond (.t 10) (.seq (.r [.m 2 .T]) (.ret)) (.skip))) (.seq (.r [.m 3 .F]) (.seq (.seq (.r [.m 4 (.k 0)]) (.blk 0 (.loop (.seq (.seq (.r [.n 11 4,.n 12 0,.e 13 12,.s 14 11 13]) (.cond (.t 14) (.skip) (.exit 0))) (.seq (.blk 1 (.seq (.seq (.r [.n 17 0,.n 18 4,.i 19 4 17 18,.f 20 0 19,.d 21 20,.q 22 (.len true (.t 21)),.w 23 .gtr 22 300,.n 24 23,.z 25 0 24,.z 26 4 24,.g 27 (.iAddrS 4 (.t 25) (.t 26)) 24 false,.h 28 3 27 24 false,.j 29 28 24 false,.g 30 (.len true (.t 29)) 24 false,.g 31 (.bin .gtr (.t 30) (.k 300)) 24 false,.o 32 24 31]) (.cond (.t 32) (.seq (.r [.m 2 .T]) (.ret)) (.skip))) (.r [.n 33 3,.n 34 33,.z 35 0 34,.z 36 4 34,.g 37 (.iAddrS 4 (.t 35) (.t 36)) 34 false,.h 38 2 37 34 false,.j 39 38 34 false,⟨(some 40),.callF a [.t 39],(some (34,false))⟩,.g 41 (.un .not (.t 40)) 34 false,.o 42 34 41,.n 3 42]))) (.r [.n 15 4,.a 16 15 1,.n 4 16])))))) (.cut (qH a b c d e g)))))⟩
theorem qgW{g1 g2 g3 g4 g5 g6:Nat}(l:List GNote)(hl:l.length<=40)(hn:∀n ∈ l,NotL n)(h4:∀n,NotL n->qp P g4 [.agg (qE n)] (.s (zW n)))(h5:∀n,NotL n->qp P g5 [.agg (qE n)] (.s (zW n)))(h6:qp P g6 [] (.b true)){t:Tr AV}{h:Hp}(hw:Wk 0 t h (mkT [(0,.fz l.length (rN l)),(6,.own 0 l.length)]) (mkH 0 [.cells 1 true true (rT l)])) :
  S P 0 (qK g1 g2 g3 g4 g5 g6) (qan [.tmp 2] fun v' h'=>Frz h' v' (.b true)) t h:=by
 refine S.weak hw (zq ?_);simp only[qK,vI,simprocAttr];simp +decide only[↓vS,vT,simprocAttr];refine SL.loop (α:=Nat) (fun j=>[(0,.fz l.length (rN l)),(6,.own 0 l.length),(7,.i .i64 j)]) (fun _=>[.cells 1 true true (rT l)]) (fun j=>j<=l.length) (fun j=>l.length-j) 0 [0] ?_ ?_ ?_ rfl ?_ ?_
 ·simp[vw,qr,xr]
 ·simp[vw,qr,wX]
 ·simp
 ·exact Nat.zero_le _
 rintro j hj G ih;simp only[vI,simprocAttr]
 by_cases hlt:j<l.length
 ·have hx:l[j]?=some l[j]:=zzE hlt;have hw:IntKind.wrap .i64 ((j:Int)+1)=((j+1:Nat):Int):=by rw[jW (by omega) (by omega)];omega
  have he:=qjI hx;have hb:=qdl hlt;have hrx:(rT l)[j]?=some (.s (zW l[j])):=by rw[rT,List.getElem?_map,hx];rfl
  have hm:=hn _ (List.getElem_mem hlt);have p4:=h4 _ hm;have p5:=h5 _ hm;simp +decide only[↓vS,vT,simprocAttr,hlt,he,hb,hw,hrx,Nat.mul_one];refine qd6 ?_;simp +decide only[↓vS,vT,simprocAttr,hlt,he,hb,hw,hrx,Nat.mul_one];refine p4.pc ?_;simp only[Hp.up,Hp.down];simp +decide only[↓vS,vT,simprocAttr,hlt,he,hb,hw,hrx,Nat.mul_one];refine p5.pc ?_;simp only[Hp.up,Hp.down];simp +decide only[↓vS,vT,simprocAttr,hlt,he,hb,hw,hrx,Nat.mul_one];refine ih (j+1) hlt (by omega) _ _ (Wk.mk _ _ [0] ?_ ?_ ?_ rfl)
  ·simp[vw,qr,xr]
  ·simp[vw,qr,wX]
  ·simp
 ·obtain rfl:j=l.length:=by omega
  simp +decide only[↓vS,vT,simprocAttr,hlt];refine h6.sc ?_;simp only[↓vS,vT,simprocAttr];simp[vZ]
theorem qcr{l:List GNote}{j:Nat}{n:GNote}(hx:l[j]?=some n):zr (l.take (j+1))=(zr (l.take j) || !jf n.err):=by
 rw[List.take_add_one,hx];simp[zr]
theorem qfc{g1 g2 g3 g4 g5 g6:Nat}(l:List GNote)(hl:l.length<=40)(hn:∀n ∈ l,NotL n)(h2:∀(a:List AV),a.length=14->qM a=true->Own P g2 [.agg (w6 a l)] (.own 0 l.length) [.cells 1 true true (rT l)])(h3:∀(a:List AV),a.length=14->qM a=true->qp P g3 [.agg (w6 a l)] (.b (!zr l)))
  (h4:∀n,NotL n->qp P g4 [.agg (qE n)] (.s (zW n))) (h5:∀n,NotL n->qp P g5 [.agg (qE n)] (.s (zW n))) (h6:qp P g6 [] (.b true)) {t:Tr AV} {h:Hp} (hw:Wk 0 t h (mkT [(0,.fz l.length (rN l)),(3,.b (zr l))]) (mkH 0 [])) :
  S P 0 (qH g1 g2 g3 g4 g5 g6) (qan [.tmp 2] fun v' h'=>Frz h' v' (.b true)) t h:=by
 refine S.weak hw (zq ?_);have q2:=h2 aN rfl rfl;have q3:=h3 aN rfl rfl;have hne:((!zr l)==zr l)=false:=by cases zr l<;>rfl
 simp only[qH,vI,simprocAttr];simp +decide only[↓vS,vT,simprocAttr];refine q2.sc ?_;simp only[vJ,simprocAttr];simp +decide only[↓vS,vT,simprocAttr,hne];refine q3.sc ?_;simp +decide only[↓vS,vT,simprocAttr,hne];refine qgW l hl hn h4 h5 h6 (Wk.mk _ _ [1] ?_ ?_ ?_ rfl)
 ·simp[vw,qr,xr]
 ·simp[vw,jI wX,qr,wX]
 ·simp
theorem qoX{g1 g2 g3 g4 g5 g6:Nat}(hc:zp P f (zx g1 g2 g3 g4 g5 g6)=true)(h1:∀x,qp P g1 [.i .i64 x] (.b (jf x)))(h2:∀(l:List GNote),l.length<=40->(∀n ∈ l,NotL n)->∀(a:List AV),a.length=14->qM a=true->Own P g2 [.agg (w6 a l)] (.own 0 l.length) [.cells 1 true true (rT l)])
  (h3:∀(l:List GNote),l.length<=40->∀(a:List AV),a.length=14->qM a=true->qp P g3 [.agg (w6 a l)] (.b (!zr l)))
  (h4:∀n,NotL n->qp P g4 [.agg (qE n)] (.s (zW n))) (h5:∀n,NotL n->qp P g5 [.agg (qE n)] (.s (zW n))) (h6:qp P g6 [] (.b true)) (l:List GNote) (hn:∀n ∈ l,n.file.length<=300->n.text.length<=300->NotL n):qp P f [.fz l.length (rN l)] (.b true):=by
 refine qp.mk hc (by simp[qM,clo,xr]) ?_;simp only[zx,vI,simprocAttr]
 by_cases hl:40<l.length
 ·have hl':(40:Int)<l.length:=by omega
  simp +decide only[↓vS,vT,simprocAttr,hl'];simp[vZ]
 have hl':¬(40:Int)<l.length:=by omega
 simp +decide only[↓vS,vT,simprocAttr,hl'];refine SL.loop (α:=Nat) (fun j=>[(0,.fz l.length (rN l)),(3,.b (zr (l.take j))),(4,.i .i64 j)]) (fun _=>[]) (fun j=>j<=l.length∧∀n ∈ l.take j,NotL n) (fun j=>l.length-j) 0 [] ?_ ?_ ?_ rfl ?_ ?_
 ·simp[vw,qr,xr,zr]
 ·simp[vw]
 ·simp
 ·exact⟨Nat.zero_le _,by simp⟩
 rintro j ⟨hj,hI⟩ G ih;simp only[vI,simprocAttr]
 by_cases hlt:j<l.length
 ·have hx:l[j]?=some l[j]:=zzE hlt;have hw:IntKind.wrap .i64 ((j:Int)+1)=((j+1:Nat):Int):=by rw[jW (by omega) (by omega)];omega
  have hb:=qdl hlt;have e0:(rN l)[j*4]?=some (.s l[j].file):=by have:=qdV hx (i:=0) (by omega);simpa[qE] using this
  have e2:(rN l)[j*4+2]?=some (.i .i64 l[j].err):=by have:=qdV hx (i:=2) (by omega);simpa[qE] using this
  have e3:(rN l)[j*4+3]?=some (.s l[j].text):=by have:=qdV hx (i:=3) (by omega);simpa[qE] using this
  have hft:=qcr hx;have p1:=h1 l[j].err;have hm:=hn _ (List.getElem_mem hlt)
  by_cases a1:300<l[j].file.length
  ·have a1':(300:Int)<l[j].file.length:=by omega
   simp +decide only[↓vS,vT,simprocAttr,hlt,hb,e0,e3,a1'];simp[vZ]
  have a1':¬(300:Int)<l[j].file.length:=by omega
  by_cases a2:300<l[j].text.length
  ·have a2':(300:Int)<l[j].text.length:=by omega
   simp +decide only[↓vS,vT,simprocAttr,hlt,hb,e0,e3,a1',a2'];simp[vZ]
  have a2':¬(300:Int)<l[j].text.length:=by omega
  have ih2:=ih (j+1) ⟨hlt,fun n h=>by
   rw[List.take_add_one,hx] at h;rcases List.mem_append.1 h with h|h
   ·exact hI n h
   ·simp at h;subst h;exact hm (by omega) (by omega)⟩ (by omega)
  rw[hft] at ih2;cases hb0:zr (l.take j)<;>rw[hb0] at ih2
  ·simp +decide only[↓vS,vT,simprocAttr,hlt,hb,e0,e2,e3,a1',a2',hw];refine p1.sc ?_;cases hq:jf l[j].err<;>rw[hq] at ih2
   all_goals
    simp +decide only[↓vS,vT,simprocAttr,hw];refine ih2 _ _ (Wk.mk _ _ [] ?_ ?_ ?_ rfl)
    ·simp[vw,qr,xr]
    ·simp[vw]
    ·simp
  ·simp +decide only[↓vS,vT,simprocAttr,hlt,hb,e0,e2,e3,a1',a2',hw];refine ih2 _ _ (Wk.mk _ _ [] ?_ ?_ ?_ rfl)
   ·simp[vw,qr,xr]
   ·simp[vw]
   ·simp
 ·obtain rfl:j=l.length:=by omega
  rw[List.take_length] at hI;simp +decide only[↓vS,vT,simprocAttr,hlt,List.take_length];refine qfc l (by omega) hI (h2 l (by omega) hI) (h3 l (by omega)) h4 h5 h6 (Wk.mk _ _ [] ?_ ?_ ?_ rfl)
  ·simp[vw,qr,xr]
  ·simp[vw]
  ·simp
def xK(a:Nat):IFn:=⟨[.cell 2 15 true],.seq (.r [.q 2 (.alloc [.nils,.i .u8 0,.nils,.i .u32 0,.i .u8 0,.nils,.nils,.i .u8 0,.i .u64 0,.b false,.b false,.b false,.b false,.nils,.nils])]) (.seq (.r [.n 3 0,.q 4 (.s2b (.t 3)),.q 5 (.build [.s [],.i .i64 0,.nils] [(0,1,(.c (.s [102]))),(2,1,(.t 4))]),.l 6 a [.t 5,.N,.T],.u (.store 15 (.t 2) (.t 6))]) (.ret))⟩
theorem qoY{g:Nat}(hc:zp P f (xK g)=true)(s:List UInt8)(rep:List AV)(hl:rep.length=15)(hrc:qM rep=true)(hco:qw rep=true)(hg:qp P g [.agg [.s [102],.i .i64 0,.fz s.length (bR s)],.nils,.b true] (.agg rep)):qp P f [.s s] (.agg rep):=by
 refine qp.mk hc rfl ?_;have htk:rep.take 15=rep:=List.take_of_length_le (by omega);have hdr:rep.drop 15=[]:=List.drop_eq_nil_of_le (by omega);simp only[xK,vI,simprocAttr];simp +decide only[↓vS,vT,simprocAttr];refine SC.give (vs':=[.agg [.s [102],.i .i64 0,.fz s.length (bR s)],.nils,.b true]) [(1,.cells 1 true true (bR s))] ?_ ?_ ?_
 ·intro q hq;simp at hq;subst hq;simp[Tr.get_set,bR]
 ·refine .fz _ _ _ _ (.agg _ _ (.cons _ _ _ _ (.s _) (.cons _ _ _ _ (.i _ _) (.cons _ _ _ _ (.own 1 _ 1 true (bR s) _ ?_ (fun h0=>?_) (Frzs.self qd8)) .nil)))) (.keep _ _ _ (.keep _ _ _ .nil))
  ·simp[trP,Tr.get_set]
  ·rw[List.eq_nil_of_length_eq_zero h0];rfl
 simp only[qfb,qgV,qej];refine hg.sc ?_;simp +decide only[↓vS,vT,simprocAttr,hl,hco,htk,hdr];simp[vZ];exact Frzs.self hrc
theorem SC.nil3{g:Nat}{a b:AV}{cs:List AV}{h:Hp}{k:AV->Hp->Prop}(h1:SC P g (.agg [a,b,.nils]::cs) h k)(h2:SC P g (.agg [a,b,.nz]::cs) h k):SC P g (.agg [a,b,.fz 0 []]::cs) h k:=by
 refine⟨h1.1,fun ρ B w args r ha=>?_⟩
 generalize hl:args.toList=xs at ha;cases ha with
 | cons _ _ x xs hx hxs =>
  cases hx with
  | agg _ arr ha =>
   generalize hy:arr.toList=ys at ha;cases ha with
   | cons _ _ _ _ q1 ha =>
    cases ha with
    | cons _ _ _ _ q2 ha =>
     cases ha with
     | cons _ _ _ _ q3 ha =>
      cases ha;cases q3 with
      | fz _ off c _ k' arr hn hk hs=>exact h2.2 ρ B w args r (by rw[hl];exact .cons _ _ _ _ (.agg _ _ (by rw[hy];exact .cons _ _ _ _ q1 (.cons _ _ _ _ q2 (.cons _ _ _ _ (.nz _ _) .nil)))) hxs)
      | fz0 a =>
       cases a with
       | none=>exact h1.2 ρ B w args r (by rw[hl];exact .cons _ _ _ _ (.agg _ _ (by rw[hy];exact .cons _ _ _ _ q1 (.cons _ _ _ _ q2 (.cons _ _ _ _ .nils .nil)))) hxs)
       | some a=>exact h2.2 ρ B w args r (by rw[hl];exact .cons _ _ _ _ (.agg _ _ (by rw[hy];exact .cons _ _ _ _ q1 (.cons _ _ _ _ q2 (.cons _ _ _ _ (.nz _ _) .nil)))) hxs)
theorem qp.nil3{g:Nat}{a b v:AV}{cs:List AV}(h1:qp P g (.agg [a,b,.nils]::cs) v)(h2:qp P g (.agg [a,b,.nz]::cs) v):qp P g (.agg [a,b,.fz 0 []]::cs) v:=fun h k hk=>SC.nil3 (h1 h k hk) (h2 h k hk)
end Go.Kc
end
