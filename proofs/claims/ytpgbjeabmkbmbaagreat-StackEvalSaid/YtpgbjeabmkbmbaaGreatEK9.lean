/- Part 9 of the abstract machine and of the functions' walks. Conditions: with each theorem. -/
import Derived.Test.YtpgbjeabmkbmbaaGreatEK8
set_option maxHeartbeats 4000000
set_option linter.unusedSectionVars false
set_option linter.unusedSimpArgs false
set_option linter.unusedVariables false
set_option linter.unnecessarySimpa false
section
namespace Go.Kc
variable [Cur]
variable {P:Program} {f:Nat}
theorem qei{x:Prg}(hx:∀i ∈ x.ins,InsOk i)(h:jn x=true):PrgGood x.ins:=by
 unfold jn at h;simp only[Bool.and_eq_true,decide_eq_true_eq] at h;obtain⟨h1,h2,h3,h4,_⟩:=qmd h.1;exact⟨h2,h1,hx,h3,h4⟩
theorem vk{l:List Prg}(hx:∀x ∈ l,∀i ∈ x.ins,InsOk i)(h:zz l=true):l.length<=48∧∀x ∈ l,PrgGood x.ins:=by
 unfold zz at h;simp only[Bool.and_eq_true,decide_eq_true_eq,List.all_eq_true] at h;exact⟨h.1,fun x hm=>qei (hx x hm) (h.2 x hm)⟩
def w5(l:List Prg)(d:GData):List Int:=l.map fun x=>(Qg x.ins d).1
def evS(l:List Prg)(d:GData):Int:=kT (w5 l d)
theorem Q6(l:List Prg)(d:GData):(w5 l d).length=l.length:=by simp[w5]
theorem qbu{l:List Prg}{d:GData}{j:Nat}{x:Prg}(h:l[j]?=some x):w5 (l.take (j+1)) d=w5 (l.take j) d++[(Qg x.ins d).1]:=by
 rw[List.take_add_one,h];simp[w5]
def qg0(P:Program)(g:Nat):Prop:=∀p,PrgGood p->∀d,DatOk d->∃n:Int,qb P g [.fz p.length (rP p),.agg (qP d)] (.tup [.i .u32 (Qg p d).1,.i .i64 n,.i .i64 0])
def qcS(P:Program)(g:Nat):Prop:=∀l:List Prg,l.length<=100->(∀x ∈ l,PrgIn x)->qb P g [.fz l.length (rPr l)] (.b (zz l))
def qcR(P:Program)(g:Nat):Prop:=∀l:List Int,(∀x ∈ l,u32 x)->l.length<=100000->qb P g [.fz l.length (rI .u32 l)] (.i .u32 (kT l))
def vj(a:Nat):IFn:=⟨[.tmp 2],.seq (.r [.m 2 (.c (.i .u32 0))]) (.seq (.r [.n 3 0,.l 4 a [.t 3],.n 2 4]) (.ret))⟩
theorem qi8{g:Nat}(hc:qh P f (vj g)=true)(hg:qcR P g):qcR P f:=by
 intro l hl hn;refine qb.mk hc (by simp[qx,clo,zk]) ?_;simp only[vj,vI,simprocAttr];simp +decide only[↓vS,vT,simprocAttr];refine (hg l hl hn).sc ?_;simp +decide only[↓vS,vT,simprocAttr];simp[vZ]
def jG(a b c:Nat):ICode:=.seq (.r [.n 34 6,.l 35 c [.t 34],.n 4 35,.m 5 (.k 0)]) (.ret)
def vy(a b c:Nat):IFn:=⟨[.tmp 4,.tmp 5],.seq (.r [.q 3 (.box (.t 1)),.m 4 (.c (.i .u32 0)),.m 5 (.k 0)]) (.seq (.seq (.r [.n 12 0,.l 13 a [.t 12],.q 14 (.un .not (.t 13))]) (.cond (.t 14) (.seq (.r [.m 4 (.c (.i .u32 0)),.m 5 (.k 290)]) (.ret)) (.skip))) (.seq (.r [.m 6 .N]) (.seq (.seq (.r [.n 15 0,.e 16 15,.m 17 (.k 0)]) (.blk 0 (.loop (.seq (.r [.s 18 17 16]) (.seq (.cond (.t 18) (.skip) (.exit 0)) (.seq (.blk 1 (.seq (.r [.i 19 3 15 17,.v 20 3 19,.q 8 (.alloc [.i .i64 0,.i .i64 0,.nils]),.u (.store 3 (.t 8) (.t 20))]) (.seq (.r [.f 22 2 8,.d 23 22,.v 24 9 3,.l 25 b [.t 23,.t 24],.n 21 25,.x 26 21 0,.x 27 21 1,.x 28 21 2,.n 9 26,.n 10 27,.n 11 28]) (.r [.n 29 6,.n 30 9,.q 31 (.buildS 1 [.i .u32 0] [(0,1,(.t 30))]),.q 32 (.app 1 4 true (.t 29) (.t 31)),.n 6 32])))) (.r [.a 33 17 1,.n 17 33]))))))) (.cut (jG a b c)))))⟩
theorem qjZ{g1 g2 g3:Nat}(hg:qcR P g3)(A:List Int)(hA:∀x ∈ A,u32 x)(hn:A.length<=100){t':Tr AV}{h':Hp}(hw:Wk 0 t' h' (mkT [(6,.own 0 A.length)]) (mkH 0 [.cells 1 true true (rI .u32 A)])) :
  S P 0 (jG g1 g2 g3) (jd [.tmp 4,.tmp 5] fun v' h'=>Frz h' v' (.tup [.i .u32 (kT A),.i .i64 0])) t' h':=by
 refine S.weak hw (qr ?_);simp only[jG,vI,simprocAttr];simp +decide only[↓vS,vT,simprocAttr];refine (hg A hA (by omega)).give [(0,.cells 1 true true (rI .u32 A))] (by simp[Tr.get_set]) rfl ?_ ?_
 ·simp[vZ,vP,Tr.get_set,zC zk,trP];intro h0;rw[h0];rfl
 simp only[jH,wS,zj];simp +decide only[↓vS,vT,simprocAttr];simp[vZ]
theorem stackEval{g1 g2 g3:Nat}(hc:qh P f (vy g1 g2 g3)=true)(h1:qcS P g1)(h2:qg0 P g2)(h3:qcR P g3)(l:List Prg)(hl:l.length<=100)(hx:∀x ∈ l,PrgIn x)(d:GData)(hd:DatOk d) :
  qb P f [.fz l.length (rPr l),.agg (qP d)] (if zz l=true then .tup [.i .u32 (evS l d),.i .i64 0] else .tup [.i .u32 0,.i .i64 290]):=by
 refine qb.mk hc (by simp[qx,clo,qX,zY]) ?_;have hmay:=h1 l hl hx
 by_cases hm:zz l=true
 ·rw[if_pos hm];rw[hm] at hmay;obtain⟨h48,hgood⟩:=vk (fun x hxm=>(hx x hxm).ins) hm
  have hu:∀x ∈ w5 l d,u32 x:=fun x hxm=>by
   obtain⟨y,hy,rfl⟩:=List.mem_map.1 hxm;exact qbW (hgood y hy).ins hd
  simp only[vy,vI,simprocAttr];simp +decide only[↓vS,vT,simprocAttr];refine hmay.sc ?_;simp +decide only[↓vS,vT,simprocAttr];refine SL.loop (α:=Nat) (fun j=>[(3,.ptr 0 0),(6,.own 1 (w5 (l.take j) d).length),(15,.fz l.length (rPr l)),(16,.i .i64 l.length),(17,.i .i64 (j:Int))]) (fun j=>[.cells 0 true false (qP d),.cells 1 true true (rI .u32 (w5 (l.take j) d))]) (fun j=>j<=l.length) (fun j=>l.length-j) 0 [0,99] ?_ ?_ ?_ rfl ?_ ?_
  ·simp[vw,qX,w5]
  ·simp[vw,qc,zY,w5,rI];exact NVs.refl zY
  ·simp
  ·exact Nat.zero_le _
  rintro j hj G ih;simp only[vI,simprocAttr]
  by_cases hlt:j<l.length
  ·obtain⟨x,hpx⟩:∃x,l[j]?=some x:=⟨_,zzE hlt⟩;have hxm:=zzM hpx;have ex:=zP (f:=cPr) (m:=3) yU hpx;rw[show l.flatMap cPr=rPr l from rfl] at ex
   simp only[cPr] at ex;have bx:j*3+3<=(rPr l).length:=by rw[qal];omega
   have hw1:IntKind.wrap .i64 ((j:Int)+1)=((j+1:Nat):Int):=by rw[qv (by omega) (by omega)];omega
   obtain⟨n,hrun⟩:=h2 x.ins (hgood x hxm) d hd;have ih2:=ih (j+1) hlt (by omega);have hal:(w5 (l.take j) d).length<=100:=by rw[Q6,List.length_take];omega
   rw[qbu hpx] at ih2;generalize w5 (l.take j) d=A at ih2 hal ⊢;have hr1:A.length+1<=qe:=by simp only[qe];omega
   have hr2:(A.length+1)*4<=qe:=by simp only[qe];omega
   have hap:rI .u32 A++[.i .u32 (Qg x.ins d).1]=rI .u32 (A++[(Qg x.ins d).1]):=by rw[← qej];rfl
   have hll:(rI .u32 A).length=A.length:=xf;simp +decide only[↓vS,vT,simprocAttr,hlt,ex,bx,QK,qay];refine hrun.sc ?_;simp +decide only[↓vS,vT,simprocAttr,hr1,hr2,hap,hll,Nat.mul_one,hw1];refine ih2 _ _ (Wk.mk _ _ [0,4] ?_ ?_ ?_ rfl)
   ·simp[vw,qX]
   ·simp[vw,qc,zk];exact NVs.refl zY
   ·simp
  ·obtain rfl:j=l.length:=by omega
   simp +decide only[↓vS,vT,simprocAttr,hlt,List.take_length];refine qjZ h3 (w5 l d) hu (by rw[Q6];exact hl) (Wk.mk _ _ [1] ?_ ?_ ?_ rfl)
   ·simp[vw]
   ·simp[vw,qc,zk]
   ·simp
 ·have hf:zz l=false:=by simpa using hm
  rw[if_neg hm];rw[hf] at hmay;simp only[vy,vI,simprocAttr];simp +decide only[↓vS,vT,simprocAttr];refine hmay.sc ?_;simp +decide only[↓vS,vT,simprocAttr];simp[vZ]
def wN(a b c d:Nat):IFn:=⟨[.tmp 2,.tmp 3],.seq (.r [.m 2 .N,.m 3 (.k 0)]) (.seq (.seq (.r [.n 9 0,.l 10 a [.t 9],.q 11 (.un .not (.t 10))]) (.cond (.t 11) (.seq (.r [.m 2 .N,.m 3 (.k 290)]) (.ret)) (.skip))) (.seq (.r [.m 4 .N]) (.seq (.seq (.r [.n 12 0,.e 13 12,.m 14 (.k 0)]) (.blk 0 (.loop (.seq (.r [.s 15 14 13]) (.seq (.cond (.t 15) (.skip) (.exit 0)) (.seq (.blk 1 (.seq (.r [.i 16 3 12 14,.v 17 3 16,.q 6 (.alloc [.i .i64 0,.i .i64 0,.nils]),.u (.store 3 (.t 6) (.t 17))]) (.seq (.r [.f 19 2 6,.d 20 19,.l 21 b [.t 20],.n 18 21,.x 22 18 0,.x 23 18 1,.n 7 22,.n 8 23]) (.reg true [.n 24 4,.f 25 0 6,.d 26 25,.q 27 (.cvInt .u8 (.t 26)),.f 28 1 6,.d 29 28,.q 30 (.cvInt .u8 (.t 29)),.q 31 (.buildS 2 [.i .u8 0] [(0,1,(.t 27)),(1,1,(.t 30))]),.f 32 2 6,.d 33 32,.e 34 33,.q 35 (.cvInt .u16 (.t 34)),.l 36 c [.t 35],.n 37 7,.q 38 (.buildS 4 [.nils] [(0,1,(.t 24)),(1,1,(.t 31)),(2,1,(.t 36)),(3,1,(.t 37))]),⟨(some 39),.callW d [.t 38],none⟩,.n 4 39])))) (.r [.a 40 14 1,.n 14 40]))))))) (.seq (.r [.n 41 4,.n 2 41,.m 3 (.k 0)]) (.ret)))))⟩
theorem qoC{g1 g2 g3 g4:Nat}(hc:qh P f (wN g1 g2 g3 g4)=true)(h1:qcS P g1)(h2:qpF P g2)(h3:∀x:Int,qb P g3 [.i .u16 x] (.fz 2 (rB (zL 2 x))))(h4:qau P g4)(l:List Prg)(hl:l.length<=100)(hx:∀x ∈ l,PrgIn x) :
  qb P f [.fz l.length (rPr l)] (if zz l=true then .tup [.fz (ko l).length (rB (ko l)),.i .i64 0] else .tup [.fz 0 [],.i .i64 290]):=by
 refine qb.mk hc (by simp[qx,clo,qX]) ?_;have hmay:=h1 l hl hx
 by_cases hm:zz l=true
 ·rw[if_pos hm];rw[hm] at hmay;obtain⟨h48,hgood⟩:=vk (fun x hxm=>(hx x hxm).ins) hm
  simp only[wN,vI,simprocAttr];simp +decide only[↓vS,vT,simprocAttr];refine hmay.sc ?_;simp +decide only[↓vS,vT,simprocAttr];refine SL.loop (α:=Nat) (fun j=>[(4,.fz (ko (l.take j)).length (rB (ko (l.take j)))),(12,.fz l.length (rPr l)),(13,.i .i64 l.length),(14,.i .i64 (j:Int))]) (fun _=>[]) (fun j=>j<=l.length) (fun j=>l.length-j) 0 [] ?_ ?_ ?_ rfl ?_ ?_
  ·simp[vw,qX,ko,rB,rI]
  ·trivial
  ·simp
  ·exact Nat.zero_le _
  rintro j hj G ih;simp only[vI,simprocAttr]
  by_cases hlt:j<l.length
  ·obtain⟨x,hpx⟩:∃x,l[j]?=some x:=⟨_,zzE hlt⟩;have hxm:=zzM hpx;have hgx:=hgood x hxm;have ex:=zP (f:=cPr) (m:=3) yU hpx;rw[show l.flatMap cPr=rPr l from rfl] at ex
   simp only[cPr] at ex;have bx:j*3+3<=(rPr l).length:=by rw[qal];omega
   have hw1:IntKind.wrap .i64 ((j:Int)+1)=((j+1:Nat):Int):=by rw[qv (by omega) (by omega)];omega
   have hxl:=hgx.len;have hw2:IntKind.wrap .u16 (x.ins.length:Int)=(x.ins.length:Int):=by show (x.ins.length:Int) % 65536=_;omega
   have hpr:=h2 x.ins (by have:=hgx.ne;omega) hxl
   have hall:(ko (l.take j)).length<=2000000:=by
    have h3:=qfi (l:=l.take j) fun y hy=>(hgood y (List.mem_of_mem_take hy)).len
    have:(l.take j).length<=48:=by rw[List.length_take];omega
    omega
   have ih2:=ih (j+1) hlt (by omega);rw[qgs hpx] at ih2;have hfl:∀A:List Int,([A,[IntKind.wrap .u8 x.dir,IntKind.wrap .u8 x.arch],zL 2 x.ins.length,kx x.ins]:List (List Int)).flatten=A++qcw x:=fun A=>by simp[qcw]
   have hsl:=qdP x;generalize ko (l.take j)=A at ih2 hall ⊢;have hcat:=h4 [A,[IntKind.wrap .u8 x.dir,IntKind.wrap .u8 x.arch],zL 2 x.ins.length,kx x.ins] (by rw[hfl,List.length_append];omega) (by rw[hfl,List.length_append];omega) (by simp);rw[hfl] at hcat;simp +decide only[↓vS,vT,simprocAttr,hlt,ex,bx];refine hpr.sc ?_;simp +decide only[↓vS,vT,simprocAttr];refine xK ?_;simp +decide only[↓vS,vT,simprocAttr,hw2];refine (h3 x.ins.length).pc ?_;simp +decide only[↓vS,vT,simprocAttr];refine PC.give (vs':=[.fz 4 (rL [A,[IntKind.wrap .u8 x.dir,IntKind.wrap .u8 x.arch],zL 2 x.ins.length,kx x.ins])]) [(2,.cells 0 true false [.fz A.length (rB A),.sl 1 0 2 2 false,.fz 2 (rB (zL 2 x.ins.length)),.fz (kx x.ins).length (rB (kx x.ins))]),(1,.cells 0 true false [.i .u8 (IntKind.wrap .u8 x.dir),.i .u8 (IntKind.wrap .u8 x.arch)])] ?_ ?_ ?_
   ·intro q hq;simp at hq;rcases hq with rfl|rfl<;>simp[Tr.get_set]
   ·refine .fz _ _ _ _ (.cut 1 rfl (Nat.le_refl _) ?_) .nil;simp[vw,trP,rL,jr];refine Frz.cut 1 rfl (Nat.le_refl _) ?_;simp[vw,trP,rB,rI]
   simp only[jH,wS,zj];refine hcat.pc ?_;simp +decide only[↓vS,vT,simprocAttr,hw1];refine ih2 _ _ (Wk.mk _ _ [] ?_ ?_ ?_ rfl)
   ·simp[vw,qX,qC]
   ·trivial
   ·simp
  ·obtain rfl:j=l.length:=by omega
   simp +decide only[↓vS,vT,simprocAttr,hlt,List.take_length];simp[vZ,vP,Tr.get_set,zC (qC _)]
 ·have hf:zz l=false:=by simpa using hm
  rw[if_neg hm];rw[hf] at hmay;simp only[wN,vI,simprocAttr];simp +decide only[↓vS,vT,simprocAttr];refine hmay.sc ?_;simp +decide only[↓vS,vT,simprocAttr];simp[vZ]
def qpy(P:Program)(g:Nat):Prop:=∀p:List Ins,(∀i ∈ p,InsOk i)->∃n:Int,qb P g [.fz p.length (rP p)] (.tup [.i .i64 n,.i .i64 (atU p (kq p)).2])
theorem qjf{p:List Ins}(u:List Nat)(h:4096<p.length):atU p u=(0,60):=by unfold atU;rw[if_pos (.inr h)]
theorem qlm{g1 g2 g3:Nat}(hc:qh P f (vc g1 g2 g3)=true)(h:cAt P f):qpy P f:=by
 intro p hi
 by_cases hb:p.length<=5000
 ·exact⟨_,h p hi hb⟩
 ·have hb4:4096<p.length:=by omega
  rw[qjf _ hb4];refine⟨0,qb.mk hc (by simp[qx,clo,qn]) ?_⟩;have hz':¬(p.length:Int)<1:=by omega
  have hb':(4096:Int)<p.length:=by omega
  simp only[vc,vI,simprocAttr];simp +decide only[↓vS,vT,simprocAttr,hz',hb'];simp[vZ]
theorem qoN{g:Nat}(hc:qh P f (jk g)=true)(hg:qpy P g)(p:List Ins)(hi:∀i ∈ p,InsOk i):qb P f [.fz p.length (rP p)] (.i .i64 (atU p (kq p)).2):=by
 refine qb.mk hc (by simp[qx,clo,qn]) ?_;simp only[jk,vI,simprocAttr];simp +decide only[↓vS,vT,simprocAttr];obtain⟨n,hn⟩:=hg p hi;refine hn.sc ?_;simp +decide only[↓vS,vT,simprocAttr];simp[vZ]
theorem qno{g:Nat}(hc:qh P f (xU g)=true)(hg:∀p:List Ins,(∀i ∈ p,InsOk i)->qb P g [.fz p.length (rP p)] (.i .i64 (atU p (kq p)).2))(x:Prg)(hx:PrgIn x):qb P f [.agg (cPr x)] (.b (jn x)):=by
 refine qb.mk hc (by simp[qx,clo,cPr,qn]) ?_;have h:=hg x.ins hx.ins;unfold jn;generalize (atU x.ins (kq x.ins)).2=e at h;simp only[xU,cPr,vI,simprocAttr]
 by_cases h0:x.dir=0
 ·rw[if_pos h0]
  by_cases h6:x.arch=6
  ·simp +decide only[↓vS,vT,simprocAttr,h0,h6];refine h.sc ?_;simp +decide only[↓vS,vT,simprocAttr];simp[vZ,h6]
  ·simp +decide only[↓vS,vT,simprocAttr,h0,h6];simp[vZ,h6]
 rw[if_neg h0]
 by_cases h1:x.dir<0
 ·have h1':¬0<=x.dir:=by omega
  simp +decide only[↓vS,vT,simprocAttr,h0,h1];simp[vZ,h1']
 have h1':0<=x.dir:=by omega
 by_cases h2:8<=x.dir
 ·have h2':¬x.dir<8:=by omega
  simp +decide only[↓vS,vT,simprocAttr,h0,h1,h2];simp[vZ,h2']
 have h2':x.dir<8:=by omega
 by_cases h3:x.arch<0
 ·have h3':¬0<=x.arch:=by omega
  simp +decide only[↓vS,vT,simprocAttr,h0,h1,h2,h3];simp[vZ,h3']
 have h3':0<=x.arch:=by omega
 by_cases h4:6<=x.arch
 ·have h4':¬x.arch<6:=by omega
  simp +decide only[↓vS,vT,simprocAttr,h0,h1,h2,h3,h4];simp[vZ,h4']
 have h4':x.arch<6:=by omega
 simp +decide only[↓vS,vT,simprocAttr,h0,h1,h2,h3,h4];refine h.sc ?_;simp +decide only[↓vS,vT,simprocAttr];simp[vZ,h1',h2',h3',h4']
theorem qqg{g:Nat}(hc:qh P f (jl g)=true)(hg:∀x,PrgIn x->qb P g [.agg (cPr x)] (.b (jn x)))(x:Prg)(hx:PrgIn x):qb P f [.agg (cPr x)] (.b (!jn x)):=by
 refine qb.mk hc (by simp[qx,clo,cPr,qn]) ?_;have h:=hg x hx;simp only[cPr] at h;simp only[jl,cPr,vI,simprocAttr];simp +decide only[↓vS,vT,simprocAttr];refine h.sc ?_;simp +decide only[↓vS,vT,simprocAttr];simp[vZ]
theorem qla{g1 g2:Nat}(hc:qh P f (wp g1 g2)=true)(h1:∀(l:List Prg) (k:Nat) (p:Prg->Bool),(∀c ∈ l,qb P k [.agg (cPr c)] (.b (p c)))->l.length<=qe->qb P g1 [.fz l.length (rPr l),.fn k [] []] (.b (l.any p)))
  (h2:∀x,PrgIn x->qb P g2 [.agg (cPr x)] (.b (!jn x))):qcS P f:=by
 intro l hl hx;refine qb.mk hc (by simp[qx,clo,qX]) ?_;have h:=h1 l g2 (fun x=>!jn x) (fun c hc=>h2 c (hx c hc)) (by simp only[qe];omega)
 have ha:(!l.any fun x=>!jn x)=l.all jn:=by rw[List.not_any_eq_all_not];simp
 unfold zz;simp only[wp,vI,simprocAttr]
 by_cases h48:l.length<=48
 ·have h48':(l.length:Int)<=48:=by omega
  simp +decide only[↓vS,vT,simprocAttr,h48'];refine h.sc ?_;simp +decide only[↓vS,vT,simprocAttr];simp only[ha];simp[vZ,h48]
 ·have h48':¬(l.length:Int)<=48:=by omega
  simp +decide only[↓vS,vT,simprocAttr,h48'];simp[vZ,h48]
def kz:Int->List Prg->Bool
 | _,[]=>false
 | n,x::l=>if 3000<IntKind.wrap .i64 (IntKind.wrap .i64 (n+1)+(x.ins.length:Int)) then true else kz (IntKind.wrap .i64 (IntKind.wrap .i64 (n+1)+(x.ins.length:Int))) l
theorem qdi{n:Int}{x:Prg}{l:List Prg}:kz n (x::l)=if 3000<IntKind.wrap .i64 (IntKind.wrap .i64 (n+1)+(x.ins.length:Int)) then true else kz (IntKind.wrap .i64 (IntKind.wrap .i64 (n+1)+(x.ins.length:Int))) l:=rfl
def xj:IFn:=⟨[.tmp 2],.seq (.r [.m 2 .F]) (.seq (.r [.m 3 (.k 0)]) (.seq (.seq (.r [.m 4 (.k 0)]) (.blk 0 (.loop (.seq (.seq (.r [.n 5 4,.n 6 0,.e 7 6,.s 8 5 7]) (.cond (.t 8) (.skip) (.exit 0))) (.seq (.blk 1 (.seq (.r [.n 11 3,.a 12 11 1,.n 13 0,.n 14 4,.i 15 3 13 14,.f 16 2 15,.d 17 16,.e 18 17,.b 19 .add 12 18,.n 3 19]) (.seq (.r [.n 20 3,.w 21 .gtr 20 3000]) (.cond (.t 21) (.seq (.r [.m 2 .T]) (.ret)) (.skip))))) (.r [.n 9 4,.a 10 9 1,.n 4 10])))))) (.seq (.r [.m 2 .F]) (.ret))))⟩
theorem qm2(hc:qh P f xj=true)(l:List Prg)(hl:l.length<=9223372036854775807):qb P f [.fz l.length (rPr l)] (.b (kz 0 l)):=by
 refine qb.mk hc (by simp[qx,clo,qX]) ?_;simp only[xj,vI,simprocAttr];simp +decide only[↓vS,vT,simprocAttr];refine SL.loop (α:=Nat×Int) (fun s=>[(0,.fz l.length (rPr l)),(3,.i .i64 s.2),(4,.i .i64 (s.1:Int))]) (fun _=>[]) (fun s=>s.1<=l.length∧kz s.2 (l.drop s.1)=kz 0 l) (fun s=>l.length-s.1) (0,0) [] ?_ ?_ ?_ rfl ?_ ?_
 ·simp[vw,qX]
 ·trivial
 ·simp
 ·exact⟨Nat.zero_le _,rfl⟩
 rintro⟨j,n⟩ ⟨hj,hI⟩ G ih;simp only at hj hI;simp only[vI,simprocAttr]
 by_cases hlt:j<l.length
 ·obtain⟨x,hpx⟩:∃x,l[j]?=some x:=⟨_,zzE hlt⟩;have g2:=qaJ (f:=cPr) (m:=3) yU hpx (i:=2) (by omega);rw[show l.flatMap cPr=rPr l from rfl] at g2
  simp only[cPr,Nat.add_zero,List.getElem?_cons_zero,List.getElem?_cons_succ] at g2;have hw1:IntKind.wrap .i64 ((j:Int)+1)=((j+1:Nat):Int):=by rw[qv (by omega) (by omega)];omega
  have hdr:l.drop j=x::l.drop (j+1):=by
   obtain⟨hh,he⟩:=zzS.1 hpx;rw[List.drop_eq_getElem_cons hh,he]
  rw[hdr,qdi] at hI
  by_cases hg:3000<IntKind.wrap .i64 (IntKind.wrap .i64 (n+1)+(x.ins.length:Int))
  ·rw[if_pos hg] at hI;rw[← hI];simp +decide only[↓vS,vT,simprocAttr,hlt,g2,hg];simp[vZ]
  ·rw[if_neg hg] at hI;simp +decide only[↓vS,vT,simprocAttr,hlt,g2,hg,hw1];refine ih (j+1,IntKind.wrap .i64 (IntKind.wrap .i64 (n+1)+(x.ins.length:Int))) ⟨hlt,hI⟩ (by simp only;omega) _ _ (Wk.mk _ _ [] ?_ ?_ ?_ rfl)
   ·simp[vw,qX]
   ·trivial
   ·simp
 ·obtain rfl:j=l.length:=by omega
  have hd:l.drop l.length=[]:=List.drop_eq_nil_of_le (by omega);rw[hd] at hI;rw[← hI];simp +decide only[↓vS,vT,simprocAttr,hlt];simp[vZ,kz]

def zS(a:Nat):IFn:=⟨[.tmp 2],.seq (.r [.q 1 (.box (.t 0)),.m 2 (.c (.nilf))]) (.seq (.r [.q 3 (.mkF a [] [.t 1]),.n 2 3]) (.ret))⟩
theorem qpw{g:Nat}(hc:qh P f (zS g)=true)(l:List Int):qb P f [.fz l.length (rI .u32 l)] (.fn g [] [.pf [.fz l.length (rI .u32 l)] 0]):=by
 refine qb.mk hc (by simp[qx,clo,zk]) ?_;simp only[zS,vI,simprocAttr];simp +decide only[↓vS,vT,simprocAttr];simp[vZ,vP,Tr.get_set,zk]
def zG:IFn:=⟨[],.seq (.r [.d 4 1,.e 5 4,.w 6 .sub 5 1,.n 3 6]) (.blk 0 (.loop (.seq (.seq (.r [.n 7 3,.w 8 .geq 7 0]) (.cond (.t 8) (.skip) (.exit 0))) (.seq (.blk 1 (.seq (.r [.n 11 0,.n 12 3,.d 13 1,.n 14 3,.i 15 1 13 14,.d 16 15,⟨(some 17),.callV (.t 11) [.t 12,.t 16],none⟩,.q 18 (.un .not (.t 17))]) (.cond (.t 18) (.ret) (.skip)))) (.r [.n 9 3,.w 10 .sub 9 1,.n 3 10])))))⟩
def xC(a b:Nat):ICode:=.seq (.r [.d 14 3,.n 2 14]) (.ret)
def va(a b:Nat):IFn:=⟨[.tmp 2],.seq (.r [.m 2 (.c (.i .u32 0))]) (.seq (.r [.q 3 (.alloc [.i .u32 0]),.u (.store 1 (.t 3) (.c (.i .u32 2147418112)))]) (.seq (.seq (.r [.n 6 0,.l 7 a [.t 6]]) (.blk 0 (.rangeF 0 (.t 7) [8,9] (.r [.n 5 9]) (.blk 1 (.r [.d 10 3,.n 11 5,.q 12 (.buildS 2 [.i .u32 0] [(0,1,(.t 10)),(1,1,(.t 11))]),.l 13 b [.t 12],.u (.store 1 (.t 3) (.t 13))]))))) (.cut (xC a b))))⟩
def cbT(g:Nat)(l:List Int):List (Nat×AV):=[(3,.ptr 0 0),(7,.fn g [] [.pf [.fz l.length (rI .u32 l)] 0])]
theorem qd6{g1 g2:Nat}(x:Int){t':Tr AV}{h':Hp}(hw:Wk 0 t' h' (mkT [(3,.ptr 0 0)]) (mkH 0 [.cells 0 true false [.i .u32 x]])) :
  S P 0 (xC g1 g2) (jd [.tmp 2] fun v' h'=>Frz h' v' (.i .u32 x)) t' h':=by
 refine S.weak hw (qr ?_);simp only[xC,vI,simprocAttr];simp +decide only[↓vS,vT,simprocAttr];simp[vZ]
theorem ql6{g1 g2 g3:Nat}(hc:qh P f (va g1 g2)=true)(h1:∀l:List Int,qb P g1 [.fz l.length (rI .u32 l)] (.fn g3 [] [.pf [.fz l.length (rI .u32 l)] 0]))(hc3:qh P g3 zG=true)
  (h2:∀a b:Int,u32 a->u32 b->qb P g2 [.fz 2 (rI .u32 [a,b])] (.i .u32 (if QE b a=true then b else a))):qcR P f:=by
 intro l hl hn;refine qb.mk hc (by simp[qx,clo,zk]) ?_;simp only[va,vI,simprocAttr];simp +decide only[↓vS,vT,simprocAttr];refine (h1 l).sc ?_;simp +decide only[↓vS,vT,simprocAttr];refine S.weak (Wk.mk (cbT g3 l) [.cells 0 true false [.i .u32 2147418112]] [0] ?_ ?_ ?_ rfl) ?_
 ·simp[vw,cbT,zk]
 ·simp[vw]
 ·simp
 refine S.rangeF (by simp[yI]) (by simp[cbT]) ⟨rfl,rfl⟩ ?_;refine qc9.2 ⟨.fn g3 [] [.pf [.fz l.length (rI .u32 l)] 0],by simp[cbT,mkT,Tr.get_set],?_⟩
 refine⟨ya hc3,fun r0 hr0 hp0 hlo=>SC.mk hc3 ?_⟩
 have hid:=qa9 hr0 hp0;show S P 2 _ _ (xz [.yl 1,.pf [.fz l.length (rI .u32 l)] 0] 0 .leaf) ⟨2,0,(Tr.leaf.set 0 (.cells 0 true false [.i .u32 2147418112])).set 1 (.map (qZ r0 (cbT g3 l)))⟩;refine qr ?_;have w0:IntKind.wrap .i64 ((l.length:Int)-1)=(l.length:Int)-1:=qv (by omega) (by omega);simp only[zG,vI,simprocAttr];simp +decide only[↓vS,vT,simprocAttr,w0];refine SL.loopn (α:=Nat) (fun j=>[(0,.yl 1),(1,.pf [.fz l.length (rI .u32 l)] 0),(3,.i .i64 ((j:Int)-1))]) (fun j=>[.cells 0 true false [.i .u32 (kT (l.drop j))],.map (qZ r0 (cbT g3 l))]) (fun j=>j<=l.length) (fun j=>j) l.length [0,1] ?_ ?_ ?_ rfl ?_ ?_ ?_ ?_
 ·simp[vw,zk]
 ·simp[vw,cbT,zk,kT,xd,xg,zK,za]
 ·simp
 ·simp
 ·intro x hx;have:x=0∨x=1:=by omega
  rcases this with rfl|rfl<;>rfl
 ·exact Nat.le_refl _
 rintro j hj G ih;simp only[vI,simprocAttr];cases j with
 | succ k =>
  have e:((k+1:Nat):Int)-1=(k:Int):=by omega
  have hk:k<l.length:=by omega
  obtain⟨x,hx⟩:∃x,l[k]?=some x:=⟨_,zzE hk⟩;have gx:=qqx (k:=.u32) hx;have hxu:=hl x (zzM hx);have hcu:u32 (kT (l.drop (k+1))):=qc2 fun y hy=>hl y (List.mem_of_mem_drop hy)
  have hcd:=qfK hx;have w2:IntKind.wrap .i64 ((k:Int)-1)=(k:Int)-1:=qv (by omega) (by omega);have ih2:=ih k (Nat.le_of_lt hk) (by omega);rw[hcd] at ih2;rw[e];generalize kT (l.drop (k+1))=c at hcu ih2 ⊢;have hle:=h2 c x hcu hxu;have k0:(0:Int)<=(k:Int):=by omega
  simp +decide only[↓vS,vT,simprocAttr,k0,hk,gx,Nat.mul_one];change SY P 1 [.i .i64 (k:Int),.i .u32 x] _ _;refine SY.mk (r:=r0) (ts:=cbT g3 l) (ps:=[8,9]) (by simp[Tr.get_set]) hr0 hlo (Nat.zero_le _) (by show 1<2;decide) rfl ?_;rw[show mkT (cbT g3 l)=(Tr.leaf.set 7 (.fn g3 [] [.pf [.fz l.length (rI .u32 l)] 0])).set 3 (.ptr 0 0) from rfl]
  refine qr ?_;simp only[qa3,vI,simprocAttr];simp only[↓vS,vT,simprocAttr];refine⟨cbT g3 l,by simp[Tr.get_set],?_⟩
  refine qr ?_;simp only[zj,vI,simprocAttr];simp +decide only[↓vS,vT,simprocAttr];refine hle.give [(2,.cells 0 true false [.i .u32 c,.i .u32 x])] (by simp[Tr.get_set]) rfl ?_ ?_
  ·refine .cons _ _ _ _ (Frz.cut 1 rfl (Nat.le_refl _) ?_) .nil;simp[vw,trP,rI]
  simp only[jH,wS,zj];simp +decide only[↓vS,vT,simprocAttr];refine⟨bsy r0,cbT g3 l,by simp[Tr.get_set],?_⟩
  rw[qan,hid];simp only[zj];simp +decide only[↓vS,vT,simprocAttr,w2];refine ih2 _ _ (Wk.mkn _ _ [0,1] ?_ ?_ ?_ rfl ?_ ?_)
  ·simp[vw,zk]
  ·simp[vw,cbT,zk,xd,xg,zK,za]
  ·simp
  ·simp
  ·intro x hx;have:x=0∨x=1:=by omega
   rcases this with rfl|rfl<;>rfl
 | zero =>
  clear ih;have e:((0:Nat):Int)-1 = -1:=rfl;rw[e];simp +decide only[↓vS,vT,simprocAttr];refine⟨r0,cbT g3 l,by simp[Tr.get_set],by rw[hr0];decide,?_⟩
  rw[hp0];simp only[zj];simp only[↓vS,vT,simprocAttr];refine qd6 (kT l) (Wk.mk _ _ [0] ?_ ?_ ?_ rfl)
  ·simp[vw,cbT,mkT]
  ·simp[vw]
  ·simp
end Go.Kc
end
section
namespace Go.Kc
variable [Cur]
theorem qdB:∀{l:List Int},qG l->zL l.length (leM l)=l
 | [],_=>rfl
 | x::l,h=>by
  have h1:=h x (by simp);have h2:=qdB (l:=l) fun y hy=>h y (by simp[hy])
  show (x+256*leM l) % 256::zL l.length ((x+256*leM l) / 256)=x::l;rw[show (x+256*leM l) % 256=x from by omega,show (x+256*leM l) / 256=leM l from by omega,h2]
theorem QI{b:List Int}(h:qG b)(a n:Nat):qG (qY b a n):=fun x hx=>h x (List.mem_of_mem_drop (List.mem_of_mem_take hx))

theorem qa2{b:List Int}(hb:qG b){a n:Nat}(h:a+n<=b.length):zL n (leM (qY b a n))=qY b a n:=by
 have:=qdB (QI hb a n);rwa [xm h] at this
theorem wX{b:List Int}{a n m:Nat}:qY b a n++qY b (a+n) m=qY b a (n+m):=by
 unfold qY;rw[← List.drop_drop,List.take_add]
theorem Zw{b:List Int}{a:Nat}(h:a<b.length):[b.getD a 0]=qY b a 1:=by
 unfold qY;rw[List.getD_eq_getElem?_getD,zzE h,Option.getD_some,List.drop_eq_getElem_cons h];rfl
theorem qhm{b:List Int}(hb:qG b)(h:b.length=8):kb (qcb b)=b:=by
 unfold kb qcb;show zL 2 (leM (qY b 0 2))++([b.getD 2 0,b.getD 3 0]++zL 4 (leM (qY b 4 4)))=b;rw[qa2 hb (by omega),qa2 hb (by omega)]
 have e:([b.getD 2 0,b.getD 3 0]:List Int)=qY b 2 2:=by
  have:=wX (b:=b) (a:=2) (n:=1) (m:=1);rw[← Zw (by omega),← Zw (by omega)] at this;exact this
 rw[e,wX,wX];unfold qY;rw[List.drop_zero];exact List.take_of_length_le (by omega)
theorem qc6{b:List Int}(hb:qG b):∀{n:Nat},8*n<=b.length->kx (kU b n)=qY b 0 (8*n)
 | 0,_=>by simp[kU,kx,qY]
 | n+1,h=>by
  rw[qbF];unfold kx;rw[List.flatMap_append];have ih:=qc6 hb (n:=n) (by omega);unfold kx at ih;rw[ih];simp only[List.flatMap_cons,List.flatMap_nil,List.append_nil];rw[qhm (QI hb _ _) (xm (by omega))];have:=wX (b:=b) (a:=0) (n:=8*n) (m:=8);rw[Nat.zero_add] at this;rw[this];rfl
theorem qlR{x:Int}(h:0<=x∧x<=255):IntKind.wrap .u8 x=x:=by show x % 256=x;omega
theorem qlb{b:List Int}(hb:qG b)(h4:4<=b.length)(h:4+8*wq b<=b.length):qcw (mkP b)=b.take (4+8*wq b):=by
 obtain⟨h1,h2⟩:=qeV hb h4;unfold qcw mkP;simp only[];rw[qlR (wC hb 0),qlR (wC hb 1),yk,← h1,qa2 hb (by omega)];have hl:8*wq b<=(qY b 4 (8*wq b)).length:=by rw[xm (by omega)];exact Nat.le_refl _
 rw[qc6 (QI hb _ _) hl]
 have e0:qY (qY b 4 (8*wq b)) 0 (8*wq b)=qY b 4 (8*wq b):=by
  have:=xm (b:=b) (at':=4) (n:=8*wq b) (by omega);show ((qY b 4 (8*wq b)).drop 0).take (8*wq b)=_;rw[List.drop_zero];exact List.take_of_length_le (by omega)
 have e:([b.getD 0 0,b.getD 1 0]:List Int)=qY b 0 2:=by
  have:=wX (b:=b) (a:=0) (n:=1) (m:=1);rw[← Zw (by omega),← Zw (by omega)] at this;exact this
 rw[e0,e,wX,wX];unfold qY;rw[List.drop_zero];congr 1;omega
theorem qaZ{lim:Nat}:∀{k:Nat} {b:List Int} {out m:List Prg},qG b->ZM lim k b out=some m->ko m=ko out++b
 | 0,b,out,m,_,h=>by
  unfold ZM at h;split at h
  ·rename_i h0;cases h;rw[List.length_eq_zero_iff.1 h0,List.append_nil]
  ·cases h
 | k+1,b,out,m,hb,h=>by
  rw[ZN] at h;split at h
  ·rename_i h0;cases h;rw[List.length_eq_zero_iff.1 h0,List.append_nil]
  ·split at h
   ·cases h
   ·rename_i hn;simp only[not_or,Nat.not_lt] at hn;have hd:qG (b.drop (4+8*wq b)):=fun x hx=>hb x (List.mem_of_mem_drop hx)
    have ih:=qaZ hd h;rw[ih];unfold ko;rw[List.flatMap_append];simp only[List.flatMap_cons,List.flatMap_nil,List.append_nil];rw[qlb hb hn.1 hn.2.1,List.append_assoc,List.take_append_drop]
end Go.Kc
end
section
namespace Go.Kc
variable [Cur]
variable {P:Program} {f:Nat}
def u8s(b:List Int):List UInt8:=b.map fun x=>UInt8.ofNat x.toNat
theorem qbk:∀{b:List Int} {k:List UInt8->Prop},qG b->(zg (rB b) k↔k (u8s b))
 | [],_,_=>Iff.rfl
 | x::l,k,h=>by
  obtain⟨m,rfl⟩:∃m:Nat,x=m:=⟨x.toNat,by have:=h x (by simp);omega⟩
  show zg (rB l) (fun l=>k (UInt8.ofNat m::l))↔_
  rw[qbk (fun y hy=>h y (by simp[hy]))]
  show k (UInt8.ofNat m::u8s l)↔k (UInt8.ofNat ((m:Int).toNat)::u8s l);rw[Int.toNat_natCast]
def yo:IFn:=⟨[.tmp 4],.seq (.r [.m 4 .F]) (.seq (.r [.n 5 0,.q 6 (.b2s (.t 5)),.n 7 1,.q 8 (.b2s (.t 7)),.b 9 .eql 6 8,.n 4 9]) (.ret))⟩
theorem qmp(hc:qh P f yo=true)(b:List Int)(hb:qG b):qb P f [.fz b.length (rB b),.fz b.length (rB b)] (.b true):=by
 refine qb.mk hc (by simp[qx,clo,qC]) ?_;have hl:(rB b).length=b.length:=xf;have hle:b.length<=(rB b).length:=by omega
 have htk:List.take b.length (rB b)=rB b:=List.take_of_length_le (by omega);simp only[yo,vI,simprocAttr];simp +decide only[↓vS,vT,simprocAttr,qbk hb,hle,htk];simp[vZ]
def QC(a:Nat):IFn:=⟨[.tmp 4],.seq (.r [.m 4 .F]) (.seq (.r [.n 5 0,.n 6 1,.l 7 a [.t 5,.t 6],.n 4 7]) (.ret))⟩
theorem qoL{g:Nat}(hc:qh P f (QC g)=true)(hg:∀b:List Int,qG b->qb P g [.fz b.length (rB b),.fz b.length (rB b)] (.b true))(b:List Int)(hb:qG b):qb P f [.fz b.length (rB b),.fz b.length (rB b)] (.b true):=by
 refine qb.mk hc (by simp[qx,clo,qC]) ?_;simp only[QC,vI,simprocAttr];simp +decide only[↓vS,vT,simprocAttr];refine (hg b hb).sc ?_;simp +decide only[↓vS,vT,simprocAttr];simp[vZ]
def zn(a b c d e g h i j:Nat):ICode:=.seq (.r [.n 90 11,.n 91 13,.l 92 j [.t 91],.b 93 .eql 90 92,.n 6 93]) (.ret)
def qL(a b c d e g h i j:Nat):ICode:=.seq (.r [.n 53 0,.v 54 9 5,.l 55 g [.t 53,.t 54],.n 52 55,.x 56 52 0,.x 57 52 1,.n 11 56,.n 12 57]) (.seq (.seq (.r [.n 58 12,.w 59 .neq 58 0]) (.cond (.t 59) (.seq (.r [.n 60 0,.l 61 h [.t 60],.q 62 (.un .not (.t 61)),.n 63 62,.y 64 11 63,.g 65 (.bin .eql (.t 64) (.c (.i .u32 0))) 63 true,.p 66 63 65,.n 6 66]) (.ret)) (.skip))) (.seq (.r [.m 13 .N]) (.seq (.seq (.r [.m 14 (.k 0)]) (.blk 0 (.loop (.seq (.seq (.r [.n 67 14,.n 68 0,.e 69 68,.s 70 67 69]) (.cond (.t 70) (.skip) (.exit 0))) (.seq (.blk 1 (.seq (.reg true [.n 74 0,.n 75 14,.i 76 3 74 75,.f 77 2 76,.d 78 77,.v 79 9 5,.l 80 i [.t 78,.t 79],.n 73 80,.x 81 73 0,.x 82 73 1,.x 83 73 2,.n 15 81,.n 16 82,.n 17 83]) (.seq (.seq (.r [.n 84 17,.w 85 .neq 84 0]) (.cond (.t 85) (.seq (.r [.m 6 .F]) (.ret)) (.skip))) (.r [.n 86 13,.n 87 15,.q 88 (.buildS 1 [.i .u32 0] [(0,1,(.t 87))]),.q 89 (.app 1 4 true (.t 86) (.t 88)),.n 13 89])))) (.r [.n 71 14,.a 72 71 1,.n 14 72])))))) (.cut (zn a b c d e g h i j)))))
def xv(a b c d e g h i j:Nat):IFn:=⟨[.tmp 6],.seq (.r [.q 5 (.box (.t 2)),.m 6 .F]) (.seq (.seq (.r [.l 18 a [],.q 19 (.un .not (.t 18))]) (.cond (.t 19) (.seq (.r [.m 6 .F]) (.ret)) (.skip))) (.seq (.seq (.r [.n 20 0,.l 21 b [.t 20],.n 22 21,.z 23 0 22,.g 24 (.len false (.t 23)) 22 false,.g 25 (.bin .gtr (.t 24) (.k 100)) 22 false,.o 26 22 25,.n 27 26,.z 28 1 27,.g 29 (.len false (.t 28)) 27 false,.g 30 (.bin .gtr (.t 29) (.k 8000)) 27 false,.o 31 27 30]) (.cond (.t 31) (.seq (.r [.m 6 .T]) (.ret)) (.skip))) (.seq (.r [.n 33 1,.l 34 c [.t 33],.n 32 34,.x 35 32 0,.x 36 32 1,.n 7 35,.n 8 36]) (.seq (.seq (.r [.n 37 8,.w 38 .eql 37 0]) (.cond (.t 38) (.seq (.r [.n 40 7,.l 41 d [.t 40],.n 39 41,.x 42 39 0,.x 43 39 1,.n 9 42,.n 10 43]) (.seq (.r [.n 44 10,.w 45 .neq 44 0,.n 46 45,.z 47 1 46,.z 48 9 46,⟨(some 49),.callF e [.t 47,.t 48],(some (46,false))⟩,.g 50 (.un .not (.t 49)) 46 false,.o 51 46 50]) (.cond (.t 51) (.seq (.r [.m 6 .F]) (.ret)) (.skip)))) (.skip))) (.cut (qL a b c d e g h i j))))))⟩
theorem qiR{g1 g2 g3 g4 g5 g6 g7 g8 g9:Nat}(hg:qcR P g9)(A:List Int)(hA:∀x ∈ A,u32 x)(hn:A.length<=100){t':Tr AV}{h':Hp}(hw:Wk 0 t' h' (mkT [(11,.i .u32 (kT A)),(13,.own 0 A.length)]) (mkH 0 [.cells 1 true true (rI .u32 A)])) :
  S P 0 (zn g1 g2 g3 g4 g5 g6 g7 g8 g9) (jd [.tmp 6] fun v' h'=>Frz h' v' (.b true)) t' h':=by
 refine S.weak hw (qr ?_);simp only[zn,vI,simprocAttr];simp +decide only[↓vS,vT,simprocAttr];refine (hg A hA (by omega)).give [(0,.cells 1 true true (rI .u32 A))] (by simp[Tr.get_set]) rfl ?_ ?_
 ·simp[vZ,vP,Tr.get_set,zC zk,trP];intro h0;rw[h0];rfl
 simp only[jH,wS,zj];simp +decide only[↓vS,vT,simprocAttr];simp[vZ]
theorem qiQ{g1 g2 g3 g4 g5 g6 g7 g8 g9:Nat}
  (h6:∀l:List Prg,l.length<=100->(∀x ∈ l,PrgIn x)->∀d,DatOk d->qb P g6 [.fz l.length (rPr l),.agg (qP d)] (if zz l=true then .tup [.i .u32 (evS l d),.i .i64 0] else .tup [.i .u32 0,.i .i64 290]))
  (h7:qcS P g7) (h8:qg0 P g8) (h9:qcR P g9) (l:List Prg) (hl:l.length<=100) (hx:∀x ∈ l,PrgIn x) (d:GData) (hd:DatOk d) {t':Tr AV} {h':Hp}
  (hw:Wk 0 t' h' (mkT [(0,.fz l.length (rPr l)),(5,.ptr 0 0)]) (mkH 0 [.cells 0 true false (qP d)])) :
  S P 0 (qL g1 g2 g3 g4 g5 g6 g7 g8 g9) (jd [.tmp 6] fun v' h'=>Frz h' v' (.b true)) t' h':=by
 refine S.weak hw (qr ?_);have p6:=h6 l hl hx d hd;have p7:=h7 l hl hx
 by_cases hm:zz l=true
 ·rw[if_pos hm] at p6;obtain⟨h48,hgood⟩:=vk (fun x hxm=>(hx x hxm).ins) hm
  have hu:∀x ∈ w5 l d,u32 x:=fun x hxm=>by
   obtain⟨y,hy,rfl⟩:=List.mem_map.1 hxm;exact qbW (hgood y hy).ins hd
  simp only[qL,vI,simprocAttr];simp +decide only[↓vS,vT,simprocAttr,QK,qay];refine p6.sc ?_;simp +decide only[↓vS,vT,simprocAttr];refine SL.loop (α:=Nat) (fun j=>[(0,.fz l.length (rPr l)),(5,.ptr 0 0),(11,.i .u32 (evS l d)),(13,.own 1 (w5 (l.take j) d).length),(14,.i .i64 (j:Int))]) (fun j=>[.cells 0 true false (qP d),.cells 1 true true (rI .u32 (w5 (l.take j) d))]) (fun j=>j<=l.length) (fun j=>l.length-j) 0 [0,99] ?_ ?_ ?_ rfl ?_ ?_
  ·simp[vw,qX,w5]
  ·simp[vw,qc,zY,w5,rI];exact NVs.refl zY
  ·simp
  ·exact Nat.zero_le _
  rintro j hj G ih;simp only[vI,simprocAttr]
  by_cases hlt:j<l.length
  ·obtain⟨x,hpx⟩:∃x,l[j]?=some x:=⟨_,zzE hlt⟩;have hxm:=zzM hpx;have ex:=zP (f:=cPr) (m:=3) yU hpx;rw[show l.flatMap cPr=rPr l from rfl] at ex
   simp only[cPr] at ex;have bx:j*3+3<=(rPr l).length:=by rw[qal];omega
   have hlt':(j:Int)<l.length:=by omega
   have e2:(rPr l)[j*3+2]?=some (.fz x.ins.length (rP x.ins)):=by
    have h:=congrArg (fun z:List AV=>z[2]?) ex
    simpa[List.getElem?_drop,List.getElem?_take] using h
   have hw1:IntKind.wrap .i64 ((j:Int)+1)=((j+1:Nat):Int):=by rw[qv (by omega) (by omega)];omega
   obtain⟨n,hrun⟩:=h8 x.ins (hgood x hxm) d hd;have ih2:=ih (j+1) hlt (by omega);have hal:(w5 (l.take j) d).length<=100:=by rw[Q6,List.length_take];omega
   rw[qbu hpx] at ih2;generalize w5 (l.take j) d=A at ih2 hal ⊢;have hr1:A.length+1<=qe:=by simp only[qe];omega
   have hr2:(A.length+1)*4<=qe:=by simp only[qe];omega
   have hap:rI .u32 A++[.i .u32 (Qg x.ins d).1]=rI .u32 (A++[(Qg x.ins d).1]):=by rw[← qej];rfl
   have hll:(rI .u32 A).length=A.length:=xf;simp +decide only[↓vS,vT,simprocAttr,hlt,hlt',ex,bx,e2,QK,qay];refine xK ?_;simp +decide only[↓vS,vT,simprocAttr,hlt,hlt',ex,bx,e2,QK,qay];refine hrun.pc ?_;simp only[Hp.up,Hp.down];simp +decide only[↓vS,vT,simprocAttr,hr1,hr2,hap,hll,Nat.mul_one,hw1];refine ih2 _ _ (Wk.mk _ _ [0,3] ?_ ?_ ?_ rfl)
   ·simp[vw,qX]
   ·simp[vw,qc,zk];exact NVs.refl zY
   ·simp
  ·obtain rfl:j=l.length:=by omega
   have hlt':¬(l.length:Int)<l.length:=by omega
   simp +decide only[↓vS,vT,simprocAttr,hlt,hlt',List.take_length];refine qiR h9 (w5 l d) hu (by rw[Q6];exact hl) (Wk.mk _ _ [1] ?_ ?_ ?_ rfl)
   ·simp[vw,evS]
   ·simp[vw,qc,zk]
   ·simp
 ·have hf:zz l=false:=by simpa using hm
  rw[if_neg hm] at p6;rw[hf] at p7;simp only[qL,vI,simprocAttr];simp +decide only[↓vS,vT,simprocAttr,QK,qay];refine p6.sc ?_;simp +decide only[↓vS,vT,simprocAttr];refine p7.sc ?_;simp +decide only[↓vS,vT,simprocAttr];simp[vZ]
theorem qdA{lim:Nat}:∀{k:Nat} {b:List Int} {out m:List Prg},qG b->b.length<=8000->(∀x ∈ out,PrgOk x)->ZM lim k b out=some m->∀x ∈ m,PrgOk x
 | 0,b,out,m,_,_,ho,h=>by
  unfold ZM at h;split at h
  ·cases h;exact ho
  ·cases h
 | k+1,b,out,m,hb,hl,ho,h=>by
  rw[ZN] at h;split at h
  ·cases h;exact ho
  ·split at h
   ·cases h
   ·rename_i hn;simp only[not_or,Nat.not_lt] at hn;refine qdA (k:=k) (fun x hx=>hb x (List.mem_of_mem_drop hx)) (by rw[List.length_drop];omega) (fun x hx=>?_) h
    rcases List.mem_append.1 hx with hx|hx
    ·exact ho x hx
    ·rw[List.mem_singleton] at hx;subst hx;exact qic hb hn.2.1 hl
theorem qi9{g1 g2 g3 g4 g5 g6 g7 g8 g9:Nat}(hc:qh P f (xv g1 g2 g3 g4 g5 g6 g7 g8 g9)=true)
  (h1:qb P g1 [] (.b true))
  (h2:∀l:List Prg,l.length<=9223372036854775807->qb P g2 [.fz l.length (rPr l)] (.b (kz 0 l)))
  (h3:∀b:List Int,qG b->b.length<=8000->qb P g3 [.fz b.length (rB b)] (qb5 (ZM 48 b.length b [])))
  (h4:∀l:List Prg,l.length<=100->(∀x ∈ l,PrgIn x)->qb P g4 [.fz l.length (rPr l)] (if zz l=true then .tup [.fz (ko l).length (rB (ko l)),.i .i64 0] else .tup [.fz 0 [],.i .i64 290]))
  (h5:∀b:List Int,qG b->qb P g5 [.fz b.length (rB b),.fz b.length (rB b)] (.b true))
  (h6:∀l:List Prg,l.length<=100->(∀x ∈ l,PrgIn x)->∀d,DatOk d->qb P g6 [.fz l.length (rPr l),.agg (qP d)] (if zz l=true then .tup [.i .u32 (evS l d),.i .i64 0] else .tup [.i .u32 0,.i .i64 290]))
  (h7:qcS P g7) (h8:qg0 P g8) (h9:qcR P g9)
  (l:List Prg) (hln:l.length<=9223372036854775807) (hl:∀x ∈ l,PrgIn x) (b:List Int) (hb:qG b) (d:GData) (hd:DatOk d):qb P f [.fz l.length (rPr l),.fz b.length (rB b),.agg (qP d)] (.b true):=by
 refine qb.mk hc (by simp[qx,clo,qX,qC,zY]) ?_;have p2:=h2 l hln;simp only[xv,vI,simprocAttr];simp +decide only[↓vS,vT,simprocAttr];refine h1.sc ?_;simp +decide only[↓vS,vT,simprocAttr];cases hg:kz 0 l with
 | true =>
  rw[hg] at p2;refine p2.sc ?_;simp +decide only[↓vS,vT,simprocAttr];simp[vZ]
 | false =>
  rw[hg] at p2
  by_cases hl1:l.length<=100
  ·have hl1':¬(100:Int)<l.length:=by omega
   by_cases hb1:b.length<=8000
   ·have hb1':¬(8000:Int)<b.length:=by omega
    have p3:=h3 b hb hb1;refine p2.sc ?_;simp +decide only[↓vS,vT,simprocAttr,hl1',hb1']
    have fin:∀(t':Tr AV) (h':Hp),Wk 0 t' h' (mkT [(0,.fz l.length (rPr l)),(5,.ptr 0 0)]) (mkH 0 [.cells 0 true false (qP d)])->S P 0 (qL g1 g2 g3 g4 g5 g6 g7 g8 g9) (jd [.tmp 6] fun v' h'=>Frz h' v' (.b true)) t' h' :=
     fun t' h' hw=>qiQ h6 h7 h8 h9 l hl1 hl d hd hw
    cases hp:ZM 48 b.length b [] with
    | none =>
     rw[hp] at p3;simp only[qb5,Xa] at p3;refine p3.sc ?_;simp +decide only[↓vS,vT,simprocAttr];refine fin _ _ (Wk.mk _ _ [0] ?_ ?_ ?_ rfl)
     ·simp[vw,qX]
     ·simp[vw,qc,zY];exact NVs.refl zY
     ·simp
    | some m =>
     rw[hp] at p3
     by_cases hm:zz m=true
     ·simp only[qb5,hm,if_true] at p3;have hok:=qdA hb hb1 (fun x hx=>by cases hx) hp
      have hin:∀x ∈ m,PrgIn x:=fun x hx=>⟨Nat.le_trans (hok x hx).len (by decide),(hok x hx).ins⟩
      have h48:=(vk (fun x hx=>(hok x hx).ins) hm).1
      have p4:=h4 m (by omega) hin;rw[if_pos hm] at p4
      have hby:ko m=b:=by
       have:=qaZ hb hp;simpa[ko] using this
      rw[hby] at p4;refine p3.sc ?_;simp +decide only[↓vS,vT,simprocAttr];refine p4.sc ?_;simp +decide only[↓vS,vT,simprocAttr];refine (h5 b hb).sc ?_;simp +decide only[↓vS,vT,simprocAttr];refine fin _ _ (Wk.mk _ _ [0] ?_ ?_ ?_ rfl)
      ·simp[vw,qX]
      ·simp[vw,qc,zY];exact NVs.refl zY
      ·simp
     ·simp only[qb5,if_neg hm,Xa] at p3;refine p3.sc ?_;simp +decide only[↓vS,vT,simprocAttr];refine fin _ _ (Wk.mk _ _ [0] ?_ ?_ ?_ rfl)
      ·simp[vw,qX]
      ·simp[vw,qc,zY];exact NVs.refl zY
      ·simp
   ·have hb1':(8000:Int)<b.length:=by omega
    refine p2.sc ?_;simp +decide only[↓vS,vT,simprocAttr,hl1',hb1'];simp[vZ]
  ·have hl1':(100:Int)<l.length:=by omega
   refine p2.sc ?_;simp +decide only[↓vS,vT,simprocAttr,hl1'];simp[vZ]
def zT(ar:AV)(pe:Bool):List AV:=[ar,.i .u8 0,.nils,.i .u32 2147483648,.i .u8 0,.nils,.nils,.i .u8 0,.i .u64 0,.b false,.b pe,.b false,.b false]
def jz(t n:Int)(x:Int):AV:=.agg [.i .u32 n,.i .u32 t,.i .u64 0,.i .u64 x,.i .u64 0,.i .u64 0,.i .u64 0,.i .u64 0,.i .u64 0]
def qg1(P:Program)(g:Nat):Prop :=
 qb P g [.agg (zT .nils false),.i .i64 0,jz 3221225534 1 1,.i .u32 2147418112] (.b true) ∧
 qb P g [.agg (zT (.fz 1 [.i .i64 0]) false),.i .i64 1,jz 1073741827 1 1,.i .u32 2147483648] (.b true) ∧
 qb P g [.agg (zT (.fz 1 [.i .i64 0]) false),.i .i64 1,jz 3221225534 1 1,.i .u32 2147418112] (.b true) ∧
 qb P g [.agg (zT .nils true),.i .i64 6,jz 3221225534 135 1,.i .u32 327681] (.b true) ∧
 qb P g [.agg (zT .nils true),.i .i64 6,jz 3221225534 135 0,.i .u32 2147418112] (.b true)
def zH(a b c d:Nat):ICode:=.seq (.r [.l 21 a [],.u (.store 13 (.t 1) (.t 21))]) (.seq (.r [.f 22 10 1,.u (.store 1 (.t 22) .T)]) (.seq (.r [.q 24 (.buildS 1 [.i .u8 0] [(0,1,(.c (.i .u8 1)))]),.l 25 d [.t 24],.n 23 25,.x 26 23 0,.x 27 23 1,.n 2 26,.n 3 27]) (.seq (.reg true [.v 28 13 1,.l 29 b [(.c (.i .u32 3221225534)),(.c (.i .u32 135)),(.c (.i .u64 1))],.l 30 c [.t 28,.k 6,.t 29,(.c (.i .u32 327681))],.n 31 30,.g 32 (.loadN 13 (.t 1)) 31 true,⟨(some 33),.callF b [(.c (.i .u32 3221225534)),(.c (.i .u32 135)),(.c (.i .u64 0))],(some (31,true))⟩,⟨(some 34),.callF c [.t 32,.k 6,.t 33,(.c (.i .u32 2147418112))],(some (31,true))⟩,.p 35 31 34,.n 36 35,.y 37 3 36,.g 38 (.bin .eql (.t 37) (.k 290)) 36 true,.p 39 36 38,.n 0 39]) (.ret))))
def xE(a b c d:Nat):ICode:=.seq (.r [.q 9 (.buildS 1 [.i .i64 0] [(0,1,(.k 0))]),.f 10 0 1,.u (.store 1 (.t 10) (.t 9))]) (.seq (.seq (.reg true [.v 11 13 1,.l 12 b [(.c (.i .u32 1073741827)),(.c (.i .u32 1)),(.c (.i .u64 1))],.l 13 c [.t 11,.k 1,.t 12,(.c (.i .u32 2147483648))],.q 14 (.un .not (.t 13)),.n 15 14,.g 16 (.loadN 13 (.t 1)) 15 false,⟨(some 17),.callF b [(.c (.i .u32 3221225534)),(.c (.i .u32 1)),(.c (.i .u64 1))],(some (15,false))⟩,⟨(some 18),.callF c [.t 16,.k 1,.t 17,(.c (.i .u32 2147418112))],(some (15,false))⟩,.g 19 (.un .not (.t 18)) 15 false,.o 20 15 19]) (.cond (.t 20) (.seq (.r [.m 0 .F]) (.ret)) (.skip))) (.cut (zH a b c d)))
def xZ(a b c d:Nat):IFn:=⟨[.tmp 0],.seq (.r [.m 0 .F]) (.seq (.r [.l 4 a [],.q 1 (.alloc [.nils,.i .u8 0,.nils,.i .u32 0,.i .u8 0,.nils,.nils,.i .u8 0,.i .u64 0,.b false,.b false,.b false,.b false]),.u (.store 13 (.t 1) (.t 4))]) (.seq (.seq (.reg true [.v 5 13 1,.l 6 b [(.c (.i .u32 3221225534)),(.c (.i .u32 1)),(.c (.i .u64 1))],.l 7 c [.t 5,.k 0,.t 6,(.c (.i .u32 2147418112))],.q 8 (.un .not (.t 7))]) (.cond (.t 8) (.seq (.r [.m 0 .F]) (.ret)) (.skip))) (.cut (xE a b c d))))⟩
theorem qd2{g1 g2 g3 g4:Nat}(h1:qb P g1 [] (.agg (zT .nils false)))(h2:∀t n x:Int,qb P g2 [.i .u32 t,.i .u32 n,.i .u64 x] (jz t n x))(h3:qg1 P g3)(h4:qb P g4 [.fz 1 [.i .u8 1]] Xa)
  {x:AV} {t':Tr AV} {h':Hp} (hw:Wk 0 t' h' (mkT [(1,.ptr 0 0)]) (mkH 0 [.cells 0 true false (zT x false)])) :
  S P 0 (zH g1 g2 g3 g4) (jd [.tmp 0] fun v' h'=>Frz h' v' (.b true)) t' h':=by
 refine S.weak hw (qr ?_);simp only[zH,vI,simprocAttr];simp +decide only[↓vS,vT,simprocAttr];refine h1.sc ?_;simp +decide only[↓vS,vT,simprocAttr,zT];refine h4.give [(1,.cells 0 true false [.i .u8 1])] (by simp[Tr.get_set]) rfl ?_ ?_
 ·refine .cons _ _ _ _ (.sl _ _ _ _ _ 0 _ [.i .u8 1] 1 _ (by simp[trP,Tr.get_set];rfl) (Nat.le_refl _) (by decide) (by decide) (.cons _ _ _ _ (.i _ _) .nil)) .nil
 simp only[jH,wS,zj,Xa];simp +decide only[↓vS,vT,simprocAttr];refine xK ?_;simp +decide only[↓vS,vT,simprocAttr];refine (h2 _ _ _).pc ?_;simp +decide only[↓vS,vT,simprocAttr];refine h3.2.2.2.1.pc ?_;simp only[Hp.up,Hp.down];simp +decide only[↓vS,vT,simprocAttr];refine (h2 _ _ _).pc ?_;simp +decide only[↓vS,vT,simprocAttr];refine h3.2.2.2.2.pc ?_;simp only[Hp.up,Hp.down];simp +decide only[↓vS,vT,simprocAttr];simp[vZ]
theorem qeS{h:Hp}{b:Nat}(hb:h.tr.get b=some (.cells 0 true false [.i .i64 0]))(n:Nat)(d w:AV)(hd:Frz h d d)(hw:Frz h w w):Frzs h [.agg (zT (.sl b 0 1 1 false) false),.i .i64 n,d,w] [.agg (zT (.fz 1 [.i .i64 0]) false),.i .i64 n,d,w]:=by
 refine .cons _ _ _ _ (.agg _ _ (.cons _ _ _ _ (.sl _ _ _ _ _ 0 _ [.i .i64 0] 1 _ hb (Nat.le_refl _) (by decide) (by decide) (.cons _ _ _ _ (.i _ _) .nil)) ?_)) (.cons _ _ _ _ (.i _ _) (.cons _ _ _ _ hd (.cons _ _ _ _ hw .nil)));exact .cons _ _ _ _ (.i _ _) (.cons _ _ _ _ .nils (.cons _ _ _ _ (.i _ _) (.cons _ _ _ _ (.i _ _) (.cons _ _ _ _ .nils (.cons _ _ _ _ .nils (.cons _ _ _ _ (.i _ _) (.cons _ _ _ _ (.i _ _) (.cons _ _ _ _ (.b _) (.cons _ _ _ _ (.b _) (.cons _ _ _ _ (.b _) (.cons _ _ _ _ (.b _) .nil)))))))))))
theorem qeR{h:Hp}{t n x:Int}:Frz h (jz t n x) (jz t n x) :=
 .agg _ _ (.cons _ _ _ _ (.i _ _) (.cons _ _ _ _ (.i _ _) (.cons _ _ _ _ (.i _ _) (.cons _ _ _ _ (.i _ _) (.cons _ _ _ _ (.i _ _) (.cons _ _ _ _ (.i _ _) (.cons _ _ _ _ (.i _ _) (.cons _ _ _ _ (.i _ _) (.cons _ _ _ _ (.i _ _) .nil)))))))))
theorem qqR{g1 g2 g3 g4:Nat}(hc:qh P f (xZ g1 g2 g3 g4)=true)(h1:qb P g1 [] (.agg (zT .nils false)))(h2:∀t n x:Int,qb P g2 [.i .u32 t,.i .u32 n,.i .u64 x] (jz t n x))(h3:qg1 P g3)(h4:qb P g4 [.fz 1 [.i .u8 1]] Xa):qb P f [] (.b true):=by
 refine qb.mk hc rfl ?_;have k1:=h3.1;have k2:=h3.2.1;have k3:=h3.2.2.1;simp only[xZ,vI,simprocAttr];simp +decide only[↓vS,vT,simprocAttr];refine h1.sc ?_;simp +decide only[↓vS,vT,simprocAttr,zT];refine xK ?_;simp +decide only[↓vS,vT,simprocAttr];refine (h2 _ _ _).pc ?_;simp +decide only[↓vS,vT,simprocAttr];refine k1.pc ?_;simp only[Hp.up,Hp.down];simp +decide only[↓vS,vT,simprocAttr];refine qr ?_;simp only[xE,vI,simprocAttr];simp +decide only[↓vS,vT,simprocAttr];refine xK ?_;simp +decide only[↓vS,vT,simprocAttr];refine (h2 _ _ _).pc ?_;simp +decide only[↓vS,vT,simprocAttr];refine k2.lendp (qeS (b:=1) (by simp[Tr.get_set]) 1 _ _ qeR (.i _ _)) rfl ?_;simp only[Hp.up,Hp.down];simp +decide only[↓vS,vT,simprocAttr];refine (h2 _ _ _).pc ?_;simp +decide only[↓vS,vT,simprocAttr];refine k3.lendp (qeS (b:=1) (by simp[Tr.get_set]) 1 _ _ qeR (.i _ _)) rfl ?_;simp only[Hp.up,Hp.down];simp +decide only[↓vS,vT,simprocAttr];refine qd2 h1 h2 h3 h4 (x:=.undef) (Wk.mk _ _ [0] ?_ ?_ ?_ rfl)
 ·simp[vw,zT]
 ·simp[vw,zT,qc]
 ·simp
def jm:IFn:=⟨[.cell 6 9 true],.seq (.r [.q 6 (.alloc [.i .u32 0,.i .u32 0,.i .u64 0,.i .u64 0,.i .u64 0,.i .u64 0,.i .u64 0,.i .u64 0,.i .u64 0])]) (.seq (.r [.n 8 1,.n 9 0,.q 10 (.build [.i .u32 0,.i .u32 0,.i .u64 0,.i .u64 0,.i .u64 0,.i .u64 0,.i .u64 0,.i .u64 0,.i .u64 0] [(0,1,(.t 8)),(1,1,(.t 9))]),.q 7 (.alloc [.i .u32 0,.i .u32 0,.i .u64 0,.i .u64 0,.i .u64 0,.i .u64 0,.i .u64 0,.i .u64 0,.i .u64 0]),.u (.store 9 (.t 7) (.t 10))]) (.seq (.r [.n 11 2,.f 12 3 7,.q 13 (.iAddrA 6 1 (.t 12) (.k 0)),.u (.store 1 (.t 13) (.t 11))]) (.seq (.r [.v 14 9 7,.u (.store 9 (.t 6) (.t 14))]) (.ret))))⟩
theorem qq7(hc:qh P f jm=true)(t n x:Int):qb P f [.i .u32 t,.i .u32 n,.i .u64 x] (jz t n x):=by
 refine qb.mk hc rfl ?_;simp only[jm,vI,simprocAttr];simp +decide only[↓vS,vT,simprocAttr];simp[vZ,jz]
def yu:IFn:=⟨[.cell 0 13 true],.seq (.r [.q 0 (.alloc [.nils,.i .u8 0,.nils,.i .u32 0,.i .u8 0,.nils,.nils,.i .u8 0,.i .u64 0,.b false,.b false,.b false,.b false])]) (.seq (.r [.q 1 (.build [.nils,.i .u8 0,.nils,.i .u32 0,.i .u8 0,.nils,.nils,.i .u8 0,.i .u64 0,.b false,.b false,.b false,.b false] [(3,1,(.c (.i .u32 2147483648)))]),.u (.store 13 (.t 0) (.t 1))]) (.ret))⟩
theorem qsa(hc:qh P f yu=true):qb P f [] (.agg (zT .nils false)):=by
 refine qb.mk hc rfl ?_;simp only[yu,vI,simprocAttr];simp +decide only[↓vS,vT,simprocAttr];simp[vZ,zT]
def x4(a b:Nat):IFn:=⟨[.tmp 8],.seq (.r [.q 4 (.box (.t 0)),.q 6 (.box (.t 2)),.m 8 .F]) (.seq (.seq (.r [.m 9 (.k 0)]) (.blk 0 (.loop (.seq (.seq (.r [.n 14 9,.w 15 .lss 14 2]) (.cond (.t 15) (.skip) (.exit 0))) (.seq (.blk 1 (.seq (.r [.v 19 13 4,.n 20 9,.w 21 .eql 20 1,.l 22 a [.t 19,.t 21],.n 18 22,.x 23 18 0,.x 24 18 1,.n 10 23,.n 11 24]) (.seq (.r [.n 26 10,.v 27 9 6,.l 28 b [.t 26,.t 27],.n 25 28,.x 29 25 0,.x 30 25 1,.n 12 29,.n 13 30]) (.seq (.r [.n 31 11,.w 32 .neq 31 0,.n 33 32,.z 34 13 33,.g 35 (.bin .neq (.t 34) (.k 0)) 33 false,.o 36 33 35,.n 37 36,.z 38 10 37,.g 39 (.len false (.t 38)) 37 false,.z 40 1 37,.g 41 (.bin .neq (.t 39) (.t 40)) 37 false,.o 42 37 41,.n 43 42,.z 44 12 43,.z 45 3 43,.g 46 (.bin .neq (.t 44) (.t 45)) 43 false,.o 47 43 46]) (.cond (.t 47) (.seq (.r [.m 8 .F]) (.ret)) (.skip)))))) (.r [.n 16 9,.a 17 16 1,.n 9 17])))))) (.seq (.r [.m 8 .T]) (.ret)))⟩
theorem qqY{g1 g2:Nat}(hc:qh P f (x4 g1 g2)=true)(ar:AV)(ha:clo ar=true)(hs:qW ar=true)(pe:Bool)(t m x:Int)(n:Nat)(w:Int)(cs:Bool->List AV)(hn:n<=100)
  (hB:∀b:Bool,qb P g1 [.agg (zT ar pe),.b b] (.tup [.fz n (cs b),.i .i64 0])) (hE:∀b:Bool,qb P g2 [.fz n (cs b),jz t m x] (.tup [.i .u32 w,.i .i64 0])) :
  qb P f [.agg (zT ar pe),.i .i64 (n:Int),jz t m x,.i .u32 w] (.b true):=by
 refine qb.mk hc (by simp[qx,clo,zT,jz,ha]) ?_;have hB0:=hB false;have hB1:=hB true;have hE0:=hE false;have hE1:=hE true;simp only[x4,vI,simprocAttr];simp +decide only[↓vS,vT,simprocAttr,zT,jz];refine SL.loop (α:=Nat) (fun j=>[(1,.i .i64 (n:Int)),(3,.i .u32 w),(4,.ptr 0 0),(6,.ptr 1 0),(9,.i .i64 (j:Int))]) (fun _=>[.cells 0 true false (zT ar pe),.cells 0 true false [.i .u32 m,.i .u32 t,.i .u64 0,.i .u64 x,.i .u64 0,.i .u64 0,.i .u64 0,.i .u64 0,.i .u64 0]]) (fun j=>j<=2) (fun j=>2-j) 0 [0,1] ?_ ?_ ?_ rfl ?_ ?_
 ·simp[vw]
 ·simp[vw,qc];exact (NVs.refl (vs:=zT ar pe) (by simp[qx,clo,zT,ha]))
 ·simp
 ·exact Nat.zero_le _
 rintro j hj G ih;simp only[vI,simprocAttr]
 by_cases hlt:j<2
 ·have ih2:=ih (j+1) hlt (by omega);have hj2:j=0∨j=1:=by omega
  have hlen:¬((n:Int)≠n):=fun h=>h rfl
  have w1:IntKind.wrap .i64 1=1:=by decide
  have w2:IntKind.wrap .i64 2=2:=by decide
  rcases hj2 with rfl|rfl
  ·simp +decide only[↓vS,vT,simprocAttr,zT,jz] at hB0 hE0 ih2 ⊢;refine hB0.sc ?_;simp +decide only[↓vS,vT,simprocAttr];refine hE0.sc ?_;simp +decide only[↓vS,vT,simprocAttr,w1];refine ih2 _ _ (Wk.mk _ _ [0,1] ?_ ?_ ?_ rfl)
   ·simp[vw]
   ·simp[vw,qc];exact (NVs.refl (vs:=zT ar pe) (by simp[qx,clo,zT,ha]))
   ·simp
  ·simp +decide only[↓vS,vT,simprocAttr,zT,jz] at hB1 hE1 ih2 ⊢;refine hB1.sc ?_;simp +decide only[↓vS,vT,simprocAttr];refine hE1.sc ?_;simp +decide only[↓vS,vT,simprocAttr,w2];refine ih2 _ _ (Wk.mk _ _ [0,1] ?_ ?_ ?_ rfl)
   ·simp[vw]
   ·simp[vw,qc];exact (NVs.refl (vs:=zT ar pe) (by simp[qx,clo,zT,ha]))
   ·simp
 ·obtain rfl:j=2:=by omega
  simp +decide only[↓vS,vT,simprocAttr];simp[vZ]
def qoa(x:Prg):Bool:=decide (x.ins.length<=4096)&&x.ins.all fun i=>decide (0<=i.code∧i.code<=65535∧0<=i.jt∧i.jt<=255∧0<=i.jf∧i.jf<=255∧0<=i.k∧i.k<=4294967295)
theorem qkS{l:List Prg}(h:l.all qoa=true):∀x ∈ l,PrgIn x:=fun x hx=>by
 have h1:=List.all_eq_true.1 h x hx;unfold qoa at h1;simp only[Bool.and_eq_true,decide_eq_true_eq,List.all_eq_true] at h1;refine⟨by omega,fun i hi=>?_⟩
 obtain⟨q1,q2,q3,q4,q5,q6,q7,q8⟩:=h1.2 i hi;exact⟨q1,q2,q3,q4,q5,q6,q7,q8⟩
def d29(t n x:Int):GData:=⟨n,t,0,x,0,0,0,0,0⟩
theorem qmG{t n x:Int}(h:decide (0<=t∧t<=4294967295∧0<=n∧n<=4294967295∧0<=x∧x<18446744073709551616)=true):DatOk (d29 t n x):=by
 obtain⟨h1,h2,h3,h4,h5,h6⟩:=of_decide_eq_true h;refine⟨h3,h4,h1,h2,fun y hy=>?_⟩
 simp only[qdT,d29,List.mem_cons,List.not_mem_nil,or_false] at hy;rcases hy with rfl|rfl|rfl|rfl|rfl|rfl|rfl<;>first|exact⟨h5,h6⟩|exact⟨by decide,by decide⟩
theorem qpW{g:Nat}(hE:∀l:List Prg,l.length<=100->(∀x ∈ l,PrgIn x)->∀d,DatOk d->qb P g [.fz l.length (rPr l),.agg (qP d)] (if zz l=true then .tup [.i .u32 (evS l d),.i .i64 0] else .tup [.i .u32 0,.i .i64 290]))
  (l:List Prg) (t n x w:Int) (h:(l.all qoa&&decide (l.length<=100)&&zz l&&decide (0<=t∧t<=4294967295∧0<=n∧n<=4294967295∧0<=x∧x<18446744073709551616)&&decide (evS l (d29 t n x)=w))=true):qb P g [.fz l.length (rPr l),jz t n x] (.tup [.i .u32 w,.i .i64 0]):=by
 simp only[Bool.and_eq_true] at h;obtain⟨⟨⟨⟨h1,h2⟩,h3⟩,h4⟩,h5⟩:=h;have:=hE l (of_decide_eq_true h2) (qkS h1) (d29 t n x) (qmG h4);rw[if_pos h3,of_decide_eq_true h5] at this;exact this
end Go.Kc
end
