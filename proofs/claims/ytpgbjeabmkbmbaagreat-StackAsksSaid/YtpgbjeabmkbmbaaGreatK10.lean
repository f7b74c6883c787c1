/- Part 10 of the abstract machine and of the functions' walks. Conditions: with each theorem. -/
import Derived.Test.YtpgbjeabmkbmbaaGreatK9
set_option linter.unusedSimpArgs false
set_option linter.unusedVariables false
set_option linter.unnecessarySimpa false
section
/- Bytes put one behind the other. Condition: the functions' texts are these. -/
namespace Go.Kc
variable {P:Program} {f:Nat}
theorem qtG{x:Int}{j:Nat}(hj:j<2):IntKind.wrap .u8 (X6 .u16 x ((8*j:Nat):Int))=x / 256 ^ j % 256:=by
 have e:X6 .u16 x ((8*j:Nat):Int)=x / 256 ^ j:=by
  unfold X6
  have hm:min ((8*j:Nat):Int).toNat (IntKind.bits .u16)=8*j:=by
   have:IntKind.bits .u16=16:=rfl;rw[this];omega
  rw[hm,Int.fdiv_eq_ediv_of_nonneg _ (Int.le_of_lt (Int.pow_pos (by decide))),Int.pow_mul];rfl
 rw[e];rfl
def vq:IFn:=⟨[.tmp 4],.seq (.r [.m 4 .N]) (.seq (.r [.n 7 1,.q 8 (.mkS 1 1 [.i .u8 0] (.t 7) (.t 7)),.n 5 8]) (.seq (.seq (.r [.n 9 5,.e 10 9,.m 11 (.k 0)]) (.blk 0 (.loop (.seq (.r [.s 12 11 10]) (.seq (.cond (.t 12) (.skip) (.exit 0)) (.seq (.blk 1 (.seq (.r [.n 13 11,.n 6 13]) (.r [.n 14 5,.n 15 6,.n 16 0,.n 17 6,.q 18 (.bin .mul (.k 8) (.t 17)),.b 19 .shr 16 18,.q 20 (.cvInt .u8 (.t 19)),.i 21 1 14 15,.u (.store 1 (.t 21) (.t 20))]))) (.r [.a 22 11 1,.n 11 22]))))))) (.seq (.r [.n 23 5,.n 4 23]) (.ret))))⟩
theorem qtQ(hc:qi P f vq=true)(x:Int):qc P f [.i .u16 x,.i .i64 2] (.fz 2 (rB (qM 2 x))):=by
 refine qc.mk hc rfl ?_;have hr1:2<=qf:=by simp only[qf];omega
 have hrep:(List.replicate 2 [AV.i .u8 0]).flatten=rB (x4 2 0 x):=rfl;simp only[vq,vI,simprocAttr];simp (decide:=true) only [↓vS,vT,simprocAttr,hr1,hrep];refine SL.loop (α:=Nat) (fun j=>[(0,.i .u16 x),(5,.sl 0 0 2 2 false),(10,.i .i64 2),(11,.i .i64 (j:Int))]) (fun j=>[.cells 0 true false (rB (x4 2 j x))]) (fun j=>j<=2) (fun j=>2-j) 0 [0] ?_ ?_ ?_ rfl ?_ ?_
 ·simp[vw]
 ·simp[vw,qa,qF];exact NVs.refl (vs:=rB (x4 2 0 x)) (qF _)
 ·simp
 ·exact Nat.zero_le _
 rintro j hj G ih;simp only[vI,simprocAttr]
 by_cases hlt:j<2
 ·have hlt':(j:Int)<2:=by omega
  have hst:=ZT (k:=.u8) (L:=x4 2 j x) (j:=j) (by rw[yf hj];exact hlt) (x / 256 ^ j % 256);rw[XK hlt] at hst;have hst:(rB (x4 2 j x)).take j++(AV.i .u8 (x / 256 ^ j % 256)::(rB (x4 2 j x)).drop (j+1))=rB (x4 2 (j+1) x):=hst;have hle:j+1<=(rB (x4 2 j x)).length:=by rw[xD,yf hj];exact hlt
  have hw8:IntKind.wrap .i64 (8*(j:Int))=((8*j:Nat):Int):=by rw[qp (by omega) (by omega)];omega
  have hge:(0:Int)<=((8*j:Nat):Int):=by omega
  have hsh:=qtG (x:=x) hlt;have w1:IntKind.wrap .i64 ((j:Int)+1)=((j+1:Nat):Int):=by rw[qp (by omega) (by omega)];omega
  simp (decide:=true) only [↓vS,vT,simprocAttr,hlt,hlt',hw8,hge,hsh,Nat.mul_one,hle,hst,w1];refine ih (j+1) hlt (by omega) _ _ (Wk.mk _ _ [0] ?_ ?_ ?_ rfl)
  ·simp[vw]
  ·simp[vw,qa,qF]
  ·simp
 ·obtain rfl:j=2:=by omega
  have hf:x4 2 2 x=qM 2 x:=by unfold x4;rw[Nat.sub_self];exact List.append_nil _
  rw[hf];simp (decide:=true) only [↓vS,vT,simprocAttr];refine Frz.cut 1 rfl (Nat.le_refl _) ?_;have hl:(rB (qM 2 x)).length=2:=by rw[xD,qG]
  have ht:(rB (qM 2 x)).take 2=rB (qM 2 x):=List.take_of_length_le (by rw[hl];exact Nat.le_refl _);simp[vZ,vP,Tr.get_set,qY (qF _),ht,hl]
def QC(a:Nat):IFn:=⟨[.tmp 2],.seq (.r [.m 2 .N]) (.seq (.r [.n 3 0,.l 4 a [.t 3,.k 2],.n 2 4]) (.ret))⟩
theorem qtN{g:Nat}(hc:qi P f (QC g)=true)(hg:∀x:Int,qc P g [.i .u16 x,.i .i64 2] (.fz 2 (rB (qM 2 x))))(x:Int):qc P f [.i .u16 x] (.fz 2 (rB (qM 2 x))):=by
 refine qc.mk hc rfl ?_;simp only[QC,vI,simprocAttr];simp (decide:=true) only [↓vS,vT,simprocAttr];refine (hg x).sc ?_;simp (decide:=true) only [↓vS,vT,simprocAttr];simp[vZ]
theorem qtH{x:Int}{j:Nat}(hj:j<4):IntKind.wrap .u8 (X6 .u32 x ((8*j:Nat):Int))=x / 256 ^ j % 256:=by
 have e:X6 .u32 x ((8*j:Nat):Int)=x / 256 ^ j:=by
  unfold X6
  have hm:min ((8*j:Nat):Int).toNat (IntKind.bits .u32)=8*j:=by
   have:IntKind.bits .u32=32:=rfl;rw[this];omega
  rw[hm,Int.fdiv_eq_ediv_of_nonneg _ (Int.le_of_lt (Int.pow_pos (by decide))),Int.pow_mul];rfl
 rw[e];rfl
def vt:IFn:=⟨[.tmp 4],.seq (.r [.m 4 .N]) (.seq (.r [.n 7 1,.q 8 (.mkS 1 1 [.i .u8 0] (.t 7) (.t 7)),.n 5 8]) (.seq (.seq (.r [.n 9 5,.e 10 9,.m 11 (.k 0)]) (.blk 0 (.loop (.seq (.r [.s 12 11 10]) (.seq (.cond (.t 12) (.skip) (.exit 0)) (.seq (.blk 1 (.seq (.r [.n 13 11,.n 6 13]) (.r [.n 14 5,.n 15 6,.n 16 0,.n 17 6,.q 18 (.bin .mul (.k 8) (.t 17)),.b 19 .shr 16 18,.q 20 (.cvInt .u8 (.t 19)),.i 21 1 14 15,.u (.store 1 (.t 21) (.t 20))]))) (.r [.a 22 11 1,.n 11 22]))))))) (.seq (.r [.n 23 5,.n 4 23]) (.ret))))⟩
theorem qtR(hc:qi P f vt=true)(x:Int):qc P f [.i .u32 x,.i .i64 4] (.fz 4 (rB (qM 4 x))):=by
 refine qc.mk hc rfl ?_;have hr1:4<=qf:=by simp only[qf];omega
 have hrep:(List.replicate 4 [AV.i .u8 0]).flatten=rB (x4 4 0 x):=rfl;simp only[vt,vI,simprocAttr];simp (decide:=true) only [↓vS,vT,simprocAttr,hr1,hrep];refine SL.loop (α:=Nat) (fun j=>[(0,.i .u32 x),(5,.sl 0 0 4 4 false),(10,.i .i64 4),(11,.i .i64 (j:Int))]) (fun j=>[.cells 0 true false (rB (x4 4 j x))]) (fun j=>j<=4) (fun j=>4-j) 0 [0] ?_ ?_ ?_ rfl ?_ ?_
 ·simp[vw]
 ·simp[vw,qa,qF];exact NVs.refl (vs:=rB (x4 4 0 x)) (qF _)
 ·simp
 ·exact Nat.zero_le _
 rintro j hj G ih;simp only[vI,simprocAttr]
 by_cases hlt:j<4
 ·have hlt':(j:Int)<4:=by omega
  have hst:=ZT (k:=.u8) (L:=x4 4 j x) (j:=j) (by rw[yf hj];exact hlt) (x / 256 ^ j % 256);rw[XK hlt] at hst;have hst:(rB (x4 4 j x)).take j++(AV.i .u8 (x / 256 ^ j % 256)::(rB (x4 4 j x)).drop (j+1))=rB (x4 4 (j+1) x):=hst;have hle:j+1<=(rB (x4 4 j x)).length:=by rw[xD,yf hj];exact hlt
  have hw8:IntKind.wrap .i64 (8*(j:Int))=((8*j:Nat):Int):=by rw[qp (by omega) (by omega)];omega
  have hge:(0:Int)<=((8*j:Nat):Int):=by omega
  have hsh:=qtH (x:=x) hlt;have w1:IntKind.wrap .i64 ((j:Int)+1)=((j+1:Nat):Int):=by rw[qp (by omega) (by omega)];omega
  simp (decide:=true) only [↓vS,vT,simprocAttr,hlt,hlt',hw8,hge,hsh,Nat.mul_one,hle,hst,w1];refine ih (j+1) hlt (by omega) _ _ (Wk.mk _ _ [0] ?_ ?_ ?_ rfl)
  ·simp[vw]
  ·simp[vw,qa,qF]
  ·simp
 ·obtain rfl:j=4:=by omega
  have hf:x4 4 4 x=qM 4 x:=by unfold x4;rw[Nat.sub_self];exact List.append_nil _
  rw[hf];simp (decide:=true) only [↓vS,vT,simprocAttr];refine Frz.cut 1 rfl (Nat.le_refl _) ?_;have hl:(rB (qM 4 x)).length=4:=by rw[xD,qG]
  have ht:(rB (qM 4 x)).take 4=rB (qM 4 x):=List.take_of_length_le (by rw[hl];exact Nat.le_refl _);simp[vZ,vP,Tr.get_set,qY (qF _),ht,hl]
def QD(a:Nat):IFn:=⟨[.tmp 2],.seq (.r [.m 2 .N]) (.seq (.r [.n 3 0,.l 4 a [.t 3,.k 4],.n 2 4]) (.ret))⟩
theorem qtO{g:Nat}(hc:qi P f (QD g)=true)(hg:∀x:Int,qc P g [.i .u32 x,.i .i64 4] (.fz 4 (rB (qM 4 x))))(x:Int):qc P f [.i .u32 x] (.fz 4 (rB (qM 4 x))):=by
 refine qc.mk hc rfl ?_;simp only[QD,vI,simprocAttr];simp (decide:=true) only [↓vS,vT,simprocAttr];refine (hg x).sc ?_;simp (decide:=true) only [↓vS,vT,simprocAttr];simp[vZ]
def ql8(P:Program)(g:Nat):Prop:=∀n:Nat,1<=n->n<=10000000->Own P g [.nils,.i .i64 (n:Int)] (.sl 0 0 0 n true) [.cells 1 true true (rB (List.replicate n 0))]
def jC:IFn:=⟨[.tmp 4],.seq (.r [.m 4 .N]) (.seq (.seq (.r [.n 5 1,.w 6 .lss 5 0]) (.cond (.t 6) (.r [.q 7 (.no),.u (.no)]) (.skip))) (.seq (.seq (.r [.n 8 1,.n 9 0,.q 10 (.cap (.t 9)),.n 11 0,.e 12 11,.b 13 .sub 10 12,.b 14 .sub 8 13,.n 1 14]) (.seq (.r [.n 15 1,.w 16 .gtr 15 0]) (.cond (.t 16) (.r [.n 17 0,.n 18 0,.q 19 (.cap (.t 18)),.q 20 (.slcS 1 (.t 17) none (some (.t 19)) none),.n 21 1,.q 22 (.appZ 1 1 [.i .u8 0] (.t 20) (.t 21)),.n 23 0,.e 24 23,.q 25 (.slcS 1 (.t 22) none (some (.t 24)) none),.n 0 25]) (.skip)))) (.seq (.r [.n 26 0,.n 4 26]) (.ret))))⟩
theorem qrj(hc:qi P f jC=true):ql8 P f:=by
 intro n h0 h1;refine Own.mk hc rfl ?_;have hn:¬(n:Int)<0:=by omega
 have hw:IntKind.wrap .i64 ((n:Int)-0)=(n:Int):=by rw[qp (by omega) (by omega)];omega
 have hp:(0:Int)<(n:Int):=by omega
 have hw0:IntKind.wrap .i64 0=0:=rfl;have hp0:(0:Int)<=(n:Int):=by omega
 have htn:((n:Int)).toNat=n:=by omega
 have hr1:n<=qf:=by simp only[qf];omega
 have hn0:¬n=0:=by omega
 have hrep:(List.replicate n [AV.i .u8 0]).flatten=rB (List.replicate n 0):=by
  simp[rB,rI,List.flatten_replicate_singleton]
 simp only[jC,vI,simprocAttr];simp (decide:=true) only [↓vS,vT,simprocAttr,hn,hw0,hw,hp,hp0,htn,h0,hr1,hn0,hrep,Nat.mul_one];intro _;refine⟨[0],?_⟩;simp[vw,qa,qF]
def rL(L:List (List Int)):List AV:=L.map fun b=>.fz b.length (rB b)
theorem qo9(L:List (List Int)):(rL L).length=L.length:=by simp[rL]
theorem wY(L:List (List Int)):qy (rL L)=true:=Qe fun b=>by simp[clo,qF]
theorem qi2{L:List (List Int)}{j:Nat}{b:List Int}(h:L[j]?=some b):(rL L)[j]?=some (.fz b.length (rB b)):=by simp[rL,h]
theorem qo8(L M:List (List Int)):rL L++rL M=rL (L++M):=by simp[rL]
theorem qbE{L:List (List Int)}{j:Nat}{b:List Int}(h:L[j]?=some b):(L.take (j+1)).flatten=(L.take j).flatten++b:=by
 rw[List.take_add_one,h];simp
theorem qeR{L:List (List Int)}(j:Nat):(L.take j).flatten.length<=L.flatten.length:=by
 have:L.flatten=(L.take j).flatten++(L.drop j).flatten:=by rw[← List.flatten_append,List.take_append_drop]
 rw[this,List.length_append];omega
theorem XZ(a b:List Int):rB a++rB b=rB (a++b):=ZS
theorem qdy(a:List Int):qK (rB a)=true:=qi1
theorem QM{a:List Int}{n:Nat}(h:a.length=n):(rB a).take n=rB a:=List.take_of_length_le (by rw[xD,h];exact Nat.le_refl _)
def zH(a:Nat):ICode:=.seq (.seq (.r [.n 25 0,.e 26 25,.m 27 (.k 0)]) (.blk 2 (.loop (.seq (.r [.s 28 27 26]) (.seq (.cond (.t 28) (.skip) (.exit 2)) (.seq (.blk 3 (.seq (.r [.i 29 1 25 27,.d 30 29,.n 8 30]) (.r [.n 31 6,.n 32 8,.q 33 (.app 1 1 true (.t 31) (.t 32)),.n 6 33]))) (.r [.a 34 27 1,.n 27 34]))))))) (.seq (.r [.n 35 6,.n 2 35]) (.ret))
def jd(a:Nat):IFn:=⟨[.tmp 2],.seq (.r [.m 2 .N]) (.seq (.r [.m 3 (.k 0)]) (.seq (.seq (.r [.n 9 0,.e 10 9,.m 11 (.k 0)]) (.blk 0 (.loop (.seq (.r [.s 12 11 10]) (.seq (.cond (.t 12) (.skip) (.exit 0)) (.seq (.blk 1 (.seq (.r [.i 13 1 9 11,.d 14 13,.n 5 14]) (.seq (.r [.n 15 3,.n 16 5,.e 17 16,.b 18 .add 15 17,.n 3 18]) (.seq (.r [.n 19 3,.w 20 .lss 19 0]) (.cond (.t 20) (.r [.q 21 (.no),.u (.no)]) (.skip)))))) (.r [.a 22 11 1,.n 11 22]))))))) (.seq (.r [.n 23 3,.l 24 a [.N,.t 23],.n 6 24]) (.cut (zH a)))))⟩
theorem qhB(g n:Nat)(L:List (List Int))(hn:1<=n)(h2:L.flatten.length<=10000000)(h3:L.length<=10000000){t':Tr AV}{h':Hp}(hw:Wk 0 t' h' (mkT [(0,.fz L.length (rL L)),(6,.sl 0 0 0 n true)]) (mkH 0 [.cells 1 true true (rB (List.replicate n 0))])) :
  S P 0 (zH g) (j0 [.tmp 2] fun v' h'=>Frz h' v' (.fz L.flatten.length (rB L.flatten))) t' h':=by
 refine S.weak hw (S.weak (Wk.trunc 6 0 n 1 (cs:=rB (List.replicate n 0)) (by simp[mkT,Tr.get_set]) rfl (by rw[xD];simp) hn (Nat.zero_le _)) (qA ?_));simp only[zH,List.set_cons_zero,vI,simprocAttr];simp (decide:=true) only [↓vS,vT,simprocAttr];refine SL.loop (α:=Nat) (fun j=>[(6,.own 0 (L.take j).flatten.length),(25,.fz L.length (rL L)),(26,.i .i64 L.length),(27,.i .i64 (j:Int))]) (fun j=>[.cells 1 true true (rB (L.take j).flatten)]) (fun j=>j<=L.length) (fun j=>L.length-j) 0 [0] ?_ ?_ ?_ rfl ?_ ?_
 ·simp[vw,wY]
 ·simp[vw,qa,rB,rI]
 ·simp
 ·exact Nat.zero_le _
 rintro j hj G ih;simp only[vI,simprocAttr]
 by_cases hlt:j<L.length
 ·obtain⟨b,hb⟩:∃b,L[j]?=some b:=⟨_,List.getElem?_eq_getElem hlt⟩;have gb:=qi2 hb;have hw1:IntKind.wrap .i64 ((j:Int)+1)=((j+1:Nat):Int):=by rw[qp (by omega) (by omega)];omega
  have ih2:=ih (j+1) hlt (by omega);have hle:=qeR (L:=L) (j+1);rw[qbE hb] at ih2 hle;rw[List.length_append] at hle;generalize (L.take j).flatten=A at ih2 hle ⊢;have hr1:A.length+b.length<=qf:=by simp only[qf];omega
  have htk:=QM (a:=b) rfl;simp (decide:=true) only [↓vS,vT,simprocAttr,hlt,gb,hr1,Nat.mul_one,htk,xD,XZ,qdy,hw1];refine ih2 _ _ (Wk.mk _ _ [1] ?_ ?_ ?_ rfl)
  ·simp[vw,wY]
  ·simp[vw,qa,qF]
  ·simp
 ·obtain rfl:j=L.length:=by omega
  simp (decide:=true) only [↓vS,vT,simprocAttr,hlt,List.take_length];simp[vZ,vP,Tr.get_set,qY (qF _)];intro h0;have:L.flatten=[]:=List.eq_nil_of_length_eq_zero (by simpa using h0);rw[this];rfl
def qaw(P:Program)(g:Nat):Prop:=∀L:List (List Int),1<=L.flatten.length->L.flatten.length<=10000000->L.length<=10000000->qc P g [.fz L.length (rL L)] (.fz L.flatten.length (rB L.flatten))
theorem qme{g:Nat}(hc:qi P f (jd g)=true)(hg:ql8 P g):qaw P f:=by
 intro L h1 h2 h3;refine qc.mk hc (by simp[qy,clo,wY]) ?_;simp only[jd,vI,simprocAttr];simp (decide:=true) only [↓vS,vT,simprocAttr];refine SL.loop (α:=Nat) (fun j=>[(0,.fz L.length (rL L)),(3,.i .i64 ((L.take j).flatten.length:Int)),(9,.fz L.length (rL L)),(10,.i .i64 L.length),(11,.i .i64 (j:Int))]) (fun _=>[]) (fun j=>j<=L.length) (fun j=>L.length-j) 0 [] ?_ ?_ ?_ rfl ?_ ?_
 ·simp[vw,wY]
 ·trivial
 ·simp
 ·exact Nat.zero_le _
 rintro j hj G ih;simp only[vI,simprocAttr]
 by_cases hlt:j<L.length
 ·obtain⟨b,hb⟩:∃b,L[j]?=some b:=⟨_,List.getElem?_eq_getElem hlt⟩;have gb:=qi2 hb;have hw1:IntKind.wrap .i64 ((j:Int)+1)=((j+1:Nat):Int):=by rw[qp (by omega) (by omega)];omega
  have ih2:=ih (j+1) hlt (by omega);have hle:=qeR (L:=L) (j+1);rw[qbE hb] at ih2 hle;rw[List.length_append] at ih2 hle;generalize (L.take j).flatten.length=A at ih2 hle ⊢;have hw2:IntKind.wrap .i64 ((A:Int)+(b.length:Int))=((A+b.length:Nat):Int):=by rw[qp (by omega) (by omega)];omega
  have hneg:¬((A+b.length:Nat):Int)<0:=by omega
  simp (decide:=true) only [↓vS,vT,simprocAttr,hlt,gb,hw1,hw2,hneg,Nat.mul_one];refine ih2 _ _ (Wk.mk _ _ [] ?_ ?_ ?_ rfl)
  ·simp[vw,wY]
  ·trivial
  ·simp
 ·obtain rfl:j=L.length:=by omega
  simp (decide:=true) only [↓vS,vT,simprocAttr,hlt,List.take_length];refine (hg L.flatten.length h1 h2).sc ?_;simp only[vJ,simprocAttr,zx (qF _)];simp (decide:=true) only [↓vS,vT,simprocAttr];refine qhB g L.flatten.length L h1 h2 h3 (Wk.mk _ _ [0] ?_ ?_ ?_ rfl)
  ·simp[vw,wY]
  ·simp[vw,qa,qF]
  ·simp
def Xl(a:Nat):IFn:=⟨[.tmp 2],.seq (.r [.m 2 .N]) (.seq (.r [.n 3 0,.l 4 a [.t 3],.n 2 4]) (.ret))⟩
theorem qug{g:Nat}(hc:qi P f (Xl g)=true)(hg:qaw P g):qaw P f:=by
 intro L h1 h2 h3;refine qc.mk hc (by simp[qy,clo,wY]) ?_;simp only[Xl,vI,simprocAttr];simp (decide:=true) only [↓vS,vT,simprocAttr];refine (hg L h1 h2 h3).sc ?_;simp (decide:=true) only [↓vS,vT,simprocAttr];simp[vZ]
def ka(i:Ins):List Int:=qM 2 i.code++([i.jt,i.jf]++qM 4 i.k)
theorem kb(i:Ins):(ka i).length=8:=rfl
def Qt(a b c:Nat):IFn:=⟨[.tmp 2],.seq (.r [.q 1 (.box (.t 0)),.m 2 .N]) (.seq (.reg true [.f 3 0 1,.d 4 3,.l 5 a [.t 4],.f 6 1 1,.d 7 6,.f 8 2 1,.d 9 8,.q 10 (.buildS 2 [.i .u8 0] [(0,1,(.t 7)),(1,1,(.t 9))]),.f 11 3 1,.d 12 11,.l 13 b [.t 12],.q 14 (.buildS 3 [.nils] [(0,1,(.t 5)),(1,1,(.t 10)),(2,1,(.t 13))]),⟨(some 15),.callW c [.t 14],none⟩,.n 2 15]) (.ret))⟩
theorem qmm{g1 g2 g3:Nat}(hc:qi P f (Qt g1 g2 g3)=true)(h1:∀x:Int,qc P g1 [.i .u16 x] (.fz 2 (rB (qM 2 x))))(h2:∀x:Int,qc P g2 [.i .u32 x] (.fz 4 (rB (qM 4 x))))(h3:qaw P g3)(i:Ins):qc P f [.agg (qn i)] (.fz 8 (rB (ka i))):=by
 refine qc.mk hc rfl ?_;have hfl:([qM 2 i.code,[i.jt,i.jf],qM 4 i.k]:List (List Int)).flatten=ka i:=by simp[ka]
 have hcat:=h3 [qM 2 i.code,[i.jt,i.jf],qM 4 i.k] (by rw[hfl,kb];decide) (by rw[hfl,kb];decide) (by simp);rw[hfl,kb] at hcat;simp only[Qt,qn,vI,simprocAttr];simp (decide:=true) only [↓vS,vT,simprocAttr];refine zm ?_;simp (decide:=true) only [↓vS,vT,simprocAttr];refine (h1 i.code).pc ?_;simp (decide:=true) only [↓vS,vT,simprocAttr];refine (h2 i.k).pc ?_;simp (decide:=true) only [↓vS,vT,simprocAttr];refine PC.give (vs':=[.fz 3 (rL [qM 2 i.code,[i.jt,i.jf],qM 4 i.k])]) [(2,.cells 0 true false [.fz 2 (rB (qM 2 i.code)),.sl 1 0 2 2 false,.fz 4 (rB (qM 4 i.k))]),(1,.cells 0 true false [.i .u8 i.jt,.i .u8 i.jf])] ?_ ?_ ?_
 ·intro q hq;simp at hq;rcases hq with rfl|rfl<;>simp[Tr.get_set]
 ·refine .fz _ _ _ _ (.cut 1 rfl (Nat.le_refl _) ?_) .nil;simp[vw,trP,rL,qG];refine Frz.cut 1 rfl (Nat.le_refl _) ?_;simp[vw,trP,rB,rI]
 simp only[wU,kj,zW];refine hcat.pc ?_;simp (decide:=true) only [↓vS,vT,simprocAttr];simp[vZ]
end Go.Kc
end
section
/- Programs' bytes, by the program. Condition: the functions' texts are these. -/
namespace Go.Kc
variable {P:Program} {f:Nat}
def jY(p:List Ins):List Int:=p.flatMap ka
theorem Qi:∀p:List Ins,(jY p).length=p.length*8
 | []=>rfl
 | i::p=>by
  have h:=Qi p;have h2:jY (i::p)=ka i++jY p:=rfl;rw[h2,List.length_append,kb,h,List.length_cons];omega
theorem XJ(p:List Ins):(p.map ka).flatten=jY p:=by simp[jY,List.flatMap_def]
def Xi(a:Nat):IFn:=⟨[.tmp 2],.seq (.r [.q 1 (.box (.t 0)),.m 2 (.c (.nilf))]) (.seq (.r [.q 3 (.mkF a [] [.t 1]),.n 2 3]) (.ret))⟩
theorem qsl{g:Nat}(hc:qi P f (Xi g)=true)(p:List Ins):qc P f [.fz p.length (rP p)] (.fn g [] [.pf [.fz p.length (rP p)] 0]):=by
 refine qc.mk hc (by simp[qy,clo,qd]) ?_;simp only[Xi,vI,simprocAttr];simp (decide:=true) only [↓vS,vT,simprocAttr];simp[vZ,vP,Tr.get_set,qd]
 done
def Qu(a:Nat):IFn:=⟨[],.seq (.r [.d 5 1,.e 6 5,.m 7 (.k 0)]) (.blk 0 (.loop (.seq (.r [.s 8 7 6]) (.seq (.cond (.t 8) (.skip) (.exit 0)) (.seq (.blk 1 (.seq (.r [.i 9 4 5 7,.v 10 4 9,.q 4 (.alloc [.i .u16 0,.i .u8 0,.i .u8 0,.i .u32 0]),.u (.store 4 (.t 4) (.t 10))]) (.seq (.r [.n 11 0,.v 12 4 4,.l 13 a [.t 12],⟨(some 14),.callV (.t 11) [.t 13],none⟩,.q 15 (.un .not (.t 14))]) (.cond (.t 15) (.ret) (.skip))))) (.r [.a 16 7 1,.n 7 16]))))))⟩
def wR(a b:Nat):ICode:=.seq (.r [.d 16 4,.l 17 b [.t 16],.n 2 17,.m 3 (.k 0)]) (.ret)
def Zm(a b:Nat):IFn:=⟨[.tmp 2,.tmp 3],.seq (.r [.m 2 .N,.m 3 (.k 0)]) (.seq (.seq (.r [.n 6 0,.e 7 6,.w 8 .gtr 7 4096]) (.cond (.t 8) (.seq (.r [.m 2 .N,.m 3 (.k 3)]) (.ret)) (.skip))) (.seq (.r [.q 4 (.alloc [.nils])]) (.seq (.seq (.r [.n 9 0,.l 10 a [.t 9]]) (.blk 0 (.rangeF (.t 10) [11] (.r [.n 5 11]) (.blk 1 (.r [.d 12 4,.n 13 5,.q 14 (.buildS 1 [.nils] [(0,1,(.t 13))]),.q 15 (.app 1 24 true (.t 12) (.t 14)),.u (.store 1 (.t 4) (.t 15))]))))) (.cut (wR a b)))))⟩
def prT(g:Nat)(p:List Ins):List (Nat×AV):=[(4,.ptr 0 0),(10,.fn g [] [.pf [.fz p.length (rP p)] 0])]
theorem qiW{g1 g2:Nat}(hg:qaw P g2)(p:List Ins)(h1:1<=p.length)(h2:p.length<=4096){t':Tr AV}{h':Hp}(hw:Wk 0 t' h' (mkT [(4,.ptr 0 0)]) (mkH 0 [.cells 0 true false [.own 1 p.length],.cells 1 true true (rL (p.map ka))])) :
  S P 0 (wR g1 g2) (j0 [.tmp 2,.tmp 3] fun v' h'=>Frz h' v' (.tup [.fz (jY p).length (rB (jY p)),.i .i64 0])) t' h':=by
 refine S.weak hw (qA ?_);have hl:=Qi p;have hcat:=hg (p.map ka) (by rw[XJ,hl];omega) (by rw[XJ,hl];omega) (by rw[List.length_map];omega);rw[XJ,List.length_map] at hcat;simp only[wR,vI,simprocAttr];simp (decide:=true) only [↓vS,vT,simprocAttr];refine hcat.give [(1,.cells 1 true true (rL (p.map ka)))] (by simp[Tr.get_set]) rfl ?_ ?_
 ·simp[vZ,vP,Tr.get_set,qY (wY _),trP];intro h0;rw[h0];rfl
 simp only[wU,kj,zW];simp (decide:=true) only [↓vS,vT,simprocAttr];simp[vZ]
def qqW(P:Program)(g:Nat):Prop:=∀p:List Ins,1<=p.length->p.length<=4096->qc P g [.fz p.length (rP p)] (.tup [.fz (jY p).length (rB (jY p)),.i .i64 0])
set_option maxHeartbeats 1000000 in
theorem qnX{g1 g2 g3 g4:Nat}(hc:qi P f (Zm g1 g2)=true)(h1:∀p:List Ins,qc P g1 [.fz p.length (rP p)] (.fn g3 [] [.pf [.fz p.length (rP p)] 0]))(hc3:qi P g3 (Qu g4)=true)(h2:qaw P g2)
  (h4:∀i:Ins,qc P g4 [.agg (qn i)] (.fz 8 (rB (ka i)))):qqW P f:=by
 intro p hp1 hp2;refine qc.mk hc (by simp[qy,clo,qd]) ?_;have hbig:¬(4096:Int)<p.length:=by omega
 simp only[Zm,vI,simprocAttr];simp (decide:=true) only [↓vS,vT,simprocAttr,hbig];refine (h1 p).sc ?_;simp (decide:=true) only [↓vS,vT,simprocAttr];refine S.weak (Wk.mk (prT g3 p) [.cells 0 true false [.nils]] [0] ?_ ?_ ?_ rfl) ?_
 ·simp[vw,prT,qd]
 ·simp[vw]
 ·simp
 refine S.rangeF (by simp[x5]) (by simp[prT]) ⟨rfl,rfl⟩ ?_;refine qeN.2 ⟨.fn g3 [] [.pf [.fz p.length (rP p)] 0],by simp[prT,mkT,Tr.get_set],?_⟩
 refine⟨qaD hc3,fun r0 hr0 hp0 hlo=>SC.mk hc3 ?_⟩
 have hid:=qcw hr0 hp0;show S P 2 _ _ (jO [.yl 1,.pf [.fz p.length (rP p)] 0] 0 .leaf) ⟨2,0,(Tr.leaf.set 0 (.cells 0 true false [.nils])).set 1 (.map (zC r0 (prT g3 p)))⟩;refine qA ?_;simp only[Qu,vI,simprocAttr];simp only[↓vS,vT,simprocAttr];refine SL.loopn (α:=Nat) (fun j=>[(0,.yl 1),(1,.pf [.fz p.length (rP p)] 0),(5,.fz p.length (rP p)),(6,.i .i64 (p.length:Int)),(7,.i .i64 (j:Int))]) (fun j=>[.cells 0 true false [.own 2 j],.map (zC r0 (prT g3 p)),.cells 1 true true (rL ((p.take j).map ka))]) (fun j=>j<=p.length) (fun j=>p.length-j) 0 [0,1,99] ?_ ?_ ?_ rfl ?_ ?_ ?_ ?_
 ·simp[vw,qd]
 ·simp[vw,prT,qd,rL,jo,jq,xG,zA]
 ·simp
 ·simp
 ·intro x hx;have:x=0∨x=1:=by omega
  rcases this with rfl|rfl<;>rfl
 ·exact Nat.zero_le _
 rintro j hj G ih;simp only[vI,simprocAttr]
 by_cases hlt:j<p.length
 ·have hlt':(j:Int)<p.length:=by omega
  obtain⟨i,hpi⟩:∃i,p[j]?=some i:=⟨_,List.getElem?_eq_getElem hlt⟩;have hel:=qU (f:=qn) (m:=4) qW hpi;rw[show p.flatMap qn=rP p from rfl] at hel
  have h4':j*4+4<=(rP p).length:=by rw[vm];omega
  have hw1:IntKind.wrap .i64 ((j:Int)+1)=((j+1:Nat):Int):=by rw[qp (by omega) (by omega)];omega
  have henc:=h4 i;have hnx:(p.take (j+1)).map ka=(p.take j).map ka++[ka i]:=by rw[List.take_add_one,hpi];simp
  have ih2:=ih (j+1);rw[hnx] at ih2;have hAl:((p.take j).map ka).length=j:=by rw[List.length_map,List.length_take];omega
  generalize (p.take j).map ka=A at ih2 hAl ⊢;have e8:=kb i;generalize ka i=E at henc e8 ih2;have hr1:j+1<=qf:=by simp only[qf];omega
  have hr2:(j+1)*24<=qf:=by simp only[qf];omega
  have hlr:(rL A).length=j:=by rw[qo9,hAl]
  have hap:rL A++[.fz 8 (rB E)]=rL (A++[E]):=by rw[← qo8];simp[rL,e8]
  simp only[qn] at hel henc;simp (decide:=true) only [↓vS,vT,simprocAttr,hlt,hlt',hel,h4'];refine henc.sc ?_;simp (decide:=true) only [↓vS,vT,simprocAttr];change SY P 1 [.fz 8 (rB E)] _ _;refine SY.mk (r:=r0) (ts:=prT g3 p) (ps:=[11]) (by simp[Tr.get_set]) hr0 hlo (Nat.zero_le _) (by show 1<4;decide) rfl ?_;rw[show mkT (prT g3 p)=(Tr.leaf.set 10 (.fn g3 [] [.pf [.fz p.length (rP p)] 0])).set 4 (.ptr 0 0) from rfl]
  refine qA ?_;simp only[qej,vI,simprocAttr];simp only[↓vS,vT,simprocAttr];refine⟨prT g3 p,by simp[Tr.get_set],?_⟩
  refine qA ?_;simp only[zW,vI,simprocAttr];simp (decide:=true) only [↓vS,vT,simprocAttr,hr1,hr2,hlr,hap,Nat.mul_one];refine⟨bsy r0,prT g3 p,by simp[Tr.get_set],?_⟩
  rw[qcv,hid];simp only[zW];simp (decide:=true) only [↓vS,vT,simprocAttr,hw1];refine ih2 (by omega) (by omega) _ _ (Wk.mkn _ _ [0,1,5] ?_ ?_ ?_ rfl ?_ ?_)
  ·simp[vw,qd]
  ·simp[vw,prT,qd,jo,jq,xG,zA,qa,wY]
  ·simp
  ·simp
  ·intro x hx;have:x=0∨x=1:=by omega
   rcases this with rfl|rfl<;>rfl
 ·clear ih;obtain rfl:j=p.length:=by omega
  simp (decide:=true) only [↓vS,vT,simprocAttr,hlt];refine⟨r0,prT g3 p,by simp[Tr.get_set],by rw[hr0];decide,?_⟩
  rw[hp0];simp only[zW];simp only[↓vS,vT,simprocAttr];refine qiW h2 p hp1 hp2 (Wk.mk _ _ [0,2] ?_ ?_ ?_ rfl)
  ·simp[vw,prT,mkT]
  ·simp[vw,qa,wY]
  ·simp
end Go.Kc
end
section
/- Programs' and stacks' bytes, by the document. Condition: the functions' texts are these. -/
namespace Go.Kc
variable {P:Program} {f:Nat}
def qhe(P:Program)(g:Nat):Prop:=∀a b:List Int,1<=b.length->a.length<=1000000->b.length<=1000000->qc P g [.fz a.length (rB a),.fz b.length (rB b)] (.fz (a.length+b.length) (rB (a++b)))
def wB:IFn:=⟨[.tmp 4],.seq (.r [.m 4 .N]) (.seq (.r [.n 6 0,.e 7 6,.n 8 1,.e 9 8,.b 10 .add 7 9,.q 11 (.mkS 1 1 [.i .u8 0] (.t 10) (.t 10)),.n 5 11]) (.seq (.r [.n 12 5,.n 13 0,.q 14 (.copy 1 (.t 12) (.t 13))]) (.seq (.r [.n 15 5,.n 16 0,.e 17 16,.q 18 (.slcS 1 (.t 15) (some (.t 17)) none none),.n 19 1,.q 20 (.copy 1 (.t 18) (.t 19))]) (.seq (.r [.n 21 5,.n 4 21]) (.ret)))))⟩
theorem qtY(hc:qi P f wB=true):qhe P f:=by
 intro a b h1 ha hb;have hne:¬a.length+b.length=a.length:=by omega
 refine qc.mk hc (by simp[qy,clo,qF]) ?_;have hw:IntKind.wrap .i64 ((a.length:Int)+(b.length:Int))=((a.length+b.length:Nat):Int):=by rw[qp (by omega) (by omega)];omega
 have hr1:a.length+b.length<=qf:=by simp only[qf];omega
 have hr2:1*(a.length+b.length)<=qf:=by omega
 have hrep:(List.replicate (a.length+b.length) [AV.i .u8 0]).flatten=rB (List.replicate (a.length+b.length) 0):=by simp[rB,rI,List.flatten_replicate_singleton]
 have ta:=QM (a:=a) rfl;have tb:=QM (a:=b) rfl;have m1:min a.length (a.length+b.length)=a.length:=by omega
 have m2:a.length+b.length-a.length=b.length:=by omega
 have s1:rB a++(rB (List.replicate (a.length+b.length) 0)).drop a.length=rB (a++List.replicate b.length 0):=by
  rw[rB,rB,qff,ZS,List.drop_replicate,m2];rfl
 have s2:(rB (a++List.replicate b.length 0)).take a.length++(rB b++(rB (a++List.replicate b.length 0)).drop (a.length+b.length))=rB (a++b):=by
  rw[rB,rB,qff,qlD,List.take_left' rfl,List.drop_of_length_le (by simp),ZS,ZS];simp[rB]
 have l1:(List.replicate (a.length+b.length) (0:Int)).length=a.length+b.length:=by simp
 have l2:(a++List.replicate b.length 0).length=a.length+b.length:=by simp
 have c1:a.length<=a.length+b.length:=by omega
 simp only[wB,vI,simprocAttr];simp (decide:=true) only [↓vS,vT,simprocAttr,hw,hr1,hr2,hrep,Nat.mul_one,xD,ta,tb,m1,m2,s1,s2,l1,l2,qdy,c1,hne,Nat.min_self,Nat.le_refl,Nat.zero_add];refine Frz.cut 1 rfl (Nat.le_refl _) ?_;have ht:(rB (a++b)).take (a.length+b.length)=rB (a++b):=QM (by simp);simp[vP,Tr.get_set,vZ,xD,ht,qY (qF _)]
def jD(a b:Nat):IFn:=⟨[.tmp 2],.seq (.r [.q 1 (.box (.t 0)),.m 2 .N]) (.seq (.r [.f 4 0 1,.d 5 4,.q 6 (.cvInt .u64 (.t 5)),.l 7 a [.t 6,.k 2],.n 3 7]) (.seq (.r [.n 8 3,.f 9 1 1,.d 10 9,.f 11 2 1,.d 12 11,.q 13 (.buildS 2 [.i .u8 0] [(0,1,(.t 10)),(1,1,(.t 12))]),.q 14 (.app 1 1 true (.t 8) (.t 13)),.n 3 14]) (.seq (.r [.n 15 3,.f 16 3 1,.d 17 16,.q 18 (.cvInt .u64 (.t 17)),.l 19 a [.t 18,.k 4],.l 20 b [.t 15,.t 19],.n 2 20]) (.ret))))⟩
theorem qq7{g1 g2:Nat}(hc:qi P f (jD g1 g2)=true)(h1:qdZ P g1)(h2:qhe P g2)(i:Ins)(hi:InsOk i):qc P f [.agg (qn i)] (.fz 8 (rB (ka i))):=by
 refine qc.mk hc rfl ?_;have c0:=hi.c0;have c1:=hi.c1;have k0:=hi.k0;have k1:=hi.k1;have w1:IntKind.wrap .u64 i.code=i.code:=by show i.code % 18446744073709551616=_;omega
 have w2:IntKind.wrap .u64 i.k=i.k:=by show i.k % 18446744073709551616=_;omega
 have tk:∀n x,List.take n (rB (qM n x))=rB (qM n x):=fun n x=>QM (qG n x)
 have j2:rB (qM 2 i.code)++[AV.i .u8 i.jt,.i .u8 i.jf]=rB (qM 2 i.code++[i.jt,i.jf]):=by rw[← XZ];rfl
 have hcat:=h2 (qM 2 i.code++[i.jt,i.jf]) (qM 4 i.k) (by rw[qG];decide) (by simp[qG]) (by simp[qG]);have l4:(qM 2 i.code++[i.jt,i.jf]).length=4:=by simp[qG]
 rw[qG,l4,List.append_assoc] at hcat;simp only[jD,qn,vI,simprocAttr];simp (decide:=true) only [↓vS,vT,simprocAttr,w1];refine (h1 i.code (by omega) (by omega) 2 (by omega)).sc ?_;simp only[vJ,simprocAttr,zx (qF _)];simp (decide:=true) only [↓vS,vT,simprocAttr,xD,qG,tk,j2,w2];refine (h1 i.k (by omega) (by omega) 4 (by omega)).sc ?_;simp only[vJ,simprocAttr,zx (qF _)];simp (decide:=true) only [↓vS,vT,simprocAttr];refine hcat.give [(3,.cells 1 true true (rB (qM 2 i.code++[i.jt,i.jf]))),(4,.cells 0 true false (rB (qM 4 i.k)))] ?_ rfl ?_ ?_
 ·intro q hq;simp at hq;rcases hq with rfl|rfl<;>simp[Tr.get_set]
 ·refine .cons _ _ _ _ ?_ (.cons _ _ _ _ (Frz.cut 1 rfl (Nat.le_refl _) ?_) .nil)
  ·simp[vZ,vP,Tr.get_set,trP,qY (qF _)]
  ·simp[vP,Tr.get_set,vZ,trP,xD,qG,tk,qY (qF _)]
 simp only[wU,kj,zW];simp (decide:=true) only [↓vS,vT,simprocAttr];simp[vZ,ka]
def jQ(a:Nat):IFn:=⟨[.tmp 2],.seq (.r [.m 2 .N]) (.seq (.r [.m 3 .N]) (.seq (.seq (.r [.m 4 (.k 0)]) (.blk 0 (.loop (.seq (.seq (.r [.n 5 4,.n 6 0,.e 7 6,.s 8 5 7]) (.cond (.t 8) (.skip) (.exit 0))) (.seq (.blk 1 (.r [.n 11 3,.n 12 0,.n 13 4,.i 14 4 12 13,.v 15 4 14,.l 16 a [.t 15],.q 17 (.app 1 1 true (.t 11) (.t 16)),.n 3 17])) (.r [.n 9 4,.a 10 9 1,.n 4 10])))))) (.seq (.r [.n 18 3,.n 2 18]) (.ret))))⟩
theorem qss{g:Nat}(hc:qi P f (jQ g)=true)(hg:∀i,InsOk i->qc P g [.agg (qn i)] (.fz 8 (rB (ka i))))(p:List Ins)(hp:p.length<=4096)(hi:∀i ∈ p,InsOk i):qc P f [.fz p.length (rP p)] (.fz (jY p).length (rB (jY p))):=by
 refine qc.mk hc (by simp[qy,clo,qd]) ?_;simp only[jQ,vI,simprocAttr];simp (decide:=true) only [↓vS,vT,simprocAttr];refine SL.loop (α:=Nat) (fun j=>[(0,.fz p.length (rP p)),(3,.own 0 (jY (p.take j)).length),(4,.i .i64 (j:Int))]) (fun j=>[.cells 1 true true (rB (jY (p.take j)))]) (fun j=>j<=p.length) (fun j=>p.length-j) 0 [99] ?_ ?_ ?_ rfl ?_ ?_
 ·simp[vw,qd,jY]
 ·simp[vw,jY,rB,rI]
 ·simp
 ·exact Nat.zero_le _
 rintro j hj G ih;simp only[vI,simprocAttr]
 by_cases hlt:j<p.length
 ·obtain⟨i,hpi⟩:∃i,p[j]?=some i:=⟨_,List.getElem?_eq_getElem hlt⟩;have hel:=qU (f:=qn) (m:=4) qW hpi;rw[show p.flatMap qn=rP p from rfl] at hel
  have h4:j*4+4<=(rP p).length:=by rw[vm];omega
  have hw1:IntKind.wrap .i64 ((j:Int)+1)=((j+1:Nat):Int):=by rw[qp (by omega) (by omega)];omega
  have hen:=hg i (hi i (List.mem_of_getElem? hpi));have hnx:jY (p.take (j+1))=jY (p.take j)++ka i:=by rw[List.take_add_one,hpi];simp[jY]
  have hll:(jY (p.take j)).length<=40000:=by rw[Qi,List.length_take];omega
  have ih2:=ih (j+1) hlt (by omega);rw[hnx] at ih2;generalize jY (p.take j)=A at ih2 hll ⊢;have hr1:A.length+8<=qf:=by simp only[qf];omega
  have tk:=QM (kb i);have e8:=kb i;rw[List.length_append,e8] at ih2;generalize ka i=E at hen tk e8 ih2;have h8:8<=E.length:=by omega
  simp (decide:=true) only [↓vS,vT,simprocAttr,hlt,hel,h4];refine hen.sc ?_;simp (decide:=true) only [↓vS,vT,simprocAttr,hr1,Nat.mul_one,tk,xD,h8,XZ,qdy,hw1];refine ih2 _ _ (Wk.mk _ _ [1] ?_ ?_ ?_ rfl)
  ·simp[vw,qd]
  ·simp[vw,qa,qF]
  ·simp
 ·obtain rfl:j=p.length:=by omega
  simp (decide:=true) only [↓vS,vT,simprocAttr,hlt,List.take_length];simp[vZ,vP,Tr.get_set,qY (qF _)];intro h0;rw[h0];rfl
def qcB(x:Prg):List Int:=[IntKind.wrap .u8 x.dir,IntKind.wrap .u8 x.arch]++(qM 2 x.ins.length++jY x.ins)
def xT(l:List Prg):List Int:=l.flatMap qcB
theorem qbi(x:Prg):(qcB x).length=4+x.ins.length*8:=by
 unfold qcB;rw[List.length_append,List.length_append,qG,Qi];simp;omega
theorem qb1{l:List Prg}{j:Nat}{x:Prg}(h:l[j]?=some x):xT (l.take (j+1))=xT (l.take j)++qcB x:=by
 rw[List.take_add_one,h];simp[xT]
theorem qcC:∀{l:List Prg},(∀x ∈ l,x.ins.length<=4096)->(xT l).length<=40000*l.length
 | [],_=>Nat.zero_le _
 | x::l,h=>by
  have h1:=qcC (l:=l) fun y hy=>h y (by simp[hy])
  have h2:=h x (by simp);have h3:xT (x::l)=qcB x++xT l:=rfl;rw[h3,List.length_append,qbi,List.length_cons];omega
def qsH(P:Program)(g:Nat):Prop:=∀p:List Ins,p.length<=4096->(∀i ∈ p,InsOk i)->qc P g [.fz p.length (rP p)] (.fz (jY p).length (rB (jY p)))
def jT(a b:Nat):IFn:=⟨[.tmp 2],.seq (.r [.m 2 .N]) (.seq (.r [.m 3 .N]) (.seq (.seq (.r [.m 4 (.k 0)]) (.blk 0 (.loop (.seq (.seq (.r [.n 5 4,.n 6 0,.e 7 6,.s 8 5 7]) (.cond (.t 8) (.skip) (.exit 0))) (.seq (.blk 1 (.seq (.reg true [.n 11 3,.n 12 0,.n 13 4,.i 14 3 12 13,.f 15 0 14,.d 16 15,.q 17 (.cvInt .u8 (.t 16)),.n 18 0,.n 19 4,.i 20 3 18 19,.f 21 1 20,.d 22 21,.q 23 (.cvInt .u8 (.t 22)),.q 24 (.buildS 2 [.i .u8 0] [(0,1,(.t 17)),(1,1,(.t 23))]),.q 25 (.app 1 1 true (.t 11) (.t 24)),.n 3 25]) (.seq (.r [.n 26 3,.n 27 0,.n 28 4,.i 29 3 27 28,.f 30 2 29,.d 31 30,.e 32 31,.q 33 (.cvInt .u64 (.t 32)),.l 34 a [.t 33,.k 2],.q 35 (.app 1 1 true (.t 26) (.t 34)),.n 3 35]) (.r [.n 36 3,.n 37 0,.n 38 4,.i 39 3 37 38,.f 40 2 39,.d 41 40,.l 42 b [.t 41],.q 43 (.app 1 1 true (.t 36) (.t 42)),.n 3 43])))) (.r [.n 9 4,.a 10 9 1,.n 4 10])))))) (.seq (.r [.n 44 3,.n 2 44]) (.ret))))⟩
set_option maxHeartbeats 1000000 in
theorem qsu{g1 g2:Nat}(hc:qi P f (jT g1 g2)=true)(h1:qdZ P g1)(h2:qsH P g2)(l:List Prg)(hl:l.length<=48)(hx:∀x ∈ l,PrgOk x):qc P f [.fz l.length (rPr l)] (.fz (xT l).length (rB (xT l))):=by
 refine qc.mk hc (by simp[qy,clo,qO]) ?_;simp only[jT,vI,simprocAttr];simp (decide:=true) only [↓vS,vT,simprocAttr];refine SL.loop (α:=Nat) (fun j=>[(0,.fz l.length (rPr l)),(3,.own 0 (xT (l.take j)).length),(4,.i .i64 (j:Int))]) (fun j=>[.cells 1 true true (rB (xT (l.take j)))]) (fun j=>j<=l.length) (fun j=>l.length-j) 0 [99] ?_ ?_ ?_ rfl ?_ ?_
 ·simp[vw,qO,xT]
 ·simp[vw,xT,rB,rI]
 ·simp
 ·exact Nat.zero_le _
 rintro j hj G ih;simp only[vI,simprocAttr]
 by_cases hlt:j<l.length
 ·obtain⟨x,hpx⟩:∃x,l[j]?=some x:=⟨_,List.getElem?_eq_getElem hlt⟩;have hxo:=hx x (List.mem_of_getElem? hpx);have hxl:=hxo.len;have g0:=zb (f:=cPr) (m:=3) z8 hpx (i:=0) (by omega);have g1:=zb (f:=cPr) (m:=3) z8 hpx (i:=1) (by omega);have g2:=zb (f:=cPr) (m:=3) z8 hpx (i:=2) (by omega);rw[show l.flatMap cPr=rPr l from rfl] at g0 g1 g2
  simp only[cPr,Nat.add_zero,List.getElem?_cons_zero,List.getElem?_cons_succ] at g0 g1 g2;have hw1:IntKind.wrap .i64 ((j:Int)+1)=((j+1:Nat):Int):=by rw[qp (by omega) (by omega)];omega
  have hw2:IntKind.wrap .u64 (x.ins.length:Int)=(x.ins.length:Int):=by show (x.ins.length:Int) % 18446744073709551616=_;omega
  have hpr:=h2 x.ins hxl hxo.ins
  have hall:(xT (l.take j)).length<=2000000:=by
   have h3:=qcC (l:=l.take j) fun y hy=>(hx y (List.mem_of_mem_take hy)).len
   have:(l.take j).length<=48:=by rw[List.length_take];omega
   omega
  have ih2:=ih (j+1) hlt (by omega);rw[qb1 hpx] at ih2;unfold qcB at ih2;generalize xT (l.take j)=A at ih2 hall ⊢;have hel:(jY x.ins).length<=32768:=by rw[Qi];omega
  generalize jY x.ins=E at hpr hel ih2;have tE:=QM (a:=E) rfl;have tk:∀n x,List.take n (rB (qM n x))=rB (qM n x):=fun n x=>QM (qG n x)
  have j2:rB A++[AV.i .u8 (IntKind.wrap .u8 x.dir),.i .u8 (IntKind.wrap .u8 x.arch)]=rB (A++[IntKind.wrap .u8 x.dir,IntKind.wrap .u8 x.arch]):=by rw[← XZ];rfl
  have l2:(A++[IntKind.wrap .u8 x.dir,IntKind.wrap .u8 x.arch]).length=A.length+2:=by simp
  have r1:A.length+2<=qf:=by simp only[qf];omega
  have r2:A.length+2+2<=qf:=by simp only[qf];omega
  have r3:A.length+2+2+E.length<=qf:=by simp only[qf];omega
  have l3:(A++IntKind.wrap .u8 x.dir::IntKind.wrap .u8 x.arch::qM 2 x.ins.length).length=A.length+2+2:=by simp[qG]
  simp only[List.cons_append,List.nil_append] at ih2;simp (decide:=true) only [↓vS,vT,simprocAttr,hlt];refine zm ?_;simp (decide:=true) only [↓vS,vT,simprocAttr,hlt,g0,g1,g2,r1,Nat.mul_one,xD,j2];simp (decide:=true) only [↓vS,vT,simprocAttr,hlt,g0,g1,g2,hw2];refine (h1 x.ins.length (by omega) (by omega) 2 (by omega)).sc ?_;simp only[vJ,simprocAttr,zx (qF _)];simp (decide:=true) only [↓vS,vT,simprocAttr,hlt,g2,xD,qG,tk,l2,r2,XZ,qdy,Nat.mul_one];refine hpr.sc ?_;simp (decide:=true) only [↓vS,vT,simprocAttr,tE,xD,l3,r3,XZ,qdy,Nat.mul_one,hw1];refine ih2 _ _ (Wk.mk _ _ [5] ?_ ?_ ?_ rfl)
  ·simp[vw,qO,qG];omega
  ·simp[vw,qa,qF]
  ·simp
 ·obtain rfl:j=l.length:=by omega
  simp (decide:=true) only [↓vS,vT,simprocAttr,hlt,List.take_length];simp[vZ,vP,Tr.get_set,qY (qF _)];intro h0;have:xT l=[]:=List.eq_nil_of_length_eq_zero (by simpa using h0);rw[this];rfl
end Go.Kc
end
section
/- Stacks run, by the program and by the document. Condition: the functions' texts are these. -/
namespace Go.Kc
variable {P:Program} {f:Nat}
theorem qeh{x:Prg}(hx:∀i ∈ x.ins,InsOk i)(h:wn x=true):PrgGood x.ins:=by
 unfold wn at h;simp only[Bool.and_eq_true,decide_eq_true_eq] at h;obtain⟨h1,h2,h3,h4,_⟩:=qm4 h.1;exact⟨h2,h1,hx,h3,h4⟩
theorem QJ{l:List Prg}(hx:∀x ∈ l,∀i ∈ x.ins,InsOk i)(h:jh l=true):l.length<=48∧∀x ∈ l,PrgGood x.ins:=by
 unfold jh at h;simp only[Bool.and_eq_true,decide_eq_true_eq,List.all_eq_true] at h;exact⟨h.1,fun x hm=>qeh (hx x hm) (h.2 x hm)⟩
def kr(l:List Prg)(d:GData):List Int:=l.map fun x=>(QQ x.ins d).1
def evS(l:List Prg)(d:GData):Int:=v9 (kr l d)
theorem Z4(l:List Prg)(d:GData):(kr l d).length=l.length:=by simp[kr]
theorem qbw{l:List Prg}{d:GData}{j:Nat}{x:Prg}(h:l[j]?=some x):kr (l.take (j+1)) d=kr (l.take j) d++[(QQ x.ins d).1]:=by
 rw[List.take_add_one,h];simp[kr]
def qqY(P:Program)(g:Nat):Prop:=∀p,PrgGood p->∀d,DatOk d->∃n:Int,qc P g [.fz p.length (rP p),.agg (qE d)] (.tup [.i .u32 (QQ p d).1,.i .i64 n,.i .i64 0])
def Jd(P:Program)(g:Nat):Prop:=∀l:List Prg,l.length<=100->(∀x ∈ l,PrgIn x)->qc P g [.fz l.length (rPr l)] (.b (jh l))
def qdY(P:Program)(g:Nat):Prop:=∀l:List Int,(∀x ∈ l,u32 x)->l.length<=100000->qc P g [.fz l.length (rI .u32 l)] (.i .u32 (v9 l))
def kE(a:Nat):IFn:=⟨[.tmp 2],.seq (.r [.m 2 (.c (.i .u32 0))]) (.seq (.r [.n 3 0,.l 4 a [.t 3],.n 2 4]) (.ret))⟩
theorem qjv{g:Nat}(hc:qi P f (kE g)=true)(hg:qdY P g):qdY P f:=by
 intro l hl hn;refine qc.mk hc (by simp[qy,clo,zg]) ?_;simp only[kE,vI,simprocAttr];simp (decide:=true) only [↓vS,vT,simprocAttr];refine (hg l hl hn).sc ?_;simp (decide:=true) only [↓vS,vT,simprocAttr];simp[vZ]
def wS(a b c:Nat):ICode:=.seq (.r [.n 34 6,.l 35 c [.t 34],.n 4 35,.m 5 (.k 0)]) (.ret)
def kO(a b c:Nat):IFn:=⟨[.tmp 4,.tmp 5],.seq (.r [.q 3 (.box (.t 1)),.m 4 (.c (.i .u32 0)),.m 5 (.k 0)]) (.seq (.seq (.r [.n 12 0,.l 13 a [.t 12],.q 14 (.un .not (.t 13))]) (.cond (.t 14) (.seq (.r [.m 4 (.c (.i .u32 0)),.m 5 (.k 290)]) (.ret)) (.skip))) (.seq (.r [.m 6 .N]) (.seq (.seq (.r [.n 15 0,.e 16 15,.m 17 (.k 0)]) (.blk 0 (.loop (.seq (.r [.s 18 17 16]) (.seq (.cond (.t 18) (.skip) (.exit 0)) (.seq (.blk 1 (.seq (.r [.i 19 3 15 17,.v 20 3 19,.q 8 (.alloc [.i .i64 0,.i .i64 0,.nils]),.u (.store 3 (.t 8) (.t 20))]) (.seq (.r [.f 22 2 8,.d 23 22,.v 24 9 3,.l 25 b [.t 23,.t 24],.n 21 25,.x 26 21 0,.x 27 21 1,.x 28 21 2,.n 9 26,.n 10 27,.n 11 28]) (.r [.n 29 6,.n 30 9,.q 31 (.buildS 1 [.i .u32 0] [(0,1,(.t 30))]),.q 32 (.app 1 4 true (.t 29) (.t 31)),.n 6 32])))) (.r [.a 33 17 1,.n 17 33]))))))) (.cut (wS a b c)))))⟩
theorem qkq{g1 g2 g3:Nat}(hg:qdY P g3)(A:List Int)(hA:∀x ∈ A,u32 x)(hn:A.length<=100){t':Tr AV}{h':Hp}(hw:Wk 0 t' h' (mkT [(6,.own 0 A.length)]) (mkH 0 [.cells 1 true true (rI .u32 A)])) :
  S P 0 (wS g1 g2 g3) (j0 [.tmp 4,.tmp 5] fun v' h'=>Frz h' v' (.tup [.i .u32 (v9 A),.i .i64 0])) t' h':=by
 refine S.weak hw (qA ?_);simp only[wS,vI,simprocAttr];simp (decide:=true) only [↓vS,vT,simprocAttr];refine (hg A hA (by omega)).give [(0,.cells 1 true true (rI .u32 A))] (by simp[Tr.get_set]) rfl ?_ ?_
 ·simp[vZ,vP,Tr.get_set,qY zg,trP];intro h0;rw[h0];rfl
 simp only[wU,kj,zW];simp (decide:=true) only [↓vS,vT,simprocAttr];simp[vZ]
theorem qqg{g1 g2 g3:Nat}(hc:qi P f (kO g1 g2 g3)=true)(h1:Jd P g1)(h2:qqY P g2)(h3:qdY P g3)(l:List Prg)(hl:l.length<=100)(hx:∀x ∈ l,PrgIn x)(d:GData)(hd:DatOk d) :
  qc P f [.fz l.length (rPr l),.agg (qE d)] (if jh l=true then .tup [.i .u32 (evS l d),.i .i64 0] else .tup [.i .u32 0,.i .i64 290]):=by
 refine qc.mk hc (by simp[qy,clo,qO,zK]) ?_;have hmay:=h1 l hl hx
 by_cases hm:jh l=true
 ·rw[if_pos hm];rw[hm] at hmay;obtain⟨h48,hgood⟩:=QJ (fun x hxm=>(hx x hxm).ins) hm
  have hu:∀x ∈ kr l d,u32 x:=fun x hxm=>by
   obtain⟨y,hy,rfl⟩:=List.mem_map.1 hxm;exact qbW (hgood y hy).ins hd
  simp only[kO,vI,simprocAttr];simp (decide:=true) only [↓vS,vT,simprocAttr];refine hmay.sc ?_;simp (decide:=true) only [↓vS,vT,simprocAttr];refine SL.loop (α:=Nat) (fun j=>[(3,.ptr 0 0),(6,.own 1 (kr (l.take j) d).length),(15,.fz l.length (rPr l)),(16,.i .i64 l.length),(17,.i .i64 (j:Int))]) (fun j=>[.cells 0 true false (qE d),.cells 1 true true (rI .u32 (kr (l.take j) d))]) (fun j=>j<=l.length) (fun j=>l.length-j) 0 [0,99] ?_ ?_ ?_ rfl ?_ ?_
  ·simp[vw,qO,kr]
  ·simp[vw,qa,zK,kr,rI];exact NVs.refl zK
  ·simp
  ·exact Nat.zero_le _
  rintro j hj G ih;simp only[vI,simprocAttr]
  by_cases hlt:j<l.length
  ·obtain⟨x,hpx⟩:∃x,l[j]?=some x:=⟨_,List.getElem?_eq_getElem hlt⟩;have hxm:=List.mem_of_getElem? hpx;have ex:=qU (f:=cPr) (m:=3) z8 hpx;rw[show l.flatMap cPr=rPr l from rfl] at ex
   simp only[cPr] at ex;have bx:j*3+3<=(rPr l).length:=by rw[Xu];omega
   have hw1:IntKind.wrap .i64 ((j:Int)+1)=((j+1:Nat):Int):=by rw[qp (by omega) (by omega)];omega
   obtain⟨n,hrun⟩:=h2 x.ins (hgood x hxm) d hd;have ih2:=ih (j+1) hlt (by omega);have hal:(kr (l.take j) d).length<=100:=by rw[Z4,List.length_take];omega
   rw[qbw hpx] at ih2;generalize kr (l.take j) d=A at ih2 hal ⊢;have hr1:A.length+1<=qf:=by simp only[qf];omega
   have hr2:(A.length+1)*4<=qf:=by simp only[qf];omega
   have hap:rI .u32 A++[.i .u32 (QQ x.ins d).1]=rI .u32 (A++[(QQ x.ins d).1]):=by rw[← ZS];rfl
   have hll:(rI .u32 A).length=A.length:=zB;simp (decide:=true) only [↓vS,vT,simprocAttr,hlt,ex,bx,Qb,Jg];refine hrun.sc ?_;simp (decide:=true) only [↓vS,vT,simprocAttr,hr1,hr2,hap,hll,Nat.mul_one,hw1];refine ih2 _ _ (Wk.mk _ _ [0,4] ?_ ?_ ?_ rfl)
   ·simp[vw,qO]
   ·simp[vw,qa,zg];exact NVs.refl zK
   ·simp
  ·obtain rfl:j=l.length:=by omega
   simp (decide:=true) only [↓vS,vT,simprocAttr,hlt,List.take_length];refine qkq h3 (kr l d) hu (by rw[Z4];exact hl) (Wk.mk _ _ [1] ?_ ?_ ?_ rfl)
   ·simp[vw]
   ·simp[vw,qa,zg]
   ·simp
 ·have hf:jh l=false:=by simpa using hm
  rw[if_neg hm];rw[hf] at hmay;simp only[kO,vI,simprocAttr];simp (decide:=true) only [↓vS,vT,simprocAttr];refine hmay.sc ?_;simp (decide:=true) only [↓vS,vT,simprocAttr];simp[vZ]
def kf(a b c d:Nat):IFn:=⟨[.tmp 2,.tmp 3],.seq (.r [.m 2 .N,.m 3 (.k 0)]) (.seq (.seq (.r [.n 9 0,.l 10 a [.t 9],.q 11 (.un .not (.t 10))]) (.cond (.t 11) (.seq (.r [.m 2 .N,.m 3 (.k 290)]) (.ret)) (.skip))) (.seq (.r [.m 4 .N]) (.seq (.seq (.r [.n 12 0,.e 13 12,.m 14 (.k 0)]) (.blk 0 (.loop (.seq (.r [.s 15 14 13]) (.seq (.cond (.t 15) (.skip) (.exit 0)) (.seq (.blk 1 (.seq (.r [.i 16 3 12 14,.v 17 3 16,.q 6 (.alloc [.i .i64 0,.i .i64 0,.nils]),.u (.store 3 (.t 6) (.t 17))]) (.seq (.r [.f 19 2 6,.d 20 19,.l 21 b [.t 20],.n 18 21,.x 22 18 0,.x 23 18 1,.n 7 22,.n 8 23]) (.reg true [.n 24 4,.f 25 0 6,.d 26 25,.q 27 (.cvInt .u8 (.t 26)),.f 28 1 6,.d 29 28,.q 30 (.cvInt .u8 (.t 29)),.q 31 (.buildS 2 [.i .u8 0] [(0,1,(.t 27)),(1,1,(.t 30))]),.f 32 2 6,.d 33 32,.e 34 33,.q 35 (.cvInt .u16 (.t 34)),.l 36 c [.t 35],.n 37 7,.q 38 (.buildS 4 [.nils] [(0,1,(.t 24)),(1,1,(.t 31)),(2,1,(.t 36)),(3,1,(.t 37))]),⟨(some 39),.callW d [.t 38],none⟩,.n 4 39])))) (.r [.a 40 14 1,.n 14 40]))))))) (.seq (.r [.n 41 4,.n 2 41,.m 3 (.k 0)]) (.ret)))))⟩
set_option maxHeartbeats 1000000 in
theorem qps{g1 g2 g3 g4:Nat}(hc:qi P f (kf g1 g2 g3 g4)=true)(h1:Jd P g1)(h2:qqW P g2)(h3:∀x:Int,qc P g3 [.i .u16 x] (.fz 2 (rB (qM 2 x))))(h4:qaw P g4)(l:List Prg)(hl:l.length<=100)(hx:∀x ∈ l,PrgIn x) :
  qc P f [.fz l.length (rPr l)] (if jh l=true then .tup [.fz (xT l).length (rB (xT l)),.i .i64 0] else .tup [.fz 0 [],.i .i64 290]):=by
 refine qc.mk hc (by simp[qy,clo,qO]) ?_;have hmay:=h1 l hl hx
 by_cases hm:jh l=true
 ·rw[if_pos hm];rw[hm] at hmay;obtain⟨h48,hgood⟩:=QJ (fun x hxm=>(hx x hxm).ins) hm
  simp only[kf,vI,simprocAttr];simp (decide:=true) only [↓vS,vT,simprocAttr];refine hmay.sc ?_;simp (decide:=true) only [↓vS,vT,simprocAttr];refine SL.loop (α:=Nat) (fun j=>[(4,.fz (xT (l.take j)).length (rB (xT (l.take j)))),(12,.fz l.length (rPr l)),(13,.i .i64 l.length),(14,.i .i64 (j:Int))]) (fun _=>[]) (fun j=>j<=l.length) (fun j=>l.length-j) 0 [] ?_ ?_ ?_ rfl ?_ ?_
  ·simp[vw,qO,xT,rB,rI]
  ·trivial
  ·simp
  ·exact Nat.zero_le _
  rintro j hj G ih;simp only[vI,simprocAttr]
  by_cases hlt:j<l.length
  ·obtain⟨x,hpx⟩:∃x,l[j]?=some x:=⟨_,List.getElem?_eq_getElem hlt⟩;have hxm:=List.mem_of_getElem? hpx;have hgx:=hgood x hxm;have ex:=qU (f:=cPr) (m:=3) z8 hpx;rw[show l.flatMap cPr=rPr l from rfl] at ex
   simp only[cPr] at ex;have bx:j*3+3<=(rPr l).length:=by rw[Xu];omega
   have hw1:IntKind.wrap .i64 ((j:Int)+1)=((j+1:Nat):Int):=by rw[qp (by omega) (by omega)];omega
   have hxl:=hgx.len;have hw2:IntKind.wrap .u16 (x.ins.length:Int)=(x.ins.length:Int):=by show (x.ins.length:Int) % 65536=_;omega
   have hpr:=h2 x.ins (by have:=hgx.ne;omega) hxl
   have hall:(xT (l.take j)).length<=2000000:=by
    have h3:=qcC (l:=l.take j) fun y hy=>(hgood y (List.mem_of_mem_take hy)).len
    have:(l.take j).length<=48:=by rw[List.length_take];omega
    omega
   have ih2:=ih (j+1) hlt (by omega);rw[qb1 hpx] at ih2;have hfl:∀A:List Int,([A,[IntKind.wrap .u8 x.dir,IntKind.wrap .u8 x.arch],qM 2 x.ins.length,jY x.ins]:List (List Int)).flatten=A++qcB x:=fun A=>by simp[qcB]
   have hsl:=qbi x;generalize xT (l.take j)=A at ih2 hall ⊢;have hcat:=h4 [A,[IntKind.wrap .u8 x.dir,IntKind.wrap .u8 x.arch],qM 2 x.ins.length,jY x.ins] (by rw[hfl,List.length_append];omega) (by rw[hfl,List.length_append];omega) (by simp);rw[hfl] at hcat;simp (decide:=true) only [↓vS,vT,simprocAttr,hlt,ex,bx];refine hpr.sc ?_;simp (decide:=true) only [↓vS,vT,simprocAttr];refine zm ?_;simp (decide:=true) only [↓vS,vT,simprocAttr,hw2];refine (h3 x.ins.length).pc ?_;simp (decide:=true) only [↓vS,vT,simprocAttr];refine PC.give (vs':=[.fz 4 (rL [A,[IntKind.wrap .u8 x.dir,IntKind.wrap .u8 x.arch],qM 2 x.ins.length,jY x.ins])]) [(2,.cells 0 true false [.fz A.length (rB A),.sl 1 0 2 2 false,.fz 2 (rB (qM 2 x.ins.length)),.fz (jY x.ins).length (rB (jY x.ins))]),(1,.cells 0 true false [.i .u8 (IntKind.wrap .u8 x.dir),.i .u8 (IntKind.wrap .u8 x.arch)])] ?_ ?_ ?_
   ·intro q hq;simp at hq;rcases hq with rfl|rfl<;>simp[Tr.get_set]
   ·refine .fz _ _ _ _ (.cut 1 rfl (Nat.le_refl _) ?_) .nil;simp[vw,trP,rL,qG];refine Frz.cut 1 rfl (Nat.le_refl _) ?_;simp[vw,trP,rB,rI]
   simp only[wU,kj,zW];refine hcat.pc ?_;simp (decide:=true) only [↓vS,vT,simprocAttr,hw1];refine ih2 _ _ (Wk.mk _ _ [] ?_ ?_ ?_ rfl)
   ·simp[vw,qO,qF]
   ·trivial
   ·simp
  ·obtain rfl:j=l.length:=by omega
   simp (decide:=true) only [↓vS,vT,simprocAttr,hlt,List.take_length];simp[vZ,vP,Tr.get_set,qY (qF _)]
 ·have hf:jh l=false:=by simpa using hm
  rw[if_neg hm];rw[hf] at hmay;simp only[kf,vI,simprocAttr];simp (decide:=true) only [↓vS,vT,simprocAttr];refine hmay.sc ?_;simp (decide:=true) only [↓vS,vT,simprocAttr];simp[vZ]
def xe(a b:Nat):ICode:=.seq (.r [.n 33 5,.l 34 b [.t 33],.n 4 34]) (.ret)
def wl(a b:Nat):IFn:=⟨[.tmp 4],.seq (.r [.q 3 (.box (.t 1)),.m 4 (.c (.i .u32 0))]) (.seq (.r [.m 5 .N]) (.seq (.seq (.r [.m 6 (.k 0)]) (.blk 0 (.loop (.seq (.seq (.r [.n 11 6,.n 12 0,.e 13 12,.s 14 11 13]) (.cond (.t 14) (.skip) (.exit 0))) (.seq (.blk 1 (.seq (.reg true [.n 18 0,.n 19 6,.i 20 3 18 19,.f 21 2 20,.d 22 21,.v 23 9 3,.l 24 a [.t 22,.t 23],.n 17 24,.x 25 17 0,.x 26 17 1,.x 27 17 2,.x 28 17 3,.n 7 25,.n 8 26,.n 9 27,.n 10 28]) (.r [.n 29 5,.n 30 7,.q 31 (.buildS 1 [.i .u32 0] [(0,1,(.t 30))]),.q 32 (.app 1 4 true (.t 29) (.t 31)),.n 5 32]))) (.r [.n 15 6,.a 16 15 1,.n 6 16])))))) (.cut (xe a b))))⟩
theorem qfZ{g1 g2:Nat}(hg:qdY P g2)(A:List Int)(hA:∀x ∈ A,u32 x)(hn:A.length<=100){t':Tr AV}{h':Hp}(hw:Wk 0 t' h' (mkT [(5,.own 0 A.length)]) (mkH 0 [.cells 1 true true (rI .u32 A)])) :
  S P 0 (xe g1 g2) (j0 [.tmp 4] fun v' h'=>Frz h' v' (.i .u32 (v9 A))) t' h':=by
 refine S.weak hw (qA ?_);simp only[xe,vI,simprocAttr];simp (decide:=true) only [↓vS,vT,simprocAttr];refine (hg A hA (by omega)).give [(0,.cells 1 true true (rI .u32 A))] (by simp[Tr.get_set]) rfl ?_ ?_
 ·simp[vZ,vP,Tr.get_set,qY zg,trP];intro h0;rw[h0];rfl
 simp only[wU,kj,zW];simp (decide:=true) only [↓vS,vT,simprocAttr];simp[vZ]
theorem qsU{g1 g2:Nat}(hc:qi P f (wl g1 g2)=true)(h1:∀p:List Ins,p.length<=4096->(∀i ∈ p,InsOk i)->∀d,DatOk d->qc P g1 [.fz p.length (rP p),.agg (qE d)] (qlJ p d))(h2:qdY P g2)(l:List Prg)(hl:l.length<=48)(hx:∀x ∈ l,PrgGood x.ins)(d:GData)(hd:DatOk d) :
  qc P f [.fz l.length (rPr l),.agg (qE d)] (.i .u32 (evS l d)):=by
 refine qc.mk hc (by simp[qy,clo,qO,zK]) ?_
 have hu:∀x ∈ kr l d,u32 x:=fun x hxm=>by
  obtain⟨y,hy,rfl⟩:=List.mem_map.1 hxm;exact qbW (hx y hy).ins hd
 simp only[wl,vI,simprocAttr];simp (decide:=true) only [↓vS,vT,simprocAttr];refine SL.loop (α:=Nat) (fun j=>[(0,.fz l.length (rPr l)),(3,.ptr 0 0),(5,.own 1 (kr (l.take j) d).length),(6,.i .i64 (j:Int))]) (fun j=>[.cells 0 true false (qE d),.cells 1 true true (rI .u32 (kr (l.take j) d))]) (fun j=>j<=l.length) (fun j=>l.length-j) 0 [0,99] ?_ ?_ ?_ rfl ?_ ?_
 ·simp[vw,qO,kr]
 ·simp[vw,qa,zK,kr,rI];exact NVs.refl zK
 ·simp
 ·exact Nat.zero_le _
 rintro j hj G ih;simp only[vI,simprocAttr]
 by_cases hlt:j<l.length
 ·obtain⟨x,hpx⟩:∃x,l[j]?=some x:=⟨_,List.getElem?_eq_getElem hlt⟩;have hxm:=List.mem_of_getElem? hpx;have g2:=zb (f:=cPr) (m:=3) z8 hpx (i:=2) (by omega);rw[show l.flatMap cPr=rPr l from rfl] at g2
  simp only[cPr,Nat.add_zero,List.getElem?_cons_zero,List.getElem?_cons_succ] at g2;have hw1:IntKind.wrap .i64 ((j:Int)+1)=((j+1:Nat):Int):=by rw[qp (by omega) (by omega)];omega
  have hrun:=h1 x.ins (hx x hxm).len (hx x hxm).ins d hd;obtain⟨n,L,e,hR⟩:∃(n:Int) (L:AV) (e:AV),qlJ x.ins d = .tup [.i .u32 (QQ x.ins d).1,.i .i64 n,L,e]:=⟨_,_,_,rfl⟩;rw[hR] at hrun;have ih2:=ih (j+1) hlt (by omega);have hal:(kr (l.take j) d).length<=48:=by rw[Z4,List.length_take];omega
  rw[qbw hpx] at ih2;generalize kr (l.take j) d=A at ih2 hal ⊢;have hr1:A.length+1<=qf:=by simp only[qf];omega
  have hr2:(A.length+1)*4<=qf:=by simp only[qf];omega
  have hap:rI .u32 A++[.i .u32 (QQ x.ins d).1]=rI .u32 (A++[(QQ x.ins d).1]):=by rw[← ZS];rfl
  have hll:(rI .u32 A).length=A.length:=zB;simp (decide:=true) only [↓vS,vT,simprocAttr,hlt];refine zm ?_;simp (decide:=true) only [↓vS,vT,simprocAttr,hlt,g2,Qb,Jg];refine hrun.pc ?_;simp (decide:=true) only [↓vS,vT,simprocAttr,hr1,hr2,hap,hll,Nat.mul_one,hw1];refine ih2 _ _ (Wk.mk _ _ [0,3] ?_ ?_ ?_ rfl)
  ·simp[vw,qO]
  ·simp[vw,qa,zg];exact NVs.refl zK
  ·simp
 ·obtain rfl:j=l.length:=by omega
  simp (decide:=true) only [↓vS,vT,simprocAttr,hlt,List.take_length];refine qfZ h2 (kr l d) hu (by rw[Z4];omega) (Wk.mk _ _ [1] ?_ ?_ ?_ rfl)
  ·simp[vw]
  ·simp[vw,qa,zg]
  ·simp
end Go.Kc
end
section
/- Stacks that may be, of programs of any length. Condition: the functions' texts are these. -/
namespace Go.Kc
variable {P:Program} {f:Nat}
def qj1(P:Program)(g:Nat):Prop:=∀p:List Ins,(∀i ∈ p,InsOk i)->∃n:Int,qc P g [.fz p.length (rP p)] (.tup [.i .i64 n,.i .i64 (atU p (kY p)).2])
theorem qeC{p:List Ins}(u:List Nat)(h:4096<p.length):atU p u=(0,60):=by unfold atU;rw[if_pos (.inr h)]
theorem qmb{g1 g2 g3:Nat}(hc:qi P f (kx g1 g2 g3)=true)(h:cAt P f):qj1 P f:=by
 intro p hi
 by_cases hb:p.length<=5000
 ·exact⟨_,h p hi hb⟩
 ·have hb4:4096<p.length:=by omega
  rw[qeC _ hb4];refine⟨0,qc.mk hc (by simp[qy,clo,qd]) ?_⟩;have hz':¬(p.length:Int)<1:=by omega
  have hb':(4096:Int)<p.length:=by omega
  simp only[kx,vI,simprocAttr];simp (decide:=true) only [↓vS,vT,simprocAttr,hz',hb'];simp[vZ]
theorem qqL{g1 g2 g3:Nat}(hc:qi P f (xo g1 g2 g3)=true)(h:ql7 P f):qj1 P f:=by
 intro p hi
 by_cases hb:p.length<=5000
 ·have:=h p hi hb;rw[qpz p hi] at this;exact⟨_,this⟩
 ·have hb4:4096<p.length:=by omega
  rw[qeC _ hb4];refine⟨0,qc.mk hc (by simp[qy,clo,qd]) ?_⟩;have hz':¬(p.length:Int)=0:=by omega
  have hb':(4096:Int)<p.length:=by omega
  simp only[xo,vI,simprocAttr];simp (decide:=true) only [↓vS,vT,simprocAttr,hz',hb'];simp[vZ]
theorem qpL{g:Nat}(hc:qi P f (Qs g)=true)(hg:qj1 P g)(p:List Ins)(hi:∀i ∈ p,InsOk i):qc P f [.fz p.length (rP p)] (.i .i64 (atU p (kY p)).2):=by
 refine qc.mk hc (by simp[qy,clo,qd]) ?_;simp only[Qs,vI,simprocAttr];simp (decide:=true) only [↓vS,vT,simprocAttr];obtain⟨n,hn⟩:=hg p hi;refine hn.sc ?_;simp (decide:=true) only [↓vS,vT,simprocAttr];simp[vZ]
theorem qog{g:Nat}(hc:qi P f (yV g)=true)(hg:∀p:List Ins,(∀i ∈ p,InsOk i)->qc P g [.fz p.length (rP p)] (.i .i64 (atU p (kY p)).2))(x:Prg)(hx:PrgIn x):qc P f [.agg (cPr x)] (.b (wn x)):=by
 refine qc.mk hc (by simp[qy,clo,cPr,qd]) ?_;have h:=hg x.ins hx.ins;unfold wn;generalize (atU x.ins (kY x.ins)).2=e at h;simp only[yV,cPr,vI,simprocAttr]
 by_cases h0:x.dir=0
 ·rw[if_pos h0]
  by_cases h6:x.arch=6
  ·simp (decide:=true) only [↓vS,vT,simprocAttr,h0,h6];refine h.sc ?_;simp (decide:=true) only [↓vS,vT,simprocAttr];simp[vZ,h6]
  ·simp (decide:=true) only [↓vS,vT,simprocAttr,h0,h6];simp[vZ,h6]
 rw[if_neg h0]
 by_cases h1:x.dir<0
 ·have h1':¬0<=x.dir:=by omega
  simp (decide:=true) only [↓vS,vT,simprocAttr,h0,h1];simp[vZ,h1']
 have h1':0<=x.dir:=by omega
 by_cases h2:8<=x.dir
 ·have h2':¬x.dir<8:=by omega
  simp (decide:=true) only [↓vS,vT,simprocAttr,h0,h1,h2];simp[vZ,h2']
 have h2':x.dir<8:=by omega
 by_cases h3:x.arch<0
 ·have h3':¬0<=x.arch:=by omega
  simp (decide:=true) only [↓vS,vT,simprocAttr,h0,h1,h2,h3];simp[vZ,h3']
 have h3':0<=x.arch:=by omega
 by_cases h4:6<=x.arch
 ·have h4':¬x.arch<6:=by omega
  simp (decide:=true) only [↓vS,vT,simprocAttr,h0,h1,h2,h3,h4];simp[vZ,h4']
 have h4':x.arch<6:=by omega
 simp (decide:=true) only [↓vS,vT,simprocAttr,h0,h1,h2,h3,h4];refine h.sc ?_;simp (decide:=true) only [↓vS,vT,simprocAttr];simp[vZ,h1',h2',h3',h4']
theorem qrD{g:Nat}(hc:qi P f (Qv g)=true)(hg:∀x,PrgIn x->qc P g [.agg (cPr x)] (.b (wn x)))(x:Prg)(hx:PrgIn x):qc P f [.agg (cPr x)] (.b (!wn x)):=by
 refine qc.mk hc (by simp[qy,clo,cPr,qd]) ?_;have h:=hg x hx;simp only[cPr] at h;simp only[Qv,cPr,vI,simprocAttr];simp (decide:=true) only [↓vS,vT,simprocAttr];refine h.sc ?_;simp (decide:=true) only [↓vS,vT,simprocAttr];simp[vZ]
theorem qlV{g1 g2:Nat}(hc:qi P f (Xk g1 g2)=true)(h1:∀(l:List Prg) (k:Nat) (p:Prg->Bool),(∀c ∈ l,qc P k [.agg (cPr c)] (.b (p c)))->l.length<=qf->qc P g1 [.fz l.length (rPr l),.fn k [] []] (.b (l.any p)))
  (h2:∀x,PrgIn x->qc P g2 [.agg (cPr x)] (.b (!wn x))):Jd P f:=by
 intro l hl hx;refine qc.mk hc (by simp[qy,clo,qO]) ?_;have h:=h1 l g2 (fun x=>!wn x) (fun c hc=>h2 c (hx c hc)) (by simp only[qf];omega)
 have ha:(!l.any fun x=>!wn x)=l.all wn:=by rw[List.not_any_eq_all_not];simp
 unfold jh;simp only[Xk,vI,simprocAttr]
 by_cases h48:l.length<=48
 ·have h48':(l.length:Int)<=48:=by omega
  simp (decide:=true) only [↓vS,vT,simprocAttr,h48'];refine h.sc ?_;simp (decide:=true) only [↓vS,vT,simprocAttr];simp only[ha];simp[vZ,h48]
 ·have h48':¬(l.length:Int)<=48:=by omega
  simp (decide:=true) only [↓vS,vT,simprocAttr,h48'];simp[vZ,h48]
set_option maxHeartbeats 1000000 in
theorem qp6{g:Nat}(hc:qi P f (wG g)=true)(hg:qj1 P g):Jd P f:=by
 intro l hl hx;refine qc.mk hc (by simp[qy,clo,qO]) ?_;unfold jh;simp only[wG,vI,simprocAttr]
 by_cases h48:48<l.length
 ·have h48':(48:Int)<l.length:=by omega
  have h48n:¬l.length<=48:=by omega
  simp (decide:=true) only [↓vS,vT,simprocAttr,h48'];simp[vZ,h48n]
 have h48':¬(48:Int)<l.length:=by omega
 have h48n:l.length<=48:=by omega
 have hd48:decide (l.length<=48)=true:=by simpa using h48n
 rw[hd48,Bool.true_and];simp (decide:=true) only [↓vS,vT,simprocAttr,h48'];refine SL.loop (α:=Nat) (fun j=>[(0,.fz l.length (rPr l)),(3,.i .i64 (j:Int))]) (fun _=>[]) (fun j=>j<=l.length∧(l.drop j).all wn=l.all wn) (fun j=>l.length-j) 0 [] ?_ ?_ ?_ rfl ?_ ?_
 ·simp[vw,qO]
 ·trivial
 ·simp
 ·exact⟨Nat.zero_le _,rfl⟩
 rintro j ⟨hj,hI⟩ G ih;simp only[vI,simprocAttr]
 by_cases hlt:j<l.length
 ·obtain⟨x,hlx⟩:∃x,l[j]?=some x:=⟨_,List.getElem?_eq_getElem hlt⟩;have hxx:=hx x (List.mem_of_getElem? hlx)
  have hdr:l.drop j=x::l.drop (j+1):=by
   obtain⟨hh,he⟩:=List.getElem?_eq_some_iff.1 hlx;rw[List.drop_eq_getElem_cons hh,he]
  rw[hdr,List.all_cons] at hI;have hel:=qU (f:=cPr) (m:=3) z8 hlx;rw[show l.flatMap cPr=rPr l from rfl] at hel
  simp only[cPr] at hel;have h3:j*3+3<=(rPr l).length:=by rw[Xu];omega
  have hw1:IntKind.wrap .i64 ((j:Int)+1)=((j+1:Nat):Int):=by rw[qp (by omega) (by omega)];omega
  obtain⟨e1,hat⟩:=hg x.ins hxx.ins;have hmx:wn x=(decide ((atU x.ins (kY x.ins)).2=0)&&(if x.dir=0 then decide (x.arch=6) else decide (0<=x.dir)&&decide (x.dir<8)&&decide (0<=x.arch)&&decide (x.arch<6))):=rfl
  generalize (atU x.ins (kY x.ins)).2=e at hat hmx;have bad:wn x=false->l.all wn=false:=fun h=>by rw[← hI,h];rfl
  have good:wn x=true->(l.drop (j+1)).all wn=l.all wn:=fun h=>by rw[← hI,h];rfl
  simp (decide:=true) only [↓vS,vT,simprocAttr,hlt,hel,h3];refine hat.sc ?_
  by_cases he:e=0
  ·by_cases hd1:x.dir<0
   ·have hb:=bad (by
     rw[hmx];have:¬x.dir=0:=by omega
     have h2:¬0<=x.dir:=by omega
     simp[this,h2])
    simp (decide:=true) only [↓vS,vT,simprocAttr,he,hd1];simp[vZ,hb]
   by_cases hd2:7<x.dir
   ·have hb:=bad (by
     rw[hmx];have:¬x.dir=0:=by omega
     have h2:¬x.dir<8:=by omega
     simp[this,h2])
    simp (decide:=true) only [↓vS,vT,simprocAttr,he,hd1,hd2];simp[vZ,hb]
   by_cases ha1:x.arch<0
   ·have hb:=bad (by
     rw[hmx];have h1:¬x.arch=6:=by omega
     have h2:¬0<=x.arch:=by omega
     simp[h1,h2])
    simp (decide:=true) only [↓vS,vT,simprocAttr,he,hd1,hd2,ha1];simp[vZ,hb]
   by_cases ha2:6<x.arch
   ·have hb:=bad (by
     rw[hmx];have h1:¬x.arch=6:=by omega
     have h2:¬x.arch<6:=by omega
     simp[h1,h2])
    simp (decide:=true) only [↓vS,vT,simprocAttr,he,hd1,hd2,ha1,ha2];simp[vZ,hb]
   by_cases hd0:x.dir=0
   ·by_cases ha6:x.arch=6
    ·have hb:=good (by rw[hmx];simp[he,hd0,ha6]);simp (decide:=true) only [↓vS,vT,simprocAttr,he,hd0,ha6,hw1];refine ih (j+1) ⟨hlt,hb⟩ (by omega) _ _ (Wk.mk _ _ [] ?_ ?_ ?_ rfl)
     ·simp[vw,qO]
     ·trivial
     ·simp
    ·have hb:=bad (by rw[hmx];simp[hd0,ha6]);simp (decide:=true) only [↓vS,vT,simprocAttr,he,hd0,ha1,ha2,ha6];simp[vZ,hb]
   ·by_cases ha6:x.arch=6
    ·have hb:=bad (by rw[hmx];simp[hd0,ha6]);simp (decide:=true) only [↓vS,vT,simprocAttr,he,hd1,hd2,hd0,ha6];simp[vZ,hb]
    ·have hb:=good (by
      rw[hmx];have q1:0<=x.dir:=by omega
      have q2:x.dir<8:=by omega
      have q3:0<=x.arch:=by omega
      have q4:x.arch<6:=by omega
      simp[he,hd0,q1,q2,q3,q4])
     simp (decide:=true) only [↓vS,vT,simprocAttr,he,hd1,hd2,ha1,ha2,hd0,ha6,hw1];refine ih (j+1) ⟨hlt,hb⟩ (by omega) _ _ (Wk.mk _ _ [] ?_ ?_ ?_ rfl)
     ·simp[vw,qO]
     ·trivial
     ·simp
  ·have hb:=bad (by rw[hmx];simp[he]);simp (decide:=true) only [↓vS,vT,simprocAttr,he];simp[vZ,hb]
 ·obtain rfl:j=l.length:=by omega
  have hd:l.drop l.length=[]:=List.drop_eq_nil_of_le (by omega);rw[hd] at hI;rw[← hI];simp (decide:=true) only [↓vS,vT,simprocAttr,hlt];simp[vZ]
def vk:Int->List Prg->Bool
 | _,[]=>false
 | n,x::l=>if 3000<IntKind.wrap .i64 (IntKind.wrap .i64 (n+1)+(x.ins.length:Int)) then true else vk (IntKind.wrap .i64 (IntKind.wrap .i64 (n+1)+(x.ins.length:Int))) l
theorem Jk{n:Int}{x:Prg}{l:List Prg}:vk n (x::l)=if 3000<IntKind.wrap .i64 (IntKind.wrap .i64 (n+1)+(x.ins.length:Int)) then true else vk (IntKind.wrap .i64 (IntKind.wrap .i64 (n+1)+(x.ins.length:Int))) l:=rfl
theorem qdg:∀{l:List Prg} {n:Int},0<=n->n<=3000->(∀x ∈ l,x.ins.length<=4096)->vk n l=false->((xT l).length:Int)+8*n<=24000
 | [],n,h0,h1,_,_=>by show (0:Int)+8*n<=24000;omega
 | x::l,n,h0,h1,hx,h=>by
  have hxl:=hx x (by simp);rw[Jk] at h;have w1:IntKind.wrap .i64 (n+1)=n+1:=qp (by omega) (by omega);have w2:IntKind.wrap .i64 (n+1+(x.ins.length:Int))=n+1+(x.ins.length:Int):=qp (by omega) (by omega);rw[w1,w2] at h;split at h
  ·cases h
  ·have:=qdg (l:=l) (by omega) (by omega) (fun y hy=>hx y (by simp[hy])) h
   have h3:xT (x::l)=qcB x++xT l:=rfl;rw[h3,List.length_append,qbi];omega
def xM:IFn:=⟨[.tmp 2],.seq (.r [.m 2 .F]) (.seq (.r [.m 3 (.k 0)]) (.seq (.seq (.r [.m 4 (.k 0)]) (.blk 0 (.loop (.seq (.seq (.r [.n 5 4,.n 6 0,.e 7 6,.s 8 5 7]) (.cond (.t 8) (.skip) (.exit 0))) (.seq (.blk 1 (.seq (.r [.n 11 3,.a 12 11 1,.n 13 0,.n 14 4,.i 15 3 13 14,.f 16 2 15,.d 17 16,.e 18 17,.b 19 .add 12 18,.n 3 19]) (.seq (.r [.n 20 3,.w 21 .gtr 20 3000]) (.cond (.t 21) (.seq (.r [.m 2 .T]) (.ret)) (.skip))))) (.r [.n 9 4,.a 10 9 1,.n 4 10])))))) (.seq (.r [.m 2 .F]) (.ret))))⟩
theorem qnV(hc:qi P f xM=true)(l:List Prg)(hl:l.length<=9223372036854775807):qc P f [.fz l.length (rPr l)] (.b (vk 0 l)):=by
 refine qc.mk hc (by simp[qy,clo,qO]) ?_;simp only[xM,vI,simprocAttr];simp (decide:=true) only [↓vS,vT,simprocAttr];refine SL.loop (α:=Nat×Int) (fun s=>[(0,.fz l.length (rPr l)),(3,.i .i64 s.2),(4,.i .i64 (s.1:Int))]) (fun _=>[]) (fun s=>s.1<=l.length∧vk s.2 (l.drop s.1)=vk 0 l) (fun s=>l.length-s.1) (0,0) [] ?_ ?_ ?_ rfl ?_ ?_
 ·simp[vw,qO]
 ·trivial
 ·simp
 ·exact⟨Nat.zero_le _,rfl⟩
 rintro⟨j,n⟩ ⟨hj,hI⟩ G ih;simp only at hj hI;simp only[vI,simprocAttr]
 by_cases hlt:j<l.length
 ·obtain⟨x,hpx⟩:∃x,l[j]?=some x:=⟨_,List.getElem?_eq_getElem hlt⟩;have g2:=zb (f:=cPr) (m:=3) z8 hpx (i:=2) (by omega);rw[show l.flatMap cPr=rPr l from rfl] at g2
  simp only[cPr,Nat.add_zero,List.getElem?_cons_zero,List.getElem?_cons_succ] at g2;have hw1:IntKind.wrap .i64 ((j:Int)+1)=((j+1:Nat):Int):=by rw[qp (by omega) (by omega)];omega
  have hdr:l.drop j=x::l.drop (j+1):=by
   obtain⟨hh,he⟩:=List.getElem?_eq_some_iff.1 hpx;rw[List.drop_eq_getElem_cons hh,he]
  rw[hdr,Jk] at hI
  by_cases hg:3000<IntKind.wrap .i64 (IntKind.wrap .i64 (n+1)+(x.ins.length:Int))
  ·rw[if_pos hg] at hI;rw[← hI];simp (decide:=true) only [↓vS,vT,simprocAttr,hlt,g2,hg];simp[vZ]
  ·rw[if_neg hg] at hI;simp (decide:=true) only [↓vS,vT,simprocAttr,hlt,g2,hg,hw1];refine ih (j+1,IntKind.wrap .i64 (IntKind.wrap .i64 (n+1)+(x.ins.length:Int))) ⟨hlt,hI⟩ (by simp only;omega) _ _ (Wk.mk _ _ [] ?_ ?_ ?_ rfl)
   ·simp[vw,qO]
   ·trivial
   ·simp
 ·obtain rfl:j=l.length:=by omega
  have hd:l.drop l.length=[]:=List.drop_eq_nil_of_le (by omega);rw[hd] at hI;rw[← hI];simp (decide:=true) only [↓vS,vT,simprocAttr,hlt];simp[vZ,vk]
end Go.Kc
end
section
/- The law StackAsks. Condition: the functions' texts are these. -/
namespace Go.Kc
variable {P:Program} {f:Nat}
def zz(a b c d e g h i j k:Nat):ICode:=.seq (.r [.n 28 0,.v 29 9 5,.l 30 b [.t 28,.t 29],.n 27 30,.x 31 27 0,.x 32 27 1,.n 7 31,.n 8 32]) (.seq (.r [.n 34 0,.l 35 c [.t 34],.n 33 35,.x 36 33 0,.x 37 33 1,.n 9 36,.n 10 37]) (.seq (.seq (.r [.n 38 0,.l 39 d [.t 38],.n 40 0,.l 41 e [.t 40],.q 42 (.eqB true (.t 39) (.t 41)),.n 43 42,.z 44 0 43,.z 45 1 43,⟨(some 46),.callF g [.t 44,.t 45],(some (43,false))⟩,.z 47 0 43,.z 48 1 43,⟨(some 49),.callF h [.t 47,.t 48],(some (43,false))⟩,.g 50 (.eqB true (.t 46) (.t 49)) 43 false,.o 51 43 50,.n 52 51,.z 53 0 52,.z 54 0 52,⟨(some 55),.callF g [.t 53,.t 54],(some (52,false))⟩,.g 56 (.un .not (.t 55)) 52 false,.o 57 52 56]) (.cond (.t 57) (.seq (.r [.m 6 .F]) (.ret)) (.skip))) (.seq (.seq (.r [.n 58 0,.l 59 e [.t 58],.q 60 (.un .not (.t 59))]) (.cond (.t 60) (.seq (.r [.n 61 8,.w 62 .eql 61 290,.n 63 62,.y 64 10 63,.y 65 8 63,.g 66 (.bin .eql (.t 64) (.t 65)) 63 true,.p 67 63 66,.n 68 67,.y 69 7 68,.g 70 (.bin .eql (.t 69) (.c (.i .u32 0))) 68 true,.p 71 68 70,.n 72 71,.y 73 9 72,.g 74 (.len false (.t 73)) 72 true,.g 75 (.bin .eql (.t 74) (.k 0)) 72 true,.p 76 72 75,.n 6 76]) (.ret)) (.skip))) (.seq (.r [.n 77 8,.w 78 .eql 77 0,.n 79 78,.y 80 10 79,.g 81 (.bin .eql (.t 80) (.k 0)) 79 true,.p 82 79 81,.n 83 82,.y 84 7 83,.y 85 0 83,.g 86 (.loadN 9 (.t 5)) 83 true,⟨(some 87),.callF i [.t 85,.t 86],(some (83,true))⟩,.g 88 (.bin .eql (.t 84) (.t 87)) 83 true,.p 89 83 88,.n 90 89,.y 91 9 90,.y 92 0 90,⟨(some 93),.callF j [.t 92],(some (90,true))⟩,⟨(some 94),.callF k [.t 91,.t 93],(some (90,true))⟩,.p 95 90 94,.n 6 95]) (.ret)))))
def xY(a b c d e g h i j k:Nat):IFn:=⟨[.tmp 6],.seq (.r [.q 5 (.box (.t 2)),.m 6 .F]) (.seq (.seq (.r [.n 11 0,.l 12 a [.t 11],.n 13 12,.z 14 1 13,⟨(some 15),.callF a [.t 14],(some (13,false))⟩,.o 16 13 15,.n 17 16,.z 18 0 17,.g 19 (.len false (.t 18)) 17 false,.g 20 (.bin .gtr (.t 19) (.k 100)) 17 false,.o 21 17 20,.n 22 21,.z 23 1 22,.g 24 (.len false (.t 23)) 22 false,.g 25 (.bin .gtr (.t 24) (.k 100)) 22 false,.o 26 22 25]) (.cond (.t 26) (.seq (.r [.m 6 .T]) (.ret)) (.skip))) (.cut (zz a b c d e g h i j k)))⟩
set_option maxHeartbeats 4000000 in
theorem qjD{g1 g2 g3 g4 g5 g6 g7 g8 g9 g10:Nat}
  (h2:∀l:List Prg,l.length<=100->(∀x ∈ l,PrgIn x)->∀d,DatOk d->qc P g2 [.fz l.length (rPr l),.agg (qE d)] (if jh l=true then .tup [.i .u32 (evS l d),.i .i64 0] else .tup [.i .u32 0,.i .i64 290]))
  (h3:∀l:List Prg,l.length<=100->(∀x ∈ l,PrgIn x)->qc P g3 [.fz l.length (rPr l)] (if jh l=true then .tup [.fz (xT l).length (rB (xT l)),.i .i64 0] else .tup [.fz 0 [],.i .i64 290]))
  (h4:Jd P g4) (h5:Jd P g5) (h6:qcU P g6) (h7:qcU P g7)
  (h8:∀l:List Prg,l.length<=48->(∀x ∈ l,PrgGood x.ins)->∀d,DatOk d->qc P g8 [.fz l.length (rPr l),.agg (qE d)] (.i .u32 (evS l d)))
  (h9:∀l:List Prg,l.length<=48->(∀x ∈ l,PrgOk x)->qc P g9 [.fz l.length (rPr l)] (.fz (xT l).length (rB (xT l))))
  (h10:∀l m:List Int,l.length<=1000000->qc P g10 [.fz l.length (rB l),.fz m.length (rB m)] (.b (decide (l=m))))
  (l m:List Prg) (hl:∀x ∈ l,PrgIn x) (hln:l.length<=100) (hgr:vk 0 l=false) (d:GData) (hd:DatOk d)
  {t':Tr AV} {h':Hp} (hw:Wk 0 t' h' (mkT [(0,.fz l.length (rPr l)),(1,.fz m.length (rPr m)),(5,.ptr 0 0)]) (mkH 0 [.cells 0 true false (qE d)])) :
  S P 0 (zz g1 g2 g3 g4 g5 g6 g7 g8 g9 g10) (j0 [.tmp 6] fun v' h'=>Frz h' v' (.b true)) t' h':=by
 refine S.weak hw (qA ?_);have p2:=h2 l hln hl d hd;have p3:=h3 l hln hl;have p4:=h4 l hln hl;have p5:=h5 l hln hl;have p6:=h6 l m (by omega) hl;have p7:=h7 l m (by omega) hl;have p8:=h6 l l (by omega) hl;have e1:∀b:Bool,(b==b)=true:=fun b=>by cases b<;>rfl
 have e2:∀b:Bool,(b != b)=false:=fun b=>by cases b<;>rfl
 have hll:decide (l=l)=true:=by simp
 rw[hll] at p8;simp only[zz,vI,simprocAttr]
 by_cases hm:jh l=true
 ·obtain⟨h48,hgood⟩:=QJ (fun x hxm=>(hl x hxm).ins) hm
  rw[hm] at p4 p5;rw[if_pos hm] at p2 p3;have hle:=qdg (Int.le_refl 0) (by decide) (fun x hx=>(hgood x hx).len) hgr
  have q8:=h8 l h48 hgood d hd;have q9:=h9 l h48 (fun x hx=>⟨(hgood x hx).len,(hgood x hx).ins⟩)
  have q10:=h10 (xT l) (xT l) (by omega);have hss:decide (xT l=xT l)=true:=by simp
  rw[hss] at q10;simp (decide:=true) only [↓vS,vT,simprocAttr,Qb,Jg];refine p2.sc ?_;simp (decide:=true) only [↓vS,vT,simprocAttr];refine p3.sc ?_;simp (decide:=true) only [↓vS,vT,simprocAttr];refine p4.sc ?_;simp (decide:=true) only [↓vS,vT,simprocAttr];refine p5.sc ?_;simp (decide:=true) only [↓vS,vT,simprocAttr];refine p6.sc ?_;simp (decide:=true) only [↓vS,vT,simprocAttr];refine p7.sc ?_;simp (decide:=true) only [↓vS,vT,simprocAttr,e1,e2];refine p8.sc ?_;simp (decide:=true) only [↓vS,vT,simprocAttr];refine p5.sc ?_;simp (decide:=true) only [↓vS,vT,simprocAttr,Qb,Jg];refine q8.sc ?_;simp (decide:=true) only [↓vS,vT,simprocAttr];refine q9.sc ?_;simp (decide:=true) only [↓vS,vT,simprocAttr];refine q10.sc ?_;simp (decide:=true) only [↓vS,vT,simprocAttr];simp[vZ]
 ·have hf:jh l=false:=by simpa using hm
  rw[hf] at p4 p5;rw[if_neg hm] at p2 p3;simp (decide:=true) only [↓vS,vT,simprocAttr,Qb,Jg];refine p2.sc ?_;simp (decide:=true) only [↓vS,vT,simprocAttr];refine p3.sc ?_;simp (decide:=true) only [↓vS,vT,simprocAttr];refine p4.sc ?_;simp (decide:=true) only [↓vS,vT,simprocAttr];refine p5.sc ?_;simp (decide:=true) only [↓vS,vT,simprocAttr];refine p6.sc ?_;simp (decide:=true) only [↓vS,vT,simprocAttr];refine p7.sc ?_;simp (decide:=true) only [↓vS,vT,simprocAttr,e1,e2];refine p8.sc ?_;simp (decide:=true) only [↓vS,vT,simprocAttr];refine p5.sc ?_;simp (decide:=true) only [↓vS,vT,simprocAttr];simp[vZ]
theorem qjw{g1 g2 g3 g4 g5 g6 g7 g8 g9 g10:Nat}(hc:qi P f (xY g1 g2 g3 g4 g5 g6 g7 g8 g9 g10)=true)
  (h1:∀l:List Prg,l.length<=9223372036854775807->qc P g1 [.fz l.length (rPr l)] (.b (vk 0 l)))
  (h2:∀l:List Prg,l.length<=100->(∀x ∈ l,PrgIn x)->∀d,DatOk d->qc P g2 [.fz l.length (rPr l),.agg (qE d)] (if jh l=true then .tup [.i .u32 (evS l d),.i .i64 0] else .tup [.i .u32 0,.i .i64 290]))
  (h3:∀l:List Prg,l.length<=100->(∀x ∈ l,PrgIn x)->qc P g3 [.fz l.length (rPr l)] (if jh l=true then .tup [.fz (xT l).length (rB (xT l)),.i .i64 0] else .tup [.fz 0 [],.i .i64 290]))
  (h4:Jd P g4) (h5:Jd P g5) (h6:qcU P g6) (h7:qcU P g7)
  (h8:∀l:List Prg,l.length<=48->(∀x ∈ l,PrgGood x.ins)->∀d,DatOk d->qc P g8 [.fz l.length (rPr l),.agg (qE d)] (.i .u32 (evS l d)))
  (h9:∀l:List Prg,l.length<=48->(∀x ∈ l,PrgOk x)->qc P g9 [.fz l.length (rPr l)] (.fz (xT l).length (rB (xT l))))
  (h10:∀l m:List Int,l.length<=1000000->qc P g10 [.fz l.length (rB l),.fz m.length (rB m)] (.b (decide (l=m))))
  (l m:List Prg) (hln:l.length<=9223372036854775807) (hmn:m.length<=9223372036854775807) (hl:∀x ∈ l,PrgIn x) (d:GData) (hd:DatOk d):qc P f [.fz l.length (rPr l),.fz m.length (rPr m),.agg (qE d)] (.b true):=by
 refine qc.mk hc (by simp[qy,clo,qO,zK]) ?_;have p1:=h1 l hln;have p2:=h1 m hmn;simp only[xY,vI,simprocAttr];cases hg:vk 0 l with
 | true =>
  rw[hg] at p1;simp (decide:=true) only [↓vS,vT,simprocAttr];refine p1.sc ?_;simp (decide:=true) only [↓vS,vT,simprocAttr];simp[vZ]
 | false =>
  rw[hg] at p1;cases hgm:vk 0 m with
  | true =>
   rw[hgm] at p2;simp (decide:=true) only [↓vS,vT,simprocAttr];refine p1.sc ?_;simp (decide:=true) only [↓vS,vT,simprocAttr];refine p2.sc ?_;simp (decide:=true) only [↓vS,vT,simprocAttr];simp[vZ]
  | false =>
   rw[hgm] at p2
   by_cases hl1:l.length<=100
   ·have hl1':¬(100:Int)<l.length:=by omega
    by_cases hm1:m.length<=100
    ·have hm1':¬(100:Int)<m.length:=by omega
     simp (decide:=true) only [↓vS,vT,simprocAttr];refine p1.sc ?_;simp (decide:=true) only [↓vS,vT,simprocAttr];refine p2.sc ?_;simp (decide:=true) only [↓vS,vT,simprocAttr,hl1',hm1'];refine qjD h2 h3 h4 h5 h6 h7 h8 h9 h10 l m hl hl1 hg d hd (Wk.mk _ _ [0] ?_ ?_ ?_ rfl)
     ·simp[vw,qO]
     ·simp[vw,qa,zK];exact NVs.refl zK
     ·simp
    ·have hm1':(100:Int)<m.length:=by omega
     simp (decide:=true) only [↓vS,vT,simprocAttr];refine p1.sc ?_;simp (decide:=true) only [↓vS,vT,simprocAttr];refine p2.sc ?_;simp (decide:=true) only [↓vS,vT,simprocAttr,hl1',hm1'];simp[vZ]
   ·have hl1':(100:Int)<l.length:=by omega
    simp (decide:=true) only [↓vS,vT,simprocAttr];refine p1.sc ?_;simp (decide:=true) only [↓vS,vT,simprocAttr];refine p2.sc ?_;simp (decide:=true) only [↓vS,vT,simprocAttr,hl1'];simp[vZ]
end Go.Kc
end
section
/- What answers come to, by the program: a range over a function. Condition: the functions' texts are these. -/
namespace Go.Kc
variable {P:Program} {f:Nat}
def xm(a:Nat):IFn:=⟨[.tmp 2],.seq (.r [.q 1 (.box (.t 0)),.m 2 (.c (.nilf))]) (.seq (.r [.q 3 (.mkF a [] [.t 1]),.n 2 3]) (.ret))⟩
theorem qqM{g:Nat}(hc:qi P f (xm g)=true)(l:List Int):qc P f [.fz l.length (rI .u32 l)] (.fn g [] [.pf [.fz l.length (rI .u32 l)] 0]):=by
 refine qc.mk hc (by simp[qy,clo,zg]) ?_;simp only[xm,vI,simprocAttr];simp (decide:=true) only [↓vS,vT,simprocAttr];simp[vZ,vP,Tr.get_set,zg]
def zY:IFn:=⟨[],.seq (.r [.d 4 1,.e 5 4,.w 6 .sub 5 1,.n 3 6]) (.blk 0 (.loop (.seq (.seq (.r [.n 7 3,.w 8 .geq 7 0]) (.cond (.t 8) (.skip) (.exit 0))) (.seq (.blk 1 (.seq (.r [.n 11 0,.n 12 3,.d 13 1,.n 14 3,.i 15 1 13 14,.d 16 15,⟨(some 17),.callV (.t 11) [.t 12,.t 16],none⟩,.q 18 (.un .not (.t 17))]) (.cond (.t 18) (.ret) (.skip)))) (.r [.n 9 3,.w 10 .sub 9 1,.n 3 10])))))⟩
def jc(a b:Nat):ICode:=.seq (.r [.d 14 3,.n 2 14]) (.ret)
def kv(a b:Nat):IFn:=⟨[.tmp 2],.seq (.r [.m 2 (.c (.i .u32 0))]) (.seq (.r [.q 3 (.alloc [.i .u32 0]),.u (.store 1 (.t 3) (.c (.i .u32 2147418112)))]) (.seq (.seq (.r [.n 6 0,.l 7 a [.t 6]]) (.blk 0 (.rangeF (.t 7) [8,9] (.r [.n 5 9]) (.blk 1 (.r [.d 10 3,.n 11 5,.q 12 (.buildS 2 [.i .u32 0] [(0,1,(.t 10)),(1,1,(.t 11))]),.l 13 b [.t 12],.u (.store 1 (.t 3) (.t 13))]))))) (.cut (jc a b))))⟩
def cbT(g:Nat)(l:List Int):List (Nat×AV):=[(3,.ptr 0 0),(7,.fn g [] [.pf [.fz l.length (rI .u32 l)] 0])]
theorem qd4{g1 g2:Nat}(x:Int){t':Tr AV}{h':Hp}(hw:Wk 0 t' h' (mkT [(3,.ptr 0 0)]) (mkH 0 [.cells 0 true false [.i .u32 x]])) :
  S P 0 (jc g1 g2) (j0 [.tmp 2] fun v' h'=>Frz h' v' (.i .u32 x)) t' h':=by
 refine S.weak hw (qA ?_);simp only[jc,vI,simprocAttr];simp (decide:=true) only [↓vS,vT,simprocAttr];simp[vZ]
set_option maxHeartbeats 1000000 in
theorem qmW{g1 g2 g3:Nat}(hc:qi P f (kv g1 g2)=true)(h1:∀l:List Int,qc P g1 [.fz l.length (rI .u32 l)] (.fn g3 [] [.pf [.fz l.length (rI .u32 l)] 0]))(hc3:qi P g3 zY=true)
  (h2:∀a b:Int,u32 a->u32 b->qc P g2 [.fz 2 (rI .u32 [a,b])] (.i .u32 (if ym b a=true then b else a))):qdY P f:=by
 intro l hl hn;refine qc.mk hc (by simp[qy,clo,zg]) ?_;simp only[kv,vI,simprocAttr];simp (decide:=true) only [↓vS,vT,simprocAttr];refine (h1 l).sc ?_;simp (decide:=true) only [↓vS,vT,simprocAttr];refine S.weak (Wk.mk (cbT g3 l) [.cells 0 true false [.i .u32 2147418112]] [0] ?_ ?_ ?_ rfl) ?_
 ·simp[vw,cbT,zg]
 ·simp[vw]
 ·simp
 refine S.rangeF (by simp[x5]) (by simp[cbT]) ⟨rfl,rfl⟩ ?_;refine qeN.2 ⟨.fn g3 [] [.pf [.fz l.length (rI .u32 l)] 0],by simp[cbT,mkT,Tr.get_set],?_⟩
 refine⟨qaD hc3,fun r0 hr0 hp0 hlo=>SC.mk hc3 ?_⟩
 have hid:=qcw hr0 hp0;show S P 2 _ _ (jO [.yl 1,.pf [.fz l.length (rI .u32 l)] 0] 0 .leaf) ⟨2,0,(Tr.leaf.set 0 (.cells 0 true false [.i .u32 2147418112])).set 1 (.map (zC r0 (cbT g3 l)))⟩;refine qA ?_;have w0:IntKind.wrap .i64 ((l.length:Int)-1)=(l.length:Int)-1:=qp (by omega) (by omega);simp only[zY,vI,simprocAttr];simp (decide:=true) only [↓vS,vT,simprocAttr,w0];refine SL.loopn (α:=Nat) (fun j=>[(0,.yl 1),(1,.pf [.fz l.length (rI .u32 l)] 0),(3,.i .i64 ((j:Int)-1))]) (fun j=>[.cells 0 true false [.i .u32 (v9 (l.drop j))],.map (zC r0 (cbT g3 l))]) (fun j=>j<=l.length) (fun j=>j) l.length [0,1] ?_ ?_ ?_ rfl ?_ ?_ ?_ ?_
 ·simp[vw,zg]
 ·simp[vw,cbT,zg,v9,jo,jq,xG,zA]
 ·simp
 ·simp
 ·intro x hx;have:x=0∨x=1:=by omega
  rcases this with rfl|rfl<;>rfl
 ·exact Nat.le_refl _
 rintro j hj G ih;simp only[vI,simprocAttr];cases j with
 | succ k =>
  have e:((k+1:Nat):Int)-1=(k:Int):=by omega
  have hk:k<l.length:=by omega
  obtain⟨x,hx⟩:∃x,l[k]?=some x:=⟨_,List.getElem?_eq_getElem hk⟩;have gx:=qmx (k:=.u32) hx;have hxu:=hl x (List.mem_of_getElem? hx);have hcu:u32 (v9 (l.drop (k+1))):=qaE fun y hy=>hl y (List.mem_of_mem_drop hy)
  have hcd:=qbB hx;have w2:IntKind.wrap .i64 ((k:Int)-1)=(k:Int)-1:=qp (by omega) (by omega);have ih2:=ih k (Nat.le_of_lt hk) (by omega);rw[hcd] at ih2;rw[e];generalize v9 (l.drop (k+1))=c at hcu ih2 ⊢;have hle:=h2 c x hcu hxu;have k0:(0:Int)<=(k:Int):=by omega
  simp (decide:=true) only [↓vS,vT,simprocAttr,k0,hk,gx,Nat.mul_one];change SY P 1 [.i .i64 (k:Int),.i .u32 x] _ _;refine SY.mk (r:=r0) (ts:=cbT g3 l) (ps:=[8,9]) (by simp[Tr.get_set]) hr0 hlo (Nat.zero_le _) (by show 1<2;decide) rfl ?_;rw[show mkT (cbT g3 l)=(Tr.leaf.set 7 (.fn g3 [] [.pf [.fz l.length (rI .u32 l)] 0])).set 3 (.ptr 0 0) from rfl]
  refine qA ?_;simp only[qej,vI,simprocAttr];simp only[↓vS,vT,simprocAttr];refine⟨cbT g3 l,by simp[Tr.get_set],?_⟩
  refine qA ?_;simp only[zW,vI,simprocAttr];simp (decide:=true) only [↓vS,vT,simprocAttr];refine hle.give [(2,.cells 0 true false [.i .u32 c,.i .u32 x])] (by simp[Tr.get_set]) rfl ?_ ?_
  ·refine .cons _ _ _ _ (Frz.cut 1 rfl (Nat.le_refl _) ?_) .nil;simp[vw,trP,rI]
  simp only[wU,kj,zW];simp (decide:=true) only [↓vS,vT,simprocAttr];refine⟨bsy r0,cbT g3 l,by simp[Tr.get_set],?_⟩
  rw[qcv,hid];simp only[zW];simp (decide:=true) only [↓vS,vT,simprocAttr,w2];refine ih2 _ _ (Wk.mkn _ _ [0,1] ?_ ?_ ?_ rfl ?_ ?_)
  ·simp[vw,zg]
  ·simp[vw,cbT,zg,jo,jq,xG,zA]
  ·simp
  ·simp
  ·intro x hx;have:x=0∨x=1:=by omega
   rcases this with rfl|rfl<;>rfl
 | zero =>
  clear ih;have e:((0:Nat):Int)-1 = -1:=rfl;rw[e];simp (decide:=true) only [↓vS,vT,simprocAttr];refine⟨r0,cbT g3 l,by simp[Tr.get_set],by rw[hr0];decide,?_⟩
  rw[hp0];simp only[zW];simp only[↓vS,vT,simprocAttr];refine qd4 (v9 l) (Wk.mk _ _ [0] ?_ ?_ ?_ rfl)
  ·simp[vw,cbT,mkT]
  ·simp[vw]
  ·simp
end Go.Kc
end
