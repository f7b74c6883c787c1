/- Part 7 of the abstract machine and of the functions' walks. Conditions: with each theorem. -/
import Derived.Test.YtpgbjeabmkbmbaaGK6
set_option maxHeartbeats 4000000
set_option linter.unusedSectionVars false
set_option linter.unusedSimpArgs false
set_option linter.unusedVariables false
set_option linter.unnecessarySimpa false
section
namespace Go.Kc
variable {P:Program} {f:Nat}
theorem qwo(x:BitVec 16):IntKind.wrap .u16 (x.toNat:Int)=(x.toNat:Int):=by
 have:=x.isLt;show ((x.toNat:Int)) % 65536=_;omega
theorem qlQ(x:BitVec 16):BitVec.ofInt 16 (x.toNat:Int)=x:=by simp
theorem qzf(x y:BitVec 16):orI .u16 (x.toNat:Int) (y.toNat:Int)=((x ||| y).toNat:Int):=by
 show IntKind.wrap .u16 ((BitVec.ofInt 16 (x.toNat:Int) ||| BitVec.ofInt 16 (y.toNat:Int)).toNat:Int)=_
 rw[qlQ,qlQ,qwo]
def cell(k:Int):BitVec 16:=1#16 <<< k.toNat
theorem qyo{k:Int}(h0:0<=k)(h:k<16):qsE .u16 1 k=((cell k).toNat:Int):=by
 have key:∀n:Fin 16,qsE .u16 1 (n.val:Int)=((cell (n.val:Int)).toNat:Int):=by decide
 have:=key ⟨k.toNat,by omega⟩
 simpa[Int.toNat_of_nonneg h0] using this
structure InsOk (i:Ins):Prop where
 c0:0<=i.code
 c1:i.code<=65535
 t0:0<=i.jt
 t1:i.jt<=255
 f0:0<=i.jf
 f1:i.jf<=255
 k0:0<=i.k
 k1:i.k<=4294967295
def cOf(P:Program)(g:Nat):Prop:=∀n,qg P g [.i .u16 n] (.i .u8 (qh n))
def wrM(i:Ins):BitVec 16:=if qh i.code=2∧i.k<16 then cell i.k else 0#16
def rdM(i:Ins):BitVec 16:=if (i.code=96∨i.code=97)∧i.k<16 then cell i.k else 0#16
def rW(s:List (BitVec 16)):List AV:=s.map fun x=>.i .u16 (x.toNat:Int)
def rTt(r:List Bool):List AV:=r.map .b
theorem qk9{s:List (BitVec 16)}:(rW s).length=s.length:=by simp[rW]
theorem qez{s:List Bool}:(rTt s).length=s.length:=by simp[rTt]
theorem qY{s:List (BitVec 16)}:qF (rW s)=true:=qd3 fun _=>rfl
theorem qG{s:List Bool}:qF (rTt s)=true:=qd3 fun _=>rfl
theorem qk8{s:List (BitVec 16)}{j:Nat}:(rW s)[j]?=(s[j]?).map fun x=>.i .u16 (x.toNat:Int):=by simp[rW]
theorem qbl{s:List Bool}{j:Nat}:(rTt s)[j]?=(s[j]?).map .b:=by simp[rTt]
theorem qlK{α:Type}{F:α->AV}{L:List α}{j:Nat}(h:j<L.length)(x:α):(L.map F).take j++(F x::(L.map F).drop (j+1))=(L.set j x).map F:=by
 rw[← List.map_take,← List.map_drop,← List.map_cons,← List.map_append,List.set_eq_take_append_cons_drop,if_pos h]
theorem qvQ{s:List (BitVec 16)}{j:Nat}(h:j<s.length)(x:BitVec 16):(rW s).take j++(.i .u16 (x.toNat:Int)::(rW s).drop (j+1))=rW (s.set j x):=qlK h x
theorem qgX{s:List Bool}{j:Nat}(h:j<s.length)(x:Bool):(rTt s).take j++(.b x::(rTt s).drop (j+1))=rTt (s.set j x):=qlK h x
def qs1(s:List (BitVec 16))(r:List Bool)(j:Nat)(x:BitVec 16):List (BitVec 16):=s.set j (if r.getD j false=true then s.getD j 0 &&& x else x)
def rNt(l:List Nat):List AV:=l.map fun n:Nat=>.i .i64 (n:Int)
theorem qi2{l:List Nat}:(rNt l).length=l.length:=by simp[rNt]
theorem zb{l:List Nat}:qF (rNt l)=true:=qd3 fun _=>rfl
theorem qi1{l:List Nat}{j:Nat}:(rNt l)[j]?=(l[j]?).map fun n:Nat=>.i .i64 (n:Int):=by simp[rNt]
theorem qlX{l m:List Nat}:rNt l++rNt m=rNt (l++m):=by simp[rNt]
def qwl(i:Ins)(x:BitVec 16)(at':Nat)(l:List Nat):List Nat:=if rdM i &&& ~~~ x=0#16 then l else l++[at']

def loM(i:Ins):Int:=if i.jf<i.jt then i.jf else i.jt
def hiM(i:Ins):Int:=if i.jt<i.jf then i.jf else i.jt
def qcK(i:Ins)(at':Nat):List Nat :=
 if qh i.code=0∨qh i.code=5 then []
 else if qh i.code=4 then (if i.code=5 then [at'+1+i.k.toNat] else if loM i=hiM i then [at'+1+(loM i).toNat] else [at'+1+(loM i).toNat,at'+1+(hiM i).toNat])
 else [at'+1]
def goM(n:Nat)(x:BitVec 16):List Nat->List (BitVec 16)×List Bool->List (BitVec 16)×List Bool
 | [],st=>st
 | m::L,st=>if m<n then goM n x L (qs1 st.1 st.2 m x,st.2.set m true) else st

abbrev WSt:=List Nat×(List (BitVec 16)×List Bool)
def qqa(j:Nat)(st:List (BitVec 16)×List Bool):List (BitVec 16)×List Bool:=if j=0 then (qs1 st.1 st.2 0 0#16,st.2.set 0 true) else st
def stM(n j:Nat)(i:Ins)(st:WSt):WSt :=
 if (qqa j st.2).2.getD j false=true then (qwl i ((qqa j st.2).1.getD j 0#16) j st.1,goM n ((qqa j st.2).1.getD j 0#16 ||| wrM i) (qcK i j) (qqa j st.2)) else (st.1,qqa j st.2)
def wkM(n:Nat):Nat->List Ins->WSt->WSt
 | _,[],st=>st
 | j,i::L,st=>wkM n (j+1) L (stM n j i st)
def qyz(p:List Ins):List Nat:=(wkM p.length 0 p ([],(List.replicate p.length 0#16,List.replicate p.length false))).1
def qg5(i:Ins):Bool:=!zI i.code
def qaM(i:Ins):Bool:=decide (i.code=32)&&(decide (i.k % 4≠0)||decide (64<=i.k))
def qbF(i:Ins):Bool:=(decide (i.code=96)||decide (i.code=97)||decide (qh i.code=2))&&decide (16<=i.k)
def qbG(i:Ins):Bool:=decide (i.code=52)&&decide (i.k=0)
def qbH(i:Ins):Bool:=(decide (i.code=100)||decide (i.code=116))&&decide (31<i.k)
def qbI(i:Ins)(n:Nat):Bool:=if i.code=5 then decide ((n:Int)<=i.k) else decide (qh i.code=4)&&decide ((n:Int)<=hiM i)
def qe8(i:Ins)(n:Nat):Int:=if qg5 i=true then 40 else if qaM i=true then 41 else if qbF i=true then 43 else if qbG i=true then 44 else if qbH i=true then 45 else if qbI i n=true then 42 else 0
def qgi(n:Nat):Nat->List Ins->Option (Nat×Int)
 | _,[]=>none
 | j,i::L=>if qe8 i (n-1-j)=0 then qgi n (j+1) L else some (j,qe8 i (n-1-j))
theorem qg6{n j:Nat}{i:Ins}{L:List Ins}:qgi n j (i::L)=if qe8 i (n-1-j)=0 then qgi n (j+1) L else some (j,qe8 i (n-1-j)):=rfl
def qih(p:List Ins):Int:=(p.getD (p.length-1) ⟨0,0,0,0⟩).code
def atU(p:List Ins)(u:List Nat):Nat×Int :=
 if p.length=0∨4096<p.length then (0,60) else (qgi p.length 0 p).elim (if qh (qih p)=5 then (match u with | []=>(0,0)|a::_=>(a,61)) else (p.length-1,46)) id
def qgj(P:Program)(g:Nat):Prop:=∀n,qg P g [.i .u16 n] (.agg (zt (qy n)))
def nxE(n a b:Nat):List Nat:=(if a<n then [a] else [])++(if b<n∧b≠a then [b] else [])
def qf9(n:Nat)(i:Ins)(j:Nat):List Nat:=(qcK i j).takeWhile fun m=>decide (m<n)
def zg(a:Nat):ICode:=.seq (.seq (.r [.n 79 5,.n 80 6,.b 81 .gtr 79 80]) (.cond (.t 81) (.r [.n 82 6,.n 83 5,.n 5 82,.n 6 83]) (.skip))) (.seq (.r [.m 7 .N]) (.seq (.seq (.r [.n 84 5,.n 85 0,.e 86 85,.s 87 84 86]) (.cond (.t 87) (.r [.n 88 7,.n 89 5,.q 90 (.buildS 1 [.i .i64 0] [(0,1,(.t 89))]),.q 91 (.app 1 8 true (.t 88) (.t 90)),.n 7 91]) (.skip))) (.seq (.seq (.r [.n 92 6,.n 93 0,.e 94 93,.s 95 92 94,.n 96 95,.y 97 6 96,.y 98 5 96,.g 99 (.bin .neq (.t 97) (.t 98)) 96 true,.p 100 96 99]) (.cond (.t 100) (.r [.n 101 7,.n 102 6,.q 103 (.buildS 1 [.i .i64 0] [(0,1,(.t 102))]),.q 104 (.app 1 8 true (.t 101) (.t 103)),.n 7 104]) (.skip))) (.seq (.r [.n 105 7,.n 4 105]) (.ret)))))
def qbg(a:Nat):IFn:=⟨[.tmp 4],.seq (.r [.m 4 .N]) (.seq (.seq (.r [.n 8 1,.w 9 .lss 8 0,.n 10 9,.z 11 1 10,.z 12 0 10,.g 13 (.len false (.t 12)) 10 false,.g 14 (.bin .geq (.t 11) (.t 13)) 10 false,.o 15 10 14,.n 16 15,.z 17 0 16,.g 18 (.len false (.t 17)) 16 false,.g 19 (.bin .gtr (.t 18) (.k 4096)) 16 false,.o 20 16 19]) (.cond (.t 20) (.seq (.r [.m 4 .N]) (.ret)) (.skip))) (.seq (.r [.n 21 1,.a 22 21 1,.n 23 1,.a 24 23 1,.n 5 22,.n 6 24]) (.seq (.seq (.r [.n 25 0,.n 26 1,.i 27 4 25 26,.f 28 0 27,.d 29 28,.l 30 a [.t 29],.q 31 (.fld 2 none (.t 30))]) (.blk 0 (.seq (.seq (.r [.q 33 (.bin .eql (.t 31) (.c (.i .u8 0))),.n 32 33]) (.cond (.t 32) (.skip) (.r [.q 34 (.bin .eql (.t 31) (.c (.i .u8 5))),.n 32 34]))) (.cond (.t 32) (.seq (.r [.m 4 .N]) (.ret)) (.seq (.r [.q 36 (.bin .eql (.t 31) (.c (.i .u8 4))),.n 35 36]) (.cond (.t 35) (.seq (.reg true [.n 37 1,.a 38 37 1,.n 39 0,.n 40 1,.i 41 4 39 40,.f 42 1 41,.d 43 42,.q 44 (.cvInt .i64 (.t 43)),.b 45 .add 38 44,.n 46 1,.a 47 46 1,.n 48 0,.n 49 1,.i 50 4 48 49,.f 51 2 50,.d 52 51,.q 53 (.cvInt .i64 (.t 52)),.b 54 .add 47 53,.n 5 45,.n 6 54]) (.seq (.r [.n 55 0,.n 56 1,.i 57 4 55 56,.f 58 0 57,.d 59 58,.q 60 (.bin .eql (.t 59) (.c (.i .u16 5)))]) (.cond (.t 60) (.reg true [.n 61 1,.a 62 61 1,.n 63 0,.n 64 1,.i 65 4 63 64,.f 66 3 65,.d 67 66,.q 68 (.cvInt .i64 (.t 67)),.b 69 .add 62 68,.n 70 1,.a 71 70 1,.n 72 0,.n 73 1,.i 74 4 72 73,.f 75 3 74,.d 76 75,.q 77 (.cvInt .i64 (.t 76)),.b 78 .add 71 77,.n 5 69,.n 6 78]) (.skip)))) (.skip))))))) (.cut (zg a)))))⟩
theorem qrU(g:Nat)(n:Nat)(p:List AV)(hp:qF p=true)(a b:Nat)(hn:n<=4096){t':Tr AV}{h':Hp}(hw:Wk 0 t' h' (mkT [(0,.fz n p),(5,.i .i64 (a:Int)),(6,.i .i64 (b:Int))]) (mkH 0 [])) :
  S P 0 (zg g) (qcm [.tmp 4] fun v' h'=>Frz h' v' (.fz (nxE n (min a b) (max a b)).length (rNt (nxE n (min a b) (max a b))))) t' h':=by
 refine S.weak hw (qp ?_)
 have main:∀x y:Nat,x<=y->min a b=x->max a b=y->(a=x∧b=y∨a=y∧b=x∧x<y)->V P 0 (zg g) (qcm [.tmp 4] fun v' h'=>Frz h' v' (.fz (nxE n x y).length (rNt (nxE n x y)))) (mkT [(0,.fz n p),(5,.i .i64 (a:Int)),(6,.i .i64 (b:Int))]) (mkH 0 []):=by
  intro x y hxy _ _ hab;have hr:1<=qe:=by decide
  have hr1:8<=qe:=by decide
  have hr2:2<=qe:=by decide
  have hr3:16<=qe:=by decide
  unfold nxE;simp only[zg,vI,simprocAttr];rcases hab with⟨rfl,rfl⟩|⟨rfl,rfl,hlt⟩
  ·have h1:¬(b:Int)<(a:Int):=by omega
   by_cases ha:a<n
   ·by_cases hb:b<n
    ·by_cases he:b=a
     ·have he':(b:Int)=a:=by omega
      simp +decide only[↓vS,vT,simprocAttr,h1,ha,hb,he',he];simp[vZ,vP,Tr.get_set,rNt]
     ·have he':¬(b:Int)=a:=by omega
      simp +decide only[↓vS,vT,simprocAttr,h1,ha,hb,he',he];simp[vZ,vP,Tr.get_set,rNt,he]
    ·simp +decide only[↓vS,vT,simprocAttr,h1,ha,hb];simp[vZ,vP,Tr.get_set,rNt]
   ·have hb:¬b<n:=by omega
    simp +decide only[↓vS,vT,simprocAttr,h1,ha,hb];simp[vZ,vP,Tr.get_set,rNt]
  ·have h1:(a:Int)<(b:Int)∨(b:Int)<(a:Int):=by omega
   have h1:(b:Int)<(a:Int):=by omega
   have he:¬a=b:=by omega
   have he':¬(a:Int)=b:=by omega
   by_cases ha:b<n
   ·by_cases hb:a<n
    ·simp +decide only[↓vS,vT,simprocAttr,h1,ha,hb,he',he];simp[vZ,vP,Tr.get_set,rNt,he]
    ·simp +decide only[↓vS,vT,simprocAttr,h1,ha,hb];simp[vZ,vP,Tr.get_set,rNt]
   ·have hb:¬a<n:=by omega
    simp +decide only[↓vS,vT,simprocAttr,h1,ha,hb];simp[vZ,vP,Tr.get_set,rNt]
 rcases Nat.lt_or_ge b a with h|h
 ·rw[Nat.min_eq_right (by omega),Nat.max_eq_left (by omega)];exact main b a (by omega) (by omega) (by omega) (.inr ⟨rfl,rfl,h⟩)
 ·rw[Nat.min_eq_left h,Nat.max_eq_right h];exact main a b h (by omega) (by omega) (.inl ⟨rfl,rfl⟩)
theorem qhA{n a b:Nat}(h:a<=b):nxE n a b=(if a=b then [a] else [a,b]).takeWhile fun m=>decide (m<n):=by
 unfold nxE
 by_cases he:a=b
 ·subst he
  by_cases ha:a<n<;>simp[ha,List.takeWhile]
 ·rw[if_neg he]
  by_cases ha:a<n
  ·by_cases hb:b<n
   ·simp[ha,hb,List.takeWhile,Ne.symm he]
   ·simp[ha,hb,List.takeWhile]
  ·have hb:¬b<n:=by omega
   simp[ha,hb,List.takeWhile]
theorem qzb{g:Nat}(hc:qd P f (qbg g)=true)(hg:qgj P g)(p:List Ins)(hp:p.length<=4096)(j:Nat)(i:Ins)(hj:p[j]?=some i)(hi:InsOk i) :
  qg P f [.fz p.length (rP p),.i .i64 (j:Int)] (.fz (qf9 p.length i j).length (rNt (qf9 p.length i j))):=by
 refine qg.mk hc (by simp[qF,clo,qm]) ?_;have hlt:j<p.length:=(zzS.1 hj).1;have hz:¬(j:Int)<0:=by omega
 have hz2:¬(p.length:Int)<=(j:Int):=by omega
 have hz3:¬(4096:Int)<(p.length:Int):=by omega
 have hj1:IntKind.wrap .i64 ((j:Int)+1)=((j+1:Nat):Int):=by rw[qv (by omega) (by omega)];omega
 have hjj:∀a:Int,0<=a->a<=4294967295->IntKind.wrap .i64 (((j+1:Nat):Int)+IntKind.wrap .i64 a)=((j+1+a.toNat:Nat):Int):=by
  intro a h1 h2;rw[qv (x:=a) (by omega) (by omega),qv (by omega) (by omega)];omega
 have hk:=hjj i.k hi.k0 hi.k1;have ht:=hjj i.jt hi.t0 (by have:=hi.t1;omega)
 have hf:=hjj i.jf hi.f0 (by have:=hi.f1;omega)
 have g0:=xN (f:=zl) (m:=4) zP hj (i:=0) (by omega);have g1:=xN (f:=zl) (m:=4) zP hj (i:=1) (by omega);have g2:=xN (f:=zl) (m:=4) zP hj (i:=2) (by omega);have g3:=xN (f:=zl) (m:=4) zP hj (i:=3) (by omega);rw[show p.flatMap zl=rP p from rfl] at g0 g1 g2 g3
 simp only[zl,Nat.add_zero,List.getElem?_cons_zero,List.getElem?_cons_succ] at g0 g1 g2 g3;have hn0:nxE p.length (j+1) (j+1)=[j+1].takeWhile fun m=>decide (m<p.length):=by rw[qhA (Nat.le_refl _),if_pos rfl]
 have hcl:(zt (qy i.code)).length=3∧(zt (qy i.code))[2]?=some (.i .u8 (qh i.code))∧qF (zt (qy i.code))=true:=by
  unfold qh;cases qy i.code<;>exact⟨rfl,rfl,rfl⟩
 have hgc:=hg i.code;generalize zt (qy i.code)=E at hcl hgc;obtain⟨he1,he2,he3⟩:=hcl;unfold qf9;simp only[qbg,vI,simprocAttr];simp +decide only[↓vS,vT,simprocAttr,hz,hz2,hz3,hj1,hlt,g0];refine hgc.sc ?_;simp +decide only[↓vS,vT,simprocAttr,he2]
 have hend:∀(a b:Nat) {t':Tr AV} {h':Hp},nxE p.length (min a b) (max a b)=(qcK i j).takeWhile (fun m=>decide (m<p.length))->Wk 0 t' h' (mkT [(0,.fz p.length (rP p)),(5,.i .i64 (a:Int)),(6,.i .i64 (b:Int))]) (mkH 0 [])->
   S P 0 (zg g) (qcm [.tmp 4] fun v' h'=>Frz h' v' (.fz ((qcK i j).takeWhile (fun m=>decide (m<p.length))).length (rNt ((qcK i j).takeWhile (fun m=>decide (m<p.length)))))) t' h':=by
  intro a b t' h' hE hw;rw[← hE];exact qrU g p.length (rP p) (qm p) a b hp hw
 by_cases hA:qh i.code=0∨qh i.code=5
 ·have hwl:qcK i j=[]:=by unfold qcK;rw[if_pos hA]
  rw[hwl]
  rcases hA with hA|hA<;>(
   simp +decide only[↓vS,vT,simprocAttr,hA];simp[vZ,List.takeWhile,rNt])
 have h0:¬qh i.code=0:=fun h=>hA (.inl h)
 have h5:¬qh i.code=5:=fun h=>hA (.inr h)
 by_cases h4:qh i.code=4
 ·simp +decide only[↓vS,vT,simprocAttr,h4];refine qaB ?_;simp +decide only[↓vS,vT,simprocAttr,hlt,g0,g1,g2,hj1]
  by_cases hja:i.code=5
  ·have hwl:qcK i j=[j+1+i.k.toNat]:=by unfold qcK;rw[if_neg hA,if_pos h4,if_pos hja]
   rw[if_pos hja];refine qaB ?_;simp +decide only[↓vS,vT,simprocAttr,hlt,g3,hj1];refine hend (j+1+i.k.toNat) (j+1+i.k.toNat) ?_ (Wk.mk _ _ [] ?_ ?_ ?_ rfl)
   ·rw[hwl,Nat.min_self,Nat.max_self,qhA (Nat.le_refl _),if_pos rfl]
   ·simp[vw,qm];simpa using hk
   ·trivial
   ·simp
  ·rw[if_neg hja];refine hend (j+1+i.jt.toNat) (j+1+i.jf.toNat) ?_ (Wk.mk _ _ [] ?_ ?_ ?_ rfl)
   ·have:=hi.t0;have:=hi.f0
    have e1:min (j+1+i.jt.toNat) (j+1+i.jf.toNat)=j+1+(loM i).toNat:=by unfold loM;split<;>omega
    have e2:max (j+1+i.jt.toNat) (j+1+i.jf.toNat)=j+1+(hiM i).toNat:=by unfold hiM;split<;>omega
    have e0:(loM i).toNat<=(hiM i).toNat:=by unfold loM hiM;split<;>split<;>omega
    have e3:0<=loM i∧0<=hiM i:=by unfold loM hiM;constructor<;>split<;>omega
    rw[e1,e2,qhA (by omega)];unfold qcK;rw[if_neg hA,if_pos h4,if_neg hja]
    by_cases he:loM i=hiM i
    ·rw[if_pos he,if_pos (by rw[he])]
    ·rw[if_neg he,if_neg (by omega)]
   ·simp[vw,qm];exact⟨by simpa using ht,by simpa using hf⟩
   ·trivial
   ·simp
 ·have hwl:qcK i j=[j+1]:=by unfold qcK;rw[if_neg hA,if_neg h4]
  simp +decide only[↓vS,vT,simprocAttr,h0,h4,h5];refine hend (j+1) (j+1) ?_ (Wk.mk _ _ [] ?_ ?_ ?_ rfl)
  ·rw[hwl,Nat.min_self,Nat.max_self];exact hn0
  ·simp[vw,qm,hj1]
  ·trivial
  ·simp
def mkL(L:List Nat)(r:List Bool):List Bool:=L.foldl (fun r m=>r.set m true) r
theorem qev:∀{L:List Nat} {r:List Bool},(mkL L r).length=r.length
 | [],_=>rfl
 | m::L,r=>by show (mkL L (r.set m true)).length=_;rw[qev];simp
theorem qkj{m:Nat}{L:List Nat}{r:List Bool}:mkL (m::L) r=mkL L (r.set m true):=rfl
theorem qlP{n j:Nat}{i:Ins}:∀m ∈ qf9 n i j,m<n:=fun m hm=>by
 unfold qf9 at hm
 have key:∀l:List Nat,m ∈ l.takeWhile (fun m=>decide (m<n))->m<n:=by
  intro l
  induction l with
  | nil=>intro h;cases h
  | cons a l ih =>
   intro h;rw[List.takeWhile_cons] at h;split at h
   ·rename_i ha;rcases List.mem_cons.1 h with rfl|h
    ·exact of_decide_eq_true ha
    ·exact ih h
   ·cases h
 exact key _ hm
theorem qlm{j:Nat}{i:Ins}:(qcK i j).length<=2:=by
 unfold qcK;split
 ·simp
 split
 ·split
  ·simp
  split<;>simp
 simp
theorem qio{n j:Nat}{i:Ins}:(qf9 n i j).length<=2:=Nat.le_trans (List.takeWhile_sublist _).length_le qlm
def qfM(n:Nat):Nat->List Ins->List Bool->List Bool
 | _,[],r=>r
 | j,i::L,r=>qfM n (j+1) L (if r.getD j false=true then mkL (qf9 n i j) r else r)
def st0(n:Nat):List Bool:=(List.replicate n false).set 0 true
theorem ql2(n:Nat):(List.replicate n [AV.b false]).flatten=rTt (List.replicate n false):=by
 induction n with
 | zero=>rfl
 | succ n ih=>rw[List.replicate_succ,List.replicate_succ,List.flatten_cons,ih];rfl
theorem qyn(n:Nat):(List.replicate n [AV.i .u16 0]).flatten=rW (List.replicate n 0#16):=by
 induction n with
 | zero=>rfl
 | succ n ih=>rw[List.replicate_succ,List.replicate_succ,List.flatten_cons,ih];rfl
def qlu(P:Program)(g:Nat):Prop:=∀p:List Ins,p.length<=4096->∀(j:Nat) (i:Ins),p[j]?=some i->InsOk i->qg P g [.fz p.length (rP p),.i .i64 (j:Int)] (.fz (qf9 p.length i j).length (rNt (qf9 p.length i j)))
def zM(a:Nat):ICode:=.seq (.seq (.r [.m 4 (.k 0)]) (.blk 0 (.loop (.seq (.seq (.r [.n 18 4,.n 19 0,.e 20 19,.s 21 18 20]) (.cond (.t 21) (.skip) (.exit 0))) (.seq (.blk 1 (.seq (.seq (.r [.n 24 3,.n 25 4,.i 26 1 24 25,.d 27 26,.q 28 (.un .not (.t 27))]) (.cond (.t 28) (.exit 1) (.skip))) (.seq (.r [.n 29 0,.n 30 4,.l 31 a [.t 29,.t 30],.n 5 31]) (.seq (.r [.m 6 (.k 0)]) (.blk 2 (.loop (.seq (.seq (.r [.n 32 6,.n 33 5,.e 34 33,.s 35 32 34]) (.cond (.t 35) (.skip) (.exit 2))) (.seq (.blk 3 (.r [.n 38 3,.n 39 5,.n 40 6,.i 41 1 39 40,.d 42 41,.i 43 1 38 42,.u (.store 1 (.t 43) .T)])) (.r [.n 36 6,.a 37 36 1,.n 6 37]))))))))) (.r [.n 22 4,.a 23 22 1,.n 4 23])))))) (.seq (.r [.n 44 3,.n 2 44]) (.ret))
def qav(a:Nat):IFn:=⟨[.tmp 2],.seq (.r [.m 2 .N]) (.seq (.seq (.r [.n 7 0,.e 8 7,.w 9 .gtr 8 4096]) (.cond (.t 9) (.seq (.r [.m 2 .N]) (.ret)) (.skip))) (.seq (.r [.n 10 0,.e 11 10,.q 12 (.mkS 1 1 [.b false] (.t 11) (.t 11)),.n 3 12]) (.seq (.seq (.r [.n 13 0,.e 14 13,.w 15 .gtr 14 0]) (.cond (.t 15) (.r [.n 16 3,.q 17 (.iAddrS 1 (.t 16) (.k 0)),.u (.store 1 (.t 17) .T)]) (.skip))) (.cut (zM a)))))⟩
theorem qhH{g:Nat}(hg:qlu P g)(p:List Ins)(hp:p.length<=4096)(hi:∀i ∈ p,InsOk i)(r0:List Bool)(hr0:r0.length=p.length)
  {t':Tr AV} {h':Hp} (hw:Wk 0 t' h' (mkT [(0,.fz p.length (rP p)),(3,.sl 0 0 p.length p.length false)]) (mkH 0 [.cells 0 true false (rTt r0)])) :
  S P 0 (zM g) (qcm [.tmp 2] fun v' h'=>Frz h' v' (.fz p.length (rTt (qfM p.length 0 p r0)))) t' h':=by
 refine S.weak hw (qp ?_);simp only[zM,vI,simprocAttr];simp +decide only[↓vS,vT,simprocAttr]
 refine SL.loop (α:=Nat×List Bool) (fun a=>[(0,.fz p.length (rP p)),(3,.sl 0 0 p.length p.length false),(4,.i .i64 (a.1:Int))]) (fun a=>[.cells 0 true false (rTt a.2)])
  (fun a=>a.1<=p.length∧a.2.length=p.length∧qfM p.length a.1 (p.drop a.1) a.2=qfM p.length 0 p r0) (fun a=>p.length-a.1) (0,r0) [0] ?_ ?_ ?_ rfl ?_ ?_
 ·simp[vw,qm]
 ·simp[vw,qb,qG]
 ·simp
 ·exact⟨Nat.zero_le _,hr0,rfl⟩
 rintro⟨j,r⟩ ⟨hj,hlr,hI⟩ G ih;simp only at hj hlr hI;simp only[vI,simprocAttr]
 by_cases hlt:j<p.length
 ·obtain⟨i,hpi⟩:∃i,p[j]?=some i:=⟨_,zzE hlt⟩;have hii:=hi i (zzM hpi)
  have hdr:p.drop j=i::p.drop (j+1):=by
   obtain⟨hh,he⟩:=zzS.1 hpi;rw[List.drop_eq_getElem_cons hh,he]
  obtain⟨b,hb⟩:∃b,r[j]?=some b:=⟨_,zzE (by omega)⟩;have hI2:qfM p.length (j+1) (p.drop (j+1)) (if r.getD j false=true then mkL (qf9 p.length i j) r else r)=qfM p.length 0 p r0:=by rw[← hI,hdr];rfl
  rw[List.getD_eq_getElem?_getD,hb,Option.getD_some] at hI2;have hw1:IntKind.wrap .i64 ((j:Int)+1)=((j+1:Nat):Int):=by rw[qv (by omega) (by omega)];omega
  cases b with
  | false =>
   rw[if_neg (by simp)] at hI2;simp +decide only[↓vS,vT,simprocAttr,hlt,Nat.mul_one,qbl,hb,Option.map_some,hw1];refine ih (j+1,r) ⟨hlt,hlr,hI2⟩ (by simp only;omega) _ _ (Wk.mk _ _ [0] ?_ ?_ ?_ rfl)
   ·simp[vw,qm]
   ·simp[vw,qb,qG]
   ·simp
  | true =>
   rw[if_pos rfl] at hI2;simp +decide only[↓vS,vT,simprocAttr,hlt,Nat.mul_one,qbl,hb,Option.map_some];refine (hg p hp j i hpi hii).sc ?_;have hLlt:=qlP (n:=p.length) (j:=j) (i:=i);have hL2:=qio (n:=p.length) (j:=j) (i:=i);generalize qf9 p.length i j=L at hI2 hLlt hL2;simp +decide only[↓vS,vT,simprocAttr]
   refine SL.loop (α:=Nat×List Bool) (fun a=>[(0,.fz p.length (rP p)),(3,.sl 0 0 p.length p.length false),(4,.i .i64 (j:Int)),(5,.fz L.length (rNt L)),(6,.i .i64 (a.1:Int))]) (fun a=>[.cells 0 true false (rTt a.2)])
    (fun a=>a.1<=L.length∧a.2.length=p.length∧mkL (L.drop a.1) a.2=mkL L r) (fun a=>L.length-a.1) (0,r) [0] ?_ ?_ ?_ rfl ?_ ?_
   ·simp[vw,qm,zb]
   ·simp[vw,qb,qG]
   ·simp
   ·exact⟨Nat.zero_le _,hlr,rfl⟩
   rintro⟨k,r2⟩ ⟨hk,hlr2,hJ⟩ G2 ih2;simp only at hk hlr2 hJ;simp only[vI,simprocAttr]
   by_cases hkl:k<L.length
   ·obtain⟨m,hm⟩:∃m,L[k]?=some m:=⟨_,zzE hkl⟩;have hml:=hLlt m (zzM hm)
    have hdk:L.drop k=m::L.drop (k+1):=by
     obtain⟨hh,he⟩:=zzS.1 hm;rw[List.drop_eq_getElem_cons hh,he]
    rw[hdk,qkj] at hJ
    have hw2:IntKind.wrap .i64 ((k:Int)+1)=((k+1:Nat):Int):=by
     rw[qv (by omega) (by omega)];omega
    have hs0:m+1<=(rTt r2).length:=by rw[qez];omega
    have hs1:=qgX (s:=r2) (j:=m) (by omega) true;simp +decide only[↓vS,vT,simprocAttr,hkl,Nat.mul_one,qi1,hm,Option.map_some,hml,hs0,hs1,hw2];refine ih2 (k+1,r2.set m true) ⟨hkl,by simp[hlr2],hJ⟩ (by simp only;omega) _ _ (Wk.mk _ _ [0] ?_ ?_ ?_ rfl)
    ·simp[vw,qm,zb]
    ·simp[vw,qb,qG]
    ·simp
   ·obtain rfl:k=L.length:=by omega
    rw[List.drop_length] at hJ;have hJ:r2=mkL L r:=hJ;simp +decide only[↓vS,vT,simprocAttr,hkl,hw1];refine ih (j+1,r2) ⟨hlt,hlr2,by rw[hJ];exact hI2⟩ (by simp only;omega) _ _ (Wk.mk _ _ [0] ?_ ?_ ?_ rfl)
    ·simp[vw,qm]
    ·simp[vw,qb,qG]
    ·simp
 ·obtain rfl:j=p.length:=by omega
  rw[List.drop_length] at hI;have hI:r=qfM p.length 0 p r0:=hI;rw[← hI];simp +decide only[↓vS,vT,simprocAttr,hlt];refine Frz.cut 1 rfl (Nat.le_refl _) ?_;have ht:(rTt r).take p.length=rTt r:=List.take_of_length_le (by rw[qez];omega);simp[vZ,vP,Tr.get_set,zn qG,ht,qez,hlr]
theorem qsu{g:Nat}(hc:qd P f (qav g)=true)(hg:qlu P g)(p:List Ins)(hp:p.length<=4096)(hi:∀i ∈ p,InsOk i):qg P f [.fz p.length (rP p)] (.fz p.length (rTt (qfM p.length 0 p (st0 p.length)))):=by
 refine qg.mk hc (by simp[qF,clo,qm]) ?_;have hz3:¬(4096:Int)<(p.length:Int):=by omega
 have hr1:p.length<=qe:=by simp only[qe];omega
 have hr3:1*p.length<=qe:=by simp only[qe];omega
 simp only[qav,vI,simprocAttr]
 by_cases h0:p.length=0
 ·have h0':¬(0:Int)<(p.length:Int):=by omega
  have hst:st0 p.length=List.replicate p.length false:=by unfold st0;rw[h0];rfl
  rw[hst];simp +decide only[↓vS,vT,simprocAttr,hz3,hr1,hr3,ql2,h0'];refine qhH hg p hp hi (List.replicate p.length false) (by simp) (Wk.mk _ _ [0] ?_ ?_ ?_ rfl)
  ·simp[vw,qm]
  ·simp[vw,qb,qG]
  ·simp
 ·have h0':(0:Int)<(p.length:Int):=by omega
  have h0n:0<p.length:=by omega
  have hs0:1<=(rTt (List.replicate p.length false)).length:=by rw[qez];simp;omega
  have hs1:AV.b true::List.drop 1 (rTt (List.replicate p.length false))=rTt (st0 p.length):=qgX (s:=List.replicate p.length false) (j:=0) (by simp;omega) true;simp +decide only[↓vS,vT,simprocAttr,hz3,hr1,hr3,ql2,h0',h0n,hs0,hs1];refine qhH hg p hp hi (st0 p.length) (by simp[st0]) (Wk.mk _ _ [0] ?_ ?_ ?_ rfl)
  ·simp[vw,qm]
  ·simp[vw,qb,qG]
  ·simp
def wrC(i:Ins)(c:Nat):Bool:=(decide (i.code=2)||decide (i.code=3))&&decide (i.k=(c:Int))
def stS(n c j:Nat)(i:Ins)(st:List Bool×List (BitVec 16)):List Bool×List (BitVec 16) :=
 if st.1.getD j false=false then (st.1,st.2.set j (st.2.getD j 0#16 ||| cell c)) else if wrC i c=true then st else (mkL (qf9 n i j) st.1,st.2)
def qeJ(n c:Nat):Nat->List Ins->List Bool×List (BitVec 16)->List Bool×List (BitVec 16)
 | _,[],st=>st
 | j,i::L,st=>qeJ n c (j+1) L (stS n c j i st)
theorem qsL{n c j:Nat}{i:Ins}{st:List Bool×List (BitVec 16)}:(stS n c j i st).1.length=st.1.length∧(stS n c j i st).2.length=st.2.length:=by
 unfold stS;split
 ·simp
 split<;>simp[qev]
theorem qhQ{n c:Nat}:∀{L:List Ins} {j:Nat} {st:List Bool×List (BitVec 16)},(qeJ n c j L st).1.length=st.1.length∧(qeJ n c j L st).2.length=st.2.length
 | [],_,_=>⟨rfl,rfl⟩
 | i::L,j,st=>by
  show (qeJ n c (j+1) L (stS n c j i st)).1.length=_∧(qeJ n c (j+1) L (stS n c j i st)).2.length=_;have h1:=qhQ (n:=n) (c:=c) (L:=L) (j:=j+1) (st:=stS n c j i st);have h2:=qsL (n:=n) (c:=c) (j:=j) (i:=i) (st:=st);exact⟨h1.1.trans h2.1,h1.2.trans h2.2⟩
def qnC(p:List Ins):Nat->List (BitVec 16)->List (BitVec 16)
 | 0,out=>out
 | k+1,out=>qnC p k (qeJ p.length (16-(k+1)) 0 p (st0 p.length,out)).2
def qjd(p:List Ins):List (BitVec 16):=qnC p 16 (List.replicate p.length 0#16)
def z7(a:Nat):ICode:=.r [.n 17 4,.a 18 17 1,.n 4 18]
def z8(a:Nat):ICode:=.r [.n 31 6,.a 32 31 1,.n 6 32]
def z9(a:Nat):ICode:=.seq (.r [.n 72 0,.n 73 6,.l 74 a [.t 72,.t 73],.n 7 74]) (.seq (.r [.m 8 (.k 0)]) (.blk 4 (.loop (.seq (.seq (.r [.n 75 8,.n 76 7,.e 77 76,.s 78 75 77]) (.cond (.t 78) (.skip) (.exit 4))) (.seq (.blk 5 (.r [.n 81 5,.n 82 7,.n 83 8,.i 84 1 82 83,.d 85 84,.i 86 1 81 85,.u (.store 1 (.t 86) .T)])) (.r [.n 79 8,.a 80 79 1,.n 8 80]))))))
def xg(a:Nat):ICode:=.seq (.r [.m 6 (.k 0)]) (.blk 2 (.loop (.seq (.seq (.r [.n 27 6,.n 28 0,.e 29 28,.s 30 27 29]) (.cond (.t 30) (.skip) (.exit 2))) (.seq (.blk 3 (.seq (.seq (.r [.n 33 5,.n 34 6,.i 35 1 33 34,.d 36 35,.q 37 (.un .not (.t 36))]) (.cond (.t 37) (.seq (.reg true [.n 38 3,.n 39 6,.n 40 3,.n 41 6,.i 42 1 40 41,.d 43 42,.n 44 4,.q 45 (.bin .shl (.c (.i .u16 1)) (.t 44)),.b 46 .or 43 45,.i 47 1 38 39,.u (.store 1 (.t 47) (.t 46))]) (.exit 3)) (.skip))) (.seq (.seq (.r [.n 48 0,.n 49 6,.i 50 4 48 49,.f 51 0 50,.d 52 51,.q 53 (.bin .eql (.t 52) (.c (.i .u16 2))),.n 54 53,.z 55 0 54,.z 56 6 54,.g 57 (.iAddrS 4 (.t 55) (.t 56)) 54 false,.h 58 0 57 54 false,.j 59 58 54 false,.g 60 (.bin .eql (.t 59) (.c (.i .u16 3))) 54 false,.o 61 54 60,.n 62 61,.y 63 0 62,.y 64 6 62,.g 65 (.iAddrS 4 (.t 63) (.t 64)) 62 true,.h 66 3 65 62 true,.j 67 66 62 true,.y 68 4 62,.g 69 (.cvInt .u32 (.t 68)) 62 true,.g 70 (.bin .eql (.t 67) (.t 69)) 62 true,.p 71 62 70]) (.cond (.t 71) (.exit 3) (.skip))) (.cut (z9 a))))) (.cut (z8 a))))))
def qaw(a:Nat):ICode:=.seq (.seq (.r [.m 4 (.k 0)]) (.blk 0 (.loop (.seq (.seq (.r [.n 15 4,.w 16 .lss 15 16]) (.cond (.t 16) (.skip) (.exit 0))) (.seq (.blk 1 (.seq (.r [.n 19 0,.e 20 19,.q 21 (.mkS 1 1 [.b false] (.t 20) (.t 20)),.n 5 21]) (.seq (.seq (.r [.n 22 0,.e 23 22,.w 24 .gtr 23 0]) (.cond (.t 24) (.r [.n 25 5,.q 26 (.iAddrS 1 (.t 25) (.k 0)),.u (.store 1 (.t 26) .T)]) (.skip))) (.cut (xg a))))) (.cut (z7 a))))))) (.seq (.r [.n 87 3,.n 2 87]) (.ret))
def qbh(a:Nat):IFn:=⟨[.tmp 2],.seq (.r [.m 2 .N]) (.seq (.seq (.r [.n 9 0,.e 10 9,.w 11 .gtr 10 4096]) (.cond (.t 11) (.seq (.r [.m 2 .N]) (.ret)) (.skip))) (.seq (.r [.n 12 0,.e 13 12,.q 14 (.mkS 1 2 [.i .u16 0] (.t 13) (.t 13)),.n 3 14]) (.cut (qaw a))))⟩
theorem qhR{g:Nat}(p:List Ins)(hp:p.length<=4096)(c j:Nat)(hj:j<p.length)(L:List Nat)(hg:qg P g [.fz p.length (rP p),.i .i64 (j:Int)] (.fz L.length (rNt L)))(hLlt:∀m ∈ L,m<p.length)(hL2:L.length<=2)
  (r:List Bool) (hlr:r.length=p.length) (o:List (BitVec 16)) (Q:X->Tr AV->Hp->Prop)
  (hQ:∀t'' h'',Wk 0 t'' h'' (mkT [(0,.fz p.length (rP p)),(3,.sl 0 0 p.length p.length false),(4,.i .i64 (c:Int)),(5,.sl 1 0 p.length p.length false),(6,.i .i64 (j:Int))]) (mkH 0 [.cells 0 true false (rW o),.cells 0 true false (rTt (mkL L r))])->Q .normal t'' h'')
  {t':Tr AV} {h':Hp} (hw:Wk 0 t' h' (mkT [(0,.fz p.length (rP p)),(3,.sl 0 0 p.length p.length false),(4,.i .i64 (c:Int)),(5,.sl 1 0 p.length p.length false),(6,.i .i64 (j:Int))]) (mkH 0 [.cells 0 true false (rW o),.cells 0 true false (rTt r)])) :
  S P 0 (z9 g) Q t' h':=by
 refine S.weak hw (qp ?_);simp only[z9,vI,simprocAttr];simp +decide only[↓vS,vT,simprocAttr];refine hg.sc ?_;simp +decide only[↓vS,vT,simprocAttr]
 refine SL.loop (α:=Nat×List Bool) (fun a=>[(0,.fz p.length (rP p)),(3,.sl 0 0 p.length p.length false),(4,.i .i64 (c:Int)),(5,.sl 1 0 p.length p.length false),(6,.i .i64 (j:Int)),(7,.fz L.length (rNt L)),(8,.i .i64 (a.1:Int))]) (fun a=>[.cells 0 true false (rW o),.cells 0 true false (rTt a.2)])
  (fun a=>a.1<=L.length∧a.2.length=p.length∧mkL (L.drop a.1) a.2=mkL L r) (fun a=>L.length-a.1) (0,r) [0,1] ?_ ?_ ?_ rfl ?_ ?_
 ·simp[vw,qm,zb]
 ·simp[vw,qb,qG,qY]
 ·simp
 ·exact⟨Nat.zero_le _,hlr,rfl⟩
 rintro⟨k,r2⟩ ⟨hk,hlr2,hJ⟩ G2 ih2;simp only at hk hlr2 hJ;simp only[vI,simprocAttr]
 by_cases hkl:k<L.length
 ·obtain⟨m,hm⟩:∃m,L[k]?=some m:=⟨_,zzE hkl⟩;have hml:=hLlt m (zzM hm)
  have hdk:L.drop k=m::L.drop (k+1):=by
   obtain⟨hh,he⟩:=zzS.1 hm;rw[List.drop_eq_getElem_cons hh,he]
  rw[hdk,qkj] at hJ
  have hw2:IntKind.wrap .i64 ((k:Int)+1)=((k+1:Nat):Int):=by
   rw[qv (by omega) (by omega)];omega
  have hs0:m+1<=(rTt r2).length:=by rw[qez];omega
  have hs1:=qgX (s:=r2) (j:=m) (by omega) true;simp +decide only[↓vS,vT,simprocAttr,hkl,Nat.mul_one,qi1,hm,Option.map_some,hml,hs0,hs1,hw2];refine ih2 (k+1,r2.set m true) ⟨hkl,by simp[hlr2],hJ⟩ (by simp only;omega) _ _ (Wk.mk _ _ [0,1] ?_ ?_ ?_ rfl)
  ·simp[vw,qm,zb]
  ·simp[vw,qb,qG,qY]
  ·simp
 ·obtain rfl:k=L.length:=by omega
  rw[List.drop_length] at hJ;have hJ:r2=mkL L r:=hJ;simp +decide only[↓vS,vT,simprocAttr,hkl];rw[← hJ] at hQ;refine hQ _ _ (Wk.mk _ _ [0,1] ?_ ?_ ?_ rfl)
  ·simp[vw,qm,zb]
  ·simp[vw,qb,qG,qY]
  ·simp
theorem ql9{g:Nat}(hg:qlu P g)(p:List Ins)(hp:p.length<=4096)(hi:∀i ∈ p,InsOk i)(c:Nat)(hc:c<16)(un0:List Bool)(hu0:un0.length=p.length)(out0:List (BitVec 16))(ho0:out0.length=p.length)(Q:X->Tr AV->Hp->Prop)
  (hQ:∀t'' h'',Wk 0 t'' h'' (mkT [(0,.fz p.length (rP p)),(3,.sl 0 0 p.length p.length false),(4,.i .i64 (c:Int))]) (mkH 0 [.cells 0 true false (rW (qeJ p.length c 0 p (un0,out0)).2)])->Q .normal t'' h'')
  {t':Tr AV} {h':Hp} (hw:Wk 0 t' h' (mkT [(0,.fz p.length (rP p)),(3,.sl 0 0 p.length p.length false),(4,.i .i64 (c:Int)),(5,.sl 1 0 p.length p.length false)]) (mkH 0 [.cells 0 true false (rW out0),.cells 0 true false (rTt un0)])) :
  S P 0 (xg g) Q t' h':=by
 refine S.weak hw (qp ?_);have hc0:(0:Int)<=(c:Int):=by omega
 have hsh:qsE .u16 1 (c:Int)=((cell (c:Int)).toNat:Int):=qyo hc0 (by omega);have hcv:IntKind.wrap .u32 (c:Int)=(c:Int):=by show (c:Int) % 4294967296=_;omega
 simp only[xg,vI,simprocAttr];simp +decide only[↓vS,vT,simprocAttr]
 refine SL.loop (α:=Nat×(List Bool×List (BitVec 16))) (fun a=>[(0,.fz p.length (rP p)),(3,.sl 0 0 p.length p.length false),(4,.i .i64 (c:Int)),(5,.sl 1 0 p.length p.length false),(6,.i .i64 (a.1:Int))]) (fun a=>[.cells 0 true false (rW a.2.2),.cells 0 true false (rTt a.2.1)])
  (fun a=>a.1<=p.length∧a.2.1.length=p.length∧a.2.2.length=p.length∧qeJ p.length c a.1 (p.drop a.1) a.2=qeJ p.length c 0 p (un0,out0)) (fun a=>p.length-a.1) (0,(un0,out0)) [0,1] ?_ ?_ ?_ rfl ?_ ?_
 ·simp[vw,qm]
 ·simp[vw,qb,qG,qY]
 ·simp
 ·exact⟨Nat.zero_le _,hu0,ho0,rfl⟩
 rintro⟨j,r,o⟩ ⟨hj,hlr,hlo,hI⟩ G ih;simp only at hj hlr hlo hI;simp only[vI,simprocAttr]
 by_cases hlt:j<p.length
 ·obtain⟨i,hpi⟩:∃i,p[j]?=some i:=⟨_,zzE hlt⟩;have hii:=hi i (zzM hpi)
  have hdr:p.drop j=i::p.drop (j+1):=by
   obtain⟨hh,he⟩:=zzS.1 hpi;rw[List.drop_eq_getElem_cons hh,he]
  obtain⟨b,hb⟩:∃b,r[j]?=some b:=⟨_,zzE (by omega)⟩;obtain⟨y,hy⟩:∃y,o[j]?=some y:=⟨_,zzE (by omega)⟩;have hI2:qeJ p.length c (j+1) (p.drop (j+1)) (stS p.length c j i (r,o))=qeJ p.length c 0 p (un0,out0):=by rw[← hI,hdr];rfl
  unfold stS at hI2;simp only[List.getD_eq_getElem?_getD,hb,hy,Option.getD_some] at hI2;have hw1:IntKind.wrap .i64 ((j:Int)+1)=((j+1:Nat):Int):=by rw[qv (by omega) (by omega)];omega
  have fin:∀(r2:List Bool) (o2:List (BitVec 16)),r2.length=p.length->o2.length=p.length->qeJ p.length c (j+1) (p.drop (j+1)) (r2,o2)=qeJ p.length c 0 p (un0,out0)->∀Qc:X->Tr AV->Hp->Prop,(∀t h,G t h->Qc .normal t h)->∀{t':Tr AV} {h':Hp},Wk 0 t' h' (mkT [(0,.fz p.length (rP p)),(3,.sl 0 0 p.length p.length false),(4,.i .i64 (c:Int)),(5,.sl 1 0 p.length p.length false),(6,.i .i64 (j:Int))]) (mkH 0 [.cells 0 true false (rW o2),.cells 0 true false (rTt r2)])->S P 0 (z8 g) Qc t' h':=by
   intro r2 o2 e1 e2 e3 Qc hQc t' h' hw;refine S.weak hw (qp ?_);simp only[z8,vI,simprocAttr];simp +decide only[↓vS,vT,simprocAttr,hw1];refine hQc _ _ (ih (j+1,(r2,o2)) ⟨hlt,e1,e2,e3⟩ (by simp only;omega) _ _ (Wk.mk _ _ [0,1] ?_ ?_ ?_ rfl))
   ·simp[vw,qm]
   ·simp[vw,qb,qG,qY]
   ·simp
  have g0:=xN (f:=zl) (m:=4) zP hpi (i:=0) (by omega);have g3:=xN (f:=zl) (m:=4) zP hpi (i:=3) (by omega);rw[show p.flatMap zl=rP p from rfl] at g0 g3
  simp only[zl,Nat.add_zero,List.getElem?_cons_zero,List.getElem?_cons_succ] at g0 g3;cases b with
  | false =>
   rw[if_pos rfl] at hI2;have hs0:j+1<=(rW o).length:=by rw[qk9];omega
   have hs1:=qvQ (s:=o) (j:=j) (by omega) (y ||| cell (c:Int))
   simp +decide only[↓vS,vT,simprocAttr,hlt,Nat.mul_one,qbl,hb,Option.map_some];refine qaB ?_;simp +decide only[↓vS,vT,simprocAttr,hlt,Nat.mul_one,qk8,hy,Option.map_some,hc0,hsh,qzf,hs0,hs1];refine fin r (o.set j (y ||| cell (c:Int))) hlr (by simp[hlo]) hI2 _ (fun _ _ h=>h) (Wk.mk _ _ [0,1] ?_ ?_ ?_ rfl)
   ·simp[vw,qm]
   ·simp[vw,qb,qG,qY]
   ·simp
  | true =>
   rw[if_neg (by simp)] at hI2
   by_cases hwc:wrC i c=true
   ·rw[if_pos hwc] at hI2;have hk:i.k=(c:Int):=by unfold wrC at hwc;simp at hwc;exact hwc.2
    have hcd:i.code=2∨i.code=3:=by unfold wrC at hwc;simp at hwc;exact hwc.1
    rcases hcd with hcd|hcd<;>(
     simp +decide only[↓vS,vT,simprocAttr,hlt,Nat.mul_one,qbl,hb,Option.map_some,g0,hcd,g3,hk,hcv];refine fin r o hlr hlo hI2 _ (fun _ _ h=>h) (Wk.mk _ _ [0,1] ?_ ?_ ?_ rfl)
     ·simp[vw,qm]
     ·simp[vw,qb,qG,qY]
     ·simp)
   rw[if_neg hwc] at hI2;have hnx:=hg p hp j i hpi hii;have hLlt:=qlP (n:=p.length) (j:=j) (i:=i);have hL2:=qio (n:=p.length) (j:=j) (i:=i);generalize qf9 p.length i j=L at hI2 hLlt hL2 hnx
   have hcs:¬(i.code=2∨i.code=3)∨¬i.k=(c:Int):=by
    unfold wrC at hwc;simp at hwc
    by_cases h:i.code=2∨i.code=3
    ·exact .inr (hwc h)
    ·exact .inl h
   by_cases e2:i.code=2
   ·have hk:¬i.k=(c:Int):=hcs.elim (fun h=>absurd (.inl e2) h) id
    simp +decide only[↓vS,vT,simprocAttr,hlt,Nat.mul_one,qbl,hb,Option.map_some,g0,e2,g3,hk,hcv];refine qhR p hp c j hlt L hnx hLlt hL2 r hlr o _ ?_ (Wk.mk _ _ [0,1] ?_ ?_ ?_ rfl)
    ·intro t'' h'' hw2;simp +decide only[↓vS,vT,simprocAttr];exact fin (mkL L r) o (by rw[qev];exact hlr) hlo hI2 _ (fun _ _ h=>h) hw2
    ·simp[vw,qm]
    ·simp[vw,qb,qG,qY]
    ·simp
   by_cases e3:i.code=3
   ·have hk:¬i.k=(c:Int):=hcs.elim (fun h=>absurd (.inr e3) h) id
    simp +decide only[↓vS,vT,simprocAttr,hlt,Nat.mul_one,qbl,hb,Option.map_some,g0,e3,g3,hk,hcv];refine qhR p hp c j hlt L hnx hLlt hL2 r hlr o _ ?_ (Wk.mk _ _ [0,1] ?_ ?_ ?_ rfl)
    ·intro t'' h'' hw2;simp +decide only[↓vS,vT,simprocAttr];exact fin (mkL L r) o (by rw[qev];exact hlr) hlo hI2 _ (fun _ _ h=>h) hw2
    ·simp[vw,qm]
    ·simp[vw,qb,qG,qY]
    ·simp
   simp +decide only[↓vS,vT,simprocAttr,hlt,Nat.mul_one,qbl,hb,Option.map_some,g0,e2,e3];refine qhR p hp c j hlt L hnx hLlt hL2 r hlr o _ ?_ (Wk.mk _ _ [0,1] ?_ ?_ ?_ rfl)
   ·intro t'' h'' hw2;simp +decide only[↓vS,vT,simprocAttr];exact fin (mkL L r) o (by rw[qev];exact hlr) hlo hI2 _ (fun _ _ h=>h) hw2
   ·simp[vw,qm]
   ·simp[vw,qb,qG,qY]
   ·simp
 ·obtain rfl:j=p.length:=by omega
  rw[List.drop_length] at hI;have hI:(r,o)=qeJ p.length c 0 p (un0,out0):=hI;rw[← hI] at hQ;simp +decide only[↓vS,vT,simprocAttr,hlt];refine hQ _ _ (Wk.mk _ _ [0] ?_ ?_ ?_ rfl)
  ·simp[vw,qm]
  ·simp[vw,qb,qY]
  ·simp
theorem qiv{p:List Ins}{k:Nat}{out:List (BitVec 16)}:qnC p (k+1) out=qnC p k (qeJ p.length (16-(k+1)) 0 p (st0 p.length,out)).2:=rfl
theorem qw1{g:Nat}(hc:qd P f (qbh g)=true)(hg:qlu P g)(p:List Ins)(hp:p.length<=4096)(hi:∀i ∈ p,InsOk i):qg P f [.fz p.length (rP p)] (.fz p.length (rW (qjd p))):=by
 refine qg.mk hc (by simp[qF,clo,qm]) ?_;have hz3:¬(4096:Int)<(p.length:Int):=by omega
 have hr1:p.length<=qe:=by simp only[qe];omega
 have hr2:2*p.length<=qe:=by simp only[qe];omega
 have hr3:1*p.length<=qe:=by simp only[qe];omega
 simp only[qbh,vI,simprocAttr];simp +decide only[↓vS,vT,simprocAttr,hz3,hr1,hr2,qyn];refine qp ?_;simp only[qaw,vI,simprocAttr];simp +decide only[↓vS,vT,simprocAttr]
 refine SL.loop (α:=Nat×List (BitVec 16)) (fun a=>[(0,.fz p.length (rP p)),(3,.sl 0 0 p.length p.length false),(4,.i .i64 (a.1:Int))]) (fun a=>[.cells 0 true false (rW a.2)])
  (fun a=>a.1<=16∧a.2.length=p.length∧qnC p (16-a.1) a.2=qjd p) (fun a=>16-a.1) (0,List.replicate p.length 0#16) [0] ?_ ?_ ?_ rfl ?_ ?_
 ·simp[vw,qm]
 ·simp[vw,qb,qY]
 ·simp
 ·exact⟨Nat.zero_le _,by simp,rfl⟩
 rintro⟨c,o⟩ ⟨hc16,hlo,hI⟩ G ih;simp only at hc16 hlo hI;simp only[vI,simprocAttr]
 by_cases hlt:c<16
 ·have hlt':(c:Int)<16:=by omega
  have e16:16-c=(15-c)+1:=by omega
  rw[e16,qiv,show 16-(15-c+1)=c from by omega,show 15-c=16-(c+1) from by omega] at hI
  have hw1:IntKind.wrap .i64 ((c:Int)+1)=((c+1:Nat):Int):=by rw[qv (by omega) (by omega)];omega
  have hsl:=qhQ (n:=p.length) (c:=c) (L:=p) (j:=0) (st:=(st0 p.length,o));have hst:(st0 p.length).length=p.length:=by simp[st0]
  have fin:∀Qc:X->Tr AV->Hp->Prop,(∀t h,G t h->Qc .normal t h)->∀{t':Tr AV} {h':Hp},Wk 0 t' h' (mkT [(0,.fz p.length (rP p)),(3,.sl 0 0 p.length p.length false),(4,.i .i64 (c:Int))]) (mkH 0 [.cells 0 true false (rW (qeJ p.length c 0 p (st0 p.length,o)).2)])->S P 0 (z7 g) Qc t' h':=by
   intro Qc hQc t' h' hw;refine S.weak hw (qp ?_);simp only[z7,vI,simprocAttr];simp +decide only[↓vS,vT,simprocAttr,hw1];refine hQc _ _ (ih (c+1,_) ⟨hlt,hsl.2.trans hlo,hI⟩ (by simp only;omega) _ _ (Wk.mk _ _ [0] ?_ ?_ ?_ rfl))
   ·simp[vw,qm]
   ·simp[vw,qb,qY]
   ·simp
  by_cases h0:p.length=0
  ·have h0':¬(0:Int)<(p.length:Int):=by omega
   have hst2:st0 p.length=List.replicate p.length false:=by unfold st0;rw[h0];rfl
   simp +decide only[↓vS,vT,simprocAttr,hlt',hr1,hr3,ql2,h0'];refine ql9 hg p hp hi c hlt (st0 p.length) hst o hlo _ ?_ (Wk.mk _ _ [0,1] ?_ ?_ ?_ rfl)
   ·intro t'' h'' hw2;simp +decide only[↓vS,vT,simprocAttr];exact fin _ (fun _ _ h=>h) hw2
   ·simp[vw,qm]
   ·simp[vw,qb,qG,qY,hst2]
   ·simp
  ·have h0':(0:Int)<(p.length:Int):=by omega
   have h0n:0<p.length:=by omega
   have hs0:1<=(rTt (List.replicate p.length false)).length:=by rw[qez];simp;omega
   have hs1:AV.b true::List.drop 1 (rTt (List.replicate p.length false))=rTt (st0 p.length):=qgX (s:=List.replicate p.length false) (j:=0) (by simp;omega) true;simp +decide only[↓vS,vT,simprocAttr,hlt',hr1,hr3,ql2,h0',h0n,hs0,hs1];refine ql9 hg p hp hi c hlt (st0 p.length) hst o hlo _ ?_ (Wk.mk _ _ [0,1] ?_ ?_ ?_ rfl)
   ·intro t'' h'' hw2;simp +decide only[↓vS,vT,simprocAttr];exact fin _ (fun _ _ h=>h) hw2
   ·simp[vw,qm]
   ·simp[vw,qb,qG,qY]
   ·simp
 ·obtain rfl:c=16:=by omega
  have hI:o=qjd p:=hI;rw[← hI];simp +decide only[↓vS,vT,simprocAttr];refine Frz.cut 1 rfl (Nat.le_refl _) ?_;have ht:(rW o).take p.length=rW o:=List.take_of_length_le (by rw[qk9];omega);simp[vZ,vP,Tr.get_set,zn qY,ht,qk9,hlo]
def rdC(i:Ins):Bool:=(decide (i.code=96)||decide (i.code=97))&&decide (i.k<16)
def unC(rch:List Bool)(sur:List (BitVec 16))(j:Nat)(i:Ins):Bool:=rch.getD j false&&rdC i && !(sur.getD j 0#16).getLsbD i.k.toNat
def qgh(rch:List Bool)(sur:List (BitVec 16)):Nat->List Ins->List Nat->List Nat
 | _,[],l=>l
 | j,i::L,l=>qgh rch sur (j+1) L (if unC rch sur j i=true then l++[j] else l)
def qgg(p:List Ins):List Nat:=qgh (qfM p.length 0 p (st0 p.length)) (qjd p) 0 p []
theorem qxt(x:BitVec 16){k:Int}(h0:0<=k)(h:k<16):(qp8 .u16 (x.toNat:Int) k).tmod 2=if x.getLsbD k.toNat=true then 1 else 0:=by
 have hm:min k.toNat 16=k.toNat:=by omega
 unfold qp8;rw[show IntKind.bits .u16=16 from rfl,hm]
 have hp:(2:Int) ^ k.toNat=((2 ^ k.toNat:Nat):Int):=by simp
 rw[hp,Int.fdiv_eq_ediv_of_nonneg _ (Int.natCast_nonneg _),← Int.natCast_ediv];rw[BitVec.getLsbD,Nat.testBit_eq_decide_div_mod_eq];have:((x.toNat / 2 ^ k.toNat:Nat):Int).tmod 2=((x.toNat / 2 ^ k.toNat % 2:Nat):Int):=by rw[Int.tmod_eq_emod_of_nonneg (Int.natCast_nonneg _)];omega
 rw[this]
 by_cases hb:x.toNat / 2 ^ k.toNat % 2=1
 ·rw[hb];simp
 ·have:x.toNat / 2 ^ k.toNat % 2=0:=by omega
  rw[this];simp
def zN(a b:Nat):ICode:=.r [.n 16 6,.a 17 16 1,.n 6 17]
def zO(a b:Nat):ICode:=.seq (.reg true [.n 40 5,.n 41 6,.i 42 1 40 41,.d 43 42,.n 44 43,.y 45 7 44,.p 46 44 45,.n 47 46,.y 48 4 47,.y 49 6 47,.g 50 (.iAddrS 1 (.t 48) (.t 49)) 47 true,.j 51 50 47 true,.y 52 0 47,.y 53 6 47,.g 54 (.iAddrS 4 (.t 52) (.t 53)) 47 true,.h 55 3 54 47 true,.j 56 55 47 true,.g 57 (.bin .shr (.t 51) (.t 56)) 47 true,.g 58 (.bin .rem (.t 57) (.c (.i .u16 2))) 47 true,.g 59 (.bin .eql (.t 58) (.c (.i .u16 0))) 47 true,.p 60 47 59]) (.cond (.t 60) (.r [.n 61 3,.n 62 6,.q 63 (.buildS 1 [.i .i64 0] [(0,1,(.t 62))]),.q 64 (.app 1 8 true (.t 61) (.t 63)),.n 3 64]) (.skip))
def qaD(a b:Nat):IFn:=⟨[.tmp 2],.seq (.r [.m 2 .N]) (.seq (.r [.m 3 .N]) (.seq (.r [.n 8 0,.l 9 a [.t 8],.n 10 0,.l 11 b [.t 10],.n 4 9,.n 5 11]) (.seq (.seq (.r [.m 6 (.k 0)]) (.blk 0 (.loop (.seq (.seq (.r [.n 12 6,.n 13 4,.e 14 13,.s 15 12 14]) (.cond (.t 15) (.skip) (.exit 0))) (.seq (.blk 1 (.seq (.r [.n 18 0,.n 19 6,.i 20 4 18 19,.f 21 0 20,.d 22 21,.q 23 (.bin .eql (.t 22) (.c (.i .u16 96))),.n 24 23,.z 25 0 24,.z 26 6 24,.g 27 (.iAddrS 4 (.t 25) (.t 26)) 24 false,.h 28 0 27 24 false,.j 29 28 24 false,.g 30 (.bin .eql (.t 29) (.c (.i .u16 97))) 24 false,.o 31 24 30,.n 32 31,.y 33 0 32,.y 34 6 32,.g 35 (.iAddrS 4 (.t 33) (.t 34)) 32 true,.h 36 3 35 32 true,.j 37 36 32 true,.g 38 (.bin .lss (.t 37) (.c (.i .u32 16))) 32 true,.p 39 32 38,.n 7 39]) (.cut (zO a b)))) (.cut (zN a b))))))) (.seq (.r [.n 65 3,.n 2 65]) (.ret)))))⟩
theorem qw6{g1 g2:Nat}(hc:qd P f (qaD g1 g2)=true)
  (h1:∀p:List Ins,p.length<=4096->(∀i ∈ p,InsOk i)->qg P g1 [.fz p.length (rP p)] (.fz p.length (rW (qjd p))))
  (h2:∀p:List Ins,p.length<=4096->(∀i ∈ p,InsOk i)->qg P g2 [.fz p.length (rP p)] (.fz p.length (rTt (qfM p.length 0 p (st0 p.length)))))
  (p:List Ins) (hp:p.length<=4096) (hi:∀i ∈ p,InsOk i) (hsl:(qjd p).length=p.length) (hrl:(qfM p.length 0 p (st0 p.length)).length=p.length):qg P f [.fz p.length (rP p)] (.fz (qgg p).length (rNt (qgg p))):=by
 refine qg.mk hc (by simp[qF,clo,qm]) ?_;simp only[qaD,vI,simprocAttr];simp +decide only[↓vS,vT,simprocAttr];refine (h1 p hp hi).sc ?_;simp +decide only[↓vS,vT,simprocAttr];refine (h2 p hp hi).sc ?_;simp +decide only[↓vS,vT,simprocAttr];unfold qgg;generalize qjd p=sur at hsl ⊢;generalize qfM p.length 0 p (st0 p.length)=rch at hrl ⊢
 refine SL.loop (α:=Nat×List Nat) (fun a=>[(0,.fz p.length (rP p)),(3,.own 0 a.2.length),(4,.fz p.length (rW sur)),(5,.fz p.length (rTt rch)),(6,.i .i64 (a.1:Int))]) (fun a=>[.cells 1 true true (rNt a.2)])
  (fun a=>a.1<=p.length∧a.2.length<=a.1∧qgh rch sur a.1 (p.drop a.1) a.2=qgh rch sur 0 p []) (fun a=>p.length-a.1) (0,[]) [99] ?_ ?_ ?_ rfl ?_ ?_
 ·simp[vw,qm,qY,qG]
 ·simp[vw]
 ·simp
 ·exact⟨Nat.zero_le _,Nat.le_refl _,rfl⟩
 rintro⟨j,l⟩ ⟨hj,hl,hI⟩ G ih;simp only at hj hl hI;simp only[vI,simprocAttr]
 by_cases hlt:j<p.length
 ·obtain⟨i,hpi⟩:∃i,p[j]?=some i:=⟨_,zzE hlt⟩;have hii:=hi i (zzM hpi)
  have hdr:p.drop j=i::p.drop (j+1):=by
   obtain⟨hh,he⟩:=zzS.1 hpi;rw[List.drop_eq_getElem_cons hh,he]
  obtain⟨b,hb⟩:∃b,rch[j]?=some b:=⟨_,zzE (by omega)⟩;obtain⟨y,hy⟩:∃y,sur[j]?=some y:=⟨_,zzE (by omega)⟩;have hI2:qgh rch sur (j+1) (p.drop (j+1)) (if unC rch sur j i=true then l++[j] else l)=qgh rch sur 0 p []:=by rw[← hI,hdr];rfl
  have hw1:IntKind.wrap .i64 ((j:Int)+1)=((j+1:Nat):Int):=by rw[qv (by omega) (by omega)];omega
  have g0:=xN (f:=zl) (m:=4) zP hpi (i:=0) (by omega);have g3:=xN (f:=zl) (m:=4) zP hpi (i:=3) (by omega);rw[show p.flatMap zl=rP p from rfl] at g0 g3
  simp only[zl,Nat.add_zero,List.getElem?_cons_zero,List.getElem?_cons_succ] at g0 g3
  have fin:∀l2:List Nat,l2.length<=j+1->qgh rch sur (j+1) (p.drop (j+1)) l2=qgh rch sur 0 p []->∀Qc:X->Tr AV->Hp->Prop,(∀t h,G t h->Qc .normal t h)->∀{t':Tr AV} {h':Hp},Wk 0 t' h' (mkT [(0,.fz p.length (rP p)),(3,.own 0 l2.length),(4,.fz p.length (rW sur)),(5,.fz p.length (rTt rch)),(6,.i .i64 (j:Int))]) (mkH 0 [.cells 1 true true (rNt l2)])->S P 0 (zN g1 g2) Qc t' h':=by
   intro l2 e1 e2 Qc hQc t' h' hw;refine S.weak hw (qp ?_);simp only[zN,vI,simprocAttr];simp +decide only[↓vS,vT,simprocAttr,hw1];refine hQc _ _ (ih (j+1,l2) ⟨hlt,e1,e2⟩ (by simp only;omega) _ _ (Wk.mk _ _ [0] ?_ ?_ ?_ rfl))
   ·simp[vw,qm,qY,qG]
   ·simp[vw,qb,zb]
   ·simp
  have c40:∀Qc:X->Tr AV->Hp->Prop,(∀l2 t'' h'',l2.length<=j+1->qgh rch sur (j+1) (p.drop (j+1)) l2=qgh rch sur 0 p []->Wk 0 t'' h'' (mkT [(0,.fz p.length (rP p)),(3,.own 0 l2.length),(4,.fz p.length (rW sur)),(5,.fz p.length (rTt rch)),(6,.i .i64 (j:Int))]) (mkH 0 [.cells 1 true true (rNt l2)])->Qc .normal t'' h'')->∀{t':Tr AV} {h':Hp},Wk 0 t' h' (mkT [(0,.fz p.length (rP p)),(3,.own 0 l.length),(4,.fz p.length (rW sur)),(5,.fz p.length (rTt rch)),(6,.i .i64 (j:Int)),(7,.b (rdC i))]) (mkH 0 [.cells 1 true true (rNt l)])->S P 0 (zO g1 g2) Qc t' h':=by
   intro Qc hQc t' h' hw;refine S.weak hw (qp ?_);have h20:(2:Int)≠0:=by decide
   have hr1:l.length+1<=qe:=by simp only[qe];omega
   have hr2:(l.length+1)*8<=qe:=by simp only[qe];omega
   have hap:rNt l++[.i .i64 (j:Int)]=rNt (l++[j]):=by rw[← qlX];rfl
   have hll:(rNt l).length=l.length:=qi2;have hk0:=hii.k0;unfold unC at hI2;simp only[List.getD_eq_getElem?_getD,hb,hy,Option.getD_some] at hI2;simp only[zO,vI,simprocAttr];refine qaB ?_;cases b with
   | false =>
    simp +decide only[↓vS,vT,simprocAttr,hlt,Nat.mul_one,qbl,hb,Option.map_some];rw[if_neg (by simp)] at hI2;refine hQc l _ _ (by omega) hI2 (Wk.mk _ _ [0] ?_ ?_ ?_ rfl)
    ·simp[vw,qm,qY,qG]
    ·simp[vw,qb,zb]
    ·simp
   | true =>
   cases hrc:rdC i with
   | false =>
    rw[hrc] at hI2;simp +decide only[↓vS,vT,simprocAttr,hlt,Nat.mul_one,qbl,hb,Option.map_some];rw[if_neg (by simp)] at hI2;refine hQc l _ _ (by omega) hI2 (Wk.mk _ _ [0] ?_ ?_ ?_ rfl)
    ·simp[vw,qm,qY,qG]
    ·simp[vw,qb,zb]
    ·simp
   | true =>
   have hk16:i.k<16:=by unfold rdC at hrc;simp at hrc;exact hrc.2
   have hbt:=qxt y hk0 hk16;rw[hrc] at hI2;cases hbb:y.getLsbD i.k.toNat with
   | true =>
    rw[hbb] at hI2 hbt;rw[if_pos rfl] at hbt;simp +decide only[↓vS,vT,simprocAttr,hlt,Nat.mul_one,qbl,hb,Option.map_some,qk8,hy,g3,hk0,↓xl h20,hbt];rw[if_neg (by simp)] at hI2;refine hQc l _ _ (by omega) hI2 (Wk.mk _ _ [0] ?_ ?_ ?_ rfl)
    ·simp[vw,qm,qY,qG]
    ·simp[vw,qb,zb]
    ·simp
   | false =>
    rw[hbb] at hI2 hbt;rw[if_neg (by simp)] at hbt;rw[if_pos (by simp)] at hI2;simp +decide only[↓vS,vT,simprocAttr,hlt,Nat.mul_one,qbl,hb,Option.map_some,qk8,hy,g3,hk0,↓xl h20,hbt,hr1,hr2,hll,hap];refine hQc (l++[j]) _ _ (by simp;omega) hI2 (Wk.mk _ _ [2] ?_ ?_ ?_ rfl)
    ·simp[vw,qm,qY,qG]
    ·simp[vw,qb,zb]
    ·simp
  clear ih
  by_cases hk16:i.k<16
  ·by_cases e1:i.code=96
   ·have hrc:rdC i=true:=by unfold rdC;simp[e1,hk16]
    simp +decide only[↓vS,vT,simprocAttr,hlt,g0,g3,e1,hk16];refine c40 _ ?_ (Wk.mk _ _ [0] ?_ ?_ ?_ rfl)
    ·intro l2 t'' h'' q1 q2 hw2;simp +decide only[↓vS,vT,simprocAttr];exact fin l2 q1 q2 _ (fun _ _ h=>h) hw2
    ·simp[vw,qm,qY,qG,hrc]
    ·simp[vw,qb,zb]
    ·simp
   by_cases e2:i.code=97
   ·have hrc:rdC i=true:=by unfold rdC;simp[e2,hk16]
    simp +decide only[↓vS,vT,simprocAttr,hlt,g0,g3,e1,e2,hk16];refine c40 _ ?_ (Wk.mk _ _ [0] ?_ ?_ ?_ rfl)
    ·intro l2 t'' h'' q1 q2 hw2;simp +decide only[↓vS,vT,simprocAttr];exact fin l2 q1 q2 _ (fun _ _ h=>h) hw2
    ·simp[vw,qm,qY,qG,hrc]
    ·simp[vw,qb,zb]
    ·simp
   have hrc:rdC i=false:=by unfold rdC;simp[e1,e2]
   simp +decide only[↓vS,vT,simprocAttr,hlt,g0,g3,e1,e2];refine c40 _ ?_ (Wk.mk _ _ [0] ?_ ?_ ?_ rfl)
   ·intro l2 t'' h'' q1 q2 hw2;simp +decide only[↓vS,vT,simprocAttr];exact fin l2 q1 q2 _ (fun _ _ h=>h) hw2
   ·simp[vw,qm,qY,qG,hrc]
   ·simp[vw,qb,zb]
   ·simp
  ·have hrc:rdC i=false:=by unfold rdC;simp[hk16]
   by_cases e1:i.code=96
   ·simp +decide only[↓vS,vT,simprocAttr,hlt,g0,g3,e1,hk16];refine c40 _ ?_ (Wk.mk _ _ [0] ?_ ?_ ?_ rfl)
    ·intro l2 t'' h'' q1 q2 hw2;simp +decide only[↓vS,vT,simprocAttr];exact fin l2 q1 q2 _ (fun _ _ h=>h) hw2
    ·simp[vw,qm,qY,qG,hrc]
    ·simp[vw,qb,zb]
    ·simp
   by_cases e2:i.code=97
   ·simp +decide only[↓vS,vT,simprocAttr,hlt,g0,g3,e1,e2,hk16];refine c40 _ ?_ (Wk.mk _ _ [0] ?_ ?_ ?_ rfl)
    ·intro l2 t'' h'' q1 q2 hw2;simp +decide only[↓vS,vT,simprocAttr];exact fin l2 q1 q2 _ (fun _ _ h=>h) hw2
    ·simp[vw,qm,qY,qG,hrc]
    ·simp[vw,qb,zb]
    ·simp
   simp +decide only[↓vS,vT,simprocAttr,hlt,g0,g3,e1,e2];refine c40 _ ?_ (Wk.mk _ _ [0] ?_ ?_ ?_ rfl)
   ·intro l2 t'' h'' q1 q2 hw2;simp +decide only[↓vS,vT,simprocAttr];exact fin l2 q1 q2 _ (fun _ _ h=>h) hw2
   ·simp[vw,qm,qY,qG,hrc]
   ·simp[vw,qb,zb]
   ·simp
 ·obtain rfl:j=p.length:=by omega
  rw[List.drop_length] at hI;have hI:l=qgh rch sur 0 p []:=hI;rw[← hI];simp +decide only[↓vS,vT,simprocAttr,hlt];simp[vZ,vP,Tr.get_set,zn zb];intro h0;rw[h0];rfl
def spN:List (List UInt8):=[[108,100,97,98,115],[108,100,109],[108,100,120,109],[115,116],[115,116,120],[100,105,118],[108,115,104],[114,115,104],[106,97]]
def spC:List Int:=[32,96,97,2,3,52,100,116,5]
theorem qnD:∀x ∈ xT,spC.contains x.1=false->spN.contains x.2.1=false∧x.2.1≠[]∧x.2.2≠2:=by decide
theorem qda{c:Int}{x:Int×List UInt8×Int}(h:qy c=some x):x ∈ xT∧x.1=c:=by
 unfold qy at h;have h1:=List.mem_of_find?_eq_some h;have h2:=List.find?_some h;exact⟨h1,by simpa using h2⟩
def qbt(a:Nat):IFn:=⟨[.tmp 4],.seq (.r [.q 2 (.box (.t 0)),.m 4 (.k 0)]) (.seq (.seq (.r [.n 6 1,.w 7 .lss 6 0]) (.cond (.t 7) (.r [.m 1 (.k 0)]) (.skip))) (.seq (.r [.f 8 0 2,.d 9 8,.l 10 a [.t 9],.q 5 (.alloc [.i .u16 0,.s [],.i .u8 0]),.u (.store 3 (.t 5) (.t 10))]) (.seq (.seq (.r [.f 11 1 5,.d 12 11,.q 13 (.bin .eql (.t 12) (.c (.s [])))]) (.cond (.t 13) (.seq (.r [.m 4 (.k 40)]) (.ret)) (.skip))) (.seq (.seq (.r [.f 14 1 5,.d 15 14]) (.blk 0 (.seq (.r [.q 17 (.bin .eql (.t 15) (.c (.s [108,100,97,98,115]))),.n 16 17]) (.cond (.t 16) (.seq (.r [.f 18 3 2,.d 19 18,.q 20 (.bin .gtr (.t 19) (.c (.i .u32 60))),.n 21 20,.h 22 3 2 21 false,.j 23 22 21 false,.g 24 (.bin .rem (.t 23) (.c (.i .u32 4))) 21 false,.g 25 (.bin .gtr (.t 24) (.c (.i .u32 0))) 21 false,.o 26 21 25]) (.cond (.t 26) (.seq (.r [.m 4 (.k 41)]) (.ret)) (.skip))) (.seq (.seq (.r [.q 28 (.bin .eql (.t 15) (.c (.s [108,100,109]))),.n 27 28]) (.cond (.t 27) (.skip) (.seq (.r [.q 29 (.bin .eql (.t 15) (.c (.s [108,100,120,109]))),.n 27 29]) (.cond (.t 27) (.skip) (.seq (.r [.q 30 (.bin .eql (.t 15) (.c (.s [115,116]))),.n 27 30]) (.cond (.t 27) (.skip) (.r [.q 31 (.bin .eql (.t 15) (.c (.s [115,116,120]))),.n 27 31]))))))) (.cond (.t 27) (.seq (.r [.f 32 3 2,.d 33 32,.q 34 (.bin .gtr (.t 33) (.c (.i .u32 15)))]) (.cond (.t 34) (.seq (.r [.m 4 (.k 43)]) (.ret)) (.skip))) (.seq (.r [.q 36 (.bin .eql (.t 15) (.c (.s [100,105,118]))),.n 35 36]) (.cond (.t 35) (.seq (.r [.f 37 3 2,.d 38 37,.q 39 (.bin .eql (.t 38) (.c (.i .u32 0)))]) (.cond (.t 39) (.seq (.r [.m 4 (.k 44)]) (.ret)) (.skip))) (.seq (.seq (.r [.q 41 (.bin .eql (.t 15) (.c (.s [108,115,104]))),.n 40 41]) (.cond (.t 40) (.skip) (.r [.q 42 (.bin .eql (.t 15) (.c (.s [114,115,104]))),.n 40 42]))) (.cond (.t 40) (.seq (.r [.f 43 3 2,.d 44 43,.q 45 (.bin .gtr (.t 44) (.c (.i .u32 31)))]) (.cond (.t 45) (.seq (.r [.m 4 (.k 45)]) (.ret)) (.skip))) (.seq (.r [.q 47 (.bin .eql (.t 15) (.c (.s [106,97]))),.n 46 47]) (.cond (.t 46) (.seq (.seq (.r [.f 48 3 2,.d 49 48,.q 50 (.cvInt .i64 (.t 49)),.n 51 1,.b 52 .geq 50 51]) (.cond (.t 52) (.seq (.r [.m 4 (.k 42)]) (.ret)) (.skip))) (.seq (.r [.m 4 (.k 0)]) (.ret))) (.skip))))))))))))) (.seq (.seq (.r [.f 53 2 5,.d 54 53,.q 55 (.bin .eql (.t 54) (.c (.i .u8 4))),.n 56 55,.h 57 1 2 56 true,.j 58 57 56 true,.g 59 (.cvInt .i64 (.t 58)) 56 true,.y 60 1 56,.g 61 (.bin .geq (.t 59) (.t 60)) 56 true,.y 62 61 56,.h 63 2 2 62 false,.j 64 63 62 false,.g 65 (.cvInt .i64 (.t 64)) 62 false,.z 66 1 62,.g 67 (.bin .geq (.t 65) (.t 66)) 62 false,.g 68 (.pick (.t 62) .T (.t 67)) 56 true,.p 69 56 68]) (.cond (.t 69) (.seq (.r [.m 4 (.k 42)]) (.ret)) (.skip))) (.seq (.r [.m 4 (.k 0)]) (.ret)))))))⟩
set_option maxRecDepth 8000 in
theorem qzF{g:Nat}(hc:qd P f (qbt g)=true)(hg:qgj P g)(i:Ins)(hi:InsOk i)(n:Nat)(hn:n<=5000):qg P f [.agg (zl i),.i .i64 n] (.i .i64 (qe8 i n)):=by
 refine qg.mk hc rfl ?_;have hn0:¬(n:Int)<0:=by omega
 have h40:(4:Int)≠0:=by decide
 have hk0:=hi.k0;have ht:i.k.tmod 4=i.k % 4:=Int.tmod_eq_emod_of_nonneg hk0;have hk:IntKind.wrap .i64 i.k=i.k:=by have:=hi.k1;exact qv (by omega) (by omega)
 have hjt:IntKind.wrap .i64 i.jt=i.jt:=by have:=hi.t0;have:=hi.t1;exact qv (by omega) (by omega)
 have hjf:IntKind.wrap .i64 i.jf=i.jf:=by have:=hi.f0;have:=hi.f1;exact qv (by omega) (by omega)
 have hgc:=hg i.code;simp only[qbt,zl,vI,simprocAttr];simp +decide only[↓vS,vT,simprocAttr,hn0];refine hgc.sc ?_;cases hcm:qy i.code with
 | none =>
  have hb:qg5 i=true:=by unfold qg5 zI;rw[hcm];rfl
  unfold qe8;rw[if_pos hb];simp +decide only[↓vS,vT,simprocAttr,zt,zE];simp[vZ]
 | some x =>
  obtain⟨hxm,hxc⟩:=qda hcm;have hb1:qg5 i=false:=by unfold qg5 zI;rw[hcm];rfl
  have hcl:qh i.code=x.2.2:=by unfold qh;rw[hcm];rfl
  unfold qe8;rw[hb1];simp only[zt,xu]
  by_cases hs:spC.contains x.1=false
  ·obtain⟨hn1,hn2,hn3⟩:=qnD x hxm hs;rw[hxc] at hs;simp[spC] at hs;obtain⟨s1,s2,s3,s4,s5,s6,s7,s8,s9⟩:=hs;simp[spN] at hn1;obtain⟨m1,m2,m3,m4,m5,m6,m7,m8,m9⟩:=hn1;have hb2:qaM i=false:=by unfold qaM;simp[s1]
   have hb3:qbF i=false:=by unfold qbF;simp[s2,s3,hcl,hn3]
   have hb4:qbG i=false:=by unfold qbG;simp[s6]
   have hb5:qbH i=false:=by unfold qbH;simp[s7,s8]
   have hb6:qbI i n=(decide (x.2.2=4)&&decide ((n:Int)<=hiM i)):=by unfold qbI;rw[if_neg s9,hcl]
   rw[hb2,hb3,hb4,hb5,hb6];generalize x.2.1=nm at *
   by_cases h4:x.2.2=4
   ·by_cases hj1:(n:Int)<=i.jt
    ·have hh:(n:Int)<=hiM i:=by unfold hiM;split<;>omega
     simp +decide only[↓vS,vT,simprocAttr,hn2,m1,m2,m3,m4,m5,m6,m7,m8,m9,h4,hjt,hj1];simp[vZ,h4,hh]
    ·by_cases hj2:(n:Int)<=i.jf
     ·have hh:(n:Int)<=hiM i:=by unfold hiM;split<;>omega
      simp +decide only[↓vS,vT,simprocAttr,hn2,m1,m2,m3,m4,m5,m6,m7,m8,m9,h4,hjt,hj1,hjf,hj2];simp[vZ,h4,hh]
     ·have hh:¬(n:Int)<=hiM i:=by unfold hiM;split<;>omega
      simp +decide only[↓vS,vT,simprocAttr,hn2,m1,m2,m3,m4,m5,m6,m7,m8,m9,h4,hjt,hj1,hjf,hj2];simp[vZ,h4,hh]
   ·simp +decide only[↓vS,vT,simprocAttr,hn2,m1,m2,m3,m4,m5,m6,m7,m8,m9,h4];simp[vZ,h4]
  ·have hs':i.code=32∨i.code=96∨i.code=97∨i.code=2∨i.code=3∨i.code=52∨i.code=100∨i.code=116∨i.code=5:=by
    rw[hxc] at hs;simp only[spC,Bool.not_eq_false,List.contains_iff_mem,List.mem_cons,List.not_mem_nil,or_false] at hs;exact hs
   clear hs;rcases hs' with hcd|hcd|hcd|hcd|hcd|hcd|hcd|hcd|hcd
   ·have hx:x=(32,[108,100,97,98,115],1):=by rw[hcd] at hcm;exact Option.some.inj (hcm.symm.trans (by decide))
    subst hx;rw[hcd] at hcl;simp only at hcl
    by_cases hq:60<i.k
    ·simp +decide only[↓vS,vT,simprocAttr,hcd,hq]
     by_cases h64:64<=i.k
     ·simp[vZ,qaM,hcd,h64]
     ·have:¬i.k % 4=0:=by omega
      simp[vZ,qaM,hcd,this]
    by_cases hq2:i.k % 4=0
    ·have h64:¬64<=i.k:=by omega
     simp +decide only[↓vS,vT,simprocAttr,hcd,hq,↓xl h40,ht,hq2];simp[vZ,qaM,qbF,qbG,qbH,qbI,hcd,hcl,hq2,h64]
    ·have hq3:0<i.k % 4:=by omega
     simp +decide only[↓vS,vT,simprocAttr,hcd,hq,↓xl h40,ht,hq3];simp[vZ,qaM,hcd,hq2]
   ·have hx:x=(96,[108,100,109],1):=by rw[hcd] at hcm;exact Option.some.inj (hcm.symm.trans (by decide))
    subst hx;rw[hcd] at hcl;simp only at hcl
    by_cases hq:15<i.k
    ·have hq2:16<=i.k:=by omega
     simp +decide only[↓vS,vT,simprocAttr,hcd,hq,hk];simp[vZ,qaM,qbF,qbG,qbH,qbI,hcd,hcl,hq,hq2]
    ·have hq2:¬16<=i.k:=by omega
     simp +decide only[↓vS,vT,simprocAttr,hcd,hq,hk];simp[vZ,qaM,qbF,qbG,qbH,qbI,hcd,hcl,hq,hq2]
   ·have hx:x=(97,[108,100,120,109],1):=by rw[hcd] at hcm;exact Option.some.inj (hcm.symm.trans (by decide))
    subst hx;rw[hcd] at hcl;simp only at hcl
    by_cases hq:15<i.k
    ·have hq2:16<=i.k:=by omega
     simp +decide only[↓vS,vT,simprocAttr,hcd,hq,hk];simp[vZ,qaM,qbF,qbG,qbH,qbI,hcd,hcl,hq,hq2]
    ·have hq2:¬16<=i.k:=by omega
     simp +decide only[↓vS,vT,simprocAttr,hcd,hq,hk];simp[vZ,qaM,qbF,qbG,qbH,qbI,hcd,hcl,hq,hq2]
   ·have hx:x=(2,[115,116],2):=by rw[hcd] at hcm;exact Option.some.inj (hcm.symm.trans (by decide))
    subst hx;rw[hcd] at hcl;simp only at hcl
    by_cases hq:15<i.k
    ·have hq2:16<=i.k:=by omega
     simp +decide only[↓vS,vT,simprocAttr,hcd,hq,hk];simp[vZ,qaM,qbF,qbG,qbH,qbI,hcd,hcl,hq,hq2]
    ·have hq2:¬16<=i.k:=by omega
     simp +decide only[↓vS,vT,simprocAttr,hcd,hq,hk];simp[vZ,qaM,qbF,qbG,qbH,qbI,hcd,hcl,hq,hq2]
   ·have hx:x=(3,[115,116,120],2):=by rw[hcd] at hcm;exact Option.some.inj (hcm.symm.trans (by decide))
    subst hx;rw[hcd] at hcl;simp only at hcl
    by_cases hq:15<i.k
    ·have hq2:16<=i.k:=by omega
     simp +decide only[↓vS,vT,simprocAttr,hcd,hq,hk];simp[vZ,qaM,qbF,qbG,qbH,qbI,hcd,hcl,hq,hq2]
    ·have hq2:¬16<=i.k:=by omega
     simp +decide only[↓vS,vT,simprocAttr,hcd,hq,hk];simp[vZ,qaM,qbF,qbG,qbH,qbI,hcd,hcl,hq,hq2]
   ·have hx:x=(52,[100,105,118],3):=by rw[hcd] at hcm;exact Option.some.inj (hcm.symm.trans (by decide))
    subst hx;rw[hcd] at hcl;simp only at hcl
    by_cases hq:i.k=0
    ·have hq2:=hq;simp +decide only[↓vS,vT,simprocAttr,hcd,hq,hk];simp[vZ,qaM,qbF,qbG,qbH,qbI,hcd,hcl,hq,hq2]
    ·have hq2:=hq;simp +decide only[↓vS,vT,simprocAttr,hcd,hq,hk];simp[vZ,qaM,qbF,qbG,qbH,qbI,hcd,hcl,hq,hq2]
   ·have hx:x=(100,[108,115,104],3):=by rw[hcd] at hcm;exact Option.some.inj (hcm.symm.trans (by decide))
    subst hx;rw[hcd] at hcl;simp only at hcl
    by_cases hq:31<i.k
    ·have hq2:=hq;simp +decide only[↓vS,vT,simprocAttr,hcd,hq,hk];simp[vZ,qaM,qbF,qbG,qbH,qbI,hcd,hcl,hq,hq2]
    ·have hq2:=hq;simp +decide only[↓vS,vT,simprocAttr,hcd,hq,hk];simp[vZ,qaM,qbF,qbG,qbH,qbI,hcd,hcl,hq,hq2]
   ·have hx:x=(116,[114,115,104],3):=by rw[hcd] at hcm;exact Option.some.inj (hcm.symm.trans (by decide))
    subst hx;rw[hcd] at hcl;simp only at hcl
    by_cases hq:31<i.k
    ·have hq2:=hq;simp +decide only[↓vS,vT,simprocAttr,hcd,hq,hk];simp[vZ,qaM,qbF,qbG,qbH,qbI,hcd,hcl,hq,hq2]
    ·have hq2:=hq;simp +decide only[↓vS,vT,simprocAttr,hcd,hq,hk];simp[vZ,qaM,qbF,qbG,qbH,qbI,hcd,hcl,hq,hq2]
   ·have hx:x=(5,[106,97],4):=by rw[hcd] at hcm;exact Option.some.inj (hcm.symm.trans (by decide))
    subst hx;rw[hcd] at hcl;simp only at hcl
    by_cases hq:(n:Int)<=i.k
    ·have hq2:=hq;simp +decide only[↓vS,vT,simprocAttr,hcd,hq,hk];simp[vZ,qaM,qbF,qbG,qbH,qbI,hcd,hcl,hq,hq2]
    ·have hq2:=hq;simp +decide only[↓vS,vT,simprocAttr,hcd,hq,hk];simp[vZ,qaM,qbF,qbG,qbH,qbI,hcd,hcl,hq,hq2]
def qsW(P:Program)(f:Nat):Prop:=∀p:List Ins,(∀i ∈ p,InsOk i)->p.length<=5000->qg P f [.fz p.length (rP p)] (.tup [.i .i64 ((atU p (qgg p)).1:Int),.i .i64 (atU p (qgg p)).2])
def qbQ(a b c:Nat):IFn:=⟨[.tmp 2,.tmp 3],.seq (.r [.m 2 (.k 0),.m 3 (.k 0)]) (.seq (.seq (.r [.n 7 0,.e 8 7,.w 9 .eql 8 0,.n 10 9,.z 11 0 10,.g 12 (.len false (.t 11)) 10 false,.g 13 (.bin .gtr (.t 12) (.k 4096)) 10 false,.o 14 10 13]) (.cond (.t 14) (.seq (.r [.m 2 (.k 0),.m 3 (.k 60)]) (.ret)) (.skip))) (.seq (.seq (.r [.m 4 (.k 0)]) (.blk 0 (.loop (.seq (.seq (.r [.n 15 4,.n 16 0,.e 17 16,.s 18 15 17]) (.cond (.t 18) (.skip) (.exit 0))) (.seq (.blk 1 (.seq (.r [.n 21 0,.n 22 4,.i 23 4 21 22,.v 24 4 23,.n 25 0,.e 26 25,.w 27 .sub 26 1,.n 28 4,.b 29 .sub 27 28,.l 30 a [.t 24,.t 29],.n 5 30]) (.seq (.r [.n 31 5,.w 32 .neq 31 0]) (.cond (.t 32) (.seq (.r [.n 33 4,.n 34 5,.n 2 33,.n 3 34]) (.ret)) (.skip))))) (.r [.n 19 4,.a 20 19 1,.n 4 20])))))) (.seq (.seq (.r [.n 35 0,.n 36 0,.e 37 36,.w 38 .sub 37 1,.i 39 4 35 38,.f 40 0 39,.d 41 40,.l 42 b [.t 41],.q 43 (.fld 2 none (.t 42)),.q 44 (.bin .neq (.t 43) (.c (.i .u8 5)))]) (.cond (.t 44) (.seq (.r [.n 45 0,.e 46 45,.w 47 .sub 46 1,.n 2 47,.m 3 (.k 46)]) (.ret)) (.skip))) (.seq (.r [.n 48 0,.l 49 c [.t 48],.n 6 49]) (.seq (.seq (.r [.n 50 6,.e 51 50,.w 52 .gtr 51 0]) (.cond (.t 52) (.seq (.r [.n 53 6,.q 54 (.iAddrS 1 (.t 53) (.k 0)),.d 55 54,.n 2 55,.m 3 (.k 61)]) (.ret)) (.skip))) (.seq (.r [.m 2 (.k 0),.m 3 (.k 0)]) (.ret)))))))⟩
theorem qzJ{g1 g2 g3:Nat}(hc:qd P f (qbQ g1 g2 g3)=true)(h1:∀i,InsOk i->∀n:Nat,n<=5000->qg P g1 [.agg (zl i),.i .i64 (n:Int)] (.i .i64 (qe8 i n)))(h2:qgj P g2)
  (h3:∀p:List Ins,p.length<=4096->(∀i ∈ p,InsOk i)->qg P g3 [.fz p.length (rP p)] (.fz (qgg p).length (rNt (qgg p)))):qsW P f:=by
 intro p hi hp;refine qg.mk hc (by simp[qF,clo,qm]) ?_;unfold atU;simp only[qbQ,vI,simprocAttr]
 by_cases hz:p.length=0
 ·have hz':(p.length:Int)=0:=by omega
  have hp0:p=[]:=List.eq_nil_of_length_eq_zero hz;rw[if_pos (.inl hz)];subst hp0;simp +decide only[↓vS,vT,simprocAttr,hz',List.length_nil];simp[vZ]
 have hz':¬(p.length:Int)=0:=by omega
 by_cases hb:4096<p.length
 ·have hb':(4096:Int)<p.length:=by omega
  rw[if_pos (.inr hb)];simp +decide only[↓vS,vT,simprocAttr,hz',hb'];simp[vZ]
 have hb':¬(4096:Int)<p.length:=by omega
 rw[if_neg (by omega)];have hl1:IntKind.wrap .i64 ((p.length:Int)-1)=((p.length-1:Nat):Int):=by rw[qv (by omega) (by omega)];omega
 simp +decide only[↓vS,vT,simprocAttr,hz',hb'];refine SL.loop (α:=Nat) (fun j=>[(0,.fz p.length (rP p)),(4,.i .i64 (j:Int))]) (fun _=>[]) (fun j=>j<=p.length∧qgi p.length j (p.drop j)=qgi p.length 0 p) (fun j=>p.length-j) 0 [] ?_ ?_ ?_ rfl ?_ ?_
 ·simp[vw,qm]
 ·trivial
 ·simp
 ·exact⟨Nat.zero_le _,rfl⟩
 rintro j ⟨hj,hI⟩ G ih;simp only[vI,simprocAttr]
 by_cases hlt:j<p.length
 ·obtain⟨i,hpi⟩:∃i,p[j]?=some i:=⟨_,zzE hlt⟩;have hii:=hi i (zzM hpi);have hel:=qaW (f:=zl) (m:=4) zP hpi;rw[show p.flatMap zl=rP p from rfl] at hel
  simp only[zl] at hel;have h4:j*4+4<=(rP p).length:=by rw[qed];omega
  have hdr:p.drop j=i::p.drop (j+1):=by
   obtain⟨hh,he⟩:=zzS.1 hpi;rw[List.drop_eq_getElem_cons hh,he]
  rw[hdr,qg6] at hI;have hw1:IntKind.wrap .i64 ((j:Int)+1)=((j+1:Nat):Int):=by rw[qv (by omega) (by omega)];omega
  have hw2:IntKind.wrap .i64 (((p.length-1:Nat):Int)-(j:Int))=((p.length-1-j:Nat):Int):=by rw[qv (by omega) (by omega)];omega
  have hone:=h1 i hii (p.length-1-j) (by omega);simp only[zl] at hone;simp +decide only[↓vS,vT,simprocAttr,hlt,hel,h4,hl1,hw2];refine hone.sc ?_
  by_cases h0:qe8 i (p.length-1-j)=0
  ·rw[if_pos h0] at hI;simp +decide only[↓vS,vT,simprocAttr,h0,hw1];refine ih (j+1) ⟨hlt,hI⟩ (by omega) _ _ (Wk.mk _ _ [] ?_ ?_ ?_ rfl)
   ·simp[vw,qm]
   ·trivial
   ·simp
  ·rw[if_neg h0] at hI;simp +decide only[↓vS,vT,simprocAttr,h0];rw[← hI];simp[vZ]
 ·obtain rfl:j=p.length:=by omega
  have hd:p.drop p.length=[]:=List.drop_eq_nil_of_le (by omega);rw[hd] at hI;simp only[qgi] at hI;rw[← hI];obtain⟨i,hpi⟩:∃i,p[p.length-1]?=some i:=⟨_,zzE (by omega)⟩;have hlc:qih p=i.code:=by unfold qih;rw[List.getD_eq_getElem?_getD,hpi];rfl
  have hg:=xN (f:=zl) (m:=4) zP hpi (i:=0) (by omega);rw[show p.flatMap zl=rP p from rfl] at hg
  simp only[zl,Nat.add_zero,List.getElem?_cons_zero] at hg;have hlt2:p.length-1<p.length:=by omega
  have hcl:(zt (qy i.code)).length=3∧(zt (qy i.code))[2]?=some (.i .u8 (qh i.code))∧qF (zt (qy i.code))=true:=by
   unfold qh;cases qy i.code<;>exact⟨rfl,rfl,rfl⟩
  have hgc:=h2 i.code;generalize zt (qy i.code)=E at hcl hgc;obtain⟨he1,he2,he3⟩:=hcl;simp +decide only[↓vS,vT,simprocAttr,hlt,hlt2,hl1,hg];refine hgc.sc ?_
  by_cases h5:qh i.code=5
  ·simp +decide only[↓vS,vT,simprocAttr,he2,h5];refine (h3 p (by omega) hi).sc ?_;rw[hlc];cases hu:qgg p with
   | nil =>
    simp +decide only[↓vS,vT,simprocAttr,List.length_nil];simp[vZ,h5]
   | cons a u =>
    have hgt2:0<(a::u).length:=by simp
    have hga:(rNt (a::u))[0]?=some (.i .i64 (a:Int)):=rfl;generalize (a::u).length=m at hgt2 ⊢;generalize rNt (a::u)=T at hga ⊢;have hgt:(0:Int)<(m:Int):=by omega
    simp +decide only[↓vS,vT,simprocAttr,hgt,hgt2,Nat.mul_one,hga];simp[vZ,h5]
  ·simp +decide only[↓vS,vT,simprocAttr,he2,h5,hl1];rw[hlc];simp[vZ,h5]
end Go.Kc
end
section
namespace Go.Kc
end Go.Kc
end
section
namespace Go.Kc
section
variable (p:List Ins)
theorem qky:∀(m:Nat) (out:List (BitVec 16)),(qnC p m out).length=out.length
 | 0,_=>rfl
 | m+1,out=>by rw[qiv,qky m,qhQ.2]
theorem qys:(qjd p).length=p.length:=by unfold qjd;rw[qky];simp
theorem qpZ{n:Nat}:∀(L:List Ins) (j:Nat) (r:List Bool),(qfM n j L r).length=r.length
 | [],_,_=>rfl
 | i::L,j,r=>by
  show (qfM n (j+1) L _).length=_;rw[qpZ L];split
  ·rw[qev]
  ·rfl
end
end Go.Kc
end
section
namespace Go.Kc
variable {P:Program} {f:Nat}
structure Prg where
 dir:Int
 arch:Int
 ins:List Ins




def loW(x:Int):Int:=x % 4294967296
def hiW(x:Int):Int:=x / 4294967296
def qdV(d:GData):List Int:=[d.ip,d.a0,d.a1,d.a2,d.a3,d.a4,d.a5]
def xi(d:GData):List Int:=d.nr::d.arch::(qdV d).flatMap fun x=>[loW x,hiW x]
structure DatOk (d:GData):Prop where
 nr0:0<=d.nr
 nr1:d.nr<=4294967295
 ar0:0<=d.arch
 ar1:d.arch<=4294967295
 wid:∀x ∈ qdV d,0<=x∧x<18446744073709551616
def qdN:IFn:=⟨[.tmp 2,.tmp 3],.seq (.r [.m 2 (.c (.i .u32 0)),.m 3 (.c (.i .u32 0))]) (.seq (.r [.n 4 0,.q 5 (.cvInt .u32 (.t 4)),.n 6 0,.q 7 (.bin .shr (.t 6) (.c (.i .u64 32))),.q 8 (.cvInt .u32 (.t 7)),.n 2 5,.n 3 8]) (.ret))⟩
theorem qs9(hc:qd P f qdN=true)(x:Int)(h0:0<=x)(h1:x<18446744073709551616):qg P f [.i .u64 x] (.tup [.i .u32 (loW x),.i .u32 (hiW x)]):=by
 refine qg.mk hc rfl ?_;have e1:IntKind.wrap .u32 x=loW x:=rfl
 have e2:IntKind.wrap .u32 (qp8 .u64 x 32)=hiW x:=by
  have:qp8 .u64 x 32=x / 4294967296:=by
   show x.fdiv (2 ^ 32)=_;rw[Int.fdiv_eq_ediv_of_nonneg _ (by decide)];rfl
  rw[this];show (x / 4294967296) % 4294967296=x / 4294967296;omega
 simp only[qdN,vI,simprocAttr];simp +decide only[↓vS,vT,simprocAttr,e1,e2];simp[vZ]
theorem qns{q:IntKind}{l:List Int}:xJ (rI q l)=true:=by
 unfold rI;induction l with
 | nil=>rfl
 | cons a l ih=>exact ih
def qfx:IFn:=⟨[.tmp 4],.seq (.r [.m 4 .N]) (.seq (.r [.n 5 0,.q 6 (.buildS 1 [.i .u64 0] [(0,1,(.t 5))]),.n 7 1,.q 8 (.app 1 8 true (.t 6) (.t 7)),.n 4 8]) (.ret))⟩
theorem qyC(hc:qd P f qfx=true)(x:Int)(l:List Int)(hl:l.length=6):qfi P f [.i .u64 x,.fz l.length (rI .u64 l)] (.own 0 (1+l.length)) [.cells 1 true true (rI .u64 (x::l))]:=by
 refine qfi.mk hc rfl (by simp[qjN,qns]) ?_;have hr1:1+l.length<=qe:=by rw[hl];decide
 have hr2:(1+l.length)*8<=qe:=by rw[hl];decide
 have hll:(rI .u64 l).length=l.length:=qaS;simp only[qfx,vI,simprocAttr];have hne:¬1+l.length<=1:=by omega
 have htk:List.take l.length (rI .u64 l)=rI .u64 l:=List.take_of_length_le (by rw[qaS];omega);simp +decide only[↓vS,vT,simprocAttr,hne,hr1,hr2,hll,htk,Nat.mul_one];intro _;refine⟨[1],?_⟩;simp[vw,qsr,qb,zf]
def qdb(d:GData)(j:Nat):List Int:=(xi d).take (2+2*j)++List.replicate (14-2*j) 0
theorem qmM(d:GData){j:Nat}(h:j<=7):(qdb d j).length=16:=by
 have:(xi d).length=16:=rfl;unfold qdb;rw[List.length_append,List.length_take,List.length_replicate,this];omega
theorem qkT(d:GData){j:Nat}{x:Int}(h:(qdV d)[j]?=some x):((qdb d j).set (2+2*j) (loW x)).set (3+2*j) (hiW x)=qdb d (j+1):=by
 have hj:j<7:=(zzS.1 h).1;have:j=0∨j=1∨j=2∨j=3∨j=4∨j=5∨j=6:=by omega
 rcases this with rfl|rfl|rfl|rfl|rfl|rfl|rfl<;>(cases h;rfl)
def qyT(P:Program)(g:Nat):Prop:=∀x:Int,0<=x->x<18446744073709551616->qg P g [.i .u64 x] (.tup [.i .u32 (loW x),.i .u32 (hiW x)])
def qyV(P:Program)(g:Nat):Prop:=∀(x:Int) (l:List Int),l.length=6->qfi P g [.i .u64 x,.fz l.length (rI .u64 l)] (.own 0 (1+l.length)) [.cells 1 true true (rI .u64 (x::l))]
def qeQ(a b:Nat):IFn:=⟨[.cell 2 16 true],.seq (.r [.q 1 (.box (.t 0)),.q 2 (.alloc [.i .u32 0,.i .u32 0,.i .u32 0,.i .u32 0,.i .u32 0,.i .u32 0,.i .u32 0,.i .u32 0,.i .u32 0,.i .u32 0,.i .u32 0,.i .u32 0,.i .u32 0,.i .u32 0,.i .u32 0,.i .u32 0])]) (.seq (.r [.f 6 0 1,.d 7 6,.f 8 1 1,.d 9 8,.q 10 (.build [.i .u32 0,.i .u32 0,.i .u32 0,.i .u32 0,.i .u32 0,.i .u32 0,.i .u32 0,.i .u32 0,.i .u32 0,.i .u32 0,.i .u32 0,.i .u32 0,.i .u32 0,.i .u32 0,.i .u32 0,.i .u32 0] [(0,1,(.t 7)),(1,1,(.t 9))]),.q 3 (.alloc [.i .u32 0,.i .u32 0,.i .u32 0,.i .u32 0,.i .u32 0,.i .u32 0,.i .u32 0,.i .u32 0,.i .u32 0,.i .u32 0,.i .u32 0,.i .u32 0,.i .u32 0,.i .u32 0,.i .u32 0,.i .u32 0]),.u (.store 16 (.t 3) (.t 10))]) (.seq (.seq (.reg true [.f 11 2 1,.d 12 11,.f 13 3 1,.q 14 (.slcA 6 1 (.t 13) none none none),.l 15 a [.t 12,.t 14],.e 16 15,.m 17 (.k 0)]) (.blk 0 (.loop (.seq (.r [.s 18 17 16]) (.seq (.cond (.t 18) (.skip) (.exit 0)) (.seq (.blk 1 (.seq (.r [.n 19 17,.i 20 1 15 17,.d 21 20,.n 4 19,.n 5 21]) (.r [.n 23 4,.q 24 (.bin .mul (.k 2) (.t 23)),.q 25 (.bin .add (.k 2) (.t 24)),.n 26 4,.q 27 (.bin .mul (.k 2) (.t 26)),.q 28 (.bin .add (.k 3) (.t 27)),.n 29 5,.l 30 b [.t 29],.n 22 30,.x 31 22 0,.x 32 22 1,.q 33 (.iAddrA 16 1 (.t 3) (.t 25)),.u (.store 1 (.t 33) (.t 31)),.q 34 (.iAddrA 16 1 (.t 3) (.t 28)),.u (.store 1 (.t 34) (.t 32))]))) (.r [.a 35 17 1,.n 17 35]))))))) (.seq (.r [.v 36 16 3,.u (.store 16 (.t 2) (.t 36))]) (.ret))))⟩
theorem qwA{g1 g2:Nat}(hc:qd P f (qeQ g1 g2)=true)(h1:qyV P g1)(h2:qyT P g2)(d:GData)(hd:DatOk d):qg P f [.agg (qL d)] (.agg (rI .u32 (xi d))):=by
 refine qg.mk hc rfl ?_;simp only[qeQ,qL,vI,simprocAttr];simp +decide only[↓vS,vT,simprocAttr];refine qaB ?_;simp +decide only[↓vS,vT,simprocAttr];refine (h1 d.ip [d.a0,d.a1,d.a2,d.a3,d.a4,d.a5] rfl).pc (vs:=[.i .u64 d.ip,.sl 0 3 6 6 false]) ?_ ?_
 ·refine .cons _ _ _ _ (.i _ _) (.cons _ _ _ _ (Frz.cut 1 rfl (Nat.le_refl _) ?_) .nil);simp[vP,Tr.get_set,vZ,rI]
 simp only[vJ,simprocAttr,xd zf];simp +decide only[↓vS,vT,simprocAttr]
 refine SL.loop (α:=Nat) (fun j=>[(2,.ptr 0 0),(3,.ptr 1 0),(15,.own 2 7),(16,.i .i64 7),(17,.i .i64 (j:Int))]) (fun j=>[.cells 0 true false [.i .u32 0,.i .u32 0,.i .u32 0,.i .u32 0,.i .u32 0,.i .u32 0,.i .u32 0,.i .u32 0,.i .u32 0,.i .u32 0,.i .u32 0,.i .u32 0,.i .u32 0,.i .u32 0,.i .u32 0,.i .u32 0],.cells 0 true false (rI .u32 (qdb d j)),.cells 1 true true (rI .u64 (qdV d))])
  (fun j=>j<=7) (fun j=>7-j) 0 [1,2,3] ?_ ?_ ?_ rfl ?_ ?_
 ·simp[vw]
 ·simp[vw,qdb,xi,qdV,rI]
 ·simp
 ·exact Nat.zero_le _
 rintro j hj G ih;simp only[vI,simprocAttr]
 by_cases hlt:j<7
 ·have hlt':(j:Int)<7:=by omega
  obtain⟨x,hx⟩:∃x,(qdV d)[j]?=some x:=⟨_,zzE (show j<(qdV d).length from hlt)⟩
  have hxr:=hd.wid x (zzM hx);have hl:=qmM d hj;have hnx:=qkT d hx;have w1:IntKind.wrap .i64 (2*(j:Int))=((2*j:Nat):Int):=by rw[qv (by omega) (by omega)];omega
  have w2:IntKind.wrap .i64 (2+((2*j:Nat):Int))=((2+2*j:Nat):Int):=by rw[qv (by omega) (by omega)];omega
  have w3:IntKind.wrap .i64 (3+((2*j:Nat):Int))=((3+2*j:Nat):Int):=by rw[qv (by omega) (by omega)];omega
  have w4:IntKind.wrap .i64 ((j:Int)+1)=((j+1:Nat):Int):=by rw[qv (by omega) (by omega)];omega
  simp +decide only[↓vS,vT,simprocAttr,hlt',hlt,Nat.mul_one,qct,hx,Option.map_some,w1,w2,w3];refine (h2 x hxr.1 hxr.2).sc ?_;have hA:2+2*j<(qdb d j).length:=by omega
  have hB:3+2*j<((qdb d j).set (2+2*j) (loW x)).length:=by simp;omega
  have s1:=qi0 (k:=.u32) hA (loW x);have s2:=qi0 (k:=.u32) hB (hiW x);rw[hnx] at s2;have k1:2+2*j<16:=by omega
  have k2:3+2*j<16:=by omega
  have k3:2+2*j+1<=(rI .u32 (qdb d j)).length:=by rw[qaS];omega
  have k4:3+2*j+1<=(rI .u32 ((qdb d j).set (2+2*j) (loW x))).length:=by rw[qaS];omega
  simp +decide only[↓vS,vT,simprocAttr,k1,k2,k3,k4,s1,s2,Nat.mul_one,w4];refine ih (j+1) hlt (by omega) _ _ (Wk.mk _ _ [0,1,2] ?_ ?_ ?_ rfl)
  ·simp[vw]
  ·simp[vw,qb,zf]
  ·simp
 ·obtain rfl:j=7:=by omega
  have h16:16<=(rI .u32 (qdb d 7)).length:=Nat.le_refl 16;have ht:List.take 16 (List.drop 0 (rI .u32 (qdb d 7)))=rI .u32 (xi d):=rfl;have hlen:(rI .u32 (xi d)).length=16:=rfl;have hfd:qdb d 7=xi d:=rfl;have ht2:List.take 16 (rI .u32 (xi d))=rI .u32 (xi d):=rfl;rw[hfd];simp +decide only[↓vS,vT,simprocAttr,h16,ht2,hlen,qtn];simp[vZ,vP,Tr.get_set,zn zf]
def qgC(d:GData)(k:Int):AV:=if k % 4≠0∨64<=k then .tup [.i .u32 0,.i .i64 41] else .tup [.i .u32 ((xi d).getD (k / 4).toNat 0),.i .i64 0]
def qfw(a:Nat):IFn:=⟨[.tmp 4,.tmp 5],.seq (.r [.q 2 (.box (.t 0)),.m 4 (.c (.i .u32 0)),.m 5 (.k 0)]) (.seq (.seq (.r [.n 6 1,.q 7 (.bin .rem (.t 6) (.c (.i .u32 4))),.q 8 (.bin .neq (.t 7) (.c (.i .u32 0))),.n 9 8,.z 10 1 9,.g 11 (.bin .geq (.t 10) (.c (.i .u32 64))) 9 false,.o 12 9 11]) (.cond (.t 12) (.seq (.r [.m 4 (.c (.i .u32 0)),.m 5 (.k 41)]) (.ret)) (.skip))) (.seq (.r [.v 13 9 2,.l 14 a [.t 13],.n 15 1,.q 16 (.bin .quo (.t 15) (.c (.i .u32 4))),.q 17 (.idxA 16 1 false (.t 14) (.t 16)),.n 4 17,.m 5 (.k 0)]) (.ret)))⟩
theorem qxE{g:Nat}(hc:qd P f (qfw g)=true)(hg:∀d,DatOk d->qg P g [.agg (qL d)] (.agg (rI .u32 (xi d))))(d:GData)(hd:DatOk d)(k:Int)(h0:0<=k)(h1:k<=4294967295):qg P f [.agg (qL d),.i .u32 k] (qgC d k):=by
 refine qg.mk hc rfl ?_;have h40:(4:Int)≠0:=by decide
 have ht:k.tmod 4=k % 4:=Int.tmod_eq_emod_of_nonneg h0;have hq:k.tdiv 4=k / 4:=Int.tdiv_eq_ediv_of_nonneg h0;have hg:=hg d hd;unfold qgC;simp only[qfw,qL,vI,simprocAttr] at hg ⊢
 by_cases hm:k % 4=0
 ·by_cases hb:64<=k
  ·rw[if_pos (.inr hb)];simp +decide only[↓vS,vT,simprocAttr,↓xl h40,ht,hm,hb];simp[vZ]
  ·rw[if_neg (by omega)];have hn:(k / 4).toNat<16:=by omega
   obtain⟨x,hx⟩:∃x,(xi d)[(k / 4).toNat]?=some x:=⟨_,zzE hn⟩;rw[List.getD_eq_getElem?_getD,hx];have hk:k / 4=(((k / 4).toNat:Nat):Int):=by omega
   have hw:IntKind.wrap .u32 (k / 4)=(((k / 4).toNat:Nat):Int):=by
    show (k / 4) % 4294967296=_;omega
   simp +decide only[↓vS,vT,simprocAttr,↓xl h40,ht,hm,hb];refine hg.sc ?_;generalize xi d=W at hx;simp +decide only[↓vS,vT,simprocAttr,↓zr h40,hq,hw,hn,Nat.mul_one,qct,hx,Option.map_some];simp[vZ]
 ·rw[if_pos (.inl hm)];simp +decide only[↓vS,vT,simprocAttr,↓xl h40,ht,hm];simp[vZ]
def zV:Nat->Int->List Int
 | 0,_=>[]
 | n+1,x=>x % 256::zV n (x / 256)
theorem zA:∀(n:Nat) (x:Int),(zV n x).length=n
 | 0,_=>rfl
 | n+1,x=>by show (zV n (x / 256)).length+1=n+1;rw[zA]
theorem qlT:∀(n:Nat) (x:Int),qcj (zV n x)
 | 0,_=>fun _ h=>by cases h
 | n+1,x=>fun y hy=>by
  rcases List.mem_cons.1 hy with rfl|hy
  ·omega
  ·exact qlT n _ y hy
theorem qo6{w:Int}(h0:0<=w)(h1:w<=4294967295):leM (zV 4 w)=w:=by
 simp only[zV,leM];omega
theorem qvJ{x:Int}(h0:0<=x)(h1:x<18446744073709551616):zV 8 x=zV 4 (loW x)++zV 4 (hiW x):=by
 simp only[zV,loW,hiW,List.cons_append,List.nil_append,List.cons.injEq,and_true];refine⟨?_,?_,?_,?_,?_,?_,?_,?_⟩<;>omega
def qds(d:GData):List Int:=(xi d).flatMap (zV 4)
theorem qms{d:GData}(hd:DatOk d):qds d=zV 4 d.nr++zV 4 d.arch++(qdV d).flatMap (zV 8):=by
 have h:∀l:List Int,(∀x ∈ l,0<=x∧x<18446744073709551616)->(l.flatMap fun x=>[loW x,hiW x]).flatMap (zV 4)=l.flatMap (zV 8):=by
  intro l
  induction l with
  | nil=>intro _;rfl
  | cons x l ih =>
   intro hl;have hx:=hl x (by simp);simp only[List.flatMap_cons,List.flatMap_append,List.flatMap_nil,List.append_nil,List.append_assoc];rw[qvJ hx.1 hx.2,ih (fun y hy=>hl y (by simp[hy])),List.append_assoc]
 unfold qds xi;simp only[List.flatMap_cons];rw[h _ hd.wid,List.append_assoc]
theorem qjO{l:List Int}{j:Nat}{x:Int}(h:l[j]?=some x):qdU (l.flatMap (zV 4)) (4*j) 4=zV 4 x:=by
 unfold qdU
 induction l generalizing j with
 | nil=>cases h
 | cons a l ih =>
  cases j with
  | zero =>
   cases h;rw[List.flatMap_cons,Nat.mul_zero,List.drop_zero,List.take_append_of_le_length (by rw[zA];exact Nat.le_refl _),List.take_of_length_le (by rw[zA];exact Nat.le_refl _)]
  | succ j =>
   rw[List.flatMap_cons,List.drop_append,zA,List.drop_eq_nil_of_le (by rw[zA];omega),List.nil_append,show 4*(j+1)-4=4*j from by omega]
   exact ih (by simpa using h)
theorem qg7(d:GData):(qds d).length=64:=rfl
theorem qiq:∀(n:Nat) (x:Int),zV (n+1) x=zV n x++[x / 256 ^ n % 256]
 | 0,x=>by simp[zV]
 | n+1,x=>by
  show x % 256::zV (n+1) (x / 256)=x % 256::(zV n (x / 256)++_);rw[qiq n,Int.ediv_ediv_of_nonneg (by decide),show (256:Int)*256 ^ n=256 ^ (n+1) from by rw[Int.pow_succ];exact Int.mul_comm _ _]
def qeF(n j:Nat)(x:Int):List Int:=zV j x++List.replicate (n-j) 0
theorem qjK{n j:Nat}{x:Int}(h:j<=n):(qeF n j x).length=n:=by unfold qeF;rw[List.length_append,zA,List.length_replicate];omega
theorem qmL{n j:Nat}{x:Int}(h:j<n):(qeF n j x).set j (x / 256 ^ j % 256)=qeF n (j+1) x:=by
 unfold qeF;rw[List.set_append_right _ _ (by rw[zA];exact Nat.le_refl _),zA,Nat.sub_self,qiq,show n-j=(n-(j+1))+1 from by omega,List.replicate_succ,List.append_assoc]
 rfl
theorem qvR(n:Nat):(List.replicate n [AV.i .u8 0]).flatten=rB (qeF n 0 0):=by
 unfold qeF;simp only[zV,List.nil_append,Nat.sub_zero]
 induction n with
 | zero=>rfl
 | succ n ih=>rw[List.replicate_succ,List.replicate_succ,List.flatten_cons,ih];rfl
def qbr:IFn:=⟨[.tmp 4],.seq (.r [.m 4 .N]) (.seq (.r [.n 7 1,.q 8 (.mkS 1 1 [.i .u8 0] (.t 7) (.t 7)),.n 5 8]) (.seq (.seq (.r [.m 6 (.k 0)]) (.blk 0 (.loop (.seq (.seq (.r [.n 9 6,.n 10 1,.s 11 9 10]) (.cond (.t 11) (.skip) (.exit 0))) (.seq (.blk 1 (.seq (.r [.n 14 5,.n 15 6,.n 16 0,.q 17 (.bin .rem (.t 16) (.c (.i .u64 256))),.q 18 (.cvInt .u8 (.t 17)),.i 19 1 14 15,.u (.store 1 (.t 19) (.t 18))]) (.r [.n 20 0,.q 21 (.bin .quo (.t 20) (.c (.i .u64 256))),.n 0 21]))) (.r [.n 12 6,.a 13 12 1,.n 6 13])))))) (.seq (.r [.n 22 5,.n 4 22]) (.ret))))⟩
theorem qzg(hc:qd P f qbr=true)(x:Int)(h0:0<=x)(h1:x<18446744073709551616)(n:Nat)(hn:n<=8):Own P f [.i .u64 x,.i .i64 n] (.sl 0 0 n n false) [.cells 0 true false (rB (zV n x))]:=by
 refine Own.mk hc rfl ?_;have hr1:n<=qe:=by simp only[qe];omega
 have hr3:1*n<=qe:=by simp only[qe];omega
 simp only[qbr,vI,simprocAttr];simp +decide only[↓vS,vT,simprocAttr,hr1,hr3,qvR];have h256:(256:Int)≠0:=by decide
 refine SL.loop (α:=Nat) (fun j=>[(0,.i .u64 (x / 256 ^ j)),(1,.i .i64 (n:Int)),(5,.sl 0 0 n n false),(6,.i .i64 (j:Int))]) (fun j=>[.cells 0 true false (rB (qeF n j x))]) (fun j=>j<=n) (fun j=>n-j) 0 [0] ?_ ?_ ?_ rfl ?_ ?_
 ·simp[vw]
 ·simp[vw,qb,qat,qeF,zV]
 ·simp
 ·exact Nat.zero_le _
 rintro j hj G ih;simp only[vI,simprocAttr]
 by_cases hlt:j<n
 ·have y0:0<=x / 256 ^ j:=Int.ediv_nonneg h0 (Int.le_of_lt (Int.pow_pos (by decide)));have y1:x / 256 ^ j<18446744073709551616:=Int.lt_of_le_of_lt (Int.ediv_le_self _ h0) h1;have hyn:x / 256 ^ j / 256=x / 256 ^ (j+1):=by rw[Int.ediv_ediv_of_nonneg (Int.le_of_lt (Int.pow_pos (by decide))),Int.pow_succ]
  have hst:=qi0 (k:=.u8) (L:=qeF n j x) (j:=j) (by rw[qjK hj];exact hlt) (x / 256 ^ j % 256);rw[qmL hlt] at hst;have hle:j+1<=(rB (qeF n j x)).length:=by rw[qhG,qjK hj];exact hlt
  have ih2:=ih (j+1) hlt (by omega);rw[← hyn] at ih2;generalize x / 256 ^ j=y at y0 y1 hst ih2;have hst:(rB (qeF n j x)).take j++(AV.i .u8 (y % 256)::(rB (qeF n j x)).drop (j+1))=rB (qeF n (j+1) x):=hst;have hm:y.tmod 256=y % 256:=Int.tmod_eq_emod_of_nonneg y0;have hd:y.tdiv 256=y / 256:=Int.tdiv_eq_ediv_of_nonneg y0;have hw8:IntKind.wrap .u8 (y % 256)=y % 256:=by show (y % 256) % 256=_;omega
  have hwd:IntKind.wrap .u64 (y / 256)=y / 256:=by show (y / 256) % 18446744073709551616=_;omega
  have w1:IntKind.wrap .i64 ((j:Int)+1)=((j+1:Nat):Int):=by rw[qv (by omega) (by omega)];omega
  simp +decide only[↓vS,vT,simprocAttr,hlt,↓xl h256,↓zr h256,hm,hd,hw8,hwd,Nat.mul_one,hle,hst,w1];refine ih2 _ _ (Wk.mk _ _ [0] ?_ ?_ ?_ rfl)
  ·simp[vw]
  ·simp[vw,qb,qat]
  ·simp
 ·obtain rfl:j=n:=by omega
  simp +decide only[↓vS,vT,simprocAttr,hlt];have hf:qeF j j x=zV j x:=by unfold qeF;rw[Nat.sub_self];exact List.append_nil _
  rw[hf];intro _;refine⟨[0],?_⟩;simp[vw,qb,qat]
def qt2(P:Program)(g:Nat):Prop:=∀x:Int,0<=x->x<18446744073709551616->∀n:Nat,n<=8->Own P g [.i .u64 x,.i .i64 n] (.sl 0 0 n n false) [.cells 0 true false (rB (zV n x))]
def qa2(a:Nat):IFn:=⟨[.tmp 2],.seq (.r [.q 1 (.box (.t 0)),.m 2 .N]) (.seq (.r [.f 5 0 1,.d 6 5,.q 7 (.cvInt .u64 (.t 6)),.l 8 a [.t 7,.k 4],.n 3 8]) (.seq (.r [.n 9 3,.f 10 1 1,.d 11 10,.q 12 (.cvInt .u64 (.t 11)),.l 13 a [.t 12,.k 4],.q 14 (.app 1 1 true (.t 9) (.t 13)),.n 3 14]) (.seq (.r [.n 15 3,.f 16 2 1,.d 17 16,.l 18 a [.t 17,.k 8],.q 19 (.app 1 1 true (.t 15) (.t 18)),.n 3 19]) (.seq (.seq (.r [.m 4 (.k 0)]) (.blk 0 (.loop (.seq (.seq (.r [.n 20 4,.w 21 .lss 20 6]) (.cond (.t 21) (.skip) (.exit 0))) (.seq (.blk 1 (.r [.n 24 3,.n 25 4,.f 26 3 1,.q 27 (.iAddrA 6 1 (.t 26) (.t 25)),.d 28 27,.l 29 a [.t 28,.k 8],.q 30 (.app 1 1 true (.t 24) (.t 29)),.n 3 30])) (.r [.n 22 4,.a 23 22 1,.n 4 23])))))) (.seq (.r [.n 31 3,.n 2 31]) (.ret))))))⟩
theorem qyM{g:Nat}(hc:qd P f (qa2 g)=true)(hg:qt2 P g)(d:GData)(hd:DatOk d):qg P f [.agg (qL d)] (.fz 64 (rB (qds d))):=by
 refine qg.mk hc rfl ?_;have q1:=hd.nr0;have q2:=hd.nr1;have q3:=hd.ar0;have q4:=hd.ar1;have w1:IntKind.wrap .u64 d.nr=d.nr:=by show d.nr % 18446744073709551616=_;omega
 have w2:IntKind.wrap .u64 d.arch=d.arch:=by show d.arch % 18446744073709551616=_;omega
 have hip:=hd.wid d.ip (by simp[qdV]);have tk:∀n x,List.take n (rB (zV n x))=rB (zV n x):=fun n x=>List.take_of_length_le (by rw[qhG,zA];exact Nat.le_refl _)
 simp only[qa2,qL,vI,simprocAttr];simp +decide only[↓vS,vT,simprocAttr,w1];refine (hg d.nr q1 (by omega) 4 (by omega)).sc ?_;simp only[vJ,simprocAttr,xd (qat _)];simp +decide only[↓vS,vT,simprocAttr,w2];refine (hg d.arch q3 (by omega) 4 (by omega)).sc ?_;simp only[vJ,simprocAttr,xd (qat _)];simp +decide only[↓vS,vT,simprocAttr,qhG,zA,tk];have rBo:∀a:List Int,qB (rB a)=true:=fun a=>qtn
 have rBa:∀a b:List Int,rB a++rB b=rB (a++b):=fun a b=>qvO
 refine (hg d.ip hip.1 hip.2 8 (by omega)).sc ?_;simp only[vJ,simprocAttr,xd (qat _),rBa];have hl8:(zV 4 d.nr++zV 4 d.arch).length=8:=by rw[List.length_append,zA,zA]
 simp +decide only[↓vS,vT,simprocAttr,qhG,zA,hl8,rBa,tk,rBo,Nat.mul_one]
 refine SL.loop (α:=Nat) (fun j=>[(1,.ptr 0 0),(3,.own 1 (16+8*j)),(4,.i .i64 (j:Int))]) (fun j=>[.cells 0 true false (qL d),.cells 1 true true (rB (zV 4 d.nr++zV 4 d.arch++zV 8 d.ip++((qdV d).drop 1 |>.take j).flatMap (zV 8)))])
  (fun j=>j<=6) (fun j=>6-j) 0 [0,5] ?_ ?_ ?_ rfl ?_ ?_
 ·simp[vw]
 ·simp[vw,qL,qb,qat]
 ·simp
 ·exact Nat.zero_le _
 rintro j hj G ih;simp only[vI,simprocAttr]
 by_cases hlt:j<6
 ·have hlt':(j:Int)<6:=by omega
  obtain⟨x,hx,hc3⟩:∃x,((qdV d).drop 1)[j]?=some x∧(qL d)[3+j]?=some (.i .u64 x):=by
   have:j=0∨j=1∨j=2∨j=3∨j=4∨j=5:=by omega
   rcases this with rfl|rfl|rfl|rfl|rfl|rfl<;>exact⟨_,rfl,rfl⟩
  have hxr:=hd.wid x (List.mem_of_mem_drop (zzM hx));have htk:((qdV d).drop 1).take (j+1)=((qdV d).drop 1).take j++[x]:=by rw[List.take_add_one,hx];rfl
  have w4:IntKind.wrap .i64 ((j:Int)+1)=((j+1:Nat):Int):=by rw[qv (by omega) (by omega)];omega
  have ih2:=ih (j+1) hlt (by omega);rw[htk,List.flatMap_append,← List.append_assoc] at ih2
  have hfl:∀l:List Int,(l.flatMap (zV 8)).length=8*l.length:=by
   intro l
   induction l with
   | nil=>rfl
   | cons a l ih=>rw[List.flatMap_cons,List.length_append,zA,ih,List.length_cons];omega
  have hll:(((qdV d).drop 1).take j).length=j:=by rw[List.length_take];simp[qdV];omega
  obtain⟨A,hA⟩:∃A,A=zV 4 d.nr++zV 4 d.arch++zV 8 d.ip++(((qdV d).drop 1).take j).flatMap (zV 8):=⟨_,rfl⟩;have hAl:A.length=16+8*j:=by rw[hA,List.length_append,List.length_append,List.length_append,zA,zA,zA,hfl,hll]
  rw[← hA] at ih2 ⊢;have hone:List.flatMap (zV 8) [x]=zV 8 x:=by simp
  rw[hone] at ih2;have hr1:16+8*j+8<=qe:=by simp only[qe];omega
  have hr2:(16+8*j+8)*1<=qe:=by simp only[qe];omega
  have hcc:qF (qL d)=true:=rfl;generalize hC:qL d=C at hc3 hcc ih2 ⊢;simp +decide only[↓vS,vT,simprocAttr,hlt',hlt,Nat.mul_one,hc3];refine (hg x hxr.1 hxr.2 8 (by omega)).sc ?_;simp only[vJ,simprocAttr,xd (qat _)];simp +decide only[↓vS,vT,simprocAttr,qhG,zA,hAl,rBa,tk,rBo,Nat.mul_one,hr1,hr2,w4];refine ih2 _ _ (Wk.mk _ _ [0,3] ?_ ?_ ?_ rfl)
  ·simp[vw];omega
  ·simp[vw,qb,qat,hcc]
  ·simp
 ·obtain rfl:j=6:=by omega
  have hb:qds d=zV 4 d.nr++zV 4 d.arch++zV 8 d.ip++((qdV d).drop 1 |>.take 6).flatMap (zV 8):=by
   rw[qms hd];simp[qdV]
  rw[hb];simp +decide only[↓vS,vT,simprocAttr];simp[vZ,vP,Tr.get_set,zn (qat _)]
def qbf(a b:Nat):IFn:=⟨[.tmp 4,.tmp 5],.seq (.r [.q 2 (.box (.t 0)),.m 4 (.c (.i .u32 0)),.m 5 (.k 0)]) (.seq (.seq (.r [.n 8 1,.q 9 (.bin .rem (.t 8) (.c (.i .u32 4))),.q 10 (.bin .neq (.t 9) (.c (.i .u32 0))),.n 11 10,.z 12 1 11,.g 13 (.bin .gtr (.t 12) (.c (.i .u32 60))) 11 false,.o 14 11 13]) (.cond (.t 14) (.seq (.r [.m 4 (.c (.i .u32 0)),.m 5 (.k 41)]) (.ret)) (.skip))) (.seq (.r [.v 16 9 2,.l 17 a [.t 16],.n 18 1,.q 19 (.cvInt .i64 (.t 18)),.l 20 b [.t 17,.t 19,.k 4],.n 15 20,.x 21 15 0,.x 22 15 1,.n 6 21,.n 7 22]) (.seq (.r [.n 23 6,.q 24 (.cvInt .u32 (.t 23)),.n 4 24,.m 5 (.k 0)]) (.ret))))⟩
theorem qzC{g1 g2:Nat}(hc:qd P f (qbf g1 g2)=true)(h1:∀d,DatOk d->qg P g1 [.agg (qL d)] (.fz 64 (rB (qds d))))(h2:qxx P g2)(d:GData)(hd:DatOk d)(k:Int)(h0:0<=k)(hk1:k<=4294967295):qg P f [.agg (qL d),.i .u32 k] (qgC d k):=by
 refine qg.mk hc rfl ?_;have h40:(4:Int)≠0:=by decide
 have ht:k.tmod 4=k % 4:=Int.tmod_eq_emod_of_nonneg h0;have hg:=h1 d hd;unfold qgC;simp only[qbf,qL,vI,simprocAttr] at hg ⊢
 by_cases hm:k % 4=0
 ·by_cases hb:60<k
  ·rw[if_pos (.inr (by omega))];simp +decide only[↓vS,vT,simprocAttr,↓xl h40,ht,hm,hb];simp[vZ]
  ·rw[if_neg (by omega)];obtain⟨j,hj⟩:∃j:Nat,k=((4*j:Nat):Int):=⟨(k / 4).toNat,by omega⟩
   have hn:j<16:=by omega
   obtain⟨x,hx⟩:∃x,(xi d)[j]?=some x:=⟨_,zzE hn⟩;have hjk:(k / 4).toNat=j:=by omega
   rw[hjk,List.getD_eq_getElem?_getD,hx]
   have hxr:0<=x∧x<=4294967295:=by
    have hm:=zzM hx;unfold xi at hm;rcases List.mem_cons.1 hm with rfl|hm
    ·exact⟨hd.nr0,hd.nr1⟩
    rcases List.mem_cons.1 hm with rfl|hm
    ·exact⟨hd.ar0,hd.ar1⟩
    obtain⟨y,hy,hm⟩:=List.mem_flatMap.1 hm;have:=hd.wid y hy;simp only[List.mem_cons,List.not_mem_nil,or_false] at hm;rcases hm with rfl|rfl
    ·unfold loW;omega
    ·unfold hiW;omega
   have hbo:qcj (qds d):=fun y hy=>by
    obtain⟨z,_,hz⟩:=List.mem_flatMap.1 hy;exact qlT 4 z y hz
   have hget:=h2 (qds d) hbo (by rw[qg7];decide) (4*j) (by omega) 4 (by decide);unfold qrs at hget;rw[qg7,if_pos (by omega),show qdU (qds d) (4*j) 4=zV 4 x from qjO hx,qo6 hxr.1 hxr.2] at hget
   have hw:IntKind.wrap .i64 k=((4*j:Nat):Int):=by rw[qv (by omega) (by omega)];exact hj
   have hwx:IntKind.wrap .u32 x=x:=by show x % 4294967296=_;omega
   simp +decide only[↓vS,vT,simprocAttr,↓xl h40,ht,hm,hb];refine hg.sc ?_;simp +decide only[↓vS,vT,simprocAttr,hw];refine hget.sc ?_;simp +decide only[↓vS,vT,simprocAttr,hwx];simp[vZ]
 ·rw[if_pos (.inl hm)];simp +decide only[↓vS,vT,simprocAttr,↓xl h40,ht,hm];simp[vZ]
def qxu(c:Int):Bool:=!decide (qdp .u16 c 8=0)
def zB(c:Int):Bool:=(decide (qh c=3)||decide (qh c=4))&&qxu c
def qo3(s:List UInt8):Bool:=decide (((s.getD (s.length-1) 0).toNat:Int)=120)
theorem qtp:∀x ∈ xT,x.2.1≠[]∧(x.2.2=3∨x.2.2=4->qo3 x.2.1=qxu x.1):=by decide
def qa1(a:Nat):IFn:=⟨[.tmp 2],.seq (.r [.m 2 .F]) (.seq (.r [.n 4 0,.l 5 a [.t 4],.q 3 (.alloc [.i .u16 0,.s [],.i .u8 0]),.u (.store 3 (.t 3) (.t 5))]) (.seq (.r [.f 6 2 3,.d 7 6,.q 8 (.bin .eql (.t 7) (.c (.i .u8 3))),.n 9 8,.h 10 2 3 9 false,.j 11 10 9 false,.g 12 (.bin .eql (.t 11) (.c (.i .u8 4))) 9 false,.o 13 9 12,.n 14 13,.h 15 1 3 14 true,.j 16 15 14 true,.h 17 1 3 14 true,.j 18 17 14 true,.g 19 (.len true (.t 18)) 14 true,.g 20 (.bin .sub (.t 19) (.k 1)) 14 true,.g 21 (.idxS (.t 16) (.t 20)) 14 true,.g 22 (.bin .eql (.t 21) (.c (.i .u8 120))) 14 true,.p 23 14 22,.n 2 23]) (.ret)))⟩
theorem qyN{g:Nat}(hc:qd P f (qa1 g)=true)(hg:qgj P g)(c:Int):qg P f [.i .u16 c] (.b (zB c)):=by
 refine qg.mk hc rfl ?_;have hgc:=hg c;unfold zB;simp only[qa1,vI,simprocAttr];simp +decide only[↓vS,vT,simprocAttr];refine hgc.sc ?_;cases hcm:qy c with
 | none =>
  have h0:qh c=0:=by unfold qh;rw[hcm];rfl
  rw[h0];simp +decide only[↓vS,vT,simprocAttr,zt,zE];simp[vZ]
 | some x =>
  obtain⟨hxm,hxc⟩:=qda hcm;have hcl:qh c=x.2.2:=by unfold qh;rw[hcm];rfl
  obtain⟨hne,hlx⟩:=qtp x hxm;rw[hcl,← hxc];have hpos:0<x.2.1.length:=List.length_pos_iff.2 hne
  have hlen:x.2.1.length<=1000:=by
   have:∀y ∈ xT,y.2.1.length<=1000:=by decide
   exact this x hxm
  have hw:IntKind.wrap .i64 ((x.2.1.length:Int)-1)=((x.2.1.length-1:Nat):Int):=by rw[qv (by omega) (by omega)];omega
  obtain⟨b,hb⟩:∃b,x.2.1[x.2.1.length-1]?=some b:=⟨_,zzE (by omega)⟩;have hlast:qo3 x.2.1=decide ((b.toNat:Int)=120):=by unfold qo3;rw[List.getD_eq_getElem?_getD,hb];rfl
  rw[hlast] at hlx;have hidx:x.2.1.length-1<x.2.1.length:=by omega
  obtain⟨xc,xs,xk⟩:=x;simp only at hlx hw hb hidx hpos ⊢
  by_cases h3:xk=3
  ·rw[← hlx (.inl h3)];simp +decide only[↓vS,vT,simprocAttr,zt,xu,h3,hw,hidx,hb];simp[vZ,h3]
  by_cases h4:xk=4
  ·rw[← hlx (.inr h4)];simp +decide only[↓vS,vT,simprocAttr,zt,xu,h3,h4,hw,hidx,hb];simp[vZ,h3,h4]
  ·simp +decide only[↓vS,vT,simprocAttr,zt,xu,h3,h4];simp[vZ,h3,h4]
def qeR(left:Bool):Nat->Int->Int
 | 0,a=>a
 | n+1,a=>qeR left n (if left=true then a*2 % 4294967296 else a / 2)
def qau:IFn:=⟨[.tmp 6],.seq (.r [.m 6 (.c (.i .u32 0))]) (.seq (.blk 0 (.loop (.seq (.seq (.r [.n 7 2,.q 8 (.bin .gtr (.t 7) (.c (.i .u32 0)))]) (.cond (.t 8) (.skip) (.exit 0))) (.seq (.blk 1 (.seq (.r [.n 11 1]) (.cond (.t 11) (.r [.n 12 0,.q 13 (.bin .mul (.t 12) (.c (.i .u32 2))),.n 0 13]) (.r [.n 14 0,.q 15 (.bin .quo (.t 14) (.c (.i .u32 2))),.n 0 15])))) (.r [.n 9 2,.q 10 (.bin .sub (.t 9) (.c (.i .u32 1))),.n 2 10]))))) (.seq (.r [.n 16 0,.n 6 16]) (.ret)))⟩
theorem qwX(hc:qd P f qau=true)(a:Int)(h0:0<=a)(h1:a<=4294967295)(left:Bool)(n:Nat)(hn:n<=31):qg P f [.i .u32 a,.b left,.i .u32 n] (.i .u32 (qeR left n a)):=by
 refine qg.mk hc rfl ?_;have h2:(2:Int)≠0:=by decide
 simp only[qau,vI,simprocAttr];simp +decide only[↓vS,vT,simprocAttr];refine SL.loop (α:=Nat×Int) (fun s=>[(0,.i .u32 s.2),(1,.b left),(2,.i .u32 (s.1:Int))]) (fun _=>[]) (fun s=>s.1<=31∧0<=s.2∧s.2<=4294967295∧qeR left s.1 s.2=qeR left n a) (fun s=>s.1) (n,a) [] ?_ ?_ ?_ rfl ?_ ?_
 ·simp[vw]
 ·trivial
 ·simp
 ·exact⟨hn,h0,h1,rfl⟩
 rintro⟨k,b⟩ ⟨hk,b0,b1,hI⟩ G ih;simp only at hk b0 b1 hI;simp only[vI,simprocAttr]
 by_cases hz:k=0
 ·subst hz;have hI:b=qeR left n a:=hI;simp +decide only[↓vS,vT,simprocAttr];simp[vZ,hI]
 ·obtain⟨k,rfl⟩:∃k',k=k'+1:=⟨k-1,by omega⟩
  have hpos:(0:Int)<((k+1:Nat):Int):=by omega
  have hw:IntKind.wrap .u32 (((k+1:Nat):Int)-1)=(k:Int):=by show (((k+1:Nat):Int)-1) % 4294967296=_;omega
  have hmul:IntKind.wrap .u32 (b*2)=b*2 % 4294967296:=rfl;have hd:b.tdiv 2=b / 2:=Int.tdiv_eq_ediv_of_nonneg b0;have hwd:IntKind.wrap .u32 (b / 2)=b / 2:=by show (b / 2) % 4294967296=_;omega
  have hI2:qeR left k (if left=true then b*2 % 4294967296 else b / 2)=qeR left n a:=hI
  cases left with
  | true =>
   rw[if_pos rfl] at hI2;simp +decide only[↓vS,vT,simprocAttr,hpos,hmul,hw];refine ih (k,b*2 % 4294967296) ⟨by simp only;omega,by simp only;omega,by simp only;omega,hI2⟩ (by simp only;omega) _ _ (Wk.mk _ _ [] ?_ ?_ ?_ rfl)
   ·simp[vw]
   ·trivial
   ·simp
  | false =>
   rw[if_neg (by simp)] at hI2;simp +decide only[↓vS,vT,simprocAttr,hpos,↓zr h2,hd,hwd,hw];refine ih (k,b / 2) ⟨by simp only;omega,by simp only;omega,by simp only;omega,hI2⟩ (by simp only;omega) _ _ (Wk.mk _ _ [] ?_ ?_ ?_ rfl)
   ·simp[vw]
   ·trivial
   ·simp
structure Mac where
 a:Int
 x:Int
 told:Int
 cl:List Int
 over:Bool
def u32(x:Int):Prop:=0<=x∧x<=4294967295
structure MacOk (m:Mac):Prop where
 a:u32 m.a
 x:u32 m.x
 told:u32 m.told
 len:m.cl.length=16
 cl:∀c ∈ m.cl,u32 c
def zz(m:Mac):List AV:=.i .u32 m.a :: .i .u32 m.x :: .i .u32 m.told::(rI .u32 m.cl++[.b m.over])
theorem qck{m:Mac}(h:m.cl.length=16):(zz m).length=20:=by
 show (rI .u32 m.cl++[AV.b m.over]).length+3=20;rw[List.length_append,qaS,h];rfl
theorem qc{m:Mac}:qF (zz m)=true:=by
 show qF (rI .u32 m.cl++[AV.b m.over])=true;rw[qgm,zf];rfl
theorem qmt{m:Mac}{k:Nat}{c:Int}(h:m.cl[k]?=some c):(zz m)[3+k]?=some (.i .u32 c):=by
 rw[show 3+k=k+3 from by omega]
 show (rI .u32 m.cl++[AV.b m.over])[k]?=_;rw[List.getElem?_append_left (by rw[qaS];exact (zzS.1 h).1),qct,h];rfl
theorem qmu{m:Mac}(h:m.cl.length=16):(zz m)[19]?=some (.b m.over):=by
 show (rI .u32 m.cl++[AV.b m.over])[16]?=_;rw[List.getElem?_append_right (by rw[qaS,h];exact Nat.le_refl _),qaS,h];rfl
theorem qmv{m:Mac}{k:Nat}(h:k<m.cl.length)(v:Int):List.take (3+k) (zz m)++(AV.i .u32 v::List.drop (3+k+1) (zz m))=zz { m with cl:=m.cl.set k v }:=by
 have e:List.take k (rI .u32 m.cl++[AV.b m.over])++(AV.i .u32 v::List.drop (k+1) (rI .u32 m.cl++[AV.b m.over]))=rI .u32 (m.cl.set k v)++[AV.b m.over]:=by
  rw[List.take_append_of_le_length (by rw[qaS];omega),List.drop_append_of_le_length (by rw[qaS];omega),← qi0 h v,List.append_assoc];rfl
 rw[show 3+k=k+3 from by omega]
 show AV.i .u32 m.a::AV.i .u32 m.x::AV.i .u32 m.told::(List.take k (rI .u32 m.cl++[AV.b m.over])++(AV.i .u32 v::List.drop (k+1) (rI .u32 m.cl++[AV.b m.over])))=_;rw[e];rfl
def qiP(i:Ins):Bool:=decide (i.code=96)||decide (i.code=97)||decide (i.code=2)||decide (i.code=3)
def qeS(m:Mac)(i:Ins)(d:GData):Mac×Int :=
 if qiP i=true∧15<i.k then (m,43)
 else if i.code=32 then (if i.k % 4≠0∨64<=i.k then (m,41) else ({ m with a:=(xi d).getD (i.k / 4).toNat 0 },0))
 else if i.code=128 then ({ m with a:=64 },0)
 else if i.code=129 then ({ m with x:=64 },0)
 else if i.code=0 then ({ m with a:=i.k },0)
 else if i.code=1 then ({ m with x:=i.k },0)
 else if i.code=96 then ({ m with a:=m.cl.getD i.k.toNat 0 },0)
 else if i.code=97 then ({ m with x:=m.cl.getD i.k.toNat 0 },0)
 else if i.code=2 then ({ m with cl:=m.cl.set i.k.toNat m.a },0)
 else if i.code=3 then ({ m with cl:=m.cl.set i.k.toNat m.x },0)
 else if i.code=7 then ({ m with x:=m.a },0)
 else if i.code=135 then ({ m with a:=m.x },0)
 else (m,0)
def qn9(P:Program)(g:Nat):Prop:=∀d,DatOk d->∀k:Int,0<=k->k<=4294967295->qg P g [.agg (qL d),.i .u32 k] (qgC d k)
def xE(a:Nat):IFn:=⟨[.tmp 6],.seq (.r [.q 4 (.box (.t 1)),.q 5 (.box (.t 2)),.m 6 (.k 0)]) (.seq (.r [.f 10 0 4,.d 11 10,.q 12 (.bin .eql (.t 11) (.c (.i .u16 96))),.n 13 12,.h 14 0 4 13 false,.j 15 14 13 false,.g 16 (.bin .eql (.t 15) (.c (.i .u16 97))) 13 false,.o 17 13 16,.n 18 17,.h 19 0 4 18 false,.j 20 19 18 false,.g 21 (.bin .eql (.t 20) (.c (.i .u16 2))) 18 false,.o 22 18 21,.n 23 22,.h 24 0 4 23 false,.j 25 24 23 false,.g 26 (.bin .eql (.t 25) (.c (.i .u16 3))) 23 false,.o 27 23 26,.n 7 27]) (.seq (.seq (.r [.n 28 7,.n 29 28,.h 30 3 4 29 true,.j 31 30 29 true,.g 32 (.bin .gtr (.t 31) (.c (.i .u32 15))) 29 true,.p 33 29 32]) (.cond (.t 33) (.seq (.r [.m 6 (.k 43)]) (.ret)) (.skip))) (.seq (.seq (.r [.f 34 0 4,.d 35 34]) (.blk 0 (.seq (.r [.q 37 (.bin .eql (.t 35) (.c (.i .u16 32))),.n 36 37]) (.cond (.t 36) (.seq (.r [.v 39 9 5,.f 40 3 4,.d 41 40,.l 42 a [.t 39,.t 41],.n 38 42,.x 43 38 0,.x 44 38 1,.n 8 43,.n 9 44]) (.seq (.seq (.r [.n 45 9,.w 46 .neq 45 0]) (.cond (.t 46) (.seq (.r [.n 47 9,.n 6 47]) (.ret)) (.skip))) (.r [.n 48 0,.n 49 8,.q 50 (.nilChk (.t 48)),.f 51 0 50,.u (.store 1 (.t 51) (.t 49))]))) (.seq (.r [.q 53 (.bin .eql (.t 35) (.c (.i .u16 128))),.n 52 53]) (.cond (.t 52) (.r [.n 54 0,.q 55 (.nilChk (.t 54)),.f 56 0 55,.u (.store 1 (.t 56) (.c (.i .u32 64)))]) (.seq (.r [.q 58 (.bin .eql (.t 35) (.c (.i .u16 129))),.n 57 58]) (.cond (.t 57) (.r [.n 59 0,.q 60 (.nilChk (.t 59)),.f 61 1 60,.u (.store 1 (.t 61) (.c (.i .u32 64)))]) (.seq (.r [.q 63 (.bin .eql (.t 35) (.c (.i .u16 0))),.n 62 63]) (.cond (.t 62) (.r [.n 64 0,.f 65 3 4,.d 66 65,.q 67 (.nilChk (.t 64)),.f 68 0 67,.u (.store 1 (.t 68) (.t 66))]) (.seq (.r [.q 70 (.bin .eql (.t 35) (.c (.i .u16 1))),.n 69 70]) (.cond (.t 69) (.r [.n 71 0,.f 72 3 4,.d 73 72,.q 74 (.nilChk (.t 71)),.f 75 1 74,.u (.store 1 (.t 75) (.t 73))]) (.seq (.r [.q 77 (.bin .eql (.t 35) (.c (.i .u16 96))),.n 76 77]) (.cond (.t 76) (.reg true [.n 78 0,.n 79 0,.f 80 3 4,.d 81 80,.q 82 (.nilChk (.t 79)),.f 83 3 82,.q 84 (.iAddrA 16 1 (.t 83) (.t 81)),.d 85 84,.q 86 (.nilChk (.t 78)),.f 87 0 86,.u (.store 1 (.t 87) (.t 85))]) (.seq (.r [.q 89 (.bin .eql (.t 35) (.c (.i .u16 97))),.n 88 89]) (.cond (.t 88) (.reg true [.n 90 0,.n 91 0,.f 92 3 4,.d 93 92,.q 94 (.nilChk (.t 91)),.f 95 3 94,.q 96 (.iAddrA 16 1 (.t 95) (.t 93)),.d 97 96,.q 98 (.nilChk (.t 90)),.f 99 1 98,.u (.store 1 (.t 99) (.t 97))]) (.seq (.r [.q 101 (.bin .eql (.t 35) (.c (.i .u16 2))),.n 100 101]) (.cond (.t 100) (.reg true [.n 102 0,.f 103 3 4,.d 104 103,.n 105 0,.q 106 (.nilChk (.t 105)),.f 107 0 106,.d 108 107,.q 109 (.nilChk (.t 102)),.f 110 3 109,.q 111 (.iAddrA 16 1 (.t 110) (.t 104)),.u (.store 1 (.t 111) (.t 108))]) (.seq (.r [.q 113 (.bin .eql (.t 35) (.c (.i .u16 3))),.n 112 113]) (.cond (.t 112) (.reg true [.n 114 0,.f 115 3 4,.d 116 115,.n 117 0,.q 118 (.nilChk (.t 117)),.f 119 1 118,.d 120 119,.q 121 (.nilChk (.t 114)),.f 122 3 121,.q 123 (.iAddrA 16 1 (.t 122) (.t 116)),.u (.store 1 (.t 123) (.t 120))]) (.seq (.r [.q 125 (.bin .eql (.t 35) (.c (.i .u16 7))),.n 124 125]) (.cond (.t 124) (.r [.n 126 0,.n 127 0,.q 128 (.nilChk (.t 127)),.f 129 0 128,.d 130 129,.q 131 (.nilChk (.t 126)),.f 132 1 131,.u (.store 1 (.t 132) (.t 130))]) (.seq (.r [.q 134 (.bin .eql (.t 35) (.c (.i .u16 135))),.n 133 134]) (.cond (.t 133) (.r [.n 135 0,.n 136 0,.q 137 (.nilChk (.t 136)),.f 138 1 137,.d 139 138,.q 140 (.nilChk (.t 135)),.f 141 0 140,.u (.store 1 (.t 141) (.t 139))]) (.skip))))))))))))))))))))))))) (.seq (.r [.m 6 (.k 0)]) (.ret)))))⟩
set_option maxRecDepth 8000 in
theorem qy9{g:Nat}(hc:qd P f (xE g)=true)(hg:qn9 P g)(m:Mac)(hm:MacOk m)(i:Ins)(hi:InsOk i)(d:GData)(hd:DatOk d) :
  Upd P f [.ptr 0 0,.agg (zl i),.agg (qL d)] [.cells 0 true false (zz m)] (.i .i64 (qeS m i d).2) [.cells 0 true false (zz (qeS m i d).1)]:=by
 refine Upd.mk hc (by simp[qbu,bnd,zl,qL]) (by simp) ?_;have hl:=qck hm.len;have hcc:=qc (m:=m);have k0:=hi.k0;have hw:=hg d hd i.k hi.k0 hi.k1;unfold qgC at hw;unfold qeS qiP;simp only[qL] at hw;have g0:(zz m)[0]?=some (.i .u32 m.a):=rfl;have g1:(zz m)[1]?=some (.i .u32 m.x):=rfl;have s0:∀v:Int,AV.i .u32 v::List.drop 1 (zz m)=zz { m with a:=v }:=fun _=>rfl
 have s1:∀v:Int,List.take 1 (zz m)++(AV.i .u32 v::List.drop 2 (zz m))=zz { m with x:=v }:=fun _=>rfl
 simp only[xE,zl,qL,vI,simprocAttr];have x1:(zz m)[1]?=some (.i .u32 m.x):=rfl
 by_cases c128:i.code=128
 ·simp +decide only[↓vS,vT,simprocAttr,c128,hl,s0];intro _;refine⟨[0],?_⟩;simp[vw,qb,qc,c128]
 by_cases c129:i.code=129
 ·simp +decide only[↓vS,vT,simprocAttr,c129,hl,s1];intro _;refine⟨[0],?_⟩;simp[vw,qb,qc,c129]
 by_cases c0:i.code=0
 ·simp +decide only[↓vS,vT,simprocAttr,c0,hl,s0];intro _;refine⟨[0],?_⟩;simp[vw,qb,qc,c0]
 by_cases c1:i.code=1
 ·simp +decide only[↓vS,vT,simprocAttr,c1,hl,s1];intro _;refine⟨[0],?_⟩;simp[vw,qb,qc,c1]
 by_cases c7:i.code=7
 ·simp +decide only[↓vS,vT,simprocAttr,c7,hl,s1,g0];intro _;refine⟨[0],?_⟩;simp[vw,qb,qc,c7]
 by_cases c135:i.code=135
 ·simp +decide only[↓vS,vT,simprocAttr,c135,hl,s0,g1];intro _;refine⟨[0],?_⟩;simp[vw,qb,qc,c135]
 by_cases c32:i.code=32
 ·by_cases hb:i.k % 4≠0∨64<=i.k
  ·rw[if_pos hb] at hw;simp +decide only[↓vS,vT,simprocAttr,c32,hl];refine hw.sc ?_;simp +decide only[↓vS,vT,simprocAttr];intro _;refine⟨[0],?_⟩;simp only[c32,if_pos hb];simp[vw,qb,qc]
  ·rw[if_neg hb] at hw;simp +decide only[↓vS,vT,simprocAttr,c32,hl];refine hw.sc ?_;simp +decide only[↓vS,vT,simprocAttr,hl,s0];intro _;refine⟨[0],?_⟩;simp only[c32,if_neg hb];simp[vw,qb,qc]
 by_cases hcell:i.code=96∨i.code=97∨i.code=2∨i.code=3
 ·by_cases hb:15<i.k
  ·rcases hcell with e|e|e|e<;>(
    simp +decide only[↓vS,vT,simprocAttr,e,hb,hl];intro _;refine⟨[0],?_⟩;simp[vw,qb,qc,e,hb])
  ·have hkl:i.k.toNat<m.cl.length:=by rw[hm.len];omega
   have hk16:i.k.toNat<16:=by omega
   obtain⟨c,hcx⟩:∃c,m.cl[i.k.toNat]?=some c:=⟨_,zzE hkl⟩;obtain⟨n,hn⟩:∃n:Nat,i.k=(n:Int):=⟨i.k.toNat,by omega⟩
   have htn:i.k.toNat=n:=by omega
   rw[htn] at hkl hcx hk16;have gc:=qmt (m:=m) hcx;have sc:=fun v=>qmv (m:=m) hkl v
   have hle:3+n+1<=20:=by omega
   have hb':¬(15:Int)<(n:Int):=by omega
   rcases hcell with e|e|e|e
   ·simp +decide only[↓vS,vT,simprocAttr,e,hn,hb',hl];refine qaB ?_;simp +decide only[↓vS,vT,simprocAttr,hl,s0,hk16,gc,Nat.mul_one];intro _;refine⟨[0],?_⟩;simp[vw,qb,qc,e,hn,hb',hcx]
   ·simp +decide only[↓vS,vT,simprocAttr,e,hn,hb',hl];refine qaB ?_;simp +decide only[↓vS,vT,simprocAttr,hl,s1,hk16,gc,Nat.mul_one];intro _;refine⟨[0],?_⟩;simp[vw,qb,qc,e,hn,hb',hcx]
   ·simp +decide only[↓vS,vT,simprocAttr,e,hn,hb',hl];refine qaB ?_;simp +decide only[↓vS,vT,simprocAttr,hl,g0,hk16,sc,hle,Nat.mul_one];intro _;refine⟨[0],?_⟩;simp[vw,qb,qc,e,hn,hb',hcx]
   ·simp +decide only[↓vS,vT,simprocAttr,e,hn,hb',hl];refine qaB ?_;simp +decide only[↓vS,vT,simprocAttr,hl,g1,hk16,sc,hle,Nat.mul_one];intro _;refine⟨[0],?_⟩;simp[vw,qb,qc,e,hn,hb',hcx]
 ·have c96:¬i.code=96:=fun h=>hcell (.inl h)
  have c97:¬i.code=97:=fun h=>hcell (.inr (.inl h))
  have c2:¬i.code=2:=fun h=>hcell (.inr (.inr (.inl h)))
  have c3:¬i.code=3:=fun h=>hcell (.inr (.inr (.inr h)))
  simp +decide only[↓vS,vT,simprocAttr,c128,c129,c0,c1,c7,c135,c32,c96,c97,c2,c3];intro _;refine⟨[0],?_⟩;simp[vw,qb,qc,c128,c129,c0,c1,c7,c135,c32,c96,c97,c2,c3]
def opM(c a b:Int):Int :=
 if c=4 then IntKind.wrap .u32 (a+b) else if c=20 then IntKind.wrap .u32 (a-b) else if c=36 then IntKind.wrap .u32 (a*b)
 else if c=68 then orI .u32 a b else if c=84 then qdp .u32 a b else if c=164 then qwp .u32 a b else IntKind.wrap .u32 (0-a)
def zk(m:Mac)(i:Ins):Int:=if zB i.code=true then m.x else i.k
def qJ(c:Int):Int:=if zB c=true then c-8 else c
def nuM(m:Mac)(i:Ins):Mac×Int :=
 if qJ i.code=52 then (if 0<zk m i then ({ m with a:=m.a / zk m i },0) else if zB i.code=true then ({ m with over:=true },0) else (m,44))
 else if qJ i.code=100∨qJ i.code=116 then (if zB i.code=false∧31<zk m i then (m,45) else ({ m with a:=qeR (decide (qJ i.code=100)) (zk m i % 32).toNat m.a },0))
 else ({ m with a:=opM (qJ i.code) m.a (zk m i) },0)
def c3L:List Int:=[4,12,20,28,36,44,52,60,68,76,84,92,100,108,116,124,164,172,132]
theorem qv9:∀x ∈ xT,x.2.2=3->c3L.contains x.1=true:=by decide
theorem qh8{m:Mac}(h:m.cl.length=16)(v:Bool):List.take 19 (zz m)++(AV.b v::List.drop 20 (zz m))=zz { m with over:=v }:=by
 have e:List.take 16 (rI .u32 m.cl++[AV.b m.over])++(AV.b v::List.drop 17 (rI .u32 m.cl++[AV.b m.over]))=rI .u32 m.cl++[AV.b v]:=by
  rw[List.take_append_of_le_length (by rw[qaS,h];exact Nat.le_refl _),List.take_of_length_le (by rw[qaS,h];exact Nat.le_refl _),List.drop_eq_nil_of_le (by rw[List.length_append,qaS,h];exact Nat.le_refl _)]
 show AV.i .u32 m.a::AV.i .u32 m.x::AV.i .u32 m.told::(List.take 16 (rI .u32 m.cl++[AV.b m.over])++(AV.b v::List.drop 17 (rI .u32 m.cl++[AV.b m.over])))=_;rw[e];rfl
def qyU(P:Program)(g:Nat):Prop:=∀a:Int,0<=a->a<=4294967295->∀(left:Bool) (n:Nat),n<=31->qg P g [.i .u32 a,.b left,.i .u32 n] (.i .u32 (qeR left n a))
def cWX(P:Program)(g:Nat):Prop:=∀c:Int,qg P g [.i .u16 c] (.b (zB c))
def xo(a b c:Nat):IFn:=⟨[.tmp 4],.seq (.r [.q 3 (.box (.t 1)),.m 4 (.k 0)]) (.seq (.r [.f 8 0 3,.d 9 8,.l 10 a [.t 9],.q 11 (.fld 1 none (.t 10)),.n 5 11]) (.seq (.r [.f 12 3 3,.d 13 12,.n 6 13]) (.seq (.r [.f 14 0 3,.d 15 14,.l 16 b [.t 15],.n 7 16]) (.seq (.seq (.r [.n 17 7]) (.cond (.t 17) (.seq (.r [.n 18 0,.q 19 (.nilChk (.t 18)),.f 20 1 19,.d 21 20,.n 6 21]) (.r [.n 22 5,.n 23 5,.q 24 (.len true (.t 23)),.w 25 .sub 24 1,.q 26 (.slcStr (.t 22) none (some (.t 25))),.n 5 26])) (.skip))) (.seq (.seq (.r [.n 27 5]) (.blk 0 (.seq (.r [.q 29 (.bin .eql (.t 27) (.c (.s [97,100,100]))),.n 28 29]) (.cond (.t 28) (.r [.n 30 0,.n 31 0,.q 32 (.nilChk (.t 31)),.f 33 0 32,.d 34 33,.n 35 6,.b 36 .add 34 35,.q 37 (.nilChk (.t 30)),.f 38 0 37,.u (.store 1 (.t 38) (.t 36))]) (.seq (.r [.q 40 (.bin .eql (.t 27) (.c (.s [115,117,98]))),.n 39 40]) (.cond (.t 39) (.r [.n 41 0,.n 42 0,.q 43 (.nilChk (.t 42)),.f 44 0 43,.d 45 44,.n 46 6,.b 47 .sub 45 46,.q 48 (.nilChk (.t 41)),.f 49 0 48,.u (.store 1 (.t 49) (.t 47))]) (.seq (.r [.q 51 (.bin .eql (.t 27) (.c (.s [109,117,108]))),.n 50 51]) (.cond (.t 50) (.r [.n 52 0,.n 53 0,.q 54 (.nilChk (.t 53)),.f 55 0 54,.d 56 55,.n 57 6,.b 58 .mul 56 57,.q 59 (.nilChk (.t 52)),.f 60 0 59,.u (.store 1 (.t 60) (.t 58))]) (.seq (.r [.q 62 (.bin .eql (.t 27) (.c (.s [111,114]))),.n 61 62]) (.cond (.t 61) (.r [.n 63 0,.n 64 0,.q 65 (.nilChk (.t 64)),.f 66 0 65,.d 67 66,.n 68 6,.b 69 .or 67 68,.q 70 (.nilChk (.t 63)),.f 71 0 70,.u (.store 1 (.t 71) (.t 69))]) (.seq (.r [.q 73 (.bin .eql (.t 27) (.c (.s [97,110,100]))),.n 72 73]) (.cond (.t 72) (.r [.n 74 0,.n 75 0,.q 76 (.nilChk (.t 75)),.f 77 0 76,.d 78 77,.n 79 6,.b 80 .and 78 79,.q 81 (.nilChk (.t 74)),.f 82 0 81,.u (.store 1 (.t 82) (.t 80))]) (.seq (.r [.q 84 (.bin .eql (.t 27) (.c (.s [120,111,114]))),.n 83 84]) (.cond (.t 83) (.r [.n 85 0,.n 86 0,.q 87 (.nilChk (.t 86)),.f 88 0 87,.d 89 88,.n 90 6,.b 91 .xor 89 90,.q 92 (.nilChk (.t 85)),.f 93 0 92,.u (.store 1 (.t 93) (.t 91))]) (.seq (.r [.q 95 (.bin .eql (.t 27) (.c (.s [110,101,103]))),.n 94 95]) (.cond (.t 94) (.r [.n 96 0,.n 97 0,.q 98 (.nilChk (.t 97)),.f 99 0 98,.d 100 99,.q 101 (.bin .sub (.c (.i .u32 0)) (.t 100)),.q 102 (.nilChk (.t 96)),.f 103 0 102,.u (.store 1 (.t 103) (.t 101))]) (.seq (.r [.q 105 (.bin .eql (.t 27) (.c (.s [100,105,118]))),.n 104 105]) (.cond (.t 104) (.seq (.r [.n 106 6,.q 107 (.bin .gtr (.t 106) (.c (.i .u32 0)))]) (.cond (.t 107) (.r [.n 108 0,.n 109 0,.q 110 (.nilChk (.t 109)),.f 111 0 110,.d 112 111,.n 113 6,.b 114 .quo 112 113,.q 115 (.nilChk (.t 108)),.f 116 0 115,.u (.store 1 (.t 116) (.t 114))]) (.seq (.r [.n 117 7]) (.cond (.t 117) (.r [.n 118 0,.q 119 (.nilChk (.t 118)),.f 120 19 119,.u (.store 1 (.t 120) .T)]) (.seq (.r [.m 4 (.k 44)]) (.ret)))))) (.seq (.seq (.r [.q 122 (.bin .eql (.t 27) (.c (.s [108,115,104]))),.n 121 122]) (.cond (.t 121) (.skip) (.r [.q 123 (.bin .eql (.t 27) (.c (.s [114,115,104]))),.n 121 123]))) (.cond (.t 121) (.seq (.seq (.r [.n 124 7,.q 125 (.un .not (.t 124)),.n 126 125,.y 127 6 126,.g 128 (.bin .gtr (.t 127) (.c (.i .u32 31))) 126 true,.p 129 126 128]) (.cond (.t 129) (.seq (.r [.m 4 (.k 45)]) (.ret)) (.skip))) (.r [.n 130 0,.n 131 0,.q 132 (.nilChk (.t 131)),.f 133 0 132,.d 134 133,.n 135 5,.q 136 (.bin .eql (.t 135) (.c (.s [108,115,104]))),.n 137 6,.q 138 (.bin .rem (.t 137) (.c (.i .u32 32))),.l 139 c [.t 134,.t 136,.t 138],.q 140 (.nilChk (.t 130)),.f 141 0 140,.u (.store 1 (.t 141) (.t 139))])) (.skip))))))))))))))))))))) (.seq (.r [.m 4 (.k 0)]) (.ret)))))))⟩
set_option maxRecDepth 8000 in
theorem qya{g1 g2 g3:Nat}(hc:qd P f (xo g1 g2 g3)=true)(h1:qgj P g1)(h2:cWX P g2)(h3:qyU P g3)(m:Mac)(hm:MacOk m)(i:Ins)(hi:InsOk i)(hcls:qh i.code=3) :
  Upd P f [.ptr 0 0,.agg (zl i)] [.cells 0 true false (zz m)] (.i .i64 (nuM m i).2) [.cells 0 true false (zz (nuM m i).1)]:=by
 refine Upd.mk hc (by simp[qbu,bnd,zl]) (by simp) ?_;have hl:=qck hm.len;have k0:=hi.k0;have a0:=hm.a.1;have a1:=hm.a.2;have x0:=hm.x.1;have h32:(32:Int)≠0:=by decide
 have g0:(zz m)[0]?=some (.i .u32 m.a):=rfl;have g1:(zz m)[1]?=some (.i .u32 m.x):=rfl;have s0:∀v:Int,AV.i .u32 v::List.drop 1 (zz m)=zz { m with a:=v }:=fun _=>rfl
 have so:=fun v=>qh8 hm.len v
 have hw1:=h1 i.code;have hw2:=h2 i.code
 have hmem:c3L.contains i.code=true:=by
  unfold qh at hcls;cases hcm:qy i.code with
  | none=>rw[hcm] at hcls;cases hcls
  | some x =>
   rw[hcm] at hcls;obtain⟨q1,q2⟩:=qda hcm;rw[← q2];exact qv9 x q1 hcls
 simp only[c3L,List.contains_iff_mem,List.mem_cons,List.not_mem_nil,or_false] at hmem;simp only[xo,zl,vI,simprocAttr];simp +decide only[↓vS,vT,simprocAttr];refine hw1.sc ?_;rcases hmem with e|e|e|e|e|e|e|e|e|e|e|e|e|e|e|e|e|e|e
 ·have hE:zt (qy i.code)=[.i .u16 4,.s [97,100,100],.i .u8 3]:=by rw[e,(by decide:qy 4=some (4,[97,100,100],3))];rfl
  have hX:zB i.code=false:=by rw[e];decide
  have hB:zk m i=i.k:=by unfold zk;rw[hX];rfl
  have hb:qJ i.code=4:=by unfold qJ;rw[hX,e];rfl
  have hN:=hB;unfold nuM;rw[hX] at hw2;rw[hE,hb,hB,hX];rw[e] at hw2 ⊢;simp +decide only[↓vS,vT,simprocAttr];refine hw2.sc ?_;simp +decide only[↓vS,vT,simprocAttr,hl,g0,g1,s0];intro _;refine⟨[0],?_⟩;simp[vw,qb,qc,opM]
 ·have hE:zt (qy i.code)=[.i .u16 12,.s [97,100,100,120],.i .u8 3]:=by rw[e,(by decide:qy 12=some (12,[97,100,100,120],3))];rfl
  have hX:zB i.code=true:=by rw[e];decide
  have hB:zk m i=m.x:=by unfold zk;rw[hX];rfl
  have hb:qJ i.code=4:=by unfold qJ;rw[hX,e];rfl
  have hN:=hB;unfold nuM;rw[hX] at hw2;rw[hE,hb,hB,hX];rw[e] at hw2 ⊢;simp +decide only[↓vS,vT,simprocAttr];refine hw2.sc ?_;simp +decide only[↓vS,vT,simprocAttr,hl,g0,g1,s0];intro _;refine⟨[0],?_⟩;simp[vw,qb,qc,opM]
 ·have hE:zt (qy i.code)=[.i .u16 20,.s [115,117,98],.i .u8 3]:=by rw[e,(by decide:qy 20=some (20,[115,117,98],3))];rfl
  have hX:zB i.code=false:=by rw[e];decide
  have hB:zk m i=i.k:=by unfold zk;rw[hX];rfl
  have hb:qJ i.code=20:=by unfold qJ;rw[hX,e];rfl
  have hN:=hB;unfold nuM;rw[hX] at hw2;rw[hE,hb,hB,hX];rw[e] at hw2 ⊢;simp +decide only[↓vS,vT,simprocAttr];refine hw2.sc ?_;simp +decide only[↓vS,vT,simprocAttr,hl,g0,g1,s0];intro _;refine⟨[0],?_⟩;simp[vw,qb,qc,opM]
 ·have hE:zt (qy i.code)=[.i .u16 28,.s [115,117,98,120],.i .u8 3]:=by rw[e,(by decide:qy 28=some (28,[115,117,98,120],3))];rfl
  have hX:zB i.code=true:=by rw[e];decide
  have hB:zk m i=m.x:=by unfold zk;rw[hX];rfl
  have hb:qJ i.code=20:=by unfold qJ;rw[hX,e];rfl
  have hN:=hB;unfold nuM;rw[hX] at hw2;rw[hE,hb,hB,hX];rw[e] at hw2 ⊢;simp +decide only[↓vS,vT,simprocAttr];refine hw2.sc ?_;simp +decide only[↓vS,vT,simprocAttr,hl,g0,g1,s0];intro _;refine⟨[0],?_⟩;simp[vw,qb,qc,opM]
 ·have hE:zt (qy i.code)=[.i .u16 36,.s [109,117,108],.i .u8 3]:=by rw[e,(by decide:qy 36=some (36,[109,117,108],3))];rfl
  have hX:zB i.code=false:=by rw[e];decide
  have hB:zk m i=i.k:=by unfold zk;rw[hX];rfl
  have hb:qJ i.code=36:=by unfold qJ;rw[hX,e];rfl
  have hN:=hB;unfold nuM;rw[hX] at hw2;rw[hE,hb,hB,hX];rw[e] at hw2 ⊢;simp +decide only[↓vS,vT,simprocAttr];refine hw2.sc ?_;simp +decide only[↓vS,vT,simprocAttr,hl,g0,g1,s0];intro _;refine⟨[0],?_⟩;simp[vw,qb,qc,opM]
 ·have hE:zt (qy i.code)=[.i .u16 44,.s [109,117,108,120],.i .u8 3]:=by rw[e,(by decide:qy 44=some (44,[109,117,108,120],3))];rfl
  have hX:zB i.code=true:=by rw[e];decide
  have hB:zk m i=m.x:=by unfold zk;rw[hX];rfl
  have hb:qJ i.code=36:=by unfold qJ;rw[hX,e];rfl
  have hN:=hB;unfold nuM;rw[hX] at hw2;rw[hE,hb,hB,hX];rw[e] at hw2 ⊢;simp +decide only[↓vS,vT,simprocAttr];refine hw2.sc ?_;simp +decide only[↓vS,vT,simprocAttr,hl,g0,g1,s0];intro _;refine⟨[0],?_⟩;simp[vw,qb,qc,opM]
 ·have hE:zt (qy i.code)=[.i .u16 52,.s [100,105,118],.i .u8 3]:=by rw[e,(by decide:qy 52=some (52,[100,105,118],3))];rfl
  have hX:zB i.code=false:=by rw[e];decide
  have hB:zk m i=i.k:=by unfold zk;rw[hX];rfl
  have hb:qJ i.code=52:=by unfold qJ;rw[hX,e];rfl
  have hN:=hB;unfold nuM;rw[hX] at hw2;rw[hE,hb,hB,hX];rw[e] at hw2 ⊢;simp +decide only[↓vS,vT,simprocAttr];refine hw2.sc ?_
  by_cases hp:0<i.k
  ·have hq:m.a.tdiv (i.k)=m.a / (i.k):=Int.tdiv_eq_ediv_of_nonneg a0;have hne:i.k≠0:=by omega
   have hle:m.a / (i.k)<=m.a:=Int.ediv_le_self _ a0;have hge:0<=m.a / (i.k):=Int.ediv_nonneg a0 (by omega);have hwq:IntKind.wrap .u32 (m.a / (i.k))=m.a / (i.k):=by show (m.a / (i.k)) % 4294967296=_;omega
   simp +decide only[↓vS,vT,simprocAttr,hl,g0,g1,hp,↓zr hne,hq,hwq,s0];intro _;refine⟨[0],?_⟩;simp[vw,qb,qc,opM,hp]
  ·simp +decide only[↓vS,vT,simprocAttr,hl,g1,hp,so];intro _;refine⟨[0],?_⟩;simp[vw,qb,qc,opM,hp]
 ·have hE:zt (qy i.code)=[.i .u16 60,.s [100,105,118,120],.i .u8 3]:=by rw[e,(by decide:qy 60=some (60,[100,105,118,120],3))];rfl
  have hX:zB i.code=true:=by rw[e];decide
  have hB:zk m i=m.x:=by unfold zk;rw[hX];rfl
  have hb:qJ i.code=52:=by unfold qJ;rw[hX,e];rfl
  have hN:=hB;unfold nuM;rw[hX] at hw2;rw[hE,hb,hB,hX];rw[e] at hw2 ⊢;simp +decide only[↓vS,vT,simprocAttr];refine hw2.sc ?_
  by_cases hp:0<m.x
  ·have hq:m.a.tdiv (m.x)=m.a / (m.x):=Int.tdiv_eq_ediv_of_nonneg a0;have hne:m.x≠0:=by omega
   have hle:m.a / (m.x)<=m.a:=Int.ediv_le_self _ a0;have hge:0<=m.a / (m.x):=Int.ediv_nonneg a0 (by omega);have hwq:IntKind.wrap .u32 (m.a / (m.x))=m.a / (m.x):=by show (m.a / (m.x)) % 4294967296=_;omega
   simp +decide only[↓vS,vT,simprocAttr,hl,g0,g1,hp,↓zr hne,hq,hwq,s0];intro _;refine⟨[0],?_⟩;simp[vw,qb,qc,opM,hp]
  ·simp +decide only[↓vS,vT,simprocAttr,hl,g1,hp,so];intro _;refine⟨[0],?_⟩;simp[vw,qb,qc,opM,hp]
 ·have hE:zt (qy i.code)=[.i .u16 68,.s [111,114],.i .u8 3]:=by rw[e,(by decide:qy 68=some (68,[111,114],3))];rfl
  have hX:zB i.code=false:=by rw[e];decide
  have hB:zk m i=i.k:=by unfold zk;rw[hX];rfl
  have hb:qJ i.code=68:=by unfold qJ;rw[hX,e];rfl
  have hN:=hB;unfold nuM;rw[hX] at hw2;rw[hE,hb,hB,hX];rw[e] at hw2 ⊢;simp +decide only[↓vS,vT,simprocAttr];refine hw2.sc ?_;simp +decide only[↓vS,vT,simprocAttr,hl,g0,g1,s0];intro _;refine⟨[0],?_⟩;simp[vw,qb,qc,opM]
 ·have hE:zt (qy i.code)=[.i .u16 76,.s [111,114,120],.i .u8 3]:=by rw[e,(by decide:qy 76=some (76,[111,114,120],3))];rfl
  have hX:zB i.code=true:=by rw[e];decide
  have hB:zk m i=m.x:=by unfold zk;rw[hX];rfl
  have hb:qJ i.code=68:=by unfold qJ;rw[hX,e];rfl
  have hN:=hB;unfold nuM;rw[hX] at hw2;rw[hE,hb,hB,hX];rw[e] at hw2 ⊢;simp +decide only[↓vS,vT,simprocAttr];refine hw2.sc ?_;simp +decide only[↓vS,vT,simprocAttr,hl,g0,g1,s0];intro _;refine⟨[0],?_⟩;simp[vw,qb,qc,opM]
 ·have hE:zt (qy i.code)=[.i .u16 84,.s [97,110,100],.i .u8 3]:=by rw[e,(by decide:qy 84=some (84,[97,110,100],3))];rfl
  have hX:zB i.code=false:=by rw[e];decide
  have hB:zk m i=i.k:=by unfold zk;rw[hX];rfl
  have hb:qJ i.code=84:=by unfold qJ;rw[hX,e];rfl
  have hN:=hB;unfold nuM;rw[hX] at hw2;rw[hE,hb,hB,hX];rw[e] at hw2 ⊢;simp +decide only[↓vS,vT,simprocAttr];refine hw2.sc ?_;simp +decide only[↓vS,vT,simprocAttr,hl,g0,g1,s0];intro _;refine⟨[0],?_⟩;simp[vw,qb,qc,opM]
 ·have hE:zt (qy i.code)=[.i .u16 92,.s [97,110,100,120],.i .u8 3]:=by rw[e,(by decide:qy 92=some (92,[97,110,100,120],3))];rfl
  have hX:zB i.code=true:=by rw[e];decide
  have hB:zk m i=m.x:=by unfold zk;rw[hX];rfl
  have hb:qJ i.code=84:=by unfold qJ;rw[hX,e];rfl
  have hN:=hB;unfold nuM;rw[hX] at hw2;rw[hE,hb,hB,hX];rw[e] at hw2 ⊢;simp +decide only[↓vS,vT,simprocAttr];refine hw2.sc ?_;simp +decide only[↓vS,vT,simprocAttr,hl,g0,g1,s0];intro _;refine⟨[0],?_⟩;simp[vw,qb,qc,opM]
 ·have hE:zt (qy i.code)=[.i .u16 100,.s [108,115,104],.i .u8 3]:=by rw[e,(by decide:qy 100=some (100,[108,115,104],3))];rfl
  have hX:zB i.code=false:=by rw[e];decide
  have hB:zk m i=i.k:=by unfold zk;rw[hX];rfl
  have hb:qJ i.code=100:=by unfold qJ;rw[hX,e];rfl
  have hN:=hB;unfold nuM;rw[hX] at hw2;rw[hE,hb,hB,hX];rw[e] at hw2 ⊢;simp +decide only[↓vS,vT,simprocAttr];refine hw2.sc ?_
  by_cases hp:31<i.k
  ·simp +decide only[↓vS,vT,simprocAttr,hl,hp];intro _;refine⟨[0],?_⟩;simp[vw,qb,qc,opM,hp]
  ·have hr:(i.k).tmod 32=(((i.k) % 32).toNat:Int):=by rw[Int.tmod_eq_emod_of_nonneg k0];omega
   have hsh:=h3 m.a a0 a1 true ((i.k) % 32).toNat (by omega);simp +decide only[↓vS,vT,simprocAttr,hl,g0,g1,hp,↓xl h32,hr];refine hsh.sc ?_;simp +decide only[↓vS,vT,simprocAttr,hl,s0];intro _;refine⟨[0],?_⟩;simp[vw,qb,qc,opM,hp]
 ·have hE:zt (qy i.code)=[.i .u16 108,.s [108,115,104,120],.i .u8 3]:=by rw[e,(by decide:qy 108=some (108,[108,115,104,120],3))];rfl
  have hX:zB i.code=true:=by rw[e];decide
  have hB:zk m i=m.x:=by unfold zk;rw[hX];rfl
  have hb:qJ i.code=100:=by unfold qJ;rw[hX,e];rfl
  have hN:=hB;unfold nuM;rw[hX] at hw2;rw[hE,hb,hB,hX];rw[e] at hw2 ⊢;simp +decide only[↓vS,vT,simprocAttr];refine hw2.sc ?_;have hr:(m.x).tmod 32=(((m.x) % 32).toNat:Int):=by rw[Int.tmod_eq_emod_of_nonneg x0];omega
  have hsh:=h3 m.a a0 a1 true ((m.x) % 32).toNat (by omega);simp +decide only[↓vS,vT,simprocAttr,hl,g0,g1,↓xl h32,hr];refine hsh.sc ?_;simp +decide only[↓vS,vT,simprocAttr,hl,s0];intro _;refine⟨[0],?_⟩;simp[vw,qb,qc,opM]
 ·have hE:zt (qy i.code)=[.i .u16 116,.s [114,115,104],.i .u8 3]:=by rw[e,(by decide:qy 116=some (116,[114,115,104],3))];rfl
  have hX:zB i.code=false:=by rw[e];decide
  have hB:zk m i=i.k:=by unfold zk;rw[hX];rfl
  have hb:qJ i.code=116:=by unfold qJ;rw[hX,e];rfl
  have hN:=hB;unfold nuM;rw[hX] at hw2;rw[hE,hb,hB,hX];rw[e] at hw2 ⊢;simp +decide only[↓vS,vT,simprocAttr];refine hw2.sc ?_
  by_cases hp:31<i.k
  ·simp +decide only[↓vS,vT,simprocAttr,hl,hp];intro _;refine⟨[0],?_⟩;simp[vw,qb,qc,opM,hp]
  ·have hr:(i.k).tmod 32=(((i.k) % 32).toNat:Int):=by rw[Int.tmod_eq_emod_of_nonneg k0];omega
   have hsh:=h3 m.a a0 a1 false ((i.k) % 32).toNat (by omega);simp +decide only[↓vS,vT,simprocAttr,hl,g0,g1,hp,↓xl h32,hr];refine hsh.sc ?_;simp +decide only[↓vS,vT,simprocAttr,hl,s0];intro _;refine⟨[0],?_⟩;simp[vw,qb,qc,opM,hp]
 ·have hE:zt (qy i.code)=[.i .u16 124,.s [114,115,104,120],.i .u8 3]:=by rw[e,(by decide:qy 124=some (124,[114,115,104,120],3))];rfl
  have hX:zB i.code=true:=by rw[e];decide
  have hB:zk m i=m.x:=by unfold zk;rw[hX];rfl
  have hb:qJ i.code=116:=by unfold qJ;rw[hX,e];rfl
  have hN:=hB;unfold nuM;rw[hX] at hw2;rw[hE,hb,hB,hX];rw[e] at hw2 ⊢;simp +decide only[↓vS,vT,simprocAttr];refine hw2.sc ?_;have hr:(m.x).tmod 32=(((m.x) % 32).toNat:Int):=by rw[Int.tmod_eq_emod_of_nonneg x0];omega
  have hsh:=h3 m.a a0 a1 false ((m.x) % 32).toNat (by omega);simp +decide only[↓vS,vT,simprocAttr,hl,g0,g1,↓xl h32,hr];refine hsh.sc ?_;simp +decide only[↓vS,vT,simprocAttr,hl,s0];intro _;refine⟨[0],?_⟩;simp[vw,qb,qc,opM]
 ·have hE:zt (qy i.code)=[.i .u16 164,.s [120,111,114],.i .u8 3]:=by rw[e,(by decide:qy 164=some (164,[120,111,114],3))];rfl
  have hX:zB i.code=false:=by rw[e];decide
  have hB:zk m i=i.k:=by unfold zk;rw[hX];rfl
  have hb:qJ i.code=164:=by unfold qJ;rw[hX,e];rfl
  have hN:=hB;unfold nuM;rw[hX] at hw2;rw[hE,hb,hB,hX];rw[e] at hw2 ⊢;simp +decide only[↓vS,vT,simprocAttr];refine hw2.sc ?_;simp +decide only[↓vS,vT,simprocAttr,hl,g0,g1,s0];intro _;refine⟨[0],?_⟩;simp[vw,qb,qc,opM]
 ·have hE:zt (qy i.code)=[.i .u16 172,.s [120,111,114,120],.i .u8 3]:=by rw[e,(by decide:qy 172=some (172,[120,111,114,120],3))];rfl
  have hX:zB i.code=true:=by rw[e];decide
  have hB:zk m i=m.x:=by unfold zk;rw[hX];rfl
  have hb:qJ i.code=164:=by unfold qJ;rw[hX,e];rfl
  have hN:=hB;unfold nuM;rw[hX] at hw2;rw[hE,hb,hB,hX];rw[e] at hw2 ⊢;simp +decide only[↓vS,vT,simprocAttr];refine hw2.sc ?_;simp +decide only[↓vS,vT,simprocAttr,hl,g0,g1,s0];intro _;refine⟨[0],?_⟩;simp[vw,qb,qc,opM]
 ·have hE:zt (qy i.code)=[.i .u16 132,.s [110,101,103],.i .u8 3]:=by rw[e,(by decide:qy 132=some (132,[110,101,103],3))];rfl
  have hX:zB i.code=false:=by rw[e];decide
  have hB:zk m i=i.k:=by unfold zk;rw[hX];rfl
  have hb:qJ i.code=132:=by unfold qJ;rw[hX,e];rfl
  have hN:=hB;unfold nuM;rw[hX] at hw2;rw[hE,hb,hB,hX];rw[e] at hw2 ⊢;simp +decide only[↓vS,vT,simprocAttr];refine hw2.sc ?_;simp +decide only[↓vS,vT,simprocAttr,hl,g0,g1,s0];intro _;refine⟨[0],?_⟩;simp[vw,qb,qc,opM]
def qbN(c a b:Int):Bool:=if c=21 then decide (a=b) else if c=37 then decide (b<a) else if c=53 then decide (b<=a) else decide (0<qdp .u32 a b)
def qgu(m:Mac)(i:Ins):Int:=if i.code=5 then i.k else if qbN (qJ i.code) m.a (zk m i)=true then i.jt else i.jf
def c4L:List Int:=[21,29,37,45,53,61,69,77,5]
theorem qwa:∀x ∈ xT,x.2.2=4->c4L.contains x.1=true:=by decide
def xD(a:Nat):IFn:=⟨[.tmp 4],.seq (.r [.q 3 (.box (.t 1)),.m 4 (.k 0)]) (.seq (.seq (.r [.f 7 0 3,.d 8 7,.q 9 (.bin .eql (.t 8) (.c (.i .u16 5)))]) (.cond (.t 9) (.seq (.r [.f 10 3 3,.d 11 10,.q 12 (.cvInt .i64 (.t 11)),.n 4 12]) (.ret)) (.skip))) (.seq (.r [.f 13 3 3,.d 14 13,.n 5 14]) (.seq (.seq (.r [.f 15 0 3,.d 16 15,.l 17 a [.t 16]]) (.cond (.t 17) (.r [.n 18 0,.q 19 (.nilChk (.t 18)),.f 20 1 19,.d 21 20,.n 5 21]) (.skip))) (.seq (.r [.m 6 .F]) (.seq (.seq (.r [.f 22 0 3,.d 23 22,.q 24 (.bin .quo (.t 23) (.c (.i .u16 16)))]) (.blk 0 (.seq (.r [.q 26 (.bin .eql (.t 24) (.c (.i .u16 1))),.n 25 26]) (.cond (.t 25) (.r [.n 27 0,.q 28 (.nilChk (.t 27)),.f 29 0 28,.d 30 29,.n 31 5,.b 32 .eql 30 31,.n 6 32]) (.seq (.r [.q 34 (.bin .eql (.t 24) (.c (.i .u16 2))),.n 33 34]) (.cond (.t 33) (.r [.n 35 0,.q 36 (.nilChk (.t 35)),.f 37 0 36,.d 38 37,.n 39 5,.b 40 .gtr 38 39,.n 6 40]) (.seq (.r [.q 42 (.bin .eql (.t 24) (.c (.i .u16 3))),.n 41 42]) (.cond (.t 41) (.r [.n 43 0,.q 44 (.nilChk (.t 43)),.f 45 0 44,.d 46 45,.n 47 5,.b 48 .geq 46 47,.n 6 48]) (.seq (.r [.q 50 (.bin .eql (.t 24) (.c (.i .u16 4))),.n 49 50]) (.cond (.t 49) (.r [.n 51 0,.q 52 (.nilChk (.t 51)),.f 53 0 52,.d 54 53,.n 55 5,.b 56 .and 54 55,.q 57 (.bin .gtr (.t 56) (.c (.i .u32 0))),.n 6 57]) (.skip))))))))))) (.seq (.seq (.r [.n 58 6]) (.cond (.t 58) (.seq (.r [.f 59 1 3,.d 60 59,.q 61 (.cvInt .i64 (.t 60)),.n 4 61]) (.ret)) (.skip))) (.seq (.r [.f 62 2 3,.d 63 62,.q 64 (.cvInt .i64 (.t 63)),.n 4 64]) (.ret))))))))⟩
set_option maxRecDepth 8000 in
theorem qy6{g2:Nat}(hc:qd P f (xD g2)=true)(h2:cWX P g2)(m:Mac)(hm:MacOk m)(i:Ins)(hi:InsOk i)(hcls:qh i.code=4) :
  Upd P f [.ptr 0 0,.agg (zl i)] [.cells 0 true false (zz m)] (.i .i64 (qgu m i)) [.cells 0 true false (zz m)]:=by
 refine Upd.mk hc (by simp[qbu,bnd,zl]) (by simp) ?_;have hl:=qck hm.len;have h16:(16:Int)≠0:=by decide
 have g0:(zz m)[0]?=some (.i .u32 m.a):=rfl;have g1:(zz m)[1]?=some (.i .u32 m.x):=rfl;have wk:IntKind.wrap .i64 i.k=i.k:=by have:=hi.k0;have:=hi.k1;exact qv (by omega) (by omega)
 have wt:IntKind.wrap .i64 i.jt=i.jt:=by have:=hi.t0;have:=hi.t1;exact qv (by omega) (by omega)
 have wf:IntKind.wrap .i64 i.jf=i.jf:=by have:=hi.f0;have:=hi.f1;exact qv (by omega) (by omega)
 have hw2:=h2 i.code
 have hmem:c4L.contains i.code=true:=by
  unfold qh at hcls;cases hcm:qy i.code with
  | none=>rw[hcm] at hcls;cases hcls
  | some x =>
   rw[hcm] at hcls;obtain⟨q1,q2⟩:=qda hcm;rw[← q2];exact qwa x q1 hcls
 simp only[c4L,List.contains_iff_mem,List.mem_cons,List.not_mem_nil,or_false] at hmem;unfold qgu;simp only[xD,zl,vI,simprocAttr]
 by_cases c5:i.code=5
 ·simp +decide only[↓vS,vT,simprocAttr,c5,wk];intro _;refine⟨[0],?_⟩;simp[vw,qb,qc]
 rcases hmem with e|e|e|e|e|e|e|e|e
 ·have hX:zB i.code=false:=by rw[e];decide
  have hB:zk m i=i.k:=by unfold zk;rw[hX];rfl
  have hb:qJ i.code=21:=by unfold qJ;rw[hX,e];rfl
  have hq:Int.tdiv 21 16=1:=by decide
  have hwq:IntKind.wrap .u16 1=1:=by decide
  rw[hX] at hw2;rw[hb,hB];rw[e] at hw2 ⊢;simp +decide only[↓vS,vT,simprocAttr];refine hw2.sc ?_
  by_cases hp:m.a=i.k
  ·simp +decide only[↓vS,vT,simprocAttr,hl,g0,g1,↓zr h16,hq,hwq,hp,wt];intro _;refine⟨[0],?_⟩;simp[vw,qb,qc,qbN,hp]
  ·simp +decide only[↓vS,vT,simprocAttr,hl,g0,g1,↓zr h16,hq,hwq,hp,wf];intro _;refine⟨[0],?_⟩;simp[vw,qb,qc,qbN,hp]
 ·have hX:zB i.code=true:=by rw[e];decide
  have hB:zk m i=m.x:=by unfold zk;rw[hX];rfl
  have hb:qJ i.code=21:=by unfold qJ;rw[hX,e];rfl
  have hq:Int.tdiv 29 16=1:=by decide
  have hwq:IntKind.wrap .u16 1=1:=by decide
  rw[hX] at hw2;rw[hb,hB];rw[e] at hw2 ⊢;simp +decide only[↓vS,vT,simprocAttr];refine hw2.sc ?_
  by_cases hp:m.a=m.x
  ·simp +decide only[↓vS,vT,simprocAttr,hl,g0,g1,↓zr h16,hq,hwq,hp,wt];intro _;refine⟨[0],?_⟩;simp[vw,qb,qc,qbN,hp]
  ·simp +decide only[↓vS,vT,simprocAttr,hl,g0,g1,↓zr h16,hq,hwq,hp,wf];intro _;refine⟨[0],?_⟩;simp[vw,qb,qc,qbN,hp]
 ·have hX:zB i.code=false:=by rw[e];decide
  have hB:zk m i=i.k:=by unfold zk;rw[hX];rfl
  have hb:qJ i.code=37:=by unfold qJ;rw[hX,e];rfl
  have hq:Int.tdiv 37 16=2:=by decide
  have hwq:IntKind.wrap .u16 2=2:=by decide
  rw[hX] at hw2;rw[hb,hB];rw[e] at hw2 ⊢;simp +decide only[↓vS,vT,simprocAttr];refine hw2.sc ?_
  by_cases hp:i.k<m.a
  ·simp +decide only[↓vS,vT,simprocAttr,hl,g0,g1,↓zr h16,hq,hwq,hp,wt];intro _;refine⟨[0],?_⟩;simp[vw,qb,qc,qbN,hp]
  ·simp +decide only[↓vS,vT,simprocAttr,hl,g0,g1,↓zr h16,hq,hwq,hp,wf];intro _;refine⟨[0],?_⟩;simp[vw,qb,qc,qbN,hp]
 ·have hX:zB i.code=true:=by rw[e];decide
  have hB:zk m i=m.x:=by unfold zk;rw[hX];rfl
  have hb:qJ i.code=37:=by unfold qJ;rw[hX,e];rfl
  have hq:Int.tdiv 45 16=2:=by decide
  have hwq:IntKind.wrap .u16 2=2:=by decide
  rw[hX] at hw2;rw[hb,hB];rw[e] at hw2 ⊢;simp +decide only[↓vS,vT,simprocAttr];refine hw2.sc ?_
  by_cases hp:m.x<m.a
  ·simp +decide only[↓vS,vT,simprocAttr,hl,g0,g1,↓zr h16,hq,hwq,hp,wt];intro _;refine⟨[0],?_⟩;simp[vw,qb,qc,qbN,hp]
  ·simp +decide only[↓vS,vT,simprocAttr,hl,g0,g1,↓zr h16,hq,hwq,hp,wf];intro _;refine⟨[0],?_⟩;simp[vw,qb,qc,qbN,hp]
 ·have hX:zB i.code=false:=by rw[e];decide
  have hB:zk m i=i.k:=by unfold zk;rw[hX];rfl
  have hb:qJ i.code=53:=by unfold qJ;rw[hX,e];rfl
  have hq:Int.tdiv 53 16=3:=by decide
  have hwq:IntKind.wrap .u16 3=3:=by decide
  rw[hX] at hw2;rw[hb,hB];rw[e] at hw2 ⊢;simp +decide only[↓vS,vT,simprocAttr];refine hw2.sc ?_
  by_cases hp:i.k<=m.a
  ·simp +decide only[↓vS,vT,simprocAttr,hl,g0,g1,↓zr h16,hq,hwq,hp,wt];intro _;refine⟨[0],?_⟩;simp[vw,qb,qc,qbN,hp]
  ·simp +decide only[↓vS,vT,simprocAttr,hl,g0,g1,↓zr h16,hq,hwq,hp,wf];intro _;refine⟨[0],?_⟩;simp[vw,qb,qc,qbN,hp]
 ·have hX:zB i.code=true:=by rw[e];decide
  have hB:zk m i=m.x:=by unfold zk;rw[hX];rfl
  have hb:qJ i.code=53:=by unfold qJ;rw[hX,e];rfl
  have hq:Int.tdiv 61 16=3:=by decide
  have hwq:IntKind.wrap .u16 3=3:=by decide
  rw[hX] at hw2;rw[hb,hB];rw[e] at hw2 ⊢;simp +decide only[↓vS,vT,simprocAttr];refine hw2.sc ?_
  by_cases hp:m.x<=m.a
  ·simp +decide only[↓vS,vT,simprocAttr,hl,g0,g1,↓zr h16,hq,hwq,hp,wt];intro _;refine⟨[0],?_⟩;simp[vw,qb,qc,qbN,hp]
  ·simp +decide only[↓vS,vT,simprocAttr,hl,g0,g1,↓zr h16,hq,hwq,hp,wf];intro _;refine⟨[0],?_⟩;simp[vw,qb,qc,qbN,hp]
 ·have hX:zB i.code=false:=by rw[e];decide
  have hB:zk m i=i.k:=by unfold zk;rw[hX];rfl
  have hb:qJ i.code=69:=by unfold qJ;rw[hX,e];rfl
  have hq:Int.tdiv 69 16=4:=by decide
  have hwq:IntKind.wrap .u16 4=4:=by decide
  rw[hX] at hw2;rw[hb,hB];rw[e] at hw2 ⊢;simp +decide only[↓vS,vT,simprocAttr];refine hw2.sc ?_
  by_cases hp:0<qdp .u32 m.a (i.k)
  ·simp +decide only[↓vS,vT,simprocAttr,hl,g0,g1,↓zr h16,hq,hwq,hp,wt];intro _;refine⟨[0],?_⟩;simp[vw,qb,qc,qbN,hp]
  ·simp +decide only[↓vS,vT,simprocAttr,hl,g0,g1,↓zr h16,hq,hwq,hp,wf];intro _;refine⟨[0],?_⟩;simp[vw,qb,qc,qbN,hp]
 ·have hX:zB i.code=true:=by rw[e];decide
  have hB:zk m i=m.x:=by unfold zk;rw[hX];rfl
  have hb:qJ i.code=69:=by unfold qJ;rw[hX,e];rfl
  have hq:Int.tdiv 77 16=4:=by decide
  have hwq:IntKind.wrap .u16 4=4:=by decide
  rw[hX] at hw2;rw[hb,hB];rw[e] at hw2 ⊢;simp +decide only[↓vS,vT,simprocAttr];refine hw2.sc ?_
  by_cases hp:0<qdp .u32 m.a (m.x)
  ·simp +decide only[↓vS,vT,simprocAttr,hl,g0,g1,↓zr h16,hq,hwq,hp,wt];intro _;refine⟨[0],?_⟩;simp[vw,qb,qc,qbN,hp]
  ·simp +decide only[↓vS,vT,simprocAttr,hl,g0,g1,↓zr h16,hq,hwq,hp,wf];intro _;refine⟨[0],?_⟩;simp[vw,qb,qc,qbN,hp]
 ·exact absurd e c5
end Go.Kc
end
