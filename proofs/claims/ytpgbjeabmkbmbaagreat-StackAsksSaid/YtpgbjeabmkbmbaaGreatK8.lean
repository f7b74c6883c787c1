/- Part 8 of the abstract machine and of the functions' walks. Conditions: with each theorem. -/
import Derived.Test.YtpgbjeabmkbmbaaGreatK7
set_option linter.unusedSimpArgs false
set_option linter.unusedVariables false
set_option linter.unnecessarySimpa false
section
/- The document's ways from a place. Condition: the functions' texts are these. -/
namespace Go.Kc
variable {P:Program} {f:Nat}
def Je(P:Program)(g:Nat):Prop:=∀n,qc P g [.i .u16 n] (.agg (zj (qw n)))
def nxE(n a b:Nat):List Nat:=(if a<n then [a] else [])++(if b<n∧b≠a then [b] else [])
def kS(n:Nat)(i:Ins)(j:Nat):List Nat:=(zN i j).takeWhile fun m=>decide (m<n)
def zh(a:Nat):ICode:=.seq (.seq (.r [.n 79 5,.n 80 6,.b 81 .gtr 79 80]) (.cond (.t 81) (.r [.n 82 6,.n 83 5,.n 5 82,.n 6 83]) (.skip))) (.seq (.r [.m 7 .N]) (.seq (.seq (.r [.n 84 5,.n 85 0,.e 86 85,.s 87 84 86]) (.cond (.t 87) (.r [.n 88 7,.n 89 5,.q 90 (.buildS 1 [.i .i64 0] [(0,1,(.t 89))]),.q 91 (.app 1 8 true (.t 88) (.t 90)),.n 7 91]) (.skip))) (.seq (.seq (.r [.n 92 6,.n 93 0,.e 94 93,.s 95 92 94,.n 96 95,.y 97 6 96,.y 98 5 96,.g 99 (.bin .neq (.t 97) (.t 98)) 96 true,.p 100 96 99]) (.cond (.t 100) (.r [.n 101 7,.n 102 6,.q 103 (.buildS 1 [.i .i64 0] [(0,1,(.t 102))]),.q 104 (.app 1 8 true (.t 101) (.t 103)),.n 7 104]) (.skip))) (.seq (.r [.n 105 7,.n 4 105]) (.ret)))))
def wg(a:Nat):IFn:=⟨[.tmp 4],.seq (.r [.m 4 .N]) (.seq (.seq (.r [.n 8 1,.w 9 .lss 8 0,.n 10 9,.z 11 1 10,.z 12 0 10,.g 13 (.len false (.t 12)) 10 false,.g 14 (.bin .geq (.t 11) (.t 13)) 10 false,.o 15 10 14,.n 16 15,.z 17 0 16,.g 18 (.len false (.t 17)) 16 false,.g 19 (.bin .gtr (.t 18) (.k 4096)) 16 false,.o 20 16 19]) (.cond (.t 20) (.seq (.r [.m 4 .N]) (.ret)) (.skip))) (.seq (.r [.n 21 1,.a 22 21 1,.n 23 1,.a 24 23 1,.n 5 22,.n 6 24]) (.seq (.seq (.r [.n 25 0,.n 26 1,.i 27 4 25 26,.f 28 0 27,.d 29 28,.l 30 a [.t 29],.q 31 (.fld 2 none (.t 30))]) (.blk 0 (.seq (.seq (.r [.q 33 (.bin .eql (.t 31) (.c (.i .u8 0))),.n 32 33]) (.cond (.t 32) (.skip) (.r [.q 34 (.bin .eql (.t 31) (.c (.i .u8 5))),.n 32 34]))) (.cond (.t 32) (.seq (.r [.m 4 .N]) (.ret)) (.seq (.r [.q 36 (.bin .eql (.t 31) (.c (.i .u8 4))),.n 35 36]) (.cond (.t 35) (.seq (.reg true [.n 37 1,.a 38 37 1,.n 39 0,.n 40 1,.i 41 4 39 40,.f 42 1 41,.d 43 42,.q 44 (.cvInt .i64 (.t 43)),.b 45 .add 38 44,.n 46 1,.a 47 46 1,.n 48 0,.n 49 1,.i 50 4 48 49,.f 51 2 50,.d 52 51,.q 53 (.cvInt .i64 (.t 52)),.b 54 .add 47 53,.n 5 45,.n 6 54]) (.seq (.r [.n 55 0,.n 56 1,.i 57 4 55 56,.f 58 0 57,.d 59 58,.q 60 (.bin .eql (.t 59) (.c (.i .u16 5)))]) (.cond (.t 60) (.reg true [.n 61 1,.a 62 61 1,.n 63 0,.n 64 1,.i 65 4 63 64,.f 66 3 65,.d 67 66,.q 68 (.cvInt .i64 (.t 67)),.b 69 .add 62 68,.n 70 1,.a 71 70 1,.n 72 0,.n 73 1,.i 74 4 72 73,.f 75 3 74,.d 76 75,.q 77 (.cvInt .i64 (.t 76)),.b 78 .add 71 77,.n 5 69,.n 6 78]) (.skip)))) (.skip))))))) (.cut (zh a)))))⟩
theorem qk7(g:Nat)(n:Nat)(p:List AV)(hp:qy p=true)(a b:Nat)(hn:n<=4096){t':Tr AV}{h':Hp}(hw:Wk 0 t' h' (mkT [(0,.fz n p),(5,.i .i64 (a:Int)),(6,.i .i64 (b:Int))]) (mkH 0 [])) :
  S P 0 (zh g) (j0 [.tmp 4] fun v' h'=>Frz h' v' (.fz (nxE n (min a b) (max a b)).length (rNt (nxE n (min a b) (max a b))))) t' h':=by
 refine S.weak hw (qA ?_)
 have main:∀x y:Nat,x<=y->min a b=x->max a b=y->(a=x∧b=y∨a=y∧b=x∧x<y)->V P 0 (zh g) (j0 [.tmp 4] fun v' h'=>Frz h' v' (.fz (nxE n x y).length (rNt (nxE n x y)))) (mkT [(0,.fz n p),(5,.i .i64 (a:Int)),(6,.i .i64 (b:Int))]) (mkH 0 []):=by
  intro x y hxy _ _ hab;have hr:1<=qf:=by decide
  have hr1:8<=qf:=by decide
  have hr2:2<=qf:=by decide
  have hr3:16<=qf:=by decide
  unfold nxE;simp only[zh,vI,simprocAttr];rcases hab with⟨rfl,rfl⟩|⟨rfl,rfl,hlt⟩
  ·have h1:¬(b:Int)<(a:Int):=by omega
   by_cases ha:a<n
   ·by_cases hb:b<n
    ·by_cases he:b=a
     ·have he':(b:Int)=a:=by omega
      simp (decide:=true) only [↓vS,vT,simprocAttr,h1,ha,hb,he',he];simp[vZ,vP,Tr.get_set,rNt]
     ·have he':¬(b:Int)=a:=by omega
      simp (decide:=true) only [↓vS,vT,simprocAttr,h1,ha,hb,he',he];simp[vZ,vP,Tr.get_set,rNt,he]
    ·simp (decide:=true) only [↓vS,vT,simprocAttr,h1,ha,hb];simp[vZ,vP,Tr.get_set,rNt]
   ·have hb:¬b<n:=by omega
    simp (decide:=true) only [↓vS,vT,simprocAttr,h1,ha,hb];simp[vZ,vP,Tr.get_set,rNt]
  ·have h1:(a:Int)<(b:Int)∨(b:Int)<(a:Int):=by omega
   have h1:(b:Int)<(a:Int):=by omega
   have he:¬a=b:=by omega
   have he':¬(a:Int)=b:=by omega
   by_cases ha:b<n
   ·by_cases hb:a<n
    ·simp (decide:=true) only [↓vS,vT,simprocAttr,h1,ha,hb,he',he];simp[vZ,vP,Tr.get_set,rNt,he]
    ·simp (decide:=true) only [↓vS,vT,simprocAttr,h1,ha,hb];simp[vZ,vP,Tr.get_set,rNt]
   ·have hb:¬a<n:=by omega
    simp (decide:=true) only [↓vS,vT,simprocAttr,h1,ha,hb];simp[vZ,vP,Tr.get_set,rNt]
 rcases Nat.lt_or_ge b a with h|h
 ·rw[Nat.min_eq_right (by omega),Nat.max_eq_left (by omega)];exact main b a (by omega) (by omega) (by omega) (.inr ⟨rfl,rfl,h⟩)
 ·rw[Nat.min_eq_left h,Nat.max_eq_right h];exact main a b h (by omega) (by omega) (.inl ⟨rfl,rfl⟩)
theorem qa2{n a b:Nat}(h:a<=b):nxE n a b=(if a=b then [a] else [a,b]).takeWhile fun m=>decide (m<n):=by
 unfold nxE
 by_cases he:a=b
 ·subst he
  by_cases ha:a<n<;>simp[ha,List.takeWhile]
 ·rw[if_neg he]
  by_cases ha:a<n
  ·by_cases hb:b<n
   ·simp[ha,hb,List.takeWhile,Ne.symm he]
   ·simp[ha,hb,List.takeWhile]
  ·have hb:¬b<n:=by omega
   simp[ha,hb,List.takeWhile]
theorem qta{g:Nat}(hc:qi P f (wg g)=true)(hg:Je P g)(p:List Ins)(hp:p.length<=4096)(j:Nat)(i:Ins)(hj:p[j]?=some i)(hi:InsOk i) :
  qc P f [.fz p.length (rP p),.i .i64 (j:Int)] (.fz (kS p.length i j).length (rNt (kS p.length i j))):=by
 refine qc.mk hc (by simp[qy,clo,qd]) ?_;have hlt:j<p.length:=(List.getElem?_eq_some_iff.1 hj).1;have hz:¬(j:Int)<0:=by omega
 have hz2:¬(p.length:Int)<=(j:Int):=by omega
 have hz3:¬(4096:Int)<(p.length:Int):=by omega
 have hj1:IntKind.wrap .i64 ((j:Int)+1)=((j+1:Nat):Int):=by rw[qp (by omega) (by omega)];omega
 have hjj:∀a:Int,0<=a->a<=4294967295->IntKind.wrap .i64 (((j+1:Nat):Int)+IntKind.wrap .i64 a)=((j+1+a.toNat:Nat):Int):=by
  intro a h1 h2;rw[qp (x:=a) (by omega) (by omega),qp (by omega) (by omega)];omega
 have hk:=hjj i.k hi.k0 hi.k1;have ht:=hjj i.jt hi.t0 (by have:=hi.t1;omega)
 have hf:=hjj i.jf hi.f0 (by have:=hi.f1;omega)
 have g0:=zb (f:=qn) (m:=4) qW hj (i:=0) (by omega);have g1:=zb (f:=qn) (m:=4) qW hj (i:=1) (by omega);have g2:=zb (f:=qn) (m:=4) qW hj (i:=2) (by omega);have g3:=zb (f:=qn) (m:=4) qW hj (i:=3) (by omega);rw[show p.flatMap qn=rP p from rfl] at g0 g1 g2 g3
 simp only[qn,Nat.add_zero,List.getElem?_cons_zero,List.getElem?_cons_succ] at g0 g1 g2 g3;have hn0:nxE p.length (j+1) (j+1)=[j+1].takeWhile fun m=>decide (m<p.length):=by rw[qa2 (Nat.le_refl _),if_pos rfl]
 have hcl:(zj (qw i.code)).length=3∧(zj (qw i.code))[2]?=some (.i .u8 (qg i.code))∧qy (zj (qw i.code))=true:=by
  unfold qg;cases qw i.code<;>exact⟨rfl,rfl,rfl⟩
 have hgc:=hg i.code;generalize zj (qw i.code)=E at hcl hgc;obtain⟨he1,he2,he3⟩:=hcl;unfold kS;simp only[wg,vI,simprocAttr];simp (decide:=true) only [↓vS,vT,simprocAttr,hz,hz2,hz3,hj1,hlt,g0];refine hgc.sc ?_;simp (decide:=true) only [↓vS,vT,simprocAttr,he2]
 have hend:∀(a b:Nat) {t':Tr AV} {h':Hp},nxE p.length (min a b) (max a b)=(zN i j).takeWhile (fun m=>decide (m<p.length))->Wk 0 t' h' (mkT [(0,.fz p.length (rP p)),(5,.i .i64 (a:Int)),(6,.i .i64 (b:Int))]) (mkH 0 [])->
   S P 0 (zh g) (j0 [.tmp 4] fun v' h'=>Frz h' v' (.fz ((zN i j).takeWhile (fun m=>decide (m<p.length))).length (rNt ((zN i j).takeWhile (fun m=>decide (m<p.length)))))) t' h':=by
  intro a b t' h' hE hw;rw[← hE];exact qk7 g p.length (rP p) (qd p) a b hp hw
 by_cases hA:qg i.code=0∨qg i.code=5
 ·have hwl:zN i j=[]:=by unfold zN;rw[if_pos hA]
  rw[hwl]
  rcases hA with hA|hA<;>(
   simp (decide:=true) only [↓vS,vT,simprocAttr,hA];simp[vZ,List.takeWhile,rNt])
 have h0:¬qg i.code=0:=fun h=>hA (.inl h)
 have h5:¬qg i.code=5:=fun h=>hA (.inr h)
 by_cases h4:qg i.code=4
 ·simp (decide:=true) only [↓vS,vT,simprocAttr,h4];refine zm ?_;simp (decide:=true) only [↓vS,vT,simprocAttr,hlt,g0,g1,g2,hj1]
  by_cases hja:i.code=5
  ·have hwl:zN i j=[j+1+i.k.toNat]:=by unfold zN;rw[if_neg hA,if_pos h4,if_pos hja]
   rw[if_pos hja];refine zm ?_;simp (decide:=true) only [↓vS,vT,simprocAttr,hlt,g3,hj1];refine hend (j+1+i.k.toNat) (j+1+i.k.toNat) ?_ (Wk.mk _ _ [] ?_ ?_ ?_ rfl)
   ·rw[hwl,Nat.min_self,Nat.max_self,qa2 (Nat.le_refl _),if_pos rfl]
   ·simp[vw,qd];simpa using hk
   ·trivial
   ·simp
  ·rw[if_neg hja];refine hend (j+1+i.jt.toNat) (j+1+i.jf.toNat) ?_ (Wk.mk _ _ [] ?_ ?_ ?_ rfl)
   ·have:=hi.t0;have:=hi.f0
    have e1:min (j+1+i.jt.toNat) (j+1+i.jf.toNat)=j+1+(loM i).toNat:=by unfold loM;split<;>omega
    have e2:max (j+1+i.jt.toNat) (j+1+i.jf.toNat)=j+1+(hiM i).toNat:=by unfold hiM;split<;>omega
    have e0:(loM i).toNat<=(hiM i).toNat:=by unfold loM hiM;split<;>split<;>omega
    have e3:0<=loM i∧0<=hiM i:=by unfold loM hiM;constructor<;>split<;>omega
    rw[e1,e2,qa2 (by omega)];unfold zN;rw[if_neg hA,if_pos h4,if_neg hja]
    by_cases he:loM i=hiM i
    ·rw[if_pos he,if_pos (by rw[he])]
    ·rw[if_neg he,if_neg (by omega)]
   ·simp[vw,qd];exact⟨by simpa using ht,by simpa using hf⟩
   ·trivial
   ·simp
 ·have hwl:zN i j=[j+1]:=by unfold zN;rw[if_neg hA,if_neg h4]
  simp (decide:=true) only [↓vS,vT,simprocAttr,h0,h4,h5];refine hend (j+1) (j+1) ?_ (Wk.mk _ _ [] ?_ ?_ ?_ rfl)
  ·rw[hwl,Nat.min_self,Nat.max_self];exact hn0
  ·simp[vw,qd,hj1]
  ·trivial
  ·simp
end Go.Kc
end
section
/- The document's places that are reached; what is sure. Condition: the functions' texts are these. -/
namespace Go.Kc
variable {P:Program} {f:Nat}
def mkL(L:List Nat)(r:List Bool):List Bool:=L.foldl (fun r m=>r.set m true) r
theorem yD:∀{L:List Nat} {r:List Bool},(mkL L r).length=r.length
 | [],_=>rfl
 | m::L,r=>by show (mkL L (r.set m true)).length=_;rw[yD];simp
theorem Xq{m:Nat}{L:List Nat}{r:List Bool}:mkL (m::L) r=mkL L (r.set m true):=rfl
theorem qcp{n j:Nat}{i:Ins}:∀m ∈ kS n i j,m<n:=fun m hm=>by
 unfold kS at hm
 have key:∀l:List Nat,m ∈ l.takeWhile (fun m=>decide (m<n))->m<n:=by
  intro l
  induction l with
  | nil=>intro h;cases h
  | cons a l ih =>
   intro h;rw[List.takeWhile_cons] at h;split at h
   ·rename_i ha;rcases List.mem_cons.1 h with rfl|h
    ·exact of_decide_eq_true ha
    ·exact ih h
   ·cases h
 exact key _ hm
theorem qew{j:Nat}{i:Ins}:(zN i j).length<=2:=by
 unfold zN;split
 ·simp
 split
 ·split
  ·simp
  split<;>simp
 simp
theorem qbS{n j:Nat}{i:Ins}:(kS n i j).length<=2:=Nat.le_trans (List.takeWhile_sublist _).length_le qew
def QO(n:Nat):Nat->List Ins->List Bool->List Bool
 | _,[],r=>r
 | j,i::L,r=>QO n (j+1) L (if r.getD j false=true then mkL (kS n i j) r else r)
def st0(n:Nat):List Bool:=(List.replicate n false).set 0 true
theorem qfg(n:Nat):(List.replicate n [AV.b false]).flatten=rTt (List.replicate n false):=by
 induction n with
 | zero=>rfl
 | succ n ih=>rw[List.replicate_succ,List.replicate_succ,List.flatten_cons,ih];rfl
theorem qrW(n:Nat):(List.replicate n [AV.i .u16 0]).flatten=rW (List.replicate n 0#16):=by
 induction n with
 | zero=>rfl
 | succ n ih=>rw[List.replicate_succ,List.replicate_succ,List.flatten_cons,ih];rfl
def qeG(P:Program)(g:Nat):Prop:=∀p:List Ins,p.length<=4096->∀(j:Nat) (i:Ins),p[j]?=some i->InsOk i->qc P g [.fz p.length (rP p),.i .i64 (j:Int)] (.fz (kS p.length i j).length (rNt (kS p.length i j)))
def zO(a:Nat):ICode:=.seq (.seq (.r [.m 4 (.k 0)]) (.blk 0 (.loop (.seq (.seq (.r [.n 18 4,.n 19 0,.e 20 19,.s 21 18 20]) (.cond (.t 21) (.skip) (.exit 0))) (.seq (.blk 1 (.seq (.seq (.r [.n 24 3,.n 25 4,.i 26 1 24 25,.d 27 26,.q 28 (.un .not (.t 27))]) (.cond (.t 28) (.exit 1) (.skip))) (.seq (.r [.n 29 0,.n 30 4,.l 31 a [.t 29,.t 30],.n 5 31]) (.seq (.r [.m 6 (.k 0)]) (.blk 2 (.loop (.seq (.seq (.r [.n 32 6,.n 33 5,.e 34 33,.s 35 32 34]) (.cond (.t 35) (.skip) (.exit 2))) (.seq (.blk 3 (.r [.n 38 3,.n 39 5,.n 40 6,.i 41 1 39 40,.d 42 41,.i 43 1 38 42,.u (.store 1 (.t 43) .T)])) (.r [.n 36 6,.a 37 36 1,.n 6 37]))))))))) (.r [.n 22 4,.a 23 22 1,.n 4 23])))))) (.seq (.r [.n 44 3,.n 2 44]) (.ret))
def js(a:Nat):IFn:=⟨[.tmp 2],.seq (.r [.m 2 .N]) (.seq (.seq (.r [.n 7 0,.e 8 7,.w 9 .gtr 8 4096]) (.cond (.t 9) (.seq (.r [.m 2 .N]) (.ret)) (.skip))) (.seq (.r [.n 10 0,.e 11 10,.q 12 (.mkS 1 1 [.b false] (.t 11) (.t 11)),.n 3 12]) (.seq (.seq (.r [.n 13 0,.e 14 13,.w 15 .gtr 14 0]) (.cond (.t 15) (.r [.n 16 3,.q 17 (.iAddrS 1 (.t 16) (.k 0)),.u (.store 1 (.t 17) .T)]) (.skip))) (.cut (zO a)))))⟩
set_option maxHeartbeats 1000000 in
theorem qa8{g:Nat}(hg:qeG P g)(p:List Ins)(hp:p.length<=4096)(hi:∀i ∈ p,InsOk i)(r0:List Bool)(hr0:r0.length=p.length)
  {t':Tr AV} {h':Hp} (hw:Wk 0 t' h' (mkT [(0,.fz p.length (rP p)),(3,.sl 0 0 p.length p.length false)]) (mkH 0 [.cells 0 true false (rTt r0)])) :
  S P 0 (zO g) (j0 [.tmp 2] fun v' h'=>Frz h' v' (.fz p.length (rTt (QO p.length 0 p r0)))) t' h':=by
 refine S.weak hw (qA ?_);simp only[zO,vI,simprocAttr];simp (decide:=true) only [↓vS,vT,simprocAttr]
 refine SL.loop (α:=Nat×List Bool) (fun a=>[(0,.fz p.length (rP p)),(3,.sl 0 0 p.length p.length false),(4,.i .i64 (a.1:Int))]) (fun a=>[.cells 0 true false (rTt a.2)])
  (fun a=>a.1<=p.length∧a.2.length=p.length∧QO p.length a.1 (p.drop a.1) a.2=QO p.length 0 p r0) (fun a=>p.length-a.1) (0,r0) [0] ?_ ?_ ?_ rfl ?_ ?_
 ·simp[vw,qd]
 ·simp[vw,qa,qm]
 ·simp
 ·exact⟨Nat.zero_le _,hr0,rfl⟩
 rintro⟨j,r⟩ ⟨hj,hlr,hI⟩ G ih;simp only at hj hlr hI;simp only[vI,simprocAttr]
 by_cases hlt:j<p.length
 ·obtain⟨i,hpi⟩:∃i,p[j]?=some i:=⟨_,List.getElem?_eq_getElem hlt⟩;have hii:=hi i (List.mem_of_getElem? hpi)
  have hdr:p.drop j=i::p.drop (j+1):=by
   obtain⟨hh,he⟩:=List.getElem?_eq_some_iff.1 hpi;rw[List.drop_eq_getElem_cons hh,he]
  obtain⟨b,hb⟩:∃b,r[j]?=some b:=⟨_,List.getElem?_eq_getElem (by omega)⟩;have hI2:QO p.length (j+1) (p.drop (j+1)) (if r.getD j false=true then mkL (kS p.length i j) r else r)=QO p.length 0 p r0:=by rw[← hI,hdr];rfl
  rw[List.getD_eq_getElem?_getD,hb,Option.getD_some] at hI2;have hw1:IntKind.wrap .i64 ((j:Int)+1)=((j+1:Nat):Int):=by rw[qp (by omega) (by omega)];omega
  cases b with
  | false =>
   rw[if_neg (by simp)] at hI2;simp (decide:=true) only [↓vS,vT,simprocAttr,hlt,Nat.mul_one,xK,hb,Option.map_some,hw1];refine ih (j+1,r) ⟨hlt,hlr,hI2⟩ (by simp only;omega) _ _ (Wk.mk _ _ [0] ?_ ?_ ?_ rfl)
   ·simp[vw,qd]
   ·simp[vw,qa,qm]
   ·simp
  | true =>
   rw[if_pos rfl] at hI2;simp (decide:=true) only [↓vS,vT,simprocAttr,hlt,Nat.mul_one,xK,hb,Option.map_some];refine (hg p hp j i hpi hii).sc ?_;have hLlt:=qcp (n:=p.length) (j:=j) (i:=i);have hL2:=qbS (n:=p.length) (j:=j) (i:=i);generalize kS p.length i j=L at hI2 hLlt hL2;simp (decide:=true) only [↓vS,vT,simprocAttr]
   refine SL.loop (α:=Nat×List Bool) (fun a=>[(0,.fz p.length (rP p)),(3,.sl 0 0 p.length p.length false),(4,.i .i64 (j:Int)),(5,.fz L.length (rNt L)),(6,.i .i64 (a.1:Int))]) (fun a=>[.cells 0 true false (rTt a.2)])
    (fun a=>a.1<=L.length∧a.2.length=p.length∧mkL (L.drop a.1) a.2=mkL L r) (fun a=>L.length-a.1) (0,r) [0] ?_ ?_ ?_ rfl ?_ ?_
   ·simp[vw,qd,qu]
   ·simp[vw,qa,qm]
   ·simp
   ·exact⟨Nat.zero_le _,hlr,rfl⟩
   rintro⟨k,r2⟩ ⟨hk,hlr2,hJ⟩ G2 ih2;simp only at hk hlr2 hJ;simp only[vI,simprocAttr]
   by_cases hkl:k<L.length
   ·obtain⟨m,hm⟩:∃m,L[k]?=some m:=⟨_,List.getElem?_eq_getElem hkl⟩;have hml:=hLlt m (List.mem_of_getElem? hm)
    have hdk:L.drop k=m::L.drop (k+1):=by
     obtain⟨hh,he⟩:=List.getElem?_eq_some_iff.1 hm;rw[List.drop_eq_getElem_cons hh,he]
    rw[hdk,Xq] at hJ
    have hw2:IntKind.wrap .i64 ((k:Int)+1)=((k+1:Nat):Int):=by
     rw[qp (by omega) (by omega)];omega
    have hs0:m+1<=(rTt r2).length:=by rw[yJ];omega
    have hs1:=Xv (s:=r2) (j:=m) (by omega) true;simp (decide:=true) only [↓vS,vT,simprocAttr,hkl,Nat.mul_one,qcr,hm,Option.map_some,hml,hs0,hs1,hw2];refine ih2 (k+1,r2.set m true) ⟨hkl,by simp[hlr2],hJ⟩ (by simp only;omega) _ _ (Wk.mk _ _ [0] ?_ ?_ ?_ rfl)
    ·simp[vw,qd,qu]
    ·simp[vw,qa,qm]
    ·simp
   ·obtain rfl:k=L.length:=by omega
    rw[List.drop_length] at hJ;have hJ:r2=mkL L r:=hJ;simp (decide:=true) only [↓vS,vT,simprocAttr,hkl,hw1];refine ih (j+1,r2) ⟨hlt,hlr2,by rw[hJ];exact hI2⟩ (by simp only;omega) _ _ (Wk.mk _ _ [0] ?_ ?_ ?_ rfl)
    ·simp[vw,qd]
    ·simp[vw,qa,qm]
    ·simp
 ·obtain rfl:j=p.length:=by omega
  rw[List.drop_length] at hI;have hI:r=QO p.length 0 p r0:=hI;rw[← hI];simp (decide:=true) only [↓vS,vT,simprocAttr,hlt];refine Frz.cut 1 rfl (Nat.le_refl _) ?_;have ht:(rTt r).take p.length=rTt r:=List.take_of_length_le (by rw[yJ];omega);simp[vZ,vP,Tr.get_set,qY qm,ht,yJ,hlr]
theorem qlE{g:Nat}(hc:qi P f (js g)=true)(hg:qeG P g)(p:List Ins)(hp:p.length<=4096)(hi:∀i ∈ p,InsOk i):qc P f [.fz p.length (rP p)] (.fz p.length (rTt (QO p.length 0 p (st0 p.length)))):=by
 refine qc.mk hc (by simp[qy,clo,qd]) ?_;have hz3:¬(4096:Int)<(p.length:Int):=by omega
 have hr1:p.length<=qf:=by simp only[qf];omega
 have hr3:1*p.length<=qf:=by simp only[qf];omega
 simp only[js,vI,simprocAttr]
 by_cases h0:p.length=0
 ·have h0':¬(0:Int)<(p.length:Int):=by omega
  have hst:st0 p.length=List.replicate p.length false:=by unfold st0;rw[h0];rfl
  rw[hst];simp (decide:=true) only [↓vS,vT,simprocAttr,hz3,hr1,hr3,qfg,h0'];refine qa8 hg p hp hi (List.replicate p.length false) (by simp) (Wk.mk _ _ [0] ?_ ?_ ?_ rfl)
  ·simp[vw,qd]
  ·simp[vw,qa,qm]
  ·simp
 ·have h0':(0:Int)<(p.length:Int):=by omega
  have h0n:0<p.length:=by omega
  have hs0:1<=(rTt (List.replicate p.length false)).length:=by rw[yJ];simp;omega
  have hs1:AV.b true::List.drop 1 (rTt (List.replicate p.length false))=rTt (st0 p.length):=Xv (s:=List.replicate p.length false) (j:=0) (by simp;omega) true;simp (decide:=true) only [↓vS,vT,simprocAttr,hz3,hr1,hr3,qfg,h0',h0n,hs0,hs1];refine qa8 hg p hp hi (st0 p.length) (by simp[st0]) (Wk.mk _ _ [0] ?_ ?_ ?_ rfl)
  ·simp[vw,qd]
  ·simp[vw,qa,qm]
  ·simp
end Go.Kc
end
section
/- The document's cells that are sure. Condition: the functions' texts are these. -/
namespace Go.Kc
variable {P:Program} {f:Nat}
def wrC(i:Ins)(c:Nat):Bool:=(decide (i.code=2)||decide (i.code=3))&&decide (i.k=(c:Int))
def stS(n c j:Nat)(i:Ins)(st:List Bool×List (BitVec 16)):List Bool×List (BitVec 16) :=
 if st.1.getD j false=false then (st.1,st.2.set j (st.2.getD j 0#16 ||| cell c)) else if wrC i c=true then st else (mkL (kS n i j) st.1,st.2)
def y6(n c:Nat):Nat->List Ins->List Bool×List (BitVec 16)->List Bool×List (BitVec 16)
 | _,[],st=>st
 | j,i::L,st=>y6 n c (j+1) L (stS n c j i st)
theorem qlT{n c j:Nat}{i:Ins}{st:List Bool×List (BitVec 16)}:(stS n c j i st).1.length=st.1.length∧(stS n c j i st).2.length=st.2.length:=by
 unfold stS;split
 ·simp
 split<;>simp[yD]
theorem QS{n c:Nat}:∀{L:List Ins} {j:Nat} {st:List Bool×List (BitVec 16)},(y6 n c j L st).1.length=st.1.length∧(y6 n c j L st).2.length=st.2.length
 | [],_,_=>⟨rfl,rfl⟩
 | i::L,j,st=>by
  show (y6 n c (j+1) L (stS n c j i st)).1.length=_∧(y6 n c (j+1) L (stS n c j i st)).2.length=_;have h1:=QS (n:=n) (c:=c) (L:=L) (j:=j+1) (st:=stS n c j i st);have h2:=qlT (n:=n) (c:=c) (j:=j) (i:=i) (st:=st);exact⟨h1.1.trans h2.1,h1.2.trans h2.2⟩
def qes(p:List Ins):Nat->List (BitVec 16)->List (BitVec 16)
 | 0,out=>out
 | k+1,out=>qes p k (y6 p.length (16-(k+1)) 0 p (st0 p.length,out)).2
def qab(p:List Ins):List (BitVec 16):=qes p 16 (List.replicate p.length 0#16)
def zZ(a:Nat):ICode:=.r [.n 17 4,.a 18 17 1,.n 4 18]
def z0(a:Nat):ICode:=.r [.n 31 6,.a 32 31 1,.n 6 32]
def z6(a:Nat):ICode:=.seq (.r [.n 72 0,.n 73 6,.l 74 a [.t 72,.t 73],.n 7 74]) (.seq (.r [.m 8 (.k 0)]) (.blk 4 (.loop (.seq (.seq (.r [.n 75 8,.n 76 7,.e 77 76,.s 78 75 77]) (.cond (.t 78) (.skip) (.exit 4))) (.seq (.blk 5 (.r [.n 81 5,.n 82 7,.n 83 8,.i 84 1 82 83,.d 85 84,.i 86 1 81 85,.u (.store 1 (.t 86) .T)])) (.r [.n 79 8,.a 80 79 1,.n 8 80]))))))
def xd(a:Nat):ICode:=.seq (.r [.m 6 (.k 0)]) (.blk 2 (.loop (.seq (.seq (.r [.n 27 6,.n 28 0,.e 29 28,.s 30 27 29]) (.cond (.t 30) (.skip) (.exit 2))) (.seq (.blk 3 (.seq (.seq (.r [.n 33 5,.n 34 6,.i 35 1 33 34,.d 36 35,.q 37 (.un .not (.t 36))]) (.cond (.t 37) (.seq (.reg true [.n 38 3,.n 39 6,.n 40 3,.n 41 6,.i 42 1 40 41,.d 43 42,.n 44 4,.q 45 (.bin .shl (.c (.i .u16 1)) (.t 44)),.b 46 .or 43 45,.i 47 1 38 39,.u (.store 1 (.t 47) (.t 46))]) (.exit 3)) (.skip))) (.seq (.seq (.r [.n 48 0,.n 49 6,.i 50 4 48 49,.f 51 0 50,.d 52 51,.q 53 (.bin .eql (.t 52) (.c (.i .u16 2))),.n 54 53,.z 55 0 54,.z 56 6 54,.g 57 (.iAddrS 4 (.t 55) (.t 56)) 54 false,.h 58 0 57 54 false,.j 59 58 54 false,.g 60 (.bin .eql (.t 59) (.c (.i .u16 3))) 54 false,.o 61 54 60,.n 62 61,.y 63 0 62,.y 64 6 62,.g 65 (.iAddrS 4 (.t 63) (.t 64)) 62 true,.h 66 3 65 62 true,.j 67 66 62 true,.y 68 4 62,.g 69 (.cvInt .u32 (.t 68)) 62 true,.g 70 (.bin .eql (.t 67) (.t 69)) 62 true,.p 71 62 70]) (.cond (.t 71) (.exit 3) (.skip))) (.cut (z6 a))))) (.cut (z0 a))))))
def ju(a:Nat):ICode:=.seq (.seq (.r [.m 4 (.k 0)]) (.blk 0 (.loop (.seq (.seq (.r [.n 15 4,.w 16 .lss 15 16]) (.cond (.t 16) (.skip) (.exit 0))) (.seq (.blk 1 (.seq (.r [.n 19 0,.e 20 19,.q 21 (.mkS 1 1 [.b false] (.t 20) (.t 20)),.n 5 21]) (.seq (.seq (.r [.n 22 0,.e 23 22,.w 24 .gtr 23 0]) (.cond (.t 24) (.r [.n 25 5,.q 26 (.iAddrS 1 (.t 25) (.k 0)),.u (.store 1 (.t 26) .T)]) (.skip))) (.cut (xd a))))) (.cut (zZ a))))))) (.seq (.r [.n 87 3,.n 2 87]) (.ret))
def wi(a:Nat):IFn:=⟨[.tmp 2],.seq (.r [.m 2 .N]) (.seq (.seq (.r [.n 9 0,.e 10 9,.w 11 .gtr 10 4096]) (.cond (.t 11) (.seq (.r [.m 2 .N]) (.ret)) (.skip))) (.seq (.r [.n 12 0,.e 13 12,.q 14 (.mkS 1 2 [.i .u16 0] (.t 13) (.t 13)),.n 3 14]) (.cut (ju a))))⟩
theorem qbj{g:Nat}(p:List Ins)(hp:p.length<=4096)(c j:Nat)(hj:j<p.length)(L:List Nat)(hg:qc P g [.fz p.length (rP p),.i .i64 (j:Int)] (.fz L.length (rNt L)))(hLlt:∀m ∈ L,m<p.length)(hL2:L.length<=2)
  (r:List Bool) (hlr:r.length=p.length) (o:List (BitVec 16)) (Q:X->Tr AV->Hp->Prop)
  (hQ:∀t'' h'',Wk 0 t'' h'' (mkT [(0,.fz p.length (rP p)),(3,.sl 0 0 p.length p.length false),(4,.i .i64 (c:Int)),(5,.sl 1 0 p.length p.length false),(6,.i .i64 (j:Int))]) (mkH 0 [.cells 0 true false (rW o),.cells 0 true false (rTt (mkL L r))])->Q .normal t'' h'')
  {t':Tr AV} {h':Hp} (hw:Wk 0 t' h' (mkT [(0,.fz p.length (rP p)),(3,.sl 0 0 p.length p.length false),(4,.i .i64 (c:Int)),(5,.sl 1 0 p.length p.length false),(6,.i .i64 (j:Int))]) (mkH 0 [.cells 0 true false (rW o),.cells 0 true false (rTt r)])) :
  S P 0 (z6 g) Q t' h':=by
 refine S.weak hw (qA ?_);simp only[z6,vI,simprocAttr];simp (decide:=true) only [↓vS,vT,simprocAttr];refine hg.sc ?_;simp (decide:=true) only [↓vS,vT,simprocAttr]
 refine SL.loop (α:=Nat×List Bool) (fun a=>[(0,.fz p.length (rP p)),(3,.sl 0 0 p.length p.length false),(4,.i .i64 (c:Int)),(5,.sl 1 0 p.length p.length false),(6,.i .i64 (j:Int)),(7,.fz L.length (rNt L)),(8,.i .i64 (a.1:Int))]) (fun a=>[.cells 0 true false (rW o),.cells 0 true false (rTt a.2)])
  (fun a=>a.1<=L.length∧a.2.length=p.length∧mkL (L.drop a.1) a.2=mkL L r) (fun a=>L.length-a.1) (0,r) [0,1] ?_ ?_ ?_ rfl ?_ ?_
 ·simp[vw,qd,qu]
 ·simp[vw,qa,qm,qx]
 ·simp
 ·exact⟨Nat.zero_le _,hlr,rfl⟩
 rintro⟨k,r2⟩ ⟨hk,hlr2,hJ⟩ G2 ih2;simp only at hk hlr2 hJ;simp only[vI,simprocAttr]
 by_cases hkl:k<L.length
 ·obtain⟨m,hm⟩:∃m,L[k]?=some m:=⟨_,List.getElem?_eq_getElem hkl⟩;have hml:=hLlt m (List.mem_of_getElem? hm)
  have hdk:L.drop k=m::L.drop (k+1):=by
   obtain⟨hh,he⟩:=List.getElem?_eq_some_iff.1 hm;rw[List.drop_eq_getElem_cons hh,he]
  rw[hdk,Xq] at hJ
  have hw2:IntKind.wrap .i64 ((k:Int)+1)=((k+1:Nat):Int):=by
   rw[qp (by omega) (by omega)];omega
  have hs0:m+1<=(rTt r2).length:=by rw[yJ];omega
  have hs1:=Xv (s:=r2) (j:=m) (by omega) true;simp (decide:=true) only [↓vS,vT,simprocAttr,hkl,Nat.mul_one,qcr,hm,Option.map_some,hml,hs0,hs1,hw2];refine ih2 (k+1,r2.set m true) ⟨hkl,by simp[hlr2],hJ⟩ (by simp only;omega) _ _ (Wk.mk _ _ [0,1] ?_ ?_ ?_ rfl)
  ·simp[vw,qd,qu]
  ·simp[vw,qa,qm,qx]
  ·simp
 ·obtain rfl:k=L.length:=by omega
  rw[List.drop_length] at hJ;have hJ:r2=mkL L r:=hJ;simp (decide:=true) only [↓vS,vT,simprocAttr,hkl];rw[← hJ] at hQ;refine hQ _ _ (Wk.mk _ _ [0,1] ?_ ?_ ?_ rfl)
  ·simp[vw,qd,qu]
  ·simp[vw,qa,qm,qx]
  ·simp
set_option maxHeartbeats 1000000 in
theorem qfo{g:Nat}(hg:qeG P g)(p:List Ins)(hp:p.length<=4096)(hi:∀i ∈ p,InsOk i)(c:Nat)(hc:c<16)(un0:List Bool)(hu0:un0.length=p.length)(out0:List (BitVec 16))(ho0:out0.length=p.length)(Q:X->Tr AV->Hp->Prop)
  (hQ:∀t'' h'',Wk 0 t'' h'' (mkT [(0,.fz p.length (rP p)),(3,.sl 0 0 p.length p.length false),(4,.i .i64 (c:Int))]) (mkH 0 [.cells 0 true false (rW (y6 p.length c 0 p (un0,out0)).2)])->Q .normal t'' h'')
  {t':Tr AV} {h':Hp} (hw:Wk 0 t' h' (mkT [(0,.fz p.length (rP p)),(3,.sl 0 0 p.length p.length false),(4,.i .i64 (c:Int)),(5,.sl 1 0 p.length p.length false)]) (mkH 0 [.cells 0 true false (rW out0),.cells 0 true false (rTt un0)])) :
  S P 0 (xd g) Q t' h':=by
 refine S.weak hw (qA ?_);have hc0:(0:Int)<=(c:Int):=by omega
 have hsh:qgD .u16 1 (c:Int)=((cell (c:Int)).toNat:Int):=qfk hc0 (by omega);have hcv:IntKind.wrap .u32 (c:Int)=(c:Int):=by show (c:Int) % 4294967296=_;omega
 simp only[xd,vI,simprocAttr];simp (decide:=true) only [↓vS,vT,simprocAttr]
 refine SL.loop (α:=Nat×(List Bool×List (BitVec 16))) (fun a=>[(0,.fz p.length (rP p)),(3,.sl 0 0 p.length p.length false),(4,.i .i64 (c:Int)),(5,.sl 1 0 p.length p.length false),(6,.i .i64 (a.1:Int))]) (fun a=>[.cells 0 true false (rW a.2.2),.cells 0 true false (rTt a.2.1)])
  (fun a=>a.1<=p.length∧a.2.1.length=p.length∧a.2.2.length=p.length∧y6 p.length c a.1 (p.drop a.1) a.2=y6 p.length c 0 p (un0,out0)) (fun a=>p.length-a.1) (0,(un0,out0)) [0,1] ?_ ?_ ?_ rfl ?_ ?_
 ·simp[vw,qd]
 ·simp[vw,qa,qm,qx]
 ·simp
 ·exact⟨Nat.zero_le _,hu0,ho0,rfl⟩
 rintro⟨j,r,o⟩ ⟨hj,hlr,hlo,hI⟩ G ih;simp only at hj hlr hlo hI;simp only[vI,simprocAttr]
 by_cases hlt:j<p.length
 ·obtain⟨i,hpi⟩:∃i,p[j]?=some i:=⟨_,List.getElem?_eq_getElem hlt⟩;have hii:=hi i (List.mem_of_getElem? hpi)
  have hdr:p.drop j=i::p.drop (j+1):=by
   obtain⟨hh,he⟩:=List.getElem?_eq_some_iff.1 hpi;rw[List.drop_eq_getElem_cons hh,he]
  obtain⟨b,hb⟩:∃b,r[j]?=some b:=⟨_,List.getElem?_eq_getElem (by omega)⟩;obtain⟨y,hy⟩:∃y,o[j]?=some y:=⟨_,List.getElem?_eq_getElem (by omega)⟩;have hI2:y6 p.length c (j+1) (p.drop (j+1)) (stS p.length c j i (r,o))=y6 p.length c 0 p (un0,out0):=by rw[← hI,hdr];rfl
  unfold stS at hI2;simp only[List.getD_eq_getElem?_getD,hb,hy,Option.getD_some] at hI2;have hw1:IntKind.wrap .i64 ((j:Int)+1)=((j+1:Nat):Int):=by rw[qp (by omega) (by omega)];omega
  have fin:∀(r2:List Bool) (o2:List (BitVec 16)),r2.length=p.length->o2.length=p.length->y6 p.length c (j+1) (p.drop (j+1)) (r2,o2)=y6 p.length c 0 p (un0,out0)->∀Qc:X->Tr AV->Hp->Prop,(∀t h,G t h->Qc .normal t h)->∀{t':Tr AV} {h':Hp},Wk 0 t' h' (mkT [(0,.fz p.length (rP p)),(3,.sl 0 0 p.length p.length false),(4,.i .i64 (c:Int)),(5,.sl 1 0 p.length p.length false),(6,.i .i64 (j:Int))]) (mkH 0 [.cells 0 true false (rW o2),.cells 0 true false (rTt r2)])->S P 0 (z0 g) Qc t' h':=by
   intro r2 o2 e1 e2 e3 Qc hQc t' h' hw;refine S.weak hw (qA ?_);simp only[z0,vI,simprocAttr];simp (decide:=true) only [↓vS,vT,simprocAttr,hw1];refine hQc _ _ (ih (j+1,(r2,o2)) ⟨hlt,e1,e2,e3⟩ (by simp only;omega) _ _ (Wk.mk _ _ [0,1] ?_ ?_ ?_ rfl))
   ·simp[vw,qd]
   ·simp[vw,qa,qm,qx]
   ·simp
  have g0:=zb (f:=qn) (m:=4) qW hpi (i:=0) (by omega);have g3:=zb (f:=qn) (m:=4) qW hpi (i:=3) (by omega);rw[show p.flatMap qn=rP p from rfl] at g0 g3
  simp only[qn,Nat.add_zero,List.getElem?_cons_zero,List.getElem?_cons_succ] at g0 g3;cases b with
  | false =>
   rw[if_pos rfl] at hI2;have hs0:j+1<=(rW o).length:=by rw[qcu];omega
   have hs1:=qi3 (s:=o) (j:=j) (by omega) (y ||| cell (c:Int))
   simp (decide:=true) only [↓vS,vT,simprocAttr,hlt,Nat.mul_one,xK,hb,Option.map_some];refine zm ?_;simp (decide:=true) only [↓vS,vT,simprocAttr,hlt,Nat.mul_one,ZU,hy,Option.map_some,hc0,hsh,qrS,hs0,hs1];refine fin r (o.set j (y ||| cell (c:Int))) hlr (by simp[hlo]) hI2 _ (fun _ _ h=>h) (Wk.mk _ _ [0,1] ?_ ?_ ?_ rfl)
   ·simp[vw,qd]
   ·simp[vw,qa,qm,qx]
   ·simp
  | true =>
   rw[if_neg (by simp)] at hI2
   by_cases hwc:wrC i c=true
   ·rw[if_pos hwc] at hI2;have hk:i.k=(c:Int):=by unfold wrC at hwc;simp at hwc;exact hwc.2
    have hcd:i.code=2∨i.code=3:=by unfold wrC at hwc;simp at hwc;exact hwc.1
    rcases hcd with hcd|hcd<;>(
     simp (decide:=true) only [↓vS,vT,simprocAttr,hlt,Nat.mul_one,xK,hb,Option.map_some,g0,hcd,g3,hk,hcv];refine fin r o hlr hlo hI2 _ (fun _ _ h=>h) (Wk.mk _ _ [0,1] ?_ ?_ ?_ rfl)
     ·simp[vw,qd]
     ·simp[vw,qa,qm,qx]
     ·simp)
   rw[if_neg hwc] at hI2;have hnx:=hg p hp j i hpi hii;have hLlt:=qcp (n:=p.length) (j:=j) (i:=i);have hL2:=qbS (n:=p.length) (j:=j) (i:=i);generalize kS p.length i j=L at hI2 hLlt hL2 hnx
   have hcs:¬(i.code=2∨i.code=3)∨¬i.k=(c:Int):=by
    unfold wrC at hwc;simp at hwc
    by_cases h:i.code=2∨i.code=3
    ·exact .inr (hwc h)
    ·exact .inl h
   by_cases e2:i.code=2
   ·have hk:¬i.k=(c:Int):=hcs.elim (fun h=>absurd (.inl e2) h) id
    simp (decide:=true) only [↓vS,vT,simprocAttr,hlt,Nat.mul_one,xK,hb,Option.map_some,g0,e2,g3,hk,hcv];refine qbj p hp c j hlt L hnx hLlt hL2 r hlr o _ ?_ (Wk.mk _ _ [0,1] ?_ ?_ ?_ rfl)
    ·intro t'' h'' hw2;simp (decide:=true) only [↓vS,vT,simprocAttr];exact fin (mkL L r) o (by rw[yD];exact hlr) hlo hI2 _ (fun _ _ h=>h) hw2
    ·simp[vw,qd]
    ·simp[vw,qa,qm,qx]
    ·simp
   by_cases e3:i.code=3
   ·have hk:¬i.k=(c:Int):=hcs.elim (fun h=>absurd (.inr e3) h) id
    simp (decide:=true) only [↓vS,vT,simprocAttr,hlt,Nat.mul_one,xK,hb,Option.map_some,g0,e3,g3,hk,hcv];refine qbj p hp c j hlt L hnx hLlt hL2 r hlr o _ ?_ (Wk.mk _ _ [0,1] ?_ ?_ ?_ rfl)
    ·intro t'' h'' hw2;simp (decide:=true) only [↓vS,vT,simprocAttr];exact fin (mkL L r) o (by rw[yD];exact hlr) hlo hI2 _ (fun _ _ h=>h) hw2
    ·simp[vw,qd]
    ·simp[vw,qa,qm,qx]
    ·simp
   simp (decide:=true) only [↓vS,vT,simprocAttr,hlt,Nat.mul_one,xK,hb,Option.map_some,g0,e2,e3];refine qbj p hp c j hlt L hnx hLlt hL2 r hlr o _ ?_ (Wk.mk _ _ [0,1] ?_ ?_ ?_ rfl)
   ·intro t'' h'' hw2;simp (decide:=true) only [↓vS,vT,simprocAttr];exact fin (mkL L r) o (by rw[yD];exact hlr) hlo hI2 _ (fun _ _ h=>h) hw2
   ·simp[vw,qd]
   ·simp[vw,qa,qm,qx]
   ·simp
 ·obtain rfl:j=p.length:=by omega
  rw[List.drop_length] at hI;have hI:(r,o)=y6 p.length c 0 p (un0,out0):=hI;rw[← hI] at hQ;simp (decide:=true) only [↓vS,vT,simprocAttr,hlt];refine hQ _ _ (Wk.mk _ _ [0] ?_ ?_ ?_ rfl)
  ·simp[vw,qd]
  ·simp[vw,qa,qx]
  ·simp
theorem X8{p:List Ins}{k:Nat}{out:List (BitVec 16)}:qes p (k+1) out=qes p k (y6 p.length (16-(k+1)) 0 p (st0 p.length,out)).2:=rfl
set_option maxHeartbeats 1000000 in
theorem qqi{g:Nat}(hc:qi P f (wi g)=true)(hg:qeG P g)(p:List Ins)(hp:p.length<=4096)(hi:∀i ∈ p,InsOk i):qc P f [.fz p.length (rP p)] (.fz p.length (rW (qab p))):=by
 refine qc.mk hc (by simp[qy,clo,qd]) ?_;have hz3:¬(4096:Int)<(p.length:Int):=by omega
 have hr1:p.length<=qf:=by simp only[qf];omega
 have hr2:2*p.length<=qf:=by simp only[qf];omega
 have hr3:1*p.length<=qf:=by simp only[qf];omega
 simp only[wi,vI,simprocAttr];simp (decide:=true) only [↓vS,vT,simprocAttr,hz3,hr1,hr2,qrW];refine qA ?_;simp only[ju,vI,simprocAttr];simp (decide:=true) only [↓vS,vT,simprocAttr]
 refine SL.loop (α:=Nat×List (BitVec 16)) (fun a=>[(0,.fz p.length (rP p)),(3,.sl 0 0 p.length p.length false),(4,.i .i64 (a.1:Int))]) (fun a=>[.cells 0 true false (rW a.2)])
  (fun a=>a.1<=16∧a.2.length=p.length∧qes p (16-a.1) a.2=qab p) (fun a=>16-a.1) (0,List.replicate p.length 0#16) [0] ?_ ?_ ?_ rfl ?_ ?_
 ·simp[vw,qd]
 ·simp[vw,qa,qx]
 ·simp
 ·exact⟨Nat.zero_le _,by simp,rfl⟩
 rintro⟨c,o⟩ ⟨hc16,hlo,hI⟩ G ih;simp only at hc16 hlo hI;simp only[vI,simprocAttr]
 by_cases hlt:c<16
 ·have hlt':(c:Int)<16:=by omega
  have e16:16-c=(15-c)+1:=by omega
  rw[e16,X8,show 16-(15-c+1)=c from by omega,show 15-c=16-(c+1) from by omega] at hI
  have hw1:IntKind.wrap .i64 ((c:Int)+1)=((c+1:Nat):Int):=by rw[qp (by omega) (by omega)];omega
  have hsl:=QS (n:=p.length) (c:=c) (L:=p) (j:=0) (st:=(st0 p.length,o));have hst:(st0 p.length).length=p.length:=by simp[st0]
  have fin:∀Qc:X->Tr AV->Hp->Prop,(∀t h,G t h->Qc .normal t h)->∀{t':Tr AV} {h':Hp},Wk 0 t' h' (mkT [(0,.fz p.length (rP p)),(3,.sl 0 0 p.length p.length false),(4,.i .i64 (c:Int))]) (mkH 0 [.cells 0 true false (rW (y6 p.length c 0 p (st0 p.length,o)).2)])->S P 0 (zZ g) Qc t' h':=by
   intro Qc hQc t' h' hw;refine S.weak hw (qA ?_);simp only[zZ,vI,simprocAttr];simp (decide:=true) only [↓vS,vT,simprocAttr,hw1];refine hQc _ _ (ih (c+1,_) ⟨hlt,hsl.2.trans hlo,hI⟩ (by simp only;omega) _ _ (Wk.mk _ _ [0] ?_ ?_ ?_ rfl))
   ·simp[vw,qd]
   ·simp[vw,qa,qx]
   ·simp
  by_cases h0:p.length=0
  ·have h0':¬(0:Int)<(p.length:Int):=by omega
   have hst2:st0 p.length=List.replicate p.length false:=by unfold st0;rw[h0];rfl
   simp (decide:=true) only [↓vS,vT,simprocAttr,hlt',hr1,hr3,qfg,h0'];refine qfo hg p hp hi c hlt (st0 p.length) hst o hlo _ ?_ (Wk.mk _ _ [0,1] ?_ ?_ ?_ rfl)
   ·intro t'' h'' hw2;simp (decide:=true) only [↓vS,vT,simprocAttr];exact fin _ (fun _ _ h=>h) hw2
   ·simp[vw,qd]
   ·simp[vw,qa,qm,qx,hst2]
   ·simp
  ·have h0':(0:Int)<(p.length:Int):=by omega
   have h0n:0<p.length:=by omega
   have hs0:1<=(rTt (List.replicate p.length false)).length:=by rw[yJ];simp;omega
   have hs1:AV.b true::List.drop 1 (rTt (List.replicate p.length false))=rTt (st0 p.length):=Xv (s:=List.replicate p.length false) (j:=0) (by simp;omega) true;simp (decide:=true) only [↓vS,vT,simprocAttr,hlt',hr1,hr3,qfg,h0',h0n,hs0,hs1];refine qfo hg p hp hi c hlt (st0 p.length) hst o hlo _ ?_ (Wk.mk _ _ [0,1] ?_ ?_ ?_ rfl)
   ·intro t'' h'' hw2;simp (decide:=true) only [↓vS,vT,simprocAttr];exact fin _ (fun _ _ h=>h) hw2
   ·simp[vw,qd]
   ·simp[vw,qa,qm,qx]
   ·simp
 ·obtain rfl:c=16:=by omega
  have hI:o=qab p:=hI;rw[← hI];simp (decide:=true) only [↓vS,vT,simprocAttr];refine Frz.cut 1 rfl (Nat.le_refl _) ?_;have ht:(rW o).take p.length=rW o:=List.take_of_length_le (by rw[qcu];omega);simp[vZ,vP,Tr.get_set,qY qx,ht,qcu,hlo]
end Go.Kc
end
section
/- The document's places that read what isn't sure. Condition: the functions' texts are these. -/
namespace Go.Kc
variable {P:Program} {f:Nat}
def rdC(i:Ins):Bool:=(decide (i.code=96)||decide (i.code=97))&&decide (i.k<16)
def unC(rch:List Bool)(sur:List (BitVec 16))(j:Nat)(i:Ins):Bool:=rch.getD j false&&rdC i && !(sur.getD j 0#16).getLsbD i.k.toNat
def qac(rch:List Bool)(sur:List (BitVec 16)):Nat->List Ins->List Nat->List Nat
 | _,[],l=>l
 | j,i::L,l=>qac rch sur (j+1) L (if unC rch sur j i=true then l++[j] else l)
def qbv(p:List Ins):List Nat:=qac (QO p.length 0 p (st0 p.length)) (qab p) 0 p []
theorem qqN(x:BitVec 16){k:Int}(h0:0<=k)(h:k<16):(X6 .u16 (x.toNat:Int) k).tmod 2=if x.getLsbD k.toNat=true then 1 else 0:=by
 have hm:min k.toNat 16=k.toNat:=by omega
 unfold X6;rw[show IntKind.bits .u16=16 from rfl,hm]
 have hp:(2:Int) ^ k.toNat=((2 ^ k.toNat:Nat):Int):=by simp
 rw[hp,Int.fdiv_eq_ediv_of_nonneg _ (Int.natCast_nonneg _),← Int.natCast_ediv];rw[BitVec.getLsbD,Nat.testBit_eq_decide_div_mod_eq];have:((x.toNat / 2 ^ k.toNat:Nat):Int).tmod 2=((x.toNat / 2 ^ k.toNat % 2:Nat):Int):=by rw[Int.tmod_eq_emod_of_nonneg (Int.natCast_nonneg _)];omega
 rw[this]
 by_cases hb:x.toNat / 2 ^ k.toNat % 2=1
 ·rw[hb];simp
 ·have:x.toNat / 2 ^ k.toNat % 2=0:=by omega
  rw[this];simp
def zP(a b:Nat):ICode:=.r [.n 16 6,.a 17 16 1,.n 6 17]
def zQ(a b:Nat):ICode:=.seq (.reg true [.n 40 5,.n 41 6,.i 42 1 40 41,.d 43 42,.n 44 43,.y 45 7 44,.p 46 44 45,.n 47 46,.y 48 4 47,.y 49 6 47,.g 50 (.iAddrS 1 (.t 48) (.t 49)) 47 true,.j 51 50 47 true,.y 52 0 47,.y 53 6 47,.g 54 (.iAddrS 4 (.t 52) (.t 53)) 47 true,.h 55 3 54 47 true,.j 56 55 47 true,.g 57 (.bin .shr (.t 51) (.t 56)) 47 true,.g 58 (.bin .rem (.t 57) (.c (.i .u16 2))) 47 true,.g 59 (.bin .eql (.t 58) (.c (.i .u16 0))) 47 true,.p 60 47 59]) (.cond (.t 60) (.r [.n 61 3,.n 62 6,.q 63 (.buildS 1 [.i .i64 0] [(0,1,(.t 62))]),.q 64 (.app 1 8 true (.t 61) (.t 63)),.n 3 64]) (.skip))
def jE(a b:Nat):IFn:=⟨[.tmp 2],.seq (.r [.m 2 .N]) (.seq (.r [.m 3 .N]) (.seq (.r [.n 8 0,.l 9 a [.t 8],.n 10 0,.l 11 b [.t 10],.n 4 9,.n 5 11]) (.seq (.seq (.r [.m 6 (.k 0)]) (.blk 0 (.loop (.seq (.seq (.r [.n 12 6,.n 13 4,.e 14 13,.s 15 12 14]) (.cond (.t 15) (.skip) (.exit 0))) (.seq (.blk 1 (.seq (.r [.n 18 0,.n 19 6,.i 20 4 18 19,.f 21 0 20,.d 22 21,.q 23 (.bin .eql (.t 22) (.c (.i .u16 96))),.n 24 23,.z 25 0 24,.z 26 6 24,.g 27 (.iAddrS 4 (.t 25) (.t 26)) 24 false,.h 28 0 27 24 false,.j 29 28 24 false,.g 30 (.bin .eql (.t 29) (.c (.i .u16 97))) 24 false,.o 31 24 30,.n 32 31,.y 33 0 32,.y 34 6 32,.g 35 (.iAddrS 4 (.t 33) (.t 34)) 32 true,.h 36 3 35 32 true,.j 37 36 32 true,.g 38 (.bin .lss (.t 37) (.c (.i .u32 16))) 32 true,.p 39 32 38,.n 7 39]) (.cut (zQ a b)))) (.cut (zP a b))))))) (.seq (.r [.n 65 3,.n 2 65]) (.ret)))))⟩
set_option maxHeartbeats 1000000 in
theorem qqn{g1 g2:Nat}(hc:qi P f (jE g1 g2)=true)
  (h1:∀p:List Ins,p.length<=4096->(∀i ∈ p,InsOk i)->qc P g1 [.fz p.length (rP p)] (.fz p.length (rW (qab p))))
  (h2:∀p:List Ins,p.length<=4096->(∀i ∈ p,InsOk i)->qc P g2 [.fz p.length (rP p)] (.fz p.length (rTt (QO p.length 0 p (st0 p.length)))))
  (p:List Ins) (hp:p.length<=4096) (hi:∀i ∈ p,InsOk i) (hsl:(qab p).length=p.length) (hrl:(QO p.length 0 p (st0 p.length)).length=p.length):qc P f [.fz p.length (rP p)] (.fz (qbv p).length (rNt (qbv p))):=by
 refine qc.mk hc (by simp[qy,clo,qd]) ?_;simp only[jE,vI,simprocAttr];simp (decide:=true) only [↓vS,vT,simprocAttr];refine (h1 p hp hi).sc ?_;simp (decide:=true) only [↓vS,vT,simprocAttr];refine (h2 p hp hi).sc ?_;simp (decide:=true) only [↓vS,vT,simprocAttr];unfold qbv;generalize qab p=sur at hsl ⊢;generalize QO p.length 0 p (st0 p.length)=rch at hrl ⊢
 refine SL.loop (α:=Nat×List Nat) (fun a=>[(0,.fz p.length (rP p)),(3,.own 0 a.2.length),(4,.fz p.length (rW sur)),(5,.fz p.length (rTt rch)),(6,.i .i64 (a.1:Int))]) (fun a=>[.cells 1 true true (rNt a.2)])
  (fun a=>a.1<=p.length∧a.2.length<=a.1∧qac rch sur a.1 (p.drop a.1) a.2=qac rch sur 0 p []) (fun a=>p.length-a.1) (0,[]) [99] ?_ ?_ ?_ rfl ?_ ?_
 ·simp[vw,qd,qx,qm]
 ·simp[vw]
 ·simp
 ·exact⟨Nat.zero_le _,Nat.le_refl _,rfl⟩
 rintro⟨j,l⟩ ⟨hj,hl,hI⟩ G ih;simp only at hj hl hI;simp only[vI,simprocAttr]
 by_cases hlt:j<p.length
 ·obtain⟨i,hpi⟩:∃i,p[j]?=some i:=⟨_,List.getElem?_eq_getElem hlt⟩;have hii:=hi i (List.mem_of_getElem? hpi)
  have hdr:p.drop j=i::p.drop (j+1):=by
   obtain⟨hh,he⟩:=List.getElem?_eq_some_iff.1 hpi;rw[List.drop_eq_getElem_cons hh,he]
  obtain⟨b,hb⟩:∃b,rch[j]?=some b:=⟨_,List.getElem?_eq_getElem (by omega)⟩;obtain⟨y,hy⟩:∃y,sur[j]?=some y:=⟨_,List.getElem?_eq_getElem (by omega)⟩;have hI2:qac rch sur (j+1) (p.drop (j+1)) (if unC rch sur j i=true then l++[j] else l)=qac rch sur 0 p []:=by rw[← hI,hdr];rfl
  have hw1:IntKind.wrap .i64 ((j:Int)+1)=((j+1:Nat):Int):=by rw[qp (by omega) (by omega)];omega
  have g0:=zb (f:=qn) (m:=4) qW hpi (i:=0) (by omega);have g3:=zb (f:=qn) (m:=4) qW hpi (i:=3) (by omega);rw[show p.flatMap qn=rP p from rfl] at g0 g3
  simp only[qn,Nat.add_zero,List.getElem?_cons_zero,List.getElem?_cons_succ] at g0 g3
  have fin:∀l2:List Nat,l2.length<=j+1->qac rch sur (j+1) (p.drop (j+1)) l2=qac rch sur 0 p []->∀Qc:X->Tr AV->Hp->Prop,(∀t h,G t h->Qc .normal t h)->∀{t':Tr AV} {h':Hp},Wk 0 t' h' (mkT [(0,.fz p.length (rP p)),(3,.own 0 l2.length),(4,.fz p.length (rW sur)),(5,.fz p.length (rTt rch)),(6,.i .i64 (j:Int))]) (mkH 0 [.cells 1 true true (rNt l2)])->S P 0 (zP g1 g2) Qc t' h':=by
   intro l2 e1 e2 Qc hQc t' h' hw;refine S.weak hw (qA ?_);simp only[zP,vI,simprocAttr];simp (decide:=true) only [↓vS,vT,simprocAttr,hw1];refine hQc _ _ (ih (j+1,l2) ⟨hlt,e1,e2⟩ (by simp only;omega) _ _ (Wk.mk _ _ [0] ?_ ?_ ?_ rfl))
   ·simp[vw,qd,qx,qm]
   ·simp[vw,qa,qu]
   ·simp
  have c40:∀Qc:X->Tr AV->Hp->Prop,(∀l2 t'' h'',l2.length<=j+1->qac rch sur (j+1) (p.drop (j+1)) l2=qac rch sur 0 p []->Wk 0 t'' h'' (mkT [(0,.fz p.length (rP p)),(3,.own 0 l2.length),(4,.fz p.length (rW sur)),(5,.fz p.length (rTt rch)),(6,.i .i64 (j:Int))]) (mkH 0 [.cells 1 true true (rNt l2)])->Qc .normal t'' h'')->∀{t':Tr AV} {h':Hp},Wk 0 t' h' (mkT [(0,.fz p.length (rP p)),(3,.own 0 l.length),(4,.fz p.length (rW sur)),(5,.fz p.length (rTt rch)),(6,.i .i64 (j:Int)),(7,.b (rdC i))]) (mkH 0 [.cells 1 true true (rNt l)])->S P 0 (zQ g1 g2) Qc t' h':=by
   intro Qc hQc t' h' hw;refine S.weak hw (qA ?_);have h20:(2:Int)≠0:=by decide
   have hr1:l.length+1<=qf:=by simp only[qf];omega
   have hr2:(l.length+1)*8<=qf:=by simp only[qf];omega
   have hap:rNt l++[.i .i64 (j:Int)]=rNt (l++[j]):=by rw[← qam];rfl
   have hll:(rNt l).length=l.length:=Xt;have hk0:=hii.k0;unfold unC at hI2;simp only[List.getD_eq_getElem?_getD,hb,hy,Option.getD_some] at hI2;simp only[zQ,vI,simprocAttr];refine zm ?_;cases b with
   | false =>
    simp (decide:=true) only [↓vS,vT,simprocAttr,hlt,Nat.mul_one,xK,hb,Option.map_some];rw[if_neg (by simp)] at hI2;refine hQc l _ _ (by omega) hI2 (Wk.mk _ _ [0] ?_ ?_ ?_ rfl)
    ·simp[vw,qd,qx,qm]
    ·simp[vw,qa,qu]
    ·simp
   | true =>
   cases hrc:rdC i with
   | false =>
    rw[hrc] at hI2;simp (decide:=true) only [↓vS,vT,simprocAttr,hlt,Nat.mul_one,xK,hb,Option.map_some];rw[if_neg (by simp)] at hI2;refine hQc l _ _ (by omega) hI2 (Wk.mk _ _ [0] ?_ ?_ ?_ rfl)
    ·simp[vw,qd,qx,qm]
    ·simp[vw,qa,qu]
    ·simp
   | true =>
   have hk16:i.k<16:=by unfold rdC at hrc;simp at hrc;exact hrc.2
   have hbt:=qqN y hk0 hk16;rw[hrc] at hI2;cases hbb:y.getLsbD i.k.toNat with
   | true =>
    rw[hbb] at hI2 hbt;rw[if_pos rfl] at hbt;simp (decide:=true) only [↓vS,vT,simprocAttr,hlt,Nat.mul_one,xK,hb,Option.map_some,ZU,hy,g3,hk0,↓zT h20,hbt];rw[if_neg (by simp)] at hI2;refine hQc l _ _ (by omega) hI2 (Wk.mk _ _ [0] ?_ ?_ ?_ rfl)
    ·simp[vw,qd,qx,qm]
    ·simp[vw,qa,qu]
    ·simp
   | false =>
    rw[hbb] at hI2 hbt;rw[if_neg (by simp)] at hbt;rw[if_pos (by simp)] at hI2;simp (decide:=true) only [↓vS,vT,simprocAttr,hlt,Nat.mul_one,xK,hb,Option.map_some,ZU,hy,g3,hk0,↓zT h20,hbt,hr1,hr2,hll,hap];refine hQc (l++[j]) _ _ (by simp;omega) hI2 (Wk.mk _ _ [2] ?_ ?_ ?_ rfl)
    ·simp[vw,qd,qx,qm]
    ·simp[vw,qa,qu]
    ·simp
  clear ih
  by_cases hk16:i.k<16
  ·by_cases e1:i.code=96
   ·have hrc:rdC i=true:=by unfold rdC;simp[e1,hk16]
    simp (decide:=true) only [↓vS,vT,simprocAttr,hlt,g0,g3,e1,hk16];refine c40 _ ?_ (Wk.mk _ _ [0] ?_ ?_ ?_ rfl)
    ·intro l2 t'' h'' q1 q2 hw2;simp (decide:=true) only [↓vS,vT,simprocAttr];exact fin l2 q1 q2 _ (fun _ _ h=>h) hw2
    ·simp[vw,qd,qx,qm,hrc]
    ·simp[vw,qa,qu]
    ·simp
   by_cases e2:i.code=97
   ·have hrc:rdC i=true:=by unfold rdC;simp[e2,hk16]
    simp (decide:=true) only [↓vS,vT,simprocAttr,hlt,g0,g3,e1,e2,hk16];refine c40 _ ?_ (Wk.mk _ _ [0] ?_ ?_ ?_ rfl)
    ·intro l2 t'' h'' q1 q2 hw2;simp (decide:=true) only [↓vS,vT,simprocAttr];exact fin l2 q1 q2 _ (fun _ _ h=>h) hw2
    ·simp[vw,qd,qx,qm,hrc]
    ·simp[vw,qa,qu]
    ·simp
   have hrc:rdC i=false:=by unfold rdC;simp[e1,e2]
   simp (decide:=true) only [↓vS,vT,simprocAttr,hlt,g0,g3,e1,e2];refine c40 _ ?_ (Wk.mk _ _ [0] ?_ ?_ ?_ rfl)
   ·intro l2 t'' h'' q1 q2 hw2;simp (decide:=true) only [↓vS,vT,simprocAttr];exact fin l2 q1 q2 _ (fun _ _ h=>h) hw2
   ·simp[vw,qd,qx,qm,hrc]
   ·simp[vw,qa,qu]
   ·simp
  ·have hrc:rdC i=false:=by unfold rdC;simp[hk16]
   by_cases e1:i.code=96
   ·simp (decide:=true) only [↓vS,vT,simprocAttr,hlt,g0,g3,e1,hk16];refine c40 _ ?_ (Wk.mk _ _ [0] ?_ ?_ ?_ rfl)
    ·intro l2 t'' h'' q1 q2 hw2;simp (decide:=true) only [↓vS,vT,simprocAttr];exact fin l2 q1 q2 _ (fun _ _ h=>h) hw2
    ·simp[vw,qd,qx,qm,hrc]
    ·simp[vw,qa,qu]
    ·simp
   by_cases e2:i.code=97
   ·simp (decide:=true) only [↓vS,vT,simprocAttr,hlt,g0,g3,e1,e2,hk16];refine c40 _ ?_ (Wk.mk _ _ [0] ?_ ?_ ?_ rfl)
    ·intro l2 t'' h'' q1 q2 hw2;simp (decide:=true) only [↓vS,vT,simprocAttr];exact fin l2 q1 q2 _ (fun _ _ h=>h) hw2
    ·simp[vw,qd,qx,qm,hrc]
    ·simp[vw,qa,qu]
    ·simp
   simp (decide:=true) only [↓vS,vT,simprocAttr,hlt,g0,g3,e1,e2];refine c40 _ ?_ (Wk.mk _ _ [0] ?_ ?_ ?_ rfl)
   ·intro l2 t'' h'' q1 q2 hw2;simp (decide:=true) only [↓vS,vT,simprocAttr];exact fin l2 q1 q2 _ (fun _ _ h=>h) hw2
   ·simp[vw,qd,qx,qm,hrc]
   ·simp[vw,qa,qu]
   ·simp
 ·obtain rfl:j=p.length:=by omega
  rw[List.drop_length] at hI;have hI:l=qac rch sur 0 p []:=hI;rw[← hI];simp (decide:=true) only [↓vS,vT,simprocAttr,hlt];simp[vZ,vP,Tr.get_set,qY qu];intro h0;rw[h0];rfl
end Go.Kc
end
section
/- What the document says is wrong with an instruction, with a program. Condition: the functions' texts are these. -/
namespace Go.Kc
variable {P:Program} {f:Nat}
def spN:List (List UInt8):=[[108,100,97,98,115],[108,100,109],[108,100,120,109],[115,116],[115,116,120],[100,105,118],[108,115,104],[114,115,104],[106,97]]
def spC:List Int:=[32,96,97,2,3,52,100,116,5]
theorem qgL:∀x ∈ xF,spC.contains x.1=false->spN.contains x.2.1=false∧x.2.1≠[]∧x.2.2≠2:=by decide
theorem xy{c:Int}{x:Int×List UInt8×Int}(h:qw c=some x):x ∈ xF∧x.1=c:=by
 unfold qw at h;have h1:=List.mem_of_find?_eq_some h;have h2:=List.find?_some h;exact⟨h1,by simpa using h2⟩
def wF(a:Nat):IFn:=⟨[.tmp 4],.seq (.r [.q 2 (.box (.t 0)),.m 4 (.k 0)]) (.seq (.seq (.r [.n 6 1,.w 7 .lss 6 0]) (.cond (.t 7) (.r [.m 1 (.k 0)]) (.skip))) (.seq (.r [.f 8 0 2,.d 9 8,.l 10 a [.t 9],.q 5 (.alloc [.i .u16 0,.s [],.i .u8 0]),.u (.store 3 (.t 5) (.t 10))]) (.seq (.seq (.r [.f 11 1 5,.d 12 11,.q 13 (.bin .eql (.t 12) (.c (.s [])))]) (.cond (.t 13) (.seq (.r [.m 4 (.k 40)]) (.ret)) (.skip))) (.seq (.seq (.r [.f 14 1 5,.d 15 14]) (.blk 0 (.seq (.r [.q 17 (.bin .eql (.t 15) (.c (.s [108,100,97,98,115]))),.n 16 17]) (.cond (.t 16) (.seq (.r [.f 18 3 2,.d 19 18,.q 20 (.bin .gtr (.t 19) (.c (.i .u32 60))),.n 21 20,.h 22 3 2 21 false,.j 23 22 21 false,.g 24 (.bin .rem (.t 23) (.c (.i .u32 4))) 21 false,.g 25 (.bin .gtr (.t 24) (.c (.i .u32 0))) 21 false,.o 26 21 25]) (.cond (.t 26) (.seq (.r [.m 4 (.k 41)]) (.ret)) (.skip))) (.seq (.seq (.r [.q 28 (.bin .eql (.t 15) (.c (.s [108,100,109]))),.n 27 28]) (.cond (.t 27) (.skip) (.seq (.r [.q 29 (.bin .eql (.t 15) (.c (.s [108,100,120,109]))),.n 27 29]) (.cond (.t 27) (.skip) (.seq (.r [.q 30 (.bin .eql (.t 15) (.c (.s [115,116]))),.n 27 30]) (.cond (.t 27) (.skip) (.r [.q 31 (.bin .eql (.t 15) (.c (.s [115,116,120]))),.n 27 31]))))))) (.cond (.t 27) (.seq (.r [.f 32 3 2,.d 33 32,.q 34 (.bin .gtr (.t 33) (.c (.i .u32 15)))]) (.cond (.t 34) (.seq (.r [.m 4 (.k 43)]) (.ret)) (.skip))) (.seq (.r [.q 36 (.bin .eql (.t 15) (.c (.s [100,105,118]))),.n 35 36]) (.cond (.t 35) (.seq (.r [.f 37 3 2,.d 38 37,.q 39 (.bin .eql (.t 38) (.c (.i .u32 0)))]) (.cond (.t 39) (.seq (.r [.m 4 (.k 44)]) (.ret)) (.skip))) (.seq (.seq (.r [.q 41 (.bin .eql (.t 15) (.c (.s [108,115,104]))),.n 40 41]) (.cond (.t 40) (.skip) (.r [.q 42 (.bin .eql (.t 15) (.c (.s [114,115,104]))),.n 40 42]))) (.cond (.t 40) (.seq (.r [.f 43 3 2,.d 44 43,.q 45 (.bin .gtr (.t 44) (.c (.i .u32 31)))]) (.cond (.t 45) (.seq (.r [.m 4 (.k 45)]) (.ret)) (.skip))) (.seq (.r [.q 47 (.bin .eql (.t 15) (.c (.s [106,97]))),.n 46 47]) (.cond (.t 46) (.seq (.seq (.r [.f 48 3 2,.d 49 48,.q 50 (.cvInt .i64 (.t 49)),.n 51 1,.b 52 .geq 50 51]) (.cond (.t 52) (.seq (.r [.m 4 (.k 42)]) (.ret)) (.skip))) (.seq (.r [.m 4 (.k 0)]) (.ret))) (.skip))))))))))))) (.seq (.seq (.r [.f 53 2 5,.d 54 53,.q 55 (.bin .eql (.t 54) (.c (.i .u8 4))),.n 56 55,.h 57 1 2 56 true,.j 58 57 56 true,.g 59 (.cvInt .i64 (.t 58)) 56 true,.y 60 1 56,.g 61 (.bin .geq (.t 59) (.t 60)) 56 true,.y 62 61 56,.h 63 2 2 62 false,.j 64 63 62 false,.g 65 (.cvInt .i64 (.t 64)) 62 false,.z 66 1 62,.g 67 (.bin .geq (.t 65) (.t 66)) 62 false,.g 68 (.pick (.t 62) .T (.t 67)) 56 true,.p 69 56 68]) (.cond (.t 69) (.seq (.r [.m 4 (.k 42)]) (.ret)) (.skip))) (.seq (.r [.m 4 (.k 0)]) (.ret)))))))⟩
set_option maxRecDepth 8000 in
set_option maxHeartbeats 4000000 in
theorem qt0{g:Nat}(hc:qi P f (wF g)=true)(hg:Je P g)(i:Ins)(hi:InsOk i)(n:Nat)(hn:n<=5000):qc P f [.agg (qn i),.i .i64 n] (.i .i64 (kt i n)):=by
 refine qc.mk hc rfl ?_;have hn0:¬(n:Int)<0:=by omega
 have h40:(4:Int)≠0:=by decide
 have hk0:=hi.k0;have ht:i.k.tmod 4=i.k % 4:=Int.tmod_eq_emod_of_nonneg hk0;have hk:IntKind.wrap .i64 i.k=i.k:=by have:=hi.k1;exact qp (by omega) (by omega)
 have hjt:IntKind.wrap .i64 i.jt=i.jt:=by have:=hi.t0;have:=hi.t1;exact qp (by omega) (by omega)
 have hjf:IntKind.wrap .i64 i.jf=i.jf:=by have:=hi.f0;have:=hi.f1;exact qp (by omega) (by omega)
 have hgc:=hg i.code;simp only[wF,qn,vI,simprocAttr];simp (decide:=true) only [↓vS,vT,simprocAttr,hn0];refine hgc.sc ?_;cases hcm:qw i.code with
 | none =>
  have hb:XI i=true:=by unfold XI zk;rw[hcm];rfl
  unfold kt;rw[if_pos hb];simp (decide:=true) only [↓vS,vT,simprocAttr,zj,zE];simp[vZ]
 | some x =>
  obtain⟨hxm,hxc⟩:=xy hcm;have hb1:XI i=false:=by unfold XI zk;rw[hcm];rfl
  have hcl:qg i.code=x.2.2:=by unfold qg;rw[hcm];rfl
  unfold kt;rw[hb1];simp only[zj,xt]
  by_cases hs:spC.contains x.1=false
  ·obtain⟨hn1,hn2,hn3⟩:=qgL x hxm hs;rw[hxc] at hs;simp[spC] at hs;obtain⟨s1,s2,s3,s4,s5,s6,s7,s8,s9⟩:=hs;simp[spN] at hn1;obtain⟨m1,m2,m3,m4,m5,m6,m7,m8,m9⟩:=hn1;have hb2:jX i=false:=by unfold jX;simp[s1]
   have hb3:wL i=false:=by unfold wL;simp[s2,s3,hcl,hn3]
   have hb4:wM i=false:=by unfold wM;simp[s6]
   have hb5:wN i=false:=by unfold wN;simp[s7,s8]
   have hb6:wO i n=(decide (x.2.2=4)&&decide ((n:Int)<=hiM i)):=by unfold wO;rw[if_neg s9,hcl]
   rw[hb2,hb3,hb4,hb5,hb6];generalize x.2.1=nm at *
   by_cases h4:x.2.2=4
   ·by_cases hj1:(n:Int)<=i.jt
    ·have hh:(n:Int)<=hiM i:=by unfold hiM;split<;>omega
     simp (decide:=true) only [↓vS,vT,simprocAttr,hn2,m1,m2,m3,m4,m5,m6,m7,m8,m9,h4,hjt,hj1];simp[vZ,h4,hh]
    ·by_cases hj2:(n:Int)<=i.jf
     ·have hh:(n:Int)<=hiM i:=by unfold hiM;split<;>omega
      simp (decide:=true) only [↓vS,vT,simprocAttr,hn2,m1,m2,m3,m4,m5,m6,m7,m8,m9,h4,hjt,hj1,hjf,hj2];simp[vZ,h4,hh]
     ·have hh:¬(n:Int)<=hiM i:=by unfold hiM;split<;>omega
      simp (decide:=true) only [↓vS,vT,simprocAttr,hn2,m1,m2,m3,m4,m5,m6,m7,m8,m9,h4,hjt,hj1,hjf,hj2];simp[vZ,h4,hh]
   ·simp (decide:=true) only [↓vS,vT,simprocAttr,hn2,m1,m2,m3,m4,m5,m6,m7,m8,m9,h4];simp[vZ,h4]
  ·have hs':i.code=32∨i.code=96∨i.code=97∨i.code=2∨i.code=3∨i.code=52∨i.code=100∨i.code=116∨i.code=5:=by
    rw[hxc] at hs;simp only[spC,Bool.not_eq_false,List.contains_iff_mem,List.mem_cons,List.not_mem_nil,or_false] at hs;exact hs
   clear hs;rcases hs' with hcd|hcd|hcd|hcd|hcd|hcd|hcd|hcd|hcd
   ·have hx:x=(32,[108,100,97,98,115],1):=by rw[hcd] at hcm;exact Option.some.inj (hcm.symm.trans (by decide))
    subst hx;rw[hcd] at hcl;simp only at hcl
    by_cases hq:60<i.k
    ·simp (decide:=true) only [↓vS,vT,simprocAttr,hcd,hq]
     by_cases h64:64<=i.k
     ·simp[vZ,jX,hcd,h64]
     ·have:¬i.k % 4=0:=by omega
      simp[vZ,jX,hcd,this]
    by_cases hq2:i.k % 4=0
    ·have h64:¬64<=i.k:=by omega
     simp (decide:=true) only [↓vS,vT,simprocAttr,hcd,hq,↓zT h40,ht,hq2];simp[vZ,jX,wL,wM,wN,wO,hcd,hcl,hq2,h64]
    ·have hq3:0<i.k % 4:=by omega
     simp (decide:=true) only [↓vS,vT,simprocAttr,hcd,hq,↓zT h40,ht,hq3];simp[vZ,jX,hcd,hq2]
   ·have hx:x=(96,[108,100,109],1):=by rw[hcd] at hcm;exact Option.some.inj (hcm.symm.trans (by decide))
    subst hx;rw[hcd] at hcl;simp only at hcl
    by_cases hq:15<i.k
    ·have hq2:16<=i.k:=by omega
     simp (decide:=true) only [↓vS,vT,simprocAttr,hcd,hq,hk];simp[vZ,jX,wL,wM,wN,wO,hcd,hcl,hq,hq2]
    ·have hq2:¬16<=i.k:=by omega
     simp (decide:=true) only [↓vS,vT,simprocAttr,hcd,hq,hk];simp[vZ,jX,wL,wM,wN,wO,hcd,hcl,hq,hq2]
   ·have hx:x=(97,[108,100,120,109],1):=by rw[hcd] at hcm;exact Option.some.inj (hcm.symm.trans (by decide))
    subst hx;rw[hcd] at hcl;simp only at hcl
    by_cases hq:15<i.k
    ·have hq2:16<=i.k:=by omega
     simp (decide:=true) only [↓vS,vT,simprocAttr,hcd,hq,hk];simp[vZ,jX,wL,wM,wN,wO,hcd,hcl,hq,hq2]
    ·have hq2:¬16<=i.k:=by omega
     simp (decide:=true) only [↓vS,vT,simprocAttr,hcd,hq,hk];simp[vZ,jX,wL,wM,wN,wO,hcd,hcl,hq,hq2]
   ·have hx:x=(2,[115,116],2):=by rw[hcd] at hcm;exact Option.some.inj (hcm.symm.trans (by decide))
    subst hx;rw[hcd] at hcl;simp only at hcl
    by_cases hq:15<i.k
    ·have hq2:16<=i.k:=by omega
     simp (decide:=true) only [↓vS,vT,simprocAttr,hcd,hq,hk];simp[vZ,jX,wL,wM,wN,wO,hcd,hcl,hq,hq2]
    ·have hq2:¬16<=i.k:=by omega
     simp (decide:=true) only [↓vS,vT,simprocAttr,hcd,hq,hk];simp[vZ,jX,wL,wM,wN,wO,hcd,hcl,hq,hq2]
   ·have hx:x=(3,[115,116,120],2):=by rw[hcd] at hcm;exact Option.some.inj (hcm.symm.trans (by decide))
    subst hx;rw[hcd] at hcl;simp only at hcl
    by_cases hq:15<i.k
    ·have hq2:16<=i.k:=by omega
     simp (decide:=true) only [↓vS,vT,simprocAttr,hcd,hq,hk];simp[vZ,jX,wL,wM,wN,wO,hcd,hcl,hq,hq2]
    ·have hq2:¬16<=i.k:=by omega
     simp (decide:=true) only [↓vS,vT,simprocAttr,hcd,hq,hk];simp[vZ,jX,wL,wM,wN,wO,hcd,hcl,hq,hq2]
   ·have hx:x=(52,[100,105,118],3):=by rw[hcd] at hcm;exact Option.some.inj (hcm.symm.trans (by decide))
    subst hx;rw[hcd] at hcl;simp only at hcl
    by_cases hq:i.k=0
    ·have hq2:=hq;simp (decide:=true) only [↓vS,vT,simprocAttr,hcd,hq,hk];simp[vZ,jX,wL,wM,wN,wO,hcd,hcl,hq,hq2]
    ·have hq2:=hq;simp (decide:=true) only [↓vS,vT,simprocAttr,hcd,hq,hk];simp[vZ,jX,wL,wM,wN,wO,hcd,hcl,hq,hq2]
   ·have hx:x=(100,[108,115,104],3):=by rw[hcd] at hcm;exact Option.some.inj (hcm.symm.trans (by decide))
    subst hx;rw[hcd] at hcl;simp only at hcl
    by_cases hq:31<i.k
    ·have hq2:=hq;simp (decide:=true) only [↓vS,vT,simprocAttr,hcd,hq,hk];simp[vZ,jX,wL,wM,wN,wO,hcd,hcl,hq,hq2]
    ·have hq2:=hq;simp (decide:=true) only [↓vS,vT,simprocAttr,hcd,hq,hk];simp[vZ,jX,wL,wM,wN,wO,hcd,hcl,hq,hq2]
   ·have hx:x=(116,[114,115,104],3):=by rw[hcd] at hcm;exact Option.some.inj (hcm.symm.trans (by decide))
    subst hx;rw[hcd] at hcl;simp only at hcl
    by_cases hq:31<i.k
    ·have hq2:=hq;simp (decide:=true) only [↓vS,vT,simprocAttr,hcd,hq,hk];simp[vZ,jX,wL,wM,wN,wO,hcd,hcl,hq,hq2]
    ·have hq2:=hq;simp (decide:=true) only [↓vS,vT,simprocAttr,hcd,hq,hk];simp[vZ,jX,wL,wM,wN,wO,hcd,hcl,hq,hq2]
   ·have hx:x=(5,[106,97],4):=by rw[hcd] at hcm;exact Option.some.inj (hcm.symm.trans (by decide))
    subst hx;rw[hcd] at hcl;simp only at hcl
    by_cases hq:(n:Int)<=i.k
    ·have hq2:=hq;simp (decide:=true) only [↓vS,vT,simprocAttr,hcd,hq,hk];simp[vZ,jX,wL,wM,wN,wO,hcd,hcl,hq,hq2]
    ·have hq2:=hq;simp (decide:=true) only [↓vS,vT,simprocAttr,hcd,hq,hk];simp[vZ,jX,wL,wM,wN,wO,hcd,hcl,hq,hq2]
end Go.Kc
end
section
/- What the document says is wrong with a program. Condition: the functions' texts are these. -/
namespace Go.Kc
variable {P:Program} {f:Nat}
def ql7(P:Program)(f:Nat):Prop:=∀p:List Ins,(∀i ∈ p,InsOk i)->p.length<=5000->qc P f [.fz p.length (rP p)] (.tup [.i .i64 ((atU p (qbv p)).1:Int),.i .i64 (atU p (qbv p)).2])
def xo(a b c:Nat):IFn:=⟨[.tmp 2,.tmp 3],.seq (.r [.m 2 (.k 0),.m 3 (.k 0)]) (.seq (.seq (.r [.n 7 0,.e 8 7,.w 9 .eql 8 0,.n 10 9,.z 11 0 10,.g 12 (.len false (.t 11)) 10 false,.g 13 (.bin .gtr (.t 12) (.k 4096)) 10 false,.o 14 10 13]) (.cond (.t 14) (.seq (.r [.m 2 (.k 0),.m 3 (.k 60)]) (.ret)) (.skip))) (.seq (.seq (.r [.m 4 (.k 0)]) (.blk 0 (.loop (.seq (.seq (.r [.n 15 4,.n 16 0,.e 17 16,.s 18 15 17]) (.cond (.t 18) (.skip) (.exit 0))) (.seq (.blk 1 (.seq (.r [.n 21 0,.n 22 4,.i 23 4 21 22,.v 24 4 23,.n 25 0,.e 26 25,.w 27 .sub 26 1,.n 28 4,.b 29 .sub 27 28,.l 30 a [.t 24,.t 29],.n 5 30]) (.seq (.r [.n 31 5,.w 32 .neq 31 0]) (.cond (.t 32) (.seq (.r [.n 33 4,.n 34 5,.n 2 33,.n 3 34]) (.ret)) (.skip))))) (.r [.n 19 4,.a 20 19 1,.n 4 20])))))) (.seq (.seq (.r [.n 35 0,.n 36 0,.e 37 36,.w 38 .sub 37 1,.i 39 4 35 38,.f 40 0 39,.d 41 40,.l 42 b [.t 41],.q 43 (.fld 2 none (.t 42)),.q 44 (.bin .neq (.t 43) (.c (.i .u8 5)))]) (.cond (.t 44) (.seq (.r [.n 45 0,.e 46 45,.w 47 .sub 46 1,.n 2 47,.m 3 (.k 46)]) (.ret)) (.skip))) (.seq (.r [.n 48 0,.l 49 c [.t 48],.n 6 49]) (.seq (.seq (.r [.n 50 6,.e 51 50,.w 52 .gtr 51 0]) (.cond (.t 52) (.seq (.r [.n 53 6,.q 54 (.iAddrS 1 (.t 53) (.k 0)),.d 55 54,.n 2 55,.m 3 (.k 61)]) (.ret)) (.skip))) (.seq (.r [.m 2 (.k 0),.m 3 (.k 0)]) (.ret)))))))⟩
set_option maxHeartbeats 1000000 in
theorem quc{g1 g2 g3:Nat}(hc:qi P f (xo g1 g2 g3)=true)(h1:∀i,InsOk i->∀n:Nat,n<=5000->qc P g1 [.agg (qn i),.i .i64 (n:Int)] (.i .i64 (kt i n)))(h2:Je P g2)
  (h3:∀p:List Ins,p.length<=4096->(∀i ∈ p,InsOk i)->qc P g3 [.fz p.length (rP p)] (.fz (qbv p).length (rNt (qbv p)))):ql7 P f:=by
 intro p hi hp;refine qc.mk hc (by simp[qy,clo,qd]) ?_;unfold atU;simp only[xo,vI,simprocAttr]
 by_cases hz:p.length=0
 ·have hz':(p.length:Int)=0:=by omega
  have hp0:p=[]:=List.eq_nil_of_length_eq_zero hz;rw[if_pos (.inl hz)];subst hp0;simp (decide:=true) only [↓vS,vT,simprocAttr,hz',List.length_nil];simp[vZ]
 have hz':¬(p.length:Int)=0:=by omega
 by_cases hb:4096<p.length
 ·have hb':(4096:Int)<p.length:=by omega
  rw[if_pos (.inr hb)];simp (decide:=true) only [↓vS,vT,simprocAttr,hz',hb'];simp[vZ]
 have hb':¬(4096:Int)<p.length:=by omega
 rw[if_neg (by omega)];have hl1:IntKind.wrap .i64 ((p.length:Int)-1)=((p.length-1:Nat):Int):=by rw[qp (by omega) (by omega)];omega
 simp (decide:=true) only [↓vS,vT,simprocAttr,hz',hb'];refine SL.loop (α:=Nat) (fun j=>[(0,.fz p.length (rP p)),(4,.i .i64 (j:Int))]) (fun _=>[]) (fun j=>j<=p.length∧k9 p.length j (p.drop j)=k9 p.length 0 p) (fun j=>p.length-j) 0 [] ?_ ?_ ?_ rfl ?_ ?_
 ·simp[vw,qd]
 ·trivial
 ·simp
 ·exact⟨Nat.zero_le _,rfl⟩
 rintro j ⟨hj,hI⟩ G ih;simp only[vI,simprocAttr]
 by_cases hlt:j<p.length
 ·obtain⟨i,hpi⟩:∃i,p[j]?=some i:=⟨_,List.getElem?_eq_getElem hlt⟩;have hii:=hi i (List.mem_of_getElem? hpi);have hel:=qU (f:=qn) (m:=4) qW hpi;rw[show p.flatMap qn=rP p from rfl] at hel
  simp only[qn] at hel;have h4:j*4+4<=(rP p).length:=by rw[vm];omega
  have hdr:p.drop j=i::p.drop (j+1):=by
   obtain⟨hh,he⟩:=List.getElem?_eq_some_iff.1 hpi;rw[List.drop_eq_getElem_cons hh,he]
  rw[hdr,yr] at hI;have hw1:IntKind.wrap .i64 ((j:Int)+1)=((j+1:Nat):Int):=by rw[qp (by omega) (by omega)];omega
  have hw2:IntKind.wrap .i64 (((p.length-1:Nat):Int)-(j:Int))=((p.length-1-j:Nat):Int):=by rw[qp (by omega) (by omega)];omega
  have hone:=h1 i hii (p.length-1-j) (by omega);simp only[qn] at hone;simp (decide:=true) only [↓vS,vT,simprocAttr,hlt,hel,h4,hl1,hw2];refine hone.sc ?_
  by_cases h0:kt i (p.length-1-j)=0
  ·rw[if_pos h0] at hI;simp (decide:=true) only [↓vS,vT,simprocAttr,h0,hw1];refine ih (j+1) ⟨hlt,hI⟩ (by omega) _ _ (Wk.mk _ _ [] ?_ ?_ ?_ rfl)
   ·simp[vw,qd]
   ·trivial
   ·simp
  ·rw[if_neg h0] at hI;simp (decide:=true) only [↓vS,vT,simprocAttr,h0];rw[← hI];simp[vZ]
 ·obtain rfl:j=p.length:=by omega
  have hd:p.drop p.length=[]:=List.drop_eq_nil_of_le (by omega);rw[hd] at hI;simp only[k9] at hI;rw[← hI];obtain⟨i,hpi⟩:∃i,p[p.length-1]?=some i:=⟨_,List.getElem?_eq_getElem (by omega)⟩;have hlc:yX p=i.code:=by unfold yX;rw[List.getD_eq_getElem?_getD,hpi];rfl
  have hg:=zb (f:=qn) (m:=4) qW hpi (i:=0) (by omega);rw[show p.flatMap qn=rP p from rfl] at hg
  simp only[qn,Nat.add_zero,List.getElem?_cons_zero] at hg;have hlt2:p.length-1<p.length:=by omega
  have hcl:(zj (qw i.code)).length=3∧(zj (qw i.code))[2]?=some (.i .u8 (qg i.code))∧qy (zj (qw i.code))=true:=by
   unfold qg;cases qw i.code<;>exact⟨rfl,rfl,rfl⟩
  have hgc:=h2 i.code;generalize zj (qw i.code)=E at hcl hgc;obtain⟨he1,he2,he3⟩:=hcl;simp (decide:=true) only [↓vS,vT,simprocAttr,hlt,hlt2,hl1,hg];refine hgc.sc ?_
  by_cases h5:qg i.code=5
  ·simp (decide:=true) only [↓vS,vT,simprocAttr,he2,h5];refine (h3 p (by omega) hi).sc ?_;rw[hlc];cases hu:qbv p with
   | nil =>
    simp (decide:=true) only [↓vS,vT,simprocAttr,List.length_nil];simp[vZ,h5]
   | cons a u =>
    have hgt2:0<(a::u).length:=by simp
    have hga:(rNt (a::u))[0]?=some (.i .i64 (a:Int)):=rfl;generalize (a::u).length=m at hgt2 ⊢;generalize rNt (a::u)=T at hga ⊢;have hgt:(0:Int)<(m:Int):=by omega
    simp (decide:=true) only [↓vS,vT,simprocAttr,hgt,hgt2,Nat.mul_one,hga];simp[vZ,h5]
  ·simp (decide:=true) only [↓vS,vT,simprocAttr,he2,h5,hl1];rw[hlc];simp[vZ,h5]
end Go.Kc
end
section
/- The plain law: both ways of asking which cells are sure come to the same. No condition. -/
namespace Go.Kc
def zL{σ:Type}(F:Nat->Ins->σ->σ):Nat->List Ins->σ->σ
 | _,[],st=>st
 | j,i::L,st=>zL F (j+1) L (F j i st)
theorem QZ{σ:Type}(F:Nat->Ins->σ->σ):∀(L M:List Ins) (j:Nat) (st:σ),zL F j (L++M) st=zL F (j+L.length) M (zL F j L st)
 | [],_,_,_=>rfl
 | i::L,M,j,st=>by
  show zL F (j+1) (L++M) (F j i st)=zL F (j+(L.length+1)) M (zL F (j+1) L (F j i st));rw[QZ F L M (j+1),show j+1+L.length=j+(L.length+1) from by omega]
theorem qd9{σ:Type}(F:Nat->Ins->σ->σ)(L:List Ins)(i:Ins)(st:σ):zL F 0 (L++[i]) st=F L.length i (zL F 0 L st):=by
 rw[QZ,Nat.zero_add];rfl
theorem XN{σ β:Type}(F:Nat->Ins->σ->σ)(obs:σ->β):∀(L:List Ins) (j:Nat) (st:σ),(∀k i st,j<=k->obs (F k i st)=obs st)->obs (zL F j L st)=obs st
 | [],_,_,_=>rfl
 | i::L,j,st,h=>by
  show obs (zL F (j+1) L (F j i st))=_;rw[XN F obs L (j+1) _ (fun k i st hk=>h k i st (by omega)),h j i st (Nat.le_refl _)]
theorem qaM{σ β:Type}(F:Nat->Ins->σ->σ)(obs:σ->β):∀(L:List Ins) (j:Nat) (st:σ),(∀k i st,j<=k->k<j+L.length->obs (F k i st)=obs st)->obs (zL F j L st)=obs st
 | [],_,_,_=>rfl
 | i::L,j,st,h=>by
  show obs (zL F (j+1) L (F j i st))=_;rw[qaM F obs L (j+1) _ (fun k i st hk hk2=>h k i st (by omega) (by simp;omega)),h j i st (Nat.le_refl _) (by simp)]
theorem qmE{n:Nat}:∀(L:List Ins) (j:Nat) (st:WSt),wkM n j L st=zL (stM n) j L st
 | [],_,_=>rfl
 | i::L,j,st=>qmE L (j+1) _
def rcS(n j:Nat)(i:Ins)(r:List Bool):List Bool:=if r.getD j false=true then mkL (kS n i j) r else r
theorem qi5{n:Nat}:∀(L:List Ins) (j:Nat) (r:List Bool),QO n j L r=zL (rcS n) j L r
 | [],_,_=>rfl
 | i::L,j,r=>qi5 L (j+1) _
theorem qer{n c:Nat}:∀(L:List Ins) (j:Nat) (st:List Bool×List (BitVec 16)),y6 n c j L st=zL (stS n c) j L st
 | [],_,_=>rfl
 | i::L,j,st=>qer L (j+1) _
def unS(rch:List Bool)(sur:List (BitVec 16))(j:Nat)(i:Ins)(l:List Nat):List Nat:=if unC rch sur j i=true then l++[j] else l
theorem qjn{rch:List Bool}{sur:List (BitVec 16)}:∀(L:List Ins) (j:Nat) (l:List Nat),qac rch sur j L l=zL (unS rch sur) j L l
 | [],_,_=>rfl
 | i::L,j,l=>qjn L (j+1) _
theorem qjs{i:Ins}{j:Nat}:∀m ∈ zN i j,j<m:=by
 intro m hm;unfold zN at hm;split at hm
 ·cases hm
 split at hm
 ·split at hm
  ·simp at hm;omega
  ·split at hm<;>(simp at hm;omega)
 ·simp at hm;omega
theorem qlk{n j:Nat}{i:Ins}:∀m ∈ kS n i j,j<m:=fun m hm=>qjs m ((List.takeWhile_sublist _).subset hm)
theorem qh1{n:Nat}{x:BitVec 16}:∀(L:List Nat) (st:List (BitVec 16)×List Bool),goM n x L st=goM n x (L.takeWhile fun m=>decide (m<n)) st
 | [],_=>rfl
 | m::L,st=>by
  rw[Qo,List.takeWhile_cons]
  by_cases h:m<n
  ·rw[if_pos h,if_pos (by simpa using h),Qo,if_pos h];exact qh1 L _
  ·rw[if_neg h,if_neg (by simpa using h)];rfl
theorem va{α:Type}{l:List α}{m j:Nat}{x d:α}(h:m<l.length):(l.set m x).getD j d=if m=j then x else l.getD j d:=by
 rw[List.getD_eq_getElem?_getD,List.getD_eq_getElem?_getD,List.getElem?_set];split
 ·rename_i e;subst e;simp[h]
 ·rfl
theorem qe3{j:Nat}:∀{L:List Nat} {r:List Bool},(∀m ∈ L,m≠j)->(mkL L r).getD j false=r.getD j false
 | [],_,_=>rfl
 | m::L,r,h=>by
  rw[Xq,qe3 (fun m hm=>h m (by simp[hm])),List.getD_eq_getElem?_getD,List.getElem?_set_ne (h m (by simp)),← List.getD_eq_getElem?_getD]
def U(st:List (BitVec 16)×List Bool)(c j:Nat):Bool:=st.2.getD j false && !(st.1.getD j 0#16).getLsbD c
theorem qri{n:Nat}{x:BitVec 16}:∀(L:List Nat) (st:List (BitVec 16)×List Bool),(∀m ∈ L,m<n)->(goM n x L st).2=mkL L st.2
 | [],_,_=>rfl
 | m::L,st,h=>by
  rw[Qo,if_pos (h m (by simp)),qri L _ (fun m hm=>h m (by simp[hm]))];rfl
theorem qrh{n c:Nat}{x:BitVec 16}:∀(L:List Nat) (st:List (BitVec 16)×List Bool) (u:List Bool),st.1.length=n->st.2.length=n->u.length=n->(∀m ∈ L,m<n)->(∀j,u.getD j false=U st c j)->
  ∀j,(if x.getLsbD c=true then u else mkL L u).getD j false=U (goM n x L st) c j
 | [],st,u,_,_,_,_,hu=>fun j=>by
  have:(if x.getLsbD c=true then u else mkL [] u)=u:=by split<;>rfl
  rw[this];exact hu j
 | m::L,st,u,h1,h2,h3,hL,hu=>fun j=>by
  have hm:=hL m (by simp);rw[Qo,if_pos hm];have ih:=qrh (c:=c) (x:=x) L (xW st.1 st.2 m x,st.2.set m true) (if x.getLsbD c=true then u else u.set m true) (by simp[xW,h1]) (by simp[h2]) (by split<;>simp[h3]) (fun m hm=>hL m (by simp[hm])) ?_ j
  ·rw[← ih,Xq];cases x.getLsbD c<;>simp
  ·intro j;unfold U xW;simp only;rw[va (by omega),va (by omega)];have hj:=hu j;unfold U at hj
   by_cases e:m=j
   ·subst e;rw[if_pos rfl,if_pos rfl];cases hr:st.2.getD m false with
    | true =>
     rw[hr] at hj;cases hx:x.getLsbD c with
     | true=>rw[if_pos rfl,if_pos rfl,BitVec.getLsbD_and,hx,Bool.and_true];exact hj
     | false=>rw[if_neg (by simp),if_pos rfl,BitVec.getLsbD_and,hx,Bool.and_false,va (by omega),if_pos rfl];rfl
    | false =>
     rw[hr] at hj;cases hx:x.getLsbD c with
     | true=>rw[if_pos rfl,if_neg (by simp),hx,hj];rfl
     | false=>rw[if_neg (by simp),if_neg (by simp),hx,va (by omega),if_pos rfl];rfl
   ·rw[if_neg e,if_neg e];split
    ·exact hj
    ·rw[va (by omega),if_neg e];exact hj
theorem Z5{k:Int}{c:Nat}(h0:0<=k)(h:k<16)(hc:c<16):(cell k).getLsbD c=decide (k=(c:Int)):=by
 have key:∀(a b:Fin 16),(cell (a.val:Int)).getLsbD b.val=decide ((a.val:Int)=(b.val:Int)):=by decide
 have:=key ⟨k.toNat,by omega⟩ ⟨c,hc⟩
 simpa[Int.toNat_of_nonneg h0] using this
theorem qeu:∀x ∈ xF,x.2.2=2->x.1=2∨x.1=3:=by decide
theorem qd2{c:Int}:qg c=2↔c=2∨c=3:=by
 constructor
 ·intro h;unfold qg at h;cases hc:qw c with
  | none=>rw[hc] at h;cases h
  | some x =>
   rw[hc] at h;obtain⟨h1,h2⟩:=xy hc;rw[← h2];exact qeu x h1 h
 ·rintro (rfl|rfl)<;>decide
theorem qpH{i:Ins}(hi:InsOk i){c:Nat}(hc:c<16):(wrM i).getLsbD c=wrC i c:=by
 unfold wrM wrC
 by_cases h:qg i.code=2
 ·have h2:=qd2.1 h;have hd:(decide (i.code=2)||decide (i.code=3))=true:=by simpa using h2
  rw[hd,Bool.true_and]
  by_cases hk:i.k<16
  ·rw[if_pos ⟨h,hk⟩,Z5 hi.k0 hk hc]
  ·rw[if_neg (fun e=>hk e.2)]
   have:¬i.k=(c:Int):=by omega
   simp[this]
 ·rw[if_neg (fun e=>h e.1)]
  have h2:¬(i.code=2∨i.code=3):=fun e=>h (qd2.2 e)
  have hd:(decide (i.code=2)||decide (i.code=3))=false:=by simpa using h2
  rw[hd];simp
theorem qpC{i:Ins}(hi:InsOk i){x:BitVec 16}{j:Nat}{l:List Nat}:X9 i x j l=if (rdC i && !x.getLsbD i.k.toNat)=true then l++[j] else l:=by
 unfold X9 rdM rdC
 by_cases h:(i.code=96∨i.code=97)∧i.k<16
 ·have hd:((decide (i.code=96)||decide (i.code=97))&&decide (i.k<16))=true:=by simpa using h
  rw[if_pos h,hd,Bool.true_and];have hk:i.k.toNat<16:=by have:=hi.k0;omega
  have hbit:=Z5 hi.k0 h.2 hk;have h0:=hi.k0;have hk':i.k=((i.k.toNat:Nat):Int):=by omega
  cases hx:x.getLsbD i.k.toNat with
  | true =>
   have hz:cell i.k &&& ~~~ x=0#16:=by
    refine BitVec.eq_of_getLsbD_eq fun c hc=>?_
    rw[BitVec.getLsbD_and,Z5 hi.k0 h.2 hc,BitVec.getLsbD_not]
    by_cases e:i.k=(c:Int)
    ·have:i.k.toNat=c:=by omega
     rw[← this,hx];simp
    ·simp[e]
   rw[if_pos hz];simp
  | false =>
   have hz:¬cell i.k &&& ~~~ x=0#16:=by
    intro e;have:=congrArg (fun z:BitVec 16=>z.getLsbD i.k.toNat) e
    simp only[BitVec.getLsbD_and,hbit,BitVec.getLsbD_not,hx] at this;rw[← hk'] at this;simp[hk] at this
   rw[if_neg hz];simp
 ·have hd:((decide (i.code=96)||decide (i.code=97))&&decide (i.k<16))=false:=by
   rw[Bool.eq_false_iff];intro e;exact h (by simpa using e)
  rw[if_neg h,hd];simp
end Go.Kc
end
section
/- The plain law: the places that read what isn't sure are the same. No condition. -/
namespace Go.Kc
def uS(n c j:Nat)(i:Ins)(u:List Bool):List Bool:=if u.getD j false=false then u else if wrC i c=true then u else mkL (kS n i j) u
theorem qlS{n c j:Nat}{i:Ins}{st:List Bool×List (BitVec 16)}:(stS n c j i st).1=uS n c j i st.1:=by
 unfold stS uS;split
 ·rfl
 split<;>rfl
theorem qdI{n c:Nat}:∀(L:List Ins) (j:Nat) (st:List Bool×List (BitVec 16)),(zL (stS n c) j L st).1=zL (uS n c) j L st.1
 | [],_,_=>rfl
 | i::L,j,st=>by
  show (zL (stS n c) (j+1) L (stS n c j i st)).1=zL (uS n c) (j+1) L (uS n c j i st.1);rw[qdI,qlS]
section
variable (p:List Ins)
def Wk0(k:Nat):WSt:=zL (stM p.length) 0 (p.take k) ([],(List.replicate p.length 0#16,List.replicate p.length false))
def Rk(k:Nat):List Bool:=zL (rcS p.length) 0 (p.take k) (st0 p.length)
def Uk(c k:Nat):List Bool:=zL (uS p.length c) 0 (p.take k) (st0 p.length)
structure InvK (k:Nat):Prop where
 l1:(x6 k (Wk0 p k).2).1.length=p.length
 l2:(x6 k (Wk0 p k).2).2.length=p.length
 r:Rk p k=(x6 k (Wk0 p k).2).2
 u:∀c,c<16->(Uk p c k).length=p.length∧∀j,(Uk p c k).getD j false=U (x6 k (Wk0 p k).2) c j
theorem qgM{k:Nat}{i:Ins}(h:p[k]?=some i):p.take (k+1)=p.take k++[i]:=by
 rw[List.take_add_one,h];rfl
theorem XC{k:Nat}(h:k<=p.length):(p.take k).length=k:=by rw[List.length_take];omega
theorem yh{σ:Type}(F:Nat->Ins->σ->σ)(st:σ){k:Nat}{i:Ins}(h:p[k]?=some i):zL F 0 (p.take (k+1)) st=F k i (zL F 0 (p.take k) st):=by
 have hk:k<=p.length:=Nat.le_of_lt (List.getElem?_eq_some_iff.1 h).1;rw[qgM p h,qd9,XC p hk]
theorem qfh{n j:Nat}:(List.replicate n false).getD j false=false:=by
 rw[List.getD_eq_getElem?_getD,List.getElem?_replicate];split<;>rfl
theorem qs1(h:0<p.length):InvK p 0:=by
 have hw:Wk0 p 0=([],(List.replicate p.length 0#16,List.replicate p.length false)):=rfl;have hs:x6 0 (Wk0 p 0).2=(xW (List.replicate p.length 0#16) (List.replicate p.length false) 0 0#16,st0 p.length):=rfl;refine⟨by rw[hs];simp[xW],by rw[hs];simp[st0],by rw[hs];rfl,fun c hc=>⟨by show (st0 p.length).length=_;simp[st0],fun j=>?_⟩⟩
 rw[hs];show (st0 p.length).getD j false=((st0 p.length).getD j false&&_);unfold st0 xW;simp only;rw[va (by simp;omega),va (by simp;omega),qfh,qfh]
 by_cases e:0=j
 ·rw[if_pos e,if_pos e];simp
 ·rw[if_neg e];rfl
theorem qgG{k:Nat}{st:List (BitVec 16)×List Bool}:x6 (k+1) st=st:=by unfold x6;rw[if_neg (by omega)]
theorem qs2{k:Nat}{i:Ins}(hi:p[k]?=some i)(hok:InsOk i)(I:InvK p k):InvK p (k+1):=by
 have hw:Wk0 p (k+1)=stM p.length k i (Wk0 p k):=yh p _ _ hi;have hr:Rk p (k+1)=rcS p.length k i (Rk p k):=yh p _ _ hi;have hu:∀c,Uk p c (k+1)=uS p.length c k i (Uk p c k):=fun c=>yh p _ _ hi
 obtain⟨l1,l2,r,u⟩:=I;obtain⟨st,hst⟩:∃st,st=x6 k (Wk0 p k).2:=⟨_,rfl⟩
 have h2:x6 (k+1) (Wk0 p (k+1)).2=if st.2.getD k false=true then goM p.length (st.1.getD k 0#16 ||| wrM i) (zN i k) st else st:=by
  rw[qgG,hw,hst];unfold stM;split<;>rfl
 rw[← hst] at l1 l2 r u;have hlt:∀m ∈ kS p.length i k,m<p.length:=qcp
 by_cases hk:st.2.getD k false=true
 ·rw[if_pos hk] at h2;have hg:goM p.length (st.1.getD k 0#16 ||| wrM i) (zN i k) st=goM p.length (st.1.getD k 0#16 ||| wrM i) (kS p.length i k) st:=qh1 _ _
  rw[hg] at h2;have hl:=qch (n:=p.length) (x:=st.1.getD k 0#16 ||| wrM i) (kS p.length i k) st
  refine⟨by rw[h2,hl.1,l1],by rw[h2,hl.2,l2],?_,fun c hc=>?_⟩
  ·rw[h2,qri _ _ hlt,hr,r];unfold rcS;rw[if_pos hk]
  ·obtain⟨u1,u2⟩:=u c hc;have hx:(st.1.getD k 0#16 ||| wrM i).getLsbD c=((st.1.getD k 0#16).getLsbD c||wrC i c):=by rw[BitVec.getLsbD_or,qpH hok hc]
   have hgo:=qrh (c:=c) (x:=st.1.getD k 0#16 ||| wrM i) (kS p.length i k) st (Uk p c k) l1 l2 u1 hlt u2
   rw[hx] at hgo;have huk:=u2 k;unfold U at huk;rw[hk,Bool.true_and] at huk
   have he:uS p.length c k i (Uk p c k)=if ((st.1.getD k 0#16).getLsbD c||wrC i c)=true then Uk p c k else mkL (kS p.length i k) (Uk p c k):=by
    unfold uS;rw[huk];cases (st.1.getD k 0#16).getLsbD c<;>cases wrC i c<;>rfl
   rw[hu,h2,he];refine⟨?_,hgo⟩;split
   ·exact u1
   ·rw[yD];exact u1
 ·rw[if_neg hk] at h2;have hkf:st.2.getD k false=false:=by simpa using hk
  refine⟨by rw[h2];exact l1,by rw[h2];exact l2,?_,fun c hc=>?_⟩
  ·rw[h2,hr,r];unfold rcS;rw[if_neg hk]
  ·obtain⟨u1,u2⟩:=u c hc;have huk:=u2 k;unfold U at huk;rw[hkf,Bool.false_and] at huk;have he:uS p.length c k i (Uk p c k)=Uk p c k:=by unfold uS;rw[if_pos huk]
   rw[hu,h2,he];exact⟨u1,u2⟩
theorem qrn(hi:∀i ∈ p,InsOk i):∀k,k<p.length->InvK p k
 | 0,h=>qs1 p h
 | k+1,h=>by
  have hk:k<p.length:=by omega
  have hpk:p[k]?=some p[k]:=List.getElem?_eq_getElem hk;exact qs2 p hpk (hi _ (List.getElem_mem hk)) (qrn hi k hk)
theorem qdF{k:Nat}{i:Ins}(h:p[k]?=some i):p=p.take k++(i::p.drop (k+1)):=by
 obtain⟨hh,he⟩:=List.getElem?_eq_some_iff.1 h;rw[← he,← List.drop_eq_getElem_cons hh,List.take_append_drop]
theorem qpa{k:Nat}{i:Ins}(h:p[k]?=some i):(QO p.length 0 p (st0 p.length)).getD k false=(Rk p k).getD k false:=by
 have hk:k<=p.length:=Nat.le_of_lt (List.getElem?_eq_some_iff.1 h).1;rw[qi5]
 have e:zL (rcS p.length) 0 p (st0 p.length)=zL (rcS p.length) k (p.drop k) (Rk p k):=by
  conv=>lhs;rw[← List.take_append_drop k p]
  rw[QZ,XC p hk,Nat.zero_add,List.take_append_drop];rfl
 rw[e];refine XN (rcS p.length) (fun r=>r.getD k false) _ _ _ fun k' i' r hk'=>?_
 show (rcS p.length k' i' r).getD k false=r.getD k false;unfold rcS;split
 ·exact qe3 fun m hm=>by have:=qlk m hm;omega
 ·rfl
theorem qpv{c k:Nat}{i:Ins}(h:p[k]?=some i)(out:List (BitVec 16))(ho:out.length=p.length) :
  (y6 p.length c 0 p (st0 p.length,out)).2.getD k 0#16=if (Uk p c k).getD k false=false then out.getD k 0#16 ||| cell c else out.getD k 0#16:=by
 have hk:k<p.length:=(List.getElem?_eq_some_iff.1 h).1;rw[qer]
 have e:zL (stS p.length c) 0 p (st0 p.length,out)=zL (stS p.length c) (k+1) (p.drop (k+1)) (stS p.length c k i (zL (stS p.length c) 0 (p.take k) (st0 p.length,out))):=by
  conv=>lhs;rw[qdF p h]
  rw[QZ,XC p (by omega),Nat.zero_add,← qdF p h];rfl
 rw[e];have h1:=XN (stS p.length c) (fun st=>st.2.getD k 0#16) (p.drop (k+1)) (k+1) (stS p.length c k i (zL (stS p.length c) 0 (p.take k) (st0 p.length,out))) ?_
 ·rw[h1];have h2:=qaM (stS p.length c) (fun st=>st.2.getD k 0#16) (p.take k) 0 (st0 p.length,out) ?_
  ·try simp only at h2
   have h3:=qdI (n:=p.length) (c:=c) (p.take k) 0 (st0 p.length,out);have h4:=QS (n:=p.length) (c:=c) (L:=p.take k) (j:=0) (st:=(st0 p.length,out));rw[qer] at h4;generalize zL (stS p.length c) 0 (p.take k) (st0 p.length,out)=st at h2 h3 h4;have h3:st.1=Uk p c k:=h3;unfold stS;rw[h3];split
   ·simp only;rw[va (by rw[h4.2,ho];exact hk),if_pos rfl,h2]
   ·split
    ·exact h2
    ·exact h2
  ·intro k' i' st _ hk';rw[Nat.zero_add,XC p (by omega)] at hk';show (stS p.length c k' i' st).2.getD k 0#16=st.2.getD k 0#16;unfold stS;split
   ·simp only;rw[List.getD_eq_getElem?_getD,List.getElem?_set_ne (by omega),← List.getD_eq_getElem?_getD]
   ·split<;>rfl
 ·intro k' i' st hk';show (stS p.length c k' i' st).2.getD k 0#16=st.2.getD k 0#16;unfold stS;split
  ·simp only;rw[List.getD_eq_getElem?_getD,List.getElem?_set_ne (by omega),← List.getD_eq_getElem?_getD]
  ·split<;>rfl
theorem qfn{k:Nat}{i:Ins}(h:p[k]?=some i){c:Nat}(hc:c<16):∀(m:Nat),m<=16->∀out:List (BitVec 16),out.length=p.length->
  ((qes p m out).getD k 0#16).getLsbD c=((out.getD k 0#16).getLsbD c||(decide (16-m<=c) && !(Uk p c k).getD k false))
 | 0,_,out,_=>by
  have:¬16-0<=c:=by omega
  simp only[this,decide_false,Bool.false_and,Bool.or_false];rfl
 | m+1,hm,out,ho=>by
  have hl:=QS (n:=p.length) (c:=16-(m+1)) (L:=p) (j:=0) (st:=(st0 p.length,out));rw[X8,qfn h hc m (by omega) _ (hl.2.trans ho),qpv p h out ho]
  have hcb:(cell ((16-(m+1):Nat):Int)).getLsbD c=decide (16-(m+1)=c):=by
   rw[Z5 (by omega) (by omega) hc]
   by_cases e:16-(m+1)=c
   ·simp[e]
   ·have:¬((16-(m+1):Nat):Int)=(c:Int):=by omega
    simp only[e,this,decide_false]
  by_cases e:16-(m+1)=c
  ·have e1:¬16-m<=c:=by omega
   have e2:16-(m+1)<=c:=by omega
   rw[e] at hcb ⊢;simp only[e1,decide_false,Bool.false_and,Bool.or_false];cases hU:(Uk p c k).getD k false with
   | true=>simp
   | false =>
    rw[if_pos rfl,BitVec.getLsbD_or,hcb];simp
  ·have e3:(decide (16-m<=c))=decide (16-(m+1)<=c):=by
    exact decide_eq_decide.2 (by omega)
   rw[e3]
   congr 1
   split
   ·rw[BitVec.getLsbD_or,hcb,decide_eq_false e,Bool.or_false]
   ·rfl
theorem qlY{k:Nat}{i:Ins}(h:p[k]?=some i){c:Nat}(hc:c<16):((qab p).getD k 0#16).getLsbD c = !(Uk p c k).getD k false:=by
 have hk:k<p.length:=(List.getElem?_eq_some_iff.1 h).1;unfold qab;rw[qfn p h hc 16 (Nat.le_refl _) _ (by simp)]
 have:(List.replicate p.length 0#16).getD k 0#16=0#16:=by
  rw[List.getD_eq_getElem?_getD,List.getElem?_replicate,if_pos hk];rfl
 rw[this];simp
theorem qdM(hi:∀i ∈ p,InsOk i):∀k,k<=p.length->(Wk0 p k).1=zL (unS (QO p.length 0 p (st0 p.length)) (qab p)) 0 (p.take k) []
 | 0,_=>rfl
 | k+1,hk1=>by
  have hk:k<p.length:=by omega
  have hpk:p[k]?=some p[k]:=List.getElem?_eq_getElem hk;have hok:=hi _ (List.getElem_mem hk);have I:=qrn p hi k hk;have hw:Wk0 p (k+1)=stM p.length k p[k] (Wk0 p k):=yh p _ _ hpk;rw[hw,yh p _ _ hpk,← qdM hi k (by omega)];unfold unS unC stM;rw[qpa p hpk,I.r];cases hr:(x6 k (Wk0 p k).2).2.getD k false with
  | false=>rfl
  | true =>
   rw[if_pos rfl,Bool.true_and];simp only;rw[qpC hok];cases hrd:rdC p[k] with
   | false=>rfl
   | true =>
    have hk16:p[k].k<16:=by unfold rdC at hrd;simp at hrd;exact hrd.2
    have h0:=hok.k0;have hc:p[k].k.toNat<16:=by omega
    have hU:=(I.u _ hc).2 k;unfold U at hU;rw[hr,Bool.true_and] at hU;rw[qlY p hpk hc,hU,Bool.not_not]
theorem qpz(hi:∀i ∈ p,InsOk i):qbv p=kY p:=by
 have h:=qdM p hi p.length (Nat.le_refl _);unfold qbv kY;rw[qjn,qmE];unfold Wk0 at h;rw[List.take_length] at h;exact h.symm
theorem qdJ:∀(m:Nat) (out:List (BitVec 16)),(qes p m out).length=out.length
 | 0,_=>rfl
 | m+1,out=>by rw[X8,qdJ m,QS.2]
theorem qr3:(qab p).length=p.length:=by unfold qab;rw[qdJ];simp
theorem qi6{n:Nat}:∀(L:List Ins) (j:Nat) (r:List Bool),(QO n j L r).length=r.length
 | [],_,_=>rfl
 | i::L,j,r=>by
  show (QO n (j+1) L _).length=_;rw[qi6 L];split
  ·rw[yD]
  ·rfl
end
end Go.Kc
end
section
/- Stacks that may be; stacks that are the same. Condition: the functions' texts are these. -/
namespace Go.Kc
variable {P:Program} {f:Nat}
structure Prg where
 dir:Int
 arch:Int
 ins:List Ins
def cPr(x:Prg):List AV:=[.i .i64 x.dir,.i .i64 x.arch,.fz x.ins.length (rP x.ins)]
theorem z8(x:Prg):(cPr x).length=3:=rfl
def rPr(l:List Prg):List AV:=l.flatMap cPr
theorem Xu(l:List Prg):(rPr l).length=l.length*3:=x9 z8 l
theorem qO(l:List Prg):qy (rPr l)=true:=ye (fun x=>by simp[cPr,qy,clo,qd])
structure PrgOk (x:Prg):Prop where
 len:x.ins.length<=4096
 ins:∀i ∈ x.ins,InsOk i
def zM:IFn:=⟨[.tmp 4],.seq (.r [.m 4 (.k 0)]) (.seq (.seq (.r [.n 6 0,.e 7 6,.m 8 (.k 0)]) (.blk 0 (.loop (.seq (.r [.s 9 8 7]) (.seq (.cond (.t 9) (.skip) (.exit 0)) (.seq (.blk 1 (.seq (.r [.n 10 8,.n 5 10]) (.seq (.r [.n 11 1,.n 12 0,.n 13 5,.i 14 3 12 13,.v 15 3 14,⟨(some 16),.callV (.t 11) [.t 15],none⟩]) (.cond (.t 16) (.seq (.r [.n 17 5,.n 4 17]) (.ret)) (.skip))))) (.r [.a 18 8 1,.n 8 18]))))))) (.seq (.r [.q 4 (.mov (.c (.i .i64 (-1))))]) (.ret)))⟩
theorem qeV(hc:qi P f zM=true):qhi 3 P f:=by
 intro α enc p g a c l hlen ha hc' hl hp;refine qc.mk hc (by simp[qy,clo,ha,hc']) ?_;simp only[zM,vI,simprocAttr];simp only[↓vS,vT,simprocAttr];refine SL.loop (α:=Nat) (fun j=>[(0,.fz l.length (l.flatMap enc)),(1,.fn g a c),(7,.i .i64 l.length),(8,.i .i64 j)]) (fun _=>[]) (fun j=>j<=l.length∧Jz p l 0=Jz p (l.drop j) j) (fun j=>l.length-j) 0 [] ?_ ?_ ?_ rfl ?_ ?_
 ·simp[vw,qa,ha,hc']
 ·trivial
 ·simp
 ·simp
 rintro j ⟨hj,hI⟩ G ih;simp only[vI,simprocAttr]
 by_cases hlt:j<l.length
 ·have hx:l[j]?=some l[j]:=List.getElem?_eq_getElem hlt;have hw:IntKind.wrap .i64 ((j:Int)+1)=(j:Int)+1:=qp (by omega) (by have:=hl;simp only[qf] at this;omega)
  have he:=qU hlen hx;have hb:j*3+3<=(l.flatMap enc).length:=by rw[x9 hlen];omega
  rw[List.drop_eq_getElem_cons hlt,Jz] at hI;simp only[↓vS,vT,simprocAttr,hlt,hb,he,hw];refine (hp l[j] (List.getElem_mem hlt)).sc ?_
  by_cases hpx:p l[j]=true
  ·rw[if_pos hpx] at hI;simp only[↓vS,vT,simprocAttr,hpx,vZ,hI]
  ·rw[if_neg hpx] at hI;simp only[↓vS,vT,simprocAttr,hpx,hw];refine ih (j+1) ⟨by omega,hI⟩ (by omega) _ _ (Wk.mk _ _ [] ?_ ?_ ?_ rfl)
   ·simp[vw,qa,ha,hc']
   ·trivial
   ·simp
 ·simp only[↓vS,vT,simprocAttr,hlt];rw[List.drop_eq_nil_of_le (by omega)] at hI;simp[hI,Jz,vZ]
theorem qbG{α:Type}(p:α->Bool):∀(l:List α) (j:Nat),decide (0<=Jz p l j)=l.any p
 | [],j=>by simp[Jz]
 | x::l,j=>by
  rw[Jz]
  by_cases h:p x=true
  ·simp[h]
  ·rw[if_neg h,qbG p l (j+1)];simp[h]
def zw(a:Nat):IFn:=⟨[.tmp 4],.seq (.r [.m 4 .F]) (.seq (.r [.n 5 0,.n 6 1,.l 7 a [.t 5,.t 6],.w 8 .geq 7 0,.n 4 8]) (.ret))⟩
theorem qhC{g:Nat}(hc:qi P f (zw g)=true)(h:qhi 3 P g)(l:List Prg)(k:Nat)(p:Prg->Bool)(hk:∀c ∈ l,qc P k [.agg (cPr c)] (.b (p c)))(hl:l.length<=qf):qc P f [.fz l.length (rPr l),.fn k [] []] (.b (l.any p)):=by
 refine qc.mk hc (by simp[qy,clo,qO]) ?_;simp only[zw,vI,simprocAttr];simp only[↓vS,vT,simprocAttr];refine (h cPr p k [] [] l z8 rfl rfl hl fun x hx=>hk x hx).sc ?_
 simp only[↓vS,vT,simprocAttr];simp[vZ,← qbG p l 0]
def wn(x:Prg):Bool:=decide ((atU x.ins (kY x.ins)).2=0)&&(if x.dir=0 then decide (x.arch=6) else decide (0<=x.dir)&&decide (x.dir<8)&&decide (0<=x.arch)&&decide (x.arch<6))
def jh(l:List Prg):Bool:=decide (l.length<=48)&&l.all wn
def yV(a:Nat):IFn:=⟨[.tmp 2],.seq (.r [.q 1 (.box (.t 0)),.m 2 .F]) (.seq (.blk 0 (.seq (.r [.f 4 0 1,.d 5 4,.w 6 .eql 5 0,.n 3 6]) (.cond (.t 3) (.seq (.r [.f 7 1 1,.d 8 7,.w 9 .eql 8 6,.n 10 9,.h 11 2 1 10 true,.j 12 11 10 true,⟨(some 13),.callF a [.t 12],(some (10,true))⟩,.g 14 (.bin .eql (.t 13) (.k 0)) 10 true,.p 15 10 14,.n 2 15]) (.ret)) (.seq (.r [.f 17 0 1,.d 18 17,.w 19 .lss 18 0,.n 20 19,.h 21 0 1 20 false,.j 22 21 20 false,.g 23 (.bin .geq (.t 22) (.k 8)) 20 false,.o 24 20 23,.n 25 24,.h 26 1 1 25 false,.j 27 26 25 false,.g 28 (.bin .lss (.t 27) (.k 0)) 25 false,.o 29 25 28,.n 30 29,.h 31 1 1 30 false,.j 32 31 30 false,.g 33 (.bin .geq (.t 32) (.k 6)) 30 false,.o 34 30 33,.n 16 34]) (.cond (.t 16) (.seq (.r [.m 2 .F]) (.ret)) (.skip)))))) (.seq (.r [.f 35 2 1,.d 36 35,.l 37 a [.t 36],.w 38 .eql 37 0,.n 2 38]) (.ret)))⟩
def Qv(a:Nat):IFn:=⟨[.tmp 2],.seq (.r [.q 1 (.box (.t 0)),.m 2 .F]) (.seq (.r [.v 3 3 1,.l 4 a [.t 3],.q 5 (.un .not (.t 4)),.n 2 5]) (.ret))⟩
def Xk(a b:Nat):IFn:=⟨[.tmp 2],.seq (.r [.m 2 .F]) (.seq (.r [.n 3 0,.e 4 3,.w 5 .leq 4 48,.n 6 5,.y 7 0 6,⟨(some 8),.callF a [.t 7,(.c (.fn b [] []))],(some (6,true))⟩,.g 9 (.un .not (.t 8)) 6 true,.p 10 6 9,.n 2 10]) (.ret))⟩
end Go.Kc
end
section
/- The document's stacks that may be, that are the same; its programs of bytes. Condition: the functions' texts are these. -/
namespace Go.Kc
variable {P:Program} {f:Nat}
def wG(a:Nat):IFn:=⟨[.tmp 2],.seq (.r [.m 2 .F]) (.seq (.seq (.r [.n 8 0,.e 9 8,.w 10 .gtr 9 48]) (.cond (.t 10) (.seq (.r [.m 2 .F]) (.ret)) (.skip))) (.seq (.seq (.r [.m 3 (.k 0)]) (.blk 0 (.loop (.seq (.seq (.r [.n 11 3,.n 12 0,.e 13 12,.s 14 11 13]) (.cond (.t 14) (.skip) (.exit 0))) (.seq (.blk 1 (.seq (.r [.n 17 0,.n 18 3,.i 19 3 17 18,.v 20 3 19,.q 4 (.alloc [.i .i64 0,.i .i64 0,.nils]),.u (.store 3 (.t 4) (.t 20))]) (.seq (.r [.f 21 0 4,.d 22 21,.w 23 .eql 22 0,.n 5 23]) (.seq (.r [.f 25 2 4,.d 26 25,.l 27 a [.t 26],.n 24 27,.x 28 24 0,.x 29 24 1,.n 6 28,.n 7 29]) (.seq (.r [.n 30 7,.w 31 .neq 30 0,.n 32 31,.h 33 0 4 32 false,.j 34 33 32 false,.g 35 (.bin .lss (.t 34) (.k 0)) 32 false,.o 36 32 35,.n 37 36,.h 38 0 4 37 false,.j 39 38 37 false,.g 40 (.bin .gtr (.t 39) (.k 7)) 37 false,.o 41 37 40,.n 42 41,.h 43 1 4 42 false,.j 44 43 42 false,.g 45 (.bin .lss (.t 44) (.k 0)) 42 false,.o 46 42 45,.n 47 46,.h 48 1 4 47 false,.j 49 48 47 false,.g 50 (.bin .gtr (.t 49) (.k 6)) 47 false,.o 51 47 50,.n 52 51,.z 53 5 52,.h 54 1 4 52 false,.j 55 54 52 false,.g 56 (.bin .eql (.t 55) (.k 6)) 52 false,.g 57 (.eqB true (.t 53) (.t 56)) 52 false,.o 58 52 57]) (.cond (.t 58) (.seq (.r [.m 2 .F]) (.ret)) (.skip))))))) (.r [.n 15 3,.a 16 15 1,.n 3 16])))))) (.seq (.r [.m 2 .T]) (.ret))))⟩
def wc:IFn:=⟨[.tmp 4],.seq (.r [.m 4 .F]) (.seq (.seq (.r [.n 6 0,.e 7 6,.n 8 1,.e 9 8,.b 10 .neq 7 9]) (.cond (.t 10) (.seq (.r [.m 4 .F]) (.ret)) (.skip))) (.seq (.seq (.r [.m 5 (.k 0)]) (.blk 0 (.loop (.seq (.seq (.r [.n 11 5,.n 12 0,.e 13 12,.s 14 11 13]) (.cond (.t 14) (.skip) (.exit 0))) (.seq (.blk 1 (.seq (.reg true [.n 17 0,.n 18 5,.i 19 4 17 18,.v 20 4 19,.n 21 1,.n 22 5,.i 23 4 21 22,.v 24 4 23,.q 25 (.eqA true [.i,.i,.i,.i] (.t 20) (.t 24))]) (.cond (.t 25) (.seq (.r [.m 4 .F]) (.ret)) (.skip)))) (.r [.n 15 5,.a 16 15 1,.n 5 16])))))) (.seq (.r [.m 4 .T]) (.ret))))⟩
def wm(a:Nat):IFn:=⟨[.tmp 4],.seq (.r [.m 4 .F]) (.seq (.seq (.r [.n 6 0,.e 7 6,.n 8 1,.e 9 8,.b 10 .neq 7 9]) (.cond (.t 10) (.seq (.r [.m 4 .F]) (.ret)) (.skip))) (.seq (.seq (.r [.m 5 (.k 0)]) (.blk 0 (.loop (.seq (.seq (.r [.n 11 5,.n 12 0,.e 13 12,.s 14 11 13]) (.cond (.t 14) (.skip) (.exit 0))) (.seq (.blk 1 (.seq (.reg true [.n 17 0,.n 18 5,.i 19 3 17 18,.f 20 0 19,.d 21 20,.n 22 1,.n 23 5,.i 24 3 22 23,.f 25 0 24,.d 26 25,.b 27 .neq 21 26,.n 28 27,.z 29 0 28,.z 30 5 28,.g 31 (.iAddrS 3 (.t 29) (.t 30)) 28 false,.h 32 1 31 28 false,.j 33 32 28 false,.z 34 1 28,.z 35 5 28,.g 36 (.iAddrS 3 (.t 34) (.t 35)) 28 false,.h 37 1 36 28 false,.j 38 37 28 false,.g 39 (.bin .neq (.t 33) (.t 38)) 28 false,.o 40 28 39,.n 41 40,.z 42 0 41,.z 43 5 41,.g 44 (.iAddrS 3 (.t 42) (.t 43)) 41 false,.h 45 2 44 41 false,.j 46 45 41 false,.z 47 1 41,.z 48 5 41,.g 49 (.iAddrS 3 (.t 47) (.t 48)) 41 false,.h 50 2 49 41 false,.j 51 50 41 false,⟨(some 52),.callF a [.t 46,.t 51],(some (41,false))⟩,.g 53 (.un .not (.t 52)) 41 false,.o 54 41 53]) (.cond (.t 54) (.seq (.r [.m 4 .F]) (.ret)) (.skip)))) (.r [.n 15 5,.a 16 15 1,.n 5 16])))))) (.seq (.r [.m 4 .T]) (.ret))))⟩
end Go.Kc
end
section
/- Stacks of bytes. Condition: the functions' texts are these. -/
namespace Go.Kc
variable {P:Program} {f:Nat}
end Go.Kc
end
section
/- The document's stacks of bytes; both ways come to the same; the law. Condition: the functions' texts are these. -/
namespace Go.Kc
variable {P:Program} {f:Nat}
end Go.Kc
end
section
/- The law StackParse. Condition: the functions' texts are these. -/
namespace Go.Kc
variable {P:Program} {f:Nat}
end Go.Kc
end
section
/- The words of data. Condition: the functions' texts are these. -/
namespace Go.Kc
variable {P:Program} {f:Nat}
def loW(x:Int):Int:=x % 4294967296
def hiW(x:Int):Int:=x / 4294967296
def y7(d:GData):List Int:=[d.ip,d.a0,d.a1,d.a2,d.a3,d.a4,d.a5]
def xH(d:GData):List Int:=d.nr::d.arch::(y7 d).flatMap fun x=>[loW x,hiW x]
structure DatOk (d:GData):Prop where
 nr0:0<=d.nr
 nr1:d.nr<=4294967295
 ar0:0<=d.arch
 ar1:d.arch<=4294967295
 wid:∀x ∈ y7 d,0<=x∧x<18446744073709551616
def yW:IFn:=⟨[.tmp 2,.tmp 3],.seq (.r [.m 2 (.c (.i .u32 0)),.m 3 (.c (.i .u32 0))]) (.seq (.r [.n 4 0,.q 5 (.cvInt .u32 (.t 4)),.n 6 0,.q 7 (.bin .shr (.t 6) (.c (.i .u64 32))),.q 8 (.cvInt .u32 (.t 7)),.n 2 5,.n 3 8]) (.ret))⟩
theorem qml(hc:qi P f yW=true)(x:Int)(h0:0<=x)(h1:x<18446744073709551616):qc P f [.i .u64 x] (.tup [.i .u32 (loW x),.i .u32 (hiW x)]):=by
 refine qc.mk hc rfl ?_;have e1:IntKind.wrap .u32 x=loW x:=rfl
 have e2:IntKind.wrap .u32 (X6 .u64 x 32)=hiW x:=by
  have:X6 .u64 x 32=x / 4294967296:=by
   show x.fdiv (2 ^ 32)=_;rw[Int.fdiv_eq_ediv_of_nonneg _ (by decide)];rfl
  rw[this];show (x / 4294967296) % 4294967296=x / 4294967296;omega
 simp only[yW,vI,simprocAttr];simp (decide:=true) only [↓vS,vT,simprocAttr,e1,e2];simp[vZ]
theorem qgz{q:IntKind}{l:List Int}:vj (rI q l)=true:=by
 unfold rI;induction l with
 | nil=>rfl
 | cons a l ih=>exact ih
def Xf:IFn:=⟨[.tmp 4],.seq (.r [.m 4 .N]) (.seq (.r [.n 5 0,.q 6 (.buildS 1 [.i .u64 0] [(0,1,(.t 5))]),.n 7 1,.q 8 (.app 1 8 true (.t 6) (.t 7)),.n 4 8]) (.ret))⟩
theorem qsf(hc:qi P f Xf=true)(x:Int)(l:List Int)(hl:l.length=6):ZD P f [.i .u64 x,.fz l.length (rI .u64 l)] (.own 0 (1+l.length)) [.cells 1 true true (rI .u64 (x::l))]:=by
 refine ZD.mk hc rfl (by simp[qeQ,qgz]) ?_;have hr1:1+l.length<=qf:=by rw[hl];decide
 have hr2:(1+l.length)*8<=qf:=by rw[hl];decide
 have hll:(rI .u64 l).length=l.length:=zB;simp only[Xf,vI,simprocAttr];have hne:¬1+l.length<=1:=by omega
 have htk:List.take l.length (rI .u64 l)=rI .u64 l:=List.take_of_length_le (by rw[zB];omega);simp (decide:=true) only [↓vS,vT,simprocAttr,hne,hr1,hr2,hll,htk,Nat.mul_one];intro _;refine⟨[1],?_⟩;simp[vw,qfe,qa,zg]
def yg(d:GData)(j:Nat):List Int:=(xH d).take (2+2*j)++List.replicate (14-2*j) 0
theorem qf1(d:GData){j:Nat}(h:j<=7):(yg d j).length=16:=by
 have:(xH d).length=16:=rfl;unfold yg;rw[List.length_append,List.length_take,List.length_replicate,this];omega
theorem qd8(d:GData){j:Nat}{x:Int}(h:(y7 d)[j]?=some x):((yg d j).set (2+2*j) (loW x)).set (3+2*j) (hiW x)=yg d (j+1):=by
 have hj:j<7:=(List.getElem?_eq_some_iff.1 h).1;have:j=0∨j=1∨j=2∨j=3∨j=4∨j=5∨j=6:=by omega
 rcases this with rfl|rfl|rfl|rfl|rfl|rfl|rfl<;>(cases h;rfl)
def qsF(P:Program)(g:Nat):Prop:=∀x:Int,0<=x->x<18446744073709551616->qc P g [.i .u64 x] (.tup [.i .u32 (loW x),.i .u32 (hiW x)])
def qsJ(P:Program)(g:Nat):Prop:=∀(x:Int) (l:List Int),l.length=6->ZD P g [.i .u64 x,.fz l.length (rI .u64 l)] (.own 0 (1+l.length)) [.cells 1 true true (rI .u64 (x::l))]
def Zk(a b:Nat):IFn:=⟨[.cell 2 16 true],.seq (.r [.q 1 (.box (.t 0)),.q 2 (.alloc [.i .u32 0,.i .u32 0,.i .u32 0,.i .u32 0,.i .u32 0,.i .u32 0,.i .u32 0,.i .u32 0,.i .u32 0,.i .u32 0,.i .u32 0,.i .u32 0,.i .u32 0,.i .u32 0,.i .u32 0,.i .u32 0])]) (.seq (.r [.f 6 0 1,.d 7 6,.f 8 1 1,.d 9 8,.q 10 (.build [.i .u32 0,.i .u32 0,.i .u32 0,.i .u32 0,.i .u32 0,.i .u32 0,.i .u32 0,.i .u32 0,.i .u32 0,.i .u32 0,.i .u32 0,.i .u32 0,.i .u32 0,.i .u32 0,.i .u32 0,.i .u32 0] [(0,1,(.t 7)),(1,1,(.t 9))]),.q 3 (.alloc [.i .u32 0,.i .u32 0,.i .u32 0,.i .u32 0,.i .u32 0,.i .u32 0,.i .u32 0,.i .u32 0,.i .u32 0,.i .u32 0,.i .u32 0,.i .u32 0,.i .u32 0,.i .u32 0,.i .u32 0,.i .u32 0]),.u (.store 16 (.t 3) (.t 10))]) (.seq (.seq (.reg true [.f 11 2 1,.d 12 11,.f 13 3 1,.q 14 (.slcA 6 1 (.t 13) none none none),.l 15 a [.t 12,.t 14],.e 16 15,.m 17 (.k 0)]) (.blk 0 (.loop (.seq (.r [.s 18 17 16]) (.seq (.cond (.t 18) (.skip) (.exit 0)) (.seq (.blk 1 (.seq (.r [.n 19 17,.i 20 1 15 17,.d 21 20,.n 4 19,.n 5 21]) (.r [.n 23 4,.q 24 (.bin .mul (.k 2) (.t 23)),.q 25 (.bin .add (.k 2) (.t 24)),.n 26 4,.q 27 (.bin .mul (.k 2) (.t 26)),.q 28 (.bin .add (.k 3) (.t 27)),.n 29 5,.l 30 b [.t 29],.n 22 30,.x 31 22 0,.x 32 22 1,.q 33 (.iAddrA 16 1 (.t 3) (.t 25)),.u (.store 1 (.t 33) (.t 31)),.q 34 (.iAddrA 16 1 (.t 3) (.t 28)),.u (.store 1 (.t 34) (.t 32))]))) (.r [.a 35 17 1,.n 17 35]))))))) (.seq (.r [.v 36 16 3,.u (.store 16 (.t 2) (.t 36))]) (.ret))))⟩
theorem qpQ{g1 g2:Nat}(hc:qi P f (Zk g1 g2)=true)(h1:qsJ P g1)(h2:qsF P g2)(d:GData)(hd:DatOk d):qc P f [.agg (qE d)] (.agg (rI .u32 (xH d))):=by
 refine qc.mk hc rfl ?_;simp only[Zk,qE,vI,simprocAttr];simp (decide:=true) only [↓vS,vT,simprocAttr];refine zm ?_;simp (decide:=true) only [↓vS,vT,simprocAttr];refine (h1 d.ip [d.a0,d.a1,d.a2,d.a3,d.a4,d.a5] rfl).pc (vs:=[.i .u64 d.ip,.sl 0 3 6 6 false]) ?_ ?_
 ·refine .cons _ _ _ _ (.i _ _) (.cons _ _ _ _ (Frz.cut 1 rfl (Nat.le_refl _) ?_) .nil);simp[vP,Tr.get_set,vZ,rI]
 simp only[vJ,simprocAttr,zx zg];simp (decide:=true) only [↓vS,vT,simprocAttr]
 refine SL.loop (α:=Nat) (fun j=>[(2,.ptr 0 0),(3,.ptr 1 0),(15,.own 2 7),(16,.i .i64 7),(17,.i .i64 (j:Int))]) (fun j=>[.cells 0 true false [.i .u32 0,.i .u32 0,.i .u32 0,.i .u32 0,.i .u32 0,.i .u32 0,.i .u32 0,.i .u32 0,.i .u32 0,.i .u32 0,.i .u32 0,.i .u32 0,.i .u32 0,.i .u32 0,.i .u32 0,.i .u32 0],.cells 0 true false (rI .u32 (yg d j)),.cells 1 true true (rI .u64 (y7 d))])
  (fun j=>j<=7) (fun j=>7-j) 0 [1,2,3] ?_ ?_ ?_ rfl ?_ ?_
 ·simp[vw]
 ·simp[vw,yg,xH,y7,rI]
 ·simp
 ·exact Nat.zero_le _
 rintro j hj G ih;simp only[vI,simprocAttr]
 by_cases hlt:j<7
 ·have hlt':(j:Int)<7:=by omega
  obtain⟨x,hx⟩:∃x,(y7 d)[j]?=some x:=⟨_,List.getElem?_eq_getElem (show j<(y7 d).length from hlt)⟩
  have hxr:=hd.wid x (List.mem_of_getElem? hx);have hl:=qf1 d hj;have hnx:=qd8 d hx;have w1:IntKind.wrap .i64 (2*(j:Int))=((2*j:Nat):Int):=by rw[qp (by omega) (by omega)];omega
  have w2:IntKind.wrap .i64 (2+((2*j:Nat):Int))=((2+2*j:Nat):Int):=by rw[qp (by omega) (by omega)];omega
  have w3:IntKind.wrap .i64 (3+((2*j:Nat):Int))=((3+2*j:Nat):Int):=by rw[qp (by omega) (by omega)];omega
  have w4:IntKind.wrap .i64 ((j:Int)+1)=((j+1:Nat):Int):=by rw[qp (by omega) (by omega)];omega
  simp (decide:=true) only [↓vS,vT,simprocAttr,hlt',hlt,Nat.mul_one,X0,hx,Option.map_some,w1,w2,w3];refine (h2 x hxr.1 hxr.2).sc ?_;have hA:2+2*j<(yg d j).length:=by omega
  have hB:3+2*j<((yg d j).set (2+2*j) (loW x)).length:=by simp;omega
  have s1:=ZT (k:=.u32) hA (loW x);have s2:=ZT (k:=.u32) hB (hiW x);rw[hnx] at s2;have k1:2+2*j<16:=by omega
  have k2:3+2*j<16:=by omega
  have k3:2+2*j+1<=(rI .u32 (yg d j)).length:=by rw[zB];omega
  have k4:3+2*j+1<=(rI .u32 ((yg d j).set (2+2*j) (loW x))).length:=by rw[zB];omega
  simp (decide:=true) only [↓vS,vT,simprocAttr,k1,k2,k3,k4,s1,s2,Nat.mul_one,w4];refine ih (j+1) hlt (by omega) _ _ (Wk.mk _ _ [0,1,2] ?_ ?_ ?_ rfl)
  ·simp[vw]
  ·simp[vw,qa,zg]
  ·simp
 ·obtain rfl:j=7:=by omega
  have h16:16<=(rI .u32 (yg d 7)).length:=Nat.le_refl 16;have ht:List.take 16 (List.drop 0 (rI .u32 (yg d 7)))=rI .u32 (xH d):=rfl;have hlen:(rI .u32 (xH d)).length=16:=rfl;have hfd:yg d 7=xH d:=rfl;have ht2:List.take 16 (rI .u32 (xH d))=rI .u32 (xH d):=rfl;rw[hfd];simp (decide:=true) only [↓vS,vT,simprocAttr,h16,ht2,hlen,qi1];simp[vZ,vP,Tr.get_set,qY zg]
def qbr(d:GData)(k:Int):AV:=if k % 4≠0∨64<=k then .tup [.i .u32 0,.i .i64 41] else .tup [.i .u32 ((xH d).getD (k / 4).toNat 0),.i .i64 0]
def Xe(a:Nat):IFn:=⟨[.tmp 4,.tmp 5],.seq (.r [.q 2 (.box (.t 0)),.m 4 (.c (.i .u32 0)),.m 5 (.k 0)]) (.seq (.seq (.r [.n 6 1,.q 7 (.bin .rem (.t 6) (.c (.i .u32 4))),.q 8 (.bin .neq (.t 7) (.c (.i .u32 0))),.n 9 8,.z 10 1 9,.g 11 (.bin .geq (.t 10) (.c (.i .u32 64))) 9 false,.o 12 9 11]) (.cond (.t 12) (.seq (.r [.m 4 (.c (.i .u32 0)),.m 5 (.k 41)]) (.ret)) (.skip))) (.seq (.r [.v 13 9 2,.l 14 a [.t 13],.n 15 1,.q 16 (.bin .quo (.t 15) (.c (.i .u32 4))),.q 17 (.idxA 16 1 false (.t 14) (.t 16)),.n 4 17,.m 5 (.k 0)]) (.ret)))⟩
theorem qq6{g:Nat}(hc:qi P f (Xe g)=true)(hg:∀d,DatOk d->qc P g [.agg (qE d)] (.agg (rI .u32 (xH d))))(d:GData)(hd:DatOk d)(k:Int)(h0:0<=k)(h1:k<=4294967295):qc P f [.agg (qE d),.i .u32 k] (qbr d k):=by
 refine qc.mk hc rfl ?_;have h40:(4:Int)≠0:=by decide
 have ht:k.tmod 4=k % 4:=Int.tmod_eq_emod_of_nonneg h0;have hq:k.tdiv 4=k / 4:=Int.tdiv_eq_ediv_of_nonneg h0;have hg:=hg d hd;unfold qbr;simp only[Xe,qE,vI,simprocAttr] at hg ⊢
 by_cases hm:k % 4=0
 ·by_cases hb:64<=k
  ·rw[if_pos (.inr hb)];simp (decide:=true) only [↓vS,vT,simprocAttr,↓zT h40,ht,hm,hb];simp[vZ]
  ·rw[if_neg (by omega)];have hn:(k / 4).toNat<16:=by omega
   obtain⟨x,hx⟩:∃x,(xH d)[(k / 4).toNat]?=some x:=⟨_,List.getElem?_eq_getElem hn⟩;rw[List.getD_eq_getElem?_getD,hx];have hk:k / 4=(((k / 4).toNat:Nat):Int):=by omega
   have hw:IntKind.wrap .u32 (k / 4)=(((k / 4).toNat:Nat):Int):=by
    show (k / 4) % 4294967296=_;omega
   simp (decide:=true) only [↓vS,vT,simprocAttr,↓zT h40,ht,hm,hb];refine hg.sc ?_;generalize xH d=W at hx;simp (decide:=true) only [↓vS,vT,simprocAttr,↓zp h40,hq,hw,hn,Nat.mul_one,X0,hx,Option.map_some];simp[vZ]
 ·rw[if_pos (.inl hm)];simp (decide:=true) only [↓vS,vT,simprocAttr,↓zT h40,ht,hm];simp[vZ]
end Go.Kc
end
section
/- The words of data, as the document has them. Condition: the functions' texts are these. -/
namespace Go.Kc
variable {P:Program} {f:Nat}
def qM:Nat->Int->List Int
 | 0,_=>[]
 | n+1,x=>x % 256::qM n (x / 256)
theorem qG:∀(n:Nat) (x:Int),(qM n x).length=n
 | 0,_=>rfl
 | n+1,x=>by show (qM n (x / 256)).length+1=n+1;rw[qG]
theorem qfa:∀(n:Nat) (x:Int),v5 (qM n x)
 | 0,_=>fun _ h=>by cases h
 | n+1,x=>fun y hy=>by
  rcases List.mem_cons.1 hy with rfl|hy
  ·omega
  ·exact qfa n _ y hy
theorem qii{w:Int}(h0:0<=w)(h1:w<=4294967295):leM (qM 4 w)=w:=by
 simp only[qM,leM];omega
theorem qo3{x:Int}(h0:0<=x)(h1:x<18446744073709551616):qM 8 x=qM 4 (loW x)++qM 4 (hiW x):=by
 simp only[qM,loW,hiW,List.cons_append,List.nil_append,List.cons.injEq,and_true];refine⟨?_,?_,?_,?_,?_,?_,?_,?_⟩<;>omega
def yv(d:GData):List Int:=(xH d).flatMap (qM 4)
theorem qfF{d:GData}(hd:DatOk d):yv d=qM 4 d.nr++qM 4 d.arch++(y7 d).flatMap (qM 8):=by
 have h:∀l:List Int,(∀x ∈ l,0<=x∧x<18446744073709551616)->(l.flatMap fun x=>[loW x,hiW x]).flatMap (qM 4)=l.flatMap (qM 8):=by
  intro l
  induction l with
  | nil=>intro _;rfl
  | cons x l ih =>
   intro hl;have hx:=hl x (by simp);simp only[List.flatMap_cons,List.flatMap_append,List.flatMap_nil,List.append_nil,List.append_assoc];rw[qo3 hx.1 hx.2,ih (fun y hy=>hl y (by simp[hy])),List.append_assoc]
 unfold yv xH;simp only[List.flatMap_cons];rw[h _ hd.wid,List.append_assoc]
theorem qc8{l:List Int}{j:Nat}{x:Int}(h:l[j]?=some x):y5 (l.flatMap (qM 4)) (4*j) 4=qM 4 x:=by
 unfold y5
 induction l generalizing j with
 | nil=>cases h
 | cons a l ih =>
  cases j with
  | zero =>
   cases h;rw[List.flatMap_cons,Nat.mul_zero,List.drop_zero,List.take_append_of_le_length (by rw[qG];exact Nat.le_refl _),List.take_of_length_le (by rw[qG];exact Nat.le_refl _)]
  | succ j =>
   rw[List.flatMap_cons,List.drop_append,qG,List.drop_eq_nil_of_le (by rw[qG];omega),List.nil_append,show 4*(j+1)-4=4*j from by omega]
   exact ih (by simpa using h)
theorem qav(d:GData):(yv d).length=64:=rfl
theorem qbT:∀(n:Nat) (x:Int),qM (n+1) x=qM n x++[x / 256 ^ n % 256]
 | 0,x=>by simp[qM]
 | n+1,x=>by
  show x % 256::qM (n+1) (x / 256)=x % 256::(qM n (x / 256)++_);rw[qbT n,Int.ediv_ediv_of_nonneg (by decide),show (256:Int)*256 ^ n=256 ^ (n+1) from by rw[Int.pow_succ];exact Int.mul_comm _ _]
def x4(n j:Nat)(x:Int):List Int:=qM j x++List.replicate (n-j) 0
theorem yf{n j:Nat}{x:Int}(h:j<=n):(x4 n j x).length=n:=by unfold x4;rw[List.length_append,qG,List.length_replicate];omega
theorem XK{n j:Nat}{x:Int}(h:j<n):(x4 n j x).set j (x / 256 ^ j % 256)=x4 n (j+1) x:=by
 unfold x4;rw[List.set_append_right _ _ (by rw[qG];exact Nat.le_refl _),qG,Nat.sub_self,qbT,show n-j=(n-(j+1))+1 from by omega,List.replicate_succ,List.append_assoc]
 rfl
theorem qpc(n:Nat):(List.replicate n [AV.i .u8 0]).flatten=rB (x4 n 0 0):=by
 unfold x4;simp only[qM,List.nil_append,Nat.sub_zero]
 induction n with
 | zero=>rfl
 | succ n ih=>rw[List.replicate_succ,List.replicate_succ,List.flatten_cons,ih];rfl
def wD:IFn:=⟨[.tmp 4],.seq (.r [.m 4 .N]) (.seq (.r [.n 7 1,.q 8 (.mkS 1 1 [.i .u8 0] (.t 7) (.t 7)),.n 5 8]) (.seq (.seq (.r [.m 6 (.k 0)]) (.blk 0 (.loop (.seq (.seq (.r [.n 9 6,.n 10 1,.s 11 9 10]) (.cond (.t 11) (.skip) (.exit 0))) (.seq (.blk 1 (.seq (.r [.n 14 5,.n 15 6,.n 16 0,.q 17 (.bin .rem (.t 16) (.c (.i .u64 256))),.q 18 (.cvInt .u8 (.t 17)),.i 19 1 14 15,.u (.store 1 (.t 19) (.t 18))]) (.r [.n 20 0,.q 21 (.bin .quo (.t 20) (.c (.i .u64 256))),.n 0 21]))) (.r [.n 12 6,.a 13 12 1,.n 6 13])))))) (.seq (.r [.n 22 5,.n 4 22]) (.ret))))⟩
theorem qtj(hc:qi P f wD=true)(x:Int)(h0:0<=x)(h1:x<18446744073709551616)(n:Nat)(hn:n<=8):Own P f [.i .u64 x,.i .i64 n] (.sl 0 0 n n false) [.cells 0 true false (rB (qM n x))]:=by
 refine Own.mk hc rfl ?_;have hr1:n<=qf:=by simp only[qf];omega
 have hr3:1*n<=qf:=by simp only[qf];omega
 simp only[wD,vI,simprocAttr];simp (decide:=true) only [↓vS,vT,simprocAttr,hr1,hr3,qpc];have h256:(256:Int)≠0:=by decide
 refine SL.loop (α:=Nat) (fun j=>[(0,.i .u64 (x / 256 ^ j)),(1,.i .i64 (n:Int)),(5,.sl 0 0 n n false),(6,.i .i64 (j:Int))]) (fun j=>[.cells 0 true false (rB (x4 n j x))]) (fun j=>j<=n) (fun j=>n-j) 0 [0] ?_ ?_ ?_ rfl ?_ ?_
 ·simp[vw]
 ·simp[vw,qa,qF,x4,qM]
 ·simp
 ·exact Nat.zero_le _
 rintro j hj G ih;simp only[vI,simprocAttr]
 by_cases hlt:j<n
 ·have y0:0<=x / 256 ^ j:=Int.ediv_nonneg h0 (Int.le_of_lt (Int.pow_pos (by decide)));have y1:x / 256 ^ j<18446744073709551616:=Int.lt_of_le_of_lt (Int.ediv_le_self _ h0) h1;have hyn:x / 256 ^ j / 256=x / 256 ^ (j+1):=by rw[Int.ediv_ediv_of_nonneg (Int.le_of_lt (Int.pow_pos (by decide))),Int.pow_succ]
  have hst:=ZT (k:=.u8) (L:=x4 n j x) (j:=j) (by rw[yf hj];exact hlt) (x / 256 ^ j % 256);rw[XK hlt] at hst;have hle:j+1<=(rB (x4 n j x)).length:=by rw[xD,yf hj];exact hlt
  have ih2:=ih (j+1) hlt (by omega);rw[← hyn] at ih2;generalize x / 256 ^ j=y at y0 y1 hst ih2;have hst:(rB (x4 n j x)).take j++(AV.i .u8 (y % 256)::(rB (x4 n j x)).drop (j+1))=rB (x4 n (j+1) x):=hst;have hm:y.tmod 256=y % 256:=Int.tmod_eq_emod_of_nonneg y0;have hd:y.tdiv 256=y / 256:=Int.tdiv_eq_ediv_of_nonneg y0;have hw8:IntKind.wrap .u8 (y % 256)=y % 256:=by show (y % 256) % 256=_;omega
  have hwd:IntKind.wrap .u64 (y / 256)=y / 256:=by show (y / 256) % 18446744073709551616=_;omega
  have w1:IntKind.wrap .i64 ((j:Int)+1)=((j+1:Nat):Int):=by rw[qp (by omega) (by omega)];omega
  simp (decide:=true) only [↓vS,vT,simprocAttr,hlt,↓zT h256,↓zp h256,hm,hd,hw8,hwd,Nat.mul_one,hle,hst,w1];refine ih2 _ _ (Wk.mk _ _ [0] ?_ ?_ ?_ rfl)
  ·simp[vw]
  ·simp[vw,qa,qF]
  ·simp
 ·obtain rfl:j=n:=by omega
  simp (decide:=true) only [↓vS,vT,simprocAttr,hlt];have hf:x4 j j x=qM j x:=by unfold x4;rw[Nat.sub_self];exact List.append_nil _
  rw[hf];intro _;refine⟨[0],?_⟩;simp[vw,qa,qF]
end Go.Kc
end
section
/- The document's words of data. Condition: the functions' texts are these. -/
namespace Go.Kc
variable {P:Program} {f:Nat}
def qdZ(P:Program)(g:Nat):Prop:=∀x:Int,0<=x->x<18446744073709551616->∀n:Nat,n<=8->Own P g [.i .u64 x,.i .i64 n] (.sl 0 0 n n false) [.cells 0 true false (rB (qM n x))]
def jS(a:Nat):IFn:=⟨[.tmp 2],.seq (.r [.q 1 (.box (.t 0)),.m 2 .N]) (.seq (.r [.f 5 0 1,.d 6 5,.q 7 (.cvInt .u64 (.t 6)),.l 8 a [.t 7,.k 4],.n 3 8]) (.seq (.r [.n 9 3,.f 10 1 1,.d 11 10,.q 12 (.cvInt .u64 (.t 11)),.l 13 a [.t 12,.k 4],.q 14 (.app 1 1 true (.t 9) (.t 13)),.n 3 14]) (.seq (.r [.n 15 3,.f 16 2 1,.d 17 16,.l 18 a [.t 17,.k 8],.q 19 (.app 1 1 true (.t 15) (.t 18)),.n 3 19]) (.seq (.seq (.r [.m 4 (.k 0)]) (.blk 0 (.loop (.seq (.seq (.r [.n 20 4,.w 21 .lss 20 6]) (.cond (.t 21) (.skip) (.exit 0))) (.seq (.blk 1 (.r [.n 24 3,.n 25 4,.f 26 3 1,.q 27 (.iAddrA 6 1 (.t 26) (.t 25)),.d 28 27,.l 29 a [.t 28,.k 8],.q 30 (.app 1 1 true (.t 24) (.t 29)),.n 3 30])) (.r [.n 22 4,.a 23 22 1,.n 4 23])))))) (.seq (.r [.n 31 3,.n 2 31]) (.ret))))))⟩
theorem qst{g:Nat}(hc:qi P f (jS g)=true)(hg:qdZ P g)(d:GData)(hd:DatOk d):qc P f [.agg (qE d)] (.fz 64 (rB (yv d))):=by
 refine qc.mk hc rfl ?_;have q1:=hd.nr0;have q2:=hd.nr1;have q3:=hd.ar0;have q4:=hd.ar1;have w1:IntKind.wrap .u64 d.nr=d.nr:=by show d.nr % 18446744073709551616=_;omega
 have w2:IntKind.wrap .u64 d.arch=d.arch:=by show d.arch % 18446744073709551616=_;omega
 have hip:=hd.wid d.ip (by simp[y7]);have tk:∀n x,List.take n (rB (qM n x))=rB (qM n x):=fun n x=>List.take_of_length_le (by rw[xD,qG];exact Nat.le_refl _)
 simp only[jS,qE,vI,simprocAttr];simp (decide:=true) only [↓vS,vT,simprocAttr,w1];refine (hg d.nr q1 (by omega) 4 (by omega)).sc ?_;simp only[vJ,simprocAttr,zx (qF _)];simp (decide:=true) only [↓vS,vT,simprocAttr,w2];refine (hg d.arch q3 (by omega) 4 (by omega)).sc ?_;simp only[vJ,simprocAttr,zx (qF _)];simp (decide:=true) only [↓vS,vT,simprocAttr,xD,qG,tk];have rBo:∀a:List Int,qK (rB a)=true:=fun a=>qi1
 have rBa:∀a b:List Int,rB a++rB b=rB (a++b):=fun a b=>ZS
 refine (hg d.ip hip.1 hip.2 8 (by omega)).sc ?_;simp only[vJ,simprocAttr,zx (qF _),rBa];have hl8:(qM 4 d.nr++qM 4 d.arch).length=8:=by rw[List.length_append,qG,qG]
 simp (decide:=true) only [↓vS,vT,simprocAttr,xD,qG,hl8,rBa,tk,rBo,Nat.mul_one]
 refine SL.loop (α:=Nat) (fun j=>[(1,.ptr 0 0),(3,.own 1 (16+8*j)),(4,.i .i64 (j:Int))]) (fun j=>[.cells 0 true false (qE d),.cells 1 true true (rB (qM 4 d.nr++qM 4 d.arch++qM 8 d.ip++((y7 d).drop 1 |>.take j).flatMap (qM 8)))])
  (fun j=>j<=6) (fun j=>6-j) 0 [0,5] ?_ ?_ ?_ rfl ?_ ?_
 ·simp[vw]
 ·simp[vw,qE,qa,qF]
 ·simp
 ·exact Nat.zero_le _
 rintro j hj G ih;simp only[vI,simprocAttr]
 by_cases hlt:j<6
 ·have hlt':(j:Int)<6:=by omega
  obtain⟨x,hx,hc3⟩:∃x,((y7 d).drop 1)[j]?=some x∧(qE d)[3+j]?=some (.i .u64 x):=by
   have:j=0∨j=1∨j=2∨j=3∨j=4∨j=5:=by omega
   rcases this with rfl|rfl|rfl|rfl|rfl|rfl<;>exact⟨_,rfl,rfl⟩
  have hxr:=hd.wid x (List.mem_of_mem_drop (List.mem_of_getElem? hx));have htk:((y7 d).drop 1).take (j+1)=((y7 d).drop 1).take j++[x]:=by rw[List.take_add_one,hx];rfl
  have w4:IntKind.wrap .i64 ((j:Int)+1)=((j+1:Nat):Int):=by rw[qp (by omega) (by omega)];omega
  have ih2:=ih (j+1) hlt (by omega);rw[htk,List.flatMap_append,← List.append_assoc] at ih2
  have hfl:∀l:List Int,(l.flatMap (qM 8)).length=8*l.length:=by
   intro l
   induction l with
   | nil=>rfl
   | cons a l ih=>rw[List.flatMap_cons,List.length_append,qG,ih,List.length_cons];omega
  have hll:(((y7 d).drop 1).take j).length=j:=by rw[List.length_take];simp[y7];omega
  obtain⟨A,hA⟩:∃A,A=qM 4 d.nr++qM 4 d.arch++qM 8 d.ip++(((y7 d).drop 1).take j).flatMap (qM 8):=⟨_,rfl⟩;have hAl:A.length=16+8*j:=by rw[hA,List.length_append,List.length_append,List.length_append,qG,qG,qG,hfl,hll]
  rw[← hA] at ih2 ⊢;have hone:List.flatMap (qM 8) [x]=qM 8 x:=by simp
  rw[hone] at ih2;have hr1:16+8*j+8<=qf:=by simp only[qf];omega
  have hr2:(16+8*j+8)*1<=qf:=by simp only[qf];omega
  have hcc:qy (qE d)=true:=rfl;generalize hC:qE d=C at hc3 hcc ih2 ⊢;simp (decide:=true) only [↓vS,vT,simprocAttr,hlt',hlt,Nat.mul_one,hc3];refine (hg x hxr.1 hxr.2 8 (by omega)).sc ?_;simp only[vJ,simprocAttr,zx (qF _)];simp (decide:=true) only [↓vS,vT,simprocAttr,xD,qG,hAl,rBa,tk,rBo,Nat.mul_one,hr1,hr2,w4];refine ih2 _ _ (Wk.mk _ _ [0,3] ?_ ?_ ?_ rfl)
  ·simp[vw];omega
  ·simp[vw,qa,qF,hcc]
  ·simp
 ·obtain rfl:j=6:=by omega
  have hb:yv d=qM 4 d.nr++qM 4 d.arch++qM 8 d.ip++((y7 d).drop 1 |>.take 6).flatMap (qM 8):=by
   rw[qfF hd];simp[y7]
  rw[hb];simp (decide:=true) only [↓vS,vT,simprocAttr];simp[vZ,vP,Tr.get_set,qY (qF _)]
def wd(a b:Nat):IFn:=⟨[.tmp 4,.tmp 5],.seq (.r [.q 2 (.box (.t 0)),.m 4 (.c (.i .u32 0)),.m 5 (.k 0)]) (.seq (.seq (.r [.n 8 1,.q 9 (.bin .rem (.t 8) (.c (.i .u32 4))),.q 10 (.bin .neq (.t 9) (.c (.i .u32 0))),.n 11 10,.z 12 1 11,.g 13 (.bin .gtr (.t 12) (.c (.i .u32 60))) 11 false,.o 14 11 13]) (.cond (.t 14) (.seq (.r [.m 4 (.c (.i .u32 0)),.m 5 (.k 41)]) (.ret)) (.skip))) (.seq (.r [.v 16 9 2,.l 17 a [.t 16],.n 18 1,.q 19 (.cvInt .i64 (.t 18)),.l 20 b [.t 17,.t 19,.k 4],.n 15 20,.x 21 15 0,.x 22 15 1,.n 6 21,.n 7 22]) (.seq (.r [.n 23 6,.q 24 (.cvInt .u32 (.t 23)),.n 4 24,.m 5 (.k 0)]) (.ret))))⟩
theorem qtP{g1 g2:Nat}(hc:qi P f (wd g1 g2)=true)(h1:∀d,DatOk d->qc P g1 [.agg (qE d)] (.fz 64 (rB (yv d))))(h2:qqS P g2)(d:GData)(hd:DatOk d)(k:Int)(h0:0<=k)(hk1:k<=4294967295):qc P f [.agg (qE d),.i .u32 k] (qbr d k):=by
 refine qc.mk hc rfl ?_;have h40:(4:Int)≠0:=by decide
 have ht:k.tmod 4=k % 4:=Int.tmod_eq_emod_of_nonneg h0;have hg:=h1 d hd;unfold qbr;simp only[wd,qE,vI,simprocAttr] at hg ⊢
 by_cases hm:k % 4=0
 ·by_cases hb:60<k
  ·rw[if_pos (.inr (by omega))];simp (decide:=true) only [↓vS,vT,simprocAttr,↓zT h40,ht,hm,hb];simp[vZ]
  ·rw[if_neg (by omega)];obtain⟨j,hj⟩:∃j:Nat,k=((4*j:Nat):Int):=⟨(k / 4).toNat,by omega⟩
   have hn:j<16:=by omega
   obtain⟨x,hx⟩:∃x,(xH d)[j]?=some x:=⟨_,List.getElem?_eq_getElem hn⟩;have hjk:(k / 4).toNat=j:=by omega
   rw[hjk,List.getD_eq_getElem?_getD,hx]
   have hxr:0<=x∧x<=4294967295:=by
    have hm:=List.mem_of_getElem? hx;unfold xH at hm;rcases List.mem_cons.1 hm with rfl|hm
    ·exact⟨hd.nr0,hd.nr1⟩
    rcases List.mem_cons.1 hm with rfl|hm
    ·exact⟨hd.ar0,hd.ar1⟩
    obtain⟨y,hy,hm⟩:=List.mem_flatMap.1 hm;have:=hd.wid y hy;simp only[List.mem_cons,List.not_mem_nil,or_false] at hm;rcases hm with rfl|rfl
    ·unfold loW;omega
    ·unfold hiW;omega
   have hbo:v5 (yv d):=fun y hy=>by
    obtain⟨z,_,hz⟩:=List.mem_flatMap.1 hy;exact qfa 4 z y hz
   have hget:=h2 (yv d) hbo (by rw[qav];decide) (4*j) (by omega) 4 (by decide);unfold qkG at hget;rw[qav,if_pos (by omega),show y5 (yv d) (4*j) 4=qM 4 x from qc8 hx,qii hxr.1 hxr.2] at hget
   have hw:IntKind.wrap .i64 k=((4*j:Nat):Int):=by rw[qp (by omega) (by omega)];exact hj
   have hwx:IntKind.wrap .u32 x=x:=by show x % 4294967296=_;omega
   simp (decide:=true) only [↓vS,vT,simprocAttr,↓zT h40,ht,hm,hb];refine hg.sc ?_;simp (decide:=true) only [↓vS,vT,simprocAttr,hw];refine hget.sc ?_;simp (decide:=true) only [↓vS,vT,simprocAttr,hwx];simp[vZ]
 ·rw[if_pos (.inl hm)];simp (decide:=true) only [↓vS,vT,simprocAttr,↓zT h40,ht,hm];simp[vZ]
end Go.Kc
end
section
/- Codes whose second number is X; numbers shifted. Condition: the functions' texts are these. -/
namespace Go.Kc
variable {P:Program} {f:Nat}
def qnc(c:Int):Bool:=!decide (y8 .u16 c 8=0)
def qT(c:Int):Bool:=(decide (qg c=3)||decide (qg c=4))&&qnc c
def qif(s:List UInt8):Bool:=decide (((s.getD (s.length-1) 0).toNat:Int)=120)
theorem qmz:∀x ∈ xF,x.2.1≠[]∧(x.2.2=3∨x.2.2=4->qif x.2.1=qnc x.1):=by decide
def Zn(a:Nat):IFn:=⟨[.tmp 2],.seq (.r [.m 2 .F]) (.seq (.r [.n 6 0,.l 7 a [.t 6],.n 5 7,.x 8 5 0,.x 9 5 1,.q 3 (.alloc [.i .u16 0,.s [],.i .u8 0]),.u (.store 3 (.t 3) (.t 8)),.n 4 9]) (.seq (.r [.n 10 4,.n 11 10,.h 12 2 3 11 true,.j 13 12 11 true,.g 14 (.bin .eql (.t 13) (.c (.i .u8 3))) 11 true,.y 15 14 11,.h 16 2 3 15 false,.j 17 16 15 false,.g 18 (.bin .eql (.t 17) (.c (.i .u8 4))) 15 false,.g 19 (.pick (.t 15) .T (.t 18)) 11 true,.p 20 11 19,.n 21 20,.y 22 0 21,.g 23 (.bin .and (.t 22) (.c (.i .u16 8))) 21 true,.g 24 (.bin .neq (.t 23) (.c (.i .u16 0))) 21 true,.p 25 21 24,.n 2 25]) (.ret)))⟩
theorem qpG{g:Nat}(hc:qi P f (Zn g)=true)(hg:∀n,qc P g [.i .u16 n] (.tup [.agg (zj (qw n)),.b (zk n)]))(c:Int):qc P f [.i .u16 c] (.b (qT c)):=by
 refine qc.mk hc rfl ?_
 have hcl:(zj (qw c)).length=3∧(zj (qw c))[2]?=some (.i .u8 (qg c))∧qK (zj (qw c))=true:=by
  unfold qg;cases qw c<;>exact⟨rfl,rfl,rfl⟩
 have hk:zk c=false->qg c=0:=by unfold zk qg;cases qw c<;>simp
 have hgc:=hg c;generalize zj (qw c)=E at hcl hgc;obtain⟨he1,he2,he3⟩:=hcl;unfold qT qnc;simp only[Zn,vI,simprocAttr];simp (decide:=true) only [↓vS,vT,simprocAttr];refine hgc.sc ?_;cases hkn:zk c with
 | false =>
  have h0:=hk hkn;simp (decide:=true) only [↓vS,vT,simprocAttr,he1,he3];simp[vZ,h0]
 | true =>
  by_cases h3:qg c=3
  ·simp (decide:=true) only [↓vS,vT,simprocAttr,he1,he2,he3,h3];simp[vZ,h3]
  by_cases h4:qg c=4
  ·simp (decide:=true) only [↓vS,vT,simprocAttr,he1,he2,he3,h3,h4];simp[vZ,h4]
  ·simp (decide:=true) only [↓vS,vT,simprocAttr,he1,he2,he3,h3,h4];simp[vZ,h3,h4]
def jR(a:Nat):IFn:=⟨[.tmp 2],.seq (.r [.m 2 .F]) (.seq (.r [.n 4 0,.l 5 a [.t 4],.q 3 (.alloc [.i .u16 0,.s [],.i .u8 0]),.u (.store 3 (.t 3) (.t 5))]) (.seq (.r [.f 6 2 3,.d 7 6,.q 8 (.bin .eql (.t 7) (.c (.i .u8 3))),.n 9 8,.h 10 2 3 9 false,.j 11 10 9 false,.g 12 (.bin .eql (.t 11) (.c (.i .u8 4))) 9 false,.o 13 9 12,.n 14 13,.h 15 1 3 14 true,.j 16 15 14 true,.h 17 1 3 14 true,.j 18 17 14 true,.g 19 (.len true (.t 18)) 14 true,.g 20 (.bin .sub (.t 19) (.k 1)) 14 true,.g 21 (.idxS (.t 16) (.t 20)) 14 true,.g 22 (.bin .eql (.t 21) (.c (.i .u8 120))) 14 true,.p 23 14 22,.n 2 23]) (.ret)))⟩
theorem qsw{g:Nat}(hc:qi P f (jR g)=true)(hg:Je P g)(c:Int):qc P f [.i .u16 c] (.b (qT c)):=by
 refine qc.mk hc rfl ?_;have hgc:=hg c;unfold qT;simp only[jR,vI,simprocAttr];simp (decide:=true) only [↓vS,vT,simprocAttr];refine hgc.sc ?_;cases hcm:qw c with
 | none =>
  have h0:qg c=0:=by unfold qg;rw[hcm];rfl
  rw[h0];simp (decide:=true) only [↓vS,vT,simprocAttr,zj,zE];simp[vZ]
 | some x =>
  obtain⟨hxm,hxc⟩:=xy hcm;have hcl:qg c=x.2.2:=by unfold qg;rw[hcm];rfl
  obtain⟨hne,hlx⟩:=qmz x hxm;rw[hcl,← hxc];have hpos:0<x.2.1.length:=List.length_pos_iff.2 hne
  have hlen:x.2.1.length<=1000:=by
   have:∀y ∈ xF,y.2.1.length<=1000:=by decide
   exact this x hxm
  have hw:IntKind.wrap .i64 ((x.2.1.length:Int)-1)=((x.2.1.length-1:Nat):Int):=by rw[qp (by omega) (by omega)];omega
  obtain⟨b,hb⟩:∃b,x.2.1[x.2.1.length-1]?=some b:=⟨_,List.getElem?_eq_getElem (by omega)⟩;have hlast:qif x.2.1=decide ((b.toNat:Int)=120):=by unfold qif;rw[List.getD_eq_getElem?_getD,hb];rfl
  rw[hlast] at hlx;have hidx:x.2.1.length-1<x.2.1.length:=by omega
  obtain⟨xc,xs,xk⟩:=x;simp only at hlx hw hb hidx hpos ⊢
  by_cases h3:xk=3
  ·rw[← hlx (.inl h3)];simp (decide:=true) only [↓vS,vT,simprocAttr,zj,xt,h3,hw,hidx,hb];simp[vZ,h3]
  by_cases h4:xk=4
  ·rw[← hlx (.inr h4)];simp (decide:=true) only [↓vS,vT,simprocAttr,zj,xt,h3,h4,hw,hidx,hb];simp[vZ,h3,h4]
  ·simp (decide:=true) only [↓vS,vT,simprocAttr,zj,xt,h3,h4];simp[vZ,h3,h4]
def jw(left:Bool):Nat->Int->Int
 | 0,a=>a
 | n+1,a=>jw left n (if left=true then a*2 % 4294967296 else a / 2)
def jr:IFn:=⟨[.tmp 6],.seq (.r [.m 6 (.c (.i .u32 0))]) (.seq (.blk 0 (.loop (.seq (.seq (.r [.n 7 2,.q 8 (.bin .gtr (.t 7) (.c (.i .u32 0)))]) (.cond (.t 8) (.skip) (.exit 0))) (.seq (.blk 1 (.seq (.r [.n 11 1]) (.cond (.t 11) (.r [.n 12 0,.q 13 (.bin .mul (.t 12) (.c (.i .u32 2))),.n 0 13]) (.r [.n 14 0,.q 15 (.bin .quo (.t 14) (.c (.i .u32 2))),.n 0 15])))) (.r [.n 9 2,.q 10 (.bin .sub (.t 9) (.c (.i .u32 1))),.n 2 10]))))) (.seq (.r [.n 16 0,.n 6 16]) (.ret)))⟩
theorem qqc(hc:qi P f jr=true)(a:Int)(h0:0<=a)(h1:a<=4294967295)(left:Bool)(n:Nat)(hn:n<=31):qc P f [.i .u32 a,.b left,.i .u32 n] (.i .u32 (jw left n a)):=by
 refine qc.mk hc rfl ?_;have h2:(2:Int)≠0:=by decide
 simp only[jr,vI,simprocAttr];simp (decide:=true) only [↓vS,vT,simprocAttr];refine SL.loop (α:=Nat×Int) (fun s=>[(0,.i .u32 s.2),(1,.b left),(2,.i .u32 (s.1:Int))]) (fun _=>[]) (fun s=>s.1<=31∧0<=s.2∧s.2<=4294967295∧jw left s.1 s.2=jw left n a) (fun s=>s.1) (n,a) [] ?_ ?_ ?_ rfl ?_ ?_
 ·simp[vw]
 ·trivial
 ·simp
 ·exact⟨hn,h0,h1,rfl⟩
 rintro⟨k,b⟩ ⟨hk,b0,b1,hI⟩ G ih;simp only at hk b0 b1 hI;simp only[vI,simprocAttr]
 by_cases hz:k=0
 ·subst hz;have hI:b=jw left n a:=hI;simp (decide:=true) only [↓vS,vT,simprocAttr];simp[vZ,hI]
 ·obtain⟨k,rfl⟩:∃k',k=k'+1:=⟨k-1,by omega⟩
  have hpos:(0:Int)<((k+1:Nat):Int):=by omega
  have hw:IntKind.wrap .u32 (((k+1:Nat):Int)-1)=(k:Int):=by show (((k+1:Nat):Int)-1) % 4294967296=_;omega
  have hmul:IntKind.wrap .u32 (b*2)=b*2 % 4294967296:=rfl;have hd:b.tdiv 2=b / 2:=Int.tdiv_eq_ediv_of_nonneg b0;have hwd:IntKind.wrap .u32 (b / 2)=b / 2:=by show (b / 2) % 4294967296=_;omega
  have hI2:jw left k (if left=true then b*2 % 4294967296 else b / 2)=jw left n a:=hI
  cases left with
  | true =>
   rw[if_pos rfl] at hI2;simp (decide:=true) only [↓vS,vT,simprocAttr,hpos,hmul,hw];refine ih (k,b*2 % 4294967296) ⟨by simp only;omega,by simp only;omega,by simp only;omega,hI2⟩ (by simp only;omega) _ _ (Wk.mk _ _ [] ?_ ?_ ?_ rfl)
   ·simp[vw]
   ·trivial
   ·simp
  | false =>
   rw[if_neg (by simp)] at hI2;simp (decide:=true) only [↓vS,vT,simprocAttr,hpos,↓zp h2,hd,hwd,hw];refine ih (k,b / 2) ⟨by simp only;omega,by simp only;omega,by simp only;omega,hI2⟩ (by simp only;omega) _ _ (Wk.mk _ _ [] ?_ ?_ ?_ rfl)
   ·simp[vw]
   ·trivial
   ·simp
theorem qaV:∀(n:Nat) (a:Int),0<=a->a<=4294967295->jw true n a=a*2 ^ n % 4294967296
 | 0,a,h0,h1=>by show a=a*1 % 4294967296;omega
 | n+1,a,h0,h1=>by
  show jw true n (a*2 % 4294967296)=_;rw[qaV n _ (by omega) (by omega),Int.pow_succ,Int.mul_emod,Int.emod_emod,← Int.mul_emod,Int.mul_assoc,Int.mul_comm 2]
theorem Jn:∀(n:Nat) (a:Int),0<=a->jw false n a=a / 2 ^ n
 | 0,a,_=>by show a=a / 1;omega
 | n+1,a,h0=>by
  show jw false n (a / 2)=_;rw[Jn n _ (by omega),Int.ediv_ediv_of_nonneg (by decide),Int.pow_succ,Int.mul_comm]
end Go.Kc
end
section
/- The document's machine: loads, stores and moves. Condition: the functions' texts are these. -/
namespace Go.Kc
variable {P:Program} {f:Nat}
structure Mac where
 a:Int
 x:Int
 told:Int
 cl:List Int
 over:Bool
def u32(x:Int):Prop:=0<=x∧x<=4294967295
structure MacOk (m:Mac):Prop where
 a:u32 m.a
 x:u32 m.x
 told:u32 m.told
 len:m.cl.length=16
 cl:∀c ∈ m.cl,u32 c
def zu(m:Mac):List AV:=.i .u32 m.a :: .i .u32 m.x :: .i .u32 m.told::(rI .u32 m.cl++[.b m.over])
theorem v6{m:Mac}(h:m.cl.length=16):(zu m).length=20:=by
 show (rI .u32 m.cl++[AV.b m.over]).length+3=20;rw[List.length_append,zB,h];rfl
theorem qe{m:Mac}:qy (zu m)=true:=by
 show qy (rI .u32 m.cl++[AV.b m.over])=true;rw[zG,zg];rfl
theorem qfG{m:Mac}{k:Nat}{c:Int}(h:m.cl[k]?=some c):(zu m)[3+k]?=some (.i .u32 c):=by
 rw[show 3+k=k+3 from by omega]
 show (rI .u32 m.cl++[AV.b m.over])[k]?=_;rw[List.getElem?_append_left (by rw[zB];exact (List.getElem?_eq_some_iff.1 h).1),X0,h];rfl
theorem qfH{m:Mac}(h:m.cl.length=16):(zu m)[19]?=some (.b m.over):=by
 show (rI .u32 m.cl++[AV.b m.over])[16]?=_;rw[List.getElem?_append_right (by rw[zB,h];exact Nat.le_refl _),zB,h];rfl
theorem qfI{m:Mac}{k:Nat}(h:k<m.cl.length)(v:Int):List.take (3+k) (zu m)++(AV.i .u32 v::List.drop (3+k+1) (zu m))=zu { m with cl:=m.cl.set k v }:=by
 have e:List.take k (rI .u32 m.cl++[AV.b m.over])++(AV.i .u32 v::List.drop (k+1) (rI .u32 m.cl++[AV.b m.over]))=rI .u32 (m.cl.set k v)++[AV.b m.over]:=by
  rw[List.take_append_of_le_length (by rw[zB];omega),List.drop_append_of_le_length (by rw[zB];omega),← ZT h v,List.append_assoc];rfl
 rw[show 3+k=k+3 from by omega]
 show AV.i .u32 m.a::AV.i .u32 m.x::AV.i .u32 m.told::(List.take k (rI .u32 m.cl++[AV.b m.over])++(AV.i .u32 v::List.drop (k+1) (rI .u32 m.cl++[AV.b m.over])))=_;rw[e];rfl
def QE(i:Ins):Bool:=decide (i.code=96)||decide (i.code=97)||decide (i.code=2)||decide (i.code=3)
def wH(m:Mac)(i:Ins)(d:GData):Mac×Int :=
 if QE i=true∧15<i.k then (m,43)
 else if i.code=32 then (if i.k % 4≠0∨64<=i.k then (m,41) else ({ m with a:=(xH d).getD (i.k / 4).toNat 0 },0))
 else if i.code=128 then ({ m with a:=64 },0)
 else if i.code=129 then ({ m with x:=64 },0)
 else if i.code=0 then ({ m with a:=i.k },0)
 else if i.code=1 then ({ m with x:=i.k },0)
 else if i.code=96 then ({ m with a:=m.cl.getD i.k.toNat 0 },0)
 else if i.code=97 then ({ m with x:=m.cl.getD i.k.toNat 0 },0)
 else if i.code=2 then ({ m with cl:=m.cl.set i.k.toNat m.a },0)
 else if i.code=3 then ({ m with cl:=m.cl.set i.k.toNat m.x },0)
 else if i.code=7 then ({ m with x:=m.a },0)
 else if i.code=135 then ({ m with a:=m.x },0)
 else (m,0)
def qhn(P:Program)(g:Nat):Prop:=∀d,DatOk d->∀k:Int,0<=k->k<=4294967295->qc P g [.agg (qE d),.i .u32 k] (qbr d k)
def xB(a:Nat):IFn:=⟨[.tmp 6],.seq (.r [.q 4 (.box (.t 1)),.q 5 (.box (.t 2)),.m 6 (.k 0)]) (.seq (.r [.f 10 0 4,.d 11 10,.q 12 (.bin .eql (.t 11) (.c (.i .u16 96))),.n 13 12,.h 14 0 4 13 false,.j 15 14 13 false,.g 16 (.bin .eql (.t 15) (.c (.i .u16 97))) 13 false,.o 17 13 16,.n 18 17,.h 19 0 4 18 false,.j 20 19 18 false,.g 21 (.bin .eql (.t 20) (.c (.i .u16 2))) 18 false,.o 22 18 21,.n 23 22,.h 24 0 4 23 false,.j 25 24 23 false,.g 26 (.bin .eql (.t 25) (.c (.i .u16 3))) 23 false,.o 27 23 26,.n 7 27]) (.seq (.seq (.r [.n 28 7,.n 29 28,.h 30 3 4 29 true,.j 31 30 29 true,.g 32 (.bin .gtr (.t 31) (.c (.i .u32 15))) 29 true,.p 33 29 32]) (.cond (.t 33) (.seq (.r [.m 6 (.k 43)]) (.ret)) (.skip))) (.seq (.seq (.r [.f 34 0 4,.d 35 34]) (.blk 0 (.seq (.r [.q 37 (.bin .eql (.t 35) (.c (.i .u16 32))),.n 36 37]) (.cond (.t 36) (.seq (.r [.v 39 9 5,.f 40 3 4,.d 41 40,.l 42 a [.t 39,.t 41],.n 38 42,.x 43 38 0,.x 44 38 1,.n 8 43,.n 9 44]) (.seq (.seq (.r [.n 45 9,.w 46 .neq 45 0]) (.cond (.t 46) (.seq (.r [.n 47 9,.n 6 47]) (.ret)) (.skip))) (.r [.n 48 0,.n 49 8,.q 50 (.nilChk (.t 48)),.f 51 0 50,.u (.store 1 (.t 51) (.t 49))]))) (.seq (.r [.q 53 (.bin .eql (.t 35) (.c (.i .u16 128))),.n 52 53]) (.cond (.t 52) (.r [.n 54 0,.q 55 (.nilChk (.t 54)),.f 56 0 55,.u (.store 1 (.t 56) (.c (.i .u32 64)))]) (.seq (.r [.q 58 (.bin .eql (.t 35) (.c (.i .u16 129))),.n 57 58]) (.cond (.t 57) (.r [.n 59 0,.q 60 (.nilChk (.t 59)),.f 61 1 60,.u (.store 1 (.t 61) (.c (.i .u32 64)))]) (.seq (.r [.q 63 (.bin .eql (.t 35) (.c (.i .u16 0))),.n 62 63]) (.cond (.t 62) (.r [.n 64 0,.f 65 3 4,.d 66 65,.q 67 (.nilChk (.t 64)),.f 68 0 67,.u (.store 1 (.t 68) (.t 66))]) (.seq (.r [.q 70 (.bin .eql (.t 35) (.c (.i .u16 1))),.n 69 70]) (.cond (.t 69) (.r [.n 71 0,.f 72 3 4,.d 73 72,.q 74 (.nilChk (.t 71)),.f 75 1 74,.u (.store 1 (.t 75) (.t 73))]) (.seq (.r [.q 77 (.bin .eql (.t 35) (.c (.i .u16 96))),.n 76 77]) (.cond (.t 76) (.reg true [.n 78 0,.n 79 0,.f 80 3 4,.d 81 80,.q 82 (.nilChk (.t 79)),.f 83 3 82,.q 84 (.iAddrA 16 1 (.t 83) (.t 81)),.d 85 84,.q 86 (.nilChk (.t 78)),.f 87 0 86,.u (.store 1 (.t 87) (.t 85))]) (.seq (.r [.q 89 (.bin .eql (.t 35) (.c (.i .u16 97))),.n 88 89]) (.cond (.t 88) (.reg true [.n 90 0,.n 91 0,.f 92 3 4,.d 93 92,.q 94 (.nilChk (.t 91)),.f 95 3 94,.q 96 (.iAddrA 16 1 (.t 95) (.t 93)),.d 97 96,.q 98 (.nilChk (.t 90)),.f 99 1 98,.u (.store 1 (.t 99) (.t 97))]) (.seq (.r [.q 101 (.bin .eql (.t 35) (.c (.i .u16 2))),.n 100 101]) (.cond (.t 100) (.reg true [.n 102 0,.f 103 3 4,.d 104 103,.n 105 0,.q 106 (.nilChk (.t 105)),.f 107 0 106,.d 108 107,.q 109 (.nilChk (.t 102)),.f 110 3 109,.q 111 (.iAddrA 16 1 (.t 110) (.t 104)),.u (.store 1 (.t 111) (.t 108))]) (.seq (.r [.q 113 (.bin .eql (.t 35) (.c (.i .u16 3))),.n 112 113]) (.cond (.t 112) (.reg true [.n 114 0,.f 115 3 4,.d 116 115,.n 117 0,.q 118 (.nilChk (.t 117)),.f 119 1 118,.d 120 119,.q 121 (.nilChk (.t 114)),.f 122 3 121,.q 123 (.iAddrA 16 1 (.t 122) (.t 116)),.u (.store 1 (.t 123) (.t 120))]) (.seq (.r [.q 125 (.bin .eql (.t 35) (.c (.i .u16 7))),.n 124 125]) (.cond (.t 124) (.r [.n 126 0,.n 127 0,.q 128 (.nilChk (.t 127)),.f 129 0 128,.d 130 129,.q 131 (.nilChk (.t 126)),.f 132 1 131,.u (.store 1 (.t 132) (.t 130))]) (.seq (.r [.q 134 (.bin .eql (.t 35) (.c (.i .u16 135))),.n 133 134]) (.cond (.t 133) (.r [.n 135 0,.n 136 0,.q 137 (.nilChk (.t 136)),.f 138 1 137,.d 139 138,.q 140 (.nilChk (.t 135)),.f 141 0 140,.u (.store 1 (.t 141) (.t 139))]) (.skip))))))))))))))))))))))))) (.seq (.r [.m 6 (.k 0)]) (.ret)))))⟩
set_option maxRecDepth 8000 in
set_option maxHeartbeats 4000000 in
theorem qs8{g:Nat}(hc:qi P f (xB g)=true)(hg:qhn P g)(m:Mac)(hm:MacOk m)(i:Ins)(hi:InsOk i)(d:GData)(hd:DatOk d) :
  Upd P f [.ptr 0 0,.agg (qn i),.agg (qE d)] [.cells 0 true false (zu m)] (.i .i64 (wH m i d).2) [.cells 0 true false (zu (wH m i d).1)]:=by
 refine Upd.mk hc (by simp[xu,bnd,qn,qE]) (by simp) ?_;have hl:=v6 hm.len;have hcc:=qe (m:=m);have k0:=hi.k0;have hw:=hg d hd i.k hi.k0 hi.k1;unfold qbr at hw;unfold wH QE;simp only[qE] at hw;have g0:(zu m)[0]?=some (.i .u32 m.a):=rfl;have g1:(zu m)[1]?=some (.i .u32 m.x):=rfl;have s0:∀v:Int,AV.i .u32 v::List.drop 1 (zu m)=zu { m with a:=v }:=fun _=>rfl
 have s1:∀v:Int,List.take 1 (zu m)++(AV.i .u32 v::List.drop 2 (zu m))=zu { m with x:=v }:=fun _=>rfl
 simp only[xB,qn,qE,vI,simprocAttr];have x1:(zu m)[1]?=some (.i .u32 m.x):=rfl
 by_cases c128:i.code=128
 ·simp (decide:=true) only [↓vS,vT,simprocAttr,c128,hl,s0];intro _;refine⟨[0],?_⟩;simp[vw,qa,qe,c128]
 by_cases c129:i.code=129
 ·simp (decide:=true) only [↓vS,vT,simprocAttr,c129,hl,s1];intro _;refine⟨[0],?_⟩;simp[vw,qa,qe,c129]
 by_cases c0:i.code=0
 ·simp (decide:=true) only [↓vS,vT,simprocAttr,c0,hl,s0];intro _;refine⟨[0],?_⟩;simp[vw,qa,qe,c0]
 by_cases c1:i.code=1
 ·simp (decide:=true) only [↓vS,vT,simprocAttr,c1,hl,s1];intro _;refine⟨[0],?_⟩;simp[vw,qa,qe,c1]
 by_cases c7:i.code=7
 ·simp (decide:=true) only [↓vS,vT,simprocAttr,c7,hl,s1,g0];intro _;refine⟨[0],?_⟩;simp[vw,qa,qe,c7]
 by_cases c135:i.code=135
 ·simp (decide:=true) only [↓vS,vT,simprocAttr,c135,hl,s0,g1];intro _;refine⟨[0],?_⟩;simp[vw,qa,qe,c135]
 by_cases c32:i.code=32
 ·by_cases hb:i.k % 4≠0∨64<=i.k
  ·rw[if_pos hb] at hw;simp (decide:=true) only [↓vS,vT,simprocAttr,c32,hl];refine hw.sc ?_;simp (decide:=true) only [↓vS,vT,simprocAttr];intro _;refine⟨[0],?_⟩;simp only[c32,if_pos hb];simp[vw,qa,qe]
  ·rw[if_neg hb] at hw;simp (decide:=true) only [↓vS,vT,simprocAttr,c32,hl];refine hw.sc ?_;simp (decide:=true) only [↓vS,vT,simprocAttr,hl,s0];intro _;refine⟨[0],?_⟩;simp only[c32,if_neg hb];simp[vw,qa,qe]
 by_cases hcell:i.code=96∨i.code=97∨i.code=2∨i.code=3
 ·by_cases hb:15<i.k
  ·rcases hcell with e|e|e|e<;>(
    simp (decide:=true) only [↓vS,vT,simprocAttr,e,hb,hl];intro _;refine⟨[0],?_⟩;simp[vw,qa,qe,e,hb])
  ·have hkl:i.k.toNat<m.cl.length:=by rw[hm.len];omega
   have hk16:i.k.toNat<16:=by omega
   obtain⟨c,hcx⟩:∃c,m.cl[i.k.toNat]?=some c:=⟨_,List.getElem?_eq_getElem hkl⟩;obtain⟨n,hn⟩:∃n:Nat,i.k=(n:Int):=⟨i.k.toNat,by omega⟩
   have htn:i.k.toNat=n:=by omega
   rw[htn] at hkl hcx hk16;have gc:=qfG (m:=m) hcx;have sc:=fun v=>qfI (m:=m) hkl v
   have hle:3+n+1<=20:=by omega
   have hb':¬(15:Int)<(n:Int):=by omega
   rcases hcell with e|e|e|e
   ·simp (decide:=true) only [↓vS,vT,simprocAttr,e,hn,hb',hl];refine zm ?_;simp (decide:=true) only [↓vS,vT,simprocAttr,hl,s0,hk16,gc,Nat.mul_one];intro _;refine⟨[0],?_⟩;simp[vw,qa,qe,e,hn,hb',hcx]
   ·simp (decide:=true) only [↓vS,vT,simprocAttr,e,hn,hb',hl];refine zm ?_;simp (decide:=true) only [↓vS,vT,simprocAttr,hl,s1,hk16,gc,Nat.mul_one];intro _;refine⟨[0],?_⟩;simp[vw,qa,qe,e,hn,hb',hcx]
   ·simp (decide:=true) only [↓vS,vT,simprocAttr,e,hn,hb',hl];refine zm ?_;simp (decide:=true) only [↓vS,vT,simprocAttr,hl,g0,hk16,sc,hle,Nat.mul_one];intro _;refine⟨[0],?_⟩;simp[vw,qa,qe,e,hn,hb',hcx]
   ·simp (decide:=true) only [↓vS,vT,simprocAttr,e,hn,hb',hl];refine zm ?_;simp (decide:=true) only [↓vS,vT,simprocAttr,hl,g1,hk16,sc,hle,Nat.mul_one];intro _;refine⟨[0],?_⟩;simp[vw,qa,qe,e,hn,hb',hcx]
 ·have c96:¬i.code=96:=fun h=>hcell (.inl h)
  have c97:¬i.code=97:=fun h=>hcell (.inr (.inl h))
  have c2:¬i.code=2:=fun h=>hcell (.inr (.inr (.inl h)))
  have c3:¬i.code=3:=fun h=>hcell (.inr (.inr (.inr h)))
  simp (decide:=true) only [↓vS,vT,simprocAttr,c128,c129,c0,c1,c7,c135,c32,c96,c97,c2,c3];intro _;refine⟨[0],?_⟩;simp[vw,qa,qe,c128,c129,c0,c1,c7,c135,c32,c96,c97,c2,c3]
end Go.Kc
end
