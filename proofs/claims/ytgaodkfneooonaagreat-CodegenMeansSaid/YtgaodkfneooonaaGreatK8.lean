/- Part 8 of the abstract machine and of the functions' walks. Conditions: with each theorem. -/
import Derived.Test.YtgaodkfneooonaaGreatK7
set_option maxHeartbeats 4000000
set_option linter.unusedSectionVars false
set_option linter.unusedSimpArgs false
set_option linter.unusedVariables false
set_option linter.unnecessarySimpa false
section
namespace Go.Kc
variable {P:Program} {f:Nat}
def spN:List (List UInt8):=[[108,100,97,98,115],[108,100,109],[108,100,120,109],[115,116],[115,116,120],[100,105,118],[108,115,104],[114,115,104],[106,97]]
def spC:List Int:=[32,96,97,2,3,52,100,116,5]
theorem qrw:∀x ∈ jL,spC.contains x.1=false->spN.contains x.2.1=false∧x.2.1≠[]∧x.2.2≠2:=by decide
theorem qec{c:Int}{x:Int×List UInt8×Int}(h:qC c=some x):x ∈ jL∧x.1=c:=by
 unfold qC at h;have h1:=List.mem_of_find?_eq_some h;have h2:=List.find?_some h;exact⟨h1,by simpa using h2⟩
def qb2(a:Nat):IFn:=⟨[.tmp 4],.seq (.r [.q 2 (.box (.t 0)),.m 4 (.k 0)]) (.seq (.seq (.r [.n 6 1,.w 7 .lss 6 0]) (.cond (.t 7) (.r [.m 1 (.k 0)]) (.skip))) (.seq (.r [.f 8 0 2,.d 9 8,.l 10 a [.t 9],.q 5 (.alloc [.i .u16 0,.s [],.i .u8 0]),.u (.store 3 (.t 5) (.t 10))]) (.seq (.seq (.r [.f 11 1 5,.d 12 11,.q 13 (.bin .eql (.t 12) (.c (.s [])))]) (.cond (.t 13) (.seq (.r [.m 4 (.k 40)]) (.ret)) (.skip))) (.seq (.seq (.r [.f 14 1 5,.d 15 14]) (.blk 0 (.seq (.r [.q 17 (.bin .eql (.t 15) (.c (.s [108,100,97,98,115]))),.n 16 17]) (.cond (.t 16) (.seq (.r [.f 18 3 2,.d 19 18,.q 20 (.bin .gtr (.t 19) (.c (.i .u32 60))),.n 21 20,.h 22 3 2 21 false,.j 23 22 21 false,.g 24 (.bin .rem (.t 23) (.c (.i .u32 4))) 21 false,.g 25 (.bin .gtr (.t 24) (.c (.i .u32 0))) 21 false,.o 26 21 25]) (.cond (.t 26) (.seq (.r [.m 4 (.k 41)]) (.ret)) (.skip))) (.seq (.seq (.r [.q 28 (.bin .eql (.t 15) (.c (.s [108,100,109]))),.n 27 28]) (.cond (.t 27) (.skip) (.seq (.r [.q 29 (.bin .eql (.t 15) (.c (.s [108,100,120,109]))),.n 27 29]) (.cond (.t 27) (.skip) (.seq (.r [.q 30 (.bin .eql (.t 15) (.c (.s [115,116]))),.n 27 30]) (.cond (.t 27) (.skip) (.r [.q 31 (.bin .eql (.t 15) (.c (.s [115,116,120]))),.n 27 31]))))))) (.cond (.t 27) (.seq (.r [.f 32 3 2,.d 33 32,.q 34 (.bin .gtr (.t 33) (.c (.i .u32 15)))]) (.cond (.t 34) (.seq (.r [.m 4 (.k 43)]) (.ret)) (.skip))) (.seq (.r [.q 36 (.bin .eql (.t 15) (.c (.s [100,105,118]))),.n 35 36]) (.cond (.t 35) (.seq (.r [.f 37 3 2,.d 38 37,.q 39 (.bin .eql (.t 38) (.c (.i .u32 0)))]) (.cond (.t 39) (.seq (.r [.m 4 (.k 44)]) (.ret)) (.skip))) (.seq (.seq (.r [.q 41 (.bin .eql (.t 15) (.c (.s [108,115,104]))),.n 40 41]) (.cond (.t 40) (.skip) (.r [.q 42 (.bin .eql (.t 15) (.c (.s [114,115,104]))),.n 40 42]))) (.cond (.t 40) (.seq (.r [.f 43 3 2,.d 44 43,.q 45 (.bin .gtr (.t 44) (.c (.i .u32 31)))]) (.cond (.t 45) (.seq (.r [.m 4 (.k 45)]) (.ret)) (.skip))) (.seq (.r [.q 47 (.bin .eql (.t 15) (.c (.s [106,97]))),.n 46 47]) (.cond (.t 46) (.seq (.seq (.r [.f 48 3 2,.d 49 48,.q 50 (.cvInt .i64 (.t 49)),.n 51 1,.b 52 .geq 50 51]) (.cond (.t 52) (.seq (.r [.m 4 (.k 42)]) (.ret)) (.skip))) (.seq (.r [.m 4 (.k 0)]) (.ret))) (.skip))))))))))))) (.seq (.seq (.r [.f 53 2 5,.d 54 53,.q 55 (.bin .eql (.t 54) (.c (.i .u8 4))),.n 56 55,.h 57 1 2 56 true,.j 58 57 56 true,.g 59 (.cvInt .i64 (.t 58)) 56 true,.y 60 1 56,.g 61 (.bin .geq (.t 59) (.t 60)) 56 true,.y 62 61 56,.h 63 2 2 62 false,.j 64 63 62 false,.g 65 (.cvInt .i64 (.t 64)) 62 false,.z 66 1 62,.g 67 (.bin .geq (.t 65) (.t 66)) 62 false,.g 68 (.pick (.t 62) .T (.t 67)) 56 true,.p 69 56 68]) (.cond (.t 69) (.seq (.r [.m 4 (.k 42)]) (.ret)) (.skip))) (.seq (.r [.m 4 (.k 0)]) (.ret)))))))⟩
set_option maxRecDepth 8000 in
theorem qFF{g:Nat}(hc:qd P f (qb2 g)=true)(hg:qim P g)(i:Ins)(hi:InsOk i)(n:Nat)(hn:n<=5000):qf P f [.agg (zy i),.i .i64 n] (.i .i64 (qgT i n)):=by
 refine qf.mk hc rfl ?_;have hn0:¬(n:Int)<0:=by omega
 have h40:(4:Int)≠0:=by decide
 have hk0:=hi.k0;have ht:i.k.tmod 4=i.k % 4:=Int.tmod_eq_emod_of_nonneg hk0;have hk:IntKind.wrap .i64 i.k=i.k:=by have:=hi.k1;exact qm (by omega) (by omega)
 have hjt:IntKind.wrap .i64 i.jt=i.jt:=by have:=hi.t0;have:=hi.t1;exact qm (by omega) (by omega)
 have hjf:IntKind.wrap .i64 i.jf=i.jf:=by have:=hi.f0;have:=hi.f1;exact qm (by omega) (by omega)
 have hgc:=hg i.code;simp only[qb2,zy,vI,simprocAttr];simp +decide only[↓vS,vT,simprocAttr,hn0];refine hgc.sc ?_;cases hcm:qC i.code with
 | none =>
  have hb:qjk i=true:=by unfold qjk z5;rw[hcm];rfl
  unfold qgT;rw[if_pos hb];simp +decide only[↓vS,vT,simprocAttr,zG,zE];simp[vZ]
 | some x =>
  obtain⟨hxm,hxc⟩:=qec hcm;have hb1:qjk i=false:=by unfold qjk z5;rw[hcm];rfl
  have hcl:qn i.code=x.2.2:=by unfold qn;rw[hcm];rfl
  unfold qgT;rw[hb1];simp only[zG,x8]
  by_cases hs:spC.contains x.1=false
  ·obtain⟨hn1,hn2,hn3⟩:=qrw x hxm hs;rw[hxc] at hs;simp[spC] at hs;obtain⟨s1,s2,s3,s4,s5,s6,s7,s8,s9⟩:=hs;simp[spN] at hn1;obtain⟨m1,m2,m3,m4,m5,m6,m7,m8,m9⟩:=hn1;have hb2:qaZ i=false:=by unfold qaZ;simp[s1]
   have hb3:qcn i=false:=by unfold qcn;simp[s2,s3,hcl,hn3]
   have hb4:qco i=false:=by unfold qco;simp[s6]
   have hb5:qcp i=false:=by unfold qcp;simp[s7,s8]
   have hb6:qcq i n=(decide (x.2.2=4)&&decide ((n:Int)<=hiM i)):=by unfold qcq;rw[if_neg s9,hcl]
   rw[hb2,hb3,hb4,hb5,hb6];generalize x.2.1=nm at *
   by_cases h4:x.2.2=4
   ·by_cases hj1:(n:Int)<=i.jt
    ·have hh:(n:Int)<=hiM i:=by unfold hiM;split<;>omega
     simp +decide only[↓vS,vT,simprocAttr,hn2,m1,m2,m3,m4,m5,m6,m7,m8,m9,h4,hjt,hj1];simp[vZ,h4,hh]
    ·by_cases hj2:(n:Int)<=i.jf
     ·have hh:(n:Int)<=hiM i:=by unfold hiM;split<;>omega
      simp +decide only[↓vS,vT,simprocAttr,hn2,m1,m2,m3,m4,m5,m6,m7,m8,m9,h4,hjt,hj1,hjf,hj2];simp[vZ,h4,hh]
     ·have hh:¬(n:Int)<=hiM i:=by unfold hiM;split<;>omega
      simp +decide only[↓vS,vT,simprocAttr,hn2,m1,m2,m3,m4,m5,m6,m7,m8,m9,h4,hjt,hj1,hjf,hj2];simp[vZ,h4,hh]
   ·simp +decide only[↓vS,vT,simprocAttr,hn2,m1,m2,m3,m4,m5,m6,m7,m8,m9,h4];simp[vZ,h4]
  ·have hs':i.code=32∨i.code=96∨i.code=97∨i.code=2∨i.code=3∨i.code=52∨i.code=100∨i.code=116∨i.code=5:=by
    rw[hxc] at hs;simp only[spC,Bool.not_eq_false,List.contains_iff_mem,List.mem_cons,List.not_mem_nil,or_false] at hs;exact hs
   clear hs;rcases hs' with hcd|hcd|hcd|hcd|hcd|hcd|hcd|hcd|hcd
   ·have hx:x=(32,[108,100,97,98,115],1):=by rw[hcd] at hcm;exact Option.some.inj (hcm.symm.trans (by decide))
    subst hx;rw[hcd] at hcl;simp only at hcl
    by_cases hq:60<i.k
    ·simp +decide only[↓vS,vT,simprocAttr,hcd,hq]
     by_cases h64:64<=i.k
     ·simp[vZ,qaZ,hcd,h64]
     ·have:¬i.k % 4=0:=by omega
      simp[vZ,qaZ,hcd,this]
    by_cases hq2:i.k % 4=0
    ·have h64:¬64<=i.k:=by omega
     simp +decide only[↓vS,vT,simprocAttr,hcd,hq,↓xR h40,ht,hq2];simp[vZ,qaZ,qcn,qco,qcp,qcq,hcd,hcl,hq2,h64]
    ·have hq3:0<i.k % 4:=by omega
     simp +decide only[↓vS,vT,simprocAttr,hcd,hq,↓xR h40,ht,hq3];simp[vZ,qaZ,hcd,hq2]
   ·have hx:x=(96,[108,100,109],1):=by rw[hcd] at hcm;exact Option.some.inj (hcm.symm.trans (by decide))
    subst hx;rw[hcd] at hcl;simp only at hcl
    by_cases hq:15<i.k
    ·have hq2:16<=i.k:=by omega
     simp +decide only[↓vS,vT,simprocAttr,hcd,hq,hk];simp[vZ,qaZ,qcn,qco,qcp,qcq,hcd,hcl,hq,hq2]
    ·have hq2:¬16<=i.k:=by omega
     simp +decide only[↓vS,vT,simprocAttr,hcd,hq,hk];simp[vZ,qaZ,qcn,qco,qcp,qcq,hcd,hcl,hq,hq2]
   ·have hx:x=(97,[108,100,120,109],1):=by rw[hcd] at hcm;exact Option.some.inj (hcm.symm.trans (by decide))
    subst hx;rw[hcd] at hcl;simp only at hcl
    by_cases hq:15<i.k
    ·have hq2:16<=i.k:=by omega
     simp +decide only[↓vS,vT,simprocAttr,hcd,hq,hk];simp[vZ,qaZ,qcn,qco,qcp,qcq,hcd,hcl,hq,hq2]
    ·have hq2:¬16<=i.k:=by omega
     simp +decide only[↓vS,vT,simprocAttr,hcd,hq,hk];simp[vZ,qaZ,qcn,qco,qcp,qcq,hcd,hcl,hq,hq2]
   ·have hx:x=(2,[115,116],2):=by rw[hcd] at hcm;exact Option.some.inj (hcm.symm.trans (by decide))
    subst hx;rw[hcd] at hcl;simp only at hcl
    by_cases hq:15<i.k
    ·have hq2:16<=i.k:=by omega
     simp +decide only[↓vS,vT,simprocAttr,hcd,hq,hk];simp[vZ,qaZ,qcn,qco,qcp,qcq,hcd,hcl,hq,hq2]
    ·have hq2:¬16<=i.k:=by omega
     simp +decide only[↓vS,vT,simprocAttr,hcd,hq,hk];simp[vZ,qaZ,qcn,qco,qcp,qcq,hcd,hcl,hq,hq2]
   ·have hx:x=(3,[115,116,120],2):=by rw[hcd] at hcm;exact Option.some.inj (hcm.symm.trans (by decide))
    subst hx;rw[hcd] at hcl;simp only at hcl
    by_cases hq:15<i.k
    ·have hq2:16<=i.k:=by omega
     simp +decide only[↓vS,vT,simprocAttr,hcd,hq,hk];simp[vZ,qaZ,qcn,qco,qcp,qcq,hcd,hcl,hq,hq2]
    ·have hq2:¬16<=i.k:=by omega
     simp +decide only[↓vS,vT,simprocAttr,hcd,hq,hk];simp[vZ,qaZ,qcn,qco,qcp,qcq,hcd,hcl,hq,hq2]
   ·have hx:x=(52,[100,105,118],3):=by rw[hcd] at hcm;exact Option.some.inj (hcm.symm.trans (by decide))
    subst hx;rw[hcd] at hcl;simp only at hcl
    by_cases hq:i.k=0
    ·have hq2:=hq;simp +decide only[↓vS,vT,simprocAttr,hcd,hq,hk];simp[vZ,qaZ,qcn,qco,qcp,qcq,hcd,hcl,hq,hq2]
    ·have hq2:=hq;simp +decide only[↓vS,vT,simprocAttr,hcd,hq,hk];simp[vZ,qaZ,qcn,qco,qcp,qcq,hcd,hcl,hq,hq2]
   ·have hx:x=(100,[108,115,104],3):=by rw[hcd] at hcm;exact Option.some.inj (hcm.symm.trans (by decide))
    subst hx;rw[hcd] at hcl;simp only at hcl
    by_cases hq:31<i.k
    ·have hq2:=hq;simp +decide only[↓vS,vT,simprocAttr,hcd,hq,hk];simp[vZ,qaZ,qcn,qco,qcp,qcq,hcd,hcl,hq,hq2]
    ·have hq2:=hq;simp +decide only[↓vS,vT,simprocAttr,hcd,hq,hk];simp[vZ,qaZ,qcn,qco,qcp,qcq,hcd,hcl,hq,hq2]
   ·have hx:x=(116,[114,115,104],3):=by rw[hcd] at hcm;exact Option.some.inj (hcm.symm.trans (by decide))
    subst hx;rw[hcd] at hcl;simp only at hcl
    by_cases hq:31<i.k
    ·have hq2:=hq;simp +decide only[↓vS,vT,simprocAttr,hcd,hq,hk];simp[vZ,qaZ,qcn,qco,qcp,qcq,hcd,hcl,hq,hq2]
    ·have hq2:=hq;simp +decide only[↓vS,vT,simprocAttr,hcd,hq,hk];simp[vZ,qaZ,qcn,qco,qcp,qcq,hcd,hcl,hq,hq2]
   ·have hx:x=(5,[106,97],4):=by rw[hcd] at hcm;exact Option.some.inj (hcm.symm.trans (by decide))
    subst hx;rw[hcd] at hcl;simp only at hcl
    by_cases hq:(n:Int)<=i.k
    ·have hq2:=hq;simp +decide only[↓vS,vT,simprocAttr,hcd,hq,hk];simp[vZ,qaZ,qcn,qco,qcp,qcq,hcd,hcl,hq,hq2]
    ·have hq2:=hq;simp +decide only[↓vS,vT,simprocAttr,hcd,hq,hk];simp[vZ,qaZ,qcn,qco,qcp,qcq,hcd,hcl,hq,hq2]
def qxQ(P:Program)(f:Nat):Prop:=∀p:List Ins,(∀i ∈ p,InsOk i)->p.length<=5000->qf P f [.fz p.length (rP p)] (.tup [.i .i64 ((atU p (qiQ p)).1:Int),.i .i64 (atU p (qiQ p)).2])
def qcy(a b c:Nat):IFn:=⟨[.tmp 2,.tmp 3],.seq (.r [.m 2 (.k 0),.m 3 (.k 0)]) (.seq (.seq (.r [.n 7 0,.e 8 7,.w 9 .eql 8 0,.n 10 9,.z 11 0 10,.g 12 (.len false (.t 11)) 10 false,.g 13 (.bin .gtr (.t 12) (.k 4096)) 10 false,.o 14 10 13]) (.cond (.t 14) (.seq (.r [.m 2 (.k 0),.m 3 (.k 60)]) (.ret)) (.skip))) (.seq (.seq (.r [.m 4 (.k 0)]) (.blk 0 (.loop (.seq (.seq (.r [.n 15 4,.n 16 0,.e 17 16,.s 18 15 17]) (.cond (.t 18) (.skip) (.exit 0))) (.seq (.blk 1 (.seq (.r [.n 21 0,.n 22 4,.i 23 4 21 22,.v 24 4 23,.n 25 0,.e 26 25,.w 27 .sub 26 1,.n 28 4,.b 29 .sub 27 28,.l 30 a [.t 24,.t 29],.n 5 30]) (.seq (.r [.n 31 5,.w 32 .neq 31 0]) (.cond (.t 32) (.seq (.r [.n 33 4,.n 34 5,.n 2 33,.n 3 34]) (.ret)) (.skip))))) (.r [.n 19 4,.a 20 19 1,.n 4 20])))))) (.seq (.seq (.r [.n 35 0,.n 36 0,.e 37 36,.w 38 .sub 37 1,.i 39 4 35 38,.f 40 0 39,.d 41 40,.l 42 b [.t 41],.q 43 (.fld 2 none (.t 42)),.q 44 (.bin .neq (.t 43) (.c (.i .u8 5)))]) (.cond (.t 44) (.seq (.r [.n 45 0,.e 46 45,.w 47 .sub 46 1,.n 2 47,.m 3 (.k 46)]) (.ret)) (.skip))) (.seq (.r [.n 48 0,.l 49 c [.t 48],.n 6 49]) (.seq (.seq (.r [.n 50 6,.e 51 50,.w 52 .gtr 51 0]) (.cond (.t 52) (.seq (.r [.n 53 6,.q 54 (.iAddrS 1 (.t 53) (.k 0)),.d 55 54,.n 2 55,.m 3 (.k 61)]) (.ret)) (.skip))) (.seq (.r [.m 2 (.k 0),.m 3 (.k 0)]) (.ret)))))))⟩
theorem qFJ{g1 g2 g3:Nat}(hc:qd P f (qcy g1 g2 g3)=true)(h1:∀i,InsOk i->∀n:Nat,n<=5000->qf P g1 [.agg (zy i),.i .i64 (n:Int)] (.i .i64 (qgT i n)))(h2:qim P g2)
  (h3:∀p:List Ins,p.length<=4096->(∀i ∈ p,InsOk i)->qf P g3 [.fz p.length (rP p)] (.fz (qiQ p).length (rNt (qiQ p)))):qxQ P f:=by
 intro p hi hp;refine qf.mk hc (by simp[qw,clo,qu]) ?_;unfold atU;simp only[qcy,vI,simprocAttr]
 by_cases hz:p.length=0
 ·have hz':(p.length:Int)=0:=by omega
  have hp0:p=[]:=List.eq_nil_of_length_eq_zero hz;rw[if_pos (.inl hz)];subst hp0;simp +decide only[↓vS,vT,simprocAttr,hz',List.length_nil];simp[vZ]
 have hz':¬(p.length:Int)=0:=by omega
 by_cases hb:4096<p.length
 ·have hb':(4096:Int)<p.length:=by omega
  rw[if_pos (.inr hb)];simp +decide only[↓vS,vT,simprocAttr,hz',hb'];simp[vZ]
 have hb':¬(4096:Int)<p.length:=by omega
 rw[if_neg (by omega)];have hl1:IntKind.wrap .i64 ((p.length:Int)-1)=((p.length-1:Nat):Int):=by rw[qm (by omega) (by omega)];omega
 simp +decide only[↓vS,vT,simprocAttr,hz',hb'];refine SL.loop (α:=Nat) (fun j=>[(0,.fz p.length (rP p)),(4,.i .i64 (j:Int))]) (fun _=>[]) (fun j=>j<=p.length∧qil p.length j (p.drop j)=qil p.length 0 p) (fun j=>p.length-j) 0 [] ?_ ?_ ?_ rfl ?_ ?_
 ·simp[vw,qu]
 ·trivial
 ·simp
 ·exact⟨Nat.zero_le _,rfl⟩
 rintro j ⟨hj,hI⟩ G ih;simp only[vI,simprocAttr]
 by_cases hlt:j<p.length
 ·obtain⟨i,hpi⟩:∃i,p[j]?=some i:=⟨_,zzE hlt⟩;have hii:=hi i (zzM hpi);have hel:=zL (f:=zy) (m:=4) xf hpi;rw[show p.flatMap zy=rP p from rfl] at hel
  simp only[zy] at hel;have h4:j*4+4<=(rP p).length:=by rw[qfG];omega
  have hdr:p.drop j=i::p.drop (j+1):=by
   obtain⟨hh,he⟩:=zzS.1 hpi;rw[List.drop_eq_getElem_cons hh,he]
  rw[hdr,qjl] at hI;have hw1:IntKind.wrap .i64 ((j:Int)+1)=((j+1:Nat):Int):=by rw[qm (by omega) (by omega)];omega
  have hw2:IntKind.wrap .i64 (((p.length-1:Nat):Int)-(j:Int))=((p.length-1-j:Nat):Int):=by rw[qm (by omega) (by omega)];omega
  have hone:=h1 i hii (p.length-1-j) (by omega);simp only[zy] at hone;simp +decide only[↓vS,vT,simprocAttr,hlt,hel,h4,hl1,hw2];refine hone.sc ?_
  by_cases h0:qgT i (p.length-1-j)=0
  ·rw[if_pos h0] at hI;simp +decide only[↓vS,vT,simprocAttr,h0,hw1];refine ih (j+1) ⟨hlt,hI⟩ (by omega) _ _ (Wk.mk _ _ [] ?_ ?_ ?_ rfl)
   ·simp[vw,qu]
   ·trivial
   ·simp
  ·rw[if_neg h0] at hI;simp +decide only[↓vS,vT,simprocAttr,h0];rw[← hI];simp[vZ]
 ·obtain rfl:j=p.length:=by omega
  have hd:p.drop p.length=[]:=List.drop_eq_nil_of_le (by omega);rw[hd] at hI;simp only[qil] at hI;rw[← hI];obtain⟨i,hpi⟩:∃i,p[p.length-1]?=some i:=⟨_,zzE (by omega)⟩;have hlc:qkX p=i.code:=by unfold qkX;rw[List.getD_eq_getElem?_getD,hpi];rfl
  have hg:=zZ (f:=zy) (m:=4) xf hpi (i:=0) (by omega);rw[show p.flatMap zy=rP p from rfl] at hg
  simp only[zy,Nat.add_zero,List.getElem?_cons_zero] at hg;have hlt2:p.length-1<p.length:=by omega
  have hcl:(zG (qC i.code)).length=3∧(zG (qC i.code))[2]?=some (.i .u8 (qn i.code))∧qw (zG (qC i.code))=true:=by
   unfold qn;cases qC i.code<;>exact⟨rfl,rfl,rfl⟩
  have hgc:=h2 i.code;generalize zG (qC i.code)=E at hcl hgc;obtain⟨he1,he2,he3⟩:=hcl;simp +decide only[↓vS,vT,simprocAttr,hlt,hlt2,hl1,hg];refine hgc.sc ?_
  by_cases h5:qn i.code=5
  ·simp +decide only[↓vS,vT,simprocAttr,he2,h5];refine (h3 p (by omega) hi).sc ?_;rw[hlc];cases hu:qiQ p with
   | nil =>
    simp +decide only[↓vS,vT,simprocAttr,List.length_nil];simp[vZ,h5]
   | cons a u =>
    have hgt2:0<(a::u).length:=by simp
    have hga:(rNt (a::u))[0]?=some (.i .i64 (a:Int)):=rfl;generalize (a::u).length=m at hgt2 ⊢;generalize rNt (a::u)=T at hga ⊢;have hgt:(0:Int)<(m:Int):=by omega
    simp +decide only[↓vS,vT,simprocAttr,hgt,hgt2,Nat.mul_one,hga];simp[vZ,h5]
  ·simp +decide only[↓vS,vT,simprocAttr,he2,h5,hl1];rw[hlc];simp[vZ,h5]
end Go.Kc
end
section
namespace Go.Kc
def qo0{σ:Type}(F:Nat->Ins->σ->σ):Nat->List Ins->σ->σ
 | _,[],st=>st
 | j,i::L,st=>qo0 F (j+1) L (F j i st)
def rcS(n j:Nat)(i:Ins)(r:List Bool):List Bool:=if r.getD j false=true then mkL (qgS n i j) r else r
def U(st:List (BitVec 16)×List Bool)(c j:Nat):Bool:=st.2.getD j false && !(st.1.getD j 0#16).getLsbD c
def uS(n c j:Nat)(i:Ins)(u:List Bool):List Bool:=if u.getD j false=false then u else if wrC i c=true then u else mkL (qgS n i j) u
section
variable (p:List Ins)
def Wk0(k:Nat):WSt:=qo0 (stM p.length) 0 (p.take k) ([],(List.replicate p.length 0#16,List.replicate p.length false))
def Rk(k:Nat):List Bool:=qo0 (rcS p.length) 0 (p.take k) (st0 p.length)
def Uk(c k:Nat):List Bool:=qo0 (uS p.length c) 0 (p.take k) (st0 p.length)
structure InvK (k:Nat):Prop where
 l1:(qma k (Wk0 p k).2).1.length=p.length
 l2:(qma k (Wk0 p k).2).2.length=p.length
 r:Rk p k=(qma k (Wk0 p k).2).2
 u:∀c,c<16->(Uk p c k).length=p.length∧∀j,(Uk p c k).getD j false=U (qma k (Wk0 p k).2) c j
theorem qnI:∀(m:Nat) (out:List (BitVec 16)),(qru p m out).length=out.length
 | 0,_=>rfl
 | m+1,out=>by rw[qli,qnI m,qkd.2]
theorem qD4:(qmd p).length=p.length:=by unfold qmd;rw[qnI];simp
theorem qug{n:Nat}:∀(L:List Ins) (j:Nat) (r:List Bool),(qhE n j L r).length=r.length
 | [],_,_=>rfl
 | i::L,j,r=>by
  show (qhE n (j+1) L _).length=_;rw[qug L];split
  ·rw[qf2]
  ·rfl
end
end Go.Kc
end
section
namespace Go.Kc
variable {P:Program} {f:Nat}
structure Prg where
 dir:Int
 arch:Int
 ins:List Ins
structure PrgOk (x:Prg):Prop where
 len:x.ins.length<=4096
 ins:∀i ∈ x.ins,InsOk i




def loW(x:Int):Int:=x % 4294967296
def hiW(x:Int):Int:=x / 4294967296
def qeu(d:GData):List Int:=[d.ip,d.a0,d.a1,d.a2,d.a3,d.a4,d.a5]
def xe(d:GData):List Int:=d.nr::d.arch::(qeu d).flatMap fun x=>[loW x,hiW x]
structure DatOk (d:GData):Prop where
 nr0:0<=d.nr
 nr1:d.nr<=4294967295
 ar0:0<=d.arch
 ar1:d.arch<=4294967295
 wid:∀x ∈ qeu d,0<=x∧x<18446744073709551616
def qe6:IFn:=⟨[.tmp 2,.tmp 3],.seq (.r [.m 2 (.c (.i .u32 0)),.m 3 (.c (.i .u32 0))]) (.seq (.r [.n 4 0,.q 5 (.cvInt .u32 (.t 4)),.n 6 0,.q 7 (.bin .shr (.t 6) (.c (.i .u64 32))),.q 8 (.cvInt .u32 (.t 7)),.n 2 5,.n 3 8]) (.ret))⟩
theorem qx8(hc:qd P f qe6=true)(x:Int)(h0:0<=x)(h1:x<18446744073709551616):qf P f [.i .u64 x] (.tup [.i .u32 (loW x),.i .u32 (hiW x)]):=by
 refine qf.mk hc rfl ?_;have e1:IntKind.wrap .u32 x=loW x:=rfl
 have e2:IntKind.wrap .u32 (qur .u64 x 32)=hiW x:=by
  have:qur .u64 x 32=x / 4294967296:=by
   show x.fdiv (2 ^ 32)=_;rw[Int.fdiv_eq_ediv_of_nonneg _ (by decide)];rfl
  rw[this];show (x / 4294967296) % 4294967296=x / 4294967296;omega
 simp only[qe6,vI,simprocAttr];simp +decide only[↓vS,vT,simprocAttr,e1,e2];simp[vZ]
theorem qrg{q:IntKind}{l:List Int}:jA (rI q l)=true:=by
 unfold rI;induction l with
 | nil=>rfl
 | cons a l ih=>exact ih
def qhm:IFn:=⟨[.tmp 4],.seq (.r [.m 4 .N]) (.seq (.r [.n 5 0,.q 6 (.buildS 1 [.i .u64 0] [(0,1,(.t 5))]),.n 7 1,.q 8 (.app 1 8 true (.t 6) (.t 7)),.n 4 8]) (.ret))⟩
theorem qEg(hc:qd P f qhm=true)(x:Int)(l:List Int)(hl:l.length=6):qev P f [.i .u64 x,.fz l.length (rI .u64 l)] (.own 0 (1+l.length)) [.cells 1 true true (rI .u64 (x::l))]:=by
 refine qev.mk hc rfl (by simp[qmR,qrg]) ?_;have hr1:1+l.length<=qh:=by rw[hl];decide
 have hr2:(1+l.length)*8<=qh:=by rw[hl];decide
 have hll:(rI .u64 l).length=l.length:=qbO;simp only[qhm,vI,simprocAttr];have hne:¬1+l.length<=1:=by omega
 have htk:List.take l.length (rI .u64 l)=rI .u64 l:=List.take_of_length_le (by rw[qbO];omega);simp +decide only[↓vS,vT,simprocAttr,hne,hr1,hr2,hll,htk,Nat.mul_one];intro _;refine⟨[1],?_⟩;simp[vw,qw4,qc,qf7]
def qee(d:GData)(j:Nat):List Int:=(xe d).take (2+2*j)++List.replicate (14-2*j) 0
theorem qqx(d:GData){j:Nat}(h:j<=7):(qee d j).length=16:=by
 have:(xe d).length=16:=rfl;unfold qee;rw[List.length_append,List.length_take,List.length_replicate,this];omega
theorem qn8(d:GData){j:Nat}{x:Int}(h:(qeu d)[j]?=some x):((qee d j).set (2+2*j) (loW x)).set (3+2*j) (hiW x)=qee d (j+1):=by
 have hj:j<7:=(zzS.1 h).1;have:j=0∨j=1∨j=2∨j=3∨j=4∨j=5∨j=6:=by omega
 rcases this with rfl|rfl|rfl|rfl|rfl|rfl|rfl<;>(cases h;rfl)
def qvg(P:Program)(g:Nat):Prop:=∀x:Int,0<=x->x<18446744073709551616->qf P g [.i .u64 x] (.tup [.i .u32 (loW x),.i .u32 (hiW x)])
def qED(P:Program)(g:Nat):Prop:=∀(x:Int) (l:List Int),l.length=6->qev P g [.i .u64 x,.fz l.length (rI .u64 l)] (.own 0 (1+l.length)) [.cells 1 true true (rI .u64 (x::l))]
def qgs(a b:Nat):IFn:=⟨[.cell 2 16 true],.seq (.r [.q 1 (.box (.t 0)),.q 2 (.alloc [.i .u32 0,.i .u32 0,.i .u32 0,.i .u32 0,.i .u32 0,.i .u32 0,.i .u32 0,.i .u32 0,.i .u32 0,.i .u32 0,.i .u32 0,.i .u32 0,.i .u32 0,.i .u32 0,.i .u32 0,.i .u32 0])]) (.seq (.r [.f 6 0 1,.d 7 6,.f 8 1 1,.d 9 8,.q 10 (.build [.i .u32 0,.i .u32 0,.i .u32 0,.i .u32 0,.i .u32 0,.i .u32 0,.i .u32 0,.i .u32 0,.i .u32 0,.i .u32 0,.i .u32 0,.i .u32 0,.i .u32 0,.i .u32 0,.i .u32 0,.i .u32 0] [(0,1,(.t 7)),(1,1,(.t 9))]),.q 3 (.alloc [.i .u32 0,.i .u32 0,.i .u32 0,.i .u32 0,.i .u32 0,.i .u32 0,.i .u32 0,.i .u32 0,.i .u32 0,.i .u32 0,.i .u32 0,.i .u32 0,.i .u32 0,.i .u32 0,.i .u32 0,.i .u32 0]),.u (.store 16 (.t 3) (.t 10))]) (.seq (.seq (.reg true [.f 11 2 1,.d 12 11,.f 13 3 1,.q 14 (.slcA 6 1 (.t 13) none none none),.l 15 a [.t 12,.t 14],.e 16 15,.m 17 (.k 0)]) (.blk 0 (.loop (.seq (.r [.s 18 17 16]) (.seq (.cond (.t 18) (.skip) (.exit 0)) (.seq (.blk 1 (.seq (.r [.n 19 17,.i 20 1 15 17,.d 21 20,.n 4 19,.n 5 21]) (.r [.n 23 4,.q 24 (.bin .mul (.k 2) (.t 23)),.q 25 (.bin .add (.k 2) (.t 24)),.n 26 4,.q 27 (.bin .mul (.k 2) (.t 26)),.q 28 (.bin .add (.k 3) (.t 27)),.n 29 5,.l 30 b [.t 29],.n 22 30,.x 31 22 0,.x 32 22 1,.q 33 (.iAddrA 16 1 (.t 3) (.t 25)),.u (.store 1 (.t 33) (.t 31)),.q 34 (.iAddrA 16 1 (.t 3) (.t 28)),.u (.store 1 (.t 34) (.t 32))]))) (.r [.a 35 17 1,.n 17 35]))))))) (.seq (.r [.v 36 16 3,.u (.store 16 (.t 2) (.t 36))]) (.ret))))⟩
theorem qBU{g1 g2:Nat}(hc:qd P f (qgs g1 g2)=true)(h1:qED P g1)(h2:qvg P g2)(d:GData)(hd:DatOk d):qf P f [.agg (qX d)] (.agg (rI .u32 (xe d))):=by
 refine qf.mk hc rfl ?_;simp only[qgs,qX,vI,simprocAttr];simp +decide only[↓vS,vT,simprocAttr];refine zg ?_;simp +decide only[↓vS,vT,simprocAttr];refine (h1 d.ip [d.a0,d.a1,d.a2,d.a3,d.a4,d.a5] rfl).pc (vs:=[.i .u64 d.ip,.sl 0 3 6 6 false]) ?_ ?_
 ·refine .cons _ _ _ _ (.i _ _) (.cons _ _ _ _ (Frz.cut 1 rfl (Nat.le_refl _) ?_) .nil);simp[vP,Tr.get_set,vZ,rI]
 simp only[vJ,simprocAttr,zK qf7];simp +decide only[↓vS,vT,simprocAttr]
 refine SL.loop (α:=Nat) (fun j=>[(2,.ptr 0 0),(3,.ptr 1 0),(15,.own 2 7),(16,.i .i64 7),(17,.i .i64 (j:Int))]) (fun j=>[.cells 0 true false [.i .u32 0,.i .u32 0,.i .u32 0,.i .u32 0,.i .u32 0,.i .u32 0,.i .u32 0,.i .u32 0,.i .u32 0,.i .u32 0,.i .u32 0,.i .u32 0,.i .u32 0,.i .u32 0,.i .u32 0,.i .u32 0],.cells 0 true false (rI .u32 (qee d j)),.cells 1 true true (rI .u64 (qeu d))])
  (fun j=>j<=7) (fun j=>7-j) 0 [1,2,3] ?_ ?_ ?_ rfl ?_ ?_
 ·simp[vw]
 ·simp[vw,qee,xe,qeu,rI]
 ·simp
 ·exact Nat.zero_le _
 rintro j hj G ih;simp only[vI,simprocAttr]
 by_cases hlt:j<7
 ·have hlt':(j:Int)<7:=by omega
  obtain⟨x,hx⟩:∃x,(qeu d)[j]?=some x:=⟨_,zzE (show j<(qeu d).length from hlt)⟩
  have hxr:=hd.wid x (zzM hx);have hl:=qqx d hj;have hnx:=qn8 d hx;have w1:IntKind.wrap .i64 (2*(j:Int))=((2*j:Nat):Int):=by rw[qm (by omega) (by omega)];omega
  have w2:IntKind.wrap .i64 (2+((2*j:Nat):Int))=((2+2*j:Nat):Int):=by rw[qm (by omega) (by omega)];omega
  have w3:IntKind.wrap .i64 (3+((2*j:Nat):Int))=((3+2*j:Nat):Int):=by rw[qm (by omega) (by omega)];omega
  have w4:IntKind.wrap .i64 ((j:Int)+1)=((j+1:Nat):Int):=by rw[qm (by omega) (by omega)];omega
  simp +decide only[↓vS,vT,simprocAttr,hlt',hlt,Nat.mul_one,qh8,hx,Option.map_some,w1,w2,w3];refine (h2 x hxr.1 hxr.2).sc ?_;have hA:2+2*j<(qee d j).length:=by omega
  have hB:3+2*j<((qee d j).set (2+2*j) (loW x)).length:=by simp;omega
  have s1:=qlU (k:=.u32) hA (loW x);have s2:=qlU (k:=.u32) hB (hiW x);rw[hnx] at s2;have k1:2+2*j<16:=by omega
  have k2:3+2*j<16:=by omega
  have k3:2+2*j+1<=(rI .u32 (qee d j)).length:=by rw[qbO];omega
  have k4:3+2*j+1<=(rI .u32 ((qee d j).set (2+2*j) (loW x))).length:=by rw[qbO];omega
  simp +decide only[↓vS,vT,simprocAttr,k1,k2,k3,k4,s1,s2,Nat.mul_one,w4];refine ih (j+1) hlt (by omega) _ _ (Wk.mk _ _ [0,1,2] ?_ ?_ ?_ rfl)
  ·simp[vw]
  ·simp[vw,qc,qf7]
  ·simp
 ·obtain rfl:j=7:=by omega
  have h16:16<=(rI .u32 (qee d 7)).length:=Nat.le_refl 16;have ht:List.take 16 (List.drop 0 (rI .u32 (qee d 7)))=rI .u32 (xe d):=rfl;have hlen:(rI .u32 (xe d)).length=16:=rfl;have hfd:qee d 7=xe d:=rfl;have ht2:List.take 16 (rI .u32 (xe d))=rI .u32 (xe d):=rfl;rw[hfd];simp +decide only[↓vS,vT,simprocAttr,h16,ht2,hlen,qym];simp[vZ,vP,Tr.get_set,qQ qf7]
def qiJ(d:GData)(k:Int):AV:=if k % 4≠0∨64<=k then .tup [.i .u32 0,.i .i64 41] else .tup [.i .u32 ((xe d).getD (k / 4).toNat 0),.i .i64 0]
def qhl(a:Nat):IFn:=⟨[.tmp 4,.tmp 5],.seq (.r [.q 2 (.box (.t 0)),.m 4 (.c (.i .u32 0)),.m 5 (.k 0)]) (.seq (.seq (.r [.n 6 1,.q 7 (.bin .rem (.t 6) (.c (.i .u32 4))),.q 8 (.bin .neq (.t 7) (.c (.i .u32 0))),.n 9 8,.z 10 1 9,.g 11 (.bin .geq (.t 10) (.c (.i .u32 64))) 9 false,.o 12 9 11]) (.cond (.t 12) (.seq (.r [.m 4 (.c (.i .u32 0)),.m 5 (.k 41)]) (.ret)) (.skip))) (.seq (.r [.v 13 9 2,.l 14 a [.t 13],.n 15 1,.q 16 (.bin .quo (.t 15) (.c (.i .u32 4))),.q 17 (.idxA 16 1 false (.t 14) (.t 16)),.n 4 17,.m 5 (.k 0)]) (.ret)))⟩
theorem qC5{g:Nat}(hc:qd P f (qhl g)=true)(hg:∀d,DatOk d->qf P g [.agg (qX d)] (.agg (rI .u32 (xe d))))(d:GData)(hd:DatOk d)(k:Int)(h0:0<=k)(h1:k<=4294967295):qf P f [.agg (qX d),.i .u32 k] (qiJ d k):=by
 refine qf.mk hc rfl ?_;have h40:(4:Int)≠0:=by decide
 have ht:k.tmod 4=k % 4:=Int.tmod_eq_emod_of_nonneg h0;have hq:k.tdiv 4=k / 4:=Int.tdiv_eq_ediv_of_nonneg h0;have hg:=hg d hd;unfold qiJ;simp only[qhl,qX,vI,simprocAttr] at hg ⊢
 by_cases hm:k % 4=0
 ·by_cases hb:64<=k
  ·rw[if_pos (.inr hb)];simp +decide only[↓vS,vT,simprocAttr,↓xR h40,ht,hm,hb];simp[vZ]
  ·rw[if_neg (by omega)];have hn:(k / 4).toNat<16:=by omega
   obtain⟨x,hx⟩:∃x,(xe d)[(k / 4).toNat]?=some x:=⟨_,zzE hn⟩;rw[List.getD_eq_getElem?_getD,hx];have hk:k / 4=(((k / 4).toNat:Nat):Int):=by omega
   have hw:IntKind.wrap .u32 (k / 4)=(((k / 4).toNat:Nat):Int):=by
    show (k / 4) % 4294967296=_;omega
   simp +decide only[↓vS,vT,simprocAttr,↓xR h40,ht,hm,hb];refine hg.sc ?_;generalize xe d=W at hx;simp +decide only[↓vS,vT,simprocAttr,↓zn h40,hq,hw,hn,Nat.mul_one,qh8,hx,Option.map_some];simp[vZ]
 ·rw[if_pos (.inl hm)];simp +decide only[↓vS,vT,simprocAttr,↓xR h40,ht,hm];simp[vZ]
def xr:Nat->Int->List Int
 | 0,_=>[]
 | n+1,x=>x % 256::xr n (x / 256)
theorem zQ:∀(n:Nat) (x:Int),(xr n x).length=n
 | 0,_=>rfl
 | n+1,x=>by show (xr n (x / 256)).length+1=n+1;rw[zQ]
theorem qps:∀(n:Nat) (x:Int),qda (xr n x)
 | 0,_=>fun _ h=>by cases h
 | n+1,x=>fun y hy=>by
  rcases List.mem_cons.1 hy with rfl|hy
  ·omega
  ·exact qps n _ y hy
theorem qta{w:Int}(h0:0<=w)(h1:w<=4294967295):leM (xr 4 w)=w:=by
 simp only[xr,leM];omega
theorem qAV{x:Int}(h0:0<=x)(h1:x<18446744073709551616):xr 8 x=xr 4 (loW x)++xr 4 (hiW x):=by
 simp only[xr,loW,hiW,List.cons_append,List.nil_append,List.cons.injEq,and_true];refine⟨?_,?_,?_,?_,?_,?_,?_,?_⟩<;>omega
def qey(d:GData):List Int:=(xe d).flatMap (xr 4)
theorem qqa{d:GData}(hd:DatOk d):qey d=xr 4 d.nr++xr 4 d.arch++(qeu d).flatMap (xr 8):=by
 have h:∀l:List Int,(∀x ∈ l,0<=x∧x<18446744073709551616)->(l.flatMap fun x=>[loW x,hiW x]).flatMap (xr 4)=l.flatMap (xr 8):=by
  intro l
  induction l with
  | nil=>intro _;rfl
  | cons x l ih =>
   intro hl;have hx:=hl x (by simp);simp only[List.flatMap_cons,List.flatMap_append,List.flatMap_nil,List.append_nil,List.append_assoc];rw[qAV hx.1 hx.2,ih (fun y hy=>hl y (by simp[hy])),List.append_assoc]
 unfold qey xe;simp only[List.flatMap_cons];rw[h _ hd.wid,List.append_assoc]
theorem qmS{l:List Int}{j:Nat}{x:Int}(h:l[j]?=some x):qfg (l.flatMap (xr 4)) (4*j) 4=xr 4 x:=by
 unfold qfg
 induction l generalizing j with
 | nil=>cases h
 | cons a l ih =>
  cases j with
  | zero =>
   cases h;rw[List.flatMap_cons,Nat.mul_zero,List.drop_zero,List.take_append_of_le_length (by rw[zQ];exact Nat.le_refl _),List.take_of_length_le (by rw[zQ];exact Nat.le_refl _)]
  | succ j =>
   rw[List.flatMap_cons,List.drop_append,zQ,List.drop_eq_nil_of_le (by rw[zQ];omega),List.nil_append,show 4*(j+1)-4=4*j from by omega]
   exact ih (by simpa using h)
theorem qjm(d:GData):(qey d).length=64:=rfl
theorem qk9:∀(n:Nat) (x:Int),xr (n+1) x=xr n x++[x / 256 ^ n % 256]
 | 0,x=>by simp[xr]
 | n+1,x=>by
  show x % 256::xr (n+1) (x / 256)=x % 256::(xr n (x / 256)++_);rw[qk9 n,Int.ediv_ediv_of_nonneg (by decide),show (256:Int)*256 ^ n=256 ^ (n+1) from by rw[Int.pow_succ];exact Int.mul_comm _ _]
def qgf(n j:Nat)(x:Int):List Int:=xr j x++List.replicate (n-j) 0
theorem qmO{n j:Nat}{x:Int}(h:j<=n):(qgf n j x).length=n:=by unfold qgf;rw[List.length_append,zQ,List.length_replicate];omega
theorem qqw{n j:Nat}{x:Int}(h:j<n):(qgf n j x).set j (x / 256 ^ j % 256)=qgf n (j+1) x:=by
 unfold qgf;rw[List.set_append_right _ _ (by rw[zQ];exact Nat.le_refl _),zQ,Nat.sub_self,qk9,show n-j=(n-(j+1))+1 from by omega,List.replicate_succ,List.append_assoc]
 rfl
theorem qA3(n:Nat):(List.replicate n [AV.i .u8 0]).flatten=rB (qgf n 0 0):=by
 unfold qgf;simp only[xr,List.nil_append,Nat.sub_zero]
 induction n with
 | zero=>rfl
 | succ n ih=>rw[List.replicate_succ,List.replicate_succ,List.flatten_cons,ih];rfl
def qb0:IFn:=⟨[.tmp 4],.seq (.r [.m 4 .N]) (.seq (.r [.n 7 1,.q 8 (.mkS 1 1 [.i .u8 0] (.t 7) (.t 7)),.n 5 8]) (.seq (.seq (.r [.m 6 (.k 0)]) (.blk 0 (.loop (.seq (.seq (.r [.n 9 6,.n 10 1,.s 11 9 10]) (.cond (.t 11) (.skip) (.exit 0))) (.seq (.blk 1 (.seq (.r [.n 14 5,.n 15 6,.n 16 0,.q 17 (.bin .rem (.t 16) (.c (.i .u64 256))),.q 18 (.cvInt .u8 (.t 17)),.i 19 1 14 15,.u (.store 1 (.t 19) (.t 18))]) (.r [.n 20 0,.q 21 (.bin .quo (.t 20) (.c (.i .u64 256))),.n 0 21]))) (.r [.n 12 6,.a 13 12 1,.n 6 13])))))) (.seq (.r [.n 22 5,.n 4 22]) (.ret))))⟩
theorem qE8(hc:qd P f qb0=true)(x:Int)(h0:0<=x)(h1:x<18446744073709551616)(n:Nat)(hn:n<=8):Own P f [.i .u64 x,.i .i64 n] (.sl 0 0 n n false) [.cells 0 true false (rB (xr n x))]:=by
 refine Own.mk hc rfl ?_;have hr1:n<=qh:=by simp only[qh];omega
 have hr3:1*n<=qh:=by simp only[qh];omega
 simp only[qb0,vI,simprocAttr];simp +decide only[↓vS,vT,simprocAttr,hr1,hr3,qA3];have h256:(256:Int)≠0:=by decide
 refine SL.loop (α:=Nat) (fun j=>[(0,.i .u64 (x / 256 ^ j)),(1,.i .i64 (n:Int)),(5,.sl 0 0 n n false),(6,.i .i64 (j:Int))]) (fun j=>[.cells 0 true false (rB (qgf n j x))]) (fun j=>j<=n) (fun j=>n-j) 0 [0] ?_ ?_ ?_ rfl ?_ ?_
 ·simp[vw]
 ·simp[vw,qc,qaz,qgf,xr]
 ·simp
 ·exact Nat.zero_le _
 rintro j hj G ih;simp only[vI,simprocAttr]
 by_cases hlt:j<n
 ·have y0:0<=x / 256 ^ j:=Int.ediv_nonneg h0 (Int.le_of_lt (Int.pow_pos (by decide)));have y1:x / 256 ^ j<18446744073709551616:=Int.lt_of_le_of_lt (Int.ediv_le_self _ h0) h1;have hyn:x / 256 ^ j / 256=x / 256 ^ (j+1):=by rw[Int.ediv_ediv_of_nonneg (Int.le_of_lt (Int.pow_pos (by decide))),Int.pow_succ]
  have hst:=qlU (k:=.u8) (L:=qgf n j x) (j:=j) (by rw[qmO hj];exact hlt) (x / 256 ^ j % 256);rw[qqw hlt] at hst;have hle:j+1<=(rB (qgf n j x)).length:=by rw[qjZ,qmO hj];exact hlt
  have ih2:=ih (j+1) hlt (by omega);rw[← hyn] at ih2;generalize x / 256 ^ j=y at y0 y1 hst ih2;have hst:(rB (qgf n j x)).take j++(AV.i .u8 (y % 256)::(rB (qgf n j x)).drop (j+1))=rB (qgf n (j+1) x):=hst;have hm:y.tmod 256=y % 256:=Int.tmod_eq_emod_of_nonneg y0;have hd:y.tdiv 256=y / 256:=Int.tdiv_eq_ediv_of_nonneg y0;have hw8:IntKind.wrap .u8 (y % 256)=y % 256:=by show (y % 256) % 256=_;omega
  have hwd:IntKind.wrap .u64 (y / 256)=y / 256:=by show (y / 256) % 18446744073709551616=_;omega
  have w1:IntKind.wrap .i64 ((j:Int)+1)=((j+1:Nat):Int):=by rw[qm (by omega) (by omega)];omega
  simp +decide only[↓vS,vT,simprocAttr,hlt,↓xR h256,↓zn h256,hm,hd,hw8,hwd,Nat.mul_one,hle,hst,w1];refine ih2 _ _ (Wk.mk _ _ [0] ?_ ?_ ?_ rfl)
  ·simp[vw]
  ·simp[vw,qc,qaz]
  ·simp
 ·obtain rfl:j=n:=by omega
  simp +decide only[↓vS,vT,simprocAttr,hlt];have hf:qgf j j x=xr j x:=by unfold qgf;rw[Nat.sub_self];exact List.append_nil _
  rw[hf];intro _;refine⟨[0],?_⟩;simp[vw,qc,qaz]
def qy3(P:Program)(g:Nat):Prop:=∀x:Int,0<=x->x<18446744073709551616->∀n:Nat,n<=8->Own P g [.i .u64 x,.i .i64 n] (.sl 0 0 n n false) [.cells 0 true false (rB (xr n x))]
def qbk(a:Nat):IFn:=⟨[.tmp 2],.seq (.r [.q 1 (.box (.t 0)),.m 2 .N]) (.seq (.r [.f 5 0 1,.d 6 5,.q 7 (.cvInt .u64 (.t 6)),.l 8 a [.t 7,.k 4],.n 3 8]) (.seq (.r [.n 9 3,.f 10 1 1,.d 11 10,.q 12 (.cvInt .u64 (.t 11)),.l 13 a [.t 12,.k 4],.q 14 (.app 1 1 true (.t 9) (.t 13)),.n 3 14]) (.seq (.r [.n 15 3,.f 16 2 1,.d 17 16,.l 18 a [.t 17,.k 8],.q 19 (.app 1 1 true (.t 15) (.t 18)),.n 3 19]) (.seq (.seq (.r [.m 4 (.k 0)]) (.blk 0 (.loop (.seq (.seq (.r [.n 20 4,.w 21 .lss 20 6]) (.cond (.t 21) (.skip) (.exit 0))) (.seq (.blk 1 (.r [.n 24 3,.n 25 4,.f 26 3 1,.q 27 (.iAddrA 6 1 (.t 26) (.t 25)),.d 28 27,.l 29 a [.t 28,.k 8],.q 30 (.app 1 1 true (.t 24) (.t 29)),.n 3 30])) (.r [.n 22 4,.a 23 22 1,.n 4 23])))))) (.seq (.r [.n 31 3,.n 2 31]) (.ret))))))⟩
theorem qEu{g:Nat}(hc:qd P f (qbk g)=true)(hg:qy3 P g)(d:GData)(hd:DatOk d):qf P f [.agg (qX d)] (.fz 64 (rB (qey d))):=by
 refine qf.mk hc rfl ?_;have q1:=hd.nr0;have q2:=hd.nr1;have q3:=hd.ar0;have q4:=hd.ar1;have w1:IntKind.wrap .u64 d.nr=d.nr:=by show d.nr % 18446744073709551616=_;omega
 have w2:IntKind.wrap .u64 d.arch=d.arch:=by show d.arch % 18446744073709551616=_;omega
 have hip:=hd.wid d.ip (by simp[qeu]);have tk:∀n x,List.take n (rB (xr n x))=rB (xr n x):=fun n x=>List.take_of_length_le (by rw[qjZ,zQ];exact Nat.le_refl _)
 simp only[qbk,qX,vI,simprocAttr];simp +decide only[↓vS,vT,simprocAttr,w1];refine (hg d.nr q1 (by omega) 4 (by omega)).sc ?_;simp only[vJ,simprocAttr,zK (qaz _)];simp +decide only[↓vS,vT,simprocAttr,w2];refine (hg d.arch q3 (by omega) 4 (by omega)).sc ?_;simp only[vJ,simprocAttr,zK (qaz _)];simp +decide only[↓vS,vT,simprocAttr,qjZ,zQ,tk];have rBo:∀a:List Int,qD (rB a)=true:=fun a=>qym
 have rBa:∀a b:List Int,rB a++rB b=rB (a++b):=fun a b=>qA0
 refine (hg d.ip hip.1 hip.2 8 (by omega)).sc ?_;simp only[vJ,simprocAttr,zK (qaz _),rBa];have hl8:(xr 4 d.nr++xr 4 d.arch).length=8:=by rw[List.length_append,zQ,zQ]
 simp +decide only[↓vS,vT,simprocAttr,qjZ,zQ,hl8,rBa,tk,rBo,Nat.mul_one]
 refine SL.loop (α:=Nat) (fun j=>[(1,.ptr 0 0),(3,.own 1 (16+8*j)),(4,.i .i64 (j:Int))]) (fun j=>[.cells 0 true false (qX d),.cells 1 true true (rB (xr 4 d.nr++xr 4 d.arch++xr 8 d.ip++((qeu d).drop 1 |>.take j).flatMap (xr 8)))])
  (fun j=>j<=6) (fun j=>6-j) 0 [0,5] ?_ ?_ ?_ rfl ?_ ?_
 ·simp[vw]
 ·simp[vw,qX,qc,qaz]
 ·simp
 ·exact Nat.zero_le _
 rintro j hj G ih;simp only[vI,simprocAttr]
 by_cases hlt:j<6
 ·have hlt':(j:Int)<6:=by omega
  obtain⟨x,hx,hc3⟩:∃x,((qeu d).drop 1)[j]?=some x∧(qX d)[3+j]?=some (.i .u64 x):=by
   have:j=0∨j=1∨j=2∨j=3∨j=4∨j=5:=by omega
   rcases this with rfl|rfl|rfl|rfl|rfl|rfl<;>exact⟨_,rfl,rfl⟩
  have hxr:=hd.wid x (List.mem_of_mem_drop (zzM hx));have htk:((qeu d).drop 1).take (j+1)=((qeu d).drop 1).take j++[x]:=by rw[List.take_add_one,hx];rfl
  have w4:IntKind.wrap .i64 ((j:Int)+1)=((j+1:Nat):Int):=by rw[qm (by omega) (by omega)];omega
  have ih2:=ih (j+1) hlt (by omega);rw[htk,List.flatMap_append,← List.append_assoc] at ih2
  have hfl:∀l:List Int,(l.flatMap (xr 8)).length=8*l.length:=by
   intro l
   induction l with
   | nil=>rfl
   | cons a l ih=>rw[List.flatMap_cons,List.length_append,zQ,ih,List.length_cons];omega
  have hll:(((qeu d).drop 1).take j).length=j:=by rw[List.length_take];simp[qeu];omega
  obtain⟨A,hA⟩:∃A,A=xr 4 d.nr++xr 4 d.arch++xr 8 d.ip++(((qeu d).drop 1).take j).flatMap (xr 8):=⟨_,rfl⟩;have hAl:A.length=16+8*j:=by rw[hA,List.length_append,List.length_append,List.length_append,zQ,zQ,zQ,hfl,hll]
  rw[← hA] at ih2 ⊢;have hone:List.flatMap (xr 8) [x]=xr 8 x:=by simp
  rw[hone] at ih2;have hr1:16+8*j+8<=qh:=by simp only[qh];omega
  have hr2:(16+8*j+8)*1<=qh:=by simp only[qh];omega
  have hcc:qw (qX d)=true:=rfl;generalize hC:qX d=C at hc3 hcc ih2 ⊢;simp +decide only[↓vS,vT,simprocAttr,hlt',hlt,Nat.mul_one,hc3];refine (hg x hxr.1 hxr.2 8 (by omega)).sc ?_;simp only[vJ,simprocAttr,zK (qaz _)];simp +decide only[↓vS,vT,simprocAttr,qjZ,zQ,hAl,rBa,tk,rBo,Nat.mul_one,hr1,hr2,w4];refine ih2 _ _ (Wk.mk _ _ [0,3] ?_ ?_ ?_ rfl)
  ·simp[vw];omega
  ·simp[vw,qc,qaz,hcc]
  ·simp
 ·obtain rfl:j=6:=by omega
  have hb:qey d=xr 4 d.nr++xr 4 d.arch++xr 8 d.ip++((qeu d).drop 1 |>.take 6).flatMap (xr 8):=by
   rw[qqa hd];simp[qeu]
  rw[hb];simp +decide only[↓vS,vT,simprocAttr];simp[vZ,vP,Tr.get_set,qQ (qaz _)]
def qbE(a b:Nat):IFn:=⟨[.tmp 4,.tmp 5],.seq (.r [.q 2 (.box (.t 0)),.m 4 (.c (.i .u32 0)),.m 5 (.k 0)]) (.seq (.seq (.r [.n 8 1,.q 9 (.bin .rem (.t 8) (.c (.i .u32 4))),.q 10 (.bin .neq (.t 9) (.c (.i .u32 0))),.n 11 10,.z 12 1 11,.g 13 (.bin .gtr (.t 12) (.c (.i .u32 60))) 11 false,.o 14 11 13]) (.cond (.t 14) (.seq (.r [.m 4 (.c (.i .u32 0)),.m 5 (.k 41)]) (.ret)) (.skip))) (.seq (.r [.v 16 9 2,.l 17 a [.t 16],.n 18 1,.q 19 (.cvInt .i64 (.t 18)),.l 20 b [.t 17,.t 19,.k 4],.n 15 20,.x 21 15 0,.x 22 15 1,.n 6 21,.n 7 22]) (.seq (.r [.n 23 6,.q 24 (.cvInt .u32 (.t 23)),.n 4 24,.m 5 (.k 0)]) (.ret))))⟩
theorem qFB{g1 g2:Nat}(hc:qd P f (qbE g1 g2)=true)(h1:∀d,DatOk d->qf P g1 [.agg (qX d)] (.fz 64 (rB (qey d))))(h2:qCW P g2)(d:GData)(hd:DatOk d)(k:Int)(h0:0<=k)(hk1:k<=4294967295):qf P f [.agg (qX d),.i .u32 k] (qiJ d k):=by
 refine qf.mk hc rfl ?_;have h40:(4:Int)≠0:=by decide
 have ht:k.tmod 4=k % 4:=Int.tmod_eq_emod_of_nonneg h0;have hg:=h1 d hd;unfold qiJ;simp only[qbE,qX,vI,simprocAttr] at hg ⊢
 by_cases hm:k % 4=0
 ·by_cases hb:60<k
  ·rw[if_pos (.inr (by omega))];simp +decide only[↓vS,vT,simprocAttr,↓xR h40,ht,hm,hb];simp[vZ]
  ·rw[if_neg (by omega)];obtain⟨j,hj⟩:∃j:Nat,k=((4*j:Nat):Int):=⟨(k / 4).toNat,by omega⟩
   have hn:j<16:=by omega
   obtain⟨x,hx⟩:∃x,(xe d)[j]?=some x:=⟨_,zzE hn⟩;have hjk:(k / 4).toNat=j:=by omega
   rw[hjk,List.getD_eq_getElem?_getD,hx]
   have hxr:0<=x∧x<=4294967295:=by
    have hm:=zzM hx;unfold xe at hm;rcases List.mem_cons.1 hm with rfl|hm
    ·exact⟨hd.nr0,hd.nr1⟩
    rcases List.mem_cons.1 hm with rfl|hm
    ·exact⟨hd.ar0,hd.ar1⟩
    obtain⟨y,hy,hm⟩:=List.mem_flatMap.1 hm;have:=hd.wid y hy;simp only[List.mem_cons,List.not_mem_nil,or_false] at hm;rcases hm with rfl|rfl
    ·unfold loW;omega
    ·unfold hiW;omega
   have hbo:qda (qey d):=fun y hy=>by
    obtain⟨z,_,hz⟩:=List.mem_flatMap.1 hy;exact qps 4 z y hz
   have hget:=h2 (qey d) hbo (by rw[qjm];decide) (4*j) (by omega) 4 (by decide);unfold qvV at hget;rw[qjm,if_pos (by omega),show qfg (qey d) (4*j) 4=xr 4 x from qmS hx,qta hxr.1 hxr.2] at hget
   have hw:IntKind.wrap .i64 k=((4*j:Nat):Int):=by rw[qm (by omega) (by omega)];exact hj
   have hwx:IntKind.wrap .u32 x=x:=by show x % 4294967296=_;omega
   simp +decide only[↓vS,vT,simprocAttr,↓xR h40,ht,hm,hb];refine hg.sc ?_;simp +decide only[↓vS,vT,simprocAttr,hw];refine hget.sc ?_;simp +decide only[↓vS,vT,simprocAttr,hwx];simp[vZ]
 ·rw[if_pos (.inl hm)];simp +decide only[↓vS,vT,simprocAttr,↓xR h40,ht,hm];simp[vZ]
def qCS(c:Int):Bool:=!decide (jq .u16 c 8=0)
def zT(c:Int):Bool:=(decide (qn c=3)||decide (qn c=4))&&qCS c
def qs7(s:List UInt8):Bool:=decide (((s.getD (s.length-1) 0).toNat:Int)=120)
theorem qyn:∀x ∈ jL,x.2.1≠[]∧(x.2.2=3∨x.2.2=4->qs7 x.2.1=qCS x.1):=by decide
def qbj(a:Nat):IFn:=⟨[.tmp 2],.seq (.r [.m 2 .F]) (.seq (.r [.n 4 0,.l 5 a [.t 4],.q 3 (.alloc [.i .u16 0,.s [],.i .u8 0]),.u (.store 3 (.t 3) (.t 5))]) (.seq (.r [.f 6 2 3,.d 7 6,.q 8 (.bin .eql (.t 7) (.c (.i .u8 3))),.n 9 8,.h 10 2 3 9 false,.j 11 10 9 false,.g 12 (.bin .eql (.t 11) (.c (.i .u8 4))) 9 false,.o 13 9 12,.n 14 13,.h 15 1 3 14 true,.j 16 15 14 true,.h 17 1 3 14 true,.j 18 17 14 true,.g 19 (.len true (.t 18)) 14 true,.g 20 (.bin .sub (.t 19) (.k 1)) 14 true,.g 21 (.idxS (.t 16) (.t 20)) 14 true,.g 22 (.bin .eql (.t 21) (.c (.i .u8 120))) 14 true,.p 23 14 22,.n 2 23]) (.ret)))⟩
theorem qEv{g:Nat}(hc:qd P f (qbj g)=true)(hg:qim P g)(c:Int):qf P f [.i .u16 c] (.b (zT c)):=by
 refine qf.mk hc rfl ?_;have hgc:=hg c;unfold zT;simp only[qbj,vI,simprocAttr];simp +decide only[↓vS,vT,simprocAttr];refine hgc.sc ?_;cases hcm:qC c with
 | none =>
  have h0:qn c=0:=by unfold qn;rw[hcm];rfl
  rw[h0];simp +decide only[↓vS,vT,simprocAttr,zG,zE];simp[vZ]
 | some x =>
  obtain⟨hxm,hxc⟩:=qec hcm;have hcl:qn c=x.2.2:=by unfold qn;rw[hcm];rfl
  obtain⟨hne,hlx⟩:=qyn x hxm;rw[hcl,← hxc];have hpos:0<x.2.1.length:=List.length_pos_iff.2 hne
  have hlen:x.2.1.length<=1000:=by
   have:∀y ∈ jL,y.2.1.length<=1000:=by decide
   exact this x hxm
  have hw:IntKind.wrap .i64 ((x.2.1.length:Int)-1)=((x.2.1.length-1:Nat):Int):=by rw[qm (by omega) (by omega)];omega
  obtain⟨b,hb⟩:∃b,x.2.1[x.2.1.length-1]?=some b:=⟨_,zzE (by omega)⟩;have hlast:qs7 x.2.1=decide ((b.toNat:Int)=120):=by unfold qs7;rw[List.getD_eq_getElem?_getD,hb];rfl
  rw[hlast] at hlx;have hidx:x.2.1.length-1<x.2.1.length:=by omega
  obtain⟨xc,xs,xk⟩:=x;simp only at hlx hw hb hidx hpos ⊢
  by_cases h3:xk=3
  ·rw[← hlx (.inl h3)];simp +decide only[↓vS,vT,simprocAttr,zG,x8,h3,hw,hidx,hb];simp[vZ,h3]
  by_cases h4:xk=4
  ·rw[← hlx (.inr h4)];simp +decide only[↓vS,vT,simprocAttr,zG,x8,h3,h4,hw,hidx,hb];simp[vZ,h3,h4]
  ·simp +decide only[↓vS,vT,simprocAttr,zG,x8,h3,h4];simp[vZ,h3,h4]
def qe7(left:Bool):Nat->Int->Int
 | 0,a=>a
 | n+1,a=>qe7 left n (if left=true then a*2 % 4294967296 else a / 2)
def qaD:IFn:=⟨[.tmp 6],.seq (.r [.m 6 (.c (.i .u32 0))]) (.seq (.blk 0 (.loop (.seq (.seq (.r [.n 7 2,.q 8 (.bin .gtr (.t 7) (.c (.i .u32 0)))]) (.cond (.t 8) (.skip) (.exit 0))) (.seq (.blk 1 (.seq (.r [.n 11 1]) (.cond (.t 11) (.r [.n 12 0,.q 13 (.bin .mul (.t 12) (.c (.i .u32 2))),.n 0 13]) (.r [.n 14 0,.q 15 (.bin .quo (.t 14) (.c (.i .u32 2))),.n 0 15])))) (.r [.n 9 2,.q 10 (.bin .sub (.t 9) (.c (.i .u32 1))),.n 2 10]))))) (.seq (.r [.n 16 0,.n 6 16]) (.ret)))⟩
theorem qCh(hc:qd P f qaD=true)(a:Int)(h0:0<=a)(h1:a<=4294967295)(left:Bool)(n:Nat)(hn:n<=31):qf P f [.i .u32 a,.b left,.i .u32 n] (.i .u32 (qe7 left n a)):=by
 refine qf.mk hc rfl ?_;have h2:(2:Int)≠0:=by decide
 simp only[qaD,vI,simprocAttr];simp +decide only[↓vS,vT,simprocAttr];refine SL.loop (α:=Nat×Int) (fun s=>[(0,.i .u32 s.2),(1,.b left),(2,.i .u32 (s.1:Int))]) (fun _=>[]) (fun s=>s.1<=31∧0<=s.2∧s.2<=4294967295∧qe7 left s.1 s.2=qe7 left n a) (fun s=>s.1) (n,a) [] ?_ ?_ ?_ rfl ?_ ?_
 ·simp[vw]
 ·trivial
 ·simp
 ·exact⟨hn,h0,h1,rfl⟩
 rintro⟨k,b⟩ ⟨hk,b0,b1,hI⟩ G ih;simp only at hk b0 b1 hI;simp only[vI,simprocAttr]
 by_cases hz:k=0
 ·subst hz;have hI:b=qe7 left n a:=hI;simp +decide only[↓vS,vT,simprocAttr];simp[vZ,hI]
 ·obtain⟨k,rfl⟩:∃k',k=k'+1:=⟨k-1,by omega⟩
  have hpos:(0:Int)<((k+1:Nat):Int):=by omega
  have hw:IntKind.wrap .u32 (((k+1:Nat):Int)-1)=(k:Int):=by show (((k+1:Nat):Int)-1) % 4294967296=_;omega
  have hmul:IntKind.wrap .u32 (b*2)=b*2 % 4294967296:=rfl;have hd:b.tdiv 2=b / 2:=Int.tdiv_eq_ediv_of_nonneg b0;have hwd:IntKind.wrap .u32 (b / 2)=b / 2:=by show (b / 2) % 4294967296=_;omega
  have hI2:qe7 left k (if left=true then b*2 % 4294967296 else b / 2)=qe7 left n a:=hI
  cases left with
  | true =>
   rw[if_pos rfl] at hI2;simp +decide only[↓vS,vT,simprocAttr,hpos,hmul,hw];refine ih (k,b*2 % 4294967296) ⟨by simp only;omega,by simp only;omega,by simp only;omega,hI2⟩ (by simp only;omega) _ _ (Wk.mk _ _ [] ?_ ?_ ?_ rfl)
   ·simp[vw]
   ·trivial
   ·simp
  | false =>
   rw[if_neg (by simp)] at hI2;simp +decide only[↓vS,vT,simprocAttr,hpos,↓zn h2,hd,hwd,hw];refine ih (k,b / 2) ⟨by simp only;omega,by simp only;omega,by simp only;omega,hI2⟩ (by simp only;omega) _ _ (Wk.mk _ _ [] ?_ ?_ ?_ rfl)
   ·simp[vw]
   ·trivial
   ·simp
structure Mac where
 a:Int
 x:Int
 told:Int
 cl:List Int
 over:Bool
def u32(x:Int):Prop:=0<=x∧x<=4294967295
structure MacOk (m:Mac):Prop where
 a:u32 m.a
 x:u32 m.x
 told:u32 m.told
 len:m.cl.length=16
 cl:∀c ∈ m.cl,u32 c
def zP(m:Mac):List AV:=.i .u32 m.a :: .i .u32 m.x :: .i .u32 m.told::(rI .u32 m.cl++[.b m.over])
theorem qdb{m:Mac}(h:m.cl.length=16):(zP m).length=20:=by
 show (rI .u32 m.cl++[AV.b m.over]).length+3=20;rw[List.length_append,qbO,h];rfl
theorem qj{m:Mac}:qw (zP m)=true:=by
 show qw (rI .u32 m.cl++[AV.b m.over])=true;rw[qip,qf7];rfl
theorem qqb{m:Mac}{k:Nat}{c:Int}(h:m.cl[k]?=some c):(zP m)[3+k]?=some (.i .u32 c):=by
 rw[show 3+k=k+3 from by omega]
 show (rI .u32 m.cl++[AV.b m.over])[k]?=_;rw[List.getElem?_append_left (by rw[qbO];exact (zzS.1 h).1),qh8,h];rfl
theorem qqc{m:Mac}(h:m.cl.length=16):(zP m)[19]?=some (.b m.over):=by
 show (rI .u32 m.cl++[AV.b m.over])[16]?=_;rw[List.getElem?_append_right (by rw[qbO,h];exact Nat.le_refl _),qbO,h];rfl
theorem qqd{m:Mac}{k:Nat}(h:k<m.cl.length)(v:Int):List.take (3+k) (zP m)++(AV.i .u32 v::List.drop (3+k+1) (zP m))=zP { m with cl:=m.cl.set k v }:=by
 have e:List.take k (rI .u32 m.cl++[AV.b m.over])++(AV.i .u32 v::List.drop (k+1) (rI .u32 m.cl++[AV.b m.over]))=rI .u32 (m.cl.set k v)++[AV.b m.over]:=by
  rw[List.take_append_of_le_length (by rw[qbO];omega),List.drop_append_of_le_length (by rw[qbO];omega),← qlU h v,List.append_assoc];rfl
 rw[show 3+k=k+3 from by omega]
 show AV.i .u32 m.a::AV.i .u32 m.x::AV.i .u32 m.told::(List.take k (rI .u32 m.cl++[AV.b m.over])++(AV.i .u32 v::List.drop (k+1) (rI .u32 m.cl++[AV.b m.over])))=_;rw[e];rfl
def qlI(i:Ins):Bool:=decide (i.code=96)||decide (i.code=97)||decide (i.code=2)||decide (i.code=3)
def qgv(m:Mac)(i:Ins)(d:GData):Mac×Int :=
 if qlI i=true∧15<i.k then (m,43)
 else if i.code=32 then (if i.k % 4≠0∨64<=i.k then (m,41) else ({ m with a:=(xe d).getD (i.k / 4).toNat 0 },0))
 else if i.code=128 then ({ m with a:=64 },0)
 else if i.code=129 then ({ m with x:=64 },0)
 else if i.code=0 then ({ m with a:=i.k },0)
 else if i.code=1 then ({ m with x:=i.k },0)
 else if i.code=96 then ({ m with a:=m.cl.getD i.k.toNat 0 },0)
 else if i.code=97 then ({ m with x:=m.cl.getD i.k.toNat 0 },0)
 else if i.code=2 then ({ m with cl:=m.cl.set i.k.toNat m.a },0)
 else if i.code=3 then ({ m with cl:=m.cl.set i.k.toNat m.x },0)
 else if i.code=7 then ({ m with x:=m.a },0)
 else if i.code=135 then ({ m with a:=m.x },0)
 else (m,0)
def qr9(P:Program)(g:Nat):Prop:=∀d,DatOk d->∀k:Int,0<=k->k<=4294967295->qf P g [.agg (qX d),.i .u32 k] (qiJ d k)
def jm(a:Nat):IFn:=⟨[.tmp 6],.seq (.r [.q 4 (.box (.t 1)),.q 5 (.box (.t 2)),.m 6 (.k 0)]) (.seq (.r [.f 10 0 4,.d 11 10,.q 12 (.bin .eql (.t 11) (.c (.i .u16 96))),.n 13 12,.h 14 0 4 13 false,.j 15 14 13 false,.g 16 (.bin .eql (.t 15) (.c (.i .u16 97))) 13 false,.o 17 13 16,.n 18 17,.h 19 0 4 18 false,.j 20 19 18 false,.g 21 (.bin .eql (.t 20) (.c (.i .u16 2))) 18 false,.o 22 18 21,.n 23 22,.h 24 0 4 23 false,.j 25 24 23 false,.g 26 (.bin .eql (.t 25) (.c (.i .u16 3))) 23 false,.o 27 23 26,.n 7 27]) (.seq (.seq (.r [.n 28 7,.n 29 28,.h 30 3 4 29 true,.j 31 30 29 true,.g 32 (.bin .gtr (.t 31) (.c (.i .u32 15))) 29 true,.p 33 29 32]) (.cond (.t 33) (.seq (.r [.m 6 (.k 43)]) (.ret)) (.skip))) (.seq (.seq (.r [.f 34 0 4,.d 35 34]) (.blk 0 (.seq (.r [.q 37 (.bin .eql (.t 35) (.c (.i .u16 32))),.n 36 37]) (.cond (.t 36) (.seq (.r [.v 39 9 5,.f 40 3 4,.d 41 40,.l 42 a [.t 39,.t 41],.n 38 42,.x 43 38 0,.x 44 38 1,.n 8 43,.n 9 44]) (.seq (.seq (.r [.n 45 9,.w 46 .neq 45 0]) (.cond (.t 46) (.seq (.r [.n 47 9,.n 6 47]) (.ret)) (.skip))) (.r [.n 48 0,.n 49 8,.q 50 (.nilChk (.t 48)),.f 51 0 50,.u (.store 1 (.t 51) (.t 49))]))) (.seq (.r [.q 53 (.bin .eql (.t 35) (.c (.i .u16 128))),.n 52 53]) (.cond (.t 52) (.r [.n 54 0,.q 55 (.nilChk (.t 54)),.f 56 0 55,.u (.store 1 (.t 56) (.c (.i .u32 64)))]) (.seq (.r [.q 58 (.bin .eql (.t 35) (.c (.i .u16 129))),.n 57 58]) (.cond (.t 57) (.r [.n 59 0,.q 60 (.nilChk (.t 59)),.f 61 1 60,.u (.store 1 (.t 61) (.c (.i .u32 64)))]) (.seq (.r [.q 63 (.bin .eql (.t 35) (.c (.i .u16 0))),.n 62 63]) (.cond (.t 62) (.r [.n 64 0,.f 65 3 4,.d 66 65,.q 67 (.nilChk (.t 64)),.f 68 0 67,.u (.store 1 (.t 68) (.t 66))]) (.seq (.r [.q 70 (.bin .eql (.t 35) (.c (.i .u16 1))),.n 69 70]) (.cond (.t 69) (.r [.n 71 0,.f 72 3 4,.d 73 72,.q 74 (.nilChk (.t 71)),.f 75 1 74,.u (.store 1 (.t 75) (.t 73))]) (.seq (.r [.q 77 (.bin .eql (.t 35) (.c (.i .u16 96))),.n 76 77]) (.cond (.t 76) (.reg true [.n 78 0,.n 79 0,.f 80 3 4,.d 81 80,.q 82 (.nilChk (.t 79)),.f 83 3 82,.q 84 (.iAddrA 16 1 (.t 83) (.t 81)),.d 85 84,.q 86 (.nilChk (.t 78)),.f 87 0 86,.u (.store 1 (.t 87) (.t 85))]) (.seq (.r [.q 89 (.bin .eql (.t 35) (.c (.i .u16 97))),.n 88 89]) (.cond (.t 88) (.reg true [.n 90 0,.n 91 0,.f 92 3 4,.d 93 92,.q 94 (.nilChk (.t 91)),.f 95 3 94,.q 96 (.iAddrA 16 1 (.t 95) (.t 93)),.d 97 96,.q 98 (.nilChk (.t 90)),.f 99 1 98,.u (.store 1 (.t 99) (.t 97))]) (.seq (.r [.q 101 (.bin .eql (.t 35) (.c (.i .u16 2))),.n 100 101]) (.cond (.t 100) (.reg true [.n 102 0,.f 103 3 4,.d 104 103,.n 105 0,.q 106 (.nilChk (.t 105)),.f 107 0 106,.d 108 107,.q 109 (.nilChk (.t 102)),.f 110 3 109,.q 111 (.iAddrA 16 1 (.t 110) (.t 104)),.u (.store 1 (.t 111) (.t 108))]) (.seq (.r [.q 113 (.bin .eql (.t 35) (.c (.i .u16 3))),.n 112 113]) (.cond (.t 112) (.reg true [.n 114 0,.f 115 3 4,.d 116 115,.n 117 0,.q 118 (.nilChk (.t 117)),.f 119 1 118,.d 120 119,.q 121 (.nilChk (.t 114)),.f 122 3 121,.q 123 (.iAddrA 16 1 (.t 122) (.t 116)),.u (.store 1 (.t 123) (.t 120))]) (.seq (.r [.q 125 (.bin .eql (.t 35) (.c (.i .u16 7))),.n 124 125]) (.cond (.t 124) (.r [.n 126 0,.n 127 0,.q 128 (.nilChk (.t 127)),.f 129 0 128,.d 130 129,.q 131 (.nilChk (.t 126)),.f 132 1 131,.u (.store 1 (.t 132) (.t 130))]) (.seq (.r [.q 134 (.bin .eql (.t 35) (.c (.i .u16 135))),.n 133 134]) (.cond (.t 133) (.r [.n 135 0,.n 136 0,.q 137 (.nilChk (.t 136)),.f 138 1 137,.d 139 138,.q 140 (.nilChk (.t 135)),.f 141 0 140,.u (.store 1 (.t 141) (.t 139))]) (.skip))))))))))))))))))))))))) (.seq (.r [.m 6 (.k 0)]) (.ret)))))⟩
set_option maxRecDepth 8000 in
theorem qEZ{g:Nat}(hc:qd P f (jm g)=true)(hg:qr9 P g)(m:Mac)(hm:MacOk m)(i:Ins)(hi:InsOk i)(d:GData)(hd:DatOk d) :
  Upd P f [.ptr 0 0,.agg (zy i),.agg (qX d)] [.cells 0 true false (zP m)] (.i .i64 (qgv m i d).2) [.cells 0 true false (zP (qgv m i d).1)]:=by
 refine Upd.mk hc (by simp[qa0,bnd,zy,qX]) (by simp) ?_;have hl:=qdb hm.len;have hcc:=qj (m:=m);have k0:=hi.k0;have hw:=hg d hd i.k hi.k0 hi.k1;unfold qiJ at hw;unfold qgv qlI;simp only[qX] at hw;have g0:(zP m)[0]?=some (.i .u32 m.a):=rfl;have g1:(zP m)[1]?=some (.i .u32 m.x):=rfl;have s0:∀v:Int,AV.i .u32 v::List.drop 1 (zP m)=zP { m with a:=v }:=fun _=>rfl
 have s1:∀v:Int,List.take 1 (zP m)++(AV.i .u32 v::List.drop 2 (zP m))=zP { m with x:=v }:=fun _=>rfl
 simp only[jm,zy,qX,vI,simprocAttr];have x1:(zP m)[1]?=some (.i .u32 m.x):=rfl
 by_cases c128:i.code=128
 ·simp +decide only[↓vS,vT,simprocAttr,c128,hl,s0];intro _;refine⟨[0],?_⟩;simp[vw,qc,qj,c128]
 by_cases c129:i.code=129
 ·simp +decide only[↓vS,vT,simprocAttr,c129,hl,s1];intro _;refine⟨[0],?_⟩;simp[vw,qc,qj,c129]
 by_cases c0:i.code=0
 ·simp +decide only[↓vS,vT,simprocAttr,c0,hl,s0];intro _;refine⟨[0],?_⟩;simp[vw,qc,qj,c0]
 by_cases c1:i.code=1
 ·simp +decide only[↓vS,vT,simprocAttr,c1,hl,s1];intro _;refine⟨[0],?_⟩;simp[vw,qc,qj,c1]
 by_cases c7:i.code=7
 ·simp +decide only[↓vS,vT,simprocAttr,c7,hl,s1,g0];intro _;refine⟨[0],?_⟩;simp[vw,qc,qj,c7]
 by_cases c135:i.code=135
 ·simp +decide only[↓vS,vT,simprocAttr,c135,hl,s0,g1];intro _;refine⟨[0],?_⟩;simp[vw,qc,qj,c135]
 by_cases c32:i.code=32
 ·by_cases hb:i.k % 4≠0∨64<=i.k
  ·rw[if_pos hb] at hw;simp +decide only[↓vS,vT,simprocAttr,c32,hl];refine hw.sc ?_;simp +decide only[↓vS,vT,simprocAttr];intro _;refine⟨[0],?_⟩;simp only[c32,if_pos hb];simp[vw,qc,qj]
  ·rw[if_neg hb] at hw;simp +decide only[↓vS,vT,simprocAttr,c32,hl];refine hw.sc ?_;simp +decide only[↓vS,vT,simprocAttr,hl,s0];intro _;refine⟨[0],?_⟩;simp only[c32,if_neg hb];simp[vw,qc,qj]
 by_cases hcell:i.code=96∨i.code=97∨i.code=2∨i.code=3
 ·by_cases hb:15<i.k
  ·rcases hcell with e|e|e|e<;>(
    simp +decide only[↓vS,vT,simprocAttr,e,hb,hl];intro _;refine⟨[0],?_⟩;simp[vw,qc,qj,e,hb])
  ·have hkl:i.k.toNat<m.cl.length:=by rw[hm.len];omega
   have hk16:i.k.toNat<16:=by omega
   obtain⟨c,hcx⟩:∃c,m.cl[i.k.toNat]?=some c:=⟨_,zzE hkl⟩;obtain⟨n,hn⟩:∃n:Nat,i.k=(n:Int):=⟨i.k.toNat,by omega⟩
   have htn:i.k.toNat=n:=by omega
   rw[htn] at hkl hcx hk16;have gc:=qqb (m:=m) hcx;have sc:=fun v=>qqd (m:=m) hkl v
   have hle:3+n+1<=20:=by omega
   have hb':¬(15:Int)<(n:Int):=by omega
   rcases hcell with e|e|e|e
   ·simp +decide only[↓vS,vT,simprocAttr,e,hn,hb',hl];refine zg ?_;simp +decide only[↓vS,vT,simprocAttr,hl,s0,hk16,gc,Nat.mul_one];intro _;refine⟨[0],?_⟩;simp[vw,qc,qj,e,hn,hb',hcx]
   ·simp +decide only[↓vS,vT,simprocAttr,e,hn,hb',hl];refine zg ?_;simp +decide only[↓vS,vT,simprocAttr,hl,s1,hk16,gc,Nat.mul_one];intro _;refine⟨[0],?_⟩;simp[vw,qc,qj,e,hn,hb',hcx]
   ·simp +decide only[↓vS,vT,simprocAttr,e,hn,hb',hl];refine zg ?_;simp +decide only[↓vS,vT,simprocAttr,hl,g0,hk16,sc,hle,Nat.mul_one];intro _;refine⟨[0],?_⟩;simp[vw,qc,qj,e,hn,hb',hcx]
   ·simp +decide only[↓vS,vT,simprocAttr,e,hn,hb',hl];refine zg ?_;simp +decide only[↓vS,vT,simprocAttr,hl,g1,hk16,sc,hle,Nat.mul_one];intro _;refine⟨[0],?_⟩;simp[vw,qc,qj,e,hn,hb',hcx]
 ·have c96:¬i.code=96:=fun h=>hcell (.inl h)
  have c97:¬i.code=97:=fun h=>hcell (.inr (.inl h))
  have c2:¬i.code=2:=fun h=>hcell (.inr (.inr (.inl h)))
  have c3:¬i.code=3:=fun h=>hcell (.inr (.inr (.inr h)))
  simp +decide only[↓vS,vT,simprocAttr,c128,c129,c0,c1,c7,c135,c32,c96,c97,c2,c3];intro _;refine⟨[0],?_⟩;simp[vw,qc,qj,c128,c129,c0,c1,c7,c135,c32,c96,c97,c2,c3]
def opM(c a b:Int):Int :=
 if c=4 then IntKind.wrap .u32 (a+b) else if c=20 then IntKind.wrap .u32 (a-b) else if c=36 then IntKind.wrap .u32 (a*b)
 else if c=68 then orI .u32 a b else if c=84 then jq .u32 a b else if c=164 then qBM .u32 a b else IntKind.wrap .u32 (0-a)
def zw(m:Mac)(i:Ins):Int:=if zT i.code=true then m.x else i.k
def qO(c:Int):Int:=if zT c=true then c-8 else c
def nuM(m:Mac)(i:Ins):Mac×Int :=
 if qO i.code=52 then (if 0<zw m i then ({ m with a:=m.a / zw m i },0) else if zT i.code=true then ({ m with over:=true },0) else (m,44))
 else if qO i.code=100∨qO i.code=116 then (if zT i.code=false∧31<zw m i then (m,45) else ({ m with a:=qe7 (decide (qO i.code=100)) (zw m i % 32).toNat m.a },0))
 else ({ m with a:=opM (qO i.code) m.a (zw m i) },0)
def c3L:List Int:=[4,12,20,28,36,44,52,60,68,76,84,92,100,108,116,124,164,172,132]
theorem qBs:∀x ∈ jL,x.2.2=3->c3L.contains x.1=true:=by decide
theorem qkI{m:Mac}(h:m.cl.length=16)(v:Bool):List.take 19 (zP m)++(AV.b v::List.drop 20 (zP m))=zP { m with over:=v }:=by
 have e:List.take 16 (rI .u32 m.cl++[AV.b m.over])++(AV.b v::List.drop 17 (rI .u32 m.cl++[AV.b m.over]))=rI .u32 m.cl++[AV.b v]:=by
  rw[List.take_append_of_le_length (by rw[qbO,h];exact Nat.le_refl _),List.take_of_length_le (by rw[qbO,h];exact Nat.le_refl _),List.drop_eq_nil_of_le (by rw[List.length_append,qbO,h];exact Nat.le_refl _)]
 show AV.i .u32 m.a::AV.i .u32 m.x::AV.i .u32 m.told::(List.take 16 (rI .u32 m.cl++[AV.b m.over])++(AV.b v::List.drop 17 (rI .u32 m.cl++[AV.b m.over])))=_;rw[e];rfl
def qEC(P:Program)(g:Nat):Prop:=∀a:Int,0<=a->a<=4294967295->∀(left:Bool) (n:Nat),n<=31->qf P g [.i .u32 a,.b left,.i .u32 n] (.i .u32 (qe7 left n a))
def cWX(P:Program)(g:Nat):Prop:=∀c:Int,qf P g [.i .u16 c] (.b (zT c))
def xV(a b c:Nat):IFn:=⟨[.tmp 4],.seq (.r [.q 3 (.box (.t 1)),.m 4 (.k 0)]) (.seq (.r [.f 8 0 3,.d 9 8,.l 10 a [.t 9],.q 11 (.fld 1 none (.t 10)),.n 5 11]) (.seq (.r [.f 12 3 3,.d 13 12,.n 6 13]) (.seq (.r [.f 14 0 3,.d 15 14,.l 16 b [.t 15],.n 7 16]) (.seq (.seq (.r [.n 17 7]) (.cond (.t 17) (.seq (.r [.n 18 0,.q 19 (.nilChk (.t 18)),.f 20 1 19,.d 21 20,.n 6 21]) (.r [.n 22 5,.n 23 5,.q 24 (.len true (.t 23)),.w 25 .sub 24 1,.q 26 (.slcStr (.t 22) none (some (.t 25))),.n 5 26])) (.skip))) (.seq (.seq (.r [.n 27 5]) (.blk 0 (.seq (.r [.q 29 (.bin .eql (.t 27) (.c (.s [97,100,100]))),.n 28 29]) (.cond (.t 28) (.r [.n 30 0,.n 31 0,.q 32 (.nilChk (.t 31)),.f 33 0 32,.d 34 33,.n 35 6,.b 36 .add 34 35,.q 37 (.nilChk (.t 30)),.f 38 0 37,.u (.store 1 (.t 38) (.t 36))]) (.seq (.r [.q 40 (.bin .eql (.t 27) (.c (.s [115,117,98]))),.n 39 40]) (.cond (.t 39) (.r [.n 41 0,.n 42 0,.q 43 (.nilChk (.t 42)),.f 44 0 43,.d 45 44,.n 46 6,.b 47 .sub 45 46,.q 48 (.nilChk (.t 41)),.f 49 0 48,.u (.store 1 (.t 49) (.t 47))]) (.seq (.r [.q 51 (.bin .eql (.t 27) (.c (.s [109,117,108]))),.n 50 51]) (.cond (.t 50) (.r [.n 52 0,.n 53 0,.q 54 (.nilChk (.t 53)),.f 55 0 54,.d 56 55,.n 57 6,.b 58 .mul 56 57,.q 59 (.nilChk (.t 52)),.f 60 0 59,.u (.store 1 (.t 60) (.t 58))]) (.seq (.r [.q 62 (.bin .eql (.t 27) (.c (.s [111,114]))),.n 61 62]) (.cond (.t 61) (.r [.n 63 0,.n 64 0,.q 65 (.nilChk (.t 64)),.f 66 0 65,.d 67 66,.n 68 6,.b 69 .or 67 68,.q 70 (.nilChk (.t 63)),.f 71 0 70,.u (.store 1 (.t 71) (.t 69))]) (.seq (.r [.q 73 (.bin .eql (.t 27) (.c (.s [97,110,100]))),.n 72 73]) (.cond (.t 72) (.r [.n 74 0,.n 75 0,.q 76 (.nilChk (.t 75)),.f 77 0 76,.d 78 77,.n 79 6,.b 80 .and 78 79,.q 81 (.nilChk (.t 74)),.f 82 0 81,.u (.store 1 (.t 82) (.t 80))]) (.seq (.r [.q 84 (.bin .eql (.t 27) (.c (.s [120,111,114]))),.n 83 84]) (.cond (.t 83) (.r [.n 85 0,.n 86 0,.q 87 (.nilChk (.t 86)),.f 88 0 87,.d 89 88,.n 90 6,.b 91 .xor 89 90,.q 92 (.nilChk (.t 85)),.f 93 0 92,.u (.store 1 (.t 93) (.t 91))]) (.seq (.r [.q 95 (.bin .eql (.t 27) (.c (.s [110,101,103]))),.n 94 95]) (.cond (.t 94) (.r [.n 96 0,.n 97 0,.q 98 (.nilChk (.t 97)),.f 99 0 98,.d 100 99,.q 101 (.bin .sub (.c (.i .u32 0)) (.t 100)),.q 102 (.nilChk (.t 96)),.f 103 0 102,.u (.store 1 (.t 103) (.t 101))]) (.seq (.r [.q 105 (.bin .eql (.t 27) (.c (.s [100,105,118]))),.n 104 105]) (.cond (.t 104) (.seq (.r [.n 106 6,.q 107 (.bin .gtr (.t 106) (.c (.i .u32 0)))]) (.cond (.t 107) (.r [.n 108 0,.n 109 0,.q 110 (.nilChk (.t 109)),.f 111 0 110,.d 112 111,.n 113 6,.b 114 .quo 112 113,.q 115 (.nilChk (.t 108)),.f 116 0 115,.u (.store 1 (.t 116) (.t 114))]) (.seq (.r [.n 117 7]) (.cond (.t 117) (.r [.n 118 0,.q 119 (.nilChk (.t 118)),.f 120 19 119,.u (.store 1 (.t 120) .T)]) (.seq (.r [.m 4 (.k 44)]) (.ret)))))) (.seq (.seq (.r [.q 122 (.bin .eql (.t 27) (.c (.s [108,115,104]))),.n 121 122]) (.cond (.t 121) (.skip) (.r [.q 123 (.bin .eql (.t 27) (.c (.s [114,115,104]))),.n 121 123]))) (.cond (.t 121) (.seq (.seq (.r [.n 124 7,.q 125 (.un .not (.t 124)),.n 126 125,.y 127 6 126,.g 128 (.bin .gtr (.t 127) (.c (.i .u32 31))) 126 true,.p 129 126 128]) (.cond (.t 129) (.seq (.r [.m 4 (.k 45)]) (.ret)) (.skip))) (.r [.n 130 0,.n 131 0,.q 132 (.nilChk (.t 131)),.f 133 0 132,.d 134 133,.n 135 5,.q 136 (.bin .eql (.t 135) (.c (.s [108,115,104]))),.n 137 6,.q 138 (.bin .rem (.t 137) (.c (.i .u32 32))),.l 139 c [.t 134,.t 136,.t 138],.q 140 (.nilChk (.t 130)),.f 141 0 140,.u (.store 1 (.t 141) (.t 139))])) (.skip))))))))))))))))))))) (.seq (.r [.m 4 (.k 0)]) (.ret)))))))⟩
set_option maxRecDepth 8000 in
theorem qDJ{g1 g2 g3:Nat}(hc:qd P f (xV g1 g2 g3)=true)(h1:qim P g1)(h2:cWX P g2)(h3:qEC P g3)(m:Mac)(hm:MacOk m)(i:Ins)(hi:InsOk i)(hcls:qn i.code=3) :
  Upd P f [.ptr 0 0,.agg (zy i)] [.cells 0 true false (zP m)] (.i .i64 (nuM m i).2) [.cells 0 true false (zP (nuM m i).1)]:=by
 refine Upd.mk hc (by simp[qa0,bnd,zy]) (by simp) ?_;have hl:=qdb hm.len;have k0:=hi.k0;have a0:=hm.a.1;have a1:=hm.a.2;have x0:=hm.x.1;have h32:(32:Int)≠0:=by decide
 have g0:(zP m)[0]?=some (.i .u32 m.a):=rfl;have g1:(zP m)[1]?=some (.i .u32 m.x):=rfl;have s0:∀v:Int,AV.i .u32 v::List.drop 1 (zP m)=zP { m with a:=v }:=fun _=>rfl
 have so:=fun v=>qkI hm.len v
 have hw1:=h1 i.code;have hw2:=h2 i.code
 have hmem:c3L.contains i.code=true:=by
  unfold qn at hcls;cases hcm:qC i.code with
  | none=>rw[hcm] at hcls;cases hcls
  | some x =>
   rw[hcm] at hcls;obtain⟨q1,q2⟩:=qec hcm;rw[← q2];exact qBs x q1 hcls
 simp only[c3L,List.contains_iff_mem,List.mem_cons,List.not_mem_nil,or_false] at hmem;simp only[xV,zy,vI,simprocAttr];simp +decide only[↓vS,vT,simprocAttr];refine hw1.sc ?_;rcases hmem with e|e|e|e|e|e|e|e|e|e|e|e|e|e|e|e|e|e|e
 ·have hE:zG (qC i.code)=[.i .u16 4,.s [97,100,100],.i .u8 3]:=by rw[e,(by decide:qC 4=some (4,[97,100,100],3))];rfl
  have hX:zT i.code=false:=by rw[e];decide
  have hB:zw m i=i.k:=by unfold zw;rw[hX];rfl
  have hb:qO i.code=4:=by unfold qO;rw[hX,e];rfl
  have hN:=hB;unfold nuM;rw[hX] at hw2;rw[hE,hb,hB,hX];rw[e] at hw2 ⊢;simp +decide only[↓vS,vT,simprocAttr];refine hw2.sc ?_;simp +decide only[↓vS,vT,simprocAttr,hl,g0,g1,s0];intro _;refine⟨[0],?_⟩;simp[vw,qc,qj,opM]
 ·have hE:zG (qC i.code)=[.i .u16 12,.s [97,100,100,120],.i .u8 3]:=by rw[e,(by decide:qC 12=some (12,[97,100,100,120],3))];rfl
  have hX:zT i.code=true:=by rw[e];decide
  have hB:zw m i=m.x:=by unfold zw;rw[hX];rfl
  have hb:qO i.code=4:=by unfold qO;rw[hX,e];rfl
  have hN:=hB;unfold nuM;rw[hX] at hw2;rw[hE,hb,hB,hX];rw[e] at hw2 ⊢;simp +decide only[↓vS,vT,simprocAttr];refine hw2.sc ?_;simp +decide only[↓vS,vT,simprocAttr,hl,g0,g1,s0];intro _;refine⟨[0],?_⟩;simp[vw,qc,qj,opM]
 ·have hE:zG (qC i.code)=[.i .u16 20,.s [115,117,98],.i .u8 3]:=by rw[e,(by decide:qC 20=some (20,[115,117,98],3))];rfl
  have hX:zT i.code=false:=by rw[e];decide
  have hB:zw m i=i.k:=by unfold zw;rw[hX];rfl
  have hb:qO i.code=20:=by unfold qO;rw[hX,e];rfl
  have hN:=hB;unfold nuM;rw[hX] at hw2;rw[hE,hb,hB,hX];rw[e] at hw2 ⊢;simp +decide only[↓vS,vT,simprocAttr];refine hw2.sc ?_;simp +decide only[↓vS,vT,simprocAttr,hl,g0,g1,s0];intro _;refine⟨[0],?_⟩;simp[vw,qc,qj,opM]
 ·have hE:zG (qC i.code)=[.i .u16 28,.s [115,117,98,120],.i .u8 3]:=by rw[e,(by decide:qC 28=some (28,[115,117,98,120],3))];rfl
  have hX:zT i.code=true:=by rw[e];decide
  have hB:zw m i=m.x:=by unfold zw;rw[hX];rfl
  have hb:qO i.code=20:=by unfold qO;rw[hX,e];rfl
  have hN:=hB;unfold nuM;rw[hX] at hw2;rw[hE,hb,hB,hX];rw[e] at hw2 ⊢;simp +decide only[↓vS,vT,simprocAttr];refine hw2.sc ?_;simp +decide only[↓vS,vT,simprocAttr,hl,g0,g1,s0];intro _;refine⟨[0],?_⟩;simp[vw,qc,qj,opM]
 ·have hE:zG (qC i.code)=[.i .u16 36,.s [109,117,108],.i .u8 3]:=by rw[e,(by decide:qC 36=some (36,[109,117,108],3))];rfl
  have hX:zT i.code=false:=by rw[e];decide
  have hB:zw m i=i.k:=by unfold zw;rw[hX];rfl
  have hb:qO i.code=36:=by unfold qO;rw[hX,e];rfl
  have hN:=hB;unfold nuM;rw[hX] at hw2;rw[hE,hb,hB,hX];rw[e] at hw2 ⊢;simp +decide only[↓vS,vT,simprocAttr];refine hw2.sc ?_;simp +decide only[↓vS,vT,simprocAttr,hl,g0,g1,s0];intro _;refine⟨[0],?_⟩;simp[vw,qc,qj,opM]
 ·have hE:zG (qC i.code)=[.i .u16 44,.s [109,117,108,120],.i .u8 3]:=by rw[e,(by decide:qC 44=some (44,[109,117,108,120],3))];rfl
  have hX:zT i.code=true:=by rw[e];decide
  have hB:zw m i=m.x:=by unfold zw;rw[hX];rfl
  have hb:qO i.code=36:=by unfold qO;rw[hX,e];rfl
  have hN:=hB;unfold nuM;rw[hX] at hw2;rw[hE,hb,hB,hX];rw[e] at hw2 ⊢;simp +decide only[↓vS,vT,simprocAttr];refine hw2.sc ?_;simp +decide only[↓vS,vT,simprocAttr,hl,g0,g1,s0];intro _;refine⟨[0],?_⟩;simp[vw,qc,qj,opM]
 ·have hE:zG (qC i.code)=[.i .u16 52,.s [100,105,118],.i .u8 3]:=by rw[e,(by decide:qC 52=some (52,[100,105,118],3))];rfl
  have hX:zT i.code=false:=by rw[e];decide
  have hB:zw m i=i.k:=by unfold zw;rw[hX];rfl
  have hb:qO i.code=52:=by unfold qO;rw[hX,e];rfl
  have hN:=hB;unfold nuM;rw[hX] at hw2;rw[hE,hb,hB,hX];rw[e] at hw2 ⊢;simp +decide only[↓vS,vT,simprocAttr];refine hw2.sc ?_
  by_cases hp:0<i.k
  ·have hq:m.a.tdiv (i.k)=m.a / (i.k):=Int.tdiv_eq_ediv_of_nonneg a0;have hne:i.k≠0:=by omega
   have hle:m.a / (i.k)<=m.a:=Int.ediv_le_self _ a0;have hge:0<=m.a / (i.k):=Int.ediv_nonneg a0 (by omega);have hwq:IntKind.wrap .u32 (m.a / (i.k))=m.a / (i.k):=by show (m.a / (i.k)) % 4294967296=_;omega
   simp +decide only[↓vS,vT,simprocAttr,hl,g0,g1,hp,↓zn hne,hq,hwq,s0];intro _;refine⟨[0],?_⟩;simp[vw,qc,qj,opM,hp]
  ·simp +decide only[↓vS,vT,simprocAttr,hl,g1,hp,so];intro _;refine⟨[0],?_⟩;simp[vw,qc,qj,opM,hp]
 ·have hE:zG (qC i.code)=[.i .u16 60,.s [100,105,118,120],.i .u8 3]:=by rw[e,(by decide:qC 60=some (60,[100,105,118,120],3))];rfl
  have hX:zT i.code=true:=by rw[e];decide
  have hB:zw m i=m.x:=by unfold zw;rw[hX];rfl
  have hb:qO i.code=52:=by unfold qO;rw[hX,e];rfl
  have hN:=hB;unfold nuM;rw[hX] at hw2;rw[hE,hb,hB,hX];rw[e] at hw2 ⊢;simp +decide only[↓vS,vT,simprocAttr];refine hw2.sc ?_
  by_cases hp:0<m.x
  ·have hq:m.a.tdiv (m.x)=m.a / (m.x):=Int.tdiv_eq_ediv_of_nonneg a0;have hne:m.x≠0:=by omega
   have hle:m.a / (m.x)<=m.a:=Int.ediv_le_self _ a0;have hge:0<=m.a / (m.x):=Int.ediv_nonneg a0 (by omega);have hwq:IntKind.wrap .u32 (m.a / (m.x))=m.a / (m.x):=by show (m.a / (m.x)) % 4294967296=_;omega
   simp +decide only[↓vS,vT,simprocAttr,hl,g0,g1,hp,↓zn hne,hq,hwq,s0];intro _;refine⟨[0],?_⟩;simp[vw,qc,qj,opM,hp]
  ·simp +decide only[↓vS,vT,simprocAttr,hl,g1,hp,so];intro _;refine⟨[0],?_⟩;simp[vw,qc,qj,opM,hp]
 ·have hE:zG (qC i.code)=[.i .u16 68,.s [111,114],.i .u8 3]:=by rw[e,(by decide:qC 68=some (68,[111,114],3))];rfl
  have hX:zT i.code=false:=by rw[e];decide
  have hB:zw m i=i.k:=by unfold zw;rw[hX];rfl
  have hb:qO i.code=68:=by unfold qO;rw[hX,e];rfl
  have hN:=hB;unfold nuM;rw[hX] at hw2;rw[hE,hb,hB,hX];rw[e] at hw2 ⊢;simp +decide only[↓vS,vT,simprocAttr];refine hw2.sc ?_;simp +decide only[↓vS,vT,simprocAttr,hl,g0,g1,s0];intro _;refine⟨[0],?_⟩;simp[vw,qc,qj,opM]
 ·have hE:zG (qC i.code)=[.i .u16 76,.s [111,114,120],.i .u8 3]:=by rw[e,(by decide:qC 76=some (76,[111,114,120],3))];rfl
  have hX:zT i.code=true:=by rw[e];decide
  have hB:zw m i=m.x:=by unfold zw;rw[hX];rfl
  have hb:qO i.code=68:=by unfold qO;rw[hX,e];rfl
  have hN:=hB;unfold nuM;rw[hX] at hw2;rw[hE,hb,hB,hX];rw[e] at hw2 ⊢;simp +decide only[↓vS,vT,simprocAttr];refine hw2.sc ?_;simp +decide only[↓vS,vT,simprocAttr,hl,g0,g1,s0];intro _;refine⟨[0],?_⟩;simp[vw,qc,qj,opM]
 ·have hE:zG (qC i.code)=[.i .u16 84,.s [97,110,100],.i .u8 3]:=by rw[e,(by decide:qC 84=some (84,[97,110,100],3))];rfl
  have hX:zT i.code=false:=by rw[e];decide
  have hB:zw m i=i.k:=by unfold zw;rw[hX];rfl
  have hb:qO i.code=84:=by unfold qO;rw[hX,e];rfl
  have hN:=hB;unfold nuM;rw[hX] at hw2;rw[hE,hb,hB,hX];rw[e] at hw2 ⊢;simp +decide only[↓vS,vT,simprocAttr];refine hw2.sc ?_;simp +decide only[↓vS,vT,simprocAttr,hl,g0,g1,s0];intro _;refine⟨[0],?_⟩;simp[vw,qc,qj,opM]
 ·have hE:zG (qC i.code)=[.i .u16 92,.s [97,110,100,120],.i .u8 3]:=by rw[e,(by decide:qC 92=some (92,[97,110,100,120],3))];rfl
  have hX:zT i.code=true:=by rw[e];decide
  have hB:zw m i=m.x:=by unfold zw;rw[hX];rfl
  have hb:qO i.code=84:=by unfold qO;rw[hX,e];rfl
  have hN:=hB;unfold nuM;rw[hX] at hw2;rw[hE,hb,hB,hX];rw[e] at hw2 ⊢;simp +decide only[↓vS,vT,simprocAttr];refine hw2.sc ?_;simp +decide only[↓vS,vT,simprocAttr,hl,g0,g1,s0];intro _;refine⟨[0],?_⟩;simp[vw,qc,qj,opM]
 ·have hE:zG (qC i.code)=[.i .u16 100,.s [108,115,104],.i .u8 3]:=by rw[e,(by decide:qC 100=some (100,[108,115,104],3))];rfl
  have hX:zT i.code=false:=by rw[e];decide
  have hB:zw m i=i.k:=by unfold zw;rw[hX];rfl
  have hb:qO i.code=100:=by unfold qO;rw[hX,e];rfl
  have hN:=hB;unfold nuM;rw[hX] at hw2;rw[hE,hb,hB,hX];rw[e] at hw2 ⊢;simp +decide only[↓vS,vT,simprocAttr];refine hw2.sc ?_
  by_cases hp:31<i.k
  ·simp +decide only[↓vS,vT,simprocAttr,hl,hp];intro _;refine⟨[0],?_⟩;simp[vw,qc,qj,opM,hp]
  ·have hr:(i.k).tmod 32=(((i.k) % 32).toNat:Int):=by rw[Int.tmod_eq_emod_of_nonneg k0];omega
   have hsh:=h3 m.a a0 a1 true ((i.k) % 32).toNat (by omega);simp +decide only[↓vS,vT,simprocAttr,hl,g0,g1,hp,↓xR h32,hr];refine hsh.sc ?_;simp +decide only[↓vS,vT,simprocAttr,hl,s0];intro _;refine⟨[0],?_⟩;simp[vw,qc,qj,opM,hp]
 ·have hE:zG (qC i.code)=[.i .u16 108,.s [108,115,104,120],.i .u8 3]:=by rw[e,(by decide:qC 108=some (108,[108,115,104,120],3))];rfl
  have hX:zT i.code=true:=by rw[e];decide
  have hB:zw m i=m.x:=by unfold zw;rw[hX];rfl
  have hb:qO i.code=100:=by unfold qO;rw[hX,e];rfl
  have hN:=hB;unfold nuM;rw[hX] at hw2;rw[hE,hb,hB,hX];rw[e] at hw2 ⊢;simp +decide only[↓vS,vT,simprocAttr];refine hw2.sc ?_;have hr:(m.x).tmod 32=(((m.x) % 32).toNat:Int):=by rw[Int.tmod_eq_emod_of_nonneg x0];omega
  have hsh:=h3 m.a a0 a1 true ((m.x) % 32).toNat (by omega);simp +decide only[↓vS,vT,simprocAttr,hl,g0,g1,↓xR h32,hr];refine hsh.sc ?_;simp +decide only[↓vS,vT,simprocAttr,hl,s0];intro _;refine⟨[0],?_⟩;simp[vw,qc,qj,opM]
 ·have hE:zG (qC i.code)=[.i .u16 116,.s [114,115,104],.i .u8 3]:=by rw[e,(by decide:qC 116=some (116,[114,115,104],3))];rfl
  have hX:zT i.code=false:=by rw[e];decide
  have hB:zw m i=i.k:=by unfold zw;rw[hX];rfl
  have hb:qO i.code=116:=by unfold qO;rw[hX,e];rfl
  have hN:=hB;unfold nuM;rw[hX] at hw2;rw[hE,hb,hB,hX];rw[e] at hw2 ⊢;simp +decide only[↓vS,vT,simprocAttr];refine hw2.sc ?_
  by_cases hp:31<i.k
  ·simp +decide only[↓vS,vT,simprocAttr,hl,hp];intro _;refine⟨[0],?_⟩;simp[vw,qc,qj,opM,hp]
  ·have hr:(i.k).tmod 32=(((i.k) % 32).toNat:Int):=by rw[Int.tmod_eq_emod_of_nonneg k0];omega
   have hsh:=h3 m.a a0 a1 false ((i.k) % 32).toNat (by omega);simp +decide only[↓vS,vT,simprocAttr,hl,g0,g1,hp,↓xR h32,hr];refine hsh.sc ?_;simp +decide only[↓vS,vT,simprocAttr,hl,s0];intro _;refine⟨[0],?_⟩;simp[vw,qc,qj,opM,hp]
 ·have hE:zG (qC i.code)=[.i .u16 124,.s [114,115,104,120],.i .u8 3]:=by rw[e,(by decide:qC 124=some (124,[114,115,104,120],3))];rfl
  have hX:zT i.code=true:=by rw[e];decide
  have hB:zw m i=m.x:=by unfold zw;rw[hX];rfl
  have hb:qO i.code=116:=by unfold qO;rw[hX,e];rfl
  have hN:=hB;unfold nuM;rw[hX] at hw2;rw[hE,hb,hB,hX];rw[e] at hw2 ⊢;simp +decide only[↓vS,vT,simprocAttr];refine hw2.sc ?_;have hr:(m.x).tmod 32=(((m.x) % 32).toNat:Int):=by rw[Int.tmod_eq_emod_of_nonneg x0];omega
  have hsh:=h3 m.a a0 a1 false ((m.x) % 32).toNat (by omega);simp +decide only[↓vS,vT,simprocAttr,hl,g0,g1,↓xR h32,hr];refine hsh.sc ?_;simp +decide only[↓vS,vT,simprocAttr,hl,s0];intro _;refine⟨[0],?_⟩;simp[vw,qc,qj,opM]
 ·have hE:zG (qC i.code)=[.i .u16 164,.s [120,111,114],.i .u8 3]:=by rw[e,(by decide:qC 164=some (164,[120,111,114],3))];rfl
  have hX:zT i.code=false:=by rw[e];decide
  have hB:zw m i=i.k:=by unfold zw;rw[hX];rfl
  have hb:qO i.code=164:=by unfold qO;rw[hX,e];rfl
  have hN:=hB;unfold nuM;rw[hX] at hw2;rw[hE,hb,hB,hX];rw[e] at hw2 ⊢;simp +decide only[↓vS,vT,simprocAttr];refine hw2.sc ?_;simp +decide only[↓vS,vT,simprocAttr,hl,g0,g1,s0];intro _;refine⟨[0],?_⟩;simp[vw,qc,qj,opM]
 ·have hE:zG (qC i.code)=[.i .u16 172,.s [120,111,114,120],.i .u8 3]:=by rw[e,(by decide:qC 172=some (172,[120,111,114,120],3))];rfl
  have hX:zT i.code=true:=by rw[e];decide
  have hB:zw m i=m.x:=by unfold zw;rw[hX];rfl
  have hb:qO i.code=164:=by unfold qO;rw[hX,e];rfl
  have hN:=hB;unfold nuM;rw[hX] at hw2;rw[hE,hb,hB,hX];rw[e] at hw2 ⊢;simp +decide only[↓vS,vT,simprocAttr];refine hw2.sc ?_;simp +decide only[↓vS,vT,simprocAttr,hl,g0,g1,s0];intro _;refine⟨[0],?_⟩;simp[vw,qc,qj,opM]
 ·have hE:zG (qC i.code)=[.i .u16 132,.s [110,101,103],.i .u8 3]:=by rw[e,(by decide:qC 132=some (132,[110,101,103],3))];rfl
  have hX:zT i.code=false:=by rw[e];decide
  have hB:zw m i=i.k:=by unfold zw;rw[hX];rfl
  have hb:qO i.code=132:=by unfold qO;rw[hX,e];rfl
  have hN:=hB;unfold nuM;rw[hX] at hw2;rw[hE,hb,hB,hX];rw[e] at hw2 ⊢;simp +decide only[↓vS,vT,simprocAttr];refine hw2.sc ?_;simp +decide only[↓vS,vT,simprocAttr,hl,g0,g1,s0];intro _;refine⟨[0],?_⟩;simp[vw,qc,qj,opM]
def qaI(c a b:Int):Bool:=if c=21 then decide (a=b) else if c=37 then decide (b<a) else if c=53 then decide (b<=a) else decide (0<jq .u32 a b)
def qix(m:Mac)(i:Ins):Int:=if i.code=5 then i.k else if qaI (qO i.code) m.a (zw m i)=true then i.jt else i.jf
def c4L:List Int:=[21,29,37,45,53,61,69,77,5]
theorem qBt:∀x ∈ jL,x.2.2=4->c4L.contains x.1=true:=by decide
def jl(a:Nat):IFn:=⟨[.tmp 4],.seq (.r [.q 3 (.box (.t 1)),.m 4 (.k 0)]) (.seq (.seq (.r [.f 7 0 3,.d 8 7,.q 9 (.bin .eql (.t 8) (.c (.i .u16 5)))]) (.cond (.t 9) (.seq (.r [.f 10 3 3,.d 11 10,.q 12 (.cvInt .i64 (.t 11)),.n 4 12]) (.ret)) (.skip))) (.seq (.r [.f 13 3 3,.d 14 13,.n 5 14]) (.seq (.seq (.r [.f 15 0 3,.d 16 15,.l 17 a [.t 16]]) (.cond (.t 17) (.r [.n 18 0,.q 19 (.nilChk (.t 18)),.f 20 1 19,.d 21 20,.n 5 21]) (.skip))) (.seq (.r [.m 6 .F]) (.seq (.seq (.r [.f 22 0 3,.d 23 22,.q 24 (.bin .quo (.t 23) (.c (.i .u16 16)))]) (.blk 0 (.seq (.r [.q 26 (.bin .eql (.t 24) (.c (.i .u16 1))),.n 25 26]) (.cond (.t 25) (.r [.n 27 0,.q 28 (.nilChk (.t 27)),.f 29 0 28,.d 30 29,.n 31 5,.b 32 .eql 30 31,.n 6 32]) (.seq (.r [.q 34 (.bin .eql (.t 24) (.c (.i .u16 2))),.n 33 34]) (.cond (.t 33) (.r [.n 35 0,.q 36 (.nilChk (.t 35)),.f 37 0 36,.d 38 37,.n 39 5,.b 40 .gtr 38 39,.n 6 40]) (.seq (.r [.q 42 (.bin .eql (.t 24) (.c (.i .u16 3))),.n 41 42]) (.cond (.t 41) (.r [.n 43 0,.q 44 (.nilChk (.t 43)),.f 45 0 44,.d 46 45,.n 47 5,.b 48 .geq 46 47,.n 6 48]) (.seq (.r [.q 50 (.bin .eql (.t 24) (.c (.i .u16 4))),.n 49 50]) (.cond (.t 49) (.r [.n 51 0,.q 52 (.nilChk (.t 51)),.f 53 0 52,.d 54 53,.n 55 5,.b 56 .and 54 55,.q 57 (.bin .gtr (.t 56) (.c (.i .u32 0))),.n 6 57]) (.skip))))))))))) (.seq (.seq (.r [.n 58 6]) (.cond (.t 58) (.seq (.r [.f 59 1 3,.d 60 59,.q 61 (.cvInt .i64 (.t 60)),.n 4 61]) (.ret)) (.skip))) (.seq (.r [.f 62 2 3,.d 63 62,.q 64 (.cvInt .i64 (.t 63)),.n 4 64]) (.ret))))))))⟩
set_option maxRecDepth 8000 in
theorem qEU{g2:Nat}(hc:qd P f (jl g2)=true)(h2:cWX P g2)(m:Mac)(hm:MacOk m)(i:Ins)(hi:InsOk i)(hcls:qn i.code=4) :
  Upd P f [.ptr 0 0,.agg (zy i)] [.cells 0 true false (zP m)] (.i .i64 (qix m i)) [.cells 0 true false (zP m)]:=by
 refine Upd.mk hc (by simp[qa0,bnd,zy]) (by simp) ?_;have hl:=qdb hm.len;have h16:(16:Int)≠0:=by decide
 have g0:(zP m)[0]?=some (.i .u32 m.a):=rfl;have g1:(zP m)[1]?=some (.i .u32 m.x):=rfl;have wk:IntKind.wrap .i64 i.k=i.k:=by have:=hi.k0;have:=hi.k1;exact qm (by omega) (by omega)
 have wt:IntKind.wrap .i64 i.jt=i.jt:=by have:=hi.t0;have:=hi.t1;exact qm (by omega) (by omega)
 have wf:IntKind.wrap .i64 i.jf=i.jf:=by have:=hi.f0;have:=hi.f1;exact qm (by omega) (by omega)
 have hw2:=h2 i.code
 have hmem:c4L.contains i.code=true:=by
  unfold qn at hcls;cases hcm:qC i.code with
  | none=>rw[hcm] at hcls;cases hcls
  | some x =>
   rw[hcm] at hcls;obtain⟨q1,q2⟩:=qec hcm;rw[← q2];exact qBt x q1 hcls
 simp only[c4L,List.contains_iff_mem,List.mem_cons,List.not_mem_nil,or_false] at hmem;unfold qix;simp only[jl,zy,vI,simprocAttr]
 by_cases c5:i.code=5
 ·simp +decide only[↓vS,vT,simprocAttr,c5,wk];intro _;refine⟨[0],?_⟩;simp[vw,qc,qj]
 rcases hmem with e|e|e|e|e|e|e|e|e
 ·have hX:zT i.code=false:=by rw[e];decide
  have hB:zw m i=i.k:=by unfold zw;rw[hX];rfl
  have hb:qO i.code=21:=by unfold qO;rw[hX,e];rfl
  have hq:Int.tdiv 21 16=1:=by decide
  have hwq:IntKind.wrap .u16 1=1:=by decide
  rw[hX] at hw2;rw[hb,hB];rw[e] at hw2 ⊢;simp +decide only[↓vS,vT,simprocAttr];refine hw2.sc ?_
  by_cases hp:m.a=i.k
  ·simp +decide only[↓vS,vT,simprocAttr,hl,g0,g1,↓zn h16,hq,hwq,hp,wt];intro _;refine⟨[0],?_⟩;simp[vw,qc,qj,qaI,hp]
  ·simp +decide only[↓vS,vT,simprocAttr,hl,g0,g1,↓zn h16,hq,hwq,hp,wf];intro _;refine⟨[0],?_⟩;simp[vw,qc,qj,qaI,hp]
 ·have hX:zT i.code=true:=by rw[e];decide
  have hB:zw m i=m.x:=by unfold zw;rw[hX];rfl
  have hb:qO i.code=21:=by unfold qO;rw[hX,e];rfl
  have hq:Int.tdiv 29 16=1:=by decide
  have hwq:IntKind.wrap .u16 1=1:=by decide
  rw[hX] at hw2;rw[hb,hB];rw[e] at hw2 ⊢;simp +decide only[↓vS,vT,simprocAttr];refine hw2.sc ?_
  by_cases hp:m.a=m.x
  ·simp +decide only[↓vS,vT,simprocAttr,hl,g0,g1,↓zn h16,hq,hwq,hp,wt];intro _;refine⟨[0],?_⟩;simp[vw,qc,qj,qaI,hp]
  ·simp +decide only[↓vS,vT,simprocAttr,hl,g0,g1,↓zn h16,hq,hwq,hp,wf];intro _;refine⟨[0],?_⟩;simp[vw,qc,qj,qaI,hp]
 ·have hX:zT i.code=false:=by rw[e];decide
  have hB:zw m i=i.k:=by unfold zw;rw[hX];rfl
  have hb:qO i.code=37:=by unfold qO;rw[hX,e];rfl
  have hq:Int.tdiv 37 16=2:=by decide
  have hwq:IntKind.wrap .u16 2=2:=by decide
  rw[hX] at hw2;rw[hb,hB];rw[e] at hw2 ⊢;simp +decide only[↓vS,vT,simprocAttr];refine hw2.sc ?_
  by_cases hp:i.k<m.a
  ·simp +decide only[↓vS,vT,simprocAttr,hl,g0,g1,↓zn h16,hq,hwq,hp,wt];intro _;refine⟨[0],?_⟩;simp[vw,qc,qj,qaI,hp]
  ·simp +decide only[↓vS,vT,simprocAttr,hl,g0,g1,↓zn h16,hq,hwq,hp,wf];intro _;refine⟨[0],?_⟩;simp[vw,qc,qj,qaI,hp]
 ·have hX:zT i.code=true:=by rw[e];decide
  have hB:zw m i=m.x:=by unfold zw;rw[hX];rfl
  have hb:qO i.code=37:=by unfold qO;rw[hX,e];rfl
  have hq:Int.tdiv 45 16=2:=by decide
  have hwq:IntKind.wrap .u16 2=2:=by decide
  rw[hX] at hw2;rw[hb,hB];rw[e] at hw2 ⊢;simp +decide only[↓vS,vT,simprocAttr];refine hw2.sc ?_
  by_cases hp:m.x<m.a
  ·simp +decide only[↓vS,vT,simprocAttr,hl,g0,g1,↓zn h16,hq,hwq,hp,wt];intro _;refine⟨[0],?_⟩;simp[vw,qc,qj,qaI,hp]
  ·simp +decide only[↓vS,vT,simprocAttr,hl,g0,g1,↓zn h16,hq,hwq,hp,wf];intro _;refine⟨[0],?_⟩;simp[vw,qc,qj,qaI,hp]
 ·have hX:zT i.code=false:=by rw[e];decide
  have hB:zw m i=i.k:=by unfold zw;rw[hX];rfl
  have hb:qO i.code=53:=by unfold qO;rw[hX,e];rfl
  have hq:Int.tdiv 53 16=3:=by decide
  have hwq:IntKind.wrap .u16 3=3:=by decide
  rw[hX] at hw2;rw[hb,hB];rw[e] at hw2 ⊢;simp +decide only[↓vS,vT,simprocAttr];refine hw2.sc ?_
  by_cases hp:i.k<=m.a
  ·simp +decide only[↓vS,vT,simprocAttr,hl,g0,g1,↓zn h16,hq,hwq,hp,wt];intro _;refine⟨[0],?_⟩;simp[vw,qc,qj,qaI,hp]
  ·simp +decide only[↓vS,vT,simprocAttr,hl,g0,g1,↓zn h16,hq,hwq,hp,wf];intro _;refine⟨[0],?_⟩;simp[vw,qc,qj,qaI,hp]
 ·have hX:zT i.code=true:=by rw[e];decide
  have hB:zw m i=m.x:=by unfold zw;rw[hX];rfl
  have hb:qO i.code=53:=by unfold qO;rw[hX,e];rfl
  have hq:Int.tdiv 61 16=3:=by decide
  have hwq:IntKind.wrap .u16 3=3:=by decide
  rw[hX] at hw2;rw[hb,hB];rw[e] at hw2 ⊢;simp +decide only[↓vS,vT,simprocAttr];refine hw2.sc ?_
  by_cases hp:m.x<=m.a
  ·simp +decide only[↓vS,vT,simprocAttr,hl,g0,g1,↓zn h16,hq,hwq,hp,wt];intro _;refine⟨[0],?_⟩;simp[vw,qc,qj,qaI,hp]
  ·simp +decide only[↓vS,vT,simprocAttr,hl,g0,g1,↓zn h16,hq,hwq,hp,wf];intro _;refine⟨[0],?_⟩;simp[vw,qc,qj,qaI,hp]
 ·have hX:zT i.code=false:=by rw[e];decide
  have hB:zw m i=i.k:=by unfold zw;rw[hX];rfl
  have hb:qO i.code=69:=by unfold qO;rw[hX,e];rfl
  have hq:Int.tdiv 69 16=4:=by decide
  have hwq:IntKind.wrap .u16 4=4:=by decide
  rw[hX] at hw2;rw[hb,hB];rw[e] at hw2 ⊢;simp +decide only[↓vS,vT,simprocAttr];refine hw2.sc ?_
  by_cases hp:0<jq .u32 m.a (i.k)
  ·simp +decide only[↓vS,vT,simprocAttr,hl,g0,g1,↓zn h16,hq,hwq,hp,wt];intro _;refine⟨[0],?_⟩;simp[vw,qc,qj,qaI,hp]
  ·simp +decide only[↓vS,vT,simprocAttr,hl,g0,g1,↓zn h16,hq,hwq,hp,wf];intro _;refine⟨[0],?_⟩;simp[vw,qc,qj,qaI,hp]
 ·have hX:zT i.code=true:=by rw[e];decide
  have hB:zw m i=m.x:=by unfold zw;rw[hX];rfl
  have hb:qO i.code=69:=by unfold qO;rw[hX,e];rfl
  have hq:Int.tdiv 77 16=4:=by decide
  have hwq:IntKind.wrap .u16 4=4:=by decide
  rw[hX] at hw2;rw[hb,hB];rw[e] at hw2 ⊢;simp +decide only[↓vS,vT,simprocAttr];refine hw2.sc ?_
  by_cases hp:0<jq .u32 m.a (m.x)
  ·simp +decide only[↓vS,vT,simprocAttr,hl,g0,g1,↓zn h16,hq,hwq,hp,wt];intro _;refine⟨[0],?_⟩;simp[vw,qc,qj,qaI,hp]
  ·simp +decide only[↓vS,vT,simprocAttr,hl,g0,g1,↓zn h16,hq,hwq,hp,wf];intro _;refine⟨[0],?_⟩;simp[vw,qc,qj,qaI,hp]
 ·exact absurd e c5
def qbi(a:Nat):IFn:=⟨[.tmp 2],.seq (.r [.m 2 .F]) (.seq (.r [.n 3 0,.l 4 a [.t 3],.q 5 (.fld 1 none (.t 4)),.q 6 (.bin .neq (.t 5) (.c (.s []))),.n 2 6]) (.ret))⟩
theorem qEo{g:Nat}(hc:qd P f (qbi g)=true)(hg:qim P g)(c:Int):qf P f [.i .u16 c] (.b (z5 c)):=by
 refine qf.mk hc rfl ?_;have hgc:=hg c;simp only[qbi,vI,simprocAttr];simp +decide only[↓vS,vT,simprocAttr];refine hgc.sc ?_;cases hcm:qC c with
 | none =>
  have h0:z5 c=false:=by unfold z5;rw[hcm];rfl
  rw[h0];simp +decide only[↓vS,vT,simprocAttr,zG,zE];simp[vZ]
 | some x =>
  obtain⟨hxm,_⟩:=qec hcm;have h0:z5 c=true:=by unfold z5;rw[hcm];rfl
  have hne:=(qyn x hxm).1;rw[h0];simp +decide only[↓vS,vT,simprocAttr,zG,x8,hne];simp[vZ]
def qpO(m:Mac)(i:Ins):Mac:={ m with over:=true,told:=if i.code=22 then m.a else i.k }
def doR(m:Mac)(i:Ins)(d:GData):Mac×Int×Int :=
 if z5 i.code=false then (m,0,40)
 else if qn i.code=1∨qn i.code=2∨qn i.code=6 then ((qgv m i d).1,0,(qgv m i d).2)
 else if qn i.code=3 then ((nuM m i).1,0,(nuM m i).2)
 else if qn i.code=4 then (m,qix m i,0)
 else (qpO m i,0,0)
def qy1(P:Program)(g:Nat):Prop:=∀(m:Mac),MacOk m->∀(i:Ins),InsOk i->∀d:GData,DatOk d->Upd P g [.ptr 0 0,.agg (zy i),.agg (qX d)] [.cells 0 true false (zP m)] (.i .i64 (qgv m i d).2) [.cells 0 true false (zP (qgv m i d).1)]
def qCY(P:Program)(g:Nat):Prop:=∀(m:Mac),MacOk m->∀(i:Ins),InsOk i->qn i.code=3->Upd P g [.ptr 0 0,.agg (zy i)] [.cells 0 true false (zP m)] (.i .i64 (nuM m i).2) [.cells 0 true false (zP (nuM m i).1)]
def qy0(P:Program)(g:Nat):Prop:=∀(m:Mac),MacOk m->∀(i:Ins),InsOk i->qn i.code=4->Upd P g [.ptr 0 0,.agg (zy i)] [.cells 0 true false (zP m)] (.i .i64 (qix m i)) [.cells 0 true false (zP m)]
def jF(a b c d e:Nat):IFn:=⟨[.tmp 6,.tmp 7],.seq (.r [.q 4 (.box (.t 1)),.q 5 (.box (.t 2)),.m 6 (.k 0),.m 7 (.k 0)]) (.seq (.seq (.r [.f 8 0 4,.d 9 8,.l 10 a [.t 9],.q 11 (.un .not (.t 10))]) (.cond (.t 11) (.seq (.r [.m 6 (.k 0),.m 7 (.k 40)]) (.ret)) (.skip))) (.seq (.seq (.r [.f 12 0 4,.d 13 12,.l 14 b [.t 13],.q 15 (.fld 2 none (.t 14))]) (.blk 0 (.seq (.seq (.r [.q 17 (.bin .eql (.t 15) (.c (.i .u8 1))),.n 16 17]) (.cond (.t 16) (.skip) (.seq (.r [.q 18 (.bin .eql (.t 15) (.c (.i .u8 2))),.n 16 18]) (.cond (.t 16) (.skip) (.r [.q 19 (.bin .eql (.t 15) (.c (.i .u8 6))),.n 16 19]))))) (.cond (.t 16) (.seq (.r [.n 20 0,.v 21 4 4,.v 22 9 5,.l 23 c [.t 20,.t 21,.t 22],.m 6 (.k 0),.n 7 23]) (.ret)) (.seq (.r [.q 25 (.bin .eql (.t 15) (.c (.i .u8 3))),.n 24 25]) (.cond (.t 24) (.seq (.r [.n 26 0,.v 27 4 4,.l 28 d [.t 26,.t 27],.m 6 (.k 0),.n 7 28]) (.ret)) (.seq (.r [.q 30 (.bin .eql (.t 15) (.c (.i .u8 4))),.n 29 30]) (.cond (.t 29) (.seq (.r [.n 31 0,.v 32 4 4,.l 33 e [.t 31,.t 32],.n 6 33,.m 7 (.k 0)]) (.ret)) (.skip))))))))) (.seq (.r [.n 34 0,.q 35 (.nilChk (.t 34)),.f 36 19 35,.u (.store 1 (.t 36) .T)]) (.seq (.r [.n 37 0,.f 38 3 4,.d 39 38,.q 40 (.nilChk (.t 37)),.f 41 2 40,.u (.store 1 (.t 41) (.t 39))]) (.seq (.seq (.r [.f 42 0 4,.d 43 42,.q 44 (.bin .eql (.t 43) (.c (.i .u16 22)))]) (.cond (.t 44) (.r [.n 45 0,.n 46 0,.q 47 (.nilChk (.t 46)),.f 48 0 47,.d 49 48,.q 50 (.nilChk (.t 45)),.f 51 2 50,.u (.store 1 (.t 51) (.t 49))]) (.skip))) (.seq (.r [.m 6 (.k 0),.m 7 (.k 0)]) (.ret)))))))⟩
theorem qFK{g1 g2 g3 g4 g5:Nat}(hc:qd P f (jF g1 g2 g3 g4 g5)=true)(h1:∀c,qf P g1 [.i .u16 c] (.b (z5 c)))(h2:qim P g2)(h3:qy1 P g3)(h4:qCY P g4)(h5:qy0 P g5)
  (m:Mac) (hm:MacOk m) (i:Ins) (hi:InsOk i) (d:GData) (hd:DatOk d) :
  Upd P f [.ptr 0 0,.agg (zy i),.agg (qX d)] [.cells 0 true false (zP m)] (.tup [.i .i64 (doR m i d).2.1,.i .i64 (doR m i d).2.2]) [.cells 0 true false (zP (doR m i d).1)]:=by
 refine Upd.mk hc (by simp[qa0,bnd,zy,qX]) (by simp) ?_;have hl:=qdb hm.len;have g0:(zP m)[0]?=some (.i .u32 m.a):=rfl
 have hcl:(zG (qC i.code)).length=3∧(zG (qC i.code))[2]?=some (.i .u8 (qn i.code))∧qw (zG (qC i.code))=true:=by
  unfold qn;cases qC i.code<;>exact⟨rfl,rfl,rfl⟩
 have hgc:=h2 i.code;have hk:=h1 i.code;have hld:=h3 m hm i hi d hd;generalize zG (qC i.code)=E at hcl hgc;obtain⟨he1,he2,he3⟩:=hcl;unfold doR;simp only[jF,vI,simprocAttr]
 by_cases hkn:z5 i.code=false
 ·rw[if_pos hkn];rw[hkn] at hk;simp only[zy,qX];simp +decide only[↓vS,vT,simprocAttr];refine hk.sc ?_;simp +decide only[↓vS,vT,simprocAttr];intro _;refine⟨[0],?_⟩;simp[vw,qc,qj]
 rw[if_neg hkn];have hkn:z5 i.code=true:=by simpa using hkn
 rw[hkn] at hk;simp only[zy,qX] at hld ⊢;simp +decide only[↓vS,vT,simprocAttr];refine hk.sc ?_;simp +decide only[↓vS,vT,simprocAttr];refine hgc.sc ?_
 by_cases hA:qn i.code=1∨qn i.code=2∨qn i.code=6
 ·rw[if_pos hA]
  rcases hA with hA|hA|hA<;>(
   simp +decide only[↓vS,vT,simprocAttr,he2,hA];refine hld.sc (vs:=[.ptr 0 0,.agg [.i .u16 i.code,.i .u8 i.jt,.i .u8 i.jf,.i .u32 i.k],.agg [.i .u32 d.nr,.i .u32 d.arch,.i .u64 d.ip,.i .u64 d.a0,.i .u64 d.a1,.i .u64 d.a2,.i .u64 d.a3,.i .u64 d.a4,.i .u64 d.a5]]) [0] (Lent.of (by decide) ?_) ?_
   ·simp[vL,vw,qd5 qj,qaU qj]
   simp only[vK,simprocAttr,qaU qj];simp +decide only[↓vS,vT,simprocAttr];intro _;refine⟨[0],?_⟩;simp[vw,qc,qj])
 rw[if_neg hA];have n1:¬qn i.code=1:=fun h=>hA (.inl h)
 have n2:¬qn i.code=2:=fun h=>hA (.inr (.inl h))
 have n6:¬qn i.code=6:=fun h=>hA (.inr (.inr h))
 by_cases c3:qn i.code=3
 ·rw[if_pos c3];have hnu:=h4 m hm i hi c3;simp only[zy] at hnu;simp +decide only[↓vS,vT,simprocAttr,he2,c3];refine hnu.sc (vs:=[.ptr 0 0,.agg [.i .u16 i.code,.i .u8 i.jt,.i .u8 i.jf,.i .u32 i.k]]) [0] (Lent.of (by decide) ?_) ?_
  ·simp[vL,vw,qd5 qj,qaU qj]
  simp only[vK,simprocAttr,qaU qj];simp +decide only[↓vS,vT,simprocAttr];intro _;refine⟨[0],?_⟩;simp[vw,qc,qj]
 rw[if_neg c3]
 by_cases c4:qn i.code=4
 ·rw[if_pos c4];have hju:=h5 m hm i hi c4;simp only[zy] at hju;simp +decide only[↓vS,vT,simprocAttr,he2,c4];refine hju.sc (vs:=[.ptr 0 0,.agg [.i .u16 i.code,.i .u8 i.jt,.i .u8 i.jf,.i .u32 i.k]]) [0] (Lent.of (by decide) ?_) ?_
  ·simp[vL,vw,qd5 qj,qaU qj]
  simp only[vK,simprocAttr,qaU qj];simp +decide only[↓vS,vT,simprocAttr];intro _;refine⟨[0],?_⟩;simp[vw,qc,qj]
 rw[if_neg c4];have so:List.take 19 (zP m)++(AV.b true::List.drop 20 (zP m))=zP { m with over:=true }:=qkI hm.len true;obtain⟨m2,hm2⟩:∃m2,m2={ m with over:=true }:=⟨_,rfl⟩;rw[← hm2] at so;have hl2:(zP m2).length=20:=qdb (by rw[hm2];exact hm.len);have s2:∀v:Int,List.take 2 (zP m2)++(AV.i .u32 v::List.drop 3 (zP m2))=zP { m2 with told:=v }:=fun _=>rfl
 obtain⟨m3,hm3⟩:∃m3,m3={ m2 with told:=i.k }:=⟨_,rfl⟩;have s2k:=s2 i.k;rw[← hm3] at s2k;have hl3:(zP m3).length=20:=qdb (by rw[hm3,hm2];exact hm.len);have g03:(zP m3)[0]?=some (.i .u32 m.a):=by rw[hm3,hm2];rfl
 have s3:∀v:Int,List.take 2 (zP m3)++(AV.i .u32 v::List.drop 3 (zP m3))=zP { m3 with told:=v }:=fun _=>rfl
 by_cases c22:i.code=22
 ·simp +decide only[↓vS,vT,simprocAttr,he2,n1,n2,n6,c3,c4,hl,so,hl2,s2k,c22,hl3,g03,s3];intro _;refine⟨[0],?_⟩;simp[vw,qc,qj,qpO,c22,hm3,hm2]
 ·simp +decide only[↓vS,vT,simprocAttr,he2,n1,n2,n6,c3,c4,hl,so,hl2,s2k,c22];intro _;refine⟨[0],?_⟩;simp[vw,qc,qj,qpO,c22,hm3,hm2]
theorem qdv(x:Int):u32 (IntKind.wrap .u32 x):=by show 0<=x % 4294967296∧x % 4294967296<=4294967295;omega
theorem qnd(left:Bool):∀(n:Nat) (a:Int),u32 a->u32 (qe7 left n a)
 | 0,_,h=>h
 | n+1,a,h=>by
  refine qnd left n _ ?_;unfold u32 at h ⊢;split<;>omega
theorem qkt{d:GData}(hd:DatOk d){x:Int}(hm:x ∈ xe d):u32 x:=by
 unfold xe at hm;rcases List.mem_cons.1 hm with rfl|hm
 ·exact⟨hd.nr0,hd.nr1⟩
 rcases List.mem_cons.1 hm with rfl|hm
 ·exact⟨hd.ar0,hd.ar1⟩
 obtain⟨y,hy,hm⟩:=List.mem_flatMap.1 hm;have:=hd.wid y hy;simp only[List.mem_cons,List.not_mem_nil,or_false] at hm;unfold u32;rcases hm with rfl|rfl
 ·unfold loW;omega
 ·unfold hiW;omega
theorem qhh{l:List Int}(h:∀c ∈ l,u32 c)(j:Nat):u32 (l.getD j 0):=by
 rw[List.getD_eq_getElem?_getD];cases hx:l[j]? with
 | none=>exact⟨Int.le_refl _,by decide⟩
 | some x=>exact h x (zzM hx)
theorem qtm{m:Mac}(hm:MacOk m){i:Ins}(hi:InsOk i){d:GData}(hd:DatOk d):MacOk (qgv m i d).1:=by
 have hk:u32 i.k:=⟨hi.k0,hi.k1⟩;have h64:u32 64:=⟨by decide,by decide⟩
 unfold qgv
 by_cases c1:qlI i=true∧15<i.k
 ·rw[if_pos c1];exact hm
 rw[if_neg c1]
 by_cases c2:i.code=32
 ·rw[if_pos c2]
  by_cases c3:i.k % 4≠0∨64<=i.k
  ·rw[if_pos c3];exact hm
  ·rw[if_neg c3];exact⟨qhh (fun c hc=>qkt hd hc) _,hm.x,hm.told,hm.len,hm.cl⟩
 rw[if_neg c2]
 by_cases d1:i.code=128
 ·rw[if_pos d1];exact⟨h64,hm.x,hm.told,hm.len,hm.cl⟩
 rw[if_neg d1]
 by_cases d2:i.code=129
 ·rw[if_pos d2];exact⟨hm.a,h64,hm.told,hm.len,hm.cl⟩
 rw[if_neg d2]
 by_cases d3:i.code=0
 ·rw[if_pos d3];exact⟨hk,hm.x,hm.told,hm.len,hm.cl⟩
 rw[if_neg d3]
 by_cases d4:i.code=1
 ·rw[if_pos d4];exact⟨hm.a,hk,hm.told,hm.len,hm.cl⟩
 rw[if_neg d4]
 by_cases d5:i.code=96
 ·rw[if_pos d5];exact⟨qhh hm.cl _,hm.x,hm.told,hm.len,hm.cl⟩
 rw[if_neg d5]
 by_cases d6:i.code=97
 ·rw[if_pos d6];exact⟨hm.a,qhh hm.cl _,hm.told,hm.len,hm.cl⟩
 rw[if_neg d6]
 by_cases d7:i.code=2
 ·rw[if_pos d7];exact⟨hm.a,hm.x,hm.told,by simpa using hm.len,fun c hc=>(List.mem_or_eq_of_mem_set hc).elim (hm.cl c) (fun e=>e ▸ hm.a)⟩
 rw[if_neg d7]
 by_cases d8:i.code=3
 ·rw[if_pos d8];exact⟨hm.a,hm.x,hm.told,by simpa using hm.len,fun c hc=>(List.mem_or_eq_of_mem_set hc).elim (hm.cl c) (fun e=>e ▸ hm.x)⟩
 rw[if_neg d8]
 by_cases d9:i.code=7
 ·rw[if_pos d9];exact⟨hm.a,hm.a,hm.told,hm.len,hm.cl⟩
 rw[if_neg d9]
 by_cases d10:i.code=135
 ·rw[if_pos d10];exact⟨hm.x,hm.x,hm.told,hm.len,hm.cl⟩
 rw[if_neg d10];exact hm
theorem qAv(c a b:Int):u32 (opM c a b):=by
 unfold opM;split
 ·exact qdv _
 split
 ·exact qdv _
 split
 ·exact qdv _
 split
 ·exact qdv _
 split
 ·exact qdv _
 split
 ·exact qdv _
 ·exact qdv _
theorem qAj{m:Mac}(hm:MacOk m)(i:Ins):MacOk (nuM m i).1:=by
 unfold nuM;split
 ·split
  ·rename_i hb;have h1:m.a / zw m i<=m.a:=Int.ediv_le_self _ hm.a.1;have h2:0<=m.a / zw m i:=Int.ediv_nonneg hm.a.1 (by omega);have h3:=hm.a.2;exact⟨⟨h2,by show m.a / zw m i<=4294967295;omega⟩,hm.x,hm.told,hm.len,hm.cl⟩
  split
  ·exact⟨hm.a,hm.x,hm.told,hm.len,hm.cl⟩
  ·exact hm
 split
 ·split
  ·exact hm
  ·exact⟨qnd _ _ _ hm.a,hm.x,hm.told,hm.len,hm.cl⟩
 ·exact⟨qAv _ _ _,hm.x,hm.told,hm.len,hm.cl⟩
theorem qs3{m:Mac}{i:Ins}(hi:InsOk i):u32 (qix m i):=by
 have:=hi.t0;have:=hi.t1;have:=hi.f0;have:=hi.f1;have:=hi.k0;have:=hi.k1
 unfold qix u32;split
 ·omega
 split<;>omega
theorem qzn{m:Mac}(hm:MacOk m){i:Ins}(hi:InsOk i){d:GData}(hd:DatOk d):MacOk (doR m i d).1∧u32 (doR m i d).2.1:=by
 have h0:u32 0:=⟨by decide,by decide⟩
 unfold doR;split
 ·exact⟨hm,h0⟩
 split
 ·exact⟨qtm hm hi hd,h0⟩
 split
 ·exact⟨qAj hm i,h0⟩
 split
 ·exact⟨hm,qs3 hi⟩
 ·refine⟨⟨hm.a,hm.x,?_,hm.len,hm.cl⟩,h0⟩;show u32 (if i.code=22 then m.a else i.k)
  split
  ·exact hm.a
  ·exact⟨hi.k0,hi.k1⟩
def qgj(p:List Ins)(d:GData):Nat->Mac->Nat->Int->List Nat->Int×Nat×List Nat×Int
 | 0,_,_,_,l=>(0,0,l,0)
 | n+1,m,at',bh,l=>match p[at']? with
  | none=>(0,l.length,l,bh)
  | some i=>if (doR m i d).2.2≠0 then (0,l.length,l++[at'],(doR m i d).2.2)
   else if (doR m i d).1.over=true then ((doR m i d).1.told,l.length+1,l++[at'],0)
   else qgj p d n (doR m i d).1 (at'+1+(doR m i d).2.1.toNat) (if qn i.code=4 then 42 else 46) (l++[at'])
def qjM:Mac:=⟨0,0,0,List.replicate 16 0,false⟩
def qxj(p:List Ins)(d:GData):AV:=.tup [.i .u32 (qgj p d (p.length+1) qjM 0 46 []).1,.i .i64 ((qgj p d (p.length+1) qjM 0 46 []).2.1:Nat),.fz (qgj p d (p.length+1) qjM 0 46 []).2.2.1.length (rNt (qgj p d (p.length+1) qjM 0 46 []).2.2.1),.i .i64 (qgj p d (p.length+1) qjM 0 46 []).2.2.2]
def qEA(P:Program)(g:Nat):Prop:=∀m:Mac,MacOk m->∀i:Ins,InsOk i->∀d:GData,DatOk d->Upd P g [.ptr 0 0,.agg (zy i),.agg (qX d)] [.cells 0 true false (zP m)] (.tup [.i .i64 (doR m i d).2.1,.i .i64 (doR m i d).2.2]) [.cells 0 true false (zP (doR m i d).1)]
def qb1(a b:Nat):IFn:=⟨[.tmp 4,.tmp 5,.tmp 6,.tmp 7],.seq (.r [.q 3 (.box (.t 1)),.m 4 (.c (.i .u32 0)),.m 5 (.k 0),.m 6 .N,.m 7 (.k 0)]) (.seq (.r [.q 8 (.alloc [.i .u32 0,.i .u32 0,.i .u32 0,.i .u32 0,.i .u32 0,.i .u32 0,.i .u32 0,.i .u32 0,.i .u32 0,.i .u32 0,.i .u32 0,.i .u32 0,.i .u32 0,.i .u32 0,.i .u32 0,.i .u32 0,.i .u32 0,.i .u32 0,.i .u32 0,.b false])]) (.seq (.r [.m 9 .N]) (.seq (.r [.m 10 (.k 0),.m 11 (.k 46)]) (.blk 0 (.loop (.blk 1 (.seq (.seq (.r [.n 14 10,.n 15 0,.e 16 15,.b 17 .geq 14 16]) (.cond (.t 17) (.seq (.r [.n 18 9,.e 19 18,.n 20 9,.n 21 11,.m 4 (.c (.i .u32 0)),.n 5 19,.n 6 20,.n 7 21]) (.ret)) (.skip))) (.seq (.reg true [.n 23 0,.n 24 10,.i 25 4 23 24,.v 26 4 25,.v 27 9 3,⟨(some 28),.callW a [.t 8,.t 26,.t 27],none⟩,.n 22 28,.x 29 22 0,.x 30 22 1,.n 12 29,.n 13 30]) (.seq (.r [.n 31 9,.n 32 10,.q 33 (.buildS 1 [.i .i64 0] [(0,1,(.t 32))]),.q 34 (.app 1 8 true (.t 31) (.t 33)),.n 9 34]) (.seq (.seq (.r [.n 35 13,.w 36 .neq 35 0]) (.cond (.t 36) (.seq (.r [.n 37 9,.e 38 37,.w 39 .sub 38 1,.n 40 9,.n 41 13,.m 4 (.c (.i .u32 0)),.n 5 39,.n 6 40,.n 7 41]) (.ret)) (.skip))) (.seq (.seq (.r [.f 42 19 8,.d 43 42]) (.cond (.t 43) (.seq (.r [.f 44 2 8,.d 45 44,.n 46 9,.e 47 46,.n 48 9,.n 4 45,.n 5 47,.n 6 48,.m 7 (.k 0)]) (.ret)) (.skip))) (.seq (.r [.m 11 (.k 46)]) (.seq (.seq (.r [.n 49 0,.n 50 10,.i 51 4 49 50,.f 52 0 51,.d 53 52,.l 54 b [.t 53],.q 55 (.fld 2 none (.t 54)),.q 56 (.bin .eql (.t 55) (.c (.i .u8 4)))]) (.cond (.t 56) (.r [.m 11 (.k 42)]) (.skip))) (.r [.n 57 10,.a 58 57 1,.n 59 12,.b 60 .add 58 59,.n 10 60]))))))))))))))⟩
theorem qsc{d:GData}:List.take 9 (List.drop 0 (qX d))=qX d:=rfl
theorem qxX{d:GData}:9<=(qX d).length:=Nat.le_refl 9
theorem qdy{d:GData}:qw (qX d)=true:=rfl
theorem qwo:MacOk qjM:=⟨⟨by decide,by decide⟩,⟨by decide,by decide⟩,⟨by decide,by decide⟩,rfl,fun c hc=>by
 have:=List.eq_of_mem_replicate hc;subst this;exact⟨by decide,by decide⟩⟩
theorem qib{p:List Ins}{d:GData}{n:Nat}{m:Mac}{at':Nat}{bh:Int}{l:List Nat}:qgj p d (n+1) m at' bh l=match p[at']? with
  | none=>(0,l.length,l,bh)
  | some i=>if (doR m i d).2.2≠0 then (0,l.length,l++[at'],(doR m i d).2.2)
   else if (doR m i d).1.over=true then ((doR m i d).1.told,l.length+1,l++[at'],0)
   else qgj p d n (doR m i d).1 (at'+1+(doR m i d).2.1.toNat) (if qn i.code=4 then 42 else 46) (l++[at']):=rfl
theorem qFI{g1 g2:Nat}(hc:qd P f (qb1 g1 g2)=true)(h1:qEA P g1)(h2:qim P g2)(p:List Ins)(hp:p.length<=4096)(hi:∀i ∈ p,InsOk i)(d:GData)(hd:DatOk d) :
  qf P f [.fz p.length (rP p),.agg (qX d)] (qxj p d):=by
 refine qf.mk hc (by simp[qw,clo,qu,qdy]) ?_;unfold qxj;simp only[qb1,vI,simprocAttr];simp +decide only[↓vS,vT,simprocAttr]
 refine SL.loop (α:=Nat×Mac×Nat×Int×List Nat) (fun s=>[(0,.fz p.length (rP p)),(3,.ptr 0 0),(8,.ptr 1 0),(9,.own 2 s.2.2.2.2.length),(10,.i .i64 (s.2.2.1:Int)),(11,.i .i64 s.2.2.2.1)]) (fun s=>[.cells 0 true false (qX d),.cells 0 true false (zP s.2.1),.cells 1 true true (rNt s.2.2.2.2)])
  (fun s=>1<=s.1∧p.length+1<=s.1+s.2.2.1∧MacOk s.2.1∧s.2.2.1<=5000000000∧s.2.2.2.2.length<=s.2.2.1∧s.2.2.2.2.length<=p.length∧qgj p d s.1 s.2.1 s.2.2.1 s.2.2.2.1 s.2.2.2.2=qgj p d (p.length+1) qjM 0 46 []) (fun s=>s.1) (p.length+1,qjM,0,46,[]) [0,1,99] ?_ ?_ ?_ rfl ?_ ?_
 ·simp[vw,qu]
 ·simp[vw,qc,qdy];exact⟨NVs.refl qdy,NVs.refl (vs:=zP qjM) qj⟩
 ·simp
 ·exact⟨Nat.le_add_left 1 _,Nat.le_refl _,qwo,Nat.zero_le _,Nat.le_refl _,Nat.zero_le _,rfl⟩
 rintro⟨n,m,a,bh,l⟩ ⟨hn1,hn2,hm,ha,hla,hlp,hI⟩ G ih;simp only at hn1 hn2 hm ha hla hlp hI;obtain⟨n,rfl⟩:∃n',n=n'+1:=⟨n-1,by omega⟩
 rw[qib] at hI;simp only[vI,simprocAttr]
 by_cases hlt:a<p.length
 ·obtain⟨i,hpi⟩:∃i,p[a]?=some i:=⟨_,zzE hlt⟩;have hii:=hi i (zzM hpi);rw[hpi] at hI;simp only at hI;have hel:=zL (f:=zy) (m:=4) xf hpi;rw[show p.flatMap zy=rP p from rfl] at hel
  have h4:a*4+4<=(rP p).length:=by rw[qfG];omega
  have g0:=zZ (f:=zy) (m:=4) xf hpi (i:=0) (by omega);rw[show p.flatMap zy=rP p from rfl] at g0
  simp only[zy,Nat.add_zero,List.getElem?_cons_zero] at g0;have hge:¬(p.length:Int)<=(a:Int):=by omega
  have hok:=qzn hm hii hd;have hdo:=h1 m hm i hii d hd
  have hcl:(zG (qC i.code)).length=3∧(zG (qC i.code))[2]?=some (.i .u8 (qn i.code))∧qw (zG (qC i.code))=true:=by
   unfold qn;cases qC i.code<;>exact⟨rfl,rfl,rfl⟩
  have hgc:=h2 i.code;generalize zG (qC i.code)=E at hcl hgc;obtain⟨he1,he2,he3⟩:=hcl;generalize doR m i d=r at hI hok hdo;obtain⟨m2,k,e⟩:=r;simp only at hI hok hdo;obtain⟨hm2,hk⟩:=hok;have hl20:=qdb hm2.len;have ho:=qqc hm2.len;have ht:(zP m2)[2]?=some (.i .u32 m2.told):=rfl;have hr1:l.length+1<=qh:=by simp only[qh];omega
  have hr2:(l.length+1)*8<=qh:=by simp only[qh];omega
  have hap:rNt l++[.i .i64 (a:Int)]=rNt (l++[a]):=by rw[← qpx];rfl
  have hll:(rNt l).length=l.length:=qlW;simp +decide only[↓vS,vT,simprocAttr,hge,hlt];refine zg ?_;simp +decide only[↓vS,vT,simprocAttr,hlt,hel,h4,qsc,qxX];refine hdo.pc (vs:=[.ptr 0 0,.agg (zy i),.agg (qX d)]) [1] (Lent.of (by decide) ?_) ?_
  ·simp[vL,vw,qd5 qj,qaU qj,qd5 qdy,qaU qdy,zy]
  simp only[vK,simprocAttr,qaU qj];have w1:IntKind.wrap .i64 (((l.length+1:Nat):Int)-1)=(l.length:Int):=by rw[qm (by omega) (by omega)];omega
  have w2:IntKind.wrap .i64 ((a:Int)+1)=((a+1:Nat):Int):=by rw[qm (by omega) (by omega)];omega
  have hk0:=hk.1;have hk1:=hk.2;have w3:IntKind.wrap .i64 (((a+1:Nat):Int)+k)=((a+1+k.toNat:Nat):Int):=by rw[qm (by omega) (by omega)];omega
  have hla1:(l++[a]).length=l.length+1:=by simp
  by_cases he:e=0
  ·rw[if_neg (by simpa using he)] at hI;cases hov:m2.over with
   | true =>
    rw[hov] at ho;rw[if_pos hov] at hI;rw[← hI];simp +decide only[↓vS,vT,simprocAttr,hr1,hr2,hll,hap,he,hl20,ho,ht,Nat.mul_one];simp[vZ,vP,Tr.get_set,qQ zk,hla1]
   | false =>
    rw[hov] at ho;rw[if_neg (by rw[hov];simp)] at hI
    by_cases c4:qn i.code=4
    ·rw[if_pos c4] at hI;simp +decide only[↓vS,vT,simprocAttr,hr1,hr2,hll,hap,he,hl20,ho,ht,Nat.mul_one,hlt,g0];refine hgc.sc ?_;simp +decide only[↓vS,vT,simprocAttr,he2,c4,w2,w3];refine ih (n,m2,a+1+k.toNat,42,l++[a]) ⟨by simp only;omega,by simp only;omega,hm2,by simp only;omega,by simp only[hla1];omega,by simp only[hla1];omega,hI⟩ (by simp only;omega) _ _ (Wk.mk _ _ [0,1,4] ?_ ?_ ?_ rfl)
     ·simp[vw,qu]
     ·simp[vw,qc,zk,qj];exact NVs.refl qdy
     ·simp
    ·rw[if_neg c4] at hI;simp +decide only[↓vS,vT,simprocAttr,hr1,hr2,hll,hap,he,hl20,ho,ht,Nat.mul_one,hlt,g0];refine hgc.sc ?_;simp +decide only[↓vS,vT,simprocAttr,he2,c4,w2,w3];refine ih (n,m2,a+1+k.toNat,46,l++[a]) ⟨by simp only;omega,by simp only;omega,hm2,by simp only;omega,by simp only[hla1];omega,by simp only[hla1];omega,hI⟩ (by simp only;omega) _ _ (Wk.mk _ _ [0,1,4] ?_ ?_ ?_ rfl)
     ·simp[vw,qu]
     ·simp[vw,qc,zk,qj];exact NVs.refl qdy
     ·simp
  ·rw[if_pos he] at hI;rw[← hI];simp +decide only[↓vS,vT,simprocAttr,hr1,hr2,hll,hap,he,w1,Nat.mul_one];simp[vZ,vP,Tr.get_set,qQ zk,hla1]
 ·have hge:p.length<=a:=by omega
  have hno:p[a]?=none:=List.getElem?_eq_none hge;rw[hno] at hI;simp only at hI;rw[← hI];have hge':(p.length:Int)<=(a:Int):=by omega
  simp +decide only[↓vS,vT,simprocAttr,hge'];simp[vZ,vP,Tr.get_set,qQ zk];intro h0;rw[h0];rfl



structure Prs (P:Program) (g:Nat->Nat):Prop where
 p1:∀a b:Int,qf P (g 1) [.i .u32 a,.i .u32 b] (.i .u32 (opM 4 a b))
 p2:∀a b:Int,qf P (g 2) [.i .u32 a,.i .u32 b] (.i .u32 (opM 20 a b))
 p3:∀a b:Int,qf P (g 3) [.i .u32 a,.i .u32 b] (.i .u32 (opM 36 a b))
 p4:∀a b:Int,0<=a->a<=4294967295->0<b->qf P (g 4) [.i .u32 a,.i .u32 b] (.i .u32 (a / b))
 p5:∀a b:Int,qf P (g 5) [.i .u32 a,.i .u32 b] (.i .u32 (opM 68 a b))
 p6:∀a b:Int,qf P (g 6) [.i .u32 a,.i .u32 b] (.i .u32 (opM 84 a b))
 p7:∀a b:Int,0<=a->a<=4294967295->0<=b->qf P (g 7) [.i .u32 a,.i .u32 b] (.i .u32 (qe7 true (b % 32).toNat a))
 p8:∀a b:Int,0<=a->a<=4294967295->0<=b->qf P (g 8) [.i .u32 a,.i .u32 b] (.i .u32 (qe7 false (b % 32).toNat a))
 p9:∀a b:Int,qf P (g 9) [.i .u32 a,.i .u32 b] (.i .u32 (opM 164 a b))
 p10:∀a b:Int,qf P (g 10) [.i .u32 a,.i .u32 b] (.i .u32 (opM 132 a b))
 p11:∀a b:Int,qf P (g 11) [.i .u32 a,.i .u32 b] (.b (qaI 21 a b))
 p12:∀a b:Int,qf P (g 12) [.i .u32 a,.i .u32 b] (.b (qaI 37 a b))
 p13:∀a b:Int,qf P (g 13) [.i .u32 a,.i .u32 b] (.b (qaI 53 a b))
 p14:∀a b:Int,qf P (g 14) [.i .u32 a,.i .u32 b] (.b (qaI 69 a b))


end Go.Kc
end
section
namespace Go.Kc
end Go.Kc
end
section
namespace Go.Kc
end Go.Kc
end
section
namespace Go.Kc
variable {P:Program} {f:Nat}
structure PrgGood (p:List Ins):Prop where
 len:p.length<=4096
 ne:p.length≠0
 ins:∀i ∈ p,InsOk i
 one:∀(k:Nat) (i:Ins),p[k]?=some i->qgT i (p.length-1-k)=0
 last:qn (qkX p)=5
def ql3(p:List Ins)(d:GData):Int×Nat×List Nat×Int:=qgj p d (p.length+1) qjM 0 46 []
end Go.Kc
end
section
namespace Go.Kc
variable {P:Program} {n:Nat}
def Has(t:Tr AV)(l:List (Nat×AV)):Prop:=∀p ∈ l,t.get p.1=some p.2
theorem qi{t:Tr AV}:Has t []↔True:=iff_true_intro fun p hp=>by cases hp
theorem qe{t:Tr AV}{p:Nat×AV}{l:List (Nat×AV)}:Has t (p::l)↔t.get p.1=some p.2∧Has t l:=by simp[Has]
theorem Has.tr{t:Tr AV}{l:List (Nat×AV)}(h:Has t l){ρ:Ren}{tm:Array Value}(ht:TR σ0 ρ t tm):TR σ0 ρ (mkT l) tm:=fun j v hj=>ht j v (h (j,v) (qdA hj))
theorem S.has{x:ICode}{Q:X->Tr AV->Hp->Prop}{t:Tr AV}{h:Hp}(l:List (Nat×AV))(hl:Has t l)(hs:S P n x Q (mkT l) h):S P n x Q t h :=
 fun nt cx hc hn ro hro ρ B w a ht hsz r=>hs nt cx hc hn ro hro ρ B w a (hl.tr ht) hsz r
theorem SL.has{x:ICode}{Q:X->Tr AV->Hp->Prop}{t:Tr AV}{h:Hp}(l:List (Nat×AV))(hl:Has t l)(hs:SL P n x Q (mkT l) h):SL P n x Q t h :=
 fun nt cx hc hn ro hro ρ B w a ht hsz r=>hs nt cx hc hn ro hro ρ B w a (hl.tr ht) hsz r
theorem SL.loopP{α:Type}{x:ICode}{Q:X->Tr AV->Hp->Prop}(T:α->List (Nat×AV))(I:α->Hp->Prop)(μ:α->Nat)
  (step:∀a h,I a h->∀G:Tr AV->Hp->Prop,(∀a' t' h',μ a'<μ a->Has t' (T a')->I a' h'->G t' h')->V P n x (fun e t h=>onX e (G t h) (fun id=>Q (.exit id) t h) (Q .ret t h)) (mkT (T a)) h)
  (a0:α) {t:Tr AV} {h:Hp} (ht:Has t (T a0)) (h0:I a0 h):SL P n x Q t h:=by
 have main:∀m a t h,μ a<=m->Has t (T a)->I a h->SL P n x Q t h:=by
  intro m
  induction m with
  | zero =>
   intro a t h hm ht hi;refine SL.has _ ht (qlp (step a h hi _ ?_));intro a' t' h' hlt _ _;omega
  | succ m ih =>
   intro a t h hm ht hi;refine SL.has _ ht (qlp (step a h hi _ ?_));intro a' t' h' hlt ht' hi';exact ih a' t' h' (by omega) ht' hi'
 exact main _ a0 t h (Nat.le_refl _) ht h0
end Go.Kc
end
section
namespace Go.Kc
variable {P:Program} {f:Nat}
structure Sy where
 code:Int
 k:Int
 th:Nat
 el:Nat
def cSy(s:Sy):List AV:=[.i .u16 s.code,.i .u32 s.k,.i .i64 (s.th:Int),.i .i64 (s.el:Int)]
def rSy(l:List Sy):List AV:=l.flatMap cSy
theorem qaj{l:List Sy}:(rSy l).length=l.length*4:=by
 induction l with
 | nil=>rfl
 | cons s l ih=>simp only[rSy,List.flatMap_cons,List.length_append,List.length_cons] at ih ⊢;rw[ih];simp[cSy];omega
theorem qpC{l m:List Sy}:rSy l++rSy m=rSy (l++m):=by simp[rSy]
theorem qxb{s:Sy}:cSy s=rSy [s]:=by simp[rSy]
def Sy.raw(s:Sy):Sy:=⟨s.code,s.k,0,0⟩
def qS:IFn:=⟨[],.r [.n 4 0,.n 5 0,.q 6 (.nilChk (.t 5)),.f 7 0 6,.d 8 7,.n 9 1,.q 10 (.app 4 24 true (.t 8) (.t 9)),.q 11 (.nilChk (.t 4)),.f 12 0 11,.u (.store 1 (.t 12) (.t 10))]⟩
theorem qAY(hc:qd P f qS=true){w s fl bx bl m e:Nat}{tr:Tr Blk}{x:AV}{a:Bool}{ys:List AV}(y:Sy){k:AV->Hp->Prop}
  (hw:tr.get w=some (.cells 0 true false [.own bl m,x])) (hl:tr.get bl=some (.cells 4 true true ys)) (hy:ys.length=m*4) (hx:tr.get bx=some (.cells e true a (cSy y))) (hm:m<=1000000)
  (hwl:w≠bl) (hws:w<s) (hfw:fl<=w) (hfl:fl<=bl) (hxok:qde x=true∧zh x=true) (hk:k (.tup []) ⟨s+1,fl,((tr.set bl .dead).set s (.cells 4 true true (ys++cSy y))).set w (.cells 0 true false [.own s (m+1),x])⟩) :
  SC P f [.ptr w 0,.sl bx 0 1 1 false] ⟨s,fl,tr⟩ k:=by
 refine SC.mk hc (ql ?_);have hr1:m+1<=qh:=by simp only[qh];omega
 have hr2:(m+1)*24<=qh:=by simp only[qh];omega
 have hws':¬w=s:=by omega
 simp only[qS,vI,simprocAttr];simp +decide only[↓vS,vT,simprocAttr,hw,hl,hy,hx,cSy,hr1,hr2,hwl,hws',hfw,hfl];exact hk
def xh:IFn:=⟨[],.r [.n 4 1,.n 5 0,.q 6 (.nilChk (.t 5)),.f 7 0 6,.d 8 7,.e 9 8,.q 10 (.nilChk (.t 4)),.f 11 0 10,.u (.store 1 (.t 11) (.t 9))]⟩
theorem qvZ(hc:qd P f xh=true){w s fl bl m b:Nat}{tr:Tr Blk}{x:AV}{old:AV}{k:AV->Hp->Prop}
  (hw:tr.get w=some (.cells 0 true false [.own bl m,x])) (hb:tr.get b=some (.cells 0 true false [old]))
  (hfb:fl<=b) (hk:k (.tup []) ⟨s,fl,tr.set b (.cells 0 true false [.i .i64 (m:Int)])⟩) :
  SC P f [.ptr w 0,.ptr b 0] ⟨s,fl,tr⟩ k:=by
 refine SC.mk hc (ql ?_);simp only[xh,vI,simprocAttr];simp +decide only[↓vS,vT,simprocAttr,hw,hb,hfb];exact hk
inductive Kd where
 | no|fr|w|l|t|box
 | lab (F:Nat) (p:Bool)
def kdS(κ:Nat->Kd)(b:Nat)(x:Kd):Nat->Kd:=fun c=>if c=b then x else κ c
theorem qE{κ:Nat->Kd}{b:Nat}{x:Kd}:kdS κ b x b=x:=if_pos rfl
theorem qg{κ:Nat->Kd}{b c:Nat}{x:Kd}(h:c≠b):kdS κ b x c=κ c:=if_neg h
def Bx(κ:Nat->Kd)(tr:Tr Blk)(b:Nat)(v:AV):Prop:=κ b = .box∧tr.get b=some (.cells 0 true false [v])
def JOk(g w:Nat)(κ:Nat->Kd)(tr:Tr Blk)(RV:List Sy)(j:Nat)(c:AV):Prop :=
 ∃b5 b6 b8 b9 b10 X p o y,c = .fn g [] [.ptr b8 0,.ptr b5 0,.ptr b10 0,.ptr b6 0,.ptr b9 0]∧RV[j]?=some y∧Bx κ tr b5 (.ptr w 0)∧Bx κ tr b6 (.i .u16 y.code)∧Bx κ tr b8 (.ptr X 0)∧Bx κ tr b9 o∧Bx κ tr b10 (.i .i64 (j:Int)) ∧
  κ X = .lab y.th p∧((y.code=5∧o = .nilp∧y.el=0)∨(y.code≠5∧∃Y p',o = .ptr Y 0∧κ Y = .lab y.el p'))
def qfh(g w:Nat)(κ:Nat->Kd)(tr:Tr Blk)(RV:List Sy):List Nat->List AV->Prop
 | [],[]=>True
 | j::js,c::cs=>JOk g w κ tr RV j c∧qfh g w κ tr RV js cs
 | _,_=>False
structure WI (g w:Nat) (κ:Nat->Kd) (s:Nat) (tr:Tr Blk) (RV:List Sy) (N:List Nat):Prop where
 dom:∀b,κ b≠.no->b<s
 rows:∃bl bt cs js,κ w = .w∧κ bl = .l∧κ bt = .t∧tr.get w=some (.cells 0 true false [.own bl RV.length,.own bt cs.length])∧tr.get bl=some (.cells 4 true true (rSy (RV.map Sy.raw)))∧tr.get bt=some (.cells 1 true true cs) ∧
  qfh g w κ tr RV js cs∧cs.length+N.length<=RV.length∧∀(j:Nat) y,RV[j]?=some y->j ∉ js->j ∉ N->y.raw=y
 lab:∀b F p,κ b = .lab F p->∃x:Int,tr.get b=some (.cells 0 true false [.i .i64 x])∧(p=true->x=F)
structure Stp (L:List Nat) (κ:Nat->Kd) (s:Nat) (tr:Tr Blk) (κ':Nat->Kd) (s':Nat) (tr':Tr Blk):Prop where
 le:s<=s'
 fr:∀b,κ b = .fr->κ' b = .fr∧tr'.get b=tr.get b
 box:∀b,κ b = .box->κ' b = .box∧tr'.get b=tr.get b
 lab:∀b F p,κ b = .lab F p->κ' b = .lab F p
 nw:∀b F,κ' b = .lab F false->κ b = .lab F false∨b ∈ L
theorem Stp.refl{κ:Nat->Kd}{s:Nat}{tr:Tr Blk}:Stp [] κ s tr κ s tr:=⟨Nat.le_refl _,fun _ h=>⟨h,rfl⟩,fun _ h=>⟨h,rfl⟩,fun _ _ _ h=>h,fun _ _ h=>.inl h⟩
theorem Stp.trans{L M:List Nat}{κ κ1 κ2:Nat->Kd}{s s1 s2:Nat}{tr t1 t2:Tr Blk}(a:Stp L κ s tr κ1 s1 t1)(b:Stp M κ1 s1 t1 κ2 s2 t2):Stp (L++M) κ s tr κ2 s2 t2 :=
 ⟨Nat.le_trans a.le b.le,fun x h=>⟨(b.fr x (a.fr x h).1).1,(b.fr x (a.fr x h).1).2.trans (a.fr x h).2⟩,fun x h=>⟨(b.box x (a.box x h).1).1,(b.box x (a.box x h).1).2.trans (a.box x h).2⟩,fun x F p h=>b.lab x F p (a.lab x F p h),
  fun x F h=>by
   rcases b.nw x F h with h|h
   ·rcases a.nw x F h with h|h
    ·exact .inl h
    ·exact .inr (List.mem_append_left _ h)
   ·exact .inr (List.mem_append_right _ h)⟩
theorem JOk.mono{g w:Nat}{κ κ':Nat->Kd}{tr tr':Tr Blk}{RV RV':List Sy}{j:Nat}{c:AV}(h:JOk g w κ tr RV j c)(hb:∀b,κ b = .box->κ' b = .box∧tr'.get b=tr.get b)(hl:∀b F p,κ b = .lab F p->∃p',κ' b = .lab F p')
  (hr:∀(j:Nat) y,RV[j]?=some y->RV'[j]?=some y):JOk g w κ' tr' RV' j c:=by
 obtain⟨b5,b6,b8,b9,b10,X,p,o,y,h0,h1,h2,h3,h4,h5,h6,h7,h8⟩:=h;have bx:∀b v,Bx κ tr b v->Bx κ' tr' b v:=fun b v q=>⟨(hb b q.1).1,(hb b q.1).2.trans q.2⟩
 obtain⟨p1,h7'⟩:=hl X _ p h7;refine⟨b5,b6,b8,b9,b10,X,p1,o,y,h0,hr _ _ h1,bx _ _ h2,bx _ _ h3,bx _ _ h4,bx _ _ h5,bx _ _ h6,h7',?_⟩;rcases h8 with h8|⟨h8,Y,p',h9,h10⟩
 ·exact .inl h8
 ·obtain⟨p2,h10'⟩:=hl Y _ p' h10;exact .inr ⟨h8,Y,p2,h9,h10'⟩
theorem qfh.mono{g w:Nat}{κ κ':Nat->Kd}{tr tr':Tr Blk}{RV RV':List Sy}(hb:∀b,κ b = .box->κ' b = .box∧tr'.get b=tr.get b)(hl:∀b F p,κ b = .lab F p->∃p',κ' b = .lab F p')
  (hr:∀(j:Nat) y,RV[j]?=some y->RV'[j]?=some y):∀{js:List Nat} {cs:List AV},qfh g w κ tr RV js cs->qfh g w κ' tr' RV' js cs
 | [],[],_=>trivial
 | _::_,_::_,h=>⟨h.1.mono hb hl hr,qfh.mono hb hl hr h.2⟩
 | [],_::_,h=>h.elim
 | _::_,[],h=>h.elim
theorem qfh.app{g w:Nat}{κ:Nat->Kd}{tr:Tr Blk}{RV:List Sy}{j:Nat}{c:AV}(hj:JOk g w κ tr RV j c):∀{js:List Nat} {cs:List AV},qfh g w κ tr RV js cs->qfh g w κ tr RV (js++[j]) (cs++[c])
 | [],[],_=>⟨hj,trivial⟩
 | _::_,_::_,h=>⟨h.1,qfh.app hj h.2⟩
 | [],_::_,h=>h.elim
 | _::_,[],h=>h.elim
section
variable {g w s:Nat} {κ:Nat->Kd} {tr:Tr Blk} {RV:List Sy} {N:List Nat}
theorem WI.fresh(h:WI g w κ s tr RV N):κ s = .no:=by
 cases hk:κ s with
 | no=>rfl
 | _=>exact absurd (h.dom s (by rw[hk];simp)) (Nat.lt_irrefl _)
theorem WI.new(h:WI g w κ s tr RV N)(kd:Kd)(x:Blk)(hk:kd = .no∨kd = .fr∨kd = .box∨∃F,kd = .lab F false∧x = .cells 0 true false [.i .i64 0]):WI g w (kdS κ s kd) (s+1) (tr.set s x) RV N:=by
 have hs:=h.fresh;have ne:∀{b},κ b≠.no->b≠s:=fun hb e=>hb (e ▸ hs)
 obtain⟨bl,bt,cs,js,r1,r2,r3,r4,r5,r6,r7,r8,r9⟩:=h.rows;refine⟨fun b hb=>?_,⟨bl,bt,cs,js,?_,?_,?_,?_,?_,?_,r7.mono ?_ ?_ fun _ _ q=>q,r8,r9⟩,fun b F p hb=>?_⟩
 ·by_cases e:b=s
  ·omega
  ·rw[qg e] at hb;have:=h.dom b hb;omega
 ·rw[qg (ne (by rw[r1];simp))];exact r1
 ·rw[qg (ne (by rw[r2];simp))];exact r2
 ·rw[qg (ne (by rw[r3];simp))];exact r3
 ·rw[Tr.get_set,if_neg (ne (by rw[r1];simp))];exact r4
 ·rw[Tr.get_set,if_neg (ne (by rw[r2];simp))];exact r5
 ·rw[Tr.get_set,if_neg (ne (by rw[r3];simp))];exact r6
 ·intro b hb;have e:=ne (b:=b) (by rw[hb];simp);rw[qg e,Tr.get_set,if_neg e];exact⟨hb,rfl⟩
 ·intro b F p hb;rw[qg (ne (by rw[hb];simp))];exact⟨p,hb⟩
 ·by_cases e:b=s
  ·subst e;rw[qE] at hb;rcases hk with hk|hk|hk|⟨F',hk,hx⟩
   ·rw[hk] at hb;cases hb
   ·rw[hk] at hb;cases hb
   ·rw[hk] at hb;cases hb
   ·rw[hk] at hb;cases hb;exact⟨0,by rw[Tr.get_set,if_pos rfl,hx],by simp⟩
  ·rw[qg e] at hb;rw[Tr.get_set,if_neg e];exact h.lab b F p hb
theorem WI.stpLab(h:WI g w κ s tr RV N)(kd:Kd)(x:Blk):Stp [s] κ s tr (kdS κ s kd) (s+1) (tr.set s x):=by
 have hs:=h.fresh;have ne:∀{b},κ b≠.no->b≠s:=fun hb e=>hb (e ▸ hs)
 refine⟨by omega,fun b hb=>?_,fun b hb=>?_,fun b F p hb=>?_,fun b F hb=>?_⟩
 ·have e:=ne (b:=b) (by rw[hb];simp);rw[qg e,Tr.get_set,if_neg e];exact⟨hb,rfl⟩
 ·have e:=ne (b:=b) (by rw[hb];simp);rw[qg e,Tr.get_set,if_neg e];exact⟨hb,rfl⟩
 ·rw[qg (ne (by rw[hb];simp))];exact hb
 ·by_cases e:b=s
  ·exact .inr (by simp[e])
  ·rw[qg e] at hb;exact .inl hb
theorem WI.stpNew(h:WI g w κ s tr RV N)(kd:Kd)(x:Blk)(hk:∀F,kd≠.lab F false):Stp [] κ s tr (kdS κ s kd) (s+1) (tr.set s x):=by
 refine { h.stpLab kd x with nw:=fun b F hb=>?_ }
 by_cases e:b=s
 ·rw[e,qE] at hb;exact absurd hb (hk F)
 ·rw[qg e] at hb;exact .inl hb
theorem WI.chg(h:WI g w κ s tr RV N){b:Nat}(kd:Kd)(x:Blk)(hb:κ b = .fr∨κ b = .no)(hbs:b<s)(hk:kd = .no∨kd = .fr∨kd = .box):WI g w (kdS κ b kd) s (tr.set b x) RV N:=by
 have ne:∀{c},κ c≠.no->κ c≠.fr->c≠b:=fun h1 h2 e=>by subst e;rcases hb with q|q<;>contradiction
 obtain⟨bl,bt,cs,js,r1,r2,r3,r4,r5,r6,r7,r8,r9⟩:=h.rows;refine⟨fun c hc=>?_,⟨bl,bt,cs,js,?_,?_,?_,?_,?_,?_,r7.mono ?_ ?_ fun _ _ q=>q,r8,r9⟩,fun c F p hc=>?_⟩
 ·by_cases e:c=b
  ·omega
  ·rw[qg e] at hc;exact h.dom c hc
 ·rw[qg (ne (by rw[r1];simp) (by rw[r1];simp))];exact r1
 ·rw[qg (ne (by rw[r2];simp) (by rw[r2];simp))];exact r2
 ·rw[qg (ne (by rw[r3];simp) (by rw[r3];simp))];exact r3
 ·rw[Tr.get_set,if_neg (ne (by rw[r1];simp) (by rw[r1];simp))];exact r4
 ·rw[Tr.get_set,if_neg (ne (by rw[r2];simp) (by rw[r2];simp))];exact r5
 ·rw[Tr.get_set,if_neg (ne (by rw[r3];simp) (by rw[r3];simp))];exact r6
 ·intro c hc;have e:=ne (c:=c) (by rw[hc];simp) (by rw[hc];simp);rw[qg e,Tr.get_set,if_neg e];exact⟨hc,rfl⟩
 ·intro c F p hc;rw[qg (ne (by rw[hc];simp) (by rw[hc];simp))];exact⟨p,hc⟩
 ·by_cases e:c=b
  ·subst e;rw[qE] at hc;rcases hk with hk|hk|hk<;>rw[hk] at hc<;>cases hc
  ·rw[qg e] at hc;rw[Tr.get_set,if_neg e];exact h.lab c F p hc
theorem qyl{bx e:Nat}{a:Bool}(hc:qd P f qS=true)(h:WI g w κ s tr RV N)(y:Sy)(hx:tr.get bx=some (.cells e true a (cSy y.raw)))(hm:RV.length<=1000000) :
  ∃κ' s' tr',Stp [] κ s tr κ' s' tr'∧WI g w κ' s' tr' (RV++[y]) (RV.length::N)∧∀k:AV->Hp->Prop,k (.tup []) ⟨s',0,tr'⟩->SC P f [.ptr w 0,.sl bx 0 1 1 false] ⟨s,0,tr⟩ k:=by
 obtain⟨bl,bt,cs,js,r1,r2,r3,r4,r5,r6,r7,r8,r9⟩:=h.rows;have hs:=h.fresh;have ne:∀{b c},κ b≠κ c->b≠c:=fun q e=>q (e ▸ rfl)
 have ns:∀{b},κ b≠.no->b≠s:=fun hb e=>hb (e ▸ hs)
 have wl:w≠bl:=ne (by rw[r1,r2];simp);have tl:bt≠bl:=ne (by rw[r3,r2];simp);have tw:bt≠w:=ne (by rw[r3,r1];simp);have sw:s≠w:=fun e=>ns (b:=w) (by rw[r1];simp) e.symm
 have sl:s≠bl:=fun e=>ns (b:=bl) (by rw[r2];simp) e.symm
 have st:bt≠s:=ns (by rw[r3];simp)
 have ge:∀b,κ b≠.w->κ b≠.l->κ b≠.no->(((tr.set bl .dead).set s (.cells 4 true true (rSy (RV.map Sy.raw)++cSy y.raw))).set w (.cells 0 true false [.own s (RV.length+1),.own bt cs.length])).get b=tr.get b:=fun b h1 h2 h3=>by
  rw[Tr.get_set,if_neg (ne (by rw[r1];exact h1)),Tr.get_set,if_neg (ns h3),Tr.get_set,if_neg (ne (by rw[r2];exact h2))]
 have gk:∀b,κ b≠.l->κ b≠.no->kdS (kdS κ bl .no) s .l b=κ b:=fun b h1 h2=>by
  rw[qg (ns h2),qg (ne (by rw[r2];exact h1))]
 refine⟨kdS (kdS κ bl .no) s .l,s+1,((tr.set bl .dead).set s (.cells 4 true true (rSy (RV.map Sy.raw)++cSy y.raw))).set w (.cells 0 true false [.own s (RV.length+1),.own bt cs.length]),⟨by omega,fun b hb=>?_,fun b hb=>?_,fun b F p hb=>?_,fun b F hb=>.inl (by
  by_cases e:b=s
  ·rw[e,qE] at hb;cases hb
  ·rw[qg e] at hb
   by_cases e2:b=bl
   ·rw[e2,qE] at hb;cases hb
   ·rw[qg e2] at hb;exact hb)⟩,⟨fun b hb=>?_,⟨s,bt,cs,js,?_,?_,?_,?_,?_,?_,r7.mono ?_ ?_ ?_,?_,?_⟩,fun b F p hb=>?_⟩,
  fun k hk=>qAY hc y.raw r4 r5 (by rw[qaj,List.length_map]) hx hm wl (h.dom w (by rw[r1];simp)) (Nat.zero_le _) (Nat.zero_le _) ⟨rfl,rfl⟩ hk⟩
 ·exact⟨by rw[gk b (by rw[hb];simp) (by rw[hb];simp)];exact hb,ge b (by rw[hb];simp) (by rw[hb];simp) (by rw[hb];simp)⟩
 ·exact⟨by rw[gk b (by rw[hb];simp) (by rw[hb];simp)];exact hb,ge b (by rw[hb];simp) (by rw[hb];simp) (by rw[hb];simp)⟩
 ·rw[gk b (by rw[hb];simp) (by rw[hb];simp)];exact hb
 ·by_cases e:b=s
  ·omega
  ·rw[qg e] at hb
   by_cases e2:b=bl
   ·rw[e2,qE] at hb;exact absurd rfl hb
   ·rw[qg e2] at hb;have:=h.dom b hb;omega
 ·rw[gk w (by rw[r1];simp) (by rw[r1];simp)];exact r1
 ·rw[qE]
 ·rw[gk bt (by rw[r3];simp) (by rw[r3];simp)];exact r3
 ·rw[Tr.get_set,if_pos rfl];simp
 ·rw[Tr.get_set,if_neg sw,Tr.get_set,if_pos rfl];rw[qxb,qpC];simp
 ·rw[ge bt (by rw[r3];simp) (by rw[r3];simp) (by rw[r3];simp)];exact r6
 ·intro b hb;exact⟨by rw[gk b (by rw[hb];simp) (by rw[hb];simp)];exact hb,ge b (by rw[hb];simp) (by rw[hb];simp) (by rw[hb];simp)⟩
 ·intro b F p hb;exact⟨p,by rw[gk b (by rw[hb];simp) (by rw[hb];simp)];exact hb⟩
 ·intro j z hz;rw[List.getElem?_append_left (zzS.1 hz).1];exact hz
 ·simp;omega
 ·intro j z hz hj hn
  by_cases e:j<RV.length
  ·rw[List.getElem?_append_left e] at hz;exact r9 j z hz hj fun q=>hn (List.mem_cons_of_mem _ q)
  ·have:j<(RV++[y]).length:=(zzS.1 hz).1;rw[List.length_append,List.length_singleton] at this;exact absurd (List.mem_cons.2 (.inl (show j=RV.length by omega))) hn
 ·by_cases e:b=s
  ·rw[e,qE] at hb;cases hb
  ·rw[qg e] at hb
   by_cases e2:b=bl
   ·rw[e2,qE] at hb;cases hb
   ·rw[qg e2] at hb;obtain⟨x,q1,q2⟩:=h.lab b F p hb;exact⟨x,by rw[ge b (by rw[hb];simp) (by rw[hb];simp) (by rw[hb];simp)];exact q1,q2⟩
theorem qt5{k:AV->Hp->Prop}{bx e:Nat}{a:Bool}(hc:qd P f qS=true)(h:WI g w κ s tr RV N)(y:Sy)(hx:tr.get bx=some (.cells e true a (cSy y.raw)))(hm:RV.length<=1000000)
  (hk:∀κ' s' tr',Stp [] κ s tr κ' s' tr'->WI g w κ' s' tr' (RV++[y]) (RV.length::N)->k (.tup []) ⟨s',0,tr'⟩):SC P f [.ptr w 0,.sl bx 0 1 1 false] ⟨s,0,tr⟩ k:=by
 obtain⟨κ',s',tr',q1,q2,q3⟩:=qyl hc h y hx hm;exact q3 k (hk κ' s' tr' q1 q2)
theorem WI.drop{n:Nat}(h:WI g w κ s tr RV (n::N))(hn:∀y,RV[n]?=some y->y.raw=y):WI g w κ s tr RV N:=by
 obtain⟨bl,bt,cs,js,r1,r2,r3,r4,r5,r6,r7,r8,r9⟩:=h.rows;refine⟨h.dom,⟨bl,bt,cs,js,r1,r2,r3,r4,r5,r6,r7,by simp at r8;omega,fun j y hy hj hN=>?_⟩,h.lab⟩
 by_cases e:j=n
 ·subst e;exact hn y hy
 ·exact r9 j y hy hj fun q=>by rcases List.mem_cons.1 q with q|q<;>contradiction
theorem WI.add{n bl bt m:Nat}{c:AV}{cs:List AV}(h:WI g w κ s tr RV (n::N))(hj:JOk g w κ tr RV n c)(hw:tr.get w=some (.cells 0 true false [.own bl RV.length,.own bt m]))(ht:tr.get bt=some (.cells 1 true true cs)) :
  WI g w (kdS (kdS κ bt .no) s .t) (s+1) (((tr.set bt .dead).set s (.cells 1 true true (cs++[c]))).set w (.cells 0 true false [.own bl RV.length,.own s (m+1)])) RV N ∧
  Stp [] κ s tr (kdS (kdS κ bt .no) s .t) (s+1) (((tr.set bt .dead).set s (.cells 1 true true (cs++[c]))).set w (.cells 0 true false [.own bl RV.length,.own s (m+1)])):=by
 obtain⟨bl',bt',cs',js,r1,r2,r3,r4,r5,r6,r7,r8,r9⟩:=h.rows;rw[hw] at r4;cases r4;rw[ht] at r6;cases r6;have hs:=h.fresh;have ne:∀{b c},κ b≠κ c->b≠c:=fun q e=>q (e ▸ rfl)
 have ns:∀{b},κ b≠.no->b≠s:=fun hb e=>hb (e ▸ hs)
 have sw:s≠w:=fun e=>ns (b:=w) (by rw[r1];simp) e.symm
 have sb:s≠bt:=fun e=>ns (b:=bt) (by rw[r3];simp) e.symm
 have ge:∀b,κ b≠.w->κ b≠.t->κ b≠.no->(((tr.set bt .dead).set s (.cells 1 true true (cs++[c]))).set w (.cells 0 true false [.own bl RV.length,.own s (cs.length+1)])).get b=tr.get b:=fun b h1 h2 h3=>by
  rw[Tr.get_set,if_neg (ne (by rw[r1];exact h1)),Tr.get_set,if_neg (ns h3),Tr.get_set,if_neg (ne (by rw[r3];exact h2))]
 have gk:∀b,κ b≠.t->κ b≠.no->kdS (kdS κ bt .no) s .t b=κ b:=fun b h1 h2=>by
  rw[qg (ns h2),qg (ne (by rw[r3];exact h1))]
 have hB:∀b,κ b = .box->kdS (kdS κ bt .no) s .t b = .box∧(((tr.set bt .dead).set s (.cells 1 true true (cs++[c]))).set w (.cells 0 true false [.own bl RV.length,.own s (cs.length+1)])).get b=tr.get b:=fun b hb =>
  ⟨by rw[gk b (by rw[hb];simp) (by rw[hb];simp)];exact hb,ge b (by rw[hb];simp) (by rw[hb];simp) (by rw[hb];simp)⟩
 have hL:∀b F p,κ b = .lab F p->kdS (kdS κ bt .no) s .t b = .lab F p:=fun b F p hb=>by rw[gk b (by rw[hb];simp) (by rw[hb];simp)];exact hb
 refine⟨⟨fun b hb=>?_,⟨bl,s,cs++[c],js++[n],?_,?_,?_,?_,?_,?_,?_,?_,?_⟩,fun b F p hb=>?_⟩,⟨by omega,fun b hb=>?_,hB,hL,fun b F hb=>.inl (by
  by_cases e:b=s
  ·rw[e,qE] at hb;cases hb
  ·rw[qg e] at hb
   by_cases e2:b=bt
   ·rw[e2,qE] at hb;cases hb
   ·rw[qg e2] at hb;exact hb)⟩⟩
 ·by_cases e:b=s
  ·omega
  ·rw[qg e] at hb
   by_cases e2:b=bt
   ·rw[e2,qE] at hb;exact absurd rfl hb
   ·rw[qg e2] at hb;have:=h.dom b hb;omega
 ·rw[gk w (by rw[r1];simp) (by rw[r1];simp)];exact r1
 ·rw[gk bl (by rw[r2];simp) (by rw[r2];simp)];exact r2
 ·rw[qE]
 ·rw[Tr.get_set,if_pos rfl];simp
 ·rw[ge bl (by rw[r2];simp) (by rw[r2];simp) (by rw[r2];simp)];exact r5
 ·rw[Tr.get_set,if_neg sw,Tr.get_set,if_pos rfl]
 ·exact qfh.app (hj.mono hB (fun b F p hb=>⟨p,hL b F p hb⟩) fun _ _ q=>q) (r7.mono hB (fun b F p hb=>⟨p,hL b F p hb⟩) fun _ _ q=>q)
 ·simp at r8 ⊢;omega
 ·intro j y hy hj hN
  exact r9 j y hy (fun q=>hj (by simp[q])) fun q=>by
   rcases List.mem_cons.1 q with q|q
   ·exact hj (by simp[q])
   ·exact hN q
 ·by_cases e:b=s
  ·rw[e,qE] at hb;cases hb
  ·rw[qg e] at hb
   by_cases e2:b=bt
   ·rw[e2,qE] at hb;cases hb
   ·rw[qg e2] at hb;obtain⟨x,q1,q2⟩:=h.lab b F p hb;exact⟨x,by rw[ge b (by rw[hb];simp) (by rw[hb];simp) (by rw[hb];simp)];exact q1,q2⟩
 ·exact⟨by rw[gk b (by rw[hb];simp) (by rw[hb];simp)];exact hb,ge b (by rw[hb];simp) (by rw[hb];simp) (by rw[hb];simp)⟩
end
section
variable {g w s gp:Nat} {κ:Nat->Kd} {tr:Tr Blk} {RV:List Sy} {N:List Nat} {k:AV->Hp->Prop}
theorem WI.dropS{y:Sy}(h:WI g w κ s tr (RV++[y]) (RV.length::N))(hy:y.raw=y):WI g w κ s tr (RV++[y]) N:=h.drop fun z hz=>by
 simp at hz;rw[← hz];exact hy
def x9(a:Nat):IFn:=⟨[],.r [.n 4 0,.n 5 1,.q 6 (.build [.i .u16 0,.i .u32 0,.i .i64 0,.i .i64 0] [(0,1,(.c (.i .u16 32))),(1,1,(.t 5))]),.q 7 (.buildS 1 [.i .u16 0,.i .u32 0,.i .i64 0,.i .i64 0] [(0,4,(.t 6))]),.l 8 a [.t 4,.t 7]]⟩
theorem qoe(hc:qd P f (x9 gp)=true)(hp:qd P gp qS=true)(h:WI g w κ s tr RV N)(a:Int)(hm:RV.length<=1000000)
  (hk:∀κ' s' tr',Stp [] κ s tr κ' s' tr'->WI g w κ' s' tr' (RV++[⟨32,a,0,0⟩]) N->k (.tup []) ⟨s',0,tr'⟩):SC P f [.ptr w 0,.i .u32 a] ⟨s,0,tr⟩ k:=by
 refine SC.mk hc (ql ?_);simp only[x9,vI,simprocAttr];simp +decide only[↓vS,vT,simprocAttr];refine qt5 hp (h.new .no _ (.inl rfl)) ⟨32,a,0,0⟩ (by rw[Tr.get_set,if_pos rfl];rfl) hm ?_;intro κ' s' tr' st hw;simp +decide only[↓vS,vT,simprocAttr];exact hk _ _ _ ((h.stpNew .no _ (by simp)).trans st) (hw.dropS rfl)
def qa3(a:Nat):IFn:=⟨[],.r [.n 4 0,.n 5 1,.q 6 (.build [.i .u16 0,.i .u32 0,.i .i64 0,.i .i64 0] [(0,1,(.c (.i .u16 6))),(1,1,(.t 5))]),.q 7 (.buildS 1 [.i .u16 0,.i .u32 0,.i .i64 0,.i .i64 0] [(0,4,(.t 6))]),.l 8 a [.t 4,.t 7]]⟩
theorem qpF(hc:qd P f (qa3 gp)=true)(hp:qd P gp qS=true)(h:WI g w κ s tr RV N)(a:Int)(hm:RV.length<=1000000)
  (hk:∀κ' s' tr',Stp [] κ s tr κ' s' tr'->WI g w κ' s' tr' (RV++[⟨6,a,0,0⟩]) N->k (.tup []) ⟨s',0,tr'⟩):SC P f [.ptr w 0,.i .u32 a] ⟨s,0,tr⟩ k:=by
 refine SC.mk hc (ql ?_);simp only[qa3,vI,simprocAttr];simp +decide only[↓vS,vT,simprocAttr];refine qt5 hp (h.new .no _ (.inl rfl)) ⟨6,a,0,0⟩ (by rw[Tr.get_set,if_pos rfl];rfl) hm ?_;intro κ' s' tr' st hw;simp +decide only[↓vS,vT,simprocAttr];exact hk _ _ _ ((h.stpNew .no _ (by simp)).trans st) (hw.dropS rfl)
theorem qdi(hc:qd P f xh=true)(h:WI g w κ s tr RV N){b:Nat}{p:Bool}(hb:κ b = .lab RV.length p)
  (hk:∀tr',(∀c,κ c = .fr->tr'.get c=tr.get c)->(∀c,κ c = .box->tr'.get c=tr.get c)->WI g w (kdS κ b (.lab RV.length true)) s tr' RV N->k (.tup []) ⟨s,0,tr'⟩):SC P f [.ptr w 0,.ptr b 0] ⟨s,0,tr⟩ k:=by
 obtain⟨bl,bt,cs,js,r1,r2,r3,r4,r5,r6,r7,r8,r9⟩:=h.rows;obtain⟨x,q1,q2⟩:=h.lab _ _ _ hb;have ne:∀{b c},κ b≠κ c->b≠c:=fun q e=>q (e ▸ rfl)
 have nb:∀{c},(∀F p,κ c≠.lab F p)->c≠b:=fun q e=>q _ _ (e ▸ hb)
 refine qvZ hc r4 q1 (Nat.zero_le _) (hk _ (fun c hc=>?_) (fun c hc=>?_) ⟨fun c hc=>?_,⟨bl,bt,cs,js,?_,?_,?_,?_,?_,?_,r7.mono ?_ ?_ fun _ _ q=>q,r8,r9⟩,fun c F p hc=>?_⟩)
 ·rw[Tr.get_set,if_neg (nb (by rw[hc];simp))]
 ·rw[Tr.get_set,if_neg (nb (by rw[hc];simp))]
 ·by_cases e:c=b
  ·rw[e];exact h.dom b (by rw[hb];simp)
  ·rw[qg e] at hc;exact h.dom c hc
 ·rw[qg (nb (by rw[r1];simp))];exact r1
 ·rw[qg (nb (by rw[r2];simp))];exact r2
 ·rw[qg (nb (by rw[r3];simp))];exact r3
 ·rw[Tr.get_set,if_neg (nb (by rw[r1];simp))];exact r4
 ·rw[Tr.get_set,if_neg (nb (by rw[r2];simp))];exact r5
 ·rw[Tr.get_set,if_neg (nb (by rw[r3];simp))];exact r6
 ·intro c hc;have e:c≠b:=nb (by rw[hc];simp);rw[qg e,Tr.get_set,if_neg e];exact⟨hc,rfl⟩
 ·intro c F p hc
  by_cases e:c=b
  ·rw[e,hb] at hc;cases hc;exact⟨true,by rw[e,qE]⟩
  ·rw[qg e];exact⟨p,hc⟩
 ·by_cases e:c=b
  ·rw[e,qE] at hc;cases hc;exact⟨(RV.length:Int),by rw[e,Tr.get_set,if_pos rfl],fun _=>rfl⟩
  ·rw[qg e] at hc;rw[Tr.get_set,if_neg e];exact h.lab c F p hc
def xi(a b:Nat):IFn:=⟨[],.seq (.r [.q 5 (.box (.t 0)),.q 6 (.box (.t 1)),.q 8 (.box (.t 3)),.q 9 (.box (.t 4))]) (.seq (.r [.d 11 5,.q 12 (.nilChk (.t 11)),.f 13 0 12,.d 14 13,.e 15 14,.q 10 (.alloc [.i .i64 0]),.u (.store 1 (.t 10) (.t 15))]) (.seq (.r [.d 16 5,.d 17 6,.n 18 2,.q 19 (.build [.i .u16 0,.i .u32 0,.i .i64 0,.i .i64 0] [(0,1,(.t 17)),(1,1,(.t 18))]),.q 20 (.buildS 1 [.i .u16 0,.i .u32 0,.i .i64 0,.i .i64 0] [(0,4,(.t 19))]),.l 21 a [.t 16,.t 20]]) (.reg true [.d 22 5,.d 23 5,.q 24 (.nilChk (.t 23)),.f 25 1 24,.d 26 25,.q 27 (.mkF b [] [.t 8,.t 5,.t 10,.t 6,.t 9]),.q 28 (.buildS 1 [.nilf] [(0,1,(.t 27))]),.q 29 (.appD 1 8 (.t 26) (.t 28) [5]),.q 30 (.nilChk (.t 22)),.f 31 1 30,.u (.store 1 (.t 31) (.t 29))])))⟩
theorem qs4(hc:qd P f (xi gp g)=true)(hp:qd P gp qS=true)(h:WI g w κ s tr RV N)(y:Sy){X:Nat}{p:Bool}{o:AV}(hX:κ X = .lab y.th p)
  (ho:(y.code=5∧o = .nilp∧y.el=0)∨(y.code≠5∧∃Y p',o = .ptr Y 0∧κ Y = .lab y.el p')) (hm:RV.length<=1000000) :
  ∃κ' s' tr',Stp [] κ s tr κ' s' tr'∧WI g w κ' s' tr' (RV++[y]) N∧∀k:AV->Hp->Prop,k (.tup []) ⟨s',0,tr'⟩->SC P f [.ptr w 0,.i .u16 y.code,.i .u32 y.k,.ptr X 0,o] ⟨s,0,tr⟩ k:=by
 obtain⟨bl,bt,cs,js,r1,r2,r3,r4,r5,r6,r7,r8,r9⟩:=h.rows;have hs:=h.fresh;have ws:w<s:=h.dom w (by rw[r1];simp)
 have hod:qde o=true∧cellsOf o=[o]∧zh o=true:=by
  rcases ho with⟨_,rfl,_⟩|⟨_,Y,_,rfl,_⟩<;>exact⟨rfl,rfl,rfl⟩
 obtain⟨o1,o2,o3⟩:=hod;have w0:¬w=s:=by omega
 have w1:¬w=s+1:=by omega
 have w2:¬w=s+1+1:=by omega
 have w3:¬w=s+1+1+1:=by omega
 have w4:¬w=s+1+1+1+1:=by omega
 have s1:¬s=s+1:=by omega
 have s2:¬s=s+1+1:=by omega
 have s3:¬s=s+1+1+1:=by omega
 have s4:¬s=s+1+1+1+1:=by omega
 have s0:¬s=s+1+1+1+1+1:=by omega
 have s5:¬s+1=s+1+1:=by omega
 have s6:¬s+1=s+1+1+1:=by omega
 have s7:¬s+1=s+1+1+1+1:=by omega
 have h1:=h.new .box (.cells 0 true false [.ptr w 0]) (.inr (.inr (.inl rfl)));have h2:=h1.new .box (.cells 0 true false [.i .u16 y.code]) (.inr (.inr (.inl rfl)));have h3:=h2.new .box (.cells 0 true false [.ptr X 0]) (.inr (.inr (.inl rfl)));have h4:=h3.new .box (.cells 0 true false [o]) (.inr (.inr (.inl rfl)));have h5:=h4.new .no (.cells 0 true false [.i .i64 0]) (.inl rfl);have h6:=h5.chg (b:=s+1+1+1+1) .box (.cells 0 true false [.i .i64 (RV.length:Int)]) (.inr qE) (by omega) (.inr (.inr rfl));have h7:=h6.new .no (.cells 0 true false [.i .u16 y.code,.i .u32 y.k,.i .i64 0,.i .i64 0]) (.inl rfl);obtain⟨κ',s',tr',st',hw,hput⟩:=qyl hp h7 y (by rw[Tr.get_set,if_pos rfl];rfl) hm;have d0:∀{b},b<s'->¬b=s':=fun h e=>by omega
 obtain⟨bl',bt',cs',js',q1,q2,q3,q4,q5,q6,q7,q8,q9⟩:=hw.rows;have ne:∀{b c},κ' b≠κ' c->b≠c:=fun q e=>q (e ▸ rfl)
 have nn:∀a:Nat,¬s=s+a+1:=fun a h=>by omega
 have ke:∀c:Nat,c<5->kdS (kdS (kdS (kdS (kdS (kdS (kdS κ s .box) (s+1) .box) (s+1+1) .box) (s+1+1+1) .box) (s+1+1+1+1) .no) (s+1+1+1+1) .box) (s+1+1+1+1+1) .no (s+c) = .box:=by
  intro c hc;simp only[kdS];have:c=0∨c=1∨c=2∨c=3∨c=4:=by omega
  rcases this with rfl|rfl|rfl|rfl|rfl<;>simp[s0,s1,s2,s3,s4]
 have b0:=st'.box (s+0) (ke 0 (by omega));have b1:=st'.box (s+1) (ke 1 (by omega));have b2:=st'.box (s+2) (ke 2 (by omega));have b3:=st'.box (s+3) (ke 3 (by omega));have b4:=st'.box (s+4) (ke 4 (by omega));have g0:tr'.get s=some (.cells 0 true false [.ptr w 0]):=by rw[show s=s+0 from rfl,b0.2];simp[Tr.get_set,s0,s1,s2,s3,s4]
 have g1:tr'.get (s+1)=some (.cells 0 true false [.i .u16 y.code]):=by rw[b1.2];simp[Tr.get_set]
 have g2:tr'.get (s+2)=some (.cells 0 true false [.ptr X 0]):=by rw[b2.2];simp[Tr.get_set]
 have g3:tr'.get (s+3)=some (.cells 0 true false [o]):=by rw[b3.2];simp[Tr.get_set]
 have g4:tr'.get (s+4)=some (.cells 0 true false [.i .i64 (RV.length:Int)]):=by rw[b4.2];simp[Tr.get_set]
 have ws':w<s':=hw.dom w (by rw[q1];simp);have bs':bt'<s':=hw.dom bt' (by rw[q3];simp);have le':s+6<=s':=st'.le;have l0:¬s=s':=by omega
 have l1:¬w=s':=by omega
 have l2:¬bt'=s':=by omega
 have l3:¬w=s'+1:=by omega
 have l4:¬w=bt':=ne (by rw[q1,q3];simp);have l5:¬s=s'+1:=by omega
 have l6:¬s=bt':=ne (by rw[q3,show s=s+0 from rfl,b0.1];simp)
 have hr1:cs'.length+1<=qh:=by simp only[qh];simp at q8;omega
 have hr2:(cs'.length+1)*8<=qh:=by simp only[qh];simp at q8;omega
 have hw1:=hw.new .no (.cells 0 true false [.fn g [] [.ptr (s+1+1) 0,.ptr s 0,.ptr (s+1+1+1+1) 0,.ptr (s+1) 0,.ptr (s+1+1+1) 0]]) (.inl rfl)
 have bx:∀c v,c<5->κ' (s+c) = .box->tr'.get (s+c)=some (.cells 0 true false [v])->Bx (kdS κ' s' .no) (tr'.set s' (.cells 0 true false [.fn g [] [.ptr (s+1+1) 0,.ptr s 0,.ptr (s+1+1+1+1) 0,.ptr (s+1) 0,.ptr (s+1+1+1) 0]])) (s+c) v:=fun c v hc e1 e2=>by
  have:s+c≠s':=by omega
  exact⟨by rw[qg this];exact e1,by rw[Tr.get_set,if_neg this];exact e2⟩
 have lk:∀b F p,κ b = .lab F p->kdS κ' s' .no b = .lab F p:=fun b F p hb=>by
  have hbs:b<s:=h.dom b (by rw[hb];simp);rw[qg (by omega)];refine st'.lab b F p ?_;simp only[kdS];rw[if_neg (by omega),if_neg (by omega),if_neg (by omega),if_neg (by omega),if_neg (by omega),if_neg (by omega),if_neg (by omega)];exact hb
 have hj:JOk g w (kdS κ' s' .no) (tr'.set s' (.cells 0 true false [.fn g [] [.ptr (s+1+1) 0,.ptr s 0,.ptr (s+1+1+1+1) 0,.ptr (s+1) 0,.ptr (s+1+1+1) 0]])) (RV++[y]) RV.length (.fn g [] [.ptr (s+1+1) 0,.ptr s 0,.ptr (s+1+1+1+1) 0,.ptr (s+1) 0,.ptr (s+1+1+1) 0]):=by
  refine⟨s+0,s+1,s+2,s+3,s+4,X,p,o,y,rfl,by simp,bx 0 _ (by omega) b0.1 g0,bx 1 _ (by omega) b1.1 g1,bx 2 _ (by omega) b2.1 g2,bx 3 _ (by omega) b3.1 g3,bx 4 _ (by omega) b4.1 g4,lk _ _ _ hX,?_⟩
  rcases ho with ho|⟨h1,Y,p',h2,h3⟩
  ·exact .inl ho
  ·exact .inr ⟨h1,Y,p',h2,lk _ _ _ h3⟩
 obtain⟨e1,e2⟩:=hw1.add hj (by rw[Tr.get_set,if_neg l1];exact q4) (by rw[Tr.get_set,if_neg l2];exact q6);refine⟨_,_,_,?_,e1,fun k hk=>?_⟩
 rotate_left
 ·refine SC.mk hc (ql ?_);simp only[xi,vI,simprocAttr];simp +decide only[↓vS,vT,simprocAttr,o1,o2,o3,r4,w0,w1,w2,w3,w4,s1,s2,s3,s4,s5,s6,s7];refine hput _ ?_;simp +decide only[↓vS,vT,simprocAttr];refine zg ?_;simp +decide only[↓vS,vT,simprocAttr,g0,q4,q6,l0,l1,l2,l3,l4,l5,l6,ws',bs',hr1,hr2,Nat.mul_one];exact hk
 refine Stp.trans (L:=[]) ?_ (st'.trans ((hw.stpNew .no _ (by simp)).trans e2));refine⟨by omega,fun b hb=>?_,fun b hb=>?_,fun b F p hb=>?_,fun b F hb=>.inl ?_⟩
 rotate_left 3
 ·simp only[kdS] at hb
  repeat' split at hb
  all_goals first|(cases hb;done)|exact hb
 all_goals have hbs:b<s:=h.dom b (by rw[hb];simp)
 ·simp only[kdS,Tr.get_set]
  iterate 7 rw[if_neg (by omega)]
  iterate 7 rw[if_neg (by omega)]
  exact⟨hb,rfl⟩
 ·simp only[kdS,Tr.get_set]
  iterate 7 rw[if_neg (by omega)]
  iterate 7 rw[if_neg (by omega)]
  exact⟨hb,rfl⟩
 ·simp only[kdS]
  iterate 7 rw[if_neg (by omega)]
  exact hb
theorem qhY(hc:qd P f (xi gp g)=true)(hp:qd P gp qS=true)(h:WI g w κ s tr RV N)(y:Sy){X:Nat}{p:Bool}{o:AV}(hX:κ X = .lab y.th p)
  (ho:(y.code=5∧o = .nilp∧y.el=0)∨(y.code≠5∧∃Y p',o = .ptr Y 0∧κ Y = .lab y.el p')) (hm:RV.length<=1000000)
  (hk:∀κ' s' tr',Stp [] κ s tr κ' s' tr'->WI g w κ' s' tr' (RV++[y]) N->k (.tup []) ⟨s',0,tr'⟩):SC P f [.ptr w 0,.i .u16 y.code,.i .u32 y.k,.ptr X 0,o] ⟨s,0,tr⟩ k:=by
 obtain⟨κ',s',tr',q1,q2,q3⟩:=qs4 hc hp h y hX ho hm;exact q3 k (hk κ' s' tr' q1 q2)
end
end Go.Kc
end
