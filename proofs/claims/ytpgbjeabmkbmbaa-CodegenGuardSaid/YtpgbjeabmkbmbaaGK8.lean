/- Part 8 of the abstract machine and of the functions' walks. Conditions: with each theorem. -/
import Derived.Test.YtpgbjeabmkbmbaaGK7
set_option maxHeartbeats 4000000
set_option linter.unusedSectionVars false
set_option linter.unusedSimpArgs false
set_option linter.unusedVariables false
set_option linter.unnecessarySimpa false
section
namespace Go.Kc
variable {P:Program} {f:Nat}
def qa0(a:Nat):IFn:=⟨[.tmp 2],.seq (.r [.m 2 .F]) (.seq (.r [.n 3 0,.l 4 a [.t 3],.q 5 (.fld 1 none (.t 4)),.q 6 (.bin .neq (.t 5) (.c (.s []))),.n 2 6]) (.ret))⟩
theorem qyJ{g:Nat}(hc:qd P f (qa0 g)=true)(hg:qgj P g)(c:Int):qg P f [.i .u16 c] (.b (zI c)):=by
 refine qg.mk hc rfl ?_;have hgc:=hg c;simp only[qa0,vI,simprocAttr];simp +decide only[↓vS,vT,simprocAttr];refine hgc.sc ?_;cases hcm:qy c with
 | none =>
  have h0:zI c=false:=by unfold zI;rw[hcm];rfl
  rw[h0];simp +decide only[↓vS,vT,simprocAttr,zt,zE];simp[vZ]
 | some x =>
  obtain⟨hxm,_⟩:=qda hcm;have h0:zI c=true:=by unfold zI;rw[hcm];rfl
  have hne:=(qtp x hxm).1;rw[h0];simp +decide only[↓vS,vT,simprocAttr,zt,xu,hne];simp[vZ]
def qma(m:Mac)(i:Ins):Mac:={ m with over:=true,told:=if i.code=22 then m.a else i.k }
def doR(m:Mac)(i:Ins)(d:GData):Mac×Int×Int :=
 if zI i.code=false then (m,0,40)
 else if qh i.code=1∨qh i.code=2∨qh i.code=6 then ((qeS m i d).1,0,(qeS m i d).2)
 else if qh i.code=3 then ((nuM m i).1,0,(nuM m i).2)
 else if qh i.code=4 then (m,qgu m i,0)
 else (qma m i,0,0)
def qt1(P:Program)(g:Nat):Prop:=∀(m:Mac),MacOk m->∀(i:Ins),InsOk i->∀d:GData,DatOk d->Upd P g [.ptr 0 0,.agg (zl i),.agg (qL d)] [.cells 0 true false (zz m)] (.i .i64 (qeS m i d).2) [.cells 0 true false (zz (qeS m i d).1)]
def qxy(P:Program)(g:Nat):Prop:=∀(m:Mac),MacOk m->∀(i:Ins),InsOk i->qh i.code=3->Upd P g [.ptr 0 0,.agg (zl i)] [.cells 0 true false (zz m)] (.i .i64 (nuM m i).2) [.cells 0 true false (zz (nuM m i).1)]
def qt0(P:Program)(g:Nat):Prop:=∀(m:Mac),MacOk m->∀(i:Ins),InsOk i->qh i.code=4->Upd P g [.ptr 0 0,.agg (zl i)] [.cells 0 true false (zz m)] (.i .i64 (qgu m i)) [.cells 0 true false (zz m)]
def xO(a b c d e:Nat):IFn:=⟨[.tmp 6,.tmp 7],.seq (.r [.q 4 (.box (.t 1)),.q 5 (.box (.t 2)),.m 6 (.k 0),.m 7 (.k 0)]) (.seq (.seq (.r [.f 8 0 4,.d 9 8,.l 10 a [.t 9],.q 11 (.un .not (.t 10))]) (.cond (.t 11) (.seq (.r [.m 6 (.k 0),.m 7 (.k 40)]) (.ret)) (.skip))) (.seq (.seq (.r [.f 12 0 4,.d 13 12,.l 14 b [.t 13],.q 15 (.fld 2 none (.t 14))]) (.blk 0 (.seq (.seq (.r [.q 17 (.bin .eql (.t 15) (.c (.i .u8 1))),.n 16 17]) (.cond (.t 16) (.skip) (.seq (.r [.q 18 (.bin .eql (.t 15) (.c (.i .u8 2))),.n 16 18]) (.cond (.t 16) (.skip) (.r [.q 19 (.bin .eql (.t 15) (.c (.i .u8 6))),.n 16 19]))))) (.cond (.t 16) (.seq (.r [.n 20 0,.v 21 4 4,.v 22 9 5,.l 23 c [.t 20,.t 21,.t 22],.m 6 (.k 0),.n 7 23]) (.ret)) (.seq (.r [.q 25 (.bin .eql (.t 15) (.c (.i .u8 3))),.n 24 25]) (.cond (.t 24) (.seq (.r [.n 26 0,.v 27 4 4,.l 28 d [.t 26,.t 27],.m 6 (.k 0),.n 7 28]) (.ret)) (.seq (.r [.q 30 (.bin .eql (.t 15) (.c (.i .u8 4))),.n 29 30]) (.cond (.t 29) (.seq (.r [.n 31 0,.v 32 4 4,.l 33 e [.t 31,.t 32],.n 6 33,.m 7 (.k 0)]) (.ret)) (.skip))))))))) (.seq (.r [.n 34 0,.q 35 (.nilChk (.t 34)),.f 36 19 35,.u (.store 1 (.t 36) .T)]) (.seq (.r [.n 37 0,.f 38 3 4,.d 39 38,.q 40 (.nilChk (.t 37)),.f 41 2 40,.u (.store 1 (.t 41) (.t 39))]) (.seq (.seq (.r [.f 42 0 4,.d 43 42,.q 44 (.bin .eql (.t 43) (.c (.i .u16 22)))]) (.cond (.t 44) (.r [.n 45 0,.n 46 0,.q 47 (.nilChk (.t 46)),.f 48 0 47,.d 49 48,.q 50 (.nilChk (.t 45)),.f 51 2 50,.u (.store 1 (.t 51) (.t 49))]) (.skip))) (.seq (.r [.m 6 (.k 0),.m 7 (.k 0)]) (.ret)))))))⟩
theorem qzL{g1 g2 g3 g4 g5:Nat}(hc:qd P f (xO g1 g2 g3 g4 g5)=true)(h1:∀c,qg P g1 [.i .u16 c] (.b (zI c)))(h2:qgj P g2)(h3:qt1 P g3)(h4:qxy P g4)(h5:qt0 P g5)
  (m:Mac) (hm:MacOk m) (i:Ins) (hi:InsOk i) (d:GData) (hd:DatOk d) :
  Upd P f [.ptr 0 0,.agg (zl i),.agg (qL d)] [.cells 0 true false (zz m)] (.tup [.i .i64 (doR m i d).2.1,.i .i64 (doR m i d).2.2]) [.cells 0 true false (zz (doR m i d).1)]:=by
 refine Upd.mk hc (by simp[qbu,bnd,zl,qL]) (by simp) ?_;have hl:=qck hm.len;have g0:(zz m)[0]?=some (.i .u32 m.a):=rfl
 have hcl:(zt (qy i.code)).length=3∧(zt (qy i.code))[2]?=some (.i .u8 (qh i.code))∧qF (zt (qy i.code))=true:=by
  unfold qh;cases qy i.code<;>exact⟨rfl,rfl,rfl⟩
 have hgc:=h2 i.code;have hk:=h1 i.code;have hld:=h3 m hm i hi d hd;generalize zt (qy i.code)=E at hcl hgc;obtain⟨he1,he2,he3⟩:=hcl;unfold doR;simp only[xO,vI,simprocAttr]
 by_cases hkn:zI i.code=false
 ·rw[if_pos hkn];rw[hkn] at hk;simp only[zl,qL];simp +decide only[↓vS,vT,simprocAttr];refine hk.sc ?_;simp +decide only[↓vS,vT,simprocAttr];intro _;refine⟨[0],?_⟩;simp[vw,qb,qc]
 rw[if_neg hkn];have hkn:zI i.code=true:=by simpa using hkn
 rw[hkn] at hk;simp only[zl,qL] at hld ⊢;simp +decide only[↓vS,vT,simprocAttr];refine hk.sc ?_;simp +decide only[↓vS,vT,simprocAttr];refine hgc.sc ?_
 by_cases hA:qh i.code=1∨qh i.code=2∨qh i.code=6
 ·rw[if_pos hA]
  rcases hA with hA|hA|hA<;>(
   simp +decide only[↓vS,vT,simprocAttr,he2,hA];refine hld.sc (vs:=[.ptr 0 0,.agg [.i .u16 i.code,.i .u8 i.jt,.i .u8 i.jf,.i .u32 i.k],.agg [.i .u32 d.nr,.i .u32 d.arch,.i .u64 d.ip,.i .u64 d.a0,.i .u64 d.a1,.i .u64 d.a2,.i .u64 d.a3,.i .u64 d.a4,.i .u64 d.a5]]) [0] (Lent.of (by decide) ?_) ?_
   ·simp[vL,vw,qc3 qc,qaI qc]
   simp only[vK,simprocAttr,qaI qc];simp +decide only[↓vS,vT,simprocAttr];intro _;refine⟨[0],?_⟩;simp[vw,qb,qc])
 rw[if_neg hA];have n1:¬qh i.code=1:=fun h=>hA (.inl h)
 have n2:¬qh i.code=2:=fun h=>hA (.inr (.inl h))
 have n6:¬qh i.code=6:=fun h=>hA (.inr (.inr h))
 by_cases c3:qh i.code=3
 ·rw[if_pos c3];have hnu:=h4 m hm i hi c3;simp only[zl] at hnu;simp +decide only[↓vS,vT,simprocAttr,he2,c3];refine hnu.sc (vs:=[.ptr 0 0,.agg [.i .u16 i.code,.i .u8 i.jt,.i .u8 i.jf,.i .u32 i.k]]) [0] (Lent.of (by decide) ?_) ?_
  ·simp[vL,vw,qc3 qc,qaI qc]
  simp only[vK,simprocAttr,qaI qc];simp +decide only[↓vS,vT,simprocAttr];intro _;refine⟨[0],?_⟩;simp[vw,qb,qc]
 rw[if_neg c3]
 by_cases c4:qh i.code=4
 ·rw[if_pos c4];have hju:=h5 m hm i hi c4;simp only[zl] at hju;simp +decide only[↓vS,vT,simprocAttr,he2,c4];refine hju.sc (vs:=[.ptr 0 0,.agg [.i .u16 i.code,.i .u8 i.jt,.i .u8 i.jf,.i .u32 i.k]]) [0] (Lent.of (by decide) ?_) ?_
  ·simp[vL,vw,qc3 qc,qaI qc]
  simp only[vK,simprocAttr,qaI qc];simp +decide only[↓vS,vT,simprocAttr];intro _;refine⟨[0],?_⟩;simp[vw,qb,qc]
 rw[if_neg c4];have so:List.take 19 (zz m)++(AV.b true::List.drop 20 (zz m))=zz { m with over:=true }:=qh8 hm.len true;obtain⟨m2,hm2⟩:∃m2,m2={ m with over:=true }:=⟨_,rfl⟩;rw[← hm2] at so;have hl2:(zz m2).length=20:=qck (by rw[hm2];exact hm.len);have s2:∀v:Int,List.take 2 (zz m2)++(AV.i .u32 v::List.drop 3 (zz m2))=zz { m2 with told:=v }:=fun _=>rfl
 obtain⟨m3,hm3⟩:∃m3,m3={ m2 with told:=i.k }:=⟨_,rfl⟩;have s2k:=s2 i.k;rw[← hm3] at s2k;have hl3:(zz m3).length=20:=qck (by rw[hm3,hm2];exact hm.len);have g03:(zz m3)[0]?=some (.i .u32 m.a):=by rw[hm3,hm2];rfl
 have s3:∀v:Int,List.take 2 (zz m3)++(AV.i .u32 v::List.drop 3 (zz m3))=zz { m3 with told:=v }:=fun _=>rfl
 by_cases c22:i.code=22
 ·simp +decide only[↓vS,vT,simprocAttr,he2,n1,n2,n6,c3,c4,hl,so,hl2,s2k,c22,hl3,g03,s3];intro _;refine⟨[0],?_⟩;simp[vw,qb,qc,qma,c22,hm3,hm2]
 ·simp +decide only[↓vS,vT,simprocAttr,he2,n1,n2,n6,c3,c4,hl,so,hl2,s2k,c22];intro _;refine⟨[0],?_⟩;simp[vw,qb,qc,qma,c22,hm3,hm2]
theorem qbW(x:Int):u32 (IntKind.wrap .u32 x):=by show 0<=x % 4294967296∧x % 4294967296<=4294967295;omega
theorem qj6(left:Bool):∀(n:Nat) (a:Int),u32 a->u32 (qeR left n a)
 | 0,_,h=>h
 | n+1,a,h=>by
  refine qj6 left n _ ?_;unfold u32 at h ⊢;split<;>omega
theorem qlo{d:GData}(hd:DatOk d){x:Int}(hm:x ∈ xi d):u32 x:=by
 unfold xi at hm;rcases List.mem_cons.1 hm with rfl|hm
 ·exact⟨hd.nr0,hd.nr1⟩
 rcases List.mem_cons.1 hm with rfl|hm
 ·exact⟨hd.ar0,hd.ar1⟩
 obtain⟨y,hy,hm⟩:=List.mem_flatMap.1 hm;have:=hd.wid y hy;simp only[List.mem_cons,List.not_mem_nil,or_false] at hm;unfold u32;rcases hm with rfl|rfl
 ·unfold loW;omega
 ·unfold hiW;omega
theorem qhm{l:List Int}(h:∀c ∈ l,u32 c)(j:Nat):u32 (l.getD j 0):=by
 rw[List.getD_eq_getElem?_getD];cases hx:l[j]? with
 | none=>exact⟨Int.le_refl _,by decide⟩
 | some x=>exact h x (zzM hx)
theorem qpj{m:Mac}(hm:MacOk m){i:Ins}(hi:InsOk i){d:GData}(hd:DatOk d):MacOk (qeS m i d).1:=by
 have hk:u32 i.k:=⟨hi.k0,hi.k1⟩;have h64:u32 64:=⟨by decide,by decide⟩
 unfold qeS
 by_cases c1:qiP i=true∧15<i.k
 ·rw[if_pos c1];exact hm
 rw[if_neg c1]
 by_cases c2:i.code=32
 ·rw[if_pos c2]
  by_cases c3:i.k % 4≠0∨64<=i.k
  ·rw[if_pos c3];exact hm
  ·rw[if_neg c3];exact⟨qhm (fun c hc=>qlo hd hc) _,hm.x,hm.told,hm.len,hm.cl⟩
 rw[if_neg c2]
 by_cases d1:i.code=128
 ·rw[if_pos d1];exact⟨h64,hm.x,hm.told,hm.len,hm.cl⟩
 rw[if_neg d1]
 by_cases d2:i.code=129
 ·rw[if_pos d2];exact⟨hm.a,h64,hm.told,hm.len,hm.cl⟩
 rw[if_neg d2]
 by_cases d3:i.code=0
 ·rw[if_pos d3];exact⟨hk,hm.x,hm.told,hm.len,hm.cl⟩
 rw[if_neg d3]
 by_cases d4:i.code=1
 ·rw[if_pos d4];exact⟨hm.a,hk,hm.told,hm.len,hm.cl⟩
 rw[if_neg d4]
 by_cases d5:i.code=96
 ·rw[if_pos d5];exact⟨qhm hm.cl _,hm.x,hm.told,hm.len,hm.cl⟩
 rw[if_neg d5]
 by_cases d6:i.code=97
 ·rw[if_pos d6];exact⟨hm.a,qhm hm.cl _,hm.told,hm.len,hm.cl⟩
 rw[if_neg d6]
 by_cases d7:i.code=2
 ·rw[if_pos d7];exact⟨hm.a,hm.x,hm.told,by simpa using hm.len,fun c hc=>(List.mem_or_eq_of_mem_set hc).elim (hm.cl c) (fun e=>e ▸ hm.a)⟩
 rw[if_neg d7]
 by_cases d8:i.code=3
 ·rw[if_pos d8];exact⟨hm.a,hm.x,hm.told,by simpa using hm.len,fun c hc=>(List.mem_or_eq_of_mem_set hc).elim (hm.cl c) (fun e=>e ▸ hm.x)⟩
 rw[if_neg d8]
 by_cases d9:i.code=7
 ·rw[if_pos d9];exact⟨hm.a,hm.a,hm.told,hm.len,hm.cl⟩
 rw[if_neg d9]
 by_cases d10:i.code=135
 ·rw[if_pos d10];exact⟨hm.x,hm.x,hm.told,hm.len,hm.cl⟩
 rw[if_neg d10];exact hm
theorem qvn(c a b:Int):u32 (opM c a b):=by
 unfold opM;split
 ·exact qbW _
 split
 ·exact qbW _
 split
 ·exact qbW _
 split
 ·exact qbW _
 split
 ·exact qbW _
 split
 ·exact qbW _
 ·exact qbW _
theorem qva{m:Mac}(hm:MacOk m)(i:Ins):MacOk (nuM m i).1:=by
 unfold nuM;split
 ·split
  ·rename_i hb;have h1:m.a / zk m i<=m.a:=Int.ediv_le_self _ hm.a.1;have h2:0<=m.a / zk m i:=Int.ediv_nonneg hm.a.1 (by omega);have h3:=hm.a.2;exact⟨⟨h2,by show m.a / zk m i<=4294967295;omega⟩,hm.x,hm.told,hm.len,hm.cl⟩
  split
  ·exact⟨hm.a,hm.x,hm.told,hm.len,hm.cl⟩
  ·exact hm
 split
 ·split
  ·exact hm
  ·exact⟨qj6 _ _ _ hm.a,hm.x,hm.told,hm.len,hm.cl⟩
 ·exact⟨qvn _ _ _,hm.x,hm.told,hm.len,hm.cl⟩
theorem qo0{m:Mac}{i:Ins}(hi:InsOk i):u32 (qgu m i):=by
 have:=hi.t0;have:=hi.t1;have:=hi.f0;have:=hi.f1;have:=hi.k0;have:=hi.k1
 unfold qgu u32;split
 ·omega
 split<;>omega
theorem qui{m:Mac}(hm:MacOk m){i:Ins}(hi:InsOk i){d:GData}(hd:DatOk d):MacOk (doR m i d).1∧u32 (doR m i d).2.1:=by
 have h0:u32 0:=⟨by decide,by decide⟩
 unfold doR;split
 ·exact⟨hm,h0⟩
 split
 ·exact⟨qpj hm hi hd,h0⟩
 split
 ·exact⟨qva hm i,h0⟩
 split
 ·exact⟨hm,qo0 hi⟩
 ·refine⟨⟨hm.a,hm.x,?_,hm.len,hm.cl⟩,h0⟩;show u32 (if i.code=22 then m.a else i.k)
  split
  ·exact hm.a
  ·exact⟨hi.k0,hi.k1⟩
def qeI(p:List Ins)(d:GData):Nat->Mac->Nat->Int->List Nat->Int×Nat×List Nat×Int
 | 0,_,_,_,l=>(0,0,l,0)
 | n+1,m,at',bh,l=>match p[at']? with
  | none=>(0,l.length,l,bh)
  | some i=>if (doR m i d).2.2≠0 then (0,l.length,l++[at'],(doR m i d).2.2)
   else if (doR m i d).1.over=true then ((doR m i d).1.told,l.length+1,l++[at'],0)
   else qeI p d n (doR m i d).1 (at'+1+(doR m i d).2.1.toNat) (if qh i.code=4 then 42 else 46) (l++[at'])
def qhv:Mac:=⟨0,0,0,List.replicate 16 0,false⟩
def qsz(p:List Ins)(d:GData):AV:=.tup [.i .u32 (qeI p d (p.length+1) qhv 0 46 []).1,.i .i64 ((qeI p d (p.length+1) qhv 0 46 []).2.1:Nat),.fz (qeI p d (p.length+1) qhv 0 46 []).2.2.1.length (rNt (qeI p d (p.length+1) qhv 0 46 []).2.2.1),.i .i64 (qeI p d (p.length+1) qhv 0 46 []).2.2.2]
def qyS(P:Program)(g:Nat):Prop:=∀m:Mac,MacOk m->∀i:Ins,InsOk i->∀d:GData,DatOk d->Upd P g [.ptr 0 0,.agg (zl i),.agg (qL d)] [.cells 0 true false (zz m)] (.tup [.i .i64 (doR m i d).2.1,.i .i64 (doR m i d).2.2]) [.cells 0 true false (zz (doR m i d).1)]
def qbs(a b:Nat):IFn:=⟨[.tmp 4,.tmp 5,.tmp 6,.tmp 7],.seq (.r [.q 3 (.box (.t 1)),.m 4 (.c (.i .u32 0)),.m 5 (.k 0),.m 6 .N,.m 7 (.k 0)]) (.seq (.r [.q 8 (.alloc [.i .u32 0,.i .u32 0,.i .u32 0,.i .u32 0,.i .u32 0,.i .u32 0,.i .u32 0,.i .u32 0,.i .u32 0,.i .u32 0,.i .u32 0,.i .u32 0,.i .u32 0,.i .u32 0,.i .u32 0,.i .u32 0,.i .u32 0,.i .u32 0,.i .u32 0,.b false])]) (.seq (.r [.m 9 .N]) (.seq (.r [.m 10 (.k 0),.m 11 (.k 46)]) (.blk 0 (.loop (.blk 1 (.seq (.seq (.r [.n 14 10,.n 15 0,.e 16 15,.b 17 .geq 14 16]) (.cond (.t 17) (.seq (.r [.n 18 9,.e 19 18,.n 20 9,.n 21 11,.m 4 (.c (.i .u32 0)),.n 5 19,.n 6 20,.n 7 21]) (.ret)) (.skip))) (.seq (.reg true [.n 23 0,.n 24 10,.i 25 4 23 24,.v 26 4 25,.v 27 9 3,⟨(some 28),.callW a [.t 8,.t 26,.t 27],none⟩,.n 22 28,.x 29 22 0,.x 30 22 1,.n 12 29,.n 13 30]) (.seq (.r [.n 31 9,.n 32 10,.q 33 (.buildS 1 [.i .i64 0] [(0,1,(.t 32))]),.q 34 (.app 1 8 true (.t 31) (.t 33)),.n 9 34]) (.seq (.seq (.r [.n 35 13,.w 36 .neq 35 0]) (.cond (.t 36) (.seq (.r [.n 37 9,.e 38 37,.w 39 .sub 38 1,.n 40 9,.n 41 13,.m 4 (.c (.i .u32 0)),.n 5 39,.n 6 40,.n 7 41]) (.ret)) (.skip))) (.seq (.seq (.r [.f 42 19 8,.d 43 42]) (.cond (.t 43) (.seq (.r [.f 44 2 8,.d 45 44,.n 46 9,.e 47 46,.n 48 9,.n 4 45,.n 5 47,.n 6 48,.m 7 (.k 0)]) (.ret)) (.skip))) (.seq (.r [.m 11 (.k 46)]) (.seq (.seq (.r [.n 49 0,.n 50 10,.i 51 4 49 50,.f 52 0 51,.d 53 52,.l 54 b [.t 53],.q 55 (.fld 2 none (.t 54)),.q 56 (.bin .eql (.t 55) (.c (.i .u8 4)))]) (.cond (.t 56) (.r [.m 11 (.k 42)]) (.skip))) (.r [.n 57 10,.a 58 57 1,.n 59 12,.b 60 .add 58 59,.n 10 60]))))))))))))))⟩
theorem qt6{d:GData}:List.take 9 (List.drop 0 (qL d))=qL d:=rfl
theorem qxA{d:GData}:9<=(qL d).length:=Nat.le_refl 9
theorem qcC{d:GData}:qF (qL d)=true:=rfl
theorem qrR:MacOk qhv:=⟨⟨by decide,by decide⟩,⟨by decide,by decide⟩,⟨by decide,by decide⟩,rfl,fun c hc=>by
 have:=List.eq_of_mem_replicate hc;subst this;exact⟨by decide,by decide⟩⟩
theorem qgc{p:List Ins}{d:GData}{n:Nat}{m:Mac}{at':Nat}{bh:Int}{l:List Nat}:qeI p d (n+1) m at' bh l=match p[at']? with
  | none=>(0,l.length,l,bh)
  | some i=>if (doR m i d).2.2≠0 then (0,l.length,l++[at'],(doR m i d).2.2)
   else if (doR m i d).1.over=true then ((doR m i d).1.told,l.length+1,l++[at'],0)
   else qeI p d n (doR m i d).1 (at'+1+(doR m i d).2.1.toNat) (if qh i.code=4 then 42 else 46) (l++[at']):=rfl
theorem qzI{g1 g2:Nat}(hc:qd P f (qbs g1 g2)=true)(h1:qyS P g1)(h2:qgj P g2)(p:List Ins)(hp:p.length<=4096)(hi:∀i ∈ p,InsOk i)(d:GData)(hd:DatOk d) :
  qg P f [.fz p.length (rP p),.agg (qL d)] (qsz p d):=by
 refine qg.mk hc (by simp[qF,clo,qm,qcC]) ?_;unfold qsz;simp only[qbs,vI,simprocAttr];simp +decide only[↓vS,vT,simprocAttr]
 refine SL.loop (α:=Nat×Mac×Nat×Int×List Nat) (fun s=>[(0,.fz p.length (rP p)),(3,.ptr 0 0),(8,.ptr 1 0),(9,.own 2 s.2.2.2.2.length),(10,.i .i64 (s.2.2.1:Int)),(11,.i .i64 s.2.2.2.1)]) (fun s=>[.cells 0 true false (qL d),.cells 0 true false (zz s.2.1),.cells 1 true true (rNt s.2.2.2.2)])
  (fun s=>1<=s.1∧p.length+1<=s.1+s.2.2.1∧MacOk s.2.1∧s.2.2.1<=5000000000∧s.2.2.2.2.length<=s.2.2.1∧s.2.2.2.2.length<=p.length∧qeI p d s.1 s.2.1 s.2.2.1 s.2.2.2.1 s.2.2.2.2=qeI p d (p.length+1) qhv 0 46 []) (fun s=>s.1) (p.length+1,qhv,0,46,[]) [0,1,99] ?_ ?_ ?_ rfl ?_ ?_
 ·simp[vw,qm]
 ·simp[vw,qb,qcC];exact⟨NVs.refl qcC,NVs.refl (vs:=zz qhv) qc⟩
 ·simp
 ·exact⟨Nat.le_add_left 1 _,Nat.le_refl _,qrR,Nat.zero_le _,Nat.le_refl _,Nat.zero_le _,rfl⟩
 rintro⟨n,m,a,bh,l⟩ ⟨hn1,hn2,hm,ha,hla,hlp,hI⟩ G ih;simp only at hn1 hn2 hm ha hla hlp hI;obtain⟨n,rfl⟩:∃n',n=n'+1:=⟨n-1,by omega⟩
 rw[qgc] at hI;simp only[vI,simprocAttr]
 by_cases hlt:a<p.length
 ·obtain⟨i,hpi⟩:∃i,p[a]?=some i:=⟨_,zzE hlt⟩;have hii:=hi i (zzM hpi);rw[hpi] at hI;simp only at hI;have hel:=qaW (f:=zl) (m:=4) zP hpi;rw[show p.flatMap zl=rP p from rfl] at hel
  have h4:a*4+4<=(rP p).length:=by rw[qed];omega
  have g0:=xN (f:=zl) (m:=4) zP hpi (i:=0) (by omega);rw[show p.flatMap zl=rP p from rfl] at g0
  simp only[zl,Nat.add_zero,List.getElem?_cons_zero] at g0;have hge:¬(p.length:Int)<=(a:Int):=by omega
  have hok:=qui hm hii hd;have hdo:=h1 m hm i hii d hd
  have hcl:(zt (qy i.code)).length=3∧(zt (qy i.code))[2]?=some (.i .u8 (qh i.code))∧qF (zt (qy i.code))=true:=by
   unfold qh;cases qy i.code<;>exact⟨rfl,rfl,rfl⟩
  have hgc:=h2 i.code;generalize zt (qy i.code)=E at hcl hgc;obtain⟨he1,he2,he3⟩:=hcl;generalize doR m i d=r at hI hok hdo;obtain⟨m2,k,e⟩:=r;simp only at hI hok hdo;obtain⟨hm2,hk⟩:=hok;have hl20:=qck hm2.len;have ho:=qmu hm2.len;have ht:(zz m2)[2]?=some (.i .u32 m2.told):=rfl;have hr1:l.length+1<=qe:=by simp only[qe];omega
  have hr2:(l.length+1)*8<=qe:=by simp only[qe];omega
  have hap:rNt l++[.i .i64 (a:Int)]=rNt (l++[a]):=by rw[← qlX];rfl
  have hll:(rNt l).length=l.length:=qi2;simp +decide only[↓vS,vT,simprocAttr,hge,hlt];refine qaB ?_;simp +decide only[↓vS,vT,simprocAttr,hlt,hel,h4,qt6,qxA];refine hdo.pc (vs:=[.ptr 0 0,.agg (zl i),.agg (qL d)]) [1] (Lent.of (by decide) ?_) ?_
  ·simp[vL,vw,qc3 qc,qaI qc,qc3 qcC,qaI qcC,zl]
  simp only[vK,simprocAttr,qaI qc];have w1:IntKind.wrap .i64 (((l.length+1:Nat):Int)-1)=(l.length:Int):=by rw[qv (by omega) (by omega)];omega
  have w2:IntKind.wrap .i64 ((a:Int)+1)=((a+1:Nat):Int):=by rw[qv (by omega) (by omega)];omega
  have hk0:=hk.1;have hk1:=hk.2;have w3:IntKind.wrap .i64 (((a+1:Nat):Int)+k)=((a+1+k.toNat:Nat):Int):=by rw[qv (by omega) (by omega)];omega
  have hla1:(l++[a]).length=l.length+1:=by simp
  by_cases he:e=0
  ·rw[if_neg (by simpa using he)] at hI;cases hov:m2.over with
   | true =>
    rw[hov] at ho;rw[if_pos hov] at hI;rw[← hI];simp +decide only[↓vS,vT,simprocAttr,hr1,hr2,hll,hap,he,hl20,ho,ht,Nat.mul_one];simp[vZ,vP,Tr.get_set,zn zb,hla1]
   | false =>
    rw[hov] at ho;rw[if_neg (by rw[hov];simp)] at hI
    by_cases c4:qh i.code=4
    ·rw[if_pos c4] at hI;simp +decide only[↓vS,vT,simprocAttr,hr1,hr2,hll,hap,he,hl20,ho,ht,Nat.mul_one,hlt,g0];refine hgc.sc ?_;simp +decide only[↓vS,vT,simprocAttr,he2,c4,w2,w3];refine ih (n,m2,a+1+k.toNat,42,l++[a]) ⟨by simp only;omega,by simp only;omega,hm2,by simp only;omega,by simp only[hla1];omega,by simp only[hla1];omega,hI⟩ (by simp only;omega) _ _ (Wk.mk _ _ [0,1,4] ?_ ?_ ?_ rfl)
     ·simp[vw,qm]
     ·simp[vw,qb,zb,qc];exact NVs.refl qcC
     ·simp
    ·rw[if_neg c4] at hI;simp +decide only[↓vS,vT,simprocAttr,hr1,hr2,hll,hap,he,hl20,ho,ht,Nat.mul_one,hlt,g0];refine hgc.sc ?_;simp +decide only[↓vS,vT,simprocAttr,he2,c4,w2,w3];refine ih (n,m2,a+1+k.toNat,46,l++[a]) ⟨by simp only;omega,by simp only;omega,hm2,by simp only;omega,by simp only[hla1];omega,by simp only[hla1];omega,hI⟩ (by simp only;omega) _ _ (Wk.mk _ _ [0,1,4] ?_ ?_ ?_ rfl)
     ·simp[vw,qm]
     ·simp[vw,qb,zb,qc];exact NVs.refl qcC
     ·simp
  ·rw[if_pos he] at hI;rw[← hI];simp +decide only[↓vS,vT,simprocAttr,hr1,hr2,hll,hap,he,w1,Nat.mul_one];simp[vZ,vP,Tr.get_set,zn zb,hla1]
 ·have hge:p.length<=a:=by omega
  have hno:p[a]?=none:=List.getElem?_eq_none hge;rw[hno] at hI;simp only at hI;rw[← hI];have hge':(p.length:Int)<=(a:Int):=by omega
  simp +decide only[↓vS,vT,simprocAttr,hge'];simp[vZ,vP,Tr.get_set,zn zb];intro h0;rw[h0];rfl
theorem qqs(a b:Int):0<=qdp .u32 a b:=(qbW _).1





end Go.Kc
end
section
namespace Go.Kc
end Go.Kc
end
section
namespace Go.Kc
end Go.Kc
end
section
namespace Go.Kc
variable {P:Program} {f:Nat}
structure PrgGood (p:List Ins):Prop where
 len:p.length<=4096
 ne:p.length≠0
 ins:∀i ∈ p,InsOk i
 one:∀(k:Nat) (i:Ins),p[k]?=some i->qe8 i (p.length-1-k)=0
 last:qh (qih p)=5
def qhM(p:List Ins)(d:GData):Int×Nat×List Nat×Int:=qeI p d (p.length+1) qhv 0 46 []

instance:DecidableEq Ins:=fun a b=>decidable_of_iff (a.code=b.code∧a.jt=b.jt∧a.jf=b.jf∧a.k=b.k) ⟨fun h=>by cases a;cases b;simp only at h;obtain⟨rfl,rfl,rfl,rfl⟩:=h;rfl,fun h=>by subst h;exact⟨rfl,rfl,rfl,rfl⟩⟩
instance:DecidableEq Prg:=fun a b=>decidable_of_iff (a.dir=b.dir∧a.arch=b.arch∧a.ins=b.ins) ⟨fun h=>by cases a;cases b;simp only at h;obtain⟨rfl,rfl,rfl⟩:=h;rfl,fun h=>by subst h;exact⟨rfl,rfl,rfl⟩⟩




end Go.Kc
end
section
namespace Go.Kc
variable {P:Program} {n:Nat}
def Has(t:Tr AV)(l:List (Nat×AV)):Prop:=∀p ∈ l,t.get p.1=some p.2
theorem qr{t:Tr AV}:Has t []↔True:=iff_true_intro fun p hp=>by cases hp
theorem ql{t:Tr AV}{p:Nat×AV}{l:List (Nat×AV)}:Has t (p::l)↔t.get p.1=some p.2∧Has t l:=by simp[Has]
theorem Has.tr{t:Tr AV}{l:List (Nat×AV)}(h:Has t l){ρ:Ren}{tm:Array Value}(ht:TR σ0 ρ t tm):TR σ0 ρ (mkT l) tm:=fun j v hj=>ht j v (h (j,v) (qdF hj))
theorem S.has{x:ICode}{Q:X->Tr AV->Hp->Prop}{t:Tr AV}{h:Hp}(l:List (Nat×AV))(hl:Has t l)(hs:S P n x Q (mkT l) h):S P n x Q t h :=
 fun nt cx hc hn ro hro ρ B w a ht hsz r=>hs nt cx hc hn ro hro ρ B w a (hl.tr ht) hsz r
theorem SL.has{x:ICode}{Q:X->Tr AV->Hp->Prop}{t:Tr AV}{h:Hp}(l:List (Nat×AV))(hl:Has t l)(hs:SL P n x Q (mkT l) h):SL P n x Q t h :=
 fun nt cx hc hn ro hro ρ B w a ht hsz r=>hs nt cx hc hn ro hro ρ B w a (hl.tr ht) hsz r
theorem SL.loopP{α:Type}{x:ICode}{Q:X->Tr AV->Hp->Prop}(T:α->List (Nat×AV))(I:α->Hp->Prop)(μ:α->Nat)
  (step:∀a h,I a h->∀G:Tr AV->Hp->Prop,(∀a' t' h',μ a'<μ a->Has t' (T a')->I a' h'->G t' h')->V P n x (fun e t h=>onX e (G t h) (fun id=>Q (.exit id) t h) (Q .ret t h)) (mkT (T a)) h)
  (a0:α) {t:Tr AV} {h:Hp} (ht:Has t (T a0)) (h0:I a0 h):SL P n x Q t h:=by
 have main:∀m a t h,μ a<=m->Has t (T a)->I a h->SL P n x Q t h:=by
  intro m
  induction m with
  | zero =>
   intro a t h hm ht hi;refine SL.has _ ht (qiz (step a h hi _ ?_));intro a' t' h' hlt _ _;omega
  | succ m ih =>
   intro a t h hm ht hi;refine SL.has _ ht (qiz (step a h hi _ ?_));intro a' t' h' hlt ht' hi';exact ih a' t' h' (by omega) ht' hi'
 exact main _ a0 t h (Nat.le_refl _) ht h0
end Go.Kc
end
section
namespace Go.Kc
variable {P:Program} {f:Nat}
structure Sy where
 code:Int
 k:Int
 th:Nat
 el:Nat
def cSy(s:Sy):List AV:=[.i .u16 s.code,.i .u32 s.k,.i .i64 (s.th:Int),.i .i64 (s.el:Int)]
def rSy(l:List Sy):List AV:=l.flatMap cSy
theorem qai{l:List Sy}:(rSy l).length=l.length*4:=by
 induction l with
 | nil=>rfl
 | cons s l ih=>simp only[rSy,List.flatMap_cons,List.length_append,List.length_cons] at ih ⊢;rw[ih];simp[cSy];omega
theorem ql1{l m:List Sy}:rSy l++rSy m=rSy (l++m):=by simp[rSy]
theorem qst{s:Sy}:cSy s=rSy [s]:=by simp[rSy]
def Sy.raw(s:Sy):Sy:=⟨s.code,s.k,0,0⟩
def qQ:IFn:=⟨[],.r [.n 4 0,.n 5 0,.q 6 (.nilChk (.t 5)),.f 7 0 6,.d 8 7,.n 9 1,.q 10 (.app 4 24 true (.t 8) (.t 9)),.q 11 (.nilChk (.t 4)),.f 12 0 11,.u (.store 1 (.t 12) (.t 10))]⟩
theorem qvM(hc:qd P f qQ=true){w s fl bx bl m e:Nat}{tr:Tr Blk}{x:AV}{a:Bool}{ys:List AV}(y:Sy){k:AV->Hp->Prop}
  (hw:tr.get w=some (.cells 0 true false [.own bl m,x])) (hl:tr.get bl=some (.cells 4 true true ys)) (hy:ys.length=m*4) (hx:tr.get bx=some (.cells e true a (cSy y))) (hm:m<=1000000)
  (hwl:w≠bl) (hws:w<s) (hfw:fl<=w) (hfl:fl<=bl) (hxok:qb6 x=true∧qV x=true) (hk:k (.tup []) ⟨s+1,fl,((tr.set bl .dead).set s (.cells 4 true true (ys++cSy y))).set w (.cells 0 true false [.own s (m+1),x])⟩) :
  SC P f [.ptr w 0,.sl bx 0 1 1 false] ⟨s,fl,tr⟩ k:=by
 refine SC.mk hc (qp ?_);have hr1:m+1<=qe:=by simp only[qe];omega
 have hr2:(m+1)*24<=qe:=by simp only[qe];omega
 have hws':¬w=s:=by omega
 simp only[qQ,vI,simprocAttr];simp +decide only[↓vS,vT,simprocAttr,hw,hl,hy,hx,cSy,hr1,hr2,hwl,hws',hfw,hfl];exact hk
def xv:IFn:=⟨[],.r [.n 4 1,.n 5 0,.q 6 (.nilChk (.t 5)),.f 7 0 6,.d 8 7,.e 9 8,.q 10 (.nilChk (.t 4)),.f 11 0 10,.u (.store 1 (.t 11) (.t 9))]⟩
theorem qrv(hc:qd P f xv=true){w s fl bl m b:Nat}{tr:Tr Blk}{x:AV}{old:AV}{k:AV->Hp->Prop}
  (hw:tr.get w=some (.cells 0 true false [.own bl m,x])) (hb:tr.get b=some (.cells 0 true false [old]))
  (hfb:fl<=b) (hk:k (.tup []) ⟨s,fl,tr.set b (.cells 0 true false [.i .i64 (m:Int)])⟩) :
  SC P f [.ptr w 0,.ptr b 0] ⟨s,fl,tr⟩ k:=by
 refine SC.mk hc (qp ?_);simp only[xv,vI,simprocAttr];simp +decide only[↓vS,vT,simprocAttr,hw,hb,hfb];exact hk
inductive Kd where
 | no|fr|w|l|t|box
 | lab (F:Nat) (p:Bool)
def kdS(κ:Nat->Kd)(b:Nat)(x:Kd):Nat->Kd:=fun c=>if c=b then x else κ c
theorem xa{κ:Nat->Kd}{b:Nat}{x:Kd}:kdS κ b x b=x:=if_pos rfl
theorem qw{κ:Nat->Kd}{b c:Nat}{x:Kd}(h:c≠b):kdS κ b x c=κ c:=if_neg h
def Bx(κ:Nat->Kd)(tr:Tr Blk)(b:Nat)(v:AV):Prop:=κ b = .box∧tr.get b=some (.cells 0 true false [v])
def JOk(g w:Nat)(κ:Nat->Kd)(tr:Tr Blk)(RV:List Sy)(j:Nat)(c:AV):Prop :=
 ∃b5 b6 b8 b9 b10 X p o y,c = .fn g [] [.ptr b8 0,.ptr b5 0,.ptr b10 0,.ptr b6 0,.ptr b9 0]∧RV[j]?=some y∧Bx κ tr b5 (.ptr w 0)∧Bx κ tr b6 (.i .u16 y.code)∧Bx κ tr b8 (.ptr X 0)∧Bx κ tr b9 o∧Bx κ tr b10 (.i .i64 (j:Int)) ∧
  κ X = .lab y.th p∧((y.code=5∧o = .nilp∧y.el=0)∨(y.code≠5∧∃Y p',o = .ptr Y 0∧κ Y = .lab y.el p'))
def qdW(g w:Nat)(κ:Nat->Kd)(tr:Tr Blk)(RV:List Sy):List Nat->List AV->Prop
 | [],[]=>True
 | j::js,c::cs=>JOk g w κ tr RV j c∧qdW g w κ tr RV js cs
 | _,_=>False
structure WI (g w:Nat) (κ:Nat->Kd) (s:Nat) (tr:Tr Blk) (RV:List Sy) (N:List Nat):Prop where
 dom:∀b,κ b≠.no->b<s
 rows:∃bl bt cs js,κ w = .w∧κ bl = .l∧κ bt = .t∧tr.get w=some (.cells 0 true false [.own bl RV.length,.own bt cs.length])∧tr.get bl=some (.cells 4 true true (rSy (RV.map Sy.raw)))∧tr.get bt=some (.cells 1 true true cs) ∧
  qdW g w κ tr RV js cs∧cs.length+N.length<=RV.length∧∀(j:Nat) y,RV[j]?=some y->j ∉ js->j ∉ N->y.raw=y
 lab:∀b F p,κ b = .lab F p->∃x:Int,tr.get b=some (.cells 0 true false [.i .i64 x])∧(p=true->x=F)
structure Stp (L:List Nat) (κ:Nat->Kd) (s:Nat) (tr:Tr Blk) (κ':Nat->Kd) (s':Nat) (tr':Tr Blk):Prop where
 le:s<=s'
 fr:∀b,κ b = .fr->κ' b = .fr∧tr'.get b=tr.get b
 box:∀b,κ b = .box->κ' b = .box∧tr'.get b=tr.get b
 lab:∀b F p,κ b = .lab F p->κ' b = .lab F p
 nw:∀b F,κ' b = .lab F false->κ b = .lab F false∨b ∈ L
theorem Stp.trans{L M:List Nat}{κ κ1 κ2:Nat->Kd}{s s1 s2:Nat}{tr t1 t2:Tr Blk}(a:Stp L κ s tr κ1 s1 t1)(b:Stp M κ1 s1 t1 κ2 s2 t2):Stp (L++M) κ s tr κ2 s2 t2 :=
 ⟨Nat.le_trans a.le b.le,fun x h=>⟨(b.fr x (a.fr x h).1).1,(b.fr x (a.fr x h).1).2.trans (a.fr x h).2⟩,fun x h=>⟨(b.box x (a.box x h).1).1,(b.box x (a.box x h).1).2.trans (a.box x h).2⟩,fun x F p h=>b.lab x F p (a.lab x F p h),
  fun x F h=>by
   rcases b.nw x F h with h|h
   ·rcases a.nw x F h with h|h
    ·exact .inl h
    ·exact .inr (List.mem_append_left _ h)
   ·exact .inr (List.mem_append_right _ h)⟩
theorem JOk.mono{g w:Nat}{κ κ':Nat->Kd}{tr tr':Tr Blk}{RV RV':List Sy}{j:Nat}{c:AV}(h:JOk g w κ tr RV j c)(hb:∀b,κ b = .box->κ' b = .box∧tr'.get b=tr.get b)(hl:∀b F p,κ b = .lab F p->∃p',κ' b = .lab F p')
  (hr:∀(j:Nat) y,RV[j]?=some y->RV'[j]?=some y):JOk g w κ' tr' RV' j c:=by
 obtain⟨b5,b6,b8,b9,b10,X,p,o,y,h0,h1,h2,h3,h4,h5,h6,h7,h8⟩:=h;have bx:∀b v,Bx κ tr b v->Bx κ' tr' b v:=fun b v q=>⟨(hb b q.1).1,(hb b q.1).2.trans q.2⟩
 obtain⟨p1,h7'⟩:=hl X _ p h7;refine⟨b5,b6,b8,b9,b10,X,p1,o,y,h0,hr _ _ h1,bx _ _ h2,bx _ _ h3,bx _ _ h4,bx _ _ h5,bx _ _ h6,h7',?_⟩;rcases h8 with h8|⟨h8,Y,p',h9,h10⟩
 ·exact .inl h8
 ·obtain⟨p2,h10'⟩:=hl Y _ p' h10;exact .inr ⟨h8,Y,p2,h9,h10'⟩
theorem qdW.mono{g w:Nat}{κ κ':Nat->Kd}{tr tr':Tr Blk}{RV RV':List Sy}(hb:∀b,κ b = .box->κ' b = .box∧tr'.get b=tr.get b)(hl:∀b F p,κ b = .lab F p->∃p',κ' b = .lab F p')
  (hr:∀(j:Nat) y,RV[j]?=some y->RV'[j]?=some y):∀{js:List Nat} {cs:List AV},qdW g w κ tr RV js cs->qdW g w κ' tr' RV' js cs
 | [],[],_=>trivial
 | _::_,_::_,h=>⟨h.1.mono hb hl hr,qdW.mono hb hl hr h.2⟩
 | [],_::_,h=>h.elim
 | _::_,[],h=>h.elim
theorem qdW.app{g w:Nat}{κ:Nat->Kd}{tr:Tr Blk}{RV:List Sy}{j:Nat}{c:AV}(hj:JOk g w κ tr RV j c):∀{js:List Nat} {cs:List AV},qdW g w κ tr RV js cs->qdW g w κ tr RV (js++[j]) (cs++[c])
 | [],[],_=>⟨hj,trivial⟩
 | _::_,_::_,h=>⟨h.1,qdW.app hj h.2⟩
 | [],_::_,h=>h.elim
 | _::_,[],h=>h.elim
section
variable {g w s:Nat} {κ:Nat->Kd} {tr:Tr Blk} {RV:List Sy} {N:List Nat}
theorem WI.fresh(h:WI g w κ s tr RV N):κ s = .no:=by
 cases hk:κ s with
 | no=>rfl
 | _=>exact absurd (h.dom s (by rw[hk];simp)) (Nat.lt_irrefl _)
theorem WI.new(h:WI g w κ s tr RV N)(kd:Kd)(x:Blk)(hk:kd = .no∨kd = .fr∨kd = .box∨∃F,kd = .lab F false∧x = .cells 0 true false [.i .i64 0]):WI g w (kdS κ s kd) (s+1) (tr.set s x) RV N:=by
 have hs:=h.fresh;have ne:∀{b},κ b≠.no->b≠s:=fun hb e=>hb (e ▸ hs)
 obtain⟨bl,bt,cs,js,r1,r2,r3,r4,r5,r6,r7,r8,r9⟩:=h.rows;refine⟨fun b hb=>?_,⟨bl,bt,cs,js,?_,?_,?_,?_,?_,?_,r7.mono ?_ ?_ fun _ _ q=>q,r8,r9⟩,fun b F p hb=>?_⟩
 ·by_cases e:b=s
  ·omega
  ·rw[qw e] at hb;have:=h.dom b hb;omega
 ·rw[qw (ne (by rw[r1];simp))];exact r1
 ·rw[qw (ne (by rw[r2];simp))];exact r2
 ·rw[qw (ne (by rw[r3];simp))];exact r3
 ·rw[Tr.get_set,if_neg (ne (by rw[r1];simp))];exact r4
 ·rw[Tr.get_set,if_neg (ne (by rw[r2];simp))];exact r5
 ·rw[Tr.get_set,if_neg (ne (by rw[r3];simp))];exact r6
 ·intro b hb;have e:=ne (b:=b) (by rw[hb];simp);rw[qw e,Tr.get_set,if_neg e];exact⟨hb,rfl⟩
 ·intro b F p hb;rw[qw (ne (by rw[hb];simp))];exact⟨p,hb⟩
 ·by_cases e:b=s
  ·subst e;rw[xa] at hb;rcases hk with hk|hk|hk|⟨F',hk,hx⟩
   ·rw[hk] at hb;cases hb
   ·rw[hk] at hb;cases hb
   ·rw[hk] at hb;cases hb
   ·rw[hk] at hb;cases hb;exact⟨0,by rw[Tr.get_set,if_pos rfl,hx],by simp⟩
  ·rw[qw e] at hb;rw[Tr.get_set,if_neg e];exact h.lab b F p hb
theorem WI.stpLab(h:WI g w κ s tr RV N)(kd:Kd)(x:Blk):Stp [s] κ s tr (kdS κ s kd) (s+1) (tr.set s x):=by
 have hs:=h.fresh;have ne:∀{b},κ b≠.no->b≠s:=fun hb e=>hb (e ▸ hs)
 refine⟨by omega,fun b hb=>?_,fun b hb=>?_,fun b F p hb=>?_,fun b F hb=>?_⟩
 ·have e:=ne (b:=b) (by rw[hb];simp);rw[qw e,Tr.get_set,if_neg e];exact⟨hb,rfl⟩
 ·have e:=ne (b:=b) (by rw[hb];simp);rw[qw e,Tr.get_set,if_neg e];exact⟨hb,rfl⟩
 ·rw[qw (ne (by rw[hb];simp))];exact hb
 ·by_cases e:b=s
  ·exact .inr (by simp[e])
  ·rw[qw e] at hb;exact .inl hb
theorem WI.stpNew(h:WI g w κ s tr RV N)(kd:Kd)(x:Blk)(hk:∀F,kd≠.lab F false):Stp [] κ s tr (kdS κ s kd) (s+1) (tr.set s x):=by
 refine { h.stpLab kd x with nw:=fun b F hb=>?_ }
 by_cases e:b=s
 ·rw[e,xa] at hb;exact absurd hb (hk F)
 ·rw[qw e] at hb;exact .inl hb
theorem WI.chg(h:WI g w κ s tr RV N){b:Nat}(kd:Kd)(x:Blk)(hb:κ b = .fr∨κ b = .no)(hbs:b<s)(hk:kd = .no∨kd = .fr∨kd = .box):WI g w (kdS κ b kd) s (tr.set b x) RV N:=by
 have ne:∀{c},κ c≠.no->κ c≠.fr->c≠b:=fun h1 h2 e=>by subst e;rcases hb with q|q<;>contradiction
 obtain⟨bl,bt,cs,js,r1,r2,r3,r4,r5,r6,r7,r8,r9⟩:=h.rows;refine⟨fun c hc=>?_,⟨bl,bt,cs,js,?_,?_,?_,?_,?_,?_,r7.mono ?_ ?_ fun _ _ q=>q,r8,r9⟩,fun c F p hc=>?_⟩
 ·by_cases e:c=b
  ·omega
  ·rw[qw e] at hc;exact h.dom c hc
 ·rw[qw (ne (by rw[r1];simp) (by rw[r1];simp))];exact r1
 ·rw[qw (ne (by rw[r2];simp) (by rw[r2];simp))];exact r2
 ·rw[qw (ne (by rw[r3];simp) (by rw[r3];simp))];exact r3
 ·rw[Tr.get_set,if_neg (ne (by rw[r1];simp) (by rw[r1];simp))];exact r4
 ·rw[Tr.get_set,if_neg (ne (by rw[r2];simp) (by rw[r2];simp))];exact r5
 ·rw[Tr.get_set,if_neg (ne (by rw[r3];simp) (by rw[r3];simp))];exact r6
 ·intro c hc;have e:=ne (c:=c) (by rw[hc];simp) (by rw[hc];simp);rw[qw e,Tr.get_set,if_neg e];exact⟨hc,rfl⟩
 ·intro c F p hc;rw[qw (ne (by rw[hc];simp) (by rw[hc];simp))];exact⟨p,hc⟩
 ·by_cases e:c=b
  ·subst e;rw[xa] at hc;rcases hk with hk|hk|hk<;>rw[hk] at hc<;>cases hc
  ·rw[qw e] at hc;rw[Tr.get_set,if_neg e];exact h.lab c F p hc
theorem qtm{bx e:Nat}{a:Bool}(hc:qd P f qQ=true)(h:WI g w κ s tr RV N)(y:Sy)(hx:tr.get bx=some (.cells e true a (cSy y.raw)))(hm:RV.length<=1000000) :
  ∃κ' s' tr',Stp [] κ s tr κ' s' tr'∧WI g w κ' s' tr' (RV++[y]) (RV.length::N)∧∀k:AV->Hp->Prop,k (.tup []) ⟨s',0,tr'⟩->SC P f [.ptr w 0,.sl bx 0 1 1 false] ⟨s,0,tr⟩ k:=by
 obtain⟨bl,bt,cs,js,r1,r2,r3,r4,r5,r6,r7,r8,r9⟩:=h.rows;have hs:=h.fresh;have ne:∀{b c},κ b≠κ c->b≠c:=fun q e=>q (e ▸ rfl)
 have ns:∀{b},κ b≠.no->b≠s:=fun hb e=>hb (e ▸ hs)
 have wl:w≠bl:=ne (by rw[r1,r2];simp);have tl:bt≠bl:=ne (by rw[r3,r2];simp);have tw:bt≠w:=ne (by rw[r3,r1];simp);have sw:s≠w:=fun e=>ns (b:=w) (by rw[r1];simp) e.symm
 have sl:s≠bl:=fun e=>ns (b:=bl) (by rw[r2];simp) e.symm
 have st:bt≠s:=ns (by rw[r3];simp)
 have ge:∀b,κ b≠.w->κ b≠.l->κ b≠.no->(((tr.set bl .dead).set s (.cells 4 true true (rSy (RV.map Sy.raw)++cSy y.raw))).set w (.cells 0 true false [.own s (RV.length+1),.own bt cs.length])).get b=tr.get b:=fun b h1 h2 h3=>by
  rw[Tr.get_set,if_neg (ne (by rw[r1];exact h1)),Tr.get_set,if_neg (ns h3),Tr.get_set,if_neg (ne (by rw[r2];exact h2))]
 have gk:∀b,κ b≠.l->κ b≠.no->kdS (kdS κ bl .no) s .l b=κ b:=fun b h1 h2=>by
  rw[qw (ns h2),qw (ne (by rw[r2];exact h1))]
 refine⟨kdS (kdS κ bl .no) s .l,s+1,((tr.set bl .dead).set s (.cells 4 true true (rSy (RV.map Sy.raw)++cSy y.raw))).set w (.cells 0 true false [.own s (RV.length+1),.own bt cs.length]),⟨by omega,fun b hb=>?_,fun b hb=>?_,fun b F p hb=>?_,fun b F hb=>.inl (by
  by_cases e:b=s
  ·rw[e,xa] at hb;cases hb
  ·rw[qw e] at hb
   by_cases e2:b=bl
   ·rw[e2,xa] at hb;cases hb
   ·rw[qw e2] at hb;exact hb)⟩,⟨fun b hb=>?_,⟨s,bt,cs,js,?_,?_,?_,?_,?_,?_,r7.mono ?_ ?_ ?_,?_,?_⟩,fun b F p hb=>?_⟩,
  fun k hk=>qvM hc y.raw r4 r5 (by rw[qai,List.length_map]) hx hm wl (h.dom w (by rw[r1];simp)) (Nat.zero_le _) (Nat.zero_le _) ⟨rfl,rfl⟩ hk⟩
 ·exact⟨by rw[gk b (by rw[hb];simp) (by rw[hb];simp)];exact hb,ge b (by rw[hb];simp) (by rw[hb];simp) (by rw[hb];simp)⟩
 ·exact⟨by rw[gk b (by rw[hb];simp) (by rw[hb];simp)];exact hb,ge b (by rw[hb];simp) (by rw[hb];simp) (by rw[hb];simp)⟩
 ·rw[gk b (by rw[hb];simp) (by rw[hb];simp)];exact hb
 ·by_cases e:b=s
  ·omega
  ·rw[qw e] at hb
   by_cases e2:b=bl
   ·rw[e2,xa] at hb;exact absurd rfl hb
   ·rw[qw e2] at hb;have:=h.dom b hb;omega
 ·rw[gk w (by rw[r1];simp) (by rw[r1];simp)];exact r1
 ·rw[xa]
 ·rw[gk bt (by rw[r3];simp) (by rw[r3];simp)];exact r3
 ·rw[Tr.get_set,if_pos rfl];simp
 ·rw[Tr.get_set,if_neg sw,Tr.get_set,if_pos rfl];rw[qst,ql1];simp
 ·rw[ge bt (by rw[r3];simp) (by rw[r3];simp) (by rw[r3];simp)];exact r6
 ·intro b hb;exact⟨by rw[gk b (by rw[hb];simp) (by rw[hb];simp)];exact hb,ge b (by rw[hb];simp) (by rw[hb];simp) (by rw[hb];simp)⟩
 ·intro b F p hb;exact⟨p,by rw[gk b (by rw[hb];simp) (by rw[hb];simp)];exact hb⟩
 ·intro j z hz;rw[List.getElem?_append_left (zzS.1 hz).1];exact hz
 ·simp;omega
 ·intro j z hz hj hn
  by_cases e:j<RV.length
  ·rw[List.getElem?_append_left e] at hz;exact r9 j z hz hj fun q=>hn (List.mem_cons_of_mem _ q)
  ·have:j<(RV++[y]).length:=(zzS.1 hz).1;rw[List.length_append,List.length_singleton] at this;exact absurd (List.mem_cons.2 (.inl (show j=RV.length by omega))) hn
 ·by_cases e:b=s
  ·rw[e,xa] at hb;cases hb
  ·rw[qw e] at hb
   by_cases e2:b=bl
   ·rw[e2,xa] at hb;cases hb
   ·rw[qw e2] at hb;obtain⟨x,q1,q2⟩:=h.lab b F p hb;exact⟨x,by rw[ge b (by rw[hb];simp) (by rw[hb];simp) (by rw[hb];simp)];exact q1,q2⟩
theorem qtl{k:AV->Hp->Prop}{bx e:Nat}{a:Bool}(hc:qd P f qQ=true)(h:WI g w κ s tr RV N)(y:Sy)(hx:tr.get bx=some (.cells e true a (cSy y.raw)))(hm:RV.length<=1000000)
  (hk:∀κ' s' tr',Stp [] κ s tr κ' s' tr'->WI g w κ' s' tr' (RV++[y]) (RV.length::N)->k (.tup []) ⟨s',0,tr'⟩):SC P f [.ptr w 0,.sl bx 0 1 1 false] ⟨s,0,tr⟩ k:=by
 obtain⟨κ',s',tr',q1,q2,q3⟩:=qtm hc h y hx hm;exact q3 k (hk κ' s' tr' q1 q2)
theorem WI.drop{n:Nat}(h:WI g w κ s tr RV (n::N))(hn:∀y,RV[n]?=some y->y.raw=y):WI g w κ s tr RV N:=by
 obtain⟨bl,bt,cs,js,r1,r2,r3,r4,r5,r6,r7,r8,r9⟩:=h.rows;refine⟨h.dom,⟨bl,bt,cs,js,r1,r2,r3,r4,r5,r6,r7,by simp at r8;omega,fun j y hy hj hN=>?_⟩,h.lab⟩
 by_cases e:j=n
 ·subst e;exact hn y hy
 ·exact r9 j y hy hj fun q=>by rcases List.mem_cons.1 q with q|q<;>contradiction
theorem WI.add{n bl bt m:Nat}{c:AV}{cs:List AV}(h:WI g w κ s tr RV (n::N))(hj:JOk g w κ tr RV n c)(hw:tr.get w=some (.cells 0 true false [.own bl RV.length,.own bt m]))(ht:tr.get bt=some (.cells 1 true true cs)) :
  WI g w (kdS (kdS κ bt .no) s .t) (s+1) (((tr.set bt .dead).set s (.cells 1 true true (cs++[c]))).set w (.cells 0 true false [.own bl RV.length,.own s (m+1)])) RV N ∧
  Stp [] κ s tr (kdS (kdS κ bt .no) s .t) (s+1) (((tr.set bt .dead).set s (.cells 1 true true (cs++[c]))).set w (.cells 0 true false [.own bl RV.length,.own s (m+1)])):=by
 obtain⟨bl',bt',cs',js,r1,r2,r3,r4,r5,r6,r7,r8,r9⟩:=h.rows;rw[hw] at r4;cases r4;rw[ht] at r6;cases r6;have hs:=h.fresh;have ne:∀{b c},κ b≠κ c->b≠c:=fun q e=>q (e ▸ rfl)
 have ns:∀{b},κ b≠.no->b≠s:=fun hb e=>hb (e ▸ hs)
 have sw:s≠w:=fun e=>ns (b:=w) (by rw[r1];simp) e.symm
 have sb:s≠bt:=fun e=>ns (b:=bt) (by rw[r3];simp) e.symm
 have ge:∀b,κ b≠.w->κ b≠.t->κ b≠.no->(((tr.set bt .dead).set s (.cells 1 true true (cs++[c]))).set w (.cells 0 true false [.own bl RV.length,.own s (cs.length+1)])).get b=tr.get b:=fun b h1 h2 h3=>by
  rw[Tr.get_set,if_neg (ne (by rw[r1];exact h1)),Tr.get_set,if_neg (ns h3),Tr.get_set,if_neg (ne (by rw[r3];exact h2))]
 have gk:∀b,κ b≠.t->κ b≠.no->kdS (kdS κ bt .no) s .t b=κ b:=fun b h1 h2=>by
  rw[qw (ns h2),qw (ne (by rw[r3];exact h1))]
 have hB:∀b,κ b = .box->kdS (kdS κ bt .no) s .t b = .box∧(((tr.set bt .dead).set s (.cells 1 true true (cs++[c]))).set w (.cells 0 true false [.own bl RV.length,.own s (cs.length+1)])).get b=tr.get b:=fun b hb =>
  ⟨by rw[gk b (by rw[hb];simp) (by rw[hb];simp)];exact hb,ge b (by rw[hb];simp) (by rw[hb];simp) (by rw[hb];simp)⟩
 have hL:∀b F p,κ b = .lab F p->kdS (kdS κ bt .no) s .t b = .lab F p:=fun b F p hb=>by rw[gk b (by rw[hb];simp) (by rw[hb];simp)];exact hb
 refine⟨⟨fun b hb=>?_,⟨bl,s,cs++[c],js++[n],?_,?_,?_,?_,?_,?_,?_,?_,?_⟩,fun b F p hb=>?_⟩,⟨by omega,fun b hb=>?_,hB,hL,fun b F hb=>.inl (by
  by_cases e:b=s
  ·rw[e,xa] at hb;cases hb
  ·rw[qw e] at hb
   by_cases e2:b=bt
   ·rw[e2,xa] at hb;cases hb
   ·rw[qw e2] at hb;exact hb)⟩⟩
 ·by_cases e:b=s
  ·omega
  ·rw[qw e] at hb
   by_cases e2:b=bt
   ·rw[e2,xa] at hb;exact absurd rfl hb
   ·rw[qw e2] at hb;have:=h.dom b hb;omega
 ·rw[gk w (by rw[r1];simp) (by rw[r1];simp)];exact r1
 ·rw[gk bl (by rw[r2];simp) (by rw[r2];simp)];exact r2
 ·rw[xa]
 ·rw[Tr.get_set,if_pos rfl];simp
 ·rw[ge bl (by rw[r2];simp) (by rw[r2];simp) (by rw[r2];simp)];exact r5
 ·rw[Tr.get_set,if_neg sw,Tr.get_set,if_pos rfl]
 ·exact qdW.app (hj.mono hB (fun b F p hb=>⟨p,hL b F p hb⟩) fun _ _ q=>q) (r7.mono hB (fun b F p hb=>⟨p,hL b F p hb⟩) fun _ _ q=>q)
 ·simp at r8 ⊢;omega
 ·intro j y hy hj hN
  exact r9 j y hy (fun q=>hj (by simp[q])) fun q=>by
   rcases List.mem_cons.1 q with q|q
   ·exact hj (by simp[q])
   ·exact hN q
 ·by_cases e:b=s
  ·rw[e,xa] at hb;cases hb
  ·rw[qw e] at hb
   by_cases e2:b=bt
   ·rw[e2,xa] at hb;cases hb
   ·rw[qw e2] at hb;obtain⟨x,q1,q2⟩:=h.lab b F p hb;exact⟨x,by rw[ge b (by rw[hb];simp) (by rw[hb];simp) (by rw[hb];simp)];exact q1,q2⟩
 ·exact⟨by rw[gk b (by rw[hb];simp) (by rw[hb];simp)];exact hb,ge b (by rw[hb];simp) (by rw[hb];simp) (by rw[hb];simp)⟩
end
section
variable {g w s gp:Nat} {κ:Nat->Kd} {tr:Tr Blk} {RV:List Sy} {N:List Nat} {k:AV->Hp->Prop}
theorem WI.dropS{y:Sy}(h:WI g w κ s tr (RV++[y]) (RV.length::N))(hy:y.raw=y):WI g w κ s tr (RV++[y]) N:=h.drop fun z hz=>by
 simp at hz;rw[← hz];exact hy
def qaA(a:Nat):IFn:=⟨[],.r [.n 4 0,.n 5 1,.q 6 (.build [.i .u16 0,.i .u32 0,.i .i64 0,.i .i64 0] [(0,1,(.c (.i .u16 32))),(1,1,(.t 5))]),.q 7 (.buildS 1 [.i .u16 0,.i .u32 0,.i .i64 0,.i .i64 0] [(0,4,(.t 6))]),.l 8 a [.t 4,.t 7]]⟩
theorem qpl(hc:qd P f (qaA gp)=true)(hp:qd P gp qQ=true)(h:WI g w κ s tr RV N)(a:Int)(hm:RV.length<=1000000)
  (hk:∀κ' s' tr',Stp [] κ s tr κ' s' tr'->WI g w κ' s' tr' (RV++[⟨32,a,0,0⟩]) N->k (.tup []) ⟨s',0,tr'⟩):SC P f [.ptr w 0,.i .u32 a] ⟨s,0,tr⟩ k:=by
 refine SC.mk hc (qp ?_);simp only[qaA,vI,simprocAttr];simp +decide only[↓vS,vT,simprocAttr];refine qtl hp (h.new .no _ (.inl rfl)) ⟨32,a,0,0⟩ (by rw[Tr.get_set,if_pos rfl];rfl) hm ?_;intro κ' s' tr' st hw;simp +decide only[↓vS,vT,simprocAttr];exact hk _ _ _ ((h.stpNew .no _ (by simp)).trans st) (hw.dropS rfl)
def qaO(a:Nat):IFn:=⟨[],.r [.n 4 0,.n 5 1,.q 6 (.build [.i .u16 0,.i .u32 0,.i .i64 0,.i .i64 0] [(0,1,(.c (.i .u16 6))),(1,1,(.t 5))]),.q 7 (.buildS 1 [.i .u16 0,.i .u32 0,.i .i64 0,.i .i64 0] [(0,4,(.t 6))]),.l 8 a [.t 4,.t 7]]⟩
theorem qto(hc:qd P f (qaO gp)=true)(hp:qd P gp qQ=true)(h:WI g w κ s tr RV N)(a:Int)(hm:RV.length<=1000000)
  (hk:∀κ' s' tr',Stp [] κ s tr κ' s' tr'->WI g w κ' s' tr' (RV++[⟨6,a,0,0⟩]) N->k (.tup []) ⟨s',0,tr'⟩):SC P f [.ptr w 0,.i .u32 a] ⟨s,0,tr⟩ k:=by
 refine SC.mk hc (qp ?_);simp only[qaO,vI,simprocAttr];simp +decide only[↓vS,vT,simprocAttr];refine qtl hp (h.new .no _ (.inl rfl)) ⟨6,a,0,0⟩ (by rw[Tr.get_set,if_pos rfl];rfl) hm ?_;intro κ' s' tr' st hw;simp +decide only[↓vS,vT,simprocAttr];exact hk _ _ _ ((h.stpNew .no _ (by simp)).trans st) (hw.dropS rfl)
theorem qho(hc:qd P f xv=true)(h:WI g w κ s tr RV N){b:Nat}{p:Bool}(hb:κ b = .lab RV.length p)
  (hk:∀tr',(∀c,κ c = .fr->tr'.get c=tr.get c)->(∀c,κ c = .box->tr'.get c=tr.get c)->WI g w (kdS κ b (.lab RV.length true)) s tr' RV N->k (.tup []) ⟨s,0,tr'⟩):SC P f [.ptr w 0,.ptr b 0] ⟨s,0,tr⟩ k:=by
 obtain⟨bl,bt,cs,js,r1,r2,r3,r4,r5,r6,r7,r8,r9⟩:=h.rows;obtain⟨x,q1,q2⟩:=h.lab _ _ _ hb;have ne:∀{b c},κ b≠κ c->b≠c:=fun q e=>q (e ▸ rfl)
 have nb:∀{c},(∀F p,κ c≠.lab F p)->c≠b:=fun q e=>q _ _ (e ▸ hb)
 refine qrv hc r4 q1 (Nat.zero_le _) (hk _ (fun c hc=>?_) (fun c hc=>?_) ⟨fun c hc=>?_,⟨bl,bt,cs,js,?_,?_,?_,?_,?_,?_,r7.mono ?_ ?_ fun _ _ q=>q,r8,r9⟩,fun c F p hc=>?_⟩)
 ·rw[Tr.get_set,if_neg (nb (by rw[hc];simp))]
 ·rw[Tr.get_set,if_neg (nb (by rw[hc];simp))]
 ·by_cases e:c=b
  ·rw[e];exact h.dom b (by rw[hb];simp)
  ·rw[qw e] at hc;exact h.dom c hc
 ·rw[qw (nb (by rw[r1];simp))];exact r1
 ·rw[qw (nb (by rw[r2];simp))];exact r2
 ·rw[qw (nb (by rw[r3];simp))];exact r3
 ·rw[Tr.get_set,if_neg (nb (by rw[r1];simp))];exact r4
 ·rw[Tr.get_set,if_neg (nb (by rw[r2];simp))];exact r5
 ·rw[Tr.get_set,if_neg (nb (by rw[r3];simp))];exact r6
 ·intro c hc;have e:c≠b:=nb (by rw[hc];simp);rw[qw e,Tr.get_set,if_neg e];exact⟨hc,rfl⟩
 ·intro c F p hc
  by_cases e:c=b
  ·rw[e,hb] at hc;cases hc;exact⟨true,by rw[e,xa]⟩
  ·rw[qw e];exact⟨p,hc⟩
 ·by_cases e:c=b
  ·rw[e,xa] at hc;cases hc;exact⟨(RV.length:Int),by rw[e,Tr.get_set,if_pos rfl],fun _=>rfl⟩
  ·rw[qw e] at hc;rw[Tr.get_set,if_neg e];exact h.lab c F p hc
def xw(a b:Nat):IFn:=⟨[],.seq (.r [.q 5 (.box (.t 0)),.q 6 (.box (.t 1)),.q 8 (.box (.t 3)),.q 9 (.box (.t 4))]) (.seq (.r [.d 11 5,.q 12 (.nilChk (.t 11)),.f 13 0 12,.d 14 13,.e 15 14,.q 10 (.alloc [.i .i64 0]),.u (.store 1 (.t 10) (.t 15))]) (.seq (.r [.d 16 5,.d 17 6,.n 18 2,.q 19 (.build [.i .u16 0,.i .u32 0,.i .i64 0,.i .i64 0] [(0,1,(.t 17)),(1,1,(.t 18))]),.q 20 (.buildS 1 [.i .u16 0,.i .u32 0,.i .i64 0,.i .i64 0] [(0,4,(.t 19))]),.l 21 a [.t 16,.t 20]]) (.reg true [.d 22 5,.d 23 5,.q 24 (.nilChk (.t 23)),.f 25 1 24,.d 26 25,.q 27 (.mkF b [] [.t 8,.t 5,.t 10,.t 6,.t 9]),.q 28 (.buildS 1 [.nilf] [(0,1,(.t 27))]),.q 29 (.appD 1 8 (.t 26) (.t 28) [5]),.q 30 (.nilChk (.t 22)),.f 31 1 30,.u (.store 1 (.t 31) (.t 29))])))⟩
theorem quG(hc:qd P f (xw gp g)=true)(hp:qd P gp qQ=true)(h:WI g w κ s tr RV N)(y:Sy){X:Nat}{p:Bool}{o:AV}(hX:κ X = .lab y.th p)
  (ho:(y.code=5∧o = .nilp∧y.el=0)∨(y.code≠5∧∃Y p',o = .ptr Y 0∧κ Y = .lab y.el p')) (hm:RV.length<=1000000) :
  ∃κ' s' tr',Stp [] κ s tr κ' s' tr'∧WI g w κ' s' tr' (RV++[y]) N∧∀k:AV->Hp->Prop,k (.tup []) ⟨s',0,tr'⟩->SC P f [.ptr w 0,.i .u16 y.code,.i .u32 y.k,.ptr X 0,o] ⟨s,0,tr⟩ k:=by
 obtain⟨bl,bt,cs,js,r1,r2,r3,r4,r5,r6,r7,r8,r9⟩:=h.rows;have hs:=h.fresh;have ws:w<s:=h.dom w (by rw[r1];simp)
 have hod:qb6 o=true∧cellsOf o=[o]∧qV o=true:=by
  rcases ho with⟨_,rfl,_⟩|⟨_,Y,_,rfl,_⟩<;>exact⟨rfl,rfl,rfl⟩
 obtain⟨o1,o2,o3⟩:=hod;have w0:¬w=s:=by omega
 have w1:¬w=s+1:=by omega
 have w2:¬w=s+1+1:=by omega
 have w3:¬w=s+1+1+1:=by omega
 have w4:¬w=s+1+1+1+1:=by omega
 have s1:¬s=s+1:=by omega
 have s2:¬s=s+1+1:=by omega
 have s3:¬s=s+1+1+1:=by omega
 have s4:¬s=s+1+1+1+1:=by omega
 have s0:¬s=s+1+1+1+1+1:=by omega
 have s5:¬s+1=s+1+1:=by omega
 have s6:¬s+1=s+1+1+1:=by omega
 have s7:¬s+1=s+1+1+1+1:=by omega
 have h1:=h.new .box (.cells 0 true false [.ptr w 0]) (.inr (.inr (.inl rfl)));have h2:=h1.new .box (.cells 0 true false [.i .u16 y.code]) (.inr (.inr (.inl rfl)));have h3:=h2.new .box (.cells 0 true false [.ptr X 0]) (.inr (.inr (.inl rfl)));have h4:=h3.new .box (.cells 0 true false [o]) (.inr (.inr (.inl rfl)));have h5:=h4.new .no (.cells 0 true false [.i .i64 0]) (.inl rfl);have h6:=h5.chg (b:=s+1+1+1+1) .box (.cells 0 true false [.i .i64 (RV.length:Int)]) (.inr xa) (by omega) (.inr (.inr rfl));have h7:=h6.new .no (.cells 0 true false [.i .u16 y.code,.i .u32 y.k,.i .i64 0,.i .i64 0]) (.inl rfl);obtain⟨κ',s',tr',st',hw,hput⟩:=qtm hp h7 y (by rw[Tr.get_set,if_pos rfl];rfl) hm;have d0:∀{b},b<s'->¬b=s':=fun h e=>by omega
 obtain⟨bl',bt',cs',js',q1,q2,q3,q4,q5,q6,q7,q8,q9⟩:=hw.rows;have ne:∀{b c},κ' b≠κ' c->b≠c:=fun q e=>q (e ▸ rfl)
 have nn:∀a:Nat,¬s=s+a+1:=fun a h=>by omega
 have ke:∀c:Nat,c<5->kdS (kdS (kdS (kdS (kdS (kdS (kdS κ s .box) (s+1) .box) (s+1+1) .box) (s+1+1+1) .box) (s+1+1+1+1) .no) (s+1+1+1+1) .box) (s+1+1+1+1+1) .no (s+c) = .box:=by
  intro c hc;simp only[kdS];have:c=0∨c=1∨c=2∨c=3∨c=4:=by omega
  rcases this with rfl|rfl|rfl|rfl|rfl<;>simp[s0,s1,s2,s3,s4]
 have b0:=st'.box (s+0) (ke 0 (by omega));have b1:=st'.box (s+1) (ke 1 (by omega));have b2:=st'.box (s+2) (ke 2 (by omega));have b3:=st'.box (s+3) (ke 3 (by omega));have b4:=st'.box (s+4) (ke 4 (by omega));have g0:tr'.get s=some (.cells 0 true false [.ptr w 0]):=by rw[show s=s+0 from rfl,b0.2];simp[Tr.get_set,s0,s1,s2,s3,s4]
 have g1:tr'.get (s+1)=some (.cells 0 true false [.i .u16 y.code]):=by rw[b1.2];simp[Tr.get_set]
 have g2:tr'.get (s+2)=some (.cells 0 true false [.ptr X 0]):=by rw[b2.2];simp[Tr.get_set]
 have g3:tr'.get (s+3)=some (.cells 0 true false [o]):=by rw[b3.2];simp[Tr.get_set]
 have g4:tr'.get (s+4)=some (.cells 0 true false [.i .i64 (RV.length:Int)]):=by rw[b4.2];simp[Tr.get_set]
 have ws':w<s':=hw.dom w (by rw[q1];simp);have bs':bt'<s':=hw.dom bt' (by rw[q3];simp);have le':s+6<=s':=st'.le;have l0:¬s=s':=by omega
 have l1:¬w=s':=by omega
 have l2:¬bt'=s':=by omega
 have l3:¬w=s'+1:=by omega
 have l4:¬w=bt':=ne (by rw[q1,q3];simp);have l5:¬s=s'+1:=by omega
 have l6:¬s=bt':=ne (by rw[q3,show s=s+0 from rfl,b0.1];simp)
 have hr1:cs'.length+1<=qe:=by simp only[qe];simp at q8;omega
 have hr2:(cs'.length+1)*8<=qe:=by simp only[qe];simp at q8;omega
 have hw1:=hw.new .no (.cells 0 true false [.fn g [] [.ptr (s+1+1) 0,.ptr s 0,.ptr (s+1+1+1+1) 0,.ptr (s+1) 0,.ptr (s+1+1+1) 0]]) (.inl rfl)
 have bx:∀c v,c<5->κ' (s+c) = .box->tr'.get (s+c)=some (.cells 0 true false [v])->Bx (kdS κ' s' .no) (tr'.set s' (.cells 0 true false [.fn g [] [.ptr (s+1+1) 0,.ptr s 0,.ptr (s+1+1+1+1) 0,.ptr (s+1) 0,.ptr (s+1+1+1) 0]])) (s+c) v:=fun c v hc e1 e2=>by
  have:s+c≠s':=by omega
  exact⟨by rw[qw this];exact e1,by rw[Tr.get_set,if_neg this];exact e2⟩
 have lk:∀b F p,κ b = .lab F p->kdS κ' s' .no b = .lab F p:=fun b F p hb=>by
  have hbs:b<s:=h.dom b (by rw[hb];simp);rw[qw (by omega)];refine st'.lab b F p ?_;simp only[kdS];rw[if_neg (by omega),if_neg (by omega),if_neg (by omega),if_neg (by omega),if_neg (by omega),if_neg (by omega),if_neg (by omega)];exact hb
 have hj:JOk g w (kdS κ' s' .no) (tr'.set s' (.cells 0 true false [.fn g [] [.ptr (s+1+1) 0,.ptr s 0,.ptr (s+1+1+1+1) 0,.ptr (s+1) 0,.ptr (s+1+1+1) 0]])) (RV++[y]) RV.length (.fn g [] [.ptr (s+1+1) 0,.ptr s 0,.ptr (s+1+1+1+1) 0,.ptr (s+1) 0,.ptr (s+1+1+1) 0]):=by
  refine⟨s+0,s+1,s+2,s+3,s+4,X,p,o,y,rfl,by simp,bx 0 _ (by omega) b0.1 g0,bx 1 _ (by omega) b1.1 g1,bx 2 _ (by omega) b2.1 g2,bx 3 _ (by omega) b3.1 g3,bx 4 _ (by omega) b4.1 g4,lk _ _ _ hX,?_⟩
  rcases ho with ho|⟨h1,Y,p',h2,h3⟩
  ·exact .inl ho
  ·exact .inr ⟨h1,Y,p',h2,lk _ _ _ h3⟩
 obtain⟨e1,e2⟩:=hw1.add hj (by rw[Tr.get_set,if_neg l1];exact q4) (by rw[Tr.get_set,if_neg l2];exact q6);refine⟨_,_,_,?_,e1,fun k hk=>?_⟩
 rotate_left
 ·refine SC.mk hc (qp ?_);simp only[xw,vI,simprocAttr];simp +decide only[↓vS,vT,simprocAttr,o1,o2,o3,r4,w0,w1,w2,w3,w4,s1,s2,s3,s4,s5,s6,s7];refine hput _ ?_;simp +decide only[↓vS,vT,simprocAttr];refine qaB ?_;simp +decide only[↓vS,vT,simprocAttr,g0,q4,q6,l0,l1,l2,l3,l4,l5,l6,ws',bs',hr1,hr2,Nat.mul_one];exact hk
 refine Stp.trans (L:=[]) ?_ (st'.trans ((hw.stpNew .no _ (by simp)).trans e2));refine⟨by omega,fun b hb=>?_,fun b hb=>?_,fun b F p hb=>?_,fun b F hb=>.inl ?_⟩
 rotate_left 3
 ·simp only[kdS] at hb
  repeat' split at hb
  all_goals first|(cases hb;done)|exact hb
 all_goals have hbs:b<s:=h.dom b (by rw[hb];simp)
 ·simp only[kdS,Tr.get_set]
  iterate 7 rw[if_neg (by omega)]
  iterate 7 rw[if_neg (by omega)]
  exact⟨hb,rfl⟩
 ·simp only[kdS,Tr.get_set]
  iterate 7 rw[if_neg (by omega)]
  iterate 7 rw[if_neg (by omega)]
  exact⟨hb,rfl⟩
 ·simp only[kdS]
  iterate 7 rw[if_neg (by omega)]
  exact hb
theorem qiQ(hc:qd P f (xw gp g)=true)(hp:qd P gp qQ=true)(h:WI g w κ s tr RV N)(y:Sy){X:Nat}{p:Bool}{o:AV}(hX:κ X = .lab y.th p)
  (ho:(y.code=5∧o = .nilp∧y.el=0)∨(y.code≠5∧∃Y p',o = .ptr Y 0∧κ Y = .lab y.el p')) (hm:RV.length<=1000000)
  (hk:∀κ' s' tr',Stp [] κ s tr κ' s' tr'->WI g w κ' s' tr' (RV++[y]) N->k (.tup []) ⟨s',0,tr'⟩):SC P f [.ptr w 0,.i .u16 y.code,.i .u32 y.k,.ptr X 0,o] ⟨s,0,tr⟩ k:=by
 obtain⟨κ',s',tr',q1,q2,q3⟩:=quG hc hp h y hX ho hm;exact q3 k (hk κ' s' tr' q1 q2)
end
theorem qhj{α:Type}{f:α->List AV}{m:Nat}(h:∀x,(f x).length=m){xs:List α}{j:Nat}{x x':α}{i:Nat}{v:AV}(hx:xs[j]?=some x)(hi:i<m)(hf:f x'=(f x).take i++([v]++(f x).drop (i+1))) :
  (xs.flatMap f).take (j*m+i)++([v]++(xs.flatMap f).drop (j*m+i+1))=(xs.set j x').flatMap f:=by
 obtain⟨hj,hx⟩:=zzS.1 hx;have e:xs=xs.take j++x::xs.drop (j+1):=by rw[← hx,List.getElem_cons_drop,List.take_append_drop]
 have hl:(xs.take j).length=j:=by rw[List.length_take];omega
 have hA:((xs.take j).flatMap f).length=j*m:=by rw[qaX h,hl]
 have e1:xs.flatMap f=(xs.take j).flatMap f++(f x++(xs.drop (j+1)).flatMap f):=by
  conv=>lhs;rw[e]
  simp
 have e2:(xs.set j x').flatMap f=(xs.take j).flatMap f++(f x'++(xs.drop (j+1)).flatMap f):=by
  rw[List.set_eq_take_append_cons_drop,if_pos hj];simp
 rw[e1,e2,hf,← hA,List.take_length_add_append,show ((xs.take j).flatMap f).length+i+1=((xs.take j).flatMap f).length+(i+1) from rfl,List.drop_length_add_append]
 rw[List.take_append_of_le_length (by rw[h];omega),List.drop_append_of_le_length (by rw[h];omega)];simp
theorem qcA(s:Sy):(cSy s).length=4:=rfl
def qI:IFn:=⟨[],.seq (.reg true [.d 5 1,.q 6 (.nilChk (.t 5)),.f 7 0 6,.d 8 7,.d 9 2,.d 10 0,.q 11 (.nilChk (.t 10)),.f 12 0 11,.d 13 12,.i 14 4 8 9,.f 15 2 14,.u (.store 1 (.t 15) (.t 13))]) (.seq (.r [.d 16 3,.q 17 (.bin .neq (.t 16) (.c (.i .u16 5)))]) (.cond (.t 17) (.reg true [.d 18 1,.q 19 (.nilChk (.t 18)),.f 20 0 19,.d 21 20,.d 22 2,.d 23 4,.q 24 (.nilChk (.t 23)),.f 25 0 24,.d 26 25,.i 27 4 21 22,.f 28 3 27,.u (.store 1 (.t 28) (.t 26))]) (.skip)))⟩
theorem qoZ(hc:qd P f qI=true){s w bl j b5 b6 b8 b9 b10 X F:Nat}{L:List Sy}{z:Sy}{x o:AV}{c:Int}{e:Nat}{tr:Tr Blk}{k:AV->Hp->Prop}
  (hw:tr.get w=some (.cells 0 true false [.own bl L.length,x])) (hl:tr.get bl=some (.cells 4 true true (rSy L))) (hz:L[j]?=some z)
  (g5:tr.get b5=some (.cells 0 true false [.ptr w 0])) (g6:tr.get b6=some (.cells 0 true false [.i .u16 c])) (g8:tr.get b8=some (.cells 0 true false [.ptr X 0])) (g9:tr.get b9=some (.cells 0 true false [o])) (g10:tr.get b10=some (.cells 0 true false [.i .i64 (j:Int)]))
  (gX:tr.get X=some (.cells 0 true false [.i .i64 (F:Int)])) (hn:w≠bl∧b5≠bl∧b6≠bl∧b8≠bl∧b9≠bl∧b10≠bl∧X≠bl) (hd:bl<s)
  (ho:(c=5∧e=z.el)∨(c≠5∧∃Y,o = .ptr Y 0∧Y≠bl∧tr.get Y=some (.cells 0 true false [.i .i64 (e:Int)])))
  (hk:∀tr',(∀b,tr'.get b=if b=bl then some (.cells 4 true true (rSy (L.set j ⟨z.code,z.k,F,e⟩))) else tr.get b)->k (.tup []) ⟨s,0,tr'⟩) :
  SC P f [.ptr b8 0,.ptr b5 0,.ptr b10 0,.ptr b6 0,.ptr b9 0] ⟨s,0,tr⟩ k:=by
 obtain⟨n1,n2,n3,n4,n5,n6,n7⟩:=hn;have hj:j<L.length:=(zzS.1 hz).1;have hj4:j*4+2+1<=(rSy L).length:=by rw[qai];omega
 have h1:(rSy L).take (j*4+2) ++ .i .i64 (F:Int)::(rSy L).drop (j*4+2+1)=rSy (L.set j ⟨z.code,z.k,F,z.el⟩):=qhj qcA hz (by omega) rfl;have hz2:(L.set j ⟨z.code,z.k,F,z.el⟩)[j]?=some ⟨z.code,z.k,F,z.el⟩:=by simp[hj]
 have h2:(rSy (L.set j ⟨z.code,z.k,F,z.el⟩)).take (j*4+3) ++ .i .i64 (e:Int)::(rSy (L.set j ⟨z.code,z.k,F,z.el⟩)).drop (j*4+3+1)=rSy (L.set j ⟨z.code,z.k,F,e⟩):=by
  have:=qhj (x':=⟨z.code,z.k,F,e⟩) (v:=.i .i64 (e:Int)) (i:=3) qcA hz2 (by omega) rfl;rw[List.set_set] at this;exact this
 have hj5:j*4+3+1<=(rSy (L.set j ⟨z.code,z.k,F,z.el⟩)).length:=by rw[qai,List.length_set];omega
 refine SC.mk hc (qp ?_);simp only[qI,vI,simprocAttr];refine qaB ?_;simp +decide only[↓vS,vT,simprocAttr,g5,hw,g10,g8,gX,hl,n1,n2,n3,n4,n5,n6,n7,hj,hd,hj4,h1];rcases ho with⟨rfl,rfl⟩|⟨hc5,Y,rfl,nY,gY⟩
 ·simp +decide only[↓vS,vT,simprocAttr,g6];refine hk _ fun b=>?_
  rw[Tr.get_set]
 ·simp +decide only[↓vS,vT,simprocAttr,g6,hc5];refine qaB ?_;have n1':¬w=bl:=n1;simp +decide only[↓vS,vT,simprocAttr,g5,hw,g10,g9,gY,hl,n1,n2,n3,n4,n5,n6,n7,nY,hj,hd,hj5,List.length_set,h2];refine hk _ fun b=>?_
  simp only[Tr.get_set];split<;>rfl
def qS:IFn:=⟨[.tmp 2],.seq (.r [.m 2 .N]) (.seq (.seq (.r [.n 5 0,.q 6 (.nilChk (.t 5)),.f 7 1 6,.d 8 7,.e 9 8,.m 10 (.k 0)]) (.blk 0 (.loop (.seq (.r [.s 11 10 9]) (.seq (.cond (.t 11) (.skip) (.exit 0)) (.seq (.blk 1 (.seq (.r [.i 12 1 8 10,.d 13 12,.n 4 13]) (.r [.n 14 4,⟨(some 15),.callV (.t 14) [],none⟩]))) (.r [.a 16 10 1,.n 10 16]))))))) (.seq (.r [.n 17 0,.q 18 (.nilChk (.t 17)),.f 19 0 18,.d 20 19,.n 2 20]) (.ret)))⟩
def qdg(js:List Nat)(RV:List Sy):List Sy:=RV.mapIdx fun j y=>if j ∈ js then y else y.raw
theorem qnr{RV:List Sy}:qdg [] RV=RV.map Sy.raw:=by
 apply List.ext_getElem?;intro i;simp[qdg]
theorem qip{js:List Nat}{RV:List Sy}:(qdg js RV).length=RV.length:=by simp[qdg]
theorem qdh{js:List Nat}{RV:List Sy}{j:Nat}:(qdg js RV)[j]?=(RV[j]?).map fun y=>if j ∈ js then y else y.raw:=by simp[qdg]
theorem qk7{js:List Nat}{RV:List Sy}{j:Nat}{y:Sy}(hy:RV[j]?=some y):(qdg js RV).set j y=qdg (js++[j]) RV:=by
 have hj:j<RV.length:=(zzS.1 hy).1;apply List.ext_getElem?;intro i;rw[List.getElem?_set]
 by_cases e:j=i
 ·subst e;rw[if_pos rfl,if_pos (by rw[qip];exact hj),qdh,hy];simp
 ·rw[if_neg e,qdh,qdh]
  congr 1;funext y
  have:(i ∈ js++[j])↔i ∈ js:=by simp[Ne.symm e]
  simp[this]
theorem qnq{js:List Nat}{RV:List Sy}(h:∀(j:Nat) y,RV[j]?=some y->j ∉ js->y.raw=y):qdg js RV=RV:=by
 apply List.ext_getElem?;intro i;rw[qdh];cases hi:RV[i]? with
 | none=>rfl
 | some y =>
  by_cases e:i ∈ js
  ·simp[e]
  ·simp[e,h i y hi e]
theorem qdW.get{g w:Nat}{κ:Nat->Kd}{tr:Tr Blk}{RV:List Sy}:∀{js:List Nat} {cs:List AV},qdW g w κ tr RV js cs->∀{i:Nat} {c:AV},cs[i]?=some c->∃j,js[i]?=some j∧JOk g w κ tr RV j c
 | [],[],_,_,_,h=>by simp at h
 | j::js,c::cs,h,0,_,hi=>by simp at hi;subst hi;exact⟨j,rfl,h.1⟩
 | j::js,c::cs,h,i+1,_,hi=>by simpa using qdW.get h.2 (by simpa using hi)
 | [],_::_,h,_,_,_=>h.elim
 | _::_,[],h,_,_,_=>h.elim
theorem qdW.len{g w:Nat}{κ:Nat->Kd}{tr:Tr Blk}{RV:List Sy}:∀{js:List Nat} {cs:List AV},qdW g w κ tr RV js cs->js.length=cs.length
 | [],[],_=>rfl
 | _::_,_::_,h=>by simp[qdW.len h.2]
 | [],_::_,h=>h.elim
 | _::_,[],h=>h.elim
theorem quj{g w s:Nat}{κ:Nat->Kd}{tr:Tr Blk}{RV:List Sy}{k:AV->Hp->Prop}(hc:qd P f qS=true)(hg:qd P g qI=true)(h:WI g w κ s tr RV [])(hp:∀b F p,κ b = .lab F p->p=true)(hm:RV.length<=1000000)
  (hk:∀tr' b,tr'.get b=some (.cells 4 true true (rSy RV))->b<s->k (.own b RV.length) ⟨s,0,tr'⟩):SC P f [.ptr w 0] ⟨s,0,tr⟩ k:=by
 obtain⟨bl,bt,cs,js,r1,r2,r3,r4,r5,r6,r7,r8,r9⟩:=h.rows;have ne:∀{b c},κ b≠κ c->b≠c:=fun q e=>q (e ▸ rfl)
 have hjl:=r7.len;refine SC.mk hc (qp ?_);simp only[qS,vI,simprocAttr];simp +decide only[↓vS,vT,simprocAttr,r4];have wl:w≠bl:=ne (by rw[r1,r2];simp);have tl:bt≠bl:=ne (by rw[r3,r2];simp)
 refine SL.loopP (α:=Nat) (fun i=>[(0,.ptr w 0),(2,.nils),(8,.own bt cs.length),(9,.i .i64 (cs.length:Int)),(10,.i .i64 (i:Int))])
  (fun i h=>i<=cs.length∧∃tr',h=⟨s,0,tr'⟩∧∀b,tr'.get b=if b=bl then some (.cells 4 true true (rSy (qdg (js.take i) RV))) else tr.get b) (fun i=>cs.length-i) ?_ 0 ?_ ?_
 ·rintro i h1 ⟨hi,tr',rfl,hget⟩ G ih;simp only[vI,simprocAttr];have g4:tr'.get w=some (.cells 0 true false [.own bl RV.length,.own bt cs.length]):=by rw[hget,if_neg wl];exact r4
  have g5:tr'.get bl=some (.cells 4 true true (rSy (qdg (js.take i) RV))):=by rw[hget,if_pos rfl]
  have g6:tr'.get bt=some (.cells 1 true true cs):=by rw[hget,if_neg tl];exact r6
  by_cases hlt:i<cs.length
  ·obtain⟨j,hj,b5,b6,b8,b9,b10,X,p,o,y,h0,h1,h2,h3,h4,h5,h6,h7,h8⟩:=r7.get (zzE hlt);have hci:cs[i]?=some (.fn g [] [.ptr b8 0,.ptr b5 0,.ptr b10 0,.ptr b6 0,.ptr b9 0]):=by rw[zzE hlt,h0]
   have nb:∀{b v},Bx κ tr b v->b≠bl∧tr'.get b=some (.cells 0 true false [v]):=fun {b v} q=>by
    have e:b≠bl:=ne (by rw[q.1,r2];simp);exact⟨e,by rw[hget,if_neg e];exact q.2⟩
   have nl:∀{b F p},κ b = .lab F p->b≠bl∧tr'.get b=some (.cells 0 true false [.i .i64 (F:Int)]):=fun {b F p} q=>by
    have e:b≠bl:=ne (by rw[q,r2];simp);obtain⟨x,q1,q2⟩:=h.lab b F p q;exact⟨e,by rw[hget,if_neg e,q1,q2 (hp _ _ _ q)]⟩
   have hlt':(i:Int)<cs.length:=by omega
   have hw1:IntKind.wrap .i64 ((i:Int)+1)=((i+1:Nat):Int):=by rw[qv (by omega) (by omega)];simp
   simp +decide only[↓vS,vT,simprocAttr,hlt',hlt,g6,hci,Nat.mul_one];have hz:(qdg (js.take i) RV)[j]?=some (if j ∈ js.take i then y else y.raw):=by rw[qdh,h1];rfl
   refine qoZ (F:=y.th) (e:=y.el) (c:=y.code) (L:=qdg (js.take i) RV) hg (by rw[qip];exact g4) g5 hz (nb h2).2 (nb h3).2 (nb h4).2 (nb h5).2 (nb h6).2 (nl h7).2 ⟨wl,(nb h2).1,(nb h3).1,(nb h4).1,(nb h5).1,(nb h6).1,(nl h7).1⟩ (h.dom bl (by rw[r2];simp)) ?_ ?_
   ·rcases h8 with⟨h8,rfl,h9⟩|⟨h8,Y,p',rfl,h9⟩
    ·exact .inl ⟨h8,by split<;>simp[h9,Sy.raw]⟩
    ·exact .inr ⟨h8,Y,rfl,(nl h9).1,(nl h9).2⟩
   ·intro tr2 hget2;have ec:∀b:Bool,(⟨(if j ∈ js.take i then y else y.raw).code,(if j ∈ js.take i then y else y.raw).k,y.th,y.el⟩:Sy)=y:=fun _=>by split<;>rfl
    rw[ec true,qk7 h1] at hget2;simp +decide only[↓vS,vT,simprocAttr,hw1];refine ih (i+1) _ _ (by omega) ?_ ⟨by omega,tr2,rfl,fun b=>?_⟩
    ·simp[ql,qr,Tr.get_set]
    ·rw[hget2,hget];have:js.take (i+1)=js.take i++[j]:=by rw[List.take_add_one,hj];rfl
     rw[this];split<;>rfl
  ·obtain rfl:i=cs.length:=by omega
   have hlt':¬((cs.length:Int)<cs.length):=by omega
   simp +decide only[↓vS,vT,simprocAttr,hlt',g4];rw[show js.take cs.length=js from by rw[← hjl,List.take_length]] at g5
   rw[qnq fun j y hy hj=>r9 j y hy hj (by simp)] at g5
   exact hk _ _ g5 (h.dom bl (by rw[r2];simp))
 ·simp[ql,qr,Tr.get_set]
 ·refine⟨Nat.zero_le _,tr,rfl,fun b=>?_⟩
  simp only[List.take_zero,qnr];split
  ·rename_i e;rw[e];exact r5
  ·rfl
section
variable {g w s gl gp gj gh:Nat} {κ:Nat->Kd} {tr:Tr Blk} {RV:List Sy} {N:List Nat} {k:AV->Hp->Prop}
end
structure WFn (P:Program) (g gl gp gj gh gr:Nat):Prop where
 ld:qd P gl (qaA gp)=true
 put:qd P gp qQ=true
 jmp:qd P gj (xw gp g)=true
 here:qd P gh xv=true
 ret:qd P gr (qaO gp)=true
section
variable {g w s gl gp gj gh gr g1 g2 g3 g4 g5:Nat} {κ:Nat->Kd} {tr:Tr Blk} {RV:List Sy} {N:List Nat} {k:AV->Hp->Prop}
end
section
variable {g w s gl gp gj gh gr g1 g2 g3 g4 g5:Nat} {κ:Nat->Kd} {tr:Tr Blk} {RV:List Sy} {N:List Nat} {k:AV->Hp->Prop}
end
def qn8(P:Program)(f:Nat):Prop:=∀a:Int,0<=a->a<6->qg P f [.i .i64 a] (.tup [.i .u32 (qgf a),.i .i64 0])
section
variable {g w s gl gp gj gh gr g1 g2 g3 g4 g5:Nat} {κ:Nat->Kd} {tr:Tr Blk} {RV:List Sy} {N:List Nat} {k:AV->Hp->Prop}
end
section
variable {g w s gl gp gj gh gr g1 g2 g3 g4 g5:Nat} {κ:Nat->Kd} {tr:Tr Blk} {RV:List Sy} {N:List Nat} {k:AV->Hp->Prop}
theorem Stp.nil{L:List Nat}{κ1:Nat->Kd}{s1:Nat}{t1:Tr Blk}(h:Stp L κ s tr κ1 s1 t1)(hL:∀c,c ∉ L):Stp [] κ s tr κ1 s1 t1 :=
 { h with nw:=fun b F hb=>(h.nw b F hb).imp id fun q=>absurd q (hL b) }
theorem qce{α:Type}{l:List α}{j:Nat}{x:α}(h:l[j]?=some x):l.take (j+1)=l.take j++[x]:=by rw[List.take_add_one,h];rfl
end
structure Sp where
 fr:Int
 to:Int
 way:Nat


structure FilR (x:GFil):Prop where
 nr:∀r ∈ x.rules,0<=r.nr∧r.nr<4294967296
 ts:∀r ∈ x.rules,∀t ∈ r.tests,0<=t.mask∧t.mask<18446744073709551616∧0<=t.val∧t.val<18446744073709551616
theorem Stp.kd'{L L':List Nat}{κ κ1:Nat->Kd}{s s1:Nat}{tr t1 t2:Tr Blk}(a:Stp L κ s tr κ1 s1 t1){b F':Nat}(hb:κ b = .no)(hf:∀c,κ1 c = .fr->t2.get c=t1.get c)(hx:∀c,κ1 c = .box->t2.get c=t1.get c)(hL:∀c ∈ L,c=b∨c ∈ L'):Stp L' κ s tr (kdS κ1 b (.lab F' true)) s1 t2:=by
 have ne:∀{c},κ c≠.no->c≠b:=fun h e=>h (e ▸ hb)
 refine⟨a.le,fun c hc=>?_,fun c hc=>?_,fun c F p hc=>?_,fun c F hc=>?_⟩
 ·rw[qw (ne (by rw[hc];simp))];exact⟨(a.fr c hc).1,(hf c (a.fr c hc).1).trans (a.fr c hc).2⟩
 ·rw[qw (ne (by rw[hc];simp))];exact⟨(a.box c hc).1,(hx c (a.box c hc).1).trans (a.box c hc).2⟩
 ·rw[qw (ne (by rw[hc];simp))];exact a.lab c F p hc
 ·by_cases e:c=b
  ·rw[e,xa] at hc;cases hc
  ·rw[qw e] at hc;rcases a.nw c F hc with h|h
   ·exact .inl h
   ·exact .inr ((hL c h).resolve_left e)
section
variable {g w s gl gp gj gh gr g1 g2 g3 g4 g5:Nat} {κ:Nat->Kd} {tr:Tr Blk} {RV:List Sy} {N:List Nat} {k:AV->Hp->Prop}
variable {go gb gR gd gt gH gA gB gC gD gM gS gT:Nat}
end
theorem qp3{A:List AV}{n i:Nat}{v z:AV}(hA:A.length=n)(hv:A[i]?=some v):(A.take i++List.replicate (n-i) z).take i++v::(A.take i++List.replicate (n-i) z).drop (i+1)=A.take (i+1)++List.replicate (n-(i+1)) z:=by
 have hi:i<n:=by rw[← hA];exact (zzS.1 hv).1
 have hl:(A.take i).length=i:=by rw[List.length_take];omega
 rw[List.take_left' hl]
 have:(A.take i++List.replicate (n-i) z).drop (i+1)=List.replicate (n-(i+1)) z:=by
  have e:i+1=(A.take i).length+1:=by rw[hl]
  rw[e,List.drop_length_add_append,List.drop_replicate,hl];congr 1
 rw[this,qce hv];simp
section
variable {g w s gl gp gj gh gr g1 g2 g3 g4 g5:Nat} {κ:Nat->Kd} {tr:Tr Blk} {RV:List Sy} {N:List Nat} {k:AV->Hp->Prop} {go gb gR gd gt gH gA gB gC gD gM gS gT:Nat}
end
def qcz(c:Int):Prop:=c=21∨c=37∨c=53∨c=69
def qde(s:Sy)(j n:Nat):Prop :=
 (s.code=32∧s.th=0∧s.el=0∧s.k % 4=0∧0<=s.k∧s.k<64)∨((s.code=84∨s.code=6)∧s.th=0∧s.el=0)∨(s.code=5∧s.k=0∧s.el=0∧j<s.th∧s.th<n)∨(qcz s.code∧j<s.th∧s.th<n∧j<s.el∧s.el<n)
structure MayL (l:List Sy):Prop where
 pos:0<l.length
 big:l.length<=131072
 last:∃s,l[l.length-1]?=some s∧s.code=6
 all:∀(j:Nat) s,l[j]?=some s->qde s j l.length
theorem qK{l:List Sy}:qF (rSy l)=true:=qfY fun _=>rfl
theorem qpX{l:List Sy}:qB (rSy l)=true:=qkP fun _=>rfl
theorem qdk{T:List Sy}{j:Nat}{x:Sy}(h:T[j]?=some x):((rSy T).drop (j*4)).take 4=cSy x:=qaW qcA h
theorem qfK{T:List Sy}{j:Nat}{x:Sy}(h:T[j]?=some x){i:Nat}(hi:i<4):(rSy T)[j*4+i]?=(cSy x)[i]?:=xN qcA h hi
def qdc:IFn:=⟨[.tmp 4],.seq (.r [.m 4 .F]) (.seq (.r [.n 5 0,.d 6 1,.b 7 .gtr 5 6,.n 8 7,.y 9 0 8,.j 10 2 8 true,.g 11 (.bin .lss (.t 9) (.t 10)) 8 true,.p 12 8 11,.n 4 12]) (.ret))⟩
theorem qwd(hc:qd P f qdc=true)(x j n:Nat)(h1:j<x)(h2:x<n):qg P f [.i .i64 (x:Int),.pf [.i .i64 (j:Int)] 0,.pf [.i .i64 (n:Int)] 0] (.b true):=by
 refine qg.mk hc rfl ?_;have h1':(j:Int)<x:=by omega
 have h2':(x:Int)<n:=by omega
 simp only[qdc,vI,simprocAttr];simp +decide only[↓vS,vT,simprocAttr,h1',h2'];simp[vZ]
def qfv:IFn:=⟨[.tmp 2],.seq (.r [.m 2 .F]) (.seq (.r [.n 3 0,.q 4 (.bin .eql (.t 3) (.c (.i .u16 21))),.n 5 4,.z 6 0 5,.g 7 (.bin .eql (.t 6) (.c (.i .u16 37))) 5 false,.o 8 5 7,.n 9 8,.z 10 0 9,.g 11 (.bin .eql (.t 10) (.c (.i .u16 53))) 9 false,.o 12 9 11,.n 13 12,.z 14 0 13,.g 15 (.bin .eql (.t 14) (.c (.i .u16 69))) 13 false,.o 16 13 15,.n 2 16]) (.ret))⟩
theorem qwr(hc:qd P f qfv=true)(c:Int)(h:qcz c):qg P f [.i .u16 c] (.b true):=by
 refine qg.mk hc rfl ?_;simp only[qfv,vI,simprocAttr];rcases h with rfl|rfl|rfl|rfl
 all_goals
  simp +decide only[↓vS,vT,simprocAttr];simp[vZ]
def qd7(a b c:Nat):IFn:=⟨[.tmp 6],.seq (.r [.q 3 (.box (.t 0)),.q 4 (.box (.t 1)),.q 5 (.box (.t 2)),.m 6 .F]) (.seq (.r [.q 11 (.mkF a [] [.t 4,.t 5]),.n 7 11]) (.seq (.r [.f 12 2 3,.d 13 12,.w 14 .eql 13 0,.n 15 14,.h 16 3 3 15 true,.j 17 16 15 true,.g 18 (.bin .eql (.t 17) (.k 0)) 15 true,.p 19 15 18,.n 8 19]) (.seq (.blk 0 (.seq (.r [.f 21 0 3,.d 22 21,.q 23 (.bin .eql (.t 22) (.c (.i .u16 32))),.n 20 23]) (.cond (.t 20) (.seq (.r [.q 25 (.build [.i .u32 0,.i .u32 0,.i .u64 0,.i .u64 0,.i .u64 0,.i .u64 0,.i .u64 0,.i .u64 0,.i .u64 0] []),.f 26 1 3,.d 27 26,.l 28 b [.t 25,.t 27],.n 24 28,.x 29 24 0,.x 30 24 1,.n 9 29,.n 10 30]) (.seq (.r [.n 31 8,.n 32 31,.y 33 10 32,.g 34 (.bin .eql (.t 33) (.k 0)) 32 true,.p 35 32 34,.n 6 35]) (.ret))) (.seq (.r [.f 37 0 3,.d 38 37,.q 39 (.bin .eql (.t 38) (.c (.i .u16 84))),.n 40 39,.h 41 0 3 40 false,.j 42 41 40 false,.g 43 (.bin .eql (.t 42) (.c (.i .u16 6))) 40 false,.o 44 40 43,.n 36 44]) (.cond (.t 36) (.seq (.r [.n 45 8,.n 6 45]) (.ret)) (.seq (.r [.f 47 0 3,.d 48 47,.q 49 (.bin .eql (.t 48) (.c (.i .u16 5))),.n 46 49]) (.cond (.t 46) (.seq (.r [.f 50 1 3,.d 51 50,.q 52 (.bin .eql (.t 51) (.c (.i .u32 0))),.n 53 52,.h 54 3 3 53 true,.j 55 54 53 true,.g 56 (.bin .eql (.t 55) (.k 0)) 53 true,.p 57 53 56,.n 58 57,.y 59 7 58,.h 60 2 3 58 true,.j 61 60 58 true,⟨(some 62),.callV (.t 59) [.t 61],(some (58,true))⟩,.p 63 58 62,.n 6 63]) (.ret)) (.skip)))))))) (.seq (.r [.f 64 0 3,.d 65 64,.l 66 c [.t 65],.n 67 66,.y 68 7 67,.h 69 2 3 67 true,.j 70 69 67 true,⟨(some 71),.callV (.t 68) [.t 70],(some (67,true))⟩,.p 72 67 71,.n 73 72,.y 74 7 73,.h 75 3 3 73 true,.j 76 75 73 true,⟨(some 77),.callV (.t 74) [.t 76],(some (73,true))⟩,.p 78 73 77,.n 6 78]) (.ret)))))⟩
theorem qwS{g1 g2 g3:Nat}(hc:qd P f (qd7 g1 g2 g3)=true)(h1:∀x j n:Nat,j<x->x<n->qg P g1 [.i .i64 (x:Int),.pf [.i .i64 (j:Int)] 0,.pf [.i .i64 (n:Int)] 0] (.b true))(h2:qn9 P g2)(h3:∀c,qcz c->qg P g3 [.i .u16 c] (.b true))(s:Sy)(j n:Nat)(hs:qde s j n)(hn:n<=1000000)(hj:j<n) :
  qg P f [.agg (cSy s),.i .i64 (j:Int),.i .i64 (n:Int)] (.b true):=by
 refine qg.mk hc rfl ?_;simp only[qd7,cSy,vI,simprocAttr];obtain⟨code,sk,th,el⟩:=s;simp only[qde] at hs;rcases hs with⟨rfl,rfl,rfl,k4,k0,k64⟩|⟨hcd,rfl,rfl⟩|⟨rfl,rfl,rfl,j1,j2⟩|⟨hcd,j1,j2,j3,j4⟩
 ·have hw:=h2 ⟨0,0,0,0,0,0,0,0,0⟩ (by constructor<;>decide) sk k0 (by omega);have e:qgC ⟨0,0,0,0,0,0,0,0,0⟩ sk = .tup [.i .u32 ((xi ⟨0,0,0,0,0,0,0,0,0⟩).getD (sk / 4).toNat 0),.i .i64 0]:=by unfold qgC;rw[if_neg (by omega)]
  rw[e] at hw;simp only[qL] at hw;have z0:((0:Nat):Int)=0:=rfl;simp +decide only[↓vS,vT,simprocAttr,z0];refine hw.sc ?_;simp +decide only[↓vS,vT,simprocAttr];simp[vZ]
 ·have z0:((0:Nat):Int)=0:=rfl;rcases hcd with rfl|rfl
  ·simp +decide only[↓vS,vT,simprocAttr,z0];simp[vZ]
  ·simp +decide only[↓vS,vT,simprocAttr,z0];simp[vZ]
 ·have z0:((0:Nat):Int)=0:=rfl;have t0:¬(th:Int)=0:=by omega
  have t1:j<th:=j1;simp +decide only[↓vS,vT,simprocAttr,z0,t0];refine (h1 th j n j1 j2).lend (by simp[vZ,vP,Tr.get_set]) rfl ?_;simp +decide only[↓vS,vT,simprocAttr];simp[vZ]
 ·have t0:¬(th:Int)=0:=by omega
  have ha:=h3 code hcd;have n1:¬code=32:=by rcases hcd with h|h|h|h<;>omega
  have n2:¬code=84:=by rcases hcd with h|h|h|h<;>omega
  have n3:¬code=6:=by rcases hcd with h|h|h|h<;>omega
  have n4:¬code=5:=by rcases hcd with h|h|h|h<;>omega
  simp +decide only[↓vS,vT,simprocAttr,t0,n1,n2,n3,n4];refine ha.sc ?_;simp +decide only[↓vS,vT,simprocAttr];refine (h1 th j n j1 j2).lend (by simp[vZ,vP,Tr.get_set]) rfl ?_;simp +decide only[↓vS,vT,simprocAttr];refine (h1 el j n j3 j4).lend (by simp[vZ,vP,Tr.get_set]) rfl ?_;simp +decide only[↓vS,vT,simprocAttr];simp[vZ]
def qgr(a:Nat):IFn:=⟨[.tmp 2],.seq (.r [.m 2 .F]) (.seq (.seq (.r [.n 5 0,.e 6 5,.w 7 .lss 6 1,.n 8 7,.z 9 0 8,.g 10 (.len false (.t 9)) 8 false,.g 11 (.bin .gtr (.t 10) (.k 131072)) 8 false,.o 12 8 11,.n 13 12,.z 14 0 13,.z 15 0 13,.g 16 (.len false (.t 15)) 13 false,.g 17 (.bin .sub (.t 16) (.k 1)) 13 false,.g 18 (.iAddrS 4 (.t 14) (.t 17)) 13 false,.h 19 0 18 13 false,.j 20 19 13 false,.g 21 (.bin .neq (.t 20) (.c (.i .u16 6))) 13 false,.o 22 13 21]) (.cond (.t 22) (.seq (.r [.m 2 .F]) (.ret)) (.skip))) (.seq (.seq (.r [.n 23 0,.e 24 23,.m 25 (.k 0)]) (.blk 0 (.loop (.seq (.r [.s 26 25 24]) (.seq (.cond (.t 26) (.skip) (.exit 0)) (.seq (.blk 1 (.seq (.r [.n 27 25,.i 28 4 23 25,.v 29 4 28,.q 4 (.alloc [.i .u16 0,.i .u32 0,.i .i64 0,.i .i64 0]),.n 3 27,.u (.store 4 (.t 4) (.t 29))]) (.seq (.r [.v 30 4 4,.n 31 3,.n 32 0,.e 33 32,.l 34 a [.t 30,.t 31,.t 33],.q 35 (.un .not (.t 34))]) (.cond (.t 35) (.seq (.r [.m 2 .F]) (.ret)) (.skip))))) (.r [.a 36 25 1,.n 25 36]))))))) (.seq (.r [.m 2 .T]) (.ret))))⟩
theorem qza{g:Nat}(hc:qd P f (qgr g)=true)(hg:∀(s:Sy) (j n:Nat),qde s j n->n<=1000000->j<n->qg P g [.agg (cSy s),.i .i64 (j:Int),.i .i64 (n:Int)] (.b true))(l:List Sy)(hl:MayL l):qg P f [.fz l.length (rSy l)] (.b true):=by
 refine qg.mk hc (by simp[qF,clo,qK]) ?_;obtain⟨z,hz,hz6⟩:=hl.last;have p1:=hl.pos;have p2:=hl.big;have n1:¬(l.length:Int)<1:=by omega
 have n2:¬131072<(l.length:Int):=by omega
 have e1:IntKind.wrap .i64 ((l.length:Int)-1)=((l.length-1:Nat):Int):=by rw[qv (by omega) (by omega)];omega
 have hlt:l.length-1<l.length:=by omega
 have gz:=qfK hz (i:=0) (by omega);have gz':(rSy l)[(l.length-1)*4]?=some (.i .u16 6):=by rw[← hz6];exact gz
 simp only[qgr,vI,simprocAttr];simp +decide only[↓vS,vT,simprocAttr,n1,n2,e1,hlt,gz'];refine SL.loopP (α:=Nat) (fun i=>[(0,.fz l.length (rSy l)),(23,.fz l.length (rSy l)),(24,.i .i64 (l.length:Int)),(25,.i .i64 (i:Int))]) (fun i h=>i<=l.length∧h.fl=0) (fun i=>l.length-i) ?_ 0 ?_ ?_
 ·rintro i ⟨s,fl,tr⟩ ⟨hi,rfl⟩ G ih;simp only[vI,simprocAttr]
  by_cases hi':i<l.length
  ·have hlt':(i:Int)<l.length:=by omega
   obtain⟨x,hx⟩:∃x,l[i]?=some x:=⟨_,zzE hi'⟩;have hel:=qdk hx;have h4:i*4+4<=(rSy l).length:=by rw[qai];omega
   have hw1:IntKind.wrap .i64 ((i:Int)+1)=((i+1:Nat):Int):=by rw[qv (by omega) (by omega)];simp
   have hp:=hg x i l.length (hl.all i x hx) (by omega) hi';simp only[cSy] at hp;simp +decide only[↓vS,vT,simprocAttr,hlt',hi',h4,hel,cSy];refine hp.sc ?_;simp +decide only[↓vS,vT,simprocAttr,hw1];exact ih (i+1) _ _ (by omega) (by simp[ql,qr,Tr.get_set]) ⟨by omega,rfl⟩
  ·obtain rfl:i=l.length:=by omega
   have hlt':¬((l.length:Int)<l.length):=by omega
   simp +decide only[↓vS,vT,simprocAttr,hlt'];simp[vZ]
 ·simp[ql,qr,Tr.get_set]
 ·exact⟨Nat.zero_le _,rfl⟩
def qX:IFn:=⟨[.tmp 2],.seq (.r [.m 2 .N]) (.seq (.seq (.r [.n 3 0,.q 4 (.eqN false .slice (.t 3))]) (.cond (.t 4) (.seq (.r [.m 2 .N]) (.ret)) (.skip))) (.seq (.r [.q 5 (.buildS 0 [.i .u16 0,.i .u32 0,.i .i64 0,.i .i64 0] []),.n 6 0,.q 7 (.app 4 24 true (.t 5) (.t 6)),.n 2 7]) (.ret)))⟩
theorem qwv(hc:qd P f qX=true):qdt P f 4 24:=by
 intro n rows hlen hcl hok hr1 hr2;refine Own.of_SC (by simp[qF,clo]) ?_;cases n with
 | zero =>
  obtain rfl:rows=[]:=by cases rows with|nil=>rfl|cons=>simp at hlen
  refine SC.nil0 (SC.mk hc (qp ?_)) (SC.mk hc (qp ?_))
  ·simp only[qX,vI,simprocAttr];simp only[↓vS,vT,simprocAttr];intro _;refine⟨[1],?_⟩;simp[vw]
  ·simp only[qX,vI,simprocAttr];simp only[↓vS,vT,simprocAttr,if_true];intro _;refine⟨[1],?_⟩;simp[vw]
 | succ n =>
  refine SC.mk hc (qp ?_);simp only[qX,vI,simprocAttr];have h1:1<=n+1:=by omega
  have h2:(n+1)*4<=rows.length:=by omega
  have h3:rows.take ((n+1)*4)=rows:=List.take_of_length_le (by omega);have h4:¬(n+1<=0):=by omega
  simp only[↓vS,vT,simprocAttr,h1,h2,h3,h4,hr1,hr2,hok,Nat.mul_one,Nat.zero_mul];intro _;refine⟨[1],?_⟩;simp[vw,qb,hcl]
def qa7(s:Sy):Prop:=qh s.code=4
def qbZ(s:Sy):Prop:=qh s.code=4∧s.code≠5
instance (s:Sy):Decidable (qa7 s):=by unfold qa7;infer_instance
instance (s:Sy):Decidable (qbZ s):=by unfold qbZ;infer_instance
def qgs(a:Nat):IFn:=⟨[.tmp 2],.seq (.r [.q 1 (.box (.t 0)),.m 2 .F]) (.seq (.r [.f 3 0 1,.d 4 3,.l 5 a [.t 4],.q 6 (.bin .eql (.t 5) (.c (.i .u8 4))),.n 7 6,.h 8 0 1 7 true,.j 9 8 7 true,.g 10 (.bin .neq (.t 9) (.c (.i .u16 5))) 7 true,.p 11 7 10,.n 2 11]) (.ret))⟩
def qd1(P:Program)(f:Nat):Prop:=∀s:Sy,qg P f [.agg (cSy s)] (.b (decide (qbZ s)))
theorem qyL{g:Nat}(hc:qd P f (qgs g)=true)(hg:cOf P g):qd1 P f:=by
 intro s;refine qg.mk hc rfl ?_;simp only[qgs,cSy,vI,simprocAttr];simp +decide only[↓vS,vT,simprocAttr];refine (hg s.code).sc ?_
 by_cases h1:qh s.code=4
 ·by_cases h2:s.code=5
  ·simp +decide only[↓vS,vT,simprocAttr,h1,h2];simp[vZ,qbZ,h2]
  ·simp +decide only[↓vS,vT,simprocAttr,h1,h2];simp[vZ,qbZ,h1,h2]
 ·simp +decide only[↓vS,vT,simprocAttr,h1];simp[vZ,qbZ,h1]
def qaR(to:Nat->Nat)(s:Sy):Sy:=⟨s.code,s.k,if qa7 s then to s.th else s.th,if qbZ s then to s.el else s.el⟩
theorem qsC{α:Type}{A B:List α}{x y:α}:(A++x::B).set A.length y=A++y::B:=by
 rw[List.set_append];simp
def xn(a b c:Nat):IFn:=⟨[.tmp 4],.seq (.r [.m 4 .N]) (.seq (.r [.n 8 0,.l 9 a [.t 8],.n 5 9]) (.seq (.seq (.r [.n 10 5,.e 11 10,.m 12 (.k 0)]) (.blk 0 (.loop (.seq (.r [.s 13 12 11]) (.seq (.cond (.t 13) (.skip) (.exit 0)) (.seq (.blk 1 (.seq (.r [.n 14 12,.i 15 4 10 12,.v 16 4 15,.q 7 (.alloc [.i .u16 0,.i .u32 0,.i .i64 0,.i .i64 0]),.n 6 14,.u (.store 4 (.t 7) (.t 16))]) (.seq (.seq (.r [.f 17 0 7,.d 18 17,.l 19 b [.t 18],.q 20 (.bin .eql (.t 19) (.c (.i .u8 4)))]) (.cond (.t 20) (.r [.n 21 5,.n 22 6,.n 23 1,.f 24 2 7,.d 25 24,⟨(some 26),.callV (.t 23) [.t 25],none⟩,.i 27 4 21 22,.f 28 2 27,.u (.store 1 (.t 28) (.t 26))]) (.skip))) (.seq (.r [.v 29 4 7,.l 30 c [.t 29]]) (.cond (.t 30) (.r [.n 31 5,.n 32 6,.n 33 1,.f 34 3 7,.d 35 34,⟨(some 36),.callV (.t 33) [.t 35],none⟩,.i 37 4 31 32,.f 38 3 37,.u (.store 1 (.t 38) (.t 36))]) (.skip)))))) (.r [.a 39 12 1,.n 12 39]))))))) (.seq (.r [.n 40 5,.n 4 40]) (.ret))))⟩
theorem qhy{g1 g2 g3 gt s fl:Nat}{tr:Tr Blk}{caps:List AV}{k:AV->Hp->Prop}(hc:qd P f (xn g1 g2 g3)=true)(h1:qdt P g1 4 24)(h2:cOf P g2)(h3:qd1 P g3)(l:List Sy)(hl:l.length<=200000)(hfl:fl<=s)(to:Nat->Nat)
  (hto:∀x ∈ l,∀j:Nat,(qa7 x∧j=x.th)∨(qbZ x∧j=x.el)->∀(s':Nat) (tr':Tr Blk) (k':AV->Hp->Prop),s<=s'->(∀b,b<s->tr'.get b=tr.get b)->k' (.i .i64 ((to j:Nat):Int)) ⟨s',fl,tr'⟩->SC P gt (.i .i64 (j:Int)::caps) ⟨s',fl,tr'⟩ k')
  (hk:∀s' tr' b,s<=s'->(∀c,c<s->tr'.get c=tr.get c)->s<=b->b<s'->tr'.get b=some (.cells 4 true true (rSy (l.map (qaR to))))->k (.own b l.length) ⟨s',fl,tr'⟩):SC P f [.fz l.length (rSy l),.fn gt [] caps] ⟨s,fl,tr⟩ k:=by
 refine SC.mk hc (qp ?_);simp only[xn,vI,simprocAttr];simp +decide only[↓vS,vT,simprocAttr];refine (h1 l.length (rSy l) qai qK qpX (by simp only[qe];omega) (by simp only[qe];omega)).sc ?_;simp only[vJ,simprocAttr];simp +decide only[↓vS,vT,simprocAttr,xd qK]
 refine SL.loopP (α:=Nat) (fun i=>[(1,.fn gt [] caps),(5,.own s l.length),(10,.own s l.length),(11,.i .i64 (l.length:Int)),(12,.i .i64 (i:Int))])
  (fun i h=>i<=l.length∧∃s' tr',h=⟨s',fl,tr'⟩∧s<s'∧(∀b,b<s->tr'.get b=tr.get b)∧tr'.get s=some (.cells 4 true true (rSy ((l.take i).map (qaR to)++l.drop i)))) (fun i=>l.length-i) ?_ 0 ?_ ?_
 ·rintro i h1 ⟨hi,s',tr',rfl,hs,hold,hrow⟩ G ih;simp only[vI,simprocAttr]
  by_cases hlt:i<l.length
  ·have hlt':(i:Int)<l.length:=by omega
   obtain⟨x,hx⟩:∃x,l[i]?=some x:=⟨_,zzE hlt⟩;have hxm:=zzM hx;have hd:l.drop i=x::l.drop (i+1):=by rw[← (zzS.1 hx).2,List.getElem_cons_drop]
   have hAl:((l.take i).map (qaR to)).length=i:=by simp;omega
   rw[hd] at hrow;obtain⟨A,hA⟩:∃A,A=(l.take i).map (qaR to):=⟨_,rfl⟩;obtain⟨B,hB⟩:∃B,B=l.drop (i+1):=⟨_,rfl⟩;rw[← hA,← hB] at hrow;rw[← hA] at hAl;have hrl:(A++x::B).length=l.length:=by rw[List.length_append,hAl,hB];simp;omega
   have hget:(A++x::B)[i]?=some x:=by rw[← hAl];simp
   have hel:=qdk hget;have h4:i*4+4<=(rSy (A++x::B)).length:=by rw[qai,hrl];omega
   have hw1:IntKind.wrap .i64 ((i:Int)+1)=((i+1:Nat):Int):=by rw[qv (by omega) (by omega)];simp
   have n1:¬s=s':=by omega
   have n2:¬s'=s:=by omega
   have hf2:fl<=s':=by omega
   have hset:∀(y y':Sy) (j:Nat) (v:AV),j<4->cSy y'=(cSy y).take j++([v]++(cSy y).drop (j+1))->(rSy (A++y::B)).take (i*4+j)++v::(rSy (A++y::B)).drop (i*4+j+1)=rSy (A++y'::B):=fun y y' j v hj he=>by
    have:=qhj (f:=cSy) (v:=v) (xs:=A++y::B) (j:=i) qcA (by rw[← hAl];simp) hj he;rw[show (A++y::B).set i y'=A++y'::B by rw[← hAl];exact qsC] at this
    exact this
   have hlen:∀y,(rSy (A++y::B)).length=l.length*4:=fun y=>by rw[qai];simp at hrl ⊢;omega
   have b3:∀y,i*4+2+1<=(rSy (A++y::B)).length:=fun y=>by rw[hlen];omega
   have b4:∀y,i*4+3+1<=(rSy (A++y::B)).length:=fun y=>by rw[hlen];omega
   have fin:∀(s2:Nat) (t2:Tr Blk),s<s2->(∀b,b<s->t2.get b=tr.get b)->t2.get s=some (.cells 4 true true (rSy (A++qaR to x::B)))->∀tt,Has tt [(1,.fn gt [] caps),(5,.own s l.length),(10,.own s l.length),(11,.i .i64 (l.length:Int)),(12,.i .i64 ((i+1:Nat):Int))]->G tt ⟨s2,fl,t2⟩:=fun s2 t2 q1 q2 q3 tt htt=>by
    refine ih (i+1) _ _ (by omega) htt ⟨by omega,s2,t2,rfl,q1,q2,?_⟩
    rw[q3,qce hx,List.map_append,← hA,← hB];simp
   have ho:=fun b (hb:b<s)=>hold b hb
   have old:∀(y:Blk) b,b<s->((tr'.set s' (.cells 0 true false [.i .u16 0,.i .u32 0,.i .i64 0,.i .i64 0])).set s' y).get b=tr.get b:=fun y b hb=>by
    rw[Tr.get_set,if_neg (by omega),Tr.get_set,if_neg (by omega)];exact hold b hb
   simp +decide only[↓vS,vT,simprocAttr,hlt',hlt,hrow,h4,hel,cSy,n1,n2,hf2];refine (h2 x.code).sc ?_;have ha:=h3 x;simp only[cSy] at ha
   by_cases hj:qh x.code=4
   ·simp +decide only[↓vS,vT,simprocAttr,hj,n1,n2];refine hto x hxm x.th (.inl ⟨hj,rfl⟩) _ _ _ (by omega) (fun b hb=>old _ b hb) ?_
    have e1:=hset x ⟨x.code,x.k,to x.th,x.el⟩ 2 (.i .i64 ((to x.th:Nat):Int)) (by omega) rfl;have hs2:s<=s:=Nat.le_refl _;simp +decide only[↓vS,vT,simprocAttr,hrow,n1,n2,hlt,b3,hfl,e1];refine ha.sc ?_
    by_cases hk5:x.code=5
    ·have hna:¬qbZ x:=fun h=>h.2 hk5
     simp +decide only[↓vS,vT,simprocAttr,hna,hw1];refine fin _ _ (by omega) (fun b hb=>?_) ?_ _ (by simp[ql,qr,Tr.get_set])
     ·rw[Tr.get_set,if_neg (by omega)];exact old _ b hb
     ·have e:qaR to x=⟨x.code,x.k,to x.th,x.el⟩:=by unfold qaR;rw[if_pos (show qa7 x from hj),if_neg hna]
      rw[Tr.get_set,if_pos rfl,e]
    ·have hya:qbZ x:=⟨hj,hk5⟩;simp +decide only[↓vS,vT,simprocAttr,hya,n1,n2];refine hto x hxm x.el (.inr ⟨hya,rfl⟩) _ _ _ (by omega) (fun b hb=>by rw[Tr.get_set,if_neg (by omega)];exact old _ b hb) ?_
     have e2:=hset ⟨x.code,x.k,to x.th,x.el⟩ ⟨x.code,x.k,to x.th,to x.el⟩ 3 (.i .i64 ((to x.el:Nat):Int)) (by omega) rfl;simp +decide only[↓vS,vT,simprocAttr,hrow,n1,n2,hlt,b4,hfl,e2,hw1];refine fin _ _ (by omega) (fun b hb=>?_) ?_ _ (by simp[ql,qr,Tr.get_set])
     ·rw[Tr.get_set,if_neg (by omega),Tr.get_set,if_neg (by omega)];exact old _ b hb
     ·rw[Tr.get_set,if_pos rfl];simp[qaR,qa7,qbZ,hj,hk5]
   ·have hna:¬qbZ x:=fun h=>hj h.1
    simp +decide only[↓vS,vT,simprocAttr,hj,n1,n2];refine ha.sc ?_;simp +decide only[↓vS,vT,simprocAttr,hna,hw1];refine fin _ _ (by omega) (fun b hb=>old _ b hb) ?_ _ (by simp[ql,qr,Tr.get_set])
    rw[Tr.get_set,if_neg n1,Tr.get_set,if_neg n1,hrow];simp[qaR,qa7,qbZ,hj]
  ·obtain rfl:i=l.length:=by omega
   have hlt':¬((l.length:Int)<l.length):=by omega
   simp +decide only[↓vS,vT,simprocAttr,hlt'];rw[List.take_length,List.drop_length,List.append_nil] at hrow;exact hk _ _ s (by omega) hold (Nat.le_refl _) hs hrow
 ·simp[ql,qr,Tr.get_set]
 ·refine⟨Nat.zero_le _,_,_,rfl,by omega,fun b hb=>?_,?_⟩
  ·rw[Tr.get_set,if_neg (by omega)]
  ·rw[Tr.get_set,if_pos rfl];simp[xd qK]
theorem qgo{α:Type}{f:α->List AV}(h:∀x,xJ (f x)=true):∀l:List α,xJ (l.flatMap f)=true
 | []=>rfl
 | x::l=>by
  have app:∀(a b:List AV),xJ a=true->xJ b=true->xJ (a++b)=true:=by
   intro a
   induction a with
   | nil=>intro b _ hb;exact hb
   | cons v a ih =>
    intro b ha hb;simp only[xJ,Bool.and_eq_true,List.cons_append] at ha ⊢;exact⟨ha.1,ih b ha.2 hb⟩
  rw[List.flatMap_cons];exact app _ _ (h x) (qgo h l)
theorem qnt{l:List Sy}:xJ (rSy l)=true:=qgo (fun _=>rfl) l
theorem qna{g1 g2 g3 gt:Nat}{caps:List AV}(hc:qd P f (xn g1 g2 g3)=true)(h1:qdt P g1 4 24)(h2:cOf P g2)(h3:qd1 P g3)(l:List Sy)(hl:l.length<=200000)(to:Nat->Nat)
  (hto:∀x ∈ l,∀j:Nat,(qa7 x∧j=x.th)∨(qbZ x∧j=x.el)->qg P gt (.i .i64 (j:Int)::caps) (.i .i64 ((to j:Nat):Int))) :
  qfi P f [.fz l.length (rSy l),.fn gt [] caps] (.own 0 l.length) [.cells 4 true true (rSy (l.map (qaR to)))]:=by
 refine qfi.of_SC rfl (by simp[qjN,qnt]) ?_;refine qhy hc h1 h2 h3 l hl (Nat.le_refl 0) to (fun x hx j hj s' tr' k' _ _ hk=>(hto x hx j hj).sc hk) fun s' tr' b _ _ _ hb hg=>?_
 intro _;refine⟨[b],?_⟩;simp[vw,hg,hb,qb,qK]
def qll:List (Int×Nat)->Int->Nat->List (Int×Nat)
 | [],x,v=>[(x,v)]
 | (a,u)::L,x,v=>if x=a then (x,v)::L else (a,u)::qll L x v
def qeT:List (Int×Nat)->Int->Option Nat
 | [],_=>none
 | (a,u)::L,x=>if x=a then some u else qeT L x
def mkE(L:List (Int×Nat)):List (AV×AV):=L.map fun p=>(.i .u32 p.1,.i .i64 (p.2:Int))
theorem qlG{L:List (Int×Nat)}{p:Prop}:qcS (mkE L) p↔p:=by cases L<;>exact Iff.rfl
theorem qts{x:Int}{v:Nat}:∀{L:List (Int×Nat)} {k:List (AV×AV)->Prop},qej qt (.i .u32 x) (.i .i64 (v:Int)) (mkE L) k↔k (mkE (qll L x v))
 | [],k=>qme
 | (a,u)::L,k=>by
  refine qtt.trans ?_;unfold qll
  by_cases h:x=a
  ·rw[if_pos h,if_pos h];exact Iff.rfl
  ·rw[if_neg h,if_neg h];exact qts
theorem qoC{x:Int}:∀{L:List (Int×Nat)} {k:Option AV->Prop},qbM qt (.i .u32 x) (mkE L) k↔k ((qeT L x).map fun v=>.i .i64 (v:Int))
 | [],k=>qjL
 | (a,u)::L,k=>by
  refine qoD.trans ?_;unfold qeT
  by_cases h:x=a
  ·rw[if_pos h,if_pos h];exact Iff.rfl
  ·rw[if_neg h,if_neg h];exact qoC
theorem qqt{z:AV}{o:Option Nat}{v:Nat}{k:AV->Prop}(h:o=some v):qeD false z (o.map fun v=>.i .i64 (v:Int)) k↔k (.i .i64 (v:Int)):=by subst h;exact qjq
def qfB(l:List Sy):List (Int×Nat):=(l.zipIdx).foldl (fun L p=>if p.1.code=6 then qll L p.1.k p.2 else L) []
theorem qhs{l:List Sy}{x:Sy}:qfB (l++[x])=if x.code=6 then qll (qfB l) x.k l.length else qfB l:=by
 simp[qfB,List.zipIdx_append]
theorem qkd{L:List (Int×Nat)}{x y:Int}{v:Nat}:qeT (qll L x v) y=if y=x then some v else qeT L y:=by
 induction L with
 | nil=>rfl
 | cons p L ih =>
  obtain⟨a,u⟩:=p;unfold qll
  by_cases h:x=a
  ·rw[if_pos h];subst h;unfold qeT
   by_cases h2:y=x
   ·rw[if_pos h2,if_pos h2]
   ·simp only[if_neg h2]
  ·rw[if_neg h];unfold qeT;rw[ih]
   by_cases h2:y=a
   ·subst h2;rw[if_pos rfl,if_neg (Ne.symm h),if_pos rfl]
   ·rw[if_neg h2,if_neg h2]
theorem qf4{l:List Sy}{j:Nat}{x:Sy}(h:l[j]?=some x)(h6:x.code=6):∃i y,qeT (qfB l) x.k=some i∧j<=i∧l[i]?=some y∧y.code=6∧y.k=x.k:=by
 have main:∀(n:Nat) (l:List Sy),l.length=n->∀{j:Nat} {x:Sy},l[j]?=some x->x.code=6->∃i y,qeT (qfB l) x.k=some i∧j<=i∧l[i]?=some y∧y.code=6∧y.k=x.k:=by
  intro n
  induction n with
  | zero=>intro l hl j x h;rw[List.eq_nil_of_length_eq_zero hl] at h;simp at h
  | succ n ih =>
   intro l hl j x h h6;have e:l=l.dropLast++[l.getLast (by intro h;rw[h] at hl;simp at hl)]:=(List.dropLast_concat_getLast _).symm;generalize l.getLast _=z at e;generalize l.dropLast=l0 at e;subst e;have hl0:l0.length=n:=by simp at hl;exact hl
   rw[qhs];rcases Nat.lt_or_ge j l0.length with hj|hj
   ·rw[List.getElem?_append_left hj] at h;obtain⟨i,y,q1,q2,q3,q4,q5⟩:=ih l0 hl0 h h6;have hi:=(zzS.1 q3).1
    by_cases hz:z.code=6
    ·rw[if_pos hz,qkd]
     by_cases hk:x.k=z.k
     ·exact⟨l0.length,z,by rw[if_pos hk],by omega,by simp,hz,hk.symm⟩
     ·exact⟨i,y,by rw[if_neg hk];exact q1,q2,by rw[List.getElem?_append_left hi];exact q3,q4,q5⟩
    ·rw[if_neg hz];exact⟨i,y,q1,q2,by rw[List.getElem?_append_left hi];exact q3,q4,q5⟩
   ·have hj2:j=l0.length:=by have:=(zzS.1 h).1;simp at this;omega
    subst hj2;simp at h;subst h;rw[if_pos h6,qkd,if_pos rfl];exact⟨l0.length,z,rfl,Nat.le_refl _,by simp,h6,rfl⟩
 exact main _ l rfl h h6
def qcu(l:List Sy)(j:Nat):Nat:=match l[j]? with|some x=>if x.code=6 then (qeT (qfB l) x.k).getD 0 else j|none=>j
def qdl(l:List Sy):List Sy:=l.map (qaR (qcu l))
def qh3(l:List Sy):Prop:=∀x ∈ l,∀j:Nat,(qa7 x∧j=x.th)∨(qbZ x∧j=x.el)->j<l.length
def qb1:IFn:=⟨[.tmp 4],.seq (.r [.m 4 (.k 0)]) (.seq (.seq (.r [.d 5 1,.n 6 0,.i 7 4 5 6,.f 8 0 7,.d 9 8,.q 10 (.bin .eql (.t 9) (.c (.i .u16 6)))]) (.cond (.t 10) (.reg true [.d 11 2,.d 12 1,.n 13 0,.i 14 4 12 13,.f 15 1 14,.d 16 15,.q 17 (.lookM (some .u32) false (.i .i64 0) (.t 11) (.t 16)),.n 0 17]) (.skip))) (.seq (.r [.n 18 0,.n 4 18]) (.ret)))⟩
def qcR(a b:Nat):IFn:=⟨[.tmp 2],.seq (.r [.q 1 (.box (.t 0)),.m 2 .N]) (.seq (.r [.q 6 (.mkM),.q 3 (.alloc [.nilm]),.u (.store 1 (.t 3) (.t 6))]) (.seq (.seq (.r [.d 7 1,.e 8 7,.m 9 (.k 0)]) (.blk 0 (.loop (.seq (.r [.s 10 9 8]) (.seq (.cond (.t 10) (.skip) (.exit 0)) (.seq (.blk 1 (.seq (.r [.n 11 9,.i 12 4 7 9,.v 13 4 12,.q 5 (.alloc [.i .u16 0,.i .u32 0,.i .i64 0,.i .i64 0]),.n 4 11,.u (.store 4 (.t 5) (.t 13))]) (.seq (.r [.f 14 0 5,.d 15 14,.q 16 (.bin .eql (.t 15) (.c (.i .u16 6)))]) (.cond (.t 16) (.r [.d 17 3,.f 18 1 5,.d 19 18,.n 20 4,.u (.updM (some .u32) (.t 17) (.t 19) (.t 20))]) (.skip))))) (.r [.a 21 9 1,.n 9 21]))))))) (.seq (.r [.d 22 1,.q 23 (.mkF a [] [.t 1,.t 3]),.l 24 b [.t 22,.t 23],.n 2 24]) (.ret))))⟩
theorem qkt{g1 g2 h1 h2 h3:Nat}(hc:qd P f (qcR g1 g2)=true)(hc1:qd P g1 qb1=true)(hc2:qd P g2 (xn h1 h2 h3)=true)(c1:qdt P h1 4 24)(c2:cOf P h2)(c3:qd1 P h3)(l:List Sy)(hl:l.length<=200000)(hin:qh3 l) :
  qg P f [.fz l.length (rSy l)] (.fz (qdl l).length (rSy (qdl l))):=by
 refine qg.mk hc (by simp[qF,clo,qK]) ?_;simp only[qcR,vI,simprocAttr];simp +decide only[↓vS,vT,simprocAttr]
 refine SL.loopP (α:=Nat) (fun i=>[(1,.ptr 0 0),(3,.ptr 2 0),(7,.fz l.length (rSy l)),(8,.i .i64 (l.length:Int)),(9,.i .i64 (i:Int))])
  (fun i h=>i<=l.length∧∃s tr,h=⟨s,0,tr⟩∧3<=s∧tr.get 0=some (.cells 0 true false [.fz l.length (rSy l)])∧tr.get 1=some (.map (mkE (qfB (l.take i))))∧tr.get 2=some (.cells 0 true false [.map 1])) (fun i=>l.length-i) ?_ 0 ?_ ?_
 ·rintro i h1 ⟨hi,s,tr,rfl,hs,t0,t1,t2⟩ G ih;simp only[vI,simprocAttr]
  by_cases hlt:i<l.length
  ·have hlt':(i:Int)<l.length:=by omega
   obtain⟨x,hx⟩:∃x,l[i]?=some x:=⟨_,zzE hlt⟩;have hel:=qdk hx;have h4:i*4+4<=(rSy l).length:=by rw[qai];omega
   have hw1:IntKind.wrap .i64 ((i:Int)+1)=((i+1:Nat):Int):=by rw[qv (by omega) (by omega)];simp
   have n0:¬0=s:=by omega
   have n1:¬1=s:=by omega
   have n2:¬2=s:=by omega
   have hsn:=qhs (l:=l.take i) (x:=x);rw[← qce hx,List.length_take,Nat.min_eq_left hi] at hsn
   by_cases h6:x.code=6
   ·rw[if_pos h6] at hsn;simp +decide only[↓vS,vT,simprocAttr,hlt',hlt,h4,hel,cSy,h6,n0,n1,n2,t2,t1,qlG,qts,hw1];refine ih (i+1) _ _ (by omega) (by simp[ql,qr,Tr.get_set]) ⟨by omega,s+1,_,rfl,by omega,?_,?_,?_⟩
    ·simp only[Tr.get_set];rw[if_neg (by omega),if_neg n0,if_neg n0];exact t0
    ·rw[Tr.get_set,if_pos rfl,hsn]
    ·simp only[Tr.get_set];rw[if_neg (by omega),if_neg n2,if_neg n2];exact t2
   ·rw[if_neg h6] at hsn;simp +decide only[↓vS,vT,simprocAttr,hlt',hlt,h4,hel,cSy,h6,hw1];refine ih (i+1) _ _ (by omega) (by simp[ql,qr,Tr.get_set]) ⟨by omega,s+1,_,rfl,by omega,?_,?_,?_⟩
    ·simp only[Tr.get_set];rw[if_neg n0,if_neg n0];exact t0
    ·simp only[Tr.get_set];rw[if_neg n1,if_neg n1,hsn];exact t1
    ·simp only[Tr.get_set];rw[if_neg n2,if_neg n2];exact t2
  ·obtain rfl:i=l.length:=by omega
   have hlt':¬((l.length:Int)<l.length):=by omega
   rw[List.take_length] at t1;simp +decide only[↓vS,vT,simprocAttr,hlt',t0];refine qhy hc2 c1 c2 c3 l hl (Nat.zero_le _) (qcu l) (fun x hx j hj s' tr' k' hs' hold hk'=>?_) fun s' tr' b hs' hold hb1 hb2 hg=>?_
   ·have hjl:=hin x hx j hj;obtain⟨y,hy⟩:∃y,l[j]?=some y:=⟨_,zzE hjl⟩;have g0:=(hold 0 (by omega)).trans t0;have g1:=(hold 1 (by omega)).trans t1;have g2:=(hold 2 (by omega)).trans t2;have gc:=qfK hy (i:=0) (by omega);have gc':(rSy l)[j*4]?=some (.i .u16 y.code):=gc;have gk:=qfK hy (i:=1) (by omega);have gk':(rSy l)[j*4+1]?=some (.i .u32 y.k):=gk;refine SC.mk hc1 (qp ?_);simp only[qb1,vI,simprocAttr]
    by_cases h6:y.code=6
    ·obtain⟨i,z,q1,q2,q3,q4,q5⟩:=qf4 hy h6;have e:qcu l j=i:=by unfold qcu;rw[hy];simp[h6,q1]
     rw[e] at hk';simp +decide only[↓vS,vT,simprocAttr,g0,gc',hjl,h6];refine qaB ?_;simp +decide only[↓vS,vT,simprocAttr,g0,g1,g2,gk',hjl,qlG,qoC,qqt q1];exact hk'
    ·have e:qcu l j=j:=by unfold qcu;rw[hy];simp[h6]
     rw[e] at hk';simp +decide only[↓vS,vT,simprocAttr,g0,gc',hjl,h6];exact hk'
   ·simp +decide only[↓vS,vT,simprocAttr];have e:(qdl l).length=l.length:=by simp[qdl]
    simp[vZ,vP,hg,e,zn qK];refine⟨fun h=>?_,?_⟩
    ·rw[h];rfl
    ·exact Frzs.self qK
 ·simp[ql,qr,Tr.get_set]
 ·refine⟨Nat.zero_le _,_,_,rfl,by omega,?_,?_,?_⟩<;>simp[Tr.get_set,mkE,qfB]
def z6(a:Nat):IFn:=⟨[.tmp 2],.seq (.r [.q 1 (.box (.t 0)),.m 2 (.c (.nilf))]) (.seq (.r [.q 3 (.mkF a [] [.t 1]),.n 2 3]) (.ret))⟩
theorem qxs{g:Nat}(hc:qd P f (z6 g)=true)(l:List Sy):qg P f [.fz l.length (rSy l)] (.fn g [] [.pf [.fz l.length (rSy l)] 0]):=by
 refine qg.mk hc (by simp[qF,clo,qK]) ?_;simp only[z6,vI,simprocAttr];simp +decide only[↓vS,vT,simprocAttr];simp[vZ,vP,Tr.get_set,zn qK]
def qx:IFn:=⟨[],.seq (.r [.d 4 1,.e 5 4,.w 6 .sub 5 1,.n 3 6]) (.blk 0 (.loop (.seq (.seq (.r [.n 7 3,.w 8 .geq 7 0]) (.cond (.t 8) (.skip) (.exit 0))) (.seq (.blk 1 (.seq (.r [.n 11 0,.n 12 3,.d 13 1,.n 14 3,.i 15 4 13 14,.v 16 4 15,⟨(some 17),.callV (.t 11) [.t 12,.t 16],none⟩,.q 18 (.un .not (.t 17))]) (.cond (.t 18) (.ret) (.skip)))) (.r [.n 9 3,.w 10 .sub 9 1,.n 3 10])))))⟩
theorem zG{α:Type}{c:α->List AV}{l:List α}{lb:Nat}(hc:qd P f qx=true)(hm:∀x,(c x).length=4)(hn:l.length<=1000000)(J:Nat->Hp->Prop)
  (hy:∀(i:Nat) x h,l[i]?=some x->J (i+1) h->∀k:AV->Hp->Prop,(∀h',J i h'->k (.b true) h')->SY P lb [.i .i64 (i:Int),.agg (c x)] h k)
  {s:Nat} {tr:Tr Blk} {k:AV->Hp->Prop} (h0:J l.length ⟨s,0,tr⟩) (hk:∀h,J 0 h->k (.tup []) h):SC P f [.yl lb,.pf [.fz l.length (l.flatMap c)] 0] ⟨s,0,tr⟩ k:=by
 refine SC.mk hc (qp ?_);simp only[qx,vI,simprocAttr];have e1:IntKind.wrap .i64 ((l.length:Int)-1)=(l.length:Int)-1:=qv (by omega) (by omega);simp +decide only[↓vS,vT,simprocAttr,e1];refine SL.loopP (α:=Nat) (fun i=>[(0,.yl lb),(1,.pf [.fz l.length (l.flatMap c)] 0),(3,.i .i64 ((i:Int)-1))]) (fun i h=>i<=l.length∧J i h) (fun i=>i) ?_ l.length ?_ ?_
 ·rintro i h1 ⟨hi,hj⟩ G ih;obtain⟨s',fl',tr'⟩:=h1;simp only[vI,simprocAttr];cases i with
  | zero =>
   have n0:¬(0:Int)<=((0:Nat):Int)-1:=by omega
   simp +decide only[↓vS,vT,simprocAttr,n0];exact hk _ hj
  | succ i =>
   have n0:(0:Int)<=((i+1:Nat):Int)-1:=by omega
   have e2:((i+1:Nat):Int)-1=(i:Int):=by omega
   obtain⟨x,hx⟩:∃x,l[i]?=some x:=⟨_,zzE (by omega)⟩;have hel:=qaW (f:=c) (m:=4) hm hx;have hlt:i<l.length:=by omega
   have h4:i*4+4<=(l.flatMap c).length:=by rw[qaX hm];omega
   have n1:(0:Int)<=(i:Int):=by omega
   have e3:IntKind.wrap .i64 ((i:Int)-1)=(i:Int)-1:=qv (by omega) (by omega);rw[e2];simp +decide only[↓vS,vT,simprocAttr,n1,hlt,h4,hel];refine hy i x _ hx hj _ fun h' hj'=>?_
   simp +decide only[↓vS,vT,simprocAttr,e3];exact ih i _ _ (by omega) (by simp[ql,qr,Tr.get_set]) ⟨by omega,hj'⟩
 ·simp[ql,qr,Tr.get_set]
 ·exact⟨Nat.le_refl _,h0⟩
def qz:IFn:=⟨[],.seq (.r [.d 4 1,.e 5 4,.w 6 .sub 5 1,.n 3 6]) (.blk 0 (.loop (.seq (.seq (.r [.n 7 3,.w 8 .geq 7 0]) (.cond (.t 8) (.skip) (.exit 0))) (.seq (.blk 1 (.seq (.r [.n 11 0,.n 12 3,.d 13 1,.n 14 3,.i 15 4 13 14,.v 16 4 15,⟨(some 17),.callV (.t 11) [.t 12,.t 16],none⟩,.q 18 (.un .not (.t 17))]) (.cond (.t 18) (.ret) (.skip)))) (.r [.n 9 3,.w 10 .sub 9 1,.n 3 10])))))⟩
theorem qaa{α:Type}{c:α->List AV}{l:List α}{lb:Nat}(hc:qd P f qz=true)(hm:∀x,(c x).length=4)(hn:l.length<=1000000)(J:Nat->Hp->Prop)
  (hy:∀(i:Nat) x h,l[i]?=some x->J (i+1) h->∀k:AV->Hp->Prop,(∀h',J i h'->k (.b true) h')->SY P lb [.i .i64 (i:Int),.agg (c x)] h k)
  {s:Nat} {tr:Tr Blk} {k:AV->Hp->Prop} (h0:J l.length ⟨s,0,tr⟩) (hk:∀h,J 0 h->k (.tup []) h):SC P f [.yl lb,.pf [.fz l.length (l.flatMap c)] 0] ⟨s,0,tr⟩ k:=by
 refine SC.mk hc (qp ?_);simp only[qz,vI,simprocAttr];have e1:IntKind.wrap .i64 ((l.length:Int)-1)=(l.length:Int)-1:=qv (by omega) (by omega);simp +decide only[↓vS,vT,simprocAttr,e1];refine SL.loopP (α:=Nat) (fun i=>[(0,.yl lb),(1,.pf [.fz l.length (l.flatMap c)] 0),(3,.i .i64 ((i:Int)-1))]) (fun i h=>i<=l.length∧J i h) (fun i=>i) ?_ l.length ?_ ?_
 ·rintro i h1 ⟨hi,hj⟩ G ih;obtain⟨s',fl',tr'⟩:=h1;simp only[vI,simprocAttr];cases i with
  | zero =>
   have n0:¬(0:Int)<=((0:Nat):Int)-1:=by omega
   simp +decide only[↓vS,vT,simprocAttr,n0];exact hk _ hj
  | succ i =>
   have n0:(0:Int)<=((i+1:Nat):Int)-1:=by omega
   have e2:((i+1:Nat):Int)-1=(i:Int):=by omega
   obtain⟨x,hx⟩:∃x,l[i]?=some x:=⟨_,zzE (by omega)⟩;have hel:=qaW (f:=c) (m:=4) hm hx;have hlt:i<l.length:=by omega
   have h4:i*4+4<=(l.flatMap c).length:=by rw[qaX hm];omega
   have n1:(0:Int)<=(i:Int):=by omega
   have e3:IntKind.wrap .i64 ((i:Int)-1)=(i:Int)-1:=qv (by omega) (by omega);rw[e2];simp +decide only[↓vS,vT,simprocAttr,n1,hlt,h4,hel];refine hy i x _ hx hj _ fun h' hj'=>?_
   simp +decide only[↓vS,vT,simprocAttr,e3];exact ih i _ _ (by omega) (by simp[ql,qr,Tr.get_set]) ⟨by omega,hj'⟩
 ·simp[ql,qr,Tr.get_set]
 ·exact⟨Nat.le_refl _,h0⟩
theorem qia{α:Type}{f:α->List AV}{m:Nat}(h:∀x,(f x).length=m){xs:List α}{j:Nat}(x':α)(hj:j<xs.length):(xs.flatMap f).take (j*m)++(f x'++(xs.flatMap f).drop (j*m+m))=(xs.set j x').flatMap f:=by
 have e:xs=xs.take j++xs[j]::xs.drop (j+1):=by rw[List.getElem_cons_drop,List.take_append_drop]
 have e1:(xs.flatMap f).take (j*m)=(xs.take j).flatMap f:=qib h xs j;have e2:(xs.flatMap f).drop (j*m+m)=(xs.drop (j+1)).flatMap f:=by rw[← qep h xs (j+1),Nat.add_mul];simp
 rw[e1,e2,List.set_eq_take_append_cons_drop,if_pos hj];simp
theorem qkp{l:List Sy}{j:Nat}(y:Sy)(hj:j<l.length):(rSy l).take (j*4)++(cSy y++(rSy l).drop (j*4+4))=rSy (l.set j y):=qia qcA y hj
def xf(out:List Sy)(j:Nat):Nat:=match out[j]? with|some x=>if x.code=5 then x.th else j|none=>j
def qaU(out:List Sy)(x:Sy):Sy:=if qbZ (qaR (xf out) x)∧(qaR (xf out) x).th=(qaR (xf out) x).el then ⟨5,0,(qaR (xf out) x).th,0⟩ else qaR (xf out) x
def qdm(l:List Sy):Nat->List Sy
 | 0=>l
 | m+1=>match l[l.length-(m+1)]? with|some x=>(qdm l m).set (l.length-(m+1)) (qaU (qdm l m) x)|none=>qdm l m
theorem qdn{l:List Sy}:∀{m:Nat},(qdm l m).length=l.length
 | 0=>rfl
 | m+1=>by
  unfold qdm;split
  ·rw[List.length_set,qdn]
  ·exact qdn
def qje(l:List Sy):List Sy:=qdm l l.length
def qag:IFn:=⟨[.tmp 3],.seq (.r [.m 3 (.k 0)]) (.seq (.seq (.r [.d 4 1,.n 5 0,.i 6 4 4 5,.f 7 0 6,.d 8 7,.q 9 (.bin .eql (.t 8) (.c (.i .u16 5)))]) (.cond (.t 9) (.r [.d 10 1,.n 11 0,.i 12 4 10 11,.f 13 2 12,.d 14 13,.n 0 14]) (.skip))) (.seq (.r [.n 15 0,.n 3 15]) (.ret)))⟩
theorem qjh(hc:qd P f qag=true)(out:List Sy)(j:Nat)(hj:j<out.length):qg P f [.i .i64 (j:Int),.pf [.fz out.length (rSy out)] 0] (.i .i64 ((xf out j:Nat):Int)):=by
 refine qg.mk hc (by simp[qF,clo,qK]) ?_;obtain⟨y,hy⟩:∃y,out[j]?=some y:=⟨_,zzE hj⟩;have gc:(rSy out)[j*4]?=some (.i .u16 y.code):=qfK hy (i:=0) (by omega);have gt:(rSy out)[j*4+2]?=some (.i .i64 (y.th:Int)):=qfK hy (i:=2) (by omega);simp only[qag,vI,simprocAttr]
 by_cases h5:y.code=5
 ·have e:xf out j=y.th:=by unfold xf;rw[hy];simp[h5]
  simp +decide only[↓vS,vT,simprocAttr,gc,gt,hj,h5];simp[vZ,e]
 ·have e:xf out j=j:=by unfold xf;rw[hy];simp[h5]
  simp +decide only[↓vS,vT,simprocAttr,gc,gt,hj,h5];simp[vZ,e]
def qaQ(a b c d e:Nat):ICode:=.seq (.r [.d 42 3,.n 2 42]) (.ret)
def qb2(a b c d e:Nat):IFn:=⟨[.tmp 2],.seq (.r [.m 2 .N]) (.seq (.r [.n 7 0,.l 8 a [.t 7],.q 3 (.alloc [.nils]),.u (.store 1 (.t 3) (.t 8))]) (.seq (.r [.q 9 (.mkF b [] [.t 3]),.q 4 (.alloc [.nilf]),.u (.store 1 (.t 4) (.t 9))]) (.seq (.seq (.r [.n 10 0,.l 11 c [.t 10]]) (.blk 0 (.rangeF 0 (.t 11) [12,13] (.seq (.r [.n 5 12]) (.r [.q 6 (.alloc [.i .u16 0,.i .u32 0,.i .i64 0,.i .i64 0]),.u (.store 4 (.t 6) (.t 13))])) (.blk 1 (.seq (.reg true [.d 14 3,.n 15 5,.v 16 4 6,.q 17 (.buildS 1 [.i .u16 0,.i .u32 0,.i .i64 0,.i .i64 0] [(0,4,(.t 16))]),.d 18 4,.l 19 d [.t 17,.t 18],.q 20 (.iAddrS 4 (.t 19) (.k 0)),.v 21 4 20,.i 22 4 14 15,.u (.store 4 (.t 22) (.t 21))]) (.seq (.r [.d 23 3,.n 24 5,.i 25 4 23 24,.v 26 4 25,.u (.store 4 (.t 6) (.t 26))]) (.seq (.r [.v 27 4 6,.l 28 e [.t 27],.n 29 28,.h 30 2 6 29 true,.j 31 30 29 true,.h 32 3 6 29 true,.j 33 32 29 true,.g 34 (.bin .eql (.t 31) (.t 33)) 29 true,.p 35 29 34]) (.cond (.t 35) (.r [.d 36 3,.n 37 5,.f 38 2 6,.d 39 38,.q 40 (.build [.i .u16 0,.i .u32 0,.i .i64 0,.i .i64 0] [(0,1,(.c (.i .u16 5))),(2,1,(.t 39))]),.i 41 4 36 37,.u (.store 4 (.t 41) (.t 40))]) (.skip))))))))) (.cut (qaQ a b c d e)))))⟩
def thT(gB:Nat)(l:List Sy):List (Nat×AV):=[(3,.ptr 1 0),(4,.ptr 2 0),(11,.fn gB [] [.pf [.fz l.length (rSy l)] 0])]
def thA:ICode:=.seq (.reg false [⟨some 5,.op (.mov (.t 12)),none⟩]) (.reg false [⟨some 6,.op (.alloc [.i .u16 0,.i .u32 0,.i .i64 0,.i .i64 0]),none⟩,⟨none,.op (.store 4 (.t 6) (.t 13)),none⟩])
def thB(gM gA:Nat):ICode:=.blk 1 (.seq (.reg true [.d 14 3,.n 15 5,.v 16 4 6,.q 17 (.buildS 1 [.i .u16 0,.i .u32 0,.i .i64 0,.i .i64 0] [(0,4,(.t 16))]),.d 18 4,.l 19 gM [.t 17,.t 18],.q 20 (.iAddrS 4 (.t 19) (.k 0)),.v 21 4 20,.i 22 4 14 15,.u (.store 4 (.t 22) (.t 21))]) (.seq (.r [.d 23 3,.n 24 5,.i 25 4 23 24,.v 26 4 25,.u (.store 4 (.t 6) (.t 26))]) (.seq (.r [.v 27 4 6,.l 28 gA [.t 27],.n 29 28,.h 30 2 6 29 true,.j 31 30 29 true,.h 32 3 6 29 true,.j 33 32 29 true,.g 34 (.bin .eql (.t 31) (.t 33)) 29 true,.p 35 29 34]) (.cond (.t 35) (.r [.d 36 3,.n 37 5,.f 38 2 6,.d 39 38,.q 40 (.build [.i .u16 0,.i .u32 0,.i .i64 0,.i .i64 0] [(0,1,(.c (.i .u16 5))),(2,1,(.t 39))]),.i 41 4 36 37,.u (.store 4 (.t 41) (.t 40))]) (.skip)))))
def thI(g1:Nat)(r0:Loop)(ts:List (Nat×AV))(n:Nat)(out:List Sy)(s:Nat)(tr:Tr Blk):Prop :=
 out.length=n∧4<=s∧tr.get 0=some (.cells 4 true true (rSy out))∧tr.get 1=some (.cells 0 true false [.own 0 n])∧tr.get 2=some (.cells 0 true false [.fn g1 [] [.ptr 1 0]])∧tr.get 3=some (.map (zD r0 ts))
theorem qqc{g1 gB gM gA s n:Nat}{r0:Loop}{l out:List Sy}{tr:Tr Blk}{k:AV->Hp->Prop}
  (hM:∀(x:Sy) (out:List Sy),out.length=n->(∀j:Nat,(qa7 x∧j=x.th)∨(qbZ x∧j=x.el)->j<n)->qfi P gM [.fz 1 (cSy x),.fn g1 [] [.pf [.fz out.length (rSy out)] 0]] (.own 0 1) [.cells 4 true true (cSy (qaR (xf out) x))])
  (hA:qd1 P gA) (hr0:r0.state = .ready) (hp0:r0.pending=none) (hlo:LoopOk P r0 [12,13] thA (thB gM gA)) (hI:thI g1 r0 (thT gB l) n out s tr) (i:Nat) (hi:i<n) (x:Sy) (hx:∀j:Nat,(qa7 x∧j=x.th)∨(qbZ x∧j=x.el)->j<n)
  (hk:∀s' tr',thI g1 r0 (thT gB l) n (out.set i (qaU out x)) s' tr'->k (.b true) ⟨s',0,tr'⟩):SY P 3 [.i .i64 (i:Int),.agg (cSy x)] ⟨s,0,tr⟩ k:=by
 obtain⟨hn,h4,h0,h1,h2,h3⟩:=hI;refine SY.mk (r:=r0) (ts:=thT gB l) (ps:=[12,13]) h3 hr0 hlo (Nat.zero_le _) (by show 3<s;omega) rfl ?_;rw[show mkT (thT gB l)=((Tr.leaf.set 11 (.fn gB [] [.pf [.fz l.length (rSy l)] 0])).set 4 (.ptr 2 0)).set 3 (.ptr 1 0) from rfl]
 refine qp ?_;simp only[qkn,thA,cSy,vI,simprocAttr];simp +decide only[↓vS,vT,simprocAttr];have n3:¬3=s:=by omega
 have n0:¬0=s:=by omega
 have n1:¬1=s:=by omega
 have n2:¬2=s:=by omega
 have m0:¬0=s+1:=by omega
 have m1:¬1=s+1:=by omega
 have m2:¬2=s+1:=by omega
 have m3:¬3=s+1:=by omega
 have q1:¬s=s+1:=by omega
 have q2:¬s=s+1+1:=by omega
 have q3:¬0=s+1+1:=by omega
 have q4:¬1=s+1+1:=by omega
 have q5:¬2=s+1+1:=by omega
 have q6:¬3=s+1+1:=by omega
 have ns3:¬s=3:=by omega
 have ns0:¬s=0:=by omega
 refine⟨thT gB l,by simp[Tr.get_set,n3,h3],?_⟩
 refine qp ?_;simp only[qar,thB,vI,simprocAttr];simp +decide only[↓vS,vT,simprocAttr];refine qaB ?_;have e1:¬(0:Nat)=3:=by decide
 have e2:¬(1:Nat)=3:=by decide
 have e3:¬(2:Nat)=3:=by decide
 simp +decide only[↓vS,vT,simprocAttr,h1,h2,e1,e2,e3,n0,n1,n2,ns3,m0,m1,m2,q1]
 have fr0:∀(f2:Nat) (t2:Tr Blk),t2.get (s+1)=some (.cells 0 true false (cSy x))->t2.get 1=some (.cells 0 true false [.own 0 n])->t2.get 0=some (.cells 4 true true (rSy out))->
   Frzs ⟨s+1+1,f2,t2⟩ [.sl (s+1) 0 1 1 false,.fn g1 [] [.ptr 1 0]] [.fz 1 (cSy x),.fn g1 [] [.pf [.fz out.length (rSy out)] 0]]:=fun f2 t2 p1 p2 p3=>by
  refine qco.2 ⟨Frz.cut 4 rfl (Nat.le_refl _) ?_,qco.2 ⟨qoL.2 ⟨rfl,qeq.2 trivial,qco.2 ⟨qoJ.2 ⟨rfl,?_⟩,qeq.2 trivial⟩⟩,qeq.2 trivial⟩⟩
  ·rw[p1];simp[vP,cSy,vZ]
  ·rw[p2];simp[vP,vZ,p3,hn];refine⟨fun h=>?_,Frzs.self qK⟩
   rw[List.eq_nil_of_length_eq_zero (hn.trans h)];rfl
 refine (hM x out hn hx).pc (fr0 _ _ ?_ ?_ ?_) ?_
 ·rw[Tr.get_set,if_pos rfl];rfl
 ·rw[Tr.get_set,if_neg m1,Tr.get_set,if_neg (by decide),Tr.get_set,if_neg n1,Tr.get_set,if_neg n1];exact h1
 ·rw[Tr.get_set,if_neg m0,Tr.get_set,if_neg (by decide),Tr.get_set,if_neg n0,Tr.get_set,if_neg n0];exact h0
 simp only[vJ,simprocAttr];obtain⟨y,hy⟩:∃y,y=qaR (xf out) x:=⟨_,rfl⟩;have hset:=qkp (l:=out) (j:=i) y (by omega);have h44:i*4+4<=(rSy out).length:=by rw[qai];omega
 have hget:(out.set i y)[i]?=some y:=List.getElem?_set_self (by omega);have hel:=qdk hget;have h45:i*4+4<=(rSy (out.set i y)).length:=by rw[qai,List.length_set];omega
 have hset2:=qkp (l:=out.set i y) (j:=i) ⟨5,0,y.th,0⟩ (by rw[List.length_set];omega);rw[List.set_set] at hset2;have hin:(i:Nat)<n:=hi;rw[← hy];simp +decide only[↓vS,vT,simprocAttr,xd qK,h0,e1,e2,e3,n0,n1,n2,ns3,m0,m1,m2,q1,q2,q3,q4,q5,cSy,hin];simp only[cSy,List.cons_append,List.nil_append] at hset hset2 hel;have ha:=hA y;simp only[cSy] at ha;have hi0:i<n:=hi;simp +decide only[↓vS,vT,simprocAttr,h44,hset,h1,e1,e2,e3,n0,n1,n2,ns3,ns0,m0,m1,m2,q1,q2,q3,q4,q5,hi0,h45,hel];refine ha.sc ?_
 have fin:∀(s2:Nat) (t2:Tr Blk) (z:Sy),4<=s2->qaU out x=z->t2.get 0=some (.cells 4 true true (rSy (out.set i z)))->t2.get 1=tr.get 1->t2.get 2=tr.get 2->t2.get 3=some (.map (zD (Go.Kc.bsy r0) (thT gB l)))->∀tt,qum 3 k .normal tt ⟨s2,0,t2⟩:=by
  intro s2 t2 z p1 p2 p3 p4 p5 p6 tt;refine⟨Go.Kc.bsy r0,thT gB l,p6,?_⟩;rw[qi4,qla hr0 hp0];simp only[qar];simp +decide only[↓vS,vT,simprocAttr];refine hk _ _ ⟨by rw[List.length_set];exact hn,p1,?_,?_,?_,?_⟩
  ·rw[Tr.get_set,if_neg (by decide),p2];exact p3
  ·rw[Tr.get_set,if_neg (by decide),p4];exact h1
  ·rw[Tr.get_set,if_neg (by decide),p5];exact h2
  ·rw[Tr.get_set,if_pos rfl]
 have old:∀(b:Nat) (u1 u2 u3 u4 u5 u6:Blk),b<s->b≠0->b≠3->(((((((tr.set s u1).set s u2).set 3 u3).set (s+1) u4).set (s+1+1) u5).set 0 u6).set s u1).get b=tr.get b:=fun b u1 u2 u3 u4 u5 u6 p1 p2 p3=>by
  simp only[Tr.get_set];repeat rw[if_neg (by omega)]
 have s0:¬0=s:=n0
 by_cases h4':qbZ y
 ·by_cases h5:y.th=y.el
  ·have h5':(y.th:Int)=y.el:=by omega
   have he:qaU out x=⟨5,0,y.th,0⟩:=by unfold qaU;rw[← hy,if_pos ⟨h4',h5⟩]
   have h46:i*4+4<=(rSy (out.set i y)).length:=h45;simp +decide only[↓vS,vT,simprocAttr,h4',eq_true h5',h44,hset,h1,e1,e2,e3,n0,n1,n2,ns3,ns0,m0,m1,m2,q1,q2,q3,q4,q5,hi0,h45,hel,hset2];refine fin _ _ _ (by omega) he ?_ ?_ ?_ ?_ _
   ·rw[Tr.get_set,if_pos rfl,← hset2];rfl
   ·simp only[Tr.get_set];repeat rw[if_neg (by omega)]
   ·simp only[Tr.get_set];repeat rw[if_neg (by omega)]
   ·simp only[Tr.get_set];rw[if_neg (by omega),if_neg (by omega),if_neg (by omega),if_neg (by omega),if_neg (by omega)];simp
  ·have h5':¬(y.th:Int)=y.el:=by omega
   have he:qaU out x=y:=by unfold qaU;rw[← hy,if_neg fun h=>h5 h.2]
   simp +decide only[↓vS,vT,simprocAttr,h4',h5',h44,hset,h1,e1,e2,e3,n0,n1,n2,ns3,ns0,m0,m1,m2,q1,q2,q3,q4,q5,hi0,h45,hel];refine fin _ _ _ (by omega) he ?_ ?_ ?_ ?_ _
   ·rw[Tr.get_set,if_neg n0,Tr.get_set,if_pos rfl]
   ·simp only[Tr.get_set];repeat rw[if_neg (by omega)]
   ·simp only[Tr.get_set];repeat rw[if_neg (by omega)]
   ·simp only[Tr.get_set];rw[if_neg (by omega),if_neg (by omega),if_neg (by omega),if_neg (by omega)];simp
 ·have he:qaU out x=y:=by unfold qaU;rw[← hy,if_neg fun h=>h4' h.1]
  simp +decide only[↓vS,vT,simprocAttr,h4',h44,hset,h1,e1,e2,e3,n0,n1,n2,ns3,ns0,m0,m1,m2,q1,q2,q3,q4,q5,hi0,h45,hel];refine fin _ _ _ (by omega) he ?_ ?_ ?_ ?_ _
  ·rw[Tr.get_set,if_neg n0,Tr.get_set,if_pos rfl]
  ·simp only[Tr.get_set];repeat rw[if_neg (by omega)]
  ·simp only[Tr.get_set];repeat rw[if_neg (by omega)]
  ·simp only[Tr.get_set];rw[if_neg (by omega),if_neg (by omega),if_neg (by omega),if_neg (by omega)];simp
theorem qkA{n0 g1 g2 g3 g4 g5 s n:Nat}{tr:Tr Blk}{t:Tr AV}{out:List Sy}(ht:t.get 3=some (.ptr 1 0))(h1:tr.get 1=some (.cells 0 true false [.own 0 n]))(h0:tr.get 0=some (.cells 4 true true (rSy out)))(hn:out.length=n) :
  S P n0 (qaQ g1 g2 g3 g4 g5) (qcm [.tmp 2] fun v' h'=>Frz h' v' (.fz n (rSy out))) t ⟨s,0,tr⟩:=by
 refine S.has [(3,.ptr 1 0)] (by simp[ql,qr,ht]) (qp ?_);simp only[qaQ,vI,simprocAttr];simp only[↓vS,vT,simprocAttr,h1];simp[vZ,vP,Tr.get_set,h0];refine⟨fun h=>?_,Frzs.self qK⟩
 rw[List.eq_nil_of_length_eq_zero (hn.trans h)];rfl
theorem qh2{gC g1 gB gM gA gi h1 h2 h3:Nat}(hc:qd P f (qb2 gC g1 gB gM gA)=true)(c0:qdt P gC 4 24)(hc1:qd P g1 qag=true)(hB:∀l:List Sy,qg P gB [.fz l.length (rSy l)] (.fn gi [] [.pf [.fz l.length (rSy l)] 0]))
  (hi:qd P gi qx=true) (hM:qd P gM (xn h1 h2 h3)=true) (c1:qdt P h1 4 24) (c2:cOf P h2) (c3:qd1 P h3) (hA:qd1 P gA) (l:List Sy) (hl:l.length<=200000) (hin:qh3 l) :
  qg P f [.fz l.length (rSy l)] (.fz (qje l).length (rSy (qje l))):=by
 have hMo:∀(x:Sy) (out:List Sy),out.length=l.length->(∀j:Nat,(qa7 x∧j=x.th)∨(qbZ x∧j=x.el)->j<l.length)->qfi P gM [.fz 1 (cSy x),.fn g1 [] [.pf [.fz out.length (rSy out)] 0]] (.own 0 1) [.cells 4 true true (cSy (qaR (xf out) x))]:=by
  intro x out ho hx
  have:=qna (gt:=g1) (caps:=[.pf [.fz out.length (rSy out)] 0]) hM c1 c2 c3 [x] (by simp) (xf out) fun y hy j hj=>by
   rw[List.mem_singleton] at hy;subst hy;exact qjh hc1 out j (by rw[ho];exact hx j hj)
  simpa[rSy] using this
 refine qg.mk hc (by simp[qF,clo,qK]) ?_;simp only[qb2,vI,simprocAttr];simp +decide only[↓vS,vT,simprocAttr];refine (c0 l.length (rSy l) qai qK qpX (by simp only[qe];omega) (by simp only[qe];omega)).sc ?_;simp only[vJ,simprocAttr];simp +decide only[↓vS,vT,simprocAttr,xd qK];refine (hB l).sc ?_;simp +decide only[↓vS,vT,simprocAttr];refine S.rangeFL (ts:=thT gi l) (Nat.zero_le _) (by intro p hp;simp only[thT,List.mem_cons,List.not_mem_nil,or_false] at hp;rcases hp with rfl|rfl|rfl<;>simp[Tr.get_set]) ⟨rfl,rfl⟩ ?_;refine qlz.2 ⟨.fn gi [] [.pf [.fz l.length (rSy l)] 0],by simp[Tr.get_set],?_⟩
 refine⟨qhd hi,fun r0 hr0 hp0 hlo=>⟨r0,.inl ⟨rfl,hlo.real⟩,?_⟩⟩
 have hlo:LoopOk P r0 [12,13] thA (thB gM gA):=hlo;refine zG (c:=cSy) hi qcA (by omega) (fun i h=>∃s tr,h=⟨s,0,tr⟩∧thI g1 r0 (thT gi l) l.length (qdm l (l.length-i)) s tr∧i<=l.length) ?_ ?_ ?_
 ·rintro i x h hx ⟨s,tr,rfl,hI,hil⟩ k hk;have hi':i<l.length:=(zzS.1 hx).1;refine qqc hMo hA hr0 hp0 hlo hI i hi' x (hin x (zzM hx)) fun s' tr' hI'=>hk _ ⟨s',tr',rfl,?_,by omega⟩
  have e:l.length-i=(l.length-(i+1))+1:=by omega
  have e2:l.length-(l.length-(i+1)+1)=i:=by omega
  have e3:qdm l (l.length-i)=(qdm l (l.length-(i+1))).set i (qaU (qdm l (l.length-(i+1))) x):=by
   rw[e,qdm,e2,hx]
  rw[e3];exact hI'
 ·refine⟨_,_,rfl,⟨qdn,by simp,?_,?_,?_,?_⟩,Nat.le_refl _⟩<;>simp[Tr.get_set,qjZ,Hp.push,qdm,xd qK]
 ·rintro h ⟨s,tr,rfl,⟨hn,h4,q0,q1,q2,q3⟩,_⟩;rw[Nat.sub_zero] at q0;refine⟨r0,thT gi l,q3,by rw[hr0];decide,?_⟩
  rw[hp0];simp only[qar];simp only[↓vS,vT,simprocAttr];have e:(qje l).length=l.length:=qdn;rw[e];refine qkA (by simp[Tr.get_set]) ?_ ?_ qdn
  ·rw[Tr.get_set,if_neg (by decide)];exact q1
  ·rw[Tr.get_set,if_neg (by decide)];exact q0
def rBo(l:List Bool):List AV:=l.map .b
theorem qgV{l:List Bool}:(rBo l).length=l.length:=by simp[rBo]
theorem qiZ{l:List Bool}{j:Nat}:(rBo l)[j]?=(l[j]?).map .b:=by simp[rBo]
theorem qpW{l:List Bool}:qF (rBo l)=true:=qd3 fun _=>rfl
theorem qgW{l:List Bool}{j:Nat}(hj:j<l.length):(rBo l).take j ++ .b true::(rBo l).drop (j+1)=rBo (l.set j true):=by
 rw[List.set_eq_take_append_cons_drop,if_pos hj];simp[rBo,List.map_take,List.map_drop]
def qc1(A:List Bool)(j:Nat)(x:Sy):List Bool :=
 if A[j]?≠some true∨x.code=6 then A else if qh x.code≠4 then A.set (j+1) true else if qbZ x then (A.set x.th true).set x.el true else A.set x.th true
def xU(l:List Sy):Nat->List Bool
 | 0=>(List.replicate l.length false).set 0 true
 | m+1=>match l[m]? with|some x=>qc1 (xU l m) m x|none=>xU l m
theorem qnM{A:List Bool}{j:Nat}{x:Sy}:(qc1 A j x).length=A.length:=by
 unfold qc1;split
 ·rfl
 ·split
  ·simp
  ·split<;>simp
theorem qa9{l:List Sy}:∀{m:Nat},(xU l m).length=l.length
 | 0=>by simp[xU]
 | m+1=>by
  unfold xU;split
  ·rw[qnM,qa9]
  ·exact qa9
def zh(l:List Sy):List Bool:=xU l l.length
def qsU(l:List Sy):Prop:=∀(j:Nat) x,l[j]?=some x->x.code≠6->qh x.code≠4->j+1<l.length
def qdB(a b:Nat):IFn:=⟨[.tmp 2],.seq (.r [.m 2 .N]) (.seq (.r [.n 6 0,.e 7 6,.q 8 (.mkS 1 1 [.b false] (.t 7) (.t 7)),.n 3 8]) (.seq (.r [.n 9 3,.q 10 (.iAddrS 1 (.t 9) (.k 0)),.u (.store 1 (.t 10) .T)]) (.seq (.seq (.r [.n 11 0,.e 12 11,.m 13 (.k 0)]) (.blk 0 (.loop (.seq (.r [.s 14 13 12]) (.seq (.cond (.t 14) (.skip) (.exit 0)) (.seq (.blk 1 (.seq (.r [.n 15 13,.i 16 4 11 13,.v 17 4 16,.q 5 (.alloc [.i .u16 0,.i .u32 0,.i .i64 0,.i .i64 0]),.n 4 15,.u (.store 4 (.t 5) (.t 17))]) (.blk 2 (.seq (.r [.n 29 3,.n 30 4,.i 31 1 29 30,.d 32 31,.q 33 (.un .not (.t 32)),.n 34 33,.h 35 0 5 34 false,.j 36 35 34 false,.g 37 (.bin .eql (.t 36) (.c (.i .u16 6))) 34 false,.o 38 34 37,.n 28 38]) (.cond (.t 28) (.skip) (.seq (.r [.f 40 0 5,.d 41 40,.l 42 a [.t 41],.q 43 (.bin .neq (.t 42) (.c (.i .u8 4))),.n 39 43]) (.cond (.t 39) (.r [.n 44 3,.n 45 4,.a 46 45 1,.i 47 1 44 46,.u (.store 1 (.t 47) .T)]) (.seq (.r [.n 18 3,.f 19 2 5,.d 20 19,.i 21 1 18 20,.u (.store 1 (.t 21) .T)]) (.seq (.r [.v 22 4 5,.l 23 b [.t 22]]) (.cond (.t 23) (.r [.n 24 3,.f 25 3 5,.d 26 25,.i 27 1 24 26,.u (.store 1 (.t 27) .T)]) (.skip))))))))))) (.r [.a 48 13 1,.n 13 48]))))))) (.seq (.r [.n 49 3,.n 2 49]) (.ret)))))⟩
theorem qkG{g1 g2:Nat}(hc:qd P f (qdB g1 g2)=true)(h1:cOf P g1)(h2:qd1 P g2)(l:List Sy)(hl:l.length<=200000)(h0:0<l.length)(hin:qh3 l)(hon:qsU l):qg P f [.fz l.length (rSy l)] (.fz l.length (rBo (zh l))):=by
 refine qg.mk hc (by simp[qF,clo,qK]) ?_;have r1:l.length<=qe:=by simp only[qe];omega
 have r2:1*l.length<=qe:=by simp only[qe];omega
 have hz:(List.replicate l.length [AV.b false]).flatten=rBo (List.replicate l.length false):=by simp[rBo]
 have hz0:=qgW (l:=List.replicate l.length false) (j:=0) (by simp;omega);have hzl:0+1<=(rBo (List.replicate l.length false)).length:=by rw[qgV];simp;omega
 rw[List.take_zero,List.nil_append] at hz0;simp only[qdB,vI,simprocAttr];simp +decide only[↓vS,vT,simprocAttr,r1,r2,hz,h0,Nat.one_mul,Nat.zero_mul,hzl,hz0]
 refine SL.loopP (α:=Nat) (fun i=>[(3,.sl 0 0 l.length l.length false),(11,.fz l.length (rSy l)),(12,.i .i64 (l.length:Int)),(13,.i .i64 (i:Int))])
  (fun i h=>i<=l.length∧∃s tr,h=⟨s,0,tr⟩∧1<=s∧tr.get 0=some (.cells 0 true false (rBo (xU l i)))) (fun i=>l.length-i) ?_ 0 ?_ ?_
 ·rintro i h1' ⟨hi,s,tr,rfl,hs,t0⟩ G ih;simp only[vI,simprocAttr]
  by_cases hlt:i<l.length
  ·have hlt':(i:Int)<l.length:=by omega
   obtain⟨x,hx⟩:∃x,l[i]?=some x:=⟨_,zzE hlt⟩;have hel:=qdk hx;have h4:i*4+4<=(rSy l).length:=by rw[qai];omega
   have hw1:IntKind.wrap .i64 ((i:Int)+1)=((i+1:Nat):Int):=by rw[qv (by omega) (by omega)];simp
   have n0:¬0=s:=by omega
   have n0s:¬s=0:=by omega
   have hAl:(xU l i).length=l.length:=qa9;obtain⟨b,hb⟩:∃b,(xU l i)[i]?=some b:=⟨_,zzE (by omega)⟩;have hgb:(rBo (xU l i))[i]?=some (.b b):=by rw[qiZ,hb];rfl
   have hst:xU l (i+1)=qc1 (xU l i) i x:=by rw[xU,hx]
   have fin:∀(t2:Tr Blk) tt,t2.get 0=some (.cells 0 true false (rBo (xU l (i+1))))->Has tt [(3,.sl 0 0 l.length l.length false),(11,.fz l.length (rSy l)),(12,.i .i64 (l.length:Int)),(13,.i .i64 ((i+1:Nat):Int))]->G tt ⟨s+1,0,t2⟩:=fun t2 tt q1 q2 =>
    ih (i+1) _ _ (by omega) q2 ⟨by omega,s+1,t2,rfl,by omega,q1⟩
   have ha:=h2 x;simp only[cSy] at ha;have sl:∀(A:List Bool) (j:Nat),A.length=l.length->j<l.length->j+1<=(rBo A).length:=fun A j h1 h2=>by rw[qgV];omega
   cases b with
   | false =>
    have e:qc1 (xU l i) i x=xU l i:=by unfold qc1;rw[hb];simp
    rw[hst,e] at fin;simp +decide only[↓vS,vT,simprocAttr,hlt',hlt,h4,hel,cSy,n0,t0,hgb,Nat.mul_one,hw1];exact fin _ _ (by simp[Tr.get_set,n0,t0]) (by simp[ql,qr,Tr.get_set])
   | true =>
    by_cases h6:x.code=6
    ·have e:qc1 (xU l i) i x=xU l i:=by unfold qc1;simp[h6]
     rw[hst,e] at fin;simp +decide only[↓vS,vT,simprocAttr,hlt',hlt,h4,hel,cSy,n0,t0,hgb,Nat.mul_one,hw1,eq_true h6];exact fin _ _ (by simp[Tr.get_set,n0,t0]) (by simp[ql,qr,Tr.get_set])
    ·simp +decide only[↓vS,vT,simprocAttr,hlt',hlt,h4,hel,cSy,n0,t0,hgb,Nat.mul_one,hw1,h6];refine (h1 x.code).sc ?_
     by_cases hj:qh x.code=4
     ·have hth:=hin x (zzM hx) x.th (.inl ⟨hj,rfl⟩);have b1:=qgW (l:=xU l i) (j:=x.th) (by omega);have b2:=sl (xU l i) x.th hAl hth;simp +decide only[↓vS,vT,simprocAttr,hj,n0,n0s,t0,hth,b1,b2,Nat.mul_one];refine ha.sc ?_
      by_cases hk:qbZ x
      ·have hel2:=hin x (zzM hx) x.el (.inr ⟨hk,rfl⟩);have b3:=qgW (l:=(xU l i).set x.th true) (j:=x.el) (by rw[List.length_set];omega);have b4:=sl ((xU l i).set x.th true) x.el (by rw[List.length_set];omega) hel2;have e:qc1 (xU l i) i x=((xU l i).set x.th true).set x.el true:=by unfold qc1;simp[hb,h6,hj,hk]
       rw[hst,e] at fin;simp +decide only[↓vS,vT,simprocAttr,hk,n0,n0s,hel2,b3,b4,Nat.mul_one,hw1];exact fin _ _ (by rw[Tr.get_set,if_pos rfl]) (by simp[ql,qr,Tr.get_set])
      ·have e:qc1 (xU l i) i x=(xU l i).set x.th true:=by unfold qc1;simp[hb,h6,hj,hk]
       rw[hst,e] at fin;simp +decide only[↓vS,vT,simprocAttr,hk,hw1];exact fin _ _ (by rw[Tr.get_set,if_pos rfl]) (by simp[ql,qr,Tr.get_set])
     ·have hnx:=hon i x hx h6 hj;have b1:=qgW (l:=xU l i) (j:=i+1) (by omega);have b2:=sl (xU l i) (i+1) hAl hnx;have e:qc1 (xU l i) i x=(xU l i).set (i+1) true:=by unfold qc1;simp[hb,h6,hj]
      rw[hst,e] at fin;simp +decide only[↓vS,vT,simprocAttr,hj,n0,t0,hnx,b1,b2,Nat.mul_one,hw1];exact fin _ _ (by rw[Tr.get_set,if_pos rfl]) (by simp[ql,qr,Tr.get_set])
  ·obtain rfl:i=l.length:=by omega
   have hlt':¬((l.length:Int)<l.length):=by omega
   simp +decide only[↓vS,vT,simprocAttr,hlt'];have hAl:(xU l l.length).length=l.length:=qa9;show Frz _ _ _;refine Frz.cut 1 rfl (Nat.le_refl _) ?_;rw[t0];simp[vP,qgV,hAl];rw[List.take_of_length_le (by rw[qgV,hAl];omega)];exact Frzs.self qpW
 ·simp[ql,qr,Tr.get_set]
 ·refine⟨Nat.zero_le _,_,_,rfl,by omega,?_⟩
  simp[Tr.get_set,xU]
def zx(A:List Bool)(j:Nat):Nat:=(A.take j).countP (· = true)
def rPl(A:List Bool)(n:Nat):List AV:=(List.range n).map fun j=>.i .i64 (zx A j:Int)
theorem qi3{A:List Bool}{n:Nat}:(rPl A n).length=n:=by simp[rPl]
theorem ql0{A:List Bool}{n j:Nat}(h:j<n):(rPl A n)[j]?=some (.i .i64 (zx A j:Int)):=by simp[rPl,h]
theorem qc9{A:List Bool}{j:Nat}{b:Bool}(h:A[j]?=some b):zx A (j+1)=zx A j+if b=true then 1 else 0:=by
 unfold zx;rw[qce h,List.countP_append];cases b<;>simp
theorem qiI{A:List Bool}{j:Nat}:zx A j<=j:=by
 unfold zx;exact Nat.le_trans List.countP_le_length (by rw[List.length_take];omega)
def qbV{α:Type}:List Bool->List α->List α
 | b::A,x::l=>if b=true then x::qbV A l else qbV A l
 | _,_=>[]
theorem qit{α:Type}:∀{A:List Bool} {l:List α} {j:Nat} {b:Bool} {x:α},A[j]?=some b->l[j]?=some x->qbV (A.take (j+1)) (l.take (j+1))=qbV (A.take j) (l.take j)++if b=true then [x] else []
 | [],_,_,_,_,h,_=>by simp at h
 | _::_,[],_,_,_,_,h=>by simp at h
 | c::A,y::l,0,b,x,h1,h2=>by
  simp at h1 h2;subst h1 h2;cases c<;>simp[qbV]
 | c::A,y::l,j+1,b,x,h1,h2=>by
  have:=qit (A:=A) (l:=l) (j:=j) (b:=b) (x:=x) (by simpa using h1) (by simpa using h2);rw[List.take_succ_cons,List.take_succ_cons,List.take_succ_cons,List.take_succ_cons];simp only[qbV,this];cases c<;>simp
theorem qkr{α:Type}:∀{A:List Bool} {l:List α},A.length=l.length->(qbV A l).length=A.countP (· = true)
 | [],[],_=>rfl
 | b::A,x::l,h=>by
  have:=qkr (A:=A) (l:=l) (by simpa using h);cases b<;>simp[qbV,this]
 | [],_::_,h=>by simp at h
 | _::_,[],h=>by simp at h
def qea(l:List Sy):List Sy:=qbV (zh l) (l.map (qaR (zx (zh l))))
def qfH(n b:Nat):AV:=if n=0 then .nils else .own b n
def qaK:IFn:=⟨[.tmp 3],.seq (.r [.m 3 (.k 0)]) (.seq (.r [.d 4 1,.n 5 0,.i 6 1 4 5,.d 7 6,.n 3 7]) (.ret))⟩
def qbB(a b c:Nat):ICode:=.seq (.r [.m 7 .N]) (.seq (.seq (.r [.n 31 0,.q 32 (.mkF b [] [.t 4]),.l 33 c [.t 31,.t 32],.e 34 33,.m 35 (.k 0)]) (.blk 2 (.loop (.seq (.r [.s 36 35 34]) (.seq (.cond (.t 36) (.skip) (.exit 2)) (.seq (.blk 3 (.seq (.r [.n 37 35,.i 38 4 33 35,.v 39 4 38,.q 9 (.alloc [.i .u16 0,.i .u32 0,.i .i64 0,.i .i64 0]),.n 8 37,.u (.store 4 (.t 9) (.t 39))]) (.seq (.r [.n 40 3,.n 41 8,.i 42 1 40 41,.d 43 42]) (.cond (.t 43) (.r [.n 44 7,.v 45 4 9,.q 46 (.buildS 1 [.i .u16 0,.i .u32 0,.i .i64 0,.i .i64 0] [(0,4,(.t 45))]),.q 47 (.app 4 24 true (.t 44) (.t 46)),.n 7 47]) (.skip))))) (.r [.a 48 35 1,.n 35 48]))))))) (.seq (.r [.n 49 7,.n 2 49]) (.ret)))
def qcP(a b c:Nat):IFn:=⟨[.tmp 2],.seq (.r [.m 2 .N]) (.seq (.r [.n 10 0,.l 11 a [.t 10],.n 3 11]) (.seq (.r [.n 12 0,.e 13 12,.q 14 (.mkS 1 8 [.i .i64 0] (.t 13) (.t 13)),.q 4 (.alloc [.nils]),.u (.store 1 (.t 4) (.t 14))]) (.seq (.r [.m 5 (.k 0)]) (.seq (.seq (.r [.n 15 0,.e 16 15,.m 17 (.k 0)]) (.blk 0 (.loop (.seq (.r [.s 18 17 16]) (.seq (.cond (.t 18) (.skip) (.exit 0)) (.seq (.blk 1 (.seq (.r [.n 19 17,.n 6 19]) (.seq (.r [.d 20 4,.n 21 6,.n 22 5,.i 23 1 20 21,.u (.store 1 (.t 23) (.t 22))]) (.seq (.r [.n 24 3,.n 25 6,.i 26 1 24 25,.d 27 26]) (.cond (.t 27) (.r [.n 28 5,.a 29 28 1,.n 5 29]) (.skip)))))) (.r [.a 30 17 1,.n 17 30]))))))) (.cut (qbB a b c))))))⟩
theorem qm7{n0 g1 g2 g3 h1 h2 h3 s:Nat}{tr:Tr Blk}{t:Tr AV}(hc1:qd P g2 qaK=true)(hc3:qd P g3 (xn h1 h2 h3)=true)(c1:qdt P h1 4 24)(c2:cOf P h2)(c3:qd1 P h3)(l:List Sy)(hl:l.length<=200000)(hin:qh3 l)
  (hs:2<=s) (t0:tr.get 0=some (.cells 0 true false (rPl (zh l) l.length))) (t1:tr.get 1=some (.cells 0 true false [.sl 0 0 l.length l.length false]))
  (ht:Has t [(0,.fz l.length (rSy l)),(3,.fz l.length (rBo (zh l))),(4,.ptr 1 0)]) :
  S P n0 (qbB g1 g2 g3) (qcm [.tmp 2] fun v' h'=>Frz h' v' (.fz (qea l).length (rSy (qea l)))) t ⟨s,0,tr⟩:=by
 have hAl:(zh l).length=l.length:=qa9;refine S.has _ ht (qp ?_);simp only[qbB,vI,simprocAttr];simp +decide only[↓vS,vT,simprocAttr];refine qhy hc3 c1 c2 c3 l hl (Nat.zero_le _) (zx (zh l)) (fun x hx j hj s' tr' k' hs' hold hk'=>?_) fun s' tr' bm hs' hold hb1 hb2 hg=>?_
 ·have hjl:=hin x hx j hj;have g0:=(hold 0 (by omega)).trans t0;have g1:=(hold 1 (by omega)).trans t1;have gp:=ql0 (A:=zh l) hjl;refine SC.mk hc1 (qp ?_);simp only[qaK,vI,simprocAttr];simp +decide only[↓vS,vT,simprocAttr,g0,g1,gp,hjl,Nat.mul_one];exact hk'
 obtain⟨M,hM⟩:∃M,M=l.map (qaR (zx (zh l))):=⟨_,rfl⟩;have hMl:M.length=l.length:=by rw[hM];simp
 have hliv:qea l=qbV (zh l) M:=by rw[hM];rfl
 rw[← hM] at hg;simp +decide only[↓vS,vT,simprocAttr]
 refine SL.loopP (α:=Nat×Nat) (fun i=>[(3,.fz l.length (rBo (zh l))),(7,qfH (zx (zh l) i.1) i.2),(33,.own bm l.length),(34,.i .i64 (l.length:Int)),(35,.i .i64 (i.1:Int))])
  (fun i h=>i.1<=l.length∧∃s2 t2,h=⟨s2,0,t2⟩∧bm<s2∧t2.get bm=some (.cells 4 true true (rSy M))∧(zx (zh l) i.1≠0->t2.get i.2=some (.cells 4 true true (rSy (qbV ((zh l).take i.1) (M.take i.1))))∧i.2<s2∧i.2≠bm)) (fun i=>l.length-i.1) ?_ (0,0) ?_ ?_
 ·rintro⟨i,bo⟩ h1 ⟨hi,s2,t2,rfl,hb,gm,go⟩ G ih;simp only at hi go;simp only[vI,simprocAttr];have hsel:(qbV ((zh l).take i) (M.take i)).length=zx (zh l) i:=qkr (by simp;omega)
  by_cases hlt:i<l.length
  ·have hlt':(i:Int)<l.length:=by omega
   obtain⟨x,hx⟩:∃x,M[i]?=some x:=⟨_,zzE (by omega)⟩;obtain⟨b,hbb⟩:∃b,(zh l)[i]?=some b:=⟨_,zzE (by omega)⟩;have hgb:(rBo (zh l))[i]?=some (.b b):=by rw[qiZ,hbb];rfl
   have hel:=qdk hx;have h4:i*4+4<=(rSy M).length:=by rw[qai];omega
   have hw1:IntKind.wrap .i64 ((i:Int)+1)=((i+1:Nat):Int):=by rw[qv (by omega) (by omega)];simp
   have hsn:=qit hbb hx;have hcn:=qc9 hbb;have n1:¬bm=s2:=by omega
   have n2:¬s2=s2+1:=by omega
   have n3:¬s2+1=s2:=by omega
   have n4:¬bm=s2+1:=by omega
   have n5:¬bm=s2+1+1:=by omega
   have hci:=qiI (A:=zh l) (j:=i);cases b with
   | false =>
    simp at hcn hsn;simp +decide only[↓vS,vT,simprocAttr,hlt',hlt,h4,hel,cSy,gm,hgb,n1,Nat.mul_one,hw1];refine ih (i+1,bo) _ _ (by simp only;omega) ?_ ⟨by simp only;omega,s2+1,_,rfl,by omega,?_,fun h0=>?_⟩
    ·simp only[hcn];simp[ql,qr,Tr.get_set]
    ·simp only[Tr.get_set];rw[if_neg n1,if_neg n1];exact gm
    ·simp only at h0;rw[hcn] at h0;obtain⟨q1,q2,q3⟩:=go h0;refine⟨?_,by simp only;omega,q3⟩
     simp only[Tr.get_set];rw[if_neg (by omega),if_neg (by omega),hsn];exact q1
   | true =>
    simp at hcn hsn
    by_cases hz:zx (zh l) i=0
    ·have hV:qfH (zx (zh l) i) bo = .nils:=by simp[qfH,hz]
     have hnil:qbV ((zh l).take i) (M.take i)=[]:=List.eq_nil_of_length_eq_zero (by omega);rw[hV];simp +decide only[↓vS,vT,simprocAttr,hlt',hlt,h4,hel,cSy,gm,hgb,n1,n2,n3,Nat.mul_one,hw1];refine ih (i+1,s2+1+1) _ _ (by simp only;omega) ?_ ⟨by simp only;omega,s2+1+1+1,_,rfl,by omega,?_,fun h0=>⟨?_,by simp only;omega,by simp only;omega⟩⟩
     ·have e:qfH (zx (zh l) (i+1)) (s2+1+1) = .own (s2+1+1) 1:=by rw[hcn,hz];rfl
      simp only[e];simp[ql,qr,Tr.get_set]
     ·simp only[Tr.get_set];rw[if_neg n5,if_neg n4,if_neg n1,if_neg n1];exact gm
     ·simp only[Tr.get_set];rw[hsn,hnil];simp[rSy,cSy]
    ·obtain⟨q1,q2,q3⟩:=go hz;have hV:qfH (zx (zh l) i) bo = .own bo (zx (zh l) i):=by simp[qfH,hz]
     rw[hV];have n6:¬bo=s2:=by omega
     have n7:¬bo=s2+1:=by omega
     have n8:¬s2+1=bo:=by omega
     have hr1:zx (zh l) i+1<=qe:=by simp only[qe];omega
     have hr2:(zx (zh l) i+1)*24<=qe:=by simp only[qe];omega
     have hql:(rSy (qbV ((zh l).take i) (M.take i))).length=zx (zh l) i*4:=by rw[qai,hsel]
     simp +decide only[↓vS,vT,simprocAttr,hlt',hlt,h4,hel,cSy,gm,hgb,n1,n2,n3,n6,n7,n8,q1,hr1,hr2,hql,Nat.mul_one,hw1];refine ih (i+1,s2+1+1) _ _ (by simp only;omega) ?_ ⟨by simp only;omega,s2+1+1+1,_,rfl,by omega,?_,fun h0=>⟨?_,by simp only;omega,by simp only;omega⟩⟩
     ·have e:qfH (zx (zh l) (i+1)) (s2+1+1) = .own (s2+1+1) (zx (zh l) i+1):=by rw[hcn];simp[qfH]
      simp only[e];simp[ql,qr,Tr.get_set]
     ·simp only[Tr.get_set];rw[if_neg n5,if_neg (Ne.symm q3),if_neg n4,if_neg n1,if_neg n1];exact gm
     ·simp only[Tr.get_set];rw[hsn,← ql1];simp[rSy,cSy]
  ·obtain rfl:i=l.length:=by omega
   have hlt':¬((l.length:Int)<l.length):=by omega
   have e1:(zh l).take l.length=zh l:=List.take_of_length_le (by omega);have e2:M.take l.length=M:=List.take_of_length_le (by omega);rw[e1,e2] at hsel go;simp +decide only[↓vS,vT,simprocAttr,hlt'];rw[hliv]
   by_cases hz:zx (zh l) l.length=0
   ·have hV:qfH (zx (zh l) l.length) bo = .nils:=by simp[qfH,hz]
    have hnil:qbV (zh l) M=[]:=List.eq_nil_of_length_eq_zero (by omega);rw[hV,hnil];exact .nilz
   ·obtain⟨q1,q2,q3⟩:=go hz;have hV:qfH (zx (zh l) l.length) bo = .own bo (zx (zh l) l.length):=by simp[qfH,hz]
    rw[hV];show Frz _ _ _;refine qoI.2 ⟨hsel.symm,?_⟩;rw[q1];simp[vP,hz];exact Frzs.self qK
 ·have e:qfH (zx (zh l) 0) 0 = .nils:=by simp[qfH,zx]
  simp only[e,hMl];simp[ql,qr,Tr.get_set]
 ·exact⟨Nat.zero_le _,s',tr',rfl,hb2,hg,fun h=>absurd (by simp[zx]) h⟩
theorem qkb{g1 g2 g3 h1 h2 h3:Nat}(hc:qd P f (qcP g1 g2 g3)=true)(hc1:qd P g2 qaK=true)(hc3:qd P g3 (xn h1 h2 h3)=true)(c1:qdt P h1 4 24)(c2:cOf P h2)(c3:qd1 P h3)(l:List Sy)(ha:qg P g1 [.fz l.length (rSy l)] (.fz l.length (rBo (zh l))))
  (hl:l.length<=200000) (hin:qh3 l):qg P f [.fz l.length (rSy l)] (.fz (qea l).length (rSy (qea l))):=by
 have hAl:(zh l).length=l.length:=qa9;refine qg.mk hc (by simp[qF,clo,qK]) ?_;have r1:l.length<=qe:=by simp only[qe];omega
 have r2:8*l.length<=qe:=by simp only[qe];omega
 simp only[qcP,vI,simprocAttr];simp +decide only[↓vS,vT,simprocAttr];refine ha.sc ?_;simp +decide only[↓vS,vT,simprocAttr,r1,r2]
 refine SL.loopP (α:=Nat) (fun i=>[(0,.fz l.length (rSy l)),(3,.fz l.length (rBo (zh l))),(4,.ptr 1 0),(5,.i .i64 (zx (zh l) i:Int)),(16,.i .i64 (l.length:Int)),(17,.i .i64 (i:Int))])
  (fun i h=>i<=l.length∧∃s tr,h=⟨s,0,tr⟩∧2<=s∧tr.get 0=some (.cells 0 true false ((rPl (zh l) l.length).take i++List.replicate (l.length-i) (.i .i64 0)))∧tr.get 1=some (.cells 0 true false [.sl 0 0 l.length l.length false])) (fun i=>l.length-i) ?_ 0 ?_ ?_
 ·rintro i h1' ⟨hi,s,tr,rfl,hs,t0,t1⟩ G ih;simp only[vI,simprocAttr]
  by_cases hlt:i<l.length
  ·have hlt':(i:Int)<l.length:=by omega
   obtain⟨b,hbb⟩:∃b,(zh l)[i]?=some b:=⟨_,zzE (by omega)⟩;have hgb:(rBo (zh l))[i]?=some (.b b):=by rw[qiZ,hbb];rfl
   have hcn:=qc9 hbb;have hci:=qiI (A:=zh l) (j:=i);have hw1:IntKind.wrap .i64 ((i:Int)+1)=((i+1:Nat):Int):=by rw[qv (by omega) (by omega)];simp
   have hw2:IntKind.wrap .i64 ((zx (zh l) i:Int)+1)=((zx (zh l) i+1:Nat):Int):=by rw[qv (by omega) (by omega)];simp
   have hfill:=qp3 (n:=l.length) (z:=.i .i64 0) qi3 (ql0 (A:=zh l) hlt);have hb4:i+1<=((rPl (zh l) l.length).take i++List.replicate (l.length-i) (AV.i .i64 0)).length:=by simp[qi3];omega
   cases b with
   | false =>
    simp at hcn;simp +decide only[↓vS,vT,simprocAttr,hlt',hlt,t0,t1,hgb,hb4,hfill,Nat.mul_one,hw1];refine ih (i+1) _ _ (by omega) ?_ ⟨by omega,s,_,rfl,hs,by rw[Tr.get_set,if_pos rfl],by rw[Tr.get_set,if_neg (by decide)];exact t1⟩
    rw[hcn];simp[ql,qr,Tr.get_set]
   | true =>
    simp at hcn;simp +decide only[↓vS,vT,simprocAttr,hlt',hlt,t0,t1,hgb,hb4,hfill,Nat.mul_one,hw1,hw2];refine ih (i+1) _ _ (by omega) ?_ ⟨by omega,s,_,rfl,hs,by rw[Tr.get_set,if_pos rfl],by rw[Tr.get_set,if_neg (by decide)];exact t1⟩
    rw[hcn];simp[ql,qr,Tr.get_set]
  ·obtain rfl:i=l.length:=by omega
   have hlt':¬((l.length:Int)<l.length):=by omega
   simp +decide only[↓vS,vT,simprocAttr,hlt'];refine qm7 hc1 hc3 c1 c2 c3 l hl hin hs ?_ t1 ?_
   ·rw[t0,List.take_of_length_le (by rw[qi3];omega)];simp
   ·simp[ql,qr,Tr.get_set]
 ·simp[ql,qr,Tr.get_set,zx]
 ·refine⟨Nat.zero_le _,_,_,rfl,by omega,?_,?_⟩<;>simp[Tr.get_set]
end Go.Kc
end
