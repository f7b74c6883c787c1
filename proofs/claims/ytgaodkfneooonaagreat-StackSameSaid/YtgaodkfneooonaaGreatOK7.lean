/- Part 7 of the abstract machine and of the functions' walks. Conditions: with each theorem. -/
import Derived.Test.YtgaodkfneooonaaGreatOK6
import Derived.Lib.Join
import Derived.Below
import Derived.Lib.ItoaLen
set_option maxHeartbeats 4000000
set_option linter.defProp false
set_option linter.unusedSectionVars false
set_option linter.unusedSimpArgs false
set_option linter.unusedVariables false
set_option linter.unnecessarySimpa false
section
namespace Go.Kc
variable {P:Program} {f:Nat}
def qkD(p:List UInt8×Int):List AV:=[.w p.2,.s p.1]
def qxm(p:List UInt8×Int):(qkD p).length=2:=rfl
def xC:List (List UInt8×Int):=[([107,105,108,108],2147483648),([107,105,108,108,116,104,114,101,97,100],0),([116,114,97,112],196608),([101,114,114,110,111],327680),([110,111,116,105,102,121],2143289344),([116,114,97,99,101],2146435072),([108,111,103],2147221504),([97,108,108,111,119],2147418112)]
def qf3:IFn:=⟨[.cell 0 16 true],sq [.r [.q 0 (.alloc [.w 0,.s [],.w 0,.s [],.w 0,.s [],.w 0,.s [],.w 0,.s [],.w 0,.s [],.w 0,.s [],.w 0,.s []])],.r [.q 1 (.build [.w 0,.s []] [(0,1,(.c (.w 2147483648))),(1,1,(.c (.s [107,105,108,108])))]),.q 2 (.build [.w 0,.s []] [(0,1,(.c (.w 0))),(1,1,(.c (.s [107,105,108,108,116,104,114,101,97,100])))]),.q 3 (.build [.w 0,.s []] [(0,1,(.c (.w 196608))),(1,1,(.c (.s [116,114,97,112])))]),.q 4 (.build [.w 0,.s []] [(0,1,(.c (.w 327680))),(1,1,(.c (.s [101,114,114,110,111])))]),.q 5 (.build [.w 0,.s []] [(0,1,(.c (.w 2143289344))),(1,1,(.c (.s [110,111,116,105,102,121])))]),.q 6 (.build [.w 0,.s []] [(0,1,(.c (.w 2146435072))),(1,1,(.c (.s [116,114,97,99,101])))]),.q 7 (.build [.w 0,.s []] [(0,1,(.c (.w 2147221504))),(1,1,(.c (.s [108,111,103])))]),.q 8 (.build [.w 0,.s []] [(0,1,(.c (.w 2147418112))),(1,1,(.c (.s [97,108,108,111,119])))]),.q 9 (.build [.w 0,.s [],.w 0,.s [],.w 0,.s [],.w 0,.s [],.w 0,.s [],.w 0,.s [],.w 0,.s [],.w 0,.s []] [(0,2,(.t 1)),(2,2,(.t 2)),(4,2,(.t 3)),(6,2,(.t 4)),(8,2,(.t 5)),(10,2,(.t 6)),(12,2,(.t 7)),(14,2,(.t 8))]),.u (.store 16 (.t 0) (.t 9))],.ret]⟩
def qGl(hc:qc P f qf3=true):qa P f [] (.agg (xC.flatMap qkD)):=by
 refine qa.mk hc rfl ?_;simp only[qf3,vI,simprocAttr];simp only[↓vS,vT,simprocAttr,xC,qkD,List.flatMap_cons,List.flatMap_nil,vZ]
def qgE:IFn:=⟨[.tmp 2],sq [.r [.m 2 (.c (.w 0))],.r [.n 3 0,.q 4 (.bin .andNot (.t 3) (.c (.w 65535))),.n 2 4],.ret]⟩
def qH2(hc:qc P f qgE=true)(n:Int):qa P f [.w n] (.w (qeH .u32 n 65535)):=by
 refine qa.mk hc rfl ?_;simp only[qgE,vI,simprocAttr];simp only[↓vS,vT,simprocAttr,vZ]
def qgF(a b:Nat):IFn:=⟨[.tmp 2],sq [.r [.m 2 (.c (.s []))],sq [.r [.l 5 a [],.m 6 (.k 0)],.blk 0 (.loop (sq [.r [.w 7 .lss 6 8],.cond (.t 7) (.skip) (.exit 0),.blk 1 (sq [.r [.q 8 (.idxA 8 2 true (.t 5) (.t 6)),.q 4 (.alloc [.w 0,.s []]),.u (.store 2 (.t 4) (.t 8))],.reg true [.f 9 0 4,.d 10 9,.n 11 0,.l 12 b [.t 11],.b 13 .eql 10 12],.cond (.t 13) (sq [.r [.f 14 1 4,.d 15 14,.n 2 15],.ret]) (.skip)]),.r [.a 16 6 1,.n 6 16]]))],.r [.m 2 (.c (.s []))],.ret]⟩
def qH1{g1 g2:Nat}(hc:qc P f (qgF g1 g2)=true)(h1:qa P g1 [] (.agg (xC.flatMap qkD)))(h2:∀n,qa P g2 [.w n] (.w (qeH .u32 n 65535)))(n:Int):qa P f [.w n] (.s (qbP (qeH .u32 n 65535) xC)):=by
 refine qa.mk hc rfl ?_;simp only[qgF,vI,simprocAttr];simp only[↓vS,vT,simprocAttr];refine h1.sc ?_;simp only[↓vS,vT,simprocAttr];have hlen:(xC.flatMap qkD).length=16:=by decide
 have hTc:qt (xC.flatMap qkD)=true:=rfl;refine SL.loop (α:=Nat) (λj=>[(0,.w n),(5,.agg (xC.flatMap qkD)),(6,.j j)]) (λ_=>[]) (λj=>j<=8/\qbP (qeH .u32 n 65535) xC=qbP (qeH .u32 n 65535) (xC.drop j)) (λj=>8-j) 0 [] ?_ ?_ ?_ rfl ?_ ?_
 .simp[vw,xC,qkD]
 .trivial
 .simp
 .simp_all
 rintro j ⟨hj,hI⟩ G ih;simp only[vI,simprocAttr]
 by_cases hlt:j<8
 .have hlt':(j:Int)<8:=by omega
  have hjl:j<xC.length:=hlt;have hx:xC[j]?=some xC[j]:=by simp_all
  have hw:IntKind.wrap .i64 ((j:Int)+1)=((j+1:Nat):Int):=by rw[qp (by omega) (by omega)];omega
  have he:=qS (f:=qkD) (m:=2) qxm hx;have hb:j*2+2<=(xC.flatMap qkD).length:=by omega
  rw[List.drop_eq_getElem_cons hjl,qbP]at hI;generalize hc0:xC[j]=c at he hI;generalize hT:xC.flatMap qkD=T at he hb hlen hTc;simp only[↓vS,vT,simprocAttr,hlt',hlt,he,hb,qkD];refine zB ?_;simp only[↓vS,vT,simprocAttr];refine(h2 n).pc ?_
  by_cases hs:c.2=qeH .u32 n 65535
  .rw[if_pos hs]at hI;simp only[↓vS,vT,simprocAttr,hs];simp[vZ,hI]
  .rw[if_neg hs]at hI;simp only[↓vS,vT,simprocAttr,hs,hw];refine ih (j+1) ⟨hlt,hI⟩ (by omega) _ _ (Wk.mk _ _ [] ?_ ?_ ?_ rfl)
   .rw[hT];simp[vw,qe,hTc]
   .trivial
   .simp
 .have hj':j=8:=by omega
  subst hj';have hlt':¬(((8:Nat):Int)<8):=by decide
  simp only[↓vS,vT,simprocAttr,hlt'];rw[hI];simp[vZ,xC,qbP]
def knA(n:Int):Bool:=decide (qbP (qeH .u32 n 65535) xC≠[])
def qf1(a:Nat):IFn:=⟨[.tmp 2],sq [.r [.m 2 .F],.r [.n 3 0,.l 4 a [.t 3],.q 5 (.bin .neq (.t 4) (.c (.s []))),.n 2 5],.ret]⟩
def qGj{g:Nat}(hc:qc P f (qf1 g)=true)(hg:∀n,qa P g [.w n] (.s (qbP (qeH .u32 n 65535) xC)))(n:Int):qa P f [.w n] (.b (knA n)):=by
 refine qa.mk hc rfl ?_;simp only[qf1,vI,simprocAttr];simp only[↓vS,vT,simprocAttr];refine(hg n).sc ?_;unfold knA;generalize qbP (qeH .u32 n 65535) xC=s
 by_cases h:s=[] <;>
 .simp only[↓vS,vT,simprocAttr,h];simp[vZ,h]
def qb3(t:GTest):Bool:=decide (0<=t.arg)&&decide (t.arg<6)&&decide (qeH .u64 t.val t.mask=0)&&knA t.act
def qh0(a:Nat):IFn:=⟨[.tmp 2],sq [.r [.q 1 (.box (.t 0)),.m 2 .F],.r [.f 3 0 1,.d 4 3,.w 5 .geq 4 0,.n 6 5,.h 7 0 1 6 true,.j 8 7 6 true,.g 9 (.bin .lss (.t 8) (.k 6)) 6 true,.p 10 6 9,.n 11 10,.h 12 2 1 11 true,.j 13 12 11 true,.h 14 1 1 11 true,.j 15 14 11 true,.g 16 (.bin .andNot (.t 13) (.t 15)) 11 true,.g 17 (.bin .eql (.t 16) (.c (.x 0))) 11 true,.p 18 11 17,.n 19 18,.h 20 3 1 19 true,.j 21 20 19 true,⟨(some 22),.callF a [.t 21],(some (19,true))⟩,.p 23 19 22,.n 2 23],.ret]⟩
def qIh{g:Nat}(hg:∀n,qa P g [.w n] (.b (knA n)))(hc:qc P f (qh0 g)=true)(t:GTest):qa P f [.agg (jz t)] (.b (qb3 t)):=by
 refine qa.mk hc rfl ?_;simp only[qh0,jz,vI,simprocAttr]
 by_cases k1:0<=t.arg
 .by_cases k2:t.arg<6
  .by_cases k3:qeH .u64 t.val t.mask=0
   .simp only[↓vS,vT,simprocAttr,k1,k2,k3];refine(hg t.act).sc ?_;simp only[↓vS,vT,simprocAttr];simp[vZ,qb3,k1,k2,k3]
   .simp only[↓vS,vT,simprocAttr,k1,k2,k3];simp[vZ,qb3,k3]
  .simp only[↓vS,vT,simprocAttr,k1,k2];simp[vZ,qb3,k2]
 .simp only[↓vS,vT,simprocAttr,k1];simp[vZ,qb3,k1]
def qgb(a:Nat):IFn:=⟨[.tmp 2],sq [.r [.q 1 (.box (.t 0)),.m 2 .F],.r [.v 3 4 1,.l 4 a [.t 3],.q 5 (.un .not (.t 4)),.n 2 5],.ret]⟩
def qFF{g:Nat}(hc:qc P f (qgb g)=true)(hg:∀t,qa P g [.agg (jz t)] (.b (qb3 t)))(t:GTest):qa P f [.agg (jz t)] (.b (!qb3 t)):=by
 refine qa.mk hc rfl ?_;simp only[qgb,jz,vI,simprocAttr];simp only[↓vS,vT,simprocAttr];refine(hg t).sc ?_;simp only[↓vS,vT,simprocAttr];simp[vZ]
def xA:IFn:=⟨[.tmp 4],sq [.r [.m 4 (.k 0)],sq [.r [.n 6 0,.e 7 6,.m 8 (.k 0)],.blk 0 (.loop (sq [.r [.s 9 8 7],.cond (.t 9) (.skip) (.exit 0),.blk 1 (sq [.r [.n 10 8,.n 5 10],.r [.n 11 1,.n 12 0,.n 13 5,.i 14 4 12 13,.v 15 4 14,⟨(some 16),.callV (.t 11) [.t 15],none⟩],.cond (.t 16) (sq [.r [.n 17 5,.n 4 17],.ret]) (.skip)]),.r [.a 18 8 1,.n 8 18]]))],.r [.q 4 (.mov (.c (.j (-1))))],.ret]⟩
def qrv(hc:qc P f xA=true):qfH 4 P f:=by
 intro α enc p g a c l hlen ha hc' hl hp;refine qa.mk hc (by simp[qt,clo,ha,hc']) ?_;simp only[xA,vI,simprocAttr];simp only[↓vS,vT,simprocAttr];refine SL.loop (α:=Nat) (λj=>[(0,.fz l.length (l.flatMap enc)),(1,.fn g a c),(7,.j l.length),(8,.j j)]) (λ_=>[]) (λj=>j<=l.length/\xq p l 0=xq p (l.drop j) j) (λj=>l.length-j) 0 [] ?_ ?_ ?_ rfl ?_ ?_
 .simp[vw,qe,ha,hc']
 .trivial
 .simp
 .simp
 rintro j ⟨hj,hI⟩ G ih;simp only[vI,simprocAttr]
 by_cases hlt:j<l.length
 .have hx:l[j]?=some l[j]:=by simp_all
  have hw:IntKind.wrap .i64 ((j:Int)+1)=(j:Int)+1:=qp (by omega) (by have:=hl;simp only[qi]at this;omega)
  have he:=qS hlen hx;have hb:j*4+4<=(l.flatMap enc).length:=by rw[qW hlen];omega
  rw[List.drop_eq_getElem_cons hlt,xq]at hI;simp only[↓vS,vT,simprocAttr,hlt,hb,he,hw];refine(hp l[j] (by simp_all)).sc ?_
  by_cases hpx:p l[j]=true
  .rw[if_pos hpx]at hI;simp only[↓vS,vT,simprocAttr,hpx,vZ,hI]
  .rw[if_neg hpx]at hI;simp only[↓vS,vT,simprocAttr,hpx,hw];refine ih (j+1) ⟨by omega,hI⟩ (by omega) _ _ (Wk.mk _ _ [] ?_ ?_ ?_ rfl)
   .simp[vw,qe,ha,hc']
   .trivial
   .simp
 .simp only[↓vS,vT,simprocAttr,hlt];rw[List.drop_eq_nil_of_le (by omega)]at hI;simp[hI,xq,vZ]
def quk(p:GTest->Bool)(l:List GTest):AV:=match l.find? p with|some t=>.tup [.agg (jz t),.b true]|none=>.tup [.agg [.j 0,.x 0,.x 0,.w 0],.b false]
def qcB(a:Nat):IFn:=⟨[.cell 4 4 true,.tmp 5],sq [.r [.q 4 (.alloc [.j 0,.x 0,.x 0,.w 0]),.m 5 .F],sq [.r [.n 8 0,.n 9 1,.l 10 a [.t 8,.t 9],.n 6 10],.r [.n 11 6,.w 12 .geq 11 0],.cond (.t 12) (sq [.r [.n 13 0,.n 14 6,.i 15 4 13 14,.v 16 4 15,.u (.store 4 (.t 4) (.t 16)),.m 5 .T],.ret]) (.skip)],.r [.q 7 (.alloc [.j 0,.x 0,.x 0,.w 0])],.r [.v 17 4 7,.u (.store 4 (.t 4) (.t 17)),.m 5 .F],.ret]⟩
def qCR{g:Nat}(hc:qc P f (qcB g)=true)(h2:qfH 4 P g)(l:List GTest)(k:Nat)(a c:List AV)(p:GTest->Bool)(ha:qt a=true)(hcc:qt c=true)(hk:∀t ∈ l,qa P k (a++([.agg (jz t)]++c)) (.b (p t)))(hl:l.length<=100000):qa P f [.fz l.length (rT l),.fn k a c] (quk p l):=by
 refine qa.mk hc (by simp[qt,clo,zX,ha,hcc]) ?_;simp only[qcB,vI,simprocAttr];simp only[↓vS,vT,simprocAttr];refine(h2 jz p k a c l qdm ha hcc (by simp only[qi];omega) hk).sc ?_;rcases qjR p l 0 with⟨e1,e2⟩|⟨i,x,e1,e2,e3,e4,e5⟩
 .rw[e1];simp only[↓vS,vT,simprocAttr];simp[vZ,quk,e2]
 .have hi:i<l.length:=by grind
  have hn:(0:Int)<=(i:Int):=by omega
  have he:=qr4 e2;have hb:=qxe hi;rw[e1,Nat.zero_add];simp only[↓vS,vT,simprocAttr,hn,hi,he,hb,jz];simp[vZ,quk,e4,jz]
noncomputable def qb2(r:GRule):Bool:=decide (r.tests.length<=32)&&r.tests.all qb3&&knA r.act
def qvt{α:Type}(p:α->Bool)(l:List α):(l.find? λt=>!p t).isSome = !l.all p:=by
 grind
def qhZ(a b c:Nat):IFn:=⟨[.tmp 2],sq [.r [.q 1 (.box (.t 0)),.m 2 .F],.r [.f 6 1 1,.d 7 6,.l 8 a [.t 7,(.c (.fn b [] []))],.n 5 8,.x 9 5 0,.x 10 5 1,.q 3 (.alloc [.j 0,.x 0,.x 0,.w 0]),.u (.store 4 (.t 3) (.t 9)),.n 4 10],.r [.f 11 1 1,.d 12 11,.e 13 12,.w 14 .leq 13 32,.n 15 14,.y 16 4 15,.g 17 (.un .not (.t 16)) 15 true,.p 18 15 17,.n 19 18,.h 20 2 1 19 true,.j 21 20 19 true,⟨(some 22),.callF c [.t 21],(some (19,true))⟩,.p 23 19 22,.n 2 23],.ret]⟩
def qIg{g1 g2 g3:Nat}(hc:qc P f (qhZ g1 g2 g3)=true)(h1:∀(l:List GTest) (k:Nat) (a c:List AV) (p:GTest->Bool),qt a=true->qt c=true->(∀t ∈ l,qa P k (a++([.agg (jz t)]++c)) (.b (p t)))->l.length<=100000->qa P g1 [.fz l.length (rT l),.fn k a c] (quk p l))
  (h2:∀t,qa P g2 [.agg (jz t)] (.b (!qb3 t))) (h3:∀n,qa P g3 [.w n] (.b (knA n))) (r:GRule) (hl:r.tests.length<=100000):qa P f [.agg (zu r)] (.b (qb2 r)):=by
 refine qa.mk hc rfl ?_;simp only[qhZ,zu,vI,simprocAttr];simp only[↓vS,vT,simprocAttr];refine(h1 r.tests g2 [] [] (λt=>!qb3 t) rfl rfl (λt _=>h2 t) hl).sc ?_
 have hf:=qvt qb3 r.tests
 have fin:∀odd:Bool,odd = !r.tests.all qb3->(decide (r.tests.length<=32) && !odd&&knA r.act)=qb2 r:=by
  rintro odd rfl;simp[qb2]
 unfold quk;cases hq:r.tests.find? (λt=>!qb3 t)with
 | none =>
  rw[hq]at hf;have fin:=fin false hf
  by_cases k1:r.tests.length<=32
  .have k1':((r.tests.length:Int)<=32)=True:=eq_true (by omega);simp only[↓vS,vT,simprocAttr,k1'];refine(h3 r.act).sc ?_;simp only[↓vS,vT,simprocAttr];simp[vZ,<- fin,k1]
  .have k1':((r.tests.length:Int)<=32)=False:=eq_false (by omega);simp only[↓vS,vT,simprocAttr,k1'];simp[vZ,<- fin,k1]
 | some t =>
  rw[hq]at hf;have fin:=fin true hf
  by_cases k1:r.tests.length<=32
  .have k1':((r.tests.length:Int)<=32)=True:=eq_true (by omega);simp only[jz,↓vS,vT,simprocAttr,k1'];simp[vZ,<- fin]
  .have k1':((r.tests.length:Int)<=32)=False:=eq_false (by omega);simp only[jz,↓vS,vT,simprocAttr,k1'];simp[vZ,<- fin]
noncomputable def upR:Option GRule->List GRule->Bool
 | _,[]=>true
 | o,r::l=>qb2 r&&(o.elim true λb=>decide (b.nr<r.nr))&&upR (some r) l
noncomputable def jq(x:GFil):Bool:=decide (0<=x.arch)&&decide (x.arch<6)&&decide (x.rules.length<=400)&&knA x.dflt&&upR none x.rules
def qmY(a b:Nat):IFn:=⟨[.tmp 2],sq [.r [.q 1 (.box (.t 0)),.m 2 .F],sq [.r [.f 5 0 1,.d 6 5,.w 7 .lss 6 0,.n 8 7,.h 9 0 1 8 false,.j 10 9 8 false,.g 11 (.bin .geq (.t 10) (.k 6)) 8 false,.o 12 8 11,.n 13 12,.h 14 1 1 13 false,.j 15 14 13 false,.g 16 (.len false (.t 15)) 13 false,.g 17 (.bin .gtr (.t 16) (.k 400)) 13 false,.o 18 13 17,.n 19 18,.h 20 2 1 19 false,.j 21 20 19 false,⟨(some 22),.callF a [.t 21],(some (19,false))⟩,.g 23 (.un .not (.t 22)) 19 false,.o 24 19 23],.cond (.t 24) (sq [.r [.m 2 .F],.ret]) (.skip)],sq [.r [.f 25 1 1,.d 26 25,.e 27 26,.m 28 (.k 0)],.blk 0 (.loop (sq [.r [.s 29 28 27],.cond (.t 29) (.skip) (.exit 0),.blk 1 (sq [.r [.n 30 28,.i 31 3 26 28,.v 32 3 31,.q 4 (.alloc [.w 0,.nils,.w 0]),.n 3 30,.u (.store 3 (.t 4) (.t 32))],.reg true [.v 33 3 4,.l 34 b [.t 33],.q 35 (.un .not (.t 34)),.n 36 35,.z 37 3 36,.g 38 (.bin .gtr (.t 37) (.k 0)) 36 false,.z 39 38 36,.h 40 0 4 39 true,.j 41 40 39 true,.h 42 1 1 39 true,.j 43 42 39 true,.y 44 3 39,.g 45 (.bin .sub (.t 44) (.k 1)) 39 true,.g 46 (.iAddrS 3 (.t 43) (.t 45)) 39 true,.h 47 0 46 39 true,.j 48 47 39 true,.g 49 (.bin .leq (.t 41) (.t 48)) 39 true,.g 50 (.pick (.t 39) (.t 49) .F) 36 false,.o 51 36 50],.cond (.t 51) (sq [.r [.m 2 .F],.ret]) (.skip)]),.r [.a 52 28 1,.n 28 52]]))],.r [.m 2 .T],.ret]⟩
def qJw{g1 g2:Nat}(hc:qc P f (qmY g1 g2)=true)(h1:∀n,qa P g1 [.w n] (.b (knA n)))(h2:∀r:GRule,r.tests.length<=100000->qa P g2 [.agg (zu r)] (.b (qb2 r)))(x:GFil)(hl:x.rules.length<=100000)(ht:∀r ∈ x.rules,r.tests.length<=100000):qa P f [.agg (zq x)] (.b (jq x)):=by
 refine qa.mk hc rfl ?_;simp only[qmY,zq,vI,simprocAttr]
 by_cases k1:x.arch<0
 .have hw:jq x=false:=by simp only[jq,decide_eq_false (by omega:¬0<=x.arch)];simp
  simp only[↓vS,vT,simprocAttr,k1];simp[vZ,hw]
 by_cases k2:6<=x.arch
 .have hw:jq x=false:=by simp only[jq,decide_eq_false (by omega:¬x.arch<6)];simp
  simp only[↓vS,vT,simprocAttr,k1,k2];simp[vZ,hw]
 by_cases k3:(400:Int)<x.rules.length
 .have hw:jq x=false:=by simp only[jq,decide_eq_false (by omega:¬x.rules.length<=400)];simp
  simp only[↓vS,vT,simprocAttr,k1,k2,k3];simp[vZ,hw]
 simp only[↓vS,vT,simprocAttr,k1,k2,k3];refine(h1 x.dflt).sc ?_;cases k4:knA x.dflt with
 | false =>
  have hw:jq x=false:=by simp[jq,k4]
  simp only[↓vS,vT,simprocAttr];simp[vZ,hw]
 | true =>
  have hw:jq x=upR none x.rules:=by
   unfold jq;rw[k4,decide_eq_true (by omega:0<=x.arch),decide_eq_true (by omega:x.arch<6),decide_eq_true (by omega:x.rules.length<=400)];rfl
  rw[hw];simp only[↓vS,vT,simprocAttr]
  refine SL.loop (α:=Nat) (λj=>[(1,.ptr 0 0),(26,.fz x.rules.length (rR x.rules)),(27,.j x.rules.length),(28,.j j)]) (λ_=>[.v (zq x)])
   (λj=>j<=x.rules.length/\upR none x.rules=upR (if j=0 then none else x.rules[j-1]?) (x.rules.drop j)) (λj=>x.rules.length-j) 0 [0] ?_ ?_ ?_ rfl ?_ ?_
  .simp[vw,qq]
  .simp[vw,zq,qq]
  .simp
  .simp_all
  rintro j ⟨hj,hI⟩ G ih;simp only[vI,simprocAttr,zq]
  by_cases hlt:j<x.rules.length
  .have hx:x.rules[j]?=some x.rules[j]:=by simp_all
   have he:=qr1 hx;have hb:=qw9 hlt;have hw:IntKind.wrap .i64 ((j:Int)+1)=((j+1:Nat):Int):=by rw[qp (by omega) (by omega)];omega
   have htl:=ht _ (List.getElem_mem hlt);rw[List.drop_eq_getElem_cons hlt,upR]at hI;generalize hc0:x.rules[j]=r at hI he hx htl;simp only[↓vS,vT,simprocAttr,hlt,hb,he,zu];refine zB ?_;simp only[↓vS,vT,simprocAttr];refine(h2 r htl).pc ?_;cases hk:qb2 r with
   | false =>
    have hwf:upR none x.rules=false:=by rw[hI];grind
    simp only[↓vS,vT,simprocAttr];simp[vZ,hwf]
   | true =>
    by_cases h0:j=0
    .subst h0;have hn:¬(0:Int)<((0:Nat):Int):=by decide
     simp only[↓vS,vT,simprocAttr,hn,hw];refine ih 1 ⟨by omega,?_⟩ (by omega) _ _ (Wk.mk _ _ [0] ?_ ?_ ?_ rfl)
     .rw[hI,hk];grind
     .simp[vw,qq]
      simp_all
     .simp[vw,zq,qq]
     .simp
    .have hp:(0:Int)<(j:Int):=by omega
     have hpl:j-1<x.rules.length:=by omega
     have hy:x.rules[j-1]?=some x.rules[j-1]:=by simp_all
     have hw2:IntKind.wrap .i64 ((j:Int)-1)=((j-1:Nat):Int):=by rw[qp (by omega) (by omega)];omega
     have g0:(rR x.rules)[(j-1)*3]?=some (.w x.rules[j-1].nr):=qqK hy (i:=0) (by decide);rw[if_neg h0,hy]at hI
     by_cases hlt2:r.nr<=x.rules[j-1].nr
     .have hwf:upR none x.rules=false:=by rw[hI];grind
      simp only[↓vS,vT,simprocAttr,hp,hw2,hpl,g0,hlt2];simp[vZ,hwf]
     .simp only[↓vS,vT,simprocAttr,hp,hw2,hpl,g0,hlt2,hw];refine ih (j+1) ⟨by omega,?_⟩ (by omega) _ _ (Wk.mk _ _ [0] ?_ ?_ ?_ rfl)
      .rw[hI,hk];simp_all
      .simp[vw,qq]
      .simp[vw,zq,qq]
      .simp
  .rw[List.drop_of_length_le (by omega),upR]at hI;simp only[↓vS,vT,simprocAttr,hlt];simp[vZ,hI]
end Go.Kc
end
section
namespace Go.Kc
end Go.Kc
end
section
namespace Go.Kc
variable {P:Program} {f:Nat}
end Go.Kc
end
section
namespace Go.Kc
variable {P:Program} {f:Nat}
section
variable {g1 g2 g3 g4 g5:Nat}
end
end Go.Kc
end
section
namespace Go.Kc
variable {E:List UInt8->List (List UInt8)×Int}
variable (E)
variable {E}
end Go.Kc
end
section
namespace Go.Kc
variable {P:Program} {f:Nat}
instance:DecidableEq GCall:=λa b=>if h:a.name=b.name/\a.act=b.act then isTrue (by obtain⟨h1,h2⟩:=h;cases a;cases b;simp_all)else isFalse (by rintro rfl;exact h ⟨rfl,rfl⟩)
section
variable {l m:List Asg} {j:Nat}
end
end Go.Kc
end
section
namespace Go.Kc
variable {P:Program} {f:Nat}
variable {E:List UInt8->List (List UInt8)×Int}
section
variable {g1 g2 g3 g4:Nat}
end
end Go.Kc
end
section
namespace Go.Kc
variable {P:Program} {f:Nat}
end Go.Kc
end
section
namespace Go.Kc
open Go.RowKit
variable {P:Program} {f:Nat}
end Go.Kc
end
section
namespace Go.Kc
variable {P:Program} {f:Nat}
structure GData where
 nr:Int
 arch:Int
 ip:Int
 a0:Int
 a1:Int
 a2:Int
 a3:Int
 a4:Int
 a5:Int
def zt(d:GData):List AV:=[.w d.nr,.w d.arch,.x d.ip,.x d.a0,.x d.a1,.x d.a2,.x d.a3,.x d.a4,.x d.a5]
def qnC(d:GData)(k:Int):Int:=if k=0 then d.a0 else if k=1 then d.a1 else if k=2 then d.a2 else if k=3 then d.a3 else if k=4 then d.a4 else d.a5
def ofM(t n:Int):Int×Bool :=
 if xq (λx=>decide (x.2=t)) zH 0<0 then(0,false)
 else if xq (λx=>decide (x.2=t)) zH 0=0/\xS .u32 n 1073741824≠0 then(2,true)
 else(xq (λx=>decide (x.2=t)) zH 0,true)
def qdj(a:Int):Int:=(zH.getD a.toNat ([],0)).2
def qhP(a:Nat):IFn:=⟨[.tmp 2,.tmp 3],sq [.r [.m 2 (.c (.w 0)),.m 3 (.k 0)],sq [.r [.n 4 0,.w 5 .lss 4 0,.n 6 5,.z 7 0 6,.g 8 (.bin .geq (.t 7) (.k 6)) 6 false,.o 9 6 8],.cond (.t 9) (sq [.r [.m 2 (.c (.w 0)),.m 3 (.k 80)],.ret]) (.skip)],.r [.l 10 a [],.n 11 0,.q 12 (.idxA 6 2 true (.t 10) (.t 11)),.q 13 (.fld 1 none (.t 12)),.n 2 13,.m 3 (.k 0)],.ret]⟩
def qE1{g:Nat}(hc:qc P f (qhP g)=true)(hg:qa P g [] (.agg (zH.flatMap (qa1 .u32))))(a:Int)(h0:0<=a)(h6:a<6):qa P f [.j a] (.tup [.w (qdj a),.j 0]):=by
 refine qa.mk hc rfl ?_;simp only[qhP,vI,simprocAttr];have n1:¬a<0:=by omega
 have n2:¬6<=a:=by omega
 simp only[↓vS,vT,simprocAttr,n1,n2];refine hg.sc ?_;have h3:a=0\/a=1\/a=2\/a=3\/a=4\/a=5:=by omega
 rcases h3 with rfl|rfl|rfl|rfl|rfl|rfl <;>
 .simp only[↓vS,vT,simprocAttr,zH,qa1,List.flatMap_cons,List.flatMap_nil];simp[vZ,qdj,zH]
def qb8(t:GTest)(d:GData):Bool:=decide (0<=t.arg)&&decide (t.arg<6)&&decide (xS .u64 (qnC d t.arg) t.mask=t.val)
def qmx(x:GFil)(d:GData):Int :=
 if(ofM d.arch d.nr).2=false\/(ofM d.arch d.nr).1≠x.arch then 2147418112
 else match x.rules.find? (λr=>decide (r.nr=d.nr))with
  | none=>x.dflt
  | some r=>match r.tests.find? (λt=>qb8 t d)with
   | some t=>t.act
   | none=>r.act
section
variable {g1 g2 g3 g4 g5:Nat}
end
section
variable {g1 g2:Nat}
end
end Go.Kc
end
section
namespace Go.Kc
def fnd(q:GTest->Bool)(y:Int)(l:List GTest):Int:=match l.find? q with|some t=>t.act|none=>y
theorem qkT(q:GTest->Bool)(y:Int):fnd q y []=y:=rfl
theorem qdH(q:GTest->Bool)(y:Int)(t:GTest)(l:List GTest):fnd q y (t::l)=if q t=true then t.act else fnd q y l:=by
 unfold fnd;rw[List.find?_cons];cases q t<;>rfl
def idxS:List Nat:=[25,27,30,17,29,7,28,26]
end Go.Kc
end
section
namespace Go.Kc
variable {P:Program} {f:Nat}

section
variable {e1 e2 g3 g4 g5 g6 g7:Nat}
end
section
variable {g1 g2 g3 g4 g5 g6 g7 g8 g9 g10 g11 g12:Nat}
end



end Go.Kc
end
section
namespace Go.Kc
variable {P:Program} {f g1 g2:Nat}

end Go.Kc
end
section
namespace Go.Kc
variable {P:Program} {f:Nat}
section
variable {g1 g2 g3 g4 g5 g6 g7 g8 g9:Nat}
end
end Go.Kc
end
section
namespace Go.Kc
section
variable {P:Program} {f g1 g2 g3 g4 g5 g6 g7 g8 g9:Nat}
end
section
variable {P:Program} {f g1 g2 g3 g4 g5 g6 g7 g8 g9:Nat}
end
end Go.Kc
end
section
namespace Go.Kc
variable {P:Program} {f:Nat}
def qc2(x:Int×List UInt8×Int):List AV:=[.h x.1,.s x.2.1,.y x.2.2]
def qpQ(x:Int×List UInt8×Int):(qc2 x).length=3:=rfl
def qaO:List (Int×List UInt8×Int):=[(32,[108,100,97,98,115],1),(128,[108,100,108,101,110],1),(0,[108,100,105],1),(96,[108,100,109],1),(129,[108,100,120,108,101,110],1),(1,[108,100,120,105],1),(97,[108,100,120,109],1),(2,[115,116],2),(3,[115,116,120],2),(4,[97,100,100],3),(20,[115,117,98],3),(36,[109,117,108],3),(52,[100,105,118],3),(68,[111,114],3),(84,[97,110,100],3),(100,[108,115,104],3),(116,[114,115,104],3),(164,[120,111,114],3),(12,[97,100,100,120],3),(28,[115,117,98,120],3),(44,[109,117,108,120],3),(60,[100,105,118,120],3),(76,[111,114,120],3),(92,[97,110,100,120],3),(108,[108,115,104,120],3),(124,[114,115,104,120],3),(172,[120,111,114,120],3),(132,[110,101,103],3),(5,[106,97],4),(21,[106,101,113],4),(37,[106,103,116],4),(53,[106,103,101],4),(69,[106,115,101,116],4),(29,[106,101,113,120],4),(45,[106,103,116,120],4),(61,[106,103,101,120],4),(77,[106,115,101,116,120],4),(6,[114,101,116],5),(22,[114,101,116,97],5),(7,[116,97,120],6),(135,[116,120,97],6)]
def zE:List AV:=[.h 0,.s [],.y 0]
def qag(c:Int):Option (Int×List UInt8×Int):=qaO.find? λx=>decide (x.1=c)
def qff:Option (Int×List UInt8×Int)->List AV
 | some x=>qc2 x
 | none=>zE
def qm(c:Int):Int:=(qag c).elim 0 λx=>x.2.2
def zY(c:Int):Bool:=(qag c).isSome
def qga:IFn:=⟨[.cell 0 123 true],sq [.r [.q 0 (.alloc [.h 0,.s [],.y 0,.h 0,.s [],.y 0,.h 0,.s [],.y 0,.h 0,.s [],.y 0,.h 0,.s [],.y 0,.h 0,.s [],.y 0,.h 0,.s [],.y 0,.h 0,.s [],.y 0,.h 0,.s [],.y 0,.h 0,.s [],.y 0,.h 0,.s [],.y 0,.h 0,.s [],.y 0,.h 0,.s [],.y 0,.h 0,.s [],.y 0,.h 0,.s [],.y 0,.h 0,.s [],.y 0,.h 0,.s [],.y 0,.h 0,.s [],.y 0,.h 0,.s [],.y 0,.h 0,.s [],.y 0,.h 0,.s [],.y 0,.h 0,.s [],.y 0,.h 0,.s [],.y 0,.h 0,.s [],.y 0,.h 0,.s [],.y 0,.h 0,.s [],.y 0,.h 0,.s [],.y 0,.h 0,.s [],.y 0,.h 0,.s [],.y 0,.h 0,.s [],.y 0,.h 0,.s [],.y 0,.h 0,.s [],.y 0,.h 0,.s [],.y 0,.h 0,.s [],.y 0,.h 0,.s [],.y 0,.h 0,.s [],.y 0,.h 0,.s [],.y 0,.h 0,.s [],.y 0,.h 0,.s [],.y 0,.h 0,.s [],.y 0,.h 0,.s [],.y 0])],.r [.q 1 (.build [.h 0,.s [],.y 0] [(0,1,(.c (.h 32))),(1,1,(.c (.s [108,100,97,98,115]))),(2,1,(.c (.y 1)))]),.q 2 (.build [.h 0,.s [],.y 0] [(0,1,(.c (.h 128))),(1,1,(.c (.s [108,100,108,101,110]))),(2,1,(.c (.y 1)))]),.q 3 (.build [.h 0,.s [],.y 0] [(0,1,(.c (.h 0))),(1,1,(.c (.s [108,100,105]))),(2,1,(.c (.y 1)))]),.q 4 (.build [.h 0,.s [],.y 0] [(0,1,(.c (.h 96))),(1,1,(.c (.s [108,100,109]))),(2,1,(.c (.y 1)))]),.q 5 (.build [.h 0,.s [],.y 0] [(0,1,(.c (.h 129))),(1,1,(.c (.s [108,100,120,108,101,110]))),(2,1,(.c (.y 1)))]),.q 6 (.build [.h 0,.s [],.y 0] [(0,1,(.c (.h 1))),(1,1,(.c (.s [108,100,120,105]))),(2,1,(.c (.y 1)))]),.q 7 (.build [.h 0,.s [],.y 0] [(0,1,(.c (.h 97))),(1,1,(.c (.s [108,100,120,109]))),(2,1,(.c (.y 1)))]),.q 8 (.build [.h 0,.s [],.y 0] [(0,1,(.c (.h 2))),(1,1,(.c (.s [115,116]))),(2,1,(.c (.y 2)))]),.q 9 (.build [.h 0,.s [],.y 0] [(0,1,(.c (.h 3))),(1,1,(.c (.s [115,116,120]))),(2,1,(.c (.y 2)))]),.q 10 (.build [.h 0,.s [],.y 0] [(0,1,(.c (.h 4))),(1,1,(.c (.s [97,100,100]))),(2,1,(.c (.y 3)))]),.q 11 (.build [.h 0,.s [],.y 0] [(0,1,(.c (.h 20))),(1,1,(.c (.s [115,117,98]))),(2,1,(.c (.y 3)))]),.q 12 (.build [.h 0,.s [],.y 0] [(0,1,(.c (.h 36))),(1,1,(.c (.s [109,117,108]))),(2,1,(.c (.y 3)))]),.q 13 (.build [.h 0,.s [],.y 0] [(0,1,(.c (.h 52))),(1,1,(.c (.s [100,105,118]))),(2,1,(.c (.y 3)))]),.q 14 (.build [.h 0,.s [],.y 0] [(0,1,(.c (.h 68))),(1,1,(.c (.s [111,114]))),(2,1,(.c (.y 3)))]),.q 15 (.build [.h 0,.s [],.y 0] [(0,1,(.c (.h 84))),(1,1,(.c (.s [97,110,100]))),(2,1,(.c (.y 3)))]),.q 16 (.build [.h 0,.s [],.y 0] [(0,1,(.c (.h 100))),(1,1,(.c (.s [108,115,104]))),(2,1,(.c (.y 3)))]),.q 17 (.build [.h 0,.s [],.y 0] [(0,1,(.c (.h 116))),(1,1,(.c (.s [114,115,104]))),(2,1,(.c (.y 3)))]),.q 18 (.build [.h 0,.s [],.y 0] [(0,1,(.c (.h 164))),(1,1,(.c (.s [120,111,114]))),(2,1,(.c (.y 3)))]),.q 19 (.build [.h 0,.s [],.y 0] [(0,1,(.c (.h 12))),(1,1,(.c (.s [97,100,100,120]))),(2,1,(.c (.y 3)))]),.q 20 (.build [.h 0,.s [],.y 0] [(0,1,(.c (.h 28))),(1,1,(.c (.s [115,117,98,120]))),(2,1,(.c (.y 3)))]),.q 21 (.build [.h 0,.s [],.y 0] [(0,1,(.c (.h 44))),(1,1,(.c (.s [109,117,108,120]))),(2,1,(.c (.y 3)))]),.q 22 (.build [.h 0,.s [],.y 0] [(0,1,(.c (.h 60))),(1,1,(.c (.s [100,105,118,120]))),(2,1,(.c (.y 3)))]),.q 23 (.build [.h 0,.s [],.y 0] [(0,1,(.c (.h 76))),(1,1,(.c (.s [111,114,120]))),(2,1,(.c (.y 3)))]),.q 24 (.build [.h 0,.s [],.y 0] [(0,1,(.c (.h 92))),(1,1,(.c (.s [97,110,100,120]))),(2,1,(.c (.y 3)))]),.q 25 (.build [.h 0,.s [],.y 0] [(0,1,(.c (.h 108))),(1,1,(.c (.s [108,115,104,120]))),(2,1,(.c (.y 3)))]),.q 26 (.build [.h 0,.s [],.y 0] [(0,1,(.c (.h 124))),(1,1,(.c (.s [114,115,104,120]))),(2,1,(.c (.y 3)))]),.q 27 (.build [.h 0,.s [],.y 0] [(0,1,(.c (.h 172))),(1,1,(.c (.s [120,111,114,120]))),(2,1,(.c (.y 3)))]),.q 28 (.build [.h 0,.s [],.y 0] [(0,1,(.c (.h 132))),(1,1,(.c (.s [110,101,103]))),(2,1,(.c (.y 3)))]),.q 29 (.build [.h 0,.s [],.y 0] [(0,1,(.c (.h 5))),(1,1,(.c (.s [106,97]))),(2,1,(.c (.y 4)))]),.q 30 (.build [.h 0,.s [],.y 0] [(0,1,(.c (.h 21))),(1,1,(.c (.s [106,101,113]))),(2,1,(.c (.y 4)))]),.q 31 (.build [.h 0,.s [],.y 0] [(0,1,(.c (.h 37))),(1,1,(.c (.s [106,103,116]))),(2,1,(.c (.y 4)))]),.q 32 (.build [.h 0,.s [],.y 0] [(0,1,(.c (.h 53))),(1,1,(.c (.s [106,103,101]))),(2,1,(.c (.y 4)))]),.q 33 (.build [.h 0,.s [],.y 0] [(0,1,(.c (.h 69))),(1,1,(.c (.s [106,115,101,116]))),(2,1,(.c (.y 4)))]),.q 34 (.build [.h 0,.s [],.y 0] [(0,1,(.c (.h 29))),(1,1,(.c (.s [106,101,113,120]))),(2,1,(.c (.y 4)))]),.q 35 (.build [.h 0,.s [],.y 0] [(0,1,(.c (.h 45))),(1,1,(.c (.s [106,103,116,120]))),(2,1,(.c (.y 4)))]),.q 36 (.build [.h 0,.s [],.y 0] [(0,1,(.c (.h 61))),(1,1,(.c (.s [106,103,101,120]))),(2,1,(.c (.y 4)))]),.q 37 (.build [.h 0,.s [],.y 0] [(0,1,(.c (.h 77))),(1,1,(.c (.s [106,115,101,116,120]))),(2,1,(.c (.y 4)))]),.q 38 (.build [.h 0,.s [],.y 0] [(0,1,(.c (.h 6))),(1,1,(.c (.s [114,101,116]))),(2,1,(.c (.y 5)))]),.q 39 (.build [.h 0,.s [],.y 0] [(0,1,(.c (.h 22))),(1,1,(.c (.s [114,101,116,97]))),(2,1,(.c (.y 5)))]),.q 40 (.build [.h 0,.s [],.y 0] [(0,1,(.c (.h 7))),(1,1,(.c (.s [116,97,120]))),(2,1,(.c (.y 6)))]),.q 41 (.build [.h 0,.s [],.y 0] [(0,1,(.c (.h 135))),(1,1,(.c (.s [116,120,97]))),(2,1,(.c (.y 6)))]),.q 42 (.build [.h 0,.s [],.y 0,.h 0,.s [],.y 0,.h 0,.s [],.y 0,.h 0,.s [],.y 0,.h 0,.s [],.y 0,.h 0,.s [],.y 0,.h 0,.s [],.y 0,.h 0,.s [],.y 0,.h 0,.s [],.y 0,.h 0,.s [],.y 0,.h 0,.s [],.y 0,.h 0,.s [],.y 0,.h 0,.s [],.y 0,.h 0,.s [],.y 0,.h 0,.s [],.y 0,.h 0,.s [],.y 0,.h 0,.s [],.y 0,.h 0,.s [],.y 0,.h 0,.s [],.y 0,.h 0,.s [],.y 0,.h 0,.s [],.y 0,.h 0,.s [],.y 0,.h 0,.s [],.y 0,.h 0,.s [],.y 0,.h 0,.s [],.y 0,.h 0,.s [],.y 0,.h 0,.s [],.y 0,.h 0,.s [],.y 0,.h 0,.s [],.y 0,.h 0,.s [],.y 0,.h 0,.s [],.y 0,.h 0,.s [],.y 0,.h 0,.s [],.y 0,.h 0,.s [],.y 0,.h 0,.s [],.y 0,.h 0,.s [],.y 0,.h 0,.s [],.y 0,.h 0,.s [],.y 0,.h 0,.s [],.y 0,.h 0,.s [],.y 0,.h 0,.s [],.y 0] [(0,3,(.t 1)),(3,3,(.t 2)),(6,3,(.t 3)),(9,3,(.t 4)),(12,3,(.t 5)),(15,3,(.t 6)),(18,3,(.t 7)),(21,3,(.t 8)),(24,3,(.t 9)),(27,3,(.t 10)),(30,3,(.t 11)),(33,3,(.t 12)),(36,3,(.t 13)),(39,3,(.t 14)),(42,3,(.t 15)),(45,3,(.t 16)),(48,3,(.t 17)),(51,3,(.t 18)),(54,3,(.t 19)),(57,3,(.t 20)),(60,3,(.t 21)),(63,3,(.t 22)),(66,3,(.t 23)),(69,3,(.t 24)),(72,3,(.t 25)),(75,3,(.t 26)),(78,3,(.t 27)),(81,3,(.t 28)),(84,3,(.t 29)),(87,3,(.t 30)),(90,3,(.t 31)),(93,3,(.t 32)),(96,3,(.t 33)),(99,3,(.t 34)),(102,3,(.t 35)),(105,3,(.t 36)),(108,3,(.t 37)),(111,3,(.t 38)),(114,3,(.t 39)),(117,3,(.t 40)),(120,3,(.t 41))]),.u (.store 123 (.t 0) (.t 42))],.ret]⟩
set_option maxRecDepth 20000 in
def qBc(hc:qc P f qga=true):qa P f [] (.agg (qaO.flatMap qc2)):=by
 refine qa.mk hc rfl ?_;simp only[qga,vI,simprocAttr];simp only[↓vS,vT,simprocAttr,qaO,qc2,List.flatMap_cons,List.flatMap_nil,vZ]
def qi7(a:Nat):IFn:=⟨[.cell 2 3 true,.tmp 3],sq [.r [.q 2 (.alloc [.h 0,.s [],.y 0]),.m 3 .F],sq [.r [.l 6 a [],.m 7 (.k 0)],.blk 0 (.loop (sq [.r [.w 8 .lss 7 41],.cond (.t 8) (.skip) (.exit 0),.blk 1 (sq [.r [.q 9 (.idxA 41 3 true (.t 6) (.t 7)),.q 5 (.alloc [.h 0,.s [],.y 0]),.u (.store 3 (.t 5) (.t 9))],.r [.n 10 0,.v 11 3 5,⟨(some 12),.callV (.t 10) [.t 11],none⟩],.cond (.t 12) (sq [.r [.v 13 3 5,.u (.store 3 (.t 2) (.t 13)),.m 3 .T],.ret]) (.skip)]),.r [.a 14 7 1,.n 7 14]]))],.r [.q 15 (.build [.h 0,.s [],.y 0] []),.u (.store 3 (.t 2) (.t 15)),.m 3 .F],.ret]⟩
def qFw{e:Nat}(hc:qc P f (qi7 e)=true)(he:qa P e [] (.agg (qaO.flatMap qc2))){g:Nat}{a c:List AV}(ha:qt a=true)(hcc:qt c=true)(p:Int×List UInt8×Int->Bool)(hp:∀x ∈ qaO,qa P g (a++([.agg (qc2 x)]++c)) (.b (p x))) :
  qa P f [.fn g a c] (.tup [.agg (qff (qaO.find? p)),.b (qaO.find? p).isSome]):=by
 refine qa.mk hc (by simp[qt,clo,ha,hcc]) ?_;simp only[qi7,vI,simprocAttr];simp only[↓vS,vT,simprocAttr];refine he.sc ?_;simp only[↓vS,vT,simprocAttr];have hlen:(qaO.flatMap qc2).length=123:=by rw[qW (m:=3) qpQ];rfl
 have hTc:qt (qaO.flatMap qc2)=true:=rfl;refine SL.loop (α:=Nat) (λj=>[(0,.fn g a c),(2,.ptr 0 0),(6,.agg (qaO.flatMap qc2)),(7,.j j)]) (λ_=>[.v zE]) (λj=>j<=41/\qaO.find? p=(qaO.drop j).find? p) (λj=>41-j) 0 [0] ?_ ?_ ?_ rfl ?_ ?_
 .generalize qaO.flatMap qc2=T at hTc;simp[vw,qe,hTc,ha,hcc]
 .simp[vw,zE]
 .simp
 .simp_all
 rintro j ⟨hj,hI⟩ G ih;simp only[vI,simprocAttr]
 by_cases hlt:j<41
 .have hlt':(j:Int)<41:=by omega
  have hjl:j<qaO.length:=hlt;have hx:qaO[j]?=some qaO[j]:=by simp_all
  have hw:IntKind.wrap .i64 ((j:Int)+1)=((j+1:Nat):Int):=by rw[qp (by omega) (by omega)];omega
  have hel:=qS (f:=qc2) (m:=3) qpQ hx;have hb:j*3+3<=(qaO.flatMap qc2).length:=by omega
  have hpx:=hp _ (List.getElem_mem hjl);rw[List.drop_eq_getElem_cons hjl,List.find?_cons]at hI;generalize hc0:qaO[j]=x at hel hI hpx;generalize hT:qaO.flatMap qc2=T at hel hb hlen hTc;simp only[qc2]at hpx;simp only[↓vS,vT,simprocAttr,hlt',hlt,hel,hb,qc2,zE];refine hpx.sc ?_;cases hs:p x with
  | true =>
   rw[hs]at hI;simp +decide only[↓vS,vT,simprocAttr];rw[hI];simp[vZ,qff,qc2]
  | false =>
   rw[hs]at hI;simp +decide only[↓vS,vT,simprocAttr,hw];refine ih (j+1) ⟨hlt,hI⟩ (by omega) _ _ (Wk.mk _ _ [0] ?_ ?_ ?_ rfl)
   .rw[hT];simp[vw,qe,hTc,ha,hcc]
   .simp[vw,zE]
   .simp
 .have hj':j=41:=by omega
  subst hj';have hlt':¬(((41:Nat):Int)<41):=by decide
  have hI':qaO.find? p=none:=hI;clear ih;generalize qaO.flatMap qc2=T;simp +decide only[↓vS,vT,simprocAttr,hlt',zE];rw[hI'];simp[vZ,qff,zE]
def qi6:IFn:=⟨[.tmp 3],sq [.r [.q 2 (.box (.t 0)),.m 3 .F],.r [.f 4 0 2,.d 5 4,.d 6 1,.b 7 .eql 5 6,.n 3 7],.ret]⟩
def qGZ(hc:qc P f qi6=true)(x:Int×List UInt8×Int)(n:Int):qa P f [.agg (qc2 x),.pf [.h n] 0] (.b (decide (x.1=n))):=by
 refine qa.mk hc (by simp[qt,clo,qc2]) ?_;simp only[qi6,qc2,vI,simprocAttr];simp only[↓vS,vT,simprocAttr,vZ]
def qlF(a b:Nat):IFn:=⟨[.cell 2 3 true,.tmp 3],sq [.r [.q 1 (.box (.t 0)),.q 2 (.alloc [.h 0,.s [],.y 0]),.m 3 .F],.r [.q 4 (.mkF a [] [.t 1]),.l 5 b [.t 4],.x 6 5 0,.x 7 5 1,.u (.store 3 (.t 2) (.t 6)),.n 3 7],.ret]⟩
def qIb{g1 g2:Nat}(hc:qc P f (qlF g1 g2)=true)(h1:∀x n,qa P g1 [.agg (qc2 x),.pf [.h n] 0] (.b (decide (x.1=n))))(h2:∀(g:Nat) (a c:List AV),qt a=true->qt c=true->∀p:Int×List UInt8×Int->Bool,(∀x ∈ qaO,qa P g (a++([.agg (qc2 x)]++c)) (.b (p x)))->qa P g2 [.fn g a c] (.tup [.agg (qff (qaO.find? p)),.b (qaO.find? p).isSome]))(n:Int) :
  qa P f [.h n] (.tup [.agg (qff (qag n)),.b (zY n)]):=by
 refine qa.mk hc rfl ?_;have h:=h2 g1 [] [.pf [.h n] 0] rfl rfl (λx=>decide (x.1=n)) (λx _=>h1 x n)
 unfold zY qag;have hce:qt (qff (qaO.find? λx=>decide (x.1=n)))=true/\(qff (qaO.find? λx=>decide (x.1=n))).length=3:=by cases qaO.find? λx=>decide (x.1=n)<;>exact⟨rfl,rfl⟩
 generalize(qaO.find? λx=>decide (x.1=n))=o at h hce ⊢
 simp only[qlF,vI,simprocAttr];simp only[↓vS,vT,simprocAttr];refine(h.lend (vs':=[.fn g1 [] [.pf [.h n] 0]]) ?_ ?_ ?_)
 .simp[vZ,vP,Tr.get_set]
 .cases o<;>rfl
 cases o with
 | none =>
  simp +decide only[↓vS,vT,simprocAttr,qff,zE];simp[vZ]
 | some x =>
  simp +decide only[↓vS,vT,simprocAttr,qff,qc2];simp[vZ]
def qlE(a:Nat):IFn:=⟨[.tmp 2],sq [.r [.m 2 (.c (.y 0))],.r [.n 6 0,.l 7 a [.t 6],.n 5 7,.x 8 5 0,.x 9 5 1,.q 3 (.alloc [.h 0,.s [],.y 0]),.u (.store 3 (.t 3) (.t 8)),.n 4 9],.r [.f 10 2 3,.d 11 10,.n 2 11],.ret]⟩
def qIa{g:Nat}(hc:qc P f (qlE g)=true)(hg:∀n,qa P g [.h n] (.tup [.agg (qff (qag n)),.b (zY n)]))(n:Int):qa P f [.h n] (.y (qm n)):=by
 refine qa.mk hc rfl ?_;have h:=hg n;unfold zY at h;simp only[qlE,vI,simprocAttr];simp only[↓vS,vT,simprocAttr];refine h.sc ?_;cases hcn:qag n with
 | none =>
  simp +decide only[↓vS,vT,simprocAttr,qff,zE];simp[vZ,qm,zY,hcn]
 | some x =>
  simp +decide only[↓vS,vT,simprocAttr,qff,qc2];simp[vZ,qm,zY,hcn]
def qhX(a:Nat):IFn:=⟨[.tmp 2],sq [.r [.m 2 .F],.r [.n 6 0,.l 7 a [.t 6],.n 5 7,.x 8 5 0,.x 9 5 1,.q 3 (.alloc [.h 0,.s [],.y 0]),.u (.store 3 (.t 3) (.t 8)),.n 4 9],.r [.n 10 4,.n 2 10],.ret]⟩
def qC2{g:Nat}(hc:qc P f (qhX g)=true)(hg:∀n,qa P g [.h n] (.tup [.agg (qff (qag n)),.b (zY n)]))(n:Int):qa P f [.h n] (.b (zY n)):=by
 refine qa.mk hc rfl ?_;have h:=hg n;unfold zY at h;simp only[qhX,vI,simprocAttr];simp only[↓vS,vT,simprocAttr];refine h.sc ?_;cases hcn:qag n with
 | none =>
  simp +decide only[↓vS,vT,simprocAttr,qff,zE];simp[vZ,qm,zY,hcn]
 | some x =>
  simp +decide only[↓vS,vT,simprocAttr,qff,qc2];simp[vZ,qm,zY,hcn]
end Go.Kc
end
section
namespace Go.Kc
variable {P:Program} {f:Nat}
def leM:List Int->Int
 | []=>0
 | x::l=>x+256*leM l
def qdz(b:List Int):Prop:=∀x ∈ b,0<=x/\x<=255
def qrz:∀(l:List Int) (x:Int),leM (l++[x])=leM l+256 ^ l.length*x
 | [],x=>by simp[leM]
 | y::l,x=>by
  simp only[zzC,leM,qrz l x,List.length_cons,Int.pow_succ,Int.mul_add];have:256*(256 ^ l.length*x)=256 ^ l.length*256*x:=by rw[<- Int.mul_assoc,Int.mul_comm 256]
  rw[this];omega
def qm2:∀{l:List Int},qdz l->0<=leM l/\leM l<256 ^ l.length
 | [],_=>by simp[leM]
 | x::l,h=>by
  have h1:=qm2 (l:=l) λy hy=>h y (by grind)
  have h2:=h x (by simp);simp only[leM,List.length_cons,Int.pow_succ];omega
def qoO{b:List Int}(h:qdz b)(n:Nat):qdz (b.take n):=λx hx=>h x (by grind)
def qoN{b:List Int}(h:qdz b)(n:Nat):qdz (b.drop n):=λx hx=>h x (by grind)
def qz8{q:IntKind}(hq:q = .u16\/q = .u32){x c:Int}{i:Nat}(hi:8*(i+1)<=q.bits)(hx0:0<=x)(hx:x<256 ^ i)(hc0:0<=c)(hc:c<=255):orI q x (qpX q (q.wrap c) (8*(i:Int)))=x+256 ^ i*c:=by
 obtain⟨a,rfl⟩:∃a:Nat,x=a:=⟨x.toNat,by omega⟩
 obtain⟨d,rfl⟩:∃d:Nat,c=d:=⟨c.toNat,by omega⟩
 have e256:∀i:Nat,(256:Int) ^ i=((2 ^ (8*i):Nat):Int):=λi=>by
  rw[Nat.pow_mul];simp
 rw[e256]at hx ⊢;have ha:a<2 ^ (8*i):=by omega
 have hle:2 ^ (8*(i+1))<=2 ^ q.bits:=Nat.pow_le_pow_right (by decide) hi
 have hd:d*2 ^ (8*i)+a<2 ^ q.bits:=by
  have h1:d*2 ^ (8*i)<=255*2 ^ (8*i):=Nat.mul_le_mul_right _ (by omega);have h2:2 ^ (8*(i+1))=256*2 ^ (8*i):=by rw[Nat.mul_add,Nat.pow_add,Nat.mul_comm]
  omega
 have hpos:0<2 ^ (8*i):=by omega
 have hor:(2 ^ (8*i)*d ||| a)=2 ^ (8*i)*d+a:=(Nat.two_pow_add_eq_or_of_lt ha d).symm
 have hd2:d*2 ^ (8*i)<2 ^ q.bits:=by omega
 rcases hq with rfl|rfl
 .have hb:(2:Nat) ^ IntKind.u16.bits=65536:=by decide
  rw[hb]at hd hd2;have h8:i<=1:=by simp only[IntKind.bits]at hi;omega
  have w1:IntKind.wrap .u16 (d:Int)=d:=by
   show((d:Int) % 65536)=d;omega
  have w2:qpX .u16 (d:Int) (8*(i:Int))=((d*2 ^ (8*i):Nat):Int):=by
   rcases(by omega:i=0\/i=1)with rfl|rfl
   .show IntKind.wrap .u16 _=_;simp[p2,IntKind.wrap,IntKind.bits,IntKind.signed];omega
   .show IntKind.wrap .u16 _=_;simp[p2,IntKind.wrap,IntKind.bits,IntKind.signed]at hd2 ⊢;omega
  rw[w1,w2];show IntKind.wrap .u16 (((BitVec.ofInt 16 (a:Int) ||| BitVec.ofInt 16 ((d*2 ^ (8*i):Nat):Int)).toNat:Nat):Int)=_
  have e1:(BitVec.ofInt 16 (a:Int)).toNat=a:=by rw[BitVec.toNat_ofInt];omega
  have e2:(BitVec.ofInt 16 ((d*2 ^ (8*i):Nat):Int)).toNat=d*2 ^ (8*i):=by rw[BitVec.toNat_ofInt];omega
  rw[BitVec.toNat_or,e1,e2,Nat.or_comm,Nat.mul_comm d,hor];rw[Nat.mul_comm]at hd;show((2 ^ (8*i)*d+a:Nat):Int) % 65536=_;rw[Int.emod_eq_of_lt (by omega) (by omega)];omega
 .have hb:(2:Nat) ^ IntKind.u32.bits=4294967296:=by decide
  rw[hb]at hd hd2;have h8:i<=3:=by simp only[IntKind.bits]at hi;omega
  have w1:IntKind.wrap .u32 (d:Int)=d:=by
   show((d:Int) % 4294967296)=d;omega
  have w2:qpX .u32 (d:Int) (8*(i:Int))=((d*2 ^ (8*i):Nat):Int):=by
   rcases(by omega:i=0\/i=1\/i=2\/i=3)with rfl|rfl|rfl|rfl <;>
   .show IntKind.wrap .u32 _=_;simp[p2,IntKind.wrap,IntKind.bits,IntKind.signed]at hd2 ⊢;omega
  rw[w1,w2];show IntKind.wrap .u32 (((BitVec.ofInt 32 (a:Int) ||| BitVec.ofInt 32 ((d*2 ^ (8*i):Nat):Int)).toNat:Nat):Int)=_
  have e1:(BitVec.ofInt 32 (a:Int)).toNat=a:=by rw[BitVec.toNat_ofInt];omega
  have e2:(BitVec.ofInt 32 ((d*2 ^ (8*i):Nat):Int)).toNat=d*2 ^ (8*i):=by rw[BitVec.toNat_ofInt];omega
  rw[BitVec.toNat_or,e1,e2,Nat.or_comm,Nat.mul_comm d,hor];rw[Nat.mul_comm]at hd;show((2 ^ (8*i)*d+a:Nat):Int) % 4294967296=_;rw[Int.emod_eq_of_lt (by omega) (by omega)];omega
def rB(b:List Int):List AV:=rI .u8 b
def qk0(b:List Int):qt (rB b)=true:=qh
def qEn(b:List Int)(j:Nat):(rB b)[j]?=(b[j]?).map (.i .u8):=qaW
def qj7(b:List Int)(at' n:Nat):List Int:=(b.drop at').take n
def qxy{b:List Int}{at' n:Nat}(h:at'+n<=b.length):(qj7 b at' n).length=n:=by unfold qj7;grind
def qt0{b:List Int}{at' j:Nat}{c:Int}(h:b[at'+j]?=some c):qj7 b at' (j+1)=qj7 b at' j++[c]:=by
 unfold qj7;rw[List.take_add_one,List.getElem?_drop,h];rfl
def qAI{b:List Int}(h:qdz b)(at' n:Nat):qdz (qj7 b at' n):=qoO (qoN h at') n
def qqy(b:List Int)(at':Nat):AV:=if at'+2<=b.length then .tup [.h (leM (qj7 b at' 2)),.b true]else .tup [.h 0,.b false]
def qda:IFn:=⟨[.tmp 6,.tmp 7],sq [.r [.m 6 (.c (.h 0)),.m 7 .F],sq [.r [.n 10 1,.w 11 .lss 10 0,.n 12 11,.z 13 1 12,.z 14 0 12,.g 15 (.len false (.t 14)) 12 false,.z 16 2 12,.g 17 (.bin .sub (.t 15) (.t 16)) 12 false,.g 18 (.bin .gtr (.t 13) (.t 17)) 12 false,.o 19 12 18],.cond (.t 19) (sq [.r [.m 6 (.c (.h 0)),.m 7 .F],.ret]) (.skip)],.r [.m 8 (.c (.h 0))],sq [.r [.n 20 2,.m 21 (.k 0)],.blk 0 (.loop (sq [.r [.s 22 21 20],.cond (.t 22) (.skip) (.exit 0),.blk 1 (sq [.r [.n 23 21,.n 9 23],.r [.n 24 8,.n 25 0,.n 26 1,.n 27 9,.b 28 .add 26 27,.i 29 1 25 28,.d 30 29,.q 31 (.cvInt .u16 (.t 30)),.n 32 9,.q 33 (.bin .mul (.k 8) (.t 32)),.b 34 .shl 31 33,.b 35 .or 24 34,.n 8 35]]),.r [.a 36 21 1,.n 21 36]]))],.r [.n 37 8,.n 6 37,.m 7 .T],.ret]⟩
def qJo(hc:qc P f qda=true)(b:List Int)(hb:qdz b)(hl:b.length<=2000000)(at':Nat)(ha:at'<=2000000):qa P f [.fz b.length (rB b),.j at',.j 2] (qqy b at'):=by
 refine qa.mk hc (by simp[qt,clo,qk0]) ?_;have hn:¬(at':Int)<0:=by omega
 have hw0:IntKind.wrap .i64 ((b.length:Int)-2)=(b.length:Int)-2:=by grind[qp]
 unfold qqy;simp only[qda,vI,simprocAttr]
 by_cases h:at'+2<=b.length
 .have h':¬(b.length:Int)-2<(at':Int):=by omega
  rw[if_pos h];simp +decide only[↓vS,vT,simprocAttr,hn,h',hw0];refine SL.loop (α:=Nat) (λj=>[(0,.fz b.length (rB b)),(1,.j at'),(8,.h (leM (qj7 b at' j))),(20,.j 2),(21,.j j)]) (λ_=>[]) (λj=>j<=2) (λj=>2-j) 0 [] ?_ ?_ ?_ rfl ?_ ?_
  .simp[vw,qk0,qj7,leM]
  .trivial
  .simp
  .omega
  rintro j hj G ih;simp only[vI,simprocAttr]
  by_cases hlt:j<2
  .have hlt':(j:Int)<2:=by omega
   have hjl:at'+j<b.length:=by omega
   obtain⟨c,hcx⟩:∃c,b[at'+j]?=some c:=⟨_,zzE hjl⟩;have hcb:=hb c (by grind);have hw:IntKind.wrap .i64 ((j:Int)+1)=((j+1:Nat):Int):=by rw[qp (by omega) (by omega)];omega
   have hw2:IntKind.wrap .i64 ((at':Int)+(j:Int))=((at'+j:Nat):Int):=by rw[qp (by omega) (by omega)];omega
   have hw3:IntKind.wrap .i64 (8*(j:Int))=8*(j:Int):=by grind[qp]
   have h8:(0:Int)<=8*(j:Int):=by omega
   have hbd:=qm2 (qAI hb at' j);have hsl:(qj7 b at' j).length=j:=qxy (by omega);rw[hsl]at hbd;have hor:=qz8 (q:=.u16) (by simp) (i:=j) (x:=leM (qj7 b at' j)) (c:=c) (by simp only[IntKind.bits];omega) hbd.1 hbd.2 hcb.1 hcb.2;have hnx:leM (qj7 b at' (j+1))=leM (qj7 b at' j)+256 ^ j*c:=by rw[qt0 hcx,qrz,hsl]
   have ih2:=ih (j+1);rw[hnx]at ih2;simp +decide only[↓vS,vT,simprocAttr,hlt',hw2,hjl,zzU,qEn,hcx,Option.map_some,hw3,h8,hor,hw];refine ih2 (by omega) (by omega) _ _ (Wk.mk _ _ [] ?_ ?_ ?_ rfl)
   .simp[vw,qk0]
   .trivial
   .simp
  .have hlt':¬(j:Int)<2:=by omega
   obtain rfl:j=2:=by omega
   clear ih;simp +decide only[↓vS,vT,simprocAttr,hlt'];simp[vZ]
 .have h':(b.length:Int)-2<(at':Int):=by omega
  rw[if_neg h];simp +decide only[↓vS,vT,simprocAttr,hn,h',hw0];simp[vZ]
def qg3(a:Nat):IFn:=⟨[.tmp 4,.tmp 5],sq [.r [.m 4 (.c (.h 0)),.m 5 .F],.r [.n 6 0,.n 7 1,.l 8 a [.t 6,.t 7,.k 2],.x 9 8 0,.x 10 8 1,.n 4 9,.n 5 10],.ret]⟩
def qJn{g:Nat}(hc:qc P f (qg3 g)=true)(hg:∀(b:List Int),qdz b->b.length<=2000000->∀at':Nat,at'<=2000000->qa P g [.fz b.length (rB b),.j at',.j 2] (qqy b at'))(b:List Int)(hb:qdz b)(hl:b.length<=2000000)(at':Nat)(ha:at'<=2000000):qa P f [.fz b.length (rB b),.j at'] (qqy b at'):=by
 refine qa.mk hc (by simp[qt,clo,qk0]) ?_;have h:=hg b hb hl at' ha;unfold qqy at h ⊢;simp only[qg3,vI,simprocAttr];simp only[↓vS,vT,simprocAttr];refine h.sc ?_;split
 .simp +decide only[↓vS,vT,simprocAttr];simp[vZ]
 .simp +decide only[↓vS,vT,simprocAttr];simp[vZ]
structure Ins where
 code:Int
 jt:Int
 jf:Int
 k:Int
def qI(i:Ins):List AV:=[.h i.code,.y i.jt,.y i.jf,.w i.k]
def qaX(i:Ins):(qI i).length=4:=rfl
def qCi(P:Program)(g:Nat):Prop:=∀(b:List Int),qdz b->b.length<=2000000->∀at':Nat,at'<=2000000->qa P g [.fz b.length (rB b),.j at'] (qqy b at')
def rP(p:List Ins):List AV:=p.flatMap qI
def qeY(p:List Ins):(rP p).length=p.length*4:=qW qaX p
theorem qw(p:List Ins):qt (rP p)=true:=xP (λ_=>rfl)
def qEH{h:Hp}{esz n a c:Nat}{q q2 q3:IntKind}{cs:List AV}{k:AV->Prop}(h1:a<c)(h2:c<=n)(h3:c*esz<=cs.length):slK esz (some (.i q (a:Int))) (some (.i q2 (c:Int))) (some (.i q3 (c:Int))) (.fz n cs) h k↔evA (.fz (c-a) ((cs.drop (a*esz)).take ((c-a)*esz))) k:=by
 have hne:Nat.beq c a=false:=by
  grind[Nat.eq_of_beq_eq_true]
 have e1:a*esz<=cs.length:=Nat.le_trans (Nat.mul_le_mul_right _ (by omega)) h3
 have e2:(c-a)*esz<=(cs.drop (a*esz)).length:=by
  rw[List.length_drop,Nat.sub_mul];omega
 have hac:a<=c:=by omega
 simp only[slK,qkM,qq7];show(ifK (c<=n) (ifK (c<=c) (ifK (a<=c) _)))↔_;simp only[ifK,h2,hac,zzL,true_and,Option.isSome_some,hne,Bool.true_and,Bool.false_eq_true,if_false];show(a*esz<=cs.length/\(c-a)*esz<=(cs.drop (a*esz)).length/\_)↔_;simp only[e1,e2,true_and];exact Iff.rfl
def qlA{sz fl:Nat}{tr:Tr Blk}{x:Blk}:Hp.push ⟨sz,fl,tr⟩ x=⟨sz+1,fl,tr.set sz x⟩:=rfl
def qfX{r:Loop}(h:r.state = .ready)(h2:r.pending=none):rdy r=r:=by cases r;simp_all [rdy]
def qqZ(x:BitVec 16):IntKind.wrap .u16 (x.toNat:Int)=(x.toNat:Int):=by
 have:=x.isLt;show((x.toNat:Int)) % 65536=_;omega
def qhw(x:BitVec 16):BitVec.ofInt 16 (x.toNat:Int)=x:=by simp
def qIO(x y:BitVec 16):orI .u16 (x.toNat:Int) (y.toNat:Int)=((x ||| y).toNat:Int):=by
 show IntKind.wrap .u16 ((BitVec.ofInt 16 (x.toNat:Int) ||| BitVec.ofInt 16 (y.toNat:Int)).toNat:Int)=_
 rw[qhw,qhw,qqZ]
def qAX(x y:BitVec 16):xS .u16 (x.toNat:Int) (y.toNat:Int)=((x &&& y).toNat:Int):=by
 show IntKind.wrap .u16 ((BitVec.ofInt 16 (x.toNat:Int) &&& BitVec.ofInt 16 (y.toNat:Int)).toNat:Int)=_;rw[qhw,qhw,qqZ]
def qA8(x y:BitVec 16):qeH .u16 (x.toNat:Int) (y.toNat:Int)=((x &&& ~~~ y).toNat:Int):=by
 show IntKind.wrap .u16 ((BitVec.ofInt 16 (x.toNat:Int) &&& ~~~ (BitVec.ofInt 16 (y.toNat:Int))).toNat:Int)=_;rw[qhw,qhw,qqZ]
def cell(k:Int):BitVec 16:=1#16 <<< k.toNat
def qxs{k:Int}(h0:0<=k)(h:k<16):qpX .u16 1 k=((cell k).toNat:Int):=by
 have key:∀n:Fin 16,qpX .u16 1 (n.val:Int)=((cell (n.val:Int)).toNat:Int):=by decide
 have:=key ⟨k.toNat,by omega⟩
 grind
structure InsOk (i:Ins):Prop where
 c0:0<=i.code
 c1:i.code<=65535
 t0:0<=i.jt
 t1:i.jt<=255
 f0:0<=i.jf
 f1:i.jf<=255
 k0:0<=i.k
 k1:i.k<=4294967295
def cOf(P:Program)(g:Nat):Prop:=∀n,qa P g [.h n] (.y (qm n))
def wrM(i:Ins):BitVec 16:=if qm i.code=2/\i.k<16 then cell i.k else 0#16
def rdM(i:Ins):BitVec 16:=if(i.code=96\/i.code=97)/\i.k<16 then cell i.k else 0#16
def qf7(a:Nat):IFn:=⟨[.tmp 2],sq [.r [.q 1 (.box (.t 0)),.m 2 (.c (.h 0))],sq [.r [.f 3 0 1,.d 4 3,.l 5 a [.t 4],.q 6 (.bin .neq (.t 5) (.c (.y 2))),.n 7 6,.h 8 3 1 7 false,.j 9 8 7 false,.g 10 (.bin .geq (.t 9) (.c (.w 16))) 7 false,.o 11 7 10],.cond (.t 11) (sq [.r [.m 2 (.c (.h 0))],.ret]) (.skip)],.r [.f 12 3 1,.d 13 12,.q 14 (.bin .shl (.c (.h 1)) (.t 13)),.n 2 14],.ret]⟩
def qBH{g:Nat}(hc:qc P f (qf7 g)=true)(hg:cOf P g)(i:Ins)(hi:InsOk i):qa P f [.agg (qI i)] (.h ((wrM i).toNat:Int)):=by
 refine qa.mk hc (by rfl) ?_;have h0:=hi.k0;unfold wrM;simp only[qf7,qI,vI,simprocAttr];simp +decide only[↓vS,vT,simprocAttr];refine(hg _).sc ?_
 by_cases h2:qm i.code=2
 .by_cases hk:i.k<16
  .have hk':¬16<=i.k:=by omega
   rw[if_pos ⟨h2,hk⟩];simp +decide only[↓vS,vT,simprocAttr,h2,hk,hk',h0,qxs h0 hk];simp[vZ]
  .have hk':16<=i.k:=by omega
   rw[if_neg (λh=>hk h.2)]
   simp +decide only[↓vS,vT,simprocAttr,h2,hk,hk'];simp[vZ]
 .rw[if_neg (λh=>h2 h.1)]
  simp +decide only[↓vS,vT,simprocAttr,h2];simp[vZ]
def qgI:IFn:=⟨[.tmp 2],sq [.r [.q 1 (.box (.t 0)),.m 2 (.c (.h 0))],sq [.r [.f 3 0 1,.d 4 3,.q 5 (.bin .neq (.t 4) (.c (.h 96))),.n 6 5,.h 7 0 1 6 true,.j 8 7 6 true,.g 9 (.bin .neq (.t 8) (.c (.h 97))) 6 true,.p 10 6 9,.n 11 10,.h 12 3 1 11 false,.j 13 12 11 false,.g 14 (.bin .geq (.t 13) (.c (.w 16))) 11 false,.o 15 11 14],.cond (.t 15) (sq [.r [.m 2 (.c (.h 0))],.ret]) (.skip)],.r [.f 16 3 1,.d 17 16,.q 18 (.bin .shl (.c (.h 1)) (.t 17)),.n 2 18],.ret]⟩
def qEv(hc:qc P f qgI=true)(i:Ins)(hi:InsOk i):qa P f [.agg (qI i)] (.h ((rdM i).toNat:Int)):=by
 refine qa.mk hc (by rfl) ?_;have h0:=hi.k0;unfold rdM;simp only[qgI,qI,vI,simprocAttr]
 by_cases hk:i.k<16
 .have hk':¬16<=i.k:=by omega
  by_cases h1:i.code=96
  .rw[if_pos ⟨.inl h1,hk⟩];simp +decide only[↓vS,vT,simprocAttr,h1,hk',h0,qxs h0 hk];simp[vZ]
  .by_cases h2:i.code=97
   .rw[if_pos ⟨.inr h2,hk⟩];simp +decide only[↓vS,vT,simprocAttr,h2,hk',h0,qxs h0 hk];simp[vZ]
   .rw[if_neg (by omega)];simp +decide only[↓vS,vT,simprocAttr,h1,h2];simp[vZ]
 .have hk':16<=i.k:=by omega
  rw[if_neg (λh=>hk h.2)]
  by_cases h1:i.code=96
  .simp +decide only[↓vS,vT,simprocAttr,h1,hk'];simp[vZ]
  .by_cases h2:i.code=97
   .simp +decide only[↓vS,vT,simprocAttr,h2,hk'];simp[vZ]
   .simp +decide only[↓vS,vT,simprocAttr,h1,h2];simp[vZ]
def rW(s:List (BitVec 16)):List AV:=s.map λx=>.h (x.toNat:Int)
def rTt(r:List Bool):List AV:=r.map .b
def qEt{s:List (BitVec 16)}:(rW s).length=s.length:=by simp[rW]
def qAn{s:List Bool}:(rTt s).length=s.length:=by simp[rTt]
def zN{s:List (BitVec 16)}:qt (rW s)=true:=qcv λ_=>rfl
def zp{s:List Bool}:qt (rTt s)=true:=qcv λ_=>rfl
def qog{s:List (BitVec 16)}{j:Nat}:(rW s)[j]?=(s[j]?).map λx=>.h (x.toNat:Int):=by simp[rW]
def qk5{s:List Bool}{j:Nat}:(rTt s)[j]?=(s[j]?).map .b:=by simp[rTt]
def qrE{α:Type}{F:α->AV}{L:List α}{j:Nat}(h:j<L.length)(x:α):(L.map F).take j++(F x::(L.map F).drop (j+1))=(L.set j x).map F:=by
 rw[<- List.map_take,<- List.map_drop,<- List.map_cons,<- List.map_append,List.set_eq_take_append_cons_drop,if_pos h]
def qEu{s:List (BitVec 16)}{j:Nat}(h:j<s.length)(x:BitVec 16):(rW s).take j++(.h (x.toNat:Int)::(rW s).drop (j+1))=rW (s.set j x):=qrE h x
def qAo{s:List Bool}{j:Nat}(h:j<s.length)(x:Bool):(rTt s).take j++(.b x::(rTt s).drop (j+1))=rTt (s.set j x):=qrE h x
def qcw(s:List (BitVec 16))(r:List Bool)(j:Nat)(x:BitVec 16):List (BitVec 16):=s.set j (if r.getD j false=true then s.getD j 0 &&& x else x)
def qgA(nv:List AV)(s:List (BitVec 16))(r:List Bool):List Blk:=[.v (rW s),.v (rTt r),.v [.sl 0 0 s.length s.length false],.v [.sl 1 0 s.length s.length false]]
def qf6:IFn:=⟨[],sq [sq [.r [.d 6 2,.n 7 0,.i 8 1 6 7,.d 9 8,.q 10 (.un .not (.t 9))],.cond (.t 10) (.r [.d 11 3,.n 12 0,.i 13 1 11 12,.u (.store 1 (.t 13) (.c (.h 65535)))]) (.skip)],.r [.d 14 2,.n 15 0,.i 16 1 14 15,.u (.store 1 (.t 16) .T)],.r [.d 17 3,.n 18 0,.i 19 1 17 18,.d 20 19,.n 21 1,.b 22 .and 20 21,.i 23 1 17 18,.u (.store 1 (.t 23) (.t 22))]]⟩
def qGF(hc:qc P f qf6=true)(s:List (BitVec 16))(r:List Bool)(hr:r.length=s.length)(j:Nat)(hj:j<s.length)(x:BitVec 16) :
  Upd P f [.j j,.h (x.toNat:Int),.ptr 3 0,.ptr 2 0] (qgA [] s r) (.tup []) (qgA [] (qcw s r j x) (r.set j true)):=by
 refine Upd.mk hc (by simp[ji,bnd,qgA]) (by simp[qgA]) ?_;have hjr:j<r.length:=by omega
 obtain⟨y,hy⟩:∃y,s[j]?=some y:=⟨_,zzE hj⟩;obtain⟨b,hb⟩:∃b,r[j]?=some b:=⟨_,zzE hjr⟩;have hl1:j+1<=(rTt r).length:=by rw[qAn];omega
 have hl2:∀s':List (BitVec 16),s'.length=s.length->j+1<=(rW s').length:=λs' h=>by rw[qEt];omega
 have hb1:∀y:Bool,List.take j (rTt r)++(AV.b y::List.drop (j+1) (rTt r))=rTt (r.set j y):=λy=>qAo hjr y
 have hb2:∀(s':List (BitVec 16)) (y:BitVec 16),s'.length=s.length->List.take j (rW s')++(AV.h (y.toNat:Int)::List.drop (j+1) (rW s'))=rW (s'.set j y):=λs' y h=>qEu (by omega) y
 have hc0:=hl2 s rfl;have hc1:=hb2 s (y &&& x) rfl;have hd0:=hl2 (s.set j 65535#16) (by simp);have hd1:=hb2 s 65535#16 rfl;have hd2:=hb2 (s.set j 65535#16) x (by simp);rw[show(((65535#16).toNat:Nat):Int)=65535 from rfl]at hd1
 have hy2:(s.set j 65535#16)[j]?=some 65535#16:=by rw[List.getElem?_set_self (by omega)]
 have hand:xS .u16 65535 (x.toNat:Int)=(x.toNat:Int):=by
  rw[show(65535:Int)=((65535#16).toNat:Int)from rfl,qAX,show(65535#16:BitVec 16)=BitVec.allOnes 16 from rfl,BitVec.allOnes_and]
 have ht3:(65535#16).toNat=65535:=rfl;simp only[qf6,qgA,qcw,List.getD_eq_getElem?_getD,hy,hb,Option.getD_some,vI,simprocAttr];cases b with
 | true =>
  simp +decide only[↓vS,vT,simprocAttr,zzU,qog,qk5,hy,hb,Option.map_some,hl1,hb1,hc0,hc1,qAX,hj];intro _;refine⟨[0,1,2,3],?_⟩;simp[vw,qe,zN,zp];decide
 | false =>
  simp +decide only[↓vS,vT,simprocAttr,zzU,qog,qk5,hy,hb,Option.map_some,hl1,hb1,hc0,hd0,hd1,hy2,hand,hd2,hj];intro _;refine⟨[0,1,2,3],?_⟩;simp[vw,qe,zN,zp];decide
def rNt(l:List Nat):List AV:=l.map λn:Nat=>.j (n:Int)
def qk4{l:List Nat}:(rNt l).length=l.length:=by simp[rNt]
def qY{l:List Nat}:qt (rNt l)=true:=qcv λ_=>rfl
def qrW{l:List Nat}{j:Nat}:(rNt l)[j]?=(l[j]?).map λn:Nat=>.j (n:Int):=by simp[rNt]
def qrV{l m:List Nat}:rNt l++rNt m=rNt (l++m):=by simp[rNt]
def qj9(i:Ins)(x:BitVec 16)(at':Nat)(l:List Nat):List Nat:=if rdM i &&& ~~~ x=0#16 then l else l++[at']
def qef(a:Nat):IFn:=⟨[],sq [.r [.d 6 2,.n 7 0,.i 8 4 6 7,.v 9 4 8,.l 10 a [.t 9],.n 11 1,.b 12 .andNot 10 11,.q 13 (.bin .neq (.t 12) (.c (.h 0)))],.cond (.t 13) (.r [.d 14 3,.n 15 0,.q 16 (.buildS 1 [.j 0] [(0,1,(.t 15))]),.q 17 (.app 1 8 true (.t 14) (.t 16)),.u (.store 1 (.t 3) (.t 17))]) (.skip)]⟩
def qFZ{g:Nat}(hc:qc P f (qef g)=true)(hg:∀i,InsOk i->qa P g [.agg (qI i)] (.h ((rdM i).toNat:Int)))(p:List Ins)(hp:p.length<=4096)(l:List Nat)(hl:l.length<=4096)(j:Nat)(i:Ins)(hj:p[j]?=some i)(hi:InsOk i)(x:BitVec 16) :
  Upd P f [.j j,.h (x.toNat:Int),.ptr 0 0,.ptr 1 0] [.v [.fz p.length (rP p)],.v [.own 2 l.length],.cells 1 true true (rNt l)] (.tup [])
   [.v [.fz p.length (rP p)],.v [.own 3 (qj9 i x j l).length],.dead,.cells 1 true true (rNt (qj9 i x j l))]:=by
 refine Upd.mkd hc (by simp[ji,bnd,qu (qw p)]) (by simp) ?_
 have hjl:j<p.length:=by grind
 have hel:=qS (f:=qI) (m:=4) qaX hj;rw[show p.flatMap qI=rP p from rfl]at hel
 have h4:j*4+4<=(rP p).length:=by rw[qeY];omega
 have hr1:l.length+1<=qi:=by simp only[qi];omega
 have hr2:(l.length+1)*8<=qi:=by simp only[qi];omega
 have hap:rNt l++[.j (j:Int)]=rNt (l++[j]):=by rw[<- qrV];rfl
 have hll:(rNt l).length=l.length:=qk4;simp only[qef,vI,simprocAttr];simp +decide only[↓vS,vT,simprocAttr,hjl,hel,h4];refine(hg i hi).sc ?_;unfold qj9
 by_cases h0:rdM i &&& ~~~ x=0#16
 .have h0':(((rdM i &&& ~~~ x).toNat:Nat):Int)=0:=by rw[h0];rfl
  rw[if_pos h0];simp +decide only[↓vS,vT,simprocAttr,qA8,h0'];intro _;refine⟨[0,1,2,2],?_⟩;simp[vw,qe,qw,qY,jD,rl]
  grind
 .have h0':¬(((rdM i &&& ~~~ x).toNat:Nat):Int)=0:=λh=>h0 (by
   have:(rdM i &&& ~~~ x).toNat=0:=by omega
   exact BitVec.eq_of_toNat_eq this)
  rw[if_neg h0];simp +decide only[↓vS,vT,simprocAttr,qA8,h0',zzU,hr1,hr2,hll,hap];intro _;refine⟨[0,1,2,4],?_⟩;simp[vw,qe,qw,qY,jD,rl]
  grind
def qH:IFn:=⟨[.tmp 2],sq [.r [.m 2 .N],sq [.r [.n 6 0,.e 7 6,.w 8 .lss 7 2],.cond (.t 8) (sq [.r [.n 9 0,.n 2 9],.ret]) (.skip)],sq [.r [.m 3 (.k 1)],.blk 0 (.loop (sq [sq [.r [.n 10 3,.n 11 0,.e 12 11,.s 13 10 12],.cond (.t 13) (.skip) (.exit 0)],.blk 1 (sq [.reg true [.n 16 0,.n 17 3,.i 18 1 16 17,.d 19 18,.n 20 0,.n 21 3,.w 22 .sub 21 1,.i 23 1 20 22,.d 24 23,.b 25 .eql 19 24],.cond (.t 25) (sq [.r [.n 26 0,.n 27 3,.q 28 (.slcS 1 (.t 26) (some (.t 27)) none none),.n 4 28],sq [.r [.m 5 (.k 1)],.blk 2 (.loop (sq [sq [.r [.n 29 5,.n 30 4,.e 31 30,.s 32 29 31],.cond (.t 32) (.skip) (.exit 2)],.blk 3 (sq [.reg true [.n 35 4,.n 36 5,.i 37 1 35 36,.d 38 37,.n 39 4,.n 40 5,.w 41 .sub 40 1,.i 42 1 39 41,.d 43 42,.b 44 .neq 38 43],.cond (.t 44) (sq [.r [.n 45 0,.n 46 3,.n 47 4,.n 48 5,.i 49 1 47 48,.d 50 49,.i 51 1 45 46,.u (.store 1 (.t 51) (.t 50))],.r [.n 52 3,.a 53 52 1,.n 3 53]]) (.skip)]),.r [.n 33 5,.a 34 33 1,.n 5 34]]))],.r [.n 54 0,.n 55 3,.q 56 (.slcS 1 (.t 54) (some (.t 55)) none none),.u (.clear [.j 0] (.t 56))],.r [.n 57 0,.n 58 3,.q 59 (.slcS 1 (.t 57) none (some (.t 58)) none),.n 2 59],.ret]) (.skip)]),.r [.n 14 3,.a 15 14 1,.n 3 15]]))],.r [.n 60 0,.n 2 60],.ret]⟩
def qu4(hc:qc P f qH=true):qa P f [.nils] .nils:=by
 refine qa.mk hc rfl ?_;simp only[qH,vI,simprocAttr];simp +decide only[↓vS,vT,simprocAttr];simp[vZ]
def qoX(hc:qc P f qH=true)(x:Int):Upd P f [.sl 0 0 1 1 false] [.v [.j x]] (.sl 0 0 1 1 false) [.v [.j x]]:=by
 refine Upd.mk hc (by simp[ji,bnd]) (by simp) ?_;simp only[qH,vI,simprocAttr];simp +decide only[↓vS,vT,simprocAttr];intro _;refine⟨[0],?_⟩;simp[vw,qe]
def qoY(hc:qc P f qH=true)(x y:Int):Upd P f [.sl 0 0 2 2 false] [.v [.j x,.j y]] (.sl 0 0 (if x=y then 1 else 2) 2 false) [.v [.j x,.j (if x=y then 0 else y)]]:=by
 refine Upd.mk hc (by simp[ji,bnd]) (by simp) ?_;simp only[qH,vI,simprocAttr];simp +decide only[↓vS,vT,simprocAttr];refine SL.loopn (α:=Nat) (λk=>[(0,.sl 0 0 2 2 false),(3,.j (k:Int))]) (λ_=>[.v [.j x,.j y]]) (λk=>k=1\/k=2/\x≠y) (λk=>2-k) 1 [0] ?_ ?_ ?_ rfl ?_ ?_ ?_ ?_
 .simp[vw]
 .simp[vw]
 .simp
 .simp
 .intro b hb;obtain rfl:b=0:=by omega
  rfl
 .omega
 rintro k hk G ih;have hw0:IntKind.wrap .i64 0=0:=rfl;have hw1:IntKind.wrap .i64 1=1:=rfl;have hw2:IntKind.wrap .i64 2=2:=rfl;simp only[vI,simprocAttr];rcases hk with rfl|⟨rfl,hne⟩
 .by_cases h:x=y
  .subst h;simp +decide only[↓vS,vT,simprocAttr];refine zB ?_;simp +decide only[↓vS,vT,simprocAttr,hw0];refine SL.loopn (α:=Unit) (λ_=>[(0,.sl 0 0 2 2 false),(3,.j 1),(4,.sl 0 1 1 1 false),(5,.j 1)]) (λ_=>[.v [.j x,.j x]]) (λ_=>True) (λ_=>0) () [0] ?_ ?_ ?_ rfl ?_ ?_ ?_ ?_
   .simp[vw]
   .simp[vw]
   .simp
   .simp
   .intro b hb;obtain rfl:b=0:=by omega
    rfl
   .trivial
   rintro _ _ G2 _;simp only[vI,simprocAttr];simp +decide only[↓vS,vT,simprocAttr];intro _;refine⟨[0],?_⟩;simp[vw,qe]
  .have h':¬y=x:=λe=>h e.symm
   simp +decide only[↓vS,vT,simprocAttr];refine zB ?_;simp +decide only[↓vS,vT,simprocAttr,h',hw0,hw1,hw2];refine ih 2 (.inr ⟨rfl,h⟩) (by decide) _ _ (Wk.mkn _ _ [0] ?_ ?_ ?_ rfl ?_ ?_)
   .simp[vw]
   .simp[vw]
   .simp
   .simp
   .intro b hb;obtain rfl:b=0:=by omega
    rfl
 .simp +decide only[↓vS,vT,simprocAttr,hne,if_false];intro _;refine⟨[0],?_⟩;simp[vw,qe,hne]
def loM(i:Ins):Int:=if i.jf<i.jt then i.jf else i.jt
def hiM(i:Ins):Int:=if i.jt<i.jf then i.jf else i.jt
def qcL(i:Ins)(at':Nat):List Nat :=
 if qm i.code=0\/qm i.code=5 then []
 else if qm i.code=4 then(if i.code=5 then [at'+1+i.k.toNat]else if loM i=hiM i then [at'+1+(loM i).toNat]else [at'+1+(loM i).toNat,at'+1+(hiM i).toNat])
 else [at'+1]
def goM(n:Nat)(x:BitVec 16):List Nat->List (BitVec 16)×List Bool->List (BitVec 16)×List Bool
 | [],st=>st
 | m::L,st=>if m<n then goM n x L (qcw st.1 st.2 m x,st.2.set m true)else st
def qvE{n:Nat}{x:BitVec 16}{m:Nat}{L:List Nat}{st:List (BitVec 16)×List Bool}:goM n x (m::L) st=if m<n then goM n x L (qcw st.1 st.2 m x,st.2.set m true)else st:=rfl
theorem qrq{n:Nat}{x:BitVec 16}:∀(L:List Nat) (st:List (BitVec 16)×List Bool),(goM n x L st).1.length=st.1.length/\(goM n x L st).2.length=st.2.length
 | [],_=>⟨rfl,rfl⟩
 | m::L,st=>by
  unfold goM;split
  .have:=qrq (n:=n) (x:=x) L (qcw st.1 st.2 m x,st.2.set m true);simpa[qcw]using this
  omega
def wkB(p:List Ins)(gc:Nat)(l:List Nat)(st:List (BitVec 16)×List Bool):List Blk:=[.v [.fz p.length (rP p)],.v [.own 2 l.length],.cells 1 true true (rNt l),.v (rW st.1),.v (rTt st.2),.v [.sl 3 0 st.1.length st.1.length false],.v [.sl 4 0 st.1.length st.1.length false],.v [.fn gc [] [.ptr 6 0,.ptr 5 0]]]
def wI(p:List Ins)(gc:Nat)(l:List Nat)(st:List (BitVec 16)×List Bool)(j:Nat)(i:Ins):List Blk:=wkB p gc l st++[.v [.j (j:Int)],.v (qI i)]
def qe4(gv:Nat):AV:=.fn gv [] [.ptr 0 0,.ptr 1 0]
def qjF(gw:Nat)(p:List Ins)(j:Nat)(i:Ins):AV:=.fn gw [] [.pf (qI i) 0,.pf [.j (j:Int)] 0,.pf [.j (p.length:Int)] 0]
def wT(gv:Nat)(p:List Ins)(j:Nat):List (Nat×AV):=[(0,.fz p.length (rP p)),(1,qe4 gv),(4,.ptr 5 0),(5,.ptr 6 0),(6,.ptr 7 0),(20,.fz p.length (rP p)),(21,.j (p.length:Int)),(22,.j (j:Int))]
def wTr(gv gw:Nat)(p:List Ins)(j:Nat)(i:Ins):List (Nat×AV):=wT gv p j++[(7,.ptr 8 0),(8,.ptr 9 0),(47,qjF gw p j i)]
def xh(a b:Nat):ICode:=.blk 1 (.loop (sq [.r [.s 52 51 50],.cond (.t 52) (.skip) (.exit 1),.blk 2 (sq [.r [.i 53 1 49 51,.d 54 53,.n 7 54],.r [.n 55 7,.d 56 3,.b 57 .geq 55 56,.n 58 57,.z 59 0 58,.z 60 7 58,⟨(some 61),.callV (.t 59) [.t 60],(some (58,false))⟩,.g 62 (.un .not (.t 61)) 58 false,.o 63 58 62],.cond (.t 63) (.ret) (.skip)]),.r [.a 64 51 1,.n 51 64]]))
def jR(a b:Nat):IFn:=⟨[],sq [.r [.m 5 .N],sq [.r [.f 8 0 1,.d 9 8,.l 10 a [.t 9]],.blk 0 (sq [sq [.r [.q 15 (.bin .eql (.t 10) (.c (.y 0))),.n 14 15],.cond (.t 14) (.skip) (.r [.q 16 (.bin .eql (.t 10) (.c (.y 5))),.n 14 16])],.cond (.t 14) (.skip) (sq [.r [.q 18 (.bin .eql (.t 10) (.c (.y 4))),.n 17 18],.cond (.t 17) (sq [.r [.d 19 2,.a 20 19 1,.f 21 1 1,.d 22 21,.f 23 2 1,.d 24 23,.q 25 (.min (.t 22) (.t 24)),.q 26 (.cvInt .i64 (.t 25)),.b 27 .add 20 26,.d 28 2,.a 29 28 1,.f 30 1 1,.d 31 30,.f 32 2 1,.d 33 32,.q 34 (.max (.t 31) (.t 33)),.q 35 (.cvInt .i64 (.t 34)),.b 36 .add 29 35,.q 37 (.buildS 2 [.j 0] [(0,1,(.t 27)),(1,1,(.t 36))]),.n 5 37],.r [.f 38 0 1,.d 39 38,.q 40 (.bin .eql (.t 39) (.c (.h 5)))],.cond (.t 40) (.r [.d 41 2,.a 42 41 1,.f 43 3 1,.d 44 43,.q 45 (.cvInt .i64 (.t 44)),.b 46 .add 42 45,.q 47 (.buildS 1 [.j 0] [(0,1,(.t 46))]),.n 5 47]) (.skip)]) (.r [.d 11 2,.a 12 11 1,.q 13 (.buildS 1 [.j 0] [(0,1,(.t 12))]),.n 5 13])])])],.r [.n 48 5,.l 49 b [.t 48],.e 50 49,.m 51 (.k 0)],.cut (xh a b)]⟩
def qbG(a b c:Nat):ICode:=.r [.a 59 22 1,.n 22 59]
def qbF(a b c:Nat):ICode:=sq [.r [.v 43 4 8,.d 44 7,.n 45 0,.e 46 45,.l 47 b [.t 43,.t 44,.t 46]],.blk 2 (.rangeF 0 (.t 47) [48] (.r [.n 9 48]) (.blk 3 (.reg true [.d 49 6,.n 50 9,.d 51 4,.d 52 7,.i 53 1 51 52,.d 54 53,.v 55 4 8,.l 56 c [.t 55],.b 57 .or 54 56,⟨(some 58),.callVW (.t 49) [.t 50,.t 57],none⟩])))]
def qbE(a b c:Nat):ICode:=sq [sq [.r [.d 31 5,.d 32 7,.i 33 1 31 32,.d 34 33,.q 35 (.un .not (.t 34))],.cond (.t 35) (.exit 1) (.skip)],.reg true [.n 36 1,.d 37 7,.d 38 4,.d 39 7,.i 40 1 38 39,.d 41 40,⟨(some 42),.callVW (.t 36) [.t 37,.t 41],none⟩],.cut (qbF a b c)]
def qhS(a b c:Nat):IFn:=⟨[],sq [sq [.r [.n 10 0,.e 11 10,.w 12 .gtr 11 4096],.cond (.t 12) (.ret) (.skip)],.reg true [.n 13 0,.e 14 13,.q 15 (.mkS 1 2 [.h 0] (.t 14) (.t 14)),.n 16 0,.e 17 16,.q 18 (.mkS 1 1 [.b false] (.t 17) (.t 17)),.q 4 (.alloc [.nils]),.q 5 (.alloc [.nils]),.u (.storeD 1 (.t 4) (.t 15) []),.u (.store 1 (.t 5) (.t 18))],.r [.q 19 (.mkF a [] [.t 5,.t 4]),.q 6 (.alloc [.nilf]),.u (.store 1 (.t 6) (.t 19))],.r [.n 20 0,.e 21 20,.m 22 (.k 0)],.blk 0 (.loop (sq [.r [.s 23 22 21],.cond (.t 23) (.skip) (.exit 0),.blk 1 (sq [.r [.n 24 22,.i 25 4 20 22,.v 26 4 25,.q 7 (.alloc [.j 0]),.q 8 (.alloc [.h 0,.y 0,.y 0,.w 0]),.u (.store 1 (.t 7) (.t 24)),.u (.store 4 (.t 8) (.t 26))],sq [.r [.d 27 7,.w 28 .eql 27 0],.cond (.t 28) (.r [.d 29 6,⟨(some 30),.callVW (.t 29) [.k 0,(.c (.h 0))],none⟩]) (.skip)],.cut (qbE a b c)]),.cut (qbG a b c)]))]⟩
def aW:ICode:=.r [.n 9 48]
def bW(fw:Nat):ICode:=.blk 3 (.reg true [.d 49 6,.n 50 9,.d 51 4,.d 52 7,.i 53 1 51 52,.d 54 53,.v 55 4 8,.l 56 fw [.t 55],.b 57 .or 54 56,⟨(some 58),.callVW (.t 49) [.t 50,.t 57],none⟩])
structure RecOk (P:Program) (r0:Loop) (ps:List Nat) (ai bi:ICode):Prop where
 st:r0.state = .ready
 pd:r0.pending=none
 ok:LoopOk P r0 ps ai bi
def quZ{i:Ins}:List.take 4 (List.drop 0 (qI i))=qI i:=rfl
def qA7{i:Ins}:4<=(qI i).length:=zzL 4
def qra(P:Program)(gc:Nat):Prop:=∀(s:List (BitVec 16)) (r:List Bool),r.length=s.length->∀j:Nat,j<s.length->∀x:BitVec 16,
  Upd P gc [.j j,.h (x.toNat:Int),.ptr 3 0,.ptr 2 0] (qgA [] s r) (.tup []) (qgA [] (qcw s r j x) (r.set j true))
def cWr(P:Program)(g:Nat):Prop:=∀i,InsOk i->qa P g [.agg (qI i)] (.h ((wrM i).toNat:Int))
def qla{g1 g2 g3 gc gv gw:Nat}(hcome:qra P gc)(hwr:cWr P g3)(p:List Ins)(hp:p.length<=4096)(i:Ins)(hi:InsOk i)(j:Nat)(l:List Nat)
  (r0:Loop) (hr:RecOk P r0 [48] aW (bW g3)) (L:List Nat) (ex:List AV) (hex:qt ex=true) (cp:Nat) (hcp:L.length<=cp) (hL:∀n ∈ L,j<n) (hL4:L.length<=4)
  (x:BitVec 16) (s0:List (BitVec 16)×List Bool) (hs1:s0.1.length=p.length) (hs2:s0.2.length=p.length) (hx:s0.1[j]?=some x) (Qf:AV->Hp->Prop)
  (hQ:Qf (.tup []) (mkH 0 (wI p gc l (goM p.length (x ||| wrM i) L s0) j i++[.map (zJ r0 (wTr gv gw p j i)),.v (rNt L++ex)])))
  {t':Tr AV} {h':Hp} (hw:Wk 11 t' h' (mkT [(0,.yl 10),(3,.pf [.j (p.length:Int)] 0),(49,.sl 11 0 L.length cp false),(50,.j (L.length:Int)),(51,.j 0)]) (mkH 0 (wI p gc l s0 j i++[.map (zJ r0 (wTr gv gw p j i)),.v (rNt L++ex)]))) :
  S P 11 (xh g1 g2) (xu [] Qf) t' h':=by
 refine S.weak hw (qk ?_);have hid:=qfX hr.st hr.pd;simp only[xh,wI,wkB,zzC,zzN,vI,simprocAttr];simp +decide only[↓vS,vT,simprocAttr]
 refine SL.loopn (α:=Nat×(List (BitVec 16)×List Bool)) (λa=>[(0,.yl 10),(3,.pf [.j (p.length:Int)] 0),(49,.sl 11 0 L.length cp false),(50,.j (L.length:Int)),(51,.j (a.1:Int))])
  (λa=>wI p gc l a.2 j i++[.map (zJ r0 (wTr gv gw p j i)),.v (rNt L++ex)])
  (λa=>a.1<=L.length/\a.2.1.length=p.length/\a.2.2.length=p.length/\a.2.1[j]?=some x/\goM p.length (x ||| wrM i) (L.drop a.1) a.2=goM p.length (x ||| wrM i) L s0) (λa=>L.length-a.1) (0,s0) [0,1,2,3,4,5,6,7,8,9,10,11] ?_ ?_ ?_ rfl ?_ ?_ ?_ ?_
 .simp[vw,wI,wkB]
 .simp[vw,wI,wkB,wTr,wT,qe4,qjF,qw,qY,zN,zp,qe,hex,qI,qbB,qbW,qaG,x5,xN]
 .simp
 .simp[wI,wkB]
 .intro b hb;have:b=0\/b=1\/b=2\/b=3\/b=4\/b=5\/b=6\/b=7\/b=8\/b=9\/b=10:=by omega
  rcases this with rfl|rfl|rfl|rfl|rfl|rfl|rfl|rfl|rfl|rfl|rfl<;>rfl
 .simp_all
 rintro⟨q,s,r⟩ ⟨hq,hl1,hl2,hxq,hgo⟩ G ih;simp only at hq hl1 hl2 hxq hgo;simp only[wI,wkB,zzC,zzN,vI,simprocAttr]
 by_cases hlt:q<L.length
 .obtain⟨n,hn⟩:∃n,L[q]?=some n:=⟨_,zzE hlt⟩;have hjn:=hL n (by grind);have hgn:(rNt L++ex)[q]?=some (.j (n:Int)):=by rw[List.getElem?_append_left (by rw[qk4];omega),qrW,hn];rfl
  have hqc:q<cp:=by omega
  simp +decide only[↓vS,vT,simprocAttr,hlt,zzU,hgn]
  have hdr:L.drop q=n::L.drop (q+1):=by
   grind[List.drop_eq_getElem_cons]
  rw[hdr,qvE]at hgo
  by_cases hnl:n<p.length
  .have hnl':¬(p.length:Int)<=(n:Int):=by omega
   rw[if_pos hnl]at hgo;have hw1:IntKind.wrap .i64 ((q:Int)+1)=((q+1:Nat):Int):=by rw[qp (by omega) (by omega)];omega
   have hjs:j<p.length:=by omega
   have hcm:=hcome s r (by omega) n (by omega) (x ||| wrM i)
   have hln:(qcw s r n (x ||| wrM i)).length=p.length:=by simp[qcw,hl1]
   have hxn:(qcw s r n (x ||| wrM i))[j]?=some x:=by unfold qcw;rw[List.getElem?_set_ne (by omega)];omega
   have hln2:(r.set n true).length=p.length:=by grind
   have ih2:=ih (q+1,qcw s r n (x ||| wrM i),r.set n true) (by grind) (by omega)
   simp +decide only[↓vS,vT,simprocAttr,hnl'];refine SY.mk (r:=r0) (ts:=wTr gv gw p j i) (ps:=[48]) (ai:=aW) (bi:=bW g3) (by simp[Tr.get_set]) hr.st hr.ok (Nat.zero_le _) (by grind) rfl ?_;rw[show mkT (wTr gv gw p j i)=mkT [(0,.fz p.length (rP p)),(1,qe4 gv),(4,.ptr 5 0),(5,.ptr 6 0),(6,.ptr 7 0),(20,.fz p.length (rP p)),(21,.j (p.length:Int)),(22,.j (j:Int)),(7,.ptr 8 0),(8,.ptr 9 0),(47,qjF gw p j i)]from rfl]
   refine qk ?_;simp only[aW,qkB,vI,simprocAttr];simp only[↓vS,vT,simprocAttr];refine⟨wTr gv gw p j i,by simp[Tr.get_set],?_⟩
   refine qk ?_;simp only[qB,bW,vI,simprocAttr];simp +decide only[↓vS,vT,simprocAttr];refine zB ?_;simp +decide only[↓vS,vT,simprocAttr,hl1,hjs,zzU,qog,hxq,Option.map_some,quZ,qA7];refine(hwr i hi).pc ?_;simp +decide only[↓vS,vT,simprocAttr,qIO];refine hcm.pc (vs:=[.j n,.h ((x ||| wrM i).toNat:Int),.ptr 3 0,.ptr 2 0]) [3,4,5,6] (Lent.of (by decide) ?_) ?_
   .simp[vL,vw,qgA,qu zN,qf zN,qu zp,qf zp,hl1]
   simp only[vK,simprocAttr,qgA,qf zN,qf zp];simp +decide only[↓vS,vT,simprocAttr];refine⟨bsy r0,wTr gv gw p j i,by simp[Tr.get_set],?_⟩
   rw[qey,hid];simp only[qB];simp +decide only[↓vS,vT,simprocAttr,hw1,hnl'];refine ih2 _ _ (Wk.mkn _ _ [0,1,2,3,4,5,6,7,8,9,10,11] ?_ ?_ ?_ rfl ?_ ?_)
   .simp[vw,wI,wkB]
   .simp[vw,wI,wkB,wTr,wT,qe4,qjF,qw,qY,zN,zp,qe,hex,qI,qbB,qbW,qaG,x5,xN]
   .simp
   .simp[wI,wkB]
   .intro b hb;have:b=0\/b=1\/b=2\/b=3\/b=4\/b=5\/b=6\/b=7\/b=8\/b=9\/b=10:=by omega
    rcases this with rfl|rfl|rfl|rfl|rfl|rfl|rfl|rfl|rfl|rfl|rfl<;>rfl
  .have hnl':(p.length:Int)<=(n:Int):=by omega
   rw[if_neg hnl]at hgo;simp +decide only[↓vS,vT,simprocAttr,hnl'];rw[<- hgo]at hQ;exact hQ
 .obtain rfl:q=L.length:=by omega
  simp +decide only[↓vS,vT,simprocAttr,hlt];rw[List.drop_length]at hgo;rw[<- hgo]at hQ;exact hQ
def qhT(a:Nat):IFn:=⟨[.tmp 6],sq [.r [.q 3 (.box (.t 0)),.q 4 (.box (.t 1)),.q 5 (.box (.t 2)),.m 6 (.c (.nilf))],.r [.q 7 (.mkF a [] [.t 3,.t 4,.t 5]),.n 6 7],.ret]⟩
def qIl{g:Nat}(hc:qc P f (qhT g)=true)(i:Ins)(j n:Nat):qa P f [.agg (qI i),.j (j:Int),.j (n:Int)] (.fn g [] [.pf (qI i) 0,.pf [.j (j:Int)] 0,.pf [.j (n:Int)] 0]):=by
 refine qa.mk hc rfl ?_;simp only[qhT,vI,simprocAttr];simp +decide only[↓vS,vT,simprocAttr];simp[vZ,vP,Tr.get_set,qI]
def qoc{x:Nat}:rNt [x]=[.j (x:Int)]:=rfl
def qod{x y:Nat}:rNt [x,y]=[.j (x:Int),.j (y:Int)]:=rfl
def qxS{g1 g2:Nat}(g3 gv gw gc:Nat)(p:List Ins)(i:Ins)(j:Nat)(l:List Nat)(r0:Loop)(s0:List (BitVec 16)×List Bool)(Qf:AV->Hp->Prop)
  (hQ:Qf (.tup []) (mkH 0 (wI p gc l s0 j i++[.map (zJ r0 (wTr gv gw p j i))])))
  {t':Tr AV} {h':Hp} (hw:Wk 11 t' h' (mkT [(50,.j 0),(51,.j 0)]) (mkH 0 (wI p gc l s0 j i++[.map (zJ r0 (wTr gv gw p j i))]))) :
  S P 11 (xh g1 g2) (xu [] Qf) t' h':=by
 refine S.weak hw (qk ?_);simp only[xh,wI,wkB,zzC,zzN,vI,simprocAttr];simp +decide only[↓vS,vT,simprocAttr];refine SL.loopn (α:=Unit) (λ_=>[(50,.j 0),(51,.j 0)]) (λ_=>wI p gc l s0 j i++[.map (zJ r0 (wTr gv gw p j i))]) (λ_=>True) (λ_=>0) () [0,1,2,3,4,5,6,7,8,9,10] ?_ ?_ ?_ rfl ?_ ?_ ?_ ?_
 .simp[vw,wI,wkB]
 .simp[vw,wI,wkB,wTr,wT,qe4,qjF,qw,qY,zN,zp,qe,qI,qbB,qbW,qaG,x5,xN]
 .simp
 .simp[wI,wkB]
 .intro b hb;have:b=0\/b=1\/b=2\/b=3\/b=4\/b=5\/b=6\/b=7\/b=8\/b=9\/b=10:=by omega
  rcases this with rfl|rfl|rfl|rfl|rfl|rfl|rfl|rfl|rfl|rfl|rfl<;>rfl
 .trivial
 rintro _ _ G _;simp only[wI,wkB,zzC,zzN,vI,simprocAttr];simp +decide only[↓vS,vT,simprocAttr];exact hQ
def qxR{g1 g2 g3 g4 gc gv gw:Nat}(hcw:qc P gw (jR g1 g2)=true)(hof:cOf P g1)(hcc:qc P g2 qH=true)(hcome:qra P gc)(hwr:cWr P g3)
  (hwy:∀i (j n:Nat),qa P g4 [.agg (qI i),.j (j:Int),.j (n:Int)] (.fn gw [] [.pf (qI i) 0,.pf [.j (j:Int)] 0,.pf [.j (n:Int)] 0]))
  (p:List Ins) (hp:p.length<=4096) (i:Ins) (hi:InsOk i) (j:Nat) (hj:j<p.length) (l:List Nat)
  (x:BitVec 16) (s0:List (BitVec 16)×List Bool) (hs1:s0.1.length=p.length) (hs2:s0.2.length=p.length) (hx:s0.1[j]?=some x) (Q:X->Tr AV->Hp->Prop)
  (hQ:∀t'' h'',Wk 2 t'' h'' (mkT (wT gv p j)) (mkH 0 (wkB p gc l (goM p.length (x ||| wrM i) (qcL i j) s0)))->Q .normal t'' h'')
  {t':Tr AV} {h':Hp} (hw:Wk 2 t' h' (mkT (wT gv p j++[(7,.ptr 8 0),(8,.ptr 9 0)])) (mkH 0 (wI p gc l s0 j i))) :
  S P 2 (qbF gc g4 g3) Q t' h':=by
 refine S.weak hw (qk ?_);simp only[qbF,wT,wI,wkB,zzC,zzN,vI,simprocAttr];simp +decide only[↓vS,vT,simprocAttr,quZ,qA7];refine(hwy i j p.length).sc ?_;simp +decide only[↓vS,vT,simprocAttr];refine S.weak (Wk.mkn (wTr gv gw p j i) (wI p gc l s0 j i) [0,1,2,3,4,5,6,7,8,9] ?_ ?_ ?_ rfl ?_ ?_) ?_
 .simp[vw,wTr,wT,qe4,qjF,qw,wI,wkB,qI]
 .simp[vw,wI,wkB,qw,qY,zN,zp,qe,qI]
 .simp
 .simp[wI,wkB]
 .intro b hb;have:b=0\/b=1:=by omega
  rcases this with rfl|rfl<;>rfl
 refine S.rangeF (by simp[jD,wI,wkB]) (by simp[wTr,wT]) ⟨rfl,rfl⟩ ?_;refine qkc.2 ⟨qjF gw p j i,by simp[wTr,wT,mkT,Tr.get_set],?_⟩
 refine⟨qdD hcw,λr0 hr0 hp0 hlo=>SC.mk hcw ?_⟩
 have hrec:RecOk P r0 [48] aW (bW g3):=⟨hr0,hp0,hlo⟩;have hid:=qfX hr0 hp0;obtain⟨Qf,hQf⟩:∃Qf:AV->Hp->Prop,Qf=qyW (mkH 0 (wI p gc l s0 j i)).sz (λe t h=>onX e (Q .normal t h) (λi=>if i=2 then Q .normal t h else Q (.exit i) t h) (Q .ret t h)) (mkT (wTr gv gw p j i)):=⟨_,rfl⟩
 have hfin0:Qf (.tup []) (mkH 0 (wI p gc l (goM p.length (x ||| wrM i) (qcL i j) s0) j i++[.map (zJ r0 (wTr gv gw p j i))])):=by
  skip
  rw[hQf];refine⟨r0,wTr gv gw p j i,by rw[qam];rfl,by rw[hr0];decide,?_⟩
  rw[hp0];simp only[wI,wkB,wTr,wT,zzC,zzN,vI,simprocAttr,qB];simp only[qiy];refine hQ _ _ (Wk.mkn _ _ [0,1,2,3,4,5,6,7] ?_ ?_ ?_ rfl ?_ ?_)
  .simp[vw,wT,qe4,qjF,qw,wkB,qI]
  .simp[vw,wkB,qw,qY,zN,zp,qe,qI]
  .simp
  .simp[wkB]
  .intro b hb;have:b=0\/b=1:=by omega
   rcases this with rfl|rfl<;>rfl
 have hfin1:∀cs:List AV,Qf (.tup []) (mkH 0 (wI p gc l (goM p.length (x ||| wrM i) (qcL i j) s0) j i++[.map (zJ r0 (wTr gv gw p j i)),.v cs])):=by
  intro cs;rw[hQf];refine⟨r0,wTr gv gw p j i,by rw[qam];rfl,by rw[hr0];decide,?_⟩
  rw[hp0];simp only[wI,wkB,wTr,wT,zzC,zzN,vI,simprocAttr,qB];simp only[qiy];refine hQ _ _ (Wk.mkn _ _ [0,1,2,3,4,5,6,7] ?_ ?_ ?_ rfl ?_ ?_)
  .simp[vw,wT,qe4,qjF,qw,wkB,qI]
  .simp[vw,wkB,qw,qY,zN,zp,qe,qI]
  .simp
  .simp[wkB]
  .intro b hb;have:b=0\/b=1:=by omega
   rcases this with rfl|rfl<;>rfl
 rw[<- hQf];show S P 11 (jR g1 g2).body (xu [] Qf) (qbY [.yl 10,.pf (qI i) 0,.pf [.j (j:Int)] 0,.pf [.j (p.length:Int)] 0] 0 .leaf) (mkH 0 (wI p gc l s0 j i++[.map (zJ r0 (wTr gv gw p j i))]));refine qk ?_;simp only[jR,wI,wkB,qI,zzC,zzN,vI,simprocAttr];simp +decide only[↓vS,vT,simprocAttr];refine(hof i.code).sc ?_;simp +decide only[↓vS,vT,simprocAttr];have hj1:IntKind.wrap .i64 ((j:Int)+1)=((j+1:Nat):Int):=by rw[qp (by omega) (by omega)];omega
 have hjj:∀a:Int,0<=a->a<=4294967295->IntKind.wrap .i64 (IntKind.wrap .i64 ((j:Int)+1)+IntKind.wrap .i64 a)=((j+1+a.toNat:Nat):Int):=by
  grind[qp]
 have hk:=hjj i.k hi.k0 hi.k1;have hlo0:0<=loM i/\loM i<=255:=by have:=hi.t0;have:=hi.t1;have:=hi.f0;have:=hi.f1;unfold loM;split<;>omega
 have hhi0:0<=hiM i/\hiM i<=255:=by have:=hi.t0;have:=hi.t1;have:=hi.f0;have:=hi.f1;unfold hiM;split<;>omega
 have hlo:=hjj (loM i) hlo0.1 (by omega);have hhi:=hjj (hiM i) hhi0.1 (by omega)
 by_cases hA:qm i.code=0\/qm i.code=5
 .have hwl:qcL i j=[]:=by unfold qcL;rw[if_pos hA]
  have h4:¬qm i.code=4:=by omega
  rw[hwl]at hfin0;have fin0:∀{t':Tr AV} {h':Hp},Wk 11 t' h' (mkT [(50,.j 0),(51,.j 0)]) (mkH 0 (wI p gc l s0 j i++[.map (zJ r0 (wTr gv gw p j i))]))->S P 11 (xh g1 g2) (xu [] Qf) t' h':=λhw=>qxS g3 gv gw gc p i j l r0 s0 Qf hfin0 hw
  rcases hA with hA|hA<;>(
   simp +decide only[↓vS,vT,simprocAttr,hA];refine(qu4 hcc).sc ?_;simp +decide only[↓vS,vT,simprocAttr];refine fin0 (Wk.mkn _ _ [0,1,2,3,4,5,6,7,8,9,10] ?_ ?_ ?_ rfl ?_ ?_)
   .simp[vw,wI,wkB]
   .simp[vw,wI,wkB,wTr,wT,qe4,qjF,qw,qY,zN,zp,qe,qI,qbB,qbW,qaG,x5,xN]
   .simp
   .simp[wI,wkB]
   .intro b hb;have:b=0\/b=1\/b=2\/b=3\/b=4\/b=5\/b=6\/b=7\/b=8\/b=9\/b=10:=by omega
    rcases this with rfl|rfl|rfl|rfl|rfl|rfl|rfl|rfl|rfl|rfl|rfl<;>rfl)
 by_cases h4:qm i.code=4
 .have h0:¬qm i.code=0:=by omega
  have h5:¬qm i.code=5:=by omega
  simp +decide only[↓vS,vT,simprocAttr,h4,hj1]
  by_cases hja:i.code=5
  .have hwl:qcL i j=[j+1+i.k.toNat]:=by unfold qcL;rw[if_neg hA,if_pos h4,if_pos hja]
   rw[if_pos hja];simp only[hk];refine(qoX hcc ((j+1+i.k.toNat:Nat):Int)).sc (vs:=[.sl 0 0 1 1 false]) [12] (Lent.of (by decide) ?_) ?_
   .simp[vL,vw]
   simp only[vK,simprocAttr];simp +decide only[↓vS,vT,simprocAttr];refine qla (gv:=gv) (gw:=gw) (gc:=gc) hcome hwr p hp i hi j l r0 hrec [j+1+i.k.toNat] [] rfl 1 (by simp) (by grind) (by simp) x s0 hs1 hs2 hx Qf (by rw[<- hwl];simp_all) (Wk.mkn _ _ [0,1,2,3,4,5,6,7,8,9,10,12] ?_ ?_ ?_ rfl ?_ ?_)
   .simp[vw,wI,wkB]
   .simp[vw,wI,wkB,wTr,wT,qe4,qjF,qw,qY,zN,zp,qe,qI,qbB,qbW,qaG,x5,xN,qoc,qod]
   .simp
   .simp[wI,wkB]
   .intro b hb;have:b=0\/b=1\/b=2\/b=3\/b=4\/b=5\/b=6\/b=7\/b=8\/b=9\/b=10:=by omega
    rcases this with rfl|rfl|rfl|rfl|rfl|rfl|rfl|rfl|rfl|rfl|rfl<;>rfl
  .rw[if_neg hja];simp only[show(if i.jf<i.jt then i.jf else i.jt)=loM i from rfl,show(if i.jt<i.jf then i.jf else i.jt)=hiM i from rfl,hlo,hhi]
   by_cases hlh:loM i=hiM i
   .have hwl:qcL i j=[j+1+(loM i).toNat]:=by unfold qcL;rw[if_neg hA,if_pos h4,if_neg hja,if_pos hlh]
    refine(qoY hcc ((j+1+(loM i).toNat:Nat):Int) ((j+1+(hiM i).toNat:Nat):Int)).sc (vs:=[.sl 0 0 2 2 false]) [11] (Lent.of (by decide) ?_) ?_
    .simp[vL,vw]
    rw[hlh,if_pos rfl,if_pos rfl];rw[hlh]at hwl;simp only[vK,simprocAttr];simp +decide only[↓vS,vT,simprocAttr];refine qla (gv:=gv) (gw:=gw) (gc:=gc) hcome hwr p hp i hi j l r0 hrec [j+1+(hiM i).toNat] [.j 0] rfl 2 (by simp) (by grind) (by simp) x s0 hs1 hs2 hx Qf (by rw[<- hwl];simp_all) (Wk.mkn _ _ [0,1,2,3,4,5,6,7,8,9,10,11] ?_ ?_ ?_ rfl ?_ ?_)
    .simp[vw,wI,wkB]
    .simp[vw,wI,wkB,wTr,wT,qe4,qjF,qw,qY,zN,zp,qe,qI,qbB,qbW,qaG,x5,xN,qoc,qod]
    .simp
    .simp[wI,wkB]
    .intro b hb;have:b=0\/b=1\/b=2\/b=3\/b=4\/b=5\/b=6\/b=7\/b=8\/b=9\/b=10:=by omega
     rcases this with rfl|rfl|rfl|rfl|rfl|rfl|rfl|rfl|rfl|rfl|rfl<;>rfl
   .have hwl:qcL i j=[j+1+(loM i).toNat,j+1+(hiM i).toNat]:=by unfold qcL;rw[if_neg hA,if_pos h4,if_neg hja,if_neg hlh]
    refine(qoY hcc ((j+1+(loM i).toNat:Nat):Int) ((j+1+(hiM i).toNat:Nat):Int)).sc (vs:=[.sl 0 0 2 2 false]) [11] (Lent.of (by decide) ?_) ?_
    .simp[vL,vw]
    rw[if_neg (by omega),if_neg (by omega)];simp only[vK,simprocAttr];simp +decide only[↓vS,vT,simprocAttr];refine qla (gv:=gv) (gw:=gw) (gc:=gc) hcome hwr p hp i hi j l r0 hrec [j+1+(loM i).toNat,j+1+(hiM i).toNat] [] rfl 2 (by simp) (by simp;omega) (by simp) x s0 hs1 hs2 hx Qf (by rw[<- hwl];simp_all) (Wk.mkn _ _ [0,1,2,3,4,5,6,7,8,9,10,11] ?_ ?_ ?_ rfl ?_ ?_)
    .simp[vw,wI,wkB]
    .simp[vw,wI,wkB,wTr,wT,qe4,qjF,qw,qY,zN,zp,qe,qI,qbB,qbW,qaG,x5,xN,qoc,qod]
    .simp
    .simp[wI,wkB]
    .intro b hb;have:b=0\/b=1\/b=2\/b=3\/b=4\/b=5\/b=6\/b=7\/b=8\/b=9\/b=10:=by omega
     rcases this with rfl|rfl|rfl|rfl|rfl|rfl|rfl|rfl|rfl|rfl|rfl<;>rfl
 .have h0:¬qm i.code=0:=by omega
  have h5:¬qm i.code=5:=by omega
  have hwl:qcL i j=[j+1]:=by unfold qcL;rw[if_neg hA,if_neg h4]
  simp +decide only[↓vS,vT,simprocAttr,h0,h4,h5,hj1];simp only[hj1];refine(qoX hcc ((j+1:Nat):Int)).sc (vs:=[.sl 0 0 1 1 false]) [11] (Lent.of (by decide) ?_) ?_
  .simp[vL,vw]
  simp only[vK,simprocAttr];simp +decide only[↓vS,vT,simprocAttr];refine qla (gv:=gv) (gw:=gw) (gc:=gc) hcome hwr p hp i hi j l r0 hrec [j+1] [] rfl 1 (by simp) (by simp_all) (by simp) x s0 hs1 hs2 hx Qf (by rw[<- hwl];simp_all) (Wk.mkn _ _ [0,1,2,3,4,5,6,7,8,9,10,11] ?_ ?_ ?_ rfl ?_ ?_)
  .simp[vw,wI,wkB]
  .simp[vw,wI,wkB,wTr,wT,qe4,qjF,qw,qY,zN,zp,qe,qI,qbB,qbW,qaG,x5,xN,qoc,qod]
  .simp
  .simp[wI,wkB]
  .intro b hb;have:b=0\/b=1\/b=2\/b=3\/b=4\/b=5\/b=6\/b=7\/b=8\/b=9\/b=10:=by omega
   rcases this with rfl|rfl|rfl|rfl|rfl|rfl|rfl|rfl|rfl|rfl|rfl<;>rfl
abbrev WSt:=List Nat×(List (BitVec 16)×List Bool)
def qd1(j:Nat)(st:List (BitVec 16)×List Bool):List (BitVec 16)×List Bool:=if j=0 then(qcw st.1 st.2 0 0#16,st.2.set 0 true)else st
def stM(n j:Nat)(i:Ins)(st:WSt):WSt :=
 if(qd1 j st.2).2.getD j false=true then(qj9 i ((qd1 j st.2).1.getD j 0#16) j st.1,goM n ((qd1 j st.2).1.getD j 0#16 ||| wrM i) (qcL i j) (qd1 j st.2))else(st.1,qd1 j st.2)
def wkM(n:Nat):Nat->List Ins->WSt->WSt
 | _,[],st=>st
 | j,i::L,st=>wkM n (j+1) L (stM n j i st)
def qd5(p:List Ins):List Nat:=(wkM p.length 0 p ([],(List.replicate p.length 0#16,List.replicate p.length false))).1
def qxw{j:Nat}{st:List (BitVec 16)×List Bool}:(qd1 j st).1.length=st.1.length/\(qd1 j st).2.length=st.2.length:=by
 unfold qd1;split<;>simp[qcw]
theorem qxQ{i:Ins}{x:BitVec 16}{j:Nat}{l:List Nat}:(qj9 i x j l).length<=l.length+1:=by
 unfold qj9;split<;>simp
def qGC(P:Program)(gv:Nat):Prop:=∀p:List Ins,p.length<=4096->∀l:List Nat,l.length<=4096->∀(j:Nat) (i:Ins),p[j]?=some i->InsOk i->∀x:BitVec 16,
  Upd P gv [.j j,.h (x.toNat:Int),.ptr 0 0,.ptr 1 0] [.v [.fz p.length (rP p)],.v [.own 2 l.length],.cells 1 true true (rNt l)] (.tup [])
   [.v [.fz p.length (rP p)],.v [.own 3 (qj9 i x j l).length],.dead,.cells 1 true true (rNt (qj9 i x j l))]
def qp6{g1 g2 g3 g4 gc gv gw:Nat}(hcw:qc P gw (jR g1 g2)=true)(hof:cOf P g1)(hcc:qc P g2 qH=true)(hcome:qra P gc)(hwr:cWr P g3)(hvis:qGC P gv)
  (hwy:∀i (j n:Nat),qa P g4 [.agg (qI i),.j (j:Int),.j (n:Int)] (.fn gw [] [.pf (qI i) 0,.pf [.j (j:Int)] 0,.pf [.j (n:Int)] 0]))
  (p:List Ins) (hp:p.length<=4096) (i:Ins) (hi:InsOk i) (j:Nat) (hpi:p[j]?=some i) (l:List Nat) (hl:l.length<=4096)
  (s:List (BitVec 16)) (r:List Bool) (hs1:s.length=p.length) (hs2:r.length=p.length) (Q:X->Tr AV->Hp->Prop)
  (hQ:∀e t'' h'',(e = .normal\/e = .exit 1)->Wk 2 t'' h'' (mkT (wT gv p j)) (mkH 0 (if r.getD j false=true then wkB p gc (qj9 i (s.getD j 0#16) j l) (goM p.length (s.getD j 0#16 ||| wrM i) (qcL i j) (s,r))else wkB p gc l (s,r)))->Q e t'' h'')
  {t':Tr AV} {h':Hp} (hw:Wk 2 t' h' (mkT (wT gv p j++[(7,.ptr 8 0),(8,.ptr 9 0)])) (mkH 0 (wI p gc l (s,r) j i))) :
  S P 2 (qbE gc g4 g3) Q t' h':=by
 refine S.weak hw (qk ?_);have hlt:j<p.length:=by grind
 obtain⟨x,hx⟩:∃x,s[j]?=some x:=⟨_,zzE (by omega)⟩;obtain⟨b,hb⟩:∃b,r[j]?=some b:=⟨_,zzE (by omega)⟩;simp only[List.getD_eq_getElem?_getD,hx,hb,Option.getD_some]at hQ;simp only[qbE,wT,wI,wkB,zzC,zzN,vI,simprocAttr];cases b with
 | false =>
  rw[if_neg (by simp)]at hQ;simp +decide only[↓vS,vT,simprocAttr,hs1,hlt,zzU,qk5,hb,Option.map_some];refine hQ _ _ _ (.inr rfl) (Wk.mkn _ _ [0,1,2,3,4,5,6,7] ?_ ?_ ?_ rfl ?_ ?_)
  .simp[vw,wT,qe4,qw,wkB]
  .simp[vw,wkB,qw,qY,zN,zp,qe,hs1]
  .simp
  .simp[wkB]
  .intro b hb;have:b=0\/b=1:=by omega
   rcases this with rfl|rfl<;>rfl
 | true =>
  rw[if_pos rfl]at hQ;simp +decide only[↓vS,vT,simprocAttr,hs1,hlt,zzU,qk5,hb,Option.map_some];refine zB ?_;simp +decide only[↓vS,vT,simprocAttr,hs1,hlt,zzU,qog,hx,Option.map_some,qe4];refine(hvis p hp l hl j i hpi hi x).pc (vs:=[.j j,.h (x.toNat:Int),.ptr 0 0,.ptr 1 0]) [0,1,2] (Lent.of (by decide) ?_) ?_
  .simp[vL,vw,qu (qw p),qf (qw p),qu qY,qf qY]
  simp only[vK,simprocAttr,qf (qw p),qf qY];simp +decide only[↓vS,vT,simprocAttr];refine qxR hcw hof hcc hcome hwr hwy p hp i hi j hlt (qj9 i x j l) x (s,r) hs1 hs2 hx Q (λt'' h'' hw=>hQ _ _ _ (.inl rfl) hw) (Wk.mkn _ _ [0,1,10,3,4,5,6,7,8,9] ?_ ?_ ?_ rfl ?_ ?_)
  .simp[vw,wT,qe4,qw,wI,wkB]
  .simp[vw,wI,wkB,qw,qY,zN,zp,qe,hs1,qI]
  .simp
  .simp[wI,wkB]
  .intro b hb;have:b=0\/b=1:=by omega
   rcases this with rfl|rfl<;>rfl
def qf5(a b:Nat):IFn:=⟨[.tmp 2],sq [.r [.q 1 (.box (.t 0)),.m 2 .N],.r [.q 3 (.alloc [.nils])],.r [.d 4 1,.q 5 (.mkF a [] [.t 1,.t 3]),.l 6 b [.t 4,.t 5]],.r [.d 7 3,.n 2 7],.ret]⟩
def qBA{g0 g1 g2 g3 g4 gc gv gw:Nat}(hc:qc P f (qf5 gv g0)=true)(hck:qc P g0 (qhS gc g4 g3)=true)
  (hcw:qc P gw (jR g1 g2)=true) (hof:cOf P g1) (hcc:qc P g2 qH=true) (hcome:qra P gc) (hwr:cWr P g3) (hvis:qGC P gv)
  (hwy:∀i (j n:Nat),qa P g4 [.agg (qI i),.j (j:Int),.j (n:Int)] (.fn gw [] [.pf (qI i) 0,.pf [.j (j:Int)] 0,.pf [.j (n:Int)] 0]))
  (p:List Ins) (hp:p.length<=4096) (hi:∀i ∈ p,InsOk i):qa P f [.fz p.length (rP p)] (.fz (qd5 p).length (rNt (qd5 p))):=by
 refine qa.mk hc (by simp[qt,clo,qw]) ?_;simp only[qf5,vI,simprocAttr];simp +decide only[↓vS,vT,simprocAttr];refine SC.mk hck (qk ?_);have hp':¬4096<(p.length:Int):=by omega
 have hr1:p.length<=qi:=by simp only[qi];omega
 have hr2:2*p.length<=qi:=by simp only[qi];omega
 have hr3:1*p.length<=qi:=by omega
 have hf1:(List.replicate p.length [AV.h 0]).flatten=rW (List.replicate p.length 0#16):=by
  generalize p.length=n
  induction n with
  | zero=>rfl
  | succ n ih=>rw[List.replicate_succ,List.replicate_succ,List.flatten_cons,ih];rfl
 have hf2:(List.replicate p.length [AV.b false]).flatten=rTt (List.replicate p.length false):=by
  generalize p.length=n
  induction n with
  | zero=>rfl
  | succ n ih=>rw[List.replicate_succ,List.replicate_succ,List.flatten_cons,ih];rfl
 simp only[qhS,vI,simprocAttr];simp +decide only[↓vS,vT,simprocAttr,hp'];refine zB ?_;simp +decide only[↓vS,vT,simprocAttr,hr1,hr2,hr3,hf1,hf2]
 refine SL.loopn (α:=Nat×WSt) (λa=>wT gv p a.1) (λa=>wkB p gc a.2.1 a.2.2)
  (λa=>a.1<=p.length/\a.2.1.length<=a.1/\a.2.2.1.length=p.length/\a.2.2.2.length=p.length/\wkM p.length a.1 (p.drop a.1) a.2=wkM p.length 0 p ([],(List.replicate p.length 0#16,List.replicate p.length false))) (λa=>p.length-a.1) (0,([],(List.replicate p.length 0#16,List.replicate p.length false))) [0,1,99,2,3,4,5,6] ?_ ?_ ?_ rfl ?_ ?_ ?_ ?_
 .simp[vw,wT,qe4,qw,wkB]
 .simp[vw,wkB,qw,qY,zN,zp,qe]
 .simp
 .simp[wkB]
 .intro b hb;have:b=0\/b=1:=by omega
  rcases this with rfl|rfl<;>rfl
 .simp_all
 rintro⟨j,l,s,r⟩ ⟨hj,hl,hs1,hs2,hgo⟩ G ih;simp only at hj hl hs1 hs2 hgo;simp only[wT,wkB,zzC,zzN,vI,simprocAttr]
 by_cases hlt:j<p.length
 .obtain⟨i,hpi⟩:∃i,p[j]?=some i:=⟨_,zzE hlt⟩;have hii:=hi i (by grind);have hel:=qS (f:=qI) (m:=4) qaX hpi;rw[show p.flatMap qI=rP p from rfl]at hel
  have h4:j*4+4<=(rP p).length:=by rw[qeY];omega
  have hdr:p.drop j=i::p.drop (j+1):=by
   grind[List.drop_eq_getElem_cons]
  rw[hdr]at hgo;have hw1:IntKind.wrap .i64 ((j:Int)+1)=((j+1:Nat):Int):=by rw[qp (by omega) (by omega)];omega
  simp only[qI]at hel;have ih2:=ih (j+1,stM p.length j i (l,s,r));have hst:wkM p.length j (i::p.drop (j+1)) (l,s,r)=wkM p.length (j+1) (p.drop (j+1)) (stM p.length j i (l,s,r)):=rfl;rw[hst]at hgo;have hlen0:=qxw (j:=j) (st:=(s,r))
  have hI:j+1<=p.length/\(stM p.length j i (l,s,r)).1.length<=j+1/\(stM p.length j i (l,s,r)).2.1.length=p.length/\(stM p.length j i (l,s,r)).2.2.length=p.length:=by
   refine⟨hlt,?_⟩;unfold stM
   grind[qxQ,qrq]
  have ih3:=ih2 (by grind) (by omega)
  have hstM:(wkB p gc (stM p.length j i (l,s,r)).1 (stM p.length j i (l,s,r)).2)=if(qd1 j (s,r)).2.getD j false=true then wkB p gc (qj9 i ((qd1 j (s,r)).1.getD j 0#16) j l) (goM p.length ((qd1 j (s,r)).1.getD j 0#16 ||| wrM i) (qcL i j) ((qd1 j (s,r)).1,(qd1 j (s,r)).2))else wkB p gc l ((qd1 j (s,r)).1,(qd1 j (s,r)).2):=by
   unfold stM;split<;>rfl
  clear hgo hst ih2
  by_cases hj0:j=0
  .have hj0':decide ((j:Int)=0)=true:=by rw[hj0];rfl
   have hcm:=hcome s r (by omega) 0 (by omega) 0#16;have he1:(qd1 j (s,r)).1=qcw s r 0 0#16:=by unfold qd1;rw[if_pos hj0]
   have he2:(qd1 j (s,r)).2=r.set 0 true:=by unfold qd1;rw[if_pos hj0]
   simp only[he1,he2]at hstM;have hs1':(qcw s r 0 0#16).length=p.length:=by grind
   simp +decide only[↓vS,vT,simprocAttr,hlt,hel,h4,hj0'];refine hcm.sc (vs:=[.j 0,.h 0,.ptr 3 0,.ptr 2 0]) [3,4,5,6] (Lent.of (by decide) ?_) ?_
   .simp[vL,vw,qgA,qu zN,qf zN,qu zp,qf zp]
   simp only[vK,simprocAttr,qgA,qf zN,qf zp];simp +decide only[↓vS,vT,simprocAttr];refine qp6 hcw hof hcc hcome hwr hvis hwy p hp i hii j hpi l (by omega) (qcw s r 0 0#16) (r.set 0 true) hs1' (by grind) _ ?_ (Wk.mkn _ _ [0,1,2,3,4,5,6,7,8,9] ?_ ?_ ?_ rfl ?_ ?_)
   .rintro e t'' h'' (rfl|rfl) hw2<;>(
     simp +decide only[↓vS,vT,simprocAttr];rw[<- hstM]at hw2;refine S.weak hw2 (qk ?_);generalize(stM p.length j i (l,s,r))=st2 at ih3 hI;obtain⟨l2,s2,r2⟩:=st2;simp only at ih3 hI;simp only[qbG,wT,wkB,zzC,zzN,vI,simprocAttr];simp +decide only[↓vS,vT,simprocAttr,hw1];refine ih3 _ _ (Wk.mkn _ _ [0,1,2,3,4,5,6,7] ?_ ?_ ?_ rfl ?_ ?_)
     .simp[vw,wT,qe4,qw,wkB]
     .simp[vw,wkB,qw,qY,zN,zp,qe]
     .simp
     .simp[wkB]
     .intro b hb;have:b=0\/b=1:=by omega
      rcases this with rfl|rfl<;>rfl)
   .simp[vw,wT,qe4,qw,wI,wkB]
   .simp[vw,wI,wkB,qw,qY,zN,zp,qe,qI,hs1,hs1']
   .simp
   .simp[wI,wkB]
   .intro b hb;have:b=0\/b=1:=by omega
    rcases this with rfl|rfl<;>rfl
  .have hj0':decide ((j:Int)=0)=false:=by grind
   have he1:(qd1 j (s,r)).1=s:=by unfold qd1;rw[if_neg hj0]
   have he2:(qd1 j (s,r)).2=r:=by unfold qd1;rw[if_neg hj0]
   simp only[he1,he2]at hstM;have hs1':=hs1;simp +decide only[↓vS,vT,simprocAttr,hlt,hel,h4,hj0'];refine qp6 hcw hof hcc hcome hwr hvis hwy p hp i hii j hpi l (by omega) s r hs1 hs2 _ ?_ (Wk.mkn _ _ [0,1,2,3,4,5,6,7,8,9] ?_ ?_ ?_ rfl ?_ ?_)
   .rintro e t'' h'' (rfl|rfl) hw2<;>(
     simp +decide only[↓vS,vT,simprocAttr];rw[<- hstM]at hw2;refine S.weak hw2 (qk ?_);generalize(stM p.length j i (l,s,r))=st2 at ih3 hI;obtain⟨l2,s2,r2⟩:=st2;simp only at ih3 hI;simp only[qbG,wT,wkB,zzC,zzN,vI,simprocAttr];simp +decide only[↓vS,vT,simprocAttr,hw1];refine ih3 _ _ (Wk.mkn _ _ [0,1,2,3,4,5,6,7] ?_ ?_ ?_ rfl ?_ ?_)
     .simp[vw,wT,qe4,qw,wkB]
     .simp[vw,wkB,qw,qY,zN,zp,qe]
     .simp
     .simp[wkB]
     .intro b hb;have:b=0\/b=1:=by omega
      rcases this with rfl|rfl<;>rfl)
   .simp[vw,wT,qe4,qw,wI,wkB]
   .simp[vw,wI,wkB,qw,qY,zN,zp,qe,qI,hs1,hs1']
   .simp
   .simp[wI,wkB]
   .intro b hb;have:b=0\/b=1:=by omega
    rcases this with rfl|rfl<;>rfl
 .obtain rfl:j=p.length:=by omega
  have hu:qd5 p=l:=by unfold qd5;rw[<- hgo,List.drop_length];rfl
  simp +decide only[↓vS,vT,simprocAttr,hlt];rw[hu];simp[vZ,vP,Tr.get_set,zj qY];intro h0;rw[h0];rfl
def qCk(P:Program)(g:Nat):Prop:=∀n,qa P g [.h n] (.b (zY n))
def qih(i:Ins):Bool:=!zY i.code
def qhH(i:Ins):Bool:=decide (i.code=32)&&(decide (i.k % 4≠0)||decide (64<=i.k))
def qiI(i:Ins):Bool:=(decide (i.code=96)||decide (i.code=97)||decide (qm i.code=2))&&decide (16<=i.k)
def qiJ(i:Ins):Bool:=decide (i.code=52)&&decide (i.k=0)
def qiK(i:Ins):Bool:=(decide (i.code=100)||decide (i.code=116))&&decide (31<i.k)
def qiL(i:Ins)(n:Nat):Bool:=if i.code=5 then decide ((n:Int)<=i.k)else decide (qm i.code=4)&&decide ((n:Int)<=hiM i)
def qeh(a:Nat):IFn:=⟨[.tmp 4],sq [.r [.q 2 (.box (.t 0)),.m 4 .F],.r [.f 5 0 2,.d 6 5,.l 7 a [.t 6],.q 8 (.un .not (.t 7)),.n 4 8],.ret]⟩
def qJp{g:Nat}(hc:qc P f (qeh g)=true)(hg:qCk P g)(i:Ins)(n:Nat):qa P f [.agg (qI i),.j n] (.b (qih i)):=by
 refine qa.mk hc rfl ?_;simp only[qeh,qI,vI,simprocAttr];simp +decide only[↓vS,vT,simprocAttr];refine(hg _).sc ?_;simp +decide only[↓vS,vT,simprocAttr];simp[vZ,qih]
def qei:IFn:=⟨[.tmp 4],sq [.r [.q 2 (.box (.t 0)),.m 4 .F],.r [.f 5 0 2,.d 6 5,.q 7 (.bin .eql (.t 6) (.c (.h 32))),.n 8 7,.h 9 3 2 8 true,.j 10 9 8 true,.g 11 (.bin .rem (.t 10) (.c (.w 4))) 8 true,.g 12 (.bin .neq (.t 11) (.c (.w 0))) 8 true,.y 13 12 8,.h 14 3 2 13 false,.j 15 14 13 false,.g 16 (.bin .geq (.t 15) (.c (.w 64))) 13 false,.g 17 (.pick (.t 13) .T (.t 16)) 8 true,.p 18 8 17,.n 4 18],.ret]⟩
def qJq(hc:qc P f qei=true)(i:Ins)(hi:InsOk i)(n:Nat):qa P f [.agg (qI i),.j n] (.b (qhH i)):=by
 refine qa.mk hc rfl ?_;have h40:(4:Int)≠0:=by decide
 have h0:=hi.k0;have ht:i.k.tmod 4=i.k % 4:=by grind
 unfold qhH;simp only[qei,qI,vI,simprocAttr]
 by_cases h1:i.code=32
 .by_cases h2:i.k % 4=0
  .simp +decide only[↓vS,vT,simprocAttr,h1,↓qfG h40,ht,h2];simp[vZ]
  .simp +decide only[↓vS,vT,simprocAttr,h1,↓qfG h40,ht,h2];simp[vZ,h2]
 .simp +decide only[↓vS,vT,simprocAttr,h1];simp[vZ]
def qej(a:Nat):IFn:=⟨[.tmp 4],sq [.r [.q 2 (.box (.t 0)),.m 4 .F],.r [.f 6 0 2,.d 7 6,.q 8 (.bin .eql (.t 7) (.c (.h 96))),.n 9 8,.h 10 0 2 9 false,.j 11 10 9 false,.g 12 (.bin .eql (.t 11) (.c (.h 97))) 9 false,.o 13 9 12,.n 14 13,.h 15 0 2 14 false,.j 16 15 14 false,⟨(some 17),.callF a [.t 16],(some (14,false))⟩,.g 18 (.bin .eql (.t 17) (.c (.y 2))) 14 false,.o 19 14 18,.n 5 19],.r [.n 20 5,.n 21 20,.h 22 3 2 21 true,.j 23 22 21 true,.g 24 (.bin .geq (.t 23) (.c (.w 16))) 21 true,.p 25 21 24,.n 4 25],.ret]⟩
def qJr{g:Nat}(hc:qc P f (qej g)=true)(hg:cOf P g)(i:Ins)(n:Nat):qa P f [.agg (qI i),.j n] (.b (qiI i)):=by
 refine qa.mk hc rfl ?_;unfold qiI;simp only[qej,qI,vI,simprocAttr]
 by_cases h1:i.code=96
 .simp +decide only[↓vS,vT,simprocAttr,h1];simp[vZ]
 by_cases h2:i.code=97
 .simp +decide only[↓vS,vT,simprocAttr,h1,h2];simp[vZ]
 simp +decide only[↓vS,vT,simprocAttr,h1,h2];refine(hg _).sc ?_
 by_cases h3:qm i.code=2
 .simp +decide only[↓vS,vT,simprocAttr,h3];simp[vZ]
 .simp +decide only[↓vS,vT,simprocAttr,h3];simp[vZ,h1,h2]
def qek:IFn:=⟨[.tmp 4],sq [.r [.q 2 (.box (.t 0)),.m 4 .F],.r [.f 5 0 2,.d 6 5,.q 7 (.bin .eql (.t 6) (.c (.h 52))),.n 8 7,.h 9 3 2 8 true,.j 10 9 8 true,.g 11 (.bin .eql (.t 10) (.c (.w 0))) 8 true,.p 12 8 11,.n 4 12],.ret]⟩
def qJs(hc:qc P f qek=true)(i:Ins)(n:Nat):qa P f [.agg (qI i),.j n] (.b (qiJ i)):=by
 refine qa.mk hc rfl ?_;unfold qiJ;simp only[qek,qI,vI,simprocAttr]
 by_cases h1:i.code=52
 .simp +decide only[↓vS,vT,simprocAttr,h1];simp[vZ]
 .simp +decide only[↓vS,vT,simprocAttr,h1];simp[vZ]
def qel:IFn:=⟨[.tmp 4],sq [.r [.q 2 (.box (.t 0)),.m 4 .F],.r [.f 5 0 2,.d 6 5,.q 7 (.bin .eql (.t 6) (.c (.h 100))),.n 8 7,.h 9 0 2 8 false,.j 10 9 8 false,.g 11 (.bin .eql (.t 10) (.c (.h 116))) 8 false,.o 12 8 11,.n 13 12,.h 14 3 2 13 true,.j 15 14 13 true,.g 16 (.bin .gtr (.t 15) (.c (.w 31))) 13 true,.p 17 13 16,.n 4 17],.ret]⟩
def qJt(hc:qc P f qel=true)(i:Ins)(n:Nat):qa P f [.agg (qI i),.j n] (.b (qiK i)):=by
 refine qa.mk hc rfl ?_;unfold qiK;simp only[qel,qI,vI,simprocAttr]
 by_cases h1:i.code=100
 .simp +decide only[↓vS,vT,simprocAttr,h1];simp[vZ]
 by_cases h2:i.code=116
 .simp +decide only[↓vS,vT,simprocAttr,h1,h2];simp[vZ]
 simp +decide only[↓vS,vT,simprocAttr,h1,h2];simp[vZ]
def qem(a:Nat):IFn:=⟨[.tmp 4],sq [.r [.q 2 (.box (.t 0)),.m 4 .F],sq [.r [.f 5 0 2,.d 6 5,.q 7 (.bin .eql (.t 6) (.c (.h 5)))],.cond (.t 7) (sq [.r [.f 8 3 2,.d 9 8,.q 10 (.cvInt .i64 (.t 9)),.n 11 1,.b 12 .geq 10 11,.n 4 12],.ret]) (.skip)],.r [.f 13 0 2,.d 14 13,.l 15 a [.t 14],.q 16 (.bin .eql (.t 15) (.c (.y 4))),.n 17 16,.h 18 1 2 17 true,.j 19 18 17 true,.h 20 2 2 17 true,.j 21 20 17 true,.g 22 (.max (.t 19) (.t 21)) 17 true,.g 23 (.cvInt .i64 (.t 22)) 17 true,.y 24 1 17,.g 25 (.bin .geq (.t 23) (.t 24)) 17 true,.p 26 17 25,.n 4 26],.ret]⟩
def qJu{g:Nat}(hc:qc P f (qem g)=true)(hg:cOf P g)(i:Ins)(hi:InsOk i)(n:Nat):qa P f [.agg (qI i),.j n] (.b (qiL i n)):=by
 refine qa.mk hc rfl ?_;have hk:IntKind.wrap .i64 i.k=i.k:=by have:=hi.k0;have:=hi.k1;grind[qp]
 have hh:IntKind.wrap .i64 (hiM i)=hiM i:=by
  have:=hi.t0;have:=hi.t1;have:=hi.f0;have:=hi.f1
  refine qp ?_ ?_<;>(unfold hiM;split<;>omega)
 unfold qiL;simp only[qem,qI,vI,simprocAttr]
 by_cases h1:i.code=5
 .rw[if_pos h1];simp +decide only[↓vS,vT,simprocAttr,h1,hk];simp[vZ]
 rw[if_neg h1];simp +decide only[↓vS,vT,simprocAttr,h1];refine(hg _).sc ?_
 by_cases h2:qm i.code=4
 .simp +decide only[↓vS,vT,simprocAttr,h2];simp only[show(if i.jt<i.jf then i.jf else i.jt)=hiM i from rfl,hh]
  simp[vZ]
 .simp +decide only[↓vS,vT,simprocAttr,h2];simp[vZ]
def ql9(x:Int×Nat×Bool):List AV:=[.j x.1,.fn x.2.1 [] []]
def qpS(x:Int×Nat×Bool):(ql9 x).length=2:=rfl
def wsM(g1 g2 g3 g4 g5 g6:Nat)(i:Ins)(n:Nat):List (Int×Nat×Bool):=[(40,g1,qih i),(41,g2,qhH i),(43,g3,qiI i),(44,g4,qiJ i),(45,g5,qiK i),(42,g6,qiL i n)]
def qd4(i:Ins)(n:Nat):Int:=if qih i=true then 40 else if qhH i=true then 41 else if qiI i=true then 43 else if qiJ i=true then 44 else if qiK i=true then 45 else if qiL i n=true then 42 else 0
def qf8(a b c d e g:Nat):IFn:=⟨[.cell 0 12 true],sq [.r [.q 0 (.alloc [.j 0,.nilf,.j 0,.nilf,.j 0,.nilf,.j 0,.nilf,.j 0,.nilf,.j 0,.nilf])],.r [.q 1 (.build [.j 0,.nilf] [(0,1,(.k 40)),(1,1,(.c (.fn a [] [])))]),.q 2 (.build [.j 0,.nilf] [(0,1,(.k 41)),(1,1,(.c (.fn b [] [])))]),.q 3 (.build [.j 0,.nilf] [(0,1,(.k 43)),(1,1,(.c (.fn c [] [])))]),.q 4 (.build [.j 0,.nilf] [(0,1,(.k 44)),(1,1,(.c (.fn d [] [])))]),.q 5 (.build [.j 0,.nilf] [(0,1,(.k 45)),(1,1,(.c (.fn e [] [])))]),.q 6 (.build [.j 0,.nilf] [(0,1,(.k 42)),(1,1,(.c (.fn g [] [])))]),.q 7 (.build [.j 0,.nilf,.j 0,.nilf,.j 0,.nilf,.j 0,.nilf,.j 0,.nilf,.j 0,.nilf] [(0,2,(.t 1)),(2,2,(.t 2)),(4,2,(.t 3)),(6,2,(.t 4)),(8,2,(.t 5)),(10,2,(.t 6))]),.u (.store 12 (.t 0) (.t 7))],.ret]⟩
def qBI{g1 g2 g3 g4 g5 g6:Nat}(hc:qc P f (qf8 g1 g2 g3 g4 g5 g6)=true)(i:Ins)(n:Nat):qa P f [] (.agg ((wsM g1 g2 g3 g4 g5 g6 i n).flatMap ql9)):=by
 refine qa.mk hc rfl ?_;simp only[qf8,vI,simprocAttr];simp +decide only[↓vS,vT,simprocAttr];simp[vZ,vP,Tr.get_set,wsM,ql9]
def qi1(a:Nat):IFn:=⟨[.tmp 4],sq [.r [.q 2 (.box (.t 0)),.m 4 (.k 0)],sq [.r [.l 7 a [],.m 8 (.k 0)],.blk 0 (.loop (sq [.r [.w 9 .lss 8 6],.cond (.t 9) (.skip) (.exit 0),.blk 1 (sq [.r [.q 10 (.idxA 6 2 true (.t 7) (.t 8)),.q 6 (.alloc [.j 0,.nilf]),.u (.store 2 (.t 6) (.t 10))],.r [.f 11 1 6,.d 12 11,.v 13 4 2,.n 14 1,.q 15 (.max (.t 14) (.k 0)),⟨(some 16),.callV (.t 12) [.t 13,.t 15],none⟩],.cond (.t 16) (sq [.r [.f 17 0 6,.d 18 17,.n 4 18],.ret]) (.skip)]),.r [.a 19 8 1,.n 8 19]]))],.r [.m 4 (.k 0)],.ret]⟩
def qHu{g0:Nat}(hc:qc P f (qi1 g0)=true)(i:Ins)(n:Nat)(ws:List (Int×Nat×Bool))(hw6:ws.length=6)(h0:qa P g0 [] (.agg (ws.flatMap ql9)))(hw:∀x ∈ ws,qa P x.2.1 [.agg (qI i),.j n] (.b x.2.2)) :
  qa P f [.agg (qI i),.j n] (.j ((ws.find? λx=>x.2.2).elim 0 λx=>x.1)):=by
 refine qa.mk hc rfl ?_;have hn0:¬(n:Int)<0:=by omega
 have hlen:(ws.flatMap ql9).length=12:=by rw[qW qpS,hw6]
 have hcl:qt (ws.flatMap ql9)=true:=xP (λ_=>rfl)
 simp only[qi1,qI,vI,simprocAttr];simp +decide only[↓vS,vT,simprocAttr];refine h0.sc ?_;simp +decide only[↓vS,vT,simprocAttr];refine SL.loop (α:=Nat) (λj=>[(1,.j (n:Int)),(2,.ptr 0 0),(7,.agg (ws.flatMap ql9)),(8,.j (j:Int))]) (λ_=>[.v (qI i)]) (λj=>j<=6/\(ws.drop j).find? (λx=>x.2.2)=ws.find? (λx=>x.2.2)) (λj=>6-j) 0 [0] ?_ ?_ ?_ rfl ?_ ?_
 .simp[vw,qe,hcl]
 .simp[vw,qI]
 .simp
 .simp_all
 rintro j ⟨hj,hI⟩ G ih;simp only[vI,simprocAttr,qI]
 by_cases hlt:j<6
 .have hlt':(j:Int)<6:=by omega
  have hjl:j<ws.length:=by omega
  have hx:ws[j]?=some ws[j]:=by simp_all
  have hw1:IntKind.wrap .i64 ((j:Int)+1)=((j+1:Nat):Int):=by rw[qp (by omega) (by omega)];omega
  have hel:=qS (f:=ql9) (m:=2) qpS hx;have hb:j*2+2<=(ws.flatMap ql9).length:=by omega
  have hpx:=hw _ (List.getElem_mem hjl);rw[List.drop_eq_getElem_cons hjl,List.find?_cons]at hI;generalize hc0:ws[j]=x at hel hI hpx;simp only[ql9]at hel;generalize hT:ws.flatMap ql9=T at hel hb hlen hcl;simp +decide only[↓vS,vT,simprocAttr,hlt',hlt,hel,hb,hn0];refine hpx.sc ?_;cases hs:x.2.2 with
  | true =>
   rw[hs]at hI;simp +decide only[↓vS,vT,simprocAttr];rw[<- hI];simp[vZ]
  | false =>
   rw[hs]at hI;simp +decide only[↓vS,vT,simprocAttr,hw1];refine ih (j+1) ⟨hlt,hI⟩ (by omega) _ _ (Wk.mk _ _ [0] ?_ ?_ ?_ rfl)
   .simp[vw,qe,hcl,hT]
   .simp[vw,qI]
   .simp
 .obtain rfl:j=6:=by omega
  have hd:ws.drop 6=[]:=by simp_all
  rw[hd]at hI;rw[<- hI];simp +decide only[↓vS,vT,simprocAttr];simp[vZ]
def qIj{g1 g2 g3 g4 g5 g6:Nat}{i:Ins}{n:Nat}:(((wsM g1 g2 g3 g4 g5 g6 i n).find? λx=>x.2.2).elim 0 λx=>x.1)=qd4 i n:=by
 unfold wsM qd4;cases qih i<;>cases qhH i<;>cases qiI i<;>cases qiJ i<;>cases qiK i<;>cases qiL i n<;>rfl
def qgw(n:Nat):Nat->List Ins->Option (Nat×Int)
 | _,[]=>none
 | j,i::L=>if qd4 i (n-1-j)=0 then qgw n (j+1) L else some (j,qd4 i (n-1-j))
def qfE{n j:Nat}{i:Ins}{L:List Ins}:qgw n j (i::L)=if qd4 i (n-1-j)=0 then qgw n (j+1) L else some (j,qd4 i (n-1-j)):=rfl
def qgk(p:List Ins):Int:=(p.getD (p.length-1) ⟨0,0,0,0⟩).code
def atU(p:List Ins)(u:List Nat):Nat×Int :=
 if p.length=0\/4096<p.length then(0,60)else(qgw p.length 0 p).elim (if qm (qgk p)=5 then(match u with | []=>(0,0)|a::_=>(a,61))else(p.length-1,46)) id
def cAt(P:Program)(f:Nat):Prop:=∀p:List Ins,(∀i ∈ p,InsOk i)->p.length<=5000->qa P f [.fz p.length (rP p)] (.tup [.j ((atU p (qd5 p)).1:Int),.j (atU p (qd5 p)).2])
def qeg(a b c:Nat):IFn:=⟨[.tmp 2,.tmp 3],sq [.r [.m 2 (.k 0),.m 3 (.k 0)],sq [.r [.n 10 0,.e 11 10,.w 12 .lss 11 1,.n 13 12,.z 14 0 13,.g 15 (.len false (.t 14)) 13 false,.g 16 (.bin .gtr (.t 15) (.k 4096)) 13 false,.o 17 13 16],.cond (.t 17) (sq [.r [.m 2 (.k 0),.m 3 (.k 60)],.ret]) (.skip)],.r [.n 18 0,.e 19 18,.w 20 .sub 19 1,.n 4 20],sq [.r [.n 21 0,.e 22 21,.m 23 (.k 0)],.blk 0 (.loop (sq [.r [.s 24 23 22],.cond (.t 24) (.skip) (.exit 0),.blk 1 (sq [.r [.n 25 23,.i 26 4 21 23,.v 27 4 26,.q 6 (.alloc [.h 0,.y 0,.y 0,.w 0]),.n 5 25,.u (.store 4 (.t 6) (.t 27))],.r [.v 28 4 6,.n 29 4,.n 30 5,.b 31 .sub 29 30,.l 32 a [.t 28,.t 31],.n 7 32],.r [.n 33 7,.w 34 .neq 33 0],.cond (.t 34) (sq [.r [.n 35 5,.n 36 7,.n 2 35,.n 3 36],.ret]) (.skip)]),.r [.a 37 23 1,.n 23 37]]))],sq [.r [.n 38 0,.n 39 4,.i 40 4 38 39,.f 41 0 40,.d 42 41,.l 43 b [.t 42],.q 44 (.bin .neq (.t 43) (.c (.y 5)))],.cond (.t 44) (sq [.r [.n 45 4,.n 2 45,.m 3 (.k 46)],.ret]) (.skip)],sq [.r [.n 46 0,.l 47 c [.t 46],.e 48 47,.m 49 (.k 0)],.blk 2 (.loop (sq [.r [.s 50 49 48],.cond (.t 50) (.skip) (.exit 2),.blk 3 (sq [.r [.i 51 1 47 49,.d 52 51,.n 9 52],.r [.n 53 9,.n 2 53,.m 3 (.k 61)],.ret]),.r [.a 54 49 1,.n 49 54]]))],.r [.m 2 (.k 0),.m 3 (.k 0)],.ret]⟩
def qyN{g1 g2 g3:Nat}(hc:qc P f (qeg g1 g2 g3)=true)(h1:∀i,InsOk i->∀n:Nat,qa P g1 [.agg (qI i),.j (n:Int)] (.j (qd4 i n)))(h2:cOf P g2)
  (h3:∀p:List Ins,p.length<=4096->(∀i ∈ p,InsOk i)->qa P g3 [.fz p.length (rP p)] (.fz (qd5 p).length (rNt (qd5 p)))):cAt P f:=by
 intro p hi hp;refine qa.mk hc (by simp[qt,clo,qw]) ?_;unfold atU;simp only[qeg,vI,simprocAttr]
 by_cases hz:p.length=0
 .have hz':(p.length:Int)<1:=by omega
  rw[if_pos (.inl hz)];simp +decide only[↓vS,vT,simprocAttr,hz'];simp[vZ]
 have hz':¬(p.length:Int)<1:=by omega
 by_cases hb:4096<p.length
 .have hb':(4096:Int)<p.length:=by omega
  rw[if_pos (.inr hb)];simp +decide only[↓vS,vT,simprocAttr,hz',hb'];simp[vZ]
 have hb':¬(4096:Int)<p.length:=by omega
 rw[if_neg (by omega)];have hl1:IntKind.wrap .i64 ((p.length:Int)-1)=((p.length-1:Nat):Int):=by rw[qp (by omega) (by omega)];omega
 simp +decide only[↓vS,vT,simprocAttr,hz',hb',hl1];refine SL.loop (α:=Nat) (λj=>[(0,.fz p.length (rP p)),(4,.j ((p.length-1:Nat):Int)),(21,.fz p.length (rP p)),(22,.j (p.length:Int)),(23,.j (j:Int))]) (λ_=>[]) (λj=>j<=p.length/\qgw p.length j (p.drop j)=qgw p.length 0 p) (λj=>p.length-j) 0 [] ?_ ?_ ?_ rfl ?_ ?_
 .simp[vw,qw]
 .trivial
 .simp
 .simp_all
 rintro j ⟨hj,hI⟩ G ih;simp only[vI,simprocAttr]
 by_cases hlt:j<p.length
 .obtain⟨i,hpi⟩:∃i,p[j]?=some i:=⟨_,zzE hlt⟩;have hii:=hi i (by grind);have hel:=qS (f:=qI) (m:=4) qaX hpi;rw[show p.flatMap qI=rP p from rfl]at hel
  simp only[qI]at hel;have h4:j*4+4<=(rP p).length:=by rw[qeY];omega
  have hdr:p.drop j=i::p.drop (j+1):=by
   grind[List.drop_eq_getElem_cons]
  rw[hdr,qfE]at hI;have hw1:IntKind.wrap .i64 ((j:Int)+1)=((j+1:Nat):Int):=by rw[qp (by omega) (by omega)];omega
  have hw2:IntKind.wrap .i64 (((p.length-1:Nat):Int)-(j:Int))=((p.length-1-j:Nat):Int):=by rw[qp (by omega) (by omega)];omega
  have hone:=h1 i hii (p.length-1-j);simp only[qI]at hone;simp +decide only[↓vS,vT,simprocAttr,hlt,hel,h4,hw2];refine hone.sc ?_
  by_cases h0:qd4 i (p.length-1-j)=0
  .rw[if_pos h0]at hI;simp +decide only[↓vS,vT,simprocAttr,h0,hw1];refine ih (j+1) ⟨hlt,hI⟩ (by omega) _ _ (Wk.mk _ _ [] ?_ ?_ ?_ rfl)
   .simp[vw,qw]
   .trivial
   .simp
  .rw[if_neg h0]at hI;simp +decide only[↓vS,vT,simprocAttr,h0];rw[<- hI];simp[vZ]
 .obtain rfl:j=p.length:=by omega
  have hd:p.drop p.length=[]:=by simp_all
  rw[hd]at hI;simp only[qgw]at hI;rw[<- hI];obtain⟨i,hpi⟩:∃i,p[p.length-1]?=some i:=⟨_,zzE (by omega)⟩;have hlc:qgk p=i.code:=by unfold qgk;rw[List.getD_eq_getElem?_getD,hpi];rfl
  have hg:=qcz (f:=qI) (m:=4) qaX hpi (i:=0) (by omega);rw[show p.flatMap qI=rP p from rfl]at hg
  simp only[qI,Nat.add_zero,List.getElem?_cons_zero]at hg;have hlt2:p.length-1<p.length:=by omega
  simp +decide only[↓vS,vT,simprocAttr,hlt,hlt2,hg];refine(h2 _).sc ?_
  by_cases h5:qm i.code=5
  .simp +decide only[↓vS,vT,simprocAttr,h5];refine(h3 p (by omega) hi).sc ?_;simp +decide only[↓vS,vT,simprocAttr];refine SL.loop (α:=Unit) (λ_=>[(47,.fz (qd5 p).length (rNt (qd5 p))),(48,.j ((qd5 p).length:Int)),(49,.j 0)]) (λ_=>[]) (λ_=>True) (λ_=>0) () [] ?_ ?_ ?_ rfl ?_ ?_
   .simp[vw,qY]
   .trivial
   .simp
   .trivial
   rintro _ _ G2 _;simp only[vI,simprocAttr];rw[hlc];cases hu:qd5 p with
   | nil =>
    simp +decide only[↓vS,vT,simprocAttr,List.length_nil];simp[vZ,h5]
   | cons a u =>
    have hgt2:0<(a::u).length:=by simp
    have hga:(rNt (a::u))[0]?=some (.j (a:Int)):=rfl;generalize(a::u).length=m at hgt2 ⊢;generalize rNt (a::u)=T at hga ⊢;have hgt:(0:Int)<(m:Int):=by omega
    simp +decide only[↓vS,vT,simprocAttr,hgt,hgt2,zzU,hga];simp[vZ,h5]
  .simp +decide only[↓vS,vT,simprocAttr,h5];rw[hlc];simp[vZ,h5]
def qgJ(a:Nat):IFn:=⟨[.tmp 2],sq [.r [.m 2 (.k 0)],.r [.n 6 0,.l 7 a [.t 6],.n 5 7,.x 8 5 0,.x 9 5 1,.n 3 8,.n 4 9],.r [.n 10 4,.n 2 10],.ret]⟩
def qHt(n:Nat)(i:Ins)(j:Nat):List Nat:=(qcL i j).takeWhile λm=>decide (m<n)
def mkL(L:List Nat)(r:List Bool):List Bool:=L.foldl (λr m=>r.set m true) r
def qHG(n:Nat):Nat->List Ins->List Bool->List Bool
 | _,[],r=>r
 | j,i::L,r=>qHG n (j+1) L (if r.getD j false=true then mkL (qHt n i j) r else r)
def st0(n:Nat):List Bool:=(List.replicate n false).set 0 true
def wrC(i:Ins)(c:Nat):Bool:=(decide (i.code=2)||decide (i.code=3))&&decide (i.k=(c:Int))
def stS(n c j:Nat)(i:Ins)(st:List Bool×List (BitVec 16)):List Bool×List (BitVec 16) :=
 if st.1.getD j false=false then(st.1,st.2.set j (st.2.getD j 0#16 ||| cell c))else if wrC i c=true then st else(mkL (qHt n i j) st.1,st.2)
def qHN(n c:Nat):Nat->List Ins->List Bool×List (BitVec 16)->List Bool×List (BitVec 16)
 | _,[],st=>st
 | j,i::L,st=>qHN n c (j+1) L (stS n c j i st)
def qHO(p:List Ins):Nat->List (BitVec 16)->List (BitVec 16)
 | 0,out=>out
 | k+1,out=>qHO p k (qHN p.length (16-(k+1)) 0 p (st0 p.length,out)).2
def qJi(p:List Ins):List (BitVec 16):=qHO p 16 (List.replicate p.length 0#16)
def rdC(i:Ins):Bool:=(decide (i.code=96)||decide (i.code=97))&&decide (i.k<16)
def unC(rch:List Bool)(sur:List (BitVec 16))(j:Nat)(i:Ins):Bool:=rch.getD j false&&rdC i && !(sur.getD j 0#16).getLsbD i.k.toNat
def qAT(rch:List Bool)(sur:List (BitVec 16)):Nat->List Ins->List Nat->List Nat
 | _,[],l=>l
 | j,i::L,l=>qAT rch sur (j+1) L (if unC rch sur j i=true then l++[j]else l)
def qHT(p:List Ins):List Nat:=qAT (qHG p.length 0 p (st0 p.length)) (qJi p) 0 p []
theorem qdn{c:Int}{x:Int×List UInt8×Int}(h:qag c=some x):x ∈ qaO/\x.1=c:=by
 unfold qag at h;have h1:=List.mem_of_find?_eq_some h;have h2:=List.find?_some h;exact⟨h1,by simpa using h2⟩

end Go.Kc
end
section
namespace Go.Kc
def qqT:∀x ∈ qaO,x.2.2=2->x.1=2\/x.1=3:=by decide
def qCr{c:Int}:qm c=2↔c=2\/c=3:=by
 constructor
 .intro h;unfold qm at h;cases hc:qag c with
  | none=>rw[hc]at h;cases h
  | some x =>
   rw[hc]at h;obtain⟨h1,h2⟩:=qdn hc;rw[<- h2];exact qqT x h1 h
 .rintro (rfl|rfl)<;>decide
section
variable (p:List Ins)
end
end Go.Kc
end
section
namespace Go.Kc
variable {P:Program} {f:Nat}
structure Prg where
 dir:Int
 arch:Int
 ins:List Ins
def cPr(x:Prg):List AV:=[.j x.dir,.j x.arch,.fz x.ins.length (rP x.ins)]
def qnI(x:Prg):(cPr x).length=3:=rfl
def rPr(l:List Prg):List AV:=l.flatMap cPr
def qr0(l:List Prg):(rPr l).length=l.length*3:=qW qnI l
def qdX(l:List Prg):qt (rPr l)=true:=xP (λx=>by simp[cPr,qt,clo,qw])
def qAi(p q:List Prg):rPr (p++q)=rPr p++rPr q:=List.flatMap_append
def xz:IFn:=⟨[.tmp 4],sq [.r [.m 4 (.k 0)],sq [.r [.n 6 0,.e 7 6,.m 8 (.k 0)],.blk 0 (.loop (sq [.r [.s 9 8 7],.cond (.t 9) (.skip) (.exit 0),.blk 1 (sq [.r [.n 10 8,.n 5 10],.r [.n 11 1,.n 12 0,.n 13 5,.i 14 3 12 13,.v 15 3 14,⟨(some 16),.callV (.t 11) [.t 15],none⟩],.cond (.t 16) (sq [.r [.n 17 5,.n 4 17],.ret]) (.skip)]),.r [.a 18 8 1,.n 8 18]]))],.r [.q 4 (.mov (.c (.j (-1))))],.ret]⟩
def qru(hc:qc P f xz=true):qfH 3 P f:=by
 intro α enc p g a c l hlen ha hc' hl hp;refine qa.mk hc (by simp[qt,clo,ha,hc']) ?_;simp only[xz,vI,simprocAttr];simp only[↓vS,vT,simprocAttr];refine SL.loop (α:=Nat) (λj=>[(0,.fz l.length (l.flatMap enc)),(1,.fn g a c),(7,.j l.length),(8,.j j)]) (λ_=>[]) (λj=>j<=l.length/\xq p l 0=xq p (l.drop j) j) (λj=>l.length-j) 0 [] ?_ ?_ ?_ rfl ?_ ?_
 .simp[vw,qe,ha,hc']
 .trivial
 .simp
 .simp
 rintro j ⟨hj,hI⟩ G ih;simp only[vI,simprocAttr]
 by_cases hlt:j<l.length
 .have hx:l[j]?=some l[j]:=by simp_all
  have hw:IntKind.wrap .i64 ((j:Int)+1)=(j:Int)+1:=qp (by omega) (by have:=hl;simp only[qi]at this;omega)
  have he:=qS hlen hx;have hb:j*3+3<=(l.flatMap enc).length:=by rw[qW hlen];omega
  rw[List.drop_eq_getElem_cons hlt,xq]at hI;simp only[↓vS,vT,simprocAttr,hlt,hb,he,hw];refine(hp l[j] (by simp_all)).sc ?_
  by_cases hpx:p l[j]=true
  .rw[if_pos hpx]at hI;simp only[↓vS,vT,simprocAttr,hpx,vZ,hI]
  .rw[if_neg hpx]at hI;simp only[↓vS,vT,simprocAttr,hpx,hw];refine ih (j+1) ⟨by omega,hI⟩ (by omega) _ _ (Wk.mk _ _ [] ?_ ?_ ?_ rfl)
   .simp[vw,qe,ha,hc']
   .trivial
   .simp
 .simp only[↓vS,vT,simprocAttr,hlt];rw[List.drop_eq_nil_of_le (by omega)]at hI;simp[hI,xq,vZ]
def qmX{α:Type}(p:α->Bool):∀(l:List α) (j:Nat),decide (0<=xq p l j)=l.any p
 | [],j=>by simp[xq]
 | x::l,j=>by
  rw[xq]
  by_cases h:p x=true
  .simp[h]
  .rw[if_neg h,qmX p l (j+1)];simp[h]
def xg(a:Nat):IFn:=⟨[.tmp 4],sq [.r [.m 4 .F],.r [.n 5 0,.n 6 1,.l 7 a [.t 5,.t 6],.w 8 .geq 7 0,.n 4 8],.ret]⟩
def qu6{g:Nat}(hc:qc P f (xg g)=true)(h:qfH 3 P g)(l:List Prg)(k:Nat)(p:Prg->Bool)(hk:∀c ∈ l,qa P k [.agg (cPr c)] (.b (p c)))(hl:l.length<=qi):qa P f [.fz l.length (rPr l),.fn k [] []] (.b (l.any p)):=by
 refine qa.mk hc (by simp[qt,clo,qdX]) ?_;simp only[xg,vI,simprocAttr];simp only[↓vS,vT,simprocAttr];refine(h cPr p k [] [] l qnI rfl rfl hl λx hx=>hk x hx).sc ?_
 simp only[↓vS,vT,simprocAttr];simp[vZ,<- qmX p l 0]
def qdU(x:Prg):Bool:=decide ((atU x.ins (qd5 x.ins)).2=0)&&(if x.dir=0 then decide (x.arch=6)else decide (0<=x.dir)&&decide (x.dir<8)&&decide (0<=x.arch)&&decide (x.arch<6))
def qcZ(l:List Prg):Bool:=decide (l.length<=48)&&l.all qdU
def qgi(a:Nat):IFn:=⟨[.tmp 2],sq [.r [.q 1 (.box (.t 0)),.m 2 .F],.blk 0 (sq [.r [.f 4 0 1,.d 5 4,.w 6 .eql 5 0,.n 3 6],.cond (.t 3) (sq [.r [.f 7 1 1,.d 8 7,.w 9 .eql 8 6,.n 10 9,.h 11 2 1 10 true,.j 12 11 10 true,⟨(some 13),.callF a [.t 12],(some (10,true))⟩,.g 14 (.bin .eql (.t 13) (.k 0)) 10 true,.p 15 10 14,.n 2 15],.ret]) (sq [.r [.f 17 0 1,.d 18 17,.w 19 .lss 18 0,.n 20 19,.h 21 0 1 20 false,.j 22 21 20 false,.g 23 (.bin .geq (.t 22) (.k 8)) 20 false,.o 24 20 23,.n 25 24,.h 26 1 1 25 false,.j 27 26 25 false,.g 28 (.bin .lss (.t 27) (.k 0)) 25 false,.o 29 25 28,.n 30 29,.h 31 1 1 30 false,.j 32 31 30 false,.g 33 (.bin .geq (.t 32) (.k 6)) 30 false,.o 34 30 33,.n 16 34],.cond (.t 16) (sq [.r [.m 2 .F],.ret]) (.skip)])]),.r [.f 35 2 1,.d 36 35,.l 37 a [.t 36],.w 38 .eql 37 0,.n 2 38],.ret]⟩
def qgU(a:Nat):IFn:=⟨[.tmp 2],sq [.r [.q 1 (.box (.t 0)),.m 2 .F],.r [.v 3 3 1,.l 4 a [.t 3],.q 5 (.un .not (.t 4)),.n 2 5],.ret]⟩
def qi9(a b:Nat):IFn:=⟨[.tmp 2],sq [.r [.m 2 .F],.r [.n 3 0,.e 4 3,.w 5 .leq 4 48,.n 6 5,.y 7 0 6,⟨(some 8),.callF a [.t 7,(.c (.fn b [] []))],(some (6,true))⟩,.g 9 (.un .not (.t 8)) 6 true,.p 10 6 9,.n 2 10],.ret]⟩

def qvj:AV:=.tup [.fz 0 [],.j 290]
def qgV(a b c:Nat):IFn:=⟨[.tmp 2,.tmp 3],sq [.r [.m 2 .N,.m 3 (.k 0)],.r [.m 4 .N],.blk 0 (.loop (sq [sq [.r [.n 10 0,.e 11 10,.w 12 .gtr 11 0],.cond (.t 12) (.skip) (.exit 0)],.blk 1 (sq [.r [.n 14 0,.l 15 a [.t 14,.k 2],.n 13 15,.x 16 13 0,.x 17 13 1,.n 5 16,.n 6 17],.r [.n 18 5,.q 19 (.cvInt .i64 (.t 18)),.q 20 (.bin .mul (.k 8) (.t 19)),.q 21 (.bin .add (.k 4) (.t 20)),.n 7 21],sq [.r [.n 22 6,.q 23 (.un .not (.t 22)),.n 24 23,.z 25 7 24,.z 26 0 24,.g 27 (.len false (.t 26)) 24 false,.g 28 (.bin .gtr (.t 25) (.t 27)) 24 false,.o 29 24 28,.n 30 29,.z 31 4 30,.g 32 (.len false (.t 31)) 30 false,.g 33 (.bin .geq (.t 32) (.k 48)) 30 false,.o 34 30 33],.cond (.t 34) (sq [.r [.m 2 .N,.m 3 (.k 290)],.ret]) (.skip)],.r [.n 36 0,.n 37 7,.q 38 (.slcS 1 (.t 36) (some (.k 4)) (some (.t 37)) none),.l 39 b [.t 38],.n 35 39,.x 40 35 0,.x 41 35 1,.n 8 40,.n 9 41],sq [.r [.n 42 9,.w 43 .neq 42 0],.cond (.t 43) (sq [.r [.m 2 .N,.m 3 (.k 290)],.ret]) (.skip)],.reg true [.n 44 4,.n 45 0,.q 46 (.iAddrS 1 (.t 45) (.k 0)),.d 47 46,.q 48 (.cvInt .i64 (.t 47)),.n 49 0,.q 50 (.iAddrS 1 (.t 49) (.k 1)),.d 51 50,.q 52 (.cvInt .i64 (.t 51)),.n 53 8,.q 54 (.build [.j 0,.j 0,.nils] [(0,1,(.t 48)),(1,1,(.t 52)),(2,1,(.t 53))]),.q 55 (.buildS 1 [.j 0,.j 0,.nils] [(0,3,(.t 54))]),.q 56 (.app 3 40 true (.t 44) (.t 55)),.n 4 56],.r [.n 57 0,.n 58 7,.q 59 (.slcS 1 (.t 57) (some (.t 58)) none none),.n 0 59]])])),sq [.r [.n 60 4,.l 61 c [.t 60],.q 62 (.un .not (.t 61))],.cond (.t 62) (sq [.r [.m 2 .N,.m 3 (.k 290)],.ret]) (.skip)],.r [.n 63 4,.n 2 63,.m 3 (.k 0)],.ret]⟩


def loW(x:Int):Int:=x % 4294967296
def hiW(x:Int):Int:=x / 4294967296
def qmB(d:GData):List Int:=[d.ip,d.a0,d.a1,d.a2,d.a3,d.a4,d.a5]
def jw(d:GData):List Int:=d.nr::d.arch::(qmB d).flatMap λx=>[loW x,hiW x]
structure DatOk (d:GData):Prop where
 nr0:0<=d.nr
 nr1:d.nr<=4294967295
 ar0:0<=d.arch
 ar1:d.arch<=4294967295
 wid:∀x ∈ qmB d,0<=x/\x<18446744073709551616
def qgj:IFn:=⟨[.tmp 2,.tmp 3],sq [.r [.m 2 (.c (.w 0)),.m 3 (.c (.w 0))],.r [.n 4 0,.q 5 (.cvInt .u32 (.t 4)),.n 6 0,.q 7 (.bin .shr (.t 6) (.c (.x 32))),.q 8 (.cvInt .u32 (.t 7)),.n 2 5,.n 3 8],.ret]⟩
def qBg(hc:qc P f qgj=true)(x:Int)(h0:0<=x)(h1:x<18446744073709551616):qa P f [.x x] (.tup [.w (loW x),.w (hiW x)]):=by
 refine qa.mk hc rfl ?_;have e1:IntKind.wrap .u32 x=loW x:=rfl
 have e2:IntKind.wrap .u32 (qxt .u64 x 32)=hiW x:=by
  have:qxt .u64 x 32=x / 4294967296:=by
   show x.fdiv (2 ^ 32)=_;rw[Int.fdiv_eq_ediv_of_nonneg _ (by decide)];rfl
  rw[this];show(x / 4294967296) % 4294967296=x / 4294967296;omega
 simp only[qgj,vI,simprocAttr];simp +decide only[↓vS,vT,simprocAttr,e1,e2];simp[vZ]
def qtP{q:IntKind}{l:List Int}:jI (rI q l)=true:=by
 unfold rI;induction l with
 | nil=>rfl
 | cons a l ih=>exact ih
def qi5:IFn:=⟨[.tmp 4],sq [.r [.m 4 .N],.r [.n 5 0,.q 6 (.buildS 1 [.x 0] [(0,1,(.t 5))]),.n 7 1,.q 8 (.app 1 8 true (.t 6) (.t 7)),.n 4 8],.ret]⟩
def qHX(hc:qc P f qi5=true)(x:Int)(l:List Int)(hl:l.length=6):qiD P f [.x x,.fz l.length (rI .u64 l)] (.own 0 (1+l.length)) [.cells 1 true true (rI .u64 (x::l))]:=by
 refine qiD.mk hc rfl (by simp[qo4,qtP]) ?_;have hr1:1+l.length<=qi:=by rw[hl];decide
 have hr2:(1+l.length)*8<=qi:=by rw[hl];decide
 have hll:(rI .u64 l).length=l.length:=qad;simp only[qi5,vI,simprocAttr];have hne:¬1+l.length<=1:=by omega
 have htk:List.take l.length (rI .u64 l)=rI .u64 l:=by grind
 simp +decide only[↓vS,vT,simprocAttr,hne,hr1,hr2,hll,htk,zzU];intro _;refine⟨[1],?_⟩;simp[vw,qrT,qe,qh]
def qfg(d:GData)(j:Nat):List Int:=(jw d).take (2+2*j)++List.replicate (14-2*j) 0
def qs0(d:GData){j:Nat}(h:j<=7):(qfg d j).length=16:=by
 have:(jw d).length=16:=rfl;unfold qfg;rw[zzP,List.length_take,List.length_replicate,this];omega
def qqs(d:GData){j:Nat}{x:Int}(h:(qmB d)[j]?=some x):((qfg d j).set (2+2*j) (loW x)).set (3+2*j) (hiW x)=qfg d (j+1):=by
 have hj:j<7:=(zzS.1 h).1;have:j=0\/j=1\/j=2\/j=3\/j=4\/j=5\/j=6:=by omega
 rcases this with rfl|rfl|rfl|rfl|rfl|rfl|rfl<;>(cases h;rfl)
def qyB(P:Program)(g:Nat):Prop:=∀x:Int,0<=x->x<18446744073709551616->qa P g [.x x] (.tup [.w (loW x),.w (hiW x)])
def qIr(P:Program)(g:Nat):Prop:=∀(x:Int) (l:List Int),l.length=6->qiD P g [.x x,.fz l.length (rI .u64 l)] (.own 0 (1+l.length)) [.cells 1 true true (rI .u64 (x::l))]
def qhW(a b:Nat):IFn:=⟨[.cell 2 16 true],sq [.r [.q 1 (.box (.t 0)),.q 2 (.alloc [.w 0,.w 0,.w 0,.w 0,.w 0,.w 0,.w 0,.w 0,.w 0,.w 0,.w 0,.w 0,.w 0,.w 0,.w 0,.w 0])],.r [.f 6 0 1,.d 7 6,.f 8 1 1,.d 9 8,.q 10 (.build [.w 0,.w 0,.w 0,.w 0,.w 0,.w 0,.w 0,.w 0,.w 0,.w 0,.w 0,.w 0,.w 0,.w 0,.w 0,.w 0] [(0,1,(.t 7)),(1,1,(.t 9))]),.q 3 (.alloc [.w 0,.w 0,.w 0,.w 0,.w 0,.w 0,.w 0,.w 0,.w 0,.w 0,.w 0,.w 0,.w 0,.w 0,.w 0,.w 0]),.u (.store 16 (.t 3) (.t 10))],sq [.reg true [.f 11 2 1,.d 12 11,.f 13 3 1,.q 14 (.slcA 6 1 (.t 13) none none none),.l 15 a [.t 12,.t 14],.e 16 15,.m 17 (.k 0)],.blk 0 (.loop (sq [.r [.s 18 17 16],.cond (.t 18) (.skip) (.exit 0),.blk 1 (sq [.r [.n 19 17,.i 20 1 15 17,.d 21 20,.n 4 19,.n 5 21],.r [.n 23 4,.q 24 (.bin .mul (.k 2) (.t 23)),.q 25 (.bin .add (.k 2) (.t 24)),.n 26 4,.q 27 (.bin .mul (.k 2) (.t 26)),.q 28 (.bin .add (.k 3) (.t 27)),.n 29 5,.l 30 b [.t 29],.n 22 30,.x 31 22 0,.x 32 22 1,.q 33 (.iAddrA 16 1 (.t 3) (.t 25)),.u (.store 1 (.t 33) (.t 31)),.q 34 (.iAddrA 16 1 (.t 3) (.t 28)),.u (.store 1 (.t 34) (.t 32))]]),.r [.a 35 17 1,.n 17 35]]))],.r [.v 36 16 3,.u (.store 16 (.t 2) (.t 36))],.ret]⟩
def qFl{g1 g2:Nat}(hc:qc P f (qhW g1 g2)=true)(h1:qIr P g1)(h2:qyB P g2)(d:GData)(hd:DatOk d):qa P f [.agg (zt d)] (.agg (rI .u32 (jw d))):=by
 refine qa.mk hc rfl ?_;simp only[qhW,zt,vI,simprocAttr];simp +decide only[↓vS,vT,simprocAttr];refine zB ?_;simp +decide only[↓vS,vT,simprocAttr];refine(h1 d.ip [d.a0,d.a1,d.a2,d.a3,d.a4,d.a5] rfl).pc (vs:=[.x d.ip,.sl 0 3 6 6 false]) ?_ ?_
 .refine .cons _ _ _ _ (.i _ _) (.cons _ _ _ _ (Frz.cut 1 rfl (zzL _) ?_) .nil);simp[vP,Tr.get_set,vZ,rI]
 simp only[vJ,simprocAttr,xt qh];simp +decide only[↓vS,vT,simprocAttr]
 refine SL.loop (α:=Nat) (λj=>[(2,.ptr 0 0),(3,.ptr 1 0),(15,.own 2 7),(16,.j 7),(17,.j (j:Int))]) (λj=>[.v [.w 0,.w 0,.w 0,.w 0,.w 0,.w 0,.w 0,.w 0,.w 0,.w 0,.w 0,.w 0,.w 0,.w 0,.w 0,.w 0],.v (rI .u32 (qfg d j)),.cells 1 true true (rI .u64 (qmB d))])
  (λj=>j<=7) (λj=>7-j) 0 [1,2,3] ?_ ?_ ?_ rfl ?_ ?_
 .simp[vw]
 .simp[vw,qfg,jw,qmB,rI]
 .simp
 .omega
 rintro j hj G ih;simp only[vI,simprocAttr]
 by_cases hlt:j<7
 .have hlt':(j:Int)<7:=by omega
  obtain⟨x,hx⟩:∃x,(qmB d)[j]?=some x:=⟨_,zzE (show j<(qmB d).length from hlt)⟩
  have hxr:=hd.wid x (by grind);have hl:=qs0 d hj;have hnx:=qqs d hx;have w1:IntKind.wrap .i64 (2*(j:Int))=((2*j:Nat):Int):=by rw[qp (by omega) (by omega)];omega
  have w2:IntKind.wrap .i64 (2+((2*j:Nat):Int))=((2+2*j:Nat):Int):=by rw[qp (by omega) (by omega)];omega
  have w3:IntKind.wrap .i64 (3+((2*j:Nat):Int))=((3+2*j:Nat):Int):=by rw[qp (by omega) (by omega)];omega
  have w4:IntKind.wrap .i64 ((j:Int)+1)=((j+1:Nat):Int):=by rw[qp (by omega) (by omega)];omega
  simp +decide only[↓vS,vT,simprocAttr,hlt',hlt,zzU,qaW,hx,Option.map_some,w1,w2,w3];refine(h2 x hxr.1 hxr.2).sc ?_;have hA:2+2*j<(qfg d j).length:=by omega
  have hB:3+2*j<((qfg d j).set (2+2*j) (loW x)).length:=by grind
  have s1:=qqJ (k:=.u32) hA (loW x);have s2:=qqJ (k:=.u32) hB (hiW x);rw[hnx]at s2;have k1:2+2*j<16:=by omega
  have k2:3+2*j<16:=by omega
  have k3:2+2*j+1<=(rI .u32 (qfg d j)).length:=by rw[qad];omega
  have k4:3+2*j+1<=(rI .u32 ((qfg d j).set (2+2*j) (loW x))).length:=by rw[qad];omega
  simp +decide only[↓vS,vT,simprocAttr,k1,k2,k3,k4,s1,s2,zzU,w4];refine ih (j+1) hlt (by omega) _ _ (Wk.mk _ _ [0,1,2] ?_ ?_ ?_ rfl)
  .simp[vw]
  .simp[vw,qe,qh]
  .simp
 .obtain rfl:j=7:=by omega
  have h16:16<=(rI .u32 (qfg d 7)).length:=zzL 16;have ht:List.take 16 (List.drop 0 (rI .u32 (qfg d 7)))=rI .u32 (jw d):=rfl;have hlen:(rI .u32 (jw d)).length=16:=rfl;have hfd:qfg d 7=jw d:=rfl;have ht2:List.take 16 (rI .u32 (jw d))=rI .u32 (jw d):=rfl;rw[hfd];simp +decide only[↓vS,vT,simprocAttr,h16,ht2,hlen,qHF];simp[vZ,vP,Tr.get_set,zj qh]
def qnv(d:GData)(k:Int):AV:=if k % 4≠0\/64<=k then .tup [.w 0,.j 41]else .tup [.w ((jw d).getD (k / 4).toNat 0),.j 0]
def qi4(a:Nat):IFn:=⟨[.tmp 4,.tmp 5],sq [.r [.q 2 (.box (.t 0)),.m 4 (.c (.w 0)),.m 5 (.k 0)],sq [.r [.n 6 1,.q 7 (.bin .rem (.t 6) (.c (.w 4))),.q 8 (.bin .neq (.t 7) (.c (.w 0))),.n 9 8,.z 10 1 9,.g 11 (.bin .geq (.t 10) (.c (.w 64))) 9 false,.o 12 9 11],.cond (.t 12) (sq [.r [.m 4 (.c (.w 0)),.m 5 (.k 41)],.ret]) (.skip)],.r [.v 13 9 2,.l 14 a [.t 13],.n 15 1,.q 16 (.bin .quo (.t 15) (.c (.w 4))),.q 17 (.idxA 16 1 false (.t 14) (.t 16)),.n 4 17,.m 5 (.k 0)],.ret]⟩
def qGI{g:Nat}(hc:qc P f (qi4 g)=true)(hg:∀d,DatOk d->qa P g [.agg (zt d)] (.agg (rI .u32 (jw d))))(d:GData)(hd:DatOk d)(k:Int)(h0:0<=k)(h1:k<=4294967295):qa P f [.agg (zt d),.w k] (qnv d k):=by
 refine qa.mk hc rfl ?_;have h40:(4:Int)≠0:=by decide
 have ht:k.tmod 4=k % 4:=by grind
 have hq:k.tdiv 4=k / 4:=by grind
 have hg:=hg d hd;unfold qnv;simp only[qi4,zt,vI,simprocAttr]at hg ⊢
 by_cases hm:k % 4=0
 .by_cases hb:64<=k
  .rw[if_pos (.inr hb)];simp +decide only[↓vS,vT,simprocAttr,↓qfG h40,ht,hm,hb];simp[vZ]
  .rw[if_neg (by omega)];have hn:(k / 4).toNat<16:=by omega
   obtain⟨x,hx⟩:∃x,(jw d)[(k / 4).toNat]?=some x:=⟨_,zzE hn⟩;rw[List.getD_eq_getElem?_getD,hx];have hk:k / 4=(((k / 4).toNat:Nat):Int):=by omega
   have hw:IntKind.wrap .u32 (k / 4)=(((k / 4).toNat:Nat):Int):=by
    show(k / 4) % 4294967296=_;omega
   simp +decide only[↓vS,vT,simprocAttr,↓qfG h40,ht,hm,hb];refine hg.sc ?_;generalize jw d=W at hx;simp +decide only[↓vS,vT,simprocAttr,↓qkK h40,hq,hw,hn,zzU,qaW,hx,Option.map_some];simp[vZ]
 .rw[if_pos (.inl hm)];simp +decide only[↓vS,vT,simprocAttr,↓qfG h40,ht,hm];simp[vZ]


def qGr(c:Int):Bool:=!decide (xS .u16 c 8=0)
def qaH(c:Int):Bool:=(decide (qm c=3)||decide (qm c=4))&&qGr c
def qhY(a:Nat):IFn:=⟨[.tmp 2],sq [.r [.m 2 .F],.r [.n 6 0,.l 7 a [.t 6],.n 5 7,.x 8 5 0,.x 9 5 1,.q 3 (.alloc [.h 0,.s [],.y 0]),.u (.store 3 (.t 3) (.t 8)),.n 4 9],.r [.n 10 4,.n 11 10,.h 12 2 3 11 true,.j 13 12 11 true,.g 14 (.bin .eql (.t 13) (.c (.y 3))) 11 true,.y 15 14 11,.h 16 2 3 15 false,.j 17 16 15 false,.g 18 (.bin .eql (.t 17) (.c (.y 4))) 15 false,.g 19 (.pick (.t 15) .T (.t 18)) 11 true,.p 20 11 19,.n 21 20,.y 22 0 21,.g 23 (.bin .and (.t 22) (.c (.h 8))) 21 true,.g 24 (.bin .neq (.t 23) (.c (.h 0))) 21 true,.p 25 21 24,.n 2 25],.ret]⟩
def qFa{g:Nat}(hc:qc P f (qhY g)=true)(hg:∀n,qa P g [.h n] (.tup [.agg (qff (qag n)),.b (zY n)]))(c:Int):qa P f [.h c] (.b (qaH c)):=by
 refine qa.mk hc rfl ?_
 have hcl:(qff (qag c)).length=3/\(qff (qag c))[2]?=some (.y (qm c))/\qD (qff (qag c))=true:=by
  unfold qm;cases qag c<;>exact⟨rfl,rfl,rfl⟩
 have hk:zY c=false->qm c=0:=by unfold zY qm;cases qag c<;>simp
 have hgc:=hg c;generalize qff (qag c)=E at hcl hgc;obtain⟨he1,he2,he3⟩:=hcl;unfold qaH qGr;simp only[qhY,vI,simprocAttr];simp +decide only[↓vS,vT,simprocAttr];refine hgc.sc ?_;cases hkn:zY c with
 | false =>
  have h0:=hk hkn;simp +decide only[↓vS,vT,simprocAttr,he1,he3];simp[vZ,h0]
 | true =>
  by_cases h3:qm c=3
  .simp +decide only[↓vS,vT,simprocAttr,he1,he2,he3,h3];simp[vZ,h3]
  by_cases h4:qm c=4
  .simp +decide only[↓vS,vT,simprocAttr,he1,he2,he3,h3,h4];simp[vZ,h4]
  .simp +decide only[↓vS,vT,simprocAttr,he1,he2,he3,h3,h4];simp[vZ,h3,h4]
def qdT(left:Bool):Nat->Int->Int
 | 0,a=>a
 | n+1,a=>qdT left n (if left=true then a*2 % 4294967296 else a / 2)
def qlJ:∀(n:Nat) (a:Int),0<=a->a<=4294967295->qdT true n a=a*2 ^ n % 4294967296
 | 0,a,h0,h1=>by show a=a*1 % 4294967296;omega
 | n+1,a,h0,h1=>by
  show qdT true n (a*2 % 4294967296)=_;rw[qlJ n _ (by omega) (by omega),Int.pow_succ,Int.mul_emod,Int.emod_emod,<- Int.mul_emod,Int.mul_assoc,Int.mul_comm 2]
def qkl:∀(n:Nat) (a:Int),0<=a->qdT false n a=a / 2 ^ n
 | 0,a,_=>by show a=a / 1;omega
 | n+1,a,h0=>by
  show qdT false n (a / 2)=_;rw[qkl n _ (by omega),Int.ediv_ediv_of_nonneg (by decide),Int.pow_succ,Int.mul_comm]
structure Mac where
 a:Int
 x:Int
 told:Int
 cl:List Int
 over:Bool
def u32(x:Int):Prop:=0<=x/\x<=4294967295
structure MacOk (m:Mac):Prop where
 a:u32 m.a
 x:u32 m.x
 told:u32 m.told
 len:m.cl.length=16
 cl:∀c ∈ m.cl,u32 c
def qg4(i:Ins):Bool:=decide (i.code=96)||decide (i.code=97)||decide (i.code=2)||decide (i.code=3)
def qet(m:Mac)(i:Ins)(d:GData):Mac×Int :=
 if qg4 i=true/\15<i.k then(m,43)
 else if i.code=32 then(if i.k % 4≠0\/64<=i.k then(m,41)else({ m with a:=(jw d).getD (i.k / 4).toNat 0 },0))
 else if i.code=128 then({ m with a:=64 },0)
 else if i.code=129 then({ m with x:=64 },0)
 else if i.code=0 then({ m with a:=i.k },0)
 else if i.code=1 then({ m with x:=i.k },0)
 else if i.code=96 then({ m with a:=m.cl.getD i.k.toNat 0 },0)
 else if i.code=97 then({ m with x:=m.cl.getD i.k.toNat 0 },0)
 else if i.code=2 then({ m with cl:=m.cl.set i.k.toNat m.a },0)
 else if i.code=3 then({ m with cl:=m.cl.set i.k.toNat m.x },0)
 else if i.code=7 then({ m with x:=m.a },0)
 else if i.code=135 then({ m with a:=m.x },0)
 else(m,0)
def quR(P:Program)(g:Nat):Prop:=∀d,DatOk d->∀k:Int,0<=k->k<=4294967295->qa P g [.agg (zt d),.w k] (qnv d k)
end Go.Kc
end
