/- Walks, part 7. Conditions: with each theorem. -/
import Derived.Test.YtgaodkfneooonaaGreatCK6
import Derived.Lib.Join
import Derived.Below
import Derived.Lib.ItoaLen
set_option maxHeartbeats 4000000
set_option linter.defProp false
set_option linter.unusedSectionVars false
set_option linter.unusedSimpArgs false
set_option linter.unusedVariables false
set_option linter.unnecessarySimpa false
section
namespace Go.Kc
variable {P:Program} {f:Nat}
def qkP(p:List UInt8×Int):List AV:=[.w p.2,.s p.1]
def qxr(p:List UInt8×Int):(qkP p).length=2:=rfl
def xD:List (List UInt8×Int):=[([107,105,108,108],2147483648),([107,105,108,108,116,104,114,101,97,100],0),([116,114,97,112],196608),([101,114,114,110,111],327680),([110,111,116,105,102,121],2143289344),([116,114,97,99,101],2146435072),([108,111,103],2147221504),([97,108,108,111,119],2147418112)]
def qf2:IFn:=⟨[.cell 0 16 true],sq [.r [.q 0 (.alloc [.w 0,.s [],.w 0,.s [],.w 0,.s [],.w 0,.s [],.w 0,.s [],.w 0,.s [],.w 0,.s [],.w 0,.s []])],.r [.q 1 (.build [.w 0,.s []] [(0,1,(.c (.w 2147483648))),(1,1,(.c (.s [107,105,108,108])))]),.q 2 (.build [.w 0,.s []] [(0,1,(.c (.w 0))),(1,1,(.c (.s [107,105,108,108,116,104,114,101,97,100])))]),.q 3 (.build [.w 0,.s []] [(0,1,(.c (.w 196608))),(1,1,(.c (.s [116,114,97,112])))]),.q 4 (.build [.w 0,.s []] [(0,1,(.c (.w 327680))),(1,1,(.c (.s [101,114,114,110,111])))]),.q 5 (.build [.w 0,.s []] [(0,1,(.c (.w 2143289344))),(1,1,(.c (.s [110,111,116,105,102,121])))]),.q 6 (.build [.w 0,.s []] [(0,1,(.c (.w 2146435072))),(1,1,(.c (.s [116,114,97,99,101])))]),.q 7 (.build [.w 0,.s []] [(0,1,(.c (.w 2147221504))),(1,1,(.c (.s [108,111,103])))]),.q 8 (.build [.w 0,.s []] [(0,1,(.c (.w 2147418112))),(1,1,(.c (.s [97,108,108,111,119])))]),.q 9 (.build [.w 0,.s [],.w 0,.s [],.w 0,.s [],.w 0,.s [],.w 0,.s [],.w 0,.s [],.w 0,.s [],.w 0,.s []] [(0,2,(.t 1)),(2,2,(.t 2)),(4,2,(.t 3)),(6,2,(.t 4)),(8,2,(.t 5)),(10,2,(.t 6)),(12,2,(.t 7)),(14,2,(.t 8))]),.u (.store 16 (.t 0) (.t 9))],.ret]⟩
def qGw(hc:qc P f qf2=true):qa P f [] (.agg (xD.flatMap qkP)):=by
 refine qa.mk hc rfl ?_;simp only[qf2,vI,simprocAttr];simp only[↓vS,vT,simprocAttr,xD,qkP,List.flatMap_cons,List.flatMap_nil,vZ]
def qgD:IFn:=⟨[.tmp 2],sq [.r [.m 2 (.c (.w 0))],.r [.n 3 0,.q 4 (.bin .andNot (.t 3) (.c (.w 65535))),.n 2 4],.ret]⟩
def qIb(hc:qc P f qgD=true)(n:Int):qa P f [.w n] (.w (qeH .u32 n 65535)):=by
 refine qa.mk hc rfl ?_;simp only[qgD,vI,simprocAttr];simp only[↓vS,vT,simprocAttr,vZ]
def qgE(a b:Nat):IFn:=⟨[.tmp 2],sq [.r [.m 2 (.c (.s []))],sq [.r [.l 5 a [],.m 6 (.k 0)],.blk 0 (.loop (sq [.r [.w 7 .lss 6 8],.cond (.t 7) (.skip) (.exit 0),.blk 1 (sq [.r [.q 8 (.idxA 8 2 true (.t 5) (.t 6)),.q 4 (.alloc [.w 0,.s []]),.u (.store 2 (.t 4) (.t 8))],.reg true [.f 9 0 4,.d 10 9,.n 11 0,.l 12 b [.t 11],.b 13 .eql 10 12],.cond (.t 13) (sq [.r [.f 14 1 4,.d 15 14,.n 2 15],.ret]) (.skip)]),.r [.a 16 6 1,.n 6 16]]))],.r [.m 2 (.c (.s []))],.ret]⟩
def qIa{g1 g2:Nat}(hc:qc P f (qgE g1 g2)=true)(h1:qa P g1 [] (.agg (xD.flatMap qkP)))(h2:∀n,qa P g2 [.w n] (.w (qeH .u32 n 65535)))(n:Int):qa P f [.w n] (.s (qbQ (qeH .u32 n 65535) xD)):=by
 refine qa.mk hc rfl ?_;simp only[qgE,vI,simprocAttr];simp only[↓vS,vT,simprocAttr];refine h1.sc ?_;simp only[↓vS,vT,simprocAttr];have hlen:(xD.flatMap qkP).length=16:=by decide
 have hTc:qt (xD.flatMap qkP)=true:=rfl;refine SL.loop (α:=Nat) (λj=>[(0,.w n),(5,.agg (xD.flatMap qkP)),(6,.j j)]) (λ_=>[]) (λj=>j<=8/\qbQ (qeH .u32 n 65535) xD=qbQ (qeH .u32 n 65535) (xD.drop j)) (λj=>8-j) 0 [] ?_ ?_ ?_ rfl ?_ ?_
 .simp[vw,xD,qkP]
 .trivial
 .simp
 .simp_all
 rintro j ⟨hj,hI⟩ G ih;simp only[vI,simprocAttr]
 by_cases hlt:j<8
 .have hlt':(j:Int)<8:=by omega
  have hjl:j<xD.length:=hlt;have hx:xD[j]?=some xD[j]:=by simp_all
  have hw:IntKind.wrap .i64 ((j:Int)+1)=((j+1:Nat):Int):=by rw[qm (by omega) (by omega)];omega
  have he:=qG (f:=qkP) (m:=2) qxr hx;have hb:j*2+2<=(xD.flatMap qkP).length:=by omega
  rw[List.drop_eq_getElem_cons hjl,qbQ]at hI;generalize hc0:xD[j]=c at he hI;generalize hT:xD.flatMap qkP=T at he hb hlen hTc;simp only[↓vS,vT,simprocAttr,hlt',hlt,he,hb,qkP];refine zg ?_;simp only[↓vS,vT,simprocAttr];refine(h2 n).pc ?_
  by_cases hs:c.2=qeH .u32 n 65535
  .rw[if_pos hs]at hI;simp only[↓vS,vT,simprocAttr,hs];simp[vZ,hI]
  .rw[if_neg hs]at hI;simp only[↓vS,vT,simprocAttr,hs,hw];refine ih (j+1) ⟨hlt,hI⟩ (by omega) _ _ (Wk.mk _ _ [] ?_ ?_ ?_ rfl)
   .rw[hT];simp[vw,qe,hTc]
   .trivial
   .simp
 .have hj':j=8:=by omega
  subst hj';have hlt':¬(((8:Nat):Int)<8):=by decide
  simp only[↓vS,vT,simprocAttr,hlt'];rw[hI];simp[vZ,xD,qbQ]
def knA(n:Int):Bool:=decide (qbQ (qeH .u32 n 65535) xD≠[])
def qf0(a:Nat):IFn:=⟨[.tmp 2],sq [.r [.m 2 .F],.r [.n 3 0,.l 4 a [.t 3],.q 5 (.bin .neq (.t 4) (.c (.s []))),.n 2 5],.ret]⟩
def qGu{g:Nat}(hc:qc P f (qf0 g)=true)(hg:∀n,qa P g [.w n] (.s (qbQ (qeH .u32 n 65535) xD)))(n:Int):qa P f [.w n] (.b (knA n)):=by
 refine qa.mk hc rfl ?_;simp only[qf0,vI,simprocAttr];simp only[↓vS,vT,simprocAttr];refine(hg n).sc ?_;unfold knA;generalize qbQ (qeH .u32 n 65535) xD=s
 by_cases h:s=[] <;>
 .simp only[↓vS,vT,simprocAttr,h];simp[vZ,h]
def qb2(t:GTest):Bool:=decide (0<=t.arg)&&decide (t.arg<6)&&decide (qeH .u64 t.val t.mask=0)&&knA t.act
def qh7(a:Nat):IFn:=⟨[.tmp 2],sq [.r [.q 1 (.box (.t 0)),.m 2 .F],.r [.f 3 0 1,.d 4 3,.w 5 .geq 4 0,.n 6 5,.h 7 0 1 6 true,.j 8 7 6 true,.g 9 (.bin .lss (.t 8) (.k 6)) 6 true,.p 10 6 9,.n 11 10,.h 12 2 1 11 true,.j 13 12 11 true,.h 14 1 1 11 true,.j 15 14 11 true,.g 16 (.bin .andNot (.t 13) (.t 15)) 11 true,.g 17 (.bin .eql (.t 16) (.c (.x 0))) 11 true,.p 18 11 17,.n 19 18,.h 20 3 1 19 true,.j 21 20 19 true,⟨(some 22),.callF a [.t 21],(some (19,true))⟩,.p 23 19 22,.n 2 23],.ret]⟩
def qIr{g:Nat}(hg:∀n,qa P g [.w n] (.b (knA n)))(hc:qc P f (qh7 g)=true)(t:GTest):qa P f [.agg (jD t)] (.b (qb2 t)):=by
 refine qa.mk hc rfl ?_;simp only[qh7,jD,vI,simprocAttr]
 by_cases k1:0<=t.arg
 .by_cases k2:t.arg<6
  .by_cases k3:qeH .u64 t.val t.mask=0
   .simp only[↓vS,vT,simprocAttr,k1,k2,k3];refine(hg t.act).sc ?_;simp only[↓vS,vT,simprocAttr];simp[vZ,qb2,k1,k2,k3]
   .simp only[↓vS,vT,simprocAttr,k1,k2,k3];simp[vZ,qb2,k3]
  .simp only[↓vS,vT,simprocAttr,k1,k2];simp[vZ,qb2,k2]
 .simp only[↓vS,vT,simprocAttr,k1];simp[vZ,qb2,k1]
def qga(a:Nat):IFn:=⟨[.tmp 2],sq [.r [.q 1 (.box (.t 0)),.m 2 .F],.r [.v 3 4 1,.l 4 a [.t 3],.q 5 (.un .not (.t 4)),.n 2 5],.ret]⟩
def qFP{g:Nat}(hc:qc P f (qga g)=true)(hg:∀t,qa P g [.agg (jD t)] (.b (qb2 t)))(t:GTest):qa P f [.agg (jD t)] (.b (!qb2 t)):=by
 refine qa.mk hc rfl ?_;simp only[qga,jD,vI,simprocAttr];simp only[↓vS,vT,simprocAttr];refine(hg t).sc ?_;simp only[↓vS,vT,simprocAttr];simp[vZ]
def xB:IFn:=⟨[.tmp 4],sq [.r [.m 4 (.k 0)],sq [.r [.n 6 0,.e 7 6,.m 8 (.k 0)],.blk 0 (.loop (sq [.r [.s 9 8 7],.cond (.t 9) (.skip) (.exit 0),.blk 1 (sq [.r [.n 10 8,.n 5 10],.r [.n 11 1,.n 12 0,.n 13 5,.i 14 4 12 13,.v 15 4 14,⟨(some 16),.callV (.t 11) [.t 15],none⟩],.cond (.t 16) (sq [.r [.n 17 5,.n 4 17],.ret]) (.skip)]),.r [.a 18 8 1,.n 8 18]]))],.r [.q 4 (.mov (.c (.j (-1))))],.ret]⟩
def qrE(hc:qc P f xB=true):qfC 4 P f:=by
 intro α enc p g a c l hlen ha hc' hl hp;refine qa.mk hc (by simp[qt,clo,ha,hc']) ?_;simp only[xB,vI,simprocAttr];simp only[↓vS,vT,simprocAttr];refine SL.loop (α:=Nat) (λj=>[(0,.fz l.length (l.flatMap enc)),(1,.fn g a c),(7,.j l.length),(8,.j j)]) (λ_=>[]) (λj=>j<=l.length/\xI p l 0=xI p (l.drop j) j) (λj=>l.length-j) 0 [] ?_ ?_ ?_ rfl ?_ ?_
 .simp[vw,qe,ha,hc']
 .trivial
 .simp
 .simp
 rintro j ⟨hj,hI⟩ G ih;simp only[vI,simprocAttr]
 by_cases hlt:j<l.length
 .have hx:l[j]?=some l[j]:=by simp_all
  have hw:IntKind.wrap .i64 ((j:Int)+1)=(j:Int)+1:=qm (by omega) (by have:=hl;simp only[qf]at this;omega)
  have he:=qG hlen hx;have hb:j*4+4<=(l.flatMap enc).length:=by rw[qV hlen];omega
  rw[List.drop_eq_getElem_cons hlt,xI]at hI;simp only[↓vS,vT,simprocAttr,hlt,hb,he,hw];refine(hp l[j] (by simp_all)).sc ?_
  by_cases hpx:p l[j]=true
  .rw[if_pos hpx]at hI;simp only[↓vS,vT,simprocAttr,hpx,vZ,hI]
  .rw[if_neg hpx]at hI;simp only[↓vS,vT,simprocAttr,hpx,hw];refine ih (j+1) ⟨by omega,hI⟩ (by omega) _ _ (Wk.mk _ _ [] ?_ ?_ ?_ rfl)
   .simp[vw,qe,ha,hc']
   .trivial
   .simp
 .simp only[↓vS,vT,simprocAttr,hlt];rw[List.drop_eq_nil_of_le (by omega)]at hI;simp[hI,xI,vZ]
def qup(p:GTest->Bool)(l:List GTest):AV:=match l.find? p with|some t=>.tup [.agg (jD t),.b true]|none=>.tup [.agg [.j 0,.x 0,.x 0,.w 0],.b false]
def qcC(a:Nat):IFn:=⟨[.cell 4 4 true,.tmp 5],sq [.r [.q 4 (.alloc [.j 0,.x 0,.x 0,.w 0]),.m 5 .F],sq [.r [.n 8 0,.n 9 1,.l 10 a [.t 8,.t 9],.n 6 10],.r [.n 11 6,.w 12 .geq 11 0],.cond (.t 12) (sq [.r [.n 13 0,.n 14 6,.i 15 4 13 14,.v 16 4 15,.u (.store 4 (.t 4) (.t 16)),.m 5 .T],.ret]) (.skip)],.r [.q 7 (.alloc [.j 0,.x 0,.x 0,.w 0])],.r [.v 17 4 7,.u (.store 4 (.t 4) (.t 17)),.m 5 .F],.ret]⟩
def qCT{g:Nat}(hc:qc P f (qcC g)=true)(h2:qfC 4 P g)(l:List GTest)(k:Nat)(a c:List AV)(p:GTest->Bool)(ha:qt a=true)(hcc:qt c=true)(hk:∀t ∈ l,qa P k (a++([.agg (jD t)]++c)) (.b (p t)))(hl:l.length<=100000):qa P f [.fz l.length (rT l),.fn k a c] (qup p l):=by
 refine qa.mk hc (by simp[qt,clo,zX,ha,hcc]) ?_;simp only[qcC,vI,simprocAttr];simp only[↓vS,vT,simprocAttr];refine(h2 jD p k a c l qds ha hcc (by simp only[qf];omega) hk).sc ?_;rcases qj6 p l 0 with⟨e1,e2⟩|⟨i,x,e1,e2,e3,e4,e5⟩
 .rw[e1];simp only[↓vS,vT,simprocAttr];simp[vZ,qup,e2]
 .have hi:i<l.length:=by grind
  have hn:(0:Int)<=(i:Int):=by omega
  have he:=qse e2;have hb:=qxi hi;rw[e1,Nat.zero_add];simp only[↓vS,vT,simprocAttr,hn,hi,he,hb,jD];simp[vZ,qup,e4,jD]
noncomputable def qb1(r:GRule):Bool:=decide (r.tests.length<=32)&&r.tests.all qb2&&knA r.act
def qvw{α:Type}(p:α->Bool)(l:List α):(l.find? λt=>!p t).isSome = !l.all p:=by
 grind
def qh6(a b c:Nat):IFn:=⟨[.tmp 2],sq [.r [.q 1 (.box (.t 0)),.m 2 .F],.r [.f 6 1 1,.d 7 6,.l 8 a [.t 7,(.c (.fn b [] []))],.n 5 8,.x 9 5 0,.x 10 5 1,.q 3 (.alloc [.j 0,.x 0,.x 0,.w 0]),.u (.store 4 (.t 3) (.t 9)),.n 4 10],.r [.f 11 1 1,.d 12 11,.e 13 12,.w 14 .leq 13 32,.n 15 14,.y 16 4 15,.g 17 (.un .not (.t 16)) 15 true,.p 18 15 17,.n 19 18,.h 20 2 1 19 true,.j 21 20 19 true,⟨(some 22),.callF c [.t 21],(some (19,true))⟩,.p 23 19 22,.n 2 23],.ret]⟩
def qIq{g1 g2 g3:Nat}(hc:qc P f (qh6 g1 g2 g3)=true)(h1:∀(l:List GTest) (k:Nat) (a c:List AV) (p:GTest->Bool),qt a=true->qt c=true->(∀t ∈ l,qa P k (a++([.agg (jD t)]++c)) (.b (p t)))->l.length<=100000->qa P g1 [.fz l.length (rT l),.fn k a c] (qup p l))
  (h2:∀t,qa P g2 [.agg (jD t)] (.b (!qb2 t))) (h3:∀n,qa P g3 [.w n] (.b (knA n))) (r:GRule) (hl:r.tests.length<=100000):qa P f [.agg (zw r)] (.b (qb1 r)):=by
 refine qa.mk hc rfl ?_;simp only[qh6,zw,vI,simprocAttr];simp only[↓vS,vT,simprocAttr];refine(h1 r.tests g2 [] [] (λt=>!qb2 t) rfl rfl (λt _=>h2 t) hl).sc ?_
 have hf:=qvw qb2 r.tests
 have fin:∀odd:Bool,odd = !r.tests.all qb2->(decide (r.tests.length<=32) && !odd&&knA r.act)=qb1 r:=by
  rintro odd rfl;simp[qb1]
 unfold qup;cases hq:r.tests.find? (λt=>!qb2 t)with
 | none =>
  rw[hq]at hf;have fin:=fin false hf
  by_cases k1:r.tests.length<=32
  .have k1':((r.tests.length:Int)<=32)=True:=eq_true (by omega);simp only[↓vS,vT,simprocAttr,k1'];refine(h3 r.act).sc ?_;simp only[↓vS,vT,simprocAttr];simp[vZ,<- fin,k1]
  .have k1':((r.tests.length:Int)<=32)=False:=eq_false (by omega);simp only[↓vS,vT,simprocAttr,k1'];simp[vZ,<- fin,k1]
 | some t =>
  rw[hq]at hf;have fin:=fin true hf
  by_cases k1:r.tests.length<=32
  .have k1':((r.tests.length:Int)<=32)=True:=eq_true (by omega);simp only[jD,↓vS,vT,simprocAttr,k1'];simp[vZ,<- fin]
  .have k1':((r.tests.length:Int)<=32)=False:=eq_false (by omega);simp only[jD,↓vS,vT,simprocAttr,k1'];simp[vZ,<- fin]
noncomputable def upR:Option GRule->List GRule->Bool
 | _,[]=>true
 | o,r::l=>qb1 r&&(o.elim true λb=>decide (b.nr<r.nr))&&upR (some r) l
noncomputable def jY(x:GFil):Bool:=decide (0<=x.arch)&&decide (x.arch<6)&&decide (x.rules.length<=400)&&knA x.dflt&&upR none x.rules
def qm2(a b:Nat):IFn:=⟨[.tmp 2],sq [.r [.q 1 (.box (.t 0)),.m 2 .F],sq [.r [.f 5 0 1,.d 6 5,.w 7 .lss 6 0,.n 8 7,.h 9 0 1 8 false,.j 10 9 8 false,.g 11 (.bin .geq (.t 10) (.k 6)) 8 false,.o 12 8 11,.n 13 12,.h 14 1 1 13 false,.j 15 14 13 false,.g 16 (.len false (.t 15)) 13 false,.g 17 (.bin .gtr (.t 16) (.k 400)) 13 false,.o 18 13 17,.n 19 18,.h 20 2 1 19 false,.j 21 20 19 false,⟨(some 22),.callF a [.t 21],(some (19,false))⟩,.g 23 (.un .not (.t 22)) 19 false,.o 24 19 23],.cond (.t 24) (sq [.r [.m 2 .F],.ret]) (.skip)],sq [.r [.f 25 1 1,.d 26 25,.e 27 26,.m 28 (.k 0)],.blk 0 (.loop (sq [.r [.s 29 28 27],.cond (.t 29) (.skip) (.exit 0),.blk 1 (sq [.r [.n 30 28,.i 31 3 26 28,.v 32 3 31,.q 4 (.alloc [.w 0,.nils,.w 0]),.n 3 30,.u (.store 3 (.t 4) (.t 32))],.reg true [.v 33 3 4,.l 34 b [.t 33],.q 35 (.un .not (.t 34)),.n 36 35,.z 37 3 36,.g 38 (.bin .gtr (.t 37) (.k 0)) 36 false,.z 39 38 36,.h 40 0 4 39 true,.j 41 40 39 true,.h 42 1 1 39 true,.j 43 42 39 true,.y 44 3 39,.g 45 (.bin .sub (.t 44) (.k 1)) 39 true,.g 46 (.iAddrS 3 (.t 43) (.t 45)) 39 true,.h 47 0 46 39 true,.j 48 47 39 true,.g 49 (.bin .leq (.t 41) (.t 48)) 39 true,.g 50 (.pick (.t 39) (.t 49) .F) 36 false,.o 51 36 50],.cond (.t 51) (sq [.r [.m 2 .F],.ret]) (.skip)]),.r [.a 52 28 1,.n 28 52]]))],.r [.m 2 .T],.ret]⟩
def qJQ{g1 g2:Nat}(hc:qc P f (qm2 g1 g2)=true)(h1:∀n,qa P g1 [.w n] (.b (knA n)))(h2:∀r:GRule,r.tests.length<=100000->qa P g2 [.agg (zw r)] (.b (qb1 r)))(x:GFil)(hl:x.rules.length<=100000)(ht:∀r ∈ x.rules,r.tests.length<=100000):qa P f [.agg (zr x)] (.b (jY x)):=by
 refine qa.mk hc rfl ?_;simp only[qm2,zr,vI,simprocAttr]
 by_cases k1:x.arch<0
 .have hw:jY x=false:=by simp only[jY,decide_eq_false (by omega:¬0<=x.arch)];simp
  simp only[↓vS,vT,simprocAttr,k1];simp[vZ,hw]
 by_cases k2:6<=x.arch
 .have hw:jY x=false:=by simp only[jY,decide_eq_false (by omega:¬x.arch<6)];simp
  simp only[↓vS,vT,simprocAttr,k1,k2];simp[vZ,hw]
 by_cases k3:(400:Int)<x.rules.length
 .have hw:jY x=false:=by simp only[jY,decide_eq_false (by omega:¬x.rules.length<=400)];simp
  simp only[↓vS,vT,simprocAttr,k1,k2,k3];simp[vZ,hw]
 simp only[↓vS,vT,simprocAttr,k1,k2,k3];refine(h1 x.dflt).sc ?_;cases k4:knA x.dflt with
 | false =>
  have hw:jY x=false:=by simp[jY,k4]
  simp only[↓vS,vT,simprocAttr];simp[vZ,hw]
 | true =>
  have hw:jY x=upR none x.rules:=by
   unfold jY;rw[k4,decide_eq_true (by omega:0<=x.arch),decide_eq_true (by omega:x.arch<6),decide_eq_true (by omega:x.rules.length<=400)];rfl
  rw[hw];simp only[↓vS,vT,simprocAttr]
  refine SL.loop (α:=Nat) (λj=>[(1,.ptr 0 0),(26,.fz x.rules.length (rR x.rules)),(27,.j x.rules.length),(28,.j j)]) (λ_=>[.v (zr x)])
   (λj=>j<=x.rules.length/\upR none x.rules=upR (if j=0 then none else x.rules[j-1]?) (x.rules.drop j)) (λj=>x.rules.length-j) 0 [0] ?_ ?_ ?_ rfl ?_ ?_
  .simp[vw,qq]
  .simp[vw,zr,qq]
  .simp
  .simp_all
  rintro j ⟨hj,hI⟩ G ih;simp only[vI,simprocAttr,zr]
  by_cases hlt:j<x.rules.length
  .have hx:x.rules[j]?=some x.rules[j]:=by simp_all
   have he:=qsb hx;have hb:=qxd hlt;have hw:IntKind.wrap .i64 ((j:Int)+1)=((j+1:Nat):Int):=by rw[qm (by omega) (by omega)];omega
   have htl:=ht _ (List.getElem_mem hlt);rw[List.drop_eq_getElem_cons hlt,upR]at hI;generalize hc0:x.rules[j]=r at hI he hx htl;simp only[↓vS,vT,simprocAttr,hlt,hb,he,zw];refine zg ?_;simp only[↓vS,vT,simprocAttr];refine(h2 r htl).pc ?_;cases hk:qb1 r with
   | false =>
    have hwf:upR none x.rules=false:=by rw[hI];grind
    simp only[↓vS,vT,simprocAttr];simp[vZ,hwf]
   | true =>
    by_cases h0:j=0
    .subst h0;have hn:¬(0:Int)<((0:Nat):Int):=by decide
     simp only[↓vS,vT,simprocAttr,hn,hw];refine ih 1 ⟨by omega,?_⟩ (by omega) _ _ (Wk.mk _ _ [0] ?_ ?_ ?_ rfl)
     .rw[hI,hk];grind
     .simp[vw,qq]
      simp_all
     .simp[vw,zr,qq]
     .simp
    .have hp:(0:Int)<(j:Int):=by omega
     have hpl:j-1<x.rules.length:=by omega
     have hy:x.rules[j-1]?=some x.rules[j-1]:=by simp_all
     have hw2:IntKind.wrap .i64 ((j:Int)-1)=((j-1:Nat):Int):=by rw[qm (by omega) (by omega)];omega
     have g0:(rR x.rules)[(j-1)*3]?=some (.w x.rules[j-1].nr):=qqU hy (i:=0) (by decide);rw[if_neg h0,hy]at hI
     by_cases hlt2:r.nr<=x.rules[j-1].nr
     .have hwf:upR none x.rules=false:=by rw[hI];grind
      simp only[↓vS,vT,simprocAttr,hp,hw2,hpl,g0,hlt2];simp[vZ,hwf]
     .simp only[↓vS,vT,simprocAttr,hp,hw2,hpl,g0,hlt2,hw];refine ih (j+1) ⟨by omega,?_⟩ (by omega) _ _ (Wk.mk _ _ [0] ?_ ?_ ?_ rfl)
      .rw[hI,hk];simp_all
      .simp[vw,qq]
      .simp[vw,zr,qq]
      .simp
  .rw[List.drop_of_length_le (by omega),upR]at hI;simp only[↓vS,vT,simprocAttr,hlt];simp[vZ,hI]
end Go.Kc
end
section
namespace Go.Kc
end Go.Kc
end
section
namespace Go.Kc
variable {P:Program} {f:Nat}
end Go.Kc
end
section
namespace Go.Kc
variable {P:Program} {f:Nat}
section
variable {g1 g2 g3 g4 g5:Nat}
end
end Go.Kc
end
section
namespace Go.Kc
variable {E:List UInt8->List (List UInt8)×Int}
variable (E)
variable {E}
end Go.Kc
end
section
namespace Go.Kc
variable {P:Program} {f:Nat}
instance:DecidableEq GCall:=λa b=>if h:a.name=b.name/\a.act=b.act then isTrue (by obtain⟨h1,h2⟩:=h;cases a;cases b;simp_all)else isFalse (by rintro rfl;exact h ⟨rfl,rfl⟩)
def qnu{α:Type}{l m:List α}{j:Nat}{x y:α}(hx:l[j]?=some x)(hy:m[j]?=some y)(h:l.take j=m.take j)(e:x=y):l.take (j+1)=m.take (j+1):=by
 rw[List.take_add_one,List.take_add_one,hx,hy,h,e]
section
variable {l m:List Asg} {j:Nat}
end
end Go.Kc
end
section
namespace Go.Kc
variable {P:Program} {f:Nat}
variable {E:List UInt8->List (List UInt8)×Int}
section
variable {g1 g2 g3 g4:Nat}
end
end Go.Kc
end
section
namespace Go.Kc
variable {P:Program} {f:Nat}
end Go.Kc
end
section
namespace Go.Kc
open Go.RowKit
variable {P:Program} {f:Nat}
end Go.Kc
end
section
namespace Go.Kc
variable {P:Program} {f:Nat}
structure GData where
 nr:Int
 arch:Int
 ip:Int
 a0:Int
 a1:Int
 a2:Int
 a3:Int
 a4:Int
 a5:Int
def zJ(d:GData):List AV:=[.w d.nr,.w d.arch,.x d.ip,.x d.a0,.x d.a1,.x d.a2,.x d.a3,.x d.a4,.x d.a5]
def ofM(t n:Int):Int×Bool :=
 if xI (λx=>decide (x.2=t)) xc 0<0 then(0,false)
 else if xI (λx=>decide (x.2=t)) xc 0=0/\qcO .u32 n 1073741824≠0 then(2,true)
 else(xI (λx=>decide (x.2=t)) xc 0,true)
def qe2(a:Int):Int:=(xc.getD a.toNat ([],0)).2
def qhU(a:Nat):IFn:=⟨[.tmp 2,.tmp 3],sq [.r [.m 2 (.c (.w 0)),.m 3 (.k 0)],sq [.r [.n 4 0,.w 5 .lss 4 0,.n 6 5,.z 7 0 6,.g 8 (.bin .geq (.t 7) (.k 6)) 6 false,.o 9 6 8],.cond (.t 9) (sq [.r [.m 2 (.c (.w 0)),.m 3 (.k 80)],.ret]) (.skip)],.r [.l 10 a [],.n 11 0,.q 12 (.idxA 6 2 true (.t 10) (.t 11)),.q 13 (.fld 1 none (.t 12)),.n 2 13,.m 3 (.k 0)],.ret]⟩
def qFc{g:Nat}(hc:qc P f (qhU g)=true)(hg:qa P g [] (.agg (xc.flatMap (qa5 .u32))))(a:Int)(h0:0<=a)(h6:a<6):qa P f [.j a] (.tup [.w (qe2 a),.j 0]):=by
 refine qa.mk hc rfl ?_;simp only[qhU,vI,simprocAttr];have n1:¬a<0:=by omega
 have n2:¬6<=a:=by omega
 simp only[↓vS,vT,simprocAttr,n1,n2];refine hg.sc ?_;have h3:a=0\/a=1\/a=2\/a=3\/a=4\/a=5:=by omega
 rcases h3 with rfl|rfl|rfl|rfl|rfl|rfl <;>
 .simp only[↓vS,vT,simprocAttr,xc,qa5,List.flatMap_cons,List.flatMap_nil];simp[vZ,qe2,xc]
section
variable {g1 g2 g3 g4 g5:Nat}
end
section
variable {g1 g2:Nat}
end
end Go.Kc
end
section
namespace Go.Kc
def idxS:List Nat:=[25,27,30,17,29,7,28,26]
end Go.Kc
end
section
namespace Go.Kc
variable {P:Program} {f:Nat}

section
variable {e1 e2 g3 g4 g5 g6 g7:Nat}
end
section
variable {g1 g2 g3 g4 g5 g6 g7 g8 g9 g10 g11 g12:Nat}
end



end Go.Kc
end
section
namespace Go.Kc
variable {P:Program} {f g1 g2:Nat}

end Go.Kc
end
section
namespace Go.Kc
variable {P:Program} {f:Nat}
section
variable {g1 g2 g3 g4 g5 g6 g7 g8 g9:Nat}
end
end Go.Kc
end
section
namespace Go.Kc
section
variable {P:Program} {f g1 g2 g3 g4 g5 g6 g7 g8 g9:Nat}
end
section
variable {P:Program} {f g1 g2 g3 g4 g5 g6 g7 g8 g9:Nat}
end
end Go.Kc
end
section
namespace Go.Kc
variable {P:Program} {f:Nat}
def qc5(x:Int×List UInt8×Int):List AV:=[.h x.1,.s x.2.1,.y x.2.2]
def qpZ(x:Int×List UInt8×Int):(qc5 x).length=3:=rfl
def qaO:List (Int×List UInt8×Int):=[(32,[108,100,97,98,115],1),(128,[108,100,108,101,110],1),(0,[108,100,105],1),(96,[108,100,109],1),(129,[108,100,120,108,101,110],1),(1,[108,100,120,105],1),(97,[108,100,120,109],1),(2,[115,116],2),(3,[115,116,120],2),(4,[97,100,100],3),(20,[115,117,98],3),(36,[109,117,108],3),(52,[100,105,118],3),(68,[111,114],3),(84,[97,110,100],3),(100,[108,115,104],3),(116,[114,115,104],3),(164,[120,111,114],3),(12,[97,100,100,120],3),(28,[115,117,98,120],3),(44,[109,117,108,120],3),(60,[100,105,118,120],3),(76,[111,114,120],3),(92,[97,110,100,120],3),(108,[108,115,104,120],3),(124,[114,115,104,120],3),(172,[120,111,114,120],3),(132,[110,101,103],3),(5,[106,97],4),(21,[106,101,113],4),(37,[106,103,116],4),(53,[106,103,101],4),(69,[106,115,101,116],4),(29,[106,101,113,120],4),(45,[106,103,116,120],4),(61,[106,103,101,120],4),(77,[106,115,101,116,120],4),(6,[114,101,116],5),(22,[114,101,116,97],5),(7,[116,97,120],6),(135,[116,120,97],6)]
def zE:List AV:=[.h 0,.s [],.y 0]
def qag(c:Int):Option (Int×List UInt8×Int):=qaO.find? λx=>decide (x.1=c)
def qfc:Option (Int×List UInt8×Int)->List AV
 | some x=>qc5 x
 | none=>zE
def qn(c:Int):Int:=(qag c).elim 0 λx=>x.2.2
def xE(c:Int):Bool:=(qag c).isSome
def qf9:IFn:=⟨[.cell 0 123 true],sq [.r [.q 0 (.alloc [.h 0,.s [],.y 0,.h 0,.s [],.y 0,.h 0,.s [],.y 0,.h 0,.s [],.y 0,.h 0,.s [],.y 0,.h 0,.s [],.y 0,.h 0,.s [],.y 0,.h 0,.s [],.y 0,.h 0,.s [],.y 0,.h 0,.s [],.y 0,.h 0,.s [],.y 0,.h 0,.s [],.y 0,.h 0,.s [],.y 0,.h 0,.s [],.y 0,.h 0,.s [],.y 0,.h 0,.s [],.y 0,.h 0,.s [],.y 0,.h 0,.s [],.y 0,.h 0,.s [],.y 0,.h 0,.s [],.y 0,.h 0,.s [],.y 0,.h 0,.s [],.y 0,.h 0,.s [],.y 0,.h 0,.s [],.y 0,.h 0,.s [],.y 0,.h 0,.s [],.y 0,.h 0,.s [],.y 0,.h 0,.s [],.y 0,.h 0,.s [],.y 0,.h 0,.s [],.y 0,.h 0,.s [],.y 0,.h 0,.s [],.y 0,.h 0,.s [],.y 0,.h 0,.s [],.y 0,.h 0,.s [],.y 0,.h 0,.s [],.y 0,.h 0,.s [],.y 0,.h 0,.s [],.y 0,.h 0,.s [],.y 0,.h 0,.s [],.y 0,.h 0,.s [],.y 0])],.r [.q 1 (.build [.h 0,.s [],.y 0] [(0,1,(.c (.h 32))),(1,1,(.c (.s [108,100,97,98,115]))),(2,1,(.c (.y 1)))]),.q 2 (.build [.h 0,.s [],.y 0] [(0,1,(.c (.h 128))),(1,1,(.c (.s [108,100,108,101,110]))),(2,1,(.c (.y 1)))]),.q 3 (.build [.h 0,.s [],.y 0] [(0,1,(.c (.h 0))),(1,1,(.c (.s [108,100,105]))),(2,1,(.c (.y 1)))]),.q 4 (.build [.h 0,.s [],.y 0] [(0,1,(.c (.h 96))),(1,1,(.c (.s [108,100,109]))),(2,1,(.c (.y 1)))]),.q 5 (.build [.h 0,.s [],.y 0] [(0,1,(.c (.h 129))),(1,1,(.c (.s [108,100,120,108,101,110]))),(2,1,(.c (.y 1)))]),.q 6 (.build [.h 0,.s [],.y 0] [(0,1,(.c (.h 1))),(1,1,(.c (.s [108,100,120,105]))),(2,1,(.c (.y 1)))]),.q 7 (.build [.h 0,.s [],.y 0] [(0,1,(.c (.h 97))),(1,1,(.c (.s [108,100,120,109]))),(2,1,(.c (.y 1)))]),.q 8 (.build [.h 0,.s [],.y 0] [(0,1,(.c (.h 2))),(1,1,(.c (.s [115,116]))),(2,1,(.c (.y 2)))]),.q 9 (.build [.h 0,.s [],.y 0] [(0,1,(.c (.h 3))),(1,1,(.c (.s [115,116,120]))),(2,1,(.c (.y 2)))]),.q 10 (.build [.h 0,.s [],.y 0] [(0,1,(.c (.h 4))),(1,1,(.c (.s [97,100,100]))),(2,1,(.c (.y 3)))]),.q 11 (.build [.h 0,.s [],.y 0] [(0,1,(.c (.h 20))),(1,1,(.c (.s [115,117,98]))),(2,1,(.c (.y 3)))]),.q 12 (.build [.h 0,.s [],.y 0] [(0,1,(.c (.h 36))),(1,1,(.c (.s [109,117,108]))),(2,1,(.c (.y 3)))]),.q 13 (.build [.h 0,.s [],.y 0] [(0,1,(.c (.h 52))),(1,1,(.c (.s [100,105,118]))),(2,1,(.c (.y 3)))]),.q 14 (.build [.h 0,.s [],.y 0] [(0,1,(.c (.h 68))),(1,1,(.c (.s [111,114]))),(2,1,(.c (.y 3)))]),.q 15 (.build [.h 0,.s [],.y 0] [(0,1,(.c (.h 84))),(1,1,(.c (.s [97,110,100]))),(2,1,(.c (.y 3)))]),.q 16 (.build [.h 0,.s [],.y 0] [(0,1,(.c (.h 100))),(1,1,(.c (.s [108,115,104]))),(2,1,(.c (.y 3)))]),.q 17 (.build [.h 0,.s [],.y 0] [(0,1,(.c (.h 116))),(1,1,(.c (.s [114,115,104]))),(2,1,(.c (.y 3)))]),.q 18 (.build [.h 0,.s [],.y 0] [(0,1,(.c (.h 164))),(1,1,(.c (.s [120,111,114]))),(2,1,(.c (.y 3)))]),.q 19 (.build [.h 0,.s [],.y 0] [(0,1,(.c (.h 12))),(1,1,(.c (.s [97,100,100,120]))),(2,1,(.c (.y 3)))]),.q 20 (.build [.h 0,.s [],.y 0] [(0,1,(.c (.h 28))),(1,1,(.c (.s [115,117,98,120]))),(2,1,(.c (.y 3)))]),.q 21 (.build [.h 0,.s [],.y 0] [(0,1,(.c (.h 44))),(1,1,(.c (.s [109,117,108,120]))),(2,1,(.c (.y 3)))]),.q 22 (.build [.h 0,.s [],.y 0] [(0,1,(.c (.h 60))),(1,1,(.c (.s [100,105,118,120]))),(2,1,(.c (.y 3)))]),.q 23 (.build [.h 0,.s [],.y 0] [(0,1,(.c (.h 76))),(1,1,(.c (.s [111,114,120]))),(2,1,(.c (.y 3)))]),.q 24 (.build [.h 0,.s [],.y 0] [(0,1,(.c (.h 92))),(1,1,(.c (.s [97,110,100,120]))),(2,1,(.c (.y 3)))]),.q 25 (.build [.h 0,.s [],.y 0] [(0,1,(.c (.h 108))),(1,1,(.c (.s [108,115,104,120]))),(2,1,(.c (.y 3)))]),.q 26 (.build [.h 0,.s [],.y 0] [(0,1,(.c (.h 124))),(1,1,(.c (.s [114,115,104,120]))),(2,1,(.c (.y 3)))]),.q 27 (.build [.h 0,.s [],.y 0] [(0,1,(.c (.h 172))),(1,1,(.c (.s [120,111,114,120]))),(2,1,(.c (.y 3)))]),.q 28 (.build [.h 0,.s [],.y 0] [(0,1,(.c (.h 132))),(1,1,(.c (.s [110,101,103]))),(2,1,(.c (.y 3)))]),.q 29 (.build [.h 0,.s [],.y 0] [(0,1,(.c (.h 5))),(1,1,(.c (.s [106,97]))),(2,1,(.c (.y 4)))]),.q 30 (.build [.h 0,.s [],.y 0] [(0,1,(.c (.h 21))),(1,1,(.c (.s [106,101,113]))),(2,1,(.c (.y 4)))]),.q 31 (.build [.h 0,.s [],.y 0] [(0,1,(.c (.h 37))),(1,1,(.c (.s [106,103,116]))),(2,1,(.c (.y 4)))]),.q 32 (.build [.h 0,.s [],.y 0] [(0,1,(.c (.h 53))),(1,1,(.c (.s [106,103,101]))),(2,1,(.c (.y 4)))]),.q 33 (.build [.h 0,.s [],.y 0] [(0,1,(.c (.h 69))),(1,1,(.c (.s [106,115,101,116]))),(2,1,(.c (.y 4)))]),.q 34 (.build [.h 0,.s [],.y 0] [(0,1,(.c (.h 29))),(1,1,(.c (.s [106,101,113,120]))),(2,1,(.c (.y 4)))]),.q 35 (.build [.h 0,.s [],.y 0] [(0,1,(.c (.h 45))),(1,1,(.c (.s [106,103,116,120]))),(2,1,(.c (.y 4)))]),.q 36 (.build [.h 0,.s [],.y 0] [(0,1,(.c (.h 61))),(1,1,(.c (.s [106,103,101,120]))),(2,1,(.c (.y 4)))]),.q 37 (.build [.h 0,.s [],.y 0] [(0,1,(.c (.h 77))),(1,1,(.c (.s [106,115,101,116,120]))),(2,1,(.c (.y 4)))]),.q 38 (.build [.h 0,.s [],.y 0] [(0,1,(.c (.h 6))),(1,1,(.c (.s [114,101,116]))),(2,1,(.c (.y 5)))]),.q 39 (.build [.h 0,.s [],.y 0] [(0,1,(.c (.h 22))),(1,1,(.c (.s [114,101,116,97]))),(2,1,(.c (.y 5)))]),.q 40 (.build [.h 0,.s [],.y 0] [(0,1,(.c (.h 7))),(1,1,(.c (.s [116,97,120]))),(2,1,(.c (.y 6)))]),.q 41 (.build [.h 0,.s [],.y 0] [(0,1,(.c (.h 135))),(1,1,(.c (.s [116,120,97]))),(2,1,(.c (.y 6)))]),.q 42 (.build [.h 0,.s [],.y 0,.h 0,.s [],.y 0,.h 0,.s [],.y 0,.h 0,.s [],.y 0,.h 0,.s [],.y 0,.h 0,.s [],.y 0,.h 0,.s [],.y 0,.h 0,.s [],.y 0,.h 0,.s [],.y 0,.h 0,.s [],.y 0,.h 0,.s [],.y 0,.h 0,.s [],.y 0,.h 0,.s [],.y 0,.h 0,.s [],.y 0,.h 0,.s [],.y 0,.h 0,.s [],.y 0,.h 0,.s [],.y 0,.h 0,.s [],.y 0,.h 0,.s [],.y 0,.h 0,.s [],.y 0,.h 0,.s [],.y 0,.h 0,.s [],.y 0,.h 0,.s [],.y 0,.h 0,.s [],.y 0,.h 0,.s [],.y 0,.h 0,.s [],.y 0,.h 0,.s [],.y 0,.h 0,.s [],.y 0,.h 0,.s [],.y 0,.h 0,.s [],.y 0,.h 0,.s [],.y 0,.h 0,.s [],.y 0,.h 0,.s [],.y 0,.h 0,.s [],.y 0,.h 0,.s [],.y 0,.h 0,.s [],.y 0,.h 0,.s [],.y 0,.h 0,.s [],.y 0,.h 0,.s [],.y 0,.h 0,.s [],.y 0,.h 0,.s [],.y 0] [(0,3,(.t 1)),(3,3,(.t 2)),(6,3,(.t 3)),(9,3,(.t 4)),(12,3,(.t 5)),(15,3,(.t 6)),(18,3,(.t 7)),(21,3,(.t 8)),(24,3,(.t 9)),(27,3,(.t 10)),(30,3,(.t 11)),(33,3,(.t 12)),(36,3,(.t 13)),(39,3,(.t 14)),(42,3,(.t 15)),(45,3,(.t 16)),(48,3,(.t 17)),(51,3,(.t 18)),(54,3,(.t 19)),(57,3,(.t 20)),(60,3,(.t 21)),(63,3,(.t 22)),(66,3,(.t 23)),(69,3,(.t 24)),(72,3,(.t 25)),(75,3,(.t 26)),(78,3,(.t 27)),(81,3,(.t 28)),(84,3,(.t 29)),(87,3,(.t 30)),(90,3,(.t 31)),(93,3,(.t 32)),(96,3,(.t 33)),(99,3,(.t 34)),(102,3,(.t 35)),(105,3,(.t 36)),(108,3,(.t 37)),(111,3,(.t 38)),(114,3,(.t 39)),(117,3,(.t 40)),(120,3,(.t 41))]),.u (.store 123 (.t 0) (.t 42))],.ret]⟩
set_option maxRecDepth 20000 in
def qBd(hc:qc P f qf9=true):qa P f [] (.agg (qaO.flatMap qc5)):=by
 refine qa.mk hc rfl ?_;simp only[qf9,vI,simprocAttr];simp only[↓vS,vT,simprocAttr,qaO,qc5,List.flatMap_cons,List.flatMap_nil,vZ]
def qjj(a:Nat):IFn:=⟨[.cell 2 3 true,.tmp 3],sq [.r [.q 2 (.alloc [.h 0,.s [],.y 0]),.m 3 .F],sq [.r [.l 6 a [],.m 7 (.k 0)],.blk 0 (.loop (sq [.r [.w 8 .lss 7 41],.cond (.t 8) (.skip) (.exit 0),.blk 1 (sq [.r [.q 9 (.idxA 41 3 true (.t 6) (.t 7)),.q 5 (.alloc [.h 0,.s [],.y 0]),.u (.store 3 (.t 5) (.t 9))],.r [.n 10 0,.v 11 3 5,⟨(some 12),.callV (.t 10) [.t 11],none⟩],.cond (.t 12) (sq [.r [.v 13 3 5,.u (.store 3 (.t 2) (.t 13)),.m 3 .T],.ret]) (.skip)]),.r [.a 14 7 1,.n 7 14]]))],.r [.q 15 (.build [.h 0,.s [],.y 0] []),.u (.store 3 (.t 2) (.t 15)),.m 3 .F],.ret]⟩
def qFG{e:Nat}(hc:qc P f (qjj e)=true)(he:qa P e [] (.agg (qaO.flatMap qc5))){g:Nat}{a c:List AV}(ha:qt a=true)(hcc:qt c=true)(p:Int×List UInt8×Int->Bool)(hp:∀x ∈ qaO,qa P g (a++([.agg (qc5 x)]++c)) (.b (p x))) :
  qa P f [.fn g a c] (.tup [.agg (qfc (qaO.find? p)),.b (qaO.find? p).isSome]):=by
 refine qa.mk hc (by simp[qt,clo,ha,hcc]) ?_;simp only[qjj,vI,simprocAttr];simp only[↓vS,vT,simprocAttr];refine he.sc ?_;simp only[↓vS,vT,simprocAttr];have hlen:(qaO.flatMap qc5).length=123:=by rw[qV (m:=3) qpZ];rfl
 have hTc:qt (qaO.flatMap qc5)=true:=rfl;refine SL.loop (α:=Nat) (λj=>[(0,.fn g a c),(2,.ptr 0 0),(6,.agg (qaO.flatMap qc5)),(7,.j j)]) (λ_=>[.v zE]) (λj=>j<=41/\qaO.find? p=(qaO.drop j).find? p) (λj=>41-j) 0 [0] ?_ ?_ ?_ rfl ?_ ?_
 .generalize qaO.flatMap qc5=T at hTc;simp[vw,qe,hTc,ha,hcc]
 .simp[vw,zE]
 .simp
 .simp_all
 rintro j ⟨hj,hI⟩ G ih;simp only[vI,simprocAttr]
 by_cases hlt:j<41
 .have hlt':(j:Int)<41:=by omega
  have hjl:j<qaO.length:=hlt;have hx:qaO[j]?=some qaO[j]:=by simp_all
  have hw:IntKind.wrap .i64 ((j:Int)+1)=((j+1:Nat):Int):=by rw[qm (by omega) (by omega)];omega
  have hel:=qG (f:=qc5) (m:=3) qpZ hx;have hb:j*3+3<=(qaO.flatMap qc5).length:=by omega
  have hpx:=hp _ (List.getElem_mem hjl);rw[List.drop_eq_getElem_cons hjl,List.find?_cons]at hI;generalize hc0:qaO[j]=x at hel hI hpx;generalize hT:qaO.flatMap qc5=T at hel hb hlen hTc;simp only[qc5]at hpx;simp only[↓vS,vT,simprocAttr,hlt',hlt,hel,hb,qc5,zE];refine hpx.sc ?_;cases hs:p x with
  | true =>
   rw[hs]at hI;simp +decide only[↓vS,vT,simprocAttr];rw[hI];simp[vZ,qfc,qc5]
  | false =>
   rw[hs]at hI;simp +decide only[↓vS,vT,simprocAttr,hw];refine ih (j+1) ⟨hlt,hI⟩ (by omega) _ _ (Wk.mk _ _ [0] ?_ ?_ ?_ rfl)
   .rw[hT];simp[vw,qe,hTc,ha,hcc]
   .simp[vw,zE]
   .simp
 .have hj':j=41:=by omega
  subst hj';have hlt':¬(((41:Nat):Int)<41):=by decide
  have hI':qaO.find? p=none:=hI;clear ih;generalize qaO.flatMap qc5=T;simp +decide only[↓vS,vT,simprocAttr,hlt',zE];rw[hI'];simp[vZ,qfc,zE]
def qjh:IFn:=⟨[.tmp 3],sq [.r [.q 2 (.box (.t 0)),.m 3 .F],.r [.f 4 0 2,.d 5 4,.d 6 1,.b 7 .eql 5 6,.n 3 7],.ret]⟩
def qG8(hc:qc P f qjh=true)(x:Int×List UInt8×Int)(n:Int):qa P f [.agg (qc5 x),.pf [.h n] 0] (.b (decide (x.1=n))):=by
 refine qa.mk hc (by simp[qt,clo,qc5]) ?_;simp only[qjh,qc5,vI,simprocAttr];simp only[↓vS,vT,simprocAttr,vZ]
def qlN(a b:Nat):IFn:=⟨[.cell 2 3 true,.tmp 3],sq [.r [.q 1 (.box (.t 0)),.q 2 (.alloc [.h 0,.s [],.y 0]),.m 3 .F],.r [.q 4 (.mkF a [] [.t 1]),.l 5 b [.t 4],.x 6 5 0,.x 7 5 1,.u (.store 3 (.t 2) (.t 6)),.n 3 7],.ret]⟩
def qIl{g1 g2:Nat}(hc:qc P f (qlN g1 g2)=true)(h1:∀x n,qa P g1 [.agg (qc5 x),.pf [.h n] 0] (.b (decide (x.1=n))))(h2:∀(g:Nat) (a c:List AV),qt a=true->qt c=true->∀p:Int×List UInt8×Int->Bool,(∀x ∈ qaO,qa P g (a++([.agg (qc5 x)]++c)) (.b (p x)))->qa P g2 [.fn g a c] (.tup [.agg (qfc (qaO.find? p)),.b (qaO.find? p).isSome]))(n:Int) :
  qa P f [.h n] (.tup [.agg (qfc (qag n)),.b (xE n)]):=by
 refine qa.mk hc rfl ?_;have h:=h2 g1 [] [.pf [.h n] 0] rfl rfl (λx=>decide (x.1=n)) (λx _=>h1 x n)
 unfold xE qag;have hce:qt (qfc (qaO.find? λx=>decide (x.1=n)))=true/\(qfc (qaO.find? λx=>decide (x.1=n))).length=3:=by cases qaO.find? λx=>decide (x.1=n)<;>exact⟨rfl,rfl⟩
 generalize(qaO.find? λx=>decide (x.1=n))=o at h hce ⊢
 simp only[qlN,vI,simprocAttr];simp only[↓vS,vT,simprocAttr];refine(h.lend (vs':=[.fn g1 [] [.pf [.h n] 0]]) ?_ ?_ ?_)
 .simp[vZ,vP,Tr.get_set]
 .cases o<;>rfl
 cases o with
 | none =>
  simp +decide only[↓vS,vT,simprocAttr,qfc,zE];simp[vZ]
 | some x =>
  simp +decide only[↓vS,vT,simprocAttr,qfc,qc5];simp[vZ]
def qlM(a:Nat):IFn:=⟨[.tmp 2],sq [.r [.m 2 (.c (.y 0))],.r [.n 6 0,.l 7 a [.t 6],.n 5 7,.x 8 5 0,.x 9 5 1,.q 3 (.alloc [.h 0,.s [],.y 0]),.u (.store 3 (.t 3) (.t 8)),.n 4 9],.r [.f 10 2 3,.d 11 10,.n 2 11],.ret]⟩
def qIk{g:Nat}(hc:qc P f (qlM g)=true)(hg:∀n,qa P g [.h n] (.tup [.agg (qfc (qag n)),.b (xE n)]))(n:Int):qa P f [.h n] (.y (qn n)):=by
 refine qa.mk hc rfl ?_;have h:=hg n;unfold xE at h;simp only[qlM,vI,simprocAttr];simp only[↓vS,vT,simprocAttr];refine h.sc ?_;cases hcn:qag n with
 | none =>
  simp +decide only[↓vS,vT,simprocAttr,qfc,zE];simp[vZ,qn,xE,hcn]
 | some x =>
  simp +decide only[↓vS,vT,simprocAttr,qfc,qc5];simp[vZ,qn,xE,hcn]
def qh2(a:Nat):IFn:=⟨[.tmp 2],sq [.r [.m 2 .F],.r [.n 6 0,.l 7 a [.t 6],.n 5 7,.x 8 5 0,.x 9 5 1,.q 3 (.alloc [.h 0,.s [],.y 0]),.u (.store 3 (.t 3) (.t 8)),.n 4 9],.r [.n 10 4,.n 2 10],.ret]⟩
def qC6{g:Nat}(hc:qc P f (qh2 g)=true)(hg:∀n,qa P g [.h n] (.tup [.agg (qfc (qag n)),.b (xE n)]))(n:Int):qa P f [.h n] (.b (xE n)):=by
 refine qa.mk hc rfl ?_;have h:=hg n;unfold xE at h;simp only[qh2,vI,simprocAttr];simp only[↓vS,vT,simprocAttr];refine h.sc ?_;cases hcn:qag n with
 | none =>
  simp +decide only[↓vS,vT,simprocAttr,qfc,zE];simp[vZ,qn,xE,hcn]
 | some x =>
  simp +decide only[↓vS,vT,simprocAttr,qfc,qc5];simp[vZ,qn,xE,hcn]
end Go.Kc
end
section
namespace Go.Kc
variable {P:Program} {f:Nat}
def leM:List Int->Int
 | []=>0
 | x::l=>x+256*leM l
def xX(b:List Int):Prop:=∀x ∈ b,0<=x/\x<=255
def qn3:∀(l:List Int) (x:Int),leM (l++[x])=leM l+256 ^ l.length*x
 | [],x=>by simp[leM]
 | y::l,x=>by
  simp only[zzC,leM,qn3 l x,List.length_cons,Int.pow_succ,Int.mul_add];have:256*(256 ^ l.length*x)=256 ^ l.length*256*x:=by rw[<- Int.mul_assoc,Int.mul_comm 256]
  rw[this];omega
def qj8:∀{l:List Int},xX l->0<=leM l/\leM l<256 ^ l.length
 | [],_=>by simp[leM]
 | x::l,h=>by
  have h1:=qj8 (l:=l) λy hy=>h y (by grind)
  have h2:=h x (by simp);simp only[leM,List.length_cons,Int.pow_succ];omega
def qoU{b:List Int}(h:xX b)(n:Nat):xX (b.take n):=λx hx=>h x (by grind)
def qoT{b:List Int}(h:xX b)(n:Nat):xX (b.drop n):=λx hx=>h x (by grind)
def qrV{q:IntKind}(hq:q = .u16\/q = .u32){x c:Int}{i:Nat}(hi:8*(i+1)<=q.bits)(hx0:0<=x)(hx:x<256 ^ i)(hc0:0<=c)(hc:c<=255):orI q x (qqa q (q.wrap c) (8*(i:Int)))=x+256 ^ i*c:=by
 obtain⟨a,rfl⟩:∃a:Nat,x=a:=⟨x.toNat,by omega⟩
 obtain⟨d,rfl⟩:∃d:Nat,c=d:=⟨c.toNat,by omega⟩
 have e256:∀i:Nat,(256:Int) ^ i=((2 ^ (8*i):Nat):Int):=λi=>by
  rw[Nat.pow_mul];simp
 rw[e256]at hx ⊢;have ha:a<2 ^ (8*i):=by omega
 have hle:2 ^ (8*(i+1))<=2 ^ q.bits:=Nat.pow_le_pow_right (by decide) hi
 have hd:d*2 ^ (8*i)+a<2 ^ q.bits:=by
  have h1:d*2 ^ (8*i)<=255*2 ^ (8*i):=Nat.mul_le_mul_right _ (by omega);have h2:2 ^ (8*(i+1))=256*2 ^ (8*i):=by rw[Nat.mul_add,Nat.pow_add,Nat.mul_comm]
  omega
 have hpos:0<2 ^ (8*i):=by omega
 have hor:(2 ^ (8*i)*d ||| a)=2 ^ (8*i)*d+a:=(Nat.two_pow_add_eq_or_of_lt ha d).symm
 have hd2:d*2 ^ (8*i)<2 ^ q.bits:=by omega
 rcases hq with rfl|rfl
 .have hb:(2:Nat) ^ IntKind.u16.bits=65536:=by decide
  rw[hb]at hd hd2;have h8:i<=1:=by simp only[IntKind.bits]at hi;omega
  have w1:IntKind.wrap .u16 (d:Int)=d:=by
   show((d:Int) % 65536)=d;omega
  have w2:qqa .u16 (d:Int) (8*(i:Int))=((d*2 ^ (8*i):Nat):Int):=by
   rcases(by omega:i=0\/i=1)with rfl|rfl
   .show IntKind.wrap .u16 _=_;simp[p2,IntKind.wrap,IntKind.bits,IntKind.signed];omega
   .show IntKind.wrap .u16 _=_;simp[p2,IntKind.wrap,IntKind.bits,IntKind.signed]at hd2 ⊢;omega
  rw[w1,w2];show IntKind.wrap .u16 (((BitVec.ofInt 16 (a:Int) ||| BitVec.ofInt 16 ((d*2 ^ (8*i):Nat):Int)).toNat:Nat):Int)=_
  have e1:(BitVec.ofInt 16 (a:Int)).toNat=a:=by rw[BitVec.toNat_ofInt];omega
  have e2:(BitVec.ofInt 16 ((d*2 ^ (8*i):Nat):Int)).toNat=d*2 ^ (8*i):=by rw[BitVec.toNat_ofInt];omega
  rw[BitVec.toNat_or,e1,e2,Nat.or_comm,Nat.mul_comm d,hor];rw[Nat.mul_comm]at hd;show((2 ^ (8*i)*d+a:Nat):Int) % 65536=_;rw[Int.emod_eq_of_lt (by omega) (by omega)];omega
 .have hb:(2:Nat) ^ IntKind.u32.bits=4294967296:=by decide
  rw[hb]at hd hd2;have h8:i<=3:=by simp only[IntKind.bits]at hi;omega
  have w1:IntKind.wrap .u32 (d:Int)=d:=by
   show((d:Int) % 4294967296)=d;omega
  have w2:qqa .u32 (d:Int) (8*(i:Int))=((d*2 ^ (8*i):Nat):Int):=by
   rcases(by omega:i=0\/i=1\/i=2\/i=3)with rfl|rfl|rfl|rfl <;>
   .show IntKind.wrap .u32 _=_;simp[p2,IntKind.wrap,IntKind.bits,IntKind.signed]at hd2 ⊢;omega
  rw[w1,w2];show IntKind.wrap .u32 (((BitVec.ofInt 32 (a:Int) ||| BitVec.ofInt 32 ((d*2 ^ (8*i):Nat):Int)).toNat:Nat):Int)=_
  have e1:(BitVec.ofInt 32 (a:Int)).toNat=a:=by rw[BitVec.toNat_ofInt];omega
  have e2:(BitVec.ofInt 32 ((d*2 ^ (8*i):Nat):Int)).toNat=d*2 ^ (8*i):=by rw[BitVec.toNat_ofInt];omega
  rw[BitVec.toNat_or,e1,e2,Nat.or_comm,Nat.mul_comm d,hor];rw[Nat.mul_comm]at hd;show((2 ^ (8*i)*d+a:Nat):Int) % 4294967296=_;rw[Int.emod_eq_of_lt (by omega) (by omega)];omega
def rB(b:List Int):List AV:=rI .u8 b
def qc4(b:List Int):(rB b).length=b.length:=jS
def qZ(b:List Int):qt (rB b)=true:=qi
def ql8(b:List Int)(j:Nat):(rB b)[j]?=(b[j]?).map (.i .u8):=qaZ
def ql9(b:List Int)(s n:Nat):((rB b).drop s).take n=rB ((b.drop s).take n):=by unfold rB rI;rw[List.map_take,List.map_drop]
def qa0(b:List Int)(at' n:Nat):List Int:=(b.drop at').take n
def qmo{b:List Int}{at' n:Nat}(h:at'+n<=b.length):(qa0 b at' n).length=n:=by unfold qa0;grind
def qnt{b:List Int}{at' j:Nat}{c:Int}(h:b[at'+j]?=some c):qa0 b at' (j+1)=qa0 b at' j++[c]:=by
 unfold qa0;rw[List.take_add_one,List.getElem?_drop,h];rfl
def qos{b:List Int}(h:xX b)(at' n:Nat):xX (qa0 b at' n):=qoU (qoT h at') n
def qnZ(b:List Int)(at':Nat):AV:=if at'+2<=b.length then .tup [.h (leM (qa0 b at' 2)),.b true]else .tup [.h 0,.b false]
def qdd:IFn:=⟨[.tmp 6,.tmp 7],sq [.r [.m 6 (.c (.h 0)),.m 7 .F],sq [.r [.n 10 1,.w 11 .lss 10 0,.n 12 11,.z 13 1 12,.z 14 0 12,.g 15 (.len false (.t 14)) 12 false,.z 16 2 12,.g 17 (.bin .sub (.t 15) (.t 16)) 12 false,.g 18 (.bin .gtr (.t 13) (.t 17)) 12 false,.o 19 12 18],.cond (.t 19) (sq [.r [.m 6 (.c (.h 0)),.m 7 .F],.ret]) (.skip)],.r [.m 8 (.c (.h 0))],sq [.r [.n 20 2,.m 21 (.k 0)],.blk 0 (.loop (sq [.r [.s 22 21 20],.cond (.t 22) (.skip) (.exit 0),.blk 1 (sq [.r [.n 23 21,.n 9 23],.r [.n 24 8,.n 25 0,.n 26 1,.n 27 9,.b 28 .add 26 27,.i 29 1 25 28,.d 30 29,.q 31 (.cvInt .u16 (.t 30)),.n 32 9,.q 33 (.bin .mul (.k 8) (.t 32)),.b 34 .shl 31 33,.b 35 .or 24 34,.n 8 35]]),.r [.a 36 21 1,.n 21 36]]))],.r [.n 37 8,.n 6 37,.m 7 .T],.ret]⟩
def qJF(hc:qc P f qdd=true)(b:List Int)(hb:xX b)(hl:b.length<=2000000)(at':Nat)(ha:at'<=2000000):qa P f [.fz b.length (rB b),.j at',.j 2] (qnZ b at'):=by
 refine qa.mk hc (by simp[qt,clo,qZ]) ?_;have hn:¬(at':Int)<0:=by omega
 have hw0:IntKind.wrap .i64 ((b.length:Int)-2)=(b.length:Int)-2:=by grind[qm]
 unfold qnZ;simp only[qdd,vI,simprocAttr]
 by_cases h:at'+2<=b.length
 .have h':¬(b.length:Int)-2<(at':Int):=by omega
  rw[if_pos h];simp +decide only[↓vS,vT,simprocAttr,hn,h',hw0];refine SL.loop (α:=Nat) (λj=>[(0,.fz b.length (rB b)),(1,.j at'),(8,.h (leM (qa0 b at' j))),(20,.j 2),(21,.j j)]) (λ_=>[]) (λj=>j<=2) (λj=>2-j) 0 [] ?_ ?_ ?_ rfl ?_ ?_
  .simp[vw,qZ,qa0,leM]
  .trivial
  .simp
  .omega
  rintro j hj G ih;simp only[vI,simprocAttr]
  by_cases hlt:j<2
  .have hlt':(j:Int)<2:=by omega
   have hjl:at'+j<b.length:=by omega
   obtain⟨c,hcx⟩:∃c,b[at'+j]?=some c:=⟨_,zzE hjl⟩;have hcb:=hb c (by grind);have hw:IntKind.wrap .i64 ((j:Int)+1)=((j+1:Nat):Int):=by rw[qm (by omega) (by omega)];omega
   have hw2:IntKind.wrap .i64 ((at':Int)+(j:Int))=((at'+j:Nat):Int):=by rw[qm (by omega) (by omega)];omega
   have hw3:IntKind.wrap .i64 (8*(j:Int))=8*(j:Int):=by grind[qm]
   have h8:(0:Int)<=8*(j:Int):=by omega
   have hbd:=qj8 (qos hb at' j);have hsl:(qa0 b at' j).length=j:=qmo (by omega);rw[hsl]at hbd;have hor:=qrV (q:=.u16) (by simp) (i:=j) (x:=leM (qa0 b at' j)) (c:=c) (by simp only[IntKind.bits];omega) hbd.1 hbd.2 hcb.1 hcb.2;have hnx:leM (qa0 b at' (j+1))=leM (qa0 b at' j)+256 ^ j*c:=by rw[qnt hcx,qn3,hsl]
   have ih2:=ih (j+1);rw[hnx]at ih2;simp +decide only[↓vS,vT,simprocAttr,hlt',hw2,hjl,zzU,ql8,hcx,Option.map_some,hw3,h8,hor,hw];refine ih2 (by omega) (by omega) _ _ (Wk.mk _ _ [] ?_ ?_ ?_ rfl)
   .simp[vw,qZ]
   .trivial
   .simp
  .have hlt':¬(j:Int)<2:=by omega
   obtain rfl:j=2:=by omega
   clear ih;simp +decide only[↓vS,vT,simprocAttr,hlt'];simp[vZ]
 .have h':(b.length:Int)-2<(at':Int):=by omega
  rw[if_neg h];simp +decide only[↓vS,vT,simprocAttr,hn,h',hw0];simp[vZ]
def qg4(a:Nat):IFn:=⟨[.tmp 4,.tmp 5],sq [.r [.m 4 (.c (.h 0)),.m 5 .F],.r [.n 6 0,.n 7 1,.l 8 a [.t 6,.t 7,.k 2],.x 9 8 0,.x 10 8 1,.n 4 9,.n 5 10],.ret]⟩
def qJB{g:Nat}(hc:qc P f (qg4 g)=true)(hg:∀(b:List Int),xX b->b.length<=2000000->∀at':Nat,at'<=2000000->qa P g [.fz b.length (rB b),.j at',.j 2] (qnZ b at'))(b:List Int)(hb:xX b)(hl:b.length<=2000000)(at':Nat)(ha:at'<=2000000):qa P f [.fz b.length (rB b),.j at'] (qnZ b at'):=by
 refine qa.mk hc (by simp[qt,clo,qZ]) ?_;have h:=hg b hb hl at' ha;unfold qnZ at h ⊢;simp only[qg4,vI,simprocAttr];simp only[↓vS,vT,simprocAttr];refine h.sc ?_;split
 .simp +decide only[↓vS,vT,simprocAttr];simp[vZ]
 .simp +decide only[↓vS,vT,simprocAttr];simp[vZ]
def qqJ(b:List Int)(at':Nat):AV:=if at'+4<=b.length then .tup [.w (leM (qa0 b at' 4)),.b true]else .tup [.w 0,.b false]
def qde:IFn:=⟨[.tmp 6,.tmp 7],sq [.r [.m 6 (.c (.w 0)),.m 7 .F],sq [.r [.n 10 1,.w 11 .lss 10 0,.n 12 11,.z 13 1 12,.z 14 0 12,.g 15 (.len false (.t 14)) 12 false,.z 16 2 12,.g 17 (.bin .sub (.t 15) (.t 16)) 12 false,.g 18 (.bin .gtr (.t 13) (.t 17)) 12 false,.o 19 12 18],.cond (.t 19) (sq [.r [.m 6 (.c (.w 0)),.m 7 .F],.ret]) (.skip)],.r [.m 8 (.c (.w 0))],sq [.r [.n 20 2,.m 21 (.k 0)],.blk 0 (.loop (sq [.r [.s 22 21 20],.cond (.t 22) (.skip) (.exit 0),.blk 1 (sq [.r [.n 23 21,.n 9 23],.r [.n 24 8,.n 25 0,.n 26 1,.n 27 9,.b 28 .add 26 27,.i 29 1 25 28,.d 30 29,.q 31 (.cvInt .u32 (.t 30)),.n 32 9,.q 33 (.bin .mul (.k 8) (.t 32)),.b 34 .shl 31 33,.b 35 .or 24 34,.n 8 35]]),.r [.a 36 21 1,.n 21 36]]))],.r [.n 37 8,.n 6 37,.m 7 .T],.ret]⟩
def qJG(hc:qc P f qde=true)(b:List Int)(hb:xX b)(hl:b.length<=2000000)(at':Nat)(ha:at'<=2000000):qa P f [.fz b.length (rB b),.j at',.j 4] (qqJ b at'):=by
 refine qa.mk hc (by simp[qt,clo,qZ]) ?_;have hn:¬(at':Int)<0:=by omega
 have hw0:IntKind.wrap .i64 ((b.length:Int)-4)=(b.length:Int)-4:=by grind[qm]
 unfold qqJ;simp only[qde,vI,simprocAttr]
 by_cases h:at'+4<=b.length
 .have h':¬(b.length:Int)-4<(at':Int):=by omega
  rw[if_pos h];simp +decide only[↓vS,vT,simprocAttr,hn,h',hw0];refine SL.loop (α:=Nat) (λj=>[(0,.fz b.length (rB b)),(1,.j at'),(8,.w (leM (qa0 b at' j))),(20,.j 4),(21,.j j)]) (λ_=>[]) (λj=>j<=4) (λj=>4-j) 0 [] ?_ ?_ ?_ rfl ?_ ?_
  .simp[vw,qZ,qa0,leM]
  .trivial
  .simp
  .omega
  rintro j hj G ih;simp only[vI,simprocAttr]
  by_cases hlt:j<4
  .have hlt':(j:Int)<4:=by omega
   have hjl:at'+j<b.length:=by omega
   obtain⟨c,hcx⟩:∃c,b[at'+j]?=some c:=⟨_,zzE hjl⟩;have hcb:=hb c (by grind);have hw:IntKind.wrap .i64 ((j:Int)+1)=((j+1:Nat):Int):=by rw[qm (by omega) (by omega)];omega
   have hw2:IntKind.wrap .i64 ((at':Int)+(j:Int))=((at'+j:Nat):Int):=by rw[qm (by omega) (by omega)];omega
   have hw3:IntKind.wrap .i64 (8*(j:Int))=8*(j:Int):=by grind[qm]
   have h8:(0:Int)<=8*(j:Int):=by omega
   have hbd:=qj8 (qos hb at' j);have hsl:(qa0 b at' j).length=j:=qmo (by omega);rw[hsl]at hbd;have hor:=qrV (q:=.u32) (by simp) (i:=j) (x:=leM (qa0 b at' j)) (c:=c) (by simp only[IntKind.bits];omega) hbd.1 hbd.2 hcb.1 hcb.2;have hnx:leM (qa0 b at' (j+1))=leM (qa0 b at' j)+256 ^ j*c:=by rw[qnt hcx,qn3,hsl]
   have ih2:=ih (j+1);rw[hnx]at ih2;simp +decide only[↓vS,vT,simprocAttr,hlt',hw2,hjl,zzU,ql8,hcx,Option.map_some,hw3,h8,hor,hw];refine ih2 (by omega) (by omega) _ _ (Wk.mk _ _ [] ?_ ?_ ?_ rfl)
   .simp[vw,qZ]
   .trivial
   .simp
  .have hlt':¬(j:Int)<4:=by omega
   obtain rfl:j=4:=by omega
   clear ih;simp +decide only[↓vS,vT,simprocAttr,hlt'];simp[vZ]
 .have h':(b.length:Int)-4<(at':Int):=by omega
  rw[if_neg h];simp +decide only[↓vS,vT,simprocAttr,hn,h',hw0];simp[vZ]
def qg5(a:Nat):IFn:=⟨[.tmp 4,.tmp 5],sq [.r [.m 4 (.c (.w 0)),.m 5 .F],.r [.n 6 0,.n 7 1,.l 8 a [.t 6,.t 7,.k 4],.x 9 8 0,.x 10 8 1,.n 4 9,.n 5 10],.ret]⟩
def qJC{g:Nat}(hc:qc P f (qg5 g)=true)(hg:∀(b:List Int),xX b->b.length<=2000000->∀at':Nat,at'<=2000000->qa P g [.fz b.length (rB b),.j at',.j 4] (qqJ b at'))(b:List Int)(hb:xX b)(hl:b.length<=2000000)(at':Nat)(ha:at'<=2000000):qa P f [.fz b.length (rB b),.j at'] (qqJ b at'):=by
 refine qa.mk hc (by simp[qt,clo,qZ]) ?_;have h:=hg b hb hl at' ha;unfold qqJ at h ⊢;simp only[qg5,vI,simprocAttr];simp only[↓vS,vT,simprocAttr];refine h.sc ?_;split
 .simp +decide only[↓vS,vT,simprocAttr];simp[vZ]
 .simp +decide only[↓vS,vT,simprocAttr];simp[vZ]
structure Ins where
 code:Int
 jt:Int
 jf:Int
 k:Int
def qC(i:Ins):List AV:=[.h i.code,.y i.jt,.y i.jf,.w i.k]
def jC(i:Ins):(qC i).length=4:=rfl
def qmA(b:List Int):Ins:=⟨leM (qa0 b 0 2),b.getD 2 0,b.getD 3 0,leM (qa0 b 4 4)⟩
def qqx(P:Program)(g:Nat):Prop:=∀(b:List Int),xX b->b.length<=2000000->∀at':Nat,at'<=2000000->qa P g [.fz b.length (rB b),.j at'] (qnZ b at')
def qCl(P:Program)(g:Nat):Prop:=∀(b:List Int),xX b->b.length<=2000000->∀at':Nat,at'<=2000000->qa P g [.fz b.length (rB b),.j at'] (qqJ b at')
def getD_some{b:List Int}{j:Nat}(h:j<b.length):b[j]?=some (b.getD j 0):=by
 rw[zzE h,List.getD_eq_getElem?_getD,zzE h];rfl
def qgL(a b:Nat):IFn:=⟨[.cell 2 4 true,.tmp 3],sq [.r [.q 2 (.alloc [.h 0,.y 0,.y 0,.w 0]),.m 3 (.k 0)],sq [.r [.n 8 0,.e 9 8,.w 10 .neq 9 8],.cond (.t 10) (sq [.r [.q 11 (.build [.h 0,.y 0,.y 0,.w 0] []),.u (.store 4 (.t 2) (.t 11)),.m 3 (.k 20)],.ret]) (.skip)],.r [.n 13 0,.l 14 a [.t 13,.k 0],.n 12 14,.x 15 12 0,.x 16 12 1,.n 4 15,.n 5 16],.r [.n 18 0,.l 19 b [.t 18,.k 4],.n 17 19,.x 20 17 0,.x 21 17 1,.n 6 20,.n 7 21],.reg true [.n 22 4,.n 23 0,.q 24 (.iAddrS 1 (.t 23) (.k 2)),.d 25 24,.n 26 0,.q 27 (.iAddrS 1 (.t 26) (.k 3)),.d 28 27,.n 29 6,.q 30 (.build [.h 0,.y 0,.y 0,.w 0] [(0,1,(.t 22)),(1,1,(.t 25)),(2,1,(.t 28)),(3,1,(.t 29))]),.u (.store 4 (.t 2) (.t 30)),.m 3 (.k 0)],.ret]⟩
def qBh{g1 g2:Nat}(hc:qc P f (qgL g1 g2)=true)(h1:qqx P g1)(h2:qCl P g2)(b:List Int)(hb:xX b)(hl:b.length=8):qa P f [.fz 8 (rB b)] (.tup [.agg (qC (qmA b)),.j 0]):=by
 have e1:=h1 b hb (by omega) 0 (by decide);have e2:=h2 b hb (by omega) 4 (by decide);rw[hl]at e1 e2;have g1':qnZ b 0 = .tup [.h (leM (qa0 b 0 2)),.b true]:=if_pos (by omega);have g2':qqJ b 4 = .tup [.w (leM (qa0 b 4 4)),.b true]:=if_pos (by omega);rw[g1']at e1;rw[g2']at e2;have b2:=getD_some (b:=b) (j:=2) (by omega);have b3:=getD_some (b:=b) (j:=3) (by omega);refine qa.mk hc (by simp[qt,clo,qZ]) ?_;simp only[qgL,vI,simprocAttr];simp +decide only[↓vS,vT,simprocAttr];refine e1.sc ?_;simp +decide only[↓vS,vT,simprocAttr];refine e2.sc ?_;simp +decide only[↓vS,vT,simprocAttr];refine zg ?_;simp +decide only[↓vS,vT,simprocAttr,ql8,b2,b3,Option.map_some,zzU];simp[vZ,qC,qmA]
def rP(p:List Ins):List AV:=p.flatMap qC
def qbS(p:List Ins):(rP p).length=p.length*4:=qV jC p
theorem qr(p:List Ins):qt (rP p)=true:=xT (λ_=>rfl)
def qEC(p q:List Ins):rP (p++q)=rP p++rP q:=List.flatMap_append
def qED(i:Ins):rP [i]=qC i:=by simp[rP]
def qkM(b:List Int)(n:Nat):List Ins:=(List.range n).map λi=>qmA (qa0 b (8*i) 8)
def qvV(b:List Int):List Ins:=qkM b (b.length / 8)
def qtg(b:List Int)(n:Nat):qkM b (n+1)=qkM b n++[qmA (qa0 b (8*n) 8)]:=by unfold qkM;rw[List.range_succ,List.map_append];rfl
def qpt(b:List Int)(n:Nat):(qkM b n).length=n:=by simp[qkM]
def qaQ(a:Nat):IFn:=⟨[.tmp 4],sq [.r [.q 2 (.box (.t 0)),.q 3 (.box (.t 1)),.m 4 (.c (.nilf))],sq [.r [.d 5 3,.w 6 .lss 5 1],.cond (.t 6) (.r [.q 7 (.no),.u (.no)]) (.skip)],.r [.q 8 (.mkF a [] [.t 2,.t 3]),.n 4 8],.ret]⟩
def qID{g:Nat}(hc:qc P f (qaQ g)=true)(b:List Int):qa P f [.fz b.length (rB b),.j 8] (.fn g [] [.pf [.fz b.length (rB b)] 0,.pf [.j 8] 0]):=by
 refine qa.mk hc (by simp[qt,clo,qZ]) ?_;simp only[qaQ,vI,simprocAttr];simp +decide only[↓vS,vT,simprocAttr];simp[vZ,vP,Tr.get_set,qJ (qZ b)]
def qak:IFn:=⟨[],sq [.r [.m 4 (.k 0)],.blk 0 (.loop (sq [sq [.r [.n 6 4,.d 7 1,.e 8 7,.s 9 6 8],.cond (.t 9) (.skip) (.exit 0)],.blk 1 (sq [.reg true [.d 13 2,.d 14 1,.n 15 4,.q 16 (.slcS 1 (.t 14) (some (.t 15)) none none),.e 17 16,.q 18 (.min (.t 13) (.t 17)),.n 5 18],.r [.n 19 0,.d 20 1,.n 21 4,.n 22 4,.n 23 5,.b 24 .add 22 23,.n 25 4,.n 26 5,.b 27 .add 25 26,.q 28 (.slcS 1 (.t 20) (some (.t 21)) (some (.t 24)) (some (.t 27))),⟨(some 29),.callV (.t 19) [.t 28],none⟩,.q 30 (.un .not (.t 29))],.cond (.t 30) (.ret) (.skip)]),.r [.n 10 4,.d 11 2,.b 12 .add 10 11,.n 4 12]]))]⟩
def qce(a b:Nat):ICode:=sq [.r [.d 29 4,.n 2 29,.m 3 (.k 0)],.ret]
def qh3(a b:Nat):IFn:=⟨[.tmp 2,.tmp 3],sq [.r [.m 2 .N,.m 3 (.k 0)],.blk 0 (sq [.r [.n 9 0,.e 10 9,.w 11 .rem 10 8,.w 12 .neq 11 0,.n 8 12],.cond (.t 8) (sq [.r [.m 2 .N,.m 3 (.k 20)],.ret]) (sq [.r [.n 14 0,.e 15 14,.w 16 .gtr 15 32768,.n 13 16],.cond (.t 13) (sq [.r [.m 2 .N,.m 3 (.k 3)],.ret]) (.skip)])]),.r [.q 4 (.alloc [.nils])],sq [.r [.n 17 0,.l 18 a [.t 17,.k 8]],.blk 1 (.rangeF 0 (.t 18) [19] (.r [.n 5 19]) (.blk 2 (.seq (.r [.n 21 5,.l 22 b [.t 21],.n 20 22,.x 23 20 0,.x 24 20 1,.q 6 (.alloc [.h 0,.y 0,.y 0,.w 0]),.u (.store 4 (.t 6) (.t 23)),.n 7 24]) (.r [.d 25 4,.v 26 4 6,.q 27 (.buildS 1 [.h 0,.y 0,.y 0,.w 0] [(0,4,(.t 26))]),.q 28 (.app 4 8 true (.t 25) (.t 27)),.u (.store 1 (.t 4) (.t 28))]))))],.cut (qce a b)]⟩
def qxz{h:Hp}{esz n a c:Nat}{q q2 q3:IntKind}{cs:List AV}{k:AV->Prop}(h1:a<c)(h2:c<=n)(h3:c*esz<=cs.length):slK esz (some (.i q (a:Int))) (some (.i q2 (c:Int))) (some (.i q3 (c:Int))) (.fz n cs) h k↔evA (.fz (c-a) ((cs.drop (a*esz)).take ((c-a)*esz))) k:=by
 have hne:Nat.beq c a=false:=by
  grind[Nat.eq_of_beq_eq_true]
 have e1:a*esz<=cs.length:=Nat.le_trans (Nat.mul_le_mul_right _ (by omega)) h3
 have e2:(c-a)*esz<=(cs.drop (a*esz)).length:=by
  rw[List.length_drop,Nat.sub_mul];omega
 have hac:a<=c:=by omega
 simp only[slK,qkV,qrk];show(ifK (c<=n) (ifK (c<=c) (ifK (a<=c) _)))↔_;simp only[ifK,h2,hac,zzL,true_and,Option.isSome_some,hne,Bool.true_and,Bool.false_eq_true,if_false];show(a*esz<=cs.length/\(c-a)*esz<=(cs.drop (a*esz)).length/\_)↔_;simp only[e1,e2,true_and];exact Iff.rfl
def qlI{sz fl:Nat}{tr:Tr Blk}{x:Blk}:Hp.push ⟨sz,fl,tr⟩ x=⟨sz+1,fl,tr.set sz x⟩:=rfl
def qd0{r:Loop}(h:r.state = .ready)(h2:r.pending=none):rdy r=r:=by cases r;simp_all [rdy]
def qjv(g:Nat)(b:List Int):List (Nat×AV):=[(4,.ptr 0 0),(18,.fn g [] [.pf [.fz b.length (rB b)] 0,.pf [.j 8] 0])]
def qwW(g1 g2 n:Nat)(p:List Ins)(hn:p.length=n){t':Tr AV}{h':Hp}(hw:Wk 0 t' h' (mkT [(4,.ptr 0 0)]) (mkH 0 [.v [.own 1 n],.cells 4 true true (rP p)])) :
  S P 0 (qce g1 g2) (xk [.tmp 2,.tmp 3] λv' h'=>Frz h' v' (.tup [.fz n (rP p),.j 0])) t' h':=by
 refine S.weak hw (qk ?_);simp only[qce,vI,simprocAttr];simp only[↓vS,vT,simprocAttr];simp[vZ,vP,Tr.get_set,qJ (qr p)];intro h0;have:p=[]:=by simp_all
 rw[this];rfl
def qC7{g1 g2 g3:Nat}(hc:qc P f (qh3 g1 g2)=true)(h1:∀b:List Int,qa P g1 [.fz b.length (rB b),.j 8] (.fn g3 [] [.pf [.fz b.length (rB b)] 0,.pf [.j 8] 0]))(hc3:qc P g3 qak=true)
  (h2:∀b:List Int,xX b->b.length=8->qa P g2 [.fz 8 (rB b)] (.tup [.agg (qC (qmA b)),.j 0])) (b:List Int) (hb:xX b) (hl:b.length<=1000000) :
  qa P f [.fz b.length (rB b)] (if b.length % 8≠0 then .tup [.fz 0 [],.j 20]else if 32768<b.length then .tup [.fz 0 [],.j 3]else .tup [.fz (b.length / 8) (rP (qvV b)),.j 0]):=by
 refine qa.mk hc (by simp[qt,clo,qZ]) ?_;have ht:(b.length:Int).tmod 8=((b.length % 8:Nat):Int):=by rw[Int.tmod_eq_emod_of_nonneg (by omega)];omega
 have h80:(8:Int)≠0:=by decide
 simp only[qh3,vI,simprocAttr]
 by_cases h8:b.length % 8≠0
 .have h8':¬((b.length % 8:Nat):Int)=0:=by omega
  rw[if_pos h8];simp +decide only[↓vS,vT,simprocAttr,↓qcq h80,ht,h8'];simp[vZ]
 rw[if_neg h8];have h8':((b.length % 8:Nat):Int)=0:=by omega
 by_cases hbig:32768<b.length
 .have hbig':(32768:Int)<b.length:=by omega
  rw[if_pos hbig];simp +decide only[↓vS,vT,simprocAttr,↓qcq h80,ht,h8',hbig'];simp[vZ]
 rw[if_neg hbig];have hbig':¬(32768:Int)<b.length:=by omega
 simp +decide only[↓vS,vT,simprocAttr,↓qcq h80,ht,h8',hbig'];refine(h1 b).sc ?_;simp +decide only[↓vS,vT,simprocAttr];refine S.weak (Wk.mk (qjv g3 b) [.v [.nils]] [0] ?_ ?_ ?_ rfl) ?_
 .simp[vw,qjv,qZ]
 .simp[vw]
 .simp
 refine S.rangeF (by simp[jy]) (by simp[qjv]) ⟨rfl,rfl⟩ ?_;refine qhT.2 ⟨.fn g3 [] [.pf [.fz b.length (rB b)] 0,.pf [.j 8] 0],by simp[qjv,mkT,Tr.get_set],?_⟩
 refine⟨qbC hc3,λr0 hr0 hp0 hlo=>SC.mk hc3 ?_⟩
 have hid:=qd0 hr0 hp0;show S P 2 _ _ (qbl [.yl 1,.pf [.fz b.length (rB b)] 0,.pf [.j 8] 0] 0 .leaf) ⟨2,0,(Tr.leaf.set 0 (.v [.nils])).set 1 (.map (zz r0 (qjv g3 b)))⟩;refine qk ?_;simp only[qak,vI,simprocAttr];simp only[↓vS,vT,simprocAttr];refine SL.loopn (α:=Nat) (λj=>[(0,.yl 1),(1,.pf [.fz b.length (rB b)] 0),(2,.pf [.j 8] 0),(4,.j ((8*j:Nat):Int))]) (λj=>[.v [.own 2 j],.map (zz r0 (qjv g3 b)),.cells 4 true true (rP (qkM b j))]) (λj=>j<=b.length / 8) (λj=>b.length / 8-j) 0 [0,1,99] ?_ ?_ ?_ rfl ?_ ?_ ?_ ?_
 .simp[vw,qZ]
 .simp[vw,qjv,qZ,qkM,rP,jO,jV,jg,zS]
  done
 .simp
 .simp
 .intro x hx;have:x=0\/x=1:=by omega
  rcases this with rfl|rfl<;>rfl
 .omega
 rintro j hj G ih;simp only[vI,simprocAttr]
 by_cases hlt:8*j<b.length
 .have hjl:8*j+8<=b.length:=by omega
  have hw:IntKind.wrap .i64 (((8*j:Nat):Int)+8)=((8*(j+1):Nat):Int):=by rw[qm (by omega) (by omega)];omega
  have hw2:IntKind.wrap .i64 (((8*j:Nat):Int)+8)=((8*j+8:Nat):Int):=by rw[qm (by omega) (by omega)];omega
  have e1:8*j<=b.length:=by omega
  have e2:8*j+(b.length-8*j)<=(rB b).length:=by rw[qc4];omega
  have e4:8*j<=8*j+8:=by omega
  have e5:8*j+8-8*j=8:=by omega
  have e6:8*j+8<=(rB b).length:=by rw[qc4];omega
  have e3:¬((b.length-8*j:Nat):Int)<8:=by omega
  have e7:8*j<8*j+8:=by omega
  have e8:(8*j+8)*1<=(rB b).length:=by rw[qc4];omega
  simp +decide only[↓vS,vT,simprocAttr,hlt];refine zg ?_;simp +decide only[↓vS,vT,simprocAttr,e1,e2,zzU,ql9,e3,hw2,↓qxz e7 hjl e8,e5];have hsl:(qa0 b (8*j) 8).length=8:=qmo hjl;have hdec:=h2 (qa0 b (8*j) 8) (qos hb _ _) hsl;have hnx:=qtg b j;have hil:=qpt b j;have ih2:=ih (j+1);rw[hnx]at ih2;change SY P 1 [.fz 8 (rB (qa0 b (8*j) 8))] _ _;generalize qkM b j=A at hil ih2 ⊢;generalize qmA (qa0 b (8*j) 8)=x at hdec ih2;have hlr:(rP A).length=j*4:=by rw[qbS,hil]
  have hr1:j+1<=qf:=by simp only[qf];omega
  have hr2:(j+1)*8<=qf:=by simp only[qf];omega
  have hap:rP A++qC x=rP (A++[x]):=by rw[qEC,qED]
  refine SY.mk (r:=r0) (ts:=qjv g3 b) (ps:=[19]) (by simp[Tr.get_set]) hr0 hlo (Nat.zero_le _) (by simp_all) rfl ?_;rw[show mkT (qjv g3 b)=(Tr.leaf.set 18 (.fn g3 [] [.pf [.fz b.length (rB b)] 0,.pf [.j 8] 0])).set 4 (.ptr 0 0)from rfl]
  refine qk ?_;simp only[qjw,vI,simprocAttr];simp only[↓vS,vT,simprocAttr];refine⟨qjv g3 b,by simp[Tr.get_set],?_⟩
  refine qk ?_;simp only[qx,vI,simprocAttr];simp only[↓vS,vT,simprocAttr];refine hdec.sc ?_;simp only[qC]at hap;simp +decide only[↓vS,vT,simprocAttr,qC,hr1,hr2,hlr,hap];refine⟨bsy r0,qjv g3 b,by simp[Tr.get_set],?_⟩
  rw[qct,hid];simp only[qx];simp +decide only[↓vS,vT,simprocAttr,hw];refine ih2 (by omega) (by omega) _ _ (Wk.mkn _ _ [0,1,5] ?_ ?_ ?_ rfl ?_ ?_)
  .simp[vw,qZ]
  .simp[vw,qjv,qZ,jO,jV,jg,zS,qe,qr]
  .simp
  .simp
  .intro x hx;have:x=0\/x=1:=by omega
   rcases this with rfl|rfl<;>rfl
 .clear ih;obtain rfl:j=b.length / 8:=by omega
  simp +decide only[↓vS,vT,simprocAttr,hlt];refine⟨r0,qjv g3 b,by simp[Tr.get_set],by rw[hr0];decide,?_⟩
  rw[hp0];simp only[qx];simp only[↓vS,vT,simprocAttr];refine qwW g1 g2 (b.length / 8) (qvV b) (qpt b _) (Wk.mk _ _ [0,2] ?_ ?_ ?_ rfl)
  .simp[vw,qjv,mkT]
  .simp[vw,qe,qr,qvV]
  .simp
def qrc(x:BitVec 16):IntKind.wrap .u16 (x.toNat:Int)=(x.toNat:Int):=by
 have:=x.isLt;show((x.toNat:Int)) % 65536=_;omega
def qhB(x:BitVec 16):BitVec.ofInt 16 (x.toNat:Int)=x:=by simp
def qIZ(x y:BitVec 16):orI .u16 (x.toNat:Int) (y.toNat:Int)=((x ||| y).toNat:Int):=by
 show IntKind.wrap .u16 ((BitVec.ofInt 16 (x.toNat:Int) ||| BitVec.ofInt 16 (y.toNat:Int)).toNat:Int)=_
 rw[qhB,qhB,qrc]
def qAV(x y:BitVec 16):qcO .u16 (x.toNat:Int) (y.toNat:Int)=((x &&& y).toNat:Int):=by
 show IntKind.wrap .u16 ((BitVec.ofInt 16 (x.toNat:Int) &&& BitVec.ofInt 16 (y.toNat:Int)).toNat:Int)=_;rw[qhB,qhB,qrc]
def qA8(x y:BitVec 16):qeH .u16 (x.toNat:Int) (y.toNat:Int)=((x &&& ~~~ y).toNat:Int):=by
 show IntKind.wrap .u16 ((BitVec.ofInt 16 (x.toNat:Int) &&& ~~~ (BitVec.ofInt 16 (y.toNat:Int))).toNat:Int)=_;rw[qhB,qhB,qrc]
def cell(k:Int):BitVec 16:=1#16 <<< k.toNat
def qxy{k:Int}(h0:0<=k)(h:k<16):qqa .u16 1 k=((cell k).toNat:Int):=by
 have key:∀n:Fin 16,qqa .u16 1 (n.val:Int)=((cell (n.val:Int)).toNat:Int):=by decide
 have:=key ⟨k.toNat,by omega⟩
 grind
structure InsOk (i:Ins):Prop where
 c0:0<=i.code
 c1:i.code<=65535
 t0:0<=i.jt
 t1:i.jt<=255
 f0:0<=i.jf
 f1:i.jf<=255
 k0:0<=i.k
 k1:i.k<=4294967295
def cOf(P:Program)(g:Nat):Prop:=∀n,qa P g [.h n] (.y (qn n))
def wrM(i:Ins):BitVec 16:=if qn i.code=2/\i.k<16 then cell i.k else 0#16
def rdM(i:Ins):BitVec 16:=if(i.code=96\/i.code=97)/\i.k<16 then cell i.k else 0#16
def qf6(a:Nat):IFn:=⟨[.tmp 2],sq [.r [.q 1 (.box (.t 0)),.m 2 (.c (.h 0))],sq [.r [.f 3 0 1,.d 4 3,.l 5 a [.t 4],.q 6 (.bin .neq (.t 5) (.c (.y 2))),.n 7 6,.h 8 3 1 7 false,.j 9 8 7 false,.g 10 (.bin .geq (.t 9) (.c (.w 16))) 7 false,.o 11 7 10],.cond (.t 11) (sq [.r [.m 2 (.c (.h 0))],.ret]) (.skip)],.r [.f 12 3 1,.d 13 12,.q 14 (.bin .shl (.c (.h 1)) (.t 13)),.n 2 14],.ret]⟩
def qBJ{g:Nat}(hc:qc P f (qf6 g)=true)(hg:cOf P g)(i:Ins)(hi:InsOk i):qa P f [.agg (qC i)] (.h ((wrM i).toNat:Int)):=by
 refine qa.mk hc (by rfl) ?_;have h0:=hi.k0;unfold wrM;simp only[qf6,qC,vI,simprocAttr];simp +decide only[↓vS,vT,simprocAttr];refine(hg _).sc ?_
 by_cases h2:qn i.code=2
 .by_cases hk:i.k<16
  .have hk':¬16<=i.k:=by omega
   rw[if_pos ⟨h2,hk⟩];simp +decide only[↓vS,vT,simprocAttr,h2,hk,hk',h0,qxy h0 hk];simp[vZ]
  .have hk':16<=i.k:=by omega
   rw[if_neg (λh=>hk h.2)]
   simp +decide only[↓vS,vT,simprocAttr,h2,hk,hk'];simp[vZ]
 .rw[if_neg (λh=>h2 h.1)]
  simp +decide only[↓vS,vT,simprocAttr,h2];simp[vZ]
def qgH:IFn:=⟨[.tmp 2],sq [.r [.q 1 (.box (.t 0)),.m 2 (.c (.h 0))],sq [.r [.f 3 0 1,.d 4 3,.q 5 (.bin .neq (.t 4) (.c (.h 96))),.n 6 5,.h 7 0 1 6 true,.j 8 7 6 true,.g 9 (.bin .neq (.t 8) (.c (.h 97))) 6 true,.p 10 6 9,.n 11 10,.h 12 3 1 11 false,.j 13 12 11 false,.g 14 (.bin .geq (.t 13) (.c (.w 16))) 11 false,.o 15 11 14],.cond (.t 15) (sq [.r [.m 2 (.c (.h 0))],.ret]) (.skip)],.r [.f 16 3 1,.d 17 16,.q 18 (.bin .shl (.c (.h 1)) (.t 17)),.n 2 18],.ret]⟩
def qEH(hc:qc P f qgH=true)(i:Ins)(hi:InsOk i):qa P f [.agg (qC i)] (.h ((rdM i).toNat:Int)):=by
 refine qa.mk hc (by rfl) ?_;have h0:=hi.k0;unfold rdM;simp only[qgH,qC,vI,simprocAttr]
 by_cases hk:i.k<16
 .have hk':¬16<=i.k:=by omega
  by_cases h1:i.code=96
  .rw[if_pos ⟨.inl h1,hk⟩];simp +decide only[↓vS,vT,simprocAttr,h1,hk',h0,qxy h0 hk];simp[vZ]
  .by_cases h2:i.code=97
   .rw[if_pos ⟨.inr h2,hk⟩];simp +decide only[↓vS,vT,simprocAttr,h2,hk',h0,qxy h0 hk];simp[vZ]
   .rw[if_neg (by omega)];simp +decide only[↓vS,vT,simprocAttr,h1,h2];simp[vZ]
 .have hk':16<=i.k:=by omega
  rw[if_neg (λh=>hk h.2)]
  by_cases h1:i.code=96
  .simp +decide only[↓vS,vT,simprocAttr,h1,hk'];simp[vZ]
  .by_cases h2:i.code=97
   .simp +decide only[↓vS,vT,simprocAttr,h2,hk'];simp[vZ]
   .simp +decide only[↓vS,vT,simprocAttr,h1,h2];simp[vZ]
def rW(s:List (BitVec 16)):List AV:=s.map λx=>.h (x.toNat:Int)
def rTt(r:List Bool):List AV:=r.map .b
def qEF{s:List (BitVec 16)}:(rW s).length=s.length:=by simp[rW]
def qAl{s:List Bool}:(rTt s).length=s.length:=by simp[rTt]
def zK{s:List (BitVec 16)}:qt (rW s)=true:=qbB λ_=>rfl
def zq{s:List Bool}:qt (rTt s)=true:=qbB λ_=>rfl
def qok{s:List (BitVec 16)}{j:Nat}:(rW s)[j]?=(s[j]?).map λx=>.h (x.toNat:Int):=by simp[rW]
def qld{s:List Bool}{j:Nat}:(rTt s)[j]?=(s[j]?).map .b:=by simp[rTt]
def qrM{α:Type}{F:α->AV}{L:List α}{j:Nat}(h:j<L.length)(x:α):(L.map F).take j++(F x::(L.map F).drop (j+1))=(L.set j x).map F:=by
 rw[<- List.map_take,<- List.map_drop,<- List.map_cons,<- List.map_append,List.set_eq_take_append_cons_drop,if_pos h]
def qEG{s:List (BitVec 16)}{j:Nat}(h:j<s.length)(x:BitVec 16):(rW s).take j++(.h (x.toNat:Int)::(rW s).drop (j+1))=rW (s.set j x):=qrM h x
def qAm{s:List Bool}{j:Nat}(h:j<s.length)(x:Bool):(rTt s).take j++(.b x::(rTt s).drop (j+1))=rTt (s.set j x):=qrM h x
def qcy(s:List (BitVec 16))(r:List Bool)(j:Nat)(x:BitVec 16):List (BitVec 16):=s.set j (if r.getD j false=true then s.getD j 0 &&& x else x)
def qgw(nv:List AV)(s:List (BitVec 16))(r:List Bool):List Blk:=[.v (rW s),.v (rTt r),.v [.sl 0 0 s.length s.length false],.v [.sl 1 0 s.length s.length false]]
def qf5:IFn:=⟨[],sq [sq [.r [.d 6 2,.n 7 0,.i 8 1 6 7,.d 9 8,.q 10 (.un .not (.t 9))],.cond (.t 10) (.r [.d 11 3,.n 12 0,.i 13 1 11 12,.u (.store 1 (.t 13) (.c (.h 65535)))]) (.skip)],.r [.d 14 2,.n 15 0,.i 16 1 14 15,.u (.store 1 (.t 16) .T)],.r [.d 17 3,.n 18 0,.i 19 1 17 18,.d 20 19,.n 21 1,.b 22 .and 20 21,.i 23 1 17 18,.u (.store 1 (.t 23) (.t 22))]]⟩
def qGR(hc:qc P f qf5=true)(s:List (BitVec 16))(r:List Bool)(hr:r.length=s.length)(j:Nat)(hj:j<s.length)(x:BitVec 16) :
  Upd P f [.j j,.h (x.toNat:Int),.ptr 3 0,.ptr 2 0] (qgw [] s r) (.tup []) (qgw [] (qcy s r j x) (r.set j true)):=by
 refine Upd.mk hc (by simp[jl,bnd,qgw]) (by simp[qgw]) ?_;have hjr:j<r.length:=by omega
 obtain⟨y,hy⟩:∃y,s[j]?=some y:=⟨_,zzE hj⟩;obtain⟨b,hb⟩:∃b,r[j]?=some b:=⟨_,zzE hjr⟩;have hl1:j+1<=(rTt r).length:=by rw[qAl];omega
 have hl2:∀s':List (BitVec 16),s'.length=s.length->j+1<=(rW s').length:=λs' h=>by rw[qEF];omega
 have hb1:∀y:Bool,List.take j (rTt r)++(AV.b y::List.drop (j+1) (rTt r))=rTt (r.set j y):=λy=>qAm hjr y
 have hb2:∀(s':List (BitVec 16)) (y:BitVec 16),s'.length=s.length->List.take j (rW s')++(AV.h (y.toNat:Int)::List.drop (j+1) (rW s'))=rW (s'.set j y):=λs' y h=>qEG (by omega) y
 have hc0:=hl2 s rfl;have hc1:=hb2 s (y &&& x) rfl;have hd0:=hl2 (s.set j 65535#16) (by simp);have hd1:=hb2 s 65535#16 rfl;have hd2:=hb2 (s.set j 65535#16) x (by simp);rw[show(((65535#16).toNat:Nat):Int)=65535 from rfl]at hd1
 have hy2:(s.set j 65535#16)[j]?=some 65535#16:=by rw[List.getElem?_set_self (by omega)]
 have hand:qcO .u16 65535 (x.toNat:Int)=(x.toNat:Int):=by
  rw[show(65535:Int)=((65535#16).toNat:Int)from rfl,qAV,show(65535#16:BitVec 16)=BitVec.allOnes 16 from rfl,BitVec.allOnes_and]
 have ht3:(65535#16).toNat=65535:=rfl;simp only[qf5,qgw,qcy,List.getD_eq_getElem?_getD,hy,hb,Option.getD_some,vI,simprocAttr];cases b with
 | true =>
  simp +decide only[↓vS,vT,simprocAttr,zzU,qok,qld,hy,hb,Option.map_some,hl1,hb1,hc0,hc1,qAV,hj];intro _;refine⟨[0,1,2,3],?_⟩;simp[vw,qe,zK,zq];decide
 | false =>
  simp +decide only[↓vS,vT,simprocAttr,zzU,qok,qld,hy,hb,Option.map_some,hl1,hb1,hc0,hd0,hd1,hy2,hand,hd2,hj];intro _;refine⟨[0,1,2,3],?_⟩;simp[vw,qe,zK,zq];decide
def rNt(l:List Nat):List AV:=l.map λn:Nat=>.j (n:Int)
def qlc{l:List Nat}:(rNt l).length=l.length:=by simp[rNt]
def qX{l:List Nat}:qt (rNt l)=true:=qbB λ_=>rfl
def qr6{l:List Nat}{j:Nat}:(rNt l)[j]?=(l[j]?).map λn:Nat=>.j (n:Int):=by simp[rNt]
def qr5{l m:List Nat}:rNt l++rNt m=rNt (l++m):=by simp[rNt]
def qkm(i:Ins)(x:BitVec 16)(at':Nat)(l:List Nat):List Nat:=if rdM i &&& ~~~ x=0#16 then l else l++[at']
def qei(a:Nat):IFn:=⟨[],sq [.r [.d 6 2,.n 7 0,.i 8 4 6 7,.v 9 4 8,.l 10 a [.t 9],.n 11 1,.b 12 .andNot 10 11,.q 13 (.bin .neq (.t 12) (.c (.h 0)))],.cond (.t 13) (.r [.d 14 3,.n 15 0,.q 16 (.buildS 1 [.j 0] [(0,1,(.t 15))]),.q 17 (.app 1 8 true (.t 14) (.t 16)),.u (.store 1 (.t 3) (.t 17))]) (.skip)]⟩
def qGa{g:Nat}(hc:qc P f (qei g)=true)(hg:∀i,InsOk i->qa P g [.agg (qC i)] (.h ((rdM i).toNat:Int)))(p:List Ins)(hp:p.length<=4096)(l:List Nat)(hl:l.length<=4096)(j:Nat)(i:Ins)(hj:p[j]?=some i)(hi:InsOk i)(x:BitVec 16) :
  Upd P f [.j j,.h (x.toNat:Int),.ptr 0 0,.ptr 1 0] [.v [.fz p.length (rP p)],.v [.own 2 l.length],.cells 1 true true (rNt l)] (.tup [])
   [.v [.fz p.length (rP p)],.v [.own 3 (qkm i x j l).length],.dead,.cells 1 true true (rNt (qkm i x j l))]:=by
 refine Upd.mkd hc (by simp[jl,bnd,qv (qr p)]) (by simp) ?_
 have hjl:j<p.length:=by grind
 have hel:=qG (f:=qC) (m:=4) jC hj;rw[show p.flatMap qC=rP p from rfl]at hel
 have h4:j*4+4<=(rP p).length:=by rw[qbS];omega
 have hr1:l.length+1<=qf:=by simp only[qf];omega
 have hr2:(l.length+1)*8<=qf:=by simp only[qf];omega
 have hap:rNt l++[.j (j:Int)]=rNt (l++[j]):=by rw[<- qr5];rfl
 have hll:(rNt l).length=l.length:=qlc;simp only[qei,vI,simprocAttr];simp +decide only[↓vS,vT,simprocAttr,hjl,hel,h4];refine(hg i hi).sc ?_;unfold qkm
 by_cases h0:rdM i &&& ~~~ x=0#16
 .have h0':(((rdM i &&& ~~~ x).toNat:Nat):Int)=0:=by rw[h0];rfl
  rw[if_pos h0];simp +decide only[↓vS,vT,simprocAttr,qA8,h0'];intro _;refine⟨[0,1,2,2],?_⟩;simp[vw,qe,qr,qX,jy,rl]
  grind
 .have h0':¬(((rdM i &&& ~~~ x).toNat:Nat):Int)=0:=λh=>h0 (by
   have:(rdM i &&& ~~~ x).toNat=0:=by omega
   exact BitVec.eq_of_toNat_eq this)
  rw[if_neg h0];simp +decide only[↓vS,vT,simprocAttr,qA8,h0',zzU,hr1,hr2,hll,hap];intro _;refine⟨[0,1,2,4],?_⟩;simp[vw,qe,qr,qX,jy,rl]
  grind
def qK:IFn:=⟨[.tmp 2],sq [.r [.m 2 .N],sq [.r [.n 6 0,.e 7 6,.w 8 .lss 7 2],.cond (.t 8) (sq [.r [.n 9 0,.n 2 9],.ret]) (.skip)],sq [.r [.m 3 (.k 1)],.blk 0 (.loop (sq [sq [.r [.n 10 3,.n 11 0,.e 12 11,.s 13 10 12],.cond (.t 13) (.skip) (.exit 0)],.blk 1 (sq [.reg true [.n 16 0,.n 17 3,.i 18 1 16 17,.d 19 18,.n 20 0,.n 21 3,.w 22 .sub 21 1,.i 23 1 20 22,.d 24 23,.b 25 .eql 19 24],.cond (.t 25) (sq [.r [.n 26 0,.n 27 3,.q 28 (.slcS 1 (.t 26) (some (.t 27)) none none),.n 4 28],sq [.r [.m 5 (.k 1)],.blk 2 (.loop (sq [sq [.r [.n 29 5,.n 30 4,.e 31 30,.s 32 29 31],.cond (.t 32) (.skip) (.exit 2)],.blk 3 (sq [.reg true [.n 35 4,.n 36 5,.i 37 1 35 36,.d 38 37,.n 39 4,.n 40 5,.w 41 .sub 40 1,.i 42 1 39 41,.d 43 42,.b 44 .neq 38 43],.cond (.t 44) (sq [.r [.n 45 0,.n 46 3,.n 47 4,.n 48 5,.i 49 1 47 48,.d 50 49,.i 51 1 45 46,.u (.store 1 (.t 51) (.t 50))],.r [.n 52 3,.a 53 52 1,.n 3 53]]) (.skip)]),.r [.n 33 5,.a 34 33 1,.n 5 34]]))],.r [.n 54 0,.n 55 3,.q 56 (.slcS 1 (.t 54) (some (.t 55)) none none),.u (.clear [.j 0] (.t 56))],.r [.n 57 0,.n 58 3,.q 59 (.slcS 1 (.t 57) none (some (.t 58)) none),.n 2 59],.ret]) (.skip)]),.r [.n 14 3,.a 15 14 1,.n 3 15]]))],.r [.n 60 0,.n 2 60],.ret]⟩
def qu4(hc:qc P f qK=true):qa P f [.nils] .nils:=by
 refine qa.mk hc rfl ?_;simp only[qK,vI,simprocAttr];simp +decide only[↓vS,vT,simprocAttr];simp[vZ]
def qo5(hc:qc P f qK=true)(x:Int):Upd P f [.sl 0 0 1 1 false] [.v [.j x]] (.sl 0 0 1 1 false) [.v [.j x]]:=by
 refine Upd.mk hc (by simp[jl,bnd]) (by simp) ?_;simp only[qK,vI,simprocAttr];simp +decide only[↓vS,vT,simprocAttr];intro _;refine⟨[0],?_⟩;simp[vw,qe]
def qo6(hc:qc P f qK=true)(x y:Int):Upd P f [.sl 0 0 2 2 false] [.v [.j x,.j y]] (.sl 0 0 (if x=y then 1 else 2) 2 false) [.v [.j x,.j (if x=y then 0 else y)]]:=by
 refine Upd.mk hc (by simp[jl,bnd]) (by simp) ?_;simp only[qK,vI,simprocAttr];simp +decide only[↓vS,vT,simprocAttr];refine SL.loopn (α:=Nat) (λk=>[(0,.sl 0 0 2 2 false),(3,.j (k:Int))]) (λ_=>[.v [.j x,.j y]]) (λk=>k=1\/k=2/\x≠y) (λk=>2-k) 1 [0] ?_ ?_ ?_ rfl ?_ ?_ ?_ ?_
 .simp[vw]
 .simp[vw]
 .simp
 .simp
 .intro b hb;obtain rfl:b=0:=by omega
  rfl
 .omega
 rintro k hk G ih;have hw0:IntKind.wrap .i64 0=0:=rfl;have hw1:IntKind.wrap .i64 1=1:=rfl;have hw2:IntKind.wrap .i64 2=2:=rfl;simp only[vI,simprocAttr];rcases hk with rfl|⟨rfl,hne⟩
 .by_cases h:x=y
  .subst h;simp +decide only[↓vS,vT,simprocAttr];refine zg ?_;simp +decide only[↓vS,vT,simprocAttr,hw0];refine SL.loopn (α:=Unit) (λ_=>[(0,.sl 0 0 2 2 false),(3,.j 1),(4,.sl 0 1 1 1 false),(5,.j 1)]) (λ_=>[.v [.j x,.j x]]) (λ_=>True) (λ_=>0) () [0] ?_ ?_ ?_ rfl ?_ ?_ ?_ ?_
   .simp[vw]
   .simp[vw]
   .simp
   .simp
   .intro b hb;obtain rfl:b=0:=by omega
    rfl
   .trivial
   rintro _ _ G2 _;simp only[vI,simprocAttr];simp +decide only[↓vS,vT,simprocAttr];intro _;refine⟨[0],?_⟩;simp[vw,qe]
  .have h':¬y=x:=λe=>h e.symm
   simp +decide only[↓vS,vT,simprocAttr];refine zg ?_;simp +decide only[↓vS,vT,simprocAttr,h',hw0,hw1,hw2];refine ih 2 (.inr ⟨rfl,h⟩) (by decide) _ _ (Wk.mkn _ _ [0] ?_ ?_ ?_ rfl ?_ ?_)
   .simp[vw]
   .simp[vw]
   .simp
   .simp
   .intro b hb;obtain rfl:b=0:=by omega
    rfl
 .simp +decide only[↓vS,vT,simprocAttr,hne,if_false];intro _;refine⟨[0],?_⟩;simp[vw,qe,hne]
def loM(i:Ins):Int:=if i.jf<i.jt then i.jf else i.jt
def hiM(i:Ins):Int:=if i.jt<i.jf then i.jf else i.jt
def qcL(i:Ins)(at':Nat):List Nat :=
 if qn i.code=0\/qn i.code=5 then []
 else if qn i.code=4 then(if i.code=5 then [at'+1+i.k.toNat]else if loM i=hiM i then [at'+1+(loM i).toNat]else [at'+1+(loM i).toNat,at'+1+(hiM i).toNat])
 else [at'+1]
def goM(n:Nat)(x:BitVec 16):List Nat->List (BitVec 16)×List Bool->List (BitVec 16)×List Bool
 | [],st=>st
 | m::L,st=>if m<n then goM n x L (qcy st.1 st.2 m x,st.2.set m true)else st
def qvI{n:Nat}{x:BitVec 16}{m:Nat}{L:List Nat}{st:List (BitVec 16)×List Bool}:goM n x (m::L) st=if m<n then goM n x L (qcy st.1 st.2 m x,st.2.set m true)else st:=rfl
theorem qrA{n:Nat}{x:BitVec 16}:∀(L:List Nat) (st:List (BitVec 16)×List Bool),(goM n x L st).1.length=st.1.length/\(goM n x L st).2.length=st.2.length
 | [],_=>⟨rfl,rfl⟩
 | m::L,st=>by
  unfold goM;split
  .have:=qrA (n:=n) (x:=x) L (qcy st.1 st.2 m x,st.2.set m true);simpa[qcy]using this
  omega
def wkB(p:List Ins)(gc:Nat)(l:List Nat)(st:List (BitVec 16)×List Bool):List Blk:=[.v [.fz p.length (rP p)],.v [.own 2 l.length],.cells 1 true true (rNt l),.v (rW st.1),.v (rTt st.2),.v [.sl 3 0 st.1.length st.1.length false],.v [.sl 4 0 st.1.length st.1.length false],.v [.fn gc [] [.ptr 6 0,.ptr 5 0]]]
def wI(p:List Ins)(gc:Nat)(l:List Nat)(st:List (BitVec 16)×List Bool)(j:Nat)(i:Ins):List Blk:=wkB p gc l st++[.v [.j (j:Int)],.v (qC i)]
def qe3(gv:Nat):AV:=.fn gv [] [.ptr 0 0,.ptr 1 0]
def qjS(gw:Nat)(p:List Ins)(j:Nat)(i:Ins):AV:=.fn gw [] [.pf (qC i) 0,.pf [.j (j:Int)] 0,.pf [.j (p.length:Int)] 0]
def wT(gv:Nat)(p:List Ins)(j:Nat):List (Nat×AV):=[(0,.fz p.length (rP p)),(1,qe3 gv),(4,.ptr 5 0),(5,.ptr 6 0),(6,.ptr 7 0),(20,.fz p.length (rP p)),(21,.j (p.length:Int)),(22,.j (j:Int))]
def wTr(gv gw:Nat)(p:List Ins)(j:Nat)(i:Ins):List (Nat×AV):=wT gv p j++[(7,.ptr 8 0),(8,.ptr 9 0),(47,qjS gw p j i)]
def xl(a b:Nat):ICode:=.blk 1 (.loop (sq [.r [.s 52 51 50],.cond (.t 52) (.skip) (.exit 1),.blk 2 (sq [.r [.i 53 1 49 51,.d 54 53,.n 7 54],.r [.n 55 7,.d 56 3,.b 57 .geq 55 56,.n 58 57,.z 59 0 58,.z 60 7 58,⟨(some 61),.callV (.t 59) [.t 60],(some (58,false))⟩,.g 62 (.un .not (.t 61)) 58 false,.o 63 58 62],.cond (.t 63) (.ret) (.skip)]),.r [.a 64 51 1,.n 51 64]]))
def wg(a b:Nat):IFn:=⟨[],sq [.r [.m 5 .N],sq [.r [.f 8 0 1,.d 9 8,.l 10 a [.t 9]],.blk 0 (sq [sq [.r [.q 15 (.bin .eql (.t 10) (.c (.y 0))),.n 14 15],.cond (.t 14) (.skip) (.r [.q 16 (.bin .eql (.t 10) (.c (.y 5))),.n 14 16])],.cond (.t 14) (.skip) (sq [.r [.q 18 (.bin .eql (.t 10) (.c (.y 4))),.n 17 18],.cond (.t 17) (sq [.r [.d 19 2,.a 20 19 1,.f 21 1 1,.d 22 21,.f 23 2 1,.d 24 23,.q 25 (.min (.t 22) (.t 24)),.q 26 (.cvInt .i64 (.t 25)),.b 27 .add 20 26,.d 28 2,.a 29 28 1,.f 30 1 1,.d 31 30,.f 32 2 1,.d 33 32,.q 34 (.max (.t 31) (.t 33)),.q 35 (.cvInt .i64 (.t 34)),.b 36 .add 29 35,.q 37 (.buildS 2 [.j 0] [(0,1,(.t 27)),(1,1,(.t 36))]),.n 5 37],.r [.f 38 0 1,.d 39 38,.q 40 (.bin .eql (.t 39) (.c (.h 5)))],.cond (.t 40) (.r [.d 41 2,.a 42 41 1,.f 43 3 1,.d 44 43,.q 45 (.cvInt .i64 (.t 44)),.b 46 .add 42 45,.q 47 (.buildS 1 [.j 0] [(0,1,(.t 46))]),.n 5 47]) (.skip)]) (.r [.d 11 2,.a 12 11 1,.q 13 (.buildS 1 [.j 0] [(0,1,(.t 12))]),.n 5 13])])])],.r [.n 48 5,.l 49 b [.t 48],.e 50 49,.m 51 (.k 0)],.cut (xl a b)]⟩
def qbH(a b c:Nat):ICode:=.r [.a 59 22 1,.n 22 59]
def qbG(a b c:Nat):ICode:=sq [.r [.v 43 4 8,.d 44 7,.n 45 0,.e 46 45,.l 47 b [.t 43,.t 44,.t 46]],.blk 2 (.rangeF 0 (.t 47) [48] (.r [.n 9 48]) (.blk 3 (.reg true [.d 49 6,.n 50 9,.d 51 4,.d 52 7,.i 53 1 51 52,.d 54 53,.v 55 4 8,.l 56 c [.t 55],.b 57 .or 54 56,⟨(some 58),.callVW (.t 49) [.t 50,.t 57],none⟩])))]
def qbF(a b c:Nat):ICode:=sq [sq [.r [.d 31 5,.d 32 7,.i 33 1 31 32,.d 34 33,.q 35 (.un .not (.t 34))],.cond (.t 35) (.exit 1) (.skip)],.reg true [.n 36 1,.d 37 7,.d 38 4,.d 39 7,.i 40 1 38 39,.d 41 40,⟨(some 42),.callVW (.t 36) [.t 37,.t 41],none⟩],.cut (qbG a b c)]
def qhX(a b c:Nat):IFn:=⟨[],sq [sq [.r [.n 10 0,.e 11 10,.w 12 .gtr 11 4096],.cond (.t 12) (.ret) (.skip)],.reg true [.n 13 0,.e 14 13,.q 15 (.mkS 1 2 [.h 0] (.t 14) (.t 14)),.n 16 0,.e 17 16,.q 18 (.mkS 1 1 [.b false] (.t 17) (.t 17)),.q 4 (.alloc [.nils]),.q 5 (.alloc [.nils]),.u (.storeD 1 (.t 4) (.t 15) []),.u (.store 1 (.t 5) (.t 18))],.r [.q 19 (.mkF a [] [.t 5,.t 4]),.q 6 (.alloc [.nilf]),.u (.store 1 (.t 6) (.t 19))],.r [.n 20 0,.e 21 20,.m 22 (.k 0)],.blk 0 (.loop (sq [.r [.s 23 22 21],.cond (.t 23) (.skip) (.exit 0),.blk 1 (sq [.r [.n 24 22,.i 25 4 20 22,.v 26 4 25,.q 7 (.alloc [.j 0]),.q 8 (.alloc [.h 0,.y 0,.y 0,.w 0]),.u (.store 1 (.t 7) (.t 24)),.u (.store 4 (.t 8) (.t 26))],sq [.r [.d 27 7,.w 28 .eql 27 0],.cond (.t 28) (.r [.d 29 6,⟨(some 30),.callVW (.t 29) [.k 0,(.c (.h 0))],none⟩]) (.skip)],.cut (qbF a b c)]),.cut (qbH a b c)]))]⟩
def aW:ICode:=.r [.n 9 48]
def bW(fw:Nat):ICode:=.blk 3 (.reg true [.d 49 6,.n 50 9,.d 51 4,.d 52 7,.i 53 1 51 52,.d 54 53,.v 55 4 8,.l 56 fw [.t 55],.b 57 .or 54 56,⟨(some 58),.callVW (.t 49) [.t 50,.t 57],none⟩])
structure RecOk (P:Program) (r0:Loop) (ps:List Nat) (ai bi:ICode):Prop where
 st:r0.state = .ready
 pd:r0.pending=none
 ok:LoopOk P r0 ps ai bi
def qu0{i:Ins}:List.take 4 (List.drop 0 (qC i))=qC i:=rfl
def qA7{i:Ins}:4<=(qC i).length:=zzL 4
def qro(P:Program)(gc:Nat):Prop:=∀(s:List (BitVec 16)) (r:List Bool),r.length=s.length->∀j:Nat,j<s.length->∀x:BitVec 16,
  Upd P gc [.j j,.h (x.toNat:Int),.ptr 3 0,.ptr 2 0] (qgw [] s r) (.tup []) (qgw [] (qcy s r j x) (r.set j true))
def cWr(P:Program)(g:Nat):Prop:=∀i,InsOk i->qa P g [.agg (qC i)] (.h ((wrM i).toNat:Int))
def qlh{g1 g2 g3 gc gv gw:Nat}(hcome:qro P gc)(hwr:cWr P g3)(p:List Ins)(hp:p.length<=4096)(i:Ins)(hi:InsOk i)(j:Nat)(l:List Nat)
  (r0:Loop) (hr:RecOk P r0 [48] aW (bW g3)) (L:List Nat) (ex:List AV) (hex:qt ex=true) (cp:Nat) (hcp:L.length<=cp) (hL:∀n ∈ L,j<n) (hL4:L.length<=4)
  (x:BitVec 16) (s0:List (BitVec 16)×List Bool) (hs1:s0.1.length=p.length) (hs2:s0.2.length=p.length) (hx:s0.1[j]?=some x) (Qf:AV->Hp->Prop)
  (hQ:Qf (.tup []) (mkH 0 (wI p gc l (goM p.length (x ||| wrM i) L s0) j i++[.map (zz r0 (wTr gv gw p j i)),.v (rNt L++ex)])))
  {t':Tr AV} {h':Hp} (hw:Wk 11 t' h' (mkT [(0,.yl 10),(3,.pf [.j (p.length:Int)] 0),(49,.sl 11 0 L.length cp false),(50,.j (L.length:Int)),(51,.j 0)]) (mkH 0 (wI p gc l s0 j i++[.map (zz r0 (wTr gv gw p j i)),.v (rNt L++ex)]))) :
  S P 11 (xl g1 g2) (xk [] Qf) t' h':=by
 refine S.weak hw (qk ?_);have hid:=qd0 hr.st hr.pd;simp only[xl,wI,wkB,zzC,zzN,vI,simprocAttr];simp +decide only[↓vS,vT,simprocAttr]
 refine SL.loopn (α:=Nat×(List (BitVec 16)×List Bool)) (λa=>[(0,.yl 10),(3,.pf [.j (p.length:Int)] 0),(49,.sl 11 0 L.length cp false),(50,.j (L.length:Int)),(51,.j (a.1:Int))])
  (λa=>wI p gc l a.2 j i++[.map (zz r0 (wTr gv gw p j i)),.v (rNt L++ex)])
  (λa=>a.1<=L.length/\a.2.1.length=p.length/\a.2.2.length=p.length/\a.2.1[j]?=some x/\goM p.length (x ||| wrM i) (L.drop a.1) a.2=goM p.length (x ||| wrM i) L s0) (λa=>L.length-a.1) (0,s0) [0,1,2,3,4,5,6,7,8,9,10,11] ?_ ?_ ?_ rfl ?_ ?_ ?_ ?_
 .simp[vw,wI,wkB]
 .simp[vw,wI,wkB,wTr,wT,qe3,qjS,qr,qX,zK,zq,qe,hex,qC,jO,jV,jg,zS,xR]
 .simp
 .simp[wI,wkB]
 .intro b hb;have:b=0\/b=1\/b=2\/b=3\/b=4\/b=5\/b=6\/b=7\/b=8\/b=9\/b=10:=by omega
  rcases this with rfl|rfl|rfl|rfl|rfl|rfl|rfl|rfl|rfl|rfl|rfl<;>rfl
 .simp_all
 rintro⟨q,s,r⟩ ⟨hq,hl1,hl2,hxq,hgo⟩ G ih;simp only at hq hl1 hl2 hxq hgo;simp only[wI,wkB,zzC,zzN,vI,simprocAttr]
 by_cases hlt:q<L.length
 .obtain⟨n,hn⟩:∃n,L[q]?=some n:=⟨_,zzE hlt⟩;have hjn:=hL n (by grind);have hgn:(rNt L++ex)[q]?=some (.j (n:Int)):=by rw[List.getElem?_append_left (by rw[qlc];omega),qr6,hn];rfl
  have hqc:q<cp:=by omega
  simp +decide only[↓vS,vT,simprocAttr,hlt,zzU,hgn]
  have hdr:L.drop q=n::L.drop (q+1):=by
   grind[List.drop_eq_getElem_cons]
  rw[hdr,qvI]at hgo
  by_cases hnl:n<p.length
  .have hnl':¬(p.length:Int)<=(n:Int):=by omega
   rw[if_pos hnl]at hgo;have hw1:IntKind.wrap .i64 ((q:Int)+1)=((q+1:Nat):Int):=by rw[qm (by omega) (by omega)];omega
   have hjs:j<p.length:=by omega
   have hcm:=hcome s r (by omega) n (by omega) (x ||| wrM i)
   have hln:(qcy s r n (x ||| wrM i)).length=p.length:=by simp[qcy,hl1]
   have hxn:(qcy s r n (x ||| wrM i))[j]?=some x:=by unfold qcy;rw[List.getElem?_set_ne (by omega)];omega
   have hln2:(r.set n true).length=p.length:=by grind
   have ih2:=ih (q+1,qcy s r n (x ||| wrM i),r.set n true) (by grind) (by omega)
   simp +decide only[↓vS,vT,simprocAttr,hnl'];refine SY.mk (r:=r0) (ts:=wTr gv gw p j i) (ps:=[48]) (ai:=aW) (bi:=bW g3) (by simp[Tr.get_set]) hr.st hr.ok (Nat.zero_le _) (by grind) rfl ?_;rw[show mkT (wTr gv gw p j i)=mkT [(0,.fz p.length (rP p)),(1,qe3 gv),(4,.ptr 5 0),(5,.ptr 6 0),(6,.ptr 7 0),(20,.fz p.length (rP p)),(21,.j (p.length:Int)),(22,.j (j:Int)),(7,.ptr 8 0),(8,.ptr 9 0),(47,qjS gw p j i)]from rfl]
   refine qk ?_;simp only[aW,qjw,vI,simprocAttr];simp only[↓vS,vT,simprocAttr];refine⟨wTr gv gw p j i,by simp[Tr.get_set],?_⟩
   refine qk ?_;simp only[qx,bW,vI,simprocAttr];simp +decide only[↓vS,vT,simprocAttr];refine zg ?_;simp +decide only[↓vS,vT,simprocAttr,hl1,hjs,zzU,qok,hxq,Option.map_some,qu0,qA7];refine(hwr i hi).pc ?_;simp +decide only[↓vS,vT,simprocAttr,qIZ];refine hcm.pc (vs:=[.j n,.h ((x ||| wrM i).toNat:Int),.ptr 3 0,.ptr 2 0]) [3,4,5,6] (Lent.of (by decide) ?_) ?_
   .simp[vL,vw,qgw,qv zK,qg zK,qv zq,qg zq,hl1]
   simp only[vK,simprocAttr,qgw,qg zK,qg zq];simp +decide only[↓vS,vT,simprocAttr];refine⟨bsy r0,wTr gv gw p j i,by simp[Tr.get_set],?_⟩
   rw[qct,hid];simp only[qx];simp +decide only[↓vS,vT,simprocAttr,hw1,hnl'];refine ih2 _ _ (Wk.mkn _ _ [0,1,2,3,4,5,6,7,8,9,10,11] ?_ ?_ ?_ rfl ?_ ?_)
   .simp[vw,wI,wkB]
   .simp[vw,wI,wkB,wTr,wT,qe3,qjS,qr,qX,zK,zq,qe,hex,qC,jO,jV,jg,zS,xR]
   .simp
   .simp[wI,wkB]
   .intro b hb;have:b=0\/b=1\/b=2\/b=3\/b=4\/b=5\/b=6\/b=7\/b=8\/b=9\/b=10:=by omega
    rcases this with rfl|rfl|rfl|rfl|rfl|rfl|rfl|rfl|rfl|rfl|rfl<;>rfl
  .have hnl':(p.length:Int)<=(n:Int):=by omega
   rw[if_neg hnl]at hgo;simp +decide only[↓vS,vT,simprocAttr,hnl'];rw[<- hgo]at hQ;exact hQ
 .obtain rfl:q=L.length:=by omega
  simp +decide only[↓vS,vT,simprocAttr,hlt];rw[List.drop_length]at hgo;rw[<- hgo]at hQ;exact hQ
def qhY(a:Nat):IFn:=⟨[.tmp 6],sq [.r [.q 3 (.box (.t 0)),.q 4 (.box (.t 1)),.q 5 (.box (.t 2)),.m 6 (.c (.nilf))],.r [.q 7 (.mkF a [] [.t 3,.t 4,.t 5]),.n 6 7],.ret]⟩
def qIv{g:Nat}(hc:qc P f (qhY g)=true)(i:Ins)(j n:Nat):qa P f [.agg (qC i),.j (j:Int),.j (n:Int)] (.fn g [] [.pf (qC i) 0,.pf [.j (j:Int)] 0,.pf [.j (n:Int)] 0]):=by
 refine qa.mk hc rfl ?_;simp only[qhY,vI,simprocAttr];simp +decide only[↓vS,vT,simprocAttr];simp[vZ,vP,Tr.get_set,qC]
def qog{x:Nat}:rNt [x]=[.j (x:Int)]:=rfl
def qoh{x y:Nat}:rNt [x,y]=[.j (x:Int),.j (y:Int)]:=rfl
def qxX{g1 g2:Nat}(g3 gv gw gc:Nat)(p:List Ins)(i:Ins)(j:Nat)(l:List Nat)(r0:Loop)(s0:List (BitVec 16)×List Bool)(Qf:AV->Hp->Prop)
  (hQ:Qf (.tup []) (mkH 0 (wI p gc l s0 j i++[.map (zz r0 (wTr gv gw p j i))])))
  {t':Tr AV} {h':Hp} (hw:Wk 11 t' h' (mkT [(50,.j 0),(51,.j 0)]) (mkH 0 (wI p gc l s0 j i++[.map (zz r0 (wTr gv gw p j i))]))) :
  S P 11 (xl g1 g2) (xk [] Qf) t' h':=by
 refine S.weak hw (qk ?_);simp only[xl,wI,wkB,zzC,zzN,vI,simprocAttr];simp +decide only[↓vS,vT,simprocAttr];refine SL.loopn (α:=Unit) (λ_=>[(50,.j 0),(51,.j 0)]) (λ_=>wI p gc l s0 j i++[.map (zz r0 (wTr gv gw p j i))]) (λ_=>True) (λ_=>0) () [0,1,2,3,4,5,6,7,8,9,10] ?_ ?_ ?_ rfl ?_ ?_ ?_ ?_
 .simp[vw,wI,wkB]
 .simp[vw,wI,wkB,wTr,wT,qe3,qjS,qr,qX,zK,zq,qe,qC,jO,jV,jg,zS,xR]
 .simp
 .simp[wI,wkB]
 .intro b hb;have:b=0\/b=1\/b=2\/b=3\/b=4\/b=5\/b=6\/b=7\/b=8\/b=9\/b=10:=by omega
  rcases this with rfl|rfl|rfl|rfl|rfl|rfl|rfl|rfl|rfl|rfl|rfl<;>rfl
 .trivial
 rintro _ _ G _;simp only[wI,wkB,zzC,zzN,vI,simprocAttr];simp +decide only[↓vS,vT,simprocAttr];exact hQ
def qxW{g1 g2 g3 g4 gc gv gw:Nat}(hcw:qc P gw (wg g1 g2)=true)(hof:cOf P g1)(hcc:qc P g2 qK=true)(hcome:qro P gc)(hwr:cWr P g3)
  (hwy:∀i (j n:Nat),qa P g4 [.agg (qC i),.j (j:Int),.j (n:Int)] (.fn gw [] [.pf (qC i) 0,.pf [.j (j:Int)] 0,.pf [.j (n:Int)] 0]))
  (p:List Ins) (hp:p.length<=4096) (i:Ins) (hi:InsOk i) (j:Nat) (hj:j<p.length) (l:List Nat)
  (x:BitVec 16) (s0:List (BitVec 16)×List Bool) (hs1:s0.1.length=p.length) (hs2:s0.2.length=p.length) (hx:s0.1[j]?=some x) (Q:X->Tr AV->Hp->Prop)
  (hQ:∀t'' h'',Wk 2 t'' h'' (mkT (wT gv p j)) (mkH 0 (wkB p gc l (goM p.length (x ||| wrM i) (qcL i j) s0)))->Q .normal t'' h'')
  {t':Tr AV} {h':Hp} (hw:Wk 2 t' h' (mkT (wT gv p j++[(7,.ptr 8 0),(8,.ptr 9 0)])) (mkH 0 (wI p gc l s0 j i))) :
  S P 2 (qbG gc g4 g3) Q t' h':=by
 refine S.weak hw (qk ?_);simp only[qbG,wT,wI,wkB,zzC,zzN,vI,simprocAttr];simp +decide only[↓vS,vT,simprocAttr,qu0,qA7];refine(hwy i j p.length).sc ?_;simp +decide only[↓vS,vT,simprocAttr];refine S.weak (Wk.mkn (wTr gv gw p j i) (wI p gc l s0 j i) [0,1,2,3,4,5,6,7,8,9] ?_ ?_ ?_ rfl ?_ ?_) ?_
 .simp[vw,wTr,wT,qe3,qjS,qr,wI,wkB,qC]
 .simp[vw,wI,wkB,qr,qX,zK,zq,qe,qC]
 .simp
 .simp[wI,wkB]
 .intro b hb;have:b=0\/b=1:=by omega
  rcases this with rfl|rfl<;>rfl
 refine S.rangeF (by simp[jy,wI,wkB]) (by simp[wTr,wT]) ⟨rfl,rfl⟩ ?_;refine qhT.2 ⟨qjS gw p j i,by simp[wTr,wT,mkT,Tr.get_set],?_⟩
 refine⟨qbC hcw,λr0 hr0 hp0 hlo=>SC.mk hcw ?_⟩
 have hrec:RecOk P r0 [48] aW (bW g3):=⟨hr0,hp0,hlo⟩;have hid:=qd0 hr0 hp0;obtain⟨Qf,hQf⟩:∃Qf:AV->Hp->Prop,Qf=qyX (mkH 0 (wI p gc l s0 j i)).sz (λe t h=>onX e (Q .normal t h) (λi=>if i=2 then Q .normal t h else Q (.exit i) t h) (Q .ret t h)) (mkT (wTr gv gw p j i)):=⟨_,rfl⟩
 have hfin0:Qf (.tup []) (mkH 0 (wI p gc l (goM p.length (x ||| wrM i) (qcL i j) s0) j i++[.map (zz r0 (wTr gv gw p j i))])):=by
  skip
  rw[hQf];refine⟨r0,wTr gv gw p j i,by rw[jh];rfl,by rw[hr0];decide,?_⟩
  rw[hp0];simp only[wI,wkB,wTr,wT,zzC,zzN,vI,simprocAttr,qx];simp only[qiG];refine hQ _ _ (Wk.mkn _ _ [0,1,2,3,4,5,6,7] ?_ ?_ ?_ rfl ?_ ?_)
  .simp[vw,wT,qe3,qjS,qr,wkB,qC]
  .simp[vw,wkB,qr,qX,zK,zq,qe,qC]
  .simp
  .simp[wkB]
  .intro b hb;have:b=0\/b=1:=by omega
   rcases this with rfl|rfl<;>rfl
 have hfin1:∀cs:List AV,Qf (.tup []) (mkH 0 (wI p gc l (goM p.length (x ||| wrM i) (qcL i j) s0) j i++[.map (zz r0 (wTr gv gw p j i)),.v cs])):=by
  intro cs;rw[hQf];refine⟨r0,wTr gv gw p j i,by rw[jh];rfl,by rw[hr0];decide,?_⟩
  rw[hp0];simp only[wI,wkB,wTr,wT,zzC,zzN,vI,simprocAttr,qx];simp only[qiG];refine hQ _ _ (Wk.mkn _ _ [0,1,2,3,4,5,6,7] ?_ ?_ ?_ rfl ?_ ?_)
  .simp[vw,wT,qe3,qjS,qr,wkB,qC]
  .simp[vw,wkB,qr,qX,zK,zq,qe,qC]
  .simp
  .simp[wkB]
  .intro b hb;have:b=0\/b=1:=by omega
   rcases this with rfl|rfl<;>rfl
 rw[<- hQf];show S P 11 (wg g1 g2).body (xk [] Qf) (qbl [.yl 10,.pf (qC i) 0,.pf [.j (j:Int)] 0,.pf [.j (p.length:Int)] 0] 0 .leaf) (mkH 0 (wI p gc l s0 j i++[.map (zz r0 (wTr gv gw p j i))]));refine qk ?_;simp only[wg,wI,wkB,qC,zzC,zzN,vI,simprocAttr];simp +decide only[↓vS,vT,simprocAttr];refine(hof i.code).sc ?_;simp +decide only[↓vS,vT,simprocAttr];have hj1:IntKind.wrap .i64 ((j:Int)+1)=((j+1:Nat):Int):=by rw[qm (by omega) (by omega)];omega
 have hjj:∀a:Int,0<=a->a<=4294967295->IntKind.wrap .i64 (IntKind.wrap .i64 ((j:Int)+1)+IntKind.wrap .i64 a)=((j+1+a.toNat:Nat):Int):=by
  grind[qm]
 have hk:=hjj i.k hi.k0 hi.k1;have hlo0:0<=loM i/\loM i<=255:=by have:=hi.t0;have:=hi.t1;have:=hi.f0;have:=hi.f1;unfold loM;split<;>omega
 have hhi0:0<=hiM i/\hiM i<=255:=by have:=hi.t0;have:=hi.t1;have:=hi.f0;have:=hi.f1;unfold hiM;split<;>omega
 have hlo:=hjj (loM i) hlo0.1 (by omega);have hhi:=hjj (hiM i) hhi0.1 (by omega)
 by_cases hA:qn i.code=0\/qn i.code=5
 .have hwl:qcL i j=[]:=by unfold qcL;rw[if_pos hA]
  have h4:¬qn i.code=4:=by omega
  rw[hwl]at hfin0;have fin0:∀{t':Tr AV} {h':Hp},Wk 11 t' h' (mkT [(50,.j 0),(51,.j 0)]) (mkH 0 (wI p gc l s0 j i++[.map (zz r0 (wTr gv gw p j i))]))->S P 11 (xl g1 g2) (xk [] Qf) t' h':=λhw=>qxX g3 gv gw gc p i j l r0 s0 Qf hfin0 hw
  rcases hA with hA|hA<;>(
   simp +decide only[↓vS,vT,simprocAttr,hA];refine(qu4 hcc).sc ?_;simp +decide only[↓vS,vT,simprocAttr];refine fin0 (Wk.mkn _ _ [0,1,2,3,4,5,6,7,8,9,10] ?_ ?_ ?_ rfl ?_ ?_)
   .simp[vw,wI,wkB]
   .simp[vw,wI,wkB,wTr,wT,qe3,qjS,qr,qX,zK,zq,qe,qC,jO,jV,jg,zS,xR]
   .simp
   .simp[wI,wkB]
   .intro b hb;have:b=0\/b=1\/b=2\/b=3\/b=4\/b=5\/b=6\/b=7\/b=8\/b=9\/b=10:=by omega
    rcases this with rfl|rfl|rfl|rfl|rfl|rfl|rfl|rfl|rfl|rfl|rfl<;>rfl)
 by_cases h4:qn i.code=4
 .have h0:¬qn i.code=0:=by omega
  have h5:¬qn i.code=5:=by omega
  simp +decide only[↓vS,vT,simprocAttr,h4,hj1]
  by_cases hja:i.code=5
  .have hwl:qcL i j=[j+1+i.k.toNat]:=by unfold qcL;rw[if_neg hA,if_pos h4,if_pos hja]
   rw[if_pos hja];simp only[hk];refine(qo5 hcc ((j+1+i.k.toNat:Nat):Int)).sc (vs:=[.sl 0 0 1 1 false]) [12] (Lent.of (by decide) ?_) ?_
   .simp[vL,vw]
   simp only[vK,simprocAttr];simp +decide only[↓vS,vT,simprocAttr];refine qlh (gv:=gv) (gw:=gw) (gc:=gc) hcome hwr p hp i hi j l r0 hrec [j+1+i.k.toNat] [] rfl 1 (by simp) (by grind) (by simp) x s0 hs1 hs2 hx Qf (by rw[<- hwl];simp_all) (Wk.mkn _ _ [0,1,2,3,4,5,6,7,8,9,10,12] ?_ ?_ ?_ rfl ?_ ?_)
   .simp[vw,wI,wkB]
   .simp[vw,wI,wkB,wTr,wT,qe3,qjS,qr,qX,zK,zq,qe,qC,jO,jV,jg,zS,xR,qog,qoh]
   .simp
   .simp[wI,wkB]
   .intro b hb;have:b=0\/b=1\/b=2\/b=3\/b=4\/b=5\/b=6\/b=7\/b=8\/b=9\/b=10:=by omega
    rcases this with rfl|rfl|rfl|rfl|rfl|rfl|rfl|rfl|rfl|rfl|rfl<;>rfl
  .rw[if_neg hja];simp only[show(if i.jf<i.jt then i.jf else i.jt)=loM i from rfl,show(if i.jt<i.jf then i.jf else i.jt)=hiM i from rfl,hlo,hhi]
   by_cases hlh:loM i=hiM i
   .have hwl:qcL i j=[j+1+(loM i).toNat]:=by unfold qcL;rw[if_neg hA,if_pos h4,if_neg hja,if_pos hlh]
    refine(qo6 hcc ((j+1+(loM i).toNat:Nat):Int) ((j+1+(hiM i).toNat:Nat):Int)).sc (vs:=[.sl 0 0 2 2 false]) [11] (Lent.of (by decide) ?_) ?_
    .simp[vL,vw]
    rw[hlh,if_pos rfl,if_pos rfl];rw[hlh]at hwl;simp only[vK,simprocAttr];simp +decide only[↓vS,vT,simprocAttr];refine qlh (gv:=gv) (gw:=gw) (gc:=gc) hcome hwr p hp i hi j l r0 hrec [j+1+(hiM i).toNat] [.j 0] rfl 2 (by simp) (by grind) (by simp) x s0 hs1 hs2 hx Qf (by rw[<- hwl];simp_all) (Wk.mkn _ _ [0,1,2,3,4,5,6,7,8,9,10,11] ?_ ?_ ?_ rfl ?_ ?_)
    .simp[vw,wI,wkB]
    .simp[vw,wI,wkB,wTr,wT,qe3,qjS,qr,qX,zK,zq,qe,qC,jO,jV,jg,zS,xR,qog,qoh]
    .simp
    .simp[wI,wkB]
    .intro b hb;have:b=0\/b=1\/b=2\/b=3\/b=4\/b=5\/b=6\/b=7\/b=8\/b=9\/b=10:=by omega
     rcases this with rfl|rfl|rfl|rfl|rfl|rfl|rfl|rfl|rfl|rfl|rfl<;>rfl
   .have hwl:qcL i j=[j+1+(loM i).toNat,j+1+(hiM i).toNat]:=by unfold qcL;rw[if_neg hA,if_pos h4,if_neg hja,if_neg hlh]
    refine(qo6 hcc ((j+1+(loM i).toNat:Nat):Int) ((j+1+(hiM i).toNat:Nat):Int)).sc (vs:=[.sl 0 0 2 2 false]) [11] (Lent.of (by decide) ?_) ?_
    .simp[vL,vw]
    rw[if_neg (by omega),if_neg (by omega)];simp only[vK,simprocAttr];simp +decide only[↓vS,vT,simprocAttr];refine qlh (gv:=gv) (gw:=gw) (gc:=gc) hcome hwr p hp i hi j l r0 hrec [j+1+(loM i).toNat,j+1+(hiM i).toNat] [] rfl 2 (by simp) (by simp;omega) (by simp) x s0 hs1 hs2 hx Qf (by rw[<- hwl];simp_all) (Wk.mkn _ _ [0,1,2,3,4,5,6,7,8,9,10,11] ?_ ?_ ?_ rfl ?_ ?_)
    .simp[vw,wI,wkB]
    .simp[vw,wI,wkB,wTr,wT,qe3,qjS,qr,qX,zK,zq,qe,qC,jO,jV,jg,zS,xR,qog,qoh]
    .simp
    .simp[wI,wkB]
    .intro b hb;have:b=0\/b=1\/b=2\/b=3\/b=4\/b=5\/b=6\/b=7\/b=8\/b=9\/b=10:=by omega
     rcases this with rfl|rfl|rfl|rfl|rfl|rfl|rfl|rfl|rfl|rfl|rfl<;>rfl
 .have h0:¬qn i.code=0:=by omega
  have h5:¬qn i.code=5:=by omega
  have hwl:qcL i j=[j+1]:=by unfold qcL;rw[if_neg hA,if_neg h4]
  simp +decide only[↓vS,vT,simprocAttr,h0,h4,h5,hj1];simp only[hj1];refine(qo5 hcc ((j+1:Nat):Int)).sc (vs:=[.sl 0 0 1 1 false]) [11] (Lent.of (by decide) ?_) ?_
  .simp[vL,vw]
  simp only[vK,simprocAttr];simp +decide only[↓vS,vT,simprocAttr];refine qlh (gv:=gv) (gw:=gw) (gc:=gc) hcome hwr p hp i hi j l r0 hrec [j+1] [] rfl 1 (by simp) (by simp_all) (by simp) x s0 hs1 hs2 hx Qf (by rw[<- hwl];simp_all) (Wk.mkn _ _ [0,1,2,3,4,5,6,7,8,9,10,11] ?_ ?_ ?_ rfl ?_ ?_)
  .simp[vw,wI,wkB]
  .simp[vw,wI,wkB,wTr,wT,qe3,qjS,qr,qX,zK,zq,qe,qC,jO,jV,jg,zS,xR,qog,qoh]
  .simp
  .simp[wI,wkB]
  .intro b hb;have:b=0\/b=1\/b=2\/b=3\/b=4\/b=5\/b=6\/b=7\/b=8\/b=9\/b=10:=by omega
   rcases this with rfl|rfl|rfl|rfl|rfl|rfl|rfl|rfl|rfl|rfl|rfl<;>rfl
abbrev WSt:=List Nat×(List (BitVec 16)×List Bool)
def qd4(j:Nat)(st:List (BitVec 16)×List Bool):List (BitVec 16)×List Bool:=if j=0 then(qcy st.1 st.2 0 0#16,st.2.set 0 true)else st
def stM(n j:Nat)(i:Ins)(st:WSt):WSt :=
 if(qd4 j st.2).2.getD j false=true then(qkm i ((qd4 j st.2).1.getD j 0#16) j st.1,goM n ((qd4 j st.2).1.getD j 0#16 ||| wrM i) (qcL i j) (qd4 j st.2))else(st.1,qd4 j st.2)
def wkM(n:Nat):Nat->List Ins->WSt->WSt
 | _,[],st=>st
 | j,i::L,st=>wkM n (j+1) L (stM n j i st)
def qeb(p:List Ins):List Nat:=(wkM p.length 0 p ([],(List.replicate p.length 0#16,List.replicate p.length false))).1
def qxC{j:Nat}{st:List (BitVec 16)×List Bool}:(qd4 j st).1.length=st.1.length/\(qd4 j st).2.length=st.2.length:=by
 unfold qd4;split<;>simp[qcy]
theorem qxV{i:Ins}{x:BitVec 16}{j:Nat}{l:List Nat}:(qkm i x j l).length<=l.length+1:=by
 unfold qkm;split<;>simp
def qGO(P:Program)(gv:Nat):Prop:=∀p:List Ins,p.length<=4096->∀l:List Nat,l.length<=4096->∀(j:Nat) (i:Ins),p[j]?=some i->InsOk i->∀x:BitVec 16,
  Upd P gv [.j j,.h (x.toNat:Int),.ptr 0 0,.ptr 1 0] [.v [.fz p.length (rP p)],.v [.own 2 l.length],.cells 1 true true (rNt l)] (.tup [])
   [.v [.fz p.length (rP p)],.v [.own 3 (qkm i x j l).length],.dead,.cells 1 true true (rNt (qkm i x j l))]
def qqi{g1 g2 g3 g4 gc gv gw:Nat}(hcw:qc P gw (wg g1 g2)=true)(hof:cOf P g1)(hcc:qc P g2 qK=true)(hcome:qro P gc)(hwr:cWr P g3)(hvis:qGO P gv)
  (hwy:∀i (j n:Nat),qa P g4 [.agg (qC i),.j (j:Int),.j (n:Int)] (.fn gw [] [.pf (qC i) 0,.pf [.j (j:Int)] 0,.pf [.j (n:Int)] 0]))
  (p:List Ins) (hp:p.length<=4096) (i:Ins) (hi:InsOk i) (j:Nat) (hpi:p[j]?=some i) (l:List Nat) (hl:l.length<=4096)
  (s:List (BitVec 16)) (r:List Bool) (hs1:s.length=p.length) (hs2:r.length=p.length) (Q:X->Tr AV->Hp->Prop)
  (hQ:∀e t'' h'',(e = .normal\/e = .exit 1)->Wk 2 t'' h'' (mkT (wT gv p j)) (mkH 0 (if r.getD j false=true then wkB p gc (qkm i (s.getD j 0#16) j l) (goM p.length (s.getD j 0#16 ||| wrM i) (qcL i j) (s,r))else wkB p gc l (s,r)))->Q e t'' h'')
  {t':Tr AV} {h':Hp} (hw:Wk 2 t' h' (mkT (wT gv p j++[(7,.ptr 8 0),(8,.ptr 9 0)])) (mkH 0 (wI p gc l (s,r) j i))) :
  S P 2 (qbF gc g4 g3) Q t' h':=by
 refine S.weak hw (qk ?_);have hlt:j<p.length:=by grind
 obtain⟨x,hx⟩:∃x,s[j]?=some x:=⟨_,zzE (by omega)⟩;obtain⟨b,hb⟩:∃b,r[j]?=some b:=⟨_,zzE (by omega)⟩;simp only[List.getD_eq_getElem?_getD,hx,hb,Option.getD_some]at hQ;simp only[qbF,wT,wI,wkB,zzC,zzN,vI,simprocAttr];cases b with
 | false =>
  rw[if_neg (by simp)]at hQ;simp +decide only[↓vS,vT,simprocAttr,hs1,hlt,zzU,qld,hb,Option.map_some];refine hQ _ _ _ (.inr rfl) (Wk.mkn _ _ [0,1,2,3,4,5,6,7] ?_ ?_ ?_ rfl ?_ ?_)
  .simp[vw,wT,qe3,qr,wkB]
  .simp[vw,wkB,qr,qX,zK,zq,qe,hs1]
  .simp
  .simp[wkB]
  .intro b hb;have:b=0\/b=1:=by omega
   rcases this with rfl|rfl<;>rfl
 | true =>
  rw[if_pos rfl]at hQ;simp +decide only[↓vS,vT,simprocAttr,hs1,hlt,zzU,qld,hb,Option.map_some];refine zg ?_;simp +decide only[↓vS,vT,simprocAttr,hs1,hlt,zzU,qok,hx,Option.map_some,qe3];refine(hvis p hp l hl j i hpi hi x).pc (vs:=[.j j,.h (x.toNat:Int),.ptr 0 0,.ptr 1 0]) [0,1,2] (Lent.of (by decide) ?_) ?_
  .simp[vL,vw,qv (qr p),qg (qr p),qv qX,qg qX]
  simp only[vK,simprocAttr,qg (qr p),qg qX];simp +decide only[↓vS,vT,simprocAttr];refine qxW hcw hof hcc hcome hwr hwy p hp i hi j hlt (qkm i x j l) x (s,r) hs1 hs2 hx Q (λt'' h'' hw=>hQ _ _ _ (.inl rfl) hw) (Wk.mkn _ _ [0,1,10,3,4,5,6,7,8,9] ?_ ?_ ?_ rfl ?_ ?_)
  .simp[vw,wT,qe3,qr,wI,wkB]
  .simp[vw,wI,wkB,qr,qX,zK,zq,qe,hs1,qC]
  .simp
  .simp[wI,wkB]
  .intro b hb;have:b=0\/b=1:=by omega
   rcases this with rfl|rfl<;>rfl
def qf4(a b:Nat):IFn:=⟨[.tmp 2],sq [.r [.q 1 (.box (.t 0)),.m 2 .N],.r [.q 3 (.alloc [.nils])],.r [.d 4 1,.q 5 (.mkF a [] [.t 1,.t 3]),.l 6 b [.t 4,.t 5]],.r [.d 7 3,.n 2 7],.ret]⟩
def qBC{g0 g1 g2 g3 g4 gc gv gw:Nat}(hc:qc P f (qf4 gv g0)=true)(hck:qc P g0 (qhX gc g4 g3)=true)
  (hcw:qc P gw (wg g1 g2)=true) (hof:cOf P g1) (hcc:qc P g2 qK=true) (hcome:qro P gc) (hwr:cWr P g3) (hvis:qGO P gv)
  (hwy:∀i (j n:Nat),qa P g4 [.agg (qC i),.j (j:Int),.j (n:Int)] (.fn gw [] [.pf (qC i) 0,.pf [.j (j:Int)] 0,.pf [.j (n:Int)] 0]))
  (p:List Ins) (hp:p.length<=4096) (hi:∀i ∈ p,InsOk i):qa P f [.fz p.length (rP p)] (.fz (qeb p).length (rNt (qeb p))):=by
 refine qa.mk hc (by simp[qt,clo,qr]) ?_;simp only[qf4,vI,simprocAttr];simp +decide only[↓vS,vT,simprocAttr];refine SC.mk hck (qk ?_);have hp':¬4096<(p.length:Int):=by omega
 have hr1:p.length<=qf:=by simp only[qf];omega
 have hr2:2*p.length<=qf:=by simp only[qf];omega
 have hr3:1*p.length<=qf:=by omega
 have hf1:(List.replicate p.length [AV.h 0]).flatten=rW (List.replicate p.length 0#16):=by
  generalize p.length=n
  induction n with
  | zero=>rfl
  | succ n ih=>rw[List.replicate_succ,List.replicate_succ,List.flatten_cons,ih];rfl
 have hf2:(List.replicate p.length [AV.b false]).flatten=rTt (List.replicate p.length false):=by
  generalize p.length=n
  induction n with
  | zero=>rfl
  | succ n ih=>rw[List.replicate_succ,List.replicate_succ,List.flatten_cons,ih];rfl
 simp only[qhX,vI,simprocAttr];simp +decide only[↓vS,vT,simprocAttr,hp'];refine zg ?_;simp +decide only[↓vS,vT,simprocAttr,hr1,hr2,hr3,hf1,hf2]
 refine SL.loopn (α:=Nat×WSt) (λa=>wT gv p a.1) (λa=>wkB p gc a.2.1 a.2.2)
  (λa=>a.1<=p.length/\a.2.1.length<=a.1/\a.2.2.1.length=p.length/\a.2.2.2.length=p.length/\wkM p.length a.1 (p.drop a.1) a.2=wkM p.length 0 p ([],(List.replicate p.length 0#16,List.replicate p.length false))) (λa=>p.length-a.1) (0,([],(List.replicate p.length 0#16,List.replicate p.length false))) [0,1,99,2,3,4,5,6] ?_ ?_ ?_ rfl ?_ ?_ ?_ ?_
 .simp[vw,wT,qe3,qr,wkB]
 .simp[vw,wkB,qr,qX,zK,zq,qe]
 .simp
 .simp[wkB]
 .intro b hb;have:b=0\/b=1:=by omega
  rcases this with rfl|rfl<;>rfl
 .simp_all
 rintro⟨j,l,s,r⟩ ⟨hj,hl,hs1,hs2,hgo⟩ G ih;simp only at hj hl hs1 hs2 hgo;simp only[wT,wkB,zzC,zzN,vI,simprocAttr]
 by_cases hlt:j<p.length
 .obtain⟨i,hpi⟩:∃i,p[j]?=some i:=⟨_,zzE hlt⟩;have hii:=hi i (by grind);have hel:=qG (f:=qC) (m:=4) jC hpi;rw[show p.flatMap qC=rP p from rfl]at hel
  have h4:j*4+4<=(rP p).length:=by rw[qbS];omega
  have hdr:p.drop j=i::p.drop (j+1):=by
   grind[List.drop_eq_getElem_cons]
  rw[hdr]at hgo;have hw1:IntKind.wrap .i64 ((j:Int)+1)=((j+1:Nat):Int):=by rw[qm (by omega) (by omega)];omega
  simp only[qC]at hel;have ih2:=ih (j+1,stM p.length j i (l,s,r));have hst:wkM p.length j (i::p.drop (j+1)) (l,s,r)=wkM p.length (j+1) (p.drop (j+1)) (stM p.length j i (l,s,r)):=rfl;rw[hst]at hgo;have hlen0:=qxC (j:=j) (st:=(s,r))
  have hI:j+1<=p.length/\(stM p.length j i (l,s,r)).1.length<=j+1/\(stM p.length j i (l,s,r)).2.1.length=p.length/\(stM p.length j i (l,s,r)).2.2.length=p.length:=by
   refine⟨hlt,?_⟩;unfold stM
   grind[qxV,qrA]
  have ih3:=ih2 (by grind) (by omega)
  have hstM:(wkB p gc (stM p.length j i (l,s,r)).1 (stM p.length j i (l,s,r)).2)=if(qd4 j (s,r)).2.getD j false=true then wkB p gc (qkm i ((qd4 j (s,r)).1.getD j 0#16) j l) (goM p.length ((qd4 j (s,r)).1.getD j 0#16 ||| wrM i) (qcL i j) ((qd4 j (s,r)).1,(qd4 j (s,r)).2))else wkB p gc l ((qd4 j (s,r)).1,(qd4 j (s,r)).2):=by
   unfold stM;split<;>rfl
  clear hgo hst ih2
  by_cases hj0:j=0
  .have hj0':decide ((j:Int)=0)=true:=by rw[hj0];rfl
   have hcm:=hcome s r (by omega) 0 (by omega) 0#16;have he1:(qd4 j (s,r)).1=qcy s r 0 0#16:=by unfold qd4;rw[if_pos hj0]
   have he2:(qd4 j (s,r)).2=r.set 0 true:=by unfold qd4;rw[if_pos hj0]
   simp only[he1,he2]at hstM;have hs1':(qcy s r 0 0#16).length=p.length:=by grind
   simp +decide only[↓vS,vT,simprocAttr,hlt,hel,h4,hj0'];refine hcm.sc (vs:=[.j 0,.h 0,.ptr 3 0,.ptr 2 0]) [3,4,5,6] (Lent.of (by decide) ?_) ?_
   .simp[vL,vw,qgw,qv zK,qg zK,qv zq,qg zq]
   simp only[vK,simprocAttr,qgw,qg zK,qg zq];simp +decide only[↓vS,vT,simprocAttr];refine qqi hcw hof hcc hcome hwr hvis hwy p hp i hii j hpi l (by omega) (qcy s r 0 0#16) (r.set 0 true) hs1' (by grind) _ ?_ (Wk.mkn _ _ [0,1,2,3,4,5,6,7,8,9] ?_ ?_ ?_ rfl ?_ ?_)
   .rintro e t'' h'' (rfl|rfl) hw2<;>(
     simp +decide only[↓vS,vT,simprocAttr];rw[<- hstM]at hw2;refine S.weak hw2 (qk ?_);generalize(stM p.length j i (l,s,r))=st2 at ih3 hI;obtain⟨l2,s2,r2⟩:=st2;simp only at ih3 hI;simp only[qbH,wT,wkB,zzC,zzN,vI,simprocAttr];simp +decide only[↓vS,vT,simprocAttr,hw1];refine ih3 _ _ (Wk.mkn _ _ [0,1,2,3,4,5,6,7] ?_ ?_ ?_ rfl ?_ ?_)
     .simp[vw,wT,qe3,qr,wkB]
     .simp[vw,wkB,qr,qX,zK,zq,qe]
     .simp
     .simp[wkB]
     .intro b hb;have:b=0\/b=1:=by omega
      rcases this with rfl|rfl<;>rfl)
   .simp[vw,wT,qe3,qr,wI,wkB]
   .simp[vw,wI,wkB,qr,qX,zK,zq,qe,qC,hs1,hs1']
   .simp
   .simp[wI,wkB]
   .intro b hb;have:b=0\/b=1:=by omega
    rcases this with rfl|rfl<;>rfl
  .have hj0':decide ((j:Int)=0)=false:=by grind
   have he1:(qd4 j (s,r)).1=s:=by unfold qd4;rw[if_neg hj0]
   have he2:(qd4 j (s,r)).2=r:=by unfold qd4;rw[if_neg hj0]
   simp only[he1,he2]at hstM;have hs1':=hs1;simp +decide only[↓vS,vT,simprocAttr,hlt,hel,h4,hj0'];refine qqi hcw hof hcc hcome hwr hvis hwy p hp i hii j hpi l (by omega) s r hs1 hs2 _ ?_ (Wk.mkn _ _ [0,1,2,3,4,5,6,7,8,9] ?_ ?_ ?_ rfl ?_ ?_)
   .rintro e t'' h'' (rfl|rfl) hw2<;>(
     simp +decide only[↓vS,vT,simprocAttr];rw[<- hstM]at hw2;refine S.weak hw2 (qk ?_);generalize(stM p.length j i (l,s,r))=st2 at ih3 hI;obtain⟨l2,s2,r2⟩:=st2;simp only at ih3 hI;simp only[qbH,wT,wkB,zzC,zzN,vI,simprocAttr];simp +decide only[↓vS,vT,simprocAttr,hw1];refine ih3 _ _ (Wk.mkn _ _ [0,1,2,3,4,5,6,7] ?_ ?_ ?_ rfl ?_ ?_)
     .simp[vw,wT,qe3,qr,wkB]
     .simp[vw,wkB,qr,qX,zK,zq,qe]
     .simp
     .simp[wkB]
     .intro b hb;have:b=0\/b=1:=by omega
      rcases this with rfl|rfl<;>rfl)
   .simp[vw,wT,qe3,qr,wI,wkB]
   .simp[vw,wI,wkB,qr,qX,zK,zq,qe,qC,hs1,hs1']
   .simp
   .simp[wI,wkB]
   .intro b hb;have:b=0\/b=1:=by omega
    rcases this with rfl|rfl<;>rfl
 .obtain rfl:j=p.length:=by omega
  have hu:qeb p=l:=by unfold qeb;rw[<- hgo,List.drop_length];rfl
  simp +decide only[↓vS,vT,simprocAttr,hlt];rw[hu];simp[vZ,vP,Tr.get_set,qJ qX];intro h0;rw[h0];rfl
def qCn(P:Program)(g:Nat):Prop:=∀n,qa P g [.h n] (.b (xE n))
def qip(i:Ins):Bool:=!xE i.code
def qhM(i:Ins):Bool:=decide (i.code=32)&&(decide (i.k % 4≠0)||decide (64<=i.k))
def qiT(i:Ins):Bool:=(decide (i.code=96)||decide (i.code=97)||decide (qn i.code=2))&&decide (16<=i.k)
def qiU(i:Ins):Bool:=decide (i.code=52)&&decide (i.k=0)
def qiV(i:Ins):Bool:=(decide (i.code=100)||decide (i.code=116))&&decide (31<i.k)
def qiW(i:Ins)(n:Nat):Bool:=if i.code=5 then decide ((n:Int)<=i.k)else decide (qn i.code=4)&&decide ((n:Int)<=hiM i)
def qek(a:Nat):IFn:=⟨[.tmp 4],sq [.r [.q 2 (.box (.t 0)),.m 4 .F],.r [.f 5 0 2,.d 6 5,.l 7 a [.t 6],.q 8 (.un .not (.t 7)),.n 4 8],.ret]⟩
def qJJ{g:Nat}(hc:qc P f (qek g)=true)(hg:qCn P g)(i:Ins)(n:Nat):qa P f [.agg (qC i),.j n] (.b (qip i)):=by
 refine qa.mk hc rfl ?_;simp only[qek,qC,vI,simprocAttr];simp +decide only[↓vS,vT,simprocAttr];refine(hg _).sc ?_;simp +decide only[↓vS,vT,simprocAttr];simp[vZ,qip]
def qel:IFn:=⟨[.tmp 4],sq [.r [.q 2 (.box (.t 0)),.m 4 .F],.r [.f 5 0 2,.d 6 5,.q 7 (.bin .eql (.t 6) (.c (.h 32))),.n 8 7,.h 9 3 2 8 true,.j 10 9 8 true,.g 11 (.bin .rem (.t 10) (.c (.w 4))) 8 true,.g 12 (.bin .neq (.t 11) (.c (.w 0))) 8 true,.y 13 12 8,.h 14 3 2 13 false,.j 15 14 13 false,.g 16 (.bin .geq (.t 15) (.c (.w 64))) 13 false,.g 17 (.pick (.t 13) .T (.t 16)) 8 true,.p 18 8 17,.n 4 18],.ret]⟩
def qJK(hc:qc P f qel=true)(i:Ins)(hi:InsOk i)(n:Nat):qa P f [.agg (qC i),.j n] (.b (qhM i)):=by
 refine qa.mk hc rfl ?_;have h40:(4:Int)≠0:=by decide
 have h0:=hi.k0;have ht:i.k.tmod 4=i.k % 4:=by grind
 unfold qhM;simp only[qel,qC,vI,simprocAttr]
 by_cases h1:i.code=32
 .by_cases h2:i.k % 4=0
  .simp +decide only[↓vS,vT,simprocAttr,h1,↓qcq h40,ht,h2];simp[vZ]
  .simp +decide only[↓vS,vT,simprocAttr,h1,↓qcq h40,ht,h2];simp[vZ,h2]
 .simp +decide only[↓vS,vT,simprocAttr,h1];simp[vZ]
def qem(a:Nat):IFn:=⟨[.tmp 4],sq [.r [.q 2 (.box (.t 0)),.m 4 .F],.r [.f 6 0 2,.d 7 6,.q 8 (.bin .eql (.t 7) (.c (.h 96))),.n 9 8,.h 10 0 2 9 false,.j 11 10 9 false,.g 12 (.bin .eql (.t 11) (.c (.h 97))) 9 false,.o 13 9 12,.n 14 13,.h 15 0 2 14 false,.j 16 15 14 false,⟨(some 17),.callF a [.t 16],(some (14,false))⟩,.g 18 (.bin .eql (.t 17) (.c (.y 2))) 14 false,.o 19 14 18,.n 5 19],.r [.n 20 5,.n 21 20,.h 22 3 2 21 true,.j 23 22 21 true,.g 24 (.bin .geq (.t 23) (.c (.w 16))) 21 true,.p 25 21 24,.n 4 25],.ret]⟩
def qJL{g:Nat}(hc:qc P f (qem g)=true)(hg:cOf P g)(i:Ins)(n:Nat):qa P f [.agg (qC i),.j n] (.b (qiT i)):=by
 refine qa.mk hc rfl ?_;unfold qiT;simp only[qem,qC,vI,simprocAttr]
 by_cases h1:i.code=96
 .simp +decide only[↓vS,vT,simprocAttr,h1];simp[vZ]
 by_cases h2:i.code=97
 .simp +decide only[↓vS,vT,simprocAttr,h1,h2];simp[vZ]
 simp +decide only[↓vS,vT,simprocAttr,h1,h2];refine(hg _).sc ?_
 by_cases h3:qn i.code=2
 .simp +decide only[↓vS,vT,simprocAttr,h3];simp[vZ]
 .simp +decide only[↓vS,vT,simprocAttr,h3];simp[vZ,h1,h2]
def qen:IFn:=⟨[.tmp 4],sq [.r [.q 2 (.box (.t 0)),.m 4 .F],.r [.f 5 0 2,.d 6 5,.q 7 (.bin .eql (.t 6) (.c (.h 52))),.n 8 7,.h 9 3 2 8 true,.j 10 9 8 true,.g 11 (.bin .eql (.t 10) (.c (.w 0))) 8 true,.p 12 8 11,.n 4 12],.ret]⟩
def qJM(hc:qc P f qen=true)(i:Ins)(n:Nat):qa P f [.agg (qC i),.j n] (.b (qiU i)):=by
 refine qa.mk hc rfl ?_;unfold qiU;simp only[qen,qC,vI,simprocAttr]
 by_cases h1:i.code=52
 .simp +decide only[↓vS,vT,simprocAttr,h1];simp[vZ]
 .simp +decide only[↓vS,vT,simprocAttr,h1];simp[vZ]
def qeo:IFn:=⟨[.tmp 4],sq [.r [.q 2 (.box (.t 0)),.m 4 .F],.r [.f 5 0 2,.d 6 5,.q 7 (.bin .eql (.t 6) (.c (.h 100))),.n 8 7,.h 9 0 2 8 false,.j 10 9 8 false,.g 11 (.bin .eql (.t 10) (.c (.h 116))) 8 false,.o 12 8 11,.n 13 12,.h 14 3 2 13 true,.j 15 14 13 true,.g 16 (.bin .gtr (.t 15) (.c (.w 31))) 13 true,.p 17 13 16,.n 4 17],.ret]⟩
def qJN(hc:qc P f qeo=true)(i:Ins)(n:Nat):qa P f [.agg (qC i),.j n] (.b (qiV i)):=by
 refine qa.mk hc rfl ?_;unfold qiV;simp only[qeo,qC,vI,simprocAttr]
 by_cases h1:i.code=100
 .simp +decide only[↓vS,vT,simprocAttr,h1];simp[vZ]
 by_cases h2:i.code=116
 .simp +decide only[↓vS,vT,simprocAttr,h1,h2];simp[vZ]
 simp +decide only[↓vS,vT,simprocAttr,h1,h2];simp[vZ]
def qep(a:Nat):IFn:=⟨[.tmp 4],sq [.r [.q 2 (.box (.t 0)),.m 4 .F],sq [.r [.f 5 0 2,.d 6 5,.q 7 (.bin .eql (.t 6) (.c (.h 5)))],.cond (.t 7) (sq [.r [.f 8 3 2,.d 9 8,.q 10 (.cvInt .i64 (.t 9)),.n 11 1,.b 12 .geq 10 11,.n 4 12],.ret]) (.skip)],.r [.f 13 0 2,.d 14 13,.l 15 a [.t 14],.q 16 (.bin .eql (.t 15) (.c (.y 4))),.n 17 16,.h 18 1 2 17 true,.j 19 18 17 true,.h 20 2 2 17 true,.j 21 20 17 true,.g 22 (.max (.t 19) (.t 21)) 17 true,.g 23 (.cvInt .i64 (.t 22)) 17 true,.y 24 1 17,.g 25 (.bin .geq (.t 23) (.t 24)) 17 true,.p 26 17 25,.n 4 26],.ret]⟩
def qJO{g:Nat}(hc:qc P f (qep g)=true)(hg:cOf P g)(i:Ins)(hi:InsOk i)(n:Nat):qa P f [.agg (qC i),.j n] (.b (qiW i n)):=by
 refine qa.mk hc rfl ?_;have hk:IntKind.wrap .i64 i.k=i.k:=by have:=hi.k0;have:=hi.k1;grind[qm]
 have hh:IntKind.wrap .i64 (hiM i)=hiM i:=by
  have:=hi.t0;have:=hi.t1;have:=hi.f0;have:=hi.f1
  refine qm ?_ ?_<;>(unfold hiM;split<;>omega)
 unfold qiW;simp only[qep,qC,vI,simprocAttr]
 by_cases h1:i.code=5
 .rw[if_pos h1];simp +decide only[↓vS,vT,simprocAttr,h1,hk];simp[vZ]
 rw[if_neg h1];simp +decide only[↓vS,vT,simprocAttr,h1];refine(hg _).sc ?_
 by_cases h2:qn i.code=4
 .simp +decide only[↓vS,vT,simprocAttr,h2];simp only[show(if i.jt<i.jf then i.jf else i.jt)=hiM i from rfl,hh]
  simp[vZ]
 .simp +decide only[↓vS,vT,simprocAttr,h2];simp[vZ]
def qmj(x:Int×Nat×Bool):List AV:=[.j x.1,.fn x.2.1 [] []]
def qp1(x:Int×Nat×Bool):(qmj x).length=2:=rfl
def wsM(g1 g2 g3 g4 g5 g6:Nat)(i:Ins)(n:Nat):List (Int×Nat×Bool):=[(40,g1,qip i),(41,g2,qhM i),(43,g3,qiT i),(44,g4,qiU i),(45,g5,qiV i),(42,g6,qiW i n)]
def qea(i:Ins)(n:Nat):Int:=if qip i=true then 40 else if qhM i=true then 41 else if qiT i=true then 43 else if qiU i=true then 44 else if qiV i=true then 45 else if qiW i n=true then 42 else 0
def qf7(a b c d e g:Nat):IFn:=⟨[.cell 0 12 true],sq [.r [.q 0 (.alloc [.j 0,.nilf,.j 0,.nilf,.j 0,.nilf,.j 0,.nilf,.j 0,.nilf,.j 0,.nilf])],.r [.q 1 (.build [.j 0,.nilf] [(0,1,(.k 40)),(1,1,(.c (.fn a [] [])))]),.q 2 (.build [.j 0,.nilf] [(0,1,(.k 41)),(1,1,(.c (.fn b [] [])))]),.q 3 (.build [.j 0,.nilf] [(0,1,(.k 43)),(1,1,(.c (.fn c [] [])))]),.q 4 (.build [.j 0,.nilf] [(0,1,(.k 44)),(1,1,(.c (.fn d [] [])))]),.q 5 (.build [.j 0,.nilf] [(0,1,(.k 45)),(1,1,(.c (.fn e [] [])))]),.q 6 (.build [.j 0,.nilf] [(0,1,(.k 42)),(1,1,(.c (.fn g [] [])))]),.q 7 (.build [.j 0,.nilf,.j 0,.nilf,.j 0,.nilf,.j 0,.nilf,.j 0,.nilf,.j 0,.nilf] [(0,2,(.t 1)),(2,2,(.t 2)),(4,2,(.t 3)),(6,2,(.t 4)),(8,2,(.t 5)),(10,2,(.t 6))]),.u (.store 12 (.t 0) (.t 7))],.ret]⟩
def qBK{g1 g2 g3 g4 g5 g6:Nat}(hc:qc P f (qf7 g1 g2 g3 g4 g5 g6)=true)(i:Ins)(n:Nat):qa P f [] (.agg ((wsM g1 g2 g3 g4 g5 g6 i n).flatMap qmj)):=by
 refine qa.mk hc rfl ?_;simp only[qf7,vI,simprocAttr];simp +decide only[↓vS,vT,simprocAttr];simp[vZ,vP,Tr.get_set,wsM,qmj]
def qjb(a:Nat):IFn:=⟨[.tmp 4],sq [.r [.q 2 (.box (.t 0)),.m 4 (.k 0)],sq [.r [.l 7 a [],.m 8 (.k 0)],.blk 0 (.loop (sq [.r [.w 9 .lss 8 6],.cond (.t 9) (.skip) (.exit 0),.blk 1 (sq [.r [.q 10 (.idxA 6 2 true (.t 7) (.t 8)),.q 6 (.alloc [.j 0,.nilf]),.u (.store 2 (.t 6) (.t 10))],.r [.f 11 1 6,.d 12 11,.v 13 4 2,.n 14 1,.q 15 (.max (.t 14) (.k 0)),⟨(some 16),.callV (.t 12) [.t 13,.t 15],none⟩],.cond (.t 16) (sq [.r [.f 17 0 6,.d 18 17,.n 4 18],.ret]) (.skip)]),.r [.a 19 8 1,.n 8 19]]))],.r [.m 4 (.k 0)],.ret]⟩
def qHD{g0:Nat}(hc:qc P f (qjb g0)=true)(i:Ins)(n:Nat)(ws:List (Int×Nat×Bool))(hw6:ws.length=6)(h0:qa P g0 [] (.agg (ws.flatMap qmj)))(hw:∀x ∈ ws,qa P x.2.1 [.agg (qC i),.j n] (.b x.2.2)) :
  qa P f [.agg (qC i),.j n] (.j ((ws.find? λx=>x.2.2).elim 0 λx=>x.1)):=by
 refine qa.mk hc rfl ?_;have hn0:¬(n:Int)<0:=by omega
 have hlen:(ws.flatMap qmj).length=12:=by rw[qV qp1,hw6]
 have hcl:qt (ws.flatMap qmj)=true:=xT (λ_=>rfl)
 simp only[qjb,qC,vI,simprocAttr];simp +decide only[↓vS,vT,simprocAttr];refine h0.sc ?_;simp +decide only[↓vS,vT,simprocAttr];refine SL.loop (α:=Nat) (λj=>[(1,.j (n:Int)),(2,.ptr 0 0),(7,.agg (ws.flatMap qmj)),(8,.j (j:Int))]) (λ_=>[.v (qC i)]) (λj=>j<=6/\(ws.drop j).find? (λx=>x.2.2)=ws.find? (λx=>x.2.2)) (λj=>6-j) 0 [0] ?_ ?_ ?_ rfl ?_ ?_
 .simp[vw,qe,hcl]
 .simp[vw,qC]
 .simp
 .simp_all
 rintro j ⟨hj,hI⟩ G ih;simp only[vI,simprocAttr,qC]
 by_cases hlt:j<6
 .have hlt':(j:Int)<6:=by omega
  have hjl:j<ws.length:=by omega
  have hx:ws[j]?=some ws[j]:=by simp_all
  have hw1:IntKind.wrap .i64 ((j:Int)+1)=((j+1:Nat):Int):=by rw[qm (by omega) (by omega)];omega
  have hel:=qG (f:=qmj) (m:=2) qp1 hx;have hb:j*2+2<=(ws.flatMap qmj).length:=by omega
  have hpx:=hw _ (List.getElem_mem hjl);rw[List.drop_eq_getElem_cons hjl,List.find?_cons]at hI;generalize hc0:ws[j]=x at hel hI hpx;simp only[qmj]at hel;generalize hT:ws.flatMap qmj=T at hel hb hlen hcl;simp +decide only[↓vS,vT,simprocAttr,hlt',hlt,hel,hb,hn0];refine hpx.sc ?_;cases hs:x.2.2 with
  | true =>
   rw[hs]at hI;simp +decide only[↓vS,vT,simprocAttr];rw[<- hI];simp[vZ]
  | false =>
   rw[hs]at hI;simp +decide only[↓vS,vT,simprocAttr,hw1];refine ih (j+1) ⟨hlt,hI⟩ (by omega) _ _ (Wk.mk _ _ [0] ?_ ?_ ?_ rfl)
   .simp[vw,qe,hcl,hT]
   .simp[vw,qC]
   .simp
 .obtain rfl:j=6:=by omega
  have hd:ws.drop 6=[]:=by simp_all
  rw[hd]at hI;rw[<- hI];simp +decide only[↓vS,vT,simprocAttr];simp[vZ]
def qIt{g1 g2 g3 g4 g5 g6:Nat}{i:Ins}{n:Nat}:(((wsM g1 g2 g3 g4 g5 g6 i n).find? λx=>x.2.2).elim 0 λx=>x.1)=qea i n:=by
 unfold wsM qea;cases qip i<;>cases qhM i<;>cases qiT i<;>cases qiU i<;>cases qiV i<;>cases qiW i n<;>rfl
def qgr(n:Nat):Nat->List Ins->Option (Nat×Int)
 | _,[]=>none
 | j,i::L=>if qea i (n-1-j)=0 then qgr n (j+1) L else some (j,qea i (n-1-j))
def qfA{n j:Nat}{i:Ins}{L:List Ins}:qgr n j (i::L)=if qea i (n-1-j)=0 then qgr n (j+1) L else some (j,qea i (n-1-j)):=rfl
def qgj(p:List Ins):Int:=(p.getD (p.length-1) ⟨0,0,0,0⟩).code
def atU(p:List Ins)(u:List Nat):Nat×Int :=
 if p.length=0\/4096<p.length then(0,60)else(qgr p.length 0 p).elim (if qn (qgj p)=5 then(match u with | []=>(0,0)|a::_=>(a,61))else(p.length-1,46)) id
def cAt(P:Program)(f:Nat):Prop:=∀p:List Ins,(∀i ∈ p,InsOk i)->p.length<=5000->qa P f [.fz p.length (rP p)] (.tup [.j ((atU p (qeb p)).1:Int),.j (atU p (qeb p)).2])
def qej(a b c:Nat):IFn:=⟨[.tmp 2,.tmp 3],sq [.r [.m 2 (.k 0),.m 3 (.k 0)],sq [.r [.n 10 0,.e 11 10,.w 12 .lss 11 1,.n 13 12,.z 14 0 13,.g 15 (.len false (.t 14)) 13 false,.g 16 (.bin .gtr (.t 15) (.k 4096)) 13 false,.o 17 13 16],.cond (.t 17) (sq [.r [.m 2 (.k 0),.m 3 (.k 60)],.ret]) (.skip)],.r [.n 18 0,.e 19 18,.w 20 .sub 19 1,.n 4 20],sq [.r [.n 21 0,.e 22 21,.m 23 (.k 0)],.blk 0 (.loop (sq [.r [.s 24 23 22],.cond (.t 24) (.skip) (.exit 0),.blk 1 (sq [.r [.n 25 23,.i 26 4 21 23,.v 27 4 26,.q 6 (.alloc [.h 0,.y 0,.y 0,.w 0]),.n 5 25,.u (.store 4 (.t 6) (.t 27))],.r [.v 28 4 6,.n 29 4,.n 30 5,.b 31 .sub 29 30,.l 32 a [.t 28,.t 31],.n 7 32],.r [.n 33 7,.w 34 .neq 33 0],.cond (.t 34) (sq [.r [.n 35 5,.n 36 7,.n 2 35,.n 3 36],.ret]) (.skip)]),.r [.a 37 23 1,.n 23 37]]))],sq [.r [.n 38 0,.n 39 4,.i 40 4 38 39,.f 41 0 40,.d 42 41,.l 43 b [.t 42],.q 44 (.bin .neq (.t 43) (.c (.y 5)))],.cond (.t 44) (sq [.r [.n 45 4,.n 2 45,.m 3 (.k 46)],.ret]) (.skip)],sq [.r [.n 46 0,.l 47 c [.t 46],.e 48 47,.m 49 (.k 0)],.blk 2 (.loop (sq [.r [.s 50 49 48],.cond (.t 50) (.skip) (.exit 2),.blk 3 (sq [.r [.i 51 1 47 49,.d 52 51,.n 9 52],.r [.n 53 9,.n 2 53,.m 3 (.k 61)],.ret]),.r [.a 54 49 1,.n 49 54]]))],.r [.m 2 (.k 0),.m 3 (.k 0)],.ret]⟩
def qyN{g1 g2 g3:Nat}(hc:qc P f (qej g1 g2 g3)=true)(h1:∀i,InsOk i->∀n:Nat,qa P g1 [.agg (qC i),.j (n:Int)] (.j (qea i n)))(h2:cOf P g2)
  (h3:∀p:List Ins,p.length<=4096->(∀i ∈ p,InsOk i)->qa P g3 [.fz p.length (rP p)] (.fz (qeb p).length (rNt (qeb p)))):cAt P f:=by
 intro p hi hp;refine qa.mk hc (by simp[qt,clo,qr]) ?_;unfold atU;simp only[qej,vI,simprocAttr]
 by_cases hz:p.length=0
 .have hz':(p.length:Int)<1:=by omega
  rw[if_pos (.inl hz)];simp +decide only[↓vS,vT,simprocAttr,hz'];simp[vZ]
 have hz':¬(p.length:Int)<1:=by omega
 by_cases hb:4096<p.length
 .have hb':(4096:Int)<p.length:=by omega
  rw[if_pos (.inr hb)];simp +decide only[↓vS,vT,simprocAttr,hz',hb'];simp[vZ]
 have hb':¬(4096:Int)<p.length:=by omega
 rw[if_neg (by omega)];have hl1:IntKind.wrap .i64 ((p.length:Int)-1)=((p.length-1:Nat):Int):=by rw[qm (by omega) (by omega)];omega
 simp +decide only[↓vS,vT,simprocAttr,hz',hb',hl1];refine SL.loop (α:=Nat) (λj=>[(0,.fz p.length (rP p)),(4,.j ((p.length-1:Nat):Int)),(21,.fz p.length (rP p)),(22,.j (p.length:Int)),(23,.j (j:Int))]) (λ_=>[]) (λj=>j<=p.length/\qgr p.length j (p.drop j)=qgr p.length 0 p) (λj=>p.length-j) 0 [] ?_ ?_ ?_ rfl ?_ ?_
 .simp[vw,qr]
 .trivial
 .simp
 .simp_all
 rintro j ⟨hj,hI⟩ G ih;simp only[vI,simprocAttr]
 by_cases hlt:j<p.length
 .obtain⟨i,hpi⟩:∃i,p[j]?=some i:=⟨_,zzE hlt⟩;have hii:=hi i (by grind);have hel:=qG (f:=qC) (m:=4) jC hpi;rw[show p.flatMap qC=rP p from rfl]at hel
  simp only[qC]at hel;have h4:j*4+4<=(rP p).length:=by rw[qbS];omega
  have hdr:p.drop j=i::p.drop (j+1):=by
   grind[List.drop_eq_getElem_cons]
  rw[hdr,qfA]at hI;have hw1:IntKind.wrap .i64 ((j:Int)+1)=((j+1:Nat):Int):=by rw[qm (by omega) (by omega)];omega
  have hw2:IntKind.wrap .i64 (((p.length-1:Nat):Int)-(j:Int))=((p.length-1-j:Nat):Int):=by rw[qm (by omega) (by omega)];omega
  have hone:=h1 i hii (p.length-1-j);simp only[qC]at hone;simp +decide only[↓vS,vT,simprocAttr,hlt,hel,h4,hw2];refine hone.sc ?_
  by_cases h0:qea i (p.length-1-j)=0
  .rw[if_pos h0]at hI;simp +decide only[↓vS,vT,simprocAttr,h0,hw1];refine ih (j+1) ⟨hlt,hI⟩ (by omega) _ _ (Wk.mk _ _ [] ?_ ?_ ?_ rfl)
   .simp[vw,qr]
   .trivial
   .simp
  .rw[if_neg h0]at hI;simp +decide only[↓vS,vT,simprocAttr,h0];rw[<- hI];simp[vZ]
 .obtain rfl:j=p.length:=by omega
  have hd:p.drop p.length=[]:=by simp_all
  rw[hd]at hI;simp only[qgr]at hI;rw[<- hI];obtain⟨i,hpi⟩:∃i,p[p.length-1]?=some i:=⟨_,zzE (by omega)⟩;have hlc:qgj p=i.code:=by unfold qgj;rw[List.getD_eq_getElem?_getD,hpi];rfl
  have hg:=qbE (f:=qC) (m:=4) jC hpi (i:=0) (by omega);rw[show p.flatMap qC=rP p from rfl]at hg
  simp only[qC,Nat.add_zero,List.getElem?_cons_zero]at hg;have hlt2:p.length-1<p.length:=by omega
  simp +decide only[↓vS,vT,simprocAttr,hlt,hlt2,hg];refine(h2 _).sc ?_
  by_cases h5:qn i.code=5
  .simp +decide only[↓vS,vT,simprocAttr,h5];refine(h3 p (by omega) hi).sc ?_;simp +decide only[↓vS,vT,simprocAttr];refine SL.loop (α:=Unit) (λ_=>[(47,.fz (qeb p).length (rNt (qeb p))),(48,.j ((qeb p).length:Int)),(49,.j 0)]) (λ_=>[]) (λ_=>True) (λ_=>0) () [] ?_ ?_ ?_ rfl ?_ ?_
   .simp[vw,qX]
   .trivial
   .simp
   .trivial
   rintro _ _ G2 _;simp only[vI,simprocAttr];rw[hlc];cases hu:qeb p with
   | nil =>
    simp +decide only[↓vS,vT,simprocAttr,List.length_nil];simp[vZ,h5]
   | cons a u =>
    have hgt2:0<(a::u).length:=by simp
    have hga:(rNt (a::u))[0]?=some (.j (a:Int)):=rfl;generalize(a::u).length=m at hgt2 ⊢;generalize rNt (a::u)=T at hga ⊢;have hgt:(0:Int)<(m:Int):=by omega
    simp +decide only[↓vS,vT,simprocAttr,hgt,hgt2,zzU,hga];simp[vZ,h5]
  .simp +decide only[↓vS,vT,simprocAttr,h5];rw[hlc];simp[vZ,h5]
def qgI(a:Nat):IFn:=⟨[.tmp 2],sq [.r [.m 2 (.k 0)],.r [.n 6 0,.l 7 a [.t 6],.n 5 7,.x 8 5 0,.x 9 5 1,.n 3 8,.n 4 9],.r [.n 10 4,.n 2 10],.ret]⟩
def qHC(n:Nat)(i:Ins)(j:Nat):List Nat:=(qcL i j).takeWhile λm=>decide (m<n)
def mkL(L:List Nat)(r:List Bool):List Bool:=L.foldl (λr m=>r.set m true) r
def qHQ(n:Nat):Nat->List Ins->List Bool->List Bool
 | _,[],r=>r
 | j,i::L,r=>qHQ n (j+1) L (if r.getD j false=true then mkL (qHC n i j) r else r)
def st0(n:Nat):List Bool:=(List.replicate n false).set 0 true
def wrC(i:Ins)(c:Nat):Bool:=(decide (i.code=2)||decide (i.code=3))&&decide (i.k=(c:Int))
def stS(n c j:Nat)(i:Ins)(st:List Bool×List (BitVec 16)):List Bool×List (BitVec 16) :=
 if st.1.getD j false=false then(st.1,st.2.set j (st.2.getD j 0#16 ||| cell c))else if wrC i c=true then st else(mkL (qHC n i j) st.1,st.2)
def qHX(n c:Nat):Nat->List Ins->List Bool×List (BitVec 16)->List Bool×List (BitVec 16)
 | _,[],st=>st
 | j,i::L,st=>qHX n c (j+1) L (stS n c j i st)
def qHY(p:List Ins):Nat->List (BitVec 16)->List (BitVec 16)
 | 0,out=>out
 | k+1,out=>qHY p k (qHX p.length (16-(k+1)) 0 p (st0 p.length,out)).2
def qJv(p:List Ins):List (BitVec 16):=qHY p 16 (List.replicate p.length 0#16)
def rdC(i:Ins):Bool:=(decide (i.code=96)||decide (i.code=97))&&decide (i.k<16)
def unC(rch:List Bool)(sur:List (BitVec 16))(j:Nat)(i:Ins):Bool:=rch.getD j false&&rdC i && !(sur.getD j 0#16).getLsbD i.k.toNat
def qAR(rch:List Bool)(sur:List (BitVec 16)):Nat->List Ins->List Nat->List Nat
 | _,[],l=>l
 | j,i::L,l=>qAR rch sur (j+1) L (if unC rch sur j i=true then l++[j]else l)
def qJx(p:List Ins):List Nat:=qAR (qHQ p.length 0 p (st0 p.length)) (qJv p) 0 p []
theorem qdu{c:Int}{x:Int×List UInt8×Int}(h:qag c=some x):x ∈ qaO/\x.1=c:=by
 unfold qag at h;have h1:=List.mem_of_find?_eq_some h;have h2:=List.find?_some h;exact⟨h1,by simpa using h2⟩

end Go.Kc
end
section
namespace Go.Kc
def qq2:∀x ∈ qaO,x.2.2=2->x.1=2\/x.1=3:=by decide
def qCv{c:Int}:qn c=2↔c=2\/c=3:=by
 constructor
 .intro h;unfold qn at h;cases hc:qag c with
  | none=>rw[hc]at h;cases h
  | some x =>
   rw[hc]at h;obtain⟨h1,h2⟩:=qdu hc;rw[<- h2];exact qq2 x h1 h
 .rintro (rfl|rfl)<;>decide
section
variable (p:List Ins)
end
end Go.Kc
end
section
namespace Go.Kc
variable {P:Program} {f:Nat}
structure Prg where
 dir:Int
 arch:Int
 ins:List Ins
def cPr(x:Prg):List AV:=[.j x.dir,.j x.arch,.fz x.ins.length (rP x.ins)]
def qfD(x:Prg):(cPr x).length=3:=rfl
def rPr(l:List Prg):List AV:=l.flatMap cPr
def qhF(l:List Prg):(rPr l).length=l.length*3:=qV qfD l
def xi(l:List Prg):qt (rPr l)=true:=xT (λx=>by simp[cPr,qt,clo,qr])
def qsa(p q:List Prg):rPr (p++q)=rPr p++rPr q:=List.flatMap_append
structure PrgOk (x:Prg):Prop where
 len:x.ins.length<=4096
 ins:∀i ∈ x.ins,InsOk i
def xA:IFn:=⟨[.tmp 4],sq [.r [.m 4 (.k 0)],sq [.r [.n 6 0,.e 7 6,.m 8 (.k 0)],.blk 0 (.loop (sq [.r [.s 9 8 7],.cond (.t 9) (.skip) (.exit 0),.blk 1 (sq [.r [.n 10 8,.n 5 10],.r [.n 11 1,.n 12 0,.n 13 5,.i 14 3 12 13,.v 15 3 14,⟨(some 16),.callV (.t 11) [.t 15],none⟩],.cond (.t 16) (sq [.r [.n 17 5,.n 4 17],.ret]) (.skip)]),.r [.a 18 8 1,.n 8 18]]))],.r [.q 4 (.mov (.c (.j (-1))))],.ret]⟩
def qrD(hc:qc P f xA=true):qfC 3 P f:=by
 intro α enc p g a c l hlen ha hc' hl hp;refine qa.mk hc (by simp[qt,clo,ha,hc']) ?_;simp only[xA,vI,simprocAttr];simp only[↓vS,vT,simprocAttr];refine SL.loop (α:=Nat) (λj=>[(0,.fz l.length (l.flatMap enc)),(1,.fn g a c),(7,.j l.length),(8,.j j)]) (λ_=>[]) (λj=>j<=l.length/\xI p l 0=xI p (l.drop j) j) (λj=>l.length-j) 0 [] ?_ ?_ ?_ rfl ?_ ?_
 .simp[vw,qe,ha,hc']
 .trivial
 .simp
 .simp
 rintro j ⟨hj,hI⟩ G ih;simp only[vI,simprocAttr]
 by_cases hlt:j<l.length
 .have hx:l[j]?=some l[j]:=by simp_all
  have hw:IntKind.wrap .i64 ((j:Int)+1)=(j:Int)+1:=qm (by omega) (by have:=hl;simp only[qf]at this;omega)
  have he:=qG hlen hx;have hb:j*3+3<=(l.flatMap enc).length:=by rw[qV hlen];omega
  rw[List.drop_eq_getElem_cons hlt,xI]at hI;simp only[↓vS,vT,simprocAttr,hlt,hb,he,hw];refine(hp l[j] (by simp_all)).sc ?_
  by_cases hpx:p l[j]=true
  .rw[if_pos hpx]at hI;simp only[↓vS,vT,simprocAttr,hpx,vZ,hI]
  .rw[if_neg hpx]at hI;simp only[↓vS,vT,simprocAttr,hpx,hw];refine ih (j+1) ⟨by omega,hI⟩ (by omega) _ _ (Wk.mk _ _ [] ?_ ?_ ?_ rfl)
   .simp[vw,qe,ha,hc']
   .trivial
   .simp
 .simp only[↓vS,vT,simprocAttr,hlt];rw[List.drop_eq_nil_of_le (by omega)]at hI;simp[hI,xI,vZ]
def qm1{α:Type}(p:α->Bool):∀(l:List α) (j:Nat),decide (0<=xI p l j)=l.any p
 | [],j=>by simp[xI]
 | x::l,j=>by
  rw[xI]
  by_cases h:p x=true
  .simp[h]
  .rw[if_neg h,qm1 p l (j+1)];simp[h]
def xh(a:Nat):IFn:=⟨[.tmp 4],sq [.r [.m 4 .F],.r [.n 5 0,.n 6 1,.l 7 a [.t 5,.t 6],.w 8 .geq 7 0,.n 4 8],.ret]⟩
def qu7{g:Nat}(hc:qc P f (xh g)=true)(h:qfC 3 P g)(l:List Prg)(k:Nat)(p:Prg->Bool)(hk:∀c ∈ l,qa P k [.agg (cPr c)] (.b (p c)))(hl:l.length<=qf):qa P f [.fz l.length (rPr l),.fn k [] []] (.b (l.any p)):=by
 refine qa.mk hc (by simp[qt,clo,xi]) ?_;simp only[xh,vI,simprocAttr];simp only[↓vS,vT,simprocAttr];refine(h cPr p k [] [] l qfD rfl rfl hl λx hx=>hk x hx).sc ?_
 simp only[↓vS,vT,simprocAttr];simp[vZ,<- qm1 p l 0]
def qdX(x:Prg):Bool:=decide ((atU x.ins (qeb x.ins)).2=0)&&(if x.dir=0 then decide (x.arch=6)else decide (0<=x.dir)&&decide (x.dir<8)&&decide (0<=x.arch)&&decide (x.arch<6))
def qaz(l:List Prg):Bool:=decide (l.length<=48)&&l.all qdX
def qgh(a:Nat):IFn:=⟨[.tmp 2],sq [.r [.q 1 (.box (.t 0)),.m 2 .F],.blk 0 (sq [.r [.f 4 0 1,.d 5 4,.w 6 .eql 5 0,.n 3 6],.cond (.t 3) (sq [.r [.f 7 1 1,.d 8 7,.w 9 .eql 8 6,.n 10 9,.h 11 2 1 10 true,.j 12 11 10 true,⟨(some 13),.callF a [.t 12],(some (10,true))⟩,.g 14 (.bin .eql (.t 13) (.k 0)) 10 true,.p 15 10 14,.n 2 15],.ret]) (sq [.r [.f 17 0 1,.d 18 17,.w 19 .lss 18 0,.n 20 19,.h 21 0 1 20 false,.j 22 21 20 false,.g 23 (.bin .geq (.t 22) (.k 8)) 20 false,.o 24 20 23,.n 25 24,.h 26 1 1 25 false,.j 27 26 25 false,.g 28 (.bin .lss (.t 27) (.k 0)) 25 false,.o 29 25 28,.n 30 29,.h 31 1 1 30 false,.j 32 31 30 false,.g 33 (.bin .geq (.t 32) (.k 6)) 30 false,.o 34 30 33,.n 16 34],.cond (.t 16) (sq [.r [.m 2 .F],.ret]) (.skip)])]),.r [.f 35 2 1,.d 36 35,.l 37 a [.t 36],.w 38 .eql 37 0,.n 2 38],.ret]⟩
def qgW(a:Nat):IFn:=⟨[.tmp 2],sq [.r [.q 1 (.box (.t 0)),.m 2 .F],.r [.v 3 3 1,.l 4 a [.t 3],.q 5 (.un .not (.t 4)),.n 2 5],.ret]⟩
def qjl(a b:Nat):IFn:=⟨[.tmp 2],sq [.r [.m 2 .F],.r [.n 3 0,.e 4 3,.w 5 .leq 4 48,.n 6 5,.y 7 0 6,⟨(some 8),.callF a [.t 7,(.c (.fn b [] []))],(some (6,true))⟩,.g 9 (.un .not (.t 8)) 6 true,.p 10 6 9,.n 2 10],.ret]⟩
end Go.Kc
end
