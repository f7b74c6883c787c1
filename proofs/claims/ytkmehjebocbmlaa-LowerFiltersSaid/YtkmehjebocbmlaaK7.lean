/- Part 7 of the abstract machine and of the functions' walks. Conditions: with each theorem. -/
import Derived.Test.YtkmehjebocbmlaaK6
set_option maxHeartbeats 4000000
set_option linter.unusedSectionVars false
set_option linter.unusedSimpArgs false
set_option linter.unusedVariables false
set_option linter.unnecessarySimpa false
section
namespace Go.Kc
variable [Cur]
variable {P:Program} {f:Nat}
def kU:List (List UInt8×List Int):=[([98,105,110,100],[49,361,1073741873,282,200,200]),([98,112,102],[321,357,1073742145,386,280,280]),([98,114,107],[12,45,1073741836,45,214,214]),([99,108,111,99,107,95,115,101,116,116,105,109,101],[227,264,1073742051,262,112,112]),([99,108,111,110,101],[56,120,1073741880,120,220,220]),([99,108,111,110,101,51],[435,435,-1,435,435,435]),([99,108,111,115,101],[3,6,1073741827,6,57,57]),([99,111,110,110,101,99,116],[42,362,1073741866,283,203,203]),([100,101,108,101,116,101,95,109,111,100,117,108,101],[176,129,1073742000,129,106,106]),([101,120,101,99,118,101],[59,11,1073742344,11,221,221]),([101,120,105,116],[60,1,1073741884,1,93,93]),([102,105,110,105,116,95,109,111,100,117,108,101],[313,350,1073742137,379,273,273]),([102,111,114,107],[57,2,1073741881,2,-1,-1]),([103,101,116,117,105,100],[102,24,1073741926,24,174,174]),([105,110,105,116,95,109,111,100,117,108,101],[175,128,-1,128,105,105]),([105,111,99,116,108],[16,54,1073742338,54,29,29]),([107,105,108,108],[62,37,1073741886,37,129,129]),([108,105,115,116,101,110],[50,363,1073741874,284,201,201]),([109,109,97,112],[9,90,1073741833,-1,222,222]),([109,111,117,110,116],[165,21,1073741989,21,40,40]),([109,112,114,111,116,101,99,116],[10,125,1073741834,125,226,226]),([109,117,110,109,97,112],[11,91,1073741835,91,215,215]),([111,112,101,110],[2,5,1073741826,5,-1,-1]),([111,112,101,110,97,116],[257,295,1073742081,322,56,56]),([112,101,114,115,111,110,97,108,105,116,121],[135,136,1073741959,136,92,92]),([112,107,101,121,95,109,112,114,111,116,101,99,116],[329,380,1073742153,394,288,-1]),([112,116,114,97,99,101],[101,26,1073742345,26,117,117]),([114,101,97,100],[0,3,1073741824,3,63,63]),([114,101,98,111,111,116],[169,88,1073741993,88,142,142]),([115,99,104,101,100,95,115,101,116,97,116,116,114],[314,351,1073742138,380,274,274]),([115,99,104,101,100,95,115,101,116,115,99,104,101,100,117,108,101,114],[144,156,1073741968,156,119,119]),([115,101,99,99,111,109,112],[317,354,1073742141,383,277,277]),([115,101,116,110,115],[308,346,1073742132,375,268,268]),([115,101,116,116,105,109,101,111,102,100,97,121],[164,79,1073741988,79,170,170]),([115,101,116,117,105,100],[105,23,1073741929,23,146,146]),([115,104,109,97,116],[30,397,-1,305,196,196]),([115,111,99,107,101,116],[41,359,1073741865,281,198,198]),([117,109,111,117,110,116,50],[166,52,1073741990,52,39,39]),([117,110,115,104,97,114,101],[272,310,1073742096,337,97,97]),([119,114,105,116,101],[1,4,1073741825,4,64,64])]
def qfe(x:List UInt8×List Int):List AV:=[.s x.1,.fz 6 (rI .i64 x.2)]
theorem qcY(x:List UInt8×List Int):(qfe x).length=2:=rfl
theorem qdG:kU.map (·.1)=qL.map (·.1):=rfl
def qnU(P:Program)(f:Nat):Prop:=qe P f [] (.fz 40 (kU.flatMap qfe))
theorem qaJ(s:List UInt8):x3 s=true↔s ∈ kU.map (·.1):=by
 rw[qdG];constructor
 ·exact qdo
 ·intro h;obtain⟨x,hx,rfl⟩:=List.mem_map.1 h;unfold x3;rw[List.find?_isSome];exact⟨x,hx,by simp⟩
def jn(a:Nat):IFn:=⟨[.tmp 2],.seq (.r [.m 2 .F]) (.seq (.r [.l 5 a [],.n 3 5]) (.seq (.seq (.r [.m 4 (.k 0)]) (.blk 0 (.loop (.seq (.seq (.r [.n 6 4,.n 7 3,.e 8 7,.s 9 6 8]) (.cond (.t 9) (.skip) (.exit 0))) (.seq (.blk 1 (.seq (.r [.n 12 3,.n 13 4,.i 14 2 12 13,.f 15 0 14,.d 16 15,.n 17 0,.b 18 .eql 16 17]) (.cond (.t 18) (.seq (.r [.m 2 .T]) (.ret)) (.skip)))) (.r [.n 10 4,.a 11 10 1,.n 4 11])))))) (.seq (.r [.m 2 .F]) (.ret))))⟩
theorem qpd{g1:Nat}(hc:qv P f (jn g1)=true)(h1:qnU P g1)(s:List UInt8):qe P f [.s s] (.b (x3 s)):=by
 refine qe.mk hc rfl ?_;simp only[jn,vI,simprocAttr];simp only[↓vS,vT,simprocAttr];refine h1.sc ?_;have h40:kU.length=40:=by decide
 have hlen:(kU.flatMap qfe).length=80:=by rw[xG qcY,h40]
 have hcl:qR (kU.flatMap qfe)=true:=yA fun _=>rfl
 have hget:∀j r,kU[j]?=some r->(kU.flatMap qfe)[j*2]?=some (.s r.1):=fun j r h=>jB (m:=2) qcY h (i:=0) (by decide)
 generalize hT:kU.flatMap qfe=T at hlen hcl hget;simp only[↓vS,vT,simprocAttr];refine SL.loop (α:=Nat) (fun j=>[(0,.s s),(3,.fz 40 T),(4,.i .i64 j)]) (fun _=>[]) (fun j=>j<=40∧∀r ∈ kU.take j,r.1≠s) (fun j=>40-j) 0 [] ?_ ?_ ?_ rfl ?_ ?_
 ·simp[vw,hcl]
 ·trivial
 ·simp
 ·exact⟨Nat.zero_le _,fun r hr=>by cases hr⟩
 rintro j ⟨hj,hI⟩ G ih;simp only[vI,simprocAttr]
 by_cases hlt:j<40
 ·have hx:kU[j]?=some (kU[j]'(by omega)):=zzE (by omega);have hw:IntKind.wrap .i64 ((j:Int)+1)=((j+1:Nat):Int):=by rw[qz (by omega) (by omega)];omega
  have hlt':(j:Int)<40:=by omega
  have ht:kU.take (j+1)=kU.take j++[kU[j]'(by omega)]:=by rw[List.take_add_one,hx];rfl
  have hmem:(kU[j]'(by omega)) ∈ kU:=List.getElem_mem _;have g0:=hget j _ hx;generalize (kU[j]'(by omega))=r at hx ht hmem g0
  by_cases he:r.1=s
  ·have hk:x3 s=true:=(qaJ s).2 (List.mem_map.2 ⟨r,hmem,he⟩);simp only[↓vS,vT,simprocAttr,hlt,hlt',g0,he];simp[vZ,hk]
  ·simp only[↓vS,vT,simprocAttr,hlt,hlt',g0,he,hw];refine ih (j+1) ⟨by omega,?_⟩ (by omega) _ _ (Wk.mk _ _ [] ?_ ?_ ?_ rfl)
   ·intro q hq;rw[ht] at hq;rcases List.mem_append.1 hq with h|h
    ·exact hI q h
    ·rw[List.mem_singleton.1 h];exact he
   ·simp[vw,hcl]
   ·trivial
   ·simp
 ·have hlt':¬(j:Int)<40:=by omega
  have hk:x3 s=false:=by
   rw[Bool.eq_false_iff];intro h;obtain⟨r,hr,he⟩:=List.mem_map.1 ((qaJ s).1 h);exact hI r (by rw[List.take_of_length_le (by omega)];exact hr) he
  simp only[↓vS,vT,simprocAttr,hlt'];simp[vZ,hk]
def Rng(l:List GCall):Prop:=∀c ∈ l,0<=c.act∧c.act<=4294967295
def qcl(P:Program)(f:Nat):Prop:=∀l:GList,l.calls.length<=100000->Rng l.calls->qe P f [.agg (qG l)] (.b (xo l))
theorem Qq{a:Int}(h:0<=a):a=65536*a.tdiv 65536+a.tmod 65536∧0<=a.tmod 65536∧a.tmod 65536<65536:=by
 rw[Int.tdiv_eq_ediv_of_nonneg h,Int.tmod_eq_emod_of_nonneg h];omega
theorem kn{a:Int}(h0:0<=a)(h1:a<=4294967295):0<=a.tdiv 65536∧a.tdiv 65536<4294967296:=by
 have:=Qq h0;omega
theorem wK{a:Int}(h0:0<=a)(h1:a<=4294967295):yJ a=(decide (a=0)||decide (a=2147483648)||(decide (a.tdiv 65536=5)&&decide (a.tmod 65536<=4095))):=by
 have:=Qq h0;unfold yJ;rw[Bool.eq_iff_iff];simp only[Bool.or_eq_true,Bool.and_eq_true,decide_eq_true_eq];omega
def z6(a:Nat):ICode:=.seq (.seq (.r [.m 3 (.k 0)]) (.blk 0 (.loop (.seq (.seq (.r [.n 19 3,.f 20 1 1,.d 21 20,.e 22 21,.s 23 19 22]) (.cond (.t 23) (.skip) (.exit 0))) (.seq (.blk 1 (.seq (.r [.f 26 1 1,.d 27 26,.n 28 3,.i 29 2 27 28,.f 30 1 29,.d 31 30,.n 4 31]) (.seq (.seq (.reg true [.f 32 1 1,.d 33 32,.n 34 3,.i 35 2 33 34,.f 36 0 35,.d 37 36,.l 38 a [.t 37],.q 39 (.un .not (.t 38)),.n 40 39,.z 41 3 40,.g 42 (.bin .gtr (.t 41) (.k 0)) 40 false,.z 43 42 40,.h 44 1 1 43 true,.j 45 44 43 true,.y 46 3 43,.g 47 (.bin .sub (.t 46) (.k 1)) 43 true,.g 48 (.iAddrS 2 (.t 45) (.t 47)) 43 true,.h 49 0 48 43 true,.j 50 49 43 true,.h 51 1 1 43 true,.j 52 51 43 true,.y 53 3 43,.g 54 (.iAddrS 2 (.t 52) (.t 53)) 43 true,.h 55 0 54 43 true,.j 56 55 43 true,.g 57 (.bin .geq (.t 50) (.t 56)) 43 true,.g 58 (.pick (.t 43) (.t 57) .F) 40 false,.o 59 40 58]) (.cond (.t 59) (.seq (.r [.m 2 .F]) (.ret)) (.skip))) (.seq (.r [.n 60 4,.q 61 (.bin .neq (.t 60) (.c (.i .u32 0))),.n 62 61,.y 63 4 62,.g 64 (.bin .neq (.t 63) (.c (.i .u32 2147483648))) 62 true,.p 65 62 64,.n 66 65,.y 67 4 66,.g 68 (.bin .quo (.t 67) (.c (.i .u32 65536))) 66 true,.g 69 (.bin .neq (.t 68) (.c (.i .u32 5))) 66 true,.y 70 69 66,.z 71 4 70,.g 72 (.bin .rem (.t 71) (.c (.i .u32 65536))) 70 false,.g 73 (.bin .gtr (.t 72) (.c (.i .u32 4095))) 70 false,.g 74 (.pick (.t 70) .T (.t 73)) 66 true,.p 75 66 74]) (.cond (.t 75) (.seq (.r [.m 2 .F]) (.ret)) (.skip)))))) (.r [.n 24 3,.a 25 24 1,.n 3 25])))))) (.seq (.r [.m 2 .T]) (.ret))
def jW(a:Nat):IFn:=⟨[.tmp 2],.seq (.r [.q 1 (.box (.t 0)),.m 2 .F]) (.seq (.seq (.r [.f 5 0 1,.d 6 5,.q 7 (.bin .gtr (.t 6) (.c (.i .u8 2))),.n 8 7,.h 9 0 1 8 false,.j 10 9 8 false,.g 11 (.bin .eql (.t 10) (.c (.i .u8 0))) 8 false,.z 12 11 8,.h 13 1 1 12 true,.j 14 13 12 true,.g 15 (.len false (.t 14)) 12 true,.g 16 (.bin .gtr (.t 15) (.k 0)) 12 true,.g 17 (.pick (.t 12) (.t 16) .F) 8 false,.o 18 8 17]) (.cond (.t 18) (.seq (.r [.m 2 .F]) (.ret)) (.skip))) (.cut (z6 a)))⟩
set_option maxRecDepth 8000 in
theorem qcV{g1:Nat}(h1:∀s,qe P g1 [.s s] (.b (x3 s)))(l:GList)(hl:l.calls.length<=100000)(hR:Rng l.calls){t':Tr AV}{h':Hp}(hw:Wk 0 t' h' (mkT [(1,.ptr 0 0),(2,.b false)]) (mkH 0 [.cells 0 true false (qG l)])) :
  S P 0 (z6 g1) (js [.tmp 2] fun v' h'=>Frz h' v' (.b (zD none l.calls))) t' h':=by
 refine S.weak hw (qJ ?_);simp only[z6,qG,vI,simprocAttr];simp only[↓vS,vT,simprocAttr]
 refine SL.loop (α:=Nat) (fun j=>[(1,.ptr 0 0),(2,.b false),(3,.i .i64 j)]) (fun _=>[.cells 0 true false (qG l)])
  (fun j=>j<=l.calls.length∧zD none l.calls=zD (if j=0 then none else l.calls[j-1]?) (l.calls.drop j)) (fun j=>l.calls.length-j) 0 [0] ?_ ?_ ?_ rfl ?_ ?_
 ·simp[vw,qc]
 ·simp[vw,qG]
 ·simp
 ·exact⟨Nat.zero_le _,rfl⟩
 rintro j ⟨hj,hI⟩ G ih;simp only[vI,simprocAttr,qG]
 by_cases hlt:j<l.calls.length
 ·have hx:l.calls[j]?=some l.calls[j]:=zzE hlt;have g0:(rC l.calls)[j*2]?=some (.s l.calls[j].name):=kD hx (i:=0) (by decide);have g1:(rC l.calls)[j*2+1]?=some (.i .u32 l.calls[j].act):=kD hx (i:=1) (by decide);have hw:IntKind.wrap .i64 ((j:Int)+1)=((j+1:Nat):Int):=by rw[qz (by omega) (by omega)];omega
  rw[List.drop_eq_getElem_cons hlt,zD] at hI;obtain⟨r0,r1⟩:=hR l.calls[j] (List.getElem_mem hlt);generalize hc0:l.calls[j]=c at hI hx g0 g1 r0 r1;simp only[↓vS,vT,simprocAttr,hlt,g1];refine xy ?_;simp only[↓vS,vT,simprocAttr,hlt,g0];refine (h1 c.name).pc ?_;cases hk:x3 c.name with
  | false =>
   have hw:zD none l.calls=false:=by rw[hI];simp[okC,hk]
   simp only[↓vS,vT,simprocAttr];simp[vZ,hw]
  | true =>
   by_cases h0:j=0
   ·subst h0;have hn:¬(0:Int)<((0:Nat):Int):=by decide
    have hw:IntKind.wrap .i64 (((0:Nat):Int)+1)=((1:Nat):Int):=by decide
    have hw':IntKind.wrap .i64 (0+1)=((1:Nat):Int):=by decide
    have h65:(65536:Int)≠0:=by decide
    by_cases e0:c.act=0
    ·have hok:okC c=true:=by simp[okC,hk,yJ,e0]
     simp only[↓vS,vT,simprocAttr,hn,e0,hw];refine ih 1 ⟨by omega,?_⟩ (by omega) _ _ (Wk.mk _ _ [0] ?_ ?_ ?_ rfl)
     ·rw[hI,hok];simp[hx]
     ·simp[vw,qc];exact qz (by decide) (by decide)
     ·simp[vw,qG]
     ·simp
    by_cases e1:c.act=2147483648
    ·have hok:okC c=true:=by simp[okC,hk,yJ,e1]
     simp only[↓vS,vT,simprocAttr,hn,e0,e1,hw];refine ih 1 ⟨by omega,?_⟩ (by omega) _ _ (Wk.mk _ _ [0] ?_ ?_ ?_ rfl)
     ·rw[hI,hok];simp[hx]
     ·simp[vw,qc];exact qz (by decide) (by decide)
     ·simp[vw,qG]
     ·simp
    by_cases e2:c.act.tdiv 65536=5
    ·have hwq:IntKind.wrap .u32 (c.act.tdiv 65536)=5:=by rw[e2];decide
     by_cases e3:4095<c.act.tmod 65536
     ·have e3':¬c.act.tmod 65536<=4095:=by omega
      have hwf:zD none l.calls=false:=by rw[hI];simp[okC,wK r0 r1,e0,e1,e2,e3']
      simp only[↓vS,vT,simprocAttr,hn,e0,e1,↓jw h65,↓vb h65,hwq,e3];simp[vZ,hwf]
     ·have hok:okC c=true:=by simp[okC,hk,wK r0 r1,e0,e1,e2,e3];omega
      simp only[↓vS,vT,simprocAttr,hn,e0,e1,↓jw h65,↓vb h65,hwq,e3,hw];refine ih 1 ⟨by omega,?_⟩ (by omega) _ _ (Wk.mk _ _ [0] ?_ ?_ ?_ rfl)
      ·rw[hI,hok];simp[hx]
      ·simp[vw,qc];exact qz (by decide) (by decide)
      ·simp[vw,qG]
      ·simp
    ·have hwq:¬IntKind.wrap .u32 (c.act.tdiv 65536)=5:=by rw[qb7 (kn r0 r1).1 (by have:=(kn r0 r1).2;omega)];exact e2
     have hwf:zD none l.calls=false:=by rw[hI];simp[okC,wK r0 r1,e0,e1,e2]
     simp only[↓vS,vT,simprocAttr,hn,e0,e1,↓jw h65,hwq];simp[vZ,hwf]
   ·have hp:(0:Int)<(j:Int):=by omega
    have hpl:j-1<l.calls.length:=by omega
    have hy:l.calls[j-1]?=some l.calls[j-1]:=zzE hpl;have hw2:IntKind.wrap .i64 ((j:Int)-1)=((j-1:Nat):Int):=by rw[qz (by omega) (by omega)];omega
    have g2:(rC l.calls)[(j-1)*2]?=some (.s l.calls[j-1].name):=kD hy (i:=0) (by decide);rw[if_neg h0,hy] at hI;cases hlt2:ltS l.calls[j-1].name c.name with
    | false =>
     have hwf:zD none l.calls=false:=by rw[hI];simp[hlt2]
     simp only[↓vS,vT,simprocAttr,hp,hw2,hpl,hlt,g0,g2,hlt2];simp[vZ,hwf]
    | true =>
     have h65:(65536:Int)≠0:=by decide
     by_cases e0:c.act=0
     ·have hok:okC c=true:=by simp[okC,hk,yJ,e0]
      simp only[↓vS,vT,simprocAttr,hp,hw2,hpl,hlt,g0,g2,hlt2,e0,hw];refine ih (j+1) ⟨by omega,?_⟩ (by omega) _ _ (Wk.mk _ _ [0] ?_ ?_ ?_ rfl)
      ·rw[hI,hok];simp[hlt2,hx]
      ·simp[vw,qc]
      ·simp[vw,qG]
      ·simp
     by_cases e1:c.act=2147483648
     ·have hok:okC c=true:=by simp[okC,hk,yJ,e1]
      simp only[↓vS,vT,simprocAttr,hp,hw2,hpl,hlt,g0,g2,hlt2,e0,e1,hw];refine ih (j+1) ⟨by omega,?_⟩ (by omega) _ _ (Wk.mk _ _ [0] ?_ ?_ ?_ rfl)
      ·rw[hI,hok];simp[hlt2,hx]
      ·simp[vw,qc]
      ·simp[vw,qG]
      ·simp
     by_cases e2:c.act.tdiv 65536=5
     ·have hwq:IntKind.wrap .u32 (c.act.tdiv 65536)=5:=by rw[e2];decide
      by_cases e3:4095<c.act.tmod 65536
      ·have e3':¬c.act.tmod 65536<=4095:=by omega
       have hwf:zD none l.calls=false:=by rw[hI];simp[okC,wK r0 r1,e0,e1,e2,e3']
       simp only[↓vS,vT,simprocAttr,hp,hw2,hpl,hlt,g0,g2,hlt2,e0,e1,↓jw h65,↓vb h65,hwq,e3];simp[vZ,hwf]
      ·have hok:okC c=true:=by simp[okC,hk,wK r0 r1,e0,e1,e2,e3];omega
       simp only[↓vS,vT,simprocAttr,hp,hw2,hpl,hlt,g0,g2,hlt2,e0,e1,↓jw h65,↓vb h65,hwq,e3,hw];refine ih (j+1) ⟨by omega,?_⟩ (by omega) _ _ (Wk.mk _ _ [0] ?_ ?_ ?_ rfl)
       ·rw[hI,hok];simp[hlt2,hx]
       ·simp[vw,qc]
       ·simp[vw,qG]
       ·simp
     ·have hwq:¬IntKind.wrap .u32 (c.act.tdiv 65536)=5:=by rw[qb7 (kn r0 r1).1 (by have:=(kn r0 r1).2;omega)];exact e2
      have hwf:zD none l.calls=false:=by rw[hI];simp[okC,wK r0 r1,e0,e1,e2]
      simp only[↓vS,vT,simprocAttr,hp,hw2,hpl,hlt,g0,g2,hlt2,e0,e1,↓jw h65,hwq];simp[vZ,hwf]
 ·rw[List.drop_of_length_le (by omega),zD] at hI;simp only[↓vS,vT,simprocAttr,hlt];simp[vZ,hI]
theorem qpM{g1:Nat}(hc:qv P f (jW g1)=true)(h1:∀s,qe P g1 [.s s] (.b (x3 s))):qcl P f:=by
 intro l hl hR;refine qe.mk hc rfl ?_;simp only[jW,qG,vI,simprocAttr]
 by_cases m1:2<l.mode
 ·have hw:xo l=false:=by simp[xo];omega
  simp only[↓vS,vT,simprocAttr,m1];simp[vZ,hw]
 have tail:(l.mode≠0∨l.calls=[])->xo l=zD none l.calls:=fun h=>by
  have:(decide (l.mode<=2)&&(decide (l.mode≠0)||decide (l.calls=[])))=true:=by
   simp only[Bool.and_eq_true,Bool.or_eq_true,decide_eq_true_eq];exact⟨by omega,h⟩
  unfold xo;rw[this];rfl
 by_cases m2:l.mode=0
 ·by_cases m3:(0:Int)<l.calls.length
  ·have hne:l.calls≠[]:=by intro h;rw[h] at m3;simp at m3
   have hw:xo l=false:=by simp[xo,m2,hne]
   simp only[↓vS,vT,simprocAttr,m1,m2,m3];simp[vZ,hw]
  ·have hz:l.calls=[]:=List.eq_nil_of_length_eq_zero (by omega);rw[tail (.inr hz)];simp only[↓vS,vT,simprocAttr,m1,m2,m3];refine qcV h1 l hl hR (Wk.mk _ _ [0] ?_ ?_ ?_ rfl)
   ·simp[vw]
   ·simp[vw,qG,m2]
   ·simp
 ·rw[tail (.inl m2)];simp only[↓vS,vT,simprocAttr,m1,m2];refine qcV h1 l hl hR (Wk.mk _ _ [0] ?_ ?_ ?_ rfl)
  ·simp[vw]
  ·simp[vw,qG]
  ·simp
def jH:IFn:=⟨[.tmp 4,.tmp 5],.seq (.r [.q 2 (.box (.t 0)),.m 4 (.c (.i .u32 0)),.m 5 .F]) (.seq (.seq (.r [.m 6 (.k 0)]) (.blk 0 (.loop (.seq (.seq (.r [.n 7 6,.f 8 1 2,.d 9 8,.e 10 9,.s 11 7 10]) (.cond (.t 11) (.skip) (.exit 0))) (.seq (.blk 1 (.seq (.r [.f 14 1 2,.d 15 14,.n 16 6,.i 17 2 15 16,.f 18 0 17,.d 19 18,.n 20 1,.b 21 .eql 19 20]) (.cond (.t 21) (.seq (.r [.f 22 1 2,.d 23 22,.n 24 6,.i 25 2 23 24,.f 26 1 25,.d 27 26,.n 4 27,.m 5 .T]) (.ret)) (.skip)))) (.r [.n 12 6,.a 13 12 1,.n 6 13])))))) (.seq (.r [.m 4 (.c (.i .u32 0)),.m 5 .F]) (.ret)))⟩
theorem qo8(hc:qv P f jH=true):QW P f:=by
 intro l s hl;refine qe.mk hc rfl ?_;simp only[jH,qG,vI,simprocAttr];simp only[↓vS,vT,simprocAttr];refine SL.loop (α:=Nat) (fun j=>[(1,.s s),(2,.ptr 0 0),(4,.i .u32 0),(5,.b false),(6,.i .i64 j)]) (fun _=>[.cells 0 true false (qG l)]) (fun j=>j<=l.calls.length∧xl l.calls s=xl (l.calls.drop j) s) (fun j=>l.calls.length-j) 0 [0] ?_ ?_ ?_ rfl ?_ ?_
 ·simp[vw]
 ·simp[vw,qG]
 ·simp
 ·exact⟨Nat.zero_le _,rfl⟩
 rintro j ⟨hj,hI⟩ G ih;simp only[vI,simprocAttr,qG]
 by_cases hlt:j<l.calls.length
 ·have hx:l.calls[j]?=some l.calls[j]:=zzE hlt;have g0:(rC l.calls)[j*2]?=some (.s l.calls[j].name):=kD hx (i:=0) (by decide);have g1:(rC l.calls)[j*2+1]?=some (.i .u32 l.calls[j].act):=kD hx (i:=1) (by decide);have hw:IntKind.wrap .i64 ((j:Int)+1)=((j+1:Nat):Int):=by rw[qz (by omega) (by omega)];omega
  rw[List.drop_eq_getElem_cons hlt] at hI;generalize l.calls[j]=c at hx g0 g1 hI
  by_cases he:c.name=s
  ·have hf:xl l.calls s=some c:=by rw[hI,← he,qdk]
   simp only[↓vS,vT,simprocAttr,hlt,g0,g1,he];simp[vZ,hf]
  ·have hf:xl l.calls s=xl (l.calls.drop (j+1)) s:=by rw[hI,qdl (Ne.symm he)]
   simp only[↓vS,vT,simprocAttr,hlt,g0,he,hw];refine ih (j+1) ⟨by omega,hf⟩ (by omega) _ _ (Wk.mk _ _ [0] ?_ ?_ ?_ rfl)
   ·simp[vw]
   ·simp[vw,qG]
   ·simp
 ·have hf:xl l.calls s=none:=by rw[hI,List.drop_of_length_le (by omega)];rfl
  simp only[↓vS,vT,simprocAttr,hlt];simp[vZ,hf]
def jI:IFn:=⟨[.tmp 4],.seq (.r [.q 2 (.box (.t 0)),.q 3 (.box (.t 1)),.m 4 .F]) (.seq (.seq (.r [.f 6 0 2,.d 7 6,.f 8 0 3,.d 9 8,.b 10 .neq 7 9,.n 11 10,.h 12 1 2 11 false,.j 13 12 11 false,.g 14 (.len false (.t 13)) 11 false,.h 15 1 3 11 false,.j 16 15 11 false,.g 17 (.len false (.t 16)) 11 false,.g 18 (.bin .neq (.t 14) (.t 17)) 11 false,.o 19 11 18]) (.cond (.t 19) (.seq (.r [.m 4 .F]) (.ret)) (.skip))) (.seq (.seq (.r [.m 5 (.k 0)]) (.blk 0 (.loop (.seq (.seq (.r [.n 20 5,.f 21 1 2,.d 22 21,.e 23 22,.s 24 20 23]) (.cond (.t 24) (.skip) (.exit 0))) (.seq (.blk 1 (.seq (.reg true [.f 27 1 2,.d 28 27,.n 29 5,.i 30 2 28 29,.v 31 2 30,.f 32 1 3,.d 33 32,.n 34 5,.i 35 2 33 34,.v 36 2 35,.q 37 (.eqA true [.s,.i] (.t 31) (.t 36))]) (.cond (.t 37) (.seq (.r [.m 4 .F]) (.ret)) (.skip)))) (.r [.n 25 5,.a 26 25 1,.n 5 26])))))) (.seq (.r [.m 4 .T]) (.ret))))⟩
theorem qpF(hc:qv P f jI=true)(l:GList)(hl:l.calls.length<=100000):qe P f [.agg (qG l),.agg (qG l)] (.b true):=by
 refine qe.mk hc rfl ?_;simp only[jI,qG,vI,simprocAttr];simp only[↓vS,vT,simprocAttr];refine SL.loop (α:=Nat) (fun j=>[(2,.ptr 0 0),(3,.ptr 1 0),(4,.b false),(5,.i .i64 j)]) (fun _=>[.cells 0 true false (qG l),.cells 0 true false (qG l)]) (fun _=>True) (fun j=>l.calls.length-j) 0 [0,1] ?_ ?_ ?_ rfl ?_ ?_
 ·simp[vw]
 ·simp[vw,qG]
 ·simp
 ·trivial
 rintro j-G ih;simp only[vI,simprocAttr,qG]
 by_cases hlt:j<l.calls.length
 ·have hx:l.calls[j]?=some l.calls[j]:=zzE hlt;have he:=qak hx;have hb:=QK hlt;have hw:IntKind.wrap .i64 ((j:Int)+1)=((j+1:Nat):Int):=by rw[qz (by omega) (by omega)];omega
  simp only[↓vS,vT,simprocAttr,hlt];refine xy ?_;simp +decide only[↓vS,vT,simprocAttr,hlt,hb,he,vc,hw,beq_self_eq_true];refine ih (j+1) trivial (by omega) _ _ (Wk.mk _ _ [0,1] ?_ ?_ ?_ rfl)
  ·simp[vw]
  ·simp[vw,qG]
  ·simp
 ·simp only[↓vS,vT,simprocAttr,hlt,vZ]




def qa4(x:Int):List Int->Nat->Int
 | [],_=>-1
 | y::ys,j=>if x=y then (j:Int) else qa4 x ys (j+1)
def jJ(a:Nat):IFn:=⟨[.tmp 4],.seq (.r [.q 2 (.box (.t 0)),.q 3 (.box (.t 1)),.m 4 .F]) (.seq (.seq (.r [.f 7 0 2,.d 8 7,.e 9 8,.f 10 0 3,.d 11 10,.e 12 11,.b 13 .neq 9 12,.n 14 13,.h 15 6 2 14 false,.j 16 15 14 false,.g 17 (.len false (.t 16)) 14 false,.h 18 6 3 14 false,.j 19 18 14 false,.g 20 (.len false (.t 19)) 14 false,.g 21 (.bin .neq (.t 17) (.t 20)) 14 false,.o 22 14 21]) (.cond (.t 22) (.seq (.r [.m 4 .F]) (.ret)) (.skip))) (.seq (.seq (.r [.m 5 (.k 0)]) (.blk 0 (.loop (.seq (.seq (.r [.n 23 5,.f 24 0 2,.d 25 24,.e 26 25,.s 27 23 26]) (.cond (.t 27) (.skip) (.exit 0))) (.seq (.blk 1 (.seq (.reg true [.f 30 0 2,.d 31 30,.n 32 5,.i 33 1 31 32,.d 34 33,.f 35 0 3,.d 36 35,.n 37 5,.i 38 1 36 37,.d 39 38,.b 40 .neq 34 39]) (.cond (.t 40) (.seq (.r [.m 4 .F]) (.ret)) (.skip)))) (.r [.n 28 5,.a 29 28 1,.n 5 29])))))) (.seq (.seq (.r [.m 6 (.k 0)]) (.blk 2 (.loop (.seq (.seq (.r [.n 41 6,.f 42 6 2,.d 43 42,.e 44 43,.s 45 41 44]) (.cond (.t 45) (.skip) (.exit 2))) (.seq (.blk 3 (.seq (.reg true [.f 48 6 2,.d 49 48,.n 50 6,.i 51 1 49 50,.d 52 51,.f 53 6 3,.d 54 53,.n 55 6,.i 56 1 54 55,.d 57 56,.b 58 .neq 52 57]) (.cond (.t 58) (.seq (.r [.m 4 .F]) (.ret)) (.skip)))) (.r [.n 46 6,.a 47 46 1,.n 6 47])))))) (.seq (.r [.f 59 1 2,.v 60 2 59,.f 61 1 3,.v 62 2 61,.l 63 a [.t 60,.t 62],.n 64 63,.h 65 4 2 64 true,.g 66 (.loadN 2 (.t 65)) 64 true,.h 67 4 3 64 true,.g 68 (.loadN 2 (.t 67)) 64 true,⟨(some 69),.callF a [.t 66,.t 68],(some (64,true))⟩,.p 70 64 69,.n 71 70,.h 72 3 2 71 true,.j 73 72 71 true,.h 74 3 3 71 true,.j 75 74 71 true,.g 76 (.bin .eql (.t 73) (.t 75)) 71 true,.p 77 71 76,.n 78 77,.h 79 7 2 78 true,.j 80 79 78 true,.h 81 7 3 78 true,.j 82 81 78 true,.g 83 (.bin .eql (.t 80) (.t 82)) 78 true,.p 84 78 83,.n 85 84,.h 86 8 2 85 true,.j 87 86 85 true,.h 88 8 3 85 true,.j 89 88 85 true,.g 90 (.bin .eql (.t 87) (.t 89)) 85 true,.p 91 85 90,.n 92 91,.h 93 9 2 92 true,.j 94 93 92 true,.h 95 9 3 92 true,.j 96 95 92 true,.g 97 (.eqB false (.t 94) (.t 96)) 92 true,.p 98 92 97,.n 99 98,.h 100 10 2 99 true,.j 101 100 99 true,.h 102 10 3 99 true,.j 103 102 99 true,.g 104 (.eqB false (.t 101) (.t 103)) 99 true,.p 105 99 104,.n 106 105,.h 107 11 2 106 true,.j 108 107 106 true,.h 109 11 3 106 true,.j 110 109 106 true,.g 111 (.eqB false (.t 108) (.t 110)) 106 true,.p 112 106 111,.n 113 112,.h 114 12 2 113 true,.j 115 114 113 true,.h 116 12 3 113 true,.j 117 116 113 true,.g 118 (.eqB false (.t 115) (.t 117)) 113 true,.p 119 113 118,.n 4 119]) (.ret)))))⟩
set_option maxRecDepth 8000 in
theorem qpG{g:Nat}(hc:qv P f (jJ g)=true)(hg:qk9 P g)(p:Pol)(hp:PolOk p):qe P f [.agg (qf p),.agg (qf p)] (.b true):=by
 have ha:=hp.a;have hf:=hp.f;have hcc:=hp.c;have hll:=hp.l;refine qe.mk hc rfl ?_;simp only[jJ,qf,vI,simprocAttr];simp +decide only[↓vS,vT,simprocAttr];refine SL.loop (α:=Nat) (fun j=>[(2,.ptr 0 0),(3,.ptr 1 0),(5,.i .i64 j)]) (fun _=>[.cells 0 true false (qf p),.cells 0 true false (qf p)]) (fun j=>j<=p.arches.length) (fun j=>p.arches.length-j) 0 [0,1] ?_ ?_ ?_ rfl ?_ ?_
 ·simp[vw]
 ·simp[vw,qf]
 ·simp
 ·exact Nat.zero_le _
 rintro j hj G ih;simp only[vI,simprocAttr,qf]
 by_cases hlt:j<p.arches.length
 ·have hx:p.arches[j]?=some p.arches[j]:=zzE hlt;have hw:IntKind.wrap .i64 ((j:Int)+1)=((j+1:Nat):Int):=by rw[qz (by omega) (by omega)];omega
  simp only[↓vS,vT,simprocAttr,hlt];refine xy ?_;simp +decide only[↓vS,vT,simprocAttr,hlt,Nat.mul_one,zx,hx,Option.map_some,hw,ne_eq,not_true_eq_false];refine ih (j+1) (by omega) (by omega) _ _ (Wk.mk _ _ [0,1] ?_ ?_ ?_ rfl)
  ·simp[vw]
  ·simp[vw,qf]
  ·simp
 simp only[↓vS,vT,simprocAttr,hlt];clear ih;refine SL.loop (α:=Nat) (fun j=>[(2,.ptr 0 0),(3,.ptr 1 0),(6,.i .i64 j)]) (fun _=>[.cells 0 true false (qf p),.cells 0 true false (qf p)]) (fun j=>j<=p.fams.length) (fun j=>p.fams.length-j) 0 [0,1] ?_ ?_ ?_ rfl ?_ ?_
 ·simp[vw]
 ·simp[vw,qf]
 ·simp
 ·exact Nat.zero_le _
 rintro j hj G ih;simp only[vI,simprocAttr,qf]
 by_cases hlt:j<p.fams.length
 ·have hx:p.fams[j]?=some p.fams[j]:=zzE hlt;have hw:IntKind.wrap .i64 ((j:Int)+1)=((j+1:Nat):Int):=by rw[qz (by omega) (by omega)];omega
  simp only[↓vS,vT,simprocAttr,hlt];refine xy ?_;simp +decide only[↓vS,vT,simprocAttr,hlt,Nat.mul_one,zx,hx,Option.map_some,hw,ne_eq,not_true_eq_false];refine ih (j+1) (by omega) (by omega) _ _ (Wk.mk _ _ [0,1] ?_ ?_ ?_ rfl)
  ·simp[vw]
  ·simp[vw,qf]
  ·simp
 simp only[↓vS,vT,simprocAttr,hlt];refine (hg p.filter (by omega)).sc ?_;simp only[↓vS,vT,simprocAttr];refine (hg p.log (by omega)).sc ?_;simp +decide only[↓vS,vT,simprocAttr,beq_self_eq_true];simp[vZ]
def jk:IFn:=⟨[.tmp 4],.seq (.r [.m 4 (.k 0)]) (.seq (.seq (.r [.n 6 0,.e 7 6,.m 8 (.k 0)]) (.blk 0 (.loop (.seq (.r [.s 9 8 7]) (.seq (.cond (.t 9) (.skip) (.exit 0)) (.seq (.blk 1 (.seq (.r [.n 10 8,.n 5 10]) (.seq (.r [.n 11 1,.n 12 0,.n 13 5,.i 14 1 12 13,.d 15 14,.b 16 .eql 11 15]) (.cond (.t 16) (.seq (.r [.n 17 5,.n 4 17]) (.ret)) (.skip))))) (.r [.a 18 8 1,.n 8 18]))))))) (.seq (.r [.q 4 (.mov (.c (.i .i64 (-1))))]) (.ret)))⟩
theorem qng(hc:qv P f jk=true)(xs:List Int)(x:Int)(hl:xs.length<=qd):qe P f [.fz xs.length (rI .i64 xs),.i .i64 x] (.i .i64 (qa4 x xs 0)):=by
 refine qe.mk hc (by simp[qR,clo,qb]) ?_;simp only[jk,vI,simprocAttr];simp only[↓vS,vT,simprocAttr];refine SL.loop (α:=Nat) (fun j=>[(0,.fz xs.length (rI .i64 xs)),(1,.i .i64 x),(7,.i .i64 xs.length),(8,.i .i64 j)]) (fun _=>[]) (fun j=>j<=xs.length∧qa4 x xs 0=qa4 x (xs.drop j) j) (fun j=>xs.length-j) 0 [] ?_ ?_ ?_ rfl ?_ ?_
 ·simp[vw,qb]
 ·trivial
 ·simp
 ·simp
 rintro j ⟨hj,hI⟩ G ih;simp only[vI,simprocAttr]
 by_cases hlt:j<xs.length
 ·have hx:xs[j]?=some xs[j]:=zzE hlt;have hw:IntKind.wrap .i64 ((j:Int)+1)=(j:Int)+1:=qz (by omega) (by have:=hl;simp only[qd] at this;omega)
  rw[List.drop_eq_getElem_cons hlt,qa4] at hI;simp only[↓vS,vT,simprocAttr,hlt,Nat.mul_one,zx,hx,Option.map_some,hw];split
  ·rename_i he;simp only[he,vZ,if_true] at hI ⊢;simp[hI]
  ·rename_i he;rw[if_neg he] at hI;refine ih (j+1) ⟨by omega,hI⟩ (by omega) _ _ (Wk.mk _ _ [] ?_ ?_ ?_ rfl)
   ·simp[vw,qb]
   ·trivial
   ·simp
 ·simp only[↓vS,vT,simprocAttr,hlt,vZ];rw[List.drop_eq_nil_of_le (by omega)] at hI;simp[hI,qa4]
theorem qcG(x:Int):∀(l:List Int) (j:Nat),decide (0<=qa4 x l j)=decide (x ∈ l)
 | [],j=>by simp[qa4]
 | y::l,j=>by
  rw[qa4]
  by_cases h:x=y
  ·simp[h]
  ·rw[if_neg h,qcG x l (j+1)];simp[h]
def xI(a:Nat):IFn:=⟨[.tmp 4],.seq (.r [.m 4 .F]) (.seq (.r [.n 5 0,.n 6 1,.l 7 a [.t 5,.t 6],.w 8 .geq 7 0,.n 4 8]) (.ret))⟩
theorem qiA{g:Nat}(hc:qv P f (xI g)=true)(hg:∀(xs:List Int) (x:Int),xs.length<=qd->qe P g [.fz xs.length (rI .i64 xs),.i .i64 x] (.i .i64 (qa4 x xs 0)))(xs:List Int)(x:Int)(hl:xs.length<=qd):qe P f [.fz xs.length (rI .i64 xs),.i .i64 x] (.b (decide (x ∈ xs))):=by
 refine qe.mk hc (by simp[qR,clo,qb]) ?_;simp only[xI,vI,simprocAttr];simp only[↓vS,vT,simprocAttr];refine (hg xs x hl).sc ?_;simp only[↓vS,vT,simprocAttr];simp[vZ,← qcG x xs 0]
def inA(l:List Int)(x:Int):Bool:=decide (l=[])||decide (x ∈ l)
def qaH(a:Nat):IFn:=⟨[.tmp 4],.seq (.r [.m 4 .F]) (.seq (.r [.n 5 0,.e 6 5,.w 7 .eql 6 0,.n 8 7,.z 9 0 8,.z 10 1 8,⟨(some 11),.callF a [.t 9,.t 10],(some (8,false))⟩,.o 12 8 11,.n 4 12]) (.ret))⟩
theorem qo1{g:Nat}(hc:qv P f (qaH g)=true)(hg:∀(xs:List Int) (x:Int),xs.length<=qd->qe P g [.fz xs.length (rI .i64 xs),.i .i64 x] (.b (decide (x ∈ xs))))(xs:List Int)(x:Int)(hl:xs.length<=qd):qe P f [.fz xs.length (rI .i64 xs),.i .i64 x] (.b (inA xs x)):=by
 refine qe.mk hc (by simp[qR,clo,qb]) ?_;simp only[qaH,vI,simprocAttr]
 by_cases h:xs.length=0
 ·have h':((xs.length:Int)=0)=True:=eq_true (by omega);have hn:xs=[]:=List.eq_nil_of_length_eq_zero h;simp only[↓vS,vT,simprocAttr,h'];simp[vZ,inA,hn]
 ·have h':((xs.length:Int)=0)=False:=eq_false (by omega);have hn:xs≠[]:=fun hh=>h (by rw[hh];rfl)
  simp only[↓vS,vT,simprocAttr,h'];refine (hg xs x hl).sc ?_;simp only[↓vS,vT,simprocAttr];simp[vZ,inA,hn]
def yS(a:Int):List UInt8:=if a<0∨6<=a then [] else (km.getD a.toNat ([],0)).1
def QG(a:Nat):IFn:=⟨[.tmp 2],.seq (.r [.m 2 (.c (.s []))]) (.seq (.seq (.r [.n 3 0,.w 4 .lss 3 0,.n 5 4,.z 6 0 5,.g 7 (.bin .geq (.t 6) (.k 6)) 5 false,.o 8 5 7]) (.cond (.t 8) (.seq (.r [.m 2 (.c (.s []))]) (.ret)) (.skip))) (.seq (.r [.l 9 a [],.n 10 0,.q 11 (.idxA 6 2 true (.t 9) (.t 10)),.q 12 (.fld 0 none (.t 11)),.n 2 12]) (.ret)))⟩
theorem qnR{g:Nat}(hc:qv P f (QG g)=true)(hg:qe P g [] (.agg (km.flatMap (zn .u32))))(a:Int):qe P f [.i .i64 a] (.s (yS a)):=by
 refine qe.mk hc rfl ?_;simp only[QG,vI,simprocAttr]
 by_cases h1:a<0
 ·simp only[↓vS,vT,simprocAttr,h1];simp[vZ,yS,h1]
 by_cases h2:6<=a
 ·simp only[↓vS,vT,simprocAttr,h1,h2];simp[vZ,yS,h2]
 simp only[↓vS,vT,simprocAttr,h1,h2];refine hg.sc ?_;have h3:a=0∨a=1∨a=2∨a=3∨a=4∨a=5:=by omega
 rcases h3 with rfl|rfl|rfl|rfl|rfl|rfl <;>
 ·simp only[↓vS,vT,simprocAttr,km,zn,List.flatMap_cons,List.flatMap_nil];simp[vZ,yS,km]
theorem qcf(a:Int):(yS a≠[])↔(0<=a∧a<6):=by
 unfold yS;constructor
 ·intro h
  by_cases hh:a<0∨6<=a
  ·rw[if_pos hh] at h;exact absurd rfl h
  ·omega
 ·intro h;rw[if_neg (by omega)];have h3:a=0∨a=1∨a=2∨a=3∨a=4∨a=5:=by omega
  rcases h3 with rfl|rfl|rfl|rfl|rfl|rfl<;>decide
def qP(is:Int->Bool):Option Int->List Int->Bool
 | _,[]=>true
 | o,x::l=>is x&&(o.elim true fun b=>decide (b<x))&&qP is (some x) l
def wF:IFn:=⟨[.tmp 4],.seq (.r [.m 4 .F]) (.seq (.seq (.r [.n 7 0,.e 8 7,.m 9 (.k 0)]) (.blk 0 (.loop (.seq (.r [.s 10 9 8]) (.seq (.cond (.t 10) (.skip) (.exit 0)) (.seq (.blk 1 (.seq (.r [.n 11 9,.i 12 1 7 9,.d 13 12,.n 5 11,.n 6 13]) (.seq (.r [.n 14 1,.n 15 6,⟨(some 16),.callV (.t 14) [.t 15],none⟩,.q 17 (.un .not (.t 16)),.n 18 17,.z 19 5 18,.g 20 (.bin .gtr (.t 19) (.k 0)) 18 false,.z 21 20 18,.y 22 0 21,.y 23 5 21,.g 24 (.bin .sub (.t 23) (.k 1)) 21 true,.g 25 (.iAddrS 1 (.t 22) (.t 24)) 21 true,.j 26 25 21 true,.y 27 6 21,.g 28 (.bin .geq (.t 26) (.t 27)) 21 true,.g 29 (.pick (.t 21) (.t 28) .F) 18 false,.o 30 18 29]) (.cond (.t 30) (.seq (.r [.m 4 .F]) (.ret)) (.skip))))) (.r [.a 31 9 1,.n 9 31]))))))) (.seq (.r [.m 4 .T]) (.ret)))⟩
theorem qnn(hc:qv P f wF=true)(xs:List Int)(g:Nat)(is:Int->Bool)(hg:∀x,qe P g [.i .i64 x] (.b (is x)))(hl:xs.length<=100000):qe P f [.fz xs.length (rI .i64 xs),.fn g [] []] (.b (qP is none xs)):=by
 refine qe.mk hc (by simp[qR,clo,qb]) ?_;simp only[wF,vI,simprocAttr];simp only[↓vS,vT,simprocAttr]
 refine SL.loop (α:=Nat) (fun j=>[(0,.fz xs.length (rI .i64 xs)),(1,.fn g [] []),(7,.fz xs.length (rI .i64 xs)),(8,.i .i64 xs.length),(9,.i .i64 j)]) (fun _=>[])
  (fun j=>j<=xs.length∧qP is none xs=qP is (if j=0 then none else xs[j-1]?) (xs.drop j)) (fun j=>xs.length-j) 0 [] ?_ ?_ ?_ rfl ?_ ?_
 ·simp[vw,qb]
 ·trivial
 ·simp
 ·exact⟨Nat.zero_le _,rfl⟩
 rintro j ⟨hj,hI⟩ G ih;simp only[vI,simprocAttr]
 by_cases hlt:j<xs.length
 ·have hx:xs[j]?=some xs[j]:=zzE hlt;have hw:IntKind.wrap .i64 ((j:Int)+1)=((j+1:Nat):Int):=by rw[qz (by omega) (by omega)];omega
  rw[List.drop_eq_getElem_cons hlt,qP] at hI;generalize hc0:xs[j]=c at hI hx;simp only[↓vS,vT,simprocAttr,hlt,Nat.mul_one,zx,hx,Option.map_some];refine (hg c).sc ?_;cases hk:is c with
  | false =>
   have hw:qP is none xs=false:=by rw[hI];simp[hk]
   simp only[↓vS,vT,simprocAttr];simp[vZ,hw]
  | true =>
   by_cases h0:j=0
   ·subst h0;have hn:¬(0:Int)<((0:Nat):Int):=by decide
    simp only[↓vS,vT,simprocAttr,hn,hw];refine ih 1 ⟨by omega,?_⟩ (by omega) _ _ (Wk.mk _ _ [] ?_ ?_ ?_ rfl)
    ·rw[hI,hk];simp[hx]
    ·simp[vw,qb];exact qz (by decide) (by decide)
    ·trivial
    ·simp
   ·have hp:(0:Int)<(j:Int):=by omega
    have hpl:j-1<xs.length:=by omega
    have hy:xs[j-1]?=some xs[j-1]:=zzE hpl;have hw2:IntKind.wrap .i64 ((j:Int)-1)=((j-1:Nat):Int):=by rw[qz (by omega) (by omega)];omega
    rw[if_neg h0,hy] at hI
    by_cases hlt2:c<=xs[j-1]
    ·have hwf:qP is none xs=false:=by rw[hI];simp[Int.not_lt.2 hlt2]
     simp only[↓vS,vT,simprocAttr,hp,hw2,hpl,hy,Nat.mul_one,zx,Option.map_some,hlt2];simp[vZ,hwf]
    ·simp only[↓vS,vT,simprocAttr,hp,hw2,hpl,hy,Nat.mul_one,zx,Option.map_some,hlt2,hw];refine ih (j+1) ⟨by omega,?_⟩ (by omega) _ _ (Wk.mk _ _ [] ?_ ?_ ?_ rfl)
     ·rw[hI,hk];simp[hx];omega
     ·simp[vw,qb]
     ·trivial
     ·simp
 ·rw[List.drop_of_length_le (by omega),qP] at hI;simp only[↓vS,vT,simprocAttr,hlt];simp[vZ,hI]
def jF:IFn:=⟨[.tmp 4],.seq (.r [.m 4 .F]) (.seq (.seq (.r [.n 7 0,.e 8 7,.m 9 (.k 0)]) (.blk 0 (.loop (.seq (.r [.s 10 9 8]) (.seq (.cond (.t 10) (.skip) (.exit 0)) (.seq (.blk 1 (.seq (.r [.n 11 9,.i 12 1 7 9,.d 13 12,.n 5 11,.n 6 13]) (.seq (.r [.n 14 1,.n 15 6,⟨(some 16),.callV (.t 14) [.t 15],none⟩,.q 17 (.un .not (.t 16)),.n 18 17,.z 19 5 18,.g 20 (.bin .gtr (.t 19) (.k 0)) 18 false,.z 21 20 18,.y 22 0 21,.y 23 5 21,.g 24 (.bin .sub (.t 23) (.k 1)) 21 true,.g 25 (.iAddrS 1 (.t 22) (.t 24)) 21 true,.j 26 25 21 true,.y 27 6 21,.g 28 (.bin .geq (.t 26) (.t 27)) 21 true,.g 29 (.pick (.t 21) (.t 28) .F) 18 false,.o 30 18 29]) (.cond (.t 30) (.seq (.r [.m 4 .F]) (.ret)) (.skip))))) (.r [.a 31 9 1,.n 9 31]))))))) (.seq (.r [.m 4 .T]) (.ret)))⟩
theorem qno(hc:qv P f jF=true)(xs:List Int)(g:Nat)(is:Int->Bool)(hg:∀x,qe P g [.i .u32 x] (.b (is x)))(hl:xs.length<=100000):qe P f [.fz xs.length (rI .u32 xs),.fn g [] []] (.b (qP is none xs)):=by
 refine qe.mk hc (by simp[qR,clo,qb]) ?_;simp only[jF,vI,simprocAttr];simp only[↓vS,vT,simprocAttr]
 refine SL.loop (α:=Nat) (fun j=>[(0,.fz xs.length (rI .u32 xs)),(1,.fn g [] []),(7,.fz xs.length (rI .u32 xs)),(8,.i .i64 xs.length),(9,.i .i64 j)]) (fun _=>[])
  (fun j=>j<=xs.length∧qP is none xs=qP is (if j=0 then none else xs[j-1]?) (xs.drop j)) (fun j=>xs.length-j) 0 [] ?_ ?_ ?_ rfl ?_ ?_
 ·simp[vw,qb]
 ·trivial
 ·simp
 ·exact⟨Nat.zero_le _,rfl⟩
 rintro j ⟨hj,hI⟩ G ih;simp only[vI,simprocAttr]
 by_cases hlt:j<xs.length
 ·have hx:xs[j]?=some xs[j]:=zzE hlt;have hw:IntKind.wrap .i64 ((j:Int)+1)=((j+1:Nat):Int):=by rw[qz (by omega) (by omega)];omega
  rw[List.drop_eq_getElem_cons hlt,qP] at hI;generalize hc0:xs[j]=c at hI hx;simp only[↓vS,vT,simprocAttr,hlt,Nat.mul_one,zx,hx,Option.map_some];refine (hg c).sc ?_;cases hk:is c with
  | false =>
   have hw:qP is none xs=false:=by rw[hI];simp[hk]
   simp only[↓vS,vT,simprocAttr];simp[vZ,hw]
  | true =>
   by_cases h0:j=0
   ·subst h0;have hn:¬(0:Int)<((0:Nat):Int):=by decide
    simp only[↓vS,vT,simprocAttr,hn,hw];refine ih 1 ⟨by omega,?_⟩ (by omega) _ _ (Wk.mk _ _ [] ?_ ?_ ?_ rfl)
    ·rw[hI,hk];simp[hx]
    ·simp[vw,qb];exact qz (by decide) (by decide)
    ·trivial
    ·simp
   ·have hp:(0:Int)<(j:Int):=by omega
    have hpl:j-1<xs.length:=by omega
    have hy:xs[j-1]?=some xs[j-1]:=zzE hpl;have hw2:IntKind.wrap .i64 ((j:Int)-1)=((j-1:Nat):Int):=by rw[qz (by omega) (by omega)];omega
    rw[if_neg h0,hy] at hI
    by_cases hlt2:c<=xs[j-1]
    ·have hwf:qP is none xs=false:=by rw[hI];simp[Int.not_lt.2 hlt2]
     simp only[↓vS,vT,simprocAttr,hp,hw2,hpl,hy,Nat.mul_one,zx,Option.map_some,hlt2];simp[vZ,hwf]
    ·simp only[↓vS,vT,simprocAttr,hp,hw2,hpl,hy,Nat.mul_one,zx,Option.map_some,hlt2,hw];refine ih (j+1) ⟨by omega,?_⟩ (by omega) _ _ (Wk.mk _ _ [] ?_ ?_ ?_ rfl)
     ·rw[hI,hk];simp[hx];omega
     ·simp[vw,qb]
     ·trivial
     ·simp
 ·rw[List.drop_of_length_le (by omega),qP] at hI;simp only[↓vS,vT,simprocAttr,hlt];simp[vZ,hI]
def jq(n:Int):List (List UInt8×Int)->List UInt8
 | []=>[]
 | p::l=>if p.2=n then p.1 else jq n l
def wU:IFn:=⟨[.tmp 4],.seq (.r [.m 4 (.c (.s []))]) (.seq (.seq (.r [.n 7 0,.e 8 7,.m 9 (.k 0)]) (.blk 0 (.loop (.seq (.r [.s 10 9 8]) (.seq (.cond (.t 10) (.skip) (.exit 0)) (.seq (.blk 1 (.seq (.r [.i 11 2 7 9,.v 12 2 11,.q 6 (.alloc [.s [],.i .u32 0]),.u (.store 2 (.t 6) (.t 12))]) (.seq (.r [.f 13 1 6,.d 14 13,.n 15 1,.b 16 .eql 14 15]) (.cond (.t 16) (.seq (.r [.f 17 0 6,.d 18 17,.n 4 18]) (.ret)) (.skip))))) (.r [.a 19 9 1,.n 9 19]))))))) (.seq (.r [.m 4 (.c (.s []))]) (.ret)))⟩
theorem qpj(hc:qv P f wU=true)(l:List (List UInt8×Int))(n:Int)(hl:l.length<=qd):qe P f [.fz l.length (l.flatMap (zn .u32)),.i .u32 n] (.s (jq n l)):=by
 refine qe.mk hc (by simp[qR,clo]) ?_;simp only[wU,vI,simprocAttr];simp only[↓vS,vT,simprocAttr];refine SL.loop (α:=Nat) (fun j=>[(1,.i .u32 n),(7,.fz l.length (l.flatMap (zn .u32))),(8,.i .i64 l.length),(9,.i .i64 j)]) (fun _=>[]) (fun j=>j<=l.length∧jq n l=jq n (l.drop j)) (fun j=>l.length-j) 0 [] ?_ ?_ ?_ rfl ?_ ?_
 ·simp[vw]
 ·trivial
 ·simp
 ·simp
 rintro j ⟨hj,hI⟩ G ih;simp only[vI,simprocAttr]
 by_cases hlt:j<l.length
 ·have hx:l[j]?=some l[j]:=zzE hlt;have hw:IntKind.wrap .i64 ((j:Int)+1)=(j:Int)+1:=qz (by omega) (by have:=hl;simp only[qd] at this;omega)
  have he:=jh (f:=zn .u32) (m:=2) kj hx;have hb:j*2+2<=(l.flatMap (zn .u32)).length:=by rw[xG (m:=2) kj];omega
  rw[List.drop_eq_getElem_cons hlt,jq] at hI;simp only[↓vS,vT,simprocAttr,hlt,hb,he,zn,hw];split
  ·rename_i hs;rw[hI,if_pos hs];simp only[vZ,and_self,true_and]
  ·rename_i hs;rw[if_neg hs] at hI;refine ih (j+1) ⟨by omega,hI⟩ (by omega) _ _ (Wk.mk _ _ [] ?_ ?_ ?_ rfl)
   ·simp[vw]
   ·trivial
   ·simp
 ·simp only[↓vS,vT,simprocAttr,hlt,vZ];rw[List.drop_eq_nil_of_le (by omega),jq] at hI;rw[hI]
def wE(a b:Nat):IFn:=⟨[.tmp 2],.seq (.r [.m 2 (.c (.s []))]) (.seq (.r [.l 4 a [],.q 3 (.alloc [.s [],.i .u32 0,.s [],.i .u32 0,.s [],.i .u32 0,.s [],.i .u32 0,.s [],.i .u32 0,.s [],.i .u32 0,.s [],.i .u32 0,.s [],.i .u32 0]),.u (.store 16 (.t 3) (.t 4))]) (.seq (.r [.q 5 (.slcA 8 2 (.t 3) none none none),.n 6 0,.l 7 b [.t 5,.t 6],.n 2 7]) (.ret)))⟩
theorem qls{g1 g2:Nat}(hc:qv P f (wE g1 g2)=true)(h1:qe P g1 [] (.agg (qF.flatMap (zn .u32))))(h2:∀(l:List (List UInt8×Int)) (n:Int),l.length<=qd->qe P g2 [.fz l.length (l.flatMap (zn .u32)),.i .u32 n] (.s (jq n l)))(n:Int):qe P f [.i .u32 n] (.s (jq n qF)):=by
 refine qe.mk hc rfl ?_;simp only[wE,vI,simprocAttr];simp only[↓vS,vT,simprocAttr];refine h1.sc ?_;simp only[↓vS,vT,simprocAttr,qF,zn,List.flatMap_cons,List.flatMap_nil];refine (h2 qF n (by decide)).lend (vs':=[.fz 8 (qF.flatMap (zn .u32)),.i .u32 n]) ?_ rfl ?_
 ·refine .cons _ _ _ _ (.cut 2 rfl (Nat.le_refl _) ?_) (.cons _ _ _ _ (.i _ _) .nil);simp[vw,qF,zn]
 simp only[↓vS,vT,simprocAttr,vZ,and_self,qF]
def kM:IFn:=⟨[.tmp 2],.seq (.r [.q 1 (.box (.t 0)),.m 2 .F]) (.seq (.r [.f 3 1 1,.d 4 3,.q 5 (.bin .neq (.t 4) (.c (.i .u32 0))),.n 2 5]) (.ret))⟩
theorem qpO(hc:qv P f kM=true)(c:GCall):qe P f [.agg (vc c)] (.b (decide (c.act≠0))):=by
 refine qe.mk hc rfl ?_;simp only[kM,vc,vI,simprocAttr]
 by_cases h:c.act=0 <;>
 ·simp only[↓vS,vT,simprocAttr,h];simp[vZ,h]
def kN(a:Nat):IFn:=⟨[.tmp 2],.seq (.r [.m 2 .F]) (.seq (.r [.n 3 0,.l 4 a [.t 3],.q 5 (.bin .neq (.t 4) (.c (.s []))),.n 2 5]) (.ret))⟩
theorem qpP{g:Nat}(hc:qv P f (kN g)=true)(hg:∀a,qe P g [.i .i64 a] (.s (yS a)))(a:Int):qe P f [.i .i64 a] (.b (decide (0<=a)&&decide (a<6))):=by
 refine qe.mk hc rfl ?_;simp only[kN,vI,simprocAttr];simp only[↓vS,vT,simprocAttr];refine (hg a).sc ?_;have h:=qcf a
 by_cases h':yS a=[]
 ·have h2:(decide (0<=a)&&decide (a<6))=false:=by
   have:=mt h.2 (by simpa using h');simp only[Bool.and_eq_false_iff,decide_eq_false_iff_not];omega
  simp only[↓vS,vT,simprocAttr,h'];simp[vZ,h2]
 ·have h2:=h.1 h';simp only[↓vS,vT,simprocAttr,h'];simp[vZ,h2]
def yM(n:Int):Bool:=decide (jq n qF≠[])
def kO(a:Nat):IFn:=⟨[.tmp 2],.seq (.r [.m 2 .F]) (.seq (.r [.n 3 0,.l 4 a [.t 3],.q 5 (.bin .neq (.t 4) (.c (.s []))),.n 2 5]) (.ret))⟩
theorem qpQ{g:Nat}(hc:qv P f (kO g)=true)(hg:∀a,qe P g [.i .u32 a] (.s (jq a qF)))(a:Int):qe P f [.i .u32 a] (.b (yM a)):=by
 refine qe.mk hc rfl ?_;simp only[kO,vI,simprocAttr];simp only[↓vS,vT,simprocAttr];refine (hg a).sc ?_;unfold yM;generalize jq a qF=s
 by_cases h':s=[] <;>
 ·simp only[↓vS,vT,simprocAttr,h'];simp[vZ,h']
def zr(a:Nat):IFn:=⟨[.tmp 4],.seq (.r [.m 4 .F]) (.seq (.r [.n 5 0,.n 6 1,.l 7 a [.t 5,.t 6],.w 8 .geq 7 0,.n 4 8]) (.ret))⟩
theorem qcH{α:Type}(p:α->Bool):∀(l:List α) (j:Nat),decide (0<=kS p l j)=l.any p
 | [],j=>by simp[kS]
 | x::l,j=>by
  rw[kS]
  by_cases h:p x=true
  ·simp[h]
  ·rw[if_neg h,qcH p l (j+1)];simp[h]
theorem qf3{g:Nat}(hc:qv P f (zr g)=true)(h:qbz 2 P g)(l:List GCall)(k:Nat)(p:GCall->Bool)(hk:∀c,qe P k [.agg (vc c)] (.b (p c)))(hl:l.length<=qd):qe P f [.fz l.length (rC l),.fn k [] []] (.b (l.any p)):=by
 refine qe.mk hc (by simp[qR,clo,qc]) ?_;simp only[zr,vI,simprocAttr];simp only[↓vS,vT,simprocAttr];refine (h vc p k [] [] l yx rfl rfl hl fun x _=>hk x).sc ?_
 simp only[↓vS,vT,simprocAttr];simp[vZ,← qcH p l 0]
def j6(a b c d e g h i:Nat):ICode:=.seq (.reg true [.n 46 3,.n 47 46,.y 48 4 47,.p 49 47 48,.n 50 49,.y 51 5 50,.p 52 50 51,.n 53 52,.y 54 6 53,.p 55 53 54,.n 56 55,.y 57 7 56,.p 58 56 57,.n 59 58,.h 60 1 1 59 true,.g 61 (.loadN 2 (.t 60)) 59 true,⟨(some 62),.callF h [.t 61],(some (59,true))⟩,.p 63 59 62,.n 64 63,.h 65 4 1 64 true,.g 66 (.loadN 2 (.t 65)) 64 true,⟨(some 67),.callF h [.t 66],(some (64,true))⟩,.p 68 64 67,.n 69 68,.h 70 8 1 69 true,.j 71 70 69 true,⟨(some 72),.callF i [],(some (69,true))⟩,.g 73 (.bin .andNot (.t 71) (.t 72)) 69 true,.g 74 (.bin .eql (.t 73) (.c (.i .u64 0))) 69 true,.p 75 69 74,.n 2 75]) (.ret)
def xT(a b c d e g h i:Nat):ICode:=.seq (.r [.f 40 0 1,.d 41 40,.l 42 c [.t 41,(.c (.fn d [] []))],.n 6 42]) (.seq (.r [.f 43 6 1,.d 44 43,.l 45 e [.t 44,(.c (.fn g [] []))],.n 7 45]) (.cut (j6 a b c d e g h i)))
def xS(a b c d e g h i:Nat):ICode:=.seq (.r [.f 26 7 1,.d 27 26,.q 28 (.bin .leq (.t 27) (.c (.i .u8 2))),.n 29 28,.h 30 7 1 29 true,.j 31 30 29 true,.g 32 (.bin .neq (.t 31) (.c (.i .u8 0))) 29 true,.y 33 32 29,.h 34 6 1 33 false,.j 35 34 33 false,.g 36 (.len false (.t 35)) 33 false,.g 37 (.bin .eql (.t 36) (.k 0)) 33 false,.g 38 (.pick (.t 33) .T (.t 37)) 29 true,.p 39 29 38,.n 5 39]) (.cut (xT a b c d e g h i))
def y4(a b c d e g h i:Nat):IFn:=⟨[.tmp 2],.seq (.r [.q 1 (.box (.t 0)),.m 2 .F]) (.seq (.r [.f 8 4 1,.f 9 1 8,.d 10 9,.l 11 a [.t 10,(.c (.fn b [] []))],.q 12 (.un .not (.t 11)),.n 3 12]) (.seq (.r [.f 13 3 1,.d 14 13,.q 15 (.bin .eql (.t 14) (.c (.i .u32 2147483648))),.n 16 15,.h 17 3 1 16 false,.j 18 17 16 false,.g 19 (.bin .geq (.t 18) (.c (.i .u32 327680))) 16 false,.z 20 19 16,.h 21 3 1 20 true,.j 22 21 20 true,.g 23 (.bin .leq (.t 22) (.c (.i .u32 331775))) 20 true,.g 24 (.pick (.t 20) (.t 23) .F) 16 false,.o 25 16 24,.n 4 25]) (.cut (xS a b c d e g h i))))⟩
noncomputable def j8(p:Pol):Bool:=xo p.filter&&xo p.log&&decide (qbH .u64 p.spaces 2114060416=0)
theorem qjm{g1 g2 g3 g4 g5 g6 g7 g8:Nat}(h7:∀l:GList,l.calls.length<=100000->qe P g7 [.agg (qG l)] (.b (xo l)))
  (h8:qe P g8 [] (.i .u64 2114060416)) (p:Pol) (hp:PolOk p) (o d m a fm:Bool) {t':Tr AV} {h':Hp} (hw:Wk 0 t' h' (mkT [(1,.ptr 0 0),(2,.b false),(3,.b o),(4,.b d),(5,.b m),(6,.b a),(7,.b fm)]) (mkH 0 [.cells 0 true false (qf p)])) :
  S P 0 (j6 g1 g2 g3 g4 g5 g6 g7 g8) (js [.tmp 2] fun v' h'=>Frz h' v' (.b (o&&d&&m&&a&&fm&&j8 p))) t' h':=by
 have hcc:=hp.c;have hl:=hp.l;refine S.weak hw (qJ ?_);simp only[j6,qf,vI,simprocAttr];simp only[↓vS,vT,simprocAttr];refine xy ?_;cases o
 ·simp only[↓vS,vT,simprocAttr];simp[vZ]
 cases d
 ·simp only[↓vS,vT,simprocAttr];simp[vZ]
 cases m
 ·simp only[↓vS,vT,simprocAttr];simp[vZ]
 cases a
 ·simp only[↓vS,vT,simprocAttr];simp[vZ]
 cases fm
 ·simp only[↓vS,vT,simprocAttr];simp[vZ]
 simp only[↓vS,vT,simprocAttr];refine (h7 p.filter (by omega)).pc ?_;cases hF:xo p.filter
 ·simp only[↓vS,vT,simprocAttr];simp[vZ,j8,hF]
 simp only[↓vS,vT,simprocAttr];refine (h7 p.log (by omega)).pc ?_;cases hL:xo p.log
 ·simp only[↓vS,vT,simprocAttr];simp[vZ,j8,hF,hL]
 simp only[↓vS,vT,simprocAttr];refine h8.pc ?_;simp only[↓vS,vT,simprocAttr];simp[vZ,j8,hF,hL]
theorem qjl{g1 g2 g3 g4 g5 g6 g7 g8:Nat}(h3:∀(xs:List Int) (g:Nat) (is:Int->Bool),(∀x,qe P g [.i .i64 x] (.b (is x)))->xs.length<=100000->qe P g3 [.fz xs.length (rI .i64 xs),.fn g [] []] (.b (qP is none xs)))
  (h4:∀a,qe P g4 [.i .i64 a] (.b (decide (0<=a)&&decide (a<6))))
  (h5:∀(xs:List Int) (g:Nat) (is:Int->Bool),(∀x,qe P g [.i .u32 x] (.b (is x)))->xs.length<=100000->qe P g5 [.fz xs.length (rI .u32 xs),.fn g [] []] (.b (qP is none xs)))
  (h6:∀a,qe P g6 [.i .u32 a] (.b (yM a)))
  (h7:∀l:GList,l.calls.length<=100000->qe P g7 [.agg (qG l)] (.b (xo l)))
  (h8:qe P g8 [] (.i .u64 2114060416)) (p:Pol) (hp:PolOk p) (o d m:Bool) {t':Tr AV} {h':Hp} (hw:Wk 0 t' h' (mkT [(1,.ptr 0 0),(2,.b false),(3,.b o),(4,.b d),(5,.b m)]) (mkH 0 [.cells 0 true false (qf p)])) :
  S P 0 (xT g1 g2 g3 g4 g5 g6 g7 g8) (js [.tmp 2] fun v' h'=>Frz h' v' (.b (o&&d&&m&&qP (fun a=>decide (0<=a)&&decide (a<6)) none p.arches&&qP yM none p.fams&&j8 p))) t' h':=by
 have ha:=hp.a;have hf:=hp.f;refine S.weak hw (qJ ?_);simp only[xT,qf,vI,simprocAttr];simp only[↓vS,vT,simprocAttr];refine (h3 p.arches g4 _ h4 (by omega)).sc ?_;simp only[↓vS,vT,simprocAttr];refine (h5 p.fams g6 _ h6 (by omega)).sc ?_;simp only[↓vS,vT,simprocAttr];refine qjm h7 h8 p hp o d m _ _ (Wk.mk _ _ [0] ?_ ?_ ?_ rfl)
 ·simp[vw]
 ·simp[vw,qf,qb,qc]
 ·simp
def wn(p:Pol):Bool:=decide (p.fmode<=2)&&(decide (p.fmode≠0)||decide (p.fams=[]))
theorem qjk{g1 g2 g3 g4 g5 g6 g7 g8:Nat}(h3:∀(xs:List Int) (g:Nat) (is:Int->Bool),(∀x,qe P g [.i .i64 x] (.b (is x)))->xs.length<=100000->qe P g3 [.fz xs.length (rI .i64 xs),.fn g [] []] (.b (qP is none xs)))
  (h4:∀a,qe P g4 [.i .i64 a] (.b (decide (0<=a)&&decide (a<6))))
  (h5:∀(xs:List Int) (g:Nat) (is:Int->Bool),(∀x,qe P g [.i .u32 x] (.b (is x)))->xs.length<=100000->qe P g5 [.fz xs.length (rI .u32 xs),.fn g [] []] (.b (qP is none xs)))
  (h6:∀a,qe P g6 [.i .u32 a] (.b (yM a)))
  (h7:∀l:GList,l.calls.length<=100000->qe P g7 [.agg (qG l)] (.b (xo l)))
  (h8:qe P g8 [] (.i .u64 2114060416)) (p:Pol) (hp:PolOk p) (o d:Bool) {t':Tr AV} {h':Hp} (hw:Wk 0 t' h' (mkT [(1,.ptr 0 0),(2,.b false),(3,.b o),(4,.b d)]) (mkH 0 [.cells 0 true false (qf p)])) :
  S P 0 (xS g1 g2 g3 g4 g5 g6 g7 g8) (js [.tmp 2] fun v' h'=>Frz h' v' (.b (o&&d&&wn p&&qP (fun a=>decide (0<=a)&&decide (a<6)) none p.arches&&qP yM none p.fams&&j8 p))) t' h':=by
 refine S.weak hw (qJ ?_);simp only[xS,qf,vI,simprocAttr]
 have go:∀m,m=wn p->∀{t':Tr AV} {h':Hp},Wk 0 t' h' (mkT [(1,.ptr 0 0),(2,.b false),(3,.b o),(4,.b d),(5,.b m)]) (mkH 0 [.cells 0 true false (qf p)])->S P 0 (xT g1 g2 g3 g4 g5 g6 g7 g8) (js [.tmp 2] fun v' h'=>Frz h' v' (.b (o&&d&&wn p&&qP (fun a=>decide (0<=a)&&decide (a<6)) none p.arches&&qP yM none p.fams&&j8 p))) t' h':=by
  rintro m rfl t' h' hw;exact qjl h3 h4 h5 h6 h7 h8 p hp o d _ hw
 by_cases m1:p.fmode<=2
 ·by_cases m2:p.fmode=0
  ·by_cases m3:p.fams=[]
   ·have h0:(p.fams.length:Int)=0:=by rw[m3];rfl
    simp only[↓vS,vT,simprocAttr,m1,m2,h0];refine go true (by simp[wn,m1,m2,m3]) (Wk.mk _ _ [0] ?_ ?_ ?_ rfl)
    ·simp[vw]
    ·simp[vw,qf,qb,qc,m2]
    ·simp
   ·have h0:((p.fams.length:Int)=0)=False:=eq_false (by have:=List.length_pos_iff.2 m3;omega)
    simp only[↓vS,vT,simprocAttr,m1,m2,h0];refine go false (by simp[wn,m1,m2,m3]) (Wk.mk _ _ [0] ?_ ?_ ?_ rfl)
    ·simp[vw]
    ·simp[vw,qf,qb,qc,m2]
    ·simp
  ·simp only[↓vS,vT,simprocAttr,m1,m2];refine go true (by simp[wn,m1,m2]) (Wk.mk _ _ [0] ?_ ?_ ?_ rfl)
   ·simp[vw]
   ·simp[vw,qf,qb,qc]
   ·simp
 ·simp only[↓vS,vT,simprocAttr,m1];refine go false (by simp[wn,m1]) (Wk.mk _ _ [0] ?_ ?_ ?_ rfl)
  ·simp[vw]
  ·simp[vw,qf,qb,qc]
  ·simp
def wB(n:Int):Bool:=decide (n=2147483648)||(decide (327680<=n)&&decide (n<=331775))
noncomputable def va(p:Pol):Bool:=!(p.log.calls.any fun c=>decide (c.act≠0))&&wB p.deny&&wn p&&qP (fun a=>decide (0<=a)&&decide (a<6)) none p.arches&&qP yM none p.fams&&j8 p
theorem qnj{g1 g2 g3 g4 g5 g6 g7 g8:Nat}(hc:qv P f (y4 g1 g2 g3 g4 g5 g6 g7 g8)=true)
  (h1:∀(l:List GCall) (k:Nat) (p:GCall->Bool),(∀c,qe P k [.agg (vc c)] (.b (p c)))->l.length<=qd->qe P g1 [.fz l.length (rC l),.fn k [] []] (.b (l.any p)))
  (h2:∀c,qe P g2 [.agg (vc c)] (.b (decide (c.act≠0))))
  (h3:∀(xs:List Int) (g:Nat) (is:Int->Bool),(∀x,qe P g [.i .i64 x] (.b (is x)))->xs.length<=100000->qe P g3 [.fz xs.length (rI .i64 xs),.fn g [] []] (.b (qP is none xs)))
  (h4:∀a,qe P g4 [.i .i64 a] (.b (decide (0<=a)&&decide (a<6))))
  (h5:∀(xs:List Int) (g:Nat) (is:Int->Bool),(∀x,qe P g [.i .u32 x] (.b (is x)))->xs.length<=100000->qe P g5 [.fz xs.length (rI .u32 xs),.fn g [] []] (.b (qP is none xs)))
  (h6:∀a,qe P g6 [.i .u32 a] (.b (yM a)))
  (h7:∀l:GList,l.calls.length<=100000->qe P g7 [.agg (qG l)] (.b (xo l)))
  (h8:qe P g8 [] (.i .u64 2114060416)) (p:Pol) (hp:PolOk p):qe P f [.agg (qf p)] (.b (va p)):=by
 have hl:=hp.l;refine qe.mk hc rfl ?_
 have go:∀d,d=wB p.deny->∀{t':Tr AV} {h':Hp},Wk 0 t' h' (mkT [(1,.ptr 0 0),(2,.b false),(3,.b (!(p.log.calls.any fun c=>decide (c.act≠0)))),(4,.b d)]) (mkH 0 [.cells 0 true false (qf p)])->S P 0 (xS g1 g2 g3 g4 g5 g6 g7 g8) (js [.tmp 2] fun v' h'=>Frz h' v' (.b (va p))) t' h':=by
  rintro d rfl t' h' hw;exact qjk h3 h4 h5 h6 h7 h8 p hp _ _ hw
 simp only[y4,qf,vI,simprocAttr];simp only[↓vS,vT,simprocAttr];refine (h1 p.log.calls g2 _ h2 (by simp only[qd];omega)).sc ?_
 by_cases d1:p.deny=2147483648
 ·simp only[↓vS,vT,simprocAttr,d1];refine go true (by simp[wB,d1]) (Wk.mk _ _ [0] ?_ ?_ ?_ rfl)
  ·simp[vw]
  ·simp[vw,qf,qb,qc,d1]
  ·simp
 by_cases d2:327680<=p.deny
 ·by_cases d3:p.deny<=331775
  ·simp only[↓vS,vT,simprocAttr,d1,d2,d3];refine go true (by simp[wB,d1,d2,d3]) (Wk.mk _ _ [0] ?_ ?_ ?_ rfl)
   ·simp[vw]
   ·simp[vw,qf,qb,qc]
   ·simp
  ·simp only[↓vS,vT,simprocAttr,d1,d2,d3];refine go false (by simp[wB,d1,d2,d3]) (Wk.mk _ _ [0] ?_ ?_ ?_ rfl)
   ·simp[vw]
   ·simp[vw,qf,qb,qc]
   ·simp
 ·simp only[↓vS,vT,simprocAttr,d1,d2];refine go false (by simp[wB,d1,d2]) (Wk.mk _ _ [0] ?_ ?_ ?_ rfl)
  ·simp[vw]
  ·simp[vw,qf,qb,qc]
  ·simp
def xJ:IFn:=⟨[.tmp 0],.seq (.r [.m 0 .N]) (.seq (.r [.q 1 (.build [.s [],.i .u64 0] [(0,1,(.c (.s [65,70,95,85,78,73,88]))),(1,1,(.c (.i .u64 1)))]),.q 2 (.build [.s [],.i .u64 0] [(0,1,(.c (.s [65,70,95,73,78,69,84]))),(1,1,(.c (.i .u64 2)))]),.q 3 (.build [.s [],.i .u64 0] [(0,1,(.c (.s [65,70,95,73,78,69,84,54]))),(1,1,(.c (.i .u64 10)))]),.q 4 (.build [.s [],.i .u64 0] [(0,1,(.c (.s [65,70,95,78,69,84,76,73,78,75]))),(1,1,(.c (.i .u64 16)))]),.q 5 (.build [.s [],.i .u64 0] [(0,1,(.c (.s [65,70,95,80,65,67,75,69,84]))),(1,1,(.c (.i .u64 17)))]),.q 6 (.build [.s [],.i .u64 0] [(0,1,(.c (.s [65,70,95,66,76,85,69,84,79,79,84,72]))),(1,1,(.c (.i .u64 31)))]),.q 7 (.build [.s [],.i .u64 0] [(0,1,(.c (.s [65,70,95,65,76,71]))),(1,1,(.c (.i .u64 38)))]),.q 8 (.build [.s [],.i .u64 0] [(0,1,(.c (.s [65,70,95,86,83,79,67,75]))),(1,1,(.c (.i .u64 40)))]),.q 9 (.buildS 8 [.s [],.i .u64 0] [(0,2,(.t 1)),(2,2,(.t 2)),(4,2,(.t 3)),(6,2,(.t 4)),(8,2,(.t 5)),(10,2,(.t 6)),(12,2,(.t 7)),(14,2,(.t 8))]),.n 0 9]) (.ret))⟩
theorem qlr(hc:qv P f xJ=true):qe P f [] (.fz 8 (qF.flatMap (zn .u64))):=by
 refine qe.mk hc rfl ?_;simp only[xJ,vI,simprocAttr];simp only[↓vS,vT,simprocAttr];refine .cut 2 rfl (Nat.le_refl _) ?_;simp[vw,qF,zn]
def x9:IFn:=⟨[.tmp 0],.seq (.r [.m 0 .N]) (.seq (.r [.q 1 (.build [.s [],.i .u64 0] [(0,1,(.c (.s [116,105,109,101]))),(1,1,(.c (.i .u64 128)))]),.q 2 (.build [.s [],.i .u64 0] [(0,1,(.c (.s [109,110,116]))),(1,1,(.c (.i .u64 131072)))]),.q 3 (.build [.s [],.i .u64 0] [(0,1,(.c (.s [99,103,114,111,117,112]))),(1,1,(.c (.i .u64 33554432)))]),.q 4 (.build [.s [],.i .u64 0] [(0,1,(.c (.s [117,116,115]))),(1,1,(.c (.i .u64 67108864)))]),.q 5 (.build [.s [],.i .u64 0] [(0,1,(.c (.s [105,112,99]))),(1,1,(.c (.i .u64 134217728)))]),.q 6 (.build [.s [],.i .u64 0] [(0,1,(.c (.s [117,115,101,114]))),(1,1,(.c (.i .u64 268435456)))]),.q 7 (.build [.s [],.i .u64 0] [(0,1,(.c (.s [112,105,100]))),(1,1,(.c (.i .u64 536870912)))]),.q 8 (.build [.s [],.i .u64 0] [(0,1,(.c (.s [110,101,116]))),(1,1,(.c (.i .u64 1073741824)))]),.q 9 (.buildS 8 [.s [],.i .u64 0] [(0,2,(.t 1)),(2,2,(.t 2)),(4,2,(.t 3)),(6,2,(.t 4)),(8,2,(.t 5)),(10,2,(.t 6)),(12,2,(.t 7)),(14,2,(.t 8))]),.n 0 9]) (.ret))⟩
theorem qoJ(hc:qv P f x9=true):qe P f [] (.fz 8 (qj.flatMap (zn .u64))):=by
 refine qe.mk hc rfl ?_;simp only[x9,vI,simprocAttr];simp only[↓vS,vT,simprocAttr];refine .cut 2 rfl (Nat.le_refl _) ?_;simp[vw,qj,zn]
def jV(a:Nat):IFn:=⟨[.tmp 0],.seq (.r [.m 0 (.c (.i .u64 0))]) (.seq (.r [.l 4 a [],.n 1 4]) (.seq (.r [.m 2 (.c (.i .u64 0))]) (.seq (.seq (.r [.m 3 (.k 0)]) (.blk 0 (.loop (.seq (.seq (.r [.n 5 3,.n 6 1,.e 7 6,.s 8 5 7]) (.cond (.t 8) (.skip) (.exit 0))) (.seq (.blk 1 (.r [.n 11 2,.n 12 1,.n 13 3,.i 14 2 12 13,.f 15 1 14,.d 16 15,.b 17 .add 11 16,.n 2 17])) (.r [.n 9 3,.a 10 9 1,.n 3 10])))))) (.seq (.r [.n 18 2,.n 0 18]) (.ret)))))⟩
theorem qpL{g:Nat}(hc:qv P f (jV g)=true)(hg:qe P g [] (.fz 8 (qj.flatMap (zn .u64)))):qe P f [] (.i .u64 2114060416):=by
 refine qe.mk hc rfl ?_;simp only[jV,vI,simprocAttr];simp only[↓vS,vT,simprocAttr];refine hg.sc ?_;simp only[↓vS,vT,simprocAttr]
 iterate 8
  refine jv ?_;simp only[↓vS,vT,simprocAttr,qj,zn,List.flatMap_cons,List.flatMap_nil,Int.reduceLT,Int.reduceAdd,Int.reduceNeg,qz,vn,Int.reduceLE]
 refine jv ?_;simp only[↓vS,vT,simprocAttr,Int.reduceLT,vZ,and_self]
def jG:IFn:=⟨[.tmp 4],.seq (.r [.m 4 (.c (.s []))]) (.seq (.seq (.r [.m 5 (.k 0)]) (.blk 0 (.loop (.seq (.seq (.r [.n 6 5,.n 7 0,.e 8 7,.s 9 6 8]) (.cond (.t 9) (.skip) (.exit 0))) (.seq (.blk 1 (.seq (.r [.n 12 0,.n 13 5,.i 14 2 12 13,.f 15 1 14,.d 16 15,.n 17 1,.b 18 .eql 16 17]) (.cond (.t 18) (.seq (.r [.n 19 0,.n 20 5,.i 21 2 19 20,.f 22 0 21,.d 23 22,.n 4 23]) (.ret)) (.skip)))) (.r [.n 10 5,.a 11 10 1,.n 5 11])))))) (.seq (.r [.m 4 (.c (.s []))]) (.ret)))⟩
theorem qpf(hc:qv P f jG=true)(l:List (List UInt8×Int))(n:Int)(hl:l.length<=qd):qe P f [.fz l.length (l.flatMap (zn .u64)),.i .u64 n] (.s (jq n l)):=by
 refine qe.mk hc (by simp[qR,clo]) ?_;simp only[jG,vI,simprocAttr];simp only[↓vS,vT,simprocAttr];refine SL.loop (α:=Nat) (fun j=>[(0,.fz l.length (l.flatMap (zn .u64))),(1,.i .u64 n),(5,.i .i64 j)]) (fun _=>[]) (fun j=>j<=l.length∧jq n l=jq n (l.drop j)) (fun j=>l.length-j) 0 [] ?_ ?_ ?_ rfl ?_ ?_
 ·simp[vw]
 ·trivial
 ·simp
 ·simp
 rintro j ⟨hj,hI⟩ G ih;simp only[vI,simprocAttr]
 by_cases hlt:j<l.length
 ·have hx:l[j]?=some l[j]:=zzE hlt;have hw:IntKind.wrap .i64 ((j:Int)+1)=(j:Int)+1:=qz (by omega) (by have:=hl;simp only[qd] at this;omega)
  have g0:(l.flatMap (zn .u64))[j*2]?=some (.s l[j].1):=by simpa[zn] using jB (f:=zn .u64) (m:=2) kj hx (i:=0) (by decide)
  have g1:(l.flatMap (zn .u64))[j*2+1]?=some (.i .u64 l[j].2):=by simpa[zn] using jB (f:=zn .u64) (m:=2) kj hx (i:=1) (by decide)
  rw[List.drop_eq_getElem_cons hlt,jq] at hI;generalize hc0:l[j]=c at hI g0 g1
  by_cases hs:c.2=n
  ·rw[if_pos hs] at hI;simp only[↓vS,vT,simprocAttr,hlt,g0,g1,zn,hs];simp[vZ,hI]
  ·rw[if_neg hs] at hI;simp only[↓vS,vT,simprocAttr,hlt,g0,g1,zn,hw,hs];refine ih (j+1) ⟨by omega,hI⟩ (by omega) _ _ (Wk.mk _ _ [] ?_ ?_ ?_ rfl)
   ·simp[vw]
   ·trivial
   ·simp
 ·simp only[↓vS,vT,simprocAttr,hlt,vZ];rw[List.drop_eq_nil_of_le (by omega),jq] at hI;rw[hI]
def wl:IFn:=⟨[.tmp 4],.seq (.r [.m 4 .F]) (.seq (.seq (.r [.m 5 (.k 0)]) (.blk 0 (.loop (.seq (.seq (.r [.n 6 5,.n 7 0,.e 8 7,.s 9 6 8]) (.cond (.t 9) (.skip) (.exit 0))) (.seq (.blk 1 (.seq (.r [.n 12 0,.n 13 5,.i 14 1 12 13,.d 15 14,.n 16 1,.b 17 .eql 15 16]) (.cond (.t 17) (.seq (.r [.m 4 .T]) (.ret)) (.skip)))) (.r [.n 10 5,.a 11 10 1,.n 5 11])))))) (.seq (.r [.n 18 0,.e 19 18,.w 20 .eql 19 0,.n 4 20]) (.ret)))⟩
theorem qpS(hc:qv P f wl=true)(xs:List Int)(x:Int)(hl:xs.length<=qd):qe P f [.fz xs.length (rI .i64 xs),.i .i64 x] (.b (inA xs x)):=by
 refine qe.mk hc (by simp[qR,clo,qb]) ?_;simp only[wl,vI,simprocAttr];simp only[↓vS,vT,simprocAttr];refine SL.loop (α:=Nat) (fun j=>[(0,.fz xs.length (rI .i64 xs)),(1,.i .i64 x),(5,.i .i64 j)]) (fun _=>[]) (fun j=>j<=xs.length∧(x ∈ xs↔x ∈ xs.drop j)) (fun j=>xs.length-j) 0 [] ?_ ?_ ?_ rfl ?_ ?_
 ·simp[vw,qb]
 ·trivial
 ·simp
 ·simp
 rintro j ⟨hj,hI⟩ G ih;simp only[vI,simprocAttr]
 by_cases hlt:j<xs.length
 ·have hx:xs[j]?=some xs[j]:=zzE hlt;have hw:IntKind.wrap .i64 ((j:Int)+1)=(j:Int)+1:=qz (by omega) (by have:=hl;simp only[qd] at this;omega)
  rw[List.drop_eq_getElem_cons hlt] at hI;generalize hc0:xs[j]=c at hI hx
  by_cases hs:c=x
  ·have hm:x ∈ xs:=hI.2 (by simp[hs]);simp only[↓vS,vT,simprocAttr,hlt,Nat.mul_one,zx,hx,Option.map_some,hs];simp[vZ,inA,hm]
  ·simp only[↓vS,vT,simprocAttr,hlt,Nat.mul_one,zx,hx,Option.map_some,hs,hw];refine ih (j+1) ⟨by omega,?_⟩ (by omega) _ _ (Wk.mk _ _ [] ?_ ?_ ?_ rfl)
   ·rw[hI];simp[Ne.symm hs]
   ·simp[vw,qb]
   ·trivial
   ·simp
 ·rw[List.drop_eq_nil_of_le (by omega)] at hI;have hm:¬x ∈ xs:=fun h=>by simpa using hI.1 h
  by_cases h0:xs.length=0
  ·have h':((xs.length:Int)=0)=True:=eq_true (by omega);have hn:xs=[]:=List.eq_nil_of_length_eq_zero h0;simp only[↓vS,vT,simprocAttr,hlt,h'];simp[vZ,inA,hn]
  ·have h':((xs.length:Int)=0)=False:=eq_false (by omega);have hn:xs≠[]:=fun hh=>h0 (by rw[hh];rfl)
   simp only[↓vS,vT,simprocAttr,hlt,h'];simp[vZ,inA,hn,hm]
theorem qfu{s m:Int}(h0:0<=s)(h1:s<18446744073709551616):decide (w9 .u64 s m=s)=decide (qbH .u64 s m=0):=by
 have hs:s=((BitVec.ofInt 64 s).toNat:Int):=by
  rw[BitVec.toNat_ofInt];omega
 have hw:∀x:BitVec 64,IntKind.wrap .u64 (x.toNat:Int)=x.toNat:=fun x=>vn (by omega) (by have:=x.isLt;omega)
 have e1:w9 .u64 s m=(BitVec.ofInt 64 s &&& BitVec.ofInt 64 m).toNat:=hw _;have e2:qbH .u64 s m=(BitVec.ofInt 64 s &&& ~~~ (BitVec.ofInt 64 m)).toNat:=hw _;rw[e1,e2];generalize BitVec.ofInt 64 s=x at hs ⊢;generalize BitVec.ofInt 64 m=y;rw[hs,Bool.eq_iff_iff,decide_eq_true_eq,decide_eq_true_eq];have a1:(((x &&& y).toNat:Int)=x.toNat)↔x &&& y=x:=by rw[Int.ofNat_inj,← BitVec.toNat_inj]
 have a2:(((x &&& ~~~y).toNat:Int)=0)↔x &&& ~~~y=0:=by
  rw[← BitVec.toNat_inj];simp
 rw[a1,a2];constructor
 ·intro h;rw[← h,BitVec.and_assoc,BitVec.and_not_self];simp
 ·intro h
  have:x=(x &&& y) ||| (x &&& ~~~ y):=by
   rw[← BitVec.and_or_distrib_left,BitVec.or_not_self,BitVec.and_allOnes]
  rw[h,show (0:BitVec 64)=0#64 from rfl,BitVec.or_zero] at this;exact this.symm
structure PolR (p:Pol):Prop where
 fams:∀x ∈ p.fams,0<=x∧x<=4294967295
 deny:0<=p.deny∧p.deny<=4294967295
 spaces:0<=p.spaces∧p.spaces<18446744073709551616
 filter:Rng p.filter.calls
 log:Rng p.log.calls
noncomputable def Qh(p:Pol):Bool:=wn p&&xo p.filter&&xo p.log&&wB p.deny&&decide (qbH .u64 p.spaces 2114060416=0)
noncomputable def qcW(p:Pol):Bool:=!(p.log.calls.any fun c=>decide (c.act≠0))&&Qh p
noncomputable def qa5(p:Pol):Bool:=qP yM none p.fams&&qcW p
theorem qbS(p:Pol):va p=(qP (fun a=>decide (0<=a)&&decide (a<6)) none p.arches&&qa5 p):=by
 unfold va qa5 qcW Qh j8;generalize (p.log.calls.any fun c=>decide (c.act≠0))=a
 generalize wB p.deny=b;generalize wn p=c;generalize qP (fun a=>decide (0<=a)&&decide (a<6)) none p.arches=d
 generalize qP yM none p.fams=e;generalize xo p.filter=g;generalize xo p.log=i;generalize decide (qbH .u64 p.spaces 2114060416=0)=j;revert a b c d e g i j;decide
def zz(a b c d:Nat):ICode:=.seq (.seq (.r [.f 121 3 1,.d 122 121,.q 123 (.bin .neq (.t 122) (.c (.i .u32 2147483648))),.n 124 123,.h 125 3 1 124 true,.j 126 125 124 true,.g 127 (.bin .quo (.t 126) (.c (.i .u32 65536))) 124 true,.g 128 (.bin .neq (.t 127) (.c (.i .u32 5))) 124 true,.y 129 128 124,.h 130 3 1 129 false,.j 131 130 129 false,.g 132 (.bin .rem (.t 131) (.c (.i .u32 65536))) 129 false,.g 133 (.bin .gtr (.t 132) (.c (.i .u32 4095))) 129 false,.g 134 (.pick (.t 129) .T (.t 133)) 124 true,.p 135 124 134]) (.cond (.t 135) (.seq (.r [.m 2 .F]) (.ret)) (.skip))) (.seq (.reg true [.f 136 8 1,.d 137 136,.l 138 d [],.b 139 .and 137 138,.f 140 8 1,.d 141 140,.b 142 .eql 139 141,.n 2 142]) (.ret))
def xa(a b c d:Nat):ICode:=.seq (.seq (.r [.f 95 7 1,.d 96 95,.q 97 (.bin .gtr (.t 96) (.c (.i .u8 2))),.n 98 97,.h 99 7 1 98 false,.j 100 99 98 false,.g 101 (.bin .eql (.t 100) (.c (.i .u8 0))) 98 false,.z 102 101 98,.h 103 6 1 102 true,.j 104 103 102 true,.g 105 (.len false (.t 104)) 102 true,.g 106 (.bin .gtr (.t 105) (.k 0)) 102 true,.g 107 (.pick (.t 102) (.t 106) .F) 98 false,.o 108 98 107,.n 109 108,.h 110 1 1 109 false,.g 111 (.loadN 2 (.t 110)) 109 false,⟨(some 112),.callF c [.t 111],(some (109,false))⟩,.g 113 (.un .not (.t 112)) 109 false,.o 114 109 113,.n 115 114,.h 116 4 1 115 false,.g 117 (.loadN 2 (.t 116)) 115 false,⟨(some 118),.callF c [.t 117],(some (115,false))⟩,.g 119 (.un .not (.t 118)) 115 false,.o 120 115 119]) (.cond (.t 120) (.seq (.r [.m 2 .F]) (.ret)) (.skip))) (.cut (zz a b c d))
def z8(a b c d:Nat):ICode:=.seq (.seq (.r [.m 5 (.k 0)]) (.blk 4 (.loop (.seq (.seq (.r [.n 79 5,.f 80 4 1,.f 81 1 80,.d 82 81,.e 83 82,.s 84 79 83]) (.cond (.t 84) (.skip) (.exit 4))) (.seq (.blk 5 (.seq (.r [.f 87 4 1,.f 88 1 87,.d 89 88,.n 90 5,.i 91 2 89 90,.f 92 1 91,.d 93 92,.q 94 (.bin .neq (.t 93) (.c (.i .u32 0)))]) (.cond (.t 94) (.seq (.r [.m 2 .F]) (.ret)) (.skip)))) (.r [.n 85 5,.a 86 85 1,.n 5 86])))))) (.cut (xa a b c d))
def z7(a b c d:Nat):ICode:=.seq (.seq (.r [.m 4 (.k 0)]) (.blk 2 (.loop (.seq (.seq (.r [.n 45 4,.f 46 6 1,.d 47 46,.e 48 47,.s 49 45 48]) (.cond (.t 49) (.skip) (.exit 2))) (.seq (.blk 3 (.seq (.reg true [.l 52 a [],.f 53 6 1,.d 54 53,.n 55 4,.i 56 1 54 55,.d 57 56,.q 58 (.cvInt .u64 (.t 57)),.l 59 b [.t 52,.t 58],.q 60 (.bin .eql (.t 59) (.c (.s []))),.n 61 60,.z 62 4 61,.g 63 (.bin .gtr (.t 62) (.k 0)) 61 false,.z 64 63 61,.h 65 6 1 64 true,.j 66 65 64 true,.y 67 4 64,.g 68 (.iAddrS 1 (.t 66) (.t 67)) 64 true,.j 69 68 64 true,.h 70 6 1 64 true,.j 71 70 64 true,.y 72 4 64,.g 73 (.bin .sub (.t 72) (.k 1)) 64 true,.g 74 (.iAddrS 1 (.t 71) (.t 73)) 64 true,.j 75 74 64 true,.g 76 (.bin .leq (.t 69) (.t 75)) 64 true,.g 77 (.pick (.t 64) (.t 76) .F) 61 false,.o 78 61 77]) (.cond (.t 78) (.seq (.r [.m 2 .F]) (.ret)) (.skip)))) (.r [.n 50 4,.a 51 50 1,.n 4 51])))))) (.cut (z8 a b c d))
def jX(a b c d:Nat):IFn:=⟨[.tmp 2],.seq (.r [.q 1 (.box (.t 0)),.m 2 .F]) (.seq (.seq (.r [.m 3 (.k 0)]) (.blk 0 (.loop (.seq (.seq (.r [.n 6 3,.f 7 0 1,.d 8 7,.e 9 8,.s 10 6 9]) (.cond (.t 10) (.skip) (.exit 0))) (.seq (.blk 1 (.seq (.reg true [.f 13 0 1,.d 14 13,.n 15 3,.i 16 1 14 15,.d 17 16,.w 18 .lss 17 0,.n 19 18,.h 20 0 1 19 false,.j 21 20 19 false,.z 22 3 19,.g 23 (.iAddrS 1 (.t 21) (.t 22)) 19 false,.j 24 23 19 false,.g 25 (.bin .gtr (.t 24) (.k 5)) 19 false,.o 26 19 25,.n 27 26,.z 28 3 27,.g 29 (.bin .gtr (.t 28) (.k 0)) 27 false,.z 30 29 27,.h 31 0 1 30 true,.j 32 31 30 true,.y 33 3 30,.g 34 (.iAddrS 1 (.t 32) (.t 33)) 30 true,.j 35 34 30 true,.h 36 0 1 30 true,.j 37 36 30 true,.y 38 3 30,.g 39 (.bin .sub (.t 38) (.k 1)) 30 true,.g 40 (.iAddrS 1 (.t 37) (.t 39)) 30 true,.j 41 40 30 true,.g 42 (.bin .leq (.t 35) (.t 41)) 30 true,.g 43 (.pick (.t 30) (.t 42) .F) 27 false,.o 44 27 43]) (.cond (.t 44) (.seq (.r [.m 2 .F]) (.ret)) (.skip)))) (.r [.n 11 3,.a 12 11 1,.n 3 12])))))) (.cut (z7 a b c d)))⟩
section
variable {g1 g2 g3 g4:Nat}
set_option maxRecDepth 4000 in
theorem qgU(h4:qe P g4 [] (.i .u64 2114060416))(p:Pol)(hr:PolR p){t':Tr AV}{h':Hp}(hw:Wk 0 t' h' (mkT [(1,.ptr 0 0),(2,.b false)]) (mkH 0 [.cells 0 true false (qf p)])) :
  S P 0 (zz g1 g2 g3 g4) (js [.tmp 2] fun v' h'=>Frz h' v' (.b (wB p.deny&&decide (qbH .u64 p.spaces 2114060416=0)))) t' h':=by
 refine S.weak hw (qJ ?_);simp only[zz,qf,vI,simprocAttr];have hd:=hr.deny;have hs:=qfu (m:=2114060416) hr.spaces.1 hr.spaces.2;have h65:(65536:Int)≠0:=by decide
 have eD:wB p.deny=(decide (p.deny=2147483648)||(decide (p.deny.tdiv 65536=5)&&decide (p.deny.tmod 65536<=4095))):=by
  have:=Qq hd.1;unfold wB;rw[Bool.eq_iff_iff];simp only[Bool.or_eq_true,Bool.and_eq_true,decide_eq_true_eq];omega
 by_cases d1:p.deny=2147483648
 ·simp only[↓vS,vT,simprocAttr,d1];refine xy ?_;simp only[↓vS,vT,simprocAttr];refine h4.pc ?_;simp only[↓vS,vT,simprocAttr];simp[vZ,← hs,wB,d1]
 by_cases e2:p.deny.tdiv 65536=5
 ·have hwq:IntKind.wrap .u32 (p.deny.tdiv 65536)=5:=by rw[e2];decide
  by_cases e3:4095<p.deny.tmod 65536
  ·have hf:wB p.deny=false:=by rw[eD];simp[d1,e2];omega
   simp only[↓vS,vT,simprocAttr,d1,↓jw h65,↓vb h65,hwq,e3];simp[vZ,hf]
  ·have hf:wB p.deny=true:=by rw[eD];simp[d1,e2];omega
   simp only[↓vS,vT,simprocAttr,d1,↓jw h65,↓vb h65,hwq,e3];refine xy ?_;simp only[↓vS,vT,simprocAttr];refine h4.pc ?_;simp only[↓vS,vT,simprocAttr];simp[vZ,← hs,hf]
 ·have hwq:¬IntKind.wrap .u32 (p.deny.tdiv 65536)=5:=by rw[qb7 (kn hd.1 hd.2).1 (by have:=(kn hd.1 hd.2).2;omega)];exact e2
  have hf:wB p.deny=false:=by rw[eD];simp[d1,e2]
  simp only[↓vS,vT,simprocAttr,d1,↓jw h65,hwq];simp[vZ,hf]
theorem qgT(h3:qcl P g3)(h4:qe P g4 [] (.i .u64 2114060416))(p:Pol)(hp:PolOk p)(hr:PolR p){t':Tr AV}{h':Hp}(hw:Wk 0 t' h' (mkT [(1,.ptr 0 0),(2,.b false)]) (mkH 0 [.cells 0 true false (qf p)])) :
  S P 0 (xa g1 g2 g3 g4) (js [.tmp 2] fun v' h'=>Frz h' v' (.b (Qh p))) t' h':=by
 have hcc:=hp.c;have hl:=hp.l;refine S.weak hw (qJ ?_);simp only[xa,qf,vI,simprocAttr]
 have fin:∀{t':Tr AV} {h':Hp},wn p=true->xo p.filter=true->xo p.log=true->Wk 0 t' h' (mkT [(1,.ptr 0 0),(2,.b false)]) (mkH 0 [.cells 0 true false (qf p)])->S P 0 (zz g1 g2 g3 g4) (js [.tmp 2] fun v' h'=>Frz h' v' (.b (Qh p))) t' h':=by
  intro t' h' a b c hw;have:=qgU (g1:=g1) (g2:=g2) (g3:=g3) h4 p hr hw;have e:Qh p=(wB p.deny&&decide (qbH .u64 p.spaces 2114060416=0)):=by simp[Qh,a,b,c]
  rw[e];exact this
 by_cases m1:2<p.fmode
 ·have hm:Qh p=false:=by simp[Qh,wn];omega
  simp only[↓vS,vT,simprocAttr,m1];simp[vZ,hm]
 by_cases m2:p.fmode=0
 ·by_cases m3:p.fams=[]
  ·have h0:¬(0:Int)<p.fams.length:=by rw[m3];decide
   have hmk:wn p=true:=by simp[wn,m2,m3]
   simp only[↓vS,vT,simprocAttr,m1,m2,h0];refine (h3 p.filter (by omega) hr.filter).sc ?_;cases hF:xo p.filter
   ·simp only[↓vS,vT,simprocAttr];simp[vZ,Qh,hF]
   simp only[↓vS,vT,simprocAttr];refine (h3 p.log (by omega) hr.log).sc ?_;cases hL:xo p.log
   ·simp only[↓vS,vT,simprocAttr];simp[vZ,Qh,hL]
   simp only[↓vS,vT,simprocAttr];refine fin hmk hF hL (Wk.mk _ _ [0] ?_ ?_ ?_ rfl)
   ·simp[vw]
   ·simp[vw,qf,qb,qc,m2]
   ·simp
  ·have h0:(0:Int)<p.fams.length:=by have:=List.length_pos_iff.2 m3;omega
   have hm:Qh p=false:=by simp[Qh,wn,m2,m3]
   simp only[↓vS,vT,simprocAttr,m1,m2,h0];simp[vZ,hm]
 ·have hmk:wn p=true:=by simp[wn,m2];omega
  simp only[↓vS,vT,simprocAttr,m1,m2];refine (h3 p.filter (by omega) hr.filter).sc ?_;cases hF:xo p.filter
  ·simp only[↓vS,vT,simprocAttr];simp[vZ,Qh,hF]
  simp only[↓vS,vT,simprocAttr];refine (h3 p.log (by omega) hr.log).sc ?_;cases hL:xo p.log
  ·simp only[↓vS,vT,simprocAttr];simp[vZ,Qh,hL]
  simp only[↓vS,vT,simprocAttr];refine fin hmk hF hL (Wk.mk _ _ [0] ?_ ?_ ?_ rfl)
  ·simp[vw]
  ·simp[vw,qf,qb,qc]
  ·simp
theorem qgS(h3:qcl P g3)(h4:qe P g4 [] (.i .u64 2114060416))(p:Pol)(hp:PolOk p)(hr:PolR p){t':Tr AV}{h':Hp}(hw:Wk 0 t' h' (mkT [(1,.ptr 0 0),(2,.b false)]) (mkH 0 [.cells 0 true false (qf p)])) :
  S P 0 (z8 g1 g2 g3 g4) (js [.tmp 2] fun v' h'=>Frz h' v' (.b (qcW p))) t' h':=by
 have hl:=hp.l;refine S.weak hw (qJ ?_);simp only[z8,qf,vI,simprocAttr];simp only[↓vS,vT,simprocAttr]
 refine SL.loop (α:=Nat) (fun j=>[(1,.ptr 0 0),(2,.b false),(5,.i .i64 j)]) (fun _=>[.cells 0 true false (qf p)])
  (fun j=>j<=p.log.calls.length∧(p.log.calls.any fun c=>decide (c.act≠0))=((p.log.calls.drop j).any fun c=>decide (c.act≠0))) (fun j=>p.log.calls.length-j) 0 [0] ?_ ?_ ?_ rfl ?_ ?_
 ·simp[vw]
 ·simp[vw,qf,qb,qc]
 ·simp
 ·exact⟨Nat.zero_le _,rfl⟩
 rintro j ⟨hj,hI⟩ G ih;simp only[vI,simprocAttr,qf]
 by_cases hlt:j<p.log.calls.length
 ·have hx:p.log.calls[j]?=some p.log.calls[j]:=zzE hlt;have g1:(rC p.log.calls)[j*2+1]?=some (.i .u32 p.log.calls[j].act):=kD hx (i:=1) (by decide);have hw:IntKind.wrap .i64 ((j:Int)+1)=((j+1:Nat):Int):=by rw[qz (by omega) (by omega)];omega
  rw[List.drop_eq_getElem_cons hlt,List.any_cons] at hI;generalize hc0:p.log.calls[j]=c at hI hx g1
  by_cases h0:c.act=0
  ·simp only[↓vS,vT,simprocAttr,hlt,g1,h0,hw];refine ih (j+1) ⟨by omega,?_⟩ (by omega) _ _ (Wk.mk _ _ [0] ?_ ?_ ?_ rfl)
   ·rw[hI];simp[h0]
   ·simp[vw]
   ·simp[vw,qf,qb,qc]
   ·simp
  ·have hm:qcW p=false:=by unfold qcW;rw[hI];simp[h0]
   simp only[↓vS,vT,simprocAttr,hlt,g1,h0];simp[vZ,hm]
 ·rw[List.drop_of_length_le (by omega)] at hI;have hm:qcW p=Qh p:=by unfold qcW;rw[hI];simp
  simp only[↓vS,vT,simprocAttr,hlt];rw[hm];refine qgT h3 h4 p hp hr (Wk.mk _ _ [0] ?_ ?_ ?_ rfl)
  ·simp[vw]
  ·simp[vw,qf,qb,qc]
  ·simp
theorem qgR(h1:qe P g1 [] (.fz 8 (qF.flatMap (zn .u64))))(h2:∀(l:List (List UInt8×Int)) (n:Int),l.length<=qd->qe P g2 [.fz l.length (l.flatMap (zn .u64)),.i .u64 n] (.s (jq n l)))(h3:qcl P g3)(h4:qe P g4 [] (.i .u64 2114060416))(p:Pol)(hp:PolOk p)(hr:PolR p){t':Tr AV}{h':Hp}(hw:Wk 0 t' h' (mkT [(1,.ptr 0 0),(2,.b false)]) (mkH 0 [.cells 0 true false (qf p)])) :
  S P 0 (z7 g1 g2 g3 g4) (js [.tmp 2] fun v' h'=>Frz h' v' (.b (qa5 p))) t' h':=by
 have hl:=hp.f;refine S.weak hw (qJ ?_);simp only[z7,qf,vI,simprocAttr];simp only[↓vS,vT,simprocAttr]
 refine SL.loop (α:=Nat) (fun j=>[(1,.ptr 0 0),(2,.b false),(4,.i .i64 j)]) (fun _=>[.cells 0 true false (qf p)])
  (fun j=>j<=p.fams.length∧qP yM none p.fams=qP yM (if j=0 then none else p.fams[j-1]?) (p.fams.drop j)) (fun j=>p.fams.length-j) 0 [0] ?_ ?_ ?_ rfl ?_ ?_
 ·simp[vw]
 ·simp[vw,qf,qb,qc]
 ·simp
 ·exact⟨Nat.zero_le _,rfl⟩
 rintro j ⟨hj,hI⟩ G ih;simp only[vI,simprocAttr,qf]
 by_cases hlt:j<p.fams.length
 ·have hx:p.fams[j]?=some p.fams[j]:=zzE hlt;have hw:IntKind.wrap .i64 ((j:Int)+1)=((j+1:Nat):Int):=by rw[qz (by omega) (by omega)];omega
  have hb:=hr.fams p.fams[j] (List.getElem_mem hlt);rw[List.drop_eq_getElem_cons hlt,qP] at hI;generalize hc0:p.fams[j]=c at hI hx hb;have hcv:IntKind.wrap .u64 c=c:=vn (by omega) (by omega);simp only[↓vS,vT,simprocAttr,hlt];refine xy ?_;simp only[↓vS,vT,simprocAttr];refine h1.pc ?_;simp only[↓vS,vT,simprocAttr,hlt,Nat.mul_one,zx,hx,Option.map_some,hcv];refine (h2 qF c (by decide)).pc ?_;cases hk:yM c with
  | false =>
   have hn:jq c qF=[]:=by simpa[yM] using hk
   have hwf:qa5 p=false:=by unfold qa5;rw[hI];simp[hk]
   simp only[↓vS,vT,simprocAttr,hn];simp[vZ,hwf]
  | true =>
   have hn:(jq c qF=[])=False:=eq_false (by simpa[yM] using hk)
   by_cases h0:j=0
   ·subst h0;have hn0:¬(0:Int)<((0:Nat):Int):=by decide
    simp only[↓vS,vT,simprocAttr,hn,hn0,hw];refine ih 1 ⟨by omega,?_⟩ (by omega) _ _ (Wk.mk _ _ [0] ?_ ?_ ?_ rfl)
    ·rw[hI,hk];simp[hx]
    ·simp[vw];exact qz (by decide) (by decide)
    ·simp[vw,qf,qb,qc]
    ·simp
   ·have hp0:(0:Int)<(j:Int):=by omega
    have hpl:j-1<p.fams.length:=by omega
    have hy:p.fams[j-1]?=some p.fams[j-1]:=zzE hpl;have hw2:IntKind.wrap .i64 ((j:Int)-1)=((j-1:Nat):Int):=by rw[qz (by omega) (by omega)];omega
    rw[if_neg h0,hy] at hI
    by_cases hlt2:c<=p.fams[j-1]
    ·have hwf:qa5 p=false:=by unfold qa5;rw[hI];simp[Int.not_lt.2 hlt2]
     simp only[↓vS,vT,simprocAttr,hn,hp0,hw2,hpl,hlt,hx,hy,Nat.mul_one,zx,Option.map_some,hlt2];simp[vZ,hwf]
    ·simp only[↓vS,vT,simprocAttr,hn,hp0,hw2,hpl,hlt,hx,hy,Nat.mul_one,zx,Option.map_some,hlt2,hw];refine ih (j+1) ⟨by omega,?_⟩ (by omega) _ _ (Wk.mk _ _ [0] ?_ ?_ ?_ rfl)
     ·rw[hI,hk];simp[hx];omega
     ·simp[vw]
     ·simp[vw,qf,qb,qc]
     ·simp
 ·rw[List.drop_of_length_le (by omega),qP] at hI;have hm:qa5 p=qcW p:=by unfold qa5;rw[hI];simp
  simp only[↓vS,vT,simprocAttr,hlt];rw[hm];refine qgS h3 h4 p hp hr (Wk.mk _ _ [0] ?_ ?_ ?_ rfl)
  ·simp[vw]
  ·simp[vw,qf,qb,qc]
  ·simp
theorem qpN(hc:qv P f (jX g1 g2 g3 g4)=true)(h1:qe P g1 [] (.fz 8 (qF.flatMap (zn .u64))))(h2:∀(l:List (List UInt8×Int)) (n:Int),l.length<=qd->qe P g2 [.fz l.length (l.flatMap (zn .u64)),.i .u64 n] (.s (jq n l)))(h3:qcl P g3)(h4:qe P g4 [] (.i .u64 2114060416))(p:Pol)(hp:PolOk p)(hr:PolR p) :
  qe P f [.agg (qf p)] (.b (va p)):=by
 have hl:=hp.a;refine qe.mk hc rfl ?_;simp only[jX,qf,vI,simprocAttr];simp only[↓vS,vT,simprocAttr]
 refine SL.loop (α:=Nat) (fun j=>[(1,.ptr 0 0),(2,.b false),(3,.i .i64 j)]) (fun _=>[.cells 0 true false (qf p)])
  (fun j=>j<=p.arches.length∧qP (fun a=>decide (0<=a)&&decide (a<6)) none p.arches=qP (fun a=>decide (0<=a)&&decide (a<6)) (if j=0 then none else p.arches[j-1]?) (p.arches.drop j)) (fun j=>p.arches.length-j) 0 [0] ?_ ?_ ?_ rfl ?_ ?_
 ·simp[vw]
 ·simp[vw,qf,qb,qc]
 ·simp
 ·exact⟨Nat.zero_le _,rfl⟩
 rintro j ⟨hj,hI⟩ G ih;simp only[vI,simprocAttr,qf]
 by_cases hlt:j<p.arches.length
 ·have hx:p.arches[j]?=some p.arches[j]:=zzE hlt;have hw:IntKind.wrap .i64 ((j:Int)+1)=((j+1:Nat):Int):=by rw[qz (by omega) (by omega)];omega
  rw[List.drop_eq_getElem_cons hlt,qP] at hI;generalize hc0:p.arches[j]=c at hI hx
  have bad:¬(0<=c∧c<6)->va p=false:=fun h=>by
   rw[qbS,hI]
   have:(decide (0<=c)&&decide (c<6))=false:=by
    rw[Bool.eq_false_iff];simpa using h
   simp[this]
  simp only[↓vS,vT,simprocAttr,hlt];refine xy ?_
  by_cases k1:c<0
  ·simp only[↓vS,vT,simprocAttr,hlt,Nat.mul_one,zx,hx,Option.map_some,k1];simp[vZ,bad (by omega)]
  by_cases k2:5<c
  ·simp only[↓vS,vT,simprocAttr,hlt,Nat.mul_one,zx,hx,Option.map_some,k1,k2];simp[vZ,bad (by omega)]
  have hk:(decide (0<=c)&&decide (c<6))=true:=by simp;omega
  by_cases h0:j=0
  ·subst h0;have hn0:¬(0:Int)<((0:Nat):Int):=by decide
   simp only[↓vS,vT,simprocAttr,hlt,Nat.mul_one,zx,hx,Option.map_some,k1,k2,hn0,hw];refine ih 1 ⟨by omega,?_⟩ (by omega) _ _ (Wk.mk _ _ [0] ?_ ?_ ?_ rfl)
   ·rw[hI,hk];simp[hx]
   ·simp[vw];exact qz (by decide) (by decide)
   ·simp[vw,qf,qb,qc]
   ·simp
  ·have hp0:(0:Int)<(j:Int):=by omega
   have hpl:j-1<p.arches.length:=by omega
   have hy:p.arches[j-1]?=some p.arches[j-1]:=zzE hpl;have hw2:IntKind.wrap .i64 ((j:Int)-1)=((j-1:Nat):Int):=by rw[qz (by omega) (by omega)];omega
   rw[if_neg h0,hy] at hI
   by_cases hlt2:c<=p.arches[j-1]
   ·have hwf:va p=false:=by rw[qbS,hI];simp[Int.not_lt.2 hlt2]
    simp only[↓vS,vT,simprocAttr,k1,k2,hp0,hw2,hpl,hlt,hx,hy,Nat.mul_one,zx,Option.map_some,hlt2];simp[vZ,hwf]
   ·simp only[↓vS,vT,simprocAttr,k1,k2,hp0,hw2,hpl,hlt,hx,hy,Nat.mul_one,zx,Option.map_some,hlt2,hw];refine ih (j+1) ⟨by omega,?_⟩ (by omega) _ _ (Wk.mk _ _ [0] ?_ ?_ ?_ rfl)
    ·rw[hI,hk];simp[hx];omega
    ·simp[vw]
    ·simp[vw,qf,qb,qc]
    ·simp
 ·rw[List.drop_of_length_le (by omega),qP] at hI;have hm:va p=qa5 p:=by rw[qbS,hI];simp
  simp only[↓vS,vT,simprocAttr,hlt];rw[hm];refine qgR h1 h2 h3 h4 p hp hr (Wk.mk _ _ [0] ?_ ?_ ?_ rfl)
  ·simp[vw]
  ·simp[vw,qf,qb,qc]
  ·simp
end
structure GTest where
 arg:Int
 mask:Int
 val:Int
 act:Int
def yV(t:GTest):List AV:=[.i .i64 t.arg,.i .u64 t.mask,.i .u64 t.val,.i .u32 t.act]
theorem QX(t:GTest):(yV t).length=4:=rfl
def rT(l:List GTest):List AV:=l.flatMap yV
structure GRule where
 nr:Int
 tests:List GTest
 act:Int
def xz(r:GRule):List AV:=[.i .u32 r.nr,.fz r.tests.length (rT r.tests),.i .u32 r.act]
theorem vV(r:GRule):(xz r).length=3:=rfl
def rR(l:List GRule):List AV:=l.flatMap xz
structure GFil where
 arch:Int
 rules:List GRule
 dflt:Int
def ww(x:GFil):List AV:=[.i .i64 x.arch,.fz x.rules.length (rR x.rules),.i .u32 x.dflt]
section
variable {l m:List GTest} {j:Nat}
theorem xO:(rT l).length=l.length*4:=xG QX l
theorem zc:qR (rT l)=true:=yA fun _=>rfl
theorem qkD:qA (rT l)=true:=qat fun _=>rfl
theorem qjV{c:GTest}(h:l[j]?=some c):((rT l).drop (j*4)).take 4=yV c:=jh QX h
theorem kE:rT l++rT m=rT (l++m):=by simp[rT]
theorem qhy(h:j<l.length):j*4+4<=(rT l).length:=by rw[xO];omega
end
section
variable {l m:List GRule} {j:Nat}
theorem w4:(rR l).length=l.length*3:=xG vV l
theorem ql:qR (rR l)=true:=yA fun _=>rfl
theorem qjU{c:GRule}(h:l[j]?=some c):((rR l).drop (j*3)).take 3=xz c:=jh vV h
theorem qhx{c:GRule}(h:l[j]?=some c){i:Nat}(hi:i<3):(rR l)[j*3+i]?=(xz c)[i]?:=jB vV h hi
theorem qhv:rR l++rR m=rR (l++m):=by simp[rR]
theorem qhw(h:j<l.length):j*3+3<=(rR l).length:=by rw[w4];omega
end
def kT(x:List UInt8×List Int)(a:Int):Option Int :=
 if a<0∨6<=a∨x.2.getD a.toNat 0<0 then none else some (if a=2 then orI .u32 (IntKind.wrap .u32 (x.2.getD a.toNat 0)) 1073741824 else IntKind.wrap .u32 (x.2.getD a.toNat 0))
def ym(a:Int)(s:List UInt8):Option Int:=(qL.find? (fun x=>decide (x.1=s))).bind fun x=>kT x a
theorem kf(x:List UInt8×List Int)(i:Nat)(hi:i<6):kT x (i:Int)=if x.2.getD i 0<0 then none else some (if (i:Int)=2 then orI .u32 (IntKind.wrap .u32 (x.2.getD i 0)) 1073741824 else IntKind.wrap .u32 (x.2.getD i 0)):=by
 unfold kT;rw[Int.toNat_natCast]
 by_cases h:x.2.getD i 0<0
 ·rw[if_pos (.inr (.inr h)),if_pos h]
 ·rw[if_neg (by omega),if_neg h]
def wk:IFn:=⟨[.tmp 4,.tmp 5],.seq (.r [.q 2 (.box (.t 0)),.m 4 (.c (.i .u32 0)),.m 5 .F]) (.seq (.seq (.r [.n 7 1,.w 8 .lss 7 0,.n 9 8,.z 10 1 9,.g 11 (.bin .geq (.t 10) (.k 6)) 9 false,.o 12 9 11,.n 13 12,.z 14 1 13,.h 15 1 2 13 false,.g 16 (.iAddrA 6 1 (.t 15) (.t 14)) 13 false,.j 17 16 13 false,.g 18 (.bin .lss (.t 17) (.k 0)) 13 false,.o 19 13 18]) (.cond (.t 19) (.seq (.r [.m 4 (.c (.i .u32 0)),.m 5 .F]) (.ret)) (.skip))) (.seq (.r [.n 20 1,.f 21 1 2,.q 22 (.iAddrA 6 1 (.t 21) (.t 20)),.d 23 22,.q 24 (.cvInt .u32 (.t 23)),.n 6 24]) (.seq (.seq (.r [.n 25 1,.w 26 .eql 25 2]) (.cond (.t 26) (.r [.n 27 6,.q 28 (.bin .or (.t 27) (.c (.i .u32 1073741824))),.n 6 28]) (.skip))) (.seq (.r [.n 29 6,.n 4 29,.m 5 .T]) (.ret)))))⟩
theorem qoY(hc:qv P f wk=true)(x:List UInt8×List Int)(a:Int):qe P f [.agg (jf x),.i .i64 a] (match kT x a with|some n=>.tup [.i .u32 n,.b true]|none=>.tup [.i .u32 0,.b false]):=by
 refine qe.mk hc rfl ?_;simp only[wk,jf,vI,simprocAttr]
 by_cases h1:a<0
 ·simp only[↓vS,vT,simprocAttr,h1];simp[vZ,kT,h1]
 by_cases h2:6<=a
 ·simp only[↓vS,vT,simprocAttr,h1,h2];simp[vZ,kT,h2]
 have h3:a=0∨a=1∨a=2∨a=3∨a=4∨a=5:=by omega
 clear h1 h2;rcases h3 with rfl|rfl|rfl|rfl|rfl|rfl <;>
 ·first
   | rw[show kT x 0=_ from kf x 0 (by decide)]
   | rw[show kT x 1=_ from kf x 1 (by decide)]
   | rw[show kT x 2=_ from kf x 2 (by decide)]
   | rw[show kT x 3=_ from kf x 3 (by decide)]
   | rw[show kT x 4=_ from kf x 4 (by decide)]
   | rw[show kT x 5=_ from kf x 5 (by decide)]
  generalize x.2.getD _ 0=v0
  by_cases h4:v0<0
  ·simp +decide only[↓vS,vT,simprocAttr,h4];simp[vZ]
  ·simp +decide only[↓vS,vT,simprocAttr,h4];simp[vZ]
def vf:IFn:=⟨[.tmp 3],.seq (.r [.q 2 (.box (.t 0)),.m 3 .F]) (.seq (.r [.f 4 0 2,.d 5 4,.d 6 1,.b 7 .eql 5 6,.n 3 7]) (.ret))⟩
theorem qos(hc:qv P f vf=true)(s:List UInt8)(x:List UInt8×List Int):qe P f [.agg (jf x),.pf [.s s] 0] (.b (decide (x.1=s))):=by
 refine qe.mk hc (by simp[qR,clo,jf]) ?_;simp only[vf,jf,vI,simprocAttr];simp only[↓vS,vT,simprocAttr,vZ]
def kH(a b c:Nat):IFn:=⟨[.tmp 4,.tmp 5],.seq (.r [.q 3 (.box (.t 1)),.m 4 (.c (.i .u32 0)),.m 5 (.k 0)]) (.seq (.r [.q 11 (.mkF a [] [.t 3]),.l 12 b [.t 11],.n 10 12,.x 13 10 0,.x 14 10 1,.q 6 (.alloc [.s [],.i .i64 0,.i .i64 0,.i .i64 0,.i .i64 0,.i .i64 0,.i .i64 0]),.u (.store 7 (.t 6) (.t 13)),.n 7 14]) (.seq (.r [.v 16 7 6,.n 17 0,.l 18 c [.t 16,.t 17],.n 15 18,.x 19 15 0,.x 20 15 1,.n 8 19,.n 9 20]) (.seq (.seq (.r [.n 21 7,.q 22 (.un .not (.t 21)),.n 23 22,.z 24 9 23,.g 25 (.un .not (.t 24)) 23 false,.o 26 23 25]) (.cond (.t 26) (.seq (.r [.m 4 (.c (.i .u32 0)),.m 5 (.k 90)]) (.ret)) (.skip))) (.seq (.r [.n 27 8,.n 4 27,.m 5 (.k 0)]) (.ret)))))⟩
theorem qkz{g1 g2 g3:Nat}(hc:qv P f (kH g1 g2 g3)=true)(h1:∀s x,qe P g1 [.agg (jf x),.pf [.s s] 0] (.b (decide (x.1=s))))
  (h2:∀(p:List UInt8×List Int->Bool) (g:Nat) (a c:List AV),qR a=true->qR c=true->(∀x ∈ qL,qe P g (a++([.agg (jf x)]++c)) (.b (p x)))->qe P g2 [.fn g a c] (qbY p))
  (h3:∀x a,qe P g3 [.agg (jf x),.i .i64 a] (match kT x a with|some n=>.tup [.i .u32 n,.b true]|none=>.tup [.i .u32 0,.b false])) (a:Int) (s:List UInt8) :
  qe P f [.i .i64 a,.s s] (match ym a s with|some n=>.tup [.i .u32 n,.i .i64 0]|none=>.tup [.i .u32 0,.i .i64 90]):=by
 refine qe.mk hc rfl ?_;simp only[kH,vI,simprocAttr];simp only[↓vS,vT,simprocAttr];refine (h2 (fun x=>decide (x.1=s)) g1 [] [.pf [.s s] 0] rfl rfl (fun x _=>h1 s x)).lend (vs':=[.fn g1 [] [.pf [.s s] 0]]) ?_ ?_ ?_
 ·simp[vZ,vP,Tr.get_set]
 ·unfold qbY;split<;>rfl
 unfold qbY ym;cases hf:qL.find? (fun x=>decide (x.1=s)) with
 | none =>
  have e:=h3 ([],[0,0,0,0,0,0]) a;simp only[↓vS,vT,simprocAttr];refine e.sc ?_;cases hn:kT ([],[0,0,0,0,0,0]) a with
  | none =>
   simp only[↓vS,vT,simprocAttr];simp[vZ]
  | some n =>
   simp only[↓vS,vT,simprocAttr];simp[vZ]
 | some x =>
  simp only[jf,↓vS,vT,simprocAttr];refine (h3 x a).sc ?_;cases hn:kT x a with
  | none =>
   simp only[↓vS,vT,simprocAttr];simp[vZ,hn]
  | some n =>
   simp only[↓vS,vT,simprocAttr];simp[vZ,hn]
def qS(mode:Int)(n:Nat)(al dn:Bool):Bool:=if mode=1 then al||decide (0<n) else if mode=2 then dn||decide (0<n) else false
def yh:IFn:=⟨[.tmp 8],.seq (.r [.m 8 .F]) (.seq (.seq (.r [.n 9 0]) (.blk 0 (.seq (.r [.q 11 (.bin .eql (.t 9) (.c (.i .u8 1))),.n 10 11]) (.cond (.t 10) (.seq (.r [.n 12 2,.n 13 12,.z 14 1 13,.g 15 (.bin .gtr (.t 14) (.k 0)) 13 false,.o 16 13 15,.n 8 16]) (.ret)) (.seq (.r [.q 18 (.bin .eql (.t 9) (.c (.i .u8 2))),.n 17 18]) (.cond (.t 17) (.seq (.r [.n 19 3,.n 20 19,.z 21 1 20,.g 22 (.bin .gtr (.t 21) (.k 0)) 20 false,.o 23 20 22,.n 8 23]) (.ret)) (.skip))))))) (.seq (.r [.m 8 .F]) (.ret)))⟩
theorem qlQ(hc:qv P f yh=true)(mode:Int)(n:Nat)(al dn:Bool):qe P f [.i .u8 mode,.i .i64 n,.b al,.b dn] (.b (qS mode n al dn)):=by
 refine qe.mk hc rfl ?_;simp only[yh,vI,simprocAttr]
 by_cases m1:mode=1
 ·cases al
  ·simp only[↓vS,vT,simprocAttr,m1];simp[vZ,qS]
  ·simp only[↓vS,vT,simprocAttr,m1];simp[vZ,qS]
 by_cases m2:mode=2
 ·cases dn
  ·simp only[↓vS,vT,simprocAttr,m1,m2];simp[vZ,qS]
  ·simp only[↓vS,vT,simprocAttr,m1,m2];simp[vZ,qS]
 simp only[↓vS,vT,simprocAttr,m1,m2];simp[vZ,qS,m1,m2]
def kb:IFn:=⟨[.tmp 2],.seq (.r [.m 2 (.c (.i .u32 0))]) (.seq (.r [.m 3 (.c (.i .u32 0))]) (.seq (.seq (.r [.n 6 0,.e 7 6,.m 8 (.k 0)]) (.blk 0 (.loop (.seq (.r [.s 9 8 7]) (.seq (.cond (.t 9) (.skip) (.exit 0)) (.seq (.blk 1 (.seq (.r [.i 10 1 6 8,.d 11 10,.n 5 11]) (.seq (.r [.n 12 5,.n 13 3,.b 14 .neq 12 13]) (.cond (.t 14) (.seq (.r [.n 15 5,.n 2 15]) (.ret)) (.skip))))) (.r [.a 16 8 1,.n 8 16]))))))) (.seq (.r [.n 17 3,.n 2 17]) (.ret))))⟩
theorem qpk(hc:qv P f kb=true)(x y:Int):qe P f [.fz 2 (rI .u32 [x,y])] (.i .u32 (if x=0 then y else x)):=by
 refine qe.mk hc (by simp[qR,clo,qb]) ?_;simp only[kb,rI,List.map_cons,List.map_nil,vI,simprocAttr];simp only[↓vS,vT,simprocAttr];refine jv ?_
 by_cases h1:x=0
 ·simp only[↓vS,vT,simprocAttr,Int.reduceLT,Int.reduceAdd,qz,Int.reduceLE,Int.reduceNeg,h1];refine jv ?_
  by_cases h2:y=0
  ·simp only[↓vS,vT,simprocAttr,Int.reduceLT,Int.reduceAdd,qz,Int.reduceLE,Int.reduceNeg,h2];refine jv ?_;simp only[↓vS,vT,simprocAttr,Int.reduceLT];simp[vZ,h1,h2]
  ·simp only[↓vS,vT,simprocAttr,Int.reduceLT,Int.reduceAdd,qz,Int.reduceLE,Int.reduceNeg,h2];simp[vZ,h1]
 ·simp only[↓vS,vT,simprocAttr,Int.reduceLT,Int.reduceAdd,qz,Int.reduceLE,Int.reduceNeg,h1];simp[vZ,h1]
def qt(arg mask act:Int)(l:List Int):List GTest:=l.map fun v=>⟨arg,mask,v,act⟩
def qu(arg act:Int)(l:List Int):List GTest:=l.map fun v=>⟨arg,v,v,act⟩
def qbA(P:Program)(f:Nat):Prop:=∀(arg mask act:Int) (l:List Int),l.length<=100000->Own P f [.i .i64 arg,.i .u64 mask,.i .u32 act,.fz l.length (rI .u64 l)] (.own 0 l.length) [.cells 4 true true (rT (qt arg mask act l))]
def qbx(P:Program)(f:Nat):Prop:=∀(arg act:Int) (l:List Int),l.length<=100000->Own P f [.i .i64 arg,.i .u32 act,.fz l.length (rI .u64 l)] (.own 0 l.length) [.cells 4 true true (rT (qu arg act l))]
def yi:IFn:=⟨[.tmp 8],.seq (.r [.m 8 .N]) (.seq (.r [.m 9 .N]) (.seq (.seq (.r [.n 12 3,.e 13 12,.m 14 (.k 0)]) (.blk 0 (.loop (.seq (.r [.s 15 14 13]) (.seq (.cond (.t 15) (.skip) (.exit 0)) (.seq (.blk 1 (.seq (.r [.i 16 1 12 14,.d 17 16,.n 11 17]) (.r [.n 18 9,.n 19 0,.n 20 1,.n 21 11,.n 22 2,.q 23 (.build [.i .i64 0,.i .u64 0,.i .u64 0,.i .u32 0] [(0,1,(.t 19)),(1,1,(.t 20)),(2,1,(.t 21)),(3,1,(.t 22))]),.q 24 (.buildS 1 [.i .i64 0,.i .u64 0,.i .u64 0,.i .u32 0] [(0,4,(.t 23))]),.q 25 (.app 4 32 true (.t 18) (.t 24)),.n 9 25]))) (.r [.a 26 14 1,.n 14 26]))))))) (.seq (.r [.n 27 9,.n 8 27]) (.ret))))⟩
theorem qnr(hc:qv P f yi=true):qbA P f:=by
 intro arg mask act l hl;refine Own.mk hc (by simp[qR,clo,qb]) ?_;simp only[yi,vI,simprocAttr];simp only[↓vS,vT,simprocAttr]
 refine SL.loop (α:=Nat) (fun j=>[(0,.i .i64 arg),(1,.i .u64 mask),(2,.i .u32 act),(9,.own 0 j),(12,.fz l.length (rI .u64 l)),(13,.i .i64 l.length),(14,.i .i64 j)]) (fun j=>[.cells 4 true true (rT (qt arg mask act (l.take j)))])
  (fun j=>j<=l.length) (fun j=>l.length-j) 0 [9] ?_ ?_ ?_ rfl ?_ ?_
 ·simp[vw,qb]
 ·simp[vw,rT,qt]
 ·simp
 ·exact Nat.zero_le _
 rintro j hj G ih;simp only[vI,simprocAttr]
 by_cases hlt:j<l.length
 ·have hx:l[j]?=some l[j]:=zzE hlt;have hw:IntKind.wrap .i64 ((j:Int)+1)=((j+1:Nat):Int):=by rw[qz (by omega) (by omega)];omega
  have hr1:j+1<=qd:=by simp only[qd];omega
  have hr2:(j+1)*32<=qd:=by simp only[qd];omega
  have hln:(rT (qt arg mask act (l.take j))).length=j*4:=by rw[xO];simp[qt];omega
  have hb:j*4<=(rT (qt arg mask act (l.take j))).length:=by omega
  have htk:(rT (qt arg mask act (l.take j))).take (j*4)=rT (qt arg mask act (l.take j)):=List.take_of_length_le (by omega)
  have hap:rT (qt arg mask act (l.take j))++[AV.i .i64 arg,.i .u64 mask,.i .u64 l[j],.i .u32 act]=rT (qt arg mask act (l.take (j+1))):=by
   rw[List.take_add_one,hx];simp only[Option.toList_some,qt,List.map_append,List.map_cons,List.map_nil];rw[← kE];rfl
  simp +decide only[↓vS,vT,simprocAttr,hlt,Nat.mul_one,zx,hx,Option.map_some,hw,hr1,hr2,hln,htk,hap];refine ih (j+1) hlt (by omega) _ _ (Wk.mk _ _ [2] ?_ ?_ ?_ rfl)
  ·simp[vw,qb]
  ·simp[vw,qk,zc]
  ·simp
 ·have hj':j=l.length:=by omega
  subst hj';simp only[↓vS,vT,simprocAttr,hlt];intro _;refine⟨[0],?_⟩;simp[vw,qk,zc]
def yZ:IFn:=⟨[.tmp 6],.seq (.r [.m 6 .N]) (.seq (.r [.m 7 .N]) (.seq (.seq (.r [.n 10 2,.e 11 10,.m 12 (.k 0)]) (.blk 0 (.loop (.seq (.r [.s 13 12 11]) (.seq (.cond (.t 13) (.skip) (.exit 0)) (.seq (.blk 1 (.seq (.r [.i 14 1 10 12,.d 15 14,.n 9 15]) (.r [.n 16 7,.n 17 0,.n 18 9,.n 19 9,.n 20 1,.q 21 (.build [.i .i64 0,.i .u64 0,.i .u64 0,.i .u32 0] [(0,1,(.t 17)),(1,1,(.t 18)),(2,1,(.t 19)),(3,1,(.t 20))]),.q 22 (.buildS 1 [.i .i64 0,.i .u64 0,.i .u64 0,.i .u32 0] [(0,4,(.t 21))]),.q 23 (.app 4 32 true (.t 16) (.t 22)),.n 7 23]))) (.r [.a 24 12 1,.n 12 24]))))))) (.seq (.r [.n 25 7,.n 6 25]) (.ret))))⟩
theorem qnT(hc:qv P f yZ=true):qbx P f:=by
 intro arg act l hl;refine Own.mk hc (by simp[qR,clo,qb]) ?_;simp only[yZ,vI,simprocAttr];simp only[↓vS,vT,simprocAttr]
 refine SL.loop (α:=Nat) (fun j=>[(0,.i .i64 arg),(1,.i .u32 act),(7,.own 0 j),(10,.fz l.length (rI .u64 l)),(11,.i .i64 l.length),(12,.i .i64 j)]) (fun j=>[.cells 4 true true (rT (qu arg act (l.take j)))])
  (fun j=>j<=l.length) (fun j=>l.length-j) 0 [9] ?_ ?_ ?_ rfl ?_ ?_
 ·simp[vw,qb]
 ·simp[vw,rT,qu]
 ·simp
 ·exact Nat.zero_le _
 rintro j hj G ih;simp only[vI,simprocAttr]
 by_cases hlt:j<l.length
 ·have hx:l[j]?=some l[j]:=zzE hlt;have hw:IntKind.wrap .i64 ((j:Int)+1)=((j+1:Nat):Int):=by rw[qz (by omega) (by omega)];omega
  have hr1:j+1<=qd:=by simp only[qd];omega
  have hr2:(j+1)*32<=qd:=by simp only[qd];omega
  have hln:(rT (qu arg act (l.take j))).length=j*4:=by rw[xO];simp[qu];omega
  have htk:(rT (qu arg act (l.take j))).take (j*4)=rT (qu arg act (l.take j)):=List.take_of_length_le (by omega)
  have hap:rT (qu arg act (l.take j))++[AV.i .i64 arg,.i .u64 l[j],.i .u64 l[j],.i .u32 act]=rT (qu arg act (l.take (j+1))):=by
   rw[List.take_add_one,hx];simp only[Option.toList_some,qu,List.map_append,List.map_cons,List.map_nil];rw[← kE];rfl
  simp +decide only[↓vS,vT,simprocAttr,hlt,Nat.mul_one,zx,hx,Option.map_some,hw,hr1,hr2,hln,htk,hap];refine ih (j+1) hlt (by omega) _ _ (Wk.mk _ _ [2] ?_ ?_ ?_ rfl)
  ·simp[vw,qb]
  ·simp[vw,qk,zc]
  ·simp
 ·have hj':j=l.length:=by omega
  subst hj';simp only[↓vS,vT,simprocAttr,hlt];intro _;refine⟨[0],?_⟩;simp[vw,qk,zc]
def zj(s:Int):List Int:=(qj.map (·.2)).filter fun n=>decide (w9 .u64 s n≠0)
def yj(a:Nat):IFn:=⟨[.tmp 2],.seq (.r [.m 2 .N]) (.seq (.r [.m 3 .N]) (.seq (.seq (.r [.l 6 a [],.m 7 (.k 0)]) (.blk 0 (.loop (.seq (.r [.w 8 .lss 7 8]) (.seq (.cond (.t 8) (.skip) (.exit 0)) (.seq (.blk 1 (.seq (.r [.q 9 (.idxA 8 2 true (.t 6) (.t 7)),.q 5 (.alloc [.s [],.i .u64 0]),.u (.store 2 (.t 5) (.t 9))]) (.seq (.r [.n 10 0,.f 11 1 5,.d 12 11,.b 13 .and 10 12,.q 14 (.bin .neq (.t 13) (.c (.i .u64 0)))]) (.cond (.t 14) (.r [.n 15 3,.f 16 1 5,.d 17 16,.q 18 (.buildS 1 [.i .u64 0] [(0,1,(.t 17))]),.q 19 (.app 1 8 true (.t 15) (.t 18)),.n 3 19]) (.skip))))) (.r [.a 20 7 1,.n 7 20]))))))) (.seq (.r [.n 21 3,.n 2 21]) (.ret))))⟩
theorem qlv{g:Nat}(hc:qv P f (yj g)=true)(hg:qe P g [] (.agg (qj.flatMap (zn .u64))))(s:Int):qe P f [.i .u64 s] (.fz (zj s).length (rI .u64 (zj s))):=by
 refine qe.mk hc rfl ?_;simp only[yj,vI,simprocAttr];simp only[↓vS,vT,simprocAttr];refine hg.sc ?_;simp only[↓vS,vT,simprocAttr];have hlen:(qj.flatMap (zn .u64)).length=16:=by decide
 refine SL.loop (α:=Nat) (fun j=>[(0,.i .u64 s),(3,.own 0 ((((qj.take j).map (·.2)).filter fun n=>decide (w9 .u64 s n≠0)).length)),(6,.agg (qj.flatMap (zn .u64))),(7,.i .i64 j)])
  (fun j=>[.cells 1 true true (rI .u64 (((qj.take j).map (·.2)).filter fun n=>decide (w9 .u64 s n≠0)))])
  (fun j=>j<=8) (fun j=>8-j) 0 [9] ?_ ?_ ?_ rfl ?_ ?_
 ·simp[vw,qj,zn]
 ·simp[vw,rI]
 ·simp
 ·exact Nat.zero_le _
 rintro j hj G ih;simp only[vI,simprocAttr]
 by_cases hlt:j<8
 ·have hlt':(j:Int)<8:=by omega
  have hjl:j<qj.length:=hlt;have hx:qj[j]?=some qj[j]:=zzE hjl;have hw:IntKind.wrap .i64 ((j:Int)+1)=((j+1:Nat):Int):=by rw[qz (by omega) (by omega)];omega
  have he:=jh (f:=zn .u64) (m:=2) kj hx;have hb:j*2+2<=(qj.flatMap (zn .u64)).length:=by omega
  generalize hA:((qj.take j).map (·.2)).filter (fun n=>decide (w9 .u64 s n≠0))=A
  have hA1:((qj.take (j+1)).map (·.2)).filter (fun n=>decide (w9 .u64 s n≠0))=A++(if w9 .u64 s qj[j].2=0 then [] else [qj[j].2]):=by
   rw[List.take_add_one,hx,List.map_append,List.filter_append,hA]
   by_cases h:w9 .u64 s qj[j].2=0<;>simp[h]
  have hAl:A.length<=j:=by
   rw[← hA];refine Nat.le_trans (List.length_filter_le _ _) ?_;simp;omega
  generalize hc0:qj[j]=c at hx he hA1;generalize hT:qj.flatMap (zn .u64)=T at he hb hlen;have hTc:qR T=true:=by rw[← hT];rfl
  have hr1:A.length+1<=qd:=by simp only[qd];omega
  have hr2:(A.length+1)*8<=qd:=by simp only[qd];omega
  by_cases h0:w9 .u64 s c.2=0
  ·rw[if_pos h0,List.append_nil] at hA1;simp only[↓vS,vT,simprocAttr,hlt',hlt,he,hb,zn,h0,hw];refine ih (j+1) hlt (by omega) _ _ (Wk.mk _ _ [0] ?_ ?_ ?_ rfl)
   ·rw[hA1,hT];simp[vw,qk,hTc]
   ·rw[hA1];simp[vw,qk,qb]
   ·simp
  ·rw[if_neg h0] at hA1;have hap:rI .u64 A++[AV.i .u64 c.2]=rI .u64 (A++[c.2]):=by rw[← qdx];rfl
   simp +decide only[↓vS,vT,simprocAttr,hlt',hlt,he,hb,zn,h0,hw,hr1,hr2,yp,Nat.mul_one,hap];refine ih (j+1) hlt (by omega) _ _ (Wk.mk _ _ [3] ?_ ?_ ?_ rfl)
   ·rw[hA1,hT];simp[vw,qk,hTc]
   ·rw[hA1];simp[vw,qk,qb]
   ·simp
 ·have hj':j=8:=by omega
  subst hj';have hlt':¬(((8:Nat):Int)<8):=by decide
  simp only[↓vS,vT,simprocAttr,hlt'];refine .own 0 _ 1 true _ _ ?_ (fun h0=>?_) (Frzs.self qb)
  ·simp[Tr.get_set,zj,qj]
  ·have h0:(zj s).length=0:=h0;rw[List.eq_nil_of_length_eq_zero h0];rfl
def qT:IFn:=⟨[.tmp 2],.seq (.r [.m 2 .N]) (.seq (.seq (.r [.n 3 0,.q 4 (.eqN false .slice (.t 3))]) (.cond (.t 4) (.seq (.r [.m 2 .N]) (.ret)) (.skip))) (.seq (.r [.q 5 (.buildS 0 [.i .i64 0,.i .u64 0,.i .u64 0,.i .u32 0] []),.n 6 0,.q 7 (.app 4 32 true (.t 5) (.t 6)),.n 2 7]) (.ret)))⟩
theorem qlf(hc:qv P f qT=true):qby P f 4 32:=by
 intro n rows hlen hcl hok hr1 hr2;refine Own.of_SC (by simp[qR,clo]) ?_;cases n with
 | zero =>
  obtain rfl:rows=[]:=by cases rows with|nil=>rfl|cons=>simp at hlen
  refine SC.nil0 (SC.mk hc (qJ ?_)) (SC.mk hc (qJ ?_))
  ·simp only[qT,vI,simprocAttr];simp only[↓vS,vT,simprocAttr];intro _;refine⟨[1],?_⟩;simp[vw]
  ·simp only[qT,vI,simprocAttr];simp only[↓vS,vT,simprocAttr,if_true];intro _;refine⟨[1],?_⟩;simp[vw]
 | succ n =>
  refine SC.mk hc (qJ ?_);simp only[qT,vI,simprocAttr];have h1:1<=n+1:=by omega
  have h2:(n+1)*4<=rows.length:=by omega
  have h3:rows.take ((n+1)*4)=rows:=List.take_of_length_le (by omega);have h4:¬(n+1<=0):=by omega
  simp only[↓vS,vT,simprocAttr,h1,h2,h3,h4,hr1,hr2,hok,Nat.mul_one,Nat.zero_mul];intro _;refine⟨[1],?_⟩;simp[vw,qk,hcl]
def mkC(p:Pol)(a d:Int)(b n:Nat):List AV:=qf p++[.i .i64 a,.own b n,.i .u32 d]
def mkB(p:Pol)(a d:Int)(b n:Nat):Blk:=.cells 0 true false (mkC p a d b n)
def qO(a act:Int)(ts:List GTest)(ns:List (List UInt8)):List GRule:=ns.filterMap fun s=>(ym a s).map fun n=>⟨n,ts,act⟩
def wx(P:Program)(f:Nat):Prop:=∀(p:Pol) (a d act:Int) (ts:List GTest) (ns:List (List UInt8)) (rs:List GRule),ts.length<=100000->rs.length+ns.length<=100000->
 Upd P f [.ptr 0 0,.i .u32 act,.fz ts.length (rT ts),.fz ns.length (rS ns)] [mkB p a d 1 rs.length,.cells 3 true true (rR rs)] (.tup [])
  [mkB p a d 2 (rs++qO a act ts ns).length,.dead,.cells 3 true true (rR (rs++qO a act ts ns))]
def wD(a b:Nat):IFn:=⟨[],.seq (.r [.n 12 3,.e 13 12,.m 14 (.k 0)]) (.blk 0 (.loop (.seq (.r [.s 15 14 13]) (.seq (.cond (.t 15) (.skip) (.exit 0)) (.seq (.blk 1 (.seq (.r [.i 16 1 12 14,.d 17 16,.n 9 17]) (.seq (.r [.n 19 0,.q 20 (.nilChk (.t 19)),.f 21 13 20,.f 22 0 21,.d 23 22,.n 24 9,.l 25 a [.t 23,.t 24],.n 18 25,.x 26 18 0,.x 27 18 1,.n 10 26,.n 11 27]) (.seq (.r [.n 28 11,.w 29 .eql 28 0]) (.cond (.t 29) (.reg true [.n 30 0,.n 31 0,.q 32 (.nilChk (.t 31)),.f 33 13 32,.f 34 1 33,.d 35 34,.n 36 10,.n 37 2,.l 38 b [.t 37],.n 39 1,.q 40 (.build [.i .u32 0,.nils,.i .u32 0] [(0,1,(.t 36)),(1,1,(.t 38)),(2,1,(.t 39))]),.q 41 (.buildS 1 [.i .u32 0,.nils,.i .u32 0] [(0,3,(.t 40))]),.q 42 (.app 3 40 true (.t 35) (.t 41)),.q 43 (.nilChk (.t 30)),.f 44 13 43,.f 45 1 44,.u (.store 1 (.t 45) (.t 42))]) (.skip)))))) (.r [.a 46 14 1,.n 14 46]))))))⟩
theorem qoF{g1 g2:Nat}(hc:qv P f (wD g1 g2)=true)
  (h1:∀(a:Int) (s:List UInt8),qe P g1 [.i .i64 a,.s s] (match ym a s with|some n=>.tup [.i .u32 n,.i .i64 0]|none=>.tup [.i .u32 0,.i .i64 90])) (h2:qby P g2 4 32):wx P f:=by
 intro p a d act ts ns rs hts hrs;refine Upd.mkd hc (by simp[x5,bnd,mkB]) (by simp) ?_;simp only[wD,mkB,mkC,qf,vI,simprocAttr,List.cons_append,List.nil_append];simp only[↓vS,vT,simprocAttr]
 refine SL.loopd (α:=Nat) (fun j=>[(0,.ptr 0 0),(1,.i .u32 act),(2,.fz ts.length (rT ts)),(12,.fz ns.length (rS ns)),(13,.i .i64 ns.length),(14,.i .i64 j)])
  (fun j=>[mkB p a d 2 (rs++qO a act ts (ns.take j)).length,.dead,.cells 3 true true (rR (rs++qO a act ts (ns.take j)))])
  (fun j=>j<=ns.length) (fun j=>ns.length-j) 0 [0,1,1] ?_ ?_ ?_ rfl (by simp) ?_ ?_ ?_
 ·simp[vw,zc,qbW]
 ·simp[vw,mkB,mkC,qf,qO,qk,ql,qc,qb]
 ·simp[jc,mkB]
 ·intro b hb;have:b=0∨b=1:=by omega
  rcases this with rfl|rfl<;>simp[yt,rl]
 ·exact Nat.zero_le _
 rintro j hj G ih;simp only[vI,simprocAttr,mkB,mkC,qf,List.cons_append,List.nil_append]
 by_cases hlt:j<ns.length
 ·have hx:ns[j]?=some ns[j]:=zzE hlt;have hg:(rS ns)[j]?=some (.s ns[j]):=by rw[qmK,hx];rfl
  have hw:IntKind.wrap .i64 ((j:Int)+1)=((j+1:Nat):Int):=by rw[qz (by omega) (by omega)];omega
  have hnx:qO a act ts (ns.take (j+1))=qO a act ts (ns.take j)++((ym a ns[j]).map fun n=>⟨n,ts,act⟩).toList:=by
   rw[List.take_add_one,hx];unfold qO;rw[List.filterMap_append];cases hq:ym a ns[j]<;>simp[hq]
  have hl1:(qO a act ts (ns.take j)).length<=j:=by
   unfold qO;refine Nat.le_trans (List.length_filterMap_le _ _) ?_;simp;omega
  generalize hA:rs++qO a act ts (ns.take j)=A;have hAl:A.length<=rs.length+j:=by rw[← hA];simp;omega
  have hA1:rs++qO a act ts (ns.take (j+1))=A++((ym a ns[j]).map fun n=>⟨n,ts,act⟩).toList:=by rw[hnx,← List.append_assoc,hA]
  generalize hs0:ns[j]=s at hg hA1;simp only[↓vS,vT,simprocAttr,hlt,Nat.mul_one,hg];refine (h1 a s).sc ?_;cases hn:ym a s with
  | none =>
   rw[hn] at hA1;simp only[Option.map_none,Option.toList_none,List.append_nil] at hA1;simp +decide only[↓vS,vT,simprocAttr,hw];refine ih (j+1) hlt (by omega) _ _ (Wk.mkd _ _ [0,1,2] ?_ ?_ ?_ rfl (by simp) ?_)
   ·simp[vw,zc,qbW]
   ·rw[hA1];simp[vw,mkB,mkC,qf,qk,ql,qc,qb]
   ·simp[jc,mkB]
   ·intro b hb;have:b=0∨b=1:=by omega
    rcases this with rfl|rfl<;>simp[yt,rl]
  | some n =>
   rw[hn] at hA1;simp only[Option.map_some,Option.toList_some] at hA1;have hr1:A.length+1<=qd:=by simp only[qd];omega
   have hr2:(A.length+1)*40<=qd:=by simp only[qd];omega
   simp +decide only[↓vS,vT,simprocAttr,hw];refine xy ?_;simp only[↓vS,vT,simprocAttr];refine (h2.pure xO zc qkD (by simp only[qd];omega) (by simp only[qd];omega)).pc ?_;have hap:rR A++[AV.i .u32 n,.fz ts.length (rT ts),.i .u32 act]=rR (A++[⟨n,ts,act⟩]):=by rw[← qhv];rfl
   have htk:(rR A).take (A.length*3)=rR A:=List.take_of_length_le (by rw[w4];omega);simp +decide only[↓vS,vT,simprocAttr,hr1,hr2,w4,htk,hap];refine ih (j+1) hlt (by omega) _ _ (Wk.mkd _ _ [0,1,4] ?_ ?_ ?_ rfl (by simp) ?_)
   ·simp[vw,zc,qbW];exact qz (by omega) (by omega)
   ·rw[hA1];simp[vw,mkB,mkC,qf,qk,ql,qc,qb]
   ·simp[jc,mkB]
   ·intro b hb;have:b=0∨b=1:=by omega
    rcases this with rfl|rfl<;>simp[yt,rl]
 ·have hj':j=ns.length:=by omega
  subst hj';simp only[↓vS,vT,simprocAttr,hlt];intro _;rw[List.take_length];refine⟨[0,1,2],?_⟩;simp[vw,mkB,mkC,qf,qk,ql,qc,qb,jc,rl];intro b hb;have:b=0∨b=1:=by omega
  rcases this with rfl|rfl<;>simp
def zl(P:Program)(f:Nat)(F:Pol->Int->Bool×List GRule×Int):Prop:=∀(p:Pol) (a:Int),PolOk p->PolR p->
 Upd P f [.ptr 0 0] [mkB p a 2147418112 1 0,.cells 3 true true (rR [])] (.b (F p a).1) [mkB p a (F p a).2.2 2 (F p a).2.1.length,.dead,.cells 3 true true (rR (F p a).2.1)]
def QD(a own:Int)(l:List GCall):List GRule:=l.flatMap fun c=>qO a (if c.act=0 then own else c.act) [] [c.name]
def qay(p:Pol)(a:Int):Bool×List GRule×Int:=(qS p.filter.mode p.filter.calls.length true false,QD a (if p.filter.mode=1 then 2147418112 else p.deny) p.filter.calls,if p.filter.mode=1 then p.deny else 2147418112)
theorem xU(a act:Int)(ts:List GTest)(ns:List (List UInt8)):(qO a act ts ns).length<=ns.length:=List.length_filterMap_le _ _
theorem qcv(a own:Int):∀l,(QD a own l).length<=l.length
 | []=>Nat.le_refl _
 | c::l=>by
  have h1:=qcv a own l;have h2:=xU a (if c.act=0 then own else c.act) [] [c.name]
  simp only[QD,List.flatMap_cons,List.length_append,List.length_cons,List.length_nil] at h1 h2 ⊢;omega
theorem qeF{a own:Int}{l:List GCall}{j:Nat}{c:GCall}(h:l[j]?=some c):QD a own (l.take (j+1))=QD a own (l.take j)++qO a (if c.act=0 then own else c.act) [] [c.name]:=by
 rw[List.take_add_one,h];simp[QD]
def zZ(a b c:Nat):ICode:=.seq (.seq (.r [.n 27 0,.q 28 (.nilChk (.t 27)),.f 29 0 28,.f 30 1 29,.f 31 1 30,.d 32 31,.e 33 32,.m 34 (.k 0)]) (.blk 0 (.loop (.seq (.r [.s 35 34 33]) (.seq (.cond (.t 35) (.skip) (.exit 0)) (.seq (.blk 1 (.seq (.r [.i 36 2 32 34,.v 37 2 36,.q 5 (.alloc [.s [],.i .u32 0]),.u (.store 2 (.t 5) (.t 37))]) (.reg true [.n 38 0,.f 39 1 5,.d 40 39,.n 41 3,.q 42 (.buildS 2 [.i .u32 0] [(0,1,(.t 40)),(1,1,(.t 41))]),.l 43 a [.t 42],.f 44 0 5,.d 45 44,.q 46 (.buildS 1 [.s []] [(0,1,(.t 45))]),⟨(some 47),.callW b [.t 38,.t 43,.N,.t 46],none⟩]))) (.r [.a 48 34 1,.n 34 48]))))))) (.seq (.reg true [.n 49 0,.q 50 (.nilChk (.t 49)),.f 51 0 50,.f 52 1 51,.f 53 0 52,.d 54 53,.n 55 0,.q 56 (.nilChk (.t 55)),.f 57 0 56,.f 58 1 57,.f 59 1 58,.d 60 59,.e 61 60,.l 62 c [.t 54,.t 61,.T,.F],.n 2 62]) (.ret))
def jU(a b c:Nat):IFn:=⟨[.tmp 2],.seq (.r [.m 2 .F]) (.seq (.r [.n 6 0,.q 7 (.nilChk (.t 6)),.f 8 0 7,.f 9 3 8,.d 10 9,.n 3 10]) (.seq (.seq (.r [.n 11 0,.q 12 (.nilChk (.t 11)),.f 13 0 12,.f 14 1 13,.f 15 0 14,.d 16 15,.q 17 (.bin .eql (.t 16) (.c (.i .u8 1)))]) (.cond (.t 17) (.r [.n 18 0,.n 19 0,.q 20 (.nilChk (.t 19)),.f 21 0 20,.f 22 3 21,.d 23 22,.q 24 (.nilChk (.t 18)),.f 25 13 24,.f 26 2 25,.u (.store 1 (.t 26) (.t 23)),.m 3 (.c (.i .u32 2147418112))]) (.skip))) (.cut (zZ a b c))))⟩
theorem qaN{g1 g2 g3:Nat}(h1:∀x y,qe P g1 [.fz 2 (rI .u32 [x,y])] (.i .u32 (if x=0 then y else x)))(h2:wx P g2)(h3:∀mode n al dn,qe P g3 [.i .u8 mode,.i .i64 (n:Nat),.b al,.b dn] (.b (qS mode n al dn)))
  (p:Pol) (a d own:Int) (hp:PolOk p) {t':Tr AV} {h':Hp} (hw:Wk 2 t' h' (mkT [(0,.ptr 0 0),(3,.i .u32 own)]) (mkH 0 [mkB p a d 1 0,.cells 3 true true (rR [])])) :
  S P 2 (zZ g1 g2 g3) (js [.tmp 2] (qc9 2 (.b (qS p.filter.mode p.filter.calls.length true false)) [mkB p a d 2 (QD a own p.filter.calls).length,.dead,.cells 3 true true (rR (QD a own p.filter.calls))])) t' h':=by
 have hl:=hp.c;refine S.weak hw (qJ ?_);simp only[zZ,mkB,mkC,qf,List.cons_append,List.nil_append,vI,simprocAttr];simp only[↓vS,vT,simprocAttr]
 refine SL.loopd (α:=Nat) (fun j=>[(0,.ptr 0 0),(3,.i .u32 own),(32,.fz p.filter.calls.length (rC p.filter.calls)),(33,.i .i64 p.filter.calls.length),(34,.i .i64 j)])
  (fun j=>[mkB p a d 2 (QD a own (p.filter.calls.take j)).length,.dead,.cells 3 true true (rR (QD a own (p.filter.calls.take j)))])
  (fun j=>j<=p.filter.calls.length) (fun j=>p.filter.calls.length-j) 0 [0,1,1] ?_ ?_ ?_ rfl (by simp) ?_ ?_ ?_
 ·simp[vw,qc]
 ·simp[vw,mkB,mkC,qf,QD,qk,ql,qc,qb]
 ·simp[jc,mkB]
 ·intro b hb;have:b=0∨b=1:=by omega
  rcases this with rfl|rfl<;>simp[yt,rl]
 ·exact Nat.zero_le _
 rintro j hj G ih;simp only[vI,simprocAttr,mkB,mkC,qf,List.cons_append,List.nil_append]
 by_cases hlt:j<p.filter.calls.length
 ·have hx:p.filter.calls[j]?=some p.filter.calls[j]:=zzE hlt;have he:=qak hx;have hb:=QK hlt;have hw:IntKind.wrap .i64 ((j:Int)+1)=((j+1:Nat):Int):=by rw[qz (by omega) (by omega)];omega
  have hA1:=qeF (a:=a) (own:=own) hx;have hl1:=qcv a own (p.filter.calls.take j);rw[List.length_take,Nat.min_eq_left (by omega)] at hl1;generalize hA:QD a own (p.filter.calls.take j)=A at hA1 hl1;generalize hc0:p.filter.calls[j]=c at he hA1;simp only[↓vS,vT,simprocAttr,hlt,hb,he,vc];refine xy ?_;simp only[↓vS,vT,simprocAttr];refine (h1 c.act own).lendp (vs':=[.fz 2 (rI .u32 [c.act,own])]) ?_ rfl ?_
  ·refine .cons _ _ _ _ (.cut 1 rfl (Nat.le_refl _) ?_) .nil;simp[vw,rI]
  simp only[↓vS,vT,simprocAttr];refine PC.give (vs':=[.ptr 0 0,.i .u32 (if c.act=0 then own else c.act),.fz 0 (rT []),.fz 1 (rS [c.name])]) [(5,.cells 0 true false [.s c.name])] ?_ ?_ ?_
  ·intro q hq;simp at hq;subst hq;simp[Tr.get_set]
  ·refine .keep _ _ _ (.keep _ _ _ (.fz _ _ _ _ .nilz (.fz _ _ _ _ (.cut 1 rfl (Nat.le_refl _) ?_) .nil)));simp[vw,trP,rS]
  simp only[zd,zt,zE];refine (h2 p a d (if c.act=0 then own else c.act) [] [c.name] A (by simp) (by simp;omega)).pc (vs:=[.ptr 0 0,.i .u32 (if c.act=0 then own else c.act),.fz 0 (rT []),.fz 1 (rS [c.name])]) [0,2] (Lent.of (by decide) ?_) ?_
  ·simp[vL,vw,mkB,mkC,qf,qy ql,qh ql,qy qc,qh qc,qy qb,qh qb]
  rw[← hA1];simp only[vK,simprocAttr,mkB,mkC,qf,List.cons_append,List.nil_append,qh ql,qh qc,qh qb];simp only[↓vS,vT,simprocAttr,hw];refine ih (j+1) hlt (by omega) _ _ (Wk.mkd _ _ [0,1,6] ?_ ?_ ?_ rfl (by simp) ?_)
  ·simp[vw,qc]
  ·simp[vw,mkB,mkC,qf,qk,ql,qc,qb]
  ·simp[jc,mkB]
  ·intro b hb;have:b=0∨b=1:=by omega
   rcases this with rfl|rfl<;>simp[yt,rl]
 ·have hj':j=p.filter.calls.length:=by omega
  subst hj';simp only[↓vS,vT,simprocAttr,hlt];refine xy ?_;simp only[↓vS,vT,simprocAttr];refine (h3 p.filter.mode p.filter.calls.length true false).pc ?_;simp only[↓vS,vT,simprocAttr];rw[List.take_length];intro _;refine⟨[0,1,2],?_⟩;simp[vw,mkB,mkC,qf,qk,ql,qc,qb,jc,rl];intro b hb;have:b=0∨b=1:=by omega
  rcases this with rfl|rfl<;>simp
theorem qky{g1 g2 g3:Nat}(hc:qv P f (jU g1 g2 g3)=true)(h1:∀x y,qe P g1 [.fz 2 (rI .u32 [x,y])] (.i .u32 (if x=0 then y else x)))(h2:wx P g2)(h3:∀mode n al dn,qe P g3 [.i .u8 mode,.i .i64 (n:Nat),.b al,.b dn] (.b (qS mode n al dn))):zl P f qay:=by
 intro p a hp hR;refine Upd.mkd hc (by simp[x5,bnd,mkB]) (by simp) ?_;simp only[jU,mkB,mkC,qf,vI,simprocAttr,List.cons_append,List.nil_append]
 by_cases m:p.filter.mode=1
 ·simp only[↓vS,vT,simprocAttr,m];have e:qay p a=(qS p.filter.mode p.filter.calls.length true false,QD a 2147418112 p.filter.calls,p.deny):=by simp[qay,m]
  rw[e];refine qaN h1 h2 h3 p a p.deny 2147418112 hp (Wk.mkd _ _ [0,1] ?_ ?_ ?_ rfl (by simp) ?_)
  ·simp[vw]
  ·simp[vw,mkB,mkC,qf,qk,ql,qc,qb,m,rR]
  ·simp[jc,mkB]
  ·intro b hb;have:b=0∨b=1:=by omega
   rcases this with rfl|rfl<;>simp[yt,rl]
 ·simp only[↓vS,vT,simprocAttr,m];have e:qay p a=(qS p.filter.mode p.filter.calls.length true false,QD a p.deny p.filter.calls,2147418112):=by simp[qay,m]
  rw[e];refine qaN h1 h2 h3 p a 2147418112 p.deny hp (Wk.mkd _ _ [0,1] ?_ ?_ ?_ rfl (by simp) ?_)
  ·simp[vw]
  ·simp[vw,mkB,mkC,qf,qk,ql,qc,qb,rR]
  ·simp[jc,mkB]
  ·intro b hb;have:b=0∨b=1:=by omega
   rcases this with rfl|rfl<;>simp[yt,rl]
def QH(a own:Int)(l:List GCall):List GRule:=l.flatMap fun c=>qO a own [] [c.name]
def qaL(p:Pol)(a:Int):Bool×List GRule×Int:=(qS p.log.mode p.log.calls.length false true,QH a (if p.log.mode=2 then 2147418112 else 2147221504) p.log.calls,if p.log.mode=2 then 2147221504 else 2147418112)
theorem qcQ(a own:Int):∀l,(QH a own l).length<=l.length
 | []=>Nat.le_refl _
 | c::l=>by
  have h1:=qcQ a own l;have h2:=xU a own [] [c.name];simp only[QH,List.flatMap_cons,List.length_append,List.length_cons,List.length_nil] at h1 h2 ⊢;omega
theorem qeS{a own:Int}{l:List GCall}{j:Nat}{c:GCall}(h:l[j]?=some c):QH a own (l.take (j+1))=QH a own (l.take j)++qO a own [] [c.name]:=by
 rw[List.take_add_one,h];simp[QH]
def xv(a b:Nat):ICode:=.seq (.seq (.r [.n 17 0,.q 18 (.nilChk (.t 17)),.f 19 0 18,.f 20 4 19,.f 21 1 20,.d 22 21,.e 23 22,.m 24 (.k 0)]) (.blk 0 (.loop (.seq (.r [.s 25 24 23]) (.seq (.cond (.t 25) (.skip) (.exit 0)) (.seq (.blk 1 (.seq (.r [.i 26 2 22 24,.v 27 2 26,.q 5 (.alloc [.s [],.i .u32 0]),.u (.store 2 (.t 5) (.t 27))]) (.r [.n 28 0,.n 29 3,.f 30 0 5,.d 31 30,.q 32 (.buildS 1 [.s []] [(0,1,(.t 31))]),.l 33 a [.t 28,.t 29,.N,.t 32]]))) (.r [.a 34 24 1,.n 24 34]))))))) (.seq (.reg true [.n 35 0,.q 36 (.nilChk (.t 35)),.f 37 0 36,.f 38 4 37,.f 39 0 38,.d 40 39,.n 41 0,.q 42 (.nilChk (.t 41)),.f 43 0 42,.f 44 4 43,.f 45 1 44,.d 46 45,.e 47 46,.l 48 b [.t 40,.t 47,.F,.T],.n 2 48]) (.ret))
def wT(a b:Nat):IFn:=⟨[.tmp 2],.seq (.r [.m 2 .F]) (.seq (.r [.m 3 (.c (.i .u32 2147221504))]) (.seq (.seq (.r [.n 6 0,.q 7 (.nilChk (.t 6)),.f 8 0 7,.f 9 4 8,.f 10 0 9,.d 11 10,.q 12 (.bin .eql (.t 11) (.c (.i .u8 2)))]) (.cond (.t 12) (.r [.n 13 0,.q 14 (.nilChk (.t 13)),.f 15 13 14,.f 16 2 15,.u (.store 1 (.t 16) (.c (.i .u32 2147221504))),.m 3 (.c (.i .u32 2147418112))]) (.skip))) (.cut (xv a b))))⟩
theorem qdZ{g2 g3:Nat}(h2:wx P g2)(h3:∀mode n al dn,qe P g3 [.i .u8 mode,.i .i64 (n:Nat),.b al,.b dn] (.b (qS mode n al dn)))
  (p:Pol) (a d own:Int) (hp:PolOk p) {t':Tr AV} {h':Hp} (hw:Wk 2 t' h' (mkT [(0,.ptr 0 0),(3,.i .u32 own)]) (mkH 0 [mkB p a d 1 0,.cells 3 true true (rR [])])) :
  S P 2 (xv g2 g3) (js [.tmp 2] (qc9 2 (.b (qS p.log.mode p.log.calls.length false true)) [mkB p a d 2 (QH a own p.log.calls).length,.dead,.cells 3 true true (rR (QH a own p.log.calls))])) t' h':=by
 have hl:=hp.l;refine S.weak hw (qJ ?_);simp only[xv,mkB,mkC,qf,List.cons_append,List.nil_append,vI,simprocAttr];simp only[↓vS,vT,simprocAttr]
 refine SL.loopd (α:=Nat) (fun j=>[(0,.ptr 0 0),(3,.i .u32 own),(22,.fz p.log.calls.length (rC p.log.calls)),(23,.i .i64 p.log.calls.length),(24,.i .i64 j)])
  (fun j=>[mkB p a d 2 (QH a own (p.log.calls.take j)).length,.dead,.cells 3 true true (rR (QH a own (p.log.calls.take j)))])
  (fun j=>j<=p.log.calls.length) (fun j=>p.log.calls.length-j) 0 [0,1,1] ?_ ?_ ?_ rfl (by simp) ?_ ?_ ?_
 ·simp[vw,qc]
 ·simp[vw,mkB,mkC,qf,QH,qk,ql,qc,qb]
 ·simp[jc,mkB]
 ·intro b hb;have:b=0∨b=1:=by omega
  rcases this with rfl|rfl<;>simp[yt,rl]
 ·exact Nat.zero_le _
 rintro j hj G ih;simp only[vI,simprocAttr,mkB,mkC,qf,List.cons_append,List.nil_append]
 by_cases hlt:j<p.log.calls.length
 ·have hx:p.log.calls[j]?=some p.log.calls[j]:=zzE hlt;have he:=qak hx;have hb:=QK hlt;have hw:IntKind.wrap .i64 ((j:Int)+1)=((j+1:Nat):Int):=by rw[qz (by omega) (by omega)];omega
  have hA1:=qeS (a:=a) (own:=own) hx;have hl1:=qcQ a own (p.log.calls.take j);rw[List.length_take,Nat.min_eq_left (by omega)] at hl1;generalize hA:QH a own (p.log.calls.take j)=A at hA1 hl1;generalize hc0:p.log.calls[j]=c at he hA1;simp only[↓vS,vT,simprocAttr,hlt,hb,he,vc];refine SC.give (vs':=[.ptr 0 0,.i .u32 own,.fz 0 (rT []),.fz 1 (rS [c.name])]) [(4,.cells 0 true false [.s c.name])] ?_ ?_ ?_
  ·intro q hq;simp at hq;subst hq;simp[Tr.get_set]
  ·refine .keep _ _ _ (.keep _ _ _ (.fz _ _ _ _ .nilz (.fz _ _ _ _ (.cut 1 rfl (Nat.le_refl _) ?_) .nil)));simp[vw,trP,rS]
  simp only[zd,zt,zE];refine (h2 p a d own [] [c.name] A (by simp) (by simp;omega)).sc (vs:=[.ptr 0 0,.i .u32 own,.fz 0 (rT []),.fz 1 (rS [c.name])]) [0,2] (Lent.of (by decide) ?_) ?_
  ·simp[vL,vw,mkB,mkC,qf,qy ql,qh ql,qy qc,qh qc,qy qb,qh qb]
  rw[← hA1];simp only[vK,simprocAttr,mkB,mkC,qf,List.cons_append,List.nil_append,qh ql,qh qc,qh qb];simp only[↓vS,vT,simprocAttr,hw];refine ih (j+1) hlt (by omega) _ _ (Wk.mkd _ _ [0,1,5] ?_ ?_ ?_ rfl (by simp) ?_)
  ·simp[vw,qc]
  ·simp[vw,mkB,mkC,qf,qk,ql,qc,qb]
  ·simp[jc,mkB]
  ·intro b hb;have:b=0∨b=1:=by omega
   rcases this with rfl|rfl<;>simp[yt,rl]
 ·have hj':j=p.log.calls.length:=by omega
  subst hj';simp only[↓vS,vT,simprocAttr,hlt];refine xy ?_;simp only[↓vS,vT,simprocAttr];refine (h3 p.log.mode p.log.calls.length false true).pc ?_;simp only[↓vS,vT,simprocAttr];rw[List.take_length];intro _;refine⟨[0,1,2],?_⟩;simp[vw,mkB,mkC,qf,qk,ql,qc,qb,jc,rl];intro b hb;have:b=0∨b=1:=by omega
  rcases this with rfl|rfl<;>simp
theorem qop{g2 g3:Nat}(hc:qv P f (wT g2 g3)=true)(h2:wx P g2)(h3:∀mode n al dn,qe P g3 [.i .u8 mode,.i .i64 (n:Nat),.b al,.b dn] (.b (qS mode n al dn))):zl P f qaL:=by
 intro p a hp hR;refine Upd.mkd hc (by simp[x5,bnd,mkB]) (by simp) ?_;simp only[wT,mkB,mkC,qf,vI,simprocAttr,List.cons_append,List.nil_append]
 by_cases m:p.log.mode=2
 ·simp only[↓vS,vT,simprocAttr,m];have e:qaL p a=(qS p.log.mode p.log.calls.length false true,QH a 2147418112 p.log.calls,2147221504):=by simp[qaL,m]
  rw[e];refine qdZ h2 h3 p a 2147221504 2147418112 hp (Wk.mkd _ _ [0,1] ?_ ?_ ?_ rfl (by simp) ?_)
  ·simp[vw]
  ·simp[vw,mkB,mkC,qf,qk,ql,qc,qb,m,rR]
  ·simp[jc,mkB]
  ·intro b hb;have:b=0∨b=1:=by omega
   rcases this with rfl|rfl<;>simp[yt,rl]
 ·simp only[↓vS,vT,simprocAttr,m];have e:qaL p a=(qS p.log.mode p.log.calls.length false true,QH a 2147221504 p.log.calls,2147418112):=by simp[qaL,m]
  rw[e];refine qdZ h2 h3 p a 2147418112 2147221504 hp (Wk.mkd _ _ [0,1] ?_ ?_ ?_ rfl (by simp) ?_)
  ·simp[vw]
  ·simp[vw,mkB,mkC,qf,qk,ql,qc,qb,rR]
  ·simp[jc,mkB]
  ·intro b hb;have:b=0∨b=1:=by omega
   rcases this with rfl|rfl<;>simp[yt,rl]
def y7(P:Program)(f:Nat):Prop:=∀(arg mask act:Int) (l:List Int),l.length<=100000->qe P f [.i .i64 arg,.i .u64 mask,.i .u32 act,.fz l.length (rI .u64 l)] (.fz (qt arg mask act l).length (rT (qt arg mask act l)))
def qkm(P:Program)(f:Nat):Prop:=∀(arg act:Int) (l:List Int),l.length<=100000->qe P f [.i .i64 arg,.i .u32 act,.fz l.length (rI .u64 l)] (.fz (qu arg act l).length (rT (qu arg act l)))
theorem qbA.pure(h:qbA P f):y7 P f:=by
 intro arg mask act l hl;rw[show (qt arg mask act l).length=l.length by simp[qt]]
 refine (h arg mask act l hl).pure (by simp[qR,clo]) ?_;refine .own 0 _ 4 true _ _ ?_ (fun h0=>?_) (Frzs.self zc)
 ·simp[xd,Hp.push,shb,H0,Tr.get_set,jP zc]
 ·rw[List.eq_nil_of_length_eq_zero h0];rfl
theorem qbx.pure(h:qbx P f):qkm P f:=by
 intro arg act l hl;rw[show (qu arg act l).length=l.length by simp[qu]]
 refine (h arg act l hl).pure (by simp[qR,clo]) ?_;refine .own 0 _ 4 true _ _ ?_ (fun h0=>?_) (Frzs.self zc)
 ·simp[xd,Hp.push,shb,H0,Tr.get_set,jP zc]
 ·rw[List.eq_nil_of_length_eq_zero h0];rfl
def jO:List UInt8:=[115,99,104,101,100,95,115,101,116,115,99,104,101,100,117,108,101,114]
def rtM(p:Pol)(a:Int):Bool×List GRule×Int:=(p.rt,qO a 327681 (qt 1 4294967295 2147418112 [0,3,5]) [jO],2147418112)
def jj(a b:Nat):IFn:=⟨[.tmp 2],.seq (.r [.m 2 .F]) (.seq (.r [.n 3 0,.q 4 (.buildS 3 [.i .u64 0] [(0,1,(.c (.i .u64 0))),(1,1,(.c (.i .u64 3))),(2,1,(.c (.i .u64 5)))]),.l 5 a [.k 1,(.c (.i .u64 4294967295)),(.c (.i .u32 2147418112)),.t 4],.q 6 (.buildS 1 [.s []] [(0,1,(.c (.s [115,99,104,101,100,95,115,101,116,115,99,104,101,100,117,108,101,114])))]),.l 7 b [.t 3,(.c (.i .u32 327681)),.t 5,.t 6]]) (.seq (.r [.n 8 0,.q 9 (.nilChk (.t 8)),.f 10 0 9,.f 11 11 10,.d 12 11,.n 2 12]) (.ret)))⟩
theorem qhX{g1 g2:Nat}(hc:qv P f (jj g1 g2)=true)(h1:y7 P g1)(h2:wx P g2):zl P f rtM:=by
 intro p a hp hR;refine Upd.mkd hc (by simp[x5,bnd,mkB]) (by simp) ?_;simp only[jj,mkB,mkC,qf,vI,simprocAttr,List.cons_append,List.nil_append];simp only[↓vS,vT,simprocAttr];refine SC.give (vs':=[.i .i64 1,.i .u64 4294967295,.i .u32 2147418112,.fz 3 (rI .u64 [0,3,5])]) [(2,.cells 0 true false [.i .u64 0,.i .u64 3,.i .u64 5])] ?_ ?_ ?_
 ·intro q hq;simp at hq;subst hq;simp[Tr.get_set]
 ·refine .keep _ _ _ (.keep _ _ _ (.keep _ _ _ (.fz _ _ _ _ (.cut 1 rfl (Nat.le_refl _) ?_) .nil)));simp[vw,trP,rI]
 simp only[zd,zt,zE];refine (h1 1 4294967295 2147418112 [0,3,5] (by decide)).sc ?_;generalize hts:qt 1 4294967295 2147418112 [0,3,5]=ts;have hl:ts.length<=100000:=by rw[← hts];decide
 simp only[↓vS,vT,simprocAttr];refine SC.give (vs':=[.ptr 0 0,.i .u32 327681,.fz ts.length (rT ts),.fz 1 (rS [jO])]) [(3,.cells 0 true false [.s jO])] ?_ ?_ ?_
 ·intro q hq;simp at hq;subst hq;simp[Tr.get_set,jO]
 ·refine .keep _ _ _ (.keep _ _ _ (.keep _ _ _ (.fz _ _ _ _ (.cut 1 rfl (Nat.le_refl _) ?_) .nil)));simp[vw,trP,rS,jO]
 simp only[zd,zt,zE];refine (h2 p a 2147418112 327681 ts [jO] [] hl (by simp)).sc (vs:=[.ptr 0 0,.i .u32 327681,.fz ts.length (rT ts),.fz 1 (rS [jO])]) [0,1] (Lent.of (by decide) ?_) ?_
 ·simp[vL,vw,mkB,mkC,qf,qy ql,qh ql,qy qc,qh qc,qy qb,qh qb]
 simp only[vK,simprocAttr,mkB,mkC,qf,List.cons_append,List.nil_append,qh ql,qh qc,qh qb];simp only[↓vS,vT,simprocAttr];intro _;refine⟨[0,1,4],?_⟩;simp[vw,rtM,hts,mkB,mkC,qf,qk,ql,qc,qb,jc,rl];intro b hb;have:b=0∨b=1:=by omega
 rcases this with rfl|rfl<;>simp
def zu:List UInt8:=[115,111,99,107,101,116]
def qV:List UInt8:=[117,110,115,104,97,114,101]
def zA:List UInt8:=[99,108,111,110,101]
def zm:List UInt8:=[115,101,116,110,115]
def zh:List UInt8:=[99,108,111,110,101,51]
def x4:List UInt8:=[109,109,97,112]
def zb:List UInt8:=[109,112,114,111,116,101,99,116]
def qB:List UInt8:=[112,107,101,121,95,109,112,114,111,116,101,99,116]
def xe:List UInt8:=[115,104,109,97,116]
def qQ:List UInt8:=[112,101,114,115,111,110,97,108,105,116,121]
def peM(p:Pol)(a:Int):Bool×List GRule×Int:=(p.pe,qO a 327681 (qt 0 4294967295 2147418112 [0,4294967295]) [qQ],2147418112)
def xH(a b:Nat):IFn:=⟨[.tmp 2],.seq (.r [.m 2 .F]) (.seq (.r [.n 3 0,.q 4 (.buildS 2 [.i .u64 0] [(0,1,(.c (.i .u64 0))),(1,1,(.c (.i .u64 4294967295)))]),.l 5 a [.k 0,(.c (.i .u64 4294967295)),(.c (.i .u32 2147418112)),.t 4],.q 6 (.buildS 1 [.s []] [(0,1,(.c (.s [112,101,114,115,111,110,97,108,105,116,121])))]),.l 7 b [.t 3,(.c (.i .u32 327681)),.t 5,.t 6]]) (.seq (.r [.n 8 0,.q 9 (.nilChk (.t 8)),.f 10 0 9,.f 11 10 10,.d 12 11,.n 2 12]) (.ret)))⟩
theorem qeV{g1 g2:Nat}(hc:qv P f (xH g1 g2)=true)(h1:y7 P g1)(h2:wx P g2):zl P f peM:=by
 intro p a hp hR;refine Upd.mkd hc (by simp[x5,bnd,mkB]) (by simp) ?_;simp only[xH,mkB,mkC,qf,vI,simprocAttr,List.cons_append,List.nil_append];simp only[↓vS,vT,simprocAttr];refine SC.give (vs':=[.i .i64 0,.i .u64 4294967295,.i .u32 2147418112,.fz 2 (rI .u64 [0,4294967295])]) [(2,.cells 0 true false [.i .u64 0,.i .u64 4294967295])] ?_ ?_ ?_
 ·intro q hq;simp at hq;subst hq;simp[Tr.get_set]
 ·refine .keep _ _ _ (.keep _ _ _ (.keep _ _ _ (.fz _ _ _ _ (.cut 1 rfl (Nat.le_refl _) ?_) .nil)));simp[vw,trP,rI]
 simp only[zd,zt,zE];refine (h1 0 4294967295 2147418112 [0,4294967295] (by decide)).sc ?_;generalize hts0:qt 0 4294967295 2147418112 [0,4294967295]=ts0;have hlts0:ts0.length<=100000:=by rw[← hts0];decide
 simp only[↓vS,vT,simprocAttr];refine SC.give (vs':=[.ptr 0 0,.i .u32 327681,.fz ts0.length (rT ts0),.fz 1 (rS [qQ])]) [(3,.cells 0 true false [.s qQ])] ?_ ?_ ?_
 ·intro q hq;simp at hq;subst hq;simp[Tr.get_set,qQ]
 ·refine .keep _ _ _ (.keep _ _ _ (.keep _ _ _ (.fz _ _ _ _ (.cut 1 rfl (Nat.le_refl _) ?_) .nil)));simp[vw,trP,rS,qQ]
 simp only[zd,zt,zE];refine (h2 p a 2147418112 327681 ts0 [qQ] [] hlts0 (by simp)).sc (vs:=[.ptr 0 0,.i .u32 327681,.fz ts0.length (rT ts0),.fz 1 (rS [qQ])]) [0,1] (Lent.of (by decide) ?_) ?_
 ·simp[vL,vw,mkB,mkC,qf,qy ql,qh ql,qy qc,qh qc,qy qb,qh qb]
 simp only[vK,simprocAttr,mkB,mkC,qf,List.cons_append,List.nil_append,qh ql,qh qc,qh qb]
 have hlA:(qO a 327681 ts0 [qQ]).length<=1:=by
  have:=xU a 327681 ts0 [qQ];simp only[List.length_append,List.length_cons,List.length_nil] at this ⊢;omega
 generalize hA0:qO a 327681 ts0 [qQ]=A0 at hlA;simp only[↓vS,vT,simprocAttr];intro _;refine⟨[0,1,4],?_⟩;have e:(peM p a).2.1=A0:=by simp only[peM,← hA0,← hts0]
 rw[e];simp[vw,peM,mkB,mkC,qf,qk,ql,qc,qb,jc,rl];intro b hb;have:b=0∨b=1:=by omega
 rcases this with rfl|rfl<;>simp
def weM(p:Pol)(a:Int):Bool×List GRule×Int:=(p.we,qO a 2147418112 (qu 2 327681 [6]) [x4]++qO a 2147418112 (qu 2 327681 [4]) [zb,qB]++qO a 2147418112 (qu 2 327681 [32768]) [xe],2147418112)
def xC(a b:Nat):IFn:=⟨[.tmp 2],.seq (.r [.m 2 .F]) (.seq (.r [.n 3 0,.q 4 (.buildS 1 [.i .u64 0] [(0,1,(.c (.i .u64 6)))]),.l 5 a [.k 2,(.c (.i .u32 327681)),.t 4],.q 6 (.buildS 1 [.s []] [(0,1,(.c (.s [109,109,97,112])))]),.l 7 b [.t 3,(.c (.i .u32 2147418112)),.t 5,.t 6]]) (.seq (.r [.n 8 0,.q 9 (.buildS 1 [.i .u64 0] [(0,1,(.c (.i .u64 4)))]),.l 10 a [.k 2,(.c (.i .u32 327681)),.t 9],.q 11 (.buildS 2 [.s []] [(0,1,(.c (.s [109,112,114,111,116,101,99,116]))),(1,1,(.c (.s [112,107,101,121,95,109,112,114,111,116,101,99,116])))]),.l 12 b [.t 8,(.c (.i .u32 2147418112)),.t 10,.t 11]]) (.seq (.r [.n 13 0,.q 14 (.buildS 1 [.i .u64 0] [(0,1,(.c (.i .u64 32768)))]),.l 15 a [.k 2,(.c (.i .u32 327681)),.t 14],.q 16 (.buildS 1 [.s []] [(0,1,(.c (.s [115,104,109,97,116])))]),.l 17 b [.t 13,(.c (.i .u32 2147418112)),.t 15,.t 16]]) (.seq (.r [.n 18 0,.q 19 (.nilChk (.t 18)),.f 20 0 19,.f 21 9 20,.d 22 21,.n 2 22]) (.ret)))))⟩
theorem qd1{g1 g2:Nat}(hc:qv P f (xC g1 g2)=true)(h1:qkm P g1)(h2:wx P g2):zl P f weM:=by
 intro p a hp hR;refine Upd.mkd hc (by simp[x5,bnd,mkB]) (by simp) ?_;simp only[xC,mkB,mkC,qf,vI,simprocAttr,List.cons_append,List.nil_append];simp only[↓vS,vT,simprocAttr];refine SC.give (vs':=[.i .i64 2,.i .u32 327681,.fz 1 (rI .u64 [6])]) [(2,.cells 0 true false [.i .u64 6])] ?_ ?_ ?_
 ·intro q hq;simp at hq;subst hq;simp[Tr.get_set]
 ·refine .keep _ _ _ (.keep _ _ _ (.fz _ _ _ _ (.cut 1 rfl (Nat.le_refl _) ?_) .nil));simp[vw,trP,rI]
 simp only[zd,zt,zE];refine (h1 2 327681 [6] (by decide)).sc ?_;generalize hts0:qu 2 327681 [6]=ts0;have hlts0:ts0.length<=100000:=by rw[← hts0];decide
 simp only[↓vS,vT,simprocAttr];refine SC.give (vs':=[.ptr 0 0,.i .u32 2147418112,.fz ts0.length (rT ts0),.fz 1 (rS [x4])]) [(3,.cells 0 true false [.s x4])] ?_ ?_ ?_
 ·intro q hq;simp at hq;subst hq;simp[Tr.get_set,x4]
 ·refine .keep _ _ _ (.keep _ _ _ (.keep _ _ _ (.fz _ _ _ _ (.cut 1 rfl (Nat.le_refl _) ?_) .nil)));simp[vw,trP,rS,x4]
 simp only[zd,zt,zE];refine (h2 p a 2147418112 2147418112 ts0 [x4] [] hlts0 (by simp)).sc (vs:=[.ptr 0 0,.i .u32 2147418112,.fz ts0.length (rT ts0),.fz 1 (rS [x4])]) [0,1] (Lent.of (by decide) ?_) ?_
 ·simp[vL,vw,mkB,mkC,qf,qy ql,qh ql,qy qc,qh qc,qy qb,qh qb]
 simp only[vK,simprocAttr,mkB,mkC,qf,List.cons_append,List.nil_append,qh ql,qh qc,qh qb]
 have hlA:(qO a 2147418112 ts0 [x4]).length<=1:=by
  have:=xU a 2147418112 ts0 [x4];simp only[List.length_append,List.length_cons,List.length_nil] at this ⊢;omega
 generalize hA0:qO a 2147418112 ts0 [x4]=A0 at hlA;simp only[↓vS,vT,simprocAttr];refine SC.give (vs':=[.i .i64 2,.i .u32 327681,.fz 1 (rI .u64 [4])]) [(5,.cells 0 true false [.i .u64 4])] ?_ ?_ ?_
 ·intro q hq;simp at hq;subst hq;simp[Tr.get_set]
 ·refine .keep _ _ _ (.keep _ _ _ (.fz _ _ _ _ (.cut 1 rfl (Nat.le_refl _) ?_) .nil));simp[vw,trP,rI]
 simp only[zd,zt,zE];refine (h1 2 327681 [4] (by decide)).sc ?_;generalize hts1:qu 2 327681 [4]=ts1;have hlts1:ts1.length<=100000:=by rw[← hts1];decide
 simp only[↓vS,vT,simprocAttr];refine SC.give (vs':=[.ptr 0 0,.i .u32 2147418112,.fz ts1.length (rT ts1),.fz 2 (rS [zb,qB])]) [(6,.cells 0 true false [.s zb,.s qB])] ?_ ?_ ?_
 ·intro q hq;simp at hq;subst hq;simp[Tr.get_set,zb,qB]
 ·refine .keep _ _ _ (.keep _ _ _ (.keep _ _ _ (.fz _ _ _ _ (.cut 1 rfl (Nat.le_refl _) ?_) .nil)));simp[vw,trP,rS,zb,qB]
 simp only[zd,zt,zE];refine (h2 p a 2147418112 2147418112 ts1 [zb,qB] A0 hlts1 (by simp;omega)).sc (vs:=[.ptr 0 0,.i .u32 2147418112,.fz ts1.length (rT ts1),.fz 2 (rS [zb,qB])]) [0,4] (Lent.of (by decide) ?_) ?_
 ·simp[vL,vw,mkB,mkC,qf,qy ql,qh ql,qy qc,qh qc,qy qb,qh qb]
 simp only[vK,simprocAttr,mkB,mkC,qf,List.cons_append,List.nil_append,qh ql,qh qc,qh qb]
 have hlA:(A0++qO a 2147418112 ts1 [zb,qB]).length<=3:=by
  have:=xU a 2147418112 ts1 [zb,qB];simp only[List.length_append,List.length_cons,List.length_nil] at this ⊢;omega
 generalize hA1:A0++qO a 2147418112 ts1 [zb,qB]=A1 at hlA;simp only[↓vS,vT,simprocAttr];refine SC.give (vs':=[.i .i64 2,.i .u32 327681,.fz 1 (rI .u64 [32768])]) [(8,.cells 0 true false [.i .u64 32768])] ?_ ?_ ?_
 ·intro q hq;simp at hq;subst hq;simp[Tr.get_set]
 ·refine .keep _ _ _ (.keep _ _ _ (.fz _ _ _ _ (.cut 1 rfl (Nat.le_refl _) ?_) .nil));simp[vw,trP,rI]
 simp only[zd,zt,zE];refine (h1 2 327681 [32768] (by decide)).sc ?_;generalize hts2:qu 2 327681 [32768]=ts2;have hlts2:ts2.length<=100000:=by rw[← hts2];decide
 simp only[↓vS,vT,simprocAttr];refine SC.give (vs':=[.ptr 0 0,.i .u32 2147418112,.fz ts2.length (rT ts2),.fz 1 (rS [xe])]) [(9,.cells 0 true false [.s xe])] ?_ ?_ ?_
 ·intro q hq;simp at hq;subst hq;simp[Tr.get_set,xe]
 ·refine .keep _ _ _ (.keep _ _ _ (.keep _ _ _ (.fz _ _ _ _ (.cut 1 rfl (Nat.le_refl _) ?_) .nil)));simp[vw,trP,rS,xe]
 simp only[zd,zt,zE];refine (h2 p a 2147418112 2147418112 ts2 [xe] A1 hlts2 (by simp;omega)).sc (vs:=[.ptr 0 0,.i .u32 2147418112,.fz ts2.length (rT ts2),.fz 1 (rS [xe])]) [0,7] (Lent.of (by decide) ?_) ?_
 ·simp[vL,vw,mkB,mkC,qf,qy ql,qh ql,qy qc,qh qc,qy qb,qh qb]
 simp only[vK,simprocAttr,mkB,mkC,qf,List.cons_append,List.nil_append,qh ql,qh qc,qh qb]
 have hlA:(A1++qO a 2147418112 ts2 [xe]).length<=4:=by
  have:=xU a 2147418112 ts2 [xe];simp only[List.length_append,List.length_cons,List.length_nil] at this ⊢;omega
 generalize hA2:A1++qO a 2147418112 ts2 [xe]=A2 at hlA;simp only[↓vS,vT,simprocAttr];intro _;refine⟨[0,1,10],?_⟩;have e:(weM p a).2.1=A2:=by simp only[weM,← hA2,← hA1,← hA0,← hts0,← hts1,← hts2]
 rw[e];simp[vw,weM,mkB,mkC,qf,qk,ql,qc,qb,jc,rl];intro b hb;have:b=0∨b=1:=by omega
 rcases this with rfl|rfl<;>simp
def nsM(p:Pol)(a:Int):Bool×List GRule×Int:=(decide (p.spaces≠0),qO a 2147418112 (qu 0 327681 (zj p.spaces)) [qV,zA]++qO a 2147418112 (qu 1 327681 (zj p.spaces)++qt 1 4294967295 327681 [0]) [zm]++qO a 327718 [] [zh],2147418112)
def xW(a b c d:Nat):IFn:=⟨[.tmp 2],.seq (.r [.m 2 .F]) (.seq (.r [.n 4 0,.q 5 (.nilChk (.t 4)),.f 6 0 5,.f 7 8 6,.d 8 7,.l 9 a [.t 8],.n 3 9]) (.seq (.r [.n 10 0,.n 11 3,.l 12 b [.k 0,(.c (.i .u32 327681)),.t 11],.q 13 (.buildS 2 [.s []] [(0,1,(.c (.s [117,110,115,104,97,114,101]))),(1,1,(.c (.s [99,108,111,110,101])))]),.l 14 c [.t 10,(.c (.i .u32 2147418112)),.t 12,.t 13]]) (.seq (.r [.n 15 0,.n 16 3,.l 17 b [.k 1,(.c (.i .u32 327681)),.t 16],.q 18 (.buildS 1 [.i .u64 0] [(0,1,(.c (.i .u64 0)))]),.l 19 d [.k 1,(.c (.i .u64 4294967295)),(.c (.i .u32 327681)),.t 18],.q 20 (.app 4 32 true (.t 17) (.t 19)),.q 21 (.buildS 1 [.s []] [(0,1,(.c (.s [115,101,116,110,115])))]),.l 22 c [.t 15,(.c (.i .u32 2147418112)),.t 20,.t 21]]) (.seq (.r [.n 23 0,.q 24 (.buildS 1 [.s []] [(0,1,(.c (.s [99,108,111,110,101,51])))]),.l 25 c [.t 23,(.c (.i .u32 327718)),.N,.t 24]]) (.seq (.r [.n 26 0,.q 27 (.nilChk (.t 26)),.f 28 0 27,.f 29 8 28,.d 30 29,.q 31 (.bin .neq (.t 30) (.c (.i .u64 0))),.n 2 31]) (.ret))))))⟩
theorem qfk{g0 g1 g2 g3:Nat}(hc:qv P f (xW g0 g1 g2 g3)=true)(h0:∀s,qe P g0 [.i .u64 s] (.fz (zj s).length (rI .u64 (zj s))))(hb:qbx P g1)(h1:y7 P g3)(h2:wx P g2):zl P f nsM:=by
 intro p a hp hR;refine Upd.mkd hc (by simp[x5,bnd,mkB]) (by simp) ?_;simp only[xW,mkB,mkC,qf,vI,simprocAttr,List.cons_append,List.nil_append];simp only[↓vS,vT,simprocAttr];refine (h0 p.spaces).sc ?_;have hfl:(zj p.spaces).length<=8:=Nat.le_trans (List.length_filter_le _ _) (by decide);generalize hF:zj p.spaces=F at hfl;simp only[↓vS,vT,simprocAttr];refine (hb.pure 0 327681 F (by omega)).sc ?_;have hlts0:(qu 0 327681 F).length<=100000:=by simp[qu];omega
 generalize hts0:qu 0 327681 F=ts0 at hlts0;simp only[↓vS,vT,simprocAttr];refine SC.give (vs':=[.ptr 0 0,.i .u32 2147418112,.fz ts0.length (rT ts0),.fz 2 (rS [qV,zA])]) [(2,.cells 0 true false [.s qV,.s zA])] ?_ ?_ ?_
 ·intro q hq;simp at hq;subst hq;simp[Tr.get_set,qV,zA]
 ·refine .keep _ _ _ (.keep _ _ _ (.keep _ _ _ (.fz _ _ _ _ (.cut 1 rfl (Nat.le_refl _) ?_) .nil)));simp[vw,trP,rS,qV,zA]
 simp only[zd,zt,zE];refine (h2 p a 2147418112 2147418112 ts0 [qV,zA] [] hlts0 (by simp)).sc (vs:=[.ptr 0 0,.i .u32 2147418112,.fz ts0.length (rT ts0),.fz 2 (rS [qV,zA])]) [0,1] (Lent.of (by decide) ?_) ?_
 ·simp[vL,vw,mkB,mkC,qf,qy ql,qh ql,qy qc,qh qc,qy qb,qh qb]
 simp only[vK,simprocAttr,mkB,mkC,qf,List.cons_append,List.nil_append,qh ql,qh qc,qh qb]
 have hlA:(qO a 2147418112 ts0 [qV,zA]).length<=2:=by
  have:=xU a 2147418112 ts0 [qV,zA];simp only[List.length_append,List.length_cons,List.length_nil] at this ⊢;omega
 generalize hA0:qO a 2147418112 ts0 [qV,zA]=A0 at hlA;simp only[↓vS,vT,simprocAttr];refine (hb 1 327681 F (by omega)).sc ?_;simp only[vJ,simprocAttr,jP zc];have hlb:(qu 1 327681 F).length=F.length:=by simp[qu]
 have hlbT:(rT (qu 1 327681 F)).length=F.length*4:=by rw[xO,hlb]
 simp only[↓vS,vT,simprocAttr];refine SC.give (vs':=[.i .i64 1,.i .u64 4294967295,.i .u32 327681,.fz 1 (rI .u64 [0])]) [(5,.cells 0 true false [.i .u64 0])] ?_ ?_ ?_
 ·intro q hq;simp at hq;subst hq;simp[Tr.get_set]
 ·refine .keep _ _ _ (.keep _ _ _ (.keep _ _ _ (.fz _ _ _ _ (.cut 1 rfl (Nat.le_refl _) ?_) .nil)));simp[vw,trP,rI]
 simp only[zd,zt,zE];refine (h1 1 4294967295 327681 [0] (by decide)).sc ?_;generalize hts1:qt 1 4294967295 327681 [0]=ts1;have hlts1:ts1.length<=100000:=by rw[← hts1];decide
 simp only[↓vS,vT,simprocAttr];have hl1:ts1.length=1:=by rw[← hts1];rfl
 have hl1T:(rT ts1).length=4:=by rw[xO,hl1]
 obtain⟨ts2,hts2⟩:∃x,qu 1 327681 F++ts1=x:=⟨_,rfl⟩;have hl2:F.length+1=ts2.length:=by rw[← hts2,List.length_append,hlb,hl1]
 have hr1:ts2.length<=qd:=by simp only[qd];omega
 have hr2:ts2.length*32<=qd:=by simp only[qd];omega
 have hlts2:ts2.length<=100000:=by omega
 have htk:(rT (qu 1 327681 F)).take (F.length*4)=rT (qu 1 327681 F):=List.take_of_length_le (by omega);have htk1:(rT ts1).take 4=rT ts1:=List.take_of_length_le (by omega);have hok:qA (rT ts1)=true:=qkD;simp +decide only[↓vS,vT,simprocAttr,hl1,hl1T,hlbT,htk,htk1,hl2,hr1,hr2,kE,hts2,hok];refine SC.give (vs':=[.ptr 0 0,.i .u32 2147418112,.fz ts2.length (rT ts2),.fz 1 (rS [zm])]) [(6,.cells 4 true true (rT ts2)),(7,.cells 0 true false [.s zm])] ?_ ?_ ?_
 ·intro q hq;simp at hq;rcases hq with rfl|rfl<;>simp[Tr.get_set,zm]
 ·refine .keep _ _ _ (.keep _ _ _ (.fz _ _ _ _ (.own 6 _ 4 true (rT ts2) _ ?_ (fun h0=>?_) (Frzs.self zc)) (.fz _ _ _ _ (.cut 1 rfl (Nat.le_refl _) ?_) .nil)))
  ·simp[trP,Tr.get_set]
  ·rw[List.eq_nil_of_length_eq_zero h0];rfl
  simp[vw,trP,rS,zm]
 simp only[zd,zt,zE];refine (h2 p a 2147418112 2147418112 ts2 [zm] A0 hlts2 (by simp;omega)).sc (vs:=[.ptr 0 0,.i .u32 2147418112,.fz ts2.length (rT ts2),.fz 1 (rS [zm])]) [0,3] (Lent.of (by decide) ?_) ?_
 ·simp[vL,vw,mkB,mkC,qf,qy ql,qh ql,qy qc,qh qc,qy qb,qh qb]
 simp only[vK,simprocAttr,mkB,mkC,qf,List.cons_append,List.nil_append,qh ql,qh qc,qh qb]
 have hlA:(A0++qO a 2147418112 ts2 [zm]).length<=3:=by
  have:=xU a 2147418112 ts2 [zm];simp only[List.length_append,List.length_cons,List.length_nil] at this ⊢;omega
 generalize hA1:A0++qO a 2147418112 ts2 [zm]=A1 at hlA;simp only[↓vS,vT,simprocAttr];refine SC.give (vs':=[.ptr 0 0,.i .u32 327718,.fz 0 (rT []),.fz 1 (rS [zh])]) [(9,.cells 0 true false [.s zh])] ?_ ?_ ?_
 ·intro q hq;simp at hq;subst hq;simp[Tr.get_set,zh]
 ·refine .keep _ _ _ (.keep _ _ _ (.fz _ _ _ _ .nilz (.fz _ _ _ _ (.cut 1 rfl (Nat.le_refl _) ?_) .nil)));simp[vw,trP,rS,zh]
 simp only[zd,zt,zE];refine (h2 p a 2147418112 327718 [] [zh] A1 (by simp) (by simp;omega)).sc (vs:=[.ptr 0 0,.i .u32 327718,.fz 0 (rT []),.fz 1 (rS [zh])]) [0,8] (Lent.of (by decide) ?_) ?_
 ·simp[vL,vw,mkB,mkC,qf,qy ql,qh ql,qy qc,qh qc,qy qb,qh qb]
 simp only[vK,simprocAttr,mkB,mkC,qf,List.cons_append,List.nil_append,qh ql,qh qc,qh qb]
 have hlA:(A1++qO a 327718 [] [zh]).length<=4:=by
  have:=xU a 327718 [] [zh];simp only[List.length_append,List.length_cons,List.length_nil] at this ⊢;omega
 generalize hA2:A1++qO a 327718 [] [zh]=A2 at hlA;simp only[↓vS,vT,simprocAttr];intro _;refine⟨[0,1,10],?_⟩;have e:(nsM p a).2.1=A2:=by simp only[nsM,← hA2,← hA1,← hA0,← hts2,← hts0,← hts1,← hF]
 rw[e];simp[vw,nsM,mkB,mkC,qf,qk,ql,qc,qb,jc,rl];intro b hb;have:b=0∨b=1:=by omega
 rcases this with rfl|rfl<;>simp
end Go.Kc
end
