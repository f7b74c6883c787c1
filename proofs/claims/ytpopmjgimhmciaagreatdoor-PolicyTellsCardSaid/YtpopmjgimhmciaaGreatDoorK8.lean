/- Part 8 of the abstract machine and of the functions' walks. Conditions: with each theorem. -/
import Derived.Test.YtpopmjgimhmciaaGreatDoorK7
import Derived.Lib.Join
import Derived.Below
import Derived.Lib.ItoaLen
set_option linter.unusedSimpArgs false
set_option linter.unusedVariables false
set_option linter.unnecessarySimpa false
section
/- What the document's May of a policy answers. Condition: the functions' texts are these. -/
namespace Go.Kc
variable {P:Program} {f:Nat}
def jt:IFn:=⟨[.tmp 0],.seq (.r [.m 0 .N]) (.seq (.r [.q 1 (.build [.s [],.i .u64 0] [(0,1,(.c (.s [65,70,95,85,78,73,88]))),(1,1,(.c (.i .u64 1)))]),.q 2 (.build [.s [],.i .u64 0] [(0,1,(.c (.s [65,70,95,73,78,69,84]))),(1,1,(.c (.i .u64 2)))]),.q 3 (.build [.s [],.i .u64 0] [(0,1,(.c (.s [65,70,95,73,78,69,84,54]))),(1,1,(.c (.i .u64 10)))]),.q 4 (.build [.s [],.i .u64 0] [(0,1,(.c (.s [65,70,95,78,69,84,76,73,78,75]))),(1,1,(.c (.i .u64 16)))]),.q 5 (.build [.s [],.i .u64 0] [(0,1,(.c (.s [65,70,95,80,65,67,75,69,84]))),(1,1,(.c (.i .u64 17)))]),.q 6 (.build [.s [],.i .u64 0] [(0,1,(.c (.s [65,70,95,66,76,85,69,84,79,79,84,72]))),(1,1,(.c (.i .u64 31)))]),.q 7 (.build [.s [],.i .u64 0] [(0,1,(.c (.s [65,70,95,65,76,71]))),(1,1,(.c (.i .u64 38)))]),.q 8 (.build [.s [],.i .u64 0] [(0,1,(.c (.s [65,70,95,86,83,79,67,75]))),(1,1,(.c (.i .u64 40)))]),.q 9 (.buildS 8 [.s [],.i .u64 0] [(0,2,(.t 1)),(2,2,(.t 2)),(4,2,(.t 3)),(6,2,(.t 4)),(8,2,(.t 5)),(10,2,(.t 6)),(12,2,(.t 7)),(14,2,(.t 8))]),.n 0 9]) (.ret))⟩
theorem qrG(hc:qt P f jt=true):qe P f [] (.fz 8 (qm.flatMap (qQ .u64))):=by
 refine qe.mk hc rfl ?_;simp only[jt,vI,simprocAttr];simp only[↓vS,vT,simprocAttr];refine .cut 2 rfl (Nat.le_refl _) ?_;simp[vw,qm,qQ]
def jL:IFn:=⟨[.tmp 0],.seq (.r [.m 0 .N]) (.seq (.r [.q 1 (.build [.s [],.i .u64 0] [(0,1,(.c (.s [116,105,109,101]))),(1,1,(.c (.i .u64 128)))]),.q 2 (.build [.s [],.i .u64 0] [(0,1,(.c (.s [109,110,116]))),(1,1,(.c (.i .u64 131072)))]),.q 3 (.build [.s [],.i .u64 0] [(0,1,(.c (.s [99,103,114,111,117,112]))),(1,1,(.c (.i .u64 33554432)))]),.q 4 (.build [.s [],.i .u64 0] [(0,1,(.c (.s [117,116,115]))),(1,1,(.c (.i .u64 67108864)))]),.q 5 (.build [.s [],.i .u64 0] [(0,1,(.c (.s [105,112,99]))),(1,1,(.c (.i .u64 134217728)))]),.q 6 (.build [.s [],.i .u64 0] [(0,1,(.c (.s [117,115,101,114]))),(1,1,(.c (.i .u64 268435456)))]),.q 7 (.build [.s [],.i .u64 0] [(0,1,(.c (.s [112,105,100]))),(1,1,(.c (.i .u64 536870912)))]),.q 8 (.build [.s [],.i .u64 0] [(0,1,(.c (.s [110,101,116]))),(1,1,(.c (.i .u64 1073741824)))]),.q 9 (.buildS 8 [.s [],.i .u64 0] [(0,2,(.t 1)),(2,2,(.t 2)),(4,2,(.t 3)),(6,2,(.t 4)),(8,2,(.t 5)),(10,2,(.t 6)),(12,2,(.t 7)),(14,2,(.t 8))]),.n 0 9]) (.ret))⟩
theorem qvB(hc:qt P f jL=true):qe P f [] (.fz 8 (qg.flatMap (qQ .u64))):=by
 refine qe.mk hc rfl ?_;simp only[jL,vI,simprocAttr];simp only[↓vS,vT,simprocAttr];refine .cut 2 rfl (Nat.le_refl _) ?_;simp[vw,qg,qQ]
def qar(a:Nat):IFn:=⟨[.tmp 0],.seq (.r [.m 0 (.c (.i .u64 0))]) (.seq (.r [.l 4 a [],.n 1 4]) (.seq (.r [.m 2 (.c (.i .u64 0))]) (.seq (.seq (.r [.m 3 (.k 0)]) (.blk 0 (.loop (.seq (.seq (.r [.n 5 3,.n 6 1,.e 7 6,.s 8 5 7]) (.cond (.t 8) (.skip) (.exit 0))) (.seq (.blk 1 (.r [.n 11 2,.n 12 1,.n 13 3,.i 14 2 12 13,.f 15 1 14,.d 16 15,.b 17 .add 11 16,.n 2 17])) (.r [.n 9 3,.a 10 9 1,.n 3 10])))))) (.seq (.r [.n 18 2,.n 0 18]) (.ret)))))⟩
theorem qwQ{g:Nat}(hc:qt P f (qar g)=true)(hg:qe P g [] (.fz 8 (qg.flatMap (qQ .u64)))):qe P f [] (.i .u64 2114060416):=by
 refine qe.mk hc rfl ?_;simp only[qar,vI,simprocAttr];simp only[↓vS,vT,simprocAttr];refine hg.sc ?_;simp only[↓vS,vT,simprocAttr]
 iterate 8
  refine qej ?_;simp only[↓vS,vT,simprocAttr,qg,qQ,List.flatMap_cons,List.flatMap_nil,Int.reduceLT,Int.reduceAdd,Int.reduceNeg,qF,qbI,Int.reduceLE]
 refine qej ?_;simp only[↓vS,vT,simprocAttr,Int.reduceLT,vZ,and_self]
def qab:IFn:=⟨[.tmp 4],.seq (.r [.m 4 (.c (.s []))]) (.seq (.seq (.r [.m 5 (.k 0)]) (.blk 0 (.loop (.seq (.seq (.r [.n 6 5,.n 7 0,.e 8 7,.s 9 6 8]) (.cond (.t 9) (.skip) (.exit 0))) (.seq (.blk 1 (.seq (.r [.n 12 0,.n 13 5,.i 14 2 12 13,.f 15 1 14,.d 16 15,.n 17 1,.b 18 .eql 16 17]) (.cond (.t 18) (.seq (.r [.n 19 0,.n 20 5,.i 21 2 19 20,.f 22 0 21,.d 23 22,.n 4 23]) (.ret)) (.skip)))) (.r [.n 10 5,.a 11 10 1,.n 5 11])))))) (.seq (.r [.m 4 (.c (.s []))]) (.ret)))⟩
theorem qwl(hc:qt P f qab=true)(l:List (List UInt8×Int))(n:Int)(hl:l.length<=qf):qe P f [.fz l.length (l.flatMap (qQ .u64)),.i .u64 n] (.s (qJ n l)):=by
 refine qe.mk hc (by simp[qG,clo]) ?_;simp only[qab,vI,simprocAttr];simp only[↓vS,vT,simprocAttr];refine SL.loop (α:=Nat) (fun j=>[(0,.fz l.length (l.flatMap (qQ .u64))),(1,.i .u64 n),(5,.i .i64 j)]) (fun _=>[]) (fun j=>j<=l.length∧qJ n l=qJ n (l.drop j)) (fun j=>l.length-j) 0 [] ?_ ?_ ?_ rfl ?_ ?_
 ·simp[vw]
 ·trivial
 ·simp
 ·simp
 rintro j ⟨hj,hI⟩ G ih;simp only[vI,simprocAttr]
 by_cases hlt:j<l.length
 ·have hx:l[j]?=some l[j]:=List.getElem?_eq_getElem hlt;have hw:IntKind.wrap .i64 ((j:Int)+1)=(j:Int)+1:=qF (by omega) (by have:=hl;simp only[qf] at this;omega)
  have g0:(l.flatMap (qQ .u64))[j*2]?=some (.s l[j].1):=by simpa[qQ] using qb5 (f:=qQ .u64) (m:=2) qaL hx (i:=0) (by decide)
  have g1:(l.flatMap (qQ .u64))[j*2+1]?=some (.i .u64 l[j].2):=by simpa[qQ] using qb5 (f:=qQ .u64) (m:=2) qaL hx (i:=1) (by decide)
  rw[List.drop_eq_getElem_cons hlt,qJ] at hI;generalize hc0:l[j]=c at hI g0 g1
  by_cases hs:c.2=n
  ·rw[if_pos hs] at hI;simp only[↓vS,vT,simprocAttr,hlt,g0,g1,qQ,hs];simp[vZ,hI]
  ·rw[if_neg hs] at hI;simp only[↓vS,vT,simprocAttr,hlt,g0,g1,qQ,hw,hs];refine ih (j+1) ⟨by omega,hI⟩ (by omega) _ _ (Wk.mk _ _ [] ?_ ?_ ?_ rfl)
   ·simp[vw]
   ·trivial
   ·simp
 ·simp only[↓vS,vT,simprocAttr,hlt,vZ];rw[List.drop_eq_nil_of_le (by omega),qJ] at hI;rw[hI]
theorem qlx{s m:Int}(h0:0<=s)(h1:s<18446744073709551616):decide (xa .u64 s m=s)=decide (qfp .u64 s m=0):=by
 have hs:s=((BitVec.ofInt 64 s).toNat:Int):=by
  rw[BitVec.toNat_ofInt];omega
 have hw:∀x:BitVec 64,IntKind.wrap .u64 (x.toNat:Int)=x.toNat:=fun x=>qbI (by omega) (by have:=x.isLt;omega)
 have e1:xa .u64 s m=(BitVec.ofInt 64 s &&& BitVec.ofInt 64 m).toNat:=hw _;have e2:qfp .u64 s m=(BitVec.ofInt 64 s &&& ~~~ (BitVec.ofInt 64 m)).toNat:=hw _;rw[e1,e2];generalize BitVec.ofInt 64 s=x at hs ⊢;generalize BitVec.ofInt 64 m=y;rw[hs,Bool.eq_iff_iff,decide_eq_true_eq,decide_eq_true_eq];have a1:(((x &&& y).toNat:Int)=x.toNat)↔x &&& y=x:=by rw[Int.ofNat_inj,← BitVec.toNat_inj]
 have a2:(((x &&& ~~~y).toNat:Int)=0)↔x &&& ~~~y=0:=by
  rw[← BitVec.toNat_inj];simp
 rw[a1,a2];constructor
 ·intro h;rw[← h,BitVec.and_assoc,BitVec.and_not_self];simp
 ·intro h
  have:x=(x &&& y) ||| (x &&& ~~~ y):=by
   rw[← BitVec.and_or_distrib_left,BitVec.or_not_self,BitVec.and_allOnes]
  rw[h,show (0:BitVec 64)=0#64 from rfl,BitVec.or_zero] at this;exact this.symm
structure PolR (p:Pol):Prop where
 fams:∀x ∈ p.fams,0<=x∧x<=4294967295
 deny:0<=p.deny∧p.deny<=4294967295
 spaces:0<=p.spaces∧p.spaces<18446744073709551616
 filter:Rng p.filter.calls
 log:Rng p.log.calls
noncomputable def qd0(p:Pol):Bool:=qaJ p&&x5 p.filter&&x5 p.log&&qaE p.deny&&decide (qfp .u64 p.spaces 2114060416=0)
noncomputable def qix(p:Pol):Bool:=!(p.log.calls.any fun c=>decide (c.act≠0))&&qd0 p
noncomputable def qgJ(p:Pol):Bool:=qN qcp none p.fams&&qix p
theorem qhw(p:Pol):qag p=(qN (fun a=>decide (0<=a)&&decide (a<6)) none p.arches&&qgJ p):=by
 unfold qag qgJ qix qd0 qah;generalize (p.log.calls.any fun c=>decide (c.act≠0))=a
 generalize qaE p.deny=b;generalize qaJ p=c;generalize qN (fun a=>decide (0<=a)&&decide (a<6)) none p.arches=d
 generalize qN qcp none p.fams=e;generalize x5 p.filter=g;generalize x5 p.log=i;generalize decide (qfp .u64 p.spaces 2114060416=0)=j;revert a b c d e g i j;decide
def zP(a b c d:Nat):ICode:=.seq (.seq (.r [.f 121 3 1,.d 122 121,.q 123 (.bin .neq (.t 122) (.c (.i .u32 2147483648))),.n 124 123,.h 125 3 1 124 true,.j 126 125 124 true,.g 127 (.bin .quo (.t 126) (.c (.i .u32 65536))) 124 true,.g 128 (.bin .neq (.t 127) (.c (.i .u32 5))) 124 true,.y 129 128 124,.h 130 3 1 129 false,.j 131 130 129 false,.g 132 (.bin .rem (.t 131) (.c (.i .u32 65536))) 129 false,.g 133 (.bin .gtr (.t 132) (.c (.i .u32 4095))) 129 false,.g 134 (.pick (.t 129) .T (.t 133)) 124 true,.p 135 124 134]) (.cond (.t 135) (.seq (.r [.m 2 .F]) (.ret)) (.skip))) (.seq (.reg true [.f 136 8 1,.d 137 136,.l 138 d [],.b 139 .and 137 138,.f 140 8 1,.d 141 140,.b 142 .eql 139 141,.n 2 142]) (.ret))
def xA(a b c d:Nat):ICode:=.seq (.seq (.r [.f 95 7 1,.d 96 95,.q 97 (.bin .gtr (.t 96) (.c (.i .u8 2))),.n 98 97,.h 99 7 1 98 false,.j 100 99 98 false,.g 101 (.bin .eql (.t 100) (.c (.i .u8 0))) 98 false,.z 102 101 98,.h 103 6 1 102 true,.j 104 103 102 true,.g 105 (.len false (.t 104)) 102 true,.g 106 (.bin .gtr (.t 105) (.k 0)) 102 true,.g 107 (.pick (.t 102) (.t 106) .F) 98 false,.o 108 98 107,.n 109 108,.h 110 1 1 109 false,.g 111 (.loadN 2 (.t 110)) 109 false,⟨(some 112),.callF c [.t 111],(some (109,false))⟩,.g 113 (.un .not (.t 112)) 109 false,.o 114 109 113,.n 115 114,.h 116 4 1 115 false,.g 117 (.loadN 2 (.t 116)) 115 false,⟨(some 118),.callF c [.t 117],(some (115,false))⟩,.g 119 (.un .not (.t 118)) 115 false,.o 120 115 119]) (.cond (.t 120) (.seq (.r [.m 2 .F]) (.ret)) (.skip))) (.cut (zP a b c d))
def xz(a b c d:Nat):ICode:=.seq (.seq (.r [.m 5 (.k 0)]) (.blk 4 (.loop (.seq (.seq (.r [.n 79 5,.f 80 4 1,.f 81 1 80,.d 82 81,.e 83 82,.s 84 79 83]) (.cond (.t 84) (.skip) (.exit 4))) (.seq (.blk 5 (.seq (.r [.f 87 4 1,.f 88 1 87,.d 89 88,.n 90 5,.i 91 2 89 90,.f 92 1 91,.d 93 92,.q 94 (.bin .neq (.t 93) (.c (.i .u32 0)))]) (.cond (.t 94) (.seq (.r [.m 2 .F]) (.ret)) (.skip)))) (.r [.n 85 5,.a 86 85 1,.n 5 86])))))) (.cut (xA a b c d))
def xy(a b c d:Nat):ICode:=.seq (.seq (.r [.m 4 (.k 0)]) (.blk 2 (.loop (.seq (.seq (.r [.n 45 4,.f 46 6 1,.d 47 46,.e 48 47,.s 49 45 48]) (.cond (.t 49) (.skip) (.exit 2))) (.seq (.blk 3 (.seq (.reg true [.l 52 a [],.f 53 6 1,.d 54 53,.n 55 4,.i 56 1 54 55,.d 57 56,.q 58 (.cvInt .u64 (.t 57)),.l 59 b [.t 52,.t 58],.q 60 (.bin .eql (.t 59) (.c (.s []))),.n 61 60,.z 62 4 61,.g 63 (.bin .gtr (.t 62) (.k 0)) 61 false,.z 64 63 61,.h 65 6 1 64 true,.j 66 65 64 true,.y 67 4 64,.g 68 (.iAddrS 1 (.t 66) (.t 67)) 64 true,.j 69 68 64 true,.h 70 6 1 64 true,.j 71 70 64 true,.y 72 4 64,.g 73 (.bin .sub (.t 72) (.k 1)) 64 true,.g 74 (.iAddrS 1 (.t 71) (.t 73)) 64 true,.j 75 74 64 true,.g 76 (.bin .leq (.t 69) (.t 75)) 64 true,.g 77 (.pick (.t 64) (.t 76) .F) 61 false,.o 78 61 77]) (.cond (.t 78) (.seq (.r [.m 2 .F]) (.ret)) (.skip)))) (.r [.n 50 4,.a 51 50 1,.n 4 51])))))) (.cut (xz a b c d))
def qat(a b c d:Nat):IFn:=⟨[.tmp 2],.seq (.r [.q 1 (.box (.t 0)),.m 2 .F]) (.seq (.seq (.r [.m 3 (.k 0)]) (.blk 0 (.loop (.seq (.seq (.r [.n 6 3,.f 7 0 1,.d 8 7,.e 9 8,.s 10 6 9]) (.cond (.t 10) (.skip) (.exit 0))) (.seq (.blk 1 (.seq (.reg true [.f 13 0 1,.d 14 13,.n 15 3,.i 16 1 14 15,.d 17 16,.w 18 .lss 17 0,.n 19 18,.h 20 0 1 19 false,.j 21 20 19 false,.z 22 3 19,.g 23 (.iAddrS 1 (.t 21) (.t 22)) 19 false,.j 24 23 19 false,.g 25 (.bin .gtr (.t 24) (.k 5)) 19 false,.o 26 19 25,.n 27 26,.z 28 3 27,.g 29 (.bin .gtr (.t 28) (.k 0)) 27 false,.z 30 29 27,.h 31 0 1 30 true,.j 32 31 30 true,.y 33 3 30,.g 34 (.iAddrS 1 (.t 32) (.t 33)) 30 true,.j 35 34 30 true,.h 36 0 1 30 true,.j 37 36 30 true,.y 38 3 30,.g 39 (.bin .sub (.t 38) (.k 1)) 30 true,.g 40 (.iAddrS 1 (.t 37) (.t 39)) 30 true,.j 41 40 30 true,.g 42 (.bin .leq (.t 35) (.t 41)) 30 true,.g 43 (.pick (.t 30) (.t 42) .F) 27 false,.o 44 27 43]) (.cond (.t 44) (.seq (.r [.m 2 .F]) (.ret)) (.skip)))) (.r [.n 11 3,.a 12 11 1,.n 3 12])))))) (.cut (xy a b c d)))⟩
section
variable {g1 g2 g3 g4:Nat}
set_option maxRecDepth 4000 in
theorem qne(h4:qe P g4 [] (.i .u64 2114060416))(p:Pol)(hr:PolR p){t':Tr AV}{h':Hp}(hw:Wk 0 t' h' (mkT [(1,.ptr 0 0),(2,.b false)]) (mkH 0 [.cells 0 true false (qj p)])) :
  S P 0 (zP g1 g2 g3 g4) (jD [.tmp 2] fun v' h'=>Frz h' v' (.b (qaE p.deny&&decide (qfp .u64 p.spaces 2114060416=0)))) t' h':=by
 refine S.weak hw (qr ?_);simp only[zP,qj,vI,simprocAttr];have hd:=hr.deny;have hs:=qlx (m:=2114060416) hr.spaces.1 hr.spaces.2;have h65:(65536:Int)≠0:=by decide
 have eD:qaE p.deny=(decide (p.deny=2147483648)||(decide (p.deny.tdiv 65536=5)&&decide (p.deny.tmod 65536<=4095))):=by
  have:=qd9 hd.1;unfold qaE;rw[Bool.eq_iff_iff];simp only[Bool.or_eq_true,Bool.and_eq_true,decide_eq_true_eq];omega
 by_cases d1:p.deny=2147483648
 ·simp only[↓vS,vT,simprocAttr,d1];refine xb ?_;simp only[↓vS,vT,simprocAttr];refine h4.pc ?_;simp only[↓vS,vT,simprocAttr];simp[vZ,← hs,qaE,d1]
 by_cases e2:p.deny.tdiv 65536=5
 ·have hwq:IntKind.wrap .u32 (p.deny.tdiv 65536)=5:=by rw[e2];decide
  by_cases e3:4095<p.deny.tmod 65536
  ·have hf:qaE p.deny=false:=by rw[eD];simp[d1,e2];omega
   simp only[↓vS,vT,simprocAttr,d1,↓jf h65,↓jS h65,hwq,e3];simp[vZ,hf]
  ·have hf:qaE p.deny=true:=by rw[eD];simp[d1,e2];omega
   simp only[↓vS,vT,simprocAttr,d1,↓jf h65,↓jS h65,hwq,e3];refine xb ?_;simp only[↓vS,vT,simprocAttr];refine h4.pc ?_;simp only[↓vS,vT,simprocAttr];simp[vZ,← hs,hf]
 ·have hwq:¬IntKind.wrap .u32 (p.deny.tdiv 65536)=5:=by rw[qbH (qcf hd.1 hd.2).1 (by have:=(qcf hd.1 hd.2).2;omega)];exact e2
  have hf:qaE p.deny=false:=by rw[eD];simp[d1,e2]
  simp only[↓vS,vT,simprocAttr,d1,↓jf h65,hwq];simp[vZ,hf]
theorem qnd(h3:qhV P g3)(h4:qe P g4 [] (.i .u64 2114060416))(p:Pol)(hp:PolOk p)(hr:PolR p){t':Tr AV}{h':Hp}(hw:Wk 0 t' h' (mkT [(1,.ptr 0 0),(2,.b false)]) (mkH 0 [.cells 0 true false (qj p)])) :
  S P 0 (xA g1 g2 g3 g4) (jD [.tmp 2] fun v' h'=>Frz h' v' (.b (qd0 p))) t' h':=by
 have hcc:=hp.c;have hl:=hp.l;refine S.weak hw (qr ?_);simp only[xA,qj,vI,simprocAttr]
 have fin:∀{t':Tr AV} {h':Hp},qaJ p=true->x5 p.filter=true->x5 p.log=true->Wk 0 t' h' (mkT [(1,.ptr 0 0),(2,.b false)]) (mkH 0 [.cells 0 true false (qj p)])->S P 0 (zP g1 g2 g3 g4) (jD [.tmp 2] fun v' h'=>Frz h' v' (.b (qd0 p))) t' h':=by
  intro t' h' a b c hw;have:=qne (g1:=g1) (g2:=g2) (g3:=g3) h4 p hr hw;have e:qd0 p=(qaE p.deny&&decide (qfp .u64 p.spaces 2114060416=0)):=by simp[qd0,a,b,c]
  rw[e];exact this
 by_cases m1:2<p.fmode
 ·have hm:qd0 p=false:=by simp[qd0,qaJ];omega
  simp only[↓vS,vT,simprocAttr,m1];simp[vZ,hm]
 by_cases m2:p.fmode=0
 ·by_cases m3:p.fams=[]
  ·have h0:¬(0:Int)<p.fams.length:=by rw[m3];decide
   have hmk:qaJ p=true:=by simp[qaJ,m2,m3]
   simp only[↓vS,vT,simprocAttr,m1,m2,h0];refine (h3 p.filter (by omega) hr.filter).sc ?_;cases hF:x5 p.filter
   ·simp only[↓vS,vT,simprocAttr];simp[vZ,qd0,hF]
   simp only[↓vS,vT,simprocAttr];refine (h3 p.log (by omega) hr.log).sc ?_;cases hL:x5 p.log
   ·simp only[↓vS,vT,simprocAttr];simp[vZ,qd0,hL]
   simp only[↓vS,vT,simprocAttr];refine fin hmk hF hL (Wk.mk _ _ [0] ?_ ?_ ?_ rfl)
   ·simp[vw]
   ·simp[vw,qj,qd,qc,m2]
   ·simp
  ·have h0:(0:Int)<p.fams.length:=by have:=List.length_pos_iff.2 m3;omega
   have hm:qd0 p=false:=by simp[qd0,qaJ,m2,m3]
   simp only[↓vS,vT,simprocAttr,m1,m2,h0];simp[vZ,hm]
 ·have hmk:qaJ p=true:=by simp[qaJ,m2];omega
  simp only[↓vS,vT,simprocAttr,m1,m2];refine (h3 p.filter (by omega) hr.filter).sc ?_;cases hF:x5 p.filter
  ·simp only[↓vS,vT,simprocAttr];simp[vZ,qd0,hF]
  simp only[↓vS,vT,simprocAttr];refine (h3 p.log (by omega) hr.log).sc ?_;cases hL:x5 p.log
  ·simp only[↓vS,vT,simprocAttr];simp[vZ,qd0,hL]
  simp only[↓vS,vT,simprocAttr];refine fin hmk hF hL (Wk.mk _ _ [0] ?_ ?_ ?_ rfl)
  ·simp[vw]
  ·simp[vw,qj,qd,qc]
  ·simp
theorem qnc(h3:qhV P g3)(h4:qe P g4 [] (.i .u64 2114060416))(p:Pol)(hp:PolOk p)(hr:PolR p){t':Tr AV}{h':Hp}(hw:Wk 0 t' h' (mkT [(1,.ptr 0 0),(2,.b false)]) (mkH 0 [.cells 0 true false (qj p)])) :
  S P 0 (xz g1 g2 g3 g4) (jD [.tmp 2] fun v' h'=>Frz h' v' (.b (qix p))) t' h':=by
 have hl:=hp.l;refine S.weak hw (qr ?_);simp only[xz,qj,vI,simprocAttr];simp only[↓vS,vT,simprocAttr]
 refine SL.loop (α:=Nat) (fun j=>[(1,.ptr 0 0),(2,.b false),(5,.i .i64 j)]) (fun _=>[.cells 0 true false (qj p)])
  (fun j=>j<=p.log.calls.length∧(p.log.calls.any fun c=>decide (c.act≠0))=((p.log.calls.drop j).any fun c=>decide (c.act≠0))) (fun j=>p.log.calls.length-j) 0 [0] ?_ ?_ ?_ rfl ?_ ?_
 ·simp[vw]
 ·simp[vw,qj,qd,qc]
 ·simp
 ·exact⟨Nat.zero_le _,rfl⟩
 rintro j ⟨hj,hI⟩ G ih;simp only[vI,simprocAttr,qj]
 by_cases hlt:j<p.log.calls.length
 ·have hx:p.log.calls[j]?=some p.log.calls[j]:=List.getElem?_eq_getElem hlt;have g1:(rC p.log.calls)[j*2+1]?=some (.i .u32 p.log.calls[j].act):=qgq hx (i:=1) (by decide);have hw:IntKind.wrap .i64 ((j:Int)+1)=((j+1:Nat):Int):=by rw[qF (by omega) (by omega)];omega
  rw[List.drop_eq_getElem_cons hlt,List.any_cons] at hI;generalize hc0:p.log.calls[j]=c at hI hx g1
  by_cases h0:c.act=0
  ·simp only[↓vS,vT,simprocAttr,hlt,g1,h0,hw];refine ih (j+1) ⟨by omega,?_⟩ (by omega) _ _ (Wk.mk _ _ [0] ?_ ?_ ?_ rfl)
   ·rw[hI];simp[h0]
   ·simp[vw]
   ·simp[vw,qj,qd,qc]
   ·simp
  ·have hm:qix p=false:=by unfold qix;rw[hI];simp[h0]
   simp only[↓vS,vT,simprocAttr,hlt,g1,h0];simp[vZ,hm]
 ·rw[List.drop_of_length_le (by omega)] at hI;have hm:qix p=qd0 p:=by unfold qix;rw[hI];simp
  simp only[↓vS,vT,simprocAttr,hlt];rw[hm];refine qnd h3 h4 p hp hr (Wk.mk _ _ [0] ?_ ?_ ?_ rfl)
  ·simp[vw]
  ·simp[vw,qj,qd,qc]
  ·simp
theorem qnb(h1:qe P g1 [] (.fz 8 (qm.flatMap (qQ .u64))))(h2:∀(l:List (List UInt8×Int)) (n:Int),l.length<=qf->qe P g2 [.fz l.length (l.flatMap (qQ .u64)),.i .u64 n] (.s (qJ n l)))(h3:qhV P g3)(h4:qe P g4 [] (.i .u64 2114060416))(p:Pol)(hp:PolOk p)(hr:PolR p){t':Tr AV}{h':Hp}(hw:Wk 0 t' h' (mkT [(1,.ptr 0 0),(2,.b false)]) (mkH 0 [.cells 0 true false (qj p)])) :
  S P 0 (xy g1 g2 g3 g4) (jD [.tmp 2] fun v' h'=>Frz h' v' (.b (qgJ p))) t' h':=by
 have hl:=hp.f;refine S.weak hw (qr ?_);simp only[xy,qj,vI,simprocAttr];simp only[↓vS,vT,simprocAttr]
 refine SL.loop (α:=Nat) (fun j=>[(1,.ptr 0 0),(2,.b false),(4,.i .i64 j)]) (fun _=>[.cells 0 true false (qj p)])
  (fun j=>j<=p.fams.length∧qN qcp none p.fams=qN qcp (if j=0 then none else p.fams[j-1]?) (p.fams.drop j)) (fun j=>p.fams.length-j) 0 [0] ?_ ?_ ?_ rfl ?_ ?_
 ·simp[vw]
 ·simp[vw,qj,qd,qc]
 ·simp
 ·exact⟨Nat.zero_le _,rfl⟩
 rintro j ⟨hj,hI⟩ G ih;simp only[vI,simprocAttr,qj]
 by_cases hlt:j<p.fams.length
 ·have hx:p.fams[j]?=some p.fams[j]:=List.getElem?_eq_getElem hlt;have hw:IntKind.wrap .i64 ((j:Int)+1)=((j+1:Nat):Int):=by rw[qF (by omega) (by omega)];omega
  have hb:=hr.fams p.fams[j] (List.getElem_mem hlt);rw[List.drop_eq_getElem_cons hlt,qN] at hI;generalize hc0:p.fams[j]=c at hI hx hb;have hcv:IntKind.wrap .u64 c=c:=qbI (by omega) (by omega);simp only[↓vS,vT,simprocAttr,hlt];refine xb ?_;simp only[↓vS,vT,simprocAttr];refine h1.pc ?_;simp only[↓vS,vT,simprocAttr,hlt,Nat.mul_one,zF,hx,Option.map_some,hcv];refine (h2 qm c (by decide)).pc ?_;cases hk:qcp c with
  | false =>
   have hn:qJ c qm=[]:=by simpa[qcp] using hk
   have hwf:qgJ p=false:=by unfold qgJ;rw[hI];simp[hk]
   simp only[↓vS,vT,simprocAttr,hn];simp[vZ,hwf]
  | true =>
   have hn:(qJ c qm=[])=False:=eq_false (by simpa[qcp] using hk)
   by_cases h0:j=0
   ·subst h0;have hn0:¬(0:Int)<((0:Nat):Int):=by decide
    simp only[↓vS,vT,simprocAttr,hn,hn0,hw];refine ih 1 ⟨by omega,?_⟩ (by omega) _ _ (Wk.mk _ _ [0] ?_ ?_ ?_ rfl)
    ·rw[hI,hk];simp[hx]
    ·simp[vw];exact qF (by decide) (by decide)
    ·simp[vw,qj,qd,qc]
    ·simp
   ·have hp0:(0:Int)<(j:Int):=by omega
    have hpl:j-1<p.fams.length:=by omega
    have hy:p.fams[j-1]?=some p.fams[j-1]:=List.getElem?_eq_getElem hpl;have hw2:IntKind.wrap .i64 ((j:Int)-1)=((j-1:Nat):Int):=by rw[qF (by omega) (by omega)];omega
    rw[if_neg h0,hy] at hI
    by_cases hlt2:c<=p.fams[j-1]
    ·have hwf:qgJ p=false:=by unfold qgJ;rw[hI];simp[Int.not_lt.2 hlt2]
     simp only[↓vS,vT,simprocAttr,hn,hp0,hw2,hpl,hlt,hx,hy,Nat.mul_one,zF,Option.map_some,hlt2];simp[vZ,hwf]
    ·simp only[↓vS,vT,simprocAttr,hn,hp0,hw2,hpl,hlt,hx,hy,Nat.mul_one,zF,Option.map_some,hlt2,hw];refine ih (j+1) ⟨by omega,?_⟩ (by omega) _ _ (Wk.mk _ _ [0] ?_ ?_ ?_ rfl)
     ·rw[hI,hk];simp[hx];omega
     ·simp[vw]
     ·simp[vw,qj,qd,qc]
     ·simp
 ·rw[List.drop_of_length_le (by omega),qN] at hI;have hm:qgJ p=qix p:=by unfold qgJ;rw[hI];simp
  simp only[↓vS,vT,simprocAttr,hlt];rw[hm];refine qnc h3 h4 p hp hr (Wk.mk _ _ [0] ?_ ?_ ?_ rfl)
  ·simp[vw]
  ·simp[vw,qj,qd,qc]
  ·simp
theorem qwS(hc:qt P f (qat g1 g2 g3 g4)=true)(h1:qe P g1 [] (.fz 8 (qm.flatMap (qQ .u64))))(h2:∀(l:List (List UInt8×Int)) (n:Int),l.length<=qf->qe P g2 [.fz l.length (l.flatMap (qQ .u64)),.i .u64 n] (.s (qJ n l)))(h3:qhV P g3)(h4:qe P g4 [] (.i .u64 2114060416))(p:Pol)(hp:PolOk p)(hr:PolR p) :
  qe P f [.agg (qj p)] (.b (qag p)):=by
 have hl:=hp.a;refine qe.mk hc rfl ?_;simp only[qat,qj,vI,simprocAttr];simp only[↓vS,vT,simprocAttr]
 refine SL.loop (α:=Nat) (fun j=>[(1,.ptr 0 0),(2,.b false),(3,.i .i64 j)]) (fun _=>[.cells 0 true false (qj p)])
  (fun j=>j<=p.arches.length∧qN (fun a=>decide (0<=a)&&decide (a<6)) none p.arches=qN (fun a=>decide (0<=a)&&decide (a<6)) (if j=0 then none else p.arches[j-1]?) (p.arches.drop j)) (fun j=>p.arches.length-j) 0 [0] ?_ ?_ ?_ rfl ?_ ?_
 ·simp[vw]
 ·simp[vw,qj,qd,qc]
 ·simp
 ·exact⟨Nat.zero_le _,rfl⟩
 rintro j ⟨hj,hI⟩ G ih;simp only[vI,simprocAttr,qj]
 by_cases hlt:j<p.arches.length
 ·have hx:p.arches[j]?=some p.arches[j]:=List.getElem?_eq_getElem hlt;have hw:IntKind.wrap .i64 ((j:Int)+1)=((j+1:Nat):Int):=by rw[qF (by omega) (by omega)];omega
  rw[List.drop_eq_getElem_cons hlt,qN] at hI;generalize hc0:p.arches[j]=c at hI hx
  have bad:¬(0<=c∧c<6)->qag p=false:=fun h=>by
   rw[qhw,hI]
   have:(decide (0<=c)&&decide (c<6))=false:=by
    rw[Bool.eq_false_iff];simpa using h
   simp[this]
  simp only[↓vS,vT,simprocAttr,hlt];refine xb ?_
  by_cases k1:c<0
  ·simp only[↓vS,vT,simprocAttr,hlt,Nat.mul_one,zF,hx,Option.map_some,k1];simp[vZ,bad (by omega)]
  by_cases k2:5<c
  ·simp only[↓vS,vT,simprocAttr,hlt,Nat.mul_one,zF,hx,Option.map_some,k1,k2];simp[vZ,bad (by omega)]
  have hk:(decide (0<=c)&&decide (c<6))=true:=by simp;omega
  by_cases h0:j=0
  ·subst h0;have hn0:¬(0:Int)<((0:Nat):Int):=by decide
   simp only[↓vS,vT,simprocAttr,hlt,Nat.mul_one,zF,hx,Option.map_some,k1,k2,hn0,hw];refine ih 1 ⟨by omega,?_⟩ (by omega) _ _ (Wk.mk _ _ [0] ?_ ?_ ?_ rfl)
   ·rw[hI,hk];simp[hx]
   ·simp[vw];exact qF (by decide) (by decide)
   ·simp[vw,qj,qd,qc]
   ·simp
  ·have hp0:(0:Int)<(j:Int):=by omega
   have hpl:j-1<p.arches.length:=by omega
   have hy:p.arches[j-1]?=some p.arches[j-1]:=List.getElem?_eq_getElem hpl;have hw2:IntKind.wrap .i64 ((j:Int)-1)=((j-1:Nat):Int):=by rw[qF (by omega) (by omega)];omega
   rw[if_neg h0,hy] at hI
   by_cases hlt2:c<=p.arches[j-1]
   ·have hwf:qag p=false:=by rw[qhw,hI];simp[Int.not_lt.2 hlt2]
    simp only[↓vS,vT,simprocAttr,k1,k2,hp0,hw2,hpl,hlt,hx,hy,Nat.mul_one,zF,Option.map_some,hlt2];simp[vZ,hwf]
   ·simp only[↓vS,vT,simprocAttr,k1,k2,hp0,hw2,hpl,hlt,hx,hy,Nat.mul_one,zF,Option.map_some,hlt2,hw];refine ih (j+1) ⟨by omega,?_⟩ (by omega) _ _ (Wk.mk _ _ [0] ?_ ?_ ?_ rfl)
    ·rw[hI,hk];simp[hx];omega
    ·simp[vw]
    ·simp[vw,qj,qd,qc]
    ·simp
 ·rw[List.drop_of_length_le (by omega),qN] at hI;have hm:qag p=qgJ p:=by rw[qhw,hI];simp
  simp only[↓vS,vT,simprocAttr,hlt];rw[hm];refine qnb h1 h2 h3 h4 p hp hr (Wk.mk _ _ [0] ?_ ?_ ?_ rfl)
  ·simp[vw]
  ·simp[vw,qj,qd,qc]
  ·simp
end
end Go.Kc
end
section
/- Tests, rules; numbers of calls; the helpers of lower. Condition: the functions' texts are these. -/
namespace Go.Kc
variable {P:Program} {f:Nat}
structure GTest where
 arg:Int
 qkQ:Int
 val:Int
 act:Int
structure GRule where
 nr:Int
 tests:List GTest
 act:Int
structure GFil where
 arch:Int
 rules:List GRule
 dflt:Int
section
variable {l m:List GTest} {j:Nat}
end
section
variable {l m:List GRule} {j:Nat}
end
end Go.Kc
end
section
/- The helpers of lower. Condition: the functions' texts are these. -/
namespace Go.Kc
variable {P:Program} {f:Nat}
def zx(s:Int):List Int:=(qg.map (·.2)).filter fun n=>decide (xa .u64 s n≠0)
def qc0(a:Nat):IFn:=⟨[.tmp 2],.seq (.r [.m 2 .N]) (.seq (.r [.m 3 .N]) (.seq (.seq (.r [.l 6 a [],.m 7 (.k 0)]) (.blk 0 (.loop (.seq (.r [.w 8 .lss 7 8]) (.seq (.cond (.t 8) (.skip) (.exit 0)) (.seq (.blk 1 (.seq (.r [.q 9 (.idxA 8 2 true (.t 6) (.t 7)),.q 5 (.alloc [.s [],.i .u64 0]),.u (.store 2 (.t 5) (.t 9))]) (.seq (.r [.n 10 0,.f 11 1 5,.d 12 11,.b 13 .and 10 12,.q 14 (.bin .neq (.t 13) (.c (.i .u64 0)))]) (.cond (.t 14) (.r [.n 15 3,.f 16 1 5,.d 17 16,.q 18 (.buildS 1 [.i .u64 0] [(0,1,(.t 17))]),.q 19 (.app 1 8 true (.t 15) (.t 18)),.n 3 19]) (.skip))))) (.r [.a 20 7 1,.n 7 20]))))))) (.seq (.r [.n 21 3,.n 2 21]) (.ret))))⟩
theorem qrK{g:Nat}(hc:qt P f (qc0 g)=true)(hg:qe P g [] (.agg (qg.flatMap (qQ .u64))))(s:Int):qe P f [.i .u64 s] (.fz (zx s).length (rI .u64 (zx s))):=by
 refine qe.mk hc rfl ?_;simp only[qc0,vI,simprocAttr];simp only[↓vS,vT,simprocAttr];refine hg.sc ?_;simp only[↓vS,vT,simprocAttr];have hlen:(qg.flatMap (qQ .u64)).length=16:=by decide
 refine SL.loop (α:=Nat) (fun j=>[(0,.i .u64 s),(3,.own 0 ((((qg.take j).map (·.2)).filter fun n=>decide (xa .u64 s n≠0)).length)),(6,.agg (qg.flatMap (qQ .u64))),(7,.i .i64 j)])
  (fun j=>[.cells 1 true true (rI .u64 (((qg.take j).map (·.2)).filter fun n=>decide (xa .u64 s n≠0)))])
  (fun j=>j<=8) (fun j=>8-j) 0 [9] ?_ ?_ ?_ rfl ?_ ?_
 ·simp[vw,qg,qQ]
 ·simp[vw,rI]
 ·simp
 ·exact Nat.zero_le _
 rintro j hj G ih;simp only[vI,simprocAttr]
 by_cases hlt:j<8
 ·have hlt':(j:Int)<8:=by omega
  have hjl:j<qg.length:=hlt;have hx:qg[j]?=some qg[j]:=List.getElem?_eq_getElem hjl;have hw:IntKind.wrap .i64 ((j:Int)+1)=((j+1:Nat):Int):=by rw[qF (by omega) (by omega)];omega
  have he:=j0 (f:=qQ .u64) (m:=2) qaL hx;have hb:j*2+2<=(qg.flatMap (qQ .u64)).length:=by omega
  generalize hA:((qg.take j).map (·.2)).filter (fun n=>decide (xa .u64 s n≠0))=A
  have hA1:((qg.take (j+1)).map (·.2)).filter (fun n=>decide (xa .u64 s n≠0))=A++(if xa .u64 s qg[j].2=0 then [] else [qg[j].2]):=by
   rw[List.take_add_one,hx,List.map_append,List.filter_append,hA]
   by_cases h:xa .u64 s qg[j].2=0<;>simp[h]
  have hAl:A.length<=j:=by
   rw[← hA];refine Nat.le_trans (List.length_filter_le _ _) ?_;simp;omega
  generalize hc0:qg[j]=c at hx he hA1;generalize hT:qg.flatMap (qQ .u64)=T at he hb hlen;have hTc:qG T=true:=by rw[← hT];rfl
  have hr1:A.length+1<=qf:=by simp only[qf];omega
  have hr2:(A.length+1)*8<=qf:=by simp only[qf];omega
  by_cases h0:xa .u64 s c.2=0
  ·rw[if_pos h0,List.append_nil] at hA1;simp only[↓vS,vT,simprocAttr,hlt',hlt,he,hb,qQ,h0,hw];refine ih (j+1) hlt (by omega) _ _ (Wk.mk _ _ [0] ?_ ?_ ?_ rfl)
   ·rw[hA1,hT];simp[vw,qh,hTc]
   ·rw[hA1];simp[vw,qh,qd]
   ·simp
  ·rw[if_neg h0] at hA1;have hap:rI .u64 A++[AV.i .u64 c.2]=rI .u64 (A++[c.2]):=by rw[← qnO];rfl
   simp (decide:=true) only [↓vS,vT,simprocAttr,hlt',hlt,he,hb,qQ,h0,hw,hr1,hr2,qd7,Nat.mul_one,hap];refine ih (j+1) hlt (by omega) _ _ (Wk.mk _ _ [3] ?_ ?_ ?_ rfl)
   ·rw[hA1,hT];simp[vw,qh,hTc]
   ·rw[hA1];simp[vw,qh,qd]
   ·simp
 ·have hj':j=8:=by omega
  subst hj';have hlt':¬(((8:Nat):Int)<8):=by decide
  simp only[↓vS,vT,simprocAttr,hlt'];refine .own 0 _ 1 true _ _ ?_ (fun h0=>?_) (Frzs.self qd)
  ·simp[Tr.get_set,zx,qg]
  ·have h0:(zx s).length=0:=h0;rw[List.eq_nil_of_length_eq_zero h0];rfl
end Go.Kc
end
section
/- The document's flags, which directives are active. Condition: the functions' texts are these. -/
namespace Go.Kc
variable {P:Program} {f:Nat}
theorem qmq{s:Int}(h0:0<=s)(h1:s<18446744073709551616)(k:Nat)(hk:k<64):(xa .u64 s ((2 ^ k:Nat):Int)≠0)↔(IntKind.wrap .u64 (s.tdiv ((2 ^ k:Nat):Int))).tmod 2=1:=by
 obtain⟨m,rfl⟩:=Int.eq_ofNat_of_zero_le h0;have hm:m<2 ^ 64:=by omega
 have hp:2 ^ k<2 ^ 64:=Nat.pow_lt_pow_right (by decide) hk;have hp0:0<2 ^ k:=Nat.two_pow_pos k
 have e1:xa .u64 (m:Int) ((2 ^ k:Nat):Int)=((m &&& 2 ^ k:Nat):Int):=by
  have a1:(BitVec.ofInt 64 (m:Int)).toNat=m:=by rw[BitVec.toNat_ofInt];omega
  have a2:(BitVec.ofInt 64 ((2 ^ k:Nat):Int)).toNat=2 ^ k:=by rw[BitVec.toNat_ofInt];omega
  show IntKind.wrap .u64 ((BitVec.ofInt 64 (m:Int) &&& BitVec.ofInt 64 ((2 ^ k:Nat):Int)).toNat:Int)=_;rw[BitVec.toNat_and,a1,a2];exact qbI (by omega) (by have:=@Nat.and_le_left m (2 ^ k);omega)
 have hd:m / 2 ^ k<=m:=Nat.div_le_self _ _
 have e2:IntKind.wrap .u64 ((m:Int).tdiv ((2 ^ k:Nat):Int))=((m / 2 ^ k:Nat):Int):=by
  rw[Int.tdiv_eq_ediv_of_nonneg (by omega),show (m:Int) / ((2 ^ k:Nat):Int)=((m / 2 ^ k:Nat):Int) from rfl]
  generalize m / 2 ^ k=q at hd;exact qbI (by omega) (by omega)
 have e3:(m &&& 2 ^ k≠0)↔m.testBit k=true:=by
  constructor
  ·intro h;cases hb:m.testBit k with
   | true=>rfl
   | false =>
    exfalso;apply h
    apply Nat.eq_of_testBit_eq;intro i;rw[Nat.testBit_and,Nat.testBit_two_pow,Nat.zero_testBit]
    by_cases hi:k=i
    ·subst hi;simp[hb]
    ·simp[hi]
  ·intro h h0;have:(m &&& 2 ^ k).testBit k=true:=by rw[Nat.testBit_and,Nat.testBit_two_pow];simp[h]
   rw[h0] at this;simp at this
 have e4:((m &&& 2 ^ k:Nat):Int)≠0↔m &&& 2 ^ k≠0:=by omega
 rw[e1,e2,e4,e3,Nat.testBit_eq_decide_div_mod_eq];generalize m / 2 ^ k=q;rw[Int.tmod_eq_emod_of_nonneg (by omega),decide_eq_true_eq];omega
theorem qmr{s:Int}(h0:0<=s)(h1:s<18446744073709551616):∀x ∈ qg,(xa .u64 s x.2≠0↔(IntKind.wrap .u64 (s.tdiv x.2)).tmod 2=1)∧x.2≠0:=by
 intro x hx
 have ex:∃k:Nat,k<64∧x.2=((2 ^ k:Nat):Int):=by
  simp only[qg,List.mem_cons,List.not_mem_nil,or_false] at hx;rcases hx with rfl|rfl|rfl|rfl|rfl|rfl|rfl|rfl
  ·exact⟨7,by decide,by decide⟩
  ·exact⟨17,by decide,by decide⟩
  ·exact⟨25,by decide,by decide⟩
  ·exact⟨26,by decide,by decide⟩
  ·exact⟨27,by decide,by decide⟩
  ·exact⟨28,by decide,by decide⟩
  ·exact⟨29,by decide,by decide⟩
  ·exact⟨30,by decide,by decide⟩
 obtain⟨k,hk,e⟩:=ex;rw[e];exact⟨qmq h0 h1 k hk,by have:=Nat.two_pow_pos k;omega⟩
def wj(a:Nat):IFn:=⟨[.tmp 2],.seq (.r [.m 2 .N]) (.seq (.r [.l 6 a [],.n 3 6]) (.seq (.r [.m 4 .N]) (.seq (.seq (.r [.m 5 (.k 0)]) (.blk 0 (.loop (.seq (.seq (.r [.n 7 5,.n 8 3,.e 9 8,.s 10 7 9]) (.cond (.t 10) (.skip) (.exit 0))) (.seq (.blk 1 (.seq (.r [.n 13 0,.n 14 3,.n 15 5,.i 16 2 14 15,.f 17 1 16,.d 18 17,.b 19 .quo 13 18,.q 20 (.bin .rem (.t 19) (.c (.i .u64 2))),.q 21 (.bin .eql (.t 20) (.c (.i .u64 1)))]) (.cond (.t 21) (.r [.n 22 4,.n 23 3,.n 24 5,.i 25 2 23 24,.f 26 1 25,.d 27 26,.q 28 (.buildS 1 [.i .u64 0] [(0,1,(.t 27))]),.q 29 (.app 1 8 true (.t 22) (.t 28)),.n 4 29]) (.skip)))) (.r [.n 11 5,.a 12 11 1,.n 5 12])))))) (.seq (.r [.n 30 4,.n 2 30]) (.ret)))))⟩
theorem qvS{g:Nat}(hc:qt P f (wj g)=true)(hg:qe P g [] (.fz 8 (qg.flatMap (qQ .u64))))(s:Int)(h0:0<=s)(h1:s<18446744073709551616):qe P f [.i .u64 s] (.fz (zx s).length (rI .u64 (zx s))):=by
 refine qe.mk hc rfl ?_;simp only[wj,vI,simprocAttr];simp only[↓vS,vT,simprocAttr];refine hg.sc ?_;simp only[↓vS,vT,simprocAttr];have hlen:(qg.flatMap (qQ .u64)).length=16:=by decide
 have hTc:qG (qg.flatMap (qQ .u64))=true:=rfl
 refine SL.loop (α:=Nat) (fun j=>[(0,.i .u64 s),(4,.own 0 ((((qg.take j).map (·.2)).filter fun n=>decide (xa .u64 s n≠0)).length)),(3,.fz 8 (qg.flatMap (qQ .u64))),(5,.i .i64 j)])
  (fun j=>[.cells 1 true true (rI .u64 (((qg.take j).map (·.2)).filter fun n=>decide (xa .u64 s n≠0)))])
  (fun j=>j<=8) (fun j=>8-j) 0 [9] ?_ ?_ ?_ rfl ?_ ?_
 ·simp[vw,hTc]
 ·simp[vw,rI]
 ·simp
 ·exact Nat.zero_le _
 rintro j hj G ih;simp only[vI,simprocAttr]
 by_cases hlt:j<8
 ·have hlt':(j:Int)<8:=by omega
  have hjl:j<qg.length:=hlt;have hx:qg[j]?=some qg[j]:=List.getElem?_eq_getElem hjl;have hw:IntKind.wrap .i64 ((j:Int)+1)=((j+1:Nat):Int):=by rw[qF (by omega) (by omega)];omega
  have g1:(qg.flatMap (qQ .u64))[j*2+1]?=some (.i .u64 qg[j].2):=by simpa[qQ] using qb5 (f:=qQ .u64) (m:=2) qaL hx (i:=1) (by decide)
  obtain⟨hfb,hne⟩:=qmr h0 h1 qg[j] (List.getElem_mem hjl);generalize hA:((qg.take j).map (·.2)).filter (fun n=>decide (xa .u64 s n≠0))=A
  have hA1:((qg.take (j+1)).map (·.2)).filter (fun n=>decide (xa .u64 s n≠0))=A++(if xa .u64 s qg[j].2=0 then [] else [qg[j].2]):=by
   rw[List.take_add_one,hx,List.map_append,List.filter_append,hA]
   by_cases h:xa .u64 s qg[j].2=0<;>simp[h]
  have hAl:A.length<=j:=by
   rw[← hA];refine Nat.le_trans (List.length_filter_le _ _) ?_;simp;omega
  generalize hc0:qg[j]=c at hx g1 hA1 hfb hne;generalize hT:qg.flatMap (qQ .u64)=T at g1 hlen hTc;have hr1:A.length+1<=qf:=by simp only[qf];omega
  have hr2:(A.length+1)*8<=qf:=by simp only[qf];omega
  have h2:(2:Int)≠0:=by decide
  by_cases hz:xa .u64 s c.2=0
  ·rw[if_pos hz,List.append_nil] at hA1;have hq:¬(IntKind.wrap .u64 (s.tdiv c.2)).tmod 2=1:=fun h=>hfb.2 h hz
   simp only[↓vS,vT,simprocAttr,hlt',hlt,g1,↓jf hne,↓jS h2,hq,hw];refine ih (j+1) hlt (by omega) _ _ (Wk.mk _ _ [0] ?_ ?_ ?_ rfl)
   ·rw[hA1,hT];simp[vw,hTc]
   ·rw[hA1];simp[vw,qh,qd]
   ·simp
  ·rw[if_neg hz] at hA1;have hq:(IntKind.wrap .u64 (s.tdiv c.2)).tmod 2=1:=hfb.1 hz;have hap:rI .u64 A++[AV.i .u64 c.2]=rI .u64 (A++[c.2]):=by rw[← qnO];rfl
   simp (decide:=true) only [↓vS,vT,simprocAttr,hlt',hlt,g1,↓jf hne,↓jS h2,hq,hw,hr1,hr2,qd7,Nat.mul_one,hap];refine ih (j+1) hlt (by omega) _ _ (Wk.mk _ _ [2] ?_ ?_ ?_ rfl)
   ·rw[hA1,hT];simp[vw,hTc]
   ·rw[hA1];simp[vw,qh,qd]
   ·simp
 ·have hj':j=8:=by omega
  subst hj';have hlt':¬(((8:Nat):Int)<8):=by decide
  simp only[↓vS,vT,simprocAttr,hlt'];refine .own 0 _ 1 true (rI .u64 (zx s)) _ ?_ (fun h0=>?_) (Frzs.self qd)
  ·simp[Tr.get_set,zx,qg]
  ·have h0:(zx s).length=0:=h0;rw[List.eq_nil_of_length_eq_zero h0];rfl
end Go.Kc
end
section
/- Actions that are known, rules and filters that may be, a call's name by its number. Condition: the functions' texts are these. -/
namespace Go.Kc
variable {P:Program} {f:Nat}
end Go.Kc
end
section
/- Rules and filters that may be; a call's name by its number. Condition: the functions' texts are these. -/
namespace Go.Kc
variable {P:Program} {f:Nat}
end Go.Kc
end
section
/- The plain law of LowerMay: lower's filters may be, their numbers have names. No condition. -/
namespace Go.Kc
end Go.Kc
end
section
/- LowerAlone: what the law answers (first its end). Condition: the functions' texts are these. -/
namespace Go.Kc
variable {P:Program} {f:Nat}
section
variable {g1 g2 g3 g4 g5:Nat}
end
end Go.Kc
end
section
/- What assignments come to, one behind the other: it may be. No condition. -/
namespace Go.Kc
structure PMay (p:Pol):Prop where
 own:∀c ∈ p.log.calls,c.act=0
 deny:qaE p.deny=true
 mode:p.fmode<=2∧(p.fmode≠0∨p.fams=[])
 ar:∀a ∈ p.arches,0<=a∧a<6
 ap:p.arches.Pairwise (· < ·)
 fr:∀n ∈ p.fams,qcp n=true
 fp:p.fams.Pairwise (· < ·)
 fil:x5 p.filter=true
 log:x5 p.log=true
 sp:qfp .u64 p.spaces 2114060416=0
structure PI (p:Pol):Prop where
 may:PMay p
 f0:0<=p.filter.mode
 l0:0<=p.log.mode
 m0:0<=p.fmode
 s0:0<=p.spaces∧p.spaces<18446744073709551616
theorem qgm{l:List Int}(h:l.Pairwise (· < ·)):l.Nodup:=h.imp fun h e=>by omega
theorem qmn{n:Int}(h:qcp n=true):n ∈ qm.map (·.2):=by
 unfold qcp at h;have h':qJ n qm≠[]:=by simpa using h
 have:∀(t:List (List UInt8×Int)),qJ n t≠[]->n ∈ t.map (·.2):=by
  intro t
  induction t with
  | nil=>intro h;exact absurd rfl h
  | cons x t ih =>
   intro h;unfold qJ at h;split at h
   ·rename_i e;simp[e]
   ·exact List.mem_cons_of_mem _ (ih h)
 exact this _ h'
theorem qlF{a:Int}(h:0<=a∧a<6):a ∈ ([0,1,2,3,4,5]:List Int):=by
 have:a=0∨a=1∨a=2∨a=3∨a=4∨a=5:=by omega
 simpa using this
theorem PMay.lens{p:Pol}(h:PMay p):p.arches.length<=6∧p.fams.length<=8∧p.filter.calls.length<=40∧p.log.calls.length<=40 :=
 ⟨qds (t:=[0,1,2,3,4,5]) (qgm h.ap) fun x hx=>qlF (h.ar x hx),qds (t:=qm.map (·.2)) (qgm h.fp) fun x hx=>qmn (h.fr x hx),qhx h.fil,qhx h.log⟩
theorem PI.ok{p:Pol}(h:PI p):PolOk p:=by
 obtain⟨h1,h2,h3,h4⟩:=h.may.lens;exact⟨by omega,by omega,by omega,by omega⟩
def qfx:Pol:={ qk7 with deny:=2147483648 }
theorem PI.new:PI qfx:=by
 refine⟨⟨?_,?_,?_,?_,?_,?_,?_,?_,?_,?_⟩,?_,?_,?_,?_⟩
 ·intro c hc;simp[qfx,qk7] at hc
 ·decide
 ·exact⟨by decide,.inr rfl⟩
 ·intro c hc;simp[qfx,qk7] at hc
 ·exact List.Pairwise.nil
 ·intro c hc;simp[qfx,qk7] at hc
 ·exact List.Pairwise.nil
 ·rfl
 ·rfl
 ·decide
 ·decide
 ·decide
 ·decide
 ·decide
variable {E:List UInt8->List (List UInt8)×Int}
variable (E)
def jT(ns:List GNote):Bool:=ns.any fun n=>!qau n.err
variable {E}
end Go.Kc
end
section
/- Lists that are equal, policies that are the same, notes with errors. Condition: the functions' texts are these. -/
namespace Go.Kc
variable {P:Program} {f:Nat}
instance:DecidableEq GCall:=fun a b=>if h:a.name=b.name∧a.act=b.act then isTrue (by obtain⟨h1,h2⟩:=h;cases a;cases b;simp_all) else isFalse (by rintro rfl;exact h ⟨rfl,rfl⟩)
theorem qa7{α:Type}{l m:List α}{j:Nat}{x y:α}(hx:l[j]?=some x)(hy:m[j]?=some y)(h:l.take j=m.take j)(e:x=y):l.take (j+1)=m.take (j+1):=by
 rw[List.take_add_one,List.take_add_one,hx,hy,h,e]
def wb:IFn:=⟨[.tmp 4],.seq (.r [.m 4 .F]) (.seq (.seq (.r [.n 6 0,.e 7 6,.n 8 1,.e 9 8,.b 10 .neq 7 9]) (.cond (.t 10) (.seq (.r [.m 4 .F]) (.ret)) (.skip))) (.seq (.seq (.r [.n 11 0,.e 12 11,.m 13 (.k 0)]) (.blk 0 (.loop (.seq (.r [.s 14 13 12]) (.seq (.cond (.t 14) (.skip) (.exit 0)) (.seq (.blk 1 (.seq (.r [.n 15 13,.n 5 15]) (.seq (.reg true [.n 16 0,.n 17 5,.i 18 1 16 17,.d 19 18,.n 20 1,.n 21 5,.i 22 1 20 21,.d 23 22,.b 24 .neq 19 23]) (.cond (.t 24) (.seq (.r [.m 4 .F]) (.ret)) (.skip))))) (.r [.a 25 13 1,.n 13 25]))))))) (.seq (.r [.m 4 .T]) (.ret))))⟩
theorem qtH(hc:qt P f wb=true)(l m:List Int)(hl:l.length<=100000):qe P f [.fz l.length (rI .i64 l),.fz m.length (rI .i64 m)] (.b (decide (l=m))):=by
 refine qe.mk hc (by simp[qG,clo,qd]) ?_;simp only[wb,vI,simprocAttr]
 by_cases hlen:l.length=m.length
 ·have hli:(l.length:Int)=m.length:=by omega
  simp only[↓vS,vT,simprocAttr,hli];refine SL.loop (α:=Nat) (fun j=>[(0,.fz l.length (rI .i64 l)),(1,.fz m.length (rI .i64 m)),(12,.i .i64 l.length),(13,.i .i64 j)]) (fun _=>[]) (fun j=>j<=l.length∧l.take j=m.take j) (fun j=>l.length-j) 0 [] ?_ ?_ ?_ rfl ?_ ?_
  ·simp[vw,qd,hli]
  ·trivial
  ·simp
  ·exact⟨Nat.zero_le _,by simp⟩
  rintro j ⟨hj,hI⟩ G ih;simp only[vI,simprocAttr]
  by_cases hlt:j<l.length
  ·have hlm:j<m.length:=by omega
   have hx:l[j]?=some l[j]:=List.getElem?_eq_getElem hlt;have hy:m[j]?=some m[j]:=List.getElem?_eq_getElem hlm;have hw:IntKind.wrap .i64 ((j:Int)+1)=((j+1:Nat):Int):=by rw[qF (by omega) (by omega)];omega
   by_cases e:l[j]=m[j]
   ·simp only[↓vS,vT,simprocAttr,hlt,hlm];refine xb ?_;simp (decide:=true) only [↓vS,vT,simprocAttr,hlt,hlm,Nat.mul_one,zF,hx,hy,Option.map_some,e,hw,ne_eq,not_true_eq_false];refine ih (j+1) ⟨by omega,qa7 hx hy hI e⟩ (by omega) _ _ (Wk.mk _ _ [] ?_ ?_ ?_ rfl)
    ·simp[vw,qd]
    ·trivial
    ·simp
   ·have hne:l≠m:=by
     intro h;subst h;exact e rfl
    simp only[↓vS,vT,simprocAttr,hlt,hlm];refine xb ?_;simp (decide:=true) only [↓vS,vT,simprocAttr,hlt,hlm,Nat.mul_one,zF,hx,hy,Option.map_some,e,hw,ne_eq,not_false_eq_true];simp[vZ,hne]
  ·have he:l=m:=by
    rw[List.take_of_length_le (by omega),List.take_of_length_le (by omega)] at hI;exact hI
   simp only[↓vS,vT,simprocAttr,hlt];simp[vZ,he]
 ·have hli:¬(l.length:Int)=m.length:=by omega
  have hne:l≠m:=fun h=>hlen (by rw[h])
  simp only[↓vS,vT,simprocAttr,hli];simp[vZ,hne]
def xR:IFn:=⟨[.tmp 4],.seq (.r [.m 4 .F]) (.seq (.seq (.r [.n 6 0,.e 7 6,.n 8 1,.e 9 8,.b 10 .neq 7 9]) (.cond (.t 10) (.seq (.r [.m 4 .F]) (.ret)) (.skip))) (.seq (.seq (.r [.n 11 0,.e 12 11,.m 13 (.k 0)]) (.blk 0 (.loop (.seq (.r [.s 14 13 12]) (.seq (.cond (.t 14) (.skip) (.exit 0)) (.seq (.blk 1 (.seq (.r [.n 15 13,.n 5 15]) (.seq (.reg true [.n 16 0,.n 17 5,.i 18 1 16 17,.d 19 18,.n 20 1,.n 21 5,.i 22 1 20 21,.d 23 22,.b 24 .neq 19 23]) (.cond (.t 24) (.seq (.r [.m 4 .F]) (.ret)) (.skip))))) (.r [.a 25 13 1,.n 13 25]))))))) (.seq (.r [.m 4 .T]) (.ret))))⟩
theorem qtI(hc:qt P f xR=true)(l m:List Int)(hl:l.length<=100000):qe P f [.fz l.length (rI .u32 l),.fz m.length (rI .u32 m)] (.b (decide (l=m))):=by
 refine qe.mk hc (by simp[qG,clo,qd]) ?_;simp only[xR,vI,simprocAttr]
 by_cases hlen:l.length=m.length
 ·have hli:(l.length:Int)=m.length:=by omega
  simp only[↓vS,vT,simprocAttr,hli];refine SL.loop (α:=Nat) (fun j=>[(0,.fz l.length (rI .u32 l)),(1,.fz m.length (rI .u32 m)),(12,.i .i64 l.length),(13,.i .i64 j)]) (fun _=>[]) (fun j=>j<=l.length∧l.take j=m.take j) (fun j=>l.length-j) 0 [] ?_ ?_ ?_ rfl ?_ ?_
  ·simp[vw,qd,hli]
  ·trivial
  ·simp
  ·exact⟨Nat.zero_le _,by simp⟩
  rintro j ⟨hj,hI⟩ G ih;simp only[vI,simprocAttr]
  by_cases hlt:j<l.length
  ·have hlm:j<m.length:=by omega
   have hx:l[j]?=some l[j]:=List.getElem?_eq_getElem hlt;have hy:m[j]?=some m[j]:=List.getElem?_eq_getElem hlm;have hw:IntKind.wrap .i64 ((j:Int)+1)=((j+1:Nat):Int):=by rw[qF (by omega) (by omega)];omega
   by_cases e:l[j]=m[j]
   ·simp only[↓vS,vT,simprocAttr,hlt,hlm];refine xb ?_;simp (decide:=true) only [↓vS,vT,simprocAttr,hlt,hlm,Nat.mul_one,zF,hx,hy,Option.map_some,e,hw,ne_eq,not_true_eq_false];refine ih (j+1) ⟨by omega,qa7 hx hy hI e⟩ (by omega) _ _ (Wk.mk _ _ [] ?_ ?_ ?_ rfl)
    ·simp[vw,qd]
    ·trivial
    ·simp
   ·have hne:l≠m:=by
     intro h;subst h;exact e rfl
    simp only[↓vS,vT,simprocAttr,hlt,hlm];refine xb ?_;simp (decide:=true) only [↓vS,vT,simprocAttr,hlt,hlm,Nat.mul_one,zF,hx,hy,Option.map_some,e,hw,ne_eq,not_false_eq_true];simp[vZ,hne]
  ·have he:l=m:=by
    rw[List.take_of_length_le (by omega),List.take_of_length_le (by omega)] at hI;exact hI
   simp only[↓vS,vT,simprocAttr,hlt];simp[vZ,he]
 ·have hli:¬(l.length:Int)=m.length:=by omega
  have hne:l≠m:=fun h=>hlen (by rw[h])
  simp only[↓vS,vT,simprocAttr,hli];simp[vZ,hne]
def xk:IFn:=⟨[.tmp 4],.seq (.r [.m 4 .F]) (.seq (.seq (.r [.n 6 0,.e 7 6,.n 8 1,.e 9 8,.b 10 .neq 7 9]) (.cond (.t 10) (.seq (.r [.m 4 .F]) (.ret)) (.skip))) (.seq (.seq (.r [.n 11 0,.e 12 11,.m 13 (.k 0)]) (.blk 0 (.loop (.seq (.r [.s 14 13 12]) (.seq (.cond (.t 14) (.skip) (.exit 0)) (.seq (.blk 1 (.seq (.r [.n 15 13,.n 5 15]) (.seq (.reg true [.n 16 0,.n 17 5,.i 18 2 16 17,.v 19 2 18,.n 20 1,.n 21 5,.i 22 2 20 21,.v 23 2 22,.q 24 (.eqA true [.s,.i] (.t 19) (.t 23))]) (.cond (.t 24) (.seq (.r [.m 4 .F]) (.ret)) (.skip))))) (.r [.a 25 13 1,.n 13 25]))))))) (.seq (.r [.m 4 .T]) (.ret))))⟩
theorem qrB(hc:qt P f xk=true)(l m:List GCall)(hl:l.length<=100000):qe P f [.fz l.length (rC l),.fz m.length (rC m)] (.b (decide (l=m))):=by
 refine qe.mk hc (by simp[qG,clo,qc]) ?_;simp only[xk,vI,simprocAttr]
 by_cases hlen:l.length=m.length
 ·have hli:(l.length:Int)=m.length:=by omega
  simp only[↓vS,vT,simprocAttr,hli];refine SL.loop (α:=Nat) (fun j=>[(0,.fz l.length (rC l)),(1,.fz m.length (rC m)),(12,.i .i64 l.length),(13,.i .i64 j)]) (fun _=>[]) (fun j=>j<=l.length∧l.take j=m.take j) (fun j=>l.length-j) 0 [] ?_ ?_ ?_ rfl ?_ ?_
  ·simp[vw,qc,hli]
  ·trivial
  ·simp
  ·exact⟨Nat.zero_le _,by simp⟩
  rintro j ⟨hj,hI⟩ G ih;simp only[vI,simprocAttr]
  by_cases hlt:j<l.length
  ·have hlm:j<m.length:=by omega
   have hx:l[j]?=some l[j]:=List.getElem?_eq_getElem hlt;have hy:m[j]?=some m[j]:=List.getElem?_eq_getElem hlm;have hw:IntKind.wrap .i64 ((j:Int)+1)=((j+1:Nat):Int):=by rw[qF (by omega) (by omega)];omega
   have ex:=qcw hx;have ey:=qcw hy;have bx:=qbp hlt;have bY:=qbp hlm;have hst:=fun e=>qa7 hx hy hI e
   have hne:l[j]≠m[j]->l≠m:=by
    intro e h;subst h;exact e rfl
   generalize l[j]=a at ex hst hne;generalize m[j]=b at ey hst hne
   by_cases e1:a.name=b.name
   ·by_cases e2:a.act=b.act
    ·have e:a=b:=by cases a;cases b;simp_all
     simp only[↓vS,vT,simprocAttr,hlt,hlm];refine xb ?_;simp (decide:=true) only [↓vS,vT,simprocAttr,hlt,hlm,ex,ey,bx,bY,zf,e1,e2,hw,beq_self_eq_true];refine ih (j+1) ⟨by omega,hst e⟩ (by omega) _ _ (Wk.mk _ _ [] ?_ ?_ ?_ rfl)
     ·simp[vw,qc]
     ·trivial
     ·simp
    ·have hn:=hne (by rintro rfl;exact e2 rfl);simp only[↓vS,vT,simprocAttr,hlt,hlm];refine xb ?_;simp (decide:=true) only [↓vS,vT,simprocAttr,hlt,hlm,ex,ey,bx,bY,zf,e1,e2,hw,beq_self_eq_true];simp[vZ,hn]
   ·have hn:=hne (by rintro rfl;exact e1 rfl);simp only[↓vS,vT,simprocAttr,hlt,hlm];refine xb ?_;simp (decide:=true) only [↓vS,vT,simprocAttr,hlt,hlm,ex,ey,bx,bY,zf,e1,hw];simp[vZ,hn]
  ·have he:l=m:=by
    rw[List.take_of_length_le (by omega),List.take_of_length_le (by omega)] at hI;exact hI
   simp only[↓vS,vT,simprocAttr,hlt];simp[vZ,he]
 ·have hli:¬(l.length:Int)=m.length:=by omega
  have hne:l≠m:=fun h=>hlen (by rw[h])
  simp only[↓vS,vT,simprocAttr,hli];simp[vZ,hne]
def wp(a b:GList):Bool:=decide (a.mode=b.mode)&&decide (a.calls=b.calls)
def qb8(a:Nat):IFn:=⟨[.tmp 4],.seq (.r [.q 2 (.box (.t 0)),.q 3 (.box (.t 1)),.m 4 .F]) (.seq (.r [.f 5 0 2,.d 6 5,.f 7 0 3,.d 8 7,.b 9 .eql 6 8,.n 10 9,.h 11 1 2 10 true,.j 12 11 10 true,.h 13 1 3 10 true,.j 14 13 10 true,⟨(some 15),.callF a [.t 12,.t 14],(some (10,true))⟩,.p 16 10 15,.n 4 16]) (.ret))⟩
theorem qvW{g:Nat}(hc:qt P f (qb8 g)=true)(hg:∀l m:List GCall,l.length<=100000->qe P g [.fz l.length (rC l),.fz m.length (rC m)] (.b (decide (l=m))))(a b:GList)(hl:a.calls.length<=100000):qe P f [.agg (qu a),.agg (qu b)] (.b (wp a b)):=by
 refine qe.mk hc rfl ?_;simp only[qb8,qu,vI,simprocAttr]
 by_cases h:a.mode=b.mode
 ·simp only[↓vS,vT,simprocAttr,h];refine (hg a.calls b.calls hl).sc ?_;simp only[↓vS,vT,simprocAttr];simp[vZ,wp,h]
 ·simp only[↓vS,vT,simprocAttr,h];simp[vZ,wp,h]
def xi(p q:Pol):Bool:=decide (p.arches=q.arches)&&decide (p.fams=q.fams)&&wp p.filter q.filter&&wp p.log q.log&&((p.we==q.we)&&(p.pe==q.pe)&&(p.rt==q.rt)&&(p.np==q.np))&&decide (p.deny=q.deny)&&decide (p.fmode=q.fmode)&&decide (p.spaces=q.spaces)
theorem qiE(p q:Pol):xi p q=true↔p=q:=by
 obtain⟨a1,⟨b1,c1⟩,d1,⟨e1,f1⟩,g1,h1,i1,j1,k1,l1,m1⟩:=p;obtain⟨a2,⟨b2,c2⟩,d2,⟨e2,f2⟩,g2,h2,i2,j2,k2,l2,m2⟩:=q;simp only[xi,wp,Bool.and_eq_true,decide_eq_true_eq,beq_iff_eq,Pol.mk.injEq,GList.mk.injEq];constructor
 ·rintro⟨⟨⟨⟨⟨⟨⟨h,h'⟩,h2,h3⟩,h4,h5⟩,⟨⟨h6,h7⟩,h8⟩,h9⟩,h10⟩,h11⟩,h12⟩;exact⟨h,⟨h2,h3⟩,h10,⟨h4,h5⟩,h',h11,h12,h6,h7,h8,h9⟩
 ·rintro⟨h,⟨h2,h3⟩,h10,⟨h4,h5⟩,h',h11,h12,h6,h7,h8,h9⟩;exact⟨⟨⟨⟨⟨⟨⟨h,h'⟩,h2,h3⟩,h4,h5⟩,⟨⟨h6,h7⟩,h8⟩,h9⟩,h10⟩,h11⟩,h12⟩
theorem qeA(p:Pol):xi p p=true:=(qiE p p).2 rfl
def jj(a b c:Nat):ICode:=.seq (.r [.n 62 6,.n 63 62,.y 64 7 63,.p 65 63 64,.n 66 65,.h 67 3 2 66 true,.j 68 67 66 true,.h 69 3 3 66 true,.j 70 69 66 true,.g 71 (.bin .eql (.t 68) (.t 70)) 66 true,.p 72 66 71,.n 73 72,.h 74 7 2 73 true,.j 75 74 73 true,.h 76 7 3 73 true,.j 77 76 73 true,.g 78 (.bin .eql (.t 75) (.t 77)) 73 true,.p 79 73 78,.n 80 79,.h 81 8 2 80 true,.j 82 81 80 true,.h 83 8 3 80 true,.j 84 83 80 true,.g 85 (.bin .eql (.t 82) (.t 84)) 80 true,.p 86 80 85,.n 4 86]) (.ret)
def ji(a b c:Nat):ICode:=.seq (.r [.f 36 9 2,.d 37 36,.f 38 9 3,.d 39 38,.q 40 (.eqB false (.t 37) (.t 39)),.n 41 40,.h 42 10 2 41 true,.j 43 42 41 true,.h 44 10 3 41 true,.j 45 44 41 true,.g 46 (.eqB false (.t 43) (.t 45)) 41 true,.p 47 41 46,.n 48 47,.h 49 11 2 48 true,.j 50 49 48 true,.h 51 11 3 48 true,.j 52 51 48 true,.g 53 (.eqB false (.t 50) (.t 52)) 48 true,.p 54 48 53,.n 55 54,.h 56 12 2 55 true,.j 57 56 55 true,.h 58 12 3 55 true,.j 59 58 55 true,.g 60 (.eqB false (.t 57) (.t 59)) 55 true,.p 61 55 60,.n 7 61]) (.cut (jj a b c))
def qc2(a b c:Nat):IFn:=⟨[.tmp 4],.seq (.r [.q 2 (.box (.t 0)),.q 3 (.box (.t 1)),.m 4 .F]) (.seq (.r [.m 5 (.c (.fn a [] []))]) (.seq (.r [.f 8 0 2,.d 9 8,.f 10 0 3,.d 11 10,.l 12 b [.t 9,.t 11],.n 13 12,.h 14 6 2 13 true,.j 15 14 13 true,.h 16 6 3 13 true,.j 17 16 13 true,⟨(some 18),.callF c [.t 15,.t 17],(some (13,true))⟩,.p 19 13 18,.n 20 19,.y 21 5 20,.h 22 1 2 20 true,.g 23 (.loadN 2 (.t 22)) 20 true,.h 24 1 3 20 true,.g 25 (.loadN 2 (.t 24)) 20 true,⟨(some 26),.callV (.t 21) [.t 23,.t 25],(some (20,true))⟩,.p 27 20 26,.n 28 27,.y 29 5 28,.h 30 4 2 28 true,.g 31 (.loadN 2 (.t 30)) 28 true,.h 32 4 3 28 true,.g 33 (.loadN 2 (.t 32)) 28 true,⟨(some 34),.callV (.t 29) [.t 31,.t 33],(some (28,true))⟩,.p 35 28 34,.n 6 35]) (.cut (ji a b c))))⟩
theorem qnL(g1 g2 g3:Nat)(p q:Pol)(lists says:Bool){t':Tr AV}{h':Hp}(hw:Wk 0 t' h' (mkT [(2,.ptr 0 0),(3,.ptr 1 0),(6,.b lists),(7,.b says)]) (mkH 0 [.cells 0 true false (qj p),.cells 0 true false (qj q)])) :
  S P 0 (jj g1 g2 g3) (jD [.tmp 4] fun v' h'=>Frz h' v' (.b (lists&&says&&decide (p.deny=q.deny)&&decide (p.fmode=q.fmode)&&decide (p.spaces=q.spaces)))) t' h':=by
 refine S.weak hw (qr ?_);simp only[jj,qj,vI,simprocAttr];cases lists with
 | false =>
  simp only[↓vS,vT,simprocAttr];simp[vZ]
 | true =>
  cases says with
  | false =>
   simp only[↓vS,vT,simprocAttr];simp[vZ]
  | true =>
   by_cases d1:p.deny=q.deny
   ·by_cases d2:p.fmode=q.fmode
    ·by_cases d3:p.spaces=q.spaces
     ·simp only[↓vS,vT,simprocAttr,d1,d2,d3];simp[vZ]
     ·simp only[↓vS,vT,simprocAttr,d1,d2,d3];simp[vZ]
    ·simp only[↓vS,vT,simprocAttr,d1,d2];simp[vZ]
   ·simp only[↓vS,vT,simprocAttr,d1];simp[vZ]
theorem qnK(g1 g2 g3:Nat)(p q:Pol)(lists:Bool){t':Tr AV}{h':Hp}(hw:Wk 0 t' h' (mkT [(2,.ptr 0 0),(3,.ptr 1 0),(6,.b lists)]) (mkH 0 [.cells 0 true false (qj p),.cells 0 true false (qj q)])) :
  S P 0 (ji g1 g2 g3) (jD [.tmp 4] fun v' h'=>Frz h' v' (.b (lists&&((p.we==q.we)&&(p.pe==q.pe)&&(p.rt==q.rt)&&(p.np==q.np))&&decide (p.deny=q.deny)&&decide (p.fmode=q.fmode)&&decide (p.spaces=q.spaces)))) t' h':=by
 refine S.weak hw (qr ?_)
 have go:∀s,s=((p.we==q.we)&&(p.pe==q.pe)&&(p.rt==q.rt)&&(p.np==q.np))->∀{t':Tr AV} {h':Hp},Wk 0 t' h' (mkT [(2,.ptr 0 0),(3,.ptr 1 0),(6,.b lists),(7,.b s)]) (mkH 0 [.cells 0 true false (qj p),.cells 0 true false (qj q)])->
   S P 0 (jj g1 g2 g3) (jD [.tmp 4] fun v' h'=>Frz h' v' (.b (lists&&((p.we==q.we)&&(p.pe==q.pe)&&(p.rt==q.rt)&&(p.np==q.np))&&decide (p.deny=q.deny)&&decide (p.fmode=q.fmode)&&decide (p.spaces=q.spaces)))) t' h':=by
  rintro s rfl t' h' hw;exact qnL g1 g2 g3 p q lists _ hw
 simp only[ji,qj,vI,simprocAttr]
 by_cases w1:p.we=q.we
 ·by_cases w2:p.pe=q.pe
  ·by_cases w3:p.rt=q.rt
   ·by_cases w4:p.np=q.np
    ·simp (decide:=true) only [↓vS,vT,simprocAttr,w1,w2,w3,w4,beq_self_eq_true];refine go true (by simp[w1,w2,w3,w4]) (Wk.mk _ _ [0,1] ?_ ?_ ?_ rfl)
     ·simp[vw]
     ·simp[vw,qj,qd,qc,w1,w2,w3,w4]
     ·simp
    ·have e:(p.np==q.np)=false:=by simpa using w4
     simp (decide:=true) only [↓vS,vT,simprocAttr,w1,w2,w3,e,beq_self_eq_true];refine go false (by simp[w1,w2,w3,w4]) (Wk.mk _ _ [0,1] ?_ ?_ ?_ rfl)
     ·simp[vw]
     ·simp[vw,qj,qd,qc,w1,w2,w3]
     ·simp
   ·have e:(p.rt==q.rt)=false:=by simpa using w3
    simp (decide:=true) only [↓vS,vT,simprocAttr,w1,w2,e,beq_self_eq_true];refine go false (by simp[w1,w2,w3]) (Wk.mk _ _ [0,1] ?_ ?_ ?_ rfl)
    ·simp[vw]
    ·simp[vw,qj,qd,qc,w1,w2]
    ·simp
  ·have e:(p.pe==q.pe)=false:=by simpa using w2
   simp (decide:=true) only [↓vS,vT,simprocAttr,w1,e,beq_self_eq_true];refine go false (by simp[w1,w2]) (Wk.mk _ _ [0,1] ?_ ?_ ?_ rfl)
   ·simp[vw]
   ·simp[vw,qj,qd,qc,w1]
   ·simp
 ·have e:(p.we==q.we)=false:=by simpa using w1
  simp (decide:=true) only [↓vS,vT,simprocAttr,e];refine go false (by simp[w1]) (Wk.mk _ _ [0,1] ?_ ?_ ?_ rfl)
  ·simp[vw]
  ·simp[vw,qj,qd,qc]
  ·simp
def qeI(P:Program)(f:Nat):Prop:=∀p q:Pol,PolOk p->qe P f [.agg (qj p),.agg (qj q)] (.b (xi p q))
theorem qwW{g1 g2 g3:Nat}(hc:qt P f (qc2 g1 g2 g3)=true)(h1:∀a b:GList,a.calls.length<=100000->qe P g1 [.agg (qu a),.agg (qu b)] (.b (wp a b)))
  (h2:∀l m:List Int,l.length<=100000->qe P g2 [.fz l.length (rI .i64 l),.fz m.length (rI .i64 m)] (.b (decide (l=m)))) (h3:∀l m:List Int,l.length<=100000->qe P g3 [.fz l.length (rI .u32 l),.fz m.length (rI .u32 m)] (.b (decide (l=m)))):qeI P f:=by
 intro p q hp;have ha:=hp.a;have hf:=hp.f;have hcc:=hp.c;have hl:=hp.l;refine qe.mk hc rfl ?_
 have go:∀s,s=(decide (p.arches=q.arches)&&decide (p.fams=q.fams)&&wp p.filter q.filter&&wp p.log q.log)->∀{t':Tr AV} {h':Hp},Wk 0 t' h' (mkT [(2,.ptr 0 0),(3,.ptr 1 0),(6,.b s)]) (mkH 0 [.cells 0 true false (qj p),.cells 0 true false (qj q)])->
   S P 0 (ji g1 g2 g3) (jD [.tmp 4] fun v' h'=>Frz h' v' (.b (xi p q))) t' h':=by
  rintro s rfl t' h' hw;exact qnK g1 g2 g3 p q _ hw
 simp only[qc2,qj,vI,simprocAttr];simp only[↓vS,vT,simprocAttr];refine (h2 p.arches q.arches (by omega)).sc ?_;cases k1:decide (p.arches=q.arches) with
 | false =>
  simp only[↓vS,vT,simprocAttr];refine go false (by simp[k1]) (Wk.mk _ _ [0,1] ?_ ?_ ?_ rfl)
  ·simp[vw]
  ·simp[vw,qj,qd,qc]
  ·simp
 | true =>
  simp only[↓vS,vT,simprocAttr];refine (h3 p.fams q.fams (by omega)).sc ?_;cases k2:decide (p.fams=q.fams) with
  | false =>
   simp only[↓vS,vT,simprocAttr];refine go false (by simp[k2]) (Wk.mk _ _ [0,1] ?_ ?_ ?_ rfl)
   ·simp[vw]
   ·simp[vw,qj,qd,qc]
   ·simp
  | true =>
   simp only[↓vS,vT,simprocAttr];refine (h1 p.filter q.filter (by omega)).sc ?_;cases k3:wp p.filter q.filter with
   | false =>
    simp only[↓vS,vT,simprocAttr];refine go false (by simp[k3]) (Wk.mk _ _ [0,1] ?_ ?_ ?_ rfl)
    ·simp[vw]
    ·simp[vw,qj,qd,qc]
    ·simp
   | true =>
    simp only[↓vS,vT,simprocAttr];refine (h1 p.log q.log (by omega)).sc ?_;simp only[↓vS,vT,simprocAttr];refine go (wp p.log q.log) (by rw[k1,k2,k3];simp) (Wk.mk _ _ [0,1] ?_ ?_ ?_ rfl)
    ·simp[vw]
    ·simp[vw,qj,qd,qc]
    ·simp
def zW:IFn:=⟨[.tmp 4],.seq (.r [.m 4 (.k 0)]) (.seq (.seq (.r [.n 6 0,.e 7 6,.m 8 (.k 0)]) (.blk 0 (.loop (.seq (.r [.s 9 8 7]) (.seq (.cond (.t 9) (.skip) (.exit 0)) (.seq (.blk 1 (.seq (.r [.n 10 8,.n 5 10]) (.seq (.r [.n 11 1,.n 12 0,.n 13 5,.i 14 4 12 13,.v 15 4 14,⟨(some 16),.callV (.t 11) [.t 15],none⟩]) (.cond (.t 16) (.seq (.r [.n 17 5,.n 4 17]) (.ret)) (.skip))))) (.r [.a 18 8 1,.n 8 18]))))))) (.seq (.r [.q 4 (.mov (.c (.i .i64 (-1))))]) (.ret)))⟩
theorem qjB(hc:qt P f zW=true):qeH 4 P f:=by
 intro α enc p g a c l hlen ha hc' hl hp;refine qe.mk hc (by simp[qG,clo,ha,hc']) ?_;simp only[zW,vI,simprocAttr];simp only[↓vS,vT,simprocAttr];refine SL.loop (α:=Nat) (fun j=>[(0,.fz l.length (l.flatMap enc)),(1,.fn g a c),(7,.i .i64 l.length),(8,.i .i64 j)]) (fun _=>[]) (fun j=>j<=l.length∧qbt p l 0=qbt p (l.drop j) j) (fun j=>l.length-j) 0 [] ?_ ?_ ?_ rfl ?_ ?_
 ·simp[vw,qh,ha,hc']
 ·trivial
 ·simp
 ·simp
 rintro j ⟨hj,hI⟩ G ih;simp only[vI,simprocAttr]
 by_cases hlt:j<l.length
 ·have hx:l[j]?=some l[j]:=List.getElem?_eq_getElem hlt;have hw:IntKind.wrap .i64 ((j:Int)+1)=(j:Int)+1:=qF (by omega) (by have:=hl;simp only[qf] at this;omega)
  have he:=j0 hlen hx;have hb:j*4+4<=(l.flatMap enc).length:=by rw[jq hlen];omega
  rw[List.drop_eq_getElem_cons hlt,qbt] at hI;simp only[↓vS,vT,simprocAttr,hlt,hb,he,hw];refine (hp l[j] (List.getElem_mem hlt)).sc ?_
  by_cases hpx:p l[j]=true
  ·rw[if_pos hpx] at hI;simp only[↓vS,vT,simprocAttr,hpx,vZ,hI]
  ·rw[if_neg hpx] at hI;simp only[↓vS,vT,simprocAttr,hpx,hw];refine ih (j+1) ⟨by omega,hI⟩ (by omega) _ _ (Wk.mk _ _ [] ?_ ?_ ?_ rfl)
   ·simp[vw,qh,ha,hc']
   ·trivial
   ·simp
 ·simp only[↓vS,vT,simprocAttr,hlt];rw[List.drop_eq_nil_of_le (by omega)] at hI;simp[hI,qbt,vZ]
def zM(a:Nat):IFn:=⟨[.tmp 4],.seq (.r [.m 4 .F]) (.seq (.r [.n 5 0,.n 6 1,.l 7 a [.t 5,.t 6],.w 8 .geq 7 0,.n 4 8]) (.ret))⟩
theorem ql8{g:Nat}(hc:qt P f (zM g)=true)(h:qeH 4 P g)(l:List GNote)(k:Nat)(p:GNote->Bool)(hk:∀c,qe P k [.agg (qel c)] (.b (p c)))(hl:l.length<=qf):qe P f [.fz l.length (rN l),.fn k [] []] (.b (l.any p)):=by
 refine qe.mk hc (by simp[qG,clo,qcx]) ?_;simp only[zM,vI,simprocAttr];simp only[↓vS,vT,simprocAttr];refine (h qel p k [] [] l qgQ rfl rfl hl fun x _=>hk x).sc ?_
 simp only[↓vS,vT,simprocAttr];simp[vZ,← qf8 p l 0]
def qbj(a:Nat):IFn:=⟨[.tmp 2],.seq (.r [.q 1 (.box (.t 0)),.m 2 .F]) (.seq (.r [.f 3 2 1,.d 4 3,.l 5 a [.t 4],.q 6 (.un .not (.t 5)),.n 2 6]) (.ret))⟩
theorem quQ{g:Nat}(hc:qt P f (qbj g)=true)(hg:∀x,qe P g [.i .i64 x] (.b (qau x)))(n:GNote):qe P f [.agg (qel n)] (.b (!qau n.err)):=by
 refine qe.mk hc rfl ?_;simp only[qbj,qel,vI,simprocAttr];simp only[↓vS,vT,simprocAttr];refine (hg n.err).sc ?_;simp only[↓vS,vT,simprocAttr];simp[vZ]
def qb7(a b:Nat):IFn:=⟨[.tmp 2],.seq (.r [.m 2 .F]) (.seq (.r [.n 3 0,.l 4 a [.t 3,(.c (.fn b [] []))],.n 2 4]) (.ret))⟩
theorem qvR{g1 g2:Nat}(hc:qt P f (qb7 g1 g2)=true)(h1:∀(l:List GNote) (k:Nat) (p:GNote->Bool),(∀c,qe P k [.agg (qel c)] (.b (p c)))->l.length<=qf->qe P g1 [.fz l.length (rN l),.fn k [] []] (.b (l.any p)))
  (h2:∀n,qe P g2 [.agg (qel n)] (.b (!qau n.err))) (l:List GNote) (hl:l.length<=qf):qe P f [.fz l.length (rN l)] (.b (jT l)):=by
 refine qe.mk hc (by simp[qG,clo,qcx]) ?_;simp only[qb7,vI,simprocAttr];simp only[↓vS,vT,simprocAttr];refine (h1 l g2 _ h2 hl).sc ?_;simp only[↓vS,vT,simprocAttr];simp[vZ,jT]
end Go.Kc
end
section
/- What policy.do and policy.Resolve answer. Condition: the functions' texts are these. -/
namespace Go.Kc
variable {P:Program} {f:Nat}
theorem quz(a:Asg):(qlT a).length=5:=rfl
def rA(l:List Asg):List AV:=l.flatMap qlT
section
variable {l m:List Asg} {j:Nat}
end
def qft(a b c d:Nat):ICode:=.seq (.reg true [.v 33 13 2,.f 34 0 3,.d 35 34,.f 36 1 3,.d 37 36,.n 38 6,.n 39 6,.q 40 (.len true (.t 39)),.q 41 (.min (.t 40) (.k 60)),.q 42 (.slcStr (.t 38) none (some (.t 41))),.q 43 (.build [.s [],.i .i64 0,.i .i64 0,.s []] [(0,1,(.t 35)),(1,1,(.t 37)),(2,1,(.k 100)),(3,1,(.t 42))]),.q 44 (.buildS 1 [.s [],.i .i64 0,.i .i64 0,.s []] [(0,4,(.t 43))]),.u (.storeD 13 (.t 4) (.t 33) [34,36]),.n 5 44]) (.ret)
def qpn(a b c d:Nat):IFn:=⟨[.cell 4 13 true,.tmp 5],.seq (.r [.q 2 (.box (.t 0)),.q 3 (.box (.t 1)),.q 4 (.alloc [.nils,.i .u8 0,.nils,.i .u32 0,.i .u8 0,.nils,.nils,.i .u8 0,.i .u64 0,.b false,.b false,.b false,.b false]),.m 5 .N]) (.seq (.r [.f 7 3 3,.d 8 7,.n 6 8]) (.seq (.blk 0 (.seq (.r [.f 10 2 3,.d 11 10,.q 12 (.bin .neq (.t 11) (.c (.s [83,101,114,118,105,99,101]))),.n 9 12]) (.cond (.t 9) (.r [.f 13 2 3,.d 14 13,.n 6 14]) (.seq (.r [.f 16 3 3,.d 17 16,.l 18 a [.t 17],.n 15 18]) (.cond (.t 15) (.seq (.r [.v 19 13 2,.v 20 5 3,.l 21 b [.t 19,.t 20],.x 22 21 0,.x 23 21 1,.u (.store 13 (.t 4) (.t 22)),.n 5 23]) (.ret)) (.seq (.r [.f 25 3 3,.d 26 25,.l 27 c [.t 26],.n 24 27]) (.cond (.t 24) (.seq (.r [.v 28 13 2,.v 29 5 3,.l 30 d [.t 28,.t 29],.x 31 30 0,.x 32 30 1,.u (.store 13 (.t 4) (.t 31)),.n 5 32]) (.ret)) (.skip)))))))) (.cut (qft a b c d))))⟩
def qdI:IFn:=⟨[.cell 0 13 true],.seq (.r [.q 0 (.alloc [.nils,.i .u8 0,.nils,.i .u32 0,.i .u8 0,.nils,.nils,.i .u8 0,.i .u64 0,.b false,.b false,.b false,.b false])]) (.seq (.r [.q 1 (.build [.nils,.i .u8 0,.nils,.i .u32 0,.i .u8 0,.nils,.nils,.i .u8 0,.i .u64 0,.b false,.b false,.b false,.b false] [(3,1,(.c (.i .u32 2147483648)))]),.u (.store 13 (.t 0) (.t 1))]) (.ret))⟩
theorem qvl(hc:qt P f qdI=true):qe P f [] (.agg (qj qfx)):=by
 refine qe.mk hc rfl ?_;simp only[qdI,vI,simprocAttr];simp (decide:=true) only [↓vS,vT,simprocAttr];simp[vZ,qj,qfx,qk7,rI,rC]
def qc1(a b c:Nat):ICode:=.seq (.seq (.r [.n 28 5,.l 29 c [.t 28]]) (.cond (.t 29) (.seq (.r [.q 30 (.build [.nils,.i .u8 0,.nils,.i .u32 0,.i .u8 0,.nils,.nils,.i .u8 0,.i .u64 0,.b false,.b false,.b false,.b false] []),.n 31 5,.u (.store 13 (.t 2) (.t 30)),.n 3 31]) (.ret)) (.skip))) (.seq (.r [.v 32 13 4,.n 33 5,.u (.store 13 (.t 2) (.t 32)),.n 3 33]) (.ret))
def qjC(a b c:Nat):IFn:=⟨[.cell 2 13 true,.tmp 3],.seq (.r [.q 2 (.alloc [.nils,.i .u8 0,.nils,.i .u32 0,.i .u8 0,.nils,.nils,.i .u8 0,.i .u64 0,.b false,.b false,.b false,.b false]),.m 3 .N]) (.seq (.r [.l 10 a [],.q 4 (.alloc [.nils,.i .u8 0,.nils,.i .u32 0,.i .u8 0,.nils,.nils,.i .u8 0,.i .u64 0,.b false,.b false,.b false,.b false]),.u (.store 13 (.t 4) (.t 10))]) (.seq (.r [.m 5 .N]) (.seq (.seq (.r [.n 11 0,.e 12 11,.m 13 (.k 0)]) (.blk 0 (.loop (.seq (.r [.s 14 13 12]) (.seq (.cond (.t 14) (.skip) (.exit 0)) (.seq (.blk 1 (.seq (.r [.i 15 5 11 13,.v 16 5 15,.q 7 (.alloc [.s [],.i .i64 0,.s [],.s [],.s []]),.u (.store 5 (.t 7) (.t 16))]) (.seq (.r [.v 18 13 4,.v 19 5 7,.l 20 b [.t 18,.t 19],.n 17 20,.x 21 17 0,.x 22 17 1,.q 8 (.alloc [.nils,.i .u8 0,.nils,.i .u32 0,.i .u8 0,.nils,.nils,.i .u8 0,.i .u64 0,.b false,.b false,.b false,.b false]),.u (.store 13 (.t 8) (.t 21)),.n 9 22]) (.reg true [.v 23 13 8,.n 24 5,.n 25 9,.q 26 (.appD 4 48 (.t 24) (.t 25) [8]),.u (.store 13 (.t 4) (.t 23)),.n 5 26])))) (.r [.a 27 13 1,.n 13 27]))))))) (.cut (qc1 a b c)))))⟩
end Go.Kc
end
section
/- PolicyOther: what the law answers. Condition: the functions' texts are these. -/
namespace Go.Kc
variable {P:Program} {f:Nat}
variable {E:List UInt8->List (List UInt8)×Int}
section
variable {g1 g2 g3 g4:Nat}
end
end Go.Kc
end
section
/- What the document's functions of stage 18 answer: the small ones. Condition: the functions' texts are these. -/
namespace Go.Kc
variable {P:Program} {f:Nat}
def qgh:List (List UInt8):=jR.map (·.1)
def wg:IFn:=⟨[.tmp 0],.seq (.r [.m 0 .N]) (.seq (.r [.q 1 (.buildS 6 [.s []] [(0,1,(.c (.s [120,56,54,45,54,52]))),(1,1,(.c (.s [120,56,54]))),(2,1,(.c (.s [120,51,50]))),(3,1,(.c (.s [97,114,109]))),(4,1,(.c (.s [97,114,109,54,52]))),(5,1,(.c (.s [114,105,115,99,118,54,52])))]),.n 0 1]) (.ret))⟩
theorem qvU(hc:qt P f wg=true):qe P f [] (.fz 6 (rS qgh)):=by
 refine qe.mk hc rfl ?_;simp only[wg,vI,simprocAttr];simp only[↓vS,vT,simprocAttr];refine .cut 1 rfl (Nat.le_refl _) ?_;simp[vw,jR,qgh,rS]
end Go.Kc
end
section
/- What the document's Set of stage 18 answers: architectures. Condition: the functions' texts are these. -/
namespace Go.Kc
variable {P:Program} {f:Nat}
end Go.Kc
end
section
/- What the document's Set of stage 18 answers: families. Condition: the functions' texts are these. -/
namespace Go.Kc
variable {P:Program} {f:Nat}
section
variable {is:Bool} {L:List Int} {W:List (List UInt8)} {j:Nat}
end
end Go.Kc
end
section
/- What the document's Set of stage 18 answers: namespaces, and all keys. Condition: the functions' texts are these. -/
namespace Go.Kc
variable {P:Program} {f:Nat}
noncomputable def spT(W:List (List UInt8))(j:Nat):Int×List (Int×List UInt8):=(W.take j).foldl qtk (0,[])
end Go.Kc
end
section
/- What the document's Resolve answers, and the law PolicyResolves. Condition: the functions' texts are these. -/
namespace Go.Kc
variable {P:Program} {f:Nat} {E:List UInt8->List (List UInt8)×Int}
def jM(a:Nat):IFn:=⟨[.tmp 2],.seq (.r [.m 2 .F]) (.seq (.seq (.r [.m 3 (.k 0)]) (.blk 0 (.loop (.seq (.seq (.r [.n 4 3,.n 5 0,.e 6 5,.s 7 4 6]) (.cond (.t 7) (.skip) (.exit 0))) (.seq (.blk 1 (.seq (.r [.n 10 0,.n 11 3,.i 12 4 10 11,.f 13 2 12,.d 14 13,.l 15 a [.t 14],.q 16 (.un .not (.t 15))]) (.cond (.t 16) (.seq (.r [.m 2 .T]) (.ret)) (.skip)))) (.r [.n 8 3,.a 9 8 1,.n 3 9])))))) (.seq (.r [.m 2 .F]) (.ret)))⟩
theorem quP{g:Nat}(hc:qt P f (jM g)=true)(hg:∀x,qe P g [.i .i64 x] (.b (qau x)))(l:List GNote)(hl:l.length<=qf):qe P f [.fz l.length (rN l)] (.b (jT l)):=by
 refine qe.mk hc (by simp[qG,clo,qcx]) ?_;simp only[jM,vI,simprocAttr];simp only[↓vS,vT,simprocAttr];refine SL.loop (α:=Nat) (fun j=>[(0,.fz l.length (rN l)),(3,.i .i64 j)]) (fun _=>[]) (fun j=>j<=l.length∧jT l=jT (l.drop j)) (fun j=>l.length-j) 0 [] ?_ ?_ ?_ rfl ?_ ?_
 ·simp[vw,qcx]
 ·trivial
 ·simp
 ·exact⟨Nat.zero_le _,rfl⟩
 rintro j ⟨hj,hI⟩ G ih;simp only[vI,simprocAttr]
 by_cases hlt:j<l.length
 ·have hx:l[j]?=some l[j]:=List.getElem?_eq_getElem hlt;have hw:IntKind.wrap .i64 ((j:Int)+1)=((j+1:Nat):Int):=by rw[qF (by omega) (by have:=hl;simp only[qf] at this;omega)];omega
  have g2:(rN l)[j*4+2]?=some (.i .i64 l[j].err):=qs8 hx (i:=2) (by decide);rw[List.drop_eq_getElem_cons hlt] at hI;generalize l[j]=n at hI g2;have e:jT (n::l.drop (j+1))=(!qau n.err||jT (l.drop (j+1))):=rfl
  rw[e] at hI;simp (decide:=true) only [↓vS,vT,simprocAttr,hlt,g2];refine (hg n.err).sc ?_;cases hwn:qau n.err with
  | true =>
   rw[hwn] at hI;simp (decide:=true) only [↓vS,vT,simprocAttr,hw];refine ih (j+1) ⟨by omega,by simpa using hI⟩ (by omega) _ _ (Wk.mk _ _ [] ?_ ?_ ?_ rfl)
   ·simp[vw,qcx]
   ·trivial
   ·simp
  | false =>
   rw[hwn] at hI;simp (decide:=true) only [↓vS,vT,simprocAttr];simp[vZ,hI]
 ·rw[List.drop_eq_nil_of_le (by omega)] at hI;have e:jT l=false:=by rw[hI];rfl
  simp only[↓vS,vT,simprocAttr,hlt];simp[vZ,e]
section
variable {g1 g2 g3 g4 g5 g6 g7 g8:Nat}
end
end Go.Kc
end
section
/- The kit's law of strings.Join, as a contract. No condition. -/
namespace Go.Kc
open Go.RowKit
variable {P:Program} {f:Nat}
def qod(P:Program)(f:Nat):Prop :=
 (∀(a:Option Addr) (c:Nat) (sep:ByteArray) (w:World),Calls P f #[.slice a 0 c,.string sep] w fun e w'=>e = .returned (.string ⟨#[]⟩)∧w'=w) ∧
 ∀(bk o c:Nat) (xs:List ByteArray) (sep:ByteArray) (w:World),(∀(j:Nat) x,xs[j]?=some x->w.cell? ⟨bk,o+j,none⟩=some (.string x))->bk<w.heap.size->xs.length<=140737488355328->xs.length<=c->
  (Lib.join (xs.map (·.data.toList)) sep.data.toList).length<=140737488355328->
  Calls P f #[.slice (some ⟨bk,o,none⟩) xs.length c,.string sep] w fun e w'=>e = .returned (.string ⟨(Lib.join (xs.map (·.data.toList)) sep.data.toList).toArray⟩)∧Below w.heap.size w w'
theorem Rel.below{ρ:Ren}{B:Nat->Prop}{h:Hp}{w w':World}(r:Rel σ0 ρ B h w)(hb:Below w.heap.size w w'):Rel σ0 ρ B h w':=by
 have hget:∀{k o},w.heap[k]?=some o->w'.heap[k]?=some o:=fun {k o} hk=>by rw[hb.block k (Array.getElem?_eq_some_iff.1 hk).1];exact hk
 refine⟨r.dom,fun b L e wf af cs h1 h2=>?_,fun b L es h1 h2=>?_,r.excl,r.exclm,r.app,r.flr,fun k hk=>Nat.lt_of_lt_of_le (r.base k hk) hb.size,fun k arr hk=>?_,r.dn⟩
 ·obtain⟨e1,c,ty,fz,e2,e3⟩:=r.cells b L e wf af cs h1 h2;exact⟨e1,c,ty,fz,hget e2,e3⟩
 ·obtain⟨e1,o,e2,e3⟩:=r.maps b L es h1 h2;exact⟨e1,o,hget e2,e3⟩
 ·obtain⟨⟨ty,fz,e1⟩,e2⟩:=r.frz k arr hk;exact⟨⟨ty,fz,hget e1⟩,e2⟩
theorem Kept.below{ρ:Ren}{B:Nat->Prop}{h:Hp}{w w':World}(r:Rel σ0 ρ B h w)(hb:Below w.heap.size w w'):Kept ρ B h w ρ h w' :=
 ⟨fun _ _=>rfl,Nat.le_refl _,rfl,fun _ _ _=>rfl,fun k hk=>hb.block k (r.base k hk),hb.size,⟨hb.os,hb.output⟩,fun _ _ h=>h,fun _ _ h=>.inl h,Nat.le_refl _⟩
def zI(sep:List UInt8)(xs:List (List UInt8)):List UInt8:=Lib.join xs sep
def qqu(P:Program)(f:Nat):Prop:=∀(xs:List (List UInt8)) (sep:List UInt8),xs.length<=140737488355328->(zI sep xs).length<=140737488355328->qe P f [.fz xs.length (rS xs),.s sep] (.s (zI sep xs))
theorem qu0(hcod:qh3 P f)(hK:qod P f):qqu P f:=by
 intro xs sep hx hj h k hk;refine⟨trivial,fun ρ B w args r ha=>?_⟩
 generalize hA:args.toList=L at ha;cases ha with
 | cons _ _ _ _ a1 a2 =>
  rename_i v1 vs1;cases a2 with
  | cons _ _ _ _ b1 b2 =>
   rename_i v2 vs2;cases b2;have hargs:args = #[v1,v2]:=by apply Array.ext';rw[hA]
   have e2:=b1.un_s;subst hargs e2;rcases a1.un_fz with⟨q,off,c,arr,rfl,hc,hq,hcs⟩|⟨h0,_,a,rfl⟩
   ·obtain⟨⟨ty,fz,hw⟩,_⟩:=r.frz q arr hq;have hl:xs.length=(xs.map fun x=>(⟨x.toArray⟩:ByteArray)).length:=by simp
    have hm:(xs.map fun x=>(⟨x.toArray⟩:ByteArray)).map (·.data.toList)=xs:=by
     rw[List.map_map];exact List.map_id' _
    have key:=hK.2 q off c (xs.map fun x=>⟨x.toArray⟩) ⟨sep.toArray⟩ w ?_ (Array.getElem?_eq_some_iff.1 hw).1 (by rw[← hl];exact hx) (by rw[← hl];exact hc) (by rw[hm];exact hj)
    ·rw[hm,← hl] at key;refine .inl ⟨hcod,key.mono ?_⟩;rintro e w' ⟨rfl,hb⟩;exact⟨_,_,h,ρ,rfl,hk,.s _,r.below hb,Kept.below r hb⟩
    ·intro j x hjx;rw[List.getElem?_map] at hjx;cases hxj:xs[j]? with
     | none=>rw[hxj] at hjx;cases hjx
     | some y =>
      rw[hxj] at hjx;cases hjx;obtain⟨v,h1,h2⟩:=hcs.get (j:=j) (a:=.s y) (by rw[qhB,hxj];rfl);cases h2;have hjl:j<(rS xs).length:=by rw[zX];exact (List.getElem?_eq_some_iff.1 hxj).1
      rw[List.getElem?_take,if_pos hjl,List.getElem?_drop,Array.getElem?_toList] at h1;show (match w.heap[q]? with|some (.cells c _ _)=>if (none:Option _).isSome then none else c[off+j]? | _=>none)=_
      rw[hw];exact h1
   ·have hnil:xs=[]:=List.eq_nil_of_length_eq_zero h0;subst hnil;refine .inl ⟨hcod,(hK.1 a 0 ⟨sep.toArray⟩ w).mono ?_⟩;rintro e w' ⟨rfl,rfl⟩;exact⟨_,_,h,ρ,rfl,hk,.s _,r,Kept.refl _ _ _ _⟩
end Go.Kc
end
section
/- What policy's writer does: its lines. Condition: the functions' texts are these. -/
namespace Go.Kc
variable {P:Program} {f:Nat}
def qbk:IFn:=⟨[.tmp 4],.seq (.r [.m 4 .N]) (.seq (.r [.m 5 .N]) (.seq (.seq (.r [.n 8 0,.e 9 8,.m 10 (.k 0)]) (.blk 0 (.loop (.seq (.r [.s 11 10 9]) (.seq (.cond (.t 11) (.skip) (.exit 0)) (.seq (.blk 1 (.seq (.r [.i 12 1 8 10,.d 13 12,.n 7 13]) (.r [.n 14 5,.n 15 1,.n 16 7,⟨(some 17),.callV (.t 15) [.t 16],none⟩,.q 18 (.buildS 1 [.s []] [(0,1,(.t 17))]),.q 19 (.app 1 16 true (.t 14) (.t 18)),.n 5 19]))) (.r [.a 20 10 1,.n 10 20]))))))) (.seq (.r [.n 21 5,.n 4 21]) (.ret))))⟩
theorem qvD(hc:qt P f qbk=true){g:Nat}{nm:Int->List UInt8}(l:List Int)(hl:l.length<=100000)(hg:∀x ∈ l,qe P g [.i .i64 x] (.s (nm x))):qe P f [.fz l.length (rI .i64 l),.fn g [] []] (.fz l.length (rS (l.map nm))):=by
 refine qe.mk hc (by simp[qG,clo,qd]) ?_;simp only[qbk,vI,simprocAttr];simp only[↓vS,vT,simprocAttr];refine SL.loop (α:=Nat) (fun j=>[(1,.fn g [] []),(5,.own 0 j),(8,.fz l.length (rI .i64 l)),(9,.i .i64 l.length),(10,.i .i64 j)]) (fun j=>[.cells 1 true true (rS ((l.take j).map nm))]) (fun j=>j<=l.length) (fun j=>l.length-j) 0 [99] ?_ ?_ ?_ rfl ?_ ?_
 ·simp[vw,qd]
 ·simp[vw,qai]
 ·simp
 ·exact Nat.zero_le _
 rintro j hj G ih;simp only[vI,simprocAttr]
 by_cases hlt:j<l.length
 ·have hx:l[j]?=some l[j]:=List.getElem?_eq_getElem hlt;have hw:IntKind.wrap .i64 ((j:Int)+1)=((j+1:Nat):Int):=by rw[qF (by omega) (by omega)];omega
  have hgx:=hg _ (List.getElem_mem hlt);have ht:(l.take (j+1)).map nm=(l.take j).map nm++[nm l[j]]:=by rw[List.take_add_one,hx,List.map_append];rfl
  have hml:((l.take j).map nm).length=j:=by simp;omega
  have ih2:=ih (j+1);rw[ht] at ih2;generalize l[j]=x at hx hgx ih2;generalize (l.take j).map nm=A at hml ih2 ⊢;have hr1:j+1<=qf:=by simp only[qf];omega
  have hr2:(j+1)*16<=qf:=by simp only[qf];omega
  have hap:rS A++[AV.s (nm x)]=rS (A++[nm x]):=by rw[← x6];rfl
  have hlr:(rS A).length=j:=by rw[zX,hml]
  simp (decide:=true) only [↓vS,vT,simprocAttr,hlt,Nat.mul_one,zF,hx,Option.map_some];refine hgx.sc ?_;simp (decide:=true) only [↓vS,vT,simprocAttr,hr1,hr2,hlr,hap,hw,Nat.mul_one];refine ih2 (by omega) (by omega) _ _ (Wk.mk _ _ [2] ?_ ?_ ?_ rfl)
  ·simp[vw,qd]
  ·simp[vw,qh,qa]
  ·simp
 ·have hj':j=l.length:=by omega
  subst hj';clear ih;rw[List.take_length];simp (decide:=true) only [↓vS,vT,simprocAttr,hlt];simp[vZ,vP,Tr.get_set,qI qa]
  try (intro h0;rw[h0];rfl)
def qan:IFn:=⟨[.tmp 4],.seq (.r [.m 4 .N]) (.seq (.r [.m 5 .N]) (.seq (.seq (.r [.n 8 0,.e 9 8,.m 10 (.k 0)]) (.blk 0 (.loop (.seq (.r [.s 11 10 9]) (.seq (.cond (.t 11) (.skip) (.exit 0)) (.seq (.blk 1 (.seq (.r [.i 12 1 8 10,.d 13 12,.n 7 13]) (.r [.n 14 5,.n 15 1,.n 16 7,⟨(some 17),.callV (.t 15) [.t 16],none⟩,.q 18 (.buildS 1 [.s []] [(0,1,(.t 17))]),.q 19 (.app 1 16 true (.t 14) (.t 18)),.n 5 19]))) (.r [.a 20 10 1,.n 10 20]))))))) (.seq (.r [.n 21 5,.n 4 21]) (.ret))))⟩
theorem qvE(hc:qt P f qan=true){g:Nat}{nm:Int->List UInt8}(l:List Int)(hl:l.length<=100000)(hg:∀x ∈ l,qe P g [.i .u32 x] (.s (nm x))):qe P f [.fz l.length (rI .u32 l),.fn g [] []] (.fz l.length (rS (l.map nm))):=by
 refine qe.mk hc (by simp[qG,clo,qd]) ?_;simp only[qan,vI,simprocAttr];simp only[↓vS,vT,simprocAttr];refine SL.loop (α:=Nat) (fun j=>[(1,.fn g [] []),(5,.own 0 j),(8,.fz l.length (rI .u32 l)),(9,.i .i64 l.length),(10,.i .i64 j)]) (fun j=>[.cells 1 true true (rS ((l.take j).map nm))]) (fun j=>j<=l.length) (fun j=>l.length-j) 0 [99] ?_ ?_ ?_ rfl ?_ ?_
 ·simp[vw,qd]
 ·simp[vw,qai]
 ·simp
 ·exact Nat.zero_le _
 rintro j hj G ih;simp only[vI,simprocAttr]
 by_cases hlt:j<l.length
 ·have hx:l[j]?=some l[j]:=List.getElem?_eq_getElem hlt;have hw:IntKind.wrap .i64 ((j:Int)+1)=((j+1:Nat):Int):=by rw[qF (by omega) (by omega)];omega
  have hgx:=hg _ (List.getElem_mem hlt);have ht:(l.take (j+1)).map nm=(l.take j).map nm++[nm l[j]]:=by rw[List.take_add_one,hx,List.map_append];rfl
  have hml:((l.take j).map nm).length=j:=by simp;omega
  have ih2:=ih (j+1);rw[ht] at ih2;generalize l[j]=x at hx hgx ih2;generalize (l.take j).map nm=A at hml ih2 ⊢;have hr1:j+1<=qf:=by simp only[qf];omega
  have hr2:(j+1)*16<=qf:=by simp only[qf];omega
  have hap:rS A++[AV.s (nm x)]=rS (A++[nm x]):=by rw[← x6];rfl
  have hlr:(rS A).length=j:=by rw[zX,hml]
  simp (decide:=true) only [↓vS,vT,simprocAttr,hlt,Nat.mul_one,zF,hx,Option.map_some];refine hgx.sc ?_;simp (decide:=true) only [↓vS,vT,simprocAttr,hr1,hr2,hlr,hap,hw,Nat.mul_one];refine ih2 (by omega) (by omega) _ _ (Wk.mk _ _ [2] ?_ ?_ ?_ rfl)
  ·simp[vw,qd]
  ·simp[vw,qh,qa]
  ·simp
 ·have hj':j=l.length:=by omega
  subst hj';clear ih;rw[List.take_length];simp (decide:=true) only [↓vS,vT,simprocAttr,hlt];simp[vZ,vP,Tr.get_set,qI qa]
  try (intro h0;rw[h0];rfl)
def qao:IFn:=⟨[.tmp 4],.seq (.r [.m 4 .N]) (.seq (.r [.m 5 .N]) (.seq (.seq (.r [.n 8 0,.e 9 8,.m 10 (.k 0)]) (.blk 0 (.loop (.seq (.r [.s 11 10 9]) (.seq (.cond (.t 11) (.skip) (.exit 0)) (.seq (.blk 1 (.seq (.r [.i 12 1 8 10,.d 13 12,.n 7 13]) (.r [.n 14 5,.n 15 1,.n 16 7,⟨(some 17),.callV (.t 15) [.t 16],none⟩,.q 18 (.buildS 1 [.s []] [(0,1,(.t 17))]),.q 19 (.app 1 16 true (.t 14) (.t 18)),.n 5 19]))) (.r [.a 20 10 1,.n 10 20]))))))) (.seq (.r [.n 21 5,.n 4 21]) (.ret))))⟩
theorem qvF(hc:qt P f qao=true){g:Nat}{nm:Int->List UInt8}(l:List Int)(hl:l.length<=100000)(hg:∀x ∈ l,qe P g [.i .u64 x] (.s (nm x))):qe P f [.fz l.length (rI .u64 l),.fn g [] []] (.fz l.length (rS (l.map nm))):=by
 refine qe.mk hc (by simp[qG,clo,qd]) ?_;simp only[qao,vI,simprocAttr];simp only[↓vS,vT,simprocAttr];refine SL.loop (α:=Nat) (fun j=>[(1,.fn g [] []),(5,.own 0 j),(8,.fz l.length (rI .u64 l)),(9,.i .i64 l.length),(10,.i .i64 j)]) (fun j=>[.cells 1 true true (rS ((l.take j).map nm))]) (fun j=>j<=l.length) (fun j=>l.length-j) 0 [99] ?_ ?_ ?_ rfl ?_ ?_
 ·simp[vw,qd]
 ·simp[vw,qai]
 ·simp
 ·exact Nat.zero_le _
 rintro j hj G ih;simp only[vI,simprocAttr]
 by_cases hlt:j<l.length
 ·have hx:l[j]?=some l[j]:=List.getElem?_eq_getElem hlt;have hw:IntKind.wrap .i64 ((j:Int)+1)=((j+1:Nat):Int):=by rw[qF (by omega) (by omega)];omega
  have hgx:=hg _ (List.getElem_mem hlt);have ht:(l.take (j+1)).map nm=(l.take j).map nm++[nm l[j]]:=by rw[List.take_add_one,hx,List.map_append];rfl
  have hml:((l.take j).map nm).length=j:=by simp;omega
  have ih2:=ih (j+1);rw[ht] at ih2;generalize l[j]=x at hx hgx ih2;generalize (l.take j).map nm=A at hml ih2 ⊢;have hr1:j+1<=qf:=by simp only[qf];omega
  have hr2:(j+1)*16<=qf:=by simp only[qf];omega
  have hap:rS A++[AV.s (nm x)]=rS (A++[nm x]):=by rw[← x6];rfl
  have hlr:(rS A).length=j:=by rw[zX,hml]
  simp (decide:=true) only [↓vS,vT,simprocAttr,hlt,Nat.mul_one,zF,hx,Option.map_some];refine hgx.sc ?_;simp (decide:=true) only [↓vS,vT,simprocAttr,hr1,hr2,hlr,hap,hw,Nat.mul_one];refine ih2 (by omega) (by omega) _ _ (Wk.mk _ _ [2] ?_ ?_ ?_ rfl)
  ·simp[vw,qd]
  ·simp[vw,qh,qa]
  ·simp
 ·have hj':j=l.length:=by omega
  subst hj';clear ih;rw[List.take_length];simp (decide:=true) only [↓vS,vT,simprocAttr,hlt];simp[vZ,vP,Tr.get_set,qI qa]
  try (intro h0;rw[h0];rfl)
def zj(k a:List UInt8)(ws:List (List UInt8)):List UInt8:=k++[61]++a++zI [32] ws
def wB0(ls:List (List UInt8)):List Blk:=[.cells 0 true false [.own 1 ls.length],.cells 1 true true (rS ls)]
def wB1(ls:List (List UInt8)):List Blk:=[.cells 0 true false [.own 2 ls.length],.dead,.cells 1 true true (rS ls)]
def qbz(k a:List UInt8)(ws:List (List UInt8)):Prop:=k.length<=100∧a.length<=100∧ws.length<=100000∧(zI [32] ws).length<=1000000
def qbv(P:Program)(f:Nat):Prop:=∀(k a:List UInt8) (ws ls:List (List UInt8)),ls.length<=100000->qbz k a ws->
 Upd P f [.ptr 0 0,.s k,.s a,.fz ws.length (rS ws)] (wB0 ls) (.tup []) (wB1 (ls++[zj k a ws]))
def qap(a:Nat):IFn:=⟨[],.reg true [.n 8 0,.n 9 0,.q 10 (.nilChk (.t 9)),.d 11 10,.n 12 1,.q 13 (.bin .add (.t 12) (.c (.s [61]))),.n 14 2,.b 15 .add 13 14,.n 16 3,.l 17 a [.t 16,(.c (.s [32]))],.b 18 .add 15 17,.q 19 (.buildS 1 [.s []] [(0,1,(.t 18))]),.q 20 (.app 1 16 true (.t 11) (.t 19)),.q 21 (.nilChk (.t 8)),.u (.store 1 (.t 21) (.t 20))]⟩
theorem qvc{g:Nat}(hc:qt P f (qap g)=true)(hg:qqu P g):qbv P f:=by
 intro k a ws ls hls ⟨h1,h2,h3,h4⟩;refine Upd.mkd hc (by simp[jV,bnd,wB0,qcj,clo,qa]) (by simp[wB0,wB1]) ?_;simp only[qap,wB0,vI,simprocAttr];refine xb ?_;have hc1:k.length+1<=9223372036854775807:=by omega
 have hc2:k.length+1+a.length<=9223372036854775807:=by omega
 have hc3:k.length+(a.length+1)+(zI [32] ws).length<=9223372036854775807:=by omega
 have hr1:ls.length+1<=qf:=by simp only[qf];omega
 have hr2:(ls.length+1)*16<=qf:=by simp only[qf];omega
 have hlm:zj k a ws=k++61::(a++zI [32] ws):=by simp[zj]
 have hap:rS ls++[AV.s (k++61::(a++zI [32] ws))]=rS (ls++[zj k a ws]):=by rw[← x6,hlm];rfl
 simp (decide:=true) only [↓vS,vT,simprocAttr,List.length_append,hc1,hc2];refine (hg ws [32] (by omega) (by omega)).pc ?_;simp (decide:=true) only [↓vS,vT,simprocAttr,List.length_append,hc1,hc2,hc3,hr1,hr2,zX,hap,Nat.mul_one];intro _;refine⟨[0,1,3],?_⟩;simp[vw,wB1,hap,qh,qa,xD,rl];intro b hb;have:b=0∨b=1:=by omega
 rcases this with rfl|rfl<;>rfl
def xF(k:List UInt8)(is:Bool):List (List UInt8):=if is=true then [zj k [] [[121,101,115]]] else []
theorem zm(sep w:List UInt8):zI sep [w]=w:=Lib.join_one w sep
def js(a:Nat):IFn:=⟨[],.seq (.r [.n 6 2]) (.cond (.t 6) (.r [.n 7 0,.n 8 1,.q 9 (.buildS 1 [.s []] [(0,1,(.c (.s [121,101,115])))]),⟨(some 10),.callW a [.t 7,.t 8,(.c (.s [])),.t 9],none⟩]) (.skip))⟩
theorem qv1{g:Nat}(hc:qt P f (js g)=true)(hg:qbv P g)(k:List UInt8)(is:Bool)(ls:List (List UInt8))(hls:ls.length<=100000)(hk:k.length<=100) :
  Upd P f [.ptr 0 0,.s k,.b is] (wB0 ls) (.tup []) (if is=true then wB1 (ls++[zj k [] [[121,101,115]]]) else wB0 ls):=by
 have hok:qbz k [] [[121,101,115]]:=⟨hk,by simp,by simp,by rw[zm];decide⟩
 cases is with
 | false =>
  refine Upd.mk hc (by simp[jV,bnd,wB0,qcj,clo,qa]) (by simp[wB0]) ?_;simp only[js,wB0,vI,simprocAttr];simp only[↓vS,vT,simprocAttr];intro _;refine⟨[0,1],?_⟩;simp[vw,wB0,qh,qa]
  try decide
 | true =>
  refine Upd.mkd hc (by simp[jV,bnd,wB0,qcj,clo,qa]) (by simp[wB0,wB1]) ?_;simp only[js,wB0,vI,simprocAttr];simp (decide:=true) only [↓vS,vT,simprocAttr];refine SC.give (vs':=[.ptr 0 0,.s k,.s [],.fz 1 (rS [[121,101,115]])]) [(2,.cells 0 true false [.s [121,101,115]])] ?_ ?_ ?_
  ·intro q hq;simp at hq;subst hq;simp[Tr.get_set]
  ·refine .keep _ _ _ (.keep _ _ _ (.keep _ _ _ (.fz _ _ _ _ (.cut 1 rfl (Nat.le_refl _) ?_) .nil)));simp[vw,trP,rS]
  simp only[qdr,qc6,qdn];refine (hg k [] [[121,101,115]] ls hls hok).sc (vs:=[.ptr 0 0,.s k,.s [],.fz 1 (rS [[121,101,115]])]) [0,1] (Lent.of (by decide) ?_) ?_
  ·simp[vL,vw,wB0,ze qa,qv qa]
  simp only[vK,simprocAttr,wB1,qv qa];simp only[↓vS,vT,simprocAttr];intro _
  trace_state
  refine⟨[0,1,3],?_⟩;simp[vw,wB1,qh,qa,xD,rl];intro b hb;have:b=0∨b=1:=by omega
  rcases this with rfl|rfl<;>rfl
end Go.Kc
end
section
/- The words of a policy's lines. Itoa's contract is taken as given. Condition: the functions' texts are these. -/
namespace Go.Kc
variable {P:Program} {f:Nat}
def qeK(n:Int):List UInt8:=Lib.itoa n
def qqt(P:Program)(f:Nat):Prop:=∀n:Int,0<=n->n<=4095->qe P f [.i .i64 n] (.s (qeK n))
def qbs(n:Int):List UInt8:=if qJ n zh=[]∧n<=4095 then qeK n else qJ n zh
def qbf(a b c:Nat):IFn:=⟨[.tmp 2],.seq (.r [.m 2 (.c (.s []))]) (.seq (.r [.l 5 a [],.q 3 (.alloc [.s [],.i .u32 0,.s [],.i .u32 0,.s [],.i .u32 0,.s [],.i .u32 0,.s [],.i .u32 0,.s [],.i .u32 0,.s [],.i .u32 0,.s [],.i .u32 0,.s [],.i .u32 0,.s [],.i .u32 0,.s [],.i .u32 0,.s [],.i .u32 0,.s [],.i .u32 0,.s [],.i .u32 0,.s [],.i .u32 0]),.u (.store 30 (.t 3) (.t 5))]) (.seq (.r [.q 6 (.slcA 15 2 (.t 3) none none none),.n 7 0,.l 8 b [.t 6,.t 7],.n 4 8]) (.seq (.seq (.r [.n 9 4,.q 10 (.bin .eql (.t 9) (.c (.s []))),.n 11 10,.y 12 0 11,.g 13 (.bin .leq (.t 12) (.c (.i .u32 4095))) 11 true,.p 14 11 13]) (.cond (.t 14) (.seq (.r [.n 15 0,.q 16 (.cvInt .i64 (.t 15)),.l 17 c [.t 16],.n 2 17]) (.ret)) (.skip))) (.seq (.r [.n 18 4,.n 2 18]) (.ret)))))⟩
theorem qtJ{g1 g2 g3:Nat}(hc:qt P f (qbf g1 g2 g3)=true)(h1:qe P g1 [] (.agg (zh.flatMap (qQ .u32))))(h2:∀(l:List (List UInt8×Int)) (n:Int),l.length<=qf->qe P g2 [.fz l.length (l.flatMap (qQ .u32)),.i .u32 n] (.s (qJ n l)))(h3:qqt P g3)(n:Int)(h0:0<=n)(hn:n<=4294967295):qe P f [.i .u32 n] (.s (qbs n)):=by
 refine qe.mk hc rfl ?_;have h2':=h2 zh n (by decide);have hw:IntKind.wrap .i64 n=n:=qF (by omega) (by omega);unfold qbs;generalize qJ n zh=s at h2' ⊢;simp only[qbf,vI,simprocAttr];simp only[↓vS,vT,simprocAttr];refine h1.sc ?_;simp only[↓vS,vT,simprocAttr,zh,qQ,List.flatMap_cons,List.flatMap_nil];refine h2'.lend (vs':=[.fz 15 (zh.flatMap (qQ .u32)),.i .u32 n]) ?_ rfl ?_
 ·refine .cons _ _ _ _ (.cut 2 rfl (Nat.le_refl _) ?_) (.cons _ _ _ _ (.i _ _) .nil);simp[vw,zh,qQ]
 by_cases hs:s=[]
 ·by_cases h4:n<=4095
  ·simp (decide:=true) only [↓vS,vT,simprocAttr,hs,h4,hw];refine (h3 n h0 h4).sc ?_;simp only[↓vS,vT,simprocAttr];simp[vZ,hs,h4]
  ·simp (decide:=true) only [↓vS,vT,simprocAttr,hs,h4];simp[vZ,hs,h4]
 ·simp (decide:=true) only [↓vS,vT,simprocAttr,hs];simp[vZ,hs]
def qbg(a b:Nat):IFn:=⟨[.tmp 2],.seq (.r [.m 2 (.c (.s []))]) (.seq (.r [.l 4 a [],.q 3 (.alloc [.s [],.i .u64 0,.s [],.i .u64 0,.s [],.i .u64 0,.s [],.i .u64 0,.s [],.i .u64 0,.s [],.i .u64 0,.s [],.i .u64 0,.s [],.i .u64 0]),.u (.store 16 (.t 3) (.t 4))]) (.seq (.r [.q 5 (.slcA 8 2 (.t 3) none none none),.n 6 0,.l 7 b [.t 5,.t 6],.n 2 7]) (.ret)))⟩
theorem qt7{g1 g2:Nat}(hc:qt P f (qbg g1 g2)=true)(h1:qe P g1 [] (.agg (qg.flatMap (qQ .u64))))(h2:∀(l:List (List UInt8×Int)) (n:Int),l.length<=qf->qe P g2 [.fz l.length (l.flatMap (qQ .u64)),.i .u64 n] (.s (qJ n l)))(n:Int):qe P f [.i .u64 n] (.s (qJ n qg)):=by
 refine qe.mk hc rfl ?_;simp only[qbg,vI,simprocAttr];simp only[↓vS,vT,simprocAttr];refine h1.sc ?_;simp only[↓vS,vT,simprocAttr,qg,qQ,List.flatMap_cons,List.flatMap_nil];refine (h2 qg n (by decide)).lend (vs':=[.fz 8 (qg.flatMap (qQ .u64)),.i .u64 n]) ?_ rfl ?_
 ·refine .cons _ _ _ _ (.cut 2 rfl (Nat.le_refl _) ?_) (.cons _ _ _ _ (.i _ _) .nil);simp[vw,qg,qQ]
 simp only[↓vS,vT,simprocAttr,vZ,and_self,qg]
def qbF(c:GCall):List UInt8:=if c.act=0 then c.name else if c.act=2147483648 then c.name++[58,107,105,108,108] else if xa .u32 c.act 4294901760=327680 then c.name++58::qbs (xa .u32 c.act 65535) else c.name++[58]
theorem qcP(a b:Int):0<=xa .u32 a b∧xa .u32 a b<=4294967295:=by
 have h:0<=xa .u32 a b∧xa .u32 a b<4294967296:=by
  unfold xa;exact⟨Int.emod_nonneg _ (by decide),Int.emod_lt_of_pos _ (by decide)⟩
 omega
theorem qfW{n:Int}(h0:0<=n)(h:n<=4095):(qeK n).length<=21:=Lib.itoa_length_le n (by omega) (by omega)
theorem qkR(n:Int):(qJ n zh).length<=21:=by
 have:∀l:List (List UInt8×Int),(∀p ∈ l,p.1.length<=21)->(qJ n l).length<=21:=by
  intro l
  induction l with
  | nil=>intro _;simp[qJ]
  | cons p l ih =>
   intro h;simp only[qJ];split
   ·exact h p (by simp)
   ·exact ih fun q hq=>h q (by simp[hq])
 exact this _ (by decide)
theorem qcU{n:Int}(h0:0<=n):(qbs n).length<=21:=by
 unfold qbs;split
 ·rename_i h;exact qfW h0 h.2
 ·exact qkR n
def qc4(a:Nat):IFn:=⟨[.tmp 2],.seq (.r [.q 1 (.box (.t 0)),.m 2 (.c (.s []))]) (.seq (.blk 0 (.seq (.r [.f 4 2 1,.d 5 4,.q 6 (.un .not (.t 5)),.n 3 6]) (.cond (.t 3) (.seq (.r [.f 7 0 1,.d 8 7,.n 2 8]) (.ret)) (.seq (.r [.f 10 1 1,.d 11 10,.q 12 (.bin .eql (.t 11) (.c (.i .u32 2147483648))),.n 9 12]) (.cond (.t 9) (.seq (.r [.f 13 0 1,.d 14 13,.q 15 (.bin .add (.t 14) (.c (.s [58,107,105,108,108]))),.n 2 15]) (.ret)) (.seq (.r [.f 17 1 1,.d 18 17,.q 19 (.bin .and (.t 18) (.c (.i .u32 4294901760))),.q 20 (.bin .eql (.t 19) (.c (.i .u32 327680))),.n 16 20]) (.cond (.t 16) (.seq (.reg true [.f 21 0 1,.d 22 21,.q 23 (.bin .add (.t 22) (.c (.s [58]))),.f 24 1 1,.d 25 24,.q 26 (.bin .and (.t 25) (.c (.i .u32 65535))),.l 27 a [.t 26],.b 28 .add 23 27,.n 2 28]) (.ret)) (.skip)))))))) (.seq (.r [.f 29 0 1,.d 30 29,.q 31 (.bin .add (.t 30) (.c (.s [58]))),.n 2 31]) (.ret)))⟩
def qhU(c:GCall):List AV:=[.s c.name,.i .u32 c.act,.b (decide (c.act≠0))]
theorem qua{g:Nat}(hc:qt P f (qc4 g)=true)(hg:∀n:Int,0<=n->n<=4294967295->qe P g [.i .u32 n] (.s (qbs n)))(c:GCall)(hl:c.name.length<=1000000):qe P f [.agg (qhU c)] (.s (qbF c)):=by
 refine qe.mk hc rfl ?_;have h1:c.name.length+5<=9223372036854775807:=by omega
 have h2:c.name.length+1<=9223372036854775807:=by omega
 simp only[qc4,qhU,vI,simprocAttr];unfold qbF
 by_cases a0:c.act=0
 ·simp (decide:=true) only [↓vS,vT,simprocAttr,a0];simp[vZ,a0]
 have hb:decide (c.act≠0)=true:=by simpa using a0
 rw[hb]
 by_cases a1:c.act=2147483648
 ·simp (decide:=true) only [↓vS,vT,simprocAttr,a0,a1,h1];simp[vZ,a0,a1]
 by_cases a2:xa .u32 c.act 4294901760=327680
 ·have hr:=qcP c.act 65535;have hel:=qcU (n:=xa .u32 c.act 65535) hr.1;have hg':=hg _ hr.1 hr.2;have h3:c.name.length+1+(qbs (xa .u32 c.act 65535)).length<=9223372036854775807:=by omega
  simp (decide:=true) only [↓vS,vT,simprocAttr,a0,a1,a2];refine xb ?_;simp (decide:=true) only [↓vS,vT,simprocAttr,h2];refine hg'.pc ?_;simp (decide:=true) only [↓vS,vT,simprocAttr,List.length_append,h2,h3];simp[vZ,a0,a1,a2]
 ·simp (decide:=true) only [↓vS,vT,simprocAttr,a0,a1,a2,h2];simp[vZ,a0,a1,a2]
end Go.Kc
end
section
/- What policy's writer lists. Condition: the functions' texts are these. -/
namespace Go.Kc
variable {P:Program} {f:Nat}
def zc(q:GCall->Bool)(l:List GCall):List (List UInt8):=(l.filter q).map qbF
theorem qdm{q:GCall->Bool}{l:List GCall}{j:Nat}{c:GCall}(h:l[j]?=some c):zc q (l.take (j+1))=zc q (l.take j)++(if q c=true then [qbF c] else []):=by
 unfold zc;rw[List.take_add_one,h,List.filter_append,List.map_append]
 by_cases hc:q c=true<;>simp[hc]
theorem qbb(q:GCall->Bool)(l:List GCall):(zc q l).length<=l.length:=by
 unfold zc;rw[List.length_map];exact List.length_filter_le _ _
def qb1(P:Program)(f:Nat):Prop:=∀(g:Nat) (q:GCall->Bool) (l:GList),l.calls.length<=100000->(∀c ∈ l.calls,c.name.length<=1000000)->(∀c,qe P g [.agg (zf c)] (.b (q c)))->
 qe P f [.fn g [] [],.pf (qu l) 0] (.fz (zc q l.calls).length (rS (zc q l.calls)))
def j6(a:Nat):IFn:=⟨[.tmp 3],.seq (.r [.m 3 .N]) (.seq (.r [.m 4 .N]) (.seq (.seq (.r [.f 7 1 1,.d 8 7,.e 9 8,.m 10 (.k 0)]) (.blk 0 (.loop (.seq (.r [.s 11 10 9]) (.seq (.cond (.t 11) (.skip) (.exit 0)) (.seq (.blk 1 (.seq (.r [.i 12 2 8 10,.v 13 2 12,.q 6 (.alloc [.s [],.i .u32 0]),.u (.store 2 (.t 6) (.t 13))]) (.seq (.r [.n 14 0,.v 15 2 6,⟨(some 16),.callV (.t 14) [.t 15],none⟩]) (.cond (.t 16) (.r [.n 17 4,.f 18 0 6,.d 19 18,.f 20 1 6,.d 21 20,.f 22 1 6,.d 23 22,.q 24 (.bin .neq (.t 23) (.c (.i .u32 0))),.q 25 (.build [.s [],.i .u32 0,.b false] [(0,1,(.t 19)),(1,1,(.t 21)),(2,1,(.t 24))]),.l 26 a [.t 25],.q 27 (.buildS 1 [.s []] [(0,1,(.t 26))]),.q 28 (.app 1 16 true (.t 17) (.t 27)),.n 4 28]) (.skip))))) (.r [.a 29 10 1,.n 10 29]))))))) (.seq (.r [.n 30 4,.n 3 30]) (.ret))))⟩
theorem qoU{g1:Nat}(hc:qt P f (j6 g1)=true)(h1:∀c:GCall,c.name.length<=1000000->qe P g1 [.agg (qhU c)] (.s (qbF c))):qb1 P f:=by
 intro g q l hl hn hg;refine qe.mk hc (by simp[qG,clo,qu,qc]) ?_;simp only[j6,qu,vI,simprocAttr];simp only[↓vS,vT,simprocAttr]
 refine SL.loop (α:=Nat) (fun j=>[(0,.fn g [] []),(4,.own 0 (zc q (l.calls.take j)).length),(8,.fz l.calls.length (rC l.calls)),(9,.i .i64 l.calls.length),(10,.i .i64 j)])
  (fun j=>[.cells 1 true true (rS (zc q (l.calls.take j)))]) (fun j=>j<=l.calls.length) (fun j=>l.calls.length-j) 0 [99] ?_ ?_ ?_ rfl ?_ ?_
 ·simp[vw,qc,zc]
 ·simp[vw,qai,zc]
 ·simp
 ·exact Nat.zero_le _
 rintro j hj G ih;simp only[vI,simprocAttr];have hlen:=qbb q (l.calls.take j);rw[List.length_take,Nat.min_eq_left hj] at hlen
 by_cases hlt:j<l.calls.length
 ·have hx:l.calls[j]?=some l.calls[j]:=List.getElem?_eq_getElem hlt;have hw:IntKind.wrap .i64 ((j:Int)+1)=((j+1:Nat):Int):=by rw[qF (by omega) (by omega)];omega
  have he:=qcw hx;have hb:=qbp hlt;have hnc:=hn l.calls[j] (List.getElem_mem hlt);have hnx:=qdm (q:=q) hx;have ih2:=ih (j+1);rw[hnx] at ih2;generalize l.calls[j]=c at he hnc ih2;generalize zc q (l.calls.take j)=A at hlen ih2 ⊢;have hgc:=hg c;have h1c:=h1 c hnc;simp only[zf] at hgc;simp only[qhU] at h1c;have hr1:A.length+1<=qf:=by simp only[qf];omega
  have hr2:(A.length+1)*16<=qf:=by simp only[qf];omega
  have hap:rS A++[AV.s (qbF c)]=rS (A++[qbF c]):=by rw[← x6];rfl
  simp (decide:=true) only [↓vS,vT,simprocAttr,hlt,he,hb,zf];refine hgc.sc ?_;cases hq:q c with
  | false =>
   rw[hq,if_neg (by decide),List.append_nil] at ih2;simp (decide:=true) only [↓vS,vT,simprocAttr,hw];refine ih2 (by omega) (by omega) _ _ (Wk.mk _ _ [0] ?_ ?_ ?_ rfl)
   ·simp[vw,qc]
   ·simp[vw,qh,qa]
   ·simp
  | true =>
   rw[hq,if_pos rfl] at ih2
   by_cases ha:c.act=0
   ·have hd:decide (c.act≠0)=false:=by simp[ha]
    rw[hd,ha] at h1c;simp (decide:=true) only [↓vS,vT,simprocAttr,ha];refine h1c.sc ?_;simp (decide:=true) only [↓vS,vT,simprocAttr,hr1,hr2,zX,hap,hw,Nat.mul_one];refine ih2 (by omega) (by omega) _ _ (Wk.mk _ _ [3] ?_ ?_ ?_ rfl)
    ·simp[vw,qc]
    ·simp[vw,qh,qa]
    ·simp
   ·have hd:decide (c.act≠0)=true:=by simp[ha]
    rw[hd] at h1c;simp (decide:=true) only [↓vS,vT,simprocAttr,ha];refine h1c.sc ?_;simp (decide:=true) only [↓vS,vT,simprocAttr,hr1,hr2,zX,hap,hw,Nat.mul_one];refine ih2 (by omega) (by omega) _ _ (Wk.mk _ _ [3] ?_ ?_ ?_ rfl)
    ·simp[vw,qc]
    ·simp[vw,qh,qa]
    ·simp
 ·have hjl:l.calls.take j=l.calls:=List.take_of_length_le (by omega);rw[hjl];clear ih;simp (decide:=true) only [↓vS,vT,simprocAttr,hlt];simp[vZ,vP,Tr.get_set,qI qa]
  try (intro h0;rw[h0];rfl)
end Go.Kc
end
section
/- policy's writer: a list's lines. Condition: the functions' texts are these. -/
namespace Go.Kc
variable {P:Program} {f:Nat}
def zd:List UInt8:=[114,101,97,100]
def qA(_:GCall):Bool:=true
def qR(c:GCall):Bool:=decide (c.name=zd)&&decide (c.act=0)
def qO(c:GCall):Bool:=!decide (c.name=zd)&&decide (c.act=0)
def qW(c:GCall):Bool:=decide (c.act≠0)
def j7:IFn:=⟨[.tmp 2],.seq (.r [.q 1 (.box (.t 0)),.m 2 .F]) (.seq (.r [.m 2 .T]) (.ret))⟩
theorem qwg(hc:qt P f j7=true)(c:GCall):qe P f [.agg (zf c)] (.b (qA c)):=by
 refine qe.mk hc rfl ?_;simp only[j7,zf,vI,simprocAttr];simp only[↓vS,vT,simprocAttr];simp[vZ,qA]
def j8:IFn:=⟨[.tmp 2],.seq (.r [.q 1 (.box (.t 0)),.m 2 .F]) (.seq (.r [.f 3 0 1,.d 4 3,.q 5 (.bin .eql (.t 4) (.c (.s [114,101,97,100]))),.n 6 5,.h 7 1 1 6 true,.j 8 7 6 true,.g 9 (.bin .eql (.t 8) (.c (.i .u32 0))) 6 true,.p 10 6 9,.n 2 10]) (.ret))⟩
theorem qwh(hc:qt P f j8=true)(c:GCall):qe P f [.agg (zf c)] (.b (qR c)):=by
 refine qe.mk hc rfl ?_;simp only[j8,zf,vI,simprocAttr]
 by_cases h1:c.name=[114,101,97,100]
 ·by_cases h2:c.act=0 <;>
  ·simp (decide:=true) only [↓vS,vT,simprocAttr,h1,h2];simp[vZ,qR,zd,h1,h2]
 ·simp (decide:=true) only [↓vS,vT,simprocAttr,h1];simp[vZ,qR,zd,h1]
def j9:IFn:=⟨[.tmp 2],.seq (.r [.q 1 (.box (.t 0)),.m 2 .F]) (.seq (.r [.f 3 0 1,.d 4 3,.q 5 (.bin .neq (.t 4) (.c (.s [114,101,97,100]))),.n 6 5,.h 7 1 1 6 true,.j 8 7 6 true,.g 9 (.bin .eql (.t 8) (.c (.i .u32 0))) 6 true,.p 10 6 9,.n 2 10]) (.ret))⟩
theorem qwi(hc:qt P f j9=true)(c:GCall):qe P f [.agg (zf c)] (.b (qO c)):=by
 refine qe.mk hc rfl ?_;simp only[j9,zf,vI,simprocAttr]
 by_cases h1:c.name=[114,101,97,100]
 ·simp (decide:=true) only [↓vS,vT,simprocAttr,h1];simp[vZ,qO,zd,h1]
 ·by_cases h2:c.act=0 <;>
  ·simp (decide:=true) only [↓vS,vT,simprocAttr,h1,h2];simp[vZ,qO,zd,h1,h2]
def wa:IFn:=⟨[.tmp 2],.seq (.r [.q 1 (.box (.t 0)),.m 2 .F]) (.seq (.r [.f 3 1 1,.d 4 3,.q 5 (.bin .neq (.t 4) (.c (.i .u32 0))),.n 2 5]) (.ret))⟩
theorem qwj(hc:qt P f wa=true)(c:GCall):qe P f [.agg (zf c)] (.b (qW c)):=by
 refine qe.mk hc rfl ?_;simp only[wa,zf,vI,simprocAttr]
 by_cases h2:c.act=0 <;>
 ·simp (decide:=true) only [↓vS,vT,simprocAttr,h2];simp[vZ,qW,h2]
def sB0(ls:List (List UInt8)):List Blk:=[.cells 0 true false [.ptr 1 0],.cells 0 true false [.own 2 ls.length],.cells 1 true true (rS ls)]
def sB1(ls:List (List UInt8)):List Blk:=[.cells 0 true false [.ptr 1 0],.cells 0 true false [.own 3 ls.length],.dead,.cells 1 true true (rS ls)]
def qD(a:Nat):IFn:=⟨[],.seq (.r [.n 6 1,.e 7 6,.w 8 .gtr 7 0]) (.cond (.t 8) (.r [.d 9 2,.d 10 3,.n 11 0,.n 12 1,.l 13 a [.t 9,.t 10,.t 11,.t 12]]) (.skip))⟩
theorem qjS{g:Nat}(hc:qt P f (qD g)=true)(k a:List UInt8)(ls:List (List UInt8)):Upd P f [.s a,.fz 0 [],.ptr 0 0,.pf [.s k] 0] (sB0 ls) (.tup []) (sB0 ls):=by
 refine Upd.mk hc (by simp[jV,bnd,sB0,qcj,clo,qG]) (by simp[sB0]) ?_;simp only[qD,sB0,vI,simprocAttr];simp only[↓vS,vT,simprocAttr];intro _;refine⟨[0,1,2],?_⟩;simp[vw,sB0,qh,qa]
 try decide
theorem qiH{g:Nat}(hc:qt P f (qD g)=true)(hg:qbv P g)(k a:List UInt8)(ws ls:List (List UInt8))(hw:ws≠[])(hls:ls.length<=100000)(hok:qbz k a ws) :
  Upd P f [.s a,.fz ws.length (rS ws),.ptr 0 0,.pf [.s k] 0] (sB0 ls) (.tup []) (sB1 (ls++[zj k a ws])):=by
 have hpos:(0:Int)<ws.length:=by have:=List.length_pos_iff.2 hw;omega
 refine Upd.mkd hc (by simp[jV,bnd,sB0,qcj,clo,qG,qa]) (by simp[sB0,sB1]) ?_;simp only[qD,sB0,vI,simprocAttr];simp (decide:=true) only [↓vS,vT,simprocAttr,hpos];refine (hg k a ws ls hls hok).sc (vs:=[.ptr 0 0,.s k,.s a,.fz ws.length (rS ws)]) [1,2] (Lent.of (by decide) ?_) ?_
 ·simp[vL,vw,wB0,ze qa,qv qa]
 simp only[vK,simprocAttr,wB1,qv qa];simp only[↓vS,vT,simprocAttr];intro _;refine⟨[0,1,2,3],?_⟩;simp[vw,sB1,qh,qa,xD,rl];intro b hb;have:b=0∨b=1∨b=2:=by omega
 rcases this with rfl|rfl|rfl<;>rfl
theorem qgy{bs2:List Blk}{h':Hp}{n:Nat}(hw:Wk n (mkT []) h' (mkT []) (mkH 0 bs2)):qjY n (.tup []) bs2 (.tup []) h':=by
 intro _ ρ B w tm ht r;obtain⟨ρ',_,g2,g3⟩:=hw ρ B w tm (fun j v hj=>by simp[mkT] at hj) r
 refine⟨ρ',fun j v hj=>?_,g2,g3⟩
 have h2:=ht j v hj;simp only[mkT,Tr.get_set] at hj;split at hj
 ·cases hj;exact⟨h2.1,h2.2.flat rfl⟩
 ·simp at hj
def qaW(k:List UInt8)(l:GList)(e1 e2:Nat):List (Nat×AV):=[(3,.ptr 3 0),(4,.pf [.s k] 0),(6,.fn e1 [] [.pf (qu l) 0]),(7,.fn e2 [] [.ptr 3 0,.pf [.s k] 0])]
def xf(ls:List (List UInt8)):List Blk:=[.cells 0 true false [.own 2 ls.length],.dead,.cells 1 true true (rS ls),.cells 0 true false [.ptr 0 0]]
def qda(k a:List UInt8)(ws:List (List UInt8)):List (List UInt8):=if ws=[] then [] else [zj k a ws]
structure LOkP (k:List UInt8) (l:GList):Prop where
 k100:k.length<=100
 n:l.calls.length<=1000
 nm:∀c ∈ l.calls,c.name.length<=1000000
 ok:∀(q:GCall->Bool) (a:List UInt8),a.length<=1->qbz k a (zc q l.calls)
def xn(a b c d e g h:Nat):ICode:=.r [.n 37 7,.n 38 6,⟨(some 39),.callV (.t 38) [(.c (.fn h [] []))],none⟩,⟨(some 40),.callV (.t 37) [(.c (.s [126])),.t 39],none⟩]
def xm(a b c d e g h:Nat):ICode:=.seq (.r [.n 33 7,.n 34 6,⟨(some 35),.callV (.t 34) [(.c (.fn g [] []))],none⟩,⟨(some 36),.callV (.t 33) [(.c (.s [])),.t 35],none⟩]) (.cut (xn a b c d e g h))
def xl(a b c d e g h:Nat):ICode:=.seq (.seq (.r [.n 25 6,⟨(some 26),.callV (.t 25) [(.c (.fn e [] []))],none⟩,.e 27 26,.w 28 .eql 27 0]) (.cond (.t 28) (.r [.d 29 3,.d 30 4,.q 31 (.buildS 1 [.s []] [(0,1,(.c (.s [114,101,97,100])))]),⟨(some 32),.callW d [.t 29,.t 30,(.c (.s [126])),.t 31],none⟩]) (.skip))) (.cut (xm a b c d e g h))
def zi(a b c d e g h:Nat):ICode:=.seq (.r [.q 8 (.mkF a [] [.t 5]),.n 6 8]) (.seq (.r [.q 9 (.mkF b [] [.t 3,.t 4]),.n 7 9]) (.seq (.r [.f 10 0 5,.d 11 10]) (.blk 0 (.seq (.r [.q 13 (.bin .eql (.t 11) (.c (.i .u8 2))),.n 12 13]) (.cond (.t 12) (.reg true [.d 14 3,.d 15 4,.n 16 6,⟨(some 17),.callV (.t 16) [(.c (.fn c [] []))],none⟩,⟨(some 18),.callW d [.t 14,.t 15,(.c (.s [126])),.t 17],none⟩]) (.seq (.r [.q 20 (.bin .eql (.t 11) (.c (.i .u8 1))),.n 19 20]) (.cond (.t 19) (.seq (.r [.d 21 3,.d 22 4,.q 23 (.buildS 1 [.s []] [(0,1,(.c (.s [114,101,97,100])))]),⟨(some 24),.callW d [.t 21,.t 22,(.c (.s [])),.t 23],none⟩]) (.cut (xl a b c d e g h))) (.skip))))))))
def qaq(a b c d e g h:Nat):IFn:=⟨[],.seq (.r [.q 3 (.box (.t 0)),.q 4 (.box (.t 1)),.q 5 (.box (.t 2))]) (.cut (zi a b c d e g h))⟩
section
variable {e1 e2 g3 g4 g5 g6 g7:Nat}
theorem qm6{Q:X->Tr AV->Hp->Prop}(h1:qb1 P e1)(h2:qt P e2 (qD g4)=true)(hg:qbv P g4)(h7:∀c,qe P g7 [.agg (zf c)] (.b (qW c)))(k:List UInt8)(l:GList)(hk:LOkP k l)(ls:List (List UInt8))(hls:ls.length<=1000)
  (hQ:∀t' h',Wk 2 (mkT []) h' (mkT []) (mkH 0 (wB1 (ls++qda k [126] (zc qW l.calls))))->Q .normal t' h') {t':Tr AV} {h':Hp} (hw:Wk 2 t' h' (mkT (qaW k l e1 e2)) (mkH 0 (xf ls))) :
  S P 2 (xn e1 e2 g3 g4 g5 g6 g7) Q t' h':=by
 refine S.weak hw (qr ?_);have hE:=h1 g7 qW l (by have:=hk.n;omega) hk.nm h7
 have hok:=hk.ok qW [126] (by simp);have hlen:=qbb qW l.calls;simp only[xn,qaW,xf,vI,simprocAttr];simp only[↓vS,vT,simprocAttr];refine hE.sc ?_;generalize zc qW l.calls=ws at hok hlen hQ ⊢;simp only[↓vS,vT,simprocAttr]
 by_cases he:ws=[]
 ·subst he;simp only[List.length_nil,qai];refine (qjS h2 k [126] ls).sc (vs:=[.s [126],.fz 0 [],.ptr 0 0,.pf [.s k] 0]) [3,0,2] (Lent.of (by decide) ?_) ?_
  ·simp[vL,vw,sB0,ze qa,qv qa]
  simp only[vK,simprocAttr,sB0,qv qa];simp only[↓vS,vT,simprocAttr];refine hQ _ _ (Wk.mkd [] _ [0,1,2] ?_ ?_ ?_ rfl (by simp[wB1]) ?_)
  ·trivial
  ·simp[vw,wB1,qda,qh,qa]
  ·simp[xD,wB1]
  ·intro b hb;have:b=0∨b=1:=by omega
   rcases this with rfl|rfl<;>simp[rl]
 ·refine (qiH h2 hg k [126] ws ls he (by omega) hok).sc (vs:=[.s [126],.fz ws.length (rS ws),.ptr 0 0,.pf [.s k] 0]) [3,0,2] (Lent.of (by decide) ?_) ?_
  ·simp[vL,vw,sB0,ze qa,qv qa]
  simp only[vK,simprocAttr,sB1,qv qa];simp only[↓vS,vT,simprocAttr];refine hQ _ _ (Wk.mkd [] _ [0,1,4] ?_ ?_ ?_ rfl (by simp[wB1]) ?_)
  ·trivial
  ·simp[vw,wB1,qda,he,qh,qa]
  ·simp[xD,wB1]
  ·intro b hb;have:b=0∨b=1:=by omega
   rcases this with rfl|rfl<;>simp[rl]
theorem qgl(k a:List UInt8)(ws:List (List UInt8)):(qda k a ws).length<=1:=by unfold qda;split<;>simp
theorem qm5{Q:X->Tr AV->Hp->Prop}(h1:qb1 P e1)(h2:qt P e2 (qD g4)=true)(hg:qbv P g4)(h6:∀c,qe P g6 [.agg (zf c)] (.b (qO c)))(h7:∀c,qe P g7 [.agg (zf c)] (.b (qW c)))(k:List UInt8)(l:GList)(hk:LOkP k l)(ls:List (List UInt8))(hls:ls.length<=900)
  (hQ:∀t' h',Wk 2 (mkT []) h' (mkT []) (mkH 0 (wB1 (ls++qda k [] (zc qO l.calls)++qda k [126] (zc qW l.calls))))->Q .normal t' h') {t':Tr AV} {h':Hp} (hw:Wk 2 t' h' (mkT (qaW k l e1 e2)) (mkH 0 (xf ls))) :
  S P 2 (xm e1 e2 g3 g4 g5 g6 g7) Q t' h':=by
 refine S.weak hw (qr ?_);have hE:=h1 g6 qO l (by have:=hk.n;omega) hk.nm h6
 have hok:=hk.ok qO [] (by simp);have hlen:=qbb qO l.calls;have hol:=qgl k [] (zc qO l.calls);have tail:=fun {t' h'}=>qm6 (g3:=g3) (g5:=g5) (g6:=g6) h1 h2 hg h7 k l hk (ls++qda k [] (zc qO l.calls)) (by rw[List.length_append];omega) hQ (t':=t') (h':=h')
 simp only[xm,qaW,xf,vI,simprocAttr] at tail ⊢;simp only[↓vS,vT,simprocAttr];refine hE.sc ?_;generalize zc qO l.calls=ws at hok hlen hQ tail ⊢;simp only[↓vS,vT,simprocAttr]
 by_cases he:ws=[]
 ·subst he;simp only[List.length_nil,qai];refine (qjS h2 k [] ls).sc (vs:=[.s [],.fz 0 [],.ptr 0 0,.pf [.s k] 0]) [3,0,2] (Lent.of (by decide) ?_) ?_
  ·simp[vL,vw,sB0,ze qa,qv qa]
  simp only[vK,simprocAttr,sB0,qv qa];simp only[↓vS,vT,simprocAttr];refine tail (Wk.mkd (qaW k l e1 e2) (xf _) [0,1,2,3] ?_ ?_ ?_ rfl (by simp[xf]) ?_)
  ·simp[vw,qaW,xf,clo,qG,qu,qc]
  ·simp[vw,xf,qda,qh,qa]
  ·simp[xD,xf]
  ·intro b hb;have:b=0∨b=1:=by omega
   rcases this with rfl|rfl<;>simp[rl]
 ·refine (qiH h2 hg k [] ws ls he (by omega) hok).sc (vs:=[.s [],.fz ws.length (rS ws),.ptr 0 0,.pf [.s k] 0]) [3,0,2] (Lent.of (by decide) ?_) ?_
  ·simp[vL,vw,sB0,ze qa,qv qa]
  simp only[vK,simprocAttr,sB1,qv qa];simp only[↓vS,vT,simprocAttr];refine tail (Wk.mkd (qaW k l e1 e2) (xf _) [0,1,4,3] ?_ ?_ ?_ rfl (by simp[xf]) ?_)
  ·simp[vw,qaW,xf,clo,qG,qu,qc]
  ·simp[vw,xf,qda,he,qh,qa]
  ·simp[xD,xf]
  ·intro b hb;have:b=0∨b=1:=by omega
   rcases this with rfl|rfl<;>simp[rl]
def qdd(k:List UInt8)(ws:List (List UInt8)):List (List UInt8):=if ws=[] then [zj k [126] [zd]] else []
theorem qjP{k a:List UInt8}(hk:k.length<=100)(ha:a.length<=100):qbz k a [zd]:=⟨hk,ha,by simp,by rw[zm];decide⟩
theorem qm4{Q:X->Tr AV->Hp->Prop}(h1:qb1 P e1)(h2:qt P e2 (qD g4)=true)(hg:qbv P g4)(h5:∀c,qe P g5 [.agg (zf c)] (.b (qR c)))(h6:∀c,qe P g6 [.agg (zf c)] (.b (qO c)))(h7:∀c,qe P g7 [.agg (zf c)] (.b (qW c)))(k:List UInt8)(l:GList)(hk:LOkP k l)(ls:List (List UInt8))(hls:ls.length<=800)
  (hQ:∀t' h',Wk 2 (mkT []) h' (mkT []) (mkH 0 (wB1 (ls++qdd k (zc qR l.calls)++qda k [] (zc qO l.calls)++qda k [126] (zc qW l.calls))))->Q .normal t' h') {t':Tr AV} {h':Hp} (hw:Wk 2 t' h' (mkT (qaW k l e1 e2)) (mkH 0 (xf ls))) :
  S P 2 (xl e1 e2 g3 g4 g5 g6 g7) Q t' h':=by
 refine S.weak hw (qr ?_);have hE:=h1 g5 qR l (by have:=hk.n;omega) hk.nm h5
 have hok:=qjP (a:=[126]) hk.k100 (by simp);have hol:(qdd k (zc qR l.calls)).length<=1:=by unfold qdd;split<;>simp
 have tail:=fun {t' h'}=>qm5 (g3:=g3) (g5:=g5) h1 h2 hg h6 h7 k l hk (ls++qdd k (zc qR l.calls)) (by rw[List.length_append];omega) hQ (t':=t') (h':=h')
 simp only[xl,qaW,xf,vI,simprocAttr] at tail ⊢;simp only[↓vS,vT,simprocAttr];refine hE.sc ?_;generalize zc qR l.calls=ws at hQ tail ⊢;simp only[↓vS,vT,simprocAttr]
 by_cases he:ws=[]
 ·subst he;simp (decide:=true) only [↓vS,vT,simprocAttr,List.length_nil,qai];refine SC.give (vs':=[.ptr 0 0,.s k,.s [126],.fz 1 (rS [zd])]) [(4,.cells 0 true false [.s zd])] ?_ ?_ ?_
  ·intro q hq;simp at hq;subst hq;simp[Tr.get_set,zd]
  ·refine .keep _ _ _ (.keep _ _ _ (.keep _ _ _ (.fz _ _ _ _ (.cut 1 rfl (Nat.le_refl _) ?_) .nil)));simp[vw,trP,rS,zd]
  simp only[qdr,qc6,qdn];refine (hg k [126] [zd] ls (by omega) hok).sc (vs:=[.ptr 0 0,.s k,.s [126],.fz 1 (rS [zd])]) [0,2] (Lent.of (by decide) ?_) ?_
  ·simp[vL,vw,wB0,ze qa,qv qa]
  simp only[vK,simprocAttr,wB1,qv qa];simp only[↓vS,vT,simprocAttr];refine tail (Wk.mkd (qaW k l e1 e2) (xf _) [0,1,5,3] ?_ ?_ ?_ rfl (by simp[xf]) ?_)
  ·simp[vw,qaW,xf,clo,qG,qu,qc]
  ·simp[vw,xf,qdd,qh,qa]
  ·simp[xD,xf]
  ·intro b hb;have:b=0∨b=1:=by omega
   rcases this with rfl|rfl<;>simp[rl]
 ·have hn:¬(ws.length:Int)=0:=fun h=>he (List.eq_nil_of_length_eq_zero (by omega))
  simp (decide:=true) only [↓vS,vT,simprocAttr,hn];refine tail (Wk.mkd (qaW k l e1 e2) (xf _) [0,1,2,3] ?_ ?_ ?_ rfl (by simp[xf]) ?_)
  ·simp[vw,qaW,xf,clo,qG,qu,qc]
  ·simp[vw,xf,qdd,he,qh,qa]
  ·simp[xD,xf]
  ·intro b hb;have:b=0∨b=1:=by omega
   rcases this with rfl|rfl<;>simp[rl]
def xr(k:List UInt8)(l:GList):List (List UInt8) :=
 if l.mode=2 then [zj k [126] (zc qA l.calls)]
 else if l.mode=1 then [zj k [] [zd]]++qdd k (zc qR l.calls)++qda k [] (zc qO l.calls)++qda k [126] (zc qW l.calls)
 else []
theorem qpB(h1:qb1 P e1)(h2:qt P e2 (qD g4)=true)(h3:∀c,qe P g3 [.agg (zf c)] (.b (qA c)))(hg:qbv P g4)(h5:∀c,qe P g5 [.agg (zf c)] (.b (qR c)))(h6:∀c,qe P g6 [.agg (zf c)] (.b (qO c)))(h7:∀c,qe P g7 [.agg (zf c)] (.b (qW c)))(k:List UInt8)(l:GList)(hk:LOkP k l)(ls:List (List UInt8))(hls:ls.length<=700)
  {t':Tr AV} {h':Hp} (hw:Wk 2 t' h' (mkT [(3,.ptr 2 0),(4,.pf [.s k] 0),(5,.pf (qu l) 0)]) (mkH 0 [.cells 0 true false [.own 1 ls.length],.cells 1 true true (rS ls),.cells 0 true false [.ptr 0 0]])) :
  S P 2 (zi e1 e2 g3 g4 g5 g6 g7) (jD [] (qjY 2 (.tup []) (wB1 (ls++xr k l)))) t' h':=by
 refine S.weak hw (qr ?_)
 by_cases m2:l.mode=2
 ·have hE:=h1 g3 qA l (by have:=hk.n;omega) hk.nm h3
  have hok:=hk.ok qA [126] (by simp);have hM:xr k l=[zj k [126] (zc qA l.calls)]:=by unfold xr;rw[if_pos m2]
  rw[hM];simp only[zi,qu,vI,simprocAttr] at hE ⊢;simp (decide:=true) only [↓vS,vT,simprocAttr,m2] at hE ⊢;refine xb ?_;simp (decide:=true) only [↓vS,vT,simprocAttr];refine hE.pc ?_;generalize zc qA l.calls=ws at hok ⊢;simp (decide:=true) only [↓vS,vT,simprocAttr];simp only[qqR,qju];refine (hg k [126] ws ls (by omega) hok).pc (vs:=[.ptr 0 0,.s k,.s [126],.fz ws.length (rS ws)]) [0,1] (Lent.of (by decide) ?_) ?_
  ·simp[vL,vw,wB0,ze qa,qv qa]
  simp only[vK,simprocAttr,wB1,qv qa];simp (decide:=true) only [↓vS,vT,simprocAttr];refine qgy (Wk.mkd [] _ [0,1,3] ?_ ?_ ?_ rfl (by simp) ?_)
  ·trivial
  ·simp[vw,qh,qa]
  ·simp[xD]
  ·intro b hb;have:b=0∨b=1:=by omega
   rcases this with rfl|rfl<;>simp[rl]
 ·by_cases m1:l.mode=1
  ·have hok:=qjP (a:=[]) hk.k100 (by simp);have hM:xr k l=[zj k [] [zd]]++qdd k (zc qR l.calls)++qda k [] (zc qO l.calls)++qda k [126] (zc qW l.calls):=by unfold xr;rw[if_neg m2,if_pos m1]
   rw[hM];have tail:=fun {Q:X->Tr AV->Hp->Prop} {t' h'} hQ=>qm4 (g3:=g3) (Q:=Q) h1 h2 hg h5 h6 h7 k l hk (ls++[zj k [] [zd]]) (by simp;omega) hQ (t':=t') (h':=h')
   simp only[zi,qu,vI,simprocAttr];simp (decide:=true) only [↓vS,vT,simprocAttr,m2,m1];refine SC.give (vs':=[.ptr 0 0,.s k,.s [],.fz 1 (rS [zd])]) [(3,.cells 0 true false [.s zd])] ?_ ?_ ?_
   ·intro q hq;simp at hq;subst hq;simp[Tr.get_set,zd]
   ·refine .keep _ _ _ (.keep _ _ _ (.keep _ _ _ (.fz _ _ _ _ (.cut 1 rfl (Nat.le_refl _) ?_) .nil)));simp[vw,trP,rS,zd]
   simp only[qdr,qc6,qdn];refine (hg k [] [zd] ls (by omega) hok).sc (vs:=[.ptr 0 0,.s k,.s [],.fz 1 (rS [zd])]) [0,1] (Lent.of (by decide) ?_) ?_
   ·simp[vL,vw,wB0,ze qa,qv qa]
   simp only[vK,simprocAttr,wB1,qv qa];simp only[↓vS,vT,simprocAttr];refine tail ?_ (Wk.mkd (qaW k l e1 e2) (xf _) [0,1,4,2] ?_ ?_ ?_ rfl (by simp[xf]) ?_)
   ·intro t' h' hw;simp only[List.append_assoc] at hw ⊢;exact qgy hw
   ·simp[vw,qaW,xf,clo,qG,qu,qc,m1]
   ·simp[vw,xf,qh,qa]
   ·simp[xD,xf]
   ·intro b hb;have:b=0∨b=1:=by omega
    rcases this with rfl|rfl<;>simp[rl]
  ·have hM:xr k l=[]:=by unfold xr;rw[if_neg m2,if_neg m1]
   rw[hM,List.append_nil];simp only[zi,qu,vI,simprocAttr];simp (decide:=true) only [↓vS,vT,simprocAttr,m2,m1];refine qgy (Wk.mkd [] _ [0,1,1] ?_ ?_ ?_ rfl (by simp[wB1]) ?_)
   ·trivial
   ·simp[vw,wB1,qh,qa]
   ·simp[xD,wB1]
   ·intro b hb;have:b=0∨b=1:=by omega
    rcases this with rfl|rfl<;>simp[rl]
def qhf(P:Program)(f:Nat):Prop:=∀(k:List UInt8) (l:GList) (ls:List (List UInt8)),LOkP k l->ls.length<=700->Upd P f [.ptr 0 0,.s k,.agg (qu l)] (wB0 ls) (.tup []) (wB1 (ls++xr k l))
theorem qvd(hc:qt P f (qaq e1 e2 g3 g4 g5 g6 g7)=true)(h1:qb1 P e1)(h2:qt P e2 (qD g4)=true)(h3:∀c,qe P g3 [.agg (zf c)] (.b (qA c)))(hg:qbv P g4)(h5:∀c,qe P g5 [.agg (zf c)] (.b (qR c)))(h6:∀c,qe P g6 [.agg (zf c)] (.b (qO c)))(h7:∀c,qe P g7 [.agg (zf c)] (.b (qW c))):qhf P f:=by
 intro k l ls hk hls;refine Upd.mkS hc (by simp[jV,bnd,wB0,qcj,clo,qG,qu,qc]) (by simp[wB0,wB1]) (qr ?_);simp only[qaq,wB0,qu,vI,simprocAttr];simp (decide:=true) only [↓vS,vT,simprocAttr];refine S.weak (Wk.mkn [(3,.ptr 2 0),(4,.ptr 3 0),(5,.ptr 4 0)] [.cells 0 true false [.own 1 ls.length],.cells 1 true true (rS ls),.cells 0 true false [.ptr 0 0],.cells 0 true false [.s k],.cells 0 true false (qu l)] [0,1,2,3,4] ?_ ?_ ?_ rfl (by simp) ?_) ?_
 ·simp[vw]
 ·simp[vw,qu,qh,qa,qc]
 ·simp
 ·intro b hb;have hb':b<2:=hb;have:b=0∨b=1:=by omega
  rcases this with rfl|rfl<;>rfl
 refine S.weak (Wk.freeze 3 1 0 rfl (by simp[qG,clo]) (by simp) (by simp)) ?_;refine S.weak (Wk.freeze 4 2 0 rfl (by simp[qG,clo,qu,fzv,qbM,qc]) (by simp) (by simp[fzB])) ?_;refine qpB h1 h2 h3 hg h5 h6 h7 k l hk ls hls (Wk.mkn _ _ [0,1,2] ?_ ?_ ?_ rfl (by simp) ?_)
 ·simp[vw,mkT,fzv,qbM,qu]
 ·simp[vw,mkH,trL,fzB,qbM,fzv,qib qa,qh,qa]
 ·simp[mkH]
 ·intro b hb;have:b=0∨b=1:=by omega
  rcases this with rfl|rfl<;>rfl
end
end Go.Kc
end
