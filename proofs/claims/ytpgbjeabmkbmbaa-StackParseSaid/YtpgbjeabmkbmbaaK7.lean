/- Part 7 of the abstract machine and of the functions' walks. Conditions: with each theorem. -/
import Derived.Test.YtpgbjeabmkbmbaaK6
set_option linter.unusedSimpArgs false
set_option linter.unusedVariables false
set_option linter.unnecessarySimpa false
section
/- Codes of instructions: the program's table. Condition: the functions' texts are these. -/
namespace Go.Kc
variable {P:Program} {f:Nat}
def zZ(x:Int×List UInt8×Int):List AV:=[.i .u16 x.1,.s x.2.1,.i .u8 x.2.2]
theorem kU(x:Int×List UInt8×Int):(zZ x).length=3:=rfl
def xm:List (Int×List UInt8×Int):=[(32,[108,100,97,98,115],1),(128,[108,100,108,101,110],1),(0,[108,100,105],1),(96,[108,100,109],1),(129,[108,100,120,108,101,110],1),(1,[108,100,120,105],1),(97,[108,100,120,109],1),(2,[115,116],2),(3,[115,116,120],2),(4,[97,100,100],3),(20,[115,117,98],3),(36,[109,117,108],3),(52,[100,105,118],3),(68,[111,114],3),(84,[97,110,100],3),(100,[108,115,104],3),(116,[114,115,104],3),(164,[120,111,114],3),(12,[97,100,100,120],3),(28,[115,117,98,120],3),(44,[109,117,108,120],3),(60,[100,105,118,120],3),(76,[111,114,120],3),(92,[97,110,100,120],3),(108,[108,115,104,120],3),(124,[114,115,104,120],3),(172,[120,111,114,120],3),(132,[110,101,103],3),(5,[106,97],4),(21,[106,101,113],4),(37,[106,103,116],4),(53,[106,103,101],4),(69,[106,115,101,116],4),(29,[106,101,113,120],4),(45,[106,103,116,120],4),(61,[106,103,101,120],4),(77,[106,115,101,116,120],4),(6,[114,101,116],5),(22,[114,101,116,97],5),(7,[116,97,120],6),(135,[116,120,97],6)]
def xF:List (Int×List UInt8×Int):=[(32,[108,100,97,98,115],1),(128,[108,100,108,101,110],1),(0,[108,100,105],1),(96,[108,100,109],1),(129,[108,100,120,108,101,110],1),(1,[108,100,120,105],1),(97,[108,100,120,109],1),(2,[115,116],2),(3,[115,116,120],2),(132,[110,101,103],3),(5,[106,97],4),(6,[114,101,116],5),(22,[114,101,116,97],5),(7,[116,97,120],6),(135,[116,120,97],6),(4,[97,100,100],3),(12,[97,100,100,120],3),(20,[115,117,98],3),(28,[115,117,98,120],3),(36,[109,117,108],3),(44,[109,117,108,120],3),(52,[100,105,118],3),(60,[100,105,118,120],3),(68,[111,114],3),(76,[111,114,120],3),(84,[97,110,100],3),(92,[97,110,100,120],3),(100,[108,115,104],3),(108,[108,115,104,120],3),(116,[114,115,104],3),(124,[114,115,104,120],3),(164,[120,111,114],3),(172,[120,111,114,120],3),(21,[106,101,113],4),(29,[106,101,113,120],4),(37,[106,103,116],4),(45,[106,103,116,120],4),(53,[106,103,101],4),(61,[106,103,101,120],4),(69,[106,115,101,116],4),(77,[106,115,101,116,120],4)]
def zE:List AV:=[.i .u16 0,.s [],.i .u8 0]
def zV(c:Int):Option (Int×List UInt8×Int):=xm.find? fun x=>decide (x.1=c)
def xU:Option (Int×List UInt8×Int)->List AV
 | some x=>zZ x
 | none=>zE
def qJ(c:Int):Int:=(zV c).elim 0 fun x=>x.2.2
def xI(c:Int):Bool:=(zV c).isSome
def kn:IFn:=⟨[.cell 0 123 true],.seq (.r [.q 0 (.alloc [.i .u16 0,.s [],.i .u8 0,.i .u16 0,.s [],.i .u8 0,.i .u16 0,.s [],.i .u8 0,.i .u16 0,.s [],.i .u8 0,.i .u16 0,.s [],.i .u8 0,.i .u16 0,.s [],.i .u8 0,.i .u16 0,.s [],.i .u8 0,.i .u16 0,.s [],.i .u8 0,.i .u16 0,.s [],.i .u8 0,.i .u16 0,.s [],.i .u8 0,.i .u16 0,.s [],.i .u8 0,.i .u16 0,.s [],.i .u8 0,.i .u16 0,.s [],.i .u8 0,.i .u16 0,.s [],.i .u8 0,.i .u16 0,.s [],.i .u8 0,.i .u16 0,.s [],.i .u8 0,.i .u16 0,.s [],.i .u8 0,.i .u16 0,.s [],.i .u8 0,.i .u16 0,.s [],.i .u8 0,.i .u16 0,.s [],.i .u8 0,.i .u16 0,.s [],.i .u8 0,.i .u16 0,.s [],.i .u8 0,.i .u16 0,.s [],.i .u8 0,.i .u16 0,.s [],.i .u8 0,.i .u16 0,.s [],.i .u8 0,.i .u16 0,.s [],.i .u8 0,.i .u16 0,.s [],.i .u8 0,.i .u16 0,.s [],.i .u8 0,.i .u16 0,.s [],.i .u8 0,.i .u16 0,.s [],.i .u8 0,.i .u16 0,.s [],.i .u8 0,.i .u16 0,.s [],.i .u8 0,.i .u16 0,.s [],.i .u8 0,.i .u16 0,.s [],.i .u8 0,.i .u16 0,.s [],.i .u8 0,.i .u16 0,.s [],.i .u8 0,.i .u16 0,.s [],.i .u8 0,.i .u16 0,.s [],.i .u8 0,.i .u16 0,.s [],.i .u8 0,.i .u16 0,.s [],.i .u8 0,.i .u16 0,.s [],.i .u8 0])]) (.seq (.r [.q 1 (.build [.i .u16 0,.s [],.i .u8 0] [(0,1,(.c (.i .u16 32))),(1,1,(.c (.s [108,100,97,98,115]))),(2,1,(.c (.i .u8 1)))]),.q 2 (.build [.i .u16 0,.s [],.i .u8 0] [(0,1,(.c (.i .u16 128))),(1,1,(.c (.s [108,100,108,101,110]))),(2,1,(.c (.i .u8 1)))]),.q 3 (.build [.i .u16 0,.s [],.i .u8 0] [(0,1,(.c (.i .u16 0))),(1,1,(.c (.s [108,100,105]))),(2,1,(.c (.i .u8 1)))]),.q 4 (.build [.i .u16 0,.s [],.i .u8 0] [(0,1,(.c (.i .u16 96))),(1,1,(.c (.s [108,100,109]))),(2,1,(.c (.i .u8 1)))]),.q 5 (.build [.i .u16 0,.s [],.i .u8 0] [(0,1,(.c (.i .u16 129))),(1,1,(.c (.s [108,100,120,108,101,110]))),(2,1,(.c (.i .u8 1)))]),.q 6 (.build [.i .u16 0,.s [],.i .u8 0] [(0,1,(.c (.i .u16 1))),(1,1,(.c (.s [108,100,120,105]))),(2,1,(.c (.i .u8 1)))]),.q 7 (.build [.i .u16 0,.s [],.i .u8 0] [(0,1,(.c (.i .u16 97))),(1,1,(.c (.s [108,100,120,109]))),(2,1,(.c (.i .u8 1)))]),.q 8 (.build [.i .u16 0,.s [],.i .u8 0] [(0,1,(.c (.i .u16 2))),(1,1,(.c (.s [115,116]))),(2,1,(.c (.i .u8 2)))]),.q 9 (.build [.i .u16 0,.s [],.i .u8 0] [(0,1,(.c (.i .u16 3))),(1,1,(.c (.s [115,116,120]))),(2,1,(.c (.i .u8 2)))]),.q 10 (.build [.i .u16 0,.s [],.i .u8 0] [(0,1,(.c (.i .u16 4))),(1,1,(.c (.s [97,100,100]))),(2,1,(.c (.i .u8 3)))]),.q 11 (.build [.i .u16 0,.s [],.i .u8 0] [(0,1,(.c (.i .u16 20))),(1,1,(.c (.s [115,117,98]))),(2,1,(.c (.i .u8 3)))]),.q 12 (.build [.i .u16 0,.s [],.i .u8 0] [(0,1,(.c (.i .u16 36))),(1,1,(.c (.s [109,117,108]))),(2,1,(.c (.i .u8 3)))]),.q 13 (.build [.i .u16 0,.s [],.i .u8 0] [(0,1,(.c (.i .u16 52))),(1,1,(.c (.s [100,105,118]))),(2,1,(.c (.i .u8 3)))]),.q 14 (.build [.i .u16 0,.s [],.i .u8 0] [(0,1,(.c (.i .u16 68))),(1,1,(.c (.s [111,114]))),(2,1,(.c (.i .u8 3)))]),.q 15 (.build [.i .u16 0,.s [],.i .u8 0] [(0,1,(.c (.i .u16 84))),(1,1,(.c (.s [97,110,100]))),(2,1,(.c (.i .u8 3)))]),.q 16 (.build [.i .u16 0,.s [],.i .u8 0] [(0,1,(.c (.i .u16 100))),(1,1,(.c (.s [108,115,104]))),(2,1,(.c (.i .u8 3)))]),.q 17 (.build [.i .u16 0,.s [],.i .u8 0] [(0,1,(.c (.i .u16 116))),(1,1,(.c (.s [114,115,104]))),(2,1,(.c (.i .u8 3)))]),.q 18 (.build [.i .u16 0,.s [],.i .u8 0] [(0,1,(.c (.i .u16 164))),(1,1,(.c (.s [120,111,114]))),(2,1,(.c (.i .u8 3)))]),.q 19 (.build [.i .u16 0,.s [],.i .u8 0] [(0,1,(.c (.i .u16 12))),(1,1,(.c (.s [97,100,100,120]))),(2,1,(.c (.i .u8 3)))]),.q 20 (.build [.i .u16 0,.s [],.i .u8 0] [(0,1,(.c (.i .u16 28))),(1,1,(.c (.s [115,117,98,120]))),(2,1,(.c (.i .u8 3)))]),.q 21 (.build [.i .u16 0,.s [],.i .u8 0] [(0,1,(.c (.i .u16 44))),(1,1,(.c (.s [109,117,108,120]))),(2,1,(.c (.i .u8 3)))]),.q 22 (.build [.i .u16 0,.s [],.i .u8 0] [(0,1,(.c (.i .u16 60))),(1,1,(.c (.s [100,105,118,120]))),(2,1,(.c (.i .u8 3)))]),.q 23 (.build [.i .u16 0,.s [],.i .u8 0] [(0,1,(.c (.i .u16 76))),(1,1,(.c (.s [111,114,120]))),(2,1,(.c (.i .u8 3)))]),.q 24 (.build [.i .u16 0,.s [],.i .u8 0] [(0,1,(.c (.i .u16 92))),(1,1,(.c (.s [97,110,100,120]))),(2,1,(.c (.i .u8 3)))]),.q 25 (.build [.i .u16 0,.s [],.i .u8 0] [(0,1,(.c (.i .u16 108))),(1,1,(.c (.s [108,115,104,120]))),(2,1,(.c (.i .u8 3)))]),.q 26 (.build [.i .u16 0,.s [],.i .u8 0] [(0,1,(.c (.i .u16 124))),(1,1,(.c (.s [114,115,104,120]))),(2,1,(.c (.i .u8 3)))]),.q 27 (.build [.i .u16 0,.s [],.i .u8 0] [(0,1,(.c (.i .u16 172))),(1,1,(.c (.s [120,111,114,120]))),(2,1,(.c (.i .u8 3)))]),.q 28 (.build [.i .u16 0,.s [],.i .u8 0] [(0,1,(.c (.i .u16 132))),(1,1,(.c (.s [110,101,103]))),(2,1,(.c (.i .u8 3)))]),.q 29 (.build [.i .u16 0,.s [],.i .u8 0] [(0,1,(.c (.i .u16 5))),(1,1,(.c (.s [106,97]))),(2,1,(.c (.i .u8 4)))]),.q 30 (.build [.i .u16 0,.s [],.i .u8 0] [(0,1,(.c (.i .u16 21))),(1,1,(.c (.s [106,101,113]))),(2,1,(.c (.i .u8 4)))]),.q 31 (.build [.i .u16 0,.s [],.i .u8 0] [(0,1,(.c (.i .u16 37))),(1,1,(.c (.s [106,103,116]))),(2,1,(.c (.i .u8 4)))]),.q 32 (.build [.i .u16 0,.s [],.i .u8 0] [(0,1,(.c (.i .u16 53))),(1,1,(.c (.s [106,103,101]))),(2,1,(.c (.i .u8 4)))]),.q 33 (.build [.i .u16 0,.s [],.i .u8 0] [(0,1,(.c (.i .u16 69))),(1,1,(.c (.s [106,115,101,116]))),(2,1,(.c (.i .u8 4)))]),.q 34 (.build [.i .u16 0,.s [],.i .u8 0] [(0,1,(.c (.i .u16 29))),(1,1,(.c (.s [106,101,113,120]))),(2,1,(.c (.i .u8 4)))]),.q 35 (.build [.i .u16 0,.s [],.i .u8 0] [(0,1,(.c (.i .u16 45))),(1,1,(.c (.s [106,103,116,120]))),(2,1,(.c (.i .u8 4)))]),.q 36 (.build [.i .u16 0,.s [],.i .u8 0] [(0,1,(.c (.i .u16 61))),(1,1,(.c (.s [106,103,101,120]))),(2,1,(.c (.i .u8 4)))]),.q 37 (.build [.i .u16 0,.s [],.i .u8 0] [(0,1,(.c (.i .u16 77))),(1,1,(.c (.s [106,115,101,116,120]))),(2,1,(.c (.i .u8 4)))]),.q 38 (.build [.i .u16 0,.s [],.i .u8 0] [(0,1,(.c (.i .u16 6))),(1,1,(.c (.s [114,101,116]))),(2,1,(.c (.i .u8 5)))]),.q 39 (.build [.i .u16 0,.s [],.i .u8 0] [(0,1,(.c (.i .u16 22))),(1,1,(.c (.s [114,101,116,97]))),(2,1,(.c (.i .u8 5)))]),.q 40 (.build [.i .u16 0,.s [],.i .u8 0] [(0,1,(.c (.i .u16 7))),(1,1,(.c (.s [116,97,120]))),(2,1,(.c (.i .u8 6)))]),.q 41 (.build [.i .u16 0,.s [],.i .u8 0] [(0,1,(.c (.i .u16 135))),(1,1,(.c (.s [116,120,97]))),(2,1,(.c (.i .u8 6)))]),.q 42 (.build [.i .u16 0,.s [],.i .u8 0,.i .u16 0,.s [],.i .u8 0,.i .u16 0,.s [],.i .u8 0,.i .u16 0,.s [],.i .u8 0,.i .u16 0,.s [],.i .u8 0,.i .u16 0,.s [],.i .u8 0,.i .u16 0,.s [],.i .u8 0,.i .u16 0,.s [],.i .u8 0,.i .u16 0,.s [],.i .u8 0,.i .u16 0,.s [],.i .u8 0,.i .u16 0,.s [],.i .u8 0,.i .u16 0,.s [],.i .u8 0,.i .u16 0,.s [],.i .u8 0,.i .u16 0,.s [],.i .u8 0,.i .u16 0,.s [],.i .u8 0,.i .u16 0,.s [],.i .u8 0,.i .u16 0,.s [],.i .u8 0,.i .u16 0,.s [],.i .u8 0,.i .u16 0,.s [],.i .u8 0,.i .u16 0,.s [],.i .u8 0,.i .u16 0,.s [],.i .u8 0,.i .u16 0,.s [],.i .u8 0,.i .u16 0,.s [],.i .u8 0,.i .u16 0,.s [],.i .u8 0,.i .u16 0,.s [],.i .u8 0,.i .u16 0,.s [],.i .u8 0,.i .u16 0,.s [],.i .u8 0,.i .u16 0,.s [],.i .u8 0,.i .u16 0,.s [],.i .u8 0,.i .u16 0,.s [],.i .u8 0,.i .u16 0,.s [],.i .u8 0,.i .u16 0,.s [],.i .u8 0,.i .u16 0,.s [],.i .u8 0,.i .u16 0,.s [],.i .u8 0,.i .u16 0,.s [],.i .u8 0,.i .u16 0,.s [],.i .u8 0,.i .u16 0,.s [],.i .u8 0,.i .u16 0,.s [],.i .u8 0,.i .u16 0,.s [],.i .u8 0,.i .u16 0,.s [],.i .u8 0,.i .u16 0,.s [],.i .u8 0] [(0,3,(.t 1)),(3,3,(.t 2)),(6,3,(.t 3)),(9,3,(.t 4)),(12,3,(.t 5)),(15,3,(.t 6)),(18,3,(.t 7)),(21,3,(.t 8)),(24,3,(.t 9)),(27,3,(.t 10)),(30,3,(.t 11)),(33,3,(.t 12)),(36,3,(.t 13)),(39,3,(.t 14)),(42,3,(.t 15)),(45,3,(.t 16)),(48,3,(.t 17)),(51,3,(.t 18)),(54,3,(.t 19)),(57,3,(.t 20)),(60,3,(.t 21)),(63,3,(.t 22)),(66,3,(.t 23)),(69,3,(.t 24)),(72,3,(.t 25)),(75,3,(.t 26)),(78,3,(.t 27)),(81,3,(.t 28)),(84,3,(.t 29)),(87,3,(.t 30)),(90,3,(.t 31)),(93,3,(.t 32)),(96,3,(.t 33)),(99,3,(.t 34)),(102,3,(.t 35)),(105,3,(.t 36)),(108,3,(.t 37)),(111,3,(.t 38)),(114,3,(.t 39)),(117,3,(.t 40)),(120,3,(.t 41))]),.u (.store 123 (.t 0) (.t 42))]) (.ret))⟩
set_option maxRecDepth 20000 in
theorem qkU(hc:qt P f kn=true):qf P f [] (.agg (xm.flatMap zZ)):=by
 refine qf.mk hc rfl ?_;simp only[kn,vI,simprocAttr];simp only[↓vS,vT,simprocAttr,xm,zZ,List.flatMap_cons,List.flatMap_nil,vZ]
def Qg(a:Nat):IFn:=⟨[.cell 2 3 true,.tmp 3],.seq (.r [.q 2 (.alloc [.i .u16 0,.s [],.i .u8 0]),.m 3 .F]) (.seq (.seq (.r [.l 6 a [],.m 7 (.k 0)]) (.blk 0 (.loop (.seq (.r [.w 8 .lss 7 41]) (.seq (.cond (.t 8) (.skip) (.exit 0)) (.seq (.blk 1 (.seq (.r [.q 9 (.idxA 41 3 true (.t 6) (.t 7)),.q 5 (.alloc [.i .u16 0,.s [],.i .u8 0]),.u (.store 3 (.t 5) (.t 9))]) (.seq (.r [.n 10 0,.v 11 3 5,⟨(some 12),.callV (.t 10) [.t 11],none⟩]) (.cond (.t 12) (.seq (.r [.v 13 3 5,.u (.store 3 (.t 2) (.t 13)),.m 3 .T]) (.ret)) (.skip))))) (.r [.a 14 7 1,.n 7 14]))))))) (.seq (.r [.q 15 (.build [.i .u16 0,.s [],.i .u8 0] []),.u (.store 3 (.t 2) (.t 15)),.m 3 .F]) (.ret)))⟩
theorem qn6{e:Nat}(hc:qt P f (Qg e)=true)(he:qf P e [] (.agg (xm.flatMap zZ))){g:Nat}{a c:List AV}(ha:qw a=true)(hcc:qw c=true)(p:Int×List UInt8×Int->Bool)(hp:∀x ∈ xm,qf P g (a++([.agg (zZ x)]++c)) (.b (p x))) :
  qf P f [.fn g a c] (.tup [.agg (xU (xm.find? p)),.b (xm.find? p).isSome]):=by
 refine qf.mk hc (by simp[qw,clo,ha,hcc]) ?_;simp only[Qg,vI,simprocAttr];simp only[↓vS,vT,simprocAttr];refine he.sc ?_;simp only[↓vS,vT,simprocAttr];have hlen:(xm.flatMap zZ).length=123:=by rw[xL (m:=3) kU];rfl
 have hTc:qw (xm.flatMap zZ)=true:=rfl;refine SL.loop (α:=Nat) (fun j=>[(0,.fn g a c),(2,.ptr 0 0),(6,.agg (xm.flatMap zZ)),(7,.i .i64 j)]) (fun _=>[.cells 0 true false zE]) (fun j=>j<=41∧xm.find? p=(xm.drop j).find? p) (fun j=>41-j) 0 [0] ?_ ?_ ?_ rfl ?_ ?_
 ·generalize xm.flatMap zZ=T at hTc;simp[vw,qd,hTc,ha,hcc]
 ·simp[vw,zE]
 ·simp
 ·exact⟨Nat.zero_le _,rfl⟩
 rintro j ⟨hj,hI⟩ G ih;simp only[vI,simprocAttr]
 by_cases hlt:j<41
 ·have hlt':(j:Int)<41:=by omega
  have hjl:j<xm.length:=hlt;have hx:xm[j]?=some xm[j]:=List.getElem?_eq_getElem hjl;have hw:IntKind.wrap .i64 ((j:Int)+1)=((j+1:Nat):Int):=by rw[qo (by omega) (by omega)];omega
  have hel:=z5 (f:=zZ) (m:=3) kU hx;have hb:j*3+3<=(xm.flatMap zZ).length:=by omega
  have hpx:=hp _ (List.getElem_mem hjl);rw[List.drop_eq_getElem_cons hjl,List.find?_cons] at hI;generalize hc0:xm[j]=x at hel hI hpx;generalize hT:xm.flatMap zZ=T at hel hb hlen hTc;simp only[zZ] at hpx;simp only[↓vS,vT,simprocAttr,hlt',hlt,hel,hb,zZ,zE];refine hpx.sc ?_;cases hs:p x with
  | true =>
   rw[hs] at hI;simp (decide:=true) only [↓vS,vT,simprocAttr];rw[hI];simp[vZ,xU,zZ]
  | false =>
   rw[hs] at hI;simp (decide:=true) only [↓vS,vT,simprocAttr,hw];refine ih (j+1) ⟨hlt,hI⟩ (by omega) _ _ (Wk.mk _ _ [0] ?_ ?_ ?_ rfl)
   ·rw[hT];simp[vw,qd,hTc,ha,hcc]
   ·simp[vw,zE]
   ·simp
 ·have hj':j=41:=by omega
  subst hj';have hlt':¬(((41:Nat):Int)<41):=by decide
  have hI':xm.find? p=none:=hI;clear ih;generalize xm.flatMap zZ=T;simp (decide:=true) only [↓vS,vT,simprocAttr,hlt',zE];rw[hI'];simp[vZ,xU,zE]
def Qe:IFn:=⟨[.tmp 3],.seq (.r [.q 2 (.box (.t 0)),.m 3 .F]) (.seq (.r [.f 4 0 2,.d 5 4,.d 6 1,.b 7 .eql 5 6,.n 3 7]) (.ret))⟩
theorem qo9(hc:qt P f Qe=true)(x:Int×List UInt8×Int)(n:Int):qf P f [.agg (zZ x),.pf [.i .u16 n] 0] (.b (decide (x.1=n))):=by
 refine qf.mk hc (by simp[qw,clo,zZ]) ?_;simp only[Qe,zZ,vI,simprocAttr];simp only[↓vS,vT,simprocAttr,vZ]
def qaK(a b:Nat):IFn:=⟨[.cell 2 3 true,.tmp 3],.seq (.r [.q 1 (.box (.t 0)),.q 2 (.alloc [.i .u16 0,.s [],.i .u8 0]),.m 3 .F]) (.seq (.r [.q 4 (.mkF a [] [.t 1]),.l 5 b [.t 4],.x 6 5 0,.x 7 5 1,.u (.store 3 (.t 2) (.t 6)),.n 3 7]) (.ret))⟩
theorem qpZ{g1 g2:Nat}(hc:qt P f (qaK g1 g2)=true)(h1:∀x n,qf P g1 [.agg (zZ x),.pf [.i .u16 n] 0] (.b (decide (x.1=n))))(h2:∀(g:Nat) (a c:List AV),qw a=true->qw c=true->∀p:Int×List UInt8×Int->Bool,(∀x ∈ xm,qf P g (a++([.agg (zZ x)]++c)) (.b (p x)))->qf P g2 [.fn g a c] (.tup [.agg (xU (xm.find? p)),.b (xm.find? p).isSome]))(n:Int) :
  qf P f [.i .u16 n] (.tup [.agg (xU (zV n)),.b (xI n)]):=by
 refine qf.mk hc rfl ?_;have h:=h2 g1 [] [.pf [.i .u16 n] 0] rfl rfl (fun x=>decide (x.1=n)) (fun x _=>h1 x n)
 unfold xI zV;have hce:qw (xU (xm.find? fun x=>decide (x.1=n)))=true∧(xU (xm.find? fun x=>decide (x.1=n))).length=3:=by cases xm.find? fun x=>decide (x.1=n)<;>exact⟨rfl,rfl⟩
 generalize (xm.find? fun x=>decide (x.1=n))=o at h hce ⊢
 simp only[qaK,vI,simprocAttr];simp only[↓vS,vT,simprocAttr];refine (h.lend (vs':=[.fn g1 [] [.pf [.i .u16 n] 0]]) ?_ ?_ ?_)
 ·simp[vZ,vP,Tr.get_set]
 ·cases o<;>rfl
 cases o with
 | none =>
  simp (decide:=true) only [↓vS,vT,simprocAttr,xU,zE];simp[vZ]
 | some x =>
  simp (decide:=true) only [↓vS,vT,simprocAttr,xU,zZ];simp[vZ]
def qaJ(a:Nat):IFn:=⟨[.tmp 2],.seq (.r [.m 2 (.c (.i .u8 0))]) (.seq (.r [.n 6 0,.l 7 a [.t 6],.n 5 7,.x 8 5 0,.x 9 5 1,.q 3 (.alloc [.i .u16 0,.s [],.i .u8 0]),.u (.store 3 (.t 3) (.t 8)),.n 4 9]) (.seq (.r [.f 10 2 3,.d 11 10,.n 2 11]) (.ret)))⟩
theorem qpY{g:Nat}(hc:qt P f (qaJ g)=true)(hg:∀n,qf P g [.i .u16 n] (.tup [.agg (xU (zV n)),.b (xI n)]))(n:Int):qf P f [.i .u16 n] (.i .u8 (qJ n)):=by
 refine qf.mk hc rfl ?_;have h:=hg n;unfold xI at h;simp only[qaJ,vI,simprocAttr];simp only[↓vS,vT,simprocAttr];refine h.sc ?_;cases hcn:zV n with
 | none =>
  simp (decide:=true) only [↓vS,vT,simprocAttr,xU,zE];simp[vZ,qJ,xI,hcn]
 | some x =>
  simp (decide:=true) only [↓vS,vT,simprocAttr,xU,zZ];simp[vZ,qJ,xI,hcn]
def yw(a:Nat):IFn:=⟨[.tmp 2],.seq (.r [.m 2 .F]) (.seq (.r [.n 6 0,.l 7 a [.t 6],.n 5 7,.x 8 5 0,.x 9 5 1,.q 3 (.alloc [.i .u16 0,.s [],.i .u8 0]),.u (.store 3 (.t 3) (.t 8)),.n 4 9]) (.seq (.r [.n 10 4,.n 2 10]) (.ret)))⟩
theorem qmg{g:Nat}(hc:qt P f (yw g)=true)(hg:∀n,qf P g [.i .u16 n] (.tup [.agg (xU (zV n)),.b (xI n)]))(n:Int):qf P f [.i .u16 n] (.b (xI n)):=by
 refine qf.mk hc rfl ?_;have h:=hg n;unfold xI at h;simp only[yw,vI,simprocAttr];simp only[↓vS,vT,simprocAttr];refine h.sc ?_;cases hcn:zV n with
 | none =>
  simp (decide:=true) only [↓vS,vT,simprocAttr,xU,zE];simp[vZ,qJ,xI,hcn]
 | some x =>
  simp (decide:=true) only [↓vS,vT,simprocAttr,xU,zZ];simp[vZ,qJ,xI,hcn]
theorem qe7(c:Int):(xF.find? fun x=>decide (x.1=c))=zV c:=by
 unfold zV
 by_cases h:c ∈ xm.map (·.1)
 ·have key:∀c ∈ xm.map (·.1),(xF.find? fun x=>decide (x.1=c))=xm.find? fun x=>decide (x.1=c):=by decide
  exact key c h
 ·have h2:c ∉ xF.map (·.1):=by
   have key:∀c ∈ xF.map (·.1),c ∈ xm.map (·.1):=by decide
   exact fun hh=>h (key c hh)
  rw[List.find?_eq_none.2,List.find?_eq_none.2]
  ·intro x hx;simp only[decide_eq_true_eq];exact fun e=>h (List.mem_map.2 ⟨x,hx,e⟩)
  ·intro x hx;simp only[decide_eq_true_eq];exact fun e=>h2 (List.mem_map.2 ⟨x,hx,e⟩)
def jL(a:Nat):IFn:=⟨[.cell 2 3 true],.seq (.r [.q 2 (.alloc [.i .u16 0,.s [],.i .u8 0])]) (.seq (.r [.l 5 a [],.n 3 5]) (.seq (.seq (.r [.m 4 (.k 0)]) (.blk 0 (.loop (.seq (.seq (.r [.n 6 4,.n 7 3,.e 8 7,.s 9 6 8]) (.cond (.t 9) (.skip) (.exit 0))) (.seq (.blk 1 (.seq (.r [.n 12 3,.n 13 4,.i 14 3 12 13,.f 15 0 14,.d 16 15,.n 17 0,.b 18 .eql 16 17]) (.cond (.t 18) (.seq (.r [.n 19 3,.n 20 4,.i 21 3 19 20,.v 22 3 21,.u (.store 3 (.t 2) (.t 22))]) (.ret)) (.skip)))) (.r [.n 10 4,.a 11 10 1,.n 4 11])))))) (.seq (.r [.q 23 (.build [.i .u16 0,.s [],.i .u8 0] []),.u (.store 3 (.t 2) (.t 23))]) (.ret))))⟩
theorem qrc{g:Nat}(hc:qt P f (jL g)=true)(hg:qf P g [] (.fz 41 (xF.flatMap zZ)))(n:Int):qf P f [.i .u16 n] (.agg (xU (zV n))):=by
 refine qf.mk hc rfl ?_;rw[← qe7];simp only[jL,vI,simprocAttr];simp only[↓vS,vT,simprocAttr];refine hg.sc ?_;simp only[↓vS,vT,simprocAttr];have hlen:(xF.flatMap zZ).length=123:=by rw[xL (m:=3) kU];rfl
 have hTc:qw (xF.flatMap zZ)=true:=rfl;refine SL.loop (α:=Nat) (fun j=>[(0,.i .u16 n),(2,.ptr 0 0),(3,.fz 41 (xF.flatMap zZ)),(4,.i .i64 j)]) (fun _=>[.cells 0 true false zE]) (fun j=>j<=41∧(xF.find? fun x=>decide (x.1=n))=(xF.drop j).find? fun x=>decide (x.1=n)) (fun j=>41-j) 0 [0] ?_ ?_ ?_ rfl ?_ ?_
 ·generalize xF.flatMap zZ=T at hTc;simp[vw,qd,hTc]
 ·simp[vw,zE]
 ·simp
 ·exact⟨Nat.zero_le _,rfl⟩
 rintro j ⟨hj,hI⟩ G ih;simp only[vI,simprocAttr]
 by_cases hlt:j<41
 ·have hlt':(j:Int)<41:=by omega
  have hjl:j<xF.length:=hlt;have hx:xF[j]?=some xF[j]:=List.getElem?_eq_getElem hjl;have hw:IntKind.wrap .i64 ((j:Int)+1)=((j+1:Nat):Int):=by rw[qo (by omega) (by omega)];omega
  have hel:=z5 (f:=zZ) (m:=3) kU hx;have g0:(xF.flatMap zZ)[j*3]?=some (.i .u16 xF[j].1):=zI (f:=zZ) (m:=3) kU hx (i:=0) (by decide);have hb:j*3+3<=(xF.flatMap zZ).length:=by omega
  rw[List.drop_eq_getElem_cons hjl,List.find?_cons] at hI;generalize hc0:xF[j]=x at hel hI g0;generalize hT:xF.flatMap zZ=T at hel hb hlen hTc g0
  by_cases hs:x.1=n
  ·have hd:decide (x.1=n)=true:=decide_eq_true hs;rw[hd] at hI;simp (decide:=true) only [↓vS,vT,simprocAttr,hlt',hlt,g0,hel,hb,zZ,zE,hs];rw[hI];simp[vZ,xU,zZ,hs]
  ·have hd:decide (x.1=n)=false:=decide_eq_false hs;rw[hd] at hI;simp (decide:=true) only [↓vS,vT,simprocAttr,hlt',hlt,g0,hs,hw,zE];refine ih (j+1) ⟨hlt,hI⟩ (by omega) _ _ (Wk.mk _ _ [0] ?_ ?_ ?_ rfl)
   ·rw[hT];simp[vw,qd,hTc]
   ·simp[vw,zE]
   ·simp
 ·have hj':j=41:=by omega
  subst hj';have hlt':¬(((41:Nat):Int)<41):=by decide
  have hI':(xF.find? fun x=>decide (x.1=n))=none:=hI
  clear ih;generalize xF.flatMap zZ=T;simp (decide:=true) only [↓vS,vT,simprocAttr,hlt',zE];rw[hI'];simp[vZ,xU,zE]
end Go.Kc
end
section
/- Numbers of bytes. Condition: the functions' texts are these. -/
namespace Go.Kc
variable {P:Program} {f:Nat}
def leM:List Int->Int
 | []=>0
 | x::l=>x+256*leM l
def qK(b:List Int):Prop:=∀x ∈ b,0<=x∧x<=255
theorem qbZ:∀(l:List Int) (x:Int),leM (l++[x])=leM l+256 ^ l.length*x
 | [],x=>by simp[leM]
 | y::l,x=>by
  simp only[List.cons_append,leM,qbZ l x,List.length_cons,Int.pow_succ,Int.mul_add];have:256*(256 ^ l.length*x)=256 ^ l.length*256*x:=by rw[← Int.mul_assoc,Int.mul_comm 256]
  rw[this];omega
theorem xo:∀{l:List Int},qK l->0<=leM l∧leM l<256 ^ l.length
 | [],_=>by simp[leM]
 | x::l,h=>by
  have h1:=xo (l:=l) fun y hy=>h y (by simp[hy])
  have h2:=h x (by simp);simp only[leM,List.length_cons,Int.pow_succ];omega
theorem qct{b:List Int}(h:qK b)(n:Nat):qK (b.take n):=fun x hx=>h x (List.mem_of_mem_take hx)
theorem wE{b:List Int}(h:qK b)(n:Nat):qK (b.drop n):=fun x hx=>h x (List.mem_of_mem_drop hx)
theorem qep{q:IntKind}(hq:q = .u16∨q = .u32){x c:Int}{i:Nat}(hi:8*(i+1)<=q.bits)(hx0:0<=x)(hx:x<256 ^ i)(hc0:0<=c)(hc:c<=255):orI q x (qdO q (q.wrap c) (8*(i:Int)))=x+256 ^ i*c:=by
 obtain⟨a,rfl⟩:∃a:Nat,x=a:=⟨x.toNat,by omega⟩
 obtain⟨d,rfl⟩:∃d:Nat,c=d:=⟨c.toNat,by omega⟩
 have e256:∀i:Nat,(256:Int) ^ i=((2 ^ (8*i):Nat):Int):=fun i=>by
  rw[Nat.pow_mul];simp
 rw[e256] at hx ⊢;have ha:a<2 ^ (8*i):=by omega
 have hle:2 ^ (8*(i+1))<=2 ^ q.bits:=Nat.pow_le_pow_right (by decide) hi
 have hd:d*2 ^ (8*i)+a<2 ^ q.bits:=by
  have h1:d*2 ^ (8*i)<=255*2 ^ (8*i):=Nat.mul_le_mul_right _ (by omega);have h2:2 ^ (8*(i+1))=256*2 ^ (8*i):=by rw[Nat.mul_add,Nat.pow_add,Nat.mul_comm]
  omega
 have hpos:0<2 ^ (8*i):=Nat.pow_pos (by decide);have hor:(2 ^ (8*i)*d ||| a)=2 ^ (8*i)*d+a:=(Nat.two_pow_add_eq_or_of_lt ha d).symm
 have hd2:d*2 ^ (8*i)<2 ^ q.bits:=by omega
 rcases hq with rfl|rfl
 ·have hb:(2:Nat) ^ IntKind.u16.bits=65536:=by decide
  rw[hb] at hd hd2;have h8:i<=1:=by simp only[IntKind.bits] at hi;omega
  have w1:IntKind.wrap .u16 (d:Int)=d:=by
   show ((d:Int) % 65536)=d;omega
  have w2:qdO .u16 (d:Int) (8*(i:Int))=((d*2 ^ (8*i):Nat):Int):=by
   rcases (by omega:i=0∨i=1) with rfl|rfl
   ·show IntKind.wrap .u16 _=_;simp[p2,IntKind.wrap,IntKind.bits,IntKind.signed];omega
   ·show IntKind.wrap .u16 _=_;simp[p2,IntKind.wrap,IntKind.bits,IntKind.signed] at hd2 ⊢;omega
  rw[w1,w2];show IntKind.wrap .u16 (((BitVec.ofInt 16 (a:Int) ||| BitVec.ofInt 16 ((d*2 ^ (8*i):Nat):Int)).toNat:Nat):Int)=_
  have e1:(BitVec.ofInt 16 (a:Int)).toNat=a:=by rw[BitVec.toNat_ofInt];omega
  have e2:(BitVec.ofInt 16 ((d*2 ^ (8*i):Nat):Int)).toNat=d*2 ^ (8*i):=by rw[BitVec.toNat_ofInt];omega
  rw[BitVec.toNat_or,e1,e2,Nat.or_comm,Nat.mul_comm d,hor];rw[Nat.mul_comm] at hd;show ((2 ^ (8*i)*d+a:Nat):Int) % 65536=_;rw[Int.emod_eq_of_lt (by omega) (by omega)];simp only[Int.natCast_add,Int.natCast_mul];omega
 ·have hb:(2:Nat) ^ IntKind.u32.bits=4294967296:=by decide
  rw[hb] at hd hd2;have h8:i<=3:=by simp only[IntKind.bits] at hi;omega
  have w1:IntKind.wrap .u32 (d:Int)=d:=by
   show ((d:Int) % 4294967296)=d;omega
  have w2:qdO .u32 (d:Int) (8*(i:Int))=((d*2 ^ (8*i):Nat):Int):=by
   rcases (by omega:i=0∨i=1∨i=2∨i=3) with rfl|rfl|rfl|rfl <;>
   ·show IntKind.wrap .u32 _=_;simp[p2,IntKind.wrap,IntKind.bits,IntKind.signed] at hd2 ⊢;omega
  rw[w1,w2];show IntKind.wrap .u32 (((BitVec.ofInt 32 (a:Int) ||| BitVec.ofInt 32 ((d*2 ^ (8*i):Nat):Int)).toNat:Nat):Int)=_
  have e1:(BitVec.ofInt 32 (a:Int)).toNat=a:=by rw[BitVec.toNat_ofInt];omega
  have e2:(BitVec.ofInt 32 ((d*2 ^ (8*i):Nat):Int)).toNat=d*2 ^ (8*i):=by rw[BitVec.toNat_ofInt];omega
  rw[BitVec.toNat_or,e1,e2,Nat.or_comm,Nat.mul_comm d,hor];rw[Nat.mul_comm] at hd;show ((2 ^ (8*i)*d+a:Nat):Int) % 4294967296=_;rw[Int.emod_eq_of_lt (by omega) (by omega)];simp only[Int.natCast_add,Int.natCast_mul];omega
end Go.Kc
end
section
/- Numbers read from bytes; instructions from eight. Condition: the functions' texts are these. -/
namespace Go.Kc
variable {P:Program} {f:Nat}
def rB(b:List Int):List AV:=rI .u8 b
theorem wB(b:List Int):(rB b).length=b.length:=qnk
theorem qE(b:List Int):qw (rB b)=true:=qkl
theorem wA(b:List Int)(j:Nat):(rB b)[j]?=(b[j]?).map (.i .u8):=qnj
theorem kR(b:List Int)(s n:Nat):((rB b).drop s).take n=rB ((b.drop s).take n):=by unfold rB rI;rw[List.map_take,List.map_drop]
def qO(b:List Int)(at' n:Nat):List Int:=(b.drop at').take n
theorem z4{b:List Int}{at' n:Nat}(h:at'+n<=b.length):(qO b at' n).length=n:=by unfold qO;simp;omega
theorem qbH{b:List Int}{at' j:Nat}{c:Int}(h:b[at'+j]?=some c):qO b at' (j+1)=qO b at' j++[c]:=by
 unfold qO;rw[List.take_add_one,List.getElem?_drop,h];rfl
theorem qfR{b:List Int}{at' n:Nat}{c:Int}(h:b[at']?=some c):qO b at' (n+1)=c::qO b (at'+1) n:=by
 unfold qO;obtain⟨hl,rfl⟩:=List.getElem?_eq_some_iff.1 h;rw[List.drop_eq_getElem_cons hl,List.take_succ_cons]
theorem xc{b:List Int}(h:qK b)(at' n:Nat):qK (qO b at' n):=qct (wE h at') n
def qcL(b:List Int)(at':Nat):AV:=if at'+2<=b.length then .tup [.i .u16 (leM (qO b at' 2)),.b true] else .tup [.i .u16 0,.b false]
def jY:IFn:=⟨[.tmp 6,.tmp 7],.seq (.r [.m 6 (.c (.i .u16 0)),.m 7 .F]) (.seq (.seq (.r [.n 10 1,.w 11 .lss 10 0,.n 12 11,.z 13 1 12,.z 14 0 12,.g 15 (.len false (.t 14)) 12 false,.z 16 2 12,.g 17 (.bin .sub (.t 15) (.t 16)) 12 false,.g 18 (.bin .gtr (.t 13) (.t 17)) 12 false,.o 19 12 18]) (.cond (.t 19) (.seq (.r [.m 6 (.c (.i .u16 0)),.m 7 .F]) (.ret)) (.skip))) (.seq (.r [.m 8 (.c (.i .u16 0))]) (.seq (.seq (.r [.n 20 2,.m 21 (.k 0)]) (.blk 0 (.loop (.seq (.r [.s 22 21 20]) (.seq (.cond (.t 22) (.skip) (.exit 0)) (.seq (.blk 1 (.seq (.r [.n 23 21,.n 9 23]) (.r [.n 24 8,.n 25 0,.n 26 1,.n 27 9,.b 28 .add 26 27,.i 29 1 25 28,.d 30 29,.q 31 (.cvInt .u16 (.t 30)),.n 32 9,.q 33 (.bin .mul (.k 8) (.t 32)),.b 34 .shl 31 33,.b 35 .or 24 34,.n 8 35]))) (.r [.a 36 21 1,.n 21 36]))))))) (.seq (.r [.n 37 8,.n 6 37,.m 7 .T]) (.ret)))))⟩
theorem qq1(hc:qt P f jY=true)(b:List Int)(hb:qK b)(hl:b.length<=1000000)(at':Nat)(ha:at'<=1000000):qf P f [.fz b.length (rB b),.i .i64 at',.i .i64 2] (qcL b at'):=by
 refine qf.mk hc (by simp[qw,clo,qE]) ?_;have hn:¬(at':Int)<0:=by omega
 have hw0:IntKind.wrap .i64 ((b.length:Int)-2)=(b.length:Int)-2:=qo (by omega) (by omega);unfold qcL;simp only[jY,vI,simprocAttr]
 by_cases h:at'+2<=b.length
 ·have h':¬(b.length:Int)-2<(at':Int):=by omega
  rw[if_pos h];simp (decide:=true) only [↓vS,vT,simprocAttr,hn,h',hw0];refine SL.loop (α:=Nat) (fun j=>[(0,.fz b.length (rB b)),(1,.i .i64 at'),(8,.i .u16 (leM (qO b at' j))),(20,.i .i64 2),(21,.i .i64 j)]) (fun _=>[]) (fun j=>j<=2) (fun j=>2-j) 0 [] ?_ ?_ ?_ rfl ?_ ?_
  ·simp[vw,qE,qO,leM]
  ·trivial
  ·simp
  ·exact Nat.zero_le _
  rintro j hj G ih;simp only[vI,simprocAttr]
  by_cases hlt:j<2
  ·have hlt':(j:Int)<2:=by omega
   have hjl:at'+j<b.length:=by omega
   obtain⟨c,hcx⟩:∃c,b[at'+j]?=some c:=⟨_,List.getElem?_eq_getElem hjl⟩;have hcb:=hb c (List.mem_of_getElem? hcx);have hw:IntKind.wrap .i64 ((j:Int)+1)=((j+1:Nat):Int):=by rw[qo (by omega) (by omega)];omega
   have hw2:IntKind.wrap .i64 ((at':Int)+(j:Int))=((at'+j:Nat):Int):=by rw[qo (by omega) (by omega)];omega
   have hw3:IntKind.wrap .i64 (8*(j:Int))=8*(j:Int):=qo (by omega) (by omega);have h8:(0:Int)<=8*(j:Int):=by omega
   have hbd:=xo (xc hb at' j);have hsl:(qO b at' j).length=j:=z4 (by omega);rw[hsl] at hbd;have hor:=qep (q:=.u16) (by simp) (i:=j) (x:=leM (qO b at' j)) (c:=c) (by simp only[IntKind.bits];omega) hbd.1 hbd.2 hcb.1 hcb.2;have hnx:leM (qO b at' (j+1))=leM (qO b at' j)+256 ^ j*c:=by rw[qbH hcx,qbZ,hsl]
   have ih2:=ih (j+1);rw[hnx] at ih2;simp (decide:=true) only [↓vS,vT,simprocAttr,hlt',hw2,hjl,Nat.mul_one,wA,hcx,Option.map_some,hw3,h8,hor,hw];refine ih2 (by omega) (by omega) _ _ (Wk.mk _ _ [] ?_ ?_ ?_ rfl)
   ·simp[vw,qE]
   ·trivial
   ·simp
  ·have hlt':¬(j:Int)<2:=by omega
   obtain rfl:j=2:=by omega
   clear ih;simp (decide:=true) only [↓vS,vT,simprocAttr,hlt'];simp[vZ]
 ·have h':(b.length:Int)-2<(at':Int):=by omega
  rw[if_neg h];simp (decide:=true) only [↓vS,vT,simprocAttr,hn,h',hw0];simp[vZ]
def kL(a:Nat):IFn:=⟨[.tmp 4,.tmp 5],.seq (.r [.m 4 (.c (.i .u16 0)),.m 5 .F]) (.seq (.r [.n 6 0,.n 7 1,.l 8 a [.t 6,.t 7,.k 2],.x 9 8 0,.x 10 8 1,.n 4 9,.n 5 10]) (.ret))⟩
theorem qqZ{g:Nat}(hc:qt P f (kL g)=true)(hg:∀(b:List Int),qK b->b.length<=1000000->∀at':Nat,at'<=1000000->qf P g [.fz b.length (rB b),.i .i64 at',.i .i64 2] (qcL b at'))(b:List Int)(hb:qK b)(hl:b.length<=1000000)(at':Nat)(ha:at'<=1000000):qf P f [.fz b.length (rB b),.i .i64 at'] (qcL b at'):=by
 refine qf.mk hc (by simp[qw,clo,qE]) ?_;have h:=hg b hb hl at' ha;unfold qcL at h ⊢;simp only[kL,vI,simprocAttr];simp only[↓vS,vT,simprocAttr];refine h.sc ?_;split
 ·simp (decide:=true) only [↓vS,vT,simprocAttr];simp[vZ]
 ·simp (decide:=true) only [↓vS,vT,simprocAttr];simp[vZ]
def qdx(b:List Int)(at':Nat):AV:=if at'+4<=b.length then .tup [.i .u32 (leM (qO b at' 4)),.b true] else .tup [.i .u32 0,.b false]
def jZ:IFn:=⟨[.tmp 6,.tmp 7],.seq (.r [.m 6 (.c (.i .u32 0)),.m 7 .F]) (.seq (.seq (.r [.n 10 1,.w 11 .lss 10 0,.n 12 11,.z 13 1 12,.z 14 0 12,.g 15 (.len false (.t 14)) 12 false,.z 16 2 12,.g 17 (.bin .sub (.t 15) (.t 16)) 12 false,.g 18 (.bin .gtr (.t 13) (.t 17)) 12 false,.o 19 12 18]) (.cond (.t 19) (.seq (.r [.m 6 (.c (.i .u32 0)),.m 7 .F]) (.ret)) (.skip))) (.seq (.r [.m 8 (.c (.i .u32 0))]) (.seq (.seq (.r [.n 20 2,.m 21 (.k 0)]) (.blk 0 (.loop (.seq (.r [.s 22 21 20]) (.seq (.cond (.t 22) (.skip) (.exit 0)) (.seq (.blk 1 (.seq (.r [.n 23 21,.n 9 23]) (.r [.n 24 8,.n 25 0,.n 26 1,.n 27 9,.b 28 .add 26 27,.i 29 1 25 28,.d 30 29,.q 31 (.cvInt .u32 (.t 30)),.n 32 9,.q 33 (.bin .mul (.k 8) (.t 32)),.b 34 .shl 31 33,.b 35 .or 24 34,.n 8 35]))) (.r [.a 36 21 1,.n 21 36]))))))) (.seq (.r [.n 37 8,.n 6 37,.m 7 .T]) (.ret)))))⟩
theorem qq2(hc:qt P f jZ=true)(b:List Int)(hb:qK b)(hl:b.length<=1000000)(at':Nat)(ha:at'<=1000000):qf P f [.fz b.length (rB b),.i .i64 at',.i .i64 4] (qdx b at'):=by
 refine qf.mk hc (by simp[qw,clo,qE]) ?_;have hn:¬(at':Int)<0:=by omega
 have hw0:IntKind.wrap .i64 ((b.length:Int)-4)=(b.length:Int)-4:=qo (by omega) (by omega);unfold qdx;simp only[jZ,vI,simprocAttr]
 by_cases h:at'+4<=b.length
 ·have h':¬(b.length:Int)-4<(at':Int):=by omega
  rw[if_pos h];simp (decide:=true) only [↓vS,vT,simprocAttr,hn,h',hw0];refine SL.loop (α:=Nat) (fun j=>[(0,.fz b.length (rB b)),(1,.i .i64 at'),(8,.i .u32 (leM (qO b at' j))),(20,.i .i64 4),(21,.i .i64 j)]) (fun _=>[]) (fun j=>j<=4) (fun j=>4-j) 0 [] ?_ ?_ ?_ rfl ?_ ?_
  ·simp[vw,qE,qO,leM]
  ·trivial
  ·simp
  ·exact Nat.zero_le _
  rintro j hj G ih;simp only[vI,simprocAttr]
  by_cases hlt:j<4
  ·have hlt':(j:Int)<4:=by omega
   have hjl:at'+j<b.length:=by omega
   obtain⟨c,hcx⟩:∃c,b[at'+j]?=some c:=⟨_,List.getElem?_eq_getElem hjl⟩;have hcb:=hb c (List.mem_of_getElem? hcx);have hw:IntKind.wrap .i64 ((j:Int)+1)=((j+1:Nat):Int):=by rw[qo (by omega) (by omega)];omega
   have hw2:IntKind.wrap .i64 ((at':Int)+(j:Int))=((at'+j:Nat):Int):=by rw[qo (by omega) (by omega)];omega
   have hw3:IntKind.wrap .i64 (8*(j:Int))=8*(j:Int):=qo (by omega) (by omega);have h8:(0:Int)<=8*(j:Int):=by omega
   have hbd:=xo (xc hb at' j);have hsl:(qO b at' j).length=j:=z4 (by omega);rw[hsl] at hbd;have hor:=qep (q:=.u32) (by simp) (i:=j) (x:=leM (qO b at' j)) (c:=c) (by simp only[IntKind.bits];omega) hbd.1 hbd.2 hcb.1 hcb.2;have hnx:leM (qO b at' (j+1))=leM (qO b at' j)+256 ^ j*c:=by rw[qbH hcx,qbZ,hsl]
   have ih2:=ih (j+1);rw[hnx] at ih2;simp (decide:=true) only [↓vS,vT,simprocAttr,hlt',hw2,hjl,Nat.mul_one,wA,hcx,Option.map_some,hw3,h8,hor,hw];refine ih2 (by omega) (by omega) _ _ (Wk.mk _ _ [] ?_ ?_ ?_ rfl)
   ·simp[vw,qE]
   ·trivial
   ·simp
  ·have hlt':¬(j:Int)<4:=by omega
   obtain rfl:j=4:=by omega
   clear ih;simp (decide:=true) only [↓vS,vT,simprocAttr,hlt'];simp[vZ]
 ·have h':(b.length:Int)-4<(at':Int):=by omega
  rw[if_neg h];simp (decide:=true) only [↓vS,vT,simprocAttr,hn,h',hw0];simp[vZ]
def kM(a:Nat):IFn:=⟨[.tmp 4,.tmp 5],.seq (.r [.m 4 (.c (.i .u32 0)),.m 5 .F]) (.seq (.r [.n 6 0,.n 7 1,.l 8 a [.t 6,.t 7,.k 4],.x 9 8 0,.x 10 8 1,.n 4 9,.n 5 10]) (.ret))⟩
theorem qq0{g:Nat}(hc:qt P f (kM g)=true)(hg:∀(b:List Int),qK b->b.length<=1000000->∀at':Nat,at'<=1000000->qf P g [.fz b.length (rB b),.i .i64 at',.i .i64 4] (qdx b at'))(b:List Int)(hb:qK b)(hl:b.length<=1000000)(at':Nat)(ha:at'<=1000000):qf P f [.fz b.length (rB b),.i .i64 at'] (qdx b at'):=by
 refine qf.mk hc (by simp[qw,clo,qE]) ?_;have h:=hg b hb hl at' ha;unfold qdx at h ⊢;simp only[kM,vI,simprocAttr];simp only[↓vS,vT,simprocAttr];refine h.sc ?_;split
 ·simp (decide:=true) only [↓vS,vT,simprocAttr];simp[vZ]
 ·simp (decide:=true) only [↓vS,vT,simprocAttr];simp[vZ]
def qff(b:List Int)(at' n:Nat):AV:=if at'+n<=b.length then .tup [.i .u64 (leM (qO b at' n)),.b true] else .tup [.i .u64 0,.b false]
def jq:IFn:=⟨[.tmp 6,.tmp 7],.seq (.r [.m 6 (.c (.i .u64 0)),.m 7 .F]) (.seq (.seq (.r [.n 10 1,.w 11 .lss 10 0,.n 12 11,.z 13 2 12,.z 14 0 12,.g 15 (.len false (.t 14)) 12 false,.g 16 (.bin .gtr (.t 13) (.t 15)) 12 false,.o 17 12 16,.n 18 17,.z 19 1 18,.z 20 0 18,.g 21 (.len false (.t 20)) 18 false,.z 22 2 18,.g 23 (.bin .sub (.t 21) (.t 22)) 18 false,.g 24 (.bin .gtr (.t 19) (.t 23)) 18 false,.o 25 18 24]) (.cond (.t 25) (.seq (.r [.m 6 (.c (.i .u64 0)),.m 7 .F]) (.ret)) (.skip))) (.seq (.r [.m 8 (.c (.i .u64 0))]) (.seq (.seq (.r [.n 26 2,.w 27 .sub 26 1,.n 9 27]) (.blk 0 (.loop (.seq (.seq (.r [.n 28 9,.w 29 .geq 28 0]) (.cond (.t 29) (.skip) (.exit 0))) (.seq (.blk 1 (.r [.n 32 8,.q 33 (.bin .mul (.t 32) (.c (.i .u64 256))),.n 34 0,.n 35 1,.n 36 9,.b 37 .add 35 36,.i 38 1 34 37,.d 39 38,.q 40 (.cvInt .u64 (.t 39)),.b 41 .add 33 40,.n 8 41])) (.r [.n 30 9,.w 31 .sub 30 1,.n 9 31])))))) (.seq (.r [.n 42 8,.n 6 42,.m 7 .T]) (.ret)))))⟩
theorem qq9(hc:qt P f jq=true)(b:List Int)(hb:qK b)(hl:b.length<=1000000)(at':Nat)(ha:at'<=1000000)(n:Nat)(hn8:n<=7):qf P f [.fz b.length (rB b),.i .i64 at',.i .i64 n] (qff b at' n):=by
 refine qf.mk hc (by simp[qw,clo,qE]) ?_;have hn:¬(at':Int)<0:=by omega
 have hw0:IntKind.wrap .i64 ((b.length:Int)-(n:Int))=(b.length:Int)-n:=qo (by omega) (by omega);have hw1:IntKind.wrap .i64 ((n:Int)-1)=(n:Int)-1:=qo (by omega) (by omega);unfold qff;simp only[jq,vI,simprocAttr]
 by_cases h:at'+n<=b.length
 ·have h1:¬(b.length:Int)<(n:Int):=by omega
  have h':¬(b.length:Int)-n<(at':Int):=by omega
  rw[if_pos h];simp (decide:=true) only [↓vS,vT,simprocAttr,hn,h1,h',hw0,hw1];refine SL.loop (α:=Nat) (fun r=>[(0,.fz b.length (rB b)),(1,.i .i64 at'),(8,.i .u64 (leM (qO b (at'+r) (n-r)))),(9,.i .i64 ((r:Int)-1))]) (fun _=>[]) (fun r=>r<=n) (fun r=>r) n [] ?_ ?_ ?_ rfl ?_ ?_
  ·simp[vw,qE,qO,leM]
  ·trivial
  ·simp
  ·exact Nat.le_refl _
  rintro r hr G ih;simp only[vI,simprocAttr]
  by_cases hr0:r=0
  ·subst hr0;clear ih;simp (decide:=true) only [↓vS,vT,simprocAttr];simp[vZ]
  ·obtain⟨j,rfl⟩:∃j,r=j+1:=⟨r-1,by omega⟩
   have hge:(0:Int)<=((j+1:Nat):Int)-1:=by omega
   have hgel:¬((j+1:Nat):Int)-1<0:=by omega
   have hjl:at'+j<b.length:=by omega
   obtain⟨c,hcx⟩:∃c,b[at'+j]?=some c:=⟨_,List.getElem?_eq_getElem hjl⟩;have hcb:=hb c (List.mem_of_getElem? hcx);have hw2:IntKind.wrap .i64 ((at':Int)+(((j+1:Nat):Int)-1))=((at'+j:Nat):Int):=by rw[qo (by omega) (by omega)];omega
   have hw3:IntKind.wrap .i64 ((((j+1:Nat):Int)-1)-1)=(j:Int)-1:=by rw[qo (by omega) (by omega)];omega
   have hp:qO b (at'+j) (n-j)=c::qO b (at'+(j+1)) (n-(j+1)):=by
    have:n-j=(n-(j+1))+1:=by omega
    rw[this,qfR hcx];rfl
   have hbd:=xo (xc hb (at'+(j+1)) (n-(j+1)));have hsl:(qO b (at'+(j+1)) (n-(j+1))).length=n-(j+1):=z4 (by omega);rw[hsl] at hbd
   have hpw:(256:Int) ^ (n-(j+1))<=256 ^ 6:=by
    have:(256:Nat) ^ (n-(j+1))<=256 ^ 6:=Nat.pow_le_pow_right (by decide) (by omega);have h2:=Int.ofNat_le.2 this;rw[Int.natCast_pow,Int.natCast_pow] at h2;exact h2
   have h6:(256:Int) ^ 6=281474976710656:=by decide
   rw[h6] at hpw;have hx:leM (qO b (at'+j) (n-j))=leM (qO b (at'+(j+1)) (n-(j+1)))*256+c:=by rw[hp];simp only[leM];omega
   have ih2:=ih j;rw[hx] at ih2;generalize leM (qO b (at'+(j+1)) (n-(j+1)))=x at hbd ih2 ⊢;have hw4:IntKind.wrap .u64 (x*256)=x*256:=qcl (by omega) (by omega);have hw5:IntKind.wrap .u64 c=c:=qcl (by omega) (by omega);have hw6:IntKind.wrap .u64 (x*256+c)=x*256+c:=qcl (by omega) (by omega);simp only[↓vS,vT,simprocAttr,hgel,hge,hw2,hjl,Nat.mul_one,wA,hcx,Option.map_some,hw3,hw4,hw5,hw6];refine ih2 (by omega) (by omega) _ _ (Wk.mk _ _ [] ?_ ?_ ?_ rfl)
   ·simp[vw,qE]
   ·trivial
   ·simp
 ·rw[if_neg h]
  by_cases h1:(b.length:Int)<(n:Int)
  ·simp (decide:=true) only [↓vS,vT,simprocAttr,hn,h1];simp[vZ]
  ·have h':(b.length:Int)-n<(at':Int):=by omega
   simp (decide:=true) only [↓vS,vT,simprocAttr,hn,h1,h',hw0];simp[vZ]
structure Ins where
 code:Int
 jt:Int
 jf:Int
 k:Int
def qv(i:Ins):List AV:=[.i .u16 i.code,.i .u8 i.jt,.i .u8 i.jf,.i .u32 i.k]
theorem zl(i:Ins):(qv i).length=4:=rfl
def qax(b:List Int):Ins:=⟨leM (qO b 0 2),b.getD 2 0,b.getD 3 0,leM (qO b 4 4)⟩
def qgp(P:Program)(g:Nat):Prop:=∀(b:List Int),qK b->b.length<=1000000->∀at':Nat,at'<=1000000->qf P g [.fz b.length (rB b),.i .i64 at'] (qcL b at')
def qlH(P:Program)(g:Nat):Prop:=∀(b:List Int),qK b->b.length<=1000000->∀at':Nat,at'<=1000000->qf P g [.fz b.length (rB b),.i .i64 at'] (qdx b at')
def qkL(P:Program)(g:Nat):Prop:=∀(b:List Int),qK b->b.length<=1000000->∀at':Nat,at'<=1000000->∀n:Nat,n<=7->qf P g [.fz b.length (rB b),.i .i64 at',.i .i64 n] (qff b at' n)
theorem getD_some{b:List Int}{j:Nat}(h:j<b.length):b[j]?=some (b.getD j 0):=by
 rw[List.getElem?_eq_getElem h,List.getD_eq_getElem?_getD,List.getElem?_eq_getElem h];rfl
def kI(a b:Nat):IFn:=⟨[.cell 2 4 true,.tmp 3],.seq (.r [.q 2 (.alloc [.i .u16 0,.i .u8 0,.i .u8 0,.i .u32 0]),.m 3 (.k 0)]) (.seq (.seq (.r [.n 8 0,.e 9 8,.w 10 .neq 9 8]) (.cond (.t 10) (.seq (.r [.q 11 (.build [.i .u16 0,.i .u8 0,.i .u8 0,.i .u32 0] []),.u (.store 4 (.t 2) (.t 11)),.m 3 (.k 20)]) (.ret)) (.skip))) (.seq (.r [.n 13 0,.l 14 a [.t 13,.k 0],.n 12 14,.x 15 12 0,.x 16 12 1,.n 4 15,.n 5 16]) (.seq (.r [.n 18 0,.l 19 b [.t 18,.k 4],.n 17 19,.x 20 17 0,.x 21 17 1,.n 6 20,.n 7 21]) (.seq (.reg true [.n 22 4,.n 23 0,.q 24 (.iAddrS 1 (.t 23) (.k 2)),.d 25 24,.n 26 0,.q 27 (.iAddrS 1 (.t 26) (.k 3)),.d 28 27,.n 29 6,.q 30 (.build [.i .u16 0,.i .u8 0,.i .u8 0,.i .u32 0] [(0,1,(.t 22)),(1,1,(.t 25)),(2,1,(.t 28)),(3,1,(.t 29))]),.u (.store 4 (.t 2) (.t 30)),.m 3 (.k 0)]) (.ret)))))⟩
theorem qkX{g1 g2:Nat}(hc:qt P f (kI g1 g2)=true)(h1:qgp P g1)(h2:qlH P g2)(b:List Int)(hb:qK b)(hl:b.length=8):qf P f [.fz 8 (rB b)] (.tup [.agg (qv (qax b)),.i .i64 0]):=by
 have e1:=h1 b hb (by omega) 0 (by decide);have e2:=h2 b hb (by omega) 4 (by decide);rw[hl] at e1 e2;have g1':qcL b 0 = .tup [.i .u16 (leM (qO b 0 2)),.b true]:=if_pos (by omega);have g2':qdx b 4 = .tup [.i .u32 (leM (qO b 4 4)),.b true]:=if_pos (by omega);rw[g1'] at e1;rw[g2'] at e2;have b2:=getD_some (b:=b) (j:=2) (by omega);have b3:=getD_some (b:=b) (j:=3) (by omega);refine qf.mk hc (by simp[qw,clo,qE]) ?_;simp only[kI,vI,simprocAttr];simp (decide:=true) only [↓vS,vT,simprocAttr];refine e1.sc ?_;simp (decide:=true) only [↓vS,vT,simprocAttr];refine e2.sc ?_;simp (decide:=true) only [↓vS,vT,simprocAttr];refine jp ?_;simp (decide:=true) only [↓vS,vT,simprocAttr,wA,b2,b3,Option.map_some,Nat.mul_one];simp[vZ,qv,qax]
def xA(a:Nat):IFn:=⟨[.cell 2 4 true],.seq (.r [.q 2 (.alloc [.i .u16 0,.i .u8 0,.i .u8 0,.i .u32 0])]) (.seq (.r [.n 8 0,.l 9 a [.t 8,.k 0,.k 2],.n 7 9,.x 10 7 0,.x 11 7 1,.n 3 10,.n 4 11]) (.seq (.r [.n 13 0,.l 14 a [.t 13,.k 4,.k 4],.n 12 14,.x 15 12 0,.x 16 12 1,.n 5 15,.n 6 16]) (.seq (.reg true [.n 17 3,.q 18 (.cvInt .u16 (.t 17)),.n 19 0,.q 20 (.iAddrS 1 (.t 19) (.k 2)),.d 21 20,.n 22 0,.q 23 (.iAddrS 1 (.t 22) (.k 3)),.d 24 23,.n 25 5,.q 26 (.cvInt .u32 (.t 25)),.q 27 (.build [.i .u16 0,.i .u8 0,.i .u8 0,.i .u32 0] [(0,1,(.t 18)),(1,1,(.t 21)),(2,1,(.t 24)),(3,1,(.t 26))]),.u (.store 4 (.t 2) (.t 27))]) (.ret))))⟩
theorem qoW{g:Nat}(hc:qt P f (xA g)=true)(hg:qkL P g)(b:List Int)(hb:qK b)(hl:b.length=8):qf P f [.fz 8 (rB b)] (.agg (qv (qax b))):=by
 have e1:=hg b hb (by omega) 0 (by decide) 2 (by decide);have e2:=hg b hb (by omega) 4 (by decide) 4 (by decide);rw[hl] at e1 e2;have g1':qff b 0 2 = .tup [.i .u64 (leM (qO b 0 2)),.b true]:=if_pos (by omega);have g2':qff b 4 4 = .tup [.i .u64 (leM (qO b 4 4)),.b true]:=if_pos (by omega);rw[g1'] at e1;rw[g2'] at e2;have b2:=getD_some (b:=b) (j:=2) (by omega);have b3:=getD_some (b:=b) (j:=3) (by omega);have r1:=xo (xc hb 0 2);have r2:=xo (xc hb 4 4);rw[z4 (by omega)] at r1 r2;have p2':(256:Int) ^ 2=65536:=by decide
 have p4':(256:Int) ^ 4=4294967296:=by decide
 have w1:IntKind.wrap .u16 (leM (qO b 0 2))=leM (qO b 0 2):=by
  show _ % (65536:Int)=_;rw[Int.emod_eq_of_lt (by omega) (by omega)]
 have w2:IntKind.wrap .u32 (leM (qO b 4 4))=leM (qO b 4 4):=qkH (by omega) (by omega);refine qf.mk hc (by simp[qw,clo,qE]) ?_;simp only[xA,vI,simprocAttr];simp (decide:=true) only [↓vS,vT,simprocAttr];refine e1.sc ?_;simp (decide:=true) only [↓vS,vT,simprocAttr];refine e2.sc ?_;simp (decide:=true) only [↓vS,vT,simprocAttr];refine jp ?_;simp (decide:=true) only [↓vS,vT,simprocAttr,wA,b2,b3,Option.map_some,Nat.mul_one,w1,w2];simp[vZ,qv,qax]
def x6:IFn:=⟨[.tmp 2],.seq (.r [.m 2 .N]) (.seq (.r [.n 4 0,.e 5 4,.q 6 (.mkS 1 1 [.i .u8 0] (.t 5) (.t 5)),.n 3 6]) (.seq (.r [.n 7 3,.n 8 0,.q 9 (.copy 1 (.t 7) (.t 8))]) (.seq (.r [.n 10 3,.n 2 10]) (.ret))))⟩
theorem qqb(hc:qt P f x6=true)(b:List Int)(hl:b.length<=1000000):qf P f [.fz b.length (rB b)] (.fz b.length (rB b)):=by
 have h1:b.length<=qe:=by simp only[qe];omega
 have h2:1*b.length<=qe:=by omega
 have h3:(rB b).take b.length=rB b:=List.take_of_length_le (by rw[wB];exact Nat.le_refl _);have hL:(List.replicate b.length [AV.i .u8 0]).flatten.length=b.length:=by simp
 have h5:(List.replicate b.length [AV.i .u8 0]).flatten.take 0++(rB b++(List.replicate b.length [AV.i .u8 0]).flatten.drop (0+(rB b).length))=rB b:=by
  rw[List.drop_of_length_le (by rw[wB];omega)];simp
 have h6:qD (rB b)=true:=qpE;refine qf.mk hc (by simp[qw,clo,qE]) ?_;simp only[x6,vI,simprocAttr];simp (decide:=true) only [↓vS,vT,simprocAttr,h1,h2,Nat.mul_one,wB,Nat.le_refl,h3,hL,h5,h6,List.drop_zero,Nat.min_self];exact Frz.cut 1 rfl (Nat.le_refl _) (by simp[vP,Tr.get_set,vZ,wB,h3,zC (qE b)])
def x7:IFn:=⟨[.tmp 4],.seq (.r [.m 4 .F]) (.seq (.seq (.r [.n 6 0,.e 7 6,.n 8 1,.e 9 8,.b 10 .neq 7 9]) (.cond (.t 10) (.seq (.r [.m 4 .F]) (.ret)) (.skip))) (.seq (.seq (.r [.m 5 (.k 0)]) (.blk 0 (.loop (.seq (.seq (.r [.n 11 5,.n 12 0,.e 13 12,.s 14 11 13]) (.cond (.t 14) (.skip) (.exit 0))) (.seq (.blk 1 (.seq (.reg true [.n 17 0,.n 18 5,.i 19 1 17 18,.d 20 19,.n 21 1,.n 22 5,.i 23 1 21 22,.d 24 23,.b 25 .neq 20 24]) (.cond (.t 25) (.seq (.r [.m 4 .F]) (.ret)) (.skip)))) (.r [.n 15 5,.a 16 15 1,.n 5 16])))))) (.seq (.r [.m 4 .T]) (.ret))))⟩
theorem qqU(hc:qt P f x7=true)(l m:List Int)(hl:l.length<=1000000):qf P f [.fz l.length (rB l),.fz m.length (rB m)] (.b (decide (l=m))):=by
 refine qf.mk hc (by simp[qw,clo,qE]) ?_;simp only[x7,vI,simprocAttr]
 by_cases hlen:l.length=m.length
 ·have hli:(l.length:Int)=m.length:=by omega
  simp only[↓vS,vT,simprocAttr,hli];refine SL.loop (α:=Nat) (fun j=>[(0,.fz l.length (rB l)),(1,.fz m.length (rB m)),(5,.i .i64 j)]) (fun _=>[]) (fun j=>j<=l.length∧l.take j=m.take j) (fun j=>l.length-j) 0 [] ?_ ?_ ?_ rfl ?_ ?_
  ·simp[vw,qE]
  ·trivial
  ·simp
  ·exact⟨Nat.zero_le _,by simp⟩
  rintro j ⟨hj,hI⟩ G ih;simp only[vI,simprocAttr]
  by_cases hlt:j<l.length
  ·have hlm:j<m.length:=by omega
   have hx:l[j]?=some l[j]:=List.getElem?_eq_getElem hlt;have hy:m[j]?=some m[j]:=List.getElem?_eq_getElem hlm;have hw:IntKind.wrap .i64 ((j:Int)+1)=((j+1:Nat):Int):=by rw[qo (by omega) (by omega)];omega
   by_cases e:l[j]=m[j]
   ·simp only[↓vS,vT,simprocAttr,hlt,hlm];refine jp ?_;simp (decide:=true) only [↓vS,vT,simprocAttr,hlt,hlm,Nat.mul_one,wA,hx,hy,Option.map_some,e,hw,ne_eq,not_true_eq_false];refine ih (j+1) ⟨by omega,qfV hx hy hI e⟩ (by omega) _ _ (Wk.mk _ _ [] ?_ ?_ ?_ rfl)
    ·simp[vw,qE]
    ·trivial
    ·simp
   ·have hne:l≠m:=by
     intro h;subst h;exact e rfl
    simp only[↓vS,vT,simprocAttr,hlt,hlm];refine jp ?_;simp (decide:=true) only [↓vS,vT,simprocAttr,hlt,hlm,Nat.mul_one,wA,hx,hy,Option.map_some,e,hw,ne_eq,not_false_eq_true];simp[vZ,hne]
  ·have he:l=m:=by
    rw[List.take_of_length_le (by omega),List.take_of_length_le (by omega)] at hI;exact hI
   simp only[↓vS,vT,simprocAttr,hlt];simp[vZ,he]
 ·have hli:¬(l.length:Int)=m.length:=by omega
  have hne:l≠m:=fun h=>hlen (by rw[h])
  simp only[↓vS,vT,simprocAttr,hli];simp[vZ,hne]
end Go.Kc
end
section
/- A program of bytes. Condition: the functions' texts are these. -/
namespace Go.Kc
variable {P:Program} {f:Nat}
def rP(p:List Ins):List AV:=p.flatMap qv
theorem yT(p:List Ins):(rP p).length=p.length*4:=xL zl p
theorem qb(p:List Ins):qw (rP p)=true:=k9 (fun _=>rfl)
theorem qhW(p q:List Ins):rP (p++q)=rP p++rP q:=List.flatMap_append
theorem qhX(i:Ins):rP [i]=qv i:=by simp[rP]
def wZ(b:List Int)(n:Nat):List Ins:=(List.range n).map fun i=>qax (qO b (8*i) 8)
def qha(b:List Int):List Ins:=wZ b (b.length / 8)
theorem qbr(b:List Int)(n:Nat):wZ b (n+1)=wZ b n++[qax (qO b (8*n) 8)]:=by unfold wZ;rw[List.range_succ,List.map_append];rfl
theorem vq(b:List Int)(n:Nat):(wZ b n).length=n:=by simp[wZ]
def xq(a:Nat):IFn:=⟨[.tmp 4],.seq (.r [.q 2 (.box (.t 0)),.q 3 (.box (.t 1)),.m 4 (.c (.nilf))]) (.seq (.seq (.r [.d 5 3,.w 6 .lss 5 1]) (.cond (.t 6) (.r [.q 7 (.no),.u (.no)]) (.skip))) (.seq (.r [.q 8 (.mkF a [] [.t 2,.t 3]),.n 4 8]) (.ret)))⟩
theorem qqa{g:Nat}(hc:qt P f (xq g)=true)(b:List Int):qf P f [.fz b.length (rB b),.i .i64 8] (.fn g [] [.pf [.fz b.length (rB b)] 0,.pf [.i .i64 8] 0]):=by
 refine qf.mk hc (by simp[qw,clo,qE]) ?_;simp only[xq,vI,simprocAttr];simp (decide:=true) only [↓vS,vT,simprocAttr];simp[vZ,vP,Tr.get_set,zC (qE b)]
def xb:IFn:=⟨[],.seq (.r [.m 4 (.k 0)]) (.blk 0 (.loop (.seq (.seq (.r [.n 6 4,.d 7 1,.e 8 7,.s 9 6 8]) (.cond (.t 9) (.skip) (.exit 0))) (.seq (.blk 1 (.seq (.reg true [.d 13 2,.d 14 1,.n 15 4,.q 16 (.slcS 1 (.t 14) (some (.t 15)) none none),.e 17 16,.q 18 (.min (.t 13) (.t 17)),.n 5 18]) (.seq (.r [.n 19 0,.d 20 1,.n 21 4,.n 22 4,.n 23 5,.b 24 .add 22 23,.n 25 4,.n 26 5,.b 27 .add 25 26,.q 28 (.slcS 1 (.t 20) (some (.t 21)) (some (.t 24)) (some (.t 27))),⟨(some 29),.callV (.t 19) [.t 28],none⟩,.q 30 (.un .not (.t 29))]) (.cond (.t 30) (.ret) (.skip))))) (.r [.n 10 4,.d 11 2,.b 12 .add 10 11,.n 4 12])))))⟩
def jx(a b:Nat):ICode:=.seq (.r [.d 29 4,.n 2 29,.m 3 (.k 0)]) (.ret)
def yx(a b:Nat):IFn:=⟨[.tmp 2,.tmp 3],.seq (.r [.m 2 .N,.m 3 (.k 0)]) (.seq (.blk 0 (.seq (.r [.n 9 0,.e 10 9,.w 11 .rem 10 8,.w 12 .neq 11 0,.n 8 12]) (.cond (.t 8) (.seq (.r [.m 2 .N,.m 3 (.k 20)]) (.ret)) (.seq (.r [.n 14 0,.e 15 14,.w 16 .gtr 15 32768,.n 13 16]) (.cond (.t 13) (.seq (.r [.m 2 .N,.m 3 (.k 3)]) (.ret)) (.skip)))))) (.seq (.r [.q 4 (.alloc [.nils])]) (.seq (.seq (.r [.n 17 0,.l 18 a [.t 17,.k 8]]) (.blk 1 (.rangeF (.t 18) [19] (.r [.n 5 19]) (.blk 2 (.seq (.r [.n 21 5,.l 22 b [.t 21],.n 20 22,.x 23 20 0,.x 24 20 1,.q 6 (.alloc [.i .u16 0,.i .u8 0,.i .u8 0,.i .u32 0]),.u (.store 4 (.t 6) (.t 23)),.n 7 24]) (.r [.d 25 4,.v 26 4 6,.q 27 (.buildS 1 [.i .u16 0,.i .u8 0,.i .u8 0,.i .u32 0] [(0,4,(.t 26))]),.q 28 (.app 4 8 true (.t 25) (.t 27)),.u (.store 1 (.t 4) (.t 28))])))))) (.cut (jx a b)))))⟩
theorem qnx{h:Hp}{esz n a c:Nat}{q q2 q3:IntKind}{cs:List AV}{k:AV->Prop}(h1:a<c)(h2:c<=n)(h3:c*esz<=cs.length):slK esz (some (.i q (a:Int))) (some (.i q2 (c:Int))) (some (.i q3 (c:Int))) (.fz n cs) h k↔evA (.fz (c-a) ((cs.drop (a*esz)).take ((c-a)*esz))) k:=by
 have hne:Nat.beq c a=false:=by
  cases hb:Nat.beq c a with
  | false=>rfl
  | true=>have:=Nat.eq_of_beq_eq_true hb;omega
 have e1:a*esz<=cs.length:=Nat.le_trans (Nat.mul_le_mul_right _ (by omega)) h3
 have e2:(c-a)*esz<=(cs.drop (a*esz)).length:=by
  rw[List.length_drop,Nat.sub_mul];omega
 have hac:a<=c:=by omega
 simp only[slK,qd0,qdZ];show (ifK (c<=n) (ifK (c<=c) (ifK (a<=c) _)))↔_;simp only[ifK,h2,hac,Nat.le_refl,true_and,Option.isSome_some,hne,Bool.true_and,Bool.false_eq_true,if_false];show (a*esz<=cs.length∧(c-a)*esz<=(cs.drop (a*esz)).length∧_)↔_;simp only[e1,e2,true_and];exact Iff.rfl
theorem qdG{r:Loop}(h:r.state = .ready)(h2:r.pending=none):rdy r=r:=by cases r;simp_all [rdy]
def Ql(g:Nat)(b:List Int):List (Nat×AV):=[(4,.ptr 0 0),(18,.fn g [] [.pf [.fz b.length (rB b)] 0,.pf [.i .i64 8] 0])]
theorem qhS(g1 g2 n:Nat)(p:List Ins)(hn:p.length=n){t':Tr AV}{h':Hp}(hw:Wk 0 t' h' (mkT [(4,.ptr 0 0)]) (mkH 0 [.cells 0 true false [.own 1 n],.cells 4 true true (rP p)])) :
  S P 0 (jx g1 g2) (vo [.tmp 2,.tmp 3] fun v' h'=>Frz h' v' (.tup [.fz n (rP p),.i .i64 0])) t' h':=by
 refine S.weak hw (qA ?_);simp only[jx,vI,simprocAttr];simp only[↓vS,vT,simprocAttr];simp[vZ,vP,Tr.get_set,zC (qb p)];intro h0;have:p=[]:=List.eq_nil_of_length_eq_zero (by omega);rw[this];rfl
theorem qmh{g1 g2 g3:Nat}(hc:qt P f (yx g1 g2)=true)(h1:∀b:List Int,qf P g1 [.fz b.length (rB b),.i .i64 8] (.fn g3 [] [.pf [.fz b.length (rB b)] 0,.pf [.i .i64 8] 0]))(hc3:qt P g3 xb=true)
  (h2:∀b:List Int,qK b->b.length=8->qf P g2 [.fz 8 (rB b)] (.tup [.agg (qv (qax b)),.i .i64 0])) (b:List Int) (hb:qK b) (hl:b.length<=1000000) :
  qf P f [.fz b.length (rB b)] (if b.length % 8≠0 then .tup [.fz 0 [],.i .i64 20] else if 32768<b.length then .tup [.fz 0 [],.i .i64 3] else .tup [.fz (b.length / 8) (rP (qha b)),.i .i64 0]):=by
 refine qf.mk hc (by simp[qw,clo,qE]) ?_;have ht:(b.length:Int).tmod 8=((b.length % 8:Nat):Int):=by rw[Int.tmod_eq_emod_of_nonneg (by omega)];omega
 have h80:(8:Int)≠0:=by decide
 simp only[yx,vI,simprocAttr]
 by_cases h8:b.length % 8≠0
 ·have h8':¬((b.length % 8:Nat):Int)=0:=by omega
  rw[if_pos h8];simp (decide:=true) only [↓vS,vT,simprocAttr,↓jB h80,ht,h8'];simp[vZ]
 rw[if_neg h8];have h8':((b.length % 8:Nat):Int)=0:=by omega
 by_cases hbig:32768<b.length
 ·have hbig':(32768:Int)<b.length:=by omega
  rw[if_pos hbig];simp (decide:=true) only [↓vS,vT,simprocAttr,↓jB h80,ht,h8',hbig'];simp[vZ]
 rw[if_neg hbig];have hbig':¬(32768:Int)<b.length:=by omega
 simp (decide:=true) only [↓vS,vT,simprocAttr,↓jB h80,ht,h8',hbig'];refine (h1 b).sc ?_;simp (decide:=true) only [↓vS,vT,simprocAttr];refine S.weak (Wk.mk (Ql g3 b) [.cells 0 true false [.nils]] [0] ?_ ?_ ?_ rfl) ?_
 ·simp[vw,Ql,qE]
 ·simp[vw]
 ·simp
 refine S.rangeF (by simp[jd]) (by simp[Ql]) ⟨rfl,rfl⟩ ?_;refine qgT.2 ⟨.fn g3 [] [.pf [.fz b.length (rB b)] 0,.pf [.i .i64 8] 0],by simp[Ql,mkT,Tr.get_set],?_⟩
 refine⟨qcA hc3,fun r0 hr0 hp0 hlo=>SC.mk hc3 ?_⟩
 have hid:=qdG hr0 hp0;show S P 2 _ _ (wp [.yl 1,.pf [.fz b.length (rB b)] 0,.pf [.i .i64 8] 0] 0 .leaf) ⟨2,0,(Tr.leaf.set 0 (.cells 0 true false [.nils])).set 1 (.map (za r0 (Ql g3 b)))⟩;refine qA ?_;simp only[xb,vI,simprocAttr];simp only[↓vS,vT,simprocAttr];refine SL.loopn (α:=Nat) (fun j=>[(0,.yl 1),(1,.pf [.fz b.length (rB b)] 0),(2,.pf [.i .i64 8] 0),(4,.i .i64 ((8*j:Nat):Int))]) (fun j=>[.cells 0 true false [.own 2 j],.map (za r0 (Ql g3 b)),.cells 4 true true (rP (wZ b j))]) (fun j=>j<=b.length / 8) (fun j=>b.length / 8-j) 0 [0,1,99] ?_ ?_ ?_ rfl ?_ ?_ ?_ ?_
 ·simp[vw,qE]
 ·simp[vw,Ql,qE,wZ,rP,xW,jm,xn,zx]
  done
 ·simp
 ·simp
 ·intro x hx;have:x=0∨x=1:=by omega
  rcases this with rfl|rfl<;>rfl
 ·exact Nat.zero_le _
 rintro j hj G ih;simp only[vI,simprocAttr]
 by_cases hlt:8*j<b.length
 ·have hjl:8*j+8<=b.length:=by omega
  have hw:IntKind.wrap .i64 (((8*j:Nat):Int)+8)=((8*(j+1):Nat):Int):=by rw[qo (by omega) (by omega)];omega
  have hw2:IntKind.wrap .i64 (((8*j:Nat):Int)+8)=((8*j+8:Nat):Int):=by rw[qo (by omega) (by omega)];omega
  have e1:8*j<=b.length:=by omega
  have e2:8*j+(b.length-8*j)<=(rB b).length:=by rw[wB];omega
  have e4:8*j<=8*j+8:=by omega
  have e5:8*j+8-8*j=8:=by omega
  have e6:8*j+8<=(rB b).length:=by rw[wB];omega
  have e3:¬((b.length-8*j:Nat):Int)<8:=by omega
  have e7:8*j<8*j+8:=by omega
  have e8:(8*j+8)*1<=(rB b).length:=by rw[wB];omega
  simp (decide:=true) only [↓vS,vT,simprocAttr,hlt];refine jp ?_;simp (decide:=true) only [↓vS,vT,simprocAttr,e1,e2,Nat.mul_one,kR,e3,hw2,↓qnx e7 hjl e8,e5];have hsl:(qO b (8*j) 8).length=8:=z4 hjl;have hdec:=h2 (qO b (8*j) 8) (xc hb _ _) hsl;have hnx:=qbr b j;have hil:=vq b j;have ih2:=ih (j+1);rw[hnx] at ih2;change SY P 1 [.fz 8 (rB (qO b (8*j) 8))] _ _;generalize wZ b j=A at hil ih2 ⊢;generalize qax (qO b (8*j) 8)=x at hdec ih2;have hlr:(rP A).length=j*4:=by rw[yT,hil]
  have hr1:j+1<=qe:=by simp only[qe];omega
  have hr2:(j+1)*8<=qe:=by simp only[qe];omega
  have hap:rP A++qv x=rP (A++[x]):=by rw[qhW,qhX]
  refine SY.mk (r:=r0) (ts:=Ql g3 b) (ps:=[19]) (by simp[Tr.get_set]) hr0 hlo (Nat.zero_le _) (by show 1<3;decide) rfl ?_;rw[show mkT (Ql g3 b)=(Tr.leaf.set 18 (.fn g3 [] [.pf [.fz b.length (rB b)] 0,.pf [.i .i64 8] 0])).set 4 (.ptr 0 0) from rfl]
  refine qA ?_;simp only[qfI,vI,simprocAttr];simp only[↓vS,vT,simprocAttr];refine⟨Ql g3 b,by simp[Tr.get_set],?_⟩
  refine qA ?_;simp only[wc,vI,simprocAttr];simp only[↓vS,vT,simprocAttr];refine hdec.sc ?_;simp only[qv] at hap;simp (decide:=true) only [↓vS,vT,simprocAttr,qv,hr1,hr2,hlr,hap];refine⟨bsy r0,Ql g3 b,by simp[Tr.get_set],?_⟩
  rw[qex,hid];simp only[wc];simp (decide:=true) only [↓vS,vT,simprocAttr,hw];refine ih2 (by omega) (by omega) _ _ (Wk.mkn _ _ [0,1,5] ?_ ?_ ?_ rfl ?_ ?_)
  ·simp[vw,qE]
  ·simp[vw,Ql,qE,xW,jm,xn,zx,qd,qb]
  ·simp
  ·simp
  ·intro x hx;have:x=0∨x=1:=by omega
   rcases this with rfl|rfl<;>rfl
 ·clear ih;obtain rfl:j=b.length / 8:=by omega
  simp (decide:=true) only [↓vS,vT,simprocAttr,hlt];refine⟨r0,Ql g3 b,by simp[Tr.get_set],by rw[hr0];decide,?_⟩
  rw[hp0];simp only[wc];simp only[↓vS,vT,simprocAttr];refine qhS g1 g2 (b.length / 8) (qha b) (vq b _) (Wk.mk _ _ [0,2] ?_ ?_ ?_ rfl)
  ·simp[vw,Ql,mkT]
  ·simp[vw,qd,qb,qha]
  ·simp
end Go.Kc
end
section
/- Cells as bits; what an instruction reads and writes; a way's coming. Condition: the functions' texts are these. -/
namespace Go.Kc
variable {P:Program} {f:Nat}
theorem qdV(x:BitVec 16):IntKind.wrap .u16 (x.toNat:Int)=(x.toNat:Int):=by
 have:=x.isLt;show ((x.toNat:Int)) % 65536=_;omega
theorem ye(x:BitVec 16):BitVec.ofInt 16 (x.toNat:Int)=x:=by simp
theorem qpC(x y:BitVec 16):orI .u16 (x.toNat:Int) (y.toNat:Int)=((x ||| y).toNat:Int):=by
 show IntKind.wrap .u16 ((BitVec.ofInt 16 (x.toNat:Int) ||| BitVec.ofInt 16 (y.toNat:Int)).toNat:Int)=_
 rw[ye,ye,qdV]
theorem qkI(x y:BitVec 16):qdk .u16 (x.toNat:Int) (y.toNat:Int)=((x &&& y).toNat:Int):=by
 show IntKind.wrap .u16 ((BitVec.ofInt 16 (x.toNat:Int) &&& BitVec.ofInt 16 (y.toNat:Int)).toNat:Int)=_;rw[ye,ye,qdV]
theorem qkQ(x y:BitVec 16):qgF .u16 (x.toNat:Int) (y.toNat:Int)=((x &&& ~~~ y).toNat:Int):=by
 show IntKind.wrap .u16 ((BitVec.ofInt 16 (x.toNat:Int) &&& ~~~ (BitVec.ofInt 16 (y.toNat:Int))).toNat:Int)=_;rw[ye,ye,qdV]
def cell(k:Int):BitVec 16:=1#16 <<< k.toNat
theorem qeB{k:Int}(h0:0<=k)(h:k<16):qdO .u16 1 k=((cell k).toNat:Int):=by
 have key:∀n:Fin 16,qdO .u16 1 (n.val:Int)=((cell (n.val:Int)).toNat:Int):=by decide
 have:=key ⟨k.toNat,by omega⟩
 simpa[Int.toNat_of_nonneg h0] using this
structure InsOk (i:Ins):Prop where
 c0:0<=i.code
 c1:i.code<=65535
 t0:0<=i.jt
 t1:i.jt<=255
 f0:0<=i.jf
 f1:i.jf<=255
 k0:0<=i.k
 k1:i.k<=4294967295
def cOf(P:Program)(g:Nat):Prop:=∀n,qf P g [.i .u16 n] (.i .u8 (qJ n))
def wrM(i:Ins):BitVec 16:=if qJ i.code=2∧i.k<16 then cell i.k else 0#16
def rdM(i:Ins):BitVec 16:=if (i.code=96∨i.code=97)∧i.k<16 then cell i.k else 0#16
def kl(a:Nat):IFn:=⟨[.tmp 2],.seq (.r [.q 1 (.box (.t 0)),.m 2 (.c (.i .u16 0))]) (.seq (.seq (.r [.f 3 0 1,.d 4 3,.l 5 a [.t 4],.q 6 (.bin .neq (.t 5) (.c (.i .u8 2))),.n 7 6,.h 8 3 1 7 false,.j 9 8 7 false,.g 10 (.bin .geq (.t 9) (.c (.i .u32 16))) 7 false,.o 11 7 10]) (.cond (.t 11) (.seq (.r [.m 2 (.c (.i .u16 0))]) (.ret)) (.skip))) (.seq (.r [.f 12 3 1,.d 13 12,.q 14 (.bin .shl (.c (.i .u16 1)) (.t 13)),.n 2 14]) (.ret)))⟩
theorem qlc{g:Nat}(hc:qt P f (kl g)=true)(hg:cOf P g)(i:Ins)(hi:InsOk i):qf P f [.agg (qv i)] (.i .u16 ((wrM i).toNat:Int)):=by
 refine qf.mk hc (by rfl) ?_;have h0:=hi.k0;unfold wrM;simp only[kl,qv,vI,simprocAttr];simp (decide:=true) only [↓vS,vT,simprocAttr];refine (hg _).sc ?_
 by_cases h2:qJ i.code=2
 ·by_cases hk:i.k<16
  ·have hk':¬16<=i.k:=by omega
   rw[if_pos ⟨h2,hk⟩];simp (decide:=true) only [↓vS,vT,simprocAttr,h2,hk,hk',h0,qeB h0 hk];simp[vZ]
  ·have hk':16<=i.k:=by omega
   rw[if_neg (fun h=>hk h.2)]
   simp (decide:=true) only [↓vS,vT,simprocAttr,h2,hk,hk'];simp[vZ]
 ·rw[if_neg (fun h=>h2 h.1)]
  simp (decide:=true) only [↓vS,vT,simprocAttr,h2];simp[vZ]
def kG:IFn:=⟨[.tmp 2],.seq (.r [.q 1 (.box (.t 0)),.m 2 (.c (.i .u16 0))]) (.seq (.seq (.r [.f 3 0 1,.d 4 3,.q 5 (.bin .neq (.t 4) (.c (.i .u16 96))),.n 6 5,.h 7 0 1 6 true,.j 8 7 6 true,.g 9 (.bin .neq (.t 8) (.c (.i .u16 97))) 6 true,.p 10 6 9,.n 11 10,.h 12 3 1 11 false,.j 13 12 11 false,.g 14 (.bin .geq (.t 13) (.c (.i .u32 16))) 11 false,.o 15 11 14]) (.cond (.t 15) (.seq (.r [.m 2 (.c (.i .u16 0))]) (.ret)) (.skip))) (.seq (.r [.f 16 3 1,.d 17 16,.q 18 (.bin .shl (.c (.i .u16 1)) (.t 17)),.n 2 18]) (.ret)))⟩
theorem qnm(hc:qt P f kG=true)(i:Ins)(hi:InsOk i):qf P f [.agg (qv i)] (.i .u16 ((rdM i).toNat:Int)):=by
 refine qf.mk hc (by rfl) ?_;have h0:=hi.k0;unfold rdM;simp only[kG,qv,vI,simprocAttr]
 by_cases hk:i.k<16
 ·have hk':¬16<=i.k:=by omega
  by_cases h1:i.code=96
  ·rw[if_pos ⟨.inl h1,hk⟩];simp (decide:=true) only [↓vS,vT,simprocAttr,h1,hk',h0,qeB h0 hk];simp[vZ]
  ·by_cases h2:i.code=97
   ·rw[if_pos ⟨.inr h2,hk⟩];simp (decide:=true) only [↓vS,vT,simprocAttr,h2,hk',h0,qeB h0 hk];simp[vZ]
   ·rw[if_neg (fun h=>h.1.elim h1 h2)]
    simp (decide:=true) only [↓vS,vT,simprocAttr,h1,h2];simp[vZ]
 ·have hk':16<=i.k:=by omega
  rw[if_neg (fun h=>hk h.2)]
  by_cases h1:i.code=96
  ·simp (decide:=true) only [↓vS,vT,simprocAttr,h1,hk'];simp[vZ]
  ·by_cases h2:i.code=97
   ·simp (decide:=true) only [↓vS,vT,simprocAttr,h2,hk'];simp[vZ]
   ·simp (decide:=true) only [↓vS,vT,simprocAttr,h1,h2];simp[vZ]
def rW(s:List (BitVec 16)):List AV:=s.map fun x=>.i .u16 (x.toNat:Int)
def rTt(r:List Bool):List AV:=r.map .b
theorem qb9{s:List (BitVec 16)}:(rW s).length=s.length:=by simp[rW]
theorem ke{s:List Bool}:(rTt s).length=s.length:=by simp[rTt]
theorem qn{s:List (BitVec 16)}:qw (rW s)=true:=y6 fun _=>rfl
theorem qh{s:List Bool}:qw (rTt s)=true:=y6 fun _=>rfl
theorem yU{s:List (BitVec 16)}{j:Nat}:(rW s)[j]?=(s[j]?).map fun x=>.i .u16 (x.toNat:Int):=by simp[rW]
theorem zY{s:List Bool}{j:Nat}:(rTt s)[j]?=(s[j]?).map .b:=by simp[rTt]
theorem qeh{α:Type}{F:α->AV}{L:List α}{j:Nat}(h:j<L.length)(x:α):(L.map F).take j++(F x::(L.map F).drop (j+1))=(L.set j x).map F:=by
 rw[← List.map_take,← List.map_drop,← List.map_cons,← List.map_append,List.set_eq_take_append_cons_drop,if_pos h]
theorem qhY{s:List (BitVec 16)}{j:Nat}(h:j<s.length)(x:BitVec 16):(rW s).take j++(.i .u16 (x.toNat:Int)::(rW s).drop (j+1))=rW (s.set j x):=qeh h x
theorem Qn{s:List Bool}{j:Nat}(h:j<s.length)(x:Bool):(rTt s).take j++(.b x::(rTt s).drop (j+1))=rTt (s.set j x):=qeh h x
def z9(s:List (BitVec 16))(r:List Bool)(j:Nat)(x:BitVec 16):List (BitVec 16):=s.set j (if r.getD j false=true then s.getD j 0 &&& x else x)
def ky(nv:List AV)(s:List (BitVec 16))(r:List Bool):List Blk:=[.cells 0 true false (rW s),.cells 0 true false (rTt r),.cells 0 true false [.sl 0 0 s.length s.length false],.cells 0 true false [.sl 1 0 s.length s.length false]]
def kj:IFn:=⟨[],.seq (.seq (.r [.d 6 2,.n 7 0,.i 8 1 6 7,.d 9 8,.q 10 (.un .not (.t 9))]) (.cond (.t 10) (.r [.d 11 3,.n 12 0,.i 13 1 11 12,.u (.store 1 (.t 13) (.c (.i .u16 65535)))]) (.skip))) (.seq (.r [.d 14 2,.n 15 0,.i 16 1 14 15,.u (.store 1 (.t 16) .T)]) (.r [.d 17 3,.n 18 0,.i 19 1 17 18,.d 20 19,.n 21 1,.b 22 .and 20 21,.i 23 1 17 18,.u (.store 1 (.t 23) (.t 22))]))⟩
theorem qoT(hc:qt P f kj=true)(s:List (BitVec 16))(r:List Bool)(hr:r.length=s.length)(j:Nat)(hj:j<s.length)(x:BitVec 16) :
  Upd P f [.i .i64 j,.i .u16 (x.toNat:Int),.ptr 3 0,.ptr 2 0] (ky [] s r) (.tup []) (ky [] (z9 s r j x) (r.set j true)):=by
 refine Upd.mk hc (by simp[xS,bnd,ky]) (by simp[ky]) ?_;have hjr:j<r.length:=by omega
 obtain⟨y,hy⟩:∃y,s[j]?=some y:=⟨_,List.getElem?_eq_getElem hj⟩;obtain⟨b,hb⟩:∃b,r[j]?=some b:=⟨_,List.getElem?_eq_getElem hjr⟩;have hl1:j+1<=(rTt r).length:=by rw[ke];omega
 have hl2:∀s':List (BitVec 16),s'.length=s.length->j+1<=(rW s').length:=fun s' h=>by rw[qb9];omega
 have hb1:∀y:Bool,List.take j (rTt r)++(AV.b y::List.drop (j+1) (rTt r))=rTt (r.set j y):=fun y=>Qn hjr y
 have hb2:∀(s':List (BitVec 16)) (y:BitVec 16),s'.length=s.length->List.take j (rW s')++(AV.i .u16 (y.toNat:Int)::List.drop (j+1) (rW s'))=rW (s'.set j y):=fun s' y h=>qhY (by omega) y
 have hc0:=hl2 s rfl;have hc1:=hb2 s (y &&& x) rfl;have hd0:=hl2 (s.set j 65535#16) (by simp);have hd1:=hb2 s 65535#16 rfl;have hd2:=hb2 (s.set j 65535#16) x (by simp);rw[show (((65535#16).toNat:Nat):Int)=65535 from rfl] at hd1
 have hy2:(s.set j 65535#16)[j]?=some 65535#16:=by rw[List.getElem?_set_self (by omega)]
 have hand:qdk .u16 65535 (x.toNat:Int)=(x.toNat:Int):=by
  rw[show (65535:Int)=((65535#16).toNat:Int) from rfl,qkI,show (65535#16:BitVec 16)=BitVec.allOnes 16 from rfl,BitVec.allOnes_and]
 have ht3:(65535#16).toNat=65535:=rfl;simp only[kj,ky,z9,List.getD_eq_getElem?_getD,hy,hb,Option.getD_some,vI,simprocAttr];cases b with
 | true =>
  simp (decide:=true) only [↓vS,vT,simprocAttr,Nat.mul_one,yU,zY,hy,hb,Option.map_some,hl1,hb1,hc0,hc1,qkI,hj];intro _;refine⟨[0,1,2,3],?_⟩;simp[vw,qd,qn,qh];decide
 | false =>
  simp (decide:=true) only [↓vS,vT,simprocAttr,Nat.mul_one,yU,zY,hy,hb,Option.map_some,hl1,hb1,hc0,hd0,hd1,hy2,hand,hd2,hj];intro _;refine⟨[0,1,2,3],?_⟩;simp[vw,qd,qn,qh];decide
end Go.Kc
end
section
/- What is done at a place that is reached; where ways lead to. Condition: the functions' texts are these. -/
namespace Go.Kc
variable {P:Program} {f:Nat}
def rNt(l:List Nat):List AV:=l.map fun n:Nat=>.i .i64 (n:Int)
theorem qb7{l:List Nat}:(rNt l).length=l.length:=by simp[rNt]
theorem qp{l:List Nat}:qw (rNt l)=true:=y6 fun _=>rfl
theorem qb4{l:List Nat}{j:Nat}:(rNt l)[j]?=(l[j]?).map fun n:Nat=>.i .i64 (n:Int):=by simp[rNt]
theorem qev{l m:List Nat}:rNt l++rNt m=rNt (l++m):=by simp[rNt]
def QR(i:Ins)(x:BitVec 16)(at':Nat)(l:List Nat):List Nat:=if rdM i &&& ~~~ x=0#16 then l else l++[at']
def wG(a:Nat):IFn:=⟨[],.seq (.r [.d 6 2,.n 7 0,.i 8 4 6 7,.v 9 4 8,.l 10 a [.t 9],.n 11 1,.b 12 .andNot 10 11,.q 13 (.bin .neq (.t 12) (.c (.i .u16 0)))]) (.cond (.t 13) (.r [.d 14 3,.n 15 0,.q 16 (.buildS 1 [.i .i64 0] [(0,1,(.t 15))]),.q 17 (.app 1 8 true (.t 14) (.t 16)),.u (.store 1 (.t 3) (.t 17))]) (.skip))⟩
theorem qoq{g:Nat}(hc:qt P f (wG g)=true)(hg:∀i,InsOk i->qf P g [.agg (qv i)] (.i .u16 ((rdM i).toNat:Int)))(p:List Ins)(hp:p.length<=4096)(l:List Nat)(hl:l.length<=4096)(j:Nat)(i:Ins)(hj:p[j]?=some i)(hi:InsOk i)(x:BitVec 16) :
  Upd P f [.i .i64 j,.i .u16 (x.toNat:Int),.ptr 0 0,.ptr 1 0] [.cells 0 true false [.fz p.length (rP p)],.cells 0 true false [.own 2 l.length],.cells 1 true true (rNt l)] (.tup [])
   [.cells 0 true false [.fz p.length (rP p)],.cells 0 true false [.own 3 (QR i x j l).length],.dead,.cells 1 true true (rNt (QR i x j l))]:=by
 refine Upd.mkd hc (by simp[xS,bnd,jG (qb p)]) (by simp) ?_
 have hjl:j<p.length:=(List.getElem?_eq_some_iff.1 hj).1;have hel:=z5 (f:=qv) (m:=4) zl hj;rw[show p.flatMap qv=rP p from rfl] at hel
 have h4:j*4+4<=(rP p).length:=by rw[yT];omega
 have hr1:l.length+1<=qe:=by simp only[qe];omega
 have hr2:(l.length+1)*8<=qe:=by simp only[qe];omega
 have hap:rNt l++[.i .i64 (j:Int)]=rNt (l++[j]):=by rw[← qev];rfl
 have hll:(rNt l).length=l.length:=qb7;simp only[wG,vI,simprocAttr];simp (decide:=true) only [↓vS,vT,simprocAttr,hjl,hel,h4];refine (hg i hi).sc ?_;unfold QR
 by_cases h0:rdM i &&& ~~~ x=0#16
 ·have h0':(((rdM i &&& ~~~ x).toNat:Nat):Int)=0:=by rw[h0];rfl
  rw[if_pos h0];simp (decide:=true) only [↓vS,vT,simprocAttr,qkQ,h0'];intro _;refine⟨[0,1,2,2],?_⟩;simp[vw,qd,qb,qp,jd,rl];intro b hb;have:b=0∨b=1∨b=2:=by omega
  rcases this with rfl|rfl|rfl<;>simp
 ·have h0':¬(((rdM i &&& ~~~ x).toNat:Nat):Int)=0:=fun h=>h0 (by
   have:(rdM i &&& ~~~ x).toNat=0:=by omega
   exact BitVec.eq_of_toNat_eq this)
  rw[if_neg h0];simp (decide:=true) only [↓vS,vT,simprocAttr,qkQ,h0',Nat.mul_one,hr1,hr2,hll,hap];intro _;refine⟨[0,1,2,4],?_⟩;simp[vw,qd,qb,qp,jd,rl];intro b hb;have:b=0∨b=1∨b=2:=by omega
  rcases this with rfl|rfl|rfl<;>simp
end Go.Kc
end
section
/- Where ways lead to: the list of places. Condition: the functions' texts are these. -/
namespace Go.Kc
variable {P:Program} {f:Nat}
def qu:IFn:=⟨[.tmp 2],.seq (.r [.m 2 .N]) (.seq (.seq (.r [.n 6 0,.e 7 6,.w 8 .lss 7 2]) (.cond (.t 8) (.seq (.r [.n 9 0,.n 2 9]) (.ret)) (.skip))) (.seq (.seq (.r [.m 3 (.k 1)]) (.blk 0 (.loop (.seq (.seq (.r [.n 10 3,.n 11 0,.e 12 11,.s 13 10 12]) (.cond (.t 13) (.skip) (.exit 0))) (.seq (.blk 1 (.seq (.reg true [.n 16 0,.n 17 3,.i 18 1 16 17,.d 19 18,.n 20 0,.n 21 3,.w 22 .sub 21 1,.i 23 1 20 22,.d 24 23,.b 25 .eql 19 24]) (.cond (.t 25) (.seq (.r [.n 26 0,.n 27 3,.q 28 (.slcS 1 (.t 26) (some (.t 27)) none none),.n 4 28]) (.seq (.seq (.r [.m 5 (.k 1)]) (.blk 2 (.loop (.seq (.seq (.r [.n 29 5,.n 30 4,.e 31 30,.s 32 29 31]) (.cond (.t 32) (.skip) (.exit 2))) (.seq (.blk 3 (.seq (.reg true [.n 35 4,.n 36 5,.i 37 1 35 36,.d 38 37,.n 39 4,.n 40 5,.w 41 .sub 40 1,.i 42 1 39 41,.d 43 42,.b 44 .neq 38 43]) (.cond (.t 44) (.seq (.r [.n 45 0,.n 46 3,.n 47 4,.n 48 5,.i 49 1 47 48,.d 50 49,.i 51 1 45 46,.u (.store 1 (.t 51) (.t 50))]) (.r [.n 52 3,.a 53 52 1,.n 3 53])) (.skip)))) (.r [.n 33 5,.a 34 33 1,.n 5 34])))))) (.seq (.r [.n 54 0,.n 55 3,.q 56 (.slcS 1 (.t 54) (some (.t 55)) none none),.u (.clear [.i .i64 0] (.t 56))]) (.seq (.r [.n 57 0,.n 58 3,.q 59 (.slcS 1 (.t 57) none (some (.t 58)) none),.n 2 59]) (.ret))))) (.skip)))) (.r [.n 14 3,.a 15 14 1,.n 3 15])))))) (.seq (.r [.n 60 0,.n 2 60]) (.ret))))⟩
theorem qgH(hc:qt P f qu=true):qf P f [.nils] .nils:=by
 refine qf.mk hc rfl ?_;simp only[qu,vI,simprocAttr];simp (decide:=true) only [↓vS,vT,simprocAttr];simp[vZ]
theorem qcB(hc:qt P f qu=true)(x:Int):Upd P f [.sl 0 0 1 1 false] [.cells 0 true false [.i .i64 x]] (.sl 0 0 1 1 false) [.cells 0 true false [.i .i64 x]]:=by
 refine Upd.mk hc (by simp[xS,bnd]) (by simp) ?_;simp only[qu,vI,simprocAttr];simp (decide:=true) only [↓vS,vT,simprocAttr];intro _;refine⟨[0],?_⟩;simp[vw,qd]
theorem qcC(hc:qt P f qu=true)(x y:Int):Upd P f [.sl 0 0 2 2 false] [.cells 0 true false [.i .i64 x,.i .i64 y]] (.sl 0 0 (if x=y then 1 else 2) 2 false) [.cells 0 true false [.i .i64 x,.i .i64 (if x=y then 0 else y)]]:=by
 refine Upd.mk hc (by simp[xS,bnd]) (by simp) ?_;simp only[qu,vI,simprocAttr];simp (decide:=true) only [↓vS,vT,simprocAttr];refine SL.loopn (α:=Nat) (fun k=>[(0,.sl 0 0 2 2 false),(3,.i .i64 (k:Int))]) (fun _=>[.cells 0 true false [.i .i64 x,.i .i64 y]]) (fun k=>k=1∨k=2∧x≠y) (fun k=>2-k) 1 [0] ?_ ?_ ?_ rfl ?_ ?_ ?_ ?_
 ·simp[vw]
 ·simp[vw]
 ·simp
 ·simp
 ·intro b hb;obtain rfl:b=0:=by omega
  rfl
 ·exact .inl rfl
 rintro k hk G ih;have hw0:IntKind.wrap .i64 0=0:=rfl;have hw1:IntKind.wrap .i64 1=1:=rfl;have hw2:IntKind.wrap .i64 2=2:=rfl;simp only[vI,simprocAttr];rcases hk with rfl|⟨rfl,hne⟩
 ·by_cases h:x=y
  ·subst h;simp (decide:=true) only [↓vS,vT,simprocAttr];refine jp ?_;simp (decide:=true) only [↓vS,vT,simprocAttr,hw0];refine SL.loopn (α:=Unit) (fun _=>[(0,.sl 0 0 2 2 false),(3,.i .i64 1),(4,.sl 0 1 1 1 false),(5,.i .i64 1)]) (fun _=>[.cells 0 true false [.i .i64 x,.i .i64 x]]) (fun _=>True) (fun _=>0) () [0] ?_ ?_ ?_ rfl ?_ ?_ ?_ ?_
   ·simp[vw]
   ·simp[vw]
   ·simp
   ·simp
   ·intro b hb;obtain rfl:b=0:=by omega
    rfl
   ·trivial
   rintro _ _ G2 _;simp only[vI,simprocAttr];simp (decide:=true) only [↓vS,vT,simprocAttr];intro _;refine⟨[0],?_⟩;simp[vw,qd]
  ·have h':¬y=x:=fun e=>h e.symm
   simp (decide:=true) only [↓vS,vT,simprocAttr];refine jp ?_;simp (decide:=true) only [↓vS,vT,simprocAttr,h',hw0,hw1,hw2];refine ih 2 (.inr ⟨rfl,h⟩) (by decide) _ _ (Wk.mkn _ _ [0] ?_ ?_ ?_ rfl ?_ ?_)
   ·simp[vw]
   ·simp[vw]
   ·simp
   ·simp
   ·intro b hb;obtain rfl:b=0:=by omega
    rfl
 ·simp (decide:=true) only [↓vS,vT,simprocAttr,hne,if_false];intro _;refine⟨[0],?_⟩;simp[vw,qd,hne]
end Go.Kc
end
section
/- The loop over where ways lead to. Condition: the functions' texts are these. -/
namespace Go.Kc
variable {P:Program} {f:Nat}
def loM(i:Ins):Int:=if i.jf<i.jt then i.jf else i.jt
def hiM(i:Ins):Int:=if i.jt<i.jf then i.jf else i.jt
def zg(i:Ins)(at':Nat):List Nat :=
 if qJ i.code=0∨qJ i.code=5 then []
 else if qJ i.code=4 then (if i.code=5 then [at'+1+i.k.toNat] else if loM i=hiM i then [at'+1+(loM i).toNat] else [at'+1+(loM i).toNat,at'+1+(hiM i).toNat])
 else [at'+1]
def goM(n:Nat)(x:BitVec 16):List Nat->List (BitVec 16)×List Bool->List (BitVec 16)×List Bool
 | [],st=>st
 | m::L,st=>if m<n then goM n x L (z9 st.1 st.2 m x,st.2.set m true) else st
theorem kF{n:Nat}{x:BitVec 16}{m:Nat}{L:List Nat}{st:List (BitVec 16)×List Bool}:goM n x (m::L) st=if m<n then goM n x L (z9 st.1 st.2 m x,st.2.set m true) else st:=rfl
theorem qbU{n:Nat}{x:BitVec 16}:∀(L:List Nat) (st:List (BitVec 16)×List Bool),(goM n x L st).1.length=st.1.length∧(goM n x L st).2.length=st.2.length
 | [],_=>⟨rfl,rfl⟩
 | m::L,st=>by
  unfold goM;split
  ·have:=qbU (n:=n) (x:=x) L (z9 st.1 st.2 m x,st.2.set m true);simpa[z9] using this
  ·exact⟨rfl,rfl⟩
def wkB(p:List Ins)(gc:Nat)(l:List Nat)(st:List (BitVec 16)×List Bool):List Blk:=[.cells 0 true false [.fz p.length (rP p)],.cells 0 true false [.own 2 l.length],.cells 1 true true (rNt l),.cells 0 true false (rW st.1),.cells 0 true false (rTt st.2),.cells 0 true false [.sl 3 0 st.1.length st.1.length false],.cells 0 true false [.sl 4 0 st.1.length st.1.length false],.cells 0 true false [.fn gc [] [.ptr 6 0,.ptr 5 0]]]
def wI(p:List Ins)(gc:Nat)(l:List Nat)(st:List (BitVec 16)×List Bool)(j:Nat)(i:Ins):List Blk:=wkB p gc l st++[.cells 0 true false [.i .i64 (j:Int)],.cells 0 true false (qv i)]
def vi(gv:Nat):AV:=.fn gv [] [.ptr 0 0,.ptr 1 0]
def Qv(gw:Nat)(p:List Ins)(j:Nat)(i:Ins):AV:=.fn gw [] [.pf (qv i) 0,.pf [.i .i64 (j:Int)] 0,.pf [.i .i64 (p.length:Int)] 0]
def wT(gv:Nat)(p:List Ins)(j:Nat):List (Nat×AV):=[(0,.fz p.length (rP p)),(1,vi gv),(4,.ptr 5 0),(5,.ptr 6 0),(6,.ptr 7 0),(20,.fz p.length (rP p)),(21,.i .i64 (p.length:Int)),(22,.i .i64 (j:Int))]
def wTr(gv gw:Nat)(p:List Ins)(j:Nat)(i:Ins):List (Nat×AV):=wT gv p j++[(7,.ptr 8 0),(8,.ptr 9 0),(47,Qv gw p j i)]
def qZ(a b:Nat):ICode:=.blk 1 (.loop (.seq (.r [.s 52 51 50]) (.seq (.cond (.t 52) (.skip) (.exit 1)) (.seq (.blk 2 (.seq (.r [.i 53 1 49 51,.d 54 53,.n 7 54]) (.seq (.r [.n 55 7,.d 56 3,.b 57 .geq 55 56,.n 58 57,.z 59 0 58,.z 60 7 58,⟨(some 61),.callV (.t 59) [.t 60],(some (58,false))⟩,.g 62 (.un .not (.t 61)) 58 false,.o 63 58 62]) (.cond (.t 63) (.ret) (.skip))))) (.r [.a 64 51 1,.n 51 64])))))
def z0(a b:Nat):IFn:=⟨[],.seq (.r [.m 5 .N]) (.seq (.seq (.r [.f 8 0 1,.d 9 8,.l 10 a [.t 9]]) (.blk 0 (.seq (.seq (.r [.q 15 (.bin .eql (.t 10) (.c (.i .u8 0))),.n 14 15]) (.cond (.t 14) (.skip) (.r [.q 16 (.bin .eql (.t 10) (.c (.i .u8 5))),.n 14 16]))) (.cond (.t 14) (.skip) (.seq (.r [.q 18 (.bin .eql (.t 10) (.c (.i .u8 4))),.n 17 18]) (.cond (.t 17) (.seq (.r [.d 19 2,.a 20 19 1,.f 21 1 1,.d 22 21,.f 23 2 1,.d 24 23,.q 25 (.min (.t 22) (.t 24)),.q 26 (.cvInt .i64 (.t 25)),.b 27 .add 20 26,.d 28 2,.a 29 28 1,.f 30 1 1,.d 31 30,.f 32 2 1,.d 33 32,.q 34 (.max (.t 31) (.t 33)),.q 35 (.cvInt .i64 (.t 34)),.b 36 .add 29 35,.q 37 (.buildS 2 [.i .i64 0] [(0,1,(.t 27)),(1,1,(.t 36))]),.n 5 37]) (.seq (.r [.f 38 0 1,.d 39 38,.q 40 (.bin .eql (.t 39) (.c (.i .u16 5)))]) (.cond (.t 40) (.r [.d 41 2,.a 42 41 1,.f 43 3 1,.d 44 43,.q 45 (.cvInt .i64 (.t 44)),.b 46 .add 42 45,.q 47 (.buildS 1 [.i .i64 0] [(0,1,(.t 46))]),.n 5 47]) (.skip)))) (.r [.d 11 2,.a 12 11 1,.q 13 (.buildS 1 [.i .i64 0] [(0,1,(.t 12))]),.n 5 13]))))))) (.seq (.r [.n 48 5,.l 49 b [.t 48],.e 50 49,.m 51 (.k 0)]) (.cut (qZ a b))))⟩
def x5(a b c:Nat):ICode:=.r [.a 59 22 1,.n 22 59]
def x4(a b c:Nat):ICode:=.seq (.r [.v 43 4 8,.d 44 7,.n 45 0,.e 46 45,.l 47 b [.t 43,.t 44,.t 46]]) (.blk 2 (.rangeF (.t 47) [48] (.r [.n 9 48]) (.blk 3 (.reg true [.d 49 6,.n 50 9,.d 51 4,.d 52 7,.i 53 1 51 52,.d 54 53,.v 55 4 8,.l 56 c [.t 55],.b 57 .or 54 56,⟨(some 58),.callVW (.t 49) [.t 50,.t 57],none⟩]))))
def xZ(a b c:Nat):ICode:=.seq (.seq (.r [.d 31 5,.d 32 7,.i 33 1 31 32,.d 34 33,.q 35 (.un .not (.t 34))]) (.cond (.t 35) (.exit 1) (.skip))) (.seq (.reg true [.n 36 1,.d 37 7,.d 38 4,.d 39 7,.i 40 1 38 39,.d 41 40,⟨(some 42),.callVW (.t 36) [.t 37,.t 41],none⟩]) (.cut (x4 a b c)))
def yu(a b c:Nat):IFn:=⟨[],.seq (.seq (.r [.n 10 0,.e 11 10,.w 12 .gtr 11 4096]) (.cond (.t 12) (.ret) (.skip))) (.seq (.reg true [.n 13 0,.e 14 13,.q 15 (.mkS 1 2 [.i .u16 0] (.t 14) (.t 14)),.n 16 0,.e 17 16,.q 18 (.mkS 1 1 [.b false] (.t 17) (.t 17)),.q 4 (.alloc [.nils]),.q 5 (.alloc [.nils]),.u (.storeD 1 (.t 4) (.t 15) []),.u (.store 1 (.t 5) (.t 18))]) (.seq (.r [.q 19 (.mkF a [] [.t 5,.t 4]),.q 6 (.alloc [.nilf]),.u (.store 1 (.t 6) (.t 19))]) (.seq (.r [.n 20 0,.e 21 20,.m 22 (.k 0)]) (.blk 0 (.loop (.seq (.r [.s 23 22 21]) (.seq (.cond (.t 23) (.skip) (.exit 0)) (.seq (.blk 1 (.seq (.r [.n 24 22,.i 25 4 20 22,.v 26 4 25,.q 7 (.alloc [.i .i64 0]),.q 8 (.alloc [.i .u16 0,.i .u8 0,.i .u8 0,.i .u32 0]),.u (.store 1 (.t 7) (.t 24)),.u (.store 4 (.t 8) (.t 26))]) (.seq (.seq (.r [.d 27 7,.w 28 .eql 27 0]) (.cond (.t 28) (.r [.d 29 6,⟨(some 30),.callVW (.t 29) [.k 0,(.c (.i .u16 0))],none⟩]) (.skip))) (.cut (xZ a b c))))) (.cut (x5 a b c))))))))))⟩
def aW:ICode:=.r [.n 9 48]
def bW(fw:Nat):ICode:=.blk 3 (.reg true [.d 49 6,.n 50 9,.d 51 4,.d 52 7,.i 53 1 51 52,.d 54 53,.v 55 4 8,.l 56 fw [.t 55],.b 57 .or 54 56,⟨(some 58),.callVW (.t 49) [.t 50,.t 57],none⟩])
structure RecOk (P:Program) (r0:Loop) (ps:List Nat) (ai bi:ICode):Prop where
 st:r0.state = .ready
 pd:r0.pending=none
 ok:LoopOk P r0 ps ai bi
theorem qgC{i:Ins}:List.take 4 (List.drop 0 (qv i))=qv i:=rfl
theorem qkP{i:Ins}:4<=(qv i).length:=Nat.le_refl 4
def qd1(P:Program)(gc:Nat):Prop:=∀(s:List (BitVec 16)) (r:List Bool),r.length=s.length->∀j:Nat,j<s.length->∀x:BitVec 16,
  Upd P gc [.i .i64 j,.i .u16 (x.toNat:Int),.ptr 3 0,.ptr 2 0] (ky [] s r) (.tup []) (ky [] (z9 s r j x) (r.set j true))
def cWr(P:Program)(g:Nat):Prop:=∀i,InsOk i->qf P g [.agg (qv i)] (.i .u16 ((wrM i).toNat:Int))
set_option maxHeartbeats 1000000 in
theorem qam{g1 g2 g3 gc gv gw:Nat}(hcome:qd1 P gc)(hwr:cWr P g3)(p:List Ins)(hp:p.length<=4096)(i:Ins)(hi:InsOk i)(j:Nat)(l:List Nat)
  (r0:Loop) (hr:RecOk P r0 [48] aW (bW g3)) (L:List Nat) (ex:List AV) (hex:qw ex=true) (cp:Nat) (hcp:L.length<=cp) (hL:∀n ∈ L,j<n) (hL4:L.length<=4)
  (x:BitVec 16) (s0:List (BitVec 16)×List Bool) (hs1:s0.1.length=p.length) (hs2:s0.2.length=p.length) (hx:s0.1[j]?=some x) (Qf:AV->Hp->Prop)
  (hQ:Qf (.tup []) (mkH 0 (wI p gc l (goM p.length (x ||| wrM i) L s0) j i++[.map (za r0 (wTr gv gw p j i)),.cells 0 true false (rNt L++ex)])))
  {t':Tr AV} {h':Hp} (hw:Wk 11 t' h' (mkT [(0,.yl 10),(3,.pf [.i .i64 (p.length:Int)] 0),(49,.sl 11 0 L.length cp false),(50,.i .i64 (L.length:Int)),(51,.i .i64 0)]) (mkH 0 (wI p gc l s0 j i++[.map (za r0 (wTr gv gw p j i)),.cells 0 true false (rNt L++ex)]))) :
  S P 11 (qZ g1 g2) (vo [] Qf) t' h':=by
 refine S.weak hw (qA ?_);have hid:=qdG hr.st hr.pd;simp only[qZ,wI,wkB,List.cons_append,List.nil_append,vI,simprocAttr];simp (decide:=true) only [↓vS,vT,simprocAttr]
 refine SL.loopn (α:=Nat×(List (BitVec 16)×List Bool)) (fun a=>[(0,.yl 10),(3,.pf [.i .i64 (p.length:Int)] 0),(49,.sl 11 0 L.length cp false),(50,.i .i64 (L.length:Int)),(51,.i .i64 (a.1:Int))])
  (fun a=>wI p gc l a.2 j i++[.map (za r0 (wTr gv gw p j i)),.cells 0 true false (rNt L++ex)])
  (fun a=>a.1<=L.length∧a.2.1.length=p.length∧a.2.2.length=p.length∧a.2.1[j]?=some x∧goM p.length (x ||| wrM i) (L.drop a.1) a.2=goM p.length (x ||| wrM i) L s0) (fun a=>L.length-a.1) (0,s0) [0,1,2,3,4,5,6,7,8,9,10,11] ?_ ?_ ?_ rfl ?_ ?_ ?_ ?_
 ·simp[vw,wI,wkB]
 ·simp[vw,wI,wkB,wTr,wT,vi,Qv,qb,qp,qn,qh,qd,hex,qv,xW,jm,xn,zx,zH]
 ·simp
 ·simp[wI,wkB]
 ·intro b hb;have:b=0∨b=1∨b=2∨b=3∨b=4∨b=5∨b=6∨b=7∨b=8∨b=9∨b=10:=by omega
  rcases this with rfl|rfl|rfl|rfl|rfl|rfl|rfl|rfl|rfl|rfl|rfl<;>rfl
 ·exact⟨Nat.zero_le _,hs1,hs2,hx,rfl⟩
 rintro⟨q,s,r⟩ ⟨hq,hl1,hl2,hxq,hgo⟩ G ih;simp only at hq hl1 hl2 hxq hgo;simp only[wI,wkB,List.cons_append,List.nil_append,vI,simprocAttr]
 by_cases hlt:q<L.length
 ·obtain⟨n,hn⟩:∃n,L[q]?=some n:=⟨_,List.getElem?_eq_getElem hlt⟩;have hjn:=hL n (List.mem_of_getElem? hn);have hgn:(rNt L++ex)[q]?=some (.i .i64 (n:Int)):=by rw[List.getElem?_append_left (by rw[qb7];exact hlt),qb4,hn];rfl
  have hqc:q<cp:=by omega
  simp (decide:=true) only [↓vS,vT,simprocAttr,hlt,Nat.mul_one,hgn]
  have hdr:L.drop q=n::L.drop (q+1):=by
   obtain⟨hh,he⟩:=List.getElem?_eq_some_iff.1 hn;rw[List.drop_eq_getElem_cons hh,he]
  rw[hdr,kF] at hgo
  by_cases hnl:n<p.length
  ·have hnl':¬(p.length:Int)<=(n:Int):=by omega
   rw[if_pos hnl] at hgo;have hw1:IntKind.wrap .i64 ((q:Int)+1)=((q+1:Nat):Int):=by rw[qo (by omega) (by omega)];omega
   have hjs:j<p.length:=hl1 ▸ (List.getElem?_eq_some_iff.1 hxq).1;have hcm:=hcome s r (by omega) n (by omega) (x ||| wrM i)
   have hln:(z9 s r n (x ||| wrM i)).length=p.length:=by simp[z9,hl1]
   have hxn:(z9 s r n (x ||| wrM i))[j]?=some x:=by unfold z9;rw[List.getElem?_set_ne (by omega)];exact hxq
   have hln2:(r.set n true).length=p.length:=by simp[hl2]
   have ih2:=ih (q+1,z9 s r n (x ||| wrM i),r.set n true) ⟨hlt,hln,hln2,hxn,hgo⟩ (by simp only;omega)
   simp (decide:=true) only [↓vS,vT,simprocAttr,hnl'];refine SY.mk (r:=r0) (ts:=wTr gv gw p j i) (ps:=[48]) (ai:=aW) (bi:=bW g3) (by simp[Tr.get_set]) hr.st hr.ok (Nat.zero_le _) (by show 10<12;decide) rfl ?_;rw[show mkT (wTr gv gw p j i)=mkT [(0,.fz p.length (rP p)),(1,vi gv),(4,.ptr 5 0),(5,.ptr 6 0),(6,.ptr 7 0),(20,.fz p.length (rP p)),(21,.i .i64 (p.length:Int)),(22,.i .i64 (j:Int)),(7,.ptr 8 0),(8,.ptr 9 0),(47,Qv gw p j i)] from rfl]
   refine qA ?_;simp only[aW,qfI,vI,simprocAttr];simp only[↓vS,vT,simprocAttr];refine⟨wTr gv gw p j i,by simp[Tr.get_set],?_⟩
   refine qA ?_;simp only[wc,bW,vI,simprocAttr];simp (decide:=true) only [↓vS,vT,simprocAttr];refine jp ?_;simp (decide:=true) only [↓vS,vT,simprocAttr,hl1,hjs,Nat.mul_one,yU,hxq,Option.map_some,qgC,qkP];refine (hwr i hi).pc ?_;simp (decide:=true) only [↓vS,vT,simprocAttr,qpC];refine hcm.pc (vs:=[.i .i64 n,.i .u16 ((x ||| wrM i).toNat:Int),.ptr 3 0,.ptr 2 0]) [3,4,5,6] (Lent.of (by decide) ?_) ?_
   ·simp[vL,vw,ky,jG qn,zT qn,jG qh,zT qh,hl1]
   simp only[vK,simprocAttr,ky,zT qn,zT qh];simp (decide:=true) only [↓vS,vT,simprocAttr];refine⟨bsy r0,wTr gv gw p j i,by simp[Tr.get_set],?_⟩
   rw[qex,hid];simp only[wc];simp (decide:=true) only [↓vS,vT,simprocAttr,hw1,hnl'];refine ih2 _ _ (Wk.mkn _ _ [0,1,2,3,4,5,6,7,8,9,10,11] ?_ ?_ ?_ rfl ?_ ?_)
   ·simp[vw,wI,wkB]
   ·simp[vw,wI,wkB,wTr,wT,vi,Qv,qb,qp,qn,qh,qd,hex,qv,xW,jm,xn,zx,zH]
   ·simp
   ·simp[wI,wkB]
   ·intro b hb;have:b=0∨b=1∨b=2∨b=3∨b=4∨b=5∨b=6∨b=7∨b=8∨b=9∨b=10:=by omega
    rcases this with rfl|rfl|rfl|rfl|rfl|rfl|rfl|rfl|rfl|rfl|rfl<;>rfl
  ·have hnl':(p.length:Int)<=(n:Int):=by omega
   rw[if_neg hnl] at hgo;simp (decide:=true) only [↓vS,vT,simprocAttr,hnl'];rw[← hgo] at hQ;exact hQ
 ·obtain rfl:q=L.length:=by omega
  simp (decide:=true) only [↓vS,vT,simprocAttr,hlt];rw[List.drop_length] at hgo;rw[← hgo] at hQ;exact hQ
end Go.Kc
end
section
/- The ways from a place. Condition: the functions' texts are these. -/
namespace Go.Kc
variable {P:Program} {f:Nat}
def yv(a:Nat):IFn:=⟨[.tmp 6],.seq (.r [.q 3 (.box (.t 0)),.q 4 (.box (.t 1)),.q 5 (.box (.t 2)),.m 6 (.c (.nilf))]) (.seq (.r [.q 7 (.mkF a [] [.t 3,.t 4,.t 5]),.n 6 7]) (.ret))⟩
theorem qp3{g:Nat}(hc:qt P f (yv g)=true)(i:Ins)(j n:Nat):qf P f [.agg (qv i),.i .i64 (j:Int),.i .i64 (n:Int)] (.fn g [] [.pf (qv i) 0,.pf [.i .i64 (j:Int)] 0,.pf [.i .i64 (n:Int)] 0]):=by
 refine qf.mk hc rfl ?_;simp only[yv,vI,simprocAttr];simp (decide:=true) only [↓vS,vT,simprocAttr];simp[vZ,vP,Tr.get_set,qv]
theorem qb5{x:Nat}:rNt [x]=[.i .i64 (x:Int)]:=rfl
theorem qb6{x y:Nat}:rNt [x,y]=[.i .i64 (x:Int),.i .i64 (y:Int)]:=rfl
theorem qik{g1 g2:Nat}(g3 gv gw gc:Nat)(p:List Ins)(i:Ins)(j:Nat)(l:List Nat)(r0:Loop)(s0:List (BitVec 16)×List Bool)(Qf:AV->Hp->Prop)
  (hQ:Qf (.tup []) (mkH 0 (wI p gc l s0 j i++[.map (za r0 (wTr gv gw p j i))])))
  {t':Tr AV} {h':Hp} (hw:Wk 11 t' h' (mkT [(50,.i .i64 0),(51,.i .i64 0)]) (mkH 0 (wI p gc l s0 j i++[.map (za r0 (wTr gv gw p j i))]))) :
  S P 11 (qZ g1 g2) (vo [] Qf) t' h':=by
 refine S.weak hw (qA ?_);simp only[qZ,wI,wkB,List.cons_append,List.nil_append,vI,simprocAttr];simp (decide:=true) only [↓vS,vT,simprocAttr];refine SL.loopn (α:=Unit) (fun _=>[(50,.i .i64 0),(51,.i .i64 0)]) (fun _=>wI p gc l s0 j i++[.map (za r0 (wTr gv gw p j i))]) (fun _=>True) (fun _=>0) () [0,1,2,3,4,5,6,7,8,9,10] ?_ ?_ ?_ rfl ?_ ?_ ?_ ?_
 ·simp[vw,wI,wkB]
 ·simp[vw,wI,wkB,wTr,wT,vi,Qv,qb,qp,qn,qh,qd,qv,xW,jm,xn,zx,zH]
 ·simp
 ·simp[wI,wkB]
 ·intro b hb;have:b=0∨b=1∨b=2∨b=3∨b=4∨b=5∨b=6∨b=7∨b=8∨b=9∨b=10:=by omega
  rcases this with rfl|rfl|rfl|rfl|rfl|rfl|rfl|rfl|rfl|rfl|rfl<;>rfl
 ·trivial
 rintro _ _ G _;simp only[wI,wkB,List.cons_append,List.nil_append,vI,simprocAttr];simp (decide:=true) only [↓vS,vT,simprocAttr];exact hQ
set_option maxHeartbeats 1000000 in
theorem qii{g1 g2 g3 g4 gc gv gw:Nat}(hcw:qt P gw (z0 g1 g2)=true)(hof:cOf P g1)(hcc:qt P g2 qu=true)(hcome:qd1 P gc)(hwr:cWr P g3)
  (hwy:∀i (j n:Nat),qf P g4 [.agg (qv i),.i .i64 (j:Int),.i .i64 (n:Int)] (.fn gw [] [.pf (qv i) 0,.pf [.i .i64 (j:Int)] 0,.pf [.i .i64 (n:Int)] 0]))
  (p:List Ins) (hp:p.length<=4096) (i:Ins) (hi:InsOk i) (j:Nat) (hj:j<p.length) (l:List Nat)
  (x:BitVec 16) (s0:List (BitVec 16)×List Bool) (hs1:s0.1.length=p.length) (hs2:s0.2.length=p.length) (hx:s0.1[j]?=some x) (Q:X->Tr AV->Hp->Prop)
  (hQ:∀t'' h'',Wk 2 t'' h'' (mkT (wT gv p j)) (mkH 0 (wkB p gc l (goM p.length (x ||| wrM i) (zg i j) s0)))->Q .normal t'' h'')
  {t':Tr AV} {h':Hp} (hw:Wk 2 t' h' (mkT (wT gv p j++[(7,.ptr 8 0),(8,.ptr 9 0)])) (mkH 0 (wI p gc l s0 j i))) :
  S P 2 (x4 gc g4 g3) Q t' h':=by
 refine S.weak hw (qA ?_);simp only[x4,wT,wI,wkB,List.cons_append,List.nil_append,vI,simprocAttr];simp (decide:=true) only [↓vS,vT,simprocAttr,qgC,qkP];refine (hwy i j p.length).sc ?_;simp (decide:=true) only [↓vS,vT,simprocAttr];refine S.weak (Wk.mkn (wTr gv gw p j i) (wI p gc l s0 j i) [0,1,2,3,4,5,6,7,8,9] ?_ ?_ ?_ rfl ?_ ?_) ?_
 ·simp[vw,wTr,wT,vi,Qv,qb,wI,wkB,qv]
 ·simp[vw,wI,wkB,qb,qp,qn,qh,qd,qv]
 ·simp
 ·simp[wI,wkB]
 ·intro b hb;have:b=0∨b=1:=by omega
  rcases this with rfl|rfl<;>rfl
 refine S.rangeF (by simp[jd,wI,wkB]) (by simp[wTr,wT]) ⟨rfl,rfl⟩ ?_;refine qgT.2 ⟨Qv gw p j i,by simp[wTr,wT,mkT,Tr.get_set],?_⟩
 refine⟨qcA hcw,fun r0 hr0 hp0 hlo=>SC.mk hcw ?_⟩
 have hrec:RecOk P r0 [48] aW (bW g3):=⟨hr0,hp0,hlo⟩;have hid:=qdG hr0 hp0;obtain⟨Qf,hQf⟩:∃Qf:AV->Hp->Prop,Qf=qlX (mkH 0 (wI p gc l s0 j i)).sz (fun e t h=>onX e (Q .normal t h) (fun i=>if i=2 then Q .normal t h else Q (.exit i) t h) (Q .ret t h)) (mkT (wTr gv gw p j i)):=⟨_,rfl⟩
 have hfin0:Qf (.tup []) (mkH 0 (wI p gc l (goM p.length (x ||| wrM i) (zg i j) s0) j i++[.map (za r0 (wTr gv gw p j i))])):=by
  skip
  rw[hQf];refine⟨r0,wTr gv gw p j i,by rw[zq];rfl,by rw[hr0];decide,?_⟩
  rw[hp0];simp only[wI,wkB,wTr,wT,List.cons_append,List.nil_append,vI,simprocAttr,wc];simp only[yP];refine hQ _ _ (Wk.mkn _ _ [0,1,2,3,4,5,6,7] ?_ ?_ ?_ rfl ?_ ?_)
  ·simp[vw,wT,vi,Qv,qb,wkB,qv]
  ·simp[vw,wkB,qb,qp,qn,qh,qd,qv]
  ·simp
  ·simp[wkB]
  ·intro b hb;have:b=0∨b=1:=by omega
   rcases this with rfl|rfl<;>rfl
 have hfin1:∀cs:List AV,Qf (.tup []) (mkH 0 (wI p gc l (goM p.length (x ||| wrM i) (zg i j) s0) j i++[.map (za r0 (wTr gv gw p j i)),.cells 0 true false cs])):=by
  intro cs;rw[hQf];refine⟨r0,wTr gv gw p j i,by rw[zq];rfl,by rw[hr0];decide,?_⟩
  rw[hp0];simp only[wI,wkB,wTr,wT,List.cons_append,List.nil_append,vI,simprocAttr,wc];simp only[yP];refine hQ _ _ (Wk.mkn _ _ [0,1,2,3,4,5,6,7] ?_ ?_ ?_ rfl ?_ ?_)
  ·simp[vw,wT,vi,Qv,qb,wkB,qv]
  ·simp[vw,wkB,qb,qp,qn,qh,qd,qv]
  ·simp
  ·simp[wkB]
  ·intro b hb;have:b=0∨b=1:=by omega
   rcases this with rfl|rfl<;>rfl
 rw[← hQf];show S P 11 (z0 g1 g2).body (vo [] Qf) (wp [.yl 10,.pf (qv i) 0,.pf [.i .i64 (j:Int)] 0,.pf [.i .i64 (p.length:Int)] 0] 0 .leaf) (mkH 0 (wI p gc l s0 j i++[.map (za r0 (wTr gv gw p j i))]));refine qA ?_;simp only[z0,wI,wkB,qv,List.cons_append,List.nil_append,vI,simprocAttr];simp (decide:=true) only [↓vS,vT,simprocAttr];refine (hof i.code).sc ?_;simp (decide:=true) only [↓vS,vT,simprocAttr];have hj1:IntKind.wrap .i64 ((j:Int)+1)=((j+1:Nat):Int):=by rw[qo (by omega) (by omega)];omega
 have hjj:∀a:Int,0<=a->a<=4294967295->IntKind.wrap .i64 (IntKind.wrap .i64 ((j:Int)+1)+IntKind.wrap .i64 a)=((j+1+a.toNat:Nat):Int):=by
  intro a h1 h2;rw[hj1,qo (x:=a) (by omega) (by omega),qo (by omega) (by omega)];omega
 have hk:=hjj i.k hi.k0 hi.k1;have hlo0:0<=loM i∧loM i<=255:=by have:=hi.t0;have:=hi.t1;have:=hi.f0;have:=hi.f1;unfold loM;split<;>omega
 have hhi0:0<=hiM i∧hiM i<=255:=by have:=hi.t0;have:=hi.t1;have:=hi.f0;have:=hi.f1;unfold hiM;split<;>omega
 have hlo:=hjj (loM i) hlo0.1 (by omega);have hhi:=hjj (hiM i) hhi0.1 (by omega)
 by_cases hA:qJ i.code=0∨qJ i.code=5
 ·have hwl:zg i j=[]:=by unfold zg;rw[if_pos hA]
  have h4:¬qJ i.code=4:=by omega
  rw[hwl] at hfin0;have fin0:∀{t':Tr AV} {h':Hp},Wk 11 t' h' (mkT [(50,.i .i64 0),(51,.i .i64 0)]) (mkH 0 (wI p gc l s0 j i++[.map (za r0 (wTr gv gw p j i))]))->S P 11 (qZ g1 g2) (vo [] Qf) t' h':=fun hw=>qik g3 gv gw gc p i j l r0 s0 Qf hfin0 hw
  rcases hA with hA|hA<;>(
   simp (decide:=true) only [↓vS,vT,simprocAttr,hA];refine (qgH hcc).sc ?_;simp (decide:=true) only [↓vS,vT,simprocAttr];refine fin0 (Wk.mkn _ _ [0,1,2,3,4,5,6,7,8,9,10] ?_ ?_ ?_ rfl ?_ ?_)
   ·simp[vw,wI,wkB]
   ·simp[vw,wI,wkB,wTr,wT,vi,Qv,qb,qp,qn,qh,qd,qv,xW,jm,xn,zx,zH]
   ·simp
   ·simp[wI,wkB]
   ·intro b hb;have:b=0∨b=1∨b=2∨b=3∨b=4∨b=5∨b=6∨b=7∨b=8∨b=9∨b=10:=by omega
    rcases this with rfl|rfl|rfl|rfl|rfl|rfl|rfl|rfl|rfl|rfl|rfl<;>rfl)
 by_cases h4:qJ i.code=4
 ·have h0:¬qJ i.code=0:=fun h=>hA (.inl h)
  have h5:¬qJ i.code=5:=fun h=>hA (.inr h)
  simp (decide:=true) only [↓vS,vT,simprocAttr,h4,hj1]
  by_cases hja:i.code=5
  ·have hwl:zg i j=[j+1+i.k.toNat]:=by unfold zg;rw[if_neg hA,if_pos h4,if_pos hja]
   rw[if_pos hja];simp only[hk];refine (qcB hcc ((j+1+i.k.toNat:Nat):Int)).sc (vs:=[.sl 0 0 1 1 false]) [12] (Lent.of (by decide) ?_) ?_
   ·simp[vL,vw]
   simp only[vK,simprocAttr];simp (decide:=true) only [↓vS,vT,simprocAttr];refine qam (gv:=gv) (gw:=gw) (gc:=gc) hcome hwr p hp i hi j l r0 hrec [j+1+i.k.toNat] [] rfl 1 (by simp) (by simp;try omega) (by simp) x s0 hs1 hs2 hx Qf (by rw[← hwl];exact hfin1 _) (Wk.mkn _ _ [0,1,2,3,4,5,6,7,8,9,10,12] ?_ ?_ ?_ rfl ?_ ?_)
   ·simp[vw,wI,wkB]
   ·simp[vw,wI,wkB,wTr,wT,vi,Qv,qb,qp,qn,qh,qd,qv,xW,jm,xn,zx,zH,qb5,qb6]
   ·simp
   ·simp[wI,wkB]
   ·intro b hb;have:b=0∨b=1∨b=2∨b=3∨b=4∨b=5∨b=6∨b=7∨b=8∨b=9∨b=10:=by omega
    rcases this with rfl|rfl|rfl|rfl|rfl|rfl|rfl|rfl|rfl|rfl|rfl<;>rfl
  ·rw[if_neg hja];simp only[show (if i.jf<i.jt then i.jf else i.jt)=loM i from rfl,show (if i.jt<i.jf then i.jf else i.jt)=hiM i from rfl,hlo,hhi]
   by_cases hlh:loM i=hiM i
   ·have hwl:zg i j=[j+1+(loM i).toNat]:=by unfold zg;rw[if_neg hA,if_pos h4,if_neg hja,if_pos hlh]
    refine (qcC hcc ((j+1+(loM i).toNat:Nat):Int) ((j+1+(hiM i).toNat:Nat):Int)).sc (vs:=[.sl 0 0 2 2 false]) [11] (Lent.of (by decide) ?_) ?_
    ·simp[vL,vw]
    rw[hlh,if_pos rfl,if_pos rfl];rw[hlh] at hwl;simp only[vK,simprocAttr];simp (decide:=true) only [↓vS,vT,simprocAttr];refine qam (gv:=gv) (gw:=gw) (gc:=gc) hcome hwr p hp i hi j l r0 hrec [j+1+(hiM i).toNat] [.i .i64 0] rfl 2 (by simp) (by simp;try omega) (by simp) x s0 hs1 hs2 hx Qf (by rw[← hwl];exact hfin1 _) (Wk.mkn _ _ [0,1,2,3,4,5,6,7,8,9,10,11] ?_ ?_ ?_ rfl ?_ ?_)
    ·simp[vw,wI,wkB]
    ·simp[vw,wI,wkB,wTr,wT,vi,Qv,qb,qp,qn,qh,qd,qv,xW,jm,xn,zx,zH,qb5,qb6]
    ·simp
    ·simp[wI,wkB]
    ·intro b hb;have:b=0∨b=1∨b=2∨b=3∨b=4∨b=5∨b=6∨b=7∨b=8∨b=9∨b=10:=by omega
     rcases this with rfl|rfl|rfl|rfl|rfl|rfl|rfl|rfl|rfl|rfl|rfl<;>rfl
   ·have hwl:zg i j=[j+1+(loM i).toNat,j+1+(hiM i).toNat]:=by unfold zg;rw[if_neg hA,if_pos h4,if_neg hja,if_neg hlh]
    refine (qcC hcc ((j+1+(loM i).toNat:Nat):Int) ((j+1+(hiM i).toNat:Nat):Int)).sc (vs:=[.sl 0 0 2 2 false]) [11] (Lent.of (by decide) ?_) ?_
    ·simp[vL,vw]
    rw[if_neg (by omega),if_neg (by omega)];simp only[vK,simprocAttr];simp (decide:=true) only [↓vS,vT,simprocAttr];refine qam (gv:=gv) (gw:=gw) (gc:=gc) hcome hwr p hp i hi j l r0 hrec [j+1+(loM i).toNat,j+1+(hiM i).toNat] [] rfl 2 (by simp) (by simp;try omega) (by simp) x s0 hs1 hs2 hx Qf (by rw[← hwl];exact hfin1 _) (Wk.mkn _ _ [0,1,2,3,4,5,6,7,8,9,10,11] ?_ ?_ ?_ rfl ?_ ?_)
    ·simp[vw,wI,wkB]
    ·simp[vw,wI,wkB,wTr,wT,vi,Qv,qb,qp,qn,qh,qd,qv,xW,jm,xn,zx,zH,qb5,qb6]
    ·simp
    ·simp[wI,wkB]
    ·intro b hb;have:b=0∨b=1∨b=2∨b=3∨b=4∨b=5∨b=6∨b=7∨b=8∨b=9∨b=10:=by omega
     rcases this with rfl|rfl|rfl|rfl|rfl|rfl|rfl|rfl|rfl|rfl|rfl<;>rfl
 ·have h0:¬qJ i.code=0:=fun h=>hA (.inl h)
  have h5:¬qJ i.code=5:=fun h=>hA (.inr h)
  have hwl:zg i j=[j+1]:=by unfold zg;rw[if_neg hA,if_neg h4]
  simp (decide:=true) only [↓vS,vT,simprocAttr,h0,h4,h5,hj1];simp only[hj1];refine (qcB hcc ((j+1:Nat):Int)).sc (vs:=[.sl 0 0 1 1 false]) [11] (Lent.of (by decide) ?_) ?_
  ·simp[vL,vw]
  simp only[vK,simprocAttr];simp (decide:=true) only [↓vS,vT,simprocAttr];refine qam (gv:=gv) (gw:=gw) (gc:=gc) hcome hwr p hp i hi j l r0 hrec [j+1] [] rfl 1 (by simp) (by simp;try omega) (by simp) x s0 hs1 hs2 hx Qf (by rw[← hwl];exact hfin1 _) (Wk.mkn _ _ [0,1,2,3,4,5,6,7,8,9,10,11] ?_ ?_ ?_ rfl ?_ ?_)
  ·simp[vw,wI,wkB]
  ·simp[vw,wI,wkB,wTr,wT,vi,Qv,qb,qp,qn,qh,qd,qv,xW,jm,xn,zx,zH,qb5,qb6]
  ·simp
  ·simp[wI,wkB]
  ·intro b hb;have:b=0∨b=1∨b=2∨b=3∨b=4∨b=5∨b=6∨b=7∨b=8∨b=9∨b=10:=by omega
   rcases this with rfl|rfl|rfl|rfl|rfl|rfl|rfl|rfl|rfl|rfl|rfl<;>rfl
end Go.Kc
end
section
/- The places that read a cell that isn't sure. Condition: the functions' texts are these. -/
namespace Go.Kc
variable {P:Program} {f:Nat}
abbrev WSt:=List Nat×(List (BitVec 16)×List Bool)
def xe(j:Nat)(st:List (BitVec 16)×List Bool):List (BitVec 16)×List Bool:=if j=0 then (z9 st.1 st.2 0 0#16,st.2.set 0 true) else st
def stM(n j:Nat)(i:Ins)(st:WSt):WSt :=
 if (xe j st.2).2.getD j false=true then (QR i ((xe j st.2).1.getD j 0#16) j st.1,goM n ((xe j st.2).1.getD j 0#16 ||| wrM i) (zg i j) (xe j st.2)) else (st.1,xe j st.2)
def wkM(n:Nat):Nat->List Ins->WSt->WSt
 | _,[],st=>st
 | j,i::L,st=>wkM n (j+1) L (stM n j i st)
def vh(p:List Ins):List Nat:=(wkM p.length 0 p ([],(List.replicate p.length 0#16,List.replicate p.length false))).1
theorem qia{j:Nat}{st:List (BitVec 16)×List Bool}:(xe j st).1.length=st.1.length∧(xe j st).2.length=st.2.length:=by
 unfold xe;split<;>simp[z9]
theorem qih{i:Ins}{x:BitVec 16}{j:Nat}{l:List Nat}:(QR i x j l).length<=l.length+1:=by
 unfold QR;split<;>simp
def qoR(P:Program)(gv:Nat):Prop:=∀p:List Ins,p.length<=4096->∀l:List Nat,l.length<=4096->∀(j:Nat) (i:Ins),p[j]?=some i->InsOk i->∀x:BitVec 16,
  Upd P gv [.i .i64 j,.i .u16 (x.toNat:Int),.ptr 0 0,.ptr 1 0] [.cells 0 true false [.fz p.length (rP p)],.cells 0 true false [.own 2 l.length],.cells 1 true true (rNt l)] (.tup [])
   [.cells 0 true false [.fz p.length (rP p)],.cells 0 true false [.own 3 (QR i x j l).length],.dead,.cells 1 true true (rNt (QR i x j l))]
set_option maxHeartbeats 1000000 in
theorem qdg{g1 g2 g3 g4 gc gv gw:Nat}(hcw:qt P gw (z0 g1 g2)=true)(hof:cOf P g1)(hcc:qt P g2 qu=true)(hcome:qd1 P gc)(hwr:cWr P g3)(hvis:qoR P gv)
  (hwy:∀i (j n:Nat),qf P g4 [.agg (qv i),.i .i64 (j:Int),.i .i64 (n:Int)] (.fn gw [] [.pf (qv i) 0,.pf [.i .i64 (j:Int)] 0,.pf [.i .i64 (n:Int)] 0]))
  (p:List Ins) (hp:p.length<=4096) (i:Ins) (hi:InsOk i) (j:Nat) (hpi:p[j]?=some i) (l:List Nat) (hl:l.length<=4096)
  (s:List (BitVec 16)) (r:List Bool) (hs1:s.length=p.length) (hs2:r.length=p.length) (Q:X->Tr AV->Hp->Prop)
  (hQ:∀e t'' h'',(e = .normal∨e = .exit 1)->Wk 2 t'' h'' (mkT (wT gv p j)) (mkH 0 (if r.getD j false=true then wkB p gc (QR i (s.getD j 0#16) j l) (goM p.length (s.getD j 0#16 ||| wrM i) (zg i j) (s,r)) else wkB p gc l (s,r)))->Q e t'' h'')
  {t':Tr AV} {h':Hp} (hw:Wk 2 t' h' (mkT (wT gv p j++[(7,.ptr 8 0),(8,.ptr 9 0)])) (mkH 0 (wI p gc l (s,r) j i))) :
  S P 2 (xZ gc g4 g3) Q t' h':=by
 refine S.weak hw (qA ?_);have hlt:j<p.length:=(List.getElem?_eq_some_iff.1 hpi).1;obtain⟨x,hx⟩:∃x,s[j]?=some x:=⟨_,List.getElem?_eq_getElem (by omega)⟩;obtain⟨b,hb⟩:∃b,r[j]?=some b:=⟨_,List.getElem?_eq_getElem (by omega)⟩;simp only[List.getD_eq_getElem?_getD,hx,hb,Option.getD_some] at hQ;simp only[xZ,wT,wI,wkB,List.cons_append,List.nil_append,vI,simprocAttr];cases b with
 | false =>
  rw[if_neg (by simp)] at hQ;simp (decide:=true) only [↓vS,vT,simprocAttr,hs1,hlt,Nat.mul_one,zY,hb,Option.map_some];refine hQ _ _ _ (.inr rfl) (Wk.mkn _ _ [0,1,2,3,4,5,6,7] ?_ ?_ ?_ rfl ?_ ?_)
  ·simp[vw,wT,vi,qb,wkB]
  ·simp[vw,wkB,qb,qp,qn,qh,qd,hs1]
  ·simp
  ·simp[wkB]
  ·intro b hb;have:b=0∨b=1:=by omega
   rcases this with rfl|rfl<;>rfl
 | true =>
  rw[if_pos rfl] at hQ;simp (decide:=true) only [↓vS,vT,simprocAttr,hs1,hlt,Nat.mul_one,zY,hb,Option.map_some];refine jp ?_;simp (decide:=true) only [↓vS,vT,simprocAttr,hs1,hlt,Nat.mul_one,yU,hx,Option.map_some,vi];refine (hvis p hp l hl j i hpi hi x).pc (vs:=[.i .i64 j,.i .u16 (x.toNat:Int),.ptr 0 0,.ptr 1 0]) [0,1,2] (Lent.of (by decide) ?_) ?_
  ·simp[vL,vw,jG (qb p),zT (qb p),jG qp,zT qp]
  simp only[vK,simprocAttr,zT (qb p),zT qp];simp (decide:=true) only [↓vS,vT,simprocAttr];refine qii hcw hof hcc hcome hwr hwy p hp i hi j hlt (QR i x j l) x (s,r) hs1 hs2 hx Q (fun t'' h'' hw=>hQ _ _ _ (.inl rfl) hw) (Wk.mkn _ _ [0,1,10,3,4,5,6,7,8,9] ?_ ?_ ?_ rfl ?_ ?_)
  ·simp[vw,wT,vi,qb,wI,wkB]
  ·simp[vw,wI,wkB,qb,qp,qn,qh,qd,hs1,qv]
  ·simp
  ·simp[wI,wkB]
  ·intro b hb;have:b=0∨b=1:=by omega
   rcases this with rfl|rfl<;>rfl
def ki(a b:Nat):IFn:=⟨[.tmp 2],.seq (.r [.q 1 (.box (.t 0)),.m 2 .N]) (.seq (.r [.q 3 (.alloc [.nils])]) (.seq (.r [.d 4 1,.q 5 (.mkF a [] [.t 1,.t 3]),.l 6 b [.t 4,.t 5]]) (.seq (.r [.d 7 3,.n 2 7]) (.ret))))⟩
set_option maxHeartbeats 1000000 in
theorem qk8{g0 g1 g2 g3 g4 gc gv gw:Nat}(hc:qt P f (ki gv g0)=true)(hck:qt P g0 (yu gc g4 g3)=true)
  (hcw:qt P gw (z0 g1 g2)=true) (hof:cOf P g1) (hcc:qt P g2 qu=true) (hcome:qd1 P gc) (hwr:cWr P g3) (hvis:qoR P gv)
  (hwy:∀i (j n:Nat),qf P g4 [.agg (qv i),.i .i64 (j:Int),.i .i64 (n:Int)] (.fn gw [] [.pf (qv i) 0,.pf [.i .i64 (j:Int)] 0,.pf [.i .i64 (n:Int)] 0]))
  (p:List Ins) (hp:p.length<=4096) (hi:∀i ∈ p,InsOk i):qf P f [.fz p.length (rP p)] (.fz (vh p).length (rNt (vh p))):=by
 refine qf.mk hc (by simp[qw,clo,qb]) ?_;simp only[ki,vI,simprocAttr];simp (decide:=true) only [↓vS,vT,simprocAttr];refine SC.mk hck (qA ?_);have hp':¬4096<(p.length:Int):=by omega
 have hr1:p.length<=qe:=by simp only[qe];omega
 have hr2:2*p.length<=qe:=by simp only[qe];omega
 have hr3:1*p.length<=qe:=by simp only[qe];omega
 have hf1:(List.replicate p.length [AV.i .u16 0]).flatten=rW (List.replicate p.length 0#16):=by
  generalize p.length=n
  induction n with
  | zero=>rfl
  | succ n ih=>rw[List.replicate_succ,List.replicate_succ,List.flatten_cons,ih];rfl
 have hf2:(List.replicate p.length [AV.b false]).flatten=rTt (List.replicate p.length false):=by
  generalize p.length=n
  induction n with
  | zero=>rfl
  | succ n ih=>rw[List.replicate_succ,List.replicate_succ,List.flatten_cons,ih];rfl
 simp only[yu,vI,simprocAttr];simp (decide:=true) only [↓vS,vT,simprocAttr,hp'];refine jp ?_;simp (decide:=true) only [↓vS,vT,simprocAttr,hr1,hr2,hr3,hf1,hf2]
 refine SL.loopn (α:=Nat×WSt) (fun a=>wT gv p a.1) (fun a=>wkB p gc a.2.1 a.2.2)
  (fun a=>a.1<=p.length∧a.2.1.length<=a.1∧a.2.2.1.length=p.length∧a.2.2.2.length=p.length∧wkM p.length a.1 (p.drop a.1) a.2=wkM p.length 0 p ([],(List.replicate p.length 0#16,List.replicate p.length false))) (fun a=>p.length-a.1) (0,([],(List.replicate p.length 0#16,List.replicate p.length false))) [0,1,99,2,3,4,5,6] ?_ ?_ ?_ rfl ?_ ?_ ?_ ?_
 ·simp[vw,wT,vi,qb,wkB]
 ·simp[vw,wkB,qb,qp,qn,qh,qd]
 ·simp
 ·simp[wkB]
 ·intro b hb;have:b=0∨b=1:=by omega
  rcases this with rfl|rfl<;>rfl
 ·exact⟨Nat.zero_le _,Nat.le_refl _,by simp,by simp,rfl⟩
 rintro⟨j,l,s,r⟩ ⟨hj,hl,hs1,hs2,hgo⟩ G ih;simp only at hj hl hs1 hs2 hgo;simp only[wT,wkB,List.cons_append,List.nil_append,vI,simprocAttr]
 by_cases hlt:j<p.length
 ·obtain⟨i,hpi⟩:∃i,p[j]?=some i:=⟨_,List.getElem?_eq_getElem hlt⟩;have hii:=hi i (List.mem_of_getElem? hpi);have hel:=z5 (f:=qv) (m:=4) zl hpi;rw[show p.flatMap qv=rP p from rfl] at hel
  have h4:j*4+4<=(rP p).length:=by rw[yT];omega
  have hdr:p.drop j=i::p.drop (j+1):=by
   obtain⟨hh,he⟩:=List.getElem?_eq_some_iff.1 hpi;rw[List.drop_eq_getElem_cons hh,he]
  rw[hdr] at hgo;have hw1:IntKind.wrap .i64 ((j:Int)+1)=((j+1:Nat):Int):=by rw[qo (by omega) (by omega)];omega
  simp only[qv] at hel;have ih2:=ih (j+1,stM p.length j i (l,s,r));have hst:wkM p.length j (i::p.drop (j+1)) (l,s,r)=wkM p.length (j+1) (p.drop (j+1)) (stM p.length j i (l,s,r)):=rfl;rw[hst] at hgo;have hlen0:=qia (j:=j) (st:=(s,r))
  have hI:j+1<=p.length∧(stM p.length j i (l,s,r)).1.length<=j+1∧(stM p.length j i (l,s,r)).2.1.length=p.length∧(stM p.length j i (l,s,r)).2.2.length=p.length:=by
   refine⟨hlt,?_⟩;unfold stM;split
   ·have:=qih (i:=i) (x:=(xe j (s,r)).1.getD j 0#16) (j:=j) (l:=l);have h2:=qbU (n:=p.length) (x:=(xe j (s,r)).1.getD j 0#16 ||| wrM i) (zg i j) (xe j (s,r))
    simp only at hlen0 ⊢;exact⟨by omega,by omega,by omega⟩
   ·simp only at hlen0 ⊢;exact⟨by omega,by omega,by omega⟩
  have ih3:=ih2 ⟨hI.1,hI.2.1,hI.2.2.1,hI.2.2.2,hgo⟩ (by simp only;omega)
  have hstM:(wkB p gc (stM p.length j i (l,s,r)).1 (stM p.length j i (l,s,r)).2)=if (xe j (s,r)).2.getD j false=true then wkB p gc (QR i ((xe j (s,r)).1.getD j 0#16) j l) (goM p.length ((xe j (s,r)).1.getD j 0#16 ||| wrM i) (zg i j) ((xe j (s,r)).1,(xe j (s,r)).2)) else wkB p gc l ((xe j (s,r)).1,(xe j (s,r)).2):=by
   unfold stM;split<;>rfl
  clear hgo hst ih2
  by_cases hj0:j=0
  ·have hj0':decide ((j:Int)=0)=true:=by rw[hj0];rfl
   have hcm:=hcome s r (by omega) 0 (by omega) 0#16;have he1:(xe j (s,r)).1=z9 s r 0 0#16:=by unfold xe;rw[if_pos hj0]
   have he2:(xe j (s,r)).2=r.set 0 true:=by unfold xe;rw[if_pos hj0]
   simp only[he1,he2] at hstM;have hs1':(z9 s r 0 0#16).length=p.length:=by simp[z9,hs1]
   simp (decide:=true) only [↓vS,vT,simprocAttr,hlt,hel,h4,hj0'];refine hcm.sc (vs:=[.i .i64 0,.i .u16 0,.ptr 3 0,.ptr 2 0]) [3,4,5,6] (Lent.of (by decide) ?_) ?_
   ·simp[vL,vw,ky,jG qn,zT qn,jG qh,zT qh]
   simp only[vK,simprocAttr,ky,zT qn,zT qh];simp (decide:=true) only [↓vS,vT,simprocAttr];refine qdg hcw hof hcc hcome hwr hvis hwy p hp i hii j hpi l (by omega) (z9 s r 0 0#16) (r.set 0 true) hs1' (by simp[hs2]) _ ?_ (Wk.mkn _ _ [0,1,2,3,4,5,6,7,8,9] ?_ ?_ ?_ rfl ?_ ?_)
   ·rintro e t'' h'' (rfl|rfl) hw2<;>(
     simp (decide:=true) only [↓vS,vT,simprocAttr];rw[← hstM] at hw2;refine S.weak hw2 (qA ?_);generalize (stM p.length j i (l,s,r))=st2 at ih3 hI;obtain⟨l2,s2,r2⟩:=st2;simp only at ih3 hI;simp only[x5,wT,wkB,List.cons_append,List.nil_append,vI,simprocAttr];simp (decide:=true) only [↓vS,vT,simprocAttr,hw1];refine ih3 _ _ (Wk.mkn _ _ [0,1,2,3,4,5,6,7] ?_ ?_ ?_ rfl ?_ ?_)
     ·simp[vw,wT,vi,qb,wkB]
     ·simp[vw,wkB,qb,qp,qn,qh,qd]
     ·simp
     ·simp[wkB]
     ·intro b hb;have:b=0∨b=1:=by omega
      rcases this with rfl|rfl<;>rfl)
   ·simp[vw,wT,vi,qb,wI,wkB]
   ·simp[vw,wI,wkB,qb,qp,qn,qh,qd,qv,hs1,hs1']
   ·simp
   ·simp[wI,wkB]
   ·intro b hb;have:b=0∨b=1:=by omega
    rcases this with rfl|rfl<;>rfl
  ·have hj0':decide ((j:Int)=0)=false:=by simp;omega
   have he1:(xe j (s,r)).1=s:=by unfold xe;rw[if_neg hj0]
   have he2:(xe j (s,r)).2=r:=by unfold xe;rw[if_neg hj0]
   simp only[he1,he2] at hstM;have hs1':=hs1;simp (decide:=true) only [↓vS,vT,simprocAttr,hlt,hel,h4,hj0'];refine qdg hcw hof hcc hcome hwr hvis hwy p hp i hii j hpi l (by omega) s r hs1 hs2 _ ?_ (Wk.mkn _ _ [0,1,2,3,4,5,6,7,8,9] ?_ ?_ ?_ rfl ?_ ?_)
   ·rintro e t'' h'' (rfl|rfl) hw2<;>(
     simp (decide:=true) only [↓vS,vT,simprocAttr];rw[← hstM] at hw2;refine S.weak hw2 (qA ?_);generalize (stM p.length j i (l,s,r))=st2 at ih3 hI;obtain⟨l2,s2,r2⟩:=st2;simp only at ih3 hI;simp only[x5,wT,wkB,List.cons_append,List.nil_append,vI,simprocAttr];simp (decide:=true) only [↓vS,vT,simprocAttr,hw1];refine ih3 _ _ (Wk.mkn _ _ [0,1,2,3,4,5,6,7] ?_ ?_ ?_ rfl ?_ ?_)
     ·simp[vw,wT,vi,qb,wkB]
     ·simp[vw,wkB,qb,qp,qn,qh,qd]
     ·simp
     ·simp[wkB]
     ·intro b hb;have:b=0∨b=1:=by omega
      rcases this with rfl|rfl<;>rfl)
   ·simp[vw,wT,vi,qb,wI,wkB]
   ·simp[vw,wI,wkB,qb,qp,qn,qh,qd,qv,hs1,hs1']
   ·simp
   ·simp[wI,wkB]
   ·intro b hb;have:b=0∨b=1:=by omega
    rcases this with rfl|rfl<;>rfl
 ·obtain rfl:j=p.length:=by omega
  have hu:vh p=l:=by unfold vh;rw[← hgo,List.drop_length];rfl
  simp (decide:=true) only [↓vS,vT,simprocAttr,hlt];rw[hu];simp[vZ,vP,Tr.get_set,zC qp];intro h0;rw[h0];rfl
end Go.Kc
end
section
/- What is wrong with an instruction. Condition: the functions' texts are these. -/
namespace Go.Kc
variable {P:Program} {f:Nat}
def qlI(P:Program)(g:Nat):Prop:=∀n,qf P g [.i .u16 n] (.b (xI n))
def qbK(i:Ins):Bool:=!xI i.code
def jv(i:Ins):Bool:=decide (i.code=32)&&(decide (i.k % 4≠0)||decide (64<=i.k))
def j6(i:Ins):Bool:=(decide (i.code=96)||decide (i.code=97)||decide (qJ i.code=2))&&decide (16<=i.k)
def j7(i:Ins):Bool:=decide (i.code=52)&&decide (i.k=0)
def j8(i:Ins):Bool:=(decide (i.code=100)||decide (i.code=116))&&decide (31<i.k)
def j9(i:Ins)(n:Nat):Bool:=if i.code=5 then decide ((n:Int)<=i.k) else decide (qJ i.code=4)&&decide ((n:Int)<=hiM i)
def wH(a:Nat):IFn:=⟨[.tmp 4],.seq (.r [.q 2 (.box (.t 0)),.m 4 .F]) (.seq (.r [.f 5 0 2,.d 6 5,.l 7 a [.t 6],.q 8 (.un .not (.t 7)),.n 4 8]) (.ret))⟩
theorem qq3{g:Nat}(hc:qt P f (wH g)=true)(hg:qlI P g)(i:Ins)(n:Nat):qf P f [.agg (qv i),.i .i64 n] (.b (qbK i)):=by
 refine qf.mk hc rfl ?_;simp only[wH,qv,vI,simprocAttr];simp (decide:=true) only [↓vS,vT,simprocAttr];refine (hg _).sc ?_;simp (decide:=true) only [↓vS,vT,simprocAttr];simp[vZ,qbK]
def wJ:IFn:=⟨[.tmp 4],.seq (.r [.q 2 (.box (.t 0)),.m 4 .F]) (.seq (.r [.f 5 0 2,.d 6 5,.q 7 (.bin .eql (.t 6) (.c (.i .u16 32))),.n 8 7,.h 9 3 2 8 true,.j 10 9 8 true,.g 11 (.bin .rem (.t 10) (.c (.i .u32 4))) 8 true,.g 12 (.bin .neq (.t 11) (.c (.i .u32 0))) 8 true,.y 13 12 8,.h 14 3 2 13 false,.j 15 14 13 false,.g 16 (.bin .geq (.t 15) (.c (.i .u32 64))) 13 false,.g 17 (.pick (.t 13) .T (.t 16)) 8 true,.p 18 8 17,.n 4 18]) (.ret))⟩
theorem qq4(hc:qt P f wJ=true)(i:Ins)(hi:InsOk i)(n:Nat):qf P f [.agg (qv i),.i .i64 n] (.b (jv i)):=by
 refine qf.mk hc rfl ?_;have h40:(4:Int)≠0:=by decide
 have h0:=hi.k0;have ht:i.k.tmod 4=i.k % 4:=Int.tmod_eq_emod_of_nonneg h0;unfold jv;simp only[wJ,qv,vI,simprocAttr]
 by_cases h1:i.code=32
 ·by_cases h2:i.k % 4=0
  ·simp (decide:=true) only [↓vS,vT,simprocAttr,h1,↓jB h40,ht,h2];simp[vZ]
  ·simp (decide:=true) only [↓vS,vT,simprocAttr,h1,↓jB h40,ht,h2];simp[vZ,h2]
 ·simp (decide:=true) only [↓vS,vT,simprocAttr,h1];simp[vZ]
def wK(a:Nat):IFn:=⟨[.tmp 4],.seq (.r [.q 2 (.box (.t 0)),.m 4 .F]) (.seq (.r [.f 6 0 2,.d 7 6,.q 8 (.bin .eql (.t 7) (.c (.i .u16 96))),.n 9 8,.h 10 0 2 9 false,.j 11 10 9 false,.g 12 (.bin .eql (.t 11) (.c (.i .u16 97))) 9 false,.o 13 9 12,.n 14 13,.h 15 0 2 14 false,.j 16 15 14 false,⟨(some 17),.callF a [.t 16],(some (14,false))⟩,.g 18 (.bin .eql (.t 17) (.c (.i .u8 2))) 14 false,.o 19 14 18,.n 5 19]) (.seq (.r [.n 20 5,.n 21 20,.h 22 3 2 21 true,.j 23 22 21 true,.g 24 (.bin .geq (.t 23) (.c (.i .u32 16))) 21 true,.p 25 21 24,.n 4 25]) (.ret)))⟩
theorem qq5{g:Nat}(hc:qt P f (wK g)=true)(hg:cOf P g)(i:Ins)(n:Nat):qf P f [.agg (qv i),.i .i64 n] (.b (j6 i)):=by
 refine qf.mk hc rfl ?_;unfold j6;simp only[wK,qv,vI,simprocAttr]
 by_cases h1:i.code=96
 ·simp (decide:=true) only [↓vS,vT,simprocAttr,h1];simp[vZ]
 by_cases h2:i.code=97
 ·simp (decide:=true) only [↓vS,vT,simprocAttr,h1,h2];simp[vZ]
 simp (decide:=true) only [↓vS,vT,simprocAttr,h1,h2];refine (hg _).sc ?_
 by_cases h3:qJ i.code=2
 ·simp (decide:=true) only [↓vS,vT,simprocAttr,h3];simp[vZ]
 ·simp (decide:=true) only [↓vS,vT,simprocAttr,h3];simp[vZ,h1,h2]
def wL:IFn:=⟨[.tmp 4],.seq (.r [.q 2 (.box (.t 0)),.m 4 .F]) (.seq (.r [.f 5 0 2,.d 6 5,.q 7 (.bin .eql (.t 6) (.c (.i .u16 52))),.n 8 7,.h 9 3 2 8 true,.j 10 9 8 true,.g 11 (.bin .eql (.t 10) (.c (.i .u32 0))) 8 true,.p 12 8 11,.n 4 12]) (.ret))⟩
theorem qq6(hc:qt P f wL=true)(i:Ins)(n:Nat):qf P f [.agg (qv i),.i .i64 n] (.b (j7 i)):=by
 refine qf.mk hc rfl ?_;unfold j7;simp only[wL,qv,vI,simprocAttr]
 by_cases h1:i.code=52
 ·simp (decide:=true) only [↓vS,vT,simprocAttr,h1];simp[vZ]
 ·simp (decide:=true) only [↓vS,vT,simprocAttr,h1];simp[vZ]
def wM:IFn:=⟨[.tmp 4],.seq (.r [.q 2 (.box (.t 0)),.m 4 .F]) (.seq (.r [.f 5 0 2,.d 6 5,.q 7 (.bin .eql (.t 6) (.c (.i .u16 100))),.n 8 7,.h 9 0 2 8 false,.j 10 9 8 false,.g 11 (.bin .eql (.t 10) (.c (.i .u16 116))) 8 false,.o 12 8 11,.n 13 12,.h 14 3 2 13 true,.j 15 14 13 true,.g 16 (.bin .gtr (.t 15) (.c (.i .u32 31))) 13 true,.p 17 13 16,.n 4 17]) (.ret))⟩
theorem qq7(hc:qt P f wM=true)(i:Ins)(n:Nat):qf P f [.agg (qv i),.i .i64 n] (.b (j8 i)):=by
 refine qf.mk hc rfl ?_;unfold j8;simp only[wM,qv,vI,simprocAttr]
 by_cases h1:i.code=100
 ·simp (decide:=true) only [↓vS,vT,simprocAttr,h1];simp[vZ]
 by_cases h2:i.code=116
 ·simp (decide:=true) only [↓vS,vT,simprocAttr,h1,h2];simp[vZ]
 simp (decide:=true) only [↓vS,vT,simprocAttr,h1,h2];simp[vZ]
def wN(a:Nat):IFn:=⟨[.tmp 4],.seq (.r [.q 2 (.box (.t 0)),.m 4 .F]) (.seq (.seq (.r [.f 5 0 2,.d 6 5,.q 7 (.bin .eql (.t 6) (.c (.i .u16 5)))]) (.cond (.t 7) (.seq (.r [.f 8 3 2,.d 9 8,.q 10 (.cvInt .i64 (.t 9)),.n 11 1,.b 12 .geq 10 11,.n 4 12]) (.ret)) (.skip))) (.seq (.r [.f 13 0 2,.d 14 13,.l 15 a [.t 14],.q 16 (.bin .eql (.t 15) (.c (.i .u8 4))),.n 17 16,.h 18 1 2 17 true,.j 19 18 17 true,.h 20 2 2 17 true,.j 21 20 17 true,.g 22 (.max (.t 19) (.t 21)) 17 true,.g 23 (.cvInt .i64 (.t 22)) 17 true,.y 24 1 17,.g 25 (.bin .geq (.t 23) (.t 24)) 17 true,.p 26 17 25,.n 4 26]) (.ret)))⟩
theorem qq8{g:Nat}(hc:qt P f (wN g)=true)(hg:cOf P g)(i:Ins)(hi:InsOk i)(n:Nat):qf P f [.agg (qv i),.i .i64 n] (.b (j9 i n)):=by
 refine qf.mk hc rfl ?_;have hk:IntKind.wrap .i64 i.k=i.k:=by have:=hi.k0;have:=hi.k1;exact qo (by omega) (by omega)
 have hh:IntKind.wrap .i64 (hiM i)=hiM i:=by
  have:=hi.t0;have:=hi.t1;have:=hi.f0;have:=hi.f1
  refine qo ?_ ?_<;>(unfold hiM;split<;>omega)
 unfold j9;simp only[wN,qv,vI,simprocAttr]
 by_cases h1:i.code=5
 ·rw[if_pos h1];simp (decide:=true) only [↓vS,vT,simprocAttr,h1,hk];simp[vZ]
 rw[if_neg h1];simp (decide:=true) only [↓vS,vT,simprocAttr,h1];refine (hg _).sc ?_
 by_cases h2:qJ i.code=4
 ·simp (decide:=true) only [↓vS,vT,simprocAttr,h2];simp only[show (if i.jt<i.jf then i.jf else i.jt)=hiM i from rfl,hh]
  simp[vZ]
 ·simp (decide:=true) only [↓vS,vT,simprocAttr,h2];simp[vZ]
def qa3(x:Int×Nat×Bool):List AV:=[.i .i64 x.1,.fn x.2.1 [] []]
theorem qc5(x:Int×Nat×Bool):(qa3 x).length=2:=rfl
def wsM(g1 g2 g3 g4 g5 g6:Nat)(i:Ins)(n:Nat):List (Int×Nat×Bool):=[(40,g1,qbK i),(41,g2,jv i),(43,g3,j6 i),(44,g4,j7 i),(45,g5,j8 i),(42,g6,j9 i n)]
def QH(i:Ins)(n:Nat):Int:=if qbK i=true then 40 else if jv i=true then 41 else if j6 i=true then 43 else if j7 i=true then 44 else if j8 i=true then 45 else if j9 i n=true then 42 else 0
def km(a b c d e g:Nat):IFn:=⟨[.cell 0 12 true],.seq (.r [.q 0 (.alloc [.i .i64 0,.nilf,.i .i64 0,.nilf,.i .i64 0,.nilf,.i .i64 0,.nilf,.i .i64 0,.nilf,.i .i64 0,.nilf])]) (.seq (.r [.q 1 (.build [.i .i64 0,.nilf] [(0,1,(.k 40)),(1,1,(.c (.fn a [] [])))]),.q 2 (.build [.i .i64 0,.nilf] [(0,1,(.k 41)),(1,1,(.c (.fn b [] [])))]),.q 3 (.build [.i .i64 0,.nilf] [(0,1,(.k 43)),(1,1,(.c (.fn c [] [])))]),.q 4 (.build [.i .i64 0,.nilf] [(0,1,(.k 44)),(1,1,(.c (.fn d [] [])))]),.q 5 (.build [.i .i64 0,.nilf] [(0,1,(.k 45)),(1,1,(.c (.fn e [] [])))]),.q 6 (.build [.i .i64 0,.nilf] [(0,1,(.k 42)),(1,1,(.c (.fn g [] [])))]),.q 7 (.build [.i .i64 0,.nilf,.i .i64 0,.nilf,.i .i64 0,.nilf,.i .i64 0,.nilf,.i .i64 0,.nilf,.i .i64 0,.nilf] [(0,2,(.t 1)),(2,2,(.t 2)),(4,2,(.t 3)),(6,2,(.t 4)),(8,2,(.t 5)),(10,2,(.t 6))]),.u (.store 12 (.t 0) (.t 7))]) (.ret))⟩
theorem qld{g1 g2 g3 g4 g5 g6:Nat}(hc:qt P f (km g1 g2 g3 g4 g5 g6)=true)(i:Ins)(n:Nat):qf P f [] (.agg ((wsM g1 g2 g3 g4 g5 g6 i n).flatMap qa3)):=by
 refine qf.mk hc rfl ?_;simp only[km,vI,simprocAttr];simp (decide:=true) only [↓vS,vT,simprocAttr];simp[vZ,vP,Tr.get_set,wsM,qa3]
def Qd(a:Nat):IFn:=⟨[.tmp 4],.seq (.r [.q 2 (.box (.t 0)),.m 4 (.k 0)]) (.seq (.seq (.r [.l 7 a [],.m 8 (.k 0)]) (.blk 0 (.loop (.seq (.r [.w 9 .lss 8 6]) (.seq (.cond (.t 9) (.skip) (.exit 0)) (.seq (.blk 1 (.seq (.r [.q 10 (.idxA 6 2 true (.t 7) (.t 8)),.q 6 (.alloc [.i .i64 0,.nilf]),.u (.store 2 (.t 6) (.t 10))]) (.seq (.r [.f 11 1 6,.d 12 11,.v 13 4 2,.n 14 1,.q 15 (.max (.t 14) (.k 0)),⟨(some 16),.callV (.t 12) [.t 13,.t 15],none⟩]) (.cond (.t 16) (.seq (.r [.f 17 0 6,.d 18 17,.n 4 18]) (.ret)) (.skip))))) (.r [.a 19 8 1,.n 8 19]))))))) (.seq (.r [.m 4 (.k 0)]) (.ret)))⟩
theorem qpy{g0:Nat}(hc:qt P f (Qd g0)=true)(i:Ins)(n:Nat)(ws:List (Int×Nat×Bool))(hw6:ws.length=6)(h0:qf P g0 [] (.agg (ws.flatMap qa3)))(hw:∀x ∈ ws,qf P x.2.1 [.agg (qv i),.i .i64 n] (.b x.2.2)) :
  qf P f [.agg (qv i),.i .i64 n] (.i .i64 ((ws.find? fun x=>x.2.2).elim 0 fun x=>x.1)):=by
 refine qf.mk hc rfl ?_;have hn0:¬(n:Int)<0:=by omega
 have hlen:(ws.flatMap qa3).length=12:=by rw[xL qc5,hw6]
 have hcl:qw (ws.flatMap qa3)=true:=k9 (fun _=>rfl)
 simp only[Qd,qv,vI,simprocAttr];simp (decide:=true) only [↓vS,vT,simprocAttr];refine h0.sc ?_;simp (decide:=true) only [↓vS,vT,simprocAttr];refine SL.loop (α:=Nat) (fun j=>[(1,.i .i64 (n:Int)),(2,.ptr 0 0),(7,.agg (ws.flatMap qa3)),(8,.i .i64 (j:Int))]) (fun _=>[.cells 0 true false (qv i)]) (fun j=>j<=6∧(ws.drop j).find? (fun x=>x.2.2)=ws.find? (fun x=>x.2.2)) (fun j=>6-j) 0 [0] ?_ ?_ ?_ rfl ?_ ?_
 ·simp[vw,qd,hcl]
 ·simp[vw,qv]
 ·simp
 ·exact⟨Nat.zero_le _,rfl⟩
 rintro j ⟨hj,hI⟩ G ih;simp only[vI,simprocAttr,qv]
 by_cases hlt:j<6
 ·have hlt':(j:Int)<6:=by omega
  have hjl:j<ws.length:=by omega
  have hx:ws[j]?=some ws[j]:=List.getElem?_eq_getElem hjl;have hw1:IntKind.wrap .i64 ((j:Int)+1)=((j+1:Nat):Int):=by rw[qo (by omega) (by omega)];omega
  have hel:=z5 (f:=qa3) (m:=2) qc5 hx;have hb:j*2+2<=(ws.flatMap qa3).length:=by omega
  have hpx:=hw _ (List.getElem_mem hjl);rw[List.drop_eq_getElem_cons hjl,List.find?_cons] at hI;generalize hc0:ws[j]=x at hel hI hpx;simp only[qa3] at hel;generalize hT:ws.flatMap qa3=T at hel hb hlen hcl;simp (decide:=true) only [↓vS,vT,simprocAttr,hlt',hlt,hel,hb,hn0];refine hpx.sc ?_;cases hs:x.2.2 with
  | true =>
   rw[hs] at hI;simp (decide:=true) only [↓vS,vT,simprocAttr];rw[← hI];simp[vZ]
  | false =>
   rw[hs] at hI;simp (decide:=true) only [↓vS,vT,simprocAttr,hw1];refine ih (j+1) ⟨hlt,hI⟩ (by omega) _ _ (Wk.mk _ _ [0] ?_ ?_ ?_ rfl)
   ·simp[vw,qd,hcl,hT]
   ·simp[vw,qv]
   ·simp
 ·obtain rfl:j=6:=by omega
  have hd:ws.drop 6=[]:=List.drop_eq_nil_of_le (by omega);rw[hd] at hI;rw[← hI];simp (decide:=true) only [↓vS,vT,simprocAttr];simp[vZ]
theorem qp1{g1 g2 g3 g4 g5 g6:Nat}{i:Ins}{n:Nat}:(((wsM g1 g2 g3 g4 g5 g6 i n).find? fun x=>x.2.2).elim 0 fun x=>x.1)=QH i n:=by
 unfold wsM QH;cases qbK i<;>cases jv i<;>cases j6 i<;>cases j7 i<;>cases j8 i<;>cases j9 i n<;>rfl
end Go.Kc
end
section
/- What is wrong with a program. Condition: the functions' texts are these. -/
namespace Go.Kc
variable {P:Program} {f:Nat}
def yr(n:Nat):Nat->List Ins->Option (Nat×Int)
 | _,[]=>none
 | j,i::L=>if QH i (n-1-j)=0 then yr n (j+1) L else some (j,QH i (n-1-j))
theorem qar{n j:Nat}{i:Ins}{L:List Ins}:yr n j (i::L)=if QH i (n-1-j)=0 then yr n (j+1) L else some (j,QH i (n-1-j)):=rfl
def qcX(p:List Ins):Int:=(p.getD (p.length-1) ⟨0,0,0,0⟩).code
def atU(p:List Ins)(u:List Nat):Nat×Int :=
 if p.length=0∨4096<p.length then (0,60) else (yr p.length 0 p).elim (if qJ (qcX p)=5 then (match u with | []=>(0,0)|a::_=>(a,61)) else (p.length-1,46)) id
def cAt(P:Program)(f:Nat):Prop:=∀p:List Ins,(∀i ∈ p,InsOk i)->p.length<=5000->qf P f [.fz p.length (rP p)] (.tup [.i .i64 ((atU p (vh p)).1:Int),.i .i64 (atU p (vh p)).2])
def Q0(a b c:Nat):IFn:=⟨[.tmp 2,.tmp 3],.seq (.r [.m 2 (.k 0),.m 3 (.k 0)]) (.seq (.seq (.r [.n 10 0,.e 11 10,.w 12 .lss 11 1,.n 13 12,.z 14 0 13,.g 15 (.len false (.t 14)) 13 false,.g 16 (.bin .gtr (.t 15) (.k 4096)) 13 false,.o 17 13 16]) (.cond (.t 17) (.seq (.r [.m 2 (.k 0),.m 3 (.k 60)]) (.ret)) (.skip))) (.seq (.r [.n 18 0,.e 19 18,.w 20 .sub 19 1,.n 4 20]) (.seq (.seq (.r [.n 21 0,.e 22 21,.m 23 (.k 0)]) (.blk 0 (.loop (.seq (.r [.s 24 23 22]) (.seq (.cond (.t 24) (.skip) (.exit 0)) (.seq (.blk 1 (.seq (.r [.n 25 23,.i 26 4 21 23,.v 27 4 26,.q 6 (.alloc [.i .u16 0,.i .u8 0,.i .u8 0,.i .u32 0]),.n 5 25,.u (.store 4 (.t 6) (.t 27))]) (.seq (.r [.v 28 4 6,.n 29 4,.n 30 5,.b 31 .sub 29 30,.l 32 a [.t 28,.t 31],.n 7 32]) (.seq (.r [.n 33 7,.w 34 .neq 33 0]) (.cond (.t 34) (.seq (.r [.n 35 5,.n 36 7,.n 2 35,.n 3 36]) (.ret)) (.skip)))))) (.r [.a 37 23 1,.n 23 37]))))))) (.seq (.seq (.r [.n 38 0,.n 39 4,.i 40 4 38 39,.f 41 0 40,.d 42 41,.l 43 b [.t 42],.q 44 (.bin .neq (.t 43) (.c (.i .u8 5)))]) (.cond (.t 44) (.seq (.r [.n 45 4,.n 2 45,.m 3 (.k 46)]) (.ret)) (.skip))) (.seq (.seq (.r [.n 46 0,.l 47 c [.t 46],.e 48 47,.m 49 (.k 0)]) (.blk 2 (.loop (.seq (.r [.s 50 49 48]) (.seq (.cond (.t 50) (.skip) (.exit 2)) (.seq (.blk 3 (.seq (.r [.i 51 1 47 49,.d 52 51,.n 9 52]) (.seq (.r [.n 53 9,.n 2 53,.m 3 (.k 61)]) (.ret)))) (.r [.a 54 49 1,.n 49 54]))))))) (.seq (.r [.m 2 (.k 0),.m 3 (.k 0)]) (.ret)))))))⟩
set_option maxHeartbeats 1000000 in
theorem qiX{g1 g2 g3:Nat}(hc:qt P f (Q0 g1 g2 g3)=true)(h1:∀i,InsOk i->∀n:Nat,qf P g1 [.agg (qv i),.i .i64 (n:Int)] (.i .i64 (QH i n)))(h2:cOf P g2)
  (h3:∀p:List Ins,p.length<=4096->(∀i ∈ p,InsOk i)->qf P g3 [.fz p.length (rP p)] (.fz (vh p).length (rNt (vh p)))):cAt P f:=by
 intro p hi hp;refine qf.mk hc (by simp[qw,clo,qb]) ?_;unfold atU;simp only[Q0,vI,simprocAttr]
 by_cases hz:p.length=0
 ·have hz':(p.length:Int)<1:=by omega
  rw[if_pos (.inl hz)];simp (decide:=true) only [↓vS,vT,simprocAttr,hz'];simp[vZ]
 have hz':¬(p.length:Int)<1:=by omega
 by_cases hb:4096<p.length
 ·have hb':(4096:Int)<p.length:=by omega
  rw[if_pos (.inr hb)];simp (decide:=true) only [↓vS,vT,simprocAttr,hz',hb'];simp[vZ]
 have hb':¬(4096:Int)<p.length:=by omega
 rw[if_neg (by omega)];have hl1:IntKind.wrap .i64 ((p.length:Int)-1)=((p.length-1:Nat):Int):=by rw[qo (by omega) (by omega)];omega
 simp (decide:=true) only [↓vS,vT,simprocAttr,hz',hb',hl1];refine SL.loop (α:=Nat) (fun j=>[(0,.fz p.length (rP p)),(4,.i .i64 ((p.length-1:Nat):Int)),(21,.fz p.length (rP p)),(22,.i .i64 (p.length:Int)),(23,.i .i64 (j:Int))]) (fun _=>[]) (fun j=>j<=p.length∧yr p.length j (p.drop j)=yr p.length 0 p) (fun j=>p.length-j) 0 [] ?_ ?_ ?_ rfl ?_ ?_
 ·simp[vw,qb]
 ·trivial
 ·simp
 ·exact⟨Nat.zero_le _,rfl⟩
 rintro j ⟨hj,hI⟩ G ih;simp only[vI,simprocAttr]
 by_cases hlt:j<p.length
 ·obtain⟨i,hpi⟩:∃i,p[j]?=some i:=⟨_,List.getElem?_eq_getElem hlt⟩;have hii:=hi i (List.mem_of_getElem? hpi);have hel:=z5 (f:=qv) (m:=4) zl hpi;rw[show p.flatMap qv=rP p from rfl] at hel
  simp only[qv] at hel;have h4:j*4+4<=(rP p).length:=by rw[yT];omega
  have hdr:p.drop j=i::p.drop (j+1):=by
   obtain⟨hh,he⟩:=List.getElem?_eq_some_iff.1 hpi;rw[List.drop_eq_getElem_cons hh,he]
  rw[hdr,qar] at hI;have hw1:IntKind.wrap .i64 ((j:Int)+1)=((j+1:Nat):Int):=by rw[qo (by omega) (by omega)];omega
  have hw2:IntKind.wrap .i64 (((p.length-1:Nat):Int)-(j:Int))=((p.length-1-j:Nat):Int):=by rw[qo (by omega) (by omega)];omega
  have hone:=h1 i hii (p.length-1-j);simp only[qv] at hone;simp (decide:=true) only [↓vS,vT,simprocAttr,hlt,hel,h4,hw2];refine hone.sc ?_
  by_cases h0:QH i (p.length-1-j)=0
  ·rw[if_pos h0] at hI;simp (decide:=true) only [↓vS,vT,simprocAttr,h0,hw1];refine ih (j+1) ⟨hlt,hI⟩ (by omega) _ _ (Wk.mk _ _ [] ?_ ?_ ?_ rfl)
   ·simp[vw,qb]
   ·trivial
   ·simp
  ·rw[if_neg h0] at hI;simp (decide:=true) only [↓vS,vT,simprocAttr,h0];rw[← hI];simp[vZ]
 ·obtain rfl:j=p.length:=by omega
  have hd:p.drop p.length=[]:=List.drop_eq_nil_of_le (by omega);rw[hd] at hI;simp only[yr] at hI;rw[← hI];obtain⟨i,hpi⟩:∃i,p[p.length-1]?=some i:=⟨_,List.getElem?_eq_getElem (by omega)⟩;have hlc:qcX p=i.code:=by unfold qcX;rw[List.getD_eq_getElem?_getD,hpi];rfl
  have hg:=zI (f:=qv) (m:=4) zl hpi (i:=0) (by omega);rw[show p.flatMap qv=rP p from rfl] at hg
  simp only[qv,Nat.add_zero,List.getElem?_cons_zero] at hg;have hlt2:p.length-1<p.length:=by omega
  simp (decide:=true) only [↓vS,vT,simprocAttr,hlt,hlt2,hg];refine (h2 _).sc ?_
  by_cases h5:qJ i.code=5
  ·simp (decide:=true) only [↓vS,vT,simprocAttr,h5];refine (h3 p (by omega) hi).sc ?_;simp (decide:=true) only [↓vS,vT,simprocAttr];refine SL.loop (α:=Unit) (fun _=>[(47,.fz (vh p).length (rNt (vh p))),(48,.i .i64 ((vh p).length:Int)),(49,.i .i64 0)]) (fun _=>[]) (fun _=>True) (fun _=>0) () [] ?_ ?_ ?_ rfl ?_ ?_
   ·simp[vw,qp]
   ·trivial
   ·simp
   ·trivial
   rintro _ _ G2 _;simp only[vI,simprocAttr];rw[hlc];cases hu:vh p with
   | nil =>
    simp (decide:=true) only [↓vS,vT,simprocAttr,List.length_nil];simp[vZ,h5]
   | cons a u =>
    have hgt2:0<(a::u).length:=by simp
    have hga:(rNt (a::u))[0]?=some (.i .i64 (a:Int)):=rfl;generalize (a::u).length=m at hgt2 ⊢;generalize rNt (a::u)=T at hga ⊢;have hgt:(0:Int)<(m:Int):=by omega
    simp (decide:=true) only [↓vS,vT,simprocAttr,hgt,hgt2,Nat.mul_one,hga];simp[vZ,h5]
  ·simp (decide:=true) only [↓vS,vT,simprocAttr,h5];rw[hlc];simp[vZ,h5]
def kH(a:Nat):IFn:=⟨[.tmp 2],.seq (.r [.m 2 (.k 0)]) (.seq (.r [.n 6 0,.l 7 a [.t 6],.n 5 7,.x 8 5 0,.x 9 5 1,.n 3 8,.n 4 9]) (.seq (.r [.n 10 4,.n 2 10]) (.ret)))⟩
theorem qlO{g:Nat}(hc:qt P f (kH g)=true)(hg:cAt P g)(p:List Ins)(hi:∀i ∈ p,InsOk i)(hp:p.length<=5000):qf P f [.fz p.length (rP p)] (.i .i64 (atU p (vh p)).2):=by
 refine qf.mk hc (by simp[qw,clo,qb]) ?_;simp only[kH,vI,simprocAttr];simp (decide:=true) only [↓vS,vT,simprocAttr];refine (hg p hi hp).sc ?_;simp (decide:=true) only [↓vS,vT,simprocAttr];simp[vZ]
end Go.Kc
end
section
/- The document's ways from a place. Condition: the functions' texts are these. -/
namespace Go.Kc
variable {P:Program} {f:Nat}
def qgs(P:Program)(g:Nat):Prop:=∀n,qf P g [.i .u16 n] (.agg (xU (zV n)))
def nxE(n a b:Nat):List Nat:=(if a<n then [a] else [])++(if b<n∧b≠a then [b] else [])
def vb(n:Nat)(i:Ins)(j:Nat):List Nat:=(zg i j).takeWhile fun m=>decide (m<n)
def qR(a:Nat):ICode:=.seq (.seq (.r [.n 79 5,.n 80 6,.b 81 .gtr 79 80]) (.cond (.t 81) (.r [.n 82 6,.n 83 5,.n 5 82,.n 6 83]) (.skip))) (.seq (.r [.m 7 .N]) (.seq (.seq (.r [.n 84 5,.n 85 0,.e 86 85,.s 87 84 86]) (.cond (.t 87) (.r [.n 88 7,.n 89 5,.q 90 (.buildS 1 [.i .i64 0] [(0,1,(.t 89))]),.q 91 (.app 1 8 true (.t 88) (.t 90)),.n 7 91]) (.skip))) (.seq (.seq (.r [.n 92 6,.n 93 0,.e 94 93,.s 95 92 94,.n 96 95,.y 97 6 96,.y 98 5 96,.g 99 (.bin .neq (.t 97) (.t 98)) 96 true,.p 100 96 99]) (.cond (.t 100) (.r [.n 101 7,.n 102 6,.q 103 (.buildS 1 [.i .i64 0] [(0,1,(.t 102))]),.q 104 (.app 1 8 true (.t 101) (.t 103)),.n 7 104]) (.skip))) (.seq (.r [.n 105 7,.n 4 105]) (.ret)))))
def x9(a:Nat):IFn:=⟨[.tmp 4],.seq (.r [.m 4 .N]) (.seq (.seq (.r [.n 8 1,.w 9 .lss 8 0,.n 10 9,.z 11 1 10,.z 12 0 10,.g 13 (.len false (.t 12)) 10 false,.g 14 (.bin .geq (.t 11) (.t 13)) 10 false,.o 15 10 14,.n 16 15,.z 17 0 16,.g 18 (.len false (.t 17)) 16 false,.g 19 (.bin .gtr (.t 18) (.k 4096)) 16 false,.o 20 16 19]) (.cond (.t 20) (.seq (.r [.m 4 .N]) (.ret)) (.skip))) (.seq (.r [.n 21 1,.a 22 21 1,.n 23 1,.a 24 23 1,.n 5 22,.n 6 24]) (.seq (.seq (.r [.n 25 0,.n 26 1,.i 27 4 25 26,.f 28 0 27,.d 29 28,.l 30 a [.t 29],.q 31 (.fld 2 none (.t 30))]) (.blk 0 (.seq (.seq (.r [.q 33 (.bin .eql (.t 31) (.c (.i .u8 0))),.n 32 33]) (.cond (.t 32) (.skip) (.r [.q 34 (.bin .eql (.t 31) (.c (.i .u8 5))),.n 32 34]))) (.cond (.t 32) (.seq (.r [.m 4 .N]) (.ret)) (.seq (.r [.q 36 (.bin .eql (.t 31) (.c (.i .u8 4))),.n 35 36]) (.cond (.t 35) (.seq (.reg true [.n 37 1,.a 38 37 1,.n 39 0,.n 40 1,.i 41 4 39 40,.f 42 1 41,.d 43 42,.q 44 (.cvInt .i64 (.t 43)),.b 45 .add 38 44,.n 46 1,.a 47 46 1,.n 48 0,.n 49 1,.i 50 4 48 49,.f 51 2 50,.d 52 51,.q 53 (.cvInt .i64 (.t 52)),.b 54 .add 47 53,.n 5 45,.n 6 54]) (.seq (.r [.n 55 0,.n 56 1,.i 57 4 55 56,.f 58 0 57,.d 59 58,.q 60 (.bin .eql (.t 59) (.c (.i .u16 5)))]) (.cond (.t 60) (.reg true [.n 61 1,.a 62 61 1,.n 63 0,.n 64 1,.i 65 4 63 64,.f 66 3 65,.d 67 66,.q 68 (.cvInt .i64 (.t 67)),.b 69 .add 62 68,.n 70 1,.a 71 70 1,.n 72 0,.n 73 1,.i 74 4 72 73,.f 75 3 74,.d 76 75,.q 77 (.cvInt .i64 (.t 76)),.b 78 .add 71 77,.n 5 69,.n 6 78]) (.skip)))) (.skip))))))) (.cut (qR a)))))⟩
theorem qjP(g:Nat)(n:Nat)(p:List AV)(hp:qw p=true)(a b:Nat)(hn:n<=4096){t':Tr AV}{h':Hp}(hw:Wk 0 t' h' (mkT [(0,.fz n p),(5,.i .i64 (a:Int)),(6,.i .i64 (b:Int))]) (mkH 0 [])) :
  S P 0 (qR g) (vo [.tmp 4] fun v' h'=>Frz h' v' (.fz (nxE n (min a b) (max a b)).length (rNt (nxE n (min a b) (max a b))))) t' h':=by
 refine S.weak hw (qA ?_)
 have main:∀x y:Nat,x<=y->min a b=x->max a b=y->(a=x∧b=y∨a=y∧b=x∧x<y)->V P 0 (qR g) (vo [.tmp 4] fun v' h'=>Frz h' v' (.fz (nxE n x y).length (rNt (nxE n x y)))) (mkT [(0,.fz n p),(5,.i .i64 (a:Int)),(6,.i .i64 (b:Int))]) (mkH 0 []):=by
  intro x y hxy _ _ hab;have hr:1<=qe:=by decide
  have hr1:8<=qe:=by decide
  have hr2:2<=qe:=by decide
  have hr3:16<=qe:=by decide
  unfold nxE;simp only[qR,vI,simprocAttr];rcases hab with⟨rfl,rfl⟩|⟨rfl,rfl,hlt⟩
  ·have h1:¬(b:Int)<(a:Int):=by omega
   by_cases ha:a<n
   ·by_cases hb:b<n
    ·by_cases he:b=a
     ·have he':(b:Int)=a:=by omega
      simp (decide:=true) only [↓vS,vT,simprocAttr,h1,ha,hb,he',he];simp[vZ,vP,Tr.get_set,rNt]
     ·have he':¬(b:Int)=a:=by omega
      simp (decide:=true) only [↓vS,vT,simprocAttr,h1,ha,hb,he',he];simp[vZ,vP,Tr.get_set,rNt,he]
    ·simp (decide:=true) only [↓vS,vT,simprocAttr,h1,ha,hb];simp[vZ,vP,Tr.get_set,rNt]
   ·have hb:¬b<n:=by omega
    simp (decide:=true) only [↓vS,vT,simprocAttr,h1,ha,hb];simp[vZ,vP,Tr.get_set,rNt]
  ·have h1:(a:Int)<(b:Int)∨(b:Int)<(a:Int):=by omega
   have h1:(b:Int)<(a:Int):=by omega
   have he:¬a=b:=by omega
   have he':¬(a:Int)=b:=by omega
   by_cases ha:b<n
   ·by_cases hb:a<n
    ·simp (decide:=true) only [↓vS,vT,simprocAttr,h1,ha,hb,he',he];simp[vZ,vP,Tr.get_set,rNt,he]
    ·simp (decide:=true) only [↓vS,vT,simprocAttr,h1,ha,hb];simp[vZ,vP,Tr.get_set,rNt]
   ·have hb:¬a<n:=by omega
    simp (decide:=true) only [↓vS,vT,simprocAttr,h1,ha,hb];simp[vZ,vP,Tr.get_set,rNt]
 rcases Nat.lt_or_ge b a with h|h
 ·rw[Nat.min_eq_right (by omega),Nat.max_eq_left (by omega)];exact main b a (by omega) (by omega) (by omega) (.inr ⟨rfl,rfl,h⟩)
 ·rw[Nat.min_eq_left h,Nat.max_eq_right h];exact main a b h (by omega) (by omega) (.inl ⟨rfl,rfl⟩)
theorem qaS{n a b:Nat}(h:a<=b):nxE n a b=(if a=b then [a] else [a,b]).takeWhile fun m=>decide (m<n):=by
 unfold nxE
 by_cases he:a=b
 ·subst he
  by_cases ha:a<n<;>simp[ha,List.takeWhile]
 ·rw[if_neg he]
  by_cases ha:a<n
  ·by_cases hb:b<n
   ·simp[ha,hb,List.takeWhile,Ne.symm he]
   ·simp[ha,hb,List.takeWhile]
  ·have hb:¬b<n:=by omega
   simp[ha,hb,List.takeWhile]
theorem qqx{g:Nat}(hc:qt P f (x9 g)=true)(hg:qgs P g)(p:List Ins)(hp:p.length<=4096)(j:Nat)(i:Ins)(hj:p[j]?=some i)(hi:InsOk i) :
  qf P f [.fz p.length (rP p),.i .i64 (j:Int)] (.fz (vb p.length i j).length (rNt (vb p.length i j))):=by
 refine qf.mk hc (by simp[qw,clo,qb]) ?_;have hlt:j<p.length:=(List.getElem?_eq_some_iff.1 hj).1;have hz:¬(j:Int)<0:=by omega
 have hz2:¬(p.length:Int)<=(j:Int):=by omega
 have hz3:¬(4096:Int)<(p.length:Int):=by omega
 have hj1:IntKind.wrap .i64 ((j:Int)+1)=((j+1:Nat):Int):=by rw[qo (by omega) (by omega)];omega
 have hjj:∀a:Int,0<=a->a<=4294967295->IntKind.wrap .i64 (((j+1:Nat):Int)+IntKind.wrap .i64 a)=((j+1+a.toNat:Nat):Int):=by
  intro a h1 h2;rw[qo (x:=a) (by omega) (by omega),qo (by omega) (by omega)];omega
 have hk:=hjj i.k hi.k0 hi.k1;have ht:=hjj i.jt hi.t0 (by have:=hi.t1;omega)
 have hf:=hjj i.jf hi.f0 (by have:=hi.f1;omega)
 have g0:=zI (f:=qv) (m:=4) zl hj (i:=0) (by omega);have g1:=zI (f:=qv) (m:=4) zl hj (i:=1) (by omega);have g2:=zI (f:=qv) (m:=4) zl hj (i:=2) (by omega);have g3:=zI (f:=qv) (m:=4) zl hj (i:=3) (by omega);rw[show p.flatMap qv=rP p from rfl] at g0 g1 g2 g3
 simp only[qv,Nat.add_zero,List.getElem?_cons_zero,List.getElem?_cons_succ] at g0 g1 g2 g3;have hn0:nxE p.length (j+1) (j+1)=[j+1].takeWhile fun m=>decide (m<p.length):=by rw[qaS (Nat.le_refl _),if_pos rfl]
 have hcl:(xU (zV i.code)).length=3∧(xU (zV i.code))[2]?=some (.i .u8 (qJ i.code))∧qw (xU (zV i.code))=true:=by
  unfold qJ;cases zV i.code<;>exact⟨rfl,rfl,rfl⟩
 have hgc:=hg i.code;generalize xU (zV i.code)=E at hcl hgc;obtain⟨he1,he2,he3⟩:=hcl;unfold vb;simp only[x9,vI,simprocAttr];simp (decide:=true) only [↓vS,vT,simprocAttr,hz,hz2,hz3,hj1,hlt,g0];refine hgc.sc ?_;simp (decide:=true) only [↓vS,vT,simprocAttr,he2]
 have hend:∀(a b:Nat) {t':Tr AV} {h':Hp},nxE p.length (min a b) (max a b)=(zg i j).takeWhile (fun m=>decide (m<p.length))->Wk 0 t' h' (mkT [(0,.fz p.length (rP p)),(5,.i .i64 (a:Int)),(6,.i .i64 (b:Int))]) (mkH 0 [])->
   S P 0 (qR g) (vo [.tmp 4] fun v' h'=>Frz h' v' (.fz ((zg i j).takeWhile (fun m=>decide (m<p.length))).length (rNt ((zg i j).takeWhile (fun m=>decide (m<p.length)))))) t' h':=by
  intro a b t' h' hE hw;rw[← hE];exact qjP g p.length (rP p) (qb p) a b hp hw
 by_cases hA:qJ i.code=0∨qJ i.code=5
 ·have hwl:zg i j=[]:=by unfold zg;rw[if_pos hA]
  rw[hwl]
  rcases hA with hA|hA<;>(
   simp (decide:=true) only [↓vS,vT,simprocAttr,hA];simp[vZ,List.takeWhile,rNt])
 have h0:¬qJ i.code=0:=fun h=>hA (.inl h)
 have h5:¬qJ i.code=5:=fun h=>hA (.inr h)
 by_cases h4:qJ i.code=4
 ·simp (decide:=true) only [↓vS,vT,simprocAttr,h4];refine jp ?_;simp (decide:=true) only [↓vS,vT,simprocAttr,hlt,g0,g1,g2,hj1]
  by_cases hja:i.code=5
  ·have hwl:zg i j=[j+1+i.k.toNat]:=by unfold zg;rw[if_neg hA,if_pos h4,if_pos hja]
   rw[if_pos hja];refine jp ?_;simp (decide:=true) only [↓vS,vT,simprocAttr,hlt,g3,hj1];refine hend (j+1+i.k.toNat) (j+1+i.k.toNat) ?_ (Wk.mk _ _ [] ?_ ?_ ?_ rfl)
   ·rw[hwl,Nat.min_self,Nat.max_self,qaS (Nat.le_refl _),if_pos rfl]
   ·simp[vw,qb];simpa using hk
   ·trivial
   ·simp
  ·rw[if_neg hja];refine hend (j+1+i.jt.toNat) (j+1+i.jf.toNat) ?_ (Wk.mk _ _ [] ?_ ?_ ?_ rfl)
   ·have:=hi.t0;have:=hi.f0
    have e1:min (j+1+i.jt.toNat) (j+1+i.jf.toNat)=j+1+(loM i).toNat:=by unfold loM;split<;>omega
    have e2:max (j+1+i.jt.toNat) (j+1+i.jf.toNat)=j+1+(hiM i).toNat:=by unfold hiM;split<;>omega
    have e0:(loM i).toNat<=(hiM i).toNat:=by unfold loM hiM;split<;>split<;>omega
    have e3:0<=loM i∧0<=hiM i:=by unfold loM hiM;constructor<;>split<;>omega
    rw[e1,e2,qaS (by omega)];unfold zg;rw[if_neg hA,if_pos h4,if_neg hja]
    by_cases he:loM i=hiM i
    ·rw[if_pos he,if_pos (by rw[he])]
    ·rw[if_neg he,if_neg (by omega)]
   ·simp[vw,qb];exact⟨by simpa using ht,by simpa using hf⟩
   ·trivial
   ·simp
 ·have hwl:zg i j=[j+1]:=by unfold zg;rw[if_neg hA,if_neg h4]
  simp (decide:=true) only [↓vS,vT,simprocAttr,h0,h4,h5];refine hend (j+1) (j+1) ?_ (Wk.mk _ _ [] ?_ ?_ ?_ rfl)
  ·rw[hwl,Nat.min_self,Nat.max_self];exact hn0
  ·simp[vw,qb,hj1]
  ·trivial
  ·simp
end Go.Kc
end
section
/- The document's places that are reached; what is sure. Condition: the functions' texts are these. -/
namespace Go.Kc
variable {P:Program} {f:Nat}
def mkL(L:List Nat)(r:List Bool):List Bool:=L.foldl (fun r m=>r.set m true) r
theorem v9:∀{L:List Nat} {r:List Bool},(mkL L r).length=r.length
 | [],_=>rfl
 | m::L,r=>by show (mkL L (r.set m true)).length=_;rw[v9];simp
theorem Qj{m:Nat}{L:List Nat}{r:List Bool}:mkL (m::L) r=mkL L (r.set m true):=rfl
theorem qb1{n j:Nat}{i:Ins}:∀m ∈ vb n i j,m<n:=fun m hm=>by
 unfold vb at hm
 have key:∀l:List Nat,m ∈ l.takeWhile (fun m=>decide (m<n))->m<n:=by
  intro l
  induction l with
  | nil=>intro h;cases h
  | cons a l ih =>
   intro h;rw[List.takeWhile_cons] at h;split at h
   ·rename_i ha;rcases List.mem_cons.1 h with rfl|h
    ·exact of_decide_eq_true ha
    ·exact ih h
   ·cases h
 exact key _ hm
theorem qdU{j:Nat}{i:Ins}:(zg i j).length<=2:=by
 unfold zg;split
 ·simp
 split
 ·split
  ·simp
  split<;>simp
 simp
theorem qbA{n j:Nat}{i:Ins}:(vb n i j).length<=2:=Nat.le_trans (List.takeWhile_sublist _).length_le qdU
def kT(n:Nat):Nat->List Ins->List Bool->List Bool
 | _,[],r=>r
 | j,i::L,r=>kT n (j+1) L (if r.getD j false=true then mkL (vb n i j) r else r)
def st0(n:Nat):List Bool:=(List.replicate n false).set 0 true
theorem qey(n:Nat):(List.replicate n [AV.b false]).flatten=rTt (List.replicate n false):=by
 induction n with
 | zero=>rfl
 | succ n ih=>rw[List.replicate_succ,List.replicate_succ,List.flatten_cons,ih];rfl
theorem qpG(n:Nat):(List.replicate n [AV.i .u16 0]).flatten=rW (List.replicate n 0#16):=by
 induction n with
 | zero=>rfl
 | succ n ih=>rw[List.replicate_succ,List.replicate_succ,List.flatten_cons,ih];rfl
def qd2(P:Program)(g:Nat):Prop:=∀p:List Ins,p.length<=4096->∀(j:Nat) (i:Ins),p[j]?=some i->InsOk i->qf P g [.fz p.length (rP p),.i .i64 (j:Int)] (.fz (vb p.length i j).length (rNt (vb p.length i j)))
def zi(a:Nat):ICode:=.seq (.seq (.r [.m 4 (.k 0)]) (.blk 0 (.loop (.seq (.seq (.r [.n 18 4,.n 19 0,.e 20 19,.s 21 18 20]) (.cond (.t 21) (.skip) (.exit 0))) (.seq (.blk 1 (.seq (.seq (.r [.n 24 3,.n 25 4,.i 26 1 24 25,.d 27 26,.q 28 (.un .not (.t 27))]) (.cond (.t 28) (.exit 1) (.skip))) (.seq (.r [.n 29 0,.n 30 4,.l 31 a [.t 29,.t 30],.n 5 31]) (.seq (.r [.m 6 (.k 0)]) (.blk 2 (.loop (.seq (.seq (.r [.n 32 6,.n 33 5,.e 34 33,.s 35 32 34]) (.cond (.t 35) (.skip) (.exit 2))) (.seq (.blk 3 (.r [.n 38 3,.n 39 5,.n 40 6,.i 41 1 39 40,.d 42 41,.i 43 1 38 42,.u (.store 1 (.t 43) .T)])) (.r [.n 36 6,.a 37 36 1,.n 6 37]))))))))) (.r [.n 22 4,.a 23 22 1,.n 4 23])))))) (.seq (.r [.n 44 3,.n 2 44]) (.ret))
def xr(a:Nat):IFn:=⟨[.tmp 2],.seq (.r [.m 2 .N]) (.seq (.seq (.r [.n 7 0,.e 8 7,.w 9 .gtr 8 4096]) (.cond (.t 9) (.seq (.r [.m 2 .N]) (.ret)) (.skip))) (.seq (.r [.n 10 0,.e 11 10,.q 12 (.mkS 1 1 [.b false] (.t 11) (.t 11)),.n 3 12]) (.seq (.seq (.r [.n 13 0,.e 14 13,.w 15 .gtr 14 0]) (.cond (.t 15) (.r [.n 16 3,.q 17 (.iAddrS 1 (.t 16) (.k 0)),.u (.store 1 (.t 17) .T)]) (.skip))) (.cut (zi a)))))⟩
set_option maxHeartbeats 1000000 in
theorem qaY{g:Nat}(hg:qd2 P g)(p:List Ins)(hp:p.length<=4096)(hi:∀i ∈ p,InsOk i)(r0:List Bool)(hr0:r0.length=p.length)
  {t':Tr AV} {h':Hp} (hw:Wk 0 t' h' (mkT [(0,.fz p.length (rP p)),(3,.sl 0 0 p.length p.length false)]) (mkH 0 [.cells 0 true false (rTt r0)])) :
  S P 0 (zi g) (vo [.tmp 2] fun v' h'=>Frz h' v' (.fz p.length (rTt (kT p.length 0 p r0)))) t' h':=by
 refine S.weak hw (qA ?_);simp only[zi,vI,simprocAttr];simp (decide:=true) only [↓vS,vT,simprocAttr]
 refine SL.loop (α:=Nat×List Bool) (fun a=>[(0,.fz p.length (rP p)),(3,.sl 0 0 p.length p.length false),(4,.i .i64 (a.1:Int))]) (fun a=>[.cells 0 true false (rTt a.2)])
  (fun a=>a.1<=p.length∧a.2.length=p.length∧kT p.length a.1 (p.drop a.1) a.2=kT p.length 0 p r0) (fun a=>p.length-a.1) (0,r0) [0] ?_ ?_ ?_ rfl ?_ ?_
 ·simp[vw,qb]
 ·simp[vw,qd,qh]
 ·simp
 ·exact⟨Nat.zero_le _,hr0,rfl⟩
 rintro⟨j,r⟩ ⟨hj,hlr,hI⟩ G ih;simp only at hj hlr hI;simp only[vI,simprocAttr]
 by_cases hlt:j<p.length
 ·obtain⟨i,hpi⟩:∃i,p[j]?=some i:=⟨_,List.getElem?_eq_getElem hlt⟩;have hii:=hi i (List.mem_of_getElem? hpi)
  have hdr:p.drop j=i::p.drop (j+1):=by
   obtain⟨hh,he⟩:=List.getElem?_eq_some_iff.1 hpi;rw[List.drop_eq_getElem_cons hh,he]
  obtain⟨b,hb⟩:∃b,r[j]?=some b:=⟨_,List.getElem?_eq_getElem (by omega)⟩;have hI2:kT p.length (j+1) (p.drop (j+1)) (if r.getD j false=true then mkL (vb p.length i j) r else r)=kT p.length 0 p r0:=by rw[← hI,hdr];rfl
  rw[List.getD_eq_getElem?_getD,hb,Option.getD_some] at hI2;have hw1:IntKind.wrap .i64 ((j:Int)+1)=((j+1:Nat):Int):=by rw[qo (by omega) (by omega)];omega
  cases b with
  | false =>
   rw[if_neg (by simp)] at hI2;simp (decide:=true) only [↓vS,vT,simprocAttr,hlt,Nat.mul_one,zY,hb,Option.map_some,hw1];refine ih (j+1,r) ⟨hlt,hlr,hI2⟩ (by simp only;omega) _ _ (Wk.mk _ _ [0] ?_ ?_ ?_ rfl)
   ·simp[vw,qb]
   ·simp[vw,qd,qh]
   ·simp
  | true =>
   rw[if_pos rfl] at hI2;simp (decide:=true) only [↓vS,vT,simprocAttr,hlt,Nat.mul_one,zY,hb,Option.map_some];refine (hg p hp j i hpi hii).sc ?_;have hLlt:=qb1 (n:=p.length) (j:=j) (i:=i);have hL2:=qbA (n:=p.length) (j:=j) (i:=i);generalize vb p.length i j=L at hI2 hLlt hL2;simp (decide:=true) only [↓vS,vT,simprocAttr]
   refine SL.loop (α:=Nat×List Bool) (fun a=>[(0,.fz p.length (rP p)),(3,.sl 0 0 p.length p.length false),(4,.i .i64 (j:Int)),(5,.fz L.length (rNt L)),(6,.i .i64 (a.1:Int))]) (fun a=>[.cells 0 true false (rTt a.2)])
    (fun a=>a.1<=L.length∧a.2.length=p.length∧mkL (L.drop a.1) a.2=mkL L r) (fun a=>L.length-a.1) (0,r) [0] ?_ ?_ ?_ rfl ?_ ?_
   ·simp[vw,qb,qp]
   ·simp[vw,qd,qh]
   ·simp
   ·exact⟨Nat.zero_le _,hlr,rfl⟩
   rintro⟨k,r2⟩ ⟨hk,hlr2,hJ⟩ G2 ih2;simp only at hk hlr2 hJ;simp only[vI,simprocAttr]
   by_cases hkl:k<L.length
   ·obtain⟨m,hm⟩:∃m,L[k]?=some m:=⟨_,List.getElem?_eq_getElem hkl⟩;have hml:=hLlt m (List.mem_of_getElem? hm)
    have hdk:L.drop k=m::L.drop (k+1):=by
     obtain⟨hh,he⟩:=List.getElem?_eq_some_iff.1 hm;rw[List.drop_eq_getElem_cons hh,he]
    rw[hdk,Qj] at hJ
    have hw2:IntKind.wrap .i64 ((k:Int)+1)=((k+1:Nat):Int):=by
     rw[qo (by omega) (by omega)];omega
    have hs0:m+1<=(rTt r2).length:=by rw[ke];omega
    have hs1:=Qn (s:=r2) (j:=m) (by omega) true;simp (decide:=true) only [↓vS,vT,simprocAttr,hkl,Nat.mul_one,qb4,hm,Option.map_some,hml,hs0,hs1,hw2];refine ih2 (k+1,r2.set m true) ⟨hkl,by simp[hlr2],hJ⟩ (by simp only;omega) _ _ (Wk.mk _ _ [0] ?_ ?_ ?_ rfl)
    ·simp[vw,qb,qp]
    ·simp[vw,qd,qh]
    ·simp
   ·obtain rfl:k=L.length:=by omega
    rw[List.drop_length] at hJ;have hJ:r2=mkL L r:=hJ;simp (decide:=true) only [↓vS,vT,simprocAttr,hkl,hw1];refine ih (j+1,r2) ⟨hlt,hlr2,by rw[hJ];exact hI2⟩ (by simp only;omega) _ _ (Wk.mk _ _ [0] ?_ ?_ ?_ rfl)
    ·simp[vw,qb]
    ·simp[vw,qd,qh]
    ·simp
 ·obtain rfl:j=p.length:=by omega
  rw[List.drop_length] at hI;have hI:r=kT p.length 0 p r0:=hI;rw[← hI];simp (decide:=true) only [↓vS,vT,simprocAttr,hlt];refine Frz.cut 1 rfl (Nat.le_refl _) ?_;have ht:(rTt r).take p.length=rTt r:=List.take_of_length_le (by rw[ke];omega);simp[vZ,vP,Tr.get_set,zC qh,ht,ke,hlr]
theorem qkm{g:Nat}(hc:qt P f (xr g)=true)(hg:qd2 P g)(p:List Ins)(hp:p.length<=4096)(hi:∀i ∈ p,InsOk i):qf P f [.fz p.length (rP p)] (.fz p.length (rTt (kT p.length 0 p (st0 p.length)))):=by
 refine qf.mk hc (by simp[qw,clo,qb]) ?_;have hz3:¬(4096:Int)<(p.length:Int):=by omega
 have hr1:p.length<=qe:=by simp only[qe];omega
 have hr3:1*p.length<=qe:=by simp only[qe];omega
 simp only[xr,vI,simprocAttr]
 by_cases h0:p.length=0
 ·have h0':¬(0:Int)<(p.length:Int):=by omega
  have hst:st0 p.length=List.replicate p.length false:=by unfold st0;rw[h0];rfl
  rw[hst];simp (decide:=true) only [↓vS,vT,simprocAttr,hz3,hr1,hr3,qey,h0'];refine qaY hg p hp hi (List.replicate p.length false) (by simp) (Wk.mk _ _ [0] ?_ ?_ ?_ rfl)
  ·simp[vw,qb]
  ·simp[vw,qd,qh]
  ·simp
 ·have h0':(0:Int)<(p.length:Int):=by omega
  have h0n:0<p.length:=by omega
  have hs0:1<=(rTt (List.replicate p.length false)).length:=by rw[ke];simp;omega
  have hs1:AV.b true::List.drop 1 (rTt (List.replicate p.length false))=rTt (st0 p.length):=Qn (s:=List.replicate p.length false) (j:=0) (by simp;omega) true;simp (decide:=true) only [↓vS,vT,simprocAttr,hz3,hr1,hr3,qey,h0',h0n,hs0,hs1];refine qaY hg p hp hi (st0 p.length) (by simp[st0]) (Wk.mk _ _ [0] ?_ ?_ ?_ rfl)
  ·simp[vw,qb]
  ·simp[vw,qd,qh]
  ·simp
end Go.Kc
end
