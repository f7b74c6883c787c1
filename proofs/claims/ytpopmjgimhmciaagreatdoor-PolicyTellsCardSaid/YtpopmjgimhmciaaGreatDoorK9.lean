/- Part 9 of the abstract machine and of the functions' walks. Conditions: with each theorem. -/
import Derived.Test.YtpopmjgimhmciaaGreatDoorK8
import Derived.Lib.AppendIntMem
set_option linter.unusedSimpArgs false
set_option linter.unusedVariables false
set_option linter.unnecessarySimpa false
section
/- policy.Lines. Itoa's contract is taken as given. Condition: the functions' texts are these. -/
namespace Go.Kc
variable {P:Program} {f:Nat}
def qV:List (Nat×AV):=[(1,.ptr 0 0),(4,.ptr 1 0)]
def qx(p:Pol)(ls:List (List UInt8)):List Blk:=[.cells 0 true false (qj p),.cells 0 true false [.own 2 ls.length],.cells 1 true true (rS ls)]
def qlV(P:Program)(f:Nat):Prop:=∀(k:List UInt8) (is:Bool) (ls:List (List UInt8)),ls.length<=100000->k.length<=100->Upd P f [.ptr 0 0,.s k,.b is] (wB0 ls) (.tup []) (if is=true then wB1 (ls++[zj k [] [[121,101,115]]]) else wB0 ls)
def xL(a b c d e g h i j k l m:Nat):ICode:=.seq (.r [.d 77 4,.n 2 77,.m 3 (.k 0)]) (.ret)
def xK(a b c d e g h i j k l m:Nat):ICode:=.seq (.r [.f 74 12 1,.d 75 74,.l 76 m [.t 4,(.c (.s [78,111,78,101,119,80,114,105,118,105,108,101,103,101,115])),.t 75]]) (.cut (xL a b c d e g h i j k l m))
def xJ(a b c d e g h i j k l m:Nat):ICode:=.seq (.r [.f 71 11 1,.d 72 71,.l 73 m [.t 4,(.c (.s [82,101,115,116,114,105,99,116,82,101,97,108,116,105,109,101])),.t 72]]) (.cut (xK a b c d e g h i j k l m))
def xI(a b c d e g h i j k l m:Nat):ICode:=.seq (.r [.f 68 10 1,.d 69 68,.l 70 m [.t 4,(.c (.s [76,111,99,107,80,101,114,115,111,110,97,108,105,116,121])),.t 69]]) (.cut (xJ a b c d e g h i j k l m))
def xH(a b c d e g h i j k l m:Nat):ICode:=.seq (.r [.f 65 9 1,.d 66 65,.l 67 m [.t 4,(.c (.s [77,101,109,111,114,121,68,101,110,121,87,114,105,116,101,69,120,101,99,117,116,101])),.t 66]]) (.cut (xI a b c d e g h i j k l m))
def xd(a b c d e g h i j k l m:Nat):ICode:=.seq (.seq (.r [.f 57 8 1,.d 58 57,.q 59 (.bin .neq (.t 58) (.c (.i .u64 0)))]) (.cond (.t 59) (.r [.f 60 8 1,.d 61 60,.l 62 j [.t 61],.l 63 k [.t 62,(.c (.fn l [] []))],.l 64 d [.t 4,(.c (.s [82,101,115,116,114,105,99,116,78,97,109,101,115,112,97,99,101,115])),(.c (.s [126])),.t 63]]) (.skip))) (.cut (xH a b c d e g h i j k l m))
def jX(a b c d e g h i j k l m:Nat):ICode:=.seq (.blk 0 (.seq (.r [.f 36 7 1,.d 37 36,.q 38 (.bin .eql (.t 37) (.c (.i .u8 2))),.n 35 38]) (.cond (.t 35) (.r [.n 39 5,.l 40 d [.t 4,(.c (.s [82,101,115,116,114,105,99,116,65,100,100,114,101,115,115,70,97,109,105,108,105,101,115])),(.c (.s [126])),.t 39]]) (.seq (.r [.f 42 7 1,.d 43 42,.q 44 (.bin .eql (.t 43) (.c (.i .u8 1))),.n 45 44,.y 46 5 45,.g 47 (.len false (.t 46)) 45 true,.g 48 (.bin .eql (.t 47) (.k 0)) 45 true,.p 49 45 48,.n 41 49]) (.cond (.t 41) (.r [.l 50 d [.t 4,(.c (.s [82,101,115,116,114,105,99,116,65,100,100,114,101,115,115,70,97,109,105,108,105,101,115])),(.c (.s [110,111,110,101])),.N]]) (.seq (.r [.f 52 7 1,.d 53 52,.q 54 (.bin .eql (.t 53) (.c (.i .u8 1))),.n 51 54]) (.cond (.t 51) (.r [.n 55 5,.l 56 d [.t 4,(.c (.s [82,101,115,116,114,105,99,116,65,100,100,114,101,115,115,70,97,109,105,108,105,101,115])),(.c (.s [])),.t 55]]) (.skip)))))))) (.cut (xd a b c d e g h i j k l m))
def xZ(a b c d e g h i j k l m:Nat):ICode:=.seq (.r [.f 32 6 1,.d 33 32,.l 34 h [.t 33,(.c (.fn i [] []))],.n 5 34]) (.cut (jX a b c d e g h i j k l m))
def xY(a b c d e g h i j k l m:Nat):ICode:=.seq (.r [.f 29 4 1,.v 30 2 29,.l 31 e [.t 4,(.c (.s [83,121,115,116,101,109,67,97,108,108,76,111,103])),.t 30]]) (.cut (xZ a b c d e g h i j k l m))
def xX(a b c d e g h i j k l m:Nat):ICode:=.seq (.seq (.r [.f 20 3 1,.d 21 20,.q 22 (.bin .neq (.t 21) (.c (.i .u32 2147483648)))]) (.cond (.t 22) (.r [.f 23 3 1,.d 24 23,.q 25 (.bin .and (.t 24) (.c (.i .u32 65535))),.l 26 g [.t 25],.q 27 (.buildS 1 [.s []] [(0,1,(.t 26))]),.l 28 d [.t 4,(.c (.s [83,121,115,116,101,109,67,97,108,108,69,114,114,111,114,78,117,109,98,101,114])),(.c (.s [])),.t 27]]) (.skip))) (.cut (xY a b c d e g h i j k l m))
def xW(a b c d e g h i j k l m:Nat):ICode:=.seq (.r [.f 17 1 1,.v 18 2 17,.l 19 e [.t 4,(.c (.s [83,121,115,116,101,109,67,97,108,108,70,105,108,116,101,114])),.t 18]]) (.cut (xX a b c d e g h i j k l m))
def jW(a b c d e g h i j k l m:Nat):ICode:=.seq (.seq (.r [.f 9 0 1,.d 10 9,.e 11 10,.w 12 .gtr 11 0]) (.cond (.t 12) (.r [.f 13 0 1,.d 14 13,.l 15 b [.t 14,(.c (.fn c [] []))],.l 16 d [.t 4,(.c (.s [83,121,115,116,101,109,67,97,108,108,65,114,99,104,105,116,101,99,116,117,114,101,115])),(.c (.s [])),.t 15]]) (.skip))) (.cut (xW a b c d e g h i j k l m))
def qcE(a b c d e g h i j k l m:Nat):IFn:=⟨[.tmp 2,.tmp 3],.seq (.r [.q 1 (.box (.t 0)),.m 2 .N,.m 3 (.k 0)]) (.seq (.seq (.r [.v 6 13 1,.l 7 a [.t 6],.q 8 (.un .not (.t 7))]) (.cond (.t 8) (.seq (.r [.m 2 .N,.m 3 (.k 2)]) (.ret)) (.skip))) (.seq (.r [.q 4 (.alloc [.nils])]) (.cut (jW a b c d e g h i j k l m))))⟩
section
variable {g1 g2 g3 g4 g5 g6 g7 g8 g9 g10 g11 g12:Nat}
theorem qkN(p:Pol)(ls:List (List UInt8)){t':Tr AV}{h':Hp}(hw:Wk 0 t' h' (mkT qV) (mkH 0 (qx p ls))) :
  S P 0 (xL g1 g2 g3 g4 g5 g6 g7 g8 g9 g10 g11 g12) (jD [.tmp 2,.tmp 3] fun v' h'=>Frz h' v' (.tup [.fz ls.length (rS ls),.i .i64 0])) t' h':=by
 refine S.weak hw (qr ?_);simp only[xL,qV,qx,vI,simprocAttr];simp (decide:=true) only [↓vS,vT,simprocAttr];simp[vZ,vP,Tr.get_set,qI qa]
 try (intro h0;rw[h0];rfl)
theorem qkM{Q:X->Tr AV->Hp->Prop}(hy:qlV P g12)(p:Pol)(ls:List (List UInt8))(hls:ls.length<=1000)
  (hQ:∀{t':Tr AV} {h':Hp},Wk 0 t' h' (mkT qV) (mkH 0 (qx p (ls++xF kNp p.np)))->S P 0 (xL g1 g2 g3 g4 g5 g6 g7 g8 g9 g10 g11 g12) Q t' h')
  {t':Tr AV} {h':Hp} (hw:Wk 0 t' h' (mkT qV) (mkH 0 (qx p ls))):S P 0 (xK g1 g2 g3 g4 g5 g6 g7 g8 g9 g10 g11 g12) Q t' h':=by
 refine S.weak hw (qr ?_);have hu:=hy kNp p.np ls (by omega) (by decide);simp only[xK,qV,qx,qj,vI,simprocAttr];simp only[kNp] at hu;simp (decide:=true) only [↓vS,vT,simprocAttr];refine hu.sc (vs:=[.ptr 0 0,.s kNp,.b p.np]) [1,2] (Lent.of (by decide) ?_) ?_
 ·simp[vL,vw,wB0,ze qa,qv qa]
 cases hf:p.np with
 | true =>
  rw[hf] at hQ;simp only[if_true,vK,simprocAttr,wB1,qv qa];simp only[↓vS,vT,simprocAttr];refine hQ (Wk.mk qV (qx p _) [0,1,3] ?_ ?_ ?_ rfl)
  ·simp[vw,qV,qx]
  ·simp[vw,qx,qj,xF,kNp,hf,qh,qa,qd,qc]
  ·simp[qx]
 | false =>
  rw[hf] at hQ;simp only[Bool.false_eq_true,if_false,vK,simprocAttr,wB0,qv qa];simp only[↓vS,vT,simprocAttr];refine hQ (Wk.mk qV (qx p _) [0,1,2] ?_ ?_ ?_ rfl)
  ·simp[vw,qV,qx]
  ·simp[vw,qx,qj,xF,hf,qh,qa,qd,qc]
  ·simp[qx]
theorem qkL{Q:X->Tr AV->Hp->Prop}(hy:qlV P g12)(p:Pol)(ls:List (List UInt8))(hls:ls.length<=1000)
  (hQ:∀{t':Tr AV} {h':Hp},Wk 0 t' h' (mkT qV) (mkH 0 (qx p (ls++xF kRt p.rt)))->S P 0 (xK g1 g2 g3 g4 g5 g6 g7 g8 g9 g10 g11 g12) Q t' h')
  {t':Tr AV} {h':Hp} (hw:Wk 0 t' h' (mkT qV) (mkH 0 (qx p ls))):S P 0 (xJ g1 g2 g3 g4 g5 g6 g7 g8 g9 g10 g11 g12) Q t' h':=by
 refine S.weak hw (qr ?_);have hu:=hy kRt p.rt ls (by omega) (by decide);simp only[xJ,qV,qx,qj,vI,simprocAttr];simp only[kRt] at hu;simp (decide:=true) only [↓vS,vT,simprocAttr];refine hu.sc (vs:=[.ptr 0 0,.s kRt,.b p.rt]) [1,2] (Lent.of (by decide) ?_) ?_
 ·simp[vL,vw,wB0,ze qa,qv qa]
 cases hf:p.rt with
 | true =>
  rw[hf] at hQ;simp only[if_true,vK,simprocAttr,wB1,qv qa];simp only[↓vS,vT,simprocAttr];refine hQ (Wk.mk qV (qx p _) [0,1,3] ?_ ?_ ?_ rfl)
  ·simp[vw,qV,qx]
  ·simp[vw,qx,qj,xF,kRt,hf,qh,qa,qd,qc]
  ·simp[qx]
 | false =>
  rw[hf] at hQ;simp only[Bool.false_eq_true,if_false,vK,simprocAttr,wB0,qv qa];simp only[↓vS,vT,simprocAttr];refine hQ (Wk.mk qV (qx p _) [0,1,2] ?_ ?_ ?_ rfl)
  ·simp[vw,qV,qx]
  ·simp[vw,qx,qj,xF,hf,qh,qa,qd,qc]
  ·simp[qx]
theorem qkK{Q:X->Tr AV->Hp->Prop}(hy:qlV P g12)(p:Pol)(ls:List (List UInt8))(hls:ls.length<=1000)
  (hQ:∀{t':Tr AV} {h':Hp},Wk 0 t' h' (mkT qV) (mkH 0 (qx p (ls++xF kPe p.pe)))->S P 0 (xJ g1 g2 g3 g4 g5 g6 g7 g8 g9 g10 g11 g12) Q t' h')
  {t':Tr AV} {h':Hp} (hw:Wk 0 t' h' (mkT qV) (mkH 0 (qx p ls))):S P 0 (xI g1 g2 g3 g4 g5 g6 g7 g8 g9 g10 g11 g12) Q t' h':=by
 refine S.weak hw (qr ?_);have hu:=hy kPe p.pe ls (by omega) (by decide);simp only[xI,qV,qx,qj,vI,simprocAttr];simp only[kPe] at hu;simp (decide:=true) only [↓vS,vT,simprocAttr];refine hu.sc (vs:=[.ptr 0 0,.s kPe,.b p.pe]) [1,2] (Lent.of (by decide) ?_) ?_
 ·simp[vL,vw,wB0,ze qa,qv qa]
 cases hf:p.pe with
 | true =>
  rw[hf] at hQ;simp only[if_true,vK,simprocAttr,wB1,qv qa];simp only[↓vS,vT,simprocAttr];refine hQ (Wk.mk qV (qx p _) [0,1,3] ?_ ?_ ?_ rfl)
  ·simp[vw,qV,qx]
  ·simp[vw,qx,qj,xF,kPe,hf,qh,qa,qd,qc]
  ·simp[qx]
 | false =>
  rw[hf] at hQ;simp only[Bool.false_eq_true,if_false,vK,simprocAttr,wB0,qv qa];simp only[↓vS,vT,simprocAttr];refine hQ (Wk.mk qV (qx p _) [0,1,2] ?_ ?_ ?_ rfl)
  ·simp[vw,qV,qx]
  ·simp[vw,qx,qj,xF,hf,qh,qa,qd,qc]
  ·simp[qx]
theorem qkJ{Q:X->Tr AV->Hp->Prop}(hy:qlV P g12)(p:Pol)(ls:List (List UInt8))(hls:ls.length<=1000)
  (hQ:∀{t':Tr AV} {h':Hp},Wk 0 t' h' (mkT qV) (mkH 0 (qx p (ls++xF kWe p.we)))->S P 0 (xI g1 g2 g3 g4 g5 g6 g7 g8 g9 g10 g11 g12) Q t' h')
  {t':Tr AV} {h':Hp} (hw:Wk 0 t' h' (mkT qV) (mkH 0 (qx p ls))):S P 0 (xH g1 g2 g3 g4 g5 g6 g7 g8 g9 g10 g11 g12) Q t' h':=by
 refine S.weak hw (qr ?_);have hu:=hy kWe p.we ls (by omega) (by decide);simp only[xH,qV,qx,qj,vI,simprocAttr];simp only[kWe] at hu;simp (decide:=true) only [↓vS,vT,simprocAttr];refine hu.sc (vs:=[.ptr 0 0,.s kWe,.b p.we]) [1,2] (Lent.of (by decide) ?_) ?_
 ·simp[vL,vw,wB0,ze qa,qv qa]
 cases hf:p.we with
 | true =>
  rw[hf] at hQ;simp only[if_true,vK,simprocAttr,wB1,qv qa];simp only[↓vS,vT,simprocAttr];refine hQ (Wk.mk qV (qx p _) [0,1,3] ?_ ?_ ?_ rfl)
  ·simp[vw,qV,qx]
  ·simp[vw,qx,qj,xF,kWe,hf,qh,qa,qd,qc]
  ·simp[qx]
 | false =>
  rw[hf] at hQ;simp only[Bool.false_eq_true,if_false,vK,simprocAttr,wB0,qv qa];simp only[↓vS,vT,simprocAttr];refine hQ (Wk.mk qV (qx p _) [0,1,2] ?_ ?_ ?_ rfl)
  ·simp[vw,qV,qx]
  ·simp[vw,qx,qj,xF,hf,qh,qa,qd,qc]
  ·simp[qx]
theorem qm0{Q:X->Tr AV->Hp->Prop}(hy:qhf P g5)(p:Pol)(hk:LOkP qcL p.log)(ls:List (List UInt8))(hls:ls.length<=100)
  (hQ:∀{t':Tr AV} {h':Hp},Wk 0 t' h' (mkT qV) (mkH 0 (qx p (ls++xr qcL p.log)))->S P 0 (xZ g1 g2 g3 g4 g5 g6 g7 g8 g9 g10 g11 g12) Q t' h')
  {t':Tr AV} {h':Hp} (hw:Wk 0 t' h' (mkT qV) (mkH 0 (qx p ls))):S P 0 (xY g1 g2 g3 g4 g5 g6 g7 g8 g9 g10 g11 g12) Q t' h':=by
 refine S.weak hw (qr ?_);have hu:=hy qcL p.log ls hk (by omega);simp only[xY,qV,qx,qj,vI,simprocAttr];simp only[qcL,qu] at hu;simp (decide:=true) only [↓vS,vT,simprocAttr];refine hu.sc (vs:=[.ptr 0 0,.s qcL,.agg [.i .u8 p.log.mode,.fz p.log.calls.length (rC p.log.calls)]]) [1,2] (Lent.of (by decide) ?_) ?_
 ·simp[vL,vw,wB0,ze qa,qv qa]
 simp only[vK,simprocAttr,wB1,qv qa];simp only[↓vS,vT,simprocAttr];refine hQ (Wk.mk qV (qx p _) [0,1,3] ?_ ?_ ?_ rfl)
 ·simp[vw,qV,qx]
 ·simp[vw,qx,qj,qcL,qh,qa,qd,qc]
 ·simp[qx]
theorem qmY{Q:X->Tr AV->Hp->Prop}(hy:qhf P g5)(p:Pol)(hk:LOkP xh p.filter)(ls:List (List UInt8))(hls:ls.length<=100)
  (hQ:∀{t':Tr AV} {h':Hp},Wk 0 t' h' (mkT qV) (mkH 0 (qx p (ls++xr xh p.filter)))->S P 0 (xX g1 g2 g3 g4 g5 g6 g7 g8 g9 g10 g11 g12) Q t' h')
  {t':Tr AV} {h':Hp} (hw:Wk 0 t' h' (mkT qV) (mkH 0 (qx p ls))):S P 0 (xW g1 g2 g3 g4 g5 g6 g7 g8 g9 g10 g11 g12) Q t' h':=by
 refine S.weak hw (qr ?_);have hu:=hy xh p.filter ls hk (by omega);simp only[xW,qV,qx,qj,vI,simprocAttr];simp only[xh,qu] at hu;simp (decide:=true) only [↓vS,vT,simprocAttr];refine hu.sc (vs:=[.ptr 0 0,.s xh,.agg [.i .u8 p.filter.mode,.fz p.filter.calls.length (rC p.filter.calls)]]) [1,2] (Lent.of (by decide) ?_) ?_
 ·simp[vL,vw,wB0,ze qa,qv qa]
 simp only[vK,simprocAttr,wB1,qv qa];simp only[↓vS,vT,simprocAttr];refine hQ (Wk.mk qV (qx p _) [0,1,3] ?_ ?_ ?_ rfl)
 ·simp[vw,qV,qx]
 ·simp[vw,qx,qj,xh,qh,qa,qd,qc]
 ·simp[qx]
def arL(p:Pol):List (List UInt8):=if p.arches=[] then [] else [zj qff [] (p.arches.map x7)]
theorem qmX{Q:X->Tr AV->Hp->Prop}(ht:∀l:List Int,l.length<=100000->qe P g2 [.fz l.length (rI .i64 l),.fn g3 [] []] (.fz l.length (rS (l.map x7))))(hg:qbv P g4)(p:Pol)(hp:PolOk p)(hk:qbz qff [] (p.arches.map x7))(ls:List (List UInt8))(hls:ls.length<=100)
  (hQ:∀{t':Tr AV} {h':Hp},Wk 0 t' h' (mkT qV) (mkH 0 (qx p (ls++arL p)))->S P 0 (xW g1 g2 g3 g4 g5 g6 g7 g8 g9 g10 g11 g12) Q t' h')
  {t':Tr AV} {h':Hp} (hw:Wk 0 t' h' (mkT qV) (mkH 0 (qx p ls))):S P 0 (jW g1 g2 g3 g4 g5 g6 g7 g8 g9 g10 g11 g12) Q t' h':=by
 refine S.weak hw (qr ?_);have hpa:=hp.a;have hu:=hg qff [] (p.arches.map x7) ls (by omega) hk;have htl:=ht p.arches (by omega);rw[List.length_map] at hu;simp only[jW,qV,qx,qj,vI,simprocAttr];simp only[qff] at hu
 by_cases he:p.arches=[]
 ·have hn:¬(0:Int)<p.arches.length:=by rw[he];simp
  simp (decide:=true) only [↓vS,vT,simprocAttr,hn];refine hQ (Wk.mk qV (qx p _) [0,1,2] ?_ ?_ ?_ rfl)
  ·simp[vw,qV,qx]
  ·simp[vw,qx,qj,arL,he,qh,qa,qd,qc]
  ·simp[qx]
 ·have hn:(0:Int)<p.arches.length:=by have:=List.length_pos_iff.2 he;omega
  simp (decide:=true) only [↓vS,vT,simprocAttr,hn];refine htl.sc ?_;simp (decide:=true) only [↓vS,vT,simprocAttr];refine hu.sc (vs:=[.ptr 0 0,.s qff,.s [],.fz p.arches.length (rS (p.arches.map x7))]) [1,2] (Lent.of (by decide) ?_) ?_
  ·simp[vL,vw,wB0,ze qa,qv qa]
  simp only[vK,simprocAttr,wB1,qv qa];simp only[↓vS,vT,simprocAttr];refine hQ (Wk.mk qV (qx p _) [0,1,3] ?_ ?_ ?_ rfl)
  ·simp[vw,qV,qx]
  ·simp[vw,qx,qj,arL,he,qff,qh,qa,qd,qc]
  ·simp[qx]
def erL(p:Pol):List (List UInt8):=if p.deny=2147483648 then [] else [zj qir [] [qbs (xa .u32 p.deny 65535)]]
theorem qmZ{Q:X->Tr AV->Hp->Prop}(he:∀n:Int,0<=n->n<=4294967295->qe P g6 [.i .u32 n] (.s (qbs n)))(hg:qbv P g4)(p:Pol)(ls:List (List UInt8))(hls:ls.length<=100)
  (hQ:∀{t':Tr AV} {h':Hp},Wk 0 t' h' (mkT qV) (mkH 0 (qx p (ls++erL p)))->S P 0 (xY g1 g2 g3 g4 g5 g6 g7 g8 g9 g10 g11 g12) Q t' h')
  {t':Tr AV} {h':Hp} (hw:Wk 0 t' h' (mkT qV) (mkH 0 (qx p ls))):S P 0 (xX g1 g2 g3 g4 g5 g6 g7 g8 g9 g10 g11 g12) Q t' h':=by
 refine S.weak hw (qr ?_);have hr:=qcP p.deny 65535;have hn:=he _ hr.1 hr.2;have hel:=qcU (n:=xa .u32 p.deny 65535) hr.1;have hok:qbz qir [] [qbs (xa .u32 p.deny 65535)]:=⟨by decide,by decide,by simp,by rw[zm];omega⟩
 have hu:=hg qir [] [qbs (xa .u32 p.deny 65535)] ls (by omega) hok;simp only[xX,qV,qx,qj,vI,simprocAttr];simp only[qir] at hu
 by_cases hd:p.deny=2147483648
 ·simp (decide:=true) only [↓vS,vT,simprocAttr,hd];refine hQ (Wk.mk qV (qx p _) [0,1,2] ?_ ?_ ?_ rfl)
  ·simp[vw,qV,qx]
  ·simp[vw,qx,qj,erL,hd,qh,qa,qd,qc]
  ·simp[qx]
 ·simp (decide:=true) only [↓vS,vT,simprocAttr,hd];refine hn.sc ?_;simp (decide:=true) only [↓vS,vT,simprocAttr];refine SC.give (vs':=[.ptr 1 0,.s qir,.s [],.fz 1 (rS [qbs (xa .u32 p.deny 65535)])]) [(3,.cells 0 true false [.s (qbs (xa .u32 p.deny 65535))])] ?_ ?_ ?_
  ·intro q hq;simp at hq;subst hq;simp[Tr.get_set]
  ·refine .keep _ _ _ (.keep _ _ _ (.keep _ _ _ (.fz _ _ _ _ (.cut 1 rfl (Nat.le_refl _) ?_) .nil)));simp[vw,trP,rS]
  simp only[qdr,qc6,qdn];refine hu.sc (vs:=[.ptr 0 0,.s qir,.s [],.fz 1 (rS [qbs (xa .u32 p.deny 65535)])]) [1,2] (Lent.of (by decide) ?_) ?_
  ·simp[vL,vw,wB0,ze qa,qv qa]
  simp only[vK,simprocAttr,wB1,qv qa];simp only[↓vS,vT,simprocAttr];refine hQ (Wk.mk qV (qx p _) [0,1,4] ?_ ?_ ?_ rfl)
  ·simp[vw,qV,qx]
  ·simp[vw,qx,qj,erL,hd,qir,qh,qa,qd,qc]
  ·simp[qx]
def spW(p:Pol):List (List UInt8):=(zx p.spaces).map fun n=>qJ n qg
def spL(p:Pol):List (List UInt8):=if p.spaces=0 then [] else [zj kSp [126] (spW p)]
theorem qbx(s:Int):(zx s).length<=8:=by unfold zx;exact Nat.le_trans (List.length_filter_le _ _) (by decide)
theorem qm3{Q:X->Tr AV->Hp->Prop}(hf:∀s,qe P g9 [.i .u64 s] (.fz (zx s).length (rI .u64 (zx s))))(ht:∀l:List Int,l.length<=100000->qe P g10 [.fz l.length (rI .u64 l),.fn g11 [] []] (.fz l.length (rS (l.map fun n=>qJ n qg))))(hg:qbv P g4)(p:Pol)(hk:qbz kSp [126] (spW p))(ls:List (List UInt8))(hls:ls.length<=100)
  (hQ:∀{t':Tr AV} {h':Hp},Wk 0 t' h' (mkT qV) (mkH 0 (qx p (ls++spL p)))->S P 0 (xH g1 g2 g3 g4 g5 g6 g7 g8 g9 g10 g11 g12) Q t' h')
  {t':Tr AV} {h':Hp} (hw:Wk 0 t' h' (mkT qV) (mkH 0 (qx p ls))):S P 0 (xd g1 g2 g3 g4 g5 g6 g7 g8 g9 g10 g11 g12) Q t' h':=by
 refine S.weak hw (qr ?_);have hfl:=qbx p.spaces;have h9:=hf p.spaces;have h10:=ht (zx p.spaces) (by omega);have hu:=hg kSp [126] (spW p) ls (by omega) hk;have hwl:(spW p).length=(zx p.spaces).length:=List.length_map _;rw[hwl] at hu;simp only[xd,qV,qx,qj,vI,simprocAttr];simp only[kSp] at hu
 by_cases hd:p.spaces=0
 ·simp (decide:=true) only [↓vS,vT,simprocAttr,hd];refine hQ (Wk.mk qV (qx p _) [0,1,2] ?_ ?_ ?_ rfl)
  ·simp[vw,qV,qx]
  ·simp[vw,qx,qj,spL,hd,qh,qa,qd,qc]
  ·simp[qx]
 ·simp (decide:=true) only [↓vS,vT,simprocAttr,hd];refine h9.sc ?_;simp (decide:=true) only [↓vS,vT,simprocAttr];refine h10.sc ?_;simp (decide:=true) only [↓vS,vT,simprocAttr];refine hu.sc (vs:=[.ptr 0 0,.s kSp,.s [126],.fz (zx p.spaces).length (rS (spW p))]) [1,2] (Lent.of (by decide) ?_) ?_
  ·simp[vL,vw,wB0,ze qa,qv qa]
  simp only[vK,simprocAttr,wB1,qv qa];simp only[↓vS,vT,simprocAttr];refine hQ (Wk.mk qV (qx p _) [0,1,3] ?_ ?_ ?_ rfl)
  ·simp[vw,qV,qx]
  ·simp[vw,qx,qj,spL,hd,kSp,qh,qa,qd,qc]
  ·simp[qx]
def faW(p:Pol):List (List UInt8):=p.fams.map fun n=>qJ n qm
def faL(p:Pol):List (List UInt8):=if p.fmode=2 then [zj qaQ [126] (faW p)] else if p.fmode=1 then (if p.fams=[] then [zj qaQ qfn []] else [zj qaQ [] (faW p)]) else []
theorem qm2{Q:X->Tr AV->Hp->Prop}(hg:qbv P g4)(p:Pol)(hk:∀a:List UInt8,a.length<=1->qbz qaQ a (faW p))(ls:List (List UInt8))(hls:ls.length<=100)
  (hQ:∀{t':Tr AV} {h':Hp},Wk 0 t' h' (mkT qV) (mkH 0 (qx p (ls++faL p)))->S P 0 (xd g1 g2 g3 g4 g5 g6 g7 g8 g9 g10 g11 g12) Q t' h')
  {t':Tr AV} {h':Hp} (hw:Wk 0 t' h' (mkT [(1,.ptr 0 0),(4,.ptr 1 0),(5,.fz p.fams.length (rS (faW p)))]) (mkH 0 (qx p ls))):S P 0 (jX g1 g2 g3 g4 g5 g6 g7 g8 g9 g10 g11 g12) Q t' h':=by
 refine S.weak hw (qr ?_);have hwl:(faW p).length=p.fams.length:=List.length_map _;simp only[jX,qx,qj,vI,simprocAttr]
 by_cases m2:p.fmode=2
 ·have hu:=hg qaQ [126] (faW p) ls (by omega) (hk [126] (by simp));rw[hwl] at hu;simp only[qaQ] at hu;simp (decide:=true) only [↓vS,vT,simprocAttr,m2];refine hu.sc (vs:=[.ptr 0 0,.s qaQ,.s [126],.fz p.fams.length (rS (faW p))]) [1,2] (Lent.of (by decide) ?_) ?_
  ·simp[vL,vw,wB0,ze qa,qv qa]
  simp only[vK,simprocAttr,wB1,qv qa];simp only[↓vS,vT,simprocAttr];refine hQ (Wk.mk qV (qx p _) [0,1,3] ?_ ?_ ?_ rfl)
  ·simp[vw,qV,qx]
  ·simp[vw,qx,qj,faL,m2,qaQ,qh,qa,qd,qc]
  ·simp[qx]
 by_cases m1:p.fmode=1
 ·by_cases he:p.fams=[]
  ·have hu:=hg qaQ qfn [] ls (by omega) ⟨by decide,by decide,by simp,by decide⟩
   have hz:(p.fams.length:Int)=0:=by rw[he];rfl
   simp only[qaQ,qfn,List.length_nil,qai] at hu;simp (decide:=true) only [↓vS,vT,simprocAttr,m2,m1,hz];refine SC.give (vs':=[.ptr 1 0,.s qaQ,.s qfn,.fz 0 []]) [] ?_ ?_ ?_
   ·intro q hq;simp at hq
   ·exact .keep _ _ _ (.keep _ _ _ (.keep _ _ _ (.fz _ _ _ _ .nilz .nil)))
   simp only[qc6];refine hu.sc (vs:=[.ptr 0 0,.s qaQ,.s qfn,.fz 0 []]) [1,2] (Lent.of (by decide) ?_) ?_
   ·simp[vL,vw,wB0,ze qa,qv qa]
   simp only[vK,simprocAttr,wB1,qv qa];simp only[↓vS,vT,simprocAttr];refine hQ (Wk.mk qV (qx p _) [0,1,3] ?_ ?_ ?_ rfl)
   ·simp[vw,qV,qx]
   ·simp[vw,qx,qj,faL,m1,he,qaQ,qfn,qh,qa,qd,qc]
   ·simp[qx]
  ·have hu:=hg qaQ [] (faW p) ls (by omega) (hk [] (by simp));rw[hwl] at hu;have hz:¬(p.fams.length:Int)=0:=fun h=>he (List.eq_nil_of_length_eq_zero (by omega))
   simp only[qaQ] at hu;simp (decide:=true) only [↓vS,vT,simprocAttr,m2,m1,hz];refine hu.sc (vs:=[.ptr 0 0,.s qaQ,.s [],.fz p.fams.length (rS (faW p))]) [1,2] (Lent.of (by decide) ?_) ?_
   ·simp[vL,vw,wB0,ze qa,qv qa]
   simp only[vK,simprocAttr,wB1,qv qa];simp only[↓vS,vT,simprocAttr];refine hQ (Wk.mk qV (qx p _) [0,1,3] ?_ ?_ ?_ rfl)
   ·simp[vw,qV,qx]
   ·simp[vw,qx,qj,faL,m1,he,qaQ,qh,qa,qd,qc]
   ·simp[qx]
 ·simp (decide:=true) only [↓vS,vT,simprocAttr,m2,m1];refine hQ (Wk.mk qV (qx p _) [0,1,2] ?_ ?_ ?_ rfl)
  ·simp[vw,qV,qx]
  ·simp[vw,qx,qj,faL,m1,m2,qh,qa,qd,qc]
  ·simp[qx]
theorem qm1{Q:X->Tr AV->Hp->Prop}(ht:∀l:List Int,l.length<=100000->qe P g7 [.fz l.length (rI .u32 l),.fn g8 [] []] (.fz l.length (rS (l.map fun n=>qJ n qm))))(hg:qbv P g4)(p:Pol)(hp:PolOk p)(hk:∀a:List UInt8,a.length<=1->qbz qaQ a (faW p))(ls:List (List UInt8))(hls:ls.length<=100)
  (hQ:∀{t':Tr AV} {h':Hp},Wk 0 t' h' (mkT qV) (mkH 0 (qx p (ls++faL p)))->S P 0 (xd g1 g2 g3 g4 g5 g6 g7 g8 g9 g10 g11 g12) Q t' h')
  {t':Tr AV} {h':Hp} (hw:Wk 0 t' h' (mkT qV) (mkH 0 (qx p ls))):S P 0 (xZ g1 g2 g3 g4 g5 g6 g7 g8 g9 g10 g11 g12) Q t' h':=by
 refine S.weak hw (qr ?_);have hpf:=hp.f;have htl:=ht p.fams (by omega);simp only[xZ,qV,qx,qj,vI,simprocAttr];simp (decide:=true) only [↓vS,vT,simprocAttr];refine htl.sc ?_;simp (decide:=true) only [↓vS,vT,simprocAttr];refine qm2 hg p hk ls hls hQ (Wk.mk _ _ [0,1,2] ?_ ?_ ?_ rfl)
 ·simp[vw,qx,faW,qa]
 ·simp[vw,qx,qj,qh,qa,qd,qc]
 ·simp[qx]
def qaA(p:Pol):List (List UInt8):=[]++arL p++xr xh p.filter++erL p++xr qcL p.log++faL p++spL p++xF kWe p.we++xF kPe p.pe++xF kRt p.rt++xF kNp p.np
theorem qk9(k:List UInt8)(ws:List (List UInt8)):(qdd k ws).length<=1:=by unfold qdd;split<;>simp
theorem wm(k:List UInt8)(l:GList):(xr k l).length<=4:=by
 unfold xr;split
 ·simp
 split
 ·have h1:=qk9 k (zc qR l.calls);have h2:=qgl k [] (zc qO l.calls);have h3:=qgl k [126] (zc qW l.calls);simp only[List.length_append,List.length_cons,List.length_nil];omega
 ·simp
theorem qgk(p:Pol):(arL p).length<=1∧(erL p).length<=1∧(faL p).length<=1∧(spL p).length<=1∧∀k b,(xF k b).length<=1:=by
 refine⟨?_,?_,?_,?_,fun k b=>?_⟩
 ·unfold arL;split<;>simp
 ·unfold erL;split<;>simp
 ·unfold faL;split
  ·simp
  ·split
   ·split<;>simp
   ·simp
 ·unfold spL;split<;>simp
 ·unfold xF;split<;>simp
structure LinOk (p:Pol):Prop where
 ar:qbz qff [] (p.arches.map x7)
 fil:LOkP xh p.filter
 log:LOkP qcL p.log
 fam:∀a:List UInt8,a.length<=1->qbz qaQ a (faW p)
 sp:qbz kSp [126] (spW p)
theorem qse(hc:qt P f (qcE g1 g2 g3 g4 g5 g6 g7 g8 g9 g10 g11 g12)=true)(hm:∀p,PolOk p->qe P g1 [.agg (qj p)] (.b (qag p)))(ht1:∀l:List Int,l.length<=100000->qe P g2 [.fz l.length (rI .i64 l),.fn g3 [] []] (.fz l.length (rS (l.map x7))))(hg:qbv P g4)(hl:qhf P g5)
  (he:∀n:Int,0<=n->n<=4294967295->qe P g6 [.i .u32 n] (.s (qbs n))) (ht2:∀l:List Int,l.length<=100000->qe P g7 [.fz l.length (rI .u32 l),.fn g8 [] []] (.fz l.length (rS (l.map fun n=>qJ n qm)))) (hf:∀s,qe P g9 [.i .u64 s] (.fz (zx s).length (rI .u64 (zx s)))) (ht3:∀l:List Int,l.length<=100000->qe P g10 [.fz l.length (rI .u64 l),.fn g11 [] []] (.fz l.length (rS (l.map fun n=>qJ n qg)))) (hy:qlV P g12)
  (p:Pol) (hp:PolOk p) (ok:qag p=true->LinOk p):qe P f [.agg (qj p)] (if qag p=true then .tup [.fz (qaA p).length (rS (qaA p)),.i .i64 0] else .tup [.fz 0 [],.i .i64 2]):=by
 refine qe.mk hc rfl ?_;have k1:=hm p hp;generalize hT:(if qag p=true then AV.tup [.fz (qaA p).length (rS (qaA p)),.i .i64 0] else .tup [.fz 0 [],.i .i64 2])=tgt
 simp only[qcE,qj,vI,simprocAttr] at k1 ⊢;simp only[↓vS,vT,simprocAttr];refine k1.sc ?_;cases hmp:qag p with
 | false =>
  rw[if_neg (by simp[hmp])] at hT;subst hT;simp (decide:=true) only [↓vS,vT,simprocAttr];simp[vZ]
 | true =>
  rw[if_pos hmp] at hT;subst hT;have ok:=ok hmp;obtain⟨l1,l2,l3,l4,l5⟩:=qgk p;have l6:=wm xh p.filter;have l7:=wm qcL p.log;have l8:=l5 kWe p.we;have l9:=l5 kPe p.pe;have l10:=l5 kRt p.rt;simp (decide:=true) only [↓vS,vT,simprocAttr];refine qmX ht1 hg p hp ok.ar [] (by simp) (fun w3=>qmY hl p ok.fil _ ?_ (fun w4=>qmZ he hg p _ ?_ (fun w5=>qm0 hl p ok.log _ ?_ (fun w6=>qm1 ht2 hg p hp ok.fam _ ?_ (fun w7=>qm3 hf ht3 hg p ok.sp _ ?_ (fun w9=>qkJ hy p _ ?_ (fun w10=>qkK hy p _ ?_ (fun w11=>qkL hy p _ ?_ (fun w12=>qkM hy p _ ?_ (fun w13=>qkN p _ w13) w12) w11) w10) w9) w7) w6) w5) w4) w3) (Wk.mk qV (qx p []) [0,1,99] ?_ ?_ ?_ rfl)
  all_goals first
   | (simp only[List.length_append,List.length_nil];omega)
   | skip
  ·simp[vw,qV,qx]
  ·simp[vw,qx,qj,qh,qai,qd,qc]
  ·simp[qx]
end
end Go.Kc
end
section
/- The document's writer: join. Condition: the functions' texts are these. -/
namespace Go.Kc
variable {P:Program} {f:Nat}
theorem qdq(sep:List UInt8):zI sep []=[]:=rfl
theorem qg1(sep x:List UInt8):∀xs:List (List UInt8),zI sep (xs++[x])=(if xs=[] then [] else zI sep xs++sep)++x
 | []=>by rw[List.nil_append,zm,if_pos rfl];rfl
 | [a]=>by simp[zI,Lib.join,List.intercalate]
 | a::b::l=>by
  have h:=qg1 sep x (b::l);have h2:∀m:List (List UInt8),zI sep (a::b::m)=a++sep++zI sep (b::m):=fun m=>by simp[zI,Lib.join,List.intercalate]
  rw[if_neg (by simp)] at h ⊢;rw[List.cons_append,List.cons_append,h2,h2,← List.cons_append,h];simp
theorem qg2(sep:List UInt8){xs:List (List UInt8)}{j:Nat}{x:List UInt8}(h:xs[j]?=some x):zI sep (xs.take (j+1))=(if j=0 then [] else zI sep (xs.take j)++sep)++x:=by
 rw[List.take_add_one,h];show zI sep (xs.take j++[x])=_;rw[qg1];have hlt:j<xs.length:=(List.getElem?_eq_some_iff.1 h).1
 by_cases hj:j=0
 ·subst hj;simp
 ·rw[if_neg hj,if_neg];intro h0;have:=congrArg List.length h0;rw[List.length_take,Nat.min_eq_left (Nat.le_of_lt hlt)] at this;exact hj this
theorem qdJ(sep:List UInt8)(xs:List (List UInt8)):∀d j,j+d=xs.length->(zI sep (xs.take j)).length<=(zI sep xs).length
 | 0,j,h=>by rw[List.take_of_length_le (by omega)];exact Nat.le_refl _
 | d+1,j,h=>by
  have hx:xs[j]?=some xs[j]:=List.getElem?_eq_getElem (by omega);refine Nat.le_trans ?_ (qdJ sep xs d (j+1) (by omega));rw[qg2 sep hx]
  by_cases hj:j=0
  ·subst hj;simp[qdq]
  ·rw[if_neg hj];simp only[List.length_append];omega
def qaf:IFn:=⟨[.tmp 2],.seq (.r [.m 2 (.c (.s []))]) (.seq (.r [.m 3 (.c (.s []))]) (.seq (.seq (.r [.m 4 (.k 0)]) (.blk 0 (.loop (.seq (.seq (.r [.n 5 4,.n 6 0,.e 7 6,.s 8 5 7]) (.cond (.t 8) (.skip) (.exit 0))) (.seq (.blk 1 (.seq (.seq (.r [.n 11 4,.w 12 .gtr 11 0]) (.cond (.t 12) (.r [.n 13 3,.q 14 (.bin .add (.t 13) (.c (.s [32]))),.n 3 14]) (.skip))) (.r [.n 15 3,.n 16 0,.n 17 4,.i 18 1 16 17,.d 19 18,.b 20 .add 15 19,.n 3 20]))) (.r [.n 9 4,.a 10 9 1,.n 4 10])))))) (.seq (.r [.n 21 3,.n 2 21]) (.ret))))⟩
theorem qwe(hc:qt P f qaf=true)(xs:List (List UInt8))(hx:xs.length<=1000000)(hl:(zI [32] xs).length<=100000000):qe P f [.fz xs.length (rS xs)] (.s (zI [32] xs)):=by
 refine qe.mk hc (by simp[qG,clo,qa]) ?_;simp only[qaf,vI,simprocAttr];simp only[↓vS,vT,simprocAttr];refine SL.loop (α:=Nat) (fun j=>[(0,.fz xs.length (rS xs)),(2,.s []),(3,.s (zI [32] (xs.take j))),(4,.i .i64 j)]) (fun _=>[]) (fun j=>j<=xs.length) (fun j=>xs.length-j) 0 [] ?_ ?_ ?_ rfl ?_ ?_
 ·simp[vw,qa,qdq]
 ·trivial
 ·simp
 ·exact Nat.zero_le _
 rintro j hj G ih;simp only[vI,simprocAttr]
 by_cases hlt:j<xs.length
 ·have hxj:xs[j]?=some xs[j]:=List.getElem?_eq_getElem hlt;have hw:IntKind.wrap .i64 ((j:Int)+1)=((j+1:Nat):Int):=by rw[qF (by omega) (by omega)];omega
  have hle:=qdJ [32] xs (xs.length-(j+1)) (j+1) (by omega);have ih2:=ih (j+1) (by omega) (by omega);rw[qg2 [32] hxj] at hle ih2;generalize xs[j]=x at hxj hle ih2;have ha0:j=0->zI [32] (xs.take j)=[]:=fun h=>by subst h;rfl
  generalize zI [32] (xs.take j)=a at hle ih2 ha0 ⊢
  by_cases h0:j=0
  ·rw[if_pos h0,List.nil_append] at hle ih2;have c2:x.length<=9223372036854775807:=by omega
   have hn:¬(0:Int)<(j:Int):=by omega
   have c3:0+x.length<=9223372036854775807:=by omega
   have ha:a=[]:=ha0 h0;subst ha;simp (decide:=true) only [↓vS,vT,simprocAttr,hlt,hn,qhB,hxj,Option.map_some,hw,List.length_append,List.length_nil,List.nil_append,c2,c3,Nat.mul_one];refine ih2 _ _ (Wk.mk _ _ [] ?_ ?_ ?_ rfl)
   ·simp[vw,qa]
   ·trivial
   ·simp
  ·rw[if_neg h0] at hle ih2;have hpos:(0:Int)<j:=by omega
   rw[List.length_append,List.length_append] at hle;simp only[List.length_cons,List.length_nil] at hle;have c1:a.length+1<=9223372036854775807:=by omega
   have c2:a.length+1+x.length<=9223372036854775807:=by omega
   have c3:a.length+(x.length+1)<=9223372036854775807:=by omega
   simp (decide:=true) only [↓vS,vT,simprocAttr,hlt,hpos,qhB,hxj,Option.map_some,hw,List.length_append,List.length_cons,List.length_nil,c1,c2,c3,Nat.mul_one];refine ih2 _ _ (Wk.mk _ _ [] ?_ ?_ ?_ rfl)
   ·simp[vw,qa]
   ·trivial
   ·simp
 ·have hjl:xs.take j=xs:=List.take_of_length_le (by omega);rw[hjl];clear ih;simp (decide:=true) only [↓vS,vT,simprocAttr,hlt];simp[vZ]
end Go.Kc
end
section
/- The document's words of numbers. Condition: the functions' texts are these. -/
namespace Go.Kc
variable {P:Program} {f:Nat}
theorem qfX(u:Nat):qeK u=Lib.decDigits u:=by
 unfold qeK Lib.itoa;rw[if_neg (by omega),Int.toNat_natCast]
theorem qfY{u:Nat}(h:u<10):qeK u=[UInt8.ofNat (48+u)]:=by
 rw[qfX,Lib.decDigits,dif_pos h]
theorem qmb{u:Nat}(h:¬u<10):qeK u=qeK ((u / 10:Nat):Int)++qeK ((u % 10:Nat):Int):=by
 rw[qfY (Nat.mod_lt _ (by decide)),qfX,qfX,Lib.decDigits,dif_neg h]
theorem qkc{n:Nat}{k:List UInt8->Prop}:zN [.i .u8 (n:Int)] k↔k [UInt8.ofNat n]:=Iff.rfl
def jJ(a:Nat):IFn:=⟨[.tmp 2],.seq (.r [.m 2 (.c (.s []))]) (.seq (.seq (.r [.n 3 0,.q 4 (.bin .lss (.t 3) (.c (.i .u32 10)))]) (.cond (.t 4) (.seq (.r [.n 5 0,.q 6 (.bin .add (.c (.i .u32 48)) (.t 5)),.q 7 (.cvInt .u8 (.t 6)),.q 8 (.buildS 1 [.i .u8 0] [(0,1,(.t 7))]),.q 9 (.b2s (.t 8)),.n 2 9]) (.ret)) (.skip))) (.seq (.r [.n 10 0,.q 11 (.bin .quo (.t 10) (.c (.i .u32 10))),.l 12 a [.t 11],.n 13 0,.q 14 (.bin .rem (.t 13) (.c (.i .u32 10))),.l 15 a [.t 14],.b 16 .add 12 15,.n 2 16]) (.ret)))⟩
theorem quH(hc:qt P f (jJ f)=true):∀u:Nat,u<=4095->qe P f [.i .u32 u] (.s (qeK u)):=by
 intro u
 induction u using Nat.strongRecOn with
 | _ u IH =>
  intro hu;refine qe.mk hc rfl ?_;simp only[jJ,vI,simprocAttr]
  by_cases h:u<10
  ·have h':(u:Int)<10:=by omega
   have hw:IntKind.wrap .u32 (48+(u:Int))=48+u:=by rw[qbH (by omega) (by omega)]
   have hw8:IntKind.wrap .u8 (48+(u:Int))=((48+u:Nat):Int):=by rw[qtB (by omega) (by omega)];omega
   rw[qfY h];simp (decide:=true) only [↓vS,vT,simprocAttr,h',hw,hw8,qkc];simp[vZ]
  ·have h':¬(u:Int)<10:=by omega
   have h10:(10:Int)≠0:=by decide
   have hq:IntKind.wrap .u32 (Int.tdiv u 10)=((u / 10:Nat):Int):=by
    rw[Int.tdiv_eq_ediv_of_nonneg (by omega),qbH (by omega) (by omega)];omega
   have hr:Int.tmod u 10=((u % 10:Nat):Int):=by
    rw[Int.tmod_eq_emod_of_nonneg (by omega)];omega
   have i1:=IH (u / 10) (by omega) (by omega);have i2:=IH (u % 10) (by omega) (by omega);have l1:=qfW (n:=((u / 10:Nat):Int)) (by omega) (by omega);have l2:=qfW (n:=((u % 10:Nat):Int)) (by omega) (by omega);rw[qmb h];have c1:(qeK ((u / 10:Nat):Int)).length+(qeK ((u % 10:Nat):Int)).length<=9223372036854775807:=by omega
   simp (decide:=true) only [↓vS,vT,simprocAttr,h',↓jf h10,↓jS h10,hq];refine i1.sc ?_;simp (decide:=true) only [↓vS,vT,simprocAttr,↓jS h10,hr];refine i2.sc ?_;simp (decide:=true) only [↓vS,vT,simprocAttr,List.length_append,c1];simp[vZ]
def jk(a b c:Nat):IFn:=⟨[.tmp 2],.seq (.r [.m 2 (.c (.s []))]) (.seq (.r [.l 4 a [],.n 5 0,.q 6 (.cvInt .u64 (.t 5)),.l 7 b [.t 4,.t 6],.n 3 7]) (.seq (.seq (.r [.n 8 3,.q 9 (.bin .eql (.t 8) (.c (.s []))),.n 10 9,.y 11 0 10,.g 12 (.bin .lss (.t 11) (.c (.i .u32 4096))) 10 true,.p 13 10 12]) (.cond (.t 13) (.seq (.r [.n 14 0,.l 15 c [.t 14],.n 2 15]) (.ret)) (.skip))) (.seq (.r [.n 16 3,.n 2 16]) (.ret))))⟩
theorem quJ{g1 g2 g3:Nat}(hc:qt P f (jk g1 g2 g3)=true)(h1:qe P g1 [] (.fz 15 (zh.flatMap (qQ .u64))))(h2:∀(l:List (List UInt8×Int)) (n:Int),l.length<=qf->qe P g2 [.fz l.length (l.flatMap (qQ .u64)),.i .u64 n] (.s (qJ n l)))(h3:∀u:Nat,u<=4095->qe P g3 [.i .u32 u] (.s (qeK u)))(n:Int)(h0:0<=n)(hn:n<=4294967295):qe P f [.i .u32 n] (.s (qbs n)):=by
 refine qe.mk hc rfl ?_;have h2':=h2 zh n (by decide);have hw:IntKind.wrap .u64 n=n:=qbI (by omega) (by omega);unfold qbs;generalize qJ n zh=s at h2' ⊢;simp only[jk,vI,simprocAttr];simp only[↓vS,vT,simprocAttr];refine h1.sc ?_;simp only[↓vS,vT,simprocAttr,hw];refine h2'.sc ?_
 by_cases hs:s=[]
 ·by_cases h4:n<=4095
  ·have h4':n<4096:=by omega
   obtain⟨u,rfl⟩:∃u:Nat,n=u:=⟨n.toNat,by omega⟩
   simp (decide:=true) only [↓vS,vT,simprocAttr,hs,h4'];refine (h3 u (by omega)).sc ?_;simp only[↓vS,vT,simprocAttr];simp[vZ,hs,h4]
  ·have h4':¬n<4096:=by omega
   simp (decide:=true) only [↓vS,vT,simprocAttr,hs,h4'];simp[vZ,hs,h4]
 ·simp (decide:=true) only [↓vS,vT,simprocAttr,hs];simp[vZ,hs]
end Go.Kc
end
section
/- The document's text of an entry. Condition: the functions' texts are these. -/
namespace Go.Kc
variable {P:Program} {f:Nat}
theorem qlR(x y:BitVec 32):(x &&& ~~~y)+(x &&& y)=x:=by
 rw[BitVec.add_eq_or_of_and_eq_zero]
 ·ext i hi
  simp only[BitVec.getElem_or,BitVec.getElem_and,BitVec.getElem_not];cases x[i]<;>cases y[i]<;>rfl
 ·ext i hi
  simp only[BitVec.getElem_and,BitVec.getElem_not,BitVec.getElem_zero];cases x[i]<;>cases y[i]<;>rfl
theorem qgM(x:BitVec 32):(x &&& 65535#32).toNat=x.toNat % 65536:=by
 rw[BitVec.toNat_and];exact Nat.and_two_pow_sub_one_eq_mod x.toNat 16
theorem qiS(x:BitVec 32):(x &&& 4294901760#32).toNat=x.toNat-x.toNat % 65536:=by
 have h:=congrArg BitVec.toNat (qlR x 65535#32);have h2: ~~~(65535#32)=4294901760#32:=by decide
 rw[h2,BitVec.toNat_add,qgM] at h;have h3:(x &&& 4294901760#32).toNat<=x.toNat:=by rw[BitVec.toNat_and];exact Nat.and_le_left
 have h4:=x.isLt;omega
theorem qgL{a:Int}(h0:0<=a)(h1:a<=4294967295):xa .u32 a 65535=a.tmod 65536∧(xa .u32 a 4294901760=327680↔a.tdiv 65536=5):=by
 obtain⟨n,rfl⟩:∃n:Nat,a=n:=⟨a.toNat,by omega⟩
 have hx:(BitVec.ofInt 32 (n:Int)).toNat=n:=by
  rw[BitVec.toNat_ofInt];omega
 have e1:xa .u32 (n:Int) 65535=((n % 65536:Nat):Int):=by
  show IntKind.wrap .u32 (((BitVec.ofInt 32 (n:Int) &&& 65535#32).toNat:Nat):Int)=_;rw[qgM,hx,qbH (by omega) (by omega)]
 have e2:xa .u32 (n:Int) 4294901760=((n-n % 65536:Nat):Int):=by
  show IntKind.wrap .u32 (((BitVec.ofInt 32 (n:Int) &&& 4294901760#32).toNat:Nat):Int)=_;rw[qiS,hx,qbH (by omega) (by omega)]
 rw[e1,e2,Int.tdiv_eq_ediv_of_nonneg (by omega),Int.tmod_eq_emod_of_nonneg (by omega)];omega
def qac(a:Nat):IFn:=⟨[.tmp 2],.seq (.r [.q 1 (.box (.t 0)),.m 2 (.c (.s []))]) (.seq (.seq (.r [.f 3 2 1,.d 4 3,.q 5 (.un .not (.t 4))]) (.cond (.t 5) (.seq (.r [.f 6 0 1,.d 7 6,.n 2 7]) (.ret)) (.skip))) (.seq (.seq (.r [.f 8 1 1,.d 9 8,.q 10 (.bin .eql (.t 9) (.c (.i .u32 2147483648)))]) (.cond (.t 10) (.seq (.r [.f 11 0 1,.d 12 11,.q 13 (.bin .add (.t 12) (.c (.s [58,107,105,108,108]))),.n 2 13]) (.ret)) (.skip))) (.seq (.seq (.r [.f 14 1 1,.d 15 14,.q 16 (.bin .quo (.t 15) (.c (.i .u32 65536))),.q 17 (.bin .eql (.t 16) (.c (.i .u32 5)))]) (.cond (.t 17) (.seq (.reg true [.f 18 0 1,.d 19 18,.q 20 (.bin .add (.t 19) (.c (.s [58]))),.f 21 1 1,.d 22 21,.q 23 (.bin .rem (.t 22) (.c (.i .u32 65536))),.l 24 a [.t 23],.b 25 .add 20 24,.n 2 25]) (.ret)) (.skip))) (.seq (.r [.f 26 0 1,.d 27 26,.q 28 (.bin .add (.t 27) (.c (.s [58]))),.n 2 28]) (.ret)))))⟩
theorem qwP{g:Nat}(hc:qt P f (qac g)=true)(hg:∀n:Int,0<=n->n<=4294967295->qe P g [.i .u32 n] (.s (qbs n)))(c:GCall)(hl:c.name.length<=1000000)(ha0:0<=c.act)(ha1:c.act<=4294967295):qe P f [.agg (qhU c)] (.s (qbF c)):=by
 refine qe.mk hc rfl ?_;obtain⟨hlo,hhi⟩:=qgL ha0 ha1;have h65:(65536:Int)≠0:=by decide
 have h1:c.name.length+5<=9223372036854775807:=by omega
 have h2:c.name.length+1<=9223372036854775807:=by omega
 have hwq:IntKind.wrap .u32 (c.act.tdiv 65536)=c.act.tdiv 65536:=by
  rw[Int.tdiv_eq_ediv_of_nonneg ha0,qbH (by omega) (by omega)]
 simp only[qac,qhU,vI,simprocAttr];unfold qbF
 by_cases a0:c.act=0
 ·simp (decide:=true) only [↓vS,vT,simprocAttr,a0];simp[vZ,a0]
 have hb:decide (c.act≠0)=true:=by simpa using a0
 rw[hb]
 by_cases a1:c.act=2147483648
 ·simp (decide:=true) only [↓vS,vT,simprocAttr,a0,a1,h1];simp[vZ,a0,a1]
 by_cases a2:c.act.tdiv 65536=5
 ·have hr:=qcP c.act 65535;have hel:=qcU (n:=xa .u32 c.act 65535) hr.1;have hg':=hg _ hr.1 hr.2;rw[hlo] at hel hg';have a2':=hhi.2 a2;have h3:c.name.length+1+(qbs (c.act.tmod 65536)).length<=9223372036854775807:=by omega
  simp (decide:=true) only [↓vS,vT,simprocAttr,a0,a1,↓jf h65,hwq,a2];refine xb ?_;simp (decide:=true) only [↓vS,vT,simprocAttr,h2,↓jS h65];refine hg'.pc ?_;simp (decide:=true) only [↓vS,vT,simprocAttr,List.length_append,h2,h3];simp[vZ,a0,a1,a2',hlo]
 ·have a2':¬xa .u32 c.act 4294901760=327680:=fun h=>a2 (hhi.1 h)
  simp (decide:=true) only [↓vS,vT,simprocAttr,a0,a1,↓jf h65,hwq,a2,h2];simp[vZ,a0,a1,a2']
end Go.Kc
end
section
/- The document's lines of a list. Condition: the functions' texts are these. -/
namespace Go.Kc
variable {P:Program} {f g1 g2:Nat}
def zK(a b:Nat):ICode:=.seq (.r [.m 12 .N]) (.seq (.seq (.r [.f 52 0 3,.d 53 52,.q 54 (.bin .eql (.t 53) (.c (.i .u8 2)))]) (.cond (.t 54) (.r [.n 55 12,.n 56 0,.q 57 (.bin .add (.t 56) (.c (.s [61,126]))),.n 58 5,.l 59 b [.t 58],.b 60 .add 57 59,.q 61 (.buildS 1 [.s []] [(0,1,(.t 60))]),.q 62 (.app 1 16 true (.t 55) (.t 61)),.n 12 62]) (.skip))) (.seq (.seq (.r [.f 63 0 3,.d 64 63,.q 65 (.bin .eql (.t 64) (.c (.i .u8 1)))]) (.cond (.t 65) (.seq (.r [.n 66 12,.n 67 0,.q 68 (.bin .add (.t 67) (.c (.s [61,114,101,97,100]))),.q 69 (.buildS 1 [.s []] [(0,1,(.t 68))]),.q 70 (.app 1 16 true (.t 66) (.t 69)),.n 12 70]) (.seq (.seq (.r [.n 71 8,.q 72 (.un .not (.t 71))]) (.cond (.t 72) (.r [.n 73 12,.n 74 0,.q 75 (.bin .add (.t 74) (.c (.s [61,126,114,101,97,100]))),.q 76 (.buildS 1 [.s []] [(0,1,(.t 75))]),.q 77 (.app 1 16 true (.t 73) (.t 76)),.n 12 77]) (.skip))) (.seq (.seq (.r [.n 78 6,.e 79 78,.w 80 .gtr 79 0]) (.cond (.t 80) (.r [.n 81 12,.n 82 0,.q 83 (.bin .add (.t 82) (.c (.s [61]))),.n 84 6,.l 85 b [.t 84],.b 86 .add 83 85,.q 87 (.buildS 1 [.s []] [(0,1,(.t 86))]),.q 88 (.app 1 16 true (.t 81) (.t 87)),.n 12 88]) (.skip))) (.seq (.r [.n 89 7,.e 90 89,.w 91 .gtr 90 0]) (.cond (.t 91) (.r [.n 92 12,.n 93 0,.q 94 (.bin .add (.t 93) (.c (.s [61,126]))),.n 95 7,.l 96 b [.t 95],.b 97 .add 94 96,.q 98 (.buildS 1 [.s []] [(0,1,(.t 97))]),.q 99 (.app 1 16 true (.t 92) (.t 98)),.n 12 99]) (.skip)))))) (.skip))) (.seq (.r [.n 100 12,.n 4 100]) (.ret))))
def x4(a b:Nat):IFn:=⟨[.tmp 4],.seq (.r [.q 3 (.box (.t 1)),.m 4 .N]) (.seq (.r [.m 5 .N,.m 6 .N,.m 7 .N]) (.seq (.r [.m 8 .F]) (.seq (.seq (.r [.m 9 (.k 0)]) (.blk 0 (.loop (.seq (.seq (.r [.n 13 9,.f 14 1 3,.d 15 14,.e 16 15,.s 17 13 16]) (.cond (.t 17) (.skip) (.exit 0))) (.seq (.blk 1 (.seq (.r [.f 20 1 3,.d 21 20,.n 22 9,.i 23 2 21 22,.v 24 2 23,.q 10 (.alloc [.s [],.i .u32 0]),.u (.store 2 (.t 10) (.t 24))]) (.seq (.r [.f 25 0 10,.d 26 25,.f 27 1 10,.d 28 27,.f 29 1 10,.d 30 29,.q 31 (.bin .neq (.t 30) (.c (.i .u32 0))),.q 32 (.build [.s [],.i .u32 0,.b false] [(0,1,(.t 26)),(1,1,(.t 28)),(2,1,(.t 31))]),.l 33 a [.t 32],.n 11 33]) (.seq (.r [.n 34 5,.n 35 11,.q 36 (.buildS 1 [.s []] [(0,1,(.t 35))]),.q 37 (.app 1 16 true (.t 34) (.t 36)),.n 5 37]) (.seq (.r [.f 38 1 10,.d 39 38,.q 40 (.bin .neq (.t 39) (.c (.i .u32 0)))]) (.cond (.t 40) (.r [.n 41 7,.n 42 11,.q 43 (.buildS 1 [.s []] [(0,1,(.t 42))]),.q 44 (.app 1 16 true (.t 41) (.t 43)),.n 7 44]) (.seq (.r [.f 45 0 10,.d 46 45,.q 47 (.bin .eql (.t 46) (.c (.s [114,101,97,100])))]) (.cond (.t 47) (.r [.m 8 .T]) (.r [.n 48 6,.n 49 11,.q 50 (.buildS 1 [.s []] [(0,1,(.t 49))]),.q 51 (.app 1 16 true (.t 48) (.t 50)),.n 6 51]))))))))) (.r [.n 18 9,.a 19 18 1,.n 9 19])))))) (.cut (zK a b)))))⟩
def qfQ(l:List GCall):Bool:=l.any qR
theorem qj5{l:List GCall}{j:Nat}{c:GCall}(h:l[j]?=some c):qfQ (l.take (j+1))=(qfQ (l.take j)||qR c):=by
 unfold qfQ;rw[List.take_add_one,h,List.any_append];simp
def qgI(k:List UInt8)(a o w:Nat)(r:Bool):List (Nat×AV):=[(0,.s k),(3,.ptr 0 0),(5,.own 1 a),(6,.own 2 o),(7,.own 3 w),(8,.b r)]
def qdY(l:GList)(A O W:List (List UInt8)):List Blk:=[.cells 0 true false (qu l),.cells 1 true true (rS A),.cells 1 true true (rS O),.cells 1 true true (rS W)]
def quB(P:Program)(g:Nat):Prop:=∀c:GCall,c.name.length<=1000000->0<=c.act->c.act<=4294967295->qe P g [.agg (qhU c)] (.s (qbF c))
def qdj(P:Program)(g:Nat):Prop:=∀xs:List (List UInt8),xs.length<=1000000->(zI [32] xs).length<=100000000->qe P g [.fz xs.length (rS xs)] (.s (zI [32] xs))
theorem qsf(hc:qt P f (x4 g1 g2)=true)(h1:quB P g1)
  (tail:∀(k:List UInt8) (l:GList),LOkP k l->∀t' h',Wk 0 t' h' (mkT (qgI k (zc qA l.calls).length (zc qO l.calls).length (zc qW l.calls).length (qfQ l.calls))) (mkH 0 (qdY l (zc qA l.calls) (zc qO l.calls) (zc qW l.calls)))->S P 0 (zK g1 g2) (jD [.tmp 4] (fun v' h'=>Frz h' v' (.fz (xr k l).length (rS (xr k l))))) t' h')
  (k:List UInt8) (l:GList) (hk:LOkP k l) (ha:∀c ∈ l.calls,0<=c.act∧c.act<=4294967295):qe P f [.s k,.agg (qu l)] (.fz (xr k l).length (rS (xr k l))):=by
 refine qe.mk hc (by simp[qG,clo,qu,qc]) ?_;simp only[x4,qu,vI,simprocAttr];have hn:=hk.n;simp only[↓vS,vT,simprocAttr]
 refine SL.loop (α:=Nat) (fun j=>qgI k (zc qA (l.calls.take j)).length (zc qO (l.calls.take j)).length (zc qW (l.calls.take j)).length (qfQ (l.calls.take j))++[(9,.i .i64 j)])
  (fun j=>qdY l (zc qA (l.calls.take j)) (zc qO (l.calls.take j)) (zc qW (l.calls.take j))) (fun j=>j<=l.calls.length) (fun j=>l.calls.length-j) 0 [0,99,99,99] ?_ ?_ ?_ rfl ?_ ?_
 ·simp[vw,qgI,qdY,qc,zc,qfQ]
 ·simp[vw,qdY,qu,qai,zc,qh,qc]
 ·simp
 ·exact Nat.zero_le _
 rintro j hj G ih;simp only[qgI,qdY,qu,List.cons_append,List.nil_append,vI,simprocAttr]
 by_cases hlt:j<l.calls.length
 ·have hx:l.calls[j]?=some l.calls[j]:=List.getElem?_eq_getElem hlt;have hw:IntKind.wrap .i64 ((j:Int)+1)=((j+1:Nat):Int):=by rw[qF (by omega) (by omega)];omega
  have he:=qcw hx;have hb:=qbp hlt;have hnc:=hk.nm l.calls[j] (List.getElem_mem hlt);have hac:=ha l.calls[j] (List.getElem_mem hlt);have ih2:=ih (j+1) (by omega) (by omega);have n1:=qbb qA (l.calls.take j);have n2:=qbb qO (l.calls.take j);have n3:=qbb qW (l.calls.take j);rw[List.length_take,Nat.min_eq_left hj] at n1 n2 n3;rw[qdm (q:=qA) hx,qdm (q:=qO) hx,qdm (q:=qW) hx,qj5 hx] at ih2;generalize l.calls[j]=c at he hnc hac ih2;generalize zc qA (l.calls.take j)=A at n1 ih2 ⊢;generalize zc qO (l.calls.take j)=O at n2 ih2 ⊢;generalize zc qW (l.calls.take j)=W at n3 ih2 ⊢;generalize qfQ (l.calls.take j)=R at ih2 ⊢;have h1c:=h1 c hnc hac.1 hac.2;simp only[qhU] at h1c;have r1:A.length+1<=qf:=by simp only[qf];omega
  have r2:(A.length+1)*16<=qf:=by simp only[qf];omega
  have r3:O.length+1<=qf:=by simp only[qf];omega
  have r4:(O.length+1)*16<=qf:=by simp only[qf];omega
  have r5:W.length+1<=qf:=by simp only[qf];omega
  have r6:(W.length+1)*16<=qf:=by simp only[qf];omega
  have hap:∀X:List (List UInt8),rS X++[AV.s (qbF c)]=rS (X++[qbF c]):=fun X=>by rw[← x6];rfl
  by_cases a0:c.act=0
  ·have hd:decide (c.act≠0)=false:=by simp[a0]
   rw[hd,a0] at h1c
   by_cases b0:c.name=zd
   ·have q1:qR c=true:=by simp[qR,a0,b0]
    have q2:qO c=false:=by simp[qO,b0]
    have q3:qW c=false:=by simp[qW,a0]
    rw[q1,q2,q3] at ih2;simp only[qA,if_pos,if_neg,List.append_nil,Bool.or_true,reduceCtorEq,if_false,if_true] at ih2;simp (decide:=true) only [↓vS,vT,simprocAttr,hlt,he,hb,zf,a0];refine h1c.sc ?_;unfold zd at b0;simp (decide:=true) only [↓vS,vT,simprocAttr,r1,r2,zX,hap,hw,Nat.mul_one,a0,b0];refine ih2 _ _ (Wk.mk _ _ [0,6,2,3] ?_ ?_ ?_ rfl)
    ·simp[vw,qgI,qdY,qc]
    ·simp[vw,qdY,qu,qh,qa,qc]
    ·simp
   ·have q1:qR c=false:=by simp[qR,b0]
    have q2:qO c=true:=by simp[qO,a0,b0]
    have q3:qW c=false:=by simp[qW,a0]
    rw[q1,q2,q3] at ih2;simp only[qA,if_pos,if_neg,List.append_nil,Bool.or_false,reduceCtorEq,if_false,if_true] at ih2;simp (decide:=true) only [↓vS,vT,simprocAttr,hlt,he,hb,zf,a0];refine h1c.sc ?_;unfold zd at b0;simp (decide:=true) only [↓vS,vT,simprocAttr,r1,r2,r3,r4,zX,hap,hw,Nat.mul_one,a0,b0];refine ih2 _ _ (Wk.mk _ _ [0,6,8,3] ?_ ?_ ?_ rfl)
    ·simp[vw,qgI,qdY,qc]
    ·simp[vw,qdY,qu,qh,qa,qc]
    ·simp
  ·have hd:decide (c.act≠0)=true:=by simp[a0]
   rw[hd] at h1c;have q1:qR c=false:=by simp[qR,a0]
   have q2:qO c=false:=by simp[qO,a0]
   have q3:qW c=true:=by simp[qW,a0]
   rw[q1,q2,q3] at ih2;simp only[qA,if_pos,if_neg,List.append_nil,Bool.or_false,reduceCtorEq,if_false,if_true] at ih2;simp (decide:=true) only [↓vS,vT,simprocAttr,hlt,he,hb,zf,a0];refine h1c.sc ?_;simp (decide:=true) only [↓vS,vT,simprocAttr,r1,r2,r5,r6,zX,hap,hw,Nat.mul_one,a0];refine ih2 _ _ (Wk.mk _ _ [0,6,2,8] ?_ ?_ ?_ rfl)
   ·simp[vw,qgI,qdY,qc]
   ·simp[vw,qdY,qu,qh,qa,qc]
   ·simp
 ·have hjl:l.calls.take j=l.calls:=List.take_of_length_le (by omega);rw[hjl];clear ih;simp (decide:=true) only [↓vS,vT,simprocAttr,hlt];refine tail k l hk _ _ (Wk.mk _ _ [0,1,2,3] ?_ ?_ ?_ rfl)
  ·simp[vw,qgI,qdY,qc]
  ·simp[vw,qdY,qu,qh,qa,qc]
  ·simp
end Go.Kc
end
section
/- The document's lines of a list: the end. Condition: the functions' texts are these. -/
namespace Go.Kc
variable {P:Program} {f g1 g2:Nat}
theorem qlB(l:List GCall):qfQ l=true↔zc qR l≠[]:=by
 unfold qfQ zc;rw[Ne,List.map_eq_nil_iff,List.filter_eq_nil_iff,List.any_eq_true];simp
theorem qtu(hg:qdj P g2)(k:List UInt8)(l:GList)(hk:LOkP k l)(t':Tr AV)(h':Hp)(hw:Wk 0 t' h' (mkT (qgI k (zc qA l.calls).length (zc qO l.calls).length (zc qW l.calls).length (qfQ l.calls))) (mkH 0 (qdY l (zc qA l.calls) (zc qO l.calls) (zc qW l.calls)))) :
  S P 0 (zK g1 g2) (jD [.tmp 4] (fun v' h'=>Frz h' v' (.fz (xr k l).length (rS (xr k l))))) t' h':=by
 refine S.weak hw (qr ?_);have hA:=hk.ok qA [126] (by decide);have hO:=hk.ok qO [] (by decide);have hW:=hk.ok qW [126] (by decide);have hR:=qlB l.calls;unfold xr qdd qda;generalize zc qA l.calls=A at hA ⊢;generalize zc qO l.calls=O at hO ⊢;generalize zc qW l.calls=W at hW ⊢;generalize zc qR l.calls=E at hR ⊢;generalize qfQ l.calls=R at hR ⊢;obtain⟨k1,_,a1,a2⟩:=hA;obtain⟨_,_,o1,o2⟩:=hO;obtain⟨_,_,w1,w2⟩:=hW;have kr1:k.length+1<=9223372036854775807:=by omega
 have kr2:k.length+2<=9223372036854775807:=by omega
 have kr5:k.length+5<=9223372036854775807:=by omega
 have kr6:k.length+6<=9223372036854775807:=by omega
 have kq1:k.length<=9223372036854775806:=by omega
 have kq2:k.length<=9223372036854775805:=by omega
 have kq5:k.length<=9223372036854775802:=by omega
 have kq6:k.length<=9223372036854775801:=by omega
 have ja:k.length+2+(zI [32] A).length<=9223372036854775807:=by omega
 have jo:k.length+1+(zI [32] O).length<=9223372036854775807:=by omega
 have jw:k.length+2+(zI [32] W).length<=9223372036854775807:=by omega
 simp only[zK,qgI,qdY,qu,vI,simprocAttr]
 by_cases m2:l.mode=2
 ·have m1:¬l.mode=1:=by omega
  simp (decide:=true) only [↓vS,vT,simprocAttr,m2,List.length_append,List.length_cons,List.length_nil,kr2];refine (hg A (by omega) (by omega)).lend (vs':=[.fz A.length (rS A)]) ?_ rfl ?_
  ·simp[vZ,vP,Tr.get_set,qI qa];intro h0;rw[h0];rfl
  simp (decide:=true) only [↓vS,vT,simprocAttr,List.length_append,List.length_cons,List.length_nil,ja,m1,m2];simp[vZ,vP,Tr.get_set,zj,rS,qI]
 ·by_cases m1:l.mode=1
  ·simp (decide:=true) only [↓vS,vT,simprocAttr,m1,List.length_append,List.length_cons,List.length_nil,kr5];cases R with
   | false =>
    have hE:E=[]:=by simpa using hR
    simp (decide:=true) only [↓vS,vT,simprocAttr,List.length_append,List.length_cons,List.length_nil,List.cons_append,List.nil_append,kr1,kr2,kr5,kr6,kq1,kq2,kq5,kq6,jo,jw,m1]
    by_cases ho:O=[]
    ·have hon:¬(0:Int)<(O.length:Int):=by rw[ho];decide
     simp (decide:=true) only [↓vS,vT,simprocAttr,List.length_append,List.length_cons,List.length_nil,List.cons_append,List.nil_append,kr1,kr2,kr5,kr6,kq1,kq2,kq5,kq6,jo,jw,m1,hon]
     by_cases hw:W=[]
     ·have hwn:¬(0:Int)<(W.length:Int):=by rw[hw];decide
      simp (decide:=true) only [↓vS,vT,simprocAttr,List.length_append,List.length_cons,List.length_nil,List.cons_append,List.nil_append,kr1,kr2,kr5,kr6,kq1,kq2,kq5,kq6,jo,jw,m1,hwn];simp[vZ,vP,Tr.get_set,zj,rS,zd,zm,hw,hE,ho]
     ·have hwp:(0:Int)<(W.length:Int):=by have:=List.length_pos_iff.2 hw;omega
      simp (decide:=true) only [↓vS,vT,simprocAttr,List.length_append,List.length_cons,List.length_nil,List.cons_append,List.nil_append,kr1,kr2,kr5,kr6,kq1,kq2,kq5,kq6,jo,jw,m1,hwp];refine (hg W (by omega) (by omega)).lend (vs':=[.fz W.length (rS W)]) ?_ rfl ?_
      ·simp[vZ,vP,Tr.get_set,qI qa]
       try (intro h0;rw[h0];rfl)
      simp (decide:=true) only [↓vS,vT,simprocAttr,List.length_append,List.length_cons,List.length_nil,List.cons_append,List.nil_append,kr1,kr2,kr5,kr6,kq1,kq2,kq5,kq6,jo,jw,m1];simp[vZ,vP,Tr.get_set,zj,rS,zd,zm,hw,hE,ho]
    ·have hop:(0:Int)<(O.length:Int):=by have:=List.length_pos_iff.2 ho;omega
     simp (decide:=true) only [↓vS,vT,simprocAttr,List.length_append,List.length_cons,List.length_nil,List.cons_append,List.nil_append,kr1,kr2,kr5,kr6,kq1,kq2,kq5,kq6,jo,jw,m1,hop];refine (hg O (by omega) (by omega)).lend (vs':=[.fz O.length (rS O)]) ?_ rfl ?_
     ·simp[vZ,vP,Tr.get_set,qI qa]
      try (intro h0;rw[h0];rfl)
     simp (decide:=true) only [↓vS,vT,simprocAttr,List.length_append,List.length_cons,List.length_nil,List.cons_append,List.nil_append,kr1,kr2,kr5,kr6,kq1,kq2,kq5,kq6,jo,jw,m1]
     by_cases hw:W=[]
     ·have hwn:¬(0:Int)<(W.length:Int):=by rw[hw];decide
      simp (decide:=true) only [↓vS,vT,simprocAttr,List.length_append,List.length_cons,List.length_nil,List.cons_append,List.nil_append,kr1,kr2,kr5,kr6,kq1,kq2,kq5,kq6,jo,jw,m1,hwn];simp[vZ,vP,Tr.get_set,zj,rS,zd,zm,hw,hE,ho]
     ·have hwp:(0:Int)<(W.length:Int):=by have:=List.length_pos_iff.2 hw;omega
      simp (decide:=true) only [↓vS,vT,simprocAttr,List.length_append,List.length_cons,List.length_nil,List.cons_append,List.nil_append,kr1,kr2,kr5,kr6,kq1,kq2,kq5,kq6,jo,jw,m1,hwp];refine (hg W (by omega) (by omega)).lend (vs':=[.fz W.length (rS W)]) ?_ rfl ?_
      ·simp[vZ,vP,Tr.get_set,qI qa]
       try (intro h0;rw[h0];rfl)
      simp (decide:=true) only [↓vS,vT,simprocAttr,List.length_append,List.length_cons,List.length_nil,List.cons_append,List.nil_append,kr1,kr2,kr5,kr6,kq1,kq2,kq5,kq6,jo,jw,m1];simp[vZ,vP,Tr.get_set,zj,rS,zd,zm,hw,hE,ho]
   | true =>
    have hE:¬E=[]:=by simpa using hR
    simp (decide:=true) only [↓vS,vT,simprocAttr,List.length_append,List.length_cons,List.length_nil,List.cons_append,List.nil_append,kr1,kr2,kr5,kr6,kq1,kq2,kq5,kq6,jo,jw,m1]
    by_cases ho:O=[]
    ·have hon:¬(0:Int)<(O.length:Int):=by rw[ho];decide
     simp (decide:=true) only [↓vS,vT,simprocAttr,List.length_append,List.length_cons,List.length_nil,List.cons_append,List.nil_append,kr1,kr2,kr5,kr6,kq1,kq2,kq5,kq6,jo,jw,m1,hon]
     by_cases hw:W=[]
     ·have hwn:¬(0:Int)<(W.length:Int):=by rw[hw];decide
      simp (decide:=true) only [↓vS,vT,simprocAttr,List.length_append,List.length_cons,List.length_nil,List.cons_append,List.nil_append,kr1,kr2,kr5,kr6,kq1,kq2,kq5,kq6,jo,jw,m1,hwn];simp[vZ,vP,Tr.get_set,zj,rS,zd,zm,hw,hE,ho]
     ·have hwp:(0:Int)<(W.length:Int):=by have:=List.length_pos_iff.2 hw;omega
      simp (decide:=true) only [↓vS,vT,simprocAttr,List.length_append,List.length_cons,List.length_nil,List.cons_append,List.nil_append,kr1,kr2,kr5,kr6,kq1,kq2,kq5,kq6,jo,jw,m1,hwp];refine (hg W (by omega) (by omega)).lend (vs':=[.fz W.length (rS W)]) ?_ rfl ?_
      ·simp[vZ,vP,Tr.get_set,qI qa]
       try (intro h0;rw[h0];rfl)
      simp (decide:=true) only [↓vS,vT,simprocAttr,List.length_append,List.length_cons,List.length_nil,List.cons_append,List.nil_append,kr1,kr2,kr5,kr6,kq1,kq2,kq5,kq6,jo,jw,m1];simp[vZ,vP,Tr.get_set,zj,rS,zd,zm,hw,hE,ho]
    ·have hop:(0:Int)<(O.length:Int):=by have:=List.length_pos_iff.2 ho;omega
     simp (decide:=true) only [↓vS,vT,simprocAttr,List.length_append,List.length_cons,List.length_nil,List.cons_append,List.nil_append,kr1,kr2,kr5,kr6,kq1,kq2,kq5,kq6,jo,jw,m1,hop];refine (hg O (by omega) (by omega)).lend (vs':=[.fz O.length (rS O)]) ?_ rfl ?_
     ·simp[vZ,vP,Tr.get_set,qI qa]
      try (intro h0;rw[h0];rfl)
     simp (decide:=true) only [↓vS,vT,simprocAttr,List.length_append,List.length_cons,List.length_nil,List.cons_append,List.nil_append,kr1,kr2,kr5,kr6,kq1,kq2,kq5,kq6,jo,jw,m1]
     by_cases hw:W=[]
     ·have hwn:¬(0:Int)<(W.length:Int):=by rw[hw];decide
      simp (decide:=true) only [↓vS,vT,simprocAttr,List.length_append,List.length_cons,List.length_nil,List.cons_append,List.nil_append,kr1,kr2,kr5,kr6,kq1,kq2,kq5,kq6,jo,jw,m1,hwn];simp[vZ,vP,Tr.get_set,zj,rS,zd,zm,hw,hE,ho]
     ·have hwp:(0:Int)<(W.length:Int):=by have:=List.length_pos_iff.2 hw;omega
      simp (decide:=true) only [↓vS,vT,simprocAttr,List.length_append,List.length_cons,List.length_nil,List.cons_append,List.nil_append,kr1,kr2,kr5,kr6,kq1,kq2,kq5,kq6,jo,jw,m1,hwp];refine (hg W (by omega) (by omega)).lend (vs':=[.fz W.length (rS W)]) ?_ rfl ?_
      ·simp[vZ,vP,Tr.get_set,qI qa]
       try (intro h0;rw[h0];rfl)
      simp (decide:=true) only [↓vS,vT,simprocAttr,List.length_append,List.length_cons,List.length_nil,List.cons_append,List.nil_append,kr1,kr2,kr5,kr6,kq1,kq2,kq5,kq6,jo,jw,m1];simp[vZ,vP,Tr.get_set,zj,rS,zd,zm,hw,hE,ho]
  ·simp (decide:=true) only [↓vS,vT,simprocAttr,m1,m2];simp[vZ,vP,Tr.get_set,rS]
def qfC(P:Program)(f:Nat):Prop:=∀(k:List UInt8) (l:GList),LOkP k l->(∀c ∈ l.calls,0<=c.act∧c.act<=4294967295)->qe P f [.s k,.agg (qu l)] (.fz (xr k l).length (rS (xr k l)))
theorem qqH(hc:qt P f (x4 g1 g2)=true)(h1:quB P g1)(hg:qdj P g2):qfC P f :=
 fun k l hk ha=>qsf hc h1 (fun k l hk t' h' hw=>qtu hg k l hk t' h' hw) k l hk ha
end Go.Kc
end
section
/- The document's lines of a policy. Condition: the functions' texts are these. -/
namespace Go.Kc
variable {P:Program} {f:Nat}
def zw(a b c d e g h i j:Nat):ICode:=.seq (.r [.n 160 4,.n 2 160,.m 3 (.k 0)]) (.ret)
def zu(a b c d e g h i j:Nat):ICode:=.seq (.seq (.r [.f 155 12 1,.d 156 155]) (.cond (.t 156) (.r [.n 157 4,.q 158 (.buildS 1 [.s []] [(0,1,(.c (.s [78,111,78,101,119,80,114,105,118,105,108,101,103,101,115,61,121,101,115])))]),.q 159 (.app 1 16 true (.t 157) (.t 158)),.n 4 159]) (.skip))) (.cut (zw a b c d e g h i j))
def zt(a b c d e g h i j:Nat):ICode:=.seq (.seq (.r [.f 150 11 1,.d 151 150]) (.cond (.t 151) (.r [.n 152 4,.q 153 (.buildS 1 [.s []] [(0,1,(.c (.s [82,101,115,116,114,105,99,116,82,101,97,108,116,105,109,101,61,121,101,115])))]),.q 154 (.app 1 16 true (.t 152) (.t 153)),.n 4 154]) (.skip))) (.cut (zu a b c d e g h i j))
def zr(a b c d e g h i j:Nat):ICode:=.seq (.seq (.r [.f 145 10 1,.d 146 145]) (.cond (.t 146) (.r [.n 147 4,.q 148 (.buildS 1 [.s []] [(0,1,(.c (.s [76,111,99,107,80,101,114,115,111,110,97,108,105,116,121,61,121,101,115])))]),.q 149 (.app 1 16 true (.t 147) (.t 148)),.n 4 149]) (.skip))) (.cut (zt a b c d e g h i j))
def zq(a b c d e g h i j:Nat):ICode:=.seq (.seq (.r [.f 140 9 1,.d 141 140]) (.cond (.t 141) (.r [.n 142 4,.q 143 (.buildS 1 [.s []] [(0,1,(.c (.s [77,101,109,111,114,121,68,101,110,121,87,114,105,116,101,69,120,101,99,117,116,101,61,121,101,115])))]),.q 144 (.app 1 16 true (.t 142) (.t 143)),.n 4 144]) (.skip))) (.cut (zr a b c d e g h i j))
def zp(a b c d e g h i j:Nat):ICode:=.seq (.seq (.r [.n 131 5,.e 132 131,.w 133 .gtr 132 0]) (.cond (.t 133) (.r [.n 134 4,.n 135 5,.l 136 c [.t 135],.q 137 (.bin .add (.c (.s [82,101,115,116,114,105,99,116,78,97,109,101,115,112,97,99,101,115,61,126])) (.t 136)),.q 138 (.buildS 1 [.s []] [(0,1,(.t 137))]),.q 139 (.app 1 16 true (.t 134) (.t 138)),.n 4 139]) (.skip))) (.cut (zq a b c d e g h i j))
def zo(a b c d e g h i j:Nat):ICode:=.seq (.r [.m 5 .N]) (.seq (.r [.f 113 8 1,.d 114 113,.l 115 i [.t 114],.n 8 115]) (.seq (.seq (.r [.m 9 (.k 0)]) (.blk 4 (.loop (.seq (.seq (.r [.n 116 9,.n 117 8,.e 118 117,.s 119 116 118]) (.cond (.t 119) (.skip) (.exit 4))) (.seq (.blk 5 (.reg true [.n 122 5,.l 123 j [],.n 124 8,.n 125 9,.i 126 1 124 125,.d 127 126,.l 128 h [.t 123,.t 127],.q 129 (.buildS 1 [.s []] [(0,1,(.t 128))]),.q 130 (.app 1 16 true (.t 122) (.t 129)),.n 5 130])) (.r [.n 120 9,.a 121 120 1,.n 9 121])))))) (.cut (zp a b c d e g h i j))))
def zn(a b c d e g h i j:Nat):ICode:=.seq (.seq (.r [.f 79 7 1,.d 80 79,.q 81 (.bin .eql (.t 80) (.c (.i .u8 2)))]) (.cond (.t 81) (.r [.n 82 4,.n 83 5,.l 84 c [.t 83],.q 85 (.bin .add (.c (.s [82,101,115,116,114,105,99,116,65,100,100,114,101,115,115,70,97,109,105,108,105,101,115,61,126])) (.t 84)),.q 86 (.buildS 1 [.s []] [(0,1,(.t 85))]),.q 87 (.app 1 16 true (.t 82) (.t 86)),.n 4 87]) (.skip))) (.seq (.seq (.r [.f 88 7 1,.d 89 88,.q 90 (.bin .eql (.t 89) (.c (.i .u8 1))),.n 91 90,.y 92 5 91,.g 93 (.len false (.t 92)) 91 true,.g 94 (.bin .gtr (.t 93) (.k 0)) 91 true,.p 95 91 94]) (.cond (.t 95) (.r [.n 96 4,.n 97 5,.l 98 c [.t 97],.q 99 (.bin .add (.c (.s [82,101,115,116,114,105,99,116,65,100,100,114,101,115,115,70,97,109,105,108,105,101,115,61])) (.t 98)),.q 100 (.buildS 1 [.s []] [(0,1,(.t 99))]),.q 101 (.app 1 16 true (.t 96) (.t 100)),.n 4 101]) (.skip))) (.seq (.seq (.r [.f 102 7 1,.d 103 102,.q 104 (.bin .eql (.t 103) (.c (.i .u8 1))),.n 105 104,.y 106 5 105,.g 107 (.len false (.t 106)) 105 true,.g 108 (.bin .eql (.t 107) (.k 0)) 105 true,.p 109 105 108]) (.cond (.t 109) (.r [.n 110 4,.q 111 (.buildS 1 [.s []] [(0,1,(.c (.s [82,101,115,116,114,105,99,116,65,100,100,114,101,115,115,70,97,109,105,108,105,101,115,61,110,111,110,101])))]),.q 112 (.app 1 16 true (.t 110) (.t 111)),.n 4 112]) (.skip))) (.cut (zo a b c d e g h i j))))
def zE(a b c d e g h i j:Nat):ICode:=.seq (.r [.m 5 .N]) (.seq (.seq (.r [.m 7 (.k 0)]) (.blk 2 (.loop (.seq (.seq (.r [.n 61 7,.f 62 6 1,.d 63 62,.e 64 63,.s 65 61 64]) (.cond (.t 65) (.skip) (.exit 2))) (.seq (.blk 3 (.reg true [.n 68 5,.l 69 g [],.f 70 6 1,.d 71 70,.n 72 7,.i 73 1 71 72,.d 74 73,.q 75 (.cvInt .u64 (.t 74)),.l 76 h [.t 69,.t 75],.q 77 (.buildS 1 [.s []] [(0,1,(.t 76))]),.q 78 (.app 1 16 true (.t 68) (.t 77)),.n 5 78])) (.r [.n 66 7,.a 67 66 1,.n 7 67])))))) (.cut (zn a b c d e g h i j)))
def zD(a b c d e g h i j:Nat):ICode:=.seq (.r [.n 56 4,.f 57 4 1,.v 58 2 57,.l 59 d [(.c (.s [83,121,115,116,101,109,67,97,108,108,76,111,103])),.t 58],.q 60 (.app 1 16 true (.t 56) (.t 59)),.n 4 60]) (.cut (zE a b c d e g h i j))
def zC(a b c d e g h i j:Nat):ICode:=.seq (.seq (.r [.f 45 3 1,.d 46 45,.q 47 (.bin .neq (.t 46) (.c (.i .u32 2147483648)))]) (.cond (.t 47) (.r [.n 48 4,.f 49 3 1,.d 50 49,.q 51 (.bin .rem (.t 50) (.c (.i .u32 65536))),.l 52 e [.t 51],.q 53 (.bin .add (.c (.s [83,121,115,116,101,109,67,97,108,108,69,114,114,111,114,78,117,109,98,101,114,61])) (.t 52)),.q 54 (.buildS 1 [.s []] [(0,1,(.t 53))]),.q 55 (.app 1 16 true (.t 48) (.t 54)),.n 4 55]) (.skip))) (.cut (zD a b c d e g h i j))
def zB(a b c d e g h i j:Nat):ICode:=.seq (.r [.n 40 4,.f 41 1 1,.v 42 2 41,.l 43 d [(.c (.s [83,121,115,116,101,109,67,97,108,108,70,105,108,116,101,114])),.t 42],.q 44 (.app 1 16 true (.t 40) (.t 43)),.n 4 44]) (.cut (zC a b c d e g h i j))
def zA(a b c d e g h i j:Nat):ICode:=.seq (.seq (.r [.n 31 5,.e 32 31,.w 33 .gtr 32 0]) (.cond (.t 33) (.r [.n 34 4,.n 35 5,.l 36 c [.t 35],.q 37 (.bin .add (.c (.s [83,121,115,116,101,109,67,97,108,108,65,114,99,104,105,116,101,99,116,117,114,101,115,61])) (.t 36)),.q 38 (.buildS 1 [.s []] [(0,1,(.t 37))]),.q 39 (.app 1 16 true (.t 34) (.t 38)),.n 4 39]) (.skip))) (.cut (zB a b c d e g h i j))
def xe(a b c d e g h i j:Nat):ICode:=.seq (.seq (.r [.m 6 (.k 0)]) (.blk 0 (.loop (.seq (.seq (.r [.n 13 6,.f 14 0 1,.d 15 14,.e 16 15,.s 17 13 16]) (.cond (.t 17) (.skip) (.exit 0))) (.seq (.blk 1 (.reg true [.n 20 5,.l 21 b [],.f 22 0 1,.d 23 22,.n 24 6,.i 25 1 23 24,.d 26 25,.i 27 1 21 26,.d 28 27,.q 29 (.buildS 1 [.s []] [(0,1,(.t 28))]),.q 30 (.app 1 16 true (.t 20) (.t 29)),.n 5 30])) (.r [.n 18 6,.a 19 18 1,.n 6 19])))))) (.cut (zA a b c d e g h i j))
def wl(a b c d e g h i j:Nat):IFn:=⟨[.tmp 2,.tmp 3],.seq (.r [.q 1 (.box (.t 0)),.m 2 .N,.m 3 (.k 0)]) (.seq (.seq (.r [.v 10 13 1,.l 11 a [.t 10],.q 12 (.un .not (.t 11))]) (.cond (.t 12) (.seq (.r [.m 2 .N,.m 3 (.k 2)]) (.ret)) (.skip))) (.seq (.r [.m 4 .N]) (.seq (.r [.m 5 .N]) (.cut (xe a b c d e g h i j)))))⟩
def zZ(ls:List (List UInt8)):List (Nat×AV):=[(1,.ptr 0 0),(4,.own 1 ls.length)]
def qL(p:Pol)(ls:List (List UInt8)):List Blk:=[.cells 0 true false (qj p),.cells 1 true true (rS ls)]
section
variable {g1 g2 g3 g4 g5 g6 g7 g8 g9:Nat}
theorem qr6(p:Pol)(ls:List (List UInt8)){t':Tr AV}{h':Hp}(hw:Wk 0 t' h' (mkT (zZ ls)) (mkH 0 (qL p ls))) :
  S P 0 (zw g1 g2 g3 g4 g5 g6 g7 g8 g9) (jD [.tmp 2,.tmp 3] fun v' h'=>Frz h' v' (.tup [.fz ls.length (rS ls),.i .i64 0])) t' h':=by
 refine S.weak hw (qr ?_);simp only[zw,zZ,qL,vI,simprocAttr];simp (decide:=true) only [↓vS,vT,simprocAttr];simp[vZ,vP,Tr.get_set,qI qa]
 try (intro h0;rw[h0];rfl)
theorem qr5{Q:X->Tr AV->Hp->Prop}(p:Pol)(ls:List (List UInt8))(hls:ls.length<=1000)
  (hQ:∀{t':Tr AV} {h':Hp},Wk 0 t' h' (mkT (zZ (ls++xF kNp p.np))) (mkH 0 (qL p (ls++xF kNp p.np)))->S P 0 (zw g1 g2 g3 g4 g5 g6 g7 g8 g9) Q t' h')
  {t':Tr AV} {h':Hp} (hw:Wk 0 t' h' (mkT (zZ ls)) (mkH 0 (qL p ls))):S P 0 (zu g1 g2 g3 g4 g5 g6 g7 g8 g9) Q t' h':=by
 refine S.weak hw (qr ?_);have hr1:ls.length+1<=qf:=by simp only[qf];omega
 have hr2:(ls.length+1)*16<=qf:=by simp only[qf];omega
 simp only[zu,zZ,qL,qj,vI,simprocAttr];cases hf:p.np with
 | true =>
  rw[hf] at hQ;have hap:∀x:List UInt8,rS ls++[AV.s x]=rS (ls++[x]):=fun x=>by rw[← x6];rfl
  simp (decide:=true) only [↓vS,vT,simprocAttr,hf,hr1,hr2,zX,hap,Nat.mul_one];refine hQ (Wk.mk _ _ [0,3] ?_ ?_ ?_ rfl)
  ·simp[vw,zZ,qL,xF]
  ·simp[vw,qL,qj,xF,zj,zm,kNp,hf,qh,qa,qd,qc]
  ·simp[qL]
 | false =>
  rw[hf] at hQ;simp (decide:=true) only [↓vS,vT,simprocAttr,hf];refine hQ (Wk.mk _ _ [0,1] ?_ ?_ ?_ rfl)
  ·simp[vw,zZ,qL,xF]
  ·simp[vw,qL,qj,xF,hf,qh,qa,qd,qc]
  ·simp[qL]
theorem qr4{Q:X->Tr AV->Hp->Prop}(p:Pol)(ls:List (List UInt8))(hls:ls.length<=1000)
  (hQ:∀{t':Tr AV} {h':Hp},Wk 0 t' h' (mkT (zZ (ls++xF kRt p.rt))) (mkH 0 (qL p (ls++xF kRt p.rt)))->S P 0 (zu g1 g2 g3 g4 g5 g6 g7 g8 g9) Q t' h')
  {t':Tr AV} {h':Hp} (hw:Wk 0 t' h' (mkT (zZ ls)) (mkH 0 (qL p ls))):S P 0 (zt g1 g2 g3 g4 g5 g6 g7 g8 g9) Q t' h':=by
 refine S.weak hw (qr ?_);have hr1:ls.length+1<=qf:=by simp only[qf];omega
 have hr2:(ls.length+1)*16<=qf:=by simp only[qf];omega
 simp only[zt,zZ,qL,qj,vI,simprocAttr];cases hf:p.rt with
 | true =>
  rw[hf] at hQ;have hap:∀x:List UInt8,rS ls++[AV.s x]=rS (ls++[x]):=fun x=>by rw[← x6];rfl
  simp (decide:=true) only [↓vS,vT,simprocAttr,hf,hr1,hr2,zX,hap,Nat.mul_one];refine hQ (Wk.mk _ _ [0,3] ?_ ?_ ?_ rfl)
  ·simp[vw,zZ,qL,xF]
  ·simp[vw,qL,qj,xF,zj,zm,kRt,hf,qh,qa,qd,qc]
  ·simp[qL]
 | false =>
  rw[hf] at hQ;simp (decide:=true) only [↓vS,vT,simprocAttr,hf];refine hQ (Wk.mk _ _ [0,1] ?_ ?_ ?_ rfl)
  ·simp[vw,zZ,qL,xF]
  ·simp[vw,qL,qj,xF,hf,qh,qa,qd,qc]
  ·simp[qL]
theorem qr3{Q:X->Tr AV->Hp->Prop}(p:Pol)(ls:List (List UInt8))(hls:ls.length<=1000)
  (hQ:∀{t':Tr AV} {h':Hp},Wk 0 t' h' (mkT (zZ (ls++xF kPe p.pe))) (mkH 0 (qL p (ls++xF kPe p.pe)))->S P 0 (zt g1 g2 g3 g4 g5 g6 g7 g8 g9) Q t' h')
  {t':Tr AV} {h':Hp} (hw:Wk 0 t' h' (mkT (zZ ls)) (mkH 0 (qL p ls))):S P 0 (zr g1 g2 g3 g4 g5 g6 g7 g8 g9) Q t' h':=by
 refine S.weak hw (qr ?_);have hr1:ls.length+1<=qf:=by simp only[qf];omega
 have hr2:(ls.length+1)*16<=qf:=by simp only[qf];omega
 simp only[zr,zZ,qL,qj,vI,simprocAttr];cases hf:p.pe with
 | true =>
  rw[hf] at hQ;have hap:∀x:List UInt8,rS ls++[AV.s x]=rS (ls++[x]):=fun x=>by rw[← x6];rfl
  simp (decide:=true) only [↓vS,vT,simprocAttr,hf,hr1,hr2,zX,hap,Nat.mul_one];refine hQ (Wk.mk _ _ [0,3] ?_ ?_ ?_ rfl)
  ·simp[vw,zZ,qL,xF]
  ·simp[vw,qL,qj,xF,zj,zm,kPe,hf,qh,qa,qd,qc]
  ·simp[qL]
 | false =>
  rw[hf] at hQ;simp (decide:=true) only [↓vS,vT,simprocAttr,hf];refine hQ (Wk.mk _ _ [0,1] ?_ ?_ ?_ rfl)
  ·simp[vw,zZ,qL,xF]
  ·simp[vw,qL,qj,xF,hf,qh,qa,qd,qc]
  ·simp[qL]
theorem qr2{Q:X->Tr AV->Hp->Prop}(p:Pol)(ls:List (List UInt8))(hls:ls.length<=1000)
  (hQ:∀{t':Tr AV} {h':Hp},Wk 0 t' h' (mkT (zZ (ls++xF kWe p.we))) (mkH 0 (qL p (ls++xF kWe p.we)))->S P 0 (zr g1 g2 g3 g4 g5 g6 g7 g8 g9) Q t' h')
  {t':Tr AV} {h':Hp} (hw:Wk 0 t' h' (mkT (zZ ls)) (mkH 0 (qL p ls))):S P 0 (zq g1 g2 g3 g4 g5 g6 g7 g8 g9) Q t' h':=by
 refine S.weak hw (qr ?_);have hr1:ls.length+1<=qf:=by simp only[qf];omega
 have hr2:(ls.length+1)*16<=qf:=by simp only[qf];omega
 simp only[zq,zZ,qL,qj,vI,simprocAttr];cases hf:p.we with
 | true =>
  rw[hf] at hQ;have hap:∀x:List UInt8,rS ls++[AV.s x]=rS (ls++[x]):=fun x=>by rw[← x6];rfl
  simp (decide:=true) only [↓vS,vT,simprocAttr,hf,hr1,hr2,zX,hap,Nat.mul_one];refine hQ (Wk.mk _ _ [0,3] ?_ ?_ ?_ rfl)
  ·simp[vw,zZ,qL,xF]
  ·simp[vw,qL,qj,xF,zj,zm,kWe,hf,qh,qa,qd,qc]
  ·simp[qL]
 | false =>
  rw[hf] at hQ;simp (decide:=true) only [↓vS,vT,simprocAttr,hf];refine hQ (Wk.mk _ _ [0,1] ?_ ?_ ?_ rfl)
  ·simp[vw,zZ,qL,xF]
  ·simp[vw,qL,qj,xF,hf,qh,qa,qd,qc]
  ·simp[qL]
theorem qu7{Q:X->Tr AV->Hp->Prop}(hy:qfC P g4)(p:Pol)(hk:LOkP qcL p.log)(ha:∀c ∈ p.log.calls,0<=c.act∧c.act<=4294967295)(ls:List (List UInt8))(hls:ls.length<=1000)
  (hQ:∀{t':Tr AV} {h':Hp},Wk 0 t' h' (mkT (zZ (ls++xr qcL p.log))) (mkH 0 (qL p (ls++xr qcL p.log)))->S P 0 (zE g1 g2 g3 g4 g5 g6 g7 g8 g9) Q t' h')
  {t':Tr AV} {h':Hp} (hw:Wk 0 t' h' (mkT (zZ ls)) (mkH 0 (qL p ls))):S P 0 (zD g1 g2 g3 g4 g5 g6 g7 g8 g9) Q t' h':=by
 refine S.weak hw (qr ?_);have hu:=hy qcL p.log hk ha;have hn:=wm qcL p.log;generalize xr qcL p.log=M at hu hn hQ;have hr1:ls.length+M.length<=qf:=by simp only[qf];omega
 have hr2:(ls.length+M.length)*16<=qf:=by simp only[qf];omega
 simp only[zD,zZ,qL,qj,vI,simprocAttr];simp only[qcL,qu] at hu;simp (decide:=true) only [↓vS,vT,simprocAttr];refine hu.sc ?_;simp (decide:=true) only [↓vS,vT,simprocAttr,hr1,hr2,zX,qjO,List.take_length,qqO,x6,Nat.mul_one];refine hQ (Wk.mk _ _ [0,2] ?_ ?_ ?_ rfl)
 ·simp[vw,zZ,qL]
 ·simp[vw,qL,qj,qh,qa,qd,qc]
 ·simp[qL]
theorem qu5{Q:X->Tr AV->Hp->Prop}(hy:qfC P g4)(p:Pol)(hk:LOkP xh p.filter)(ha:∀c ∈ p.filter.calls,0<=c.act∧c.act<=4294967295)(ls:List (List UInt8))(hls:ls.length<=1000)
  (hQ:∀{t':Tr AV} {h':Hp},Wk 0 t' h' (mkT (zZ (ls++xr xh p.filter))) (mkH 0 (qL p (ls++xr xh p.filter)))->S P 0 (zC g1 g2 g3 g4 g5 g6 g7 g8 g9) Q t' h')
  {t':Tr AV} {h':Hp} (hw:Wk 0 t' h' (mkT (zZ ls)) (mkH 0 (qL p ls))):S P 0 (zB g1 g2 g3 g4 g5 g6 g7 g8 g9) Q t' h':=by
 refine S.weak hw (qr ?_);have hu:=hy xh p.filter hk ha;have hn:=wm xh p.filter;generalize xr xh p.filter=M at hu hn hQ;have hr1:ls.length+M.length<=qf:=by simp only[qf];omega
 have hr2:(ls.length+M.length)*16<=qf:=by simp only[qf];omega
 simp only[zB,zZ,qL,qj,vI,simprocAttr];simp only[xh,qu] at hu;simp (decide:=true) only [↓vS,vT,simprocAttr];refine hu.sc ?_;simp (decide:=true) only [↓vS,vT,simprocAttr,hr1,hr2,zX,qjO,List.take_length,qqO,x6,Nat.mul_one];refine hQ (Wk.mk _ _ [0,2] ?_ ?_ ?_ rfl)
 ·simp[vw,zZ,qL]
 ·simp[vw,qL,qj,qh,qa,qd,qc]
 ·simp[qL]
theorem qu6{Q:X->Tr AV->Hp->Prop}(hy:∀n:Int,0<=n->n<=4294967295->qe P g5 [.i .u32 n] (.s (qbs n)))(p:Pol)(hd0:0<=p.deny)(hd1:p.deny<=4294967295)(ls:List (List UInt8))(hls:ls.length<=1000)
  (hQ:∀{t':Tr AV} {h':Hp},Wk 0 t' h' (mkT (zZ (ls++erL p))) (mkH 0 (qL p (ls++erL p)))->S P 0 (zD g1 g2 g3 g4 g5 g6 g7 g8 g9) Q t' h')
  {t':Tr AV} {h':Hp} (hw:Wk 0 t' h' (mkT (zZ ls)) (mkH 0 (qL p ls))):S P 0 (zC g1 g2 g3 g4 g5 g6 g7 g8 g9) Q t' h':=by
 refine S.weak hw (qr ?_);have hr1:ls.length+1<=qf:=by simp only[qf];omega
 have hr2:(ls.length+1)*16<=qf:=by simp only[qf];omega
 obtain⟨hlo,_⟩:=qgL hd0 hd1;have h65:(65536:Int)≠0:=by decide
 have hr:=qcP p.deny 65535;have hel:=qcU (n:=xa .u32 p.deny 65535) hr.1;have hg':=hy _ hr.1 hr.2;rw[hlo] at hel hg';unfold erL at hQ;rw[hlo] at hQ;simp only[zC,zZ,qL,qj,vI,simprocAttr]
 by_cases hd:p.deny=2147483648
 ·rw[if_pos hd,List.append_nil] at hQ;simp (decide:=true) only [↓vS,vT,simprocAttr,hd];refine hQ (Wk.mk _ _ [0,1] ?_ ?_ ?_ rfl)
  ·simp[vw,zZ,qL]
  ·simp[vw,qL,qj,hd,qh,qa,qd,qc]
  ·simp[qL]
 ·rw[if_neg hd] at hQ;generalize qbs (p.deny.tmod 65536)=e at hel hg' hQ;have hap:∀x:List UInt8,rS ls++[AV.s x]=rS (ls++[x]):=fun x=>by rw[← x6];rfl
  have h3:22+e.length<=9223372036854775807:=by omega
  simp (decide:=true) only [↓vS,vT,simprocAttr,hd,↓jS h65];refine hg'.sc ?_;simp (decide:=true) only [↓vS,vT,simprocAttr,List.length_append,List.length_cons,List.length_nil,h3,hr1,hr2,zX,hap,Nat.mul_one];refine hQ (Wk.mk _ _ [0,3] ?_ ?_ ?_ rfl)
  ·simp[vw,zZ,qL]
  ·simp[vw,qL,qj,zj,zm,qir,qh,qa,qd,qc]
  ·simp[qL]
def jl(ls W:List (List UInt8)):List (Nat×AV):=[(1,.ptr 0 0),(4,.own 1 ls.length),(5,.own 2 W.length)]
def zk(p:Pol)(ls W:List (List UInt8)):List Blk:=[.cells 0 true false (qj p),.cells 1 true true (rS ls),.cells 1 true true (rS W)]
theorem qrZ{Q:X->Tr AV->Hp->Prop}(hy:qdj P g3)(p:Pol)(hf:p.fams.length<=1000)(hj:(zI [32] (faW p)).length<=1000000)(ls:List (List UInt8))(hls:ls.length<=1000)
  (hQ:∀{t':Tr AV} {h':Hp},Wk 0 t' h' (mkT (zZ (ls++faL p))) (mkH 0 (qL p (ls++faL p)))->S P 0 (zo g1 g2 g3 g4 g5 g6 g7 g8 g9) Q t' h')
  {t':Tr AV} {h':Hp} (hw:Wk 0 t' h' (mkT (jl ls (faW p))) (mkH 0 (zk p ls (faW p)))):S P 0 (zn g1 g2 g3 g4 g5 g6 g7 g8 g9) Q t' h':=by
 refine S.weak hw (qr ?_);have hr1:ls.length+1<=qf:=by simp only[qf];omega
 have hr2:(ls.length+1)*16<=qf:=by simp only[qf];omega
 have hap:∀x:List UInt8,rS ls++[AV.s x]=rS (ls++[x]):=fun x=>by rw[← x6];rfl
 have hl:(faW p).length=p.fams.length:=by simp[faW]
 have hz:p.fams=[]↔faW p=[]:=by simp[faW]
 have hfa:faL p=if p.fmode=2 then [zj qaQ [126] (faW p)] else if p.fmode=1 then (if faW p=[] then [zj qaQ qfn []] else [zj qaQ [] (faW p)]) else []:=by
  unfold faL
  by_cases h:p.fams=[]
  ·rw[if_pos h,if_pos (hz.1 h)]
  ·rw[if_neg h,if_neg (fun h2=>h (hz.2 h2))]
 rw[hfa] at hQ;rw[← hl] at hf;generalize faW p=W at hj hf hQ ⊢;simp only[zn,jl,zk,qj,vI,simprocAttr]
 by_cases m2:p.fmode=2
 ·have m1:¬p.fmode=1:=by omega
  have h3:25+(zI [32] W).length<=9223372036854775807:=by omega
  rw[if_pos m2] at hQ;simp (decide:=true) only [↓vS,vT,simprocAttr,m1,m2];refine (hy W (by omega) (by omega)).lend (vs':=[.fz W.length (rS W)]) ?_ rfl ?_
  ·simp[vZ,vP,Tr.get_set,qI qa]
   try (intro h0;rw[h0];rfl)
  simp (decide:=true) only [↓vS,vT,simprocAttr,m1,m2,List.length_append,List.length_cons,List.length_nil,h3,hr1,hr2,zX,hap,Nat.mul_one];refine hQ (Wk.mk _ _ [0,4] ?_ ?_ ?_ rfl)
  ·simp[vw,zZ,qL]
  ·simp[vw,qL,qj,zj,qaQ,m2,qh,qa,qd,qc]
  ·simp[qL]
 rw[if_neg m2] at hQ
 by_cases m1:p.fmode=1
 ·rw[if_pos m1] at hQ
  by_cases hW:W=[]
  ·have hn:¬(0:Int)<(W.length:Int):=by rw[hW];decide
   have he:(W.length:Int)=0:=by rw[hW];rfl
   rw[if_pos hW] at hQ;simp (decide:=true) only [↓vS,vT,simprocAttr,m1,m2,hn,he,hr1,hr2,zX,hap,Nat.mul_one];refine hQ (Wk.mk _ _ [0,4] ?_ ?_ ?_ rfl)
   ·simp[vw,zZ,qL]
   ·simp[vw,qL,qj,zj,qaQ,qfn,qdq,m1,qh,qa,qd,qc]
   ·simp[qL]
  ·have hn:(0:Int)<(W.length:Int):=by have:=List.length_pos_iff.2 hW;omega
   have he:¬(W.length:Int)=0:=by omega
   have h3:24+(zI [32] W).length<=9223372036854775807:=by omega
   rw[if_neg hW] at hQ;simp (decide:=true) only [↓vS,vT,simprocAttr,m1,m2,hn,he];refine (hy W (by omega) (by omega)).lend (vs':=[.fz W.length (rS W)]) ?_ rfl ?_
   ·simp[vZ,vP,Tr.get_set,qI qa]
    try (intro h0;rw[h0];rfl)
   simp (decide:=true) only [↓vS,vT,simprocAttr,m1,m2,hn,he,List.length_append,List.length_cons,List.length_nil,h3,hr1,hr2,zX,hap,Nat.mul_one];refine hQ (Wk.mk _ _ [0,4] ?_ ?_ ?_ rfl)
   ·simp[vw,zZ,qL]
   ·simp[vw,qL,qj,zj,qaQ,m1,qh,qa,qd,qc]
   ·simp[qL]
 ·rw[if_neg m1,List.append_nil] at hQ;simp (decide:=true) only [↓vS,vT,simprocAttr,m1,m2];refine hQ (Wk.mk _ _ [0,1] ?_ ?_ ?_ rfl)
  ·simp[vw,zZ,qL]
  ·simp[vw,qL,qj,qh,qa,qd,qc]
  ·simp[qL]
theorem qgf{f:Int->List UInt8}{l:List Int}{j:Nat}{n:Int}(h:l[j]?=some n):(l.take (j+1)).map f=(l.take j).map f++[f n]:=by
 rw[List.take_add_one,h,List.map_append];rfl
theorem qu8{Q:X->Tr AV->Hp->Prop}(h6:qe P g6 [] (.fz 8 (qm.flatMap (qQ .u64))))(h7:∀(l:List (List UInt8×Int)) (n:Int),l.length<=qf->qe P g7 [.fz l.length (l.flatMap (qQ .u64)),.i .u64 n] (.s (qJ n l)))(p:Pol)(hf:p.fams.length<=1000)(hb:∀n ∈ p.fams,0<=n∧n<=4294967295)(ls:List (List UInt8))
  (hQ:∀{t':Tr AV} {h':Hp},Wk 0 t' h' (mkT (jl ls (faW p))) (mkH 0 (zk p ls (faW p)))->S P 0 (zn g1 g2 g3 g4 g5 g6 g7 g8 g9) Q t' h')
  {t':Tr AV} {h':Hp} (hw:Wk 0 t' h' (mkT (zZ ls)) (mkH 0 (qL p ls))):S P 0 (zE g1 g2 g3 g4 g5 g6 g7 g8 g9) Q t' h':=by
 refine S.weak hw (qr ?_);unfold faW at hQ;simp only[zE,zZ,qL,qj,vI,simprocAttr];simp (decide:=true) only [↓vS,vT,simprocAttr]
 refine SL.loop (α:=Nat) (fun j=>jl ls ((p.fams.take j).map fun n=>qJ n qm)++[(7,.i .i64 j)])
  (fun j=>zk p ls ((p.fams.take j).map fun n=>qJ n qm)) (fun j=>j<=p.fams.length) (fun j=>p.fams.length-j) 0 [0,1,99] ?_ ?_ ?_ rfl ?_ ?_
 ·simp[vw,jl,zk,qa]
 ·simp[vw,zk,qj,qai,qh,qa,qd,qc]
 ·simp[zk]
 ·exact Nat.zero_le _
 rintro j hj G ih;simp only[jl,zk,qj,List.cons_append,List.nil_append,vI,simprocAttr]
 by_cases hlt:j<p.fams.length
 ·have hx:p.fams[j]?=some p.fams[j]:=List.getElem?_eq_getElem hlt;have hw:IntKind.wrap .i64 ((j:Int)+1)=((j+1:Nat):Int):=by rw[qF (by omega) (by omega)];omega
  have hbj:=hb p.fams[j] (List.getElem_mem hlt);have ih2:=ih (j+1) (by omega) (by omega);rw[qgf hx] at ih2;have hn1:((p.fams.take j).map fun n=>qJ n qm).length=j:=by rw[List.length_map,List.length_take,Nat.min_eq_left hj]
  generalize p.fams[j]=n at hx hbj ih2;have h7':=h7 qm n (by decide);have hw64:IntKind.wrap .u64 n=n:=qbI (by omega) (by omega);generalize qJ n qm=x at h7' ih2;generalize ((p.fams.take j).map fun n=>qJ n qm)=W at hn1 ih2 ⊢
  have hr1:W.length+1<=qf:=by simp only[qf];omega
  have hr2:(W.length+1)*16<=qf:=by simp only[qf];omega
  have hap:rS W++[AV.s x]=rS (W++[x]):=by rw[← x6];rfl
  simp (decide:=true) only [↓vS,vT,simprocAttr,hlt];refine xb ?_;simp (decide:=true) only [↓vS,vT,simprocAttr];refine h6.pc ?_;simp (decide:=true) only [↓vS,vT,simprocAttr,hlt,zF,hx,Option.map_some,hw64,Nat.mul_one];refine h7'.pc ?_;simp (decide:=true) only [↓vS,vT,simprocAttr,hr1,hr2,zX,hap,hw,Nat.mul_one];refine ih2 _ _ (Wk.mk _ _ [0,1,4] ?_ ?_ ?_ rfl)
  ·simp[vw,jl,zk]
  ·simp[vw,zk,qj,qh,qa,qd,qc]
  ·simp[zk]
 ·have hjl:p.fams.take j=p.fams:=List.take_of_length_le (by omega);rw[hjl];clear ih;simp (decide:=true) only [↓vS,vT,simprocAttr,hlt];refine hQ (Wk.mk _ _ [0,1,2] ?_ ?_ ?_ rfl)
  ·simp[vw,jl,zk]
  ·simp[vw,zk,qj,qh,qa,qd,qc]
  ·simp[zk]
theorem qr0{Q:X->Tr AV->Hp->Prop}(p:Pol)(h6:qe P g9 [] (.fz 8 (qg.flatMap (qQ .u64))))(h8:qe P g8 [.i .u64 p.spaces] (.fz (zx p.spaces).length (rI .u64 (zx p.spaces))))(h7:∀(l:List (List UInt8×Int)) (n:Int),l.length<=qf->qe P g7 [.fz l.length (l.flatMap (qQ .u64)),.i .u64 n] (.s (qJ n l)))(hf:(zx p.spaces).length<=1000)(ls:List (List UInt8))
  (hQ:∀{t':Tr AV} {h':Hp},Wk 0 t' h' (mkT (jl ls (spW p))) (mkH 0 (zk p ls (spW p)))->S P 0 (zp g1 g2 g3 g4 g5 g6 g7 g8 g9) Q t' h')
  {t':Tr AV} {h':Hp} (hw:Wk 0 t' h' (mkT (zZ ls)) (mkH 0 (qL p ls))):S P 0 (zo g1 g2 g3 g4 g5 g6 g7 g8 g9) Q t' h':=by
 refine S.weak hw (qr ?_);unfold spW at hQ;generalize hF:zx p.spaces=F at h8 hf hQ;simp only[zo,zZ,qL,qj,vI,simprocAttr];simp (decide:=true) only [↓vS,vT,simprocAttr];refine h8.sc ?_;simp (decide:=true) only [↓vS,vT,simprocAttr]
 refine SL.loop (α:=Nat) (fun j=>jl ls ((F.take j).map fun n=>qJ n qg)++[(8,.fz F.length (rI .u64 F)),(9,.i .i64 j)])
  (fun j=>zk p ls ((F.take j).map fun n=>qJ n qg)) (fun j=>j<=F.length) (fun j=>F.length-j) 0 [0,1,99] ?_ ?_ ?_ rfl ?_ ?_
 ·simp[vw,jl,zk,qa,qd]
 ·simp[vw,zk,qj,qai,qh,qa,qd,qc]
 ·simp[zk]
 ·exact Nat.zero_le _
 rintro j hj G ih;simp only[jl,zk,qj,List.cons_append,List.nil_append,vI,simprocAttr]
 by_cases hlt:j<F.length
 ·have hx:F[j]?=some F[j]:=List.getElem?_eq_getElem hlt;have hw:IntKind.wrap .i64 ((j:Int)+1)=((j+1:Nat):Int):=by rw[qF (by omega) (by omega)];omega
  have ih2:=ih (j+1) (by omega) (by omega);rw[qgf hx] at ih2;have hn1:((F.take j).map fun n=>qJ n qg).length=j:=by rw[List.length_map,List.length_take,Nat.min_eq_left hj]
  generalize F[j]=n at hx ih2;have h7':=h7 qg n (by decide);generalize qJ n qg=x at h7' ih2;generalize ((F.take j).map fun n=>qJ n qg)=W at hn1 ih2 ⊢
  have hr1:W.length+1<=qf:=by simp only[qf];omega
  have hr2:(W.length+1)*16<=qf:=by simp only[qf];omega
  have hap:rS W++[AV.s x]=rS (W++[x]):=by rw[← x6];rfl
  simp (decide:=true) only [↓vS,vT,simprocAttr,hlt];refine xb ?_;simp (decide:=true) only [↓vS,vT,simprocAttr];refine h6.pc ?_;simp (decide:=true) only [↓vS,vT,simprocAttr,hlt,zF,hx,Option.map_some,Nat.mul_one];refine h7'.pc ?_;simp (decide:=true) only [↓vS,vT,simprocAttr,hr1,hr2,zX,hap,hw,Nat.mul_one];refine ih2 _ _ (Wk.mk _ _ [0,1,4] ?_ ?_ ?_ rfl)
  ·simp[vw,jl,zk,qd]
  ·simp[vw,zk,qj,qh,qa,qd,qc]
  ·simp[zk]
 ·have hjl:F.take j=F:=List.take_of_length_le (by omega);rw[hjl];clear ih;simp (decide:=true) only [↓vS,vT,simprocAttr,hlt];refine hQ (Wk.mk _ _ [0,1,2] ?_ ?_ ?_ rfl)
  ·simp[vw,jl,zk,qd]
  ·simp[vw,zk,qj,qh,qa,qd,qc]
  ·simp[zk]
theorem qr1{Q:X->Tr AV->Hp->Prop}(hy:qdj P g3)(p:Pol)(hz:p.spaces=0↔zx p.spaces=[])(hf:(zx p.spaces).length<=1000)(hj:(zI [32] (spW p)).length<=1000000)(ls:List (List UInt8))(hls:ls.length<=1000)
  (hQ:∀{t':Tr AV} {h':Hp},Wk 0 t' h' (mkT (zZ (ls++spL p))) (mkH 0 (qL p (ls++spL p)))->S P 0 (zq g1 g2 g3 g4 g5 g6 g7 g8 g9) Q t' h')
  {t':Tr AV} {h':Hp} (hw:Wk 0 t' h' (mkT (jl ls (spW p))) (mkH 0 (zk p ls (spW p)))):S P 0 (zp g1 g2 g3 g4 g5 g6 g7 g8 g9) Q t' h':=by
 refine S.weak hw (qr ?_);have hr1:ls.length+1<=qf:=by simp only[qf];omega
 have hr2:(ls.length+1)*16<=qf:=by simp only[qf];omega
 have hap:∀x:List UInt8,rS ls++[AV.s x]=rS (ls++[x]):=fun x=>by rw[← x6];rfl
 have hl:(spW p).length=(zx p.spaces).length:=by simp[spW]
 have hz2:p.spaces=0↔spW p=[]:=by rw[hz];simp[spW]
 unfold spL at hQ;rw[← hl] at hf;generalize spW p=W at hj hf hz2 hQ ⊢;simp only[zp,jl,zk,qj,vI,simprocAttr]
 by_cases hW:W=[]
 ·have hn:¬(0:Int)<(W.length:Int):=by rw[hW];decide
  rw[if_pos (hz2.2 hW),List.append_nil] at hQ;simp (decide:=true) only [↓vS,vT,simprocAttr,hn];refine hQ (Wk.mk _ _ [0,1] ?_ ?_ ?_ rfl)
  ·simp[vw,zZ,qL]
  ·simp[vw,qL,qj,qh,qa,qd,qc]
  ·simp[qL]
 ·have hn:(0:Int)<(W.length:Int):=by have:=List.length_pos_iff.2 hW;omega
  have h3:20+(zI [32] W).length<=9223372036854775807:=by omega
  rw[if_neg (fun h=>hW (hz2.1 h))] at hQ
  simp (decide:=true) only [↓vS,vT,simprocAttr,hn];refine (hy W (by omega) (by omega)).lend (vs':=[.fz W.length (rS W)]) ?_ rfl ?_
  ·simp[vZ,vP,Tr.get_set,qI qa]
   try (intro h0;rw[h0];rfl)
  simp (decide:=true) only [↓vS,vT,simprocAttr,List.length_append,List.length_cons,List.length_nil,h3,hr1,hr2,zX,hap,Nat.mul_one];refine hQ (Wk.mk _ _ [0,4] ?_ ?_ ?_ rfl)
  ·simp[vw,zZ,qL]
  ·simp[vw,qL,qj,zj,kSp,qh,qa,qd,qc]
  ·simp[qL]
end
end Go.Kc
end
section
/- The document's lines of a policy: architectures. Condition: the functions' texts are these. -/
namespace Go.Kc
section
variable {P:Program} {f g1 g2 g3 g4 g5 g6 g7 g8 g9:Nat}
def arW(p:Pol):List (List UInt8):=p.arches.map x7
theorem qu3{Q:X->Tr AV->Hp->Prop}(h2:qe P g2 [] (.fz 6 (rS qgh)))(p:Pol)(hf:p.arches.length<=1000)(hb:∀n ∈ p.arches,0<=n∧n<6)
  (hQ:∀{t':Tr AV} {h':Hp},Wk 0 t' h' (mkT (jl [] (arW p))) (mkH 0 (zk p [] (arW p)))->S P 0 (zA g1 g2 g3 g4 g5 g6 g7 g8 g9) Q t' h')
  {t':Tr AV} {h':Hp} (hw:Wk 0 t' h' (mkT [(1,.ptr 0 0),(4,.nils),(5,.nils)]) (mkH 0 [.cells 0 true false (qj p)])):S P 0 (xe g1 g2 g3 g4 g5 g6 g7 g8 g9) Q t' h':=by
 refine S.weak hw (qr ?_);unfold arW at hQ;simp only[xe,qj,vI,simprocAttr];simp (decide:=true) only [↓vS,vT,simprocAttr]
 refine SL.loop (α:=Nat) (fun j=>jl [] ((p.arches.take j).map x7)++[(6,.i .i64 j)])
  (fun j=>zk p [] ((p.arches.take j).map x7)) (fun j=>j<=p.arches.length) (fun j=>p.arches.length-j) 0 [0,99,99] ?_ ?_ ?_ rfl ?_ ?_
 ·simp[vw,jl,zk,qa]
 ·simp[vw,zk,qj,qai,qh,qa,qd,qc]
 ·simp[zk]
 ·exact Nat.zero_le _
 rintro j hj G ih;simp only[jl,zk,qj,List.cons_append,List.nil_append,vI,simprocAttr]
 by_cases hlt:j<p.arches.length
 ·have hx:p.arches[j]?=some p.arches[j]:=List.getElem?_eq_getElem hlt;have hw:IntKind.wrap .i64 ((j:Int)+1)=((j+1:Nat):Int):=by rw[qF (by omega) (by omega)];omega
  have hbj:=hb p.arches[j] (List.getElem_mem hlt);have ih2:=ih (j+1) (by omega) (by omega);rw[qgf hx] at ih2;have hn1:((p.arches.take j).map x7).length=j:=by rw[List.length_map,List.length_take,Nat.min_eq_left hj]
  generalize p.arches[j]=n at hx hbj ih2;obtain⟨m,rfl⟩:∃m:Nat,n=m:=⟨n.toNat,by omega⟩
  have hm:m<6:=by omega
  have hx8:(rS qgh)[m]?=some (.s (x7 (m:Int))):=by
   match m,hm with
   | 0,_=>rfl
   | 1,_=>rfl
   | 2,_=>rfl
   | 3,_=>rfl
   | 4,_=>rfl
   | 5,_=>rfl
  generalize x7 (m:Int)=x at hx8 ih2;generalize ((p.arches.take j).map x7)=W at hn1 ih2 ⊢;have hr1:W.length+1<=qf:=by simp only[qf];omega
  have hr2:(W.length+1)*16<=qf:=by simp only[qf];omega
  have hap:rS W++[AV.s x]=rS (W++[x]):=by rw[← x6];rfl
  simp (decide:=true) only [↓vS,vT,simprocAttr,hlt];refine xb ?_;simp (decide:=true) only [↓vS,vT,simprocAttr];refine h2.pc ?_;simp (decide:=true) only [↓vS,vT,simprocAttr,hlt,hm,zF,hx,hx8,Option.map_some,hr1,hr2,zX,hap,hw,Nat.mul_one];refine ih2 _ _ (Wk.mk _ _ [0,1,4] ?_ ?_ ?_ rfl)
  ·simp[vw,jl,zk]
  ·simp[vw,zk,qj,qh,qa,qd,qc]
  ·simp[zk]
 ·have hjl:p.arches.take j=p.arches:=List.take_of_length_le (by omega);rw[hjl];clear ih;simp (decide:=true) only [↓vS,vT,simprocAttr,hlt];refine hQ (Wk.mk _ _ [0,1,2] ?_ ?_ ?_ rfl)
  ·simp[vw,jl,zk]
  ·simp[vw,zk,qj,qh,qa,qd,qc]
  ·simp[zk]
theorem qu4{Q:X->Tr AV->Hp->Prop}(hy:qdj P g3)(p:Pol)(hf:p.arches.length<=1000)(hj:(zI [32] (arW p)).length<=1000000)(ls:List (List UInt8))(hls:ls.length<=1000)
  (hQ:∀{t':Tr AV} {h':Hp},Wk 0 t' h' (mkT (zZ (ls++arL p))) (mkH 0 (qL p (ls++arL p)))->S P 0 (zB g1 g2 g3 g4 g5 g6 g7 g8 g9) Q t' h')
  {t':Tr AV} {h':Hp} (hw:Wk 0 t' h' (mkT (jl ls (arW p))) (mkH 0 (zk p ls (arW p)))):S P 0 (zA g1 g2 g3 g4 g5 g6 g7 g8 g9) Q t' h':=by
 refine S.weak hw (qr ?_);have hr1:ls.length+1<=qf:=by simp only[qf];omega
 have hr2:(ls.length+1)*16<=qf:=by simp only[qf];omega
 have hap:∀x:List UInt8,rS ls++[AV.s x]=rS (ls++[x]):=fun x=>by rw[← x6];rfl
 have hl:(arW p).length=p.arches.length:=by simp[arW]
 have hz2:p.arches=[]↔arW p=[]:=by simp[arW]
 unfold arL at hQ;rw[← hl] at hf;have hzz:p.arches.map x7=arW p:=rfl;rw[hzz] at hQ;generalize arW p=W at hj hf hz2 hQ ⊢;simp only[zA,jl,zk,qj,vI,simprocAttr]
 by_cases hW:W=[]
 ·have hn:¬(0:Int)<(W.length:Int):=by rw[hW];decide
  rw[if_pos (hz2.2 hW),List.append_nil] at hQ;simp (decide:=true) only [↓vS,vT,simprocAttr,hn];refine hQ (Wk.mk _ _ [0,1] ?_ ?_ ?_ rfl)
  ·simp[vw,zZ,qL]
  ·simp[vw,qL,qj,qh,qa,qd,qc]
  ·simp[qL]
 ·have hn:(0:Int)<(W.length:Int):=by have:=List.length_pos_iff.2 hW;omega
  have h3:24+(zI [32] W).length<=9223372036854775807:=by omega
  rw[if_neg (fun h=>hW (hz2.1 h))] at hQ
  simp (decide:=true) only [↓vS,vT,simprocAttr,hn];refine (hy W (by omega) (by omega)).lend (vs':=[.fz W.length (rS W)]) ?_ rfl ?_
  ·simp[vZ,vP,Tr.get_set,qI qa]
   try (intro h0;rw[h0];rfl)
  simp (decide:=true) only [↓vS,vT,simprocAttr,List.length_append,List.length_cons,List.length_nil,h3,hr1,hr2,zX,hap,Nat.mul_one];refine hQ (Wk.mk _ _ [0,4] ?_ ?_ ?_ rfl)
  ·simp[vw,zZ,qL]
  ·simp[vw,qL,qj,zj,qff,qh,qa,qd,qc]
  ·simp[qL]
end
end Go.Kc
end
section
/- The document's lines of a policy: joined. Condition: the functions' texts are these. -/
namespace Go.Kc
section
variable {P:Program} {f g1 g2 g3 g4 g5 g6 g7 g8 g9:Nat}
structure Lin19 (p:Pol):Prop where
 arch:∀n ∈ p.arches,0<=n∧n<6
 sp:p.spaces=0↔zx p.spaces=[]
 fl:∀c ∈ p.filter.calls,0<=c.act∧c.act<=4294967295
 lg:∀c ∈ p.log.calls,0<=c.act∧c.act<=4294967295
theorem qvT(hc:qt P f (wl g1 g2 g3 g4 g5 g6 g7 g8 g9)=true)(hm:∀p,PolOk p->PolR p->qe P g1 [.agg (qj p)] (.b (qag p)))(h2:qe P g2 [] (.fz 6 (rS qgh)))(h3:qdj P g3)(h4:qfC P g4)
  (h5:∀n:Int,0<=n->n<=4294967295->qe P g5 [.i .u32 n] (.s (qbs n))) (h6:qe P g6 [] (.fz 8 (qm.flatMap (qQ .u64)))) (h7:∀(l:List (List UInt8×Int)) (n:Int),l.length<=qf->qe P g7 [.fz l.length (l.flatMap (qQ .u64)),.i .u64 n] (.s (qJ n l)))
  (h8:∀s,0<=s->s<18446744073709551616->qe P g8 [.i .u64 s] (.fz (zx s).length (rI .u64 (zx s)))) (h9:qe P g9 [] (.fz 8 (qg.flatMap (qQ .u64))))
  (p:Pol) (hp:PolOk p) (hr:PolR p) (ok:qag p=true->LinOk p∧Lin19 p):qe P f [.agg (qj p)] (if qag p=true then .tup [.fz (qaA p).length (rS (qaA p)),.i .i64 0] else .tup [.fz 0 [],.i .i64 2]):=by
 refine qe.mk hc rfl ?_;have k1:=hm p hp hr;generalize hT:(if qag p=true then AV.tup [.fz (qaA p).length (rS (qaA p)),.i .i64 0] else .tup [.fz 0 [],.i .i64 2])=tgt
 simp only[wl,qj,vI,simprocAttr] at k1 ⊢;simp only[↓vS,vT,simprocAttr];refine k1.sc ?_;cases hmp:qag p with
 | false =>
  rw[if_neg (by simp[hmp])] at hT;subst hT;simp (decide:=true) only [↓vS,vT,simprocAttr];simp[vZ]
 | true =>
  rw[if_pos hmp] at hT;subst hT;obtain⟨ok,ok2⟩:=ok hmp;obtain⟨l1,l2,l3,l4,l5⟩:=qgk p;have l6:=wm xh p.filter;have l7:=wm qcL p.log;have l8:=l5 kWe p.we;have l9:=l5 kPe p.pe;have l10:=l5 kRt p.rt;have fa:=(ok.fam [] (by decide)).2.2.2;have ar:=ok.ar.2.2.2;have sp:=ok.sp.2.2.2;simp (decide:=true) only [↓vS,vT,simprocAttr];refine qu3 h2 p hp.a ok2.arch (fun w4=>qu4 h3 p hp.a ar [] (by simp) (fun w5=>qu5 h4 p ok.fil ok2.fl _ ?_ (fun w6=>qu6 h5 p hr.deny.1 hr.deny.2 _ ?_ (fun w7=>qu7 h4 p ok.log ok2.lg _ ?_ (fun w8=>qu8 h6 h7 p hp.f hr.fams _ (fun w9=>qrZ h3 p hp.f fa _ ?_ (fun w11=>qr0 p h9 (h8 p.spaces hr.spaces.1 hr.spaces.2) h7 (Nat.le_trans (qbx _) (by decide)) _ (fun w14=>qr1 h3 p ok2.sp (Nat.le_trans (qbx _) (by decide)) sp _ ?_ (fun w17=>qr2 p _ ?_ (fun w18=>qr3 p _ ?_ (fun w19=>qr4 p _ ?_ (fun w20=>qr5 p _ ?_ (fun w21=>qr6 p _ w21) w20) w19) w18) w17) w14) w11) w9) w8) w7) w6) w5) w4) (Wk.mk _ _ [0] ?_ ?_ ?_ rfl)
  all_goals first
   | (simp only[List.length_append,List.length_nil];omega)
   | skip
  ·simp[vw]
  ·simp[vw,qj,qh,qai,qd,qc]
  ·simp
end
end Go.Kc
end
section
/- The lines of a policy that may be are not too long. No condition. -/
namespace Go.Kc
theorem qiq(sep:List UInt8){m:Nat}{xs:List (List UInt8)}(h:∀x ∈ xs,x.length<=m):(zI sep xs).length<=xs.length*(m+sep.length):=by
 have hl:Lib.lens xs<=xs.length*m:=by
  induction xs with
  | nil=>simp[Lib.lens]
  | cons x r ih =>
   have h1:=h x (by simp);have h2:=ih fun y hy=>h y (by simp[hy])
   simp only[Lib.lens,List.map_cons,List.sum_cons,List.length_cons,Nat.succ_mul] at h2 ⊢;omega
 cases xs with
 | nil=>simp[qdq]
 | cons x r =>
  show (Lib.join (x::r) sep).length<=_;rw[Lib.join_length,List.length_cons,Nat.mul_add];have:sep.length*r.length<=(r.length+1)*sep.length:=by rw[Nat.mul_comm];exact Nat.mul_le_mul_right _ (by omega)
  simp only[List.length_cons] at hl;omega
theorem qiz{m:Nat}(n:Int){l:List (List UInt8×Int)}(h:∀p ∈ l,p.1.length<=m):(qJ n l).length<=m:=by
 induction l with
 | nil=>simp[qJ]
 | cons p l ih =>
  simp only[qJ];split
  ·exact h p (by simp)
  ·exact ih fun q hq=>h q (by simp[hq])
theorem qj8(a:Int):(x7 a).length<=21:=by
 unfold x7;split
 ·simp
 ·have h:∀p ∈ jR,p.1.length<=21:=by decide
  rw[List.getD_eq_getElem?_getD];cases hx:jR[a.toNat]? with
  | none=>simp
  | some p=>exact h p (List.mem_of_getElem? hx)
theorem qkG{s:List UInt8}(h:jd s=true):s.length<=40:=by
 unfold jd at h;obtain⟨x,hx⟩:=Option.isSome_iff_exists.1 h;have h1:∀p ∈ qY,p.1.length<=40:=by decide
 have h2:=List.find?_some hx;simp only[decide_eq_true_eq] at h2;rw[← h2];exact h1 x (List.mem_of_find?_eq_some hx)
theorem qlh{c:GCall}(h:c.name.length<=40):(qbF c).length<=70:=by
 unfold qbF;split
 ·omega
 split
 ·simp;omega
 split
 ·have:=qcU (n:=xa .u32 c.act 65535) (qcP _ _).1;simp only[List.length_append,List.length_cons];omega
 ·simp;omega
theorem qjE{k:List UInt8}(hk:k.length<=100){l:GList}(h:x5 l=true):LOkP k l:=by
 have hn:=qhx h;obtain⟨_,hc,_⟩:=(qiy l).1 h
 have hnm:∀c ∈ l.calls,c.name.length<=40:=fun c hx=>by
  have:=hc c hx;simp only[okC,Bool.and_eq_true] at this;exact qkG this.1
 refine⟨hk,by omega,fun c hx=>by have:=hnm c hx;omega,fun q a ha=>?_⟩
 have hl:=qbb q l.calls
 have hj:=qiq [32] (m:=70) (xs:=zc q l.calls) fun x hx=>by
  obtain⟨c,h1,rfl⟩:=List.mem_map.1 hx;exact qlh (hnm c (List.mem_filter.1 h1).1)
 simp only[List.length_singleton] at hj;have:(zc q l.calls).length*71<=40*71:=Nat.mul_le_mul_right _ (by omega);exact⟨hk,by omega,by omega,by omega⟩
theorem qjd{k a:List UInt8}(hk:k.length<=100)(ha:a.length<=1)(g:Int->List UInt8)(l:List Int)(hl:l.length<=1000)(hg:∀n,(g n).length<=21):qbz k a (l.map g):=by
 have hj:=qiq [32] (m:=21) (xs:=l.map g) fun x hx=>by
  obtain⟨n,_,rfl⟩:=List.mem_map.1 hx;exact hg n
 simp only[List.length_singleton,List.length_map] at hj;have:l.length*22<=1000*22:=Nat.mul_le_mul_right _ hl;exact⟨hk,by omega,by rw[List.length_map];omega,by omega⟩
theorem qmW{p:Pol}(hp:PolOk p)(h:qag p=true):LinOk p:=by
 simp only[qag,qah,Bool.and_eq_true] at h;obtain⟨_,⟨h1,h2⟩,_⟩:=h;exact⟨qjd (by decide) (by simp) _ _ hp.a qj8,qjE (by decide) h1,qjE (by decide) h2,fun a ha=>qjd (by decide) ha _ _ hp.f (fun n=>qiz n (by decide)),qjd (by decide) (by simp) _ _ (Nat.le_trans (qbx _) (by decide)) (fun n=>qiz n (by decide))⟩
theorem qha{is:Int->Bool}:∀{l:List Int} {o:Option Int},qN is o l=true->∀n ∈ l,is n=true
 | [],_,_,n,hn=>by cases hn
 | x::l,o,h,n,hn=>by
  simp only[qN,Bool.and_eq_true] at h;rcases List.mem_cons.1 hn with rfl|hn
  ·exact h.1.1
  ·exact qha h.2 n hn
theorem qlQ(x:BitVec 64)(h0:x &&& ~~~ 2114060416#64=0#64)(h:∀b ∈ [128#64,131072#64,33554432#64,67108864#64,134217728#64,268435456#64,536870912#64,1073741824#64],x &&& b=0#64):x=0#64:=by
 have e:x=(x &&& 2114060416#64) ||| (x &&& ~~~ 2114060416#64):=by
  rw[← BitVec.and_or_distrib_left,BitVec.or_not_self,BitVec.and_allOnes]
 have m:(2114060416#64)=128#64 ||| (131072#64 ||| (33554432#64 ||| (67108864#64 ||| (134217728#64 ||| (268435456#64 ||| (536870912#64 ||| 1073741824#64)))))):=by decide
 rw[h0,m] at e;simp only[BitVec.and_or_distrib_left] at e;rw[h _ (by simp),h _ (by simp),h _ (by simp),h _ (by simp),h _ (by simp),h _ (by simp),h _ (by simp),h _ (by simp)] at e;simpa using e
theorem qiI{s:Int}(h0:0<=s)(h1:s<18446744073709551616)(h:qfp .u64 s 2114060416=0):s=0↔zx s=[]:=by
 have hw:∀x:BitVec 64,IntKind.wrap .u64 (x.toNat:Int)=x.toNat:=fun x=>qbI (by omega) (by have:=x.isLt;omega)
 constructor
 ·rintro rfl;decide
 ·intro hf;have hs:s=((BitVec.ofInt 64 s).toNat:Int):=by rw[BitVec.toNat_ofInt];omega
  have e2:qfp .u64 s 2114060416=(BitVec.ofInt 64 s &&& ~~~ 2114060416#64).toNat:=hw _;rw[e2] at h
  have hz:∀n ∈ qg.map (·.2),(BitVec.ofInt 64 s &&& BitVec.ofInt 64 n).toNat=0:=by
   intro n hn;have e1:xa .u64 s n=(BitVec.ofInt 64 s &&& BitVec.ofInt 64 n).toNat:=hw _;have:=(List.filter_eq_nil_iff.1 hf) n hn;simp only[decide_eq_true_eq,ne_eq,Decidable.not_not] at this;rw[e1] at this;omega
  have hx:=qlQ (BitVec.ofInt 64 s) (BitVec.eq_of_toNat_eq (Int.ofNat_inj.1 h)) (by
   intro b hb;apply BitVec.eq_of_toNat_eq;simp only[List.mem_cons,List.not_mem_nil,or_false] at hb;rcases hb with rfl|rfl|rfl|rfl|rfl|rfl|rfl|rfl
   ·exact hz 128 (by decide)
   ·exact hz 131072 (by decide)
   ·exact hz 33554432 (by decide)
   ·exact hz 67108864 (by decide)
   ·exact hz 134217728 (by decide)
   ·exact hz 268435456 (by decide)
   ·exact hz 536870912 (by decide)
   ·exact hz 1073741824 (by decide))
  rw[hs,hx];rfl
theorem qsd{p:Pol}(hr:PolR p)(h:qag p=true):Lin19 p:=by
 simp only[qag,qah,Bool.and_eq_true,decide_eq_true_eq] at h;obtain⟨⟨⟨_,ha⟩,_⟩,_,hs⟩:=h;refine⟨fun n hn=>?_,qiI hr.spaces.1 hr.spaces.2 hs,fun c hc=>?_,fun c hc=>?_⟩
 ·have:=qha ha n hn;simpa using this
 ·have:=hr.filter c hc;omega
 ·have:=hr.log c hc;omega
end Go.Kc
end
section
/- The document's Same of any two; PolicyTells: what the law answers. Condition: the functions' texts are these. -/
namespace Go.Kc
variable {P:Program} {f:Nat}
theorem qvX(hc:qt P f qad=true)(l m:GList)(hl:l.calls.length<=100000):qe P f [.agg (qu l),.agg (qu m)] (.b (wp l m)):=by
 refine qe.mk hc rfl ?_;simp only[qad,qu,vI,simprocAttr]
 by_cases hm:l.mode=m.mode
 rotate_left
 ·simp only[↓vS,vT,simprocAttr,hm];simp[vZ,wp,hm]
 by_cases hlen:l.calls.length=m.calls.length
 rotate_left
 ·have hli:¬(l.calls.length:Int)=m.calls.length:=by omega
  have hne:l.calls≠m.calls:=fun h=>hlen (by rw[h])
  simp only[↓vS,vT,simprocAttr,hm,hli];simp[vZ,wp,hm,hne]
 have hli:(l.calls.length:Int)=m.calls.length:=by omega
 simp only[↓vS,vT,simprocAttr,hm,hli];refine SL.loop (α:=Nat) (fun j=>[(2,.ptr 0 0),(3,.ptr 1 0),(4,.b false),(5,.i .i64 j)]) (fun _=>[.cells 0 true false (qu l),.cells 0 true false (qu m)]) (fun j=>j<=l.calls.length∧l.calls.take j=m.calls.take j) (fun j=>l.calls.length-j) 0 [0,1] ?_ ?_ ?_ rfl ?_ ?_
 ·simp[vw]
 ·simp[vw,qu,hm,qc]
 ·simp
 ·exact⟨Nat.zero_le _,by simp⟩
 rintro j ⟨hj,hI⟩ G ih;simp only[vI,simprocAttr,qu]
 by_cases hlt:j<l.calls.length
 ·have hlm:j<m.calls.length:=by omega
  have hx:l.calls[j]?=some l.calls[j]:=List.getElem?_eq_getElem hlt;have hy:m.calls[j]?=some m.calls[j]:=List.getElem?_eq_getElem hlm;have hw:IntKind.wrap .i64 ((j:Int)+1)=((j+1:Nat):Int):=by rw[qF (by omega) (by omega)];omega
  have ex:=qcw hx;have ey:=qcw hy;have bx:=qbp hlt;have bY:=qbp hlm;have hst:=fun e=>qa7 hx hy hI e
  have hne:l.calls[j]≠m.calls[j]->l.calls≠m.calls:=by
   intro e h;have h1:l.calls[j]?=m.calls[j]?:=by rw[h]
   exact e (Option.some.inj (hx.symm.trans (h1.trans hy)))
  generalize l.calls[j]=a at ex hst hne;generalize m.calls[j]=b at ey hst hne
  by_cases e1:a.name=b.name
  ·by_cases e2:a.act=b.act
   ·have e:a=b:=by cases a;cases b;simp_all
    simp only[↓vS,vT,simprocAttr,hlt];refine xb ?_;simp (decide:=true) only [↓vS,vT,simprocAttr,hlt,hlm,ex,ey,bx,bY,zf,e1,e2,hw,beq_self_eq_true];refine ih (j+1) ⟨by omega,hst e⟩ (by omega) _ _ (Wk.mk _ _ [0,1] ?_ ?_ ?_ rfl)
    ·simp[vw]
    ·simp[vw,qu,qc]
    ·simp
   ·have hn:=hne (by rintro rfl;exact e2 rfl);simp only[↓vS,vT,simprocAttr,hlt];refine xb ?_;simp (decide:=true) only [↓vS,vT,simprocAttr,hlt,hlm,ex,ey,bx,bY,zf,e1,e2,hw,beq_self_eq_true];simp[vZ,wp,hn]
  ·have hn:=hne (by rintro rfl;exact e1 rfl);simp only[↓vS,vT,simprocAttr,hlt];refine xb ?_;simp (decide:=true) only [↓vS,vT,simprocAttr,hlt,hlm,ex,ey,bx,bY,zf,e1,hw];simp[vZ,wp,hn]
 ·have he:l.calls=m.calls:=by
   rw[List.take_of_length_le (by omega),List.take_of_length_le (by omega)] at hI;exact hI
  simp only[↓vS,vT,simprocAttr,hlt];simp[vZ,wp,hm,he]
set_option maxRecDepth 8000 in
theorem qvY{g:Nat}(hc:qt P f (qae g)=true)(hg:∀l m:GList,l.calls.length<=100000->qe P g [.agg (qu l),.agg (qu m)] (.b (wp l m))):qeI P f:=by
 intro p q hp;have ha:=hp.a;have hf:=hp.f;have hcc:=hp.c;have hll:=hp.l;refine qe.mk hc rfl ?_;simp only[qae,qj,vI,simprocAttr]
 by_cases n1:p.arches.length=q.arches.length
 rotate_left
 ·have n1':¬(p.arches.length:Int)=q.arches.length:=by omega
  have hne:p.arches≠q.arches:=fun h=>n1 (by rw[h])
  simp (decide:=true) only [↓vS,vT,simprocAttr,n1'];simp[vZ,xi,hne]
 have n1':(p.arches.length:Int)=q.arches.length:=by omega
 by_cases n2:p.fams.length=q.fams.length
 rotate_left
 ·have n2':¬(p.fams.length:Int)=q.fams.length:=by omega
  have hne:p.fams≠q.fams:=fun h=>n2 (by rw[h])
  simp (decide:=true) only [↓vS,vT,simprocAttr,n1',n2'];simp[vZ,xi,hne]
 have n2':(p.fams.length:Int)=q.fams.length:=by omega
 simp (decide:=true) only [↓vS,vT,simprocAttr,n1',n2'];refine SL.loop (α:=Nat) (fun j=>[(2,.ptr 0 0),(3,.ptr 1 0),(5,.i .i64 j)]) (fun _=>[.cells 0 true false (qj p),.cells 0 true false (qj q)]) (fun j=>j<=p.arches.length∧p.arches.take j=q.arches.take j) (fun j=>p.arches.length-j) 0 [0,1] ?_ ?_ ?_ rfl ?_ ?_
 ·simp[vw]
 ·simp[vw,qj,n1',n2',qd,qc]
 ·simp
 ·exact⟨Nat.zero_le _,by simp⟩
 rintro j ⟨hj,hI⟩ G ih;simp only[vI,simprocAttr,qj]
 by_cases hlt:j<p.arches.length
 ·have hlm:j<q.arches.length:=by omega
  have hx:p.arches[j]?=some p.arches[j]:=List.getElem?_eq_getElem hlt;have hy:q.arches[j]?=some q.arches[j]:=List.getElem?_eq_getElem hlm;have hw:IntKind.wrap .i64 ((j:Int)+1)=((j+1:Nat):Int):=by rw[qF (by omega) (by omega)];omega
  by_cases e:p.arches[j]=q.arches[j]
  ·simp only[↓vS,vT,simprocAttr,hlt];refine xb ?_;simp (decide:=true) only [↓vS,vT,simprocAttr,hlt,hlm,Nat.mul_one,zF,hx,hy,Option.map_some,e,hw,ne_eq,not_true_eq_false];refine ih (j+1) ⟨by omega,qa7 hx hy hI e⟩ (by omega) _ _ (Wk.mk _ _ [0,1] ?_ ?_ ?_ rfl)
   ·simp[vw]
   ·simp[vw,qj,qd,qc]
   ·simp
  ·have hne:p.arches≠q.arches:=by
    intro h;have h1:p.arches[j]?=q.arches[j]?:=by rw[h]
    exact e (Option.some.inj (hx.symm.trans (h1.trans hy)))
   simp only[↓vS,vT,simprocAttr,hlt];refine xb ?_;simp (decide:=true) only [↓vS,vT,simprocAttr,hlt,hlm,Nat.mul_one,zF,hx,hy,Option.map_some,e,hw,ne_eq,not_false_eq_true];simp[vZ,xi,hne]
 have hA:p.arches=q.arches:=by
  rw[List.take_of_length_le (by omega),List.take_of_length_le (by omega)] at hI;exact hI
 simp only[↓vS,vT,simprocAttr,hlt];clear ih hI;refine SL.loop (α:=Nat) (fun j=>[(2,.ptr 0 0),(3,.ptr 1 0),(6,.i .i64 j)]) (fun _=>[.cells 0 true false (qj p),.cells 0 true false (qj q)]) (fun j=>j<=p.fams.length∧p.fams.take j=q.fams.take j) (fun j=>p.fams.length-j) 0 [0,1] ?_ ?_ ?_ rfl ?_ ?_
 ·simp[vw]
 ·simp[vw,qj,qd,qc]
 ·simp
 ·exact⟨Nat.zero_le _,by simp⟩
 rintro j ⟨hj,hI⟩ G ih;simp only[vI,simprocAttr,qj]
 by_cases hlt:j<p.fams.length
 ·have hlm:j<q.fams.length:=by omega
  have hx:p.fams[j]?=some p.fams[j]:=List.getElem?_eq_getElem hlt;have hy:q.fams[j]?=some q.fams[j]:=List.getElem?_eq_getElem hlm;have hw:IntKind.wrap .i64 ((j:Int)+1)=((j+1:Nat):Int):=by rw[qF (by omega) (by omega)];omega
  by_cases e:p.fams[j]=q.fams[j]
  ·simp only[↓vS,vT,simprocAttr,hlt];refine xb ?_;simp (decide:=true) only [↓vS,vT,simprocAttr,hlt,hlm,Nat.mul_one,zF,hx,hy,Option.map_some,e,hw,ne_eq,not_true_eq_false];refine ih (j+1) ⟨by omega,qa7 hx hy hI e⟩ (by omega) _ _ (Wk.mk _ _ [0,1] ?_ ?_ ?_ rfl)
   ·simp[vw]
   ·simp[vw,qj,qd,qc]
   ·simp
  ·have hne:p.fams≠q.fams:=by
    intro h;have h1:p.fams[j]?=q.fams[j]?:=by rw[h]
    exact e (Option.some.inj (hx.symm.trans (h1.trans hy)))
   simp only[↓vS,vT,simprocAttr,hlt];refine xb ?_;simp (decide:=true) only [↓vS,vT,simprocAttr,hlt,hlm,Nat.mul_one,zF,hx,hy,Option.map_some,e,hw,ne_eq,not_false_eq_true];simp[vZ,xi,hne]
 have hF:p.fams=q.fams:=by
  rw[List.take_of_length_le (by omega),List.take_of_length_le (by omega)] at hI;exact hI
 clear ih hI;simp only[↓vS,vT,simprocAttr,hlt];refine (hg p.filter q.filter (by omega)).sc ?_;cases h1:wp p.filter q.filter with
 | false =>
  simp (decide:=true) only [↓vS,vT,simprocAttr];simp[vZ,xi,h1]
 | true =>
 simp (decide:=true) only [↓vS,vT,simprocAttr];refine (hg p.log q.log (by omega)).sc ?_;cases h2:wp p.log q.log with
 | false =>
  simp (decide:=true) only [↓vS,vT,simprocAttr];simp[vZ,xi,h2]
 | true =>
 by_cases h3:p.deny=q.deny
 rotate_left
 ·simp (decide:=true) only [↓vS,vT,simprocAttr,h3];simp[vZ,xi,h3]
 by_cases h4:p.fmode=q.fmode
 rotate_left
 ·simp (decide:=true) only [↓vS,vT,simprocAttr,h3,h4];simp[vZ,xi,h4]
 by_cases h5:p.spaces=q.spaces
 rotate_left
 ·simp (decide:=true) only [↓vS,vT,simprocAttr,h3,h4,h5];simp[vZ,xi,h5]
 cases h6:p.we==q.we with
 | false =>
  simp (decide:=true) only [↓vS,vT,simprocAttr,h3,h4,h5,h6];simp[vZ,xi,h6]
 | true =>
 cases h7:p.pe==q.pe with
 | false =>
  simp (decide:=true) only [↓vS,vT,simprocAttr,h3,h4,h5,h6,h7];simp[vZ,xi,h7]
 | true =>
 cases h8:p.rt==q.rt with
 | false =>
  simp (decide:=true) only [↓vS,vT,simprocAttr,h3,h4,h5,h6,h7,h8];simp[vZ,xi,h8]
 | true =>
 simp (decide:=true) only [↓vS,vT,simprocAttr,h3,h4,h5,h6,h7,h8];simp only[vZ,xi,hA,hF,h1,h2,h3,h4,h5,h6,h7,h8];simp[vZ]
theorem qid{p:Pol}{a:Asg}(h:xV p a=false):PolOk p:=by
 simp only[xV,qaZ,Bool.or_eq_false_iff,decide_eq_false_iff_not,Nat.not_lt] at h;exact⟨by omega,by omega,by omega,by omega⟩
noncomputable def qpA(p:Pol):AV:=if qag p=true then .tup [.fz (qaA p).length (rS (qaA p)),.i .i64 0] else .tup [.fz 0 [],.i .i64 2]
def zz(a b c d e g h i j k l m:Nat):ICode:=.seq (.seq (.reg true [.n 38 9,.n 39 11,.b 40 .neq 38 39,.n 41 40,.z 42 8 41,.g 43 (.len false (.t 42)) 41 false,.z 44 10 41,.g 45 (.len false (.t 44)) 41 false,.g 46 (.bin .neq (.t 43) (.t 45)) 41 false,.o 47 41 46,.n 48 47,.g 49 (.loadN 13 (.t 7)) 48 false,⟨(some 50),.callF e [.t 49],(some (48,false))⟩,.g 51 (.loadN 13 (.t 3)) 48 false,⟨(some 52),.callF g [.t 51],(some (48,false))⟩,.g 53 (.eqB true (.t 50) (.t 52)) 48 false,.o 54 48 53,.n 55 54,.g 56 (.loadN 13 (.t 7)) 55 false,.g 57 (.loadN 13 (.t 4)) 55 false,⟨(some 58),.callF h [.t 56,.t 57],(some (55,false))⟩,.g 59 (.loadN 13 (.t 3)) 55 false,.g 60 (.loadN 13 (.t 4)) 55 false,⟨(some 61),.callF i [.t 59,.t 60],(some (55,false))⟩,.g 62 (.eqB true (.t 58) (.t 61)) 55 false,.o 63 55 62,.n 64 63,.g 65 (.loadN 13 (.t 7)) 64 false,.g 66 (.loadN 13 (.t 3)) 64 false,⟨(some 67),.callF h [.t 65,.t 66],(some (64,false))⟩,.g 68 (.un .not (.t 67)) 64 false,.o 69 64 68,.n 70 69,.z 71 2 70,⟨(some 72),.callF j [.t 71],(some (70,false))⟩,.z 73 2 70,⟨(some 74),.callF k [.t 73],(some (70,false))⟩,.g 75 (.eqB true (.t 72) (.t 74)) 70 false,.o 76 70 75]) (.cond (.t 76) (.seq (.r [.m 6 .F]) (.ret)) (.skip))) (.seq (.seq (.r [.m 12 (.k 0)]) (.blk 0 (.loop (.seq (.seq (.r [.n 77 12,.n 78 8,.e 79 78,.s 80 77 79]) (.cond (.t 80) (.skip) (.exit 0))) (.seq (.blk 1 (.seq (.reg true [.n 83 8,.n 84 12,.i 85 1 83 84,.d 86 85,.n 87 10,.n 88 12,.i 89 1 87 88,.d 90 89,.b 91 .neq 86 90]) (.cond (.t 91) (.seq (.r [.m 6 .F]) (.ret)) (.skip)))) (.r [.n 81 12,.a 82 81 1,.n 12 82])))))) (.seq (.r [.v 92 13 7,.v 93 13 3,.l 94 i [.t 92,.t 93],.n 95 94,⟨(some 96),.callF l [],(some (95,true))⟩,.g 97 (.build [.nils,.i .u8 0,.nils,.i .u32 0,.i .u8 0,.nils,.nils,.i .u8 0,.i .u64 0,.b false,.b false,.b false,.b false] [(3,1,(.c (.i .u32 2147483648)))]) 95 true,⟨(some 98),.callF i [.t 96,.t 97],(some (95,true))⟩,.p 99 95 98,.n 100 99,⟨(some 101),.callF m [],(some (100,true))⟩,.p 102 100 101,.n 6 102]) (.ret)))
def xS(a b c d e g h i j k l m:Nat):IFn:=⟨[.tmp 6],.seq (.r [.q 3 (.box (.t 0)),.q 4 (.box (.t 1)),.m 6 .F]) (.seq (.seq (.r [.v 13 13 3,.q 14 (.build [.s [],.i .i64 0,.s [],.s [],.s []] []),.l 15 a [.t 13,.t 14],.n 16 15,.g 17 (.loadN 13 (.t 4)) 16 false,.g 18 (.build [.s [],.i .i64 0,.s [],.s [],.s []] []) 16 false,⟨(some 19),.callF a [.t 17,.t 18],(some (16,false))⟩,.o 20 16 19,.n 21 20,.z 22 2 21,.g 23 (.len false (.t 22)) 21 false,.g 24 (.bin .gtr (.t 23) (.k 50)) 21 false,.o 25 21 24]) (.cond (.t 25) (.seq (.r [.m 6 .T]) (.ret)) (.skip))) (.seq (.r [.v 26 13 3,.l 27 b [.t 26],.q 7 (.alloc [.nils,.i .u8 0,.nils,.i .u32 0,.i .u8 0,.nils,.nils,.i .u8 0,.i .u64 0,.b false,.b false,.b false,.b false]),.u (.store 13 (.t 7) (.t 27))]) (.seq (.r [.v 29 13 7,.l 30 c [.t 29],.n 28 30,.x 31 28 0,.x 32 28 1,.n 8 31,.n 9 32]) (.seq (.r [.v 34 13 3,.l 35 d [.t 34],.n 33 35,.x 36 33 0,.x 37 33 1,.n 10 36,.n 11 37]) (.cut (zz a b c d e g h i j k l m))))))⟩
section
variable {g1 g2 g3 g4 g5 g6 g7 g8 g9 g10 g11 g12:Nat}
theorem qnM(h5:∀p,PolOk p->qe P g5 [.agg (qj p)] (.b (qag p)))(h6:∀p,PolOk p->PolR p->qe P g6 [.agg (qj p)] (.b (qag p)))(h7:qeI P g7)(h8:qeI P g8)(h9:∀l:List GNote,l.length<=qf->qe P g9 [.fz l.length (rN l)] (.b (jT l)))(h10:∀l:List GNote,l.length<=qf->qe P g10 [.fz l.length (rN l)] (.b (jT l)))
  (h11:qe P g11 [] (.agg (qj qfx))) (h12:qe P g12 [] (.b true)) (p q:Pol) (hp:PolOk p) (hr:PolR p) (n:List GNote) (hn:n.length<=50) (L:List (List UInt8)) (hL:L.length<=1000) (e:Int) {t':Tr AV} {h':Hp}
  (hw:Wk 0 t' h' (mkT [(2,.fz n.length (rN n)),(3,.ptr 0 0),(4,.ptr 1 0),(6,.b false),(7,.ptr 2 0),(8,.fz L.length (rS L)),(9,.i .i64 e),(10,.fz L.length (rS L)),(11,.i .i64 e)]) (mkH 0 [.cells 0 true false (qj p),.cells 0 true false (qj q),.cells 0 true false (qj p)])) :
  S P 0 (zz g1 g2 g3 g4 g5 g6 g7 g8 g9 g10 g11 g12) (jD [.tmp 6] fun v' h'=>Frz h' v' (.b true)) t' h':=by
 refine S.weak hw (qr ?_);have k5:=h5 p hp;have k6:=h6 p hp hr;have k7:=h7 p q hp;have k8:=h8 p q hp;have k7s:=h7 p p hp;have k8s:=h8 p p hp;have hnr:n.length<=qf:=by simp only[qf];omega
 have k9:=h9 n hnr;have k10:=h10 n hnr;rw[qeA] at k7s k8s
 have k8n:qe P g8 [.agg (qj qfx),.agg [.nils,.i .u8 0,.nils,.i .u32 2147483648,.i .u8 0,.nils,.nils,.i .u8 0,.i .u64 0,.b false,.b false,.b false,.b false]] (.b true):=by
  have:=h8 qfx qfx ⟨by decide,by decide,by decide,by decide⟩
  rw[qeA] at this;exact this.coe fun h=>by simp[vZ,qj,qfx,qk7,rI,rC]
 simp only[zz,qj,vI,simprocAttr] at k5 k6 k7 k8 k7s k8s k8n h11 ⊢;simp only[↓vS,vT,simprocAttr];refine xb ?_;simp (decide:=true) only [↓vS,vT,simprocAttr,ne_eq,not_true_eq_false];refine k5.pc ?_;simp (decide:=true) only [↓vS,vT,simprocAttr];refine k6.pc ?_;simp (decide:=true) only [↓vS,vT,simprocAttr,beq_self_eq_true];refine k7.pc ?_;simp (decide:=true) only [↓vS,vT,simprocAttr];refine k8.pc ?_;simp (decide:=true) only [↓vS,vT,simprocAttr,beq_self_eq_true];refine k7s.pc ?_;simp (decide:=true) only [↓vS,vT,simprocAttr];refine k9.pc ?_;simp (decide:=true) only [↓vS,vT,simprocAttr];refine k10.pc ?_;simp (decide:=true) only [↓vS,vT,simprocAttr,beq_self_eq_true];refine SL.loop (α:=Nat) (fun j=>[(3,.ptr 0 0),(7,.ptr 2 0),(8,.fz L.length (rS L)),(10,.fz L.length (rS L)),(12,.i .i64 j)]) (fun _=>[.cells 0 true false (qj p),.cells 0 true false (qj q),.cells 0 true false (qj p)]) (fun j=>j<=L.length) (fun j=>L.length-j) 0 [0,1,2] ?_ ?_ ?_ rfl ?_ ?_
 ·simp[vw,qa]
 ·simp[vw,qj,qd,qc]
 ·simp
 ·exact Nat.zero_le _
 rintro j hj G ih;simp only[vI,simprocAttr,qj]
 by_cases hlt:j<L.length
 ·have hx:L[j]?=some L[j]:=List.getElem?_eq_getElem hlt;have hw:IntKind.wrap .i64 ((j:Int)+1)=((j+1:Nat):Int):=by rw[qF (by omega) (by omega)];omega
  simp only[↓vS,vT,simprocAttr,hlt];refine xb ?_;simp (decide:=true) only [↓vS,vT,simprocAttr,hlt,Nat.mul_one,qhB,hx,Option.map_some,hw,ne_eq,not_true_eq_false];refine ih (j+1) (by omega) (by omega) _ _ (Wk.mk _ _ [0,1,2] ?_ ?_ ?_ rfl)
  ·simp[vw,qa]
  ·simp[vw,qj,qd,qc]
  ·simp
 clear ih;simp only[↓vS,vT,simprocAttr,hlt];refine k8s.sc ?_;simp (decide:=true) only [↓vS,vT,simprocAttr];refine h11.sc ?_;simp (decide:=true) only [↓vS,vT,simprocAttr];refine k8n.sc ?_;simp (decide:=true) only [↓vS,vT,simprocAttr];refine h12.sc ?_;simp (decide:=true) only [↓vS,vT,simprocAttr];simp[vZ]
theorem policyTells(hc:qt P f (xS g1 g2 g3 g4 g5 g6 g7 g8 g9 g10 g11 g12)=true)(h1:∀p a,qe P g1 [.agg (qj p),.agg (qlT a)] (.b (xV p a)))(h2:qjs P g2)(h3:∀p,PolOk p->(qag p=true->LinOk p)->qe P g3 [.agg (qj p)] (qpA p))(h4:∀p,PolOk p->PolR p->(qag p=true->LinOk p∧Lin19 p)->qe P g4 [.agg (qj p)] (qpA p))
  (h5:∀p,PolOk p->qe P g5 [.agg (qj p)] (.b (qag p))) (h6:∀p,PolOk p->PolR p->qe P g6 [.agg (qj p)] (.b (qag p))) (h7:qeI P g7) (h8:qeI P g8) (h9:∀l:List GNote,l.length<=qf->qe P g9 [.fz l.length (rN l)] (.b (jT l))) (h10:∀l:List GNote,l.length<=qf->qe P g10 [.fz l.length (rN l)] (.b (jT l)))
  (h11:qe P g11 [] (.agg (qj qfx))) (h12:qe P g12 [] (.b true)) (p q:Pol) (n:List GNote) (hr:PolR p):qe P f [.agg (qj p),.agg (qj q),.fz n.length (rN n)] (.b true):=by
 have hg:∀p,qe P g1 [.agg (qj p),.agg [.s [],.i .i64 0,.s [],.s [],.s []]] (.b (xV p ⟨[],0,[],[],[]⟩)):=fun p=>h1 p ⟨[],0,[],[],[]⟩
 refine qe.mk hc (by simp[qG,clo,qcx,qj,qd,qc]) ?_;have hg1:=hg p;have hg2:=hg q;simp only[xS,qj,vI,simprocAttr] at hg1 hg2 ⊢;simp only[↓vS,vT,simprocAttr];refine hg1.sc ?_;cases e1:xV p ⟨[],0,[],[],[]⟩ with
 | true =>
  simp (decide:=true) only [↓vS,vT,simprocAttr];simp[vZ]
 | false =>
 simp (decide:=true) only [↓vS,vT,simprocAttr];refine hg2.sc ?_;cases e2:xV q ⟨[],0,[],[],[]⟩ with
 | true =>
  simp (decide:=true) only [↓vS,vT,simprocAttr];simp[vZ]
 | false =>
 by_cases e3:(50:Int)<n.length
 ·simp (decide:=true) only [↓vS,vT,simprocAttr,e3];simp[vZ]
 have hp:=qid e1;have k2:=h2 p hp;have k3:=h3 p hp (qmW hp);have k4:=h4 p hp hr (fun h=>⟨qmW hp h,qsd hr h⟩)
 have hlen:(qaA p).length<=1000:=by
  obtain⟨l1,l2,l3,l4,l5⟩:=qgk p;have l6:=wm xh p.filter;have l7:=wm qcL p.log;have l8:=l5 kWe p.we;have l9:=l5 kPe p.pe;have l10:=l5 kRt p.rt;have l11:=l5 kNp p.np;unfold qaA;simp only[List.length_append,List.length_nil];omega
 obtain⟨L,e,hv,hL⟩:∃(L:List (List UInt8)) (e:Int),qpA p = .tup [.fz L.length (rS L),.i .i64 e]∧L.length<=1000:=by
  unfold qpA;split
  ·exact⟨qaA p,0,rfl,hlen⟩
  ·exact⟨[],2,rfl,by simp⟩
 rw[hv] at k3 k4;simp only[qj] at k2 k3 k4;simp (decide:=true) only [↓vS,vT,simprocAttr,e3];refine k2.sc ?_;simp (decide:=true) only [↓vS,vT,simprocAttr];refine k3.sc ?_;simp (decide:=true) only [↓vS,vT,simprocAttr];refine k4.sc ?_;simp (decide:=true) only [↓vS,vT,simprocAttr];refine qnM h5 h6 h7 h8 h9 h10 h11 h12 p q hp hr n (by omega) L hL e (Wk.mk _ _ [0,1,2] ?_ ?_ ?_ rfl)
 ·simp[vw,qcx,qa]
 ·simp[vw,qj,qd,qc]
 ·simp
end
end Go.Kc
end
section
/- The kit's law of strconv.Itoa, as a contract: the table that it reads is one that the machine knows of. No condition. -/
namespace Go.Kc
open Go.RowKit Go.Sort
variable {P:Program} {f:Nat}
def qs2:Array Value:=(Lib.pow10Tab.map fun z=>Value.int .u64 z).toArray
def qoc(P:Program)(f:Nat):Prop:=∀n:Int,-9223372036854775808<=n->n<=9223372036854775807->∀w:World,Lib.TabIs P w "internal/strconv.uint64pow10" .u64 Lib.pow10Tab->
 Calls P f #[.int .i64 n] w fun e w'=>e = .returned (.string ⟨(Lib.itoa n).toArray⟩)∧∃k os,w'=grow (w.drewN k) os
theorem quX{g:Nat}(hcod:qh3 P f)(hg:P.globalNamed "internal/strconv.uint64pow10" = some g)(ht:tab g=some qs2)(hK:qoc P f):qqt P f:=by
 intro n h0 h1 h k hk;refine⟨trivial,fun ρ B w args r ha=>?_⟩
 generalize hA:args.toList=L at ha;cases ha with
 | cons _ _ _ _ a1 a2 =>
  rename_i v1 vs1;cases a2;have hargs:args = #[v1]:=by apply Array.ext';rw[hA]
  subst hargs;cases a1;obtain⟨⟨ty,fz,hw⟩,_⟩:=r.frz g _ (ρ.frz.ok g _ ht)
  have htab:Lib.TabIs P w "internal/strconv.uint64pow10" .u64 Lib.pow10Tab:=by
   unfold Lib.TabIs World.var?;rw[hg];show (match w.heap[g]? with|some (.cells cs _ _)=>some cs|_=>none)=_
   rw[hw];rfl
  refine .inl ⟨hcod,(hK n (by omega) (by omega) w htab).mono ?_⟩;rintro e w' ⟨rfl,q,os,rfl⟩;have hb:=Lib.below_grow w.heap.size w (Nat.le_refl _) q os;exact⟨_,_,h,ρ,rfl,hk,.s _,r.below hb,Kept.below r hb⟩
end Go.Kc
end
