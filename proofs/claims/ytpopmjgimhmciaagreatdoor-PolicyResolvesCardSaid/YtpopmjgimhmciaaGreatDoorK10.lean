/- Part 10 of the abstract machine and of the functions' walks. Conditions: with each theorem. -/
import Derived.Test.YtpopmjgimhmciaaGreatDoorK9
set_option linter.unusedSimpArgs false
set_option linter.unusedVariables false
set_option linter.unnecessarySimpa false
section
/- What the document makes of a list by a value. Condition: the functions' texts are these. -/
namespace Go.Kc
variable {P:Program} {f:Nat}
def xN(a b c d e g h i:Nat):ICode:=.r [.n 44 12,.a 45 44 1,.n 12 45]
def zS(a b c d e g h i:Nat):ICode:=.seq (.r [.m 17 (.k 0)]) (.blk 2 (.loop (.seq (.seq (.r [.n 114 17,.n 115 16,.e 116 115,.s 117 114 116]) (.cond (.t 117) (.skip) (.exit 2))) (.seq (.blk 3 (.seq (.r [.f 120 0 3,.d 121 120,.q 122 (.bin .eql (.t 121) (.c (.i .u8 1))),.n 123 122,.y 124 9 123,.g 125 (.un .not (.t 124)) 123 true,.y 126 125 123,.h 127 2 14 126 false,.j 128 127 126 false,.g 129 (.pick (.t 126) .T (.t 128)) 123 true,.p 130 123 129,.n 131 130,.h 132 0 3 131 false,.j 133 132 131 false,.g 134 (.bin .eql (.t 133) (.c (.i .u8 2))) 131 false,.z 135 134 131,.y 136 9 135,.g 137 (.pick (.t 135) (.t 136) .F) 131 false,.o 138 131 137]) (.cond (.t 138) (.reg true [.v 139 2 3,.n 140 16,.n 141 17,.i 142 1 140 141,.d 143 142,.f 144 1 14,.d 145 144,.l 146 h [.t 139,.t 143,.t 145],.u (.store 2 (.t 3) (.t 146))]) (.reg true [.v 147 2 3,.n 148 16,.n 149 17,.i 150 1 148 149,.d 151 150,.l 152 i [.t 147,.t 151],.u (.store 2 (.t 3) (.t 152))])))) (.r [.n 118 17,.a 119 118 1,.n 17 119])))))
def xP(a b c d e g h i:Nat):ICode:=.seq (.seq (.r [.f 97 2 14,.d 98 97,.n 99 98,.y 100 2 99,.g 101 (.un .not (.t 100)) 99 true,.y 102 101 99,.z 103 9 102,.g 104 (.un .not (.t 103)) 102 false,.g 105 (.pick (.t 102) .T (.t 104)) 99 true,.p 106 99 105]) (.cond (.t 106) (.seq (.r [.n 107 10,.n 108 13,.q 109 (.build [.s [],.i .i64 0,.i .i64 0,.s []] [(2,1,(.k 161)),(3,1,(.t 108))]),.q 110 (.buildS 1 [.s [],.i .i64 0,.i .i64 0,.s []] [(0,4,(.t 109))]),.q 111 (.app 4 48 true (.t 107) (.t 110)),.n 10 111]) (.seq (.r [.f 112 2 14,.u (.store 1 (.t 112) .F)]) (.r [.f 113 1 14,.u (.store 1 (.t 113) (.c (.i .u32 0)))]))) (.skip))) (.cut (zS a b c d e g h i))
def xO(a b c d e g h i:Nat):ICode:=.seq (.seq (.r [.n 89 15,.w 90 .neq 89 0]) (.cond (.t 90) (.seq (.r [.n 91 10,.n 92 15,.n 93 13,.q 94 (.build [.s [],.i .i64 0,.i .i64 0,.s []] [(2,1,(.t 92)),(3,1,(.t 93))]),.q 95 (.buildS 1 [.s [],.i .i64 0,.i .i64 0,.s []] [(0,4,(.t 94))]),.q 96 (.app 4 48 true (.t 91) (.t 95)),.n 10 96]) (.exit 1)) (.skip))) (.cut (xP a b c d e g h i))
def zT(a b c d e g h i:Nat):ICode:=.seq (.r [.n 56 11,.n 57 12,.i 58 1 56 57,.d 59 58,.l 60 d [.t 59],.n 55 60,.x 61 55 0,.x 62 55 1,.q 14 (.alloc [.s [],.i .u32 0,.b false]),.u (.store 3 (.t 14) (.t 61)),.n 15 62]) (.seq (.r [.m 16 .N]) (.seq (.seq (.r [.n 63 15,.w 64 .eql 63 0,.n 65 64,.h 66 0 14 65 true,.j 67 66 65 true,.g 68 (.idxS (.t 67) (.k 0)) 65 true,.g 69 (.bin .eql (.t 68) (.c (.i .u8 64))) 65 true,.p 70 65 69]) (.cond (.t 70) (.r [.f 72 0 14,.d 73 72,.l 74 e [.t 73],.n 71 74,.x 75 71 0,.x 76 71 1,.n 16 75,.n 15 76]) (.seq (.r [.n 77 15,.w 78 .eql 77 0,.n 79 78,.h 80 0 14 79 true,.j 81 80 79 true,⟨(some 82),.callF g [.t 81],(some (79,true))⟩,.p 83 79 82]) (.cond (.t 83) (.r [.f 84 0 14,.d 85 84,.q 86 (.buildS 1 [.s []] [(0,1,(.t 85))]),.n 16 86]) (.seq (.r [.n 87 15,.w 88 .eql 87 0]) (.cond (.t 88) (.r [.m 15 (.k 90)]) (.skip))))))) (.cut (xO a b c d e g h i))))
def x5(a b c d e g h i:Nat):ICode:=.seq (.seq (.r [.m 12 (.k 0)]) (.blk 0 (.loop (.seq (.seq (.r [.n 40 12,.n 41 11,.e 42 41,.s 43 40 42]) (.cond (.t 43) (.skip) (.exit 0))) (.seq (.blk 1 (.seq (.r [.n 46 11,.n 47 12,.i 48 1 46 47,.d 49 48,.n 13 49]) (.seq (.seq (.r [.n 50 13,.q 51 (.len true (.t 50)),.w 52 .gtr 51 60]) (.cond (.t 52) (.r [.n 53 13,.q 54 (.slcStr (.t 53) none (some (.k 60))),.n 13 54]) (.skip))) (.cut (zT a b c d e g h i))))) (.cut (xN a b c d e g h i))))))) (.seq (.r [.v 153 2 3,.n 154 10,.u (.store 2 (.t 6) (.t 153)),.n 7 154]) (.ret))
def kn(a b c d e g h i:Nat):IFn:=⟨[.cell 6 2 true,.tmp 7],.seq (.r [.q 3 (.box (.t 0)),.q 6 (.alloc [.i .u8 0,.nils]),.m 7 .N]) (.seq (.seq (.r [.v 18 2 3,.l 19 a [.t 18],.q 20 (.un .not (.t 19))]) (.cond (.t 20) (.seq (.r [.v 21 2 3,.u (.store 2 (.t 6) (.t 21)),.m 7 .N]) (.ret)) (.skip))) (.seq (.seq (.r [.n 22 1,.l 23 b [.t 22],.e 24 23,.w 25 .eql 24 0]) (.cond (.t 25) (.seq (.r [.q 26 (.build [.i .u8 0,.nils] []),.u (.store 2 (.t 6) (.t 26)),.m 7 .N]) (.ret)) (.skip))) (.seq (.r [.n 28 1,.l 29 c [.t 28],.n 27 29,.x 30 27 0,.x 31 27 1,.n 8 30,.n 9 31]) (.seq (.seq (.r [.f 32 0 3,.d 33 32,.q 34 (.bin .eql (.t 33) (.c (.i .u8 0)))]) (.cond (.t 34) (.seq (.r [.f 35 0 3,.u (.store 1 (.t 35) (.c (.i .u8 1)))]) (.seq (.r [.n 36 9]) (.cond (.t 36) (.r [.f 37 0 3,.u (.store 1 (.t 37) (.c (.i .u8 2)))]) (.skip)))) (.skip))) (.seq (.r [.m 10 .N]) (.seq (.r [.n 38 8,.l 39 b [.t 38],.n 11 39]) (.cut (x5 a b c d e g h i))))))))⟩
theorem qjR{l:GList}(h:zp l=true)(s:List UInt8):yR l s=⟨l.mode,wo l.calls s⟩:=by unfold yR;rw[h];rfl
def qbD(m:Int)(t has:Bool):Bool:=(decide (m=1)&&(!t||has))||(decide (m=2)&&t)
theorem W4{g1 g2 g3 g4 g5 g6 g7 g8:Nat}(h7:qaC P g7)(h8:Zw P g8)(fl t:Bool)(W N:List (List UInt8))(j:Nat)(l:GList)(wd:Word)(ns:List GNote)(hW:W.length<=1000)(hN:N.length<=1000)
  (hl:zp l=true) (hm:l.mode=1∨l.mode=2) (hk:∀n ∈ N,zG n=true) (ha:kR wd.act=true) (Q:X->Tr AV->Hp->Prop)
  (hQ:∀t' h',Wk 0 t' h' (mkT [(2,.b fl),(3,.ptr 0 0),(6,.ptr 1 0),(9,.b t),(10,.own 2 ns.length),(11,.fz W.length (rS W)),(12,.i .i64 j)]) (mkH 0 [.cells 0 true false (qj (N.foldl (zw (qbD l.mode t wd.has) wd.act) l)),.cells 0 true false [.i .u8 0,.nils],.cells 4 true true (rN ns)])->Q .normal t' h') :
  S P 0 (zS g1 g2 g3 g4 g5 g6 g7 g8) Q
   (mkT [(2,.b fl),(3,.ptr 0 0),(6,.ptr 1 0),(9,.b t),(10,.own 2 ns.length),(11,.fz W.length (rS W)),(12,.i .i64 j),(14,.ptr 3 0),(16,.fz N.length (rS N))])
   (mkH 0 [.cells 0 true false (qj l),.cells 0 true false [.i .u8 0,.nils],.cells 4 true true (rN ns),.cells 0 true false (qV wd)]):=by
 refine qr ?_;simp only[zS,qj,vI,simprocAttr];simp only[↓vS,vT,simprocAttr];generalize hins:qbD l.mode t wd.has=ins at hQ
 refine SL.loop (α:=Nat) (fun k=>[(2,.b fl),(3,.ptr 0 0),(6,.ptr 1 0),(9,.b t),(10,.own 2 ns.length),(11,.fz W.length (rS W)),(12,.i .i64 j),(14,.ptr 3 0),(16,.fz N.length (rS N)),(17,.i .i64 k)])
  (fun k=>[.cells 0 true false (qj ((N.take k).foldl (zw ins wd.act) l)),.cells 0 true false [.i .u8 0,.nils],.cells 4 true true (rN ns),.cells 0 true false (qV wd)])
  (fun k=>k<=N.length) (fun k=>N.length-k) 0 [0,1,2,3] ?_ ?_ ?_ rfl ?_ ?_
 ·simp[vw]
 ·simp[vw,qj,qa,qb,qc,qV]
 ·simp
 ·exact Nat.zero_le _
 rintro k hk1 G ih;have hmay:=y6 (ins:=ins) ha hl (by omega) (fun n hn=>hk n (List.mem_of_mem_take (i:=k) hn))
 have hlen:=QH hmay;have hmd:=ZG ins wd.act (N.take k) l;generalize hr:(N.take k).foldl (zw ins wd.act) l=r at hmay hlen hmd ih ⊢;simp only[vI,simprocAttr]
 by_cases hlt:k<N.length
 ·have hx:(rS N)[k]?=some (.s N[k]):=by rw[yF,List.getElem?_eq_getElem hlt];rfl
  have hw:IntKind.wrap .i64 ((k:Int)+1)=((k+1:Nat):Int):=by rw[qq (by omega) (by omega)];omega
  have hnext:(N.take (k+1)).foldl (zw ins wd.act) l=zw ins wd.act r N[k]:=by
   rw[List.take_add_one,List.getElem?_eq_getElem hlt,List.foldl_append,hr];rfl
  have ih2:=ih (k+1);rw[hnext] at ih2;rw[← hmd] at hm hins;have htw:=qjR hmay N[k];have hrn:=qcC hmay;simp only[qj,qV];simp only[↓vS,vT,simprocAttr,hlt];rcases hm with e|e
  ·cases t with
   | true =>
    cases hh:wd.has with
    | true =>
     have hi:ins=true:=by rw[← hins,e,hh];rfl
     subst hi;simp (decide:=true) only [↓vS,vT,simprocAttr,e];refine qW ?_;simp only[↓vS,vT,simprocAttr,hlt,hx,Nat.mul_one];refine (h7 r N[k] wd.act (by omega) hrn).pc ?_;simp only[↓vS,vT,simprocAttr,hw,qj];refine ih2 (by omega) (by omega) _ _ (Wk.mk _ _ [0,1,2,3] ?_ ?_ ?_ rfl)
     ·simp[vw]
     ·simp[vw,qj,qa,qb,qc,qV,zw,hh]
     ·simp
    | false =>
     have hi:ins=false:=by rw[← hins,e,hh];rfl
     subst hi;simp (decide:=true) only [↓vS,vT,simprocAttr,e];refine qW ?_;simp only[↓vS,vT,simprocAttr,hlt,hx,Nat.mul_one];refine (J0 h8 r N[k] (by omega)).pc ?_;simp only[↓vS,vT,simprocAttr,hw,qj];refine ih2 (by omega) (by omega) _ _ (Wk.mk _ _ [0,1,2,3] ?_ ?_ ?_ rfl)
     ·simp[vw]
     ·simp[vw,qj,qa,qb,qc,qV,zw,htw,hh,e]
     ·simp
   | false =>
    cases hh:wd.has with
    | true =>
     have hi:ins=true:=by rw[← hins,e,hh];rfl
     subst hi;simp (decide:=true) only [↓vS,vT,simprocAttr,e];refine qW ?_;simp only[↓vS,vT,simprocAttr,hlt,hx,Nat.mul_one];refine (h7 r N[k] wd.act (by omega) hrn).pc ?_;simp only[↓vS,vT,simprocAttr,hw,qj];refine ih2 (by omega) (by omega) _ _ (Wk.mk _ _ [0,1,2,3] ?_ ?_ ?_ rfl)
     ·simp[vw]
     ·simp[vw,qj,qa,qb,qc,qV,zw,hh]
     ·simp
    | false =>
     have hi:ins=true:=by rw[← hins,e,hh];rfl
     subst hi;simp (decide:=true) only [↓vS,vT,simprocAttr,e];refine qW ?_;simp only[↓vS,vT,simprocAttr,hlt,hx,Nat.mul_one];refine (h7 r N[k] wd.act (by omega) hrn).pc ?_;simp only[↓vS,vT,simprocAttr,hw,qj];refine ih2 (by omega) (by omega) _ _ (Wk.mk _ _ [0,1,2,3] ?_ ?_ ?_ rfl)
     ·simp[vw]
     ·simp[vw,qj,qa,qb,qc,qV,zw,hh]
     ·simp
  ·cases t with
   | true =>
    cases hh:wd.has with
    | true =>
     have hi:ins=true:=by rw[← hins,e,hh];rfl
     subst hi;simp (decide:=true) only [↓vS,vT,simprocAttr,e];refine qW ?_;simp only[↓vS,vT,simprocAttr,hlt,hx,Nat.mul_one];refine (h7 r N[k] wd.act (by omega) hrn).pc ?_;simp only[↓vS,vT,simprocAttr,hw,qj];refine ih2 (by omega) (by omega) _ _ (Wk.mk _ _ [0,1,2,3] ?_ ?_ ?_ rfl)
     ·simp[vw]
     ·simp[vw,qj,qa,qb,qc,qV,zw,hh]
     ·simp
    | false =>
     have hi:ins=true:=by rw[← hins,e,hh];rfl
     subst hi;simp (decide:=true) only [↓vS,vT,simprocAttr,e];refine qW ?_;simp only[↓vS,vT,simprocAttr,hlt,hx,Nat.mul_one];refine (h7 r N[k] wd.act (by omega) hrn).pc ?_;simp only[↓vS,vT,simprocAttr,hw,qj];refine ih2 (by omega) (by omega) _ _ (Wk.mk _ _ [0,1,2,3] ?_ ?_ ?_ rfl)
     ·simp[vw]
     ·simp[vw,qj,qa,qb,qc,qV,zw,hh]
     ·simp
   | false =>
    cases hh:wd.has with
    | true =>
     have hi:ins=false:=by rw[← hins,e,hh];rfl
     subst hi;simp (decide:=true) only [↓vS,vT,simprocAttr,e];refine qW ?_;simp only[↓vS,vT,simprocAttr,hlt,hx,Nat.mul_one];refine (J0 h8 r N[k] (by omega)).pc ?_;simp only[↓vS,vT,simprocAttr,hw,qj];refine ih2 (by omega) (by omega) _ _ (Wk.mk _ _ [0,1,2,3] ?_ ?_ ?_ rfl)
     ·simp[vw]
     ·simp[vw,qj,qa,qb,qc,qV,zw,htw,hh,e]
     ·simp
    | false =>
     have hi:ins=false:=by rw[← hins,e,hh];rfl
     subst hi;simp (decide:=true) only [↓vS,vT,simprocAttr,e];refine qW ?_;simp only[↓vS,vT,simprocAttr,hlt,hx,Nat.mul_one];refine (J0 h8 r N[k] (by omega)).pc ?_;simp only[↓vS,vT,simprocAttr,hw,qj];refine ih2 (by omega) (by omega) _ _ (Wk.mk _ _ [0,1,2,3] ?_ ?_ ?_ rfl)
     ·simp[vw]
     ·simp[vw,qj,qa,qb,qc,qV,zw,htw,hh,e]
     ·simp
 ·have hkl:N.take k=N:=List.take_of_length_le (by omega);rw[hkl] at hr;rw[hr] at hQ;simp only[qj,qV];simp only[↓vS,vT,simprocAttr,hlt];refine hQ _ _ (Wk.mk _ _ [0,1,2] ?_ ?_ ?_ rfl)
  ·simp[vw]
  ·simp[vw,qj,qa,qb,qc]
  ·simp
theorem qcb{g1 g2 g3 g4 g5 g6 g7 g8:Nat}(fl t:Bool)(W:List (List UInt8))(j:Nat)(hj:j<100000)(l:GList)(ns:List GNote)(Q:X->Tr AV->Hp->Prop)
  (hQ:∀t' h',Wk 0 t' h' (mkT [(2,.b fl),(3,.ptr 0 0),(6,.ptr 1 0),(9,.b t),(10,.own 2 ns.length),(11,.fz W.length (rS W)),(12,.i .i64 (j+1:Nat))]) (mkH 0 [.cells 0 true false (qj l),.cells 0 true false [.i .u8 0,.nils],.cells 4 true true (rN ns)])->Q .normal t' h') :
  S P 0 (xN g1 g2 g3 g4 g5 g6 g7 g8) Q (mkT [(2,.b fl),(3,.ptr 0 0),(6,.ptr 1 0),(9,.b t),(10,.own 2 ns.length),(11,.fz W.length (rS W)),(12,.i .i64 j)]) (mkH 0 [.cells 0 true false (qj l),.cells 0 true false [.i .u8 0,.nils],.cells 4 true true (rN ns)]):=by
 have hw:IntKind.wrap .i64 ((j:Int)+1)=((j+1:Nat):Int):=by rw[qq (by omega) (by omega)];omega
 refine qr ?_;simp only[xN,qj,vI,simprocAttr];simp only[↓vS,vT,simprocAttr,hw];refine hQ _ _ (Wk.mk _ _ [0,1,2] ?_ ?_ ?_ rfl)
 ·simp[vw]
 ·simp[vw,qj,qa,qb,qc]
 ·simp
theorem qgR{g1 g2 g3 g4 g5 g6 g7 g8:Nat}(h7:qaC P g7)(h8:Zw P g8)(fl t:Bool)(W N:List (List UInt8))(j:Nat)(l:GList)(wd:Word)(w:List UInt8)(ns:List GNote)(hW:W.length<=1000)(hN:N.length<=1000)(hns:ns.length<=100000)
  (hl:zp l=true) (hm:l.mode=1∨l.mode=2) (hk:∀n ∈ N,zG n=true) (ha:kR wd.act=true) (s':GList×List GNote)
  (hs:s'=if wd.has=true∧(fl=false∨t=false) then (N.foldl (zw (qbD l.mode t false) 0) l,ns++[zt 161 w]) else (N.foldl (zw (qbD l.mode t wd.has) wd.act) l,ns)) (Q:X->Tr AV->Hp->Prop)
  (hQ:∀t' h',Wk 0 t' h' (mkT [(2,.b fl),(3,.ptr 0 0),(6,.ptr 1 0),(9,.b t),(10,.own 2 s'.2.length),(11,.fz W.length (rS W)),(12,.i .i64 j)]) (mkH 0 [.cells 0 true false (qj s'.1),.cells 0 true false [.i .u8 0,.nils],.cells 4 true true (rN s'.2)])->Q .normal t' h') :
  S P 0 (xP g1 g2 g3 g4 g5 g6 g7 g8) Q
   (mkT [(2,.b fl),(3,.ptr 0 0),(6,.ptr 1 0),(9,.b t),(10,.own 2 ns.length),(11,.fz W.length (rS W)),(12,.i .i64 j),(13,.s (w.take 60)),(14,.ptr 3 0),(16,.fz N.length (rS N))]) (mkH 0 [.cells 0 true false (qj l),.cells 0 true false [.i .u8 0,.nils],.cells 4 true true (rN ns),.cells 0 true false (qV wd)]):=by
 refine qr ?_;simp only[xP,qj,qV,vI,simprocAttr];have hr1:ns.length+1<=qf:=by simp only[qf];omega
 have hr2:(ns.length+1)*48<=qf:=by simp only[qf];omega
 have hap:rN ns++[AV.s [],.i .i64 0,.i .i64 161,.s (w.take 60)]=rN (ns++[zt 161 w]):=by rw[← yd];rfl
 cases hh:wd.has with
 | false =>
  rw[if_neg (by simp[hh])] at hs;subst hs;simp only[↓vS,vT,simprocAttr];refine S.weak (Wk.mk _ _ [0,1,2,3] ?_ ?_ ?_ rfl) (W4 h7 h8 fl t W N j l wd ns hW hN hl hm hk ha Q hQ)
  ·simp[vw]
  ·simp[vw,qj,qa,qb,qc,qV,hh]
  ·simp
 | true =>
  by_cases hft:fl=false∨t=false
  ·rw[if_pos ⟨hh,hft⟩] at hs;subst hs
   have go:S P 0 (zS g1 g2 g3 g4 g5 g6 g7 g8) Q (mkT [(2,.b fl),(3,.ptr 0 0),(6,.ptr 1 0),(9,.b t),(10,.own 2 (ns++[zt 161 w]).length),(11,.fz W.length (rS W)),(12,.i .i64 j),(14,.ptr 3 0),(16,.fz N.length (rS N))])
    (mkH 0 [.cells 0 true false (qj l),.cells 0 true false [.i .u8 0,.nils],.cells 4 true true (rN (ns++[zt 161 w])),.cells 0 true false (qV ⟨wd.name,0,false⟩)]):=W4 h7 h8 fl t W N j l ⟨wd.name,0,false⟩ (ns++[zt 161 w]) hW hN hl hm hk rfl Q hQ
   cases fl with
   | false =>
    simp (decide:=true) only [↓vS,vT,simprocAttr,hr1,hr2,jq,hap];refine S.weak (Wk.mk _ _ [0,1,5,3] ?_ ?_ ?_ rfl) go
    ·simp[vw]
    ·simp[vw,qj,qa,qb,qc,qV]
    ·simp
   | true =>
    have ht:t=false:=by rcases hft with h|h;cases h;exact h
    subst ht;simp (decide:=true) only [↓vS,vT,simprocAttr,hr1,hr2,jq,hap];refine S.weak (Wk.mk _ _ [0,1,5,3] ?_ ?_ ?_ rfl) go
    ·simp[vw]
    ·simp[vw,qj,qa,qb,qc,qV]
    ·simp
  ·rw[if_neg (by simp[hft])] at hs;subst hs;have hf:fl=true:=by cases fl<;>simp_all
   have ht:t=true:=by cases t<;>simp_all
   subst hf ht;simp only[↓vS,vT,simprocAttr];refine S.weak (Wk.mk _ _ [0,1,2,3] ?_ ?_ ?_ rfl) (W4 h7 h8 true true W N j l wd ns hW hN hl hm hk ha Q hQ)
   ·simp[vw]
   ·simp[vw,qj,qa,qb,qc,qV,hh]
   ·simp
theorem X8{g1 g2 g3 g4 g5 g6 g7 g8:Nat}(h7:qaC P g7)(h8:Zw P g8)(fl t:Bool)(W N:List (List UInt8))(j:Nat)(l:GList)(wd:Word)(w:List UInt8)(e:Int)(ns:List GNote)(hW:W.length<=1000)(hN:N.length<=1000)(hns:ns.length<=100000)
  (hl:zp l=true) (hm:l.mode=1∨l.mode=2) (hk:∀n ∈ N,zG n=true) (ha:kR wd.act=true) (s':GList×List GNote)
  (hs:s'=if e≠0 then (l,ns++[zt e w]) else if wd.has=true∧(fl=false∨t=false) then (N.foldl (zw (qbD l.mode t false) 0) l,ns++[zt 161 w]) else (N.foldl (zw (qbD l.mode t wd.has) wd.act) l,ns)) (Q:X->Tr AV->Hp->Prop)
  (hQ:∀t' h',Wk 0 t' h' (mkT [(2,.b fl),(3,.ptr 0 0),(6,.ptr 1 0),(9,.b t),(10,.own 2 s'.2.length),(11,.fz W.length (rS W)),(12,.i .i64 j)]) (mkH 0 [.cells 0 true false (qj s'.1),.cells 0 true false [.i .u8 0,.nils],.cells 4 true true (rN s'.2)])->Q .normal t' h'∧Q (.exit 1) t' h') :
  S P 0 (xO g1 g2 g3 g4 g5 g6 g7 g8) Q
   (mkT [(2,.b fl),(3,.ptr 0 0),(6,.ptr 1 0),(9,.b t),(10,.own 2 ns.length),(11,.fz W.length (rS W)),(12,.i .i64 j),(13,.s (w.take 60)),(14,.ptr 3 0),(15,.i .i64 e),(16,.fz N.length (rS N))]) (mkH 0 [.cells 0 true false (qj l),.cells 0 true false [.i .u8 0,.nils],.cells 4 true true (rN ns),.cells 0 true false (qV wd)]):=by
 refine qr ?_;simp only[xO,qj,qV,vI,simprocAttr];have hr1:ns.length+1<=qf:=by simp only[qf];omega
 have hr2:(ns.length+1)*48<=qf:=by simp only[qf];omega
 have hap:rN ns++[AV.s [],.i .i64 0,.i .i64 e,.s (w.take 60)]=rN (ns++[zt e w]):=by rw[← yd];rfl
 by_cases he:e=0
 ·rw[if_neg (by simp[he])] at hs;simp only[↓vS,vT,simprocAttr,he];refine S.weak (Wk.mk _ _ [0,1,2,3] ?_ ?_ ?_ rfl) (qgR h7 h8 fl t W N j l wd w ns hW hN hns hl hm hk ha s' hs _ (fun t' h' hw=>(hQ t' h' hw).1))
  ·simp[vw]
  ·simp[vw,qj,qa,qb,qc,qV]
  ·simp
 ·rw[if_pos he] at hs;subst hs;simp (decide:=true) only [↓vS,vT,simprocAttr,he,hr1,hr2,jq,hap];refine (hQ _ _ (Wk.mk _ _ [0,1,5] ?_ ?_ ?_ rfl)).2
  ·simp[vw]
  ·simp[vw,qj,qa,qb,qc]
  ·simp
end Go.Kc
end
section
/- What the document makes of a list by a value, whole; and by values. Condition: the functions' texts are these. -/
namespace Go.Kc
variable {P:Program} {f:Nat}
theorem qaV{m:Int}(hm:m=1∨m=2)(t:Bool):qbD m t false=decide (m-1=if t=true then 1 else 0):=by
 rcases hm with rfl|rfl<;>cases t<;>rfl
theorem qgg{m:Int}(hm:m=1∨m=2):qbD m true true=true:=by
 rcases hm with rfl|rfl<;>rfl
theorem qgT(E:List UInt8->List (List UInt8)×Int)(fl t:Bool){l:GList}(hm:l.mode=1∨l.mode=2)(ns:List GNote)(w:List UInt8)(h1:(qo w).2=0) :
  qS E fl t (l,ns) w=if (zO E (qo w).1.name).2≠0 then (l,ns++[zt (zO E (qo w).1.name).2 w])
   else if (qo w).1.has=true∧(fl=false∨t=false) then ((zO E (qo w).1.name).1.foldl (zw (qbD l.mode t false) 0) l,ns++[zt 161 w]) else ((zO E (qo w).1.name).1.foldl (zw (qbD l.mode t (qo w).1.has) (qo w).1.act) l,ns):=by
 unfold qS;rw[if_neg (by simp[h1])]
 by_cases h2:(zO E (qo w).1.name).2≠0
 ·rw[if_pos h2,if_pos h2]
 rw[if_neg h2,if_neg h2];cases hh:(qo w).1.has with
 | false=>simp only[Bool.false_eq_true,false_and,if_false,if_true,qaV hm]
 | true =>
  simp only[Bool.true_eq_false,if_false,true_and]
  by_cases hft:fl=false∨t=false
  ·simp only[if_pos hft,qaV hm]
  ·have ht:t=true:=by cases t<;>simp_all
   rw[if_neg hft,if_neg hft,ht,qgg hm]
theorem qeu{w:List UInt8}(h:(qo w).2=0):(qo w).1.name≠[]:=by
 unfold qo at h ⊢
 by_cases h1:(xT w).1=[]
 ·rw[if_pos h1] at h;cases h
 rw[if_neg h1] at h ⊢;split
 ·exact h1
 ·rename_i h2;rw[if_neg h2] at h;split
  ·exact h1
  ·rename_i h3;rw[if_neg h3] at h;split
   ·exact h1
   ·rename_i h4;rw[if_neg h4] at h;exact absurd h h4
theorem qgQ{g1 g2 g3 g4 g5 g6 g7 g8:Nat}{E:List UInt8->List (List UInt8)×Int}(hE:wQ E)(h4:qc4 P g4)(h5:qch E P g5)(h6:∀s,qd P g6 [.s s] (.b (zG s)))(h7:qaC P g7)(h8:Zw P g8)(fl t:Bool)(W:List (List UInt8))(j:Nat)(l:GList)(w:List UInt8)(ns:List GNote)(hW:W.length<=1000)(hns:ns.length<=100000)
  (hjW:j<W.length) (hx:(rS W)[j]?=some (.s w)) (hwl:w.length<=1000000) (hl:zp l=true) (hm:l.mode=1∨l.mode=2) (s':GList×List GNote) (hs:s'=qS E fl t (l,ns) w) (Q:X->Tr AV->Hp->Prop)
  (hQ:∀t' h',Wk 0 t' h' (mkT [(2,.b fl),(3,.ptr 0 0),(6,.ptr 1 0),(9,.b t),(10,.own 2 s'.2.length),(11,.fz W.length (rS W)),(12,.i .i64 j)]) (mkH 0 [.cells 0 true false (qj s'.1),.cells 0 true false [.i .u8 0,.nils],.cells 4 true true (rN s'.2)])->Q .normal t' h'∧Q (.exit 1) t' h') :
  S P 0 (zT g1 g2 g3 g4 g5 g6 g7 g8) Q (mkT [(2,.b fl),(3,.ptr 0 0),(6,.ptr 1 0),(9,.b t),(10,.own 2 ns.length),(11,.fz W.length (rS W)),(12,.i .i64 j),(13,.s (w.take 60))]) (mkH 0 [.cells 0 true false (qj l),.cells 0 true false [.i .u8 0,.nils],.cells 4 true true (rN ns)]):=by
 have hmem:=qan hE (qo w).1.name;refine qr ?_;simp only[zT,qj,vI,simprocAttr];simp only[↓vS,vT,simprocAttr,hjW,hx,Nat.mul_one];refine (h4 w hwl).sc ?_
 by_cases e1:(qo w).2=0
 ·rw[qgT E fl t hm ns w e1] at hs;have hnn:=qeu e1;have h1:0<(qo w).1.name.length:=List.length_pos_iff.2 hnn;obtain⟨c,cs,hcs⟩:∃c cs,(qo w).1.name=c::cs:=List.exists_cons_of_ne_nil hnn;have hx0:(qo w).1.name[0]?=some c:=by rw[hcs];rfl
  by_cases hc:(c.toNat:Int)=64
  ·have hc':c=64:=by rw[← UInt8.toNat_inj];have:=hc;simp at this ⊢;omega
   have hmm:zO E (qo w).1.name=E (qo w).1.name:=by unfold zO;rw[if_pos (by rw[hcs,hc'];rfl)]
   rw[hmm] at hs hmem;simp only[↓vS,vT,simprocAttr,e1,qV,h1,hx0,hc];refine (h5 (qo w).1.name).sc ?_;simp only[↓vS,vT,simprocAttr];refine S.weak (Wk.mk _ _ [0,1,2,3] ?_ ?_ ?_ rfl) (X8 h7 h8 fl t W (E (qo w).1.name).1 j l (qo w).1 w (E (qo w).1.name).2 ns hW (by omega) hns hl hm hmem.1 (xK w) s' hs _ hQ)
   ·simp[vw]
   ·simp[vw,qj,qa,qb,qc,qV]
   ·simp
  ·have hc':¬ [64].isPrefixOf (qo w).1.name=true:=by
    rw[hcs];intro h;simp[List.isPrefixOf] at h;exact hc (by rw[← h];rfl)
   simp only[↓vS,vT,simprocAttr,e1,qV,h1,hx0,hc];refine (h6 (qo w).1.name).sc ?_;cases hk:zG (qo w).1.name with
   | true =>
    have hmm:zO E (qo w).1.name=([(qo w).1.name],0):=by unfold zO;rw[if_neg hc',if_pos hk]
    rw[hmm] at hs hmem;simp only[↓vS,vT,simprocAttr];refine S.weak (Wk.mk [(2,.b fl),(3,.ptr 0 0),(6,.ptr 1 0),(9,.b t),(10,.own 2 ns.length),(11,.fz W.length (rS W)),(12,.i .i64 j),(13,.s (w.take 60)),(14,.ptr 3 0),(15,.i .i64 0),(16,.sl 4 0 1 1 false)] [.cells 0 true false (qj l),.cells 0 true false [.i .u8 0,.nils],.cells 4 true true (rN ns),.cells 0 true false (qV (qo w).1),.cells 0 true false [.s (qo w).1.name]] [0,1,2,3,4] ?_ ?_ ?_ rfl) ?_
    ·simp[vw]
    ·simp[vw,qj,qa,qb,qc,qV]
    ·simp
    refine S.weak (Wk.freeze 4 1 0 rfl rfl (Nat.zero_le _) (by simp)) ?_;refine S.weak (Wk.mk _ _ [0,1,2,3] ?_ ?_ ?_ rfl) (X8 h7 h8 fl t W [(qo w).1.name] j l (qo w).1 w 0 ns hW (by simp) hns hl hm hmem.1 (xK w) s' hs _ hQ)
    ·simp[vw,mkT,fzv,jT,rS]
    ·simp[vw,mkH,trL,fzB,jT,fzv,qj,qa,qb,qc,qV,qaQ qb]
    ·simp[mkH]
   | false =>
    have hmm:zO E (qo w).1.name=([],90):=by unfold zO;rw[if_neg hc',if_neg (by simp[hk])]
    rw[hmm] at hs hmem;simp only[↓vS,vT,simprocAttr,e1];refine S.weak (Wk.mk _ _ [0,1,2,3] ?_ ?_ ?_ rfl) (X8 h7 h8 fl t W [] j l (qo w).1 w 90 ns hW (by simp) hns hl hm hmem.1 (xK w) s' hs _ hQ)
    ·simp[vw,rS]
    ·simp[vw,qj,qa,qb,qc,qV]
    ·simp
 ·have hs2:s'=(l,ns++[zt (qo w).2 w]):=by rw[hs];unfold qS;rw[if_pos e1]
  simp only[↓vS,vT,simprocAttr,e1,qV];refine S.weak (Wk.mk _ _ [0,1,2,3] ?_ ?_ ?_ rfl) (X8 h7 h8 fl t W [] j l (qo w).1 w (qo w).2 ns hW (by simp) hns hl hm (by simp) (xK w) s' (by rw[if_pos e1];exact hs2) _ hQ)
  ·simp[vw,rS]
  ·simp[vw,qj,qa,qb,qc,qV]
  ·simp
theorem Wz{g1 g2 g3 g4 g5 g6 g7 g8:Nat}{E:List UInt8->List (List UInt8)×Int}(hE:wQ E)(h4:qc4 P g4)(h5:qch E P g5)(h6:∀s,qd P g6 [.s s] (.b (zG s)))(h7:qaC P g7)(h8:Zw P g8)(fl t:Bool)(v:List UInt8)(hv:v.length<=1000)(l:GList)(hl:zp l=true)(hm:l.mode=1∨l.mode=2) :
  S P 0 (x5 g1 g2 g3 g4 g5 g6 g7 g8) (xg [.cell 6 2 true,.tmp 7] fun v' h'=>Frz h' v' (.tup [.agg (qj ((qh v).foldl (qS E fl t) (l,[])).1),.fz ((qh v).foldl (qS E fl t) (l,[])).2.length (rN ((qh v).foldl (qS E fl t) (l,[])).2)]))
   (mkT [(2,.b fl),(3,.ptr 0 0),(6,.ptr 1 0),(9,.b t),(10,.own 2 0),(11,.fz (qh v).length (rS (qh v)))]) (mkH 0 [.cells 0 true false (qj l),.cells 0 true false [.i .u8 0,.nils],.cells 4 true true []]):=by
 have hwl:=zW v;refine qr ?_;simp only[x5,qj,vI,simprocAttr];simp only[↓vS,vT,simprocAttr]
 refine SL.loop (α:=Nat) (fun j=>[(2,.b fl),(3,.ptr 0 0),(6,.ptr 1 0),(9,.b t),(10,.own 2 (((qh v).take j).foldl (qS E fl t) (l,[])).2.length),(11,.fz (qh v).length (rS (qh v))),(12,.i .i64 j)])
  (fun j=>[.cells 0 true false (qj (((qh v).take j).foldl (qS E fl t) (l,[])).1),.cells 0 true false [.i .u8 0,.nils],.cells 4 true true (rN (((qh v).take j).foldl (qS E fl t) (l,[])).2)])
  (fun j=>j<=(qh v).length) (fun j=>(qh v).length-j) 0 [0,1,2] ?_ ?_ ?_ rfl ?_ ?_
 ·simp[vw,zf]
 ·simp[vw,qj,qa,qb,qc,vh]
 ·simp
 ·exact Nat.zero_le _
 rintro j hj G ih;obtain⟨k1,k2,k3⟩:=JY hE fl t ((qh v).take j) (l,[]) hl (by dsimp only;omega);have k4:=QH k1;dsimp only at k2;simp only[List.length_take,List.length_nil,Nat.zero_add] at k3
 by_cases hlt:j<(qh v).length
 ·have hx:(rS (qh v))[j]?=some (.s (qh v)[j]):=by rw[yF,List.getElem?_eq_getElem hlt];rfl
  have hnext:((qh v).take (j+1)).foldl (qS E fl t) (l,[])=qS E fl t (((qh v).take j).foldl (qS E fl t) (l,[])) (qh v)[j]:=by
   rw[List.take_add_one,List.getElem?_eq_getElem hlt,List.foldl_append];rfl
  have ih2:=ih (j+1);rw[hnext] at ih2;generalize hr:((qh v).take j).foldl (qS E fl t) (l,[])=r at k1 k2 k3 k4 ih ih2 ⊢;have hwd:=qbx (List.getElem_mem hlt);generalize (qh v)[j]=w at hx hwd ih2;obtain⟨rl,rn⟩:=r;dsimp only at k1 k2 k3 k4 ih2 ⊢
  have go:∀(Q:X->Tr AV->Hp->Prop),(∀t' h',Wk 0 t' h' (mkT [(2,.b fl),(3,.ptr 0 0),(6,.ptr 1 0),(9,.b t),(10,.own 2 (qS E fl t (rl,rn) w).2.length),(11,.fz (qh v).length (rS (qh v))),(12,.i .i64 j)]) (mkH 0 [.cells 0 true false (qj (qS E fl t (rl,rn) w).1),.cells 0 true false [.i .u8 0,.nils],.cells 4 true true (rN (qS E fl t (rl,rn) w).2)])->Q .normal t' h'∧Q (.exit 1) t' h')->
    S P 0 (zT g1 g2 g3 g4 g5 g6 g7 g8) Q (mkT [(2,.b fl),(3,.ptr 0 0),(6,.ptr 1 0),(9,.b t),(10,.own 2 rn.length),(11,.fz (qh v).length (rS (qh v))),(12,.i .i64 j),(13,.s (w.take 60))]) (mkH 0 [.cells 0 true false (qj rl),.cells 0 true false [.i .u8 0,.nils],.cells 4 true true (rN rn)]) :=
   fun Q hQ=>qgQ hE h4 h5 h6 h7 h8 fl t (qh v) j rl w rn (by omega) (by omega) hlt hx (by omega) k1 (by rw[k2];exact hm) _ rfl Q hQ
  simp only[vI,simprocAttr,qj]
  by_cases h60:(60:Int)<w.length
  ·have h1:60<=w.length:=by omega
   simp only[↓vS,vT,simprocAttr,hlt,hx,Nat.mul_one,h60,h1,List.drop_zero];refine S.weak (Wk.mk _ _ [0,1,2] ?_ ?_ ?_ rfl) (go _ (fun t' h' hw=>?_))
   ·simp[vw,zf]
   ·simp[vw,qj,qa,qb,qc]
   ·simp
   ·simp only[↓vS,vT,simprocAttr];exact S.weak hw (qcb fl t (qh v) j (by omega) _ _ _ (fun t'' h'' hw'=>ih2 (by omega) (by omega) t'' h'' hw'))
  ·have h1:w.take 60=w:=List.take_of_length_le (by omega);rw[h1] at go;simp only[↓vS,vT,simprocAttr,hlt,hx,Nat.mul_one,h60];refine S.weak (Wk.mk _ _ [0,1,2] ?_ ?_ ?_ rfl) (go _ (fun t' h' hw=>?_))
   ·simp[vw,zf]
   ·simp[vw,qj,qa,qb,qc]
   ·simp
   ·simp only[↓vS,vT,simprocAttr];exact S.weak hw (qcb fl t (qh v) j (by omega) _ _ _ (fun t'' h'' hw'=>ih2 (by omega) (by omega) t'' h'' hw'))
 ·have hjl:(qh v).take j=qh v:=List.take_of_length_le (by omega);rw[hjl];generalize (qh v).foldl (qS E fl t) (l,[])=r;simp only[vI,simprocAttr,qj];simp only[↓vS,vT,simprocAttr,hlt];simp[vZ,vP,Tr.get_set,qj,qn qc,qn qb];intro h0;rw[h0];rfl
end Go.Kc
end
section
/- What the document makes of a list by a value, and by values. Condition: the functions' texts are these. -/
namespace Go.Kc
variable {P:Program} {f:Nat}
def qhJ(P:Program)(f:Nat):Prop:=∀s:List UInt8,s.length<=1000000->qd P f [.s s] (.fz (qh s).length (rS (qh s)))
def qkz(P:Program)(f:Nat):Prop:=∀s:List UInt8,qd P f [.s s] (.tup [.s (qE s).1,.b (qE s).2])
def qhG(E:List UInt8->List (List UInt8)×Int)(P:Program)(f:Nat):Prop:=∀(l:GList) (v:List UInt8) (fl:Bool),l.calls.length<=100000->v.length<=1000->0<=l.mode->Rng l.calls->
 qd P f [.agg (qj l),.s v,.b fl] (.tup [.agg (qj (zm E l v fl).1),.fz (zm E l v fl).2.length (rN (zm E l v fl).2)])
theorem qtE{g1 g2 g3 g4 g5 g6 g7 g8:Nat}{E:List UInt8->List (List UInt8)×Int}(hc:qk P f (kn g1 g2 g3 g4 g5 g6 g7 g8)=true)(hE:wQ E)(h1:qhB P g1)(h2:qhJ P g2)(h3:qkz P g3)(h4:qc4 P g4)(h5:qch E P g5)(h6:∀s,qd P g6 [.s s] (.b (zG s)))(h7:qaC P g7)(h8:Zw P g8):qhG E P f:=by
 intro l v fl hl hv hm0 hR;have htl:=v5 v;refine qd.mk hc rfl ?_;simp only[kn,qj,vI,simprocAttr];simp only[↓vS,vT,simprocAttr];refine (h1 l hl hR).sc ?_;cases hM:zp l with
 | false =>
  have hs:zm E l v fl=(l,[]):=if_pos hM;rw[hs];simp only[↓vS,vT,simprocAttr];simp[vZ,vP,Tr.get_set,qj,qn qc,rN]
 | true =>
  have hmm:=((xC l).1 hM).1;simp only[↓vS,vT,simprocAttr];refine (h2 v (by omega)).sc ?_
  by_cases hw:qh v=[]
  ·have hs:zm E l v fl=(⟨0,[]⟩,[]):=by unfold zm;rw[if_neg (by simp[hM]),if_pos hw]
   rw[hs];simp only[↓vS,vT,simprocAttr,hw,List.length_nil];simp[vZ,vP,Tr.get_set,qj,rN,rC]
  ·have hwn:¬((qh v).length:Int)=0:=by have:=List.length_pos_iff.2 hw;omega
   have hs:zm E l v fl=(qh (qE v).1).foldl (qS E fl (qE v).2) (⟨yQ l.mode (qE v).2,l.calls⟩,[]):=by
    unfold zm;rw[if_neg (by simp[hM]),if_neg hw];rfl
   rw[hs];simp only[↓vS,vT,simprocAttr,hwn];refine (h3 v).sc ?_
   have key:∀(m:Int),m=yQ l.mode (qE v).2->zp ⟨m,l.calls⟩=true∧(m=1∨m=2):=by
    intro m hm;have hpos:=X3 l.mode (qE v).2
    have h12:m=1∨m=2:=by
     rw[hm];unfold yQ at hpos ⊢;split
     ·split<;>simp
     ·have:=hmm.1;omega
    exact⟨by rw[hm];exact qa7 hM _,h12⟩
   cases ht:(qE v).2 with
   | true =>
    rw[ht] at key
    by_cases h0:l.mode=0
    ·have e:yQ 0 true=2:=rfl;obtain⟨k1,k2⟩:=key 2 (by rw[h0];rfl);rw[show yQ l.mode true=2 from by rw[h0];rfl]
     simp only[↓vS,vT,simprocAttr,h0];refine (h2 (qE v).1 (by omega)).sc ?_;simp only[↓vS,vT,simprocAttr];refine S.weak (Wk.mk _ _ [0,1,2] ?_ ?_ ?_ rfl) (Wz hE h4 h5 h6 h7 h8 fl true (qE v).1 (by omega) ⟨2,l.calls⟩ k1 k2)
     ·simp[vw,zf]
     ·simp[vw,qj,qa,qc]
     ·simp
    ·have e:yQ l.mode true=l.mode:=if_neg h0;obtain⟨k1,k2⟩:=key l.mode e.symm;rw[e];simp only[↓vS,vT,simprocAttr,h0];refine (h2 (qE v).1 (by omega)).sc ?_;simp only[↓vS,vT,simprocAttr];refine S.weak (Wk.mk _ _ [0,1,2] ?_ ?_ ?_ rfl) (Wz hE h4 h5 h6 h7 h8 fl true (qE v).1 (by omega) ⟨l.mode,l.calls⟩ k1 k2)
     ·simp[vw,zf]
     ·simp[vw,qj,qa,qc]
     ·simp
   | false =>
    rw[ht] at key
    by_cases h0:l.mode=0
    ·obtain⟨k1,k2⟩:=key 1 (by rw[h0];rfl);rw[show yQ l.mode false=1 from by rw[h0];rfl]
     simp only[↓vS,vT,simprocAttr,h0];refine (h2 (qE v).1 (by omega)).sc ?_;simp only[↓vS,vT,simprocAttr];refine S.weak (Wk.mk _ _ [0,1,2] ?_ ?_ ?_ rfl) (Wz hE h4 h5 h6 h7 h8 fl false (qE v).1 (by omega) ⟨1,l.calls⟩ k1 k2)
     ·simp[vw,zf]
     ·simp[vw,qj,qa,qc]
     ·simp
    ·have e:yQ l.mode false=l.mode:=if_neg h0;obtain⟨k1,k2⟩:=key l.mode e.symm;rw[e];simp only[↓vS,vT,simprocAttr,h0];refine (h2 (qE v).1 (by omega)).sc ?_;simp only[↓vS,vT,simprocAttr];refine S.weak (Wk.mk _ _ [0,1,2] ?_ ?_ ?_ rfl) (Wz hE h4 h5 h6 h7 h8 fl false (qE v).1 (by omega) ⟨l.mode,l.calls⟩ k1 k2)
     ·simp[vw,zf]
     ·simp[vw,qj,qa,qc]
     ·simp
end Go.Kc
end
section
/- What the document's groups answer. Condition: the functions' texts are these. -/
namespace Go.Kc
variable {P:Program} {f:Nat}
def xZ(a:Nat):IFn:=⟨[.tmp 2],.seq (.r [.m 2 .N]) (.seq (.r [.l 5 a [],.n 3 5]) (.seq (.seq (.r [.m 4 (.k 0)]) (.blk 0 (.loop (.seq (.seq (.r [.n 6 4,.n 7 3,.e 8 7,.s 9 6 8]) (.cond (.t 9) (.skip) (.exit 0))) (.seq (.blk 1 (.seq (.r [.n 12 3,.n 13 4,.i 14 2 12 13,.f 15 0 14,.d 16 15,.n 17 0,.b 18 .eql 16 17]) (.cond (.t 18) (.seq (.r [.n 19 3,.n 20 4,.i 21 2 19 20,.f 22 1 21,.d 23 22,.n 2 23]) (.ret)) (.skip)))) (.r [.n 10 4,.a 11 10 1,.n 4 11])))))) (.seq (.r [.m 2 .N]) (.ret))))⟩
theorem qa8{g1:Nat}(hc:qk P f (xZ g1)=true)(h1:qaf P g1)(s:List UInt8)(hs:∀r ∈ zj,r.1≠s):qd P f [.s s] .nils:=by
 refine qd.mk hc rfl ?_;simp only[xZ,vI,simprocAttr];simp only[↓vS,vT,simprocAttr];refine h1.sc ?_;have hlen:(zj.flatMap Wx).length=36:=by decide
 have hcl:qx (zj.flatMap Wx)=true:=kT fun _=>rfl
 have h18:zj.length=18:=by decide
 have hget:∀j (h:j<18),∃r ∈ zj,(zj.flatMap Wx)[j*2]?=some (.s r.1):=by
  intro j h;have hx:zj[j]?=some (zj[j]'(by omega)):=List.getElem?_eq_getElem (by omega);exact⟨_,List.getElem_mem _,Qh (f:=Wx) (m:=2) qdG hx (i:=0) (by decide)⟩
 generalize hT:zj.flatMap Wx=T at hlen hcl hget;simp only[↓vS,vT,simprocAttr];refine SL.loop (α:=Nat) (fun j=>[(0,.s s),(2,.nils),(3,.fz 18 T),(4,.i .i64 j)]) (fun _=>[]) (fun j=>j<=18) (fun j=>18-j) 0 [] ?_ ?_ ?_ rfl ?_ ?_
 ·simp[vw,hcl]
 ·trivial
 ·simp
 ·exact Nat.zero_le _
 rintro j hj G ih;simp only[vI,simprocAttr]
 by_cases hlt:j<18
 ·have hw:IntKind.wrap .i64 ((j:Int)+1)=((j+1:Nat):Int):=by rw[qq (by omega) (by omega)];omega
  have hlt':(j:Int)<18:=by omega
  obtain⟨r,hr,he⟩:=hget j hlt;have hne:¬r.1=s:=hs r hr;simp only[↓vS,vT,simprocAttr,hlt,hlt',he,hne,hw];refine ih (j+1) (by omega) (by omega) _ _ (Wk.mk _ _ [] ?_ ?_ ?_ rfl)
  ·simp[vw,hcl]
  ·trivial
  ·simp
 ·have hlt':¬(j:Int)<18:=by omega
  simp only[↓vS,vT,simprocAttr,hlt'];simp[vZ]
def wY(a b c:Nat):IFn:=⟨[.tmp 2,.tmp 3],.seq (.r [.m 2 .N,.m 3 (.k 0)]) (.seq (.seq (.r [.n 8 0,.l 9 a [.t 8],.e 10 9,.w 11 .eql 10 0]) (.cond (.t 11) (.seq (.r [.m 2 .N,.m 3 (.k 110)]) (.ret)) (.skip))) (.seq (.seq (.r [.n 12 0,.l 13 b [.t 12],.w 14 .gtr 13 4]) (.cond (.t 14) (.seq (.r [.m 2 .N,.m 3 (.k 111)]) (.ret)) (.skip))) (.seq (.r [.m 4 .N]) (.seq (.r [.n 15 0,.q 16 (.buildS 1 [.s []] [(0,1,(.t 15))]),.n 5 16]) (.seq (.blk 0 (.loop (.seq (.seq (.r [.n 17 5,.e 18 17,.w 19 .gtr 18 0]) (.cond (.t 19) (.skip) (.exit 0))) (.blk 1 (.seq (.r [.n 20 5,.q 21 (.iAddrS 1 (.t 20) (.k 0)),.d 22 21,.l 23 a [.t 22],.n 6 23]) (.seq (.r [.n 24 5,.q 25 (.slcS 1 (.t 24) (some (.k 1)) none none),.n 5 25]) (.seq (.r [.m 7 (.k 0)]) (.blk 2 (.loop (.seq (.seq (.r [.n 26 7,.n 27 6,.e 28 27,.s 29 26 28]) (.cond (.t 29) (.skip) (.exit 2))) (.seq (.blk 3 (.seq (.r [.n 32 6,.n 33 7,.i 34 1 32 33,.d 35 34,.l 36 a [.t 35],.e 37 36,.w 38 .gtr 37 0]) (.cond (.t 38) (.r [.n 39 5,.n 40 6,.n 41 7,.i 42 1 40 41,.d 43 42,.q 44 (.buildS 1 [.s []] [(0,1,(.t 43))]),.q 45 (.app 1 16 true (.t 39) (.t 44)),.n 5 45]) (.r [.n 46 4,.n 47 6,.n 48 7,.i 49 1 47 48,.d 50 49,.l 51 c [.t 46,.t 50],.n 4 51])))) (.r [.n 30 7,.a 31 30 1,.n 7 31])))))))))))) (.seq (.r [.n 52 4,.n 2 52,.m 3 (.k 0)]) (.ret)))))))⟩
theorem qro{g1 g2 g3 k1:Nat}(hc:qk P f (wY g1 g2 g3)=true)(hm:qk P g1 (xZ k1)=true)(ht:qaf P k1)
  (hrun:∀r ∈ yh,qd P f [.s r.1] (.tup [.fz r.2.1.length (rS r.2.1),.i .i64 r.2.2])):qch qf5 P f:=by
 intro s;unfold qf5;cases hf:yh.find? (fun r=>decide (r.1=s)) with
 | none =>
  have hn:=qa8 hm ht s (fun r hr he=>by
   have h1:r.1 ∈ yh.map (·.1):=by rw[qbP];exact List.mem_map.2 ⟨r,hr,rfl⟩
   obtain⟨x,hx,hxe⟩:=List.mem_map.1 h1;have:=List.find?_eq_none.1 hf x hx;simp[hxe,he] at this)
  refine qd.mk hc rfl ?_;simp only[wY,vI,simprocAttr];simp only[↓vS,vT,simprocAttr];refine hn.sc ?_;simp only[↓vS,vT,simprocAttr];simp[vZ,rS]
 | some r =>
  have hr:=List.mem_of_find?_eq_some hf;have he:=List.find?_some hf;have he':r.1=s:=of_decide_eq_true he;rw[← he'];exact hrun r hr
end Go.Kc
end
section
/- FoldLists: what the law answers. Condition: the functions' texts are these. -/
namespace Go.Kc
variable {P:Program} {f:Nat}
def kP(e:Int):Bool:=decide (e=90)||decide (e=100)||decide (e=110)||decide (e=161)
def xI:IFn:=⟨[.tmp 4],.seq (.r [.m 4 (.k 0)]) (.seq (.seq (.r [.n 6 0,.e 7 6,.m 8 (.k 0)]) (.blk 0 (.loop (.seq (.r [.s 9 8 7]) (.seq (.cond (.t 9) (.skip) (.exit 0)) (.seq (.blk 1 (.seq (.r [.n 10 8,.n 5 10]) (.seq (.r [.n 11 1,.n 12 0,.n 13 5,.i 14 1 12 13,.d 15 14,.b 16 .eql 11 15]) (.cond (.t 16) (.seq (.r [.n 17 5,.n 4 17]) (.ret)) (.skip))))) (.r [.a 18 8 1,.n 8 18]))))))) (.seq (.r [.q 4 (.mov (.c (.i .i64 (-1))))]) (.ret)))⟩
def qcy(x:Int):List Int->Nat->Int
 | [],_=>-1
 | y::ys,j=>if x=y then (j:Int) else qcy x ys (j+1)
theorem qqm(hc:qk P f xI=true)(xs:List Int)(x:Int)(hl:xs.length<=qf):qd P f [.fz xs.length (rI .i64 xs),.i .i64 x] (.i .i64 (qcy x xs 0)):=by
 refine qd.mk hc (by simp[qx,clo,qe]) ?_;simp only[xI,vI,simprocAttr];simp only[↓vS,vT,simprocAttr];refine SL.loop (α:=Nat) (fun j=>[(0,.fz xs.length (rI .i64 xs)),(1,.i .i64 x),(7,.i .i64 xs.length),(8,.i .i64 j)]) (fun _=>[]) (fun j=>j<=xs.length∧qcy x xs 0=qcy x (xs.drop j) j) (fun j=>xs.length-j) 0 [] ?_ ?_ ?_ rfl ?_ ?_
 ·simp[vw,qe]
 ·trivial
 ·simp
 ·simp
 rintro j ⟨hj,hI⟩ G ih;simp only[vI,simprocAttr]
 by_cases hlt:j<xs.length
 ·have hx:xs[j]?=some xs[j]:=List.getElem?_eq_getElem hlt;have hw:IntKind.wrap .i64 ((j:Int)+1)=(j:Int)+1:=qq (by omega) (by have:=hl;simp only[qf] at this;omega)
  rw[List.drop_eq_getElem_cons hlt,qcy] at hI;simp only[↓vS,vT,simprocAttr,hlt,Nat.mul_one,xa,hx,Option.map_some,hw];split
  ·rename_i he;simp only[he,vZ,if_true] at hI ⊢;simp[hI]
  ·rename_i he;rw[if_neg he] at hI;refine ih (j+1) ⟨by omega,hI⟩ (by omega) _ _ (Wk.mk _ _ [] ?_ ?_ ?_ rfl)
   ·simp[vw,qe]
   ·trivial
   ·simp
 ·simp only[↓vS,vT,simprocAttr,hlt,vZ];rw[List.drop_eq_nil_of_le (by omega)] at hI;simp[hI,qcy]
def xh(a:Nat):IFn:=⟨[.tmp 4],.seq (.r [.m 4 .F]) (.seq (.r [.n 5 0,.n 6 1,.l 7 a [.t 5,.t 6],.w 8 .geq 7 0,.n 4 8]) (.ret))⟩
theorem qkN{g:Nat}(hc:qk P f (xh g)=true)(hg:∀(xs:List Int) (x:Int),xs.length<=qf->qd P g [.fz xs.length (rI .i64 xs),.i .i64 x] (.i .i64 (qcy x xs 0)))(x:Int):qd P f [.fz 4 (rI .i64 [90,110,100,161]),.i .i64 x] (.b (kP x)):=by
 refine qd.mk hc (by simp[qx,clo,qe]) ?_;simp only[xh,vI,simprocAttr];simp only[↓vS,vT,simprocAttr];refine (hg [90,110,100,161] x (by decide)).sc ?_
 have hw:decide (0<=qcy x [90,110,100,161] 0)=kP x:=by
  simp only[qcy,kP]
  by_cases h1:x=90
  ·simp[h1]
  by_cases h2:x=110
  ·simp[h2]
  by_cases h3:x=100
  ·simp[h3]
  by_cases h4:x=161
  ·simp[h4]
  ·simp[h1,h2,h3,h4]
 simp only[↓vS,vT,simprocAttr];simp[vZ,← hw]
def Jr(a:Nat):IFn:=⟨[.tmp 2],.seq (.r [.m 2 .F]) (.seq (.r [.q 3 (.buildS 4 [.i .i64 0] [(0,1,(.k 90)),(1,1,(.k 110)),(2,1,(.k 100)),(3,1,(.k 161))]),.n 4 0,.l 5 a [.t 3,.t 4],.n 2 5]) (.ret))⟩
theorem qpV{g:Nat}(hc:qk P f (Jr g)=true)(hg:∀x,qd P g [.fz 4 (rI .i64 [90,110,100,161]),.i .i64 x] (.b (kP x)))(x:Int):qd P f [.i .i64 x] (.b (kP x)):=by
 refine qd.mk hc rfl ?_;simp only[Jr,vI,simprocAttr];simp only[↓vS,vT,simprocAttr];refine (hg x).lend (vs':=[.fz 4 (rI .i64 [90,110,100,161]),.i .i64 x]) ?_ rfl ?_
 ·refine .cons _ _ _ _ (.cut 1 rfl (Nat.le_refl _) ?_) (.cons _ _ _ _ (.i _ _) .nil);simp[vw,rI]
 simp only[↓vS,vT,simprocAttr];simp[vZ]
def vG:IFn:=⟨[.tmp 2],.seq (.r [.m 2 .F]) (.seq (.r [.n 3 0,.w 4 .eql 3 90,.n 5 4,.z 6 0 5,.g 7 (.bin .eql (.t 6) (.k 100)) 5 false,.o 8 5 7,.n 9 8,.z 10 0 9,.g 11 (.bin .eql (.t 10) (.k 110)) 9 false,.o 12 9 11,.n 13 12,.z 14 0 13,.g 15 (.bin .eql (.t 14) (.k 161)) 13 false,.o 16 13 15,.n 2 16]) (.ret))⟩
theorem qsN(hc:qk P f vG=true)(x:Int):qd P f [.i .i64 x] (.b (kP x)):=by
 refine qd.mk hc rfl ?_;simp only[vG,vI,simprocAttr]
 by_cases h1:x=90
 ·simp only[↓vS,vT,simprocAttr,h1];simp[vZ,kP]
 by_cases h2:x=100
 ·simp only[↓vS,vT,simprocAttr,h1,h2];simp[vZ,kP]
 by_cases h3:x=110
 ·simp only[↓vS,vT,simprocAttr,h1,h2,h3];simp[vZ,kP]
 by_cases h4:x=161
 ·simp only[↓vS,vT,simprocAttr,h1,h2,h3,h4];simp[vZ,kP]
 ·simp only[↓vS,vT,simprocAttr,h1,h2,h3,h4];simp[vZ,kP,h1,h2,h3,h4]
end Go.Kc
end
section
/- What the document's functions of stage 17 answer. Condition: the functions' texts are these. -/
namespace Go.Kc
variable {P:Program} {f:Nat}
def kp(a:Nat):IFn:=⟨[.tmp 4],.seq (.r [.q 2 (.box (.t 0)),.q 3 (.box (.t 1)),.m 4 .F]) (.seq (.seq (.r [.f 7 0 2,.d 8 7,.e 9 8,.f 10 0 3,.d 11 10,.e 12 11,.b 13 .neq 9 12,.n 14 13,.h 15 6 2 14 false,.j 16 15 14 false,.g 17 (.len false (.t 16)) 14 false,.h 18 6 3 14 false,.j 19 18 14 false,.g 20 (.len false (.t 19)) 14 false,.g 21 (.bin .neq (.t 17) (.t 20)) 14 false,.o 22 14 21]) (.cond (.t 22) (.seq (.r [.m 4 .F]) (.ret)) (.skip))) (.seq (.seq (.r [.m 5 (.k 0)]) (.blk 0 (.loop (.seq (.seq (.r [.n 23 5,.f 24 0 2,.d 25 24,.e 26 25,.s 27 23 26]) (.cond (.t 27) (.skip) (.exit 0))) (.seq (.blk 1 (.seq (.reg true [.f 30 0 2,.d 31 30,.n 32 5,.i 33 1 31 32,.d 34 33,.f 35 0 3,.d 36 35,.n 37 5,.i 38 1 36 37,.d 39 38,.b 40 .neq 34 39]) (.cond (.t 40) (.seq (.r [.m 4 .F]) (.ret)) (.skip)))) (.r [.n 28 5,.a 29 28 1,.n 5 29])))))) (.seq (.seq (.r [.m 6 (.k 0)]) (.blk 2 (.loop (.seq (.seq (.r [.n 41 6,.f 42 6 2,.d 43 42,.e 44 43,.s 45 41 44]) (.cond (.t 45) (.skip) (.exit 2))) (.seq (.blk 3 (.seq (.reg true [.f 48 6 2,.d 49 48,.n 50 6,.i 51 1 49 50,.d 52 51,.f 53 6 3,.d 54 53,.n 55 6,.i 56 1 54 55,.d 57 56,.b 58 .neq 52 57]) (.cond (.t 58) (.seq (.r [.m 4 .F]) (.ret)) (.skip)))) (.r [.n 46 6,.a 47 46 1,.n 6 47])))))) (.seq (.r [.f 59 1 2,.v 60 2 59,.f 61 1 3,.v 62 2 61,.l 63 a [.t 60,.t 62],.n 64 63,.h 65 4 2 64 true,.g 66 (.loadN 2 (.t 65)) 64 true,.h 67 4 3 64 true,.g 68 (.loadN 2 (.t 67)) 64 true,⟨(some 69),.callF a [.t 66,.t 68],(some (64,true))⟩,.p 70 64 69,.n 71 70,.h 72 3 2 71 true,.j 73 72 71 true,.h 74 3 3 71 true,.j 75 74 71 true,.g 76 (.bin .eql (.t 73) (.t 75)) 71 true,.p 77 71 76,.n 78 77,.h 79 7 2 78 true,.j 80 79 78 true,.h 81 7 3 78 true,.j 82 81 78 true,.g 83 (.bin .eql (.t 80) (.t 82)) 78 true,.p 84 78 83,.n 85 84,.h 86 8 2 85 true,.j 87 86 85 true,.h 88 8 3 85 true,.j 89 88 85 true,.g 90 (.bin .eql (.t 87) (.t 89)) 85 true,.p 91 85 90,.n 92 91,.h 93 9 2 92 true,.j 94 93 92 true,.h 95 9 3 92 true,.j 96 95 92 true,.g 97 (.eqB false (.t 94) (.t 96)) 92 true,.p 98 92 97,.n 99 98,.h 100 10 2 99 true,.j 101 100 99 true,.h 102 10 3 99 true,.j 103 102 99 true,.g 104 (.eqB false (.t 101) (.t 103)) 99 true,.p 105 99 104,.n 106 105,.h 107 11 2 106 true,.j 108 107 106 true,.h 109 11 3 106 true,.j 110 109 106 true,.g 111 (.eqB false (.t 108) (.t 110)) 106 true,.p 112 106 111,.n 113 112,.h 114 12 2 113 true,.j 115 114 113 true,.h 116 12 3 113 true,.j 117 116 113 true,.g 118 (.eqB false (.t 115) (.t 117)) 113 true,.p 119 113 118,.n 4 119]) (.ret)))))⟩
set_option maxRecDepth 8000 in
theorem qtA{g:Nat}(hc:qk P f (kp g)=true)(hg:qnK P g)(p:Pol)(hp:PolOk p):qd P f [.agg (qi p),.agg (qi p)] (.b true):=by
 have ha:=hp.a;have hf:=hp.f;have hcc:=hp.c;have hll:=hp.l;refine qd.mk hc rfl ?_;simp only[kp,qi,vI,simprocAttr];simp (decide:=true) only [↓vS,vT,simprocAttr];refine SL.loop (α:=Nat) (fun j=>[(2,.ptr 0 0),(3,.ptr 1 0),(5,.i .i64 j)]) (fun _=>[.cells 0 true false (qi p),.cells 0 true false (qi p)]) (fun j=>j<=p.arches.length) (fun j=>p.arches.length-j) 0 [0,1] ?_ ?_ ?_ rfl ?_ ?_
 ·simp[vw]
 ·simp[vw,qi]
 ·simp
 ·exact Nat.zero_le _
 rintro j hj G ih;simp only[vI,simprocAttr,qi]
 by_cases hlt:j<p.arches.length
 ·have hx:p.arches[j]?=some p.arches[j]:=List.getElem?_eq_getElem hlt;have hw:IntKind.wrap .i64 ((j:Int)+1)=((j+1:Nat):Int):=by rw[qq (by omega) (by omega)];omega
  simp only[↓vS,vT,simprocAttr,hlt];refine qW ?_;simp (decide:=true) only [↓vS,vT,simprocAttr,hlt,Nat.mul_one,xa,hx,Option.map_some,hw,ne_eq,not_true_eq_false];refine ih (j+1) (by omega) (by omega) _ _ (Wk.mk _ _ [0,1] ?_ ?_ ?_ rfl)
  ·simp[vw]
  ·simp[vw,qi]
  ·simp
 simp only[↓vS,vT,simprocAttr,hlt];clear ih;refine SL.loop (α:=Nat) (fun j=>[(2,.ptr 0 0),(3,.ptr 1 0),(6,.i .i64 j)]) (fun _=>[.cells 0 true false (qi p),.cells 0 true false (qi p)]) (fun j=>j<=p.fams.length) (fun j=>p.fams.length-j) 0 [0,1] ?_ ?_ ?_ rfl ?_ ?_
 ·simp[vw]
 ·simp[vw,qi]
 ·simp
 ·exact Nat.zero_le _
 rintro j hj G ih;simp only[vI,simprocAttr,qi]
 by_cases hlt:j<p.fams.length
 ·have hx:p.fams[j]?=some p.fams[j]:=List.getElem?_eq_getElem hlt;have hw:IntKind.wrap .i64 ((j:Int)+1)=((j+1:Nat):Int):=by rw[qq (by omega) (by omega)];omega
  simp only[↓vS,vT,simprocAttr,hlt];refine qW ?_;simp (decide:=true) only [↓vS,vT,simprocAttr,hlt,Nat.mul_one,xa,hx,Option.map_some,hw,ne_eq,not_true_eq_false];refine ih (j+1) (by omega) (by omega) _ _ (Wk.mk _ _ [0,1] ?_ ?_ ?_ rfl)
  ·simp[vw]
  ·simp[vw,qi]
  ·simp
 simp only[↓vS,vT,simprocAttr,hlt];refine (hg p.filter (by omega)).sc ?_;simp only[↓vS,vT,simprocAttr];refine (hg p.log (by omega)).sc ?_;simp (decide:=true) only [↓vS,vT,simprocAttr,beq_self_eq_true];simp[vZ]
def vN:IFn:=⟨[.tmp 2],.seq (.r [.m 2 (.c (.s []))]) (.seq (.seq (.r [.n 3 0,.q 4 (.len true (.t 3)),.w 5 .gtr 4 60]) (.cond (.t 5) (.seq (.r [.n 6 0,.q 7 (.slcStr (.t 6) none (some (.k 60))),.n 2 7]) (.ret)) (.skip))) (.seq (.r [.n 8 0,.n 2 8]) (.ret)))⟩
theorem qsM(hc:qk P f vN=true)(s:List UInt8):qd P f [.s s] (.s (s.take 60)):=by
 refine qd.mk hc rfl ?_;simp only[vN,vI,simprocAttr]
 by_cases h60:(60:Int)<s.length
 ·have h1:60<=s.length:=by omega
  simp only[↓vS,vT,simprocAttr,h60,h1,List.drop_zero];simp[vZ]
 ·have h1:s.take 60=s:=List.take_of_length_le (by omega);simp only[↓vS,vT,simprocAttr,h60,h1];simp[vZ]
def w5:IFn:=⟨[.tmp 4],.seq (.r [.q 3 (.box (.t 1)),.m 4 .N]) (.seq (.r [.m 5 .N]) (.seq (.seq (.r [.m 6 (.k 0)]) (.blk 0 (.loop (.seq (.seq (.r [.n 7 6,.n 8 0,.e 9 8,.s 10 7 9]) (.cond (.t 10) (.skip) (.exit 0))) (.seq (.blk 1 (.reg true [.n 13 5,.f 14 0 3,.d 15 14,.f 16 1 3,.d 17 16,.n 18 0,.n 19 6,.i 20 4 18 19,.f 21 2 20,.d 22 21,.n 23 0,.n 24 6,.i 25 4 23 24,.f 26 3 25,.d 27 26,.q 28 (.build [.s [],.i .i64 0,.i .i64 0,.s []] [(0,1,(.t 15)),(1,1,(.t 17)),(2,1,(.t 22)),(3,1,(.t 27))]),.q 29 (.buildS 1 [.s [],.i .i64 0,.i .i64 0,.s []] [(0,4,(.t 28))]),.q 30 (.app 4 48 true (.t 13) (.t 29)),.n 5 30])) (.r [.n 11 6,.a 12 11 1,.n 6 12])))))) (.seq (.r [.n 31 5,.n 4 31]) (.ret))))⟩
def qck(P:Program)(f:Nat):Prop:=∀(l:List GNote) (a:Asg),l.length<=100000->qd P f [.fz l.length (rN l),.agg (qF a)] (.fz l.length (rN (l.map (z0 a))))
theorem qr5(hc:qk P f w5=true):qck P f:=by
 intro l a hl;refine qd.mk hc (by simp[qx,clo,qb,qF]) ?_;simp only[w5,qF,vI,simprocAttr];simp only[↓vS,vT,simprocAttr];refine SL.loop (α:=Nat) (fun j=>[(0,.fz l.length (rN l)),(3,.ptr 0 0),(5,.own 1 ((l.take j).map (z0 a)).length),(6,.i .i64 j)]) (fun j=>[.cells 0 true false (qF a),.cells 4 true true (rN ((l.take j).map (z0 a)))]) (fun j=>j<=l.length) (fun j=>l.length-j) 0 [0,1] ?_ ?_ ?_ rfl ?_ ?_
 ·simp[vw,qb]
 ·simp[vw,qF,vh]
 ·simp
 ·exact Nat.zero_le _
 rintro j hj G ih;simp only[vI,simprocAttr,qF]
 by_cases hlt:j<l.length
 ·have hx:l[j]?=some l[j]:=List.getElem?_eq_getElem hlt;have hw:IntKind.wrap .i64 ((j:Int)+1)=((j+1:Nat):Int):=by rw[qq (by omega) (by omega)];omega
  have g2:(rN l)[j*4+2]?=some (.i .i64 l[j].err):=qer hx (i:=2) (by decide);have g3:(rN l)[j*4+3]?=some (.s l[j].text):=qer hx (i:=3) (by decide);have hm:(l.take (j+1)).map (z0 a)=(l.take j).map (z0 a)++[z0 a l[j]]:=by rw[List.take_add_one,hx,List.map_append];rfl
  have hml:((l.take j).map (z0 a)).length=j:=by simp;omega
  have hr1:((l.take j).map (z0 a)).length+1<=qf:=by simp only[qf];omega
  have hr2:(((l.take j).map (z0 a)).length+1)*48<=qf:=by simp only[qf];omega
  have ih2:=ih (j+1);rw[hm] at ih2;generalize (l.take j).map (z0 a)=M at hr1 hr2 ih2;simp only[↓vS,vT,simprocAttr,hlt];refine qW ?_;simp (decide:=true) only [↓vS,vT,simprocAttr,hlt,g2,g3,hr1,hr2,hw,jq];refine ih2 (by omega) (by omega) _ _ (Wk.mk _ _ [0,3] ?_ ?_ ?_ rfl)
  ·simp[vw,qb]
  ·have e:rN M++[AV.s a.file,.i .i64 a.line,.i .i64 l[j].err,.s l[j].text]=rN (M++[z0 a l[j]]):=by rw[← yd];rfl
   simp[vw,qF,qa,qb,e]
  ·simp
 ·simp only[↓vS,vT,simprocAttr,hlt];rw[List.take_of_length_le (by omega)];simp[vZ,vP,Tr.get_set,qn qb]
  try (intro h0;rw[h0];rfl)
def jm(a b c d:Nat):ICode:=.seq (.reg true [.v 51 13 2,.n 52 6,.v 53 5 3,.l 54 d [.t 52,.t 53],.u (.store 13 (.t 4) (.t 51)),.n 5 54]) (.ret)
def kL(a b c d:Nat):IFn:=⟨[.cell 4 13 true,.tmp 5],.seq (.r [.q 2 (.box (.t 0)),.q 3 (.box (.t 1)),.q 4 (.alloc [.nils,.i .u8 0,.nils,.i .u32 0,.i .u8 0,.nils,.nils,.i .u8 0,.i .u64 0,.b false,.b false,.b false,.b false]),.m 5 .N]) (.seq (.r [.m 6 .N]) (.seq (.seq (.r [.f 9 3 3,.d 10 9]) (.blk 0 (.seq (.r [.q 12 (.bin .eql (.t 10) (.c (.s [83,121,115,116,101,109,67,97,108,108,70,105,108,116,101,114]))),.n 11 12]) (.cond (.t 11) (.r [.f 14 1 2,.v 15 2 14,.f 16 4 3,.d 17 16,.l 18 a [.t 15,.t 17,.T],.n 13 18,.x 19 13 0,.x 20 13 1,.f 21 1 2,.u (.store 2 (.t 21) (.t 19)),.n 6 20]) (.seq (.r [.q 23 (.bin .eql (.t 10) (.c (.s [83,121,115,116,101,109,67,97,108,108,76,111,103]))),.n 22 23]) (.cond (.t 22) (.r [.f 25 4 2,.v 26 2 25,.f 27 4 3,.d 28 27,.l 29 a [.t 26,.t 28,.F],.n 24 29,.x 30 24 0,.x 31 24 1,.f 32 4 2,.u (.store 2 (.t 32) (.t 30)),.n 6 31]) (.seq (.r [.q 34 (.bin .eql (.t 10) (.c (.s [83,121,115,116,101,109,67,97,108,108,69,114,114,111,114,78,117,109,98,101,114]))),.n 33 34]) (.cond (.t 33) (.seq (.r [.f 36 4 3,.d 37 36,.l 38 b [.t 37],.n 35 38,.x 39 35 0,.x 40 35 1,.n 7 39,.n 8 40]) (.seq (.r [.n 41 8,.w 42 .eql 41 0]) (.cond (.t 42) (.r [.n 43 7,.f 44 3 2,.u (.store 1 (.t 44) (.t 43))]) (.r [.n 45 8,.f 46 4 3,.d 47 46,.l 48 c [.t 47],.q 49 (.build [.s [],.i .i64 0,.i .i64 0,.s []] [(2,1,(.t 45)),(3,1,(.t 48))]),.q 50 (.buildS 1 [.s [],.i .i64 0,.i .i64 0,.s []] [(0,4,(.t 49))]),.n 6 50])))) (.skip))))))))) (.cut (jm a b c d))))⟩
def qmG(E:List UInt8->List (List UInt8)×Int)(P:Program)(f:Nat):Prop:=∀(p:Pol) (a:Asg),PolOk p->0<=p.filter.mode∧0<=p.log.mode->Rng p.filter.calls->Rng p.log.calls->a.val.length<=1000->
 qd P f [.agg (qi p),.agg (qF a)] (.tup [.agg (qi (jw E p a.key a.val).1),.fz (jw E p a.key a.val).2.length (rN ((jw E p a.key a.val).2.map (z0 a)))])
theorem XN{g1 g2 g3 g4:Nat}(h4:qck P g4)(p:Pol)(a:Asg)(ns:List GNote)(hn:ns.length<=100000) :
  S P 0 (jm g1 g2 g3 g4) (xg [.cell 4 13 true,.tmp 5] fun v' h'=>Frz h' v' (.tup [.agg (qi p),.fz ns.length (rN (ns.map (z0 a)))]))
   (mkT [(2,.ptr 0 0),(3,.ptr 1 0),(4,.ptr 2 0),(6,.fz ns.length (rN ns))]) (mkH 0 [.cells 0 true false (qi p),.cells 0 true false (qF a),.cells 0 true false (qi vg)]):=by
 refine qr ?_;simp only[jm,qi,qF,vI,simprocAttr];simp only[↓vS,vT,simprocAttr];refine qW ?_;simp (decide:=true) only [↓vS,vT,simprocAttr];refine (h4 ns a hn).pc ?_;simp (decide:=true) only [↓vS,vT,simprocAttr];simp[vZ]
set_option maxRecDepth 8000 in
theorem qtU{g1 g2 g3 g4:Nat}{E:List UInt8->List (List UInt8)×Int}(hc:qk P f (kL g1 g2 g3 g4)=true)(h1:qhG E P g1)(h2:qbL P g2)(h3:∀s,qd P g3 [.s s] (.s (s.take 60)))(h4:qck P g4):qmG E P f:=by
 intro p a hp hm hr1 hr2 hv;have hpc:=hp.c;have hpl:=hp.l;refine qd.mk hc rfl ?_;generalize hT:AV.tup [.agg (qi (jw E p a.key a.val).1),.fz (jw E p a.key a.val).2.length (rN ((jw E p a.key a.val).2.map (z0 a)))]=tgt;simp only[kL,qi,qF,vI,simprocAttr];subst hT
 by_cases n0:a.key=kv
 ·have hM:jw E p a.key a.val=({ p with filter:=(zm E p.filter a.val true).1 },(zm E p.filter a.val true).2):=by unfold jw;rw[if_pos n0]
  rw[hM];have hlen:=Qa (E:=E) p.filter a.val true;simp (decide:=true) only [↓vS,vT,simprocAttr,n0,kv];refine (h1 p.filter a.val true (by omega) hv hm.1 hr1).sc ?_;simp (decide:=true) only [↓vS,vT,simprocAttr,qj];refine S.weak (Wk.mk _ _ [0,1,2] ?_ ?_ ?_ rfl) (XN h4 { p with filter:=(zm E p.filter a.val true).1 } a (zm E p.filter a.val true).2 (by omega))
  ·simp[vw,qb]
  ·simp[vw,qi,qF,vg,qa,JU];exact⟨n0.symm,rfl,rfl⟩
  ·simp
 by_cases n1:a.key=qaZ
 ·have hM:jw E p a.key a.val=({ p with log:=(zm E p.log a.val false).1 },(zm E p.log a.val false).2):=by unfold jw;rw[if_neg n0,if_pos n1]
  rw[hM];have hlen:=Qa (E:=E) p.log a.val false;simp (decide:=true) only [↓vS,vT,simprocAttr,n1,qaZ];refine (h1 p.log a.val false (by omega) hv hm.2 hr2).sc ?_;simp (decide:=true) only [↓vS,vT,simprocAttr,qj];refine S.weak (Wk.mk _ _ [0,1,2] ?_ ?_ ?_ rfl) (XN h4 { p with log:=(zm E p.log a.val false).1 } a (zm E p.log a.val false).2 (by omega))
  ·simp[vw,qb]
  ·simp[vw,qi,qF,vg,qa,JU];exact⟨n1.symm,rfl,rfl⟩
  ·simp
 by_cases n2:a.key=VC
 ·by_cases hz:(wC a.val).2=0
  ·have hM:jw E p a.key a.val=({ p with deny:=(wC a.val).1 },[]):=by unfold jw;rw[if_neg n0,if_neg n1,if_pos n2,if_pos hz]
   rw[hM];simp (decide:=true) only [↓vS,vT,simprocAttr,n2,VC];refine (h2 a.val (by omega)).sc ?_;simp (decide:=true) only [↓vS,vT,simprocAttr,hz];refine S.weak (Wk.mk _ _ [0,1,2] ?_ ?_ ?_ rfl) (XN h4 { p with deny:=(wC a.val).1 } a [] (by simp))
   ·simp[vw,vh]
   ·simp[vw,qi,qF,vg,qa,JU];exact⟨n2.symm,rfl,rfl⟩
   ·simp
  ·have hM:jw E p a.key a.val=(p,[zt (wC a.val).2 a.val]):=by unfold jw;rw[if_neg n0,if_neg n1,if_pos n2,if_neg hz]
   rw[hM];simp (decide:=true) only [↓vS,vT,simprocAttr,n2,VC];refine (h2 a.val (by omega)).sc ?_;simp (decide:=true) only [↓vS,vT,simprocAttr,hz];refine (h3 a.val).sc ?_;simp (decide:=true) only [↓vS,vT,simprocAttr];refine S.weak (Wk.mk [(2,.ptr 0 0),(3,.ptr 1 0),(4,.ptr 2 0),(6,.sl 3 0 1 1 false)] [.cells 0 true false (qi p),.cells 0 true false (qF a),.cells 0 true false (qi vg),.cells 0 true false (rN [zt (wC a.val).2 a.val])] [0,1,2,3] ?_ ?_ ?_ rfl) ?_
   ·simp[vw]
   ·simp[vw,qi,qF,vg,qa,JU];refine⟨n2.symm,⟨rfl,rfl⟩,?_⟩;simp[rN,wS,zt,qa,vw]
   ·simp
   refine S.weak (Wk.freeze 3 4 0 rfl (by simp[qb]) (Nat.zero_le _) (by simp)) ?_;refine S.weak (Wk.mk _ _ [0,1,2] ?_ ?_ ?_ rfl) (XN h4 p a [zt (wC a.val).2 a.val] (by simp))
   ·simp[vw,mkT,fzv,jT,rN,wS]
   ·simp[vw,mkH,trL,fzB,jT,fzv,qi,qF,vg,qa,JU]
   ·simp[mkH]
 have n0':¬a.key=[83,121,115,116,101,109,67,97,108,108,70,105,108,116,101,114]:=n0;have n1':¬a.key=[83,121,115,116,101,109,67,97,108,108,76,111,103]:=n1;have n2':¬a.key=[83,121,115,116,101,109,67,97,108,108,69,114,114,111,114,78,117,109,98,101,114]:=n2;have hM:jw E p a.key a.val=(p,[]):=by unfold jw;rw[if_neg n0,if_neg n1,if_neg n2]
 rw[hM];simp (decide:=true) only [↓vS,vT,simprocAttr,n0',n1',n2'];refine S.weak (Wk.mk _ _ [0,1,2] ?_ ?_ ?_ rfl) (XN h4 p a [] (by simp))
 ·simp[vw,vh]
 ·simp[vw,qi,qF,vg,qa,JU];exact⟨rfl,rfl⟩
 ·simp
end Go.Kc
end
section
/- What policy.May answers. Condition: the functions' texts are these. -/
namespace Go.Kc
variable {P:Program} {f:Nat}
def Va(a:Int):List UInt8:=if a<0∨6<=a then [] else (zz.getD a.toNat ([],0)).1
def Wh(a:Nat):IFn:=⟨[.tmp 2],.seq (.r [.m 2 (.c (.s []))]) (.seq (.seq (.r [.n 3 0,.w 4 .lss 3 0,.n 5 4,.z 6 0 5,.g 7 (.bin .geq (.t 6) (.k 6)) 5 false,.o 8 5 7]) (.cond (.t 8) (.seq (.r [.m 2 (.c (.s []))]) (.ret)) (.skip))) (.seq (.r [.l 9 a [],.n 10 0,.q 11 (.idxA 6 2 true (.t 9) (.t 10)),.q 12 (.fld 0 none (.t 11)),.n 2 12]) (.ret)))⟩
theorem qq8{g:Nat}(hc:qk P f (Wh g)=true)(hg:qd P g [] (.agg (zz.flatMap (zB .u32))))(a:Int):qd P f [.i .i64 a] (.s (Va a)):=by
 refine qd.mk hc rfl ?_;simp only[Wh,vI,simprocAttr]
 by_cases h1:a<0
 ·simp only[↓vS,vT,simprocAttr,h1];simp[vZ,Va,h1]
 by_cases h2:6<=a
 ·simp only[↓vS,vT,simprocAttr,h1,h2];simp[vZ,Va,h2]
 simp only[↓vS,vT,simprocAttr,h1,h2];refine hg.sc ?_;have h3:a=0∨a=1∨a=2∨a=3∨a=4∨a=5:=by omega
 rcases h3 with rfl|rfl|rfl|rfl|rfl|rfl <;>
 ·simp only[↓vS,vT,simprocAttr,zz,zB,List.flatMap_cons,List.flatMap_nil];simp[vZ,Va,zz]
theorem qhn(a:Int):(Va a≠[])↔(0<=a∧a<6):=by
 unfold Va;constructor
 ·intro h
  by_cases hh:a<0∨6<=a
  ·rw[if_pos hh] at h;exact absurd rfl h
  ·omega
 ·intro h;rw[if_neg (by omega)];have h3:a=0∨a=1∨a=2∨a=3∨a=4∨a=5:=by omega
  rcases h3 with rfl|rfl|rfl|rfl|rfl|rfl<;>decide
def zU(is:Int->Bool):Option Int->List Int->Bool
 | _,[]=>true
 | o,x::l=>is x&&(o.elim true fun b=>decide (b<x))&&zU is (some x) l
def yO:IFn:=⟨[.tmp 4],.seq (.r [.m 4 .F]) (.seq (.seq (.r [.n 7 0,.e 8 7,.m 9 (.k 0)]) (.blk 0 (.loop (.seq (.r [.s 10 9 8]) (.seq (.cond (.t 10) (.skip) (.exit 0)) (.seq (.blk 1 (.seq (.r [.n 11 9,.i 12 1 7 9,.d 13 12,.n 5 11,.n 6 13]) (.seq (.r [.n 14 1,.n 15 6,⟨(some 16),.callV (.t 14) [.t 15],none⟩,.q 17 (.un .not (.t 16)),.n 18 17,.z 19 5 18,.g 20 (.bin .gtr (.t 19) (.k 0)) 18 false,.z 21 20 18,.y 22 0 21,.y 23 5 21,.g 24 (.bin .sub (.t 23) (.k 1)) 21 true,.g 25 (.iAddrS 1 (.t 22) (.t 24)) 21 true,.j 26 25 21 true,.y 27 6 21,.g 28 (.bin .geq (.t 26) (.t 27)) 21 true,.g 29 (.pick (.t 21) (.t 28) .F) 18 false,.o 30 18 29]) (.cond (.t 30) (.seq (.r [.m 4 .F]) (.ret)) (.skip))))) (.r [.a 31 9 1,.n 9 31]))))))) (.seq (.r [.m 4 .T]) (.ret)))⟩
theorem qqC(hc:qk P f yO=true)(xs:List Int)(g:Nat)(is:Int->Bool)(hg:∀x,qd P g [.i .i64 x] (.b (is x)))(hl:xs.length<=100000):qd P f [.fz xs.length (rI .i64 xs),.fn g [] []] (.b (zU is none xs)):=by
 refine qd.mk hc (by simp[qx,clo,qe]) ?_;simp only[yO,vI,simprocAttr];simp only[↓vS,vT,simprocAttr]
 refine SL.loop (α:=Nat) (fun j=>[(0,.fz xs.length (rI .i64 xs)),(1,.fn g [] []),(7,.fz xs.length (rI .i64 xs)),(8,.i .i64 xs.length),(9,.i .i64 j)]) (fun _=>[])
  (fun j=>j<=xs.length∧zU is none xs=zU is (if j=0 then none else xs[j-1]?) (xs.drop j)) (fun j=>xs.length-j) 0 [] ?_ ?_ ?_ rfl ?_ ?_
 ·simp[vw,qe]
 ·trivial
 ·simp
 ·exact⟨Nat.zero_le _,rfl⟩
 rintro j ⟨hj,hI⟩ G ih;simp only[vI,simprocAttr]
 by_cases hlt:j<xs.length
 ·have hx:xs[j]?=some xs[j]:=List.getElem?_eq_getElem hlt;have hw:IntKind.wrap .i64 ((j:Int)+1)=((j+1:Nat):Int):=by rw[qq (by omega) (by omega)];omega
  rw[List.drop_eq_getElem_cons hlt,zU] at hI;generalize hc0:xs[j]=c at hI hx;simp only[↓vS,vT,simprocAttr,hlt,Nat.mul_one,xa,hx,Option.map_some];refine (hg c).sc ?_;cases hk:is c with
  | false =>
   have hw:zU is none xs=false:=by rw[hI];simp[hk]
   simp only[↓vS,vT,simprocAttr];simp[vZ,hw]
  | true =>
   by_cases h0:j=0
   ·subst h0;have hn:¬(0:Int)<((0:Nat):Int):=by decide
    simp only[↓vS,vT,simprocAttr,hn,hw];refine ih 1 ⟨by omega,?_⟩ (by omega) _ _ (Wk.mk _ _ [] ?_ ?_ ?_ rfl)
    ·rw[hI,hk];simp[hx]
    ·simp[vw,qe];exact qq (by decide) (by decide)
    ·trivial
    ·simp
   ·have hp:(0:Int)<(j:Int):=by omega
    have hpl:j-1<xs.length:=by omega
    have hy:xs[j-1]?=some xs[j-1]:=List.getElem?_eq_getElem hpl;have hw2:IntKind.wrap .i64 ((j:Int)-1)=((j-1:Nat):Int):=by rw[qq (by omega) (by omega)];omega
    rw[if_neg h0,hy] at hI
    by_cases hlt2:c<=xs[j-1]
    ·have hwf:zU is none xs=false:=by rw[hI];simp[Int.not_lt.2 hlt2]
     simp only[↓vS,vT,simprocAttr,hp,hw2,hpl,hy,Nat.mul_one,xa,Option.map_some,hlt2];simp[vZ,hwf]
    ·simp only[↓vS,vT,simprocAttr,hp,hw2,hpl,hy,Nat.mul_one,xa,Option.map_some,hlt2,hw];refine ih (j+1) ⟨by omega,?_⟩ (by omega) _ _ (Wk.mk _ _ [] ?_ ?_ ?_ rfl)
     ·rw[hI,hk];simp[hx];omega
     ·simp[vw,qe]
     ·trivial
     ·simp
 ·rw[List.drop_of_length_le (by omega),zU] at hI;simp only[↓vS,vT,simprocAttr,hlt];simp[vZ,hI]
def kf:IFn:=⟨[.tmp 4],.seq (.r [.m 4 .F]) (.seq (.seq (.r [.n 7 0,.e 8 7,.m 9 (.k 0)]) (.blk 0 (.loop (.seq (.r [.s 10 9 8]) (.seq (.cond (.t 10) (.skip) (.exit 0)) (.seq (.blk 1 (.seq (.r [.n 11 9,.i 12 1 7 9,.d 13 12,.n 5 11,.n 6 13]) (.seq (.r [.n 14 1,.n 15 6,⟨(some 16),.callV (.t 14) [.t 15],none⟩,.q 17 (.un .not (.t 16)),.n 18 17,.z 19 5 18,.g 20 (.bin .gtr (.t 19) (.k 0)) 18 false,.z 21 20 18,.y 22 0 21,.y 23 5 21,.g 24 (.bin .sub (.t 23) (.k 1)) 21 true,.g 25 (.iAddrS 1 (.t 22) (.t 24)) 21 true,.j 26 25 21 true,.y 27 6 21,.g 28 (.bin .geq (.t 26) (.t 27)) 21 true,.g 29 (.pick (.t 21) (.t 28) .F) 18 false,.o 30 18 29]) (.cond (.t 30) (.seq (.r [.m 4 .F]) (.ret)) (.skip))))) (.r [.a 31 9 1,.n 9 31]))))))) (.seq (.r [.m 4 .T]) (.ret)))⟩
theorem qqD(hc:qk P f kf=true)(xs:List Int)(g:Nat)(is:Int->Bool)(hg:∀x,qd P g [.i .u32 x] (.b (is x)))(hl:xs.length<=100000):qd P f [.fz xs.length (rI .u32 xs),.fn g [] []] (.b (zU is none xs)):=by
 refine qd.mk hc (by simp[qx,clo,qe]) ?_;simp only[kf,vI,simprocAttr];simp only[↓vS,vT,simprocAttr]
 refine SL.loop (α:=Nat) (fun j=>[(0,.fz xs.length (rI .u32 xs)),(1,.fn g [] []),(7,.fz xs.length (rI .u32 xs)),(8,.i .i64 xs.length),(9,.i .i64 j)]) (fun _=>[])
  (fun j=>j<=xs.length∧zU is none xs=zU is (if j=0 then none else xs[j-1]?) (xs.drop j)) (fun j=>xs.length-j) 0 [] ?_ ?_ ?_ rfl ?_ ?_
 ·simp[vw,qe]
 ·trivial
 ·simp
 ·exact⟨Nat.zero_le _,rfl⟩
 rintro j ⟨hj,hI⟩ G ih;simp only[vI,simprocAttr]
 by_cases hlt:j<xs.length
 ·have hx:xs[j]?=some xs[j]:=List.getElem?_eq_getElem hlt;have hw:IntKind.wrap .i64 ((j:Int)+1)=((j+1:Nat):Int):=by rw[qq (by omega) (by omega)];omega
  rw[List.drop_eq_getElem_cons hlt,zU] at hI;generalize hc0:xs[j]=c at hI hx;simp only[↓vS,vT,simprocAttr,hlt,Nat.mul_one,xa,hx,Option.map_some];refine (hg c).sc ?_;cases hk:is c with
  | false =>
   have hw:zU is none xs=false:=by rw[hI];simp[hk]
   simp only[↓vS,vT,simprocAttr];simp[vZ,hw]
  | true =>
   by_cases h0:j=0
   ·subst h0;have hn:¬(0:Int)<((0:Nat):Int):=by decide
    simp only[↓vS,vT,simprocAttr,hn,hw];refine ih 1 ⟨by omega,?_⟩ (by omega) _ _ (Wk.mk _ _ [] ?_ ?_ ?_ rfl)
    ·rw[hI,hk];simp[hx]
    ·simp[vw,qe];exact qq (by decide) (by decide)
    ·trivial
    ·simp
   ·have hp:(0:Int)<(j:Int):=by omega
    have hpl:j-1<xs.length:=by omega
    have hy:xs[j-1]?=some xs[j-1]:=List.getElem?_eq_getElem hpl;have hw2:IntKind.wrap .i64 ((j:Int)-1)=((j-1:Nat):Int):=by rw[qq (by omega) (by omega)];omega
    rw[if_neg h0,hy] at hI
    by_cases hlt2:c<=xs[j-1]
    ·have hwf:zU is none xs=false:=by rw[hI];simp[Int.not_lt.2 hlt2]
     simp only[↓vS,vT,simprocAttr,hp,hw2,hpl,hy,Nat.mul_one,xa,Option.map_some,hlt2];simp[vZ,hwf]
    ·simp only[↓vS,vT,simprocAttr,hp,hw2,hpl,hy,Nat.mul_one,xa,Option.map_some,hlt2,hw];refine ih (j+1) ⟨by omega,?_⟩ (by omega) _ _ (Wk.mk _ _ [] ?_ ?_ ?_ rfl)
     ·rw[hI,hk];simp[hx];omega
     ·simp[vw,qe]
     ·trivial
     ·simp
 ·rw[List.drop_of_length_le (by omega),zU] at hI;simp only[↓vS,vT,simprocAttr,hlt];simp[vZ,hI]
def QJ(n:Int):List (List UInt8×Int)->List UInt8
 | []=>[]
 | p::l=>if p.2=n then p.1 else QJ n l
def Ql:IFn:=⟨[.tmp 4],.seq (.r [.m 4 (.c (.s []))]) (.seq (.seq (.r [.n 7 0,.e 8 7,.m 9 (.k 0)]) (.blk 0 (.loop (.seq (.r [.s 10 9 8]) (.seq (.cond (.t 10) (.skip) (.exit 0)) (.seq (.blk 1 (.seq (.r [.i 11 2 7 9,.v 12 2 11,.q 6 (.alloc [.s [],.i .u32 0]),.u (.store 2 (.t 6) (.t 12))]) (.seq (.r [.f 13 1 6,.d 14 13,.n 15 1,.b 16 .eql 14 15]) (.cond (.t 16) (.seq (.r [.f 17 0 6,.d 18 17,.n 4 18]) (.ret)) (.skip))))) (.r [.a 19 9 1,.n 9 19]))))))) (.seq (.r [.m 4 (.c (.s []))]) (.ret)))⟩
theorem qtf(hc:qk P f Ql=true)(l:List (List UInt8×Int))(n:Int)(hl:l.length<=qf):qd P f [.fz l.length (l.flatMap (zB .u32)),.i .u32 n] (.s (QJ n l)):=by
 refine qd.mk hc (by simp[qx,clo]) ?_;simp only[Ql,vI,simprocAttr];simp only[↓vS,vT,simprocAttr];refine SL.loop (α:=Nat) (fun j=>[(1,.i .u32 n),(7,.fz l.length (l.flatMap (zB .u32))),(8,.i .i64 l.length),(9,.i .i64 j)]) (fun _=>[]) (fun j=>j<=l.length∧QJ n l=QJ n (l.drop j)) (fun j=>l.length-j) 0 [] ?_ ?_ ?_ rfl ?_ ?_
 ·simp[vw]
 ·trivial
 ·simp
 ·simp
 rintro j ⟨hj,hI⟩ G ih;simp only[vI,simprocAttr]
 by_cases hlt:j<l.length
 ·have hx:l[j]?=some l[j]:=List.getElem?_eq_getElem hlt;have hw:IntKind.wrap .i64 ((j:Int)+1)=(j:Int)+1:=qq (by omega) (by have:=hl;simp only[qf] at this;omega)
  have he:=xJ (f:=zB .u32) (m:=2) ky hx;have hb:j*2+2<=(l.flatMap (zB .u32)).length:=by rw[zX (m:=2) ky];omega
  rw[List.drop_eq_getElem_cons hlt,QJ] at hI;simp only[↓vS,vT,simprocAttr,hlt,hb,he,zB,hw];split
  ·rename_i hs;rw[hI,if_pos hs];simp only[vZ,and_self,true_and]
  ·rename_i hs;rw[if_neg hs] at hI;refine ih (j+1) ⟨by omega,hI⟩ (by omega) _ _ (Wk.mk _ _ [] ?_ ?_ ?_ rfl)
   ·simp[vw]
   ·trivial
   ·simp
 ·simp only[↓vS,vT,simprocAttr,hlt,vZ];rw[List.drop_eq_nil_of_le (by omega),QJ] at hI;rw[hI]
def yN(a b:Nat):IFn:=⟨[.tmp 2],.seq (.r [.m 2 (.c (.s []))]) (.seq (.r [.l 4 a [],.q 3 (.alloc [.s [],.i .u32 0,.s [],.i .u32 0,.s [],.i .u32 0,.s [],.i .u32 0,.s [],.i .u32 0,.s [],.i .u32 0,.s [],.i .u32 0,.s [],.i .u32 0]),.u (.store 16 (.t 3) (.t 4))]) (.seq (.r [.q 5 (.slcA 8 2 (.t 3) none none none),.n 6 0,.l 7 b [.t 5,.t 6],.n 2 7]) (.ret)))⟩
theorem qoc{g1 g2:Nat}(hc:qk P f (yN g1 g2)=true)(h1:qd P g1 [] (.agg (qu.flatMap (zB .u32))))(h2:∀(l:List (List UInt8×Int)) (n:Int),l.length<=qf->qd P g2 [.fz l.length (l.flatMap (zB .u32)),.i .u32 n] (.s (QJ n l)))(n:Int):qd P f [.i .u32 n] (.s (QJ n qu)):=by
 refine qd.mk hc rfl ?_;simp only[yN,vI,simprocAttr];simp only[↓vS,vT,simprocAttr];refine h1.sc ?_;simp only[↓vS,vT,simprocAttr,qu,zB,List.flatMap_cons,List.flatMap_nil];refine (h2 qu n (by decide)).lend (vs':=[.fz 8 (qu.flatMap (zB .u32)),.i .u32 n]) ?_ rfl ?_
 ·refine .cons _ _ _ _ (.cut 2 rfl (Nat.le_refl _) ?_) (.cons _ _ _ _ (.i _ _) .nil);simp[vw,qu,zB]
 simp only[↓vS,vT,simprocAttr,vZ,and_self,qu]
def Z4:IFn:=⟨[.tmp 2],.seq (.r [.q 1 (.box (.t 0)),.m 2 .F]) (.seq (.r [.f 3 1 1,.d 4 3,.q 5 (.bin .neq (.t 4) (.c (.i .u32 0))),.n 2 5]) (.ret))⟩
theorem qtM(hc:qk P f Z4=true)(c:GCall):qd P f [.agg (js c)] (.b (decide (c.act≠0))):=by
 refine qd.mk hc rfl ?_;simp only[Z4,js,vI,simprocAttr]
 by_cases h:c.act=0 <;>
 ·simp only[↓vS,vT,simprocAttr,h];simp[vZ,h]
def Z5(a:Nat):IFn:=⟨[.tmp 2],.seq (.r [.m 2 .F]) (.seq (.r [.n 3 0,.l 4 a [.t 3],.q 5 (.bin .neq (.t 4) (.c (.s []))),.n 2 5]) (.ret))⟩
theorem qtN{g:Nat}(hc:qk P f (Z5 g)=true)(hg:∀a,qd P g [.i .i64 a] (.s (Va a)))(a:Int):qd P f [.i .i64 a] (.b (decide (0<=a)&&decide (a<6))):=by
 refine qd.mk hc rfl ?_;simp only[Z5,vI,simprocAttr];simp only[↓vS,vT,simprocAttr];refine (hg a).sc ?_;have h:=qhn a
 by_cases h':Va a=[]
 ·have h2:(decide (0<=a)&&decide (a<6))=false:=by
   have:=mt h.2 (by simpa using h');simp only[Bool.and_eq_false_iff,decide_eq_false_iff_not];omega
  simp only[↓vS,vT,simprocAttr,h'];simp[vZ,h2]
 ·have h2:=h.1 h';simp only[↓vS,vT,simprocAttr,h'];simp[vZ,h2]
def Jc(n:Int):Bool:=decide (QJ n qu≠[])
def Z6(a:Nat):IFn:=⟨[.tmp 2],.seq (.r [.m 2 .F]) (.seq (.r [.n 3 0,.l 4 a [.t 3],.q 5 (.bin .neq (.t 4) (.c (.s []))),.n 2 5]) (.ret))⟩
theorem qtO{g:Nat}(hc:qk P f (Z6 g)=true)(hg:∀a,qd P g [.i .u32 a] (.s (QJ a qu)))(a:Int):qd P f [.i .u32 a] (.b (Jc a)):=by
 refine qd.mk hc rfl ?_;simp only[Z6,vI,simprocAttr];simp only[↓vS,vT,simprocAttr];refine (hg a).sc ?_;unfold Jc;generalize QJ a qu=s
 by_cases h':s=[] <;>
 ·simp only[↓vS,vT,simprocAttr,h'];simp[vZ,h']
def z6(a:Nat):IFn:=⟨[.tmp 4],.seq (.r [.m 4 .F]) (.seq (.r [.n 5 0,.n 6 1,.l 7 a [.t 5,.t 6],.w 8 .geq 7 0,.n 4 8]) (.ret))⟩
theorem qaU{α:Type}(p:α->Bool):∀(l:List α) (j:Nat),decide (0<=jc p l j)=l.any p
 | [],j=>by simp[jc]
 | x::l,j=>by
  rw[jc]
  by_cases h:p x=true
  ·simp[h]
  ·rw[if_neg h,qaU p l (j+1)];simp[h]
theorem qhX{g:Nat}(hc:qk P f (z6 g)=true)(h:Zv 2 P g)(l:List GCall)(k:Nat)(p:GCall->Bool)(hk:∀c,qd P k [.agg (js c)] (.b (p c)))(hl:l.length<=qf):qd P f [.fz l.length (rC l),.fn k [] []] (.b (l.any p)):=by
 refine qd.mk hc (by simp[qx,clo,qc]) ?_;simp only[z6,vI,simprocAttr];simp only[↓vS,vT,simprocAttr];refine (h js p k [] [] l kS rfl rfl hl fun x _=>hk x).sc ?_
 simp only[↓vS,vT,simprocAttr];simp[vZ,← qaU p l 0]
def ya(a b c d e g h i:Nat):ICode:=.seq (.reg true [.n 46 3,.n 47 46,.y 48 4 47,.p 49 47 48,.n 50 49,.y 51 5 50,.p 52 50 51,.n 53 52,.y 54 6 53,.p 55 53 54,.n 56 55,.y 57 7 56,.p 58 56 57,.n 59 58,.h 60 1 1 59 true,.g 61 (.loadN 2 (.t 60)) 59 true,⟨(some 62),.callF h [.t 61],(some (59,true))⟩,.p 63 59 62,.n 64 63,.h 65 4 1 64 true,.g 66 (.loadN 2 (.t 65)) 64 true,⟨(some 67),.callF h [.t 66],(some (64,true))⟩,.p 68 64 67,.n 69 68,.h 70 8 1 69 true,.j 71 70 69 true,⟨(some 72),.callF i [],(some (69,true))⟩,.g 73 (.bin .andNot (.t 71) (.t 72)) 69 true,.g 74 (.bin .eql (.t 73) (.c (.i .u64 0))) 69 true,.p 75 69 74,.n 2 75]) (.ret)
def wG(a b c d e g h i:Nat):ICode:=.seq (.r [.f 40 0 1,.d 41 40,.l 42 c [.t 41,(.c (.fn d [] []))],.n 6 42]) (.seq (.r [.f 43 6 1,.d 44 43,.l 45 e [.t 44,(.c (.fn g [] []))],.n 7 45]) (.cut (ya a b c d e g h i)))
def wF(a b c d e g h i:Nat):ICode:=.seq (.r [.f 26 7 1,.d 27 26,.q 28 (.bin .leq (.t 27) (.c (.i .u8 2))),.n 29 28,.h 30 7 1 29 true,.j 31 30 29 true,.g 32 (.bin .neq (.t 31) (.c (.i .u8 0))) 29 true,.y 33 32 29,.h 34 6 1 33 false,.j 35 34 33 false,.g 36 (.len false (.t 35)) 33 false,.g 37 (.bin .eql (.t 36) (.k 0)) 33 false,.g 38 (.pick (.t 33) .T (.t 37)) 29 true,.p 39 29 38,.n 5 39]) (.cut (wG a b c d e g h i))
def Js(a b c d e g h i:Nat):IFn:=⟨[.tmp 2],.seq (.r [.q 1 (.box (.t 0)),.m 2 .F]) (.seq (.r [.f 8 4 1,.f 9 1 8,.d 10 9,.l 11 a [.t 10,(.c (.fn b [] []))],.q 12 (.un .not (.t 11)),.n 3 12]) (.seq (.r [.f 13 3 1,.d 14 13,.q 15 (.bin .eql (.t 14) (.c (.i .u32 2147483648))),.n 16 15,.h 17 3 1 16 false,.j 18 17 16 false,.g 19 (.bin .geq (.t 18) (.c (.i .u32 327680))) 16 false,.z 20 19 16,.h 21 3 1 20 true,.j 22 21 20 true,.g 23 (.bin .leq (.t 22) (.c (.i .u32 331775))) 20 true,.g 24 (.pick (.t 20) (.t 23) .F) 16 false,.o 25 16 24,.n 4 25]) (.cut (wF a b c d e g h i))))⟩
noncomputable def QG(p:Pol):Bool:=zp p.filter&&zp p.log&&decide (Qe .u64 p.spaces 2114060416=0)
theorem qlD{g1 g2 g3 g4 g5 g6 g7 g8:Nat}(h7:∀l:GList,l.calls.length<=100000->qd P g7 [.agg (qj l)] (.b (zp l)))
  (h8:qd P g8 [] (.i .u64 2114060416)) (p:Pol) (hp:PolOk p) (o d m a fm:Bool) {t':Tr AV} {h':Hp} (hw:Wk 0 t' h' (mkT [(1,.ptr 0 0),(2,.b false),(3,.b o),(4,.b d),(5,.b m),(6,.b a),(7,.b fm)]) (mkH 0 [.cells 0 true false (qi p)])) :
  S P 0 (ya g1 g2 g3 g4 g5 g6 g7 g8) (xg [.tmp 2] fun v' h'=>Frz h' v' (.b (o&&d&&m&&a&&fm&&QG p))) t' h':=by
 have hcc:=hp.c;have hl:=hp.l;refine S.weak hw (qr ?_);simp only[ya,qi,vI,simprocAttr];simp only[↓vS,vT,simprocAttr];refine qW ?_;cases o
 ·simp only[↓vS,vT,simprocAttr];simp[vZ]
 cases d
 ·simp only[↓vS,vT,simprocAttr];simp[vZ]
 cases m
 ·simp only[↓vS,vT,simprocAttr];simp[vZ]
 cases a
 ·simp only[↓vS,vT,simprocAttr];simp[vZ]
 cases fm
 ·simp only[↓vS,vT,simprocAttr];simp[vZ]
 simp only[↓vS,vT,simprocAttr];refine (h7 p.filter (by omega)).pc ?_;cases hF:zp p.filter
 ·simp only[↓vS,vT,simprocAttr];simp[vZ,QG,hF]
 simp only[↓vS,vT,simprocAttr];refine (h7 p.log (by omega)).pc ?_;cases hL:zp p.log
 ·simp only[↓vS,vT,simprocAttr];simp[vZ,QG,hF,hL]
 simp only[↓vS,vT,simprocAttr];refine h8.pc ?_;simp only[↓vS,vT,simprocAttr];simp[vZ,QG,hF,hL]
theorem qlC{g1 g2 g3 g4 g5 g6 g7 g8:Nat}(h3:∀(xs:List Int) (g:Nat) (is:Int->Bool),(∀x,qd P g [.i .i64 x] (.b (is x)))->xs.length<=100000->qd P g3 [.fz xs.length (rI .i64 xs),.fn g [] []] (.b (zU is none xs)))
  (h4:∀a,qd P g4 [.i .i64 a] (.b (decide (0<=a)&&decide (a<6))))
  (h5:∀(xs:List Int) (g:Nat) (is:Int->Bool),(∀x,qd P g [.i .u32 x] (.b (is x)))->xs.length<=100000->qd P g5 [.fz xs.length (rI .u32 xs),.fn g [] []] (.b (zU is none xs)))
  (h6:∀a,qd P g6 [.i .u32 a] (.b (Jc a)))
  (h7:∀l:GList,l.calls.length<=100000->qd P g7 [.agg (qj l)] (.b (zp l)))
  (h8:qd P g8 [] (.i .u64 2114060416)) (p:Pol) (hp:PolOk p) (o d m:Bool) {t':Tr AV} {h':Hp} (hw:Wk 0 t' h' (mkT [(1,.ptr 0 0),(2,.b false),(3,.b o),(4,.b d),(5,.b m)]) (mkH 0 [.cells 0 true false (qi p)])) :
  S P 0 (wG g1 g2 g3 g4 g5 g6 g7 g8) (xg [.tmp 2] fun v' h'=>Frz h' v' (.b (o&&d&&m&&zU (fun a=>decide (0<=a)&&decide (a<6)) none p.arches&&zU Jc none p.fams&&QG p))) t' h':=by
 have ha:=hp.a;have hf:=hp.f;refine S.weak hw (qr ?_);simp only[wG,qi,vI,simprocAttr];simp only[↓vS,vT,simprocAttr];refine (h3 p.arches g4 _ h4 (by omega)).sc ?_;simp only[↓vS,vT,simprocAttr];refine (h5 p.fams g6 _ h6 (by omega)).sc ?_;simp only[↓vS,vT,simprocAttr];refine qlD h7 h8 p hp o d m _ _ (Wk.mk _ _ [0] ?_ ?_ ?_ rfl)
 ·simp[vw]
 ·simp[vw,qi,qe,qc]
 ·simp
def Vw(p:Pol):Bool:=decide (p.fmode<=2)&&(decide (p.fmode≠0)||decide (p.fams=[]))
theorem qlB{g1 g2 g3 g4 g5 g6 g7 g8:Nat}(h3:∀(xs:List Int) (g:Nat) (is:Int->Bool),(∀x,qd P g [.i .i64 x] (.b (is x)))->xs.length<=100000->qd P g3 [.fz xs.length (rI .i64 xs),.fn g [] []] (.b (zU is none xs)))
  (h4:∀a,qd P g4 [.i .i64 a] (.b (decide (0<=a)&&decide (a<6))))
  (h5:∀(xs:List Int) (g:Nat) (is:Int->Bool),(∀x,qd P g [.i .u32 x] (.b (is x)))->xs.length<=100000->qd P g5 [.fz xs.length (rI .u32 xs),.fn g [] []] (.b (zU is none xs)))
  (h6:∀a,qd P g6 [.i .u32 a] (.b (Jc a)))
  (h7:∀l:GList,l.calls.length<=100000->qd P g7 [.agg (qj l)] (.b (zp l)))
  (h8:qd P g8 [] (.i .u64 2114060416)) (p:Pol) (hp:PolOk p) (o d:Bool) {t':Tr AV} {h':Hp} (hw:Wk 0 t' h' (mkT [(1,.ptr 0 0),(2,.b false),(3,.b o),(4,.b d)]) (mkH 0 [.cells 0 true false (qi p)])) :
  S P 0 (wF g1 g2 g3 g4 g5 g6 g7 g8) (xg [.tmp 2] fun v' h'=>Frz h' v' (.b (o&&d&&Vw p&&zU (fun a=>decide (0<=a)&&decide (a<6)) none p.arches&&zU Jc none p.fams&&QG p))) t' h':=by
 refine S.weak hw (qr ?_);simp only[wF,qi,vI,simprocAttr]
 have go:∀m,m=Vw p->∀{t':Tr AV} {h':Hp},Wk 0 t' h' (mkT [(1,.ptr 0 0),(2,.b false),(3,.b o),(4,.b d),(5,.b m)]) (mkH 0 [.cells 0 true false (qi p)])->S P 0 (wG g1 g2 g3 g4 g5 g6 g7 g8) (xg [.tmp 2] fun v' h'=>Frz h' v' (.b (o&&d&&Vw p&&zU (fun a=>decide (0<=a)&&decide (a<6)) none p.arches&&zU Jc none p.fams&&QG p))) t' h':=by
  rintro m rfl t' h' hw;exact qlC h3 h4 h5 h6 h7 h8 p hp o d _ hw
 by_cases m1:p.fmode<=2
 ·by_cases m2:p.fmode=0
  ·by_cases m3:p.fams=[]
   ·have h0:(p.fams.length:Int)=0:=by rw[m3];rfl
    simp only[↓vS,vT,simprocAttr,m1,m2,h0];refine go true (by simp[Vw,m1,m2,m3]) (Wk.mk _ _ [0] ?_ ?_ ?_ rfl)
    ·simp[vw]
    ·simp[vw,qi,qe,qc,m2]
    ·simp
   ·have h0:((p.fams.length:Int)=0)=False:=eq_false (by have:=List.length_pos_iff.2 m3;omega)
    simp only[↓vS,vT,simprocAttr,m1,m2,h0];refine go false (by simp[Vw,m1,m2,m3]) (Wk.mk _ _ [0] ?_ ?_ ?_ rfl)
    ·simp[vw]
    ·simp[vw,qi,qe,qc,m2]
    ·simp
  ·simp only[↓vS,vT,simprocAttr,m1,m2];refine go true (by simp[Vw,m1,m2]) (Wk.mk _ _ [0] ?_ ?_ ?_ rfl)
   ·simp[vw]
   ·simp[vw,qi,qe,qc]
   ·simp
 ·simp only[↓vS,vT,simprocAttr,m1];refine go false (by simp[Vw,m1]) (Wk.mk _ _ [0] ?_ ?_ ?_ rfl)
  ·simp[vw]
  ·simp[vw,qi,qe,qc]
  ·simp
def Wc(n:Int):Bool:=decide (n=2147483648)||(decide (327680<=n)&&decide (n<=331775))
noncomputable def qrQ(p:Pol):Bool:=!(p.log.calls.any fun c=>decide (c.act≠0))&&Wc p.deny&&Vw p&&zU (fun a=>decide (0<=a)&&decide (a<6)) none p.arches&&zU Jc none p.fams&&QG p
theorem qqv{g1 g2 g3 g4 g5 g6 g7 g8:Nat}(hc:qk P f (Js g1 g2 g3 g4 g5 g6 g7 g8)=true)
  (h1:∀(l:List GCall) (k:Nat) (p:GCall->Bool),(∀c,qd P k [.agg (js c)] (.b (p c)))->l.length<=qf->qd P g1 [.fz l.length (rC l),.fn k [] []] (.b (l.any p)))
  (h2:∀c,qd P g2 [.agg (js c)] (.b (decide (c.act≠0))))
  (h3:∀(xs:List Int) (g:Nat) (is:Int->Bool),(∀x,qd P g [.i .i64 x] (.b (is x)))->xs.length<=100000->qd P g3 [.fz xs.length (rI .i64 xs),.fn g [] []] (.b (zU is none xs)))
  (h4:∀a,qd P g4 [.i .i64 a] (.b (decide (0<=a)&&decide (a<6))))
  (h5:∀(xs:List Int) (g:Nat) (is:Int->Bool),(∀x,qd P g [.i .u32 x] (.b (is x)))->xs.length<=100000->qd P g5 [.fz xs.length (rI .u32 xs),.fn g [] []] (.b (zU is none xs)))
  (h6:∀a,qd P g6 [.i .u32 a] (.b (Jc a)))
  (h7:∀l:GList,l.calls.length<=100000->qd P g7 [.agg (qj l)] (.b (zp l)))
  (h8:qd P g8 [] (.i .u64 2114060416)) (p:Pol) (hp:PolOk p):qd P f [.agg (qi p)] (.b (qrQ p)):=by
 have hl:=hp.l;refine qd.mk hc rfl ?_
 have go:∀d,d=Wc p.deny->∀{t':Tr AV} {h':Hp},Wk 0 t' h' (mkT [(1,.ptr 0 0),(2,.b false),(3,.b (!(p.log.calls.any fun c=>decide (c.act≠0)))),(4,.b d)]) (mkH 0 [.cells 0 true false (qi p)])->S P 0 (wF g1 g2 g3 g4 g5 g6 g7 g8) (xg [.tmp 2] fun v' h'=>Frz h' v' (.b (qrQ p))) t' h':=by
  rintro d rfl t' h' hw;exact qlB h3 h4 h5 h6 h7 h8 p hp _ _ hw
 simp only[Js,qi,vI,simprocAttr];simp only[↓vS,vT,simprocAttr];refine (h1 p.log.calls g2 _ h2 (by simp only[qf];omega)).sc ?_
 by_cases d1:p.deny=2147483648
 ·simp only[↓vS,vT,simprocAttr,d1];refine go true (by simp[Wc,d1]) (Wk.mk _ _ [0] ?_ ?_ ?_ rfl)
  ·simp[vw]
  ·simp[vw,qi,qe,qc,d1]
  ·simp
 by_cases d2:327680<=p.deny
 ·by_cases d3:p.deny<=331775
  ·simp only[↓vS,vT,simprocAttr,d1,d2,d3];refine go true (by simp[Wc,d1,d2,d3]) (Wk.mk _ _ [0] ?_ ?_ ?_ rfl)
   ·simp[vw]
   ·simp[vw,qi,qe,qc]
   ·simp
  ·simp only[↓vS,vT,simprocAttr,d1,d2,d3];refine go false (by simp[Wc,d1,d2,d3]) (Wk.mk _ _ [0] ?_ ?_ ?_ rfl)
   ·simp[vw]
   ·simp[vw,qi,qe,qc]
   ·simp
 ·simp only[↓vS,vT,simprocAttr,d1,d2];refine go false (by simp[Wc,d1,d2]) (Wk.mk _ _ [0] ?_ ?_ ?_ rfl)
  ·simp[vw]
  ·simp[vw,qi,qe,qc]
  ·simp
end Go.Kc
end
section
/- What the document's May of a policy answers. Condition: the functions' texts are these. -/
namespace Go.Kc
variable {P:Program} {f:Nat}
def wu:IFn:=⟨[.tmp 0],.seq (.r [.m 0 .N]) (.seq (.r [.q 1 (.build [.s [],.i .u64 0] [(0,1,(.c (.s [65,70,95,85,78,73,88]))),(1,1,(.c (.i .u64 1)))]),.q 2 (.build [.s [],.i .u64 0] [(0,1,(.c (.s [65,70,95,73,78,69,84]))),(1,1,(.c (.i .u64 2)))]),.q 3 (.build [.s [],.i .u64 0] [(0,1,(.c (.s [65,70,95,73,78,69,84,54]))),(1,1,(.c (.i .u64 10)))]),.q 4 (.build [.s [],.i .u64 0] [(0,1,(.c (.s [65,70,95,78,69,84,76,73,78,75]))),(1,1,(.c (.i .u64 16)))]),.q 5 (.build [.s [],.i .u64 0] [(0,1,(.c (.s [65,70,95,80,65,67,75,69,84]))),(1,1,(.c (.i .u64 17)))]),.q 6 (.build [.s [],.i .u64 0] [(0,1,(.c (.s [65,70,95,66,76,85,69,84,79,79,84,72]))),(1,1,(.c (.i .u64 31)))]),.q 7 (.build [.s [],.i .u64 0] [(0,1,(.c (.s [65,70,95,65,76,71]))),(1,1,(.c (.i .u64 38)))]),.q 8 (.build [.s [],.i .u64 0] [(0,1,(.c (.s [65,70,95,86,83,79,67,75]))),(1,1,(.c (.i .u64 40)))]),.q 9 (.buildS 8 [.s [],.i .u64 0] [(0,2,(.t 1)),(2,2,(.t 2)),(4,2,(.t 3)),(6,2,(.t 4)),(8,2,(.t 5)),(10,2,(.t 6)),(12,2,(.t 7)),(14,2,(.t 8))]),.n 0 9]) (.ret))⟩
theorem qoa(hc:qk P f wu=true):qd P f [] (.fz 8 (qu.flatMap (zB .u64))):=by
 refine qd.mk hc rfl ?_;simp only[wu,vI,simprocAttr];simp only[↓vS,vT,simprocAttr];refine .cut 2 rfl (Nat.le_refl _) ?_;simp[vw,qu,zB]
def wX:IFn:=⟨[.tmp 0],.seq (.r [.m 0 .N]) (.seq (.r [.q 1 (.build [.s [],.i .u64 0] [(0,1,(.c (.s [116,105,109,101]))),(1,1,(.c (.i .u64 128)))]),.q 2 (.build [.s [],.i .u64 0] [(0,1,(.c (.s [109,110,116]))),(1,1,(.c (.i .u64 131072)))]),.q 3 (.build [.s [],.i .u64 0] [(0,1,(.c (.s [99,103,114,111,117,112]))),(1,1,(.c (.i .u64 33554432)))]),.q 4 (.build [.s [],.i .u64 0] [(0,1,(.c (.s [117,116,115]))),(1,1,(.c (.i .u64 67108864)))]),.q 5 (.build [.s [],.i .u64 0] [(0,1,(.c (.s [105,112,99]))),(1,1,(.c (.i .u64 134217728)))]),.q 6 (.build [.s [],.i .u64 0] [(0,1,(.c (.s [117,115,101,114]))),(1,1,(.c (.i .u64 268435456)))]),.q 7 (.build [.s [],.i .u64 0] [(0,1,(.c (.s [112,105,100]))),(1,1,(.c (.i .u64 536870912)))]),.q 8 (.build [.s [],.i .u64 0] [(0,1,(.c (.s [110,101,116]))),(1,1,(.c (.i .u64 1073741824)))]),.q 9 (.buildS 8 [.s [],.i .u64 0] [(0,2,(.t 1)),(2,2,(.t 2)),(4,2,(.t 3)),(6,2,(.t 4)),(8,2,(.t 5)),(10,2,(.t 6)),(12,2,(.t 7)),(14,2,(.t 8))]),.n 0 9]) (.ret))⟩
theorem qse(hc:qk P f wX=true):qd P f [] (.fz 8 (qO.flatMap (zB .u64))):=by
 refine qd.mk hc rfl ?_;simp only[wX,vI,simprocAttr];simp only[↓vS,vT,simprocAttr];refine .cut 2 rfl (Nat.le_refl _) ?_;simp[vw,qO,zB]
def kH(a:Nat):IFn:=⟨[.tmp 0],.seq (.r [.m 0 (.c (.i .u64 0))]) (.seq (.r [.l 4 a [],.n 1 4]) (.seq (.r [.m 2 (.c (.i .u64 0))]) (.seq (.seq (.r [.m 3 (.k 0)]) (.blk 0 (.loop (.seq (.seq (.r [.n 5 3,.n 6 1,.e 7 6,.s 8 5 7]) (.cond (.t 8) (.skip) (.exit 0))) (.seq (.blk 1 (.r [.n 11 2,.n 12 1,.n 13 3,.i 14 2 12 13,.f 15 1 14,.d 16 15,.b 17 .add 11 16,.n 2 17])) (.r [.n 9 3,.a 10 9 1,.n 3 10])))))) (.seq (.r [.n 18 2,.n 0 18]) (.ret)))))⟩
theorem qtH{g:Nat}(hc:qk P f (kH g)=true)(hg:qd P g [] (.fz 8 (qO.flatMap (zB .u64)))):qd P f [] (.i .u64 2114060416):=by
 refine qd.mk hc rfl ?_;simp only[kH,vI,simprocAttr];simp only[↓vS,vT,simprocAttr];refine hg.sc ?_;simp only[↓vS,vT,simprocAttr]
 iterate 8
  refine vb ?_;simp only[↓vS,vT,simprocAttr,qO,zB,List.flatMap_cons,List.flatMap_nil,Int.reduceLT,Int.reduceAdd,Int.reduceNeg,qq,qcT,Int.reduceLE]
 refine vb ?_;simp only[↓vS,vT,simprocAttr,Int.reduceLT,vZ,and_self]
structure PolR (p:Pol):Prop where
 fams:∀x ∈ p.fams,0<=x∧x<=4294967295
 deny:0<=p.deny∧p.deny<=4294967295
 spaces:0<=p.spaces∧p.spaces<18446744073709551616
 filter:Rng p.filter.calls
 log:Rng p.log.calls
section
variable {g1 g2 g3 g4:Nat}
end
end Go.Kc
end
section
/- Tests, rules; numbers of calls; the helpers of lower. Condition: the functions' texts are these. -/
namespace Go.Kc
variable {P:Program} {f:Nat}
structure GTest where
 arg:Int
 qgq:Int
 val:Int
 act:Int
structure GRule where
 nr:Int
 tests:List GTest
 act:Int
structure GFil where
 arch:Int
 rules:List GRule
 dflt:Int
section
variable {l m:List GTest} {j:Nat}
end
section
variable {l m:List GRule} {j:Nat}
end
end Go.Kc
end
section
/- The helpers of lower. Condition: the functions' texts are these. -/
namespace Go.Kc
variable {P:Program} {f:Nat}
end Go.Kc
end
section
/- Actions that are known, rules and filters that may be, a call's name by its number. Condition: the functions' texts are these. -/
namespace Go.Kc
variable {P:Program} {f:Nat}
end Go.Kc
end
section
/- Rules and filters that may be; a call's name by its number. Condition: the functions' texts are these. -/
namespace Go.Kc
variable {P:Program} {f:Nat}
end Go.Kc
end
section
/- The plain law of LowerMay: lower's filters may be, their numbers have names. No condition. -/
namespace Go.Kc
end Go.Kc
end
section
/- LowerAlone: what the law answers (first its end). Condition: the functions' texts are these. -/
namespace Go.Kc
variable {P:Program} {f:Nat}
section
variable {g1 g2 g3 g4 g5:Nat}
end
end Go.Kc
end
section
/- What assignments come to, one behind the other: it may be. No condition. -/
namespace Go.Kc
def qa0:List UInt8:=[83,101,114,118,105,99,101]
structure PMay (p:Pol):Prop where
 own:∀c ∈ p.log.calls,c.act=0
 deny:Wc p.deny=true
 mode:p.fmode<=2∧(p.fmode≠0∨p.fams=[])
 ar:∀a ∈ p.arches,0<=a∧a<6
 ap:p.arches.Pairwise (· < ·)
 fr:∀n ∈ p.fams,Jc n=true
 fp:p.fams.Pairwise (· < ·)
 fil:zp p.filter=true
 log:zp p.log=true
 sp:Qe .u64 p.spaces 2114060416=0
structure PI (p:Pol):Prop where
 may:PMay p
 f0:0<=p.filter.mode
 l0:0<=p.log.mode
 m0:0<=p.fmode
 s0:0<=p.spaces∧p.spaces<18446744073709551616
theorem qbd{l:List Int}(h:l.Pairwise (· < ·)):l.Nodup:=h.imp fun h e=>by omega
theorem qdc{n:Int}(h:Jc n=true):n ∈ qu.map (·.2):=by
 unfold Jc at h;have h':QJ n qu≠[]:=by simpa using h
 have:∀(t:List (List UInt8×Int)),QJ n t≠[]->n ∈ t.map (·.2):=by
  intro t
  induction t with
  | nil=>intro h;exact absurd rfl h
  | cons x t ih =>
   intro h;unfold QJ at h;split at h
   ·rename_i e;simp[e]
   ·exact List.mem_cons_of_mem _ (ih h)
 exact this _ h'
theorem qho{a:Int}(h:0<=a∧a<6):a ∈ ([0,1,2,3,4,5]:List Int):=by
 have:a=0∨a=1∨a=2∨a=3∨a=4∨a=5:=by omega
 simpa using this
theorem PMay.lens{p:Pol}(h:PMay p):p.arches.length<=6∧p.fams.length<=8∧p.filter.calls.length<=40∧p.log.calls.length<=40 :=
 ⟨X4 (t:=[0,1,2,3,4,5]) (qbd h.ap) fun x hx=>qho (h.ar x hx),X4 (t:=qu.map (·.2)) (qbd h.fp) fun x hx=>qdc (h.fr x hx),QH h.fil,QH h.log⟩
theorem PI.ok{p:Pol}(h:PI p):PolOk p:=by
 obtain⟨h1,h2,h3,h4⟩:=h.may.lens;exact⟨by omega,by omega,by omega,by omega⟩
def Wp:Pol:={ vg with deny:=2147483648 }
theorem PI.new:PI Wp:=by
 refine⟨⟨?_,?_,?_,?_,?_,?_,?_,?_,?_,?_⟩,?_,?_,?_,?_⟩
 ·intro c hc;simp[Wp,vg] at hc
 ·decide
 ·exact⟨by decide,.inr rfl⟩
 ·intro c hc;simp[Wp,vg] at hc
 ·exact List.Pairwise.nil
 ·intro c hc;simp[Wp,vg] at hc
 ·exact List.Pairwise.nil
 ·rfl
 ·rfl
 ·decide
 ·decide
 ·decide
 ·decide
 ·decide
theorem qgH{l:GList}(hm:zp l=true){s:List UInt8}(h:∀c ∈ l.calls,c.act=0):∀c ∈ (Q0 l s 0).calls,c.act=0:=by
 intro c hc;unfold Q0 at hc;rw[if_pos hm] at hc;rcases qfa ((xC l).1 hm).2.2 hc with rfl|hc
 ·rfl
 ·exact h c hc
theorem qeG{l:GList}{s:List UInt8}(h:∀c ∈ l.calls,c.act=0):∀c ∈ (yR l s).calls,c.act=0:=by
 intro c hc;unfold yR at hc;split at hc
 ·exact h c (List.mem_filter.1 hc).1
 ·exact h c hc
theorem Vk:∀{os:List (List UInt8×Option Int)} {l:GList},zp l=true->l.mode≠0->(∀o ∈ os,okO o)->(∀o ∈ os,o.2=none∨o.2=some 0)->(∀c ∈ l.calls,c.act=0)->∀c ∈ (os.foldl Qw l).calls,c.act=0
 | [],_,_,_,_,_,h=>h
 | o::os,l,hm,h0,hk,ho,h=>by
  rw[List.foldl_cons];obtain⟨k1,k2,_⟩:=qce hm h0 (hk o (by simp));refine Vk k1 (by rw[k2];exact h0) (fun x hx=>hk x (by simp[hx])) (fun x hx=>ho x (by simp[hx])) ?_
  unfold Qw;rcases ho o (by simp) with e|e
  ·rw[e];exact qeG h
  ·rw[e];exact qgH hm h
variable {E:List UInt8->List (List UInt8)×Int}
theorem qeo(t:Bool)(mode:Int)(w:List UInt8):∀o ∈ qdB E false t mode w,o.2=none∨o.2=some 0:=by
 intro o ho;unfold qdB at ho;split at ho
 ·simp at ho
 split at ho
 ·simp at ho
 ·obtain⟨n,_,rfl⟩:=List.mem_map.1 ho;simp only[Bool.false_eq_true,false_and,and_false,if_false];split<;>split<;>simp
theorem qdP(hE:wQ E){l:GList}(h:zp l=true)(v:List UInt8)(ho:∀c ∈ l.calls,c.act=0):∀c ∈ (zm E l v false).1.calls,c.act=0:=by
 by_cases hw:qh v=[]
 ·rw[qbn h false hw];intro c hc;simp at hc
 rw[qbm h hw];refine Vk (qa7 h _) (X3 _ _) (fun o hx=>?_) (fun o hx=>?_) ho
 ·obtain⟨w,_,hw2⟩:=List.mem_flatMap.1 hx;exact qfe hE _ _ _ w o hw2
 ·obtain⟨w,_,hw2⟩:=List.mem_flatMap.1 hx;exact qeo _ _ w o hw2
theorem Vy{l:GList}(h:zp l=true)(v:List UInt8)(fl:Bool)(h0:0<=l.mode):0<=(zm E l v fl).1.mode:=by
 by_cases hw:qh v=[]
 ·rw[qbn h fl hw];exact Int.le_refl 0
 ·rw[qeE h fl hw];unfold yQ;split
  ·split<;>decide
  ·exact h0
theorem qjH(hE:wQ E){p:Pol}(h:PI p)(k v:List UInt8):PI (jw E p k v).1:=by
 unfold jw;split
 ·exact⟨{ h.may with fil:=qcd hE h.may.fil v true },Vy h.may.fil v true h.f0,h.l0,h.m0,h.s0⟩
 split
 ·exact⟨{ h.may with log:=qcd hE h.may.log v false,own:=qdP hE h.may.log v h.may.own },h.f0,Vy h.may.log v false h.l0,h.m0,h.s0⟩
 split
 ·split
  ·rename_i hz;refine⟨{ h.may with deny:=?_ },h.f0,h.l0,h.m0,h.s0⟩;show Wc (wC v).1=true;unfold wC at hz ⊢;split
   ·decide
   ·rename_i hk;rw[if_neg hk] at hz;split
    ·obtain⟨q0,q1,_⟩:=kU v;unfold Wc;simp only[Bool.or_eq_true,Bool.and_eq_true,decide_eq_true_eq];right;omega
    ·rename_i hk2;rw[if_neg hk2] at hz;exact absurd hz (by decide)
  ·exact h
 ·exact h
theorem W7{l:List Int}{n x:Int}{is:Bool}(h:x ∈ z1 l n is):x=n∨x ∈ l:=by
 unfold z1 at h;dsimp only at h;split at h
 ·rcases List.mem_append.1 h with h|h
  ·exact .inr (List.mem_filter.1 (List.mem_of_mem_take h)).1
  ·rcases List.mem_cons.1 h with h|h
   ·exact .inl h
   ·exact .inr (List.mem_filter.1 (List.mem_of_mem_drop h)).1
 ·exact .inr (List.mem_filter.1 h).1
theorem qfJ{w:List UInt8}(h:(z4 w).2=0):0<=(z4 w).1∧(z4 w).1<6:=by
 have idx:∀(q:List UInt8×Int->Bool) (t:List (List UInt8×Int)) (j:Nat),jc q t j = -1∨((j:Int)<=jc q t j∧jc q t j<j+t.length):=by
  intro q t
  induction t with
  | nil=>intro j;left;rfl
  | cons x t ih =>
   intro j;unfold jc;split
   ·right;simp;omega
   ·rcases ih (j+1) with h|⟨h1,h2⟩
    ·exact .inl h
    ·right;simp at h1 h2 ⊢;omega
 unfold z4 at h ⊢;split at h
 ·rename_i e;rw[if_pos e];decide
 ·rename_i e;rw[if_neg e];split at h
  ·exact absurd h (by decide)
  ·rename_i e2;rw[if_neg e2];have hl:zz.length=6:=rfl;rcases idx (fun x=>decide (x.1=w)) zz 0 with h|h
   ·rw[h] at e2;exact absurd (by decide) e2
   ·rw[hl] at h;simp at h ⊢;omega
theorem J6:∀(ws:List (List UInt8)) (s:List Int×List (Int×List UInt8)),(∀x ∈ s.1,0<=x∧x<6)->∀x ∈ (ws.foldl qZ s).1,0<=x∧x<6
 | [],_,h=>h
 | w::ws,s,h=>by
  rw[List.foldl_cons];refine J6 ws _ ?_;unfold qZ;split
  ·rename_i hz;intro x hx;rcases W7 (show x ∈ z1 s.1 (z4 w).1 true from hx) with rfl|hx
   ·exact qfJ hz
   ·exact h x hx
  ·exact h
theorem qec{w:List UInt8}(h:(wN w).2=0):Jc (wN w).1=true:=by
 have f:∀t:List (List UInt8×Int),(z5 w 180 t).2=0->(z5 w 180 t).1 ∈ t.map (·.2):=by
  intro t
  induction t with
  | nil=>intro h;exact absurd (show (180:Int)=0 from h) (by decide)
  | cons x t ih =>
   intro h;unfold z5 at h ⊢;split
   ·simp
   ·rename_i e;rw[if_neg e] at h;exact List.mem_cons_of_mem _ (ih h)
 have all:∀n ∈ qu.map (·.2),Jc n=true:=by decide +kernel
 exact all _ (f _ h)
theorem Vi(b:Bool):∀(ws:List (List UInt8)) (s:List Int×List (Int×List UInt8)),(∀x ∈ s.1,Jc x=true)->∀x ∈ (ws.foldl (zD b) s).1,Jc x=true
 | [],_,h=>h
 | w::ws,s,h=>by
  rw[List.foldl_cons];refine Vi b ws _ ?_;unfold zD;split
  ·rename_i hz;intro x hx;rcases W7 hx with rfl|hx
   ·exact qec hz
   ·exact h x hx
  ·exact h
theorem qfv(q:Nat)(h:q<18446744073709551616):IntKind.wrap .u64 (q:Int)=q:=qcT (by omega) (by omega)
theorem qea(a b:Int):∃q:Nat,Qe .u64 a b=q∧q<18446744073709551616∧q=(BitVec.ofInt 64 a &&& ~~~ (BitVec.ofInt 64 b)).toNat:=by
 refine⟨(BitVec.ofInt 64 a &&& ~~~ (BitVec.ofInt 64 b)).toNat,?_,(BitVec.ofInt 64 a &&& ~~~ (BitVec.ofInt 64 b)).isLt,rfl⟩;exact qfv _ (BitVec.isLt _)
theorem qm2(a b:Int):∃q:Nat,orI .u64 a b=q∧q<18446744073709551616∧q=(BitVec.ofInt 64 a ||| BitVec.ofInt 64 b).toNat:=by
 refine⟨(BitVec.ofInt 64 a ||| BitVec.ofInt 64 b).toNat,?_,(BitVec.ofInt 64 a ||| BitVec.ofInt 64 b).isLt,rfl⟩
 exact qfv _ (BitVec.isLt _)
theorem qb3(v:BitVec 64):BitVec.ofInt 64 ((v.toNat:Nat):Int)=v:=by
 rw[BitVec.ofInt_natCast,BitVec.ofNat_toNat,BitVec.setWidth_eq]
theorem Wb(a b:Int):Qe .u64 a b=0↔BitVec.ofInt 64 a &&& ~~~ (BitVec.ofInt 64 b)=0#64:=by
 obtain⟨q,h1,_,h3⟩:=qea a b;rw[h1];constructor
 ·intro h;have:q=0:=by omega
  rw[this] at h3;exact BitVec.eq_of_toNat_eq (by rw[← h3];rfl)
 ·intro h;rw[h] at h3;simp at h3;omega
theorem qnV{a b m:Int}(ha:Qe .u64 a m=0)(hb:Qe .u64 b m=0):Qe .u64 (orI .u64 a b) m=0:=by
 rw[Wb] at ha hb ⊢;obtain⟨q,h1,_,h3⟩:=qm2 a b;rw[h1,h3,qb3]
 have:∀x y z:BitVec 64,(x ||| y) &&& z=(x &&& z) ||| (y &&& z):=by
  intro x y z;ext i hi;simp[Bool.and_or_distrib_right]
 rw[this,ha,hb];rfl
theorem qkK{a m:Int}:Qe .u64 (Qe .u64 m a) m=0:=by
 rw[Wb];obtain⟨q,h1,_,h3⟩:=qea m a;rw[h1,h3,qb3]
 ext i hi
 simp;intro h1 h2;simp[h1]
theorem qpE(w:List UInt8):Qe .u64 (spM w).1 2114060416=0:=by
 have f:∀t:List (List UInt8×Int),(z5 w 181 t).1=0∨(z5 w 181 t).1 ∈ t.map (·.2):=by
  intro t
  induction t with
  | nil=>exact .inl rfl
  | cons x t ih =>
   unfold z5;split
   ·right;simp
   ·rcases ih with h|h
    ·exact .inl h
    ·exact .inr (List.mem_cons_of_mem _ h)
 have all:∀n ∈ qO.map (·.2),Qe .u64 n 2114060416=0:=by decide +kernel
 rcases f qO with h|h
 ·show Qe .u64 (z5 w 181 qO).1 2114060416=0;rw[h];decide
 ·exact all _ h
theorem qb7:∀(ws:List (List UInt8)) (s:Int×List (Int×List UInt8)),Qe .u64 s.1 2114060416=0->(0<=s.1∧s.1<18446744073709551616)->Qe .u64 (ws.foldl xm s).1 2114060416=0∧(0<=(ws.foldl xm s).1∧(ws.foldl xm s).1<18446744073709551616)
 | [],_,h,h2=>⟨h,h2⟩
 | w::ws,s,h,_=>by
  rw[List.foldl_cons];obtain⟨q,h1,h2,_⟩:=qm2 s.1 (spM w).1;refine qb7 ws _ (qnV h (qpE w)) ?_;show 0<=orI .u64 s.1 (spM w).1∧orI .u64 s.1 (spM w).1<18446744073709551616;rw[h1];omega
theorem Wy(p:Pol)(h:PI p)(a b c d:Bool):PI { p with we:=a,pe:=b,rt:=c,np:=d }:=⟨⟨h.may.own,h.may.deny,h.may.mode,h.may.ar,h.may.ap,h.may.fr,h.may.fp,h.may.fil,h.may.log,h.may.sp⟩,h.f0,h.l0,h.m0,h.s0⟩
theorem qd4{p:Pol}(h:PI p)(v:List UInt8):PI (za p v).1:=by
 unfold za;dsimp only
 have h1:∀x ∈ (if qh v=[] then ([]:List Int) else p.arches),0<=x∧x<6:=by
  split
  ·intro x hx;simp at hx
  ·exact h.may.ar
 have h2:(if qh v=[] then ([]:List Int) else p.arches).Pairwise (· < ·):=by
  split
  ·exact List.Pairwise.nil
  ·exact h.may.ap
 refine⟨{ h.may with ar:=?_,ap:=?_ },h.f0,h.l0,h.m0,h.s0⟩
 ·exact J6 _ _ h1
 ·exact qaz _ _ h2
theorem qcw{p:Pol}(h:PI p)(v:List UInt8):PI (qI p v).1:=by
 unfold qI;split
 ·refine⟨{ h.may with mode:=⟨show (0:Int)<=2 by decide,.inr rfl⟩,fr:=fun x hx=>?_,fp:=List.Pairwise.nil },h.f0,h.l0,Int.le_refl 0,h.s0⟩
  simp at hx
 split
 ·refine⟨{ h.may with mode:=⟨show (1:Int)<=2 by decide,.inr rfl⟩,fr:=fun x hx=>?_,fp:=List.Pairwise.nil },h.f0,h.l0,show (0:Int)<=1 by decide,h.s0⟩
  simp at hx
 ·dsimp only
  have hm:0<=xD p.fmode (qE v).2∧xD p.fmode (qE v).2<=2∧xD p.fmode (qE v).2≠0:=by
   have:=h.m0;have:=h.may.mode.1;unfold xD;split
   ·split<;>decide
   ·refine⟨by omega,by omega,by assumption⟩
  refine⟨{ h.may with mode:=⟨hm.2.1,.inl hm.2.2⟩,fr:=?_,fp:=?_ },h.f0,h.l0,hm.1,h.s0⟩
  ·exact Vi _ _ _ h.may.fr
  ·exact qbA _ _ _ h.may.fp
theorem qba{p:Pol}(h:PI p)(v:List UInt8):PI (qy p v).1:=by
 unfold qy;split
 ·exact⟨{ h.may with sp:=show Qe .u64 0 2114060416=0 by decide },h.f0,h.l0,h.m0,show (0:Int)<=0∧(0:Int)<18446744073709551616 by decide⟩
 split
 ·exact⟨{ h.may with sp:=show Qe .u64 0 2114060416=0 by decide },h.f0,h.l0,h.m0,show (0:Int)<=0∧(0:Int)<18446744073709551616 by decide⟩
 split
 ·exact⟨{ h.may with sp:=show Qe .u64 xp 2114060416=0 by decide },h.f0,h.l0,h.m0,show 0<=xp∧xp<18446744073709551616 by decide⟩
 ·dsimp only;obtain⟨k1,k2⟩:=qb7 (qh (qE v).1) (0,[]) (by decide) (by decide);generalize (qh (qE v).1).foldl xm (0,[])=r at k1 k2;unfold Zn;split
  ·split
   ·exact⟨{ h.may with sp:=k1 },h.f0,h.l0,h.m0,k2⟩
   ·obtain⟨q,q1,q2,_⟩:=qea xp r.1;refine⟨{ h.may with sp:=qkK },h.f0,h.l0,h.m0,?_⟩;show 0<=Qe .u64 xp r.1∧Qe .u64 xp r.1<_;rw[q1];omega
  ·exact h
theorem qjJ{p:Pol}(h:PI p)(k v:List UInt8):PI (xe p k v).1:=by
 unfold xe;split
 ·exact qd4 h v
 split
 ·exact qcw h v
 split
 ·exact qba h v
 split
 ·exact Wy p h _ _ _ _
 split
 ·exact Wy p h _ _ _ _
 split
 ·exact Wy p h _ _ _ _
 split
 ·exact Wy p h _ _ _ _
 ·exact h
variable (E)
noncomputable def doM(p:Pol)(a:Asg):Pol×List GNote :=
 if a.sec≠qa0 then (p,[⟨a.file,a.line,100,a.sec.take 60⟩])
 else if Jd a.key=true then ((jw E p a.key a.val).1,(jw E p a.key a.val).2.map (z0 a))
 else if qbE a.key=true then ((xe p a.key a.val).1,(xe p a.key a.val).2.map (qm a))
 else (p,[⟨a.file,a.line,100,a.key.take 60⟩])
noncomputable def doS(s:Pol×List GNote)(a:Asg):Pol×List GNote:=((doM E s.1 a).1,s.2++(doM E s.1 a).2)
noncomputable def Zb(l:List Asg):Pol×List GNote:=l.foldl (doS E) (Wp,[])
def xG(ns:List GNote):Bool:=ns.any fun n=>!kP n.err
noncomputable def Qv(l:List Asg):Pol×List GNote:=if xG (Zb E l).2=true then (vg,(Zb E l).2) else Zb E l
variable {E}
theorem qkT(hE:wQ E){p:Pol}(h:PI p)(a:Asg):PI (doM E p a).1:=by
 unfold doM;split
 ·exact h
 split
 ·exact qjH hE h _ _
 split
 ·exact qjJ h _ _
 ·exact h
theorem qah(hE:wQ E):∀(l:List Asg) (s:Pol×List GNote),PI s.1->PI (l.foldl (doS E) s).1
 | [],_,h=>h
 | a::l,s,h=>qah hE l _ (qkT hE h a)
theorem qgO(p:Pol)(k v:List UInt8):(xe p k v).2.length<=v.length+1:=by
 have h1:=zW v;have h2:=zW (qE v).1;have h3:=v5 v;have a1:=Zq (qh v);have a2:=fun b=>Xn b (qh (qE v).1)
 have a3:=JX (qh (qE v).1)
 have hs:(zu v).2.length<=1:=by
  unfold zu
  repeat' split
  all_goals simp
 unfold xe;split
 ·have:=(a1 (if qh v=[] then [] else p.arches,[])).2
  simp at this;show ((qh v).foldl qZ (if qh v=[] then [] else p.arches,[])).2.length<=_
  omega
 split
 ·unfold qI;split
  ·simp
  split
  ·simp
  ·have:=(a2 ((qE v).2==decide (xD p.fmode (qE v).2=2)) (p.fams,[])).2;simp at this;dsimp only;simp;omega
 split
 ·unfold qy;split
  ·simp
  split
  ·simp
  split
  ·simp
  ·have:=a3 (0,[]);simp at this;dsimp only;omega
 split
 ·show (zu v).2.length<=_;omega
 split
 ·show (zu v).2.length<=_;omega
 split
 ·show (zu v).2.length<=_;omega
 split
 ·show (zu v).2.length<=_;omega
 ·simp
theorem qcs(E:List UInt8->List (List UInt8)×Int)(p:Pol)(a:Asg):(doM E p a).2.length<=a.val.length+1:=by
 have h1:=qjI E p a.key a.val;have h2:=qgO p a.key a.val;unfold doM;split
 ·simp
 split
 ·simpa using h1
 split
 ·simpa using h2
 ·simp
theorem qai(E:List UInt8->List (List UInt8)×Int):∀(l:List Asg) (s:Pol×List GNote),(∀a ∈ l,a.val.length<=1000)->(l.foldl (doS E) s).2.length<=s.2.length+1001*l.length
 | [],_,_=>by simp
 | a::l,s,h=>by
  rw[List.foldl_cons];have h1:=qai E l (doS E s a) fun x hx=>h x (by simp[hx])
  have h2:=qcs E s.1 a;have h3:=h a (by simp);have h4:(doS E s a).2.length=s.2.length+(doM E s.1 a).2.length:=by simp[doS]
  simp only[List.length_cons];omega
end Go.Kc
end
section
/- Lists that are equal, policies that are the same, notes with errors. Condition: the functions' texts are these. -/
namespace Go.Kc
variable {P:Program} {f:Nat}
instance:DecidableEq GCall:=fun a b=>if h:a.name=b.name∧a.act=b.act then isTrue (by obtain⟨h1,h2⟩:=h;cases a;cases b;simp_all) else isFalse (by rintro rfl;exact h ⟨rfl,rfl⟩)
theorem W6{α:Type}{l m:List α}{j:Nat}{x y:α}(hx:l[j]?=some x)(hy:m[j]?=some y)(h:l.take j=m.take j)(e:x=y):l.take (j+1)=m.take (j+1):=by
 rw[List.take_add_one,List.take_add_one,hx,hy,h,e]
def vo:IFn:=⟨[.tmp 4],.seq (.r [.m 4 .F]) (.seq (.seq (.r [.n 6 0,.e 7 6,.n 8 1,.e 9 8,.b 10 .neq 7 9]) (.cond (.t 10) (.seq (.r [.m 4 .F]) (.ret)) (.skip))) (.seq (.seq (.r [.n 11 0,.e 12 11,.m 13 (.k 0)]) (.blk 0 (.loop (.seq (.r [.s 14 13 12]) (.seq (.cond (.t 14) (.skip) (.exit 0)) (.seq (.blk 1 (.seq (.r [.n 15 13,.n 5 15]) (.seq (.reg true [.n 16 0,.n 17 5,.i 18 1 16 17,.d 19 18,.n 20 1,.n 21 5,.i 22 1 20 21,.d 23 22,.b 24 .neq 19 23]) (.cond (.t 24) (.seq (.r [.m 4 .F]) (.ret)) (.skip))))) (.r [.a 25 13 1,.n 13 25]))))))) (.seq (.r [.m 4 .T]) (.ret))))⟩
theorem qqb(hc:qk P f vo=true)(l m:List Int)(hl:l.length<=100000):qd P f [.fz l.length (rI .i64 l),.fz m.length (rI .i64 m)] (.b (decide (l=m))):=by
 refine qd.mk hc (by simp[qx,clo,qe]) ?_;simp only[vo,vI,simprocAttr]
 by_cases hlen:l.length=m.length
 ·have hli:(l.length:Int)=m.length:=by omega
  simp only[↓vS,vT,simprocAttr,hli];refine SL.loop (α:=Nat) (fun j=>[(0,.fz l.length (rI .i64 l)),(1,.fz m.length (rI .i64 m)),(12,.i .i64 l.length),(13,.i .i64 j)]) (fun _=>[]) (fun j=>j<=l.length∧l.take j=m.take j) (fun j=>l.length-j) 0 [] ?_ ?_ ?_ rfl ?_ ?_
  ·simp[vw,qe,hli]
  ·trivial
  ·simp
  ·exact⟨Nat.zero_le _,by simp⟩
  rintro j ⟨hj,hI⟩ G ih;simp only[vI,simprocAttr]
  by_cases hlt:j<l.length
  ·have hlm:j<m.length:=by omega
   have hx:l[j]?=some l[j]:=List.getElem?_eq_getElem hlt;have hy:m[j]?=some m[j]:=List.getElem?_eq_getElem hlm;have hw:IntKind.wrap .i64 ((j:Int)+1)=((j+1:Nat):Int):=by rw[qq (by omega) (by omega)];omega
   by_cases e:l[j]=m[j]
   ·simp only[↓vS,vT,simprocAttr,hlt,hlm];refine qW ?_;simp (decide:=true) only [↓vS,vT,simprocAttr,hlt,hlm,Nat.mul_one,xa,hx,hy,Option.map_some,e,hw,ne_eq,not_true_eq_false];refine ih (j+1) ⟨by omega,W6 hx hy hI e⟩ (by omega) _ _ (Wk.mk _ _ [] ?_ ?_ ?_ rfl)
    ·simp[vw,qe]
    ·trivial
    ·simp
   ·have hne:l≠m:=by
     intro h;subst h;exact e rfl
    simp only[↓vS,vT,simprocAttr,hlt,hlm];refine qW ?_;simp (decide:=true) only [↓vS,vT,simprocAttr,hlt,hlm,Nat.mul_one,xa,hx,hy,Option.map_some,e,hw,ne_eq,not_false_eq_true];simp[vZ,hne]
  ·have he:l=m:=by
    rw[List.take_of_length_le (by omega),List.take_of_length_le (by omega)] at hI;exact hI
   simp only[↓vS,vT,simprocAttr,hlt];simp[vZ,he]
 ·have hli:¬(l.length:Int)=m.length:=by omega
  have hne:l≠m:=fun h=>hlen (by rw[h])
  simp only[↓vS,vT,simprocAttr,hli];simp[vZ,hne]
def jO:IFn:=⟨[.tmp 4],.seq (.r [.m 4 .F]) (.seq (.seq (.r [.n 6 0,.e 7 6,.n 8 1,.e 9 8,.b 10 .neq 7 9]) (.cond (.t 10) (.seq (.r [.m 4 .F]) (.ret)) (.skip))) (.seq (.seq (.r [.n 11 0,.e 12 11,.m 13 (.k 0)]) (.blk 0 (.loop (.seq (.r [.s 14 13 12]) (.seq (.cond (.t 14) (.skip) (.exit 0)) (.seq (.blk 1 (.seq (.r [.n 15 13,.n 5 15]) (.seq (.reg true [.n 16 0,.n 17 5,.i 18 1 16 17,.d 19 18,.n 20 1,.n 21 5,.i 22 1 20 21,.d 23 22,.b 24 .neq 19 23]) (.cond (.t 24) (.seq (.r [.m 4 .F]) (.ret)) (.skip))))) (.r [.a 25 13 1,.n 13 25]))))))) (.seq (.r [.m 4 .T]) (.ret))))⟩
theorem qqc(hc:qk P f jO=true)(l m:List Int)(hl:l.length<=100000):qd P f [.fz l.length (rI .u32 l),.fz m.length (rI .u32 m)] (.b (decide (l=m))):=by
 refine qd.mk hc (by simp[qx,clo,qe]) ?_;simp only[jO,vI,simprocAttr]
 by_cases hlen:l.length=m.length
 ·have hli:(l.length:Int)=m.length:=by omega
  simp only[↓vS,vT,simprocAttr,hli];refine SL.loop (α:=Nat) (fun j=>[(0,.fz l.length (rI .u32 l)),(1,.fz m.length (rI .u32 m)),(12,.i .i64 l.length),(13,.i .i64 j)]) (fun _=>[]) (fun j=>j<=l.length∧l.take j=m.take j) (fun j=>l.length-j) 0 [] ?_ ?_ ?_ rfl ?_ ?_
  ·simp[vw,qe,hli]
  ·trivial
  ·simp
  ·exact⟨Nat.zero_le _,by simp⟩
  rintro j ⟨hj,hI⟩ G ih;simp only[vI,simprocAttr]
  by_cases hlt:j<l.length
  ·have hlm:j<m.length:=by omega
   have hx:l[j]?=some l[j]:=List.getElem?_eq_getElem hlt;have hy:m[j]?=some m[j]:=List.getElem?_eq_getElem hlm;have hw:IntKind.wrap .i64 ((j:Int)+1)=((j+1:Nat):Int):=by rw[qq (by omega) (by omega)];omega
   by_cases e:l[j]=m[j]
   ·simp only[↓vS,vT,simprocAttr,hlt,hlm];refine qW ?_;simp (decide:=true) only [↓vS,vT,simprocAttr,hlt,hlm,Nat.mul_one,xa,hx,hy,Option.map_some,e,hw,ne_eq,not_true_eq_false];refine ih (j+1) ⟨by omega,W6 hx hy hI e⟩ (by omega) _ _ (Wk.mk _ _ [] ?_ ?_ ?_ rfl)
    ·simp[vw,qe]
    ·trivial
    ·simp
   ·have hne:l≠m:=by
     intro h;subst h;exact e rfl
    simp only[↓vS,vT,simprocAttr,hlt,hlm];refine qW ?_;simp (decide:=true) only [↓vS,vT,simprocAttr,hlt,hlm,Nat.mul_one,xa,hx,hy,Option.map_some,e,hw,ne_eq,not_false_eq_true];simp[vZ,hne]
  ·have he:l=m:=by
    rw[List.take_of_length_le (by omega),List.take_of_length_le (by omega)] at hI;exact hI
   simp only[↓vS,vT,simprocAttr,hlt];simp[vZ,he]
 ·have hli:¬(l.length:Int)=m.length:=by omega
  have hne:l≠m:=fun h=>hlen (by rw[h])
  simp only[↓vS,vT,simprocAttr,hli];simp[vZ,hne]
def xX:IFn:=⟨[.tmp 4],.seq (.r [.m 4 .F]) (.seq (.seq (.r [.n 6 0,.e 7 6,.n 8 1,.e 9 8,.b 10 .neq 7 9]) (.cond (.t 10) (.seq (.r [.m 4 .F]) (.ret)) (.skip))) (.seq (.seq (.r [.n 11 0,.e 12 11,.m 13 (.k 0)]) (.blk 0 (.loop (.seq (.r [.s 14 13 12]) (.seq (.cond (.t 14) (.skip) (.exit 0)) (.seq (.blk 1 (.seq (.r [.n 15 13,.n 5 15]) (.seq (.reg true [.n 16 0,.n 17 5,.i 18 2 16 17,.v 19 2 18,.n 20 1,.n 21 5,.i 22 2 20 21,.v 23 2 22,.q 24 (.eqA true [.s,.i] (.t 19) (.t 23))]) (.cond (.t 24) (.seq (.r [.m 4 .F]) (.ret)) (.skip))))) (.r [.a 25 13 1,.n 13 25]))))))) (.seq (.r [.m 4 .T]) (.ret))))⟩
theorem qn4(hc:qk P f xX=true)(l m:List GCall)(hl:l.length<=100000):qd P f [.fz l.length (rC l),.fz m.length (rC m)] (.b (decide (l=m))):=by
 refine qd.mk hc (by simp[qx,clo,qc]) ?_;simp only[xX,vI,simprocAttr]
 by_cases hlen:l.length=m.length
 ·have hli:(l.length:Int)=m.length:=by omega
  simp only[↓vS,vT,simprocAttr,hli];refine SL.loop (α:=Nat) (fun j=>[(0,.fz l.length (rC l)),(1,.fz m.length (rC m)),(12,.i .i64 l.length),(13,.i .i64 j)]) (fun _=>[]) (fun j=>j<=l.length∧l.take j=m.take j) (fun j=>l.length-j) 0 [] ?_ ?_ ?_ rfl ?_ ?_
  ·simp[vw,qc,hli]
  ·trivial
  ·simp
  ·exact⟨Nat.zero_le _,by simp⟩
  rintro j ⟨hj,hI⟩ G ih;simp only[vI,simprocAttr]
  by_cases hlt:j<l.length
  ·have hlm:j<m.length:=by omega
   have hx:l[j]?=some l[j]:=List.getElem?_eq_getElem hlt;have hy:m[j]?=some m[j]:=List.getElem?_eq_getElem hlm;have hw:IntKind.wrap .i64 ((j:Int)+1)=((j+1:Nat):Int):=by rw[qq (by omega) (by omega)];omega
   have ex:=yf hx;have ey:=yf hy;have bx:=kx hlt;have bY:=kx hlm;have hst:=fun e=>W6 hx hy hI e
   have hne:l[j]≠m[j]->l≠m:=by
    intro e h;subst h;exact e rfl
   generalize l[j]=a at ex hst hne;generalize m[j]=b at ey hst hne
   by_cases e1:a.name=b.name
   ·by_cases e2:a.act=b.act
    ·have e:a=b:=by cases a;cases b;simp_all
     simp only[↓vS,vT,simprocAttr,hlt,hlm];refine qW ?_;simp (decide:=true) only [↓vS,vT,simprocAttr,hlt,hlm,ex,ey,bx,bY,js,e1,e2,hw,beq_self_eq_true];refine ih (j+1) ⟨by omega,hst e⟩ (by omega) _ _ (Wk.mk _ _ [] ?_ ?_ ?_ rfl)
     ·simp[vw,qc]
     ·trivial
     ·simp
    ·have hn:=hne (by rintro rfl;exact e2 rfl);simp only[↓vS,vT,simprocAttr,hlt,hlm];refine qW ?_;simp (decide:=true) only [↓vS,vT,simprocAttr,hlt,hlm,ex,ey,bx,bY,js,e1,e2,hw,beq_self_eq_true];simp[vZ,hn]
   ·have hn:=hne (by rintro rfl;exact e1 rfl);simp only[↓vS,vT,simprocAttr,hlt,hlm];refine qW ?_;simp (decide:=true) only [↓vS,vT,simprocAttr,hlt,hlm,ex,ey,bx,bY,js,e1,hw];simp[vZ,hn]
  ·have he:l=m:=by
    rw[List.take_of_length_le (by omega),List.take_of_length_le (by omega)] at hI;exact hI
   simp only[↓vS,vT,simprocAttr,hlt];simp[vZ,he]
 ·have hli:¬(l.length:Int)=m.length:=by omega
  have hne:l≠m:=fun h=>hlen (by rw[h])
  simp only[↓vS,vT,simprocAttr,hli];simp[vZ,hne]
def Jw(a b:GList):Bool:=decide (a.mode=b.mode)&&decide (a.calls=b.calls)
def Zg(a:Nat):IFn:=⟨[.tmp 4],.seq (.r [.q 2 (.box (.t 0)),.q 3 (.box (.t 1)),.m 4 .F]) (.seq (.r [.f 5 0 2,.d 6 5,.f 7 0 3,.d 8 7,.b 9 .eql 6 8,.n 10 9,.h 11 1 2 10 true,.j 12 11 10 true,.h 13 1 3 10 true,.j 14 13 10 true,⟨(some 15),.callF a [.t 12,.t 14],(some (10,true))⟩,.p 16 10 15,.n 4 16]) (.ret))⟩
theorem qsI{g:Nat}(hc:qk P f (Zg g)=true)(hg:∀l m:List GCall,l.length<=100000->qd P g [.fz l.length (rC l),.fz m.length (rC m)] (.b (decide (l=m))))(a b:GList)(hl:a.calls.length<=100000):qd P f [.agg (qj a),.agg (qj b)] (.b (Jw a b)):=by
 refine qd.mk hc rfl ?_;simp only[Zg,qj,vI,simprocAttr]
 by_cases h:a.mode=b.mode
 ·simp only[↓vS,vT,simprocAttr,h];refine (hg a.calls b.calls hl).sc ?_;simp only[↓vS,vT,simprocAttr];simp[vZ,Jw,h]
 ·simp only[↓vS,vT,simprocAttr,h];simp[vZ,Jw,h]
def qfo(p q:Pol):Bool:=decide (p.arches=q.arches)&&decide (p.fams=q.fams)&&Jw p.filter q.filter&&Jw p.log q.log&&((p.we==q.we)&&(p.pe==q.pe)&&(p.rt==q.rt)&&(p.np==q.np))&&decide (p.deny=q.deny)&&decide (p.fmode=q.fmode)&&decide (p.spaces=q.spaces)
def wb(a b c:Nat):ICode:=.seq (.r [.n 62 6,.n 63 62,.y 64 7 63,.p 65 63 64,.n 66 65,.h 67 3 2 66 true,.j 68 67 66 true,.h 69 3 3 66 true,.j 70 69 66 true,.g 71 (.bin .eql (.t 68) (.t 70)) 66 true,.p 72 66 71,.n 73 72,.h 74 7 2 73 true,.j 75 74 73 true,.h 76 7 3 73 true,.j 77 76 73 true,.g 78 (.bin .eql (.t 75) (.t 77)) 73 true,.p 79 73 78,.n 80 79,.h 81 8 2 80 true,.j 82 81 80 true,.h 83 8 3 80 true,.j 84 83 80 true,.g 85 (.bin .eql (.t 82) (.t 84)) 80 true,.p 86 80 85,.n 4 86]) (.ret)
def wa(a b c:Nat):ICode:=.seq (.r [.f 36 9 2,.d 37 36,.f 38 9 3,.d 39 38,.q 40 (.eqB false (.t 37) (.t 39)),.n 41 40,.h 42 10 2 41 true,.j 43 42 41 true,.h 44 10 3 41 true,.j 45 44 41 true,.g 46 (.eqB false (.t 43) (.t 45)) 41 true,.p 47 41 46,.n 48 47,.h 49 11 2 48 true,.j 50 49 48 true,.h 51 11 3 48 true,.j 52 51 48 true,.g 53 (.eqB false (.t 50) (.t 52)) 48 true,.p 54 48 53,.n 55 54,.h 56 12 2 55 true,.j 57 56 55 true,.h 58 12 3 55 true,.j 59 58 55 true,.g 60 (.eqB false (.t 57) (.t 59)) 55 true,.p 61 55 60,.n 7 61]) (.cut (wb a b c))
def XC(a b c:Nat):IFn:=⟨[.tmp 4],.seq (.r [.q 2 (.box (.t 0)),.q 3 (.box (.t 1)),.m 4 .F]) (.seq (.r [.m 5 (.c (.fn a [] []))]) (.seq (.r [.f 8 0 2,.d 9 8,.f 10 0 3,.d 11 10,.l 12 b [.t 9,.t 11],.n 13 12,.h 14 6 2 13 true,.j 15 14 13 true,.h 16 6 3 13 true,.j 17 16 13 true,⟨(some 18),.callF c [.t 15,.t 17],(some (13,true))⟩,.p 19 13 18,.n 20 19,.y 21 5 20,.h 22 1 2 20 true,.g 23 (.loadN 2 (.t 22)) 20 true,.h 24 1 3 20 true,.g 25 (.loadN 2 (.t 24)) 20 true,⟨(some 26),.callV (.t 21) [.t 23,.t 25],(some (20,true))⟩,.p 27 20 26,.n 28 27,.y 29 5 28,.h 30 4 2 28 true,.g 31 (.loadN 2 (.t 30)) 28 true,.h 32 4 3 28 true,.g 33 (.loadN 2 (.t 32)) 28 true,⟨(some 34),.callV (.t 29) [.t 31,.t 33],(some (28,true))⟩,.p 35 28 34,.n 6 35]) (.cut (wa a b c))))⟩
theorem qjk(g1 g2 g3:Nat)(p q:Pol)(lists says:Bool){t':Tr AV}{h':Hp}(hw:Wk 0 t' h' (mkT [(2,.ptr 0 0),(3,.ptr 1 0),(6,.b lists),(7,.b says)]) (mkH 0 [.cells 0 true false (qi p),.cells 0 true false (qi q)])) :
  S P 0 (wb g1 g2 g3) (xg [.tmp 4] fun v' h'=>Frz h' v' (.b (lists&&says&&decide (p.deny=q.deny)&&decide (p.fmode=q.fmode)&&decide (p.spaces=q.spaces)))) t' h':=by
 refine S.weak hw (qr ?_);simp only[wb,qi,vI,simprocAttr];cases lists with
 | false =>
  simp only[↓vS,vT,simprocAttr];simp[vZ]
 | true =>
  cases says with
  | false =>
   simp only[↓vS,vT,simprocAttr];simp[vZ]
  | true =>
   by_cases d1:p.deny=q.deny
   ·by_cases d2:p.fmode=q.fmode
    ·by_cases d3:p.spaces=q.spaces
     ·simp only[↓vS,vT,simprocAttr,d1,d2,d3];simp[vZ]
     ·simp only[↓vS,vT,simprocAttr,d1,d2,d3];simp[vZ]
    ·simp only[↓vS,vT,simprocAttr,d1,d2];simp[vZ]
   ·simp only[↓vS,vT,simprocAttr,d1];simp[vZ]
theorem qjj(g1 g2 g3:Nat)(p q:Pol)(lists:Bool){t':Tr AV}{h':Hp}(hw:Wk 0 t' h' (mkT [(2,.ptr 0 0),(3,.ptr 1 0),(6,.b lists)]) (mkH 0 [.cells 0 true false (qi p),.cells 0 true false (qi q)])) :
  S P 0 (wa g1 g2 g3) (xg [.tmp 4] fun v' h'=>Frz h' v' (.b (lists&&((p.we==q.we)&&(p.pe==q.pe)&&(p.rt==q.rt)&&(p.np==q.np))&&decide (p.deny=q.deny)&&decide (p.fmode=q.fmode)&&decide (p.spaces=q.spaces)))) t' h':=by
 refine S.weak hw (qr ?_)
 have go:∀s,s=((p.we==q.we)&&(p.pe==q.pe)&&(p.rt==q.rt)&&(p.np==q.np))->∀{t':Tr AV} {h':Hp},Wk 0 t' h' (mkT [(2,.ptr 0 0),(3,.ptr 1 0),(6,.b lists),(7,.b s)]) (mkH 0 [.cells 0 true false (qi p),.cells 0 true false (qi q)])->
   S P 0 (wb g1 g2 g3) (xg [.tmp 4] fun v' h'=>Frz h' v' (.b (lists&&((p.we==q.we)&&(p.pe==q.pe)&&(p.rt==q.rt)&&(p.np==q.np))&&decide (p.deny=q.deny)&&decide (p.fmode=q.fmode)&&decide (p.spaces=q.spaces)))) t' h':=by
  rintro s rfl t' h' hw;exact qjk g1 g2 g3 p q lists _ hw
 simp only[wa,qi,vI,simprocAttr]
 by_cases w1:p.we=q.we
 ·by_cases w2:p.pe=q.pe
  ·by_cases w3:p.rt=q.rt
   ·by_cases w4:p.np=q.np
    ·simp (decide:=true) only [↓vS,vT,simprocAttr,w1,w2,w3,w4,beq_self_eq_true];refine go true (by simp[w1,w2,w3,w4]) (Wk.mk _ _ [0,1] ?_ ?_ ?_ rfl)
     ·simp[vw]
     ·simp[vw,qi,qe,qc,w1,w2,w3,w4]
     ·simp
    ·have e:(p.np==q.np)=false:=by simpa using w4
     simp (decide:=true) only [↓vS,vT,simprocAttr,w1,w2,w3,e,beq_self_eq_true];refine go false (by simp[w1,w2,w3,w4]) (Wk.mk _ _ [0,1] ?_ ?_ ?_ rfl)
     ·simp[vw]
     ·simp[vw,qi,qe,qc,w1,w2,w3]
     ·simp
   ·have e:(p.rt==q.rt)=false:=by simpa using w3
    simp (decide:=true) only [↓vS,vT,simprocAttr,w1,w2,e,beq_self_eq_true];refine go false (by simp[w1,w2,w3]) (Wk.mk _ _ [0,1] ?_ ?_ ?_ rfl)
    ·simp[vw]
    ·simp[vw,qi,qe,qc,w1,w2]
    ·simp
  ·have e:(p.pe==q.pe)=false:=by simpa using w2
   simp (decide:=true) only [↓vS,vT,simprocAttr,w1,e,beq_self_eq_true];refine go false (by simp[w1,w2]) (Wk.mk _ _ [0,1] ?_ ?_ ?_ rfl)
   ·simp[vw]
   ·simp[vw,qi,qe,qc,w1]
   ·simp
 ·have e:(p.we==q.we)=false:=by simpa using w1
  simp (decide:=true) only [↓vS,vT,simprocAttr,e];refine go false (by simp[w1]) (Wk.mk _ _ [0,1] ?_ ?_ ?_ rfl)
  ·simp[vw]
  ·simp[vw,qi,qe,qc]
  ·simp
def qnL(P:Program)(f:Nat):Prop:=∀p q:Pol,PolOk p->qd P f [.agg (qi p),.agg (qi q)] (.b (qfo p q))
theorem qtP{g1 g2 g3:Nat}(hc:qk P f (XC g1 g2 g3)=true)(h1:∀a b:GList,a.calls.length<=100000->qd P g1 [.agg (qj a),.agg (qj b)] (.b (Jw a b)))
  (h2:∀l m:List Int,l.length<=100000->qd P g2 [.fz l.length (rI .i64 l),.fz m.length (rI .i64 m)] (.b (decide (l=m)))) (h3:∀l m:List Int,l.length<=100000->qd P g3 [.fz l.length (rI .u32 l),.fz m.length (rI .u32 m)] (.b (decide (l=m)))):qnL P f:=by
 intro p q hp;have ha:=hp.a;have hf:=hp.f;have hcc:=hp.c;have hl:=hp.l;refine qd.mk hc rfl ?_
 have go:∀s,s=(decide (p.arches=q.arches)&&decide (p.fams=q.fams)&&Jw p.filter q.filter&&Jw p.log q.log)->∀{t':Tr AV} {h':Hp},Wk 0 t' h' (mkT [(2,.ptr 0 0),(3,.ptr 1 0),(6,.b s)]) (mkH 0 [.cells 0 true false (qi p),.cells 0 true false (qi q)])->
   S P 0 (wa g1 g2 g3) (xg [.tmp 4] fun v' h'=>Frz h' v' (.b (qfo p q))) t' h':=by
  rintro s rfl t' h' hw;exact qjj g1 g2 g3 p q _ hw
 simp only[XC,qi,vI,simprocAttr];simp only[↓vS,vT,simprocAttr];refine (h2 p.arches q.arches (by omega)).sc ?_;cases k1:decide (p.arches=q.arches) with
 | false =>
  simp only[↓vS,vT,simprocAttr];refine go false (by simp[k1]) (Wk.mk _ _ [0,1] ?_ ?_ ?_ rfl)
  ·simp[vw]
  ·simp[vw,qi,qe,qc]
  ·simp
 | true =>
  simp only[↓vS,vT,simprocAttr];refine (h3 p.fams q.fams (by omega)).sc ?_;cases k2:decide (p.fams=q.fams) with
  | false =>
   simp only[↓vS,vT,simprocAttr];refine go false (by simp[k2]) (Wk.mk _ _ [0,1] ?_ ?_ ?_ rfl)
   ·simp[vw]
   ·simp[vw,qi,qe,qc]
   ·simp
  | true =>
   simp only[↓vS,vT,simprocAttr];refine (h1 p.filter q.filter (by omega)).sc ?_;cases k3:Jw p.filter q.filter with
   | false =>
    simp only[↓vS,vT,simprocAttr];refine go false (by simp[k3]) (Wk.mk _ _ [0,1] ?_ ?_ ?_ rfl)
    ·simp[vw]
    ·simp[vw,qi,qe,qc]
    ·simp
   | true =>
    simp only[↓vS,vT,simprocAttr];refine (h1 p.log q.log (by omega)).sc ?_;simp only[↓vS,vT,simprocAttr];refine go (Jw p.log q.log) (by rw[k1,k2,k3];simp) (Wk.mk _ _ [0,1] ?_ ?_ ?_ rfl)
    ·simp[vw]
    ·simp[vw,qi,qe,qc]
    ·simp
def xu:IFn:=⟨[.tmp 4],.seq (.r [.m 4 (.k 0)]) (.seq (.seq (.r [.n 6 0,.e 7 6,.m 8 (.k 0)]) (.blk 0 (.loop (.seq (.r [.s 9 8 7]) (.seq (.cond (.t 9) (.skip) (.exit 0)) (.seq (.blk 1 (.seq (.r [.n 10 8,.n 5 10]) (.seq (.r [.n 11 1,.n 12 0,.n 13 5,.i 14 4 12 13,.v 15 4 14,⟨(some 16),.callV (.t 11) [.t 15],none⟩]) (.cond (.t 16) (.seq (.r [.n 17 5,.n 4 17]) (.ret)) (.skip))))) (.r [.a 18 8 1,.n 8 18]))))))) (.seq (.r [.q 4 (.mov (.c (.i .i64 (-1))))]) (.ret)))⟩
theorem qe8(hc:qk P f xu=true):Zv 4 P f:=by
 intro α enc p g a c l hlen ha hc' hl hp;refine qd.mk hc (by simp[qx,clo,ha,hc']) ?_;simp only[xu,vI,simprocAttr];simp only[↓vS,vT,simprocAttr];refine SL.loop (α:=Nat) (fun j=>[(0,.fz l.length (l.flatMap enc)),(1,.fn g a c),(7,.i .i64 l.length),(8,.i .i64 j)]) (fun _=>[]) (fun j=>j<=l.length∧jc p l 0=jc p (l.drop j) j) (fun j=>l.length-j) 0 [] ?_ ?_ ?_ rfl ?_ ?_
 ·simp[vw,qa,ha,hc']
 ·trivial
 ·simp
 ·simp
 rintro j ⟨hj,hI⟩ G ih;simp only[vI,simprocAttr]
 by_cases hlt:j<l.length
 ·have hx:l[j]?=some l[j]:=List.getElem?_eq_getElem hlt;have hw:IntKind.wrap .i64 ((j:Int)+1)=(j:Int)+1:=qq (by omega) (by have:=hl;simp only[qf] at this;omega)
  have he:=xJ hlen hx;have hb:j*4+4<=(l.flatMap enc).length:=by rw[zX hlen];omega
  rw[List.drop_eq_getElem_cons hlt,jc] at hI;simp only[↓vS,vT,simprocAttr,hlt,hb,he,hw];refine (hp l[j] (List.getElem_mem hlt)).sc ?_
  by_cases hpx:p l[j]=true
  ·rw[if_pos hpx] at hI;simp only[↓vS,vT,simprocAttr,hpx,vZ,hI]
  ·rw[if_neg hpx] at hI;simp only[↓vS,vT,simprocAttr,hpx,hw];refine ih (j+1) ⟨by omega,hI⟩ (by omega) _ _ (Wk.mk _ _ [] ?_ ?_ ?_ rfl)
   ·simp[vw,qa,ha,hc']
   ·trivial
   ·simp
 ·simp only[↓vS,vT,simprocAttr,hlt];rw[List.drop_eq_nil_of_le (by omega)] at hI;simp[hI,jc,vZ]
def z7(a:Nat):IFn:=⟨[.tmp 4],.seq (.r [.m 4 .F]) (.seq (.r [.n 5 0,.n 6 1,.l 7 a [.t 5,.t 6],.w 8 .geq 7 0,.n 4 8]) (.ret))⟩
theorem qhY{g:Nat}(hc:qk P f (z7 g)=true)(h:Zv 4 P g)(l:List GNote)(k:Nat)(p:GNote->Bool)(hk:∀c,qd P k [.agg (wS c)] (.b (p c)))(hl:l.length<=qf):qd P f [.fz l.length (rN l),.fn k [] []] (.b (l.any p)):=by
 refine qd.mk hc (by simp[qx,clo,qb]) ?_;simp only[z7,vI,simprocAttr];simp only[↓vS,vT,simprocAttr];refine (h wS p k [] [] l XV rfl rfl hl fun x _=>hk x).sc ?_
 simp only[↓vS,vT,simprocAttr];simp[vZ,← qaU p l 0]
def Qm(a:Nat):IFn:=⟨[.tmp 2],.seq (.r [.q 1 (.box (.t 0)),.m 2 .F]) (.seq (.r [.f 3 2 1,.d 4 3,.l 5 a [.t 4],.q 6 (.un .not (.t 5)),.n 2 6]) (.ret))⟩
theorem qrq{g:Nat}(hc:qk P f (Qm g)=true)(hg:∀x,qd P g [.i .i64 x] (.b (kP x)))(n:GNote):qd P f [.agg (wS n)] (.b (!kP n.err)):=by
 refine qd.mk hc rfl ?_;simp only[Qm,wS,vI,simprocAttr];simp only[↓vS,vT,simprocAttr];refine (hg n.err).sc ?_;simp only[↓vS,vT,simprocAttr];simp[vZ]
def Zf(a b:Nat):IFn:=⟨[.tmp 2],.seq (.r [.m 2 .F]) (.seq (.r [.n 3 0,.l 4 a [.t 3,(.c (.fn b [] []))],.n 2 4]) (.ret))⟩
theorem qsy{g1 g2:Nat}(hc:qk P f (Zf g1 g2)=true)(h1:∀(l:List GNote) (k:Nat) (p:GNote->Bool),(∀c,qd P k [.agg (wS c)] (.b (p c)))->l.length<=qf->qd P g1 [.fz l.length (rN l),.fn k [] []] (.b (l.any p)))
  (h2:∀n,qd P g2 [.agg (wS n)] (.b (!kP n.err))) (l:List GNote) (hl:l.length<=qf):qd P f [.fz l.length (rN l)] (.b (xG l)):=by
 refine qd.mk hc (by simp[qx,clo,qb]) ?_;simp only[Zf,vI,simprocAttr];simp only[↓vS,vT,simprocAttr];refine (h1 l g2 _ h2 hl).sc ?_;simp only[↓vS,vT,simprocAttr];simp[vZ,xG]
end Go.Kc
end
section
/- What policy.do and policy.Resolve answer. Condition: the functions' texts are these. -/
namespace Go.Kc
variable {P:Program} {f:Nat}
theorem qaB(a:Asg):(qF a).length=5:=rfl
def rA(l:List Asg):List AV:=l.flatMap qF
section
variable {l m:List Asg} {j:Nat}
theorem qjo:(rA l).length=l.length*5:=zX qaB l
theorem jy:qx (rA l)=true:=kT fun _=>rfl
theorem qr8:qJ (rA l)=true:=JB fun _=>rfl
theorem qar{c:Asg}(h:l[j]?=some c):((rA l).drop (j*5)).take 5=qF c:=xJ qaB h
theorem qjn{c:Asg}(h:l[j]?=some c){i:Nat}(hi:i<5):(rA l)[j*5+i]?=(qF c)[i]?:=Qh qaB h hi
theorem Ws(h:j<l.length):j*5+5<=(rA l).length:=by rw[qjo];omega
end
def yv(a:Asg)(u:List UInt8):GNote:=⟨a.file,a.line,100,u.take 60⟩
def yD(a b c d:Nat):ICode:=.seq (.reg true [.v 33 13 2,.f 34 0 3,.d 35 34,.f 36 1 3,.d 37 36,.n 38 6,.n 39 6,.q 40 (.len true (.t 39)),.q 41 (.min (.t 40) (.k 60)),.q 42 (.slcStr (.t 38) none (some (.t 41))),.q 43 (.build [.s [],.i .i64 0,.i .i64 0,.s []] [(0,1,(.t 35)),(1,1,(.t 37)),(2,1,(.k 100)),(3,1,(.t 42))]),.q 44 (.buildS 1 [.s [],.i .i64 0,.i .i64 0,.s []] [(0,4,(.t 43))]),.u (.storeD 13 (.t 4) (.t 33) [34,36]),.n 5 44]) (.ret)
def Wm(a b c d:Nat):IFn:=⟨[.cell 4 13 true,.tmp 5],.seq (.r [.q 2 (.box (.t 0)),.q 3 (.box (.t 1)),.q 4 (.alloc [.nils,.i .u8 0,.nils,.i .u32 0,.i .u8 0,.nils,.nils,.i .u8 0,.i .u64 0,.b false,.b false,.b false,.b false]),.m 5 .N]) (.seq (.r [.f 7 3 3,.d 8 7,.n 6 8]) (.seq (.blk 0 (.seq (.r [.f 10 2 3,.d 11 10,.q 12 (.bin .neq (.t 11) (.c (.s [83,101,114,118,105,99,101]))),.n 9 12]) (.cond (.t 9) (.r [.f 13 2 3,.d 14 13,.n 6 14]) (.seq (.r [.f 16 3 3,.d 17 16,.l 18 a [.t 17],.n 15 18]) (.cond (.t 15) (.seq (.r [.v 19 13 2,.v 20 5 3,.l 21 b [.t 19,.t 20],.x 22 21 0,.x 23 21 1,.u (.store 13 (.t 4) (.t 22)),.n 5 23]) (.ret)) (.seq (.r [.f 25 3 3,.d 26 25,.l 27 c [.t 26],.n 24 27]) (.cond (.t 24) (.seq (.r [.v 28 13 2,.v 29 5 3,.l 30 d [.t 28,.t 29],.x 31 30 0,.x 32 30 1,.u (.store 13 (.t 4) (.t 31)),.n 5 32]) (.ret)) (.skip)))))))) (.cut (yD a b c d))))⟩
theorem qmJ(g1 g2 g3 g4:Nat)(p:Pol)(a:Asg)(u:List UInt8){t':Tr AV}{h':Hp}(hw:Wk 0 t' h' (mkT [(2,.ptr 0 0),(3,.ptr 1 0),(4,.ptr 2 0),(6,.s u)]) (mkH 0 [.cells 0 true false (qi p),.cells 0 true false (qF a),.cells 0 true false xw])) :
  S P 0 (yD g1 g2 g3 g4) (xg [.cell 4 13 true,.tmp 5] fun v' h'=>Frz h' v' (.tup [.agg (qi p),.fz 1 (rN [yv a u])])) t' h':=by
 refine S.weak hw (qr ?_);simp only[yD,qi,qF,xw,vI,simprocAttr];refine qW ?_;have e:rN [yv a u]=[AV.s a.file,.i .i64 a.line,.i .i64 100,.s (u.take 60)]:=rfl;rw[e]
 by_cases h60:(60:Int)<u.length
 ·have h1:60<=u.length:=by omega
  simp (decide:=true) only [↓vS,vT,simprocAttr,h60,h1,List.drop_zero];simp[vZ,vP,Tr.get_set,qi,qe,qn,qb,qc];refine Frz.cut 4 rfl (Nat.le_refl _) ?_;simp[vP,Tr.get_set,vZ]
 ·have h1:u.take 60=u:=List.take_of_length_le (by omega);rw[h1];simp (decide:=true) only [↓vS,vT,simprocAttr,h60,List.take_length,List.drop_zero];simp[vZ,vP,Tr.get_set,qi,qe,qn,qb,qc];refine Frz.cut 4 rfl (Nat.le_refl _) ?_;simp[vP,Tr.get_set,vZ]
def cDo(E:List UInt8->List (List UInt8)×Int)(P:Program)(f:Nat):Prop:=∀(p:Pol) (a:Asg),PI p->a.val.length<=1000->
 qd P f [.agg (qi p),.agg (qF a)] (.tup [.agg (qi (doM E p a).1),.fz (doM E p a).2.length (rN (doM E p a).2)])
theorem qsv{E:List UInt8->List (List UInt8)×Int}{g1 g2 g3 g4:Nat}(hc:qk P f (Wm g1 g2 g3 g4)=true)(h1:∀k,qd P g1 [.s k] (.b (Jd k)))(h2:qmF E P g2)(h3:∀k,qd P g3 [.s k] (.b (qbE k)))(h4:qrd P g4):cDo E P f:=by
 intro p a hp hv;refine qd.mk hc rfl ?_;generalize hT:AV.tup [.agg (qi (doM E p a).1),.fz (doM E p a).2.length (rN (doM E p a).2)]=tgt;simp only[Wm,qi,qF,vI,simprocAttr]
 by_cases n0:a.sec=qa0
 ·have n0':a.sec=[83,101,114,118,105,99,101]:=n0;simp (decide:=true) only [↓vS,vT,simprocAttr,n0',ne_eq,not_true_eq_false];refine (h1 a.key).sc ?_;cases k1:Jd a.key with
  | true =>
   have hM:doM E p a=((jw E p a.key a.val).1,(jw E p a.key a.val).2.map (z0 a)):=by unfold doM;rw[if_neg (by simp[n0]),if_pos k1]
   subst hT;rw[hM];simp (decide:=true) only [↓vS,vT,simprocAttr];have:=(h2 p a hp.ok ⟨hp.f0,hp.l0⟩ hv);simp only[qi,qF,n0'] at this;refine this.sc ?_;simp (decide:=true) only [↓vS,vT,simprocAttr,qi];simp[vZ,vP,Tr.get_set,qi,qe,qn,qb,qc]
  | false =>
   simp (decide:=true) only [↓vS,vT,simprocAttr];refine (h3 a.key).sc ?_;cases k2:qbE a.key with
   | true =>
    have hM:doM E p a=((xe p a.key a.val).1,(xe p a.key a.val).2.map (qm a)):=by unfold doM;rw[if_neg (by simp[n0]),if_neg (by simp[k1]),if_pos k2]
    subst hT;rw[hM];simp (decide:=true) only [↓vS,vT,simprocAttr];have:=(h4 p a hp.ok hv);simp only[qi,qF,n0'] at this;refine this.sc ?_;simp (decide:=true) only [↓vS,vT,simprocAttr,qi];simp[vZ,vP,Tr.get_set,qi,qe,qn,qb,qc]
   | false =>
    have hM:doM E p a=(p,[yv a a.key]):=by unfold doM;rw[if_neg (by simp[n0]),if_neg (by simp[k1]),if_neg (by simp[k2])];rfl
    subst hT;rw[hM];simp (decide:=true) only [↓vS,vT,simprocAttr];refine qmJ g1 g2 g3 g4 p a a.key (Wk.mk _ _ [0,1,2] ?_ ?_ ?_ rfl)
    ·simp[vw]
    ·simp[vw,qi,qF,xw,qa,qe,qc,n0']
     try decide
    ·simp
 ·have n0':¬a.sec=[83,101,114,118,105,99,101]:=n0;have hM:doM E p a=(p,[yv a a.sec]):=by unfold doM;rw[if_pos n0];rfl
  subst hT;rw[hM];simp (decide:=true) only [↓vS,vT,simprocAttr,n0',ne_eq,not_false_eq_true];refine qmJ g1 g2 g3 g4 p a a.sec (Wk.mk _ _ [0,1,2] ?_ ?_ ?_ rfl)
  ·simp[vw]
  ·simp[vw,qi,qF,xw,qa,qe,qc]
   try decide
  ·simp
def Jt:IFn:=⟨[.cell 0 13 true],.seq (.r [.q 0 (.alloc [.nils,.i .u8 0,.nils,.i .u32 0,.i .u8 0,.nils,.nils,.i .u8 0,.i .u64 0,.b false,.b false,.b false,.b false])]) (.seq (.r [.q 1 (.build [.nils,.i .u8 0,.nils,.i .u32 0,.i .u8 0,.nils,.nils,.i .u8 0,.i .u64 0,.b false,.b false,.b false,.b false] [(3,1,(.c (.i .u32 2147483648)))]),.u (.store 13 (.t 0) (.t 1))]) (.ret))⟩
theorem qrT(hc:qk P f Jt=true):qd P f [] (.agg (qi Wp)):=by
 refine qd.mk hc rfl ?_;simp only[Jt,vI,simprocAttr];simp (decide:=true) only [↓vS,vT,simprocAttr];simp[vZ,qi,Wp,vg,rI,rC]
noncomputable def jV(E:List UInt8->List (List UInt8)×Int)(l:List Asg)(j:Nat):Pol×List GNote:=(l.take j).foldl (doS E) (Wp,[])
theorem qaP{E:List UInt8->List (List UInt8)×Int}{l:List Asg}{j:Nat}{a:Asg}(h:l[j]?=some a):jV E l (j+1)=doS E (jV E l j) a:=by
 unfold jV;rw[List.take_add_one,h,List.foldl_append];rfl
def qfP(E:List UInt8->List (List UInt8)×Int)(P:Program)(f:Nat):Prop:=∀l:List Asg,l.length<=90->(∀a ∈ l,a.val.length<=1000)->
 qd P f [.fz l.length (rA l)] (.tup [.agg (qi (Qv E l).1),.fz (Qv E l).2.length (rN (Qv E l).2)])
def wq(a b c:Nat):ICode:=.seq (.seq (.r [.n 28 5,.l 29 c [.t 28]]) (.cond (.t 29) (.seq (.r [.q 30 (.build [.nils,.i .u8 0,.nils,.i .u32 0,.i .u8 0,.nils,.nils,.i .u8 0,.i .u64 0,.b false,.b false,.b false,.b false] []),.n 31 5,.u (.store 13 (.t 2) (.t 30)),.n 3 31]) (.ret)) (.skip))) (.seq (.r [.v 32 13 4,.n 33 5,.u (.store 13 (.t 2) (.t 32)),.n 3 33]) (.ret))
def QE(a b c:Nat):IFn:=⟨[.cell 2 13 true,.tmp 3],.seq (.r [.q 2 (.alloc [.nils,.i .u8 0,.nils,.i .u32 0,.i .u8 0,.nils,.nils,.i .u8 0,.i .u64 0,.b false,.b false,.b false,.b false]),.m 3 .N]) (.seq (.r [.l 10 a [],.q 4 (.alloc [.nils,.i .u8 0,.nils,.i .u32 0,.i .u8 0,.nils,.nils,.i .u8 0,.i .u64 0,.b false,.b false,.b false,.b false]),.u (.store 13 (.t 4) (.t 10))]) (.seq (.r [.m 5 .N]) (.seq (.seq (.r [.n 11 0,.e 12 11,.m 13 (.k 0)]) (.blk 0 (.loop (.seq (.r [.s 14 13 12]) (.seq (.cond (.t 14) (.skip) (.exit 0)) (.seq (.blk 1 (.seq (.r [.i 15 5 11 13,.v 16 5 15,.q 7 (.alloc [.s [],.i .i64 0,.s [],.s [],.s []]),.u (.store 5 (.t 7) (.t 16))]) (.seq (.r [.v 18 13 4,.v 19 5 7,.l 20 b [.t 18,.t 19],.n 17 20,.x 21 17 0,.x 22 17 1,.q 8 (.alloc [.nils,.i .u8 0,.nils,.i .u32 0,.i .u8 0,.nils,.nils,.i .u8 0,.i .u64 0,.b false,.b false,.b false,.b false]),.u (.store 13 (.t 8) (.t 21)),.n 9 22]) (.reg true [.v 23 13 8,.n 24 5,.n 25 9,.q 26 (.appD 4 48 (.t 24) (.t 25) [8]),.u (.store 13 (.t 4) (.t 23)),.n 5 26])))) (.r [.a 27 13 1,.n 13 27]))))))) (.cut (wq a b c)))))⟩
theorem qps{E:List UInt8->List (List UInt8)×Int}{g1 g2 g3:Nat}(h3:∀l:List GNote,l.length<=qf->qd P g3 [.fz l.length (rN l)] (.b (xG l)))(l:List Asg)(p:Pol)(ns:List GNote)(hns:ns.length<=100000)(hl:Zb E l=(p,ns)){t':Tr AV}{h':Hp}
  (hw:Wk 0 t' h' (mkT [(2,.ptr 0 0),(4,.ptr 1 0),(5,.fz ns.length (rN ns))]) (mkH 0 [.cells 0 true false xw,.cells 0 true false (qi p)])) :
  S P 0 (wq g1 g2 g3) (xg [.cell 2 13 true,.tmp 3] fun v' h'=>Frz h' v' (.tup [.agg (qi (Qv E l).1),.fz (Qv E l).2.length (rN (Qv E l).2)])) t' h':=by
 refine S.weak hw (qr ?_);simp only[wq,qi,xw,vI,simprocAttr];simp only[↓vS,vT,simprocAttr];refine (h3 ns (by simp only[qf];omega)).sc ?_;cases k:xG ns with
 | true =>
  have e:Qv E l=(vg,ns):=by unfold Qv;rw[hl,if_pos k]
  rw[e];simp (decide:=true) only [↓vS,vT,simprocAttr];simp[vZ,vP,Tr.get_set,qi,vg,rI,rC,qn,qb]
 | false =>
  have e:Qv E l=(p,ns):=by unfold Qv;rw[hl,if_neg (by simp[k])]
  rw[e];simp (decide:=true) only [↓vS,vT,simprocAttr];simp[vZ,vP,Tr.get_set,qi,qe,qn,qb,qc]
theorem qsa{E:List UInt8->List (List UInt8)×Int}{g1 g2 g3:Nat}(hE:wQ E)(hc:qk P f (QE g1 g2 g3)=true)(h1:qd P g1 [] (.agg (qi Wp)))(h2:cDo E P g2)(h3:∀l:List GNote,l.length<=qf->qd P g3 [.fz l.length (rN l)] (.b (xG l))):qfP E P f:=by
 intro l hl hv;refine qd.mk hc (by simp[qx,clo,jy]) ?_;simp only[QE,vI,simprocAttr];simp only[↓vS,vT,simprocAttr];refine h1.sc ?_;simp (decide:=true) only [↓vS,vT,simprocAttr,qi]
 refine SL.loop (α:=Nat) (fun j=>[(2,.ptr 0 0),(4,.ptr 1 0),(5,.own 2 (jV E l j).2.length),(11,.fz l.length (rA l)),(12,.i .i64 l.length),(13,.i .i64 j)])
  (fun j=>[.cells 0 true false xw,.cells 0 true false (qi (jV E l j).1),.cells 4 true true (rN (jV E l j).2)]) (fun j=>j<=l.length) (fun j=>l.length-j) 0 [0,1,99] ?_ ?_ ?_ rfl ?_ ?_
 ·simp[vw,jy,jV]
 ·simp[vw,xw,qi,jV,Wp,vg,rI,rC,rN,qa]
  try decide
 ·simp
 ·exact Nat.zero_le _
 rintro j hj G ih;have hinv:PI (jV E l j).1:=qah hE _ _ PI.new
 have hlen:(jV E l j).2.length<=1001*j:=by
  have:=qai E (l.take j) (Wp,[]) fun a ha=>hv a (List.mem_of_mem_take ha)
  simp at this;unfold jV;have h2:min j l.length<=j:=Nat.min_le_left _ _;have:=Nat.le_trans this (Nat.mul_le_mul_left 1001 h2);simpa using this
 simp only[vI,simprocAttr,xw]
 by_cases hlt:j<l.length
 ·have hx:l[j]?=some l[j]:=List.getElem?_eq_getElem hlt;have hw:IntKind.wrap .i64 ((j:Int)+1)=((j+1:Nat):Int):=by rw[qq (by omega) (by omega)];omega
  have he:=qar hx;have hb:=Ws hlt;have hva:=hv _ (List.getElem_mem hlt);have hnext:=qaP (E:=E) hx;have ih2:=ih (j+1);rw[hnext] at ih2;generalize jV E l j=s at hinv hlen ih2;obtain⟨p,ns⟩:=s;dsimp only at hinv hlen ih2 ⊢;generalize l[j]=a at he hva ih2;have hdl:=qcs E p a;simp only[doS] at ih2;have hr1:ns.length+(doM E p a).2.length<=qf:=by simp only[qf];omega
  have hr2:(ns.length+(doM E p a).2.length)*48<=qf:=by simp only[qf];omega
  simp (decide:=true) only [↓vS,vT,simprocAttr,hlt,he,hb,qF,qi];refine (h2 p a hinv hva).sc ?_;generalize doM E p a=r at ih2 hdl hr1 hr2;obtain⟨q,new⟩:=r;dsimp only at ih2 hdl hr1 hr2 ⊢;simp (decide:=true) only [↓vS,vT,simprocAttr,qi];refine qW ?_;have htk:(rN new).take (new.length*4)=rN new:=List.take_of_length_le (by rw[jq];omega);have htk2:(rN ns).take (ns.length*4)=rN ns:=List.take_of_length_le (by rw[jq];omega);have hap:rN ns++rN new=rN (ns++new):=yd;have hla:ns.length+new.length=(ns++new).length:=by simp
  simp (decide:=true) only [↓vS,vT,simprocAttr,qi,hr1,hr2,htk,htk2,qm4,jq,hap,hw];refine ih2 (by omega) (by omega) _ _ (Wk.mk _ _ [0,1,5] ?_ ?_ ?_ rfl)
  ·simp[vw,jy]
  ·simp[vw,xw,qi,qa,qe,qc,qb]
   try decide
  ·simp
 ·have hj':j=l.length:=by omega
  subst hj';have e:jV E l l.length=Zb E l:=by unfold jV Zb;rw[List.take_length]
  rw[e] at hlen ⊢;generalize hp:Zb E l=s at hlen;obtain⟨p,ns⟩:=s;dsimp only at hlen ⊢;clear ih;simp only[↓vS,vT,simprocAttr,hlt,qi];refine S.weak (Wk.mk [(2,.ptr 0 0),(4,.ptr 1 0),(5,.own 2 ns.length)] [.cells 0 true false xw,.cells 0 true false (qi p),.cells 4 true true (rN ns)] [0,1,2] ?_ ?_ ?_ rfl) ?_
  ·simp[vw]
  ·simp[vw,xw,qi,qa,qe,qc,qb]
   try decide
  ·simp
  refine S.weak (Wk.freeze 2 4 4 rfl qb (Nat.zero_le _) (by simp)) ?_;refine qps h3 l p ns (by omega) hp (Wk.mk _ _ [0,1] ?_ ?_ ?_ rfl)
  ·simp[vw,mkT,fzv,jT]
   try (intro h0;rw[h0];rfl)
  ·simp[vw,mkH,trL,fzB,jT,fzv,qi,xw,qa,qe,qc]
   try decide
  ·simp[mkH]
end Go.Kc
end
section
/- PolicyOther: what the law answers. Condition: the functions' texts are these. -/
namespace Go.Kc
variable {P:Program} {f:Nat}
def Ji(a:Asg):Bool:=ja vg a||decide (200<a.sec.length)
def W5(l:List Asg):Nat:=(l.map fun a=>a.val.length).sum
def wD(l:List Asg):Bool:=decide (60<l.length)||l.any Ji||decide (6000<W5 l)
theorem Xq{p:Pol}{a:Asg}(h:ja p a=false):a.val.length<=1000:=by
 simp only[ja,Bool.or_eq_false_iff,decide_eq_false_iff_not] at h;omega
theorem qgZ{l:List Asg}{j:Nat}{a:Asg}(h:l[j]?=some a):W5 (l.take (j+1))=W5 (l.take j)+a.val.length:=by
 unfold W5;rw[List.take_add_one,h];simp
theorem qms{l:List Asg}(h:∀a ∈ l,a.val.length<=1000):W5 l<=1000*l.length:=by
 induction l with
 | nil=>simp[W5]
 | cons a l ih =>
  have h1:=ih fun x hx=>h x (by simp[hx])
  have h2:=h a (by simp);unfold W5 at *;simp only[List.map_cons,List.sum_cons,List.length_cons];omega
theorem qee{l:List Asg}(h:wD l=false):l.length<=60∧(∀a ∈ l,a.val.length<=1000)∧∀a ∈ l,ja vg a=false:=by
 simp only[wD,Bool.or_eq_false_iff,decide_eq_false_iff_not,List.any_eq_false] at h;obtain⟨⟨h1,h2⟩,_⟩:=h
 have h3:∀a ∈ l,ja vg a=false:=fun a ha=>by
  have:=h2 a ha;simp only[Ji,Bool.or_eq_true,not_or,Bool.not_eq_true] at this;exact this.1
 exact⟨by omega,fun a ha=>Xq (h3 a ha),h3⟩
def vt(a:Nat):IFn:=⟨[.tmp 2],.seq (.r [.m 2 .F]) (.seq (.seq (.r [.n 5 0,.e 6 5,.w 7 .gtr 6 60]) (.cond (.t 7) (.seq (.r [.m 2 .T]) (.ret)) (.skip))) (.seq (.r [.m 3 (.k 0)]) (.seq (.seq (.r [.m 4 (.k 0)]) (.blk 0 (.loop (.seq (.seq (.r [.n 8 4,.n 9 0,.e 10 9,.s 11 8 10]) (.cond (.t 11) (.skip) (.exit 0))) (.seq (.blk 1 (.seq (.seq (.r [.q 14 (.build [.nils,.i .u8 0,.nils,.i .u32 0,.i .u8 0,.nils,.nils,.i .u8 0,.i .u64 0,.b false,.b false,.b false,.b false] []),.n 15 0,.n 16 4,.i 17 5 15 16,.v 18 5 17,.l 19 a [.t 14,.t 18],.n 20 19,.z 21 0 20,.z 22 4 20,.g 23 (.iAddrS 5 (.t 21) (.t 22)) 20 false,.h 24 2 23 20 false,.j 25 24 20 false,.g 26 (.len true (.t 25)) 20 false,.g 27 (.bin .gtr (.t 26) (.k 200)) 20 false,.o 28 20 27]) (.cond (.t 28) (.seq (.r [.m 2 .T]) (.ret)) (.skip))) (.r [.n 29 3,.n 30 0,.n 31 4,.i 32 5 30 31,.f 33 4 32,.d 34 33,.q 35 (.len true (.t 34)),.b 36 .add 29 35,.n 3 36]))) (.r [.n 12 4,.a 13 12 1,.n 4 13])))))) (.seq (.r [.n 37 3,.w 38 .gtr 37 6000,.n 2 38]) (.ret)))))⟩
theorem qlg{g:Nat}(hc:qk P f (vt g)=true)(h1:∀p a,qd P g [.agg (qi p),.agg (qF a)] (.b (ja p a)))(l:List Asg):qd P f [.fz l.length (rA l)] (.b (wD l)):=by
 have h1z:∀a,qd P g [.agg [.nils,.i .u8 0,.nils,.i .u32 0,.i .u8 0,.nils,.nils,.i .u8 0,.i .u64 0,.b false,.b false,.b false,.b false],.agg (qF a)] (.b (ja vg a)):=fun a=>(h1 vg a).coe fun h=>by
  simp[vZ,qi,vg,rI,rC,qF]
 refine qd.mk hc (by simp[qx,clo,jy]) ?_;simp only[vt,vI,simprocAttr]
 by_cases k1:(60:Int)<l.length
 ·have hw:wD l=true:=by simp[wD,(by omega:60<l.length)]
  simp only[↓vS,vT,simprocAttr,k1];simp[vZ,hw]
 simp only[↓vS,vT,simprocAttr,k1];refine SL.loop (α:=Nat) (fun j=>[(0,.fz l.length (rA l)),(3,.i .i64 (W5 (l.take j):Nat)),(4,.i .i64 j)]) (fun _=>[]) (fun j=>j<=l.length∧∀a ∈ l.take j,Ji a=false) (fun j=>l.length-j) 0 [] ?_ ?_ ?_ rfl ?_ ?_
 ·simp[vw,jy,W5]
 ·trivial
 ·simp
 ·exact⟨Nat.zero_le _,by simp⟩
 rintro j ⟨hj,hI⟩ G ih;simp only[vI,simprocAttr]
 by_cases hlt:j<l.length
 ·have hx:l[j]?=some l[j]:=List.getElem?_eq_getElem hlt;have hw:IntKind.wrap .i64 ((j:Int)+1)=((j+1:Nat):Int):=by rw[qq (by omega) (by omega)];omega
  have he:=qar hx;have hb:=Ws hlt;have hsum:=qgZ hx
  have hle:W5 (l.take j)<=1000*j:=by
   have h2:=qms (l:=l.take j) fun a ha=>by
    have:=hI a ha;simp only[Ji,Bool.or_eq_false_iff] at this;exact Xq this.1
   have h3:(l.take j).length=j:=by simp;omega
   rw[h3] at h2;exact h2
  have hin:l[j] ∈ l:=List.getElem_mem hlt;have g2:(rA l)[j*5+2]?=some (.s l[j].sec):=qjn hx (i:=2) (by decide);have g4:(rA l)[j*5+4]?=some (.s l[j].val):=qjn hx (i:=4) (by decide);generalize ha:l[j]=a at he hsum g2 g4 hin hx;simp (decide:=true) only [↓vS,vT,simprocAttr,hlt,he,hb];refine (h1z a).sc ?_;cases k2:ja vg a with
  | true =>
   have hw:wD l=true:=by
    have:l.any Ji=true:=List.any_eq_true.2 ⟨a,hin,by simp[Ji,k2]⟩
    simp[wD,this]
   simp only[↓vS,vT,simprocAttr];simp[vZ,hw]
  | false =>
   by_cases k3:(200:Int)<a.sec.length
   ·have hw:wD l=true:=by
     have:l.any Ji=true:=List.any_eq_true.2 ⟨a,hin,by simp[Ji,(by omega:200<a.sec.length)]⟩
     simp[wD,this]
    simp (decide:=true) only [↓vS,vT,simprocAttr,hlt,g2,k3];simp[vZ,hw]
   ·have hv:=Xq k2;have hw2:IntKind.wrap .i64 ((W5 (l.take j):Nat)+(a.val.length:Int))=((W5 (l.take (j+1)):Nat):Int):=by rw[hsum,qq (by omega) (by omega)];omega
    simp (decide:=true) only [↓vS,vT,simprocAttr,hlt,g2,g4,k3,hw,hw2];refine ih (j+1) ⟨by omega,fun b hb=>?_⟩ (by omega) _ _ (Wk.mk _ _ [] ?_ ?_ ?_ rfl)
    ·rw[List.take_add_one,hx] at hb;rcases List.mem_append.1 hb with hb|hb
     ·exact hI b hb
     ·simp at hb;subst hb;simp[Ji,k2];omega
    ·simp[vw,jy]
    ·trivial
    ·simp
 ·have hjl:l.take j=l:=List.take_of_length_le (by omega);rw[hjl] at hI ⊢;have hany:l.any Ji=false:=List.any_eq_false.2 fun a ha=>by simp[hI a ha]
  have e:wD l=decide ((6000:Int)<(W5 l:Nat)):=by
   unfold wD;rw[hany,decide_eq_false (by omega:¬60<l.length)];simp only[Bool.or_self,Bool.false_or];exact decide_eq_decide.2 ⟨by omega,by omega⟩
  rw[e];simp only[↓vS,vT,simprocAttr,hlt];simp[vZ]
variable {E:List UInt8->List (List UInt8)×Int}
section
variable {g1 g2 g3 g4:Nat}
end
end Go.Kc
end
