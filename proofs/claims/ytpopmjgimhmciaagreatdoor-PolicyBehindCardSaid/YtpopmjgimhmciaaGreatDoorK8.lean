/- Part 8 of the abstract machine and of the functions' walks. Conditions: with each theorem. -/
import Derived.Test.YtpopmjgimhmciaaGreatDoorK7
set_option linter.unusedSimpArgs false
set_option linter.unusedVariables false
set_option linter.unnecessarySimpa false
section
/- What the setter makes of families. Condition: the functions' texts are these. -/
namespace Go.Kc
variable {P:Program} {f:Nat}
def xe(s:List UInt8)(no:Int):List (List UInt8×Int)->Int×Int
 | []=>(0,no)
 | p::l=>if p.1=s then (p.2,0) else xe s no l
theorem qah(q:IntKind)(s:List UInt8)(no:Int):∀l,vV q s no l = .tup [.i q (xe s no l).1,.i .i64 (xe s no l).2]
 | []=>rfl
 | p::l=>by
  simp only[vV,xe];split
  ·rfl
  ·exact qah q s no l
def qZ(v:List UInt8):List UInt8×Bool:=if [126].isPrefixOf v=true then (v.drop 1,true) else (v,false)
theorem qaE(v:List UInt8):jF v [126] = .tup [.s (qZ v).1,.b (qZ v).2]:=by
 unfold jF qZ;split<;>rfl
theorem ZG(v:List UInt8):(qZ v).1.length<=v.length:=by
 unfold qZ;split<;>simp
def JK(s:List UInt8):Int×Int:=xe s 180 qn
def qfe(P:Program)(f:Nat):Prop:=∀s,qc P f [.s s] (vV .u32 s 180 qn)
def qcp(P:Program)(f:Nat):Prop:=∀s,qc P f [.s s] (jF s [126])
def xn(is:Bool)(s:List Int×List (Int×List UInt8))(w:List UInt8):List Int×List (Int×List UInt8) :=
 if (JK w).2=0 then (jl s.1 (JK w).1 is,s.2) else (s.1,s.2++[((JK w).2,w)])
def km:List UInt8:=[110,111,110,101]
def kT(m:Int)(t:Bool):Int:=if m=0 then (if t=true then 2 else 1) else m
def zb(p:Pol)(v:List UInt8):Pol×List (Int×List UInt8) :=
 if ql v=[] then ({ p with fams:=[],fmode:=0 },[])
 else if ql v=[km] then ({ p with fams:=[],fmode:=1 },[])
 else
  let r:=(ql (qZ v).1).foldl (xn ((qZ v).2==decide (kT p.fmode (qZ v).2=2))) (p.fams,[])
  ({ p with fams:=r.1,fmode:=kT p.fmode (qZ v).2 },r.2)
theorem VW(is:Bool)(ws:List (List UInt8)):∀s,(ws.foldl (xn is) s).1.length<=s.1.length+ws.length∧(ws.foldl (xn is) s).2.length<=s.2.length+ws.length:=by
 induction ws with
 | nil=>intro s;simp
 | cons w ws ih =>
  intro s;have h:=ih (xn is s w)
  have h2:(xn is s w).1.length<=s.1.length+1∧(xn is s w).2.length<=s.2.length+1:=by
   unfold xn;split
   ·exact⟨qch s.1 (JK w).1 is,by simp⟩
   ·simp
  simp only[List.foldl_cons,List.length_cons];omega
def zj(a b c d e:Nat):ICode:=.seq (.r [.n 63 4,.l 64 b [.t 63],.e 65 64,.m 66 (.k 0)]) (.blk 1 (.loop (.seq (.r [.s 67 66 65]) (.seq (.cond (.t 67) (.skip) (.exit 1)) (.seq (.blk 2 (.seq (.r [.i 68 1 64 66,.d 69 68,.n 8 69]) (.seq (.r [.n 71 8,.l 72 c [.t 71],.n 70 72,.x 73 70 0,.x 74 70 1,.n 9 73,.n 10 74]) (.seq (.r [.n 75 10,.w 76 .neq 75 0]) (.cond (.t 76) (.r [.n 77 0,.n 78 10,.n 79 8,.l 80 d [.t 77,.t 78,.t 79]]) (.reg true [.n 81 0,.n 82 0,.q 83 (.nilChk (.t 82)),.f 84 0 83,.f 85 6 84,.d 86 85,.n 87 9,.n 88 5,.n 89 0,.q 90 (.nilChk (.t 89)),.f 91 0 90,.f 92 7 91,.d 93 92,.q 94 (.bin .eql (.t 93) (.c (.i .u8 2))),.q 95 (.eqB false (.t 88) (.t 94)),.l 96 e [.t 86,.t 87,.t 95],.q 97 (.nilChk (.t 81)),.f 98 0 97,.f 99 6 98,.u (.store 1 (.t 99) (.t 96))])))))) (.r [.a 100 66 1,.n 66 100]))))))
def ww(a b c d e:Nat):IFn:=⟨[],.seq (.r [.n 12 1,.l 13 a [.t 12],.n 11 13,.x 14 11 0,.x 15 11 1,.n 4 14,.n 5 15]) (.seq (.seq (.r [.n 16 1,.l 17 b [.t 16],.n 6 17]) (.blk 0 (.seq (.r [.n 19 6,.e 20 19,.w 21 .eql 20 0,.n 18 21]) (.cond (.t 18) (.seq (.r [.n 22 0,.n 23 0,.q 24 (.nilChk (.t 22)),.f 25 0 24,.f 26 6 25,.u (.store 1 (.t 26) .N),.q 27 (.nilChk (.t 23)),.f 28 0 27,.f 29 7 28,.u (.store 1 (.t 29) (.c (.i .u8 0)))]) (.ret)) (.seq (.r [.n 31 6,.e 32 31,.w 33 .eql 32 1,.n 34 33,.y 35 6 34,.g 36 (.iAddrS 1 (.t 35) (.k 0)) 34 true,.j 37 36 34 true,.g 38 (.bin .eql (.t 37) (.c (.s [110,111,110,101]))) 34 true,.p 39 34 38,.n 30 39]) (.cond (.t 30) (.seq (.r [.n 40 0,.n 41 0,.q 42 (.nilChk (.t 40)),.f 43 0 42,.f 44 6 43,.u (.store 1 (.t 44) .N),.q 45 (.nilChk (.t 41)),.f 46 0 45,.f 47 7 46,.u (.store 1 (.t 47) (.c (.i .u8 1)))]) (.ret)) (.skip))))))) (.seq (.seq (.r [.n 48 0,.q 49 (.nilChk (.t 48)),.f 50 0 49,.f 51 7 50,.d 52 51,.q 53 (.bin .eql (.t 52) (.c (.i .u8 0)))]) (.cond (.t 53) (.seq (.r [.n 54 0,.q 55 (.nilChk (.t 54)),.f 56 0 55,.f 57 7 56,.u (.store 1 (.t 57) (.c (.i .u8 1)))]) (.seq (.r [.n 58 5]) (.cond (.t 58) (.r [.n 59 0,.q 60 (.nilChk (.t 59)),.f 61 0 60,.f 62 7 61,.u (.store 1 (.t 62) (.c (.i .u8 2)))]) (.skip)))) (.skip))) (.cut (zj a b c d e))))⟩
theorem qiF{g1 g2 g3 g4 g5:Nat}(h1:XG P g2)(h2:qfe P g3)(h3:Q6 P g4)(h4:qfk P g5)(p:Pol)(a:Asg)(ns:List GNote)(v:List UInt8)(t:Bool)(hv:v.length<=1000)(hn:ns.length<=1000)(ha:p.fams.length<=1000)
  (r:List Int×List (Int×List UInt8)) (hr:r=(ql v).foldl (xn (t==decide (p.fmode=2))) (p.fams,[])) :
  S P 2 (zj g1 g2 g3 g4 g5) (wE [] (ZK 2 (.tup []) (qw { p with fams:=r.1 } a ns (r.2.map (qN a))))) (mkT [(0,.ptr 0 0),(4,.s v),(5,.b t)]) (mkH 0 [.cells 0 true false (qF p a 1 ns.length),.cells 4 true true (rN ns)]):=by
 have hwl:=vc v;refine qq ?_;simp only[zj,qF,vI,simprocAttr];simp only[↓vS,vT,simprocAttr];refine (h1 v (by omega)).sc ?_;simp only[↓vS,vT,simprocAttr];generalize hfs:xn (t==decide (p.fmode=2))=fs at hr
 refine SL.loopn (α:=Nat) (fun j=>[(0,.ptr 0 0),(5,.b t),(64,.fz (ql v).length ((ql v).map .s)),(65,.i .i64 (ql v).length),(66,.i .i64 j)])
  (fun j=>qw { p with fams:=(((ql v).take j).foldl fs (p.fams,[])).1 } a ns ((((ql v).take j).foldl fs (p.fams,[])).2.map (qN a))) (fun j=>j<=(ql v).length) (fun j=>(ql v).length-j) 0 [0,1] ?_ ?_ ?_ rfl ?_ ?_ ?_ ?_
 ·simp[vw,qw]
 ·simp[vw,qa,qb,qw,qF];try decide
 ·simp[vw]
 ·simp[qw]
 ·intro b hb;have:b=0∨b=1:=by omega
  rcases this with rfl|rfl<;>rfl
 ·exact Nat.zero_le _
 rintro j hj G ih;have hlen:=VW (t==decide (p.fmode=2)) ((ql v).take j) (p.fams,[]);rw[hfs] at hlen;simp only[List.length_take,List.length_nil,Nat.zero_add] at hlen;generalize hrr:((ql v).take j).foldl fs (p.fams,[])=r1 at hlen ih ⊢
 by_cases hlt:j<(ql v).length
 ·have hx:(ql v)[j]?=some (ql v)[j]:=List.getElem?_eq_getElem hlt;have hwj:IntKind.wrap .i64 ((j:Int)+1)=(j:Int)+1:=qB (by omega) (by omega)
  have hnext:((ql v).take (j+1)).foldl fs (p.fams,[])=fs r1 (ql v)[j]:=by
   rw[List.take_add_one,hx,List.foldl_append,hrr];rfl
  generalize hww:(ql v)[j]=w at hx hnext;have ih2:=ih (j+1);rw[hnext,← hfs] at ih2;have sL:r1.1.length+1<=qf:=by simp only[qf];omega
  have sL8:(r1.1.length+1)*8<=qf:=by simp only[qf];omega
  have hfam:=qah .u32 w 180 qn
  by_cases hnew:r1.2.map (qN a)=[]
  ·have hr2:r1.2=[]:=List.map_eq_nil_iff.1 hnew;simp only[qw,if_pos hnew,qF,vI,simprocAttr];simp only[↓vS,vT,simprocAttr,hlt,hx,List.getElem?_map,Option.map_some,Nat.mul_one];refine (h2 w).sc ?_;rw[hfam]
   by_cases he:(JK w).2=0
   ·have he':(xe w 180 qn).2=0:=he;simp only[↓vS,vT,simprocAttr,he'];refine zQ ?_;simp only[↓vS,vT,simprocAttr];refine (h4 r1.1 (JK w).1 (t==decide (p.fmode=2)) sL sL8).pc ?_;simp only[↓vS,vT,simprocAttr,hwj];unfold xn at ih2;rw[if_pos he] at ih2;refine ih2 (by omega) (by omega) _ _ (Wk.mkn _ _ [0,1] ?_ ?_ ?_ rfl (by simp[qw,hnew]) ?_)
    ·simp[vw,qw,hr2]
    ·simp[vw,qa,qb,qw,qF,hr2];try decide
    ·simp[vw]
    ·intro b hb;have:b=0∨b=1:=by omega
     rcases this with rfl|rfl<;>rfl
   ·have he':¬(xe w 180 qn).2=0:=he;simp only[↓vS,vT,simprocAttr,he'];refine (h3 { p with fams:=r1.1 } a ns (JK w).2 w (by simp only[qf];omega)).sc (vs:=[.ptr 0 0,.i .i64 (JK w).2,.s w]) [0,1] (Lent.of (by decide) ?_) ?_
    ·simp[vL,vw,qF,qr qb,qe qb,qP,clo,qp]
    simp only[vK,simprocAttr,qF,qe qb,qp,clo];simp only[↓vS,vT,simprocAttr,hwj];unfold xn at ih2;rw[if_neg he] at ih2;refine ih2 (by omega) (by omega) _ _ (Wk.mkn _ _ [0,1,2] ?_ ?_ ?_ rfl (by simp[qw]) ?_)
    ·simp[vw,qw]
    ·simp[vw,qa,qb,qw,qF,hr2];try decide
    ·simp[vw]
    ·intro b hb;have:b=0∨b=1:=by omega
     rcases this with rfl|rfl<;>rfl
  ·have hr2n:¬r1.2=[]:=fun hh=>hnew (by rw[hh];rfl)
   have hnl:(ns++r1.2.map (qN a)).length<=2001:=by simp;omega
   simp only[qw,if_neg hnew,qF,vI,simprocAttr];generalize hN:ns++r1.2.map (qN a)=N at hnl ih2 ⊢;simp only[↓vS,vT,simprocAttr,hlt,hx,List.getElem?_map,Option.map_some,Nat.mul_one];refine (h2 w).sc ?_;rw[hfam]
   by_cases he:(JK w).2=0
   ·have he':(xe w 180 qn).2=0:=he;simp only[↓vS,vT,simprocAttr,he'];refine zQ ?_;simp only[↓vS,vT,simprocAttr];refine (h4 r1.1 (JK w).1 (t==decide (p.fmode=2)) sL sL8).pc ?_;simp only[↓vS,vT,simprocAttr,hwj];unfold xn at ih2;rw[if_pos he] at ih2;refine ih2 (by omega) (by omega) _ _ (Wk.mkn _ _ [0,1,2] ?_ ?_ ?_ rfl (by simp[qw,hnew]) ?_)
    ·simp[vw,qw,hr2n]
    ·simp[vw,qa,qb,qw,qF,hr2n,hN];try decide
    ·simp[vw,qw,hr2n]
    ·intro b hb;have:b=0∨b=1:=by omega
     rcases this with rfl|rfl<;>rfl
   ·have he':¬(xe w 180 qn).2=0:=he;simp only[↓vS,vT,simprocAttr,he'];refine (h3 { p with fams:=r1.1 } a N (JK w).2 w (by simp only[qf];omega)).sc (vs:=[.ptr 0 0,.i .i64 (JK w).2,.s w]) [0,2] (Lent.of (by decide) ?_) ?_
    ·simp[vL,vw,qF,qr qb,qe qb,qP,clo,qp]
    simp only[vK,simprocAttr,qF,qe qb,qp,clo];simp only[↓vS,vT,simprocAttr,hwj];unfold xn at ih2;rw[if_neg he] at ih2;refine ih2 (by omega) (by omega) _ _ (Wk.mkn _ _ [0,1,3] ?_ ?_ ?_ rfl (by simp[qw]) ?_)
    ·simp[vw,qw]
    ·simp[vw,qa,qb,qw,qF,← hN];try decide
    ·simp[vw,qw]
    ·intro b hb;have:b=0∨b=1:=by omega
     rcases this with rfl|rfl<;>rfl
 ·have hjl:(ql v).take j=ql v:=List.take_of_length_le (by omega);rw[hjl,← hr] at hrr;subst hrr
  by_cases hnew:r.2.map (qN a)=[]
  ·simp only[qw,if_pos hnew,qF,vI,simprocAttr];simp only[↓vS,vT,simprocAttr,hlt];refine fun _=>⟨[0,1],?_⟩
   simp[vw,qa,qb];try decide
  ·simp only[qw,if_neg hnew,qF,vI,simprocAttr];simp only[↓vS,vT,simprocAttr,hlt];refine fun _=>⟨[0,1,2],?_⟩
   simp[vw,qa,qb];try decide
theorem qky{g1 g2 g3 g4 g5:Nat}(hc:qj P f (ww g1 g2 g3 g4 g5)=true)(h0:qcp P g1)(h1:XG P g2)(h2:qfe P g3)(h3:Q6 P g4)(h4:qfk P g5):QM P f zb:=by
 intro p a ns v hv hn _ ha;have hwl:=vc v;have htl:=ZG v;refine Upd.mk hc (by simp[z8,bnd]) (by unfold qw;split<;>simp) ?_;simp only[ww,qF,vI,simprocAttr];simp only[↓vS,vT,simprocAttr];refine (h0 v).sc ?_;rw[qaE];simp only[↓vS,vT,simprocAttr];refine (h1 v (by omega)).sc ?_
 by_cases hw:ql v=[]
 ·simp only[↓vS,vT,simprocAttr,hw];intro _;refine⟨[0,1],?_⟩;simp[vw,qa,qb,qw,qF,zb,hw,rI]
  try decide
 ·have hwn:¬((ql v).length:Int)=0:=by
   intro hh;exact hw (List.eq_nil_of_length_eq_zero (by omega))
  have hend:∀(q:Pol),ql v≠[km]->q={ p with fmode:=kT p.fmode (qZ v).2 }->S P 2 (zj g1 g2 g3 g4 g5) (wE [] (ZK 2 (.tup []) (qw (zb p v).1 a ns ((zb p v).2.map (qN a))))) (mkT [(0,.ptr 0 0),(4,.s (qZ v).1),(5,.b (qZ v).2)]) (mkH 0 [.cells 0 true false (qF q a 1 ns.length),.cells 4 true true (rN ns)]):=by
   intro q hno hq;subst hq;have:=qiF (g1:=g1) h1 h2 h3 h4 { p with fmode:=kT p.fmode (qZ v).2 } a ns (qZ v).1 (qZ v).2 (by omega) hn ha _ rfl;unfold zb;rw[if_neg hw,if_neg hno];exact this
  have main:ql v≠[km]->p.fmode=0∨p.fmode≠0:=fun _=>Classical.em _
  by_cases hno:ql v=[km]
  ·simp only[↓vS,vT,simprocAttr,hno,km];intro _;refine⟨[0,1],?_⟩;simp[vw,qa,qb,qw,qF,zb,hw,hno,rI,km]
   try decide
  ·have fin:∀(q:Pol) (t':Tr AV) (h':Hp),q={ p with fmode:=kT p.fmode (qZ v).2 }->Wk 2 t' h' (mkT [(0,.ptr 0 0),(4,.s (qZ v).1),(5,.b (qZ v).2)]) (mkH 0 [.cells 0 true false (qF q a 1 ns.length),.cells 4 true true (rN ns)])->
     S P 2 (zj g1 g2 g3 g4 g5) (wE [] (ZK 2 (.tup []) (qw (zb p v).1 a ns ((zb p v).2.map (qN a))))) t' h':=fun q t' h' hq hk=>S.weak hk (hend q hno hq)
   have two:¬ql v=[km]:=hno;cases hws:ql v with
   | nil=>exact absurd hws hw
   | cons w ws =>
    rw[hws] at hno hwl;simp only[List.length_cons] at hwl;have hl0:¬(((w::ws).length:Nat):Int)=0:=by simp;omega
    cases ws with
    | nil =>
     have hwno:¬w=[110,111,110,101]:=fun hh=>hno (by rw[hh];rfl)
     by_cases hm:p.fmode=0
     ·cases ht:(qZ v).2 with
      | true =>
       simp only[↓vS,vT,simprocAttr,hl0,hwno,hm];refine fin { p with fmode:=2 } _ _ (by simp[kT,hm,ht]) (Wk.mkn _ _ [0,1] ?_ ?_ ?_ rfl (by simp) ?_)
       ·simp[vw,ht]
       ·simp[vw,qa,qb,qF];try decide
       ·simp[vw]
       ·intro b hb;have:b=0∨b=1:=by omega
        rcases this with rfl|rfl<;>rfl
      | false =>
       simp only[↓vS,vT,simprocAttr,hl0,hwno,hm];refine fin { p with fmode:=1 } _ _ (by simp[kT,hm,ht]) (Wk.mkn _ _ [0,1] ?_ ?_ ?_ rfl (by simp) ?_)
       ·simp[vw,ht]
       ·simp[vw,qa,qb,qF];try decide
       ·simp[vw]
       ·intro b hb;have:b=0∨b=1:=by omega
        rcases this with rfl|rfl<;>rfl
     ·simp only[↓vS,vT,simprocAttr,hl0,hwno,hm];refine fin p _ _ (by simp[kT,hm]) (Wk.mkn _ _ [0,1] ?_ ?_ ?_ rfl (by simp) ?_)
      ·simp[vw]
      ·simp[vw,qa,qb,qF];try decide
      ·simp[vw]
      ·intro b hb;have:b=0∨b=1:=by omega
       rcases this with rfl|rfl<;>rfl
    | cons w2 ws =>
     have hl1:¬(((w::w2::ws).length:Nat):Int)=1:=by simp;omega
     generalize hL:(((w::w2::ws).length:Nat))=L at hl0 hl1;generalize (List.map AV.s (w::w2::ws))=RR
     by_cases hm:p.fmode=0
     ·cases ht:(qZ v).2 with
      | true =>
       simp only[↓vS,vT,simprocAttr,hl0,hl1,hm];refine fin { p with fmode:=2 } _ _ (by simp[kT,hm,ht]) (Wk.mkn _ _ [0,1] ?_ ?_ ?_ rfl (by simp) ?_)
       ·simp[vw,ht]
       ·simp[vw,qa,qb,qF];try decide
       ·simp[vw]
       ·intro b hb;have:b=0∨b=1:=by omega
        rcases this with rfl|rfl<;>rfl
      | false =>
       simp only[↓vS,vT,simprocAttr,hl0,hl1,hm];refine fin { p with fmode:=1 } _ _ (by simp[kT,hm,ht]) (Wk.mkn _ _ [0,1] ?_ ?_ ?_ rfl (by simp) ?_)
       ·simp[vw,ht]
       ·simp[vw,qa,qb,qF];try decide
       ·simp[vw]
       ·intro b hb;have:b=0∨b=1:=by omega
        rcases this with rfl|rfl<;>rfl
     ·simp only[↓vS,vT,simprocAttr,hl0,hl1,hm];refine fin p _ _ (by simp[kT,hm]) (Wk.mkn _ _ [0,1] ?_ ?_ ?_ rfl (by simp) ?_)
      ·simp[vw]
      ·simp[vw,qa,qb,qF];try decide
      ·simp[vw]
      ·intro b hb;have:b=0∨b=1:=by omega
       rcases this with rfl|rfl<;>rfl
end Go.Kc
end
section
/- What the setter makes of namespaces. Condition: the functions' texts are these. -/
namespace Go.Kc
variable {P:Program} {f:Nat}
def spM(s:List UInt8):Int×Int:=xe s 181 qk
def qh2(P:Program)(f:Nat):Prop:=∀s,qc P f [.s s] (vV .u64 s 181 qk)
def wk:Int:=2114060416
def xz(s:Int×List (Int×List UInt8))(w:List UInt8):Int×List (Int×List UInt8) :=
 (orI .u64 s.1 (spM w).1,if (spM w).2=0 then s.2 else s.2++[((spM w).2,w)])
def qbf(p:Pol)(t:Bool)(r:Int×List (Int×List UInt8)):Pol :=
 if r.2=[] then (if t=true then { p with spaces:=r.1 } else { p with spaces:=yH .u64 wk r.1 }) else p
noncomputable def zc(p:Pol)(v:List UInt8):Pol×List (Int×List UInt8) :=
 if ql v=[] then ({ p with spaces:=0 },[])
 else if v ∈ xH then ({ p with spaces:=0 },[])
 else if v ∈ zX then ({ p with spaces:=wk },[])
 else
  let r:=(ql (qZ v).1).foldl xz (0,[])
  (qbf p (qZ v).2 r,r.2)
theorem qbg(ws:List (List UInt8)):∀s,(ws.foldl xz s).2.length<=s.2.length+ws.length:=by
 induction ws with
 | nil=>intro s;simp
 | cons w ws ih =>
  intro s;have h:=ih (xz s w)
  have h2:(xz s w).2.length<=s.2.length+1:=by
   unfold xz;dsimp only;split<;>simp
  simp only[List.foldl_cons,List.length_cons];omega
def zT(a b c d e g:Nat):ICode:=.seq (.r [.m 8 (.c (.i .u64 0)),.m 9 .T]) (.seq (.seq (.r [.n 44 6,.l 45 a [.t 44],.e 46 45,.m 47 (.k 0)]) (.blk 0 (.loop (.seq (.r [.s 48 47 46]) (.seq (.cond (.t 48) (.skip) (.exit 0)) (.seq (.blk 1 (.seq (.r [.i 49 1 45 47,.d 50 49,.n 11 50]) (.seq (.r [.n 52 11,.l 53 e [.t 52],.n 51 53,.x 54 51 0,.x 55 51 1,.n 12 54,.n 13 55]) (.seq (.seq (.r [.n 56 13,.w 57 .neq 56 0]) (.cond (.t 57) (.seq (.r [.n 58 0,.n 59 13,.n 60 11,.l 61 g [.t 58,.t 59,.t 60]]) (.r [.m 9 .F])) (.skip))) (.r [.n 62 8,.n 63 12,.b 64 .or 62 63,.n 8 64]))))) (.r [.a 65 47 1,.n 47 65]))))))) (.blk 2 (.seq (.r [.n 67 9,.n 68 67,.y 69 7 68,.p 70 68 69,.n 66 70]) (.cond (.t 66) (.r [.n 71 0,.n 72 8,.q 73 (.nilChk (.t 71)),.f 74 0 73,.f 75 8 74,.u (.store 1 (.t 75) (.t 72))]) (.seq (.r [.n 77 9,.n 76 77]) (.cond (.t 76) (.r [.n 78 0,.l 79 c [],.n 80 8,.b 81 .andNot 79 80,.q 82 (.nilChk (.t 78)),.f 83 0 82,.f 84 8 83,.u (.store 1 (.t 84) (.t 81))]) (.skip)))))))
def jS(a b c d e g:Nat):IFn:=⟨[],.seq (.seq (.r [.n 14 1,.l 15 a [.t 14],.e 16 15,.w 17 .eql 16 0]) (.cond (.t 17) (.seq (.r [.n 18 0,.q 19 (.nilChk (.t 18)),.f 20 0 19,.f 21 8 20,.u (.store 1 (.t 21) (.c (.i .u64 0)))]) (.ret)) (.skip))) (.seq (.seq (.r [.n 23 1,.l 24 b [.t 23],.n 22 24,.x 25 22 0,.x 26 22 1,.n 4 25,.n 5 26]) (.seq (.r [.n 27 5,.w 28 .eql 27 0]) (.cond (.t 28) (.seq (.r [.n 29 0,.q 30 (.nilChk (.t 29)),.f 31 0 30,.f 32 8 31,.u (.store 1 (.t 32) (.c (.i .u64 0)))]) (.seq (.seq (.r [.n 33 4]) (.cond (.t 33) (.r [.n 34 0,.l 35 c [],.q 36 (.nilChk (.t 34)),.f 37 0 36,.f 38 8 37,.u (.store 1 (.t 38) (.t 35))]) (.skip))) (.ret))) (.skip)))) (.seq (.r [.n 40 1,.l 41 d [.t 40],.n 39 41,.x 42 39 0,.x 43 39 1,.n 6 42,.n 7 43]) (.cut (zT a b c d e g))))⟩
theorem qmY{g1 g2 g3 g4 g5 g6:Nat}(h1:XG P g1)(h2:qh2 P g5)(h3:Q6 P g6)(h4:qc P g3 [] (.i .u64 2114060416))(p:Pol)(a:Asg)(ns:List GNote)(v:List UInt8)(t:Bool)(hv:v.length<=1000)(hn:ns.length<=1000)
  (r:Int×List (Int×List UInt8)) (hr:r=(ql v).foldl xz (0,[])) :
  S P 2 (zT g1 g2 g3 g4 g5 g6) (wE [] (ZK 2 (.tup []) (qw (qbf p t r) a ns (r.2.map (qN a))))) (mkT [(0,.ptr 0 0),(6,.s v),(7,.b t)]) (mkH 0 [.cells 0 true false (qF p a 1 ns.length),.cells 4 true true (rN ns)]):=by
 have hwl:=vc v;refine qq ?_;simp only[zT,qF,vI,simprocAttr];simp only[↓vS,vT,simprocAttr];refine (h1 v (by omega)).sc ?_;simp only[↓vS,vT,simprocAttr]
 refine SL.loopn (α:=Nat) (fun j=>[(0,.ptr 0 0),(7,.b t),(8,.i .u64 (((ql v).take j).foldl xz (0,[])).1),(9,.b (decide ((((ql v).take j).foldl xz (0,[])).2=[]))),(45,.fz (ql v).length ((ql v).map .s)),(46,.i .i64 (ql v).length),(47,.i .i64 j)])
  (fun j=>qw p a ns ((((ql v).take j).foldl xz (0,[])).2.map (qN a))) (fun j=>j<=(ql v).length) (fun j=>(ql v).length-j) 0 [0,1] ?_ ?_ ?_ rfl ?_ ?_ ?_ ?_
 ·simp[vw,qw]
 ·simp[vw,qa,qb,qw,qF];try decide
 ·simp[vw]
 ·simp[qw]
 ·intro b hb;have:b=0∨b=1:=by omega
  rcases this with rfl|rfl<;>rfl
 ·exact Nat.zero_le _
 rintro j hj G ih;have hlen:=qbg ((ql v).take j) (0,[]);simp only[List.length_take,List.length_nil,Nat.zero_add] at hlen;generalize hrr:((ql v).take j).foldl xz (0,[])=r1 at hlen ih ⊢
 by_cases hlt:j<(ql v).length
 ·have hx:(ql v)[j]?=some (ql v)[j]:=List.getElem?_eq_getElem hlt;have hwj:IntKind.wrap .i64 ((j:Int)+1)=(j:Int)+1:=qB (by omega) (by omega)
  have hnext:((ql v).take (j+1)).foldl xz (0,[])=xz r1 (ql v)[j]:=by
   rw[List.take_add_one,hx,List.foldl_append,hrr];rfl
  generalize hww:(ql v)[j]=w at hx hnext;have ih2:=ih (j+1);rw[hnext] at ih2;have hsp:=qah .u64 w 181 qk
  by_cases hnew:r1.2.map (qN a)=[]
  ·have hr2:r1.2=[]:=List.map_eq_nil_iff.1 hnew;simp only[qw,if_pos hnew,qF,vI,simprocAttr];simp only[↓vS,vT,simprocAttr,hlt,hx,List.getElem?_map,Option.map_some,Nat.mul_one,hr2];refine (h2 w).sc ?_;rw[hsp]
   by_cases he:(spM w).2=0
   ·have he':(xe w 181 qk).2=0:=he;simp only[↓vS,vT,simprocAttr,he',hwj];unfold xz at ih2;rw[if_pos he] at ih2;refine ih2 (by omega) (by omega) _ _ (Wk.mkn _ _ [0,1] ?_ ?_ ?_ rfl (by simp[qw,hnew]) ?_)
    ·simp[vw,qw,hr2,spM]
    ·simp[vw,qa,qb,qw,qF,hr2];try decide
    ·simp[vw]
    ·intro b hb;have:b=0∨b=1:=by omega
     rcases this with rfl|rfl<;>rfl
   ·have he':¬(xe w 181 qk).2=0:=he;simp only[↓vS,vT,simprocAttr,he'];refine (h3 p a ns (spM w).2 w (by simp only[qf];omega)).sc (vs:=[.ptr 0 0,.i .i64 (spM w).2,.s w]) [0,1] (Lent.of (by decide) ?_) ?_
    ·simp[vL,vw,qF,qr qb,qe qb,qP,clo,qp]
    simp only[vK,simprocAttr,qF,qe qb,qp,clo];simp only[↓vS,vT,simprocAttr,hwj];unfold xz at ih2;rw[if_neg he] at ih2;refine ih2 (by omega) (by omega) _ _ (Wk.mkn _ _ [0,1,2] ?_ ?_ ?_ rfl (by simp[qw]) ?_)
    ·simp[vw,qw,spM]
    ·simp[vw,qa,qb,qw,qF,hr2];try decide
    ·simp[vw]
    ·intro b hb;have:b=0∨b=1:=by omega
     rcases this with rfl|rfl<;>rfl
  ·have hr2n:¬r1.2=[]:=fun hh=>hnew (by rw[hh];rfl)
   have hnl:(ns++r1.2.map (qN a)).length<=2001:=by simp;omega
   simp only[qw,if_neg hnew,qF,vI,simprocAttr];generalize hN:ns++r1.2.map (qN a)=N at hnl ih2 ⊢;simp only[↓vS,vT,simprocAttr,hlt,hx,List.getElem?_map,Option.map_some,Nat.mul_one,hr2n];refine (h2 w).sc ?_;rw[hsp]
   by_cases he:(spM w).2=0
   ·have he':(xe w 181 qk).2=0:=he;simp only[↓vS,vT,simprocAttr,he',hwj];unfold xz at ih2;rw[if_pos he] at ih2;refine ih2 (by omega) (by omega) _ _ (Wk.mkn _ _ [0,1,2] ?_ ?_ ?_ rfl (by simp[qw,hnew]) ?_)
    ·simp[vw,qw,hr2n,spM]
    ·simp[vw,qa,qb,qw,qF,hr2n,hN];try decide
    ·simp[vw,qw,hr2n]
    ·intro b hb;have:b=0∨b=1:=by omega
     rcases this with rfl|rfl<;>rfl
   ·have he':¬(xe w 181 qk).2=0:=he;simp only[↓vS,vT,simprocAttr,he'];refine (h3 p a N (spM w).2 w (by simp only[qf];omega)).sc (vs:=[.ptr 0 0,.i .i64 (spM w).2,.s w]) [0,2] (Lent.of (by decide) ?_) ?_
    ·simp[vL,vw,qF,qr qb,qe qb,qP,clo,qp]
    simp only[vK,simprocAttr,qF,qe qb,qp,clo];simp only[↓vS,vT,simprocAttr,hwj];unfold xz at ih2;rw[if_neg he] at ih2;refine ih2 (by omega) (by omega) _ _ (Wk.mkn _ _ [0,1,3] ?_ ?_ ?_ rfl (by simp[qw]) ?_)
    ·simp[vw,qw,spM]
    ·simp[vw,qa,qb,qw,qF,← hN];try decide
    ·simp[vw,qw]
    ·intro b hb;have:b=0∨b=1:=by omega
     rcases this with rfl|rfl<;>rfl
 ·have hjl:(ql v).take j=ql v:=List.take_of_length_le (by omega);rw[hjl,← hr] at hrr;subst hrr
  by_cases hnew:r.2=[]
  ·simp only[qw,hnew,List.map_nil,if_true,qF,vI,simprocAttr];cases t with
   | true =>
    simp only[↓vS,vT,simprocAttr,hlt];refine fun _=>⟨[0,1],?_⟩
    simp[vw,qa,qb,qbf,hnew];try decide
   | false =>
    simp only[↓vS,vT,simprocAttr,hlt];refine h4.sc ?_;simp only[↓vS,vT,simprocAttr];refine fun _=>⟨[0,1],?_⟩
    simp[vw,qa,qb,qbf,hnew,wk];try decide
  ·have hmn:¬r.2.map (qN a)=[]:=fun hh=>hnew (List.map_eq_nil_iff.1 hh)
   simp only[qw,if_neg hmn,hnew,qF,vI,simprocAttr];simp only[↓vS,vT,simprocAttr,hlt];refine fun _=>⟨[0,1,2],?_⟩
   simp[vw,qa,qb,qbf,hnew];try decide
theorem qhy{g1 g2 g3 g4 g5 g6:Nat}(hc:qj P f (jS g1 g2 g3 g4 g5 g6)=true)(h1:XG P g1)(hb:qdh P g2)(h4:qc P g3 [] (.i .u64 2114060416))(ht:qcp P g4)(h2:qh2 P g5)(h3:Q6 P g6):QM P f zc:=by
 intro p a ns v hv hn _ _;have hwl:=vc v;have htl:=ZG v;refine Upd.mk hc (by simp[z8,bnd]) (by unfold qw;split<;>simp) ?_;simp only[jS,qF,vI,simprocAttr];simp only[↓vS,vT,simprocAttr];refine (h1 v (by omega)).sc ?_
 by_cases hw:ql v=[]
 ·simp only[↓vS,vT,simprocAttr,hw];intro _;refine⟨[0,1],?_⟩;simp[vw,qa,qb,qw,qF,zc,hw]
  try decide
 ·have hwn:¬((ql v).length:Int)=0:=by
   intro hh;exact hw (List.eq_nil_of_length_eq_zero (by omega))
  simp only[↓vS,vT,simprocAttr,hwn];refine (hb v).sc ?_;unfold VN
  by_cases hno:v ∈ xH
  ·simp only[↓vS,vT,simprocAttr,hno];intro _;refine⟨[0,1],?_⟩;simp[vw,qa,qb,qw,qF,zc,hw,hno]
   try decide
  ·by_cases hy:v ∈ zX
   ·simp only[↓vS,vT,simprocAttr,hno,hy];refine h4.sc ?_;simp only[↓vS,vT,simprocAttr];intro _;refine⟨[0,1],?_⟩;simp[vw,qa,qb,qw,qF,zc,hw,hno,hy,wk]
    try decide
   ·simp only[↓vS,vT,simprocAttr,hno,hy];refine (ht v).sc ?_;rw[qaE];simp only[↓vS,vT,simprocAttr];have:=qmY (g2:=g2) (g4:=g4) h1 h2 h3 h4 p a ns (qZ v).1 (qZ v).2 (by omega) hn _ rfl;unfold zc;rw[if_neg hw,if_neg hno,if_neg hy];refine S.weak (Wk.mkn _ _ [0,1] ?_ ?_ ?_ rfl (by simp) ?_) this
    ·simp[vw]
    ·simp[vw,qa,qb,qF];try decide
    ·simp[vw]
    ·intro b hb;have:b=0∨b=1:=by omega
     rcases this with rfl|rfl<;>rfl
end Go.Kc
end
section
/- What restrict.Set answers. Condition: the functions' texts are these. -/
namespace Go.Kc
variable {P:Program} {f:Nat}
theorem kw.pure{g esz by':Nat}(h:kw P g esz by'){n:Nat}{rows:List AV}(hl:rows.length=n*esz)(hc:qt rows=true)(ho:qJ rows=true)(h1:n<=qf)(h2:n*by'<=qf):qc P g [.fz n rows] (.fz n rows):=by
 refine (h n rows hl hc ho h1 h2).pure (by simp[qt,clo]) ?_;refine .own 0 n esz true rows rows ?_ (fun h0=>?_) (Frzs.self hc)
 ·simp[wS,Hp.push,shb,H0,Tr.get_set,zW hc]
 ·subst h0;exact List.eq_nil_of_length_eq_zero (by omega)
structure PolOk (p:Pol):Prop where
 a:p.arches.length<=1000
 f:p.fams.length<=1000
 c:p.filter.calls.length<=1000
 l:p.log.calls.length<=1000
def qad(P:Program)(f:Nat):Prop:=∀p,PolOk p->qc P f [.agg (qo p)] (.agg (qo p))
def Qu(a b c:Nat):IFn:=⟨[.cell 2 13 true],.seq (.r [.q 1 (.box (.t 0)),.q 2 (.alloc [.nils,.i .u8 0,.nils,.i .u32 0,.i .u8 0,.nils,.nils,.i .u8 0,.i .u64 0,.b false,.b false,.b false,.b false])]) (.seq (.r [.f 3 0 1,.d 4 3,.l 5 a [.t 4],.f 6 0 1,.u (.store 1 (.t 6) (.t 5))]) (.seq (.r [.f 7 6 1,.d 8 7,.l 9 b [.t 8],.f 10 6 1,.u (.store 1 (.t 10) (.t 9))]) (.seq (.r [.f 11 1 1,.f 12 1 11,.d 13 12,.l 14 c [.t 13],.f 15 1 1,.f 16 1 15,.u (.store 1 (.t 16) (.t 14))]) (.seq (.r [.f 17 4 1,.f 18 1 17,.d 19 18,.l 20 c [.t 19],.f 21 4 1,.f 22 1 21,.u (.store 1 (.t 22) (.t 20))]) (.seq (.r [.v 23 13 1,.u (.store 13 (.t 2) (.t 23))]) (.ret))))))⟩
theorem qhw{g1 g2 g3:Nat}(hc:qj P f (Qu g1 g2 g3)=true)(h1:kw P g1 1 8)(h2:kw P g2 1 4)(h3:kw P g3 2 24):qad P f:=by
 intro p hp;have ha:=hp.a;have hf:=hp.f;have hcc:=hp.c;have hl:=hp.l;refine qc.mk hc rfl ?_;simp only[Qu,qo,vI,simprocAttr];simp only[↓vS,vT,simprocAttr];refine (h1.pure (by rw[wV];omega) qh J2 (by simp only[qf];omega) (by simp only[qf];omega)).sc ?_;simp only[↓vS,vT,simprocAttr];refine (h2.pure (by rw[wV];omega) qh J2 (by simp only[qf];omega) (by simp only[qf];omega)).sc ?_;simp only[↓vS,vT,simprocAttr];refine (h3.pure yM qg qa8 (by simp only[qf];omega) (by simp only[qf];omega)).sc ?_;simp only[↓vS,vT,simprocAttr];refine (h3.pure yM qg qa8 (by simp only[qf];omega) (by simp only[qf];omega)).sc ?_;simp only[↓vS,vT,simprocAttr,vZ,and_self]
def Zs(a b c:Nat):IFn:=⟨[.cell 2 13 true],.seq (.r [.q 1 (.box (.t 0)),.q 2 (.alloc [.nils,.i .u8 0,.nils,.i .u32 0,.i .u8 0,.nils,.nils,.i .u8 0,.i .u64 0,.b false,.b false,.b false,.b false])]) (.seq (.r [.f 3 0 1,.d 4 3,.l 5 a [.t 4],.f 6 0 1,.u (.store 1 (.t 6) (.t 5))]) (.seq (.r [.f 7 6 1,.d 8 7,.l 9 b [.t 8],.f 10 6 1,.u (.store 1 (.t 10) (.t 9))]) (.seq (.r [.f 11 1 1,.f 12 1 11,.d 13 12,.l 14 c [.t 13],.f 15 1 1,.f 16 1 15,.u (.store 1 (.t 16) (.t 14))]) (.seq (.r [.f 17 4 1,.f 18 1 17,.d 19 18,.l 20 c [.t 19],.f 21 4 1,.f 22 1 21,.u (.store 1 (.t 22) (.t 20))]) (.seq (.r [.v 23 13 1,.u (.store 13 (.t 2) (.t 23))]) (.ret))))))⟩
theorem qkt{g1 g2 g3:Nat}(hc:qj P f (Zs g1 g2 g3)=true)(h1:kw P g1 1 8)(h2:kw P g2 1 4)(h3:kw P g3 2 24):qad P f:=by
 intro p hp;have ha:=hp.a;have hf:=hp.f;have hcc:=hp.c;have hl:=hp.l;refine qc.mk hc rfl ?_;simp only[Zs,qo,vI,simprocAttr];simp only[↓vS,vT,simprocAttr];refine (h1.pure (by rw[wV];omega) qh J2 (by simp only[qf];omega) (by simp only[qf];omega)).sc ?_;simp only[↓vS,vT,simprocAttr];refine (h2.pure (by rw[wV];omega) qh J2 (by simp only[qf];omega) (by simp only[qf];omega)).sc ?_;simp only[↓vS,vT,simprocAttr];refine (h3.pure yM qg qa8 (by simp only[qf];omega) (by simp only[qf];omega)).sc ?_;simp only[↓vS,vT,simprocAttr];refine (h3.pure yM qg qa8 (by simp only[qf];omega) (by simp only[qf];omega)).sc ?_;simp only[↓vS,vT,simprocAttr,vZ,and_self]
def Zv(a b c d e g h:Nat):IFn:=⟨[.tmp 0],.seq (.r [.m 0 (.c (.nilm))]) (.seq (.r [.q 1 (.mkM),.u (.updM none (.t 1) (.c (.s [83,121,115,116,101,109,67,97,108,108,65,114,99,104,105,116,101,99,116,117,114,101,115])) (.c (.fn a [] []))),.u (.updM none (.t 1) (.c (.s [82,101,115,116,114,105,99,116,65,100,100,114,101,115,115,70,97,109,105,108,105,101,115])) (.c (.fn b [] []))),.u (.updM none (.t 1) (.c (.s [82,101,115,116,114,105,99,116,78,97,109,101,115,112,97,99,101,115])) (.c (.fn c [] []))),.u (.updM none (.t 1) (.c (.s [77,101,109,111,114,121,68,101,110,121,87,114,105,116,101,69,120,101,99,117,116,101])) (.c (.fn d [] []))),.u (.updM none (.t 1) (.c (.s [76,111,99,107,80,101,114,115,111,110,97,108,105,116,121])) (.c (.fn e [] []))),.u (.updM none (.t 1) (.c (.s [82,101,115,116,114,105,99,116,82,101,97,108,116,105,109,101])) (.c (.fn g [] []))),.u (.updM none (.t 1) (.c (.s [78,111,78,101,119,80,114,105,118,105,108,101,103,101,115])) (.c (.fn h [] []))),.n 2 1,.n 0 2]) (.ret))⟩
def Qw:List UInt8:=[83,121,115,116,101,109,67,97,108,108,65,114,99,104,105,116,101,99,116,117,114,101,115]
def vz:List UInt8:=[82,101,115,116,114,105,99,116,65,100,100,114,101,115,115,70,97,109,105,108,105,101,115]
def kSp:List UInt8:=[82,101,115,116,114,105,99,116,78,97,109,101,115,112,97,99,101,115]
def kWe:List UInt8:=[77,101,109,111,114,121,68,101,110,121,87,114,105,116,101,69,120,101,99,117,116,101]
def kPe:List UInt8:=[76,111,99,107,80,101,114,115,111,110,97,108,105,116,121]
def kRt:List UInt8:=[82,101,115,116,114,105,99,116,82,101,97,108,116,105,109,101]
def kNp:List UInt8:=[78,111,78,101,119,80,114,105,118,105,108,101,103,101,115]
def qbU(g1 g2 g3 g4 g5 g6 g7:Nat):List (AV×AV):=[(.s Qw,.fn g1 [] []),(.s vz,.fn g2 [] []),(.s kSp,.fn g3 [] []),(.s kWe,.fn g4 [] []),(.s kPe,.fn g5 [] []),(.s kRt,.fn g6 [] []),(.s kNp,.fn g7 [] [])]
theorem qsm{g1 g2 g3 g4 g5 g6 g7:Nat}(hc:qj P f (Zv g1 g2 g3 g4 g5 g6 g7)=true):Own P f [] (.map 0) [.map (qbU g1 g2 g3 g4 g5 g6 g7)]:=by
 refine Own.mk hc rfl ?_;simp only[Zv,vI,simprocAttr];simp (decide:=true) only [↓vS,vT,simprocAttr];intro _;refine⟨[0],?_⟩;simp[vw,qbU,Qw,vz,kSp,kWe,kPe,kRt,kNp,clo,qt]
end Go.Kc
end
section
/- What restrict.Set and restrict.Key answer. Condition: the functions' texts are these. -/
namespace Go.Kc
variable {P:Program} {f:Nat}
noncomputable def xE(p:Pol)(k v:List UInt8):Pol×List (Int×List UInt8) :=
 if k=Qw then xO p v else if k=vz then zb p v else if k=kSp then zc p v else if k=kWe then Kn p v else if k=kPe then Kl p v else if k=kRt then Km p v else if k=kNp then Kk p v else (p,[])
def qgK(k:List UInt8):Bool:=decide (k=Qw)||decide (k=vz)||decide (k=kSp)||decide (k=kWe)||decide (k=kPe)||decide (k=kRt)||decide (k=kNp)
def kt:List AV:=[.nils,.i .u8 0,.nils,.i .u32 0,.i .u8 0,.nils,.nils,.i .u8 0,.i .u64 0,.b false,.b false,.b false,.b false]
def wa(a b:Nat):ICode:=.seq (.reg true [.n 27 6,.q 28 (.nilChk (.t 27)),.f 29 0 28,.v 30 13 29,.n 31 6,.q 32 (.nilChk (.t 31)),.f 33 13 32,.d 34 33,.u (.storeD 13 (.t 4) (.t 30) [33]),.n 5 34]) (.ret)
def Qt(a b:Nat):ICode:=.seq (.seq (.reg true [.l 15 b [],.f 16 3 3,.d 17 16,.q 18 (.lookM none true (.nilf) (.t 15) (.t 17)),.n 14 18,.x 19 14 0,.x 20 14 1,.n 7 19,.n 8 20]) (.seq (.r [.n 21 8]) (.cond (.t 21) (.r [.n 22 7,.n 23 6,.f 24 4 3,.d 25 24,⟨(some 26),.callV (.t 22) [.t 23,.t 25],none⟩]) (.skip)))) (.cut (wa a b))
def Xu(a b:Nat):IFn:=⟨[.cell 4 13 true,.tmp 5],.seq (.r [.q 2 (.box (.t 0)),.q 3 (.box (.t 1)),.q 4 (.alloc [.nils,.i .u8 0,.nils,.i .u32 0,.i .u8 0,.nils,.nils,.i .u8 0,.i .u64 0,.b false,.b false,.b false,.b false]),.m 5 .N]) (.seq (.reg true [.v 9 13 2,.l 10 a [.t 9],.v 11 5 3,.q 12 (.build [.nils,.i .u8 0,.nils,.i .u32 0,.i .u8 0,.nils,.nils,.i .u8 0,.i .u64 0,.b false,.b false,.b false,.b false,.nils,.s [],.i .i64 0,.s [],.s [],.s []] [(0,13,(.t 10)),(14,5,(.t 11))]),.q 13 (.box (.t 12)),.n 6 13]) (.cut (Qt a b)))⟩
theorem xQ(g1 g2:Nat)(q:Pol)(a:Asg)(new:List GNote)(src:List Nat){t':Tr AV}{h':Hp}{k:Nat}(hk:k=(qw q a [] new).length)(res:List AV)(hres:res.length=13)
  (hw:Wk 0 t' h' (mkT [(4,.ptr k 0),(6,.ptr 0 0)]) (mkH 0 (qw q a [] new++[.cells 0 true false res]))) :
  S P 0 (wa g1 g2) (wE [.cell 4 13 true,.tmp 5] (fun v' h'=>Frz h' v' (.tup [.agg (qo q),.fz new.length (rN new)]))) t' h':=by
 refine S.weak hw (qq ?_);subst hk;have e1:(13:Nat)<=res.length:=by omega
 have e2:res.drop 13=[]:=List.drop_of_length_le (by omega)
 by_cases hn:new=[]
 ·simp only[wa,qw,if_pos hn,qF,vI,simprocAttr,List.cons_append,List.nil_append];simp only[↓vS,vT,simprocAttr];refine zQ ?_;simp (decide:=true) only [↓vS,vT,simprocAttr,e1,e2];simp[vZ,vP,Tr.get_set,qo,hn,qh,qE,qb,rN,qg]
 ·simp only[wa,qw,if_neg hn,qF,vI,simprocAttr,List.cons_append,List.nil_append];simp only[↓vS,vT,simprocAttr];refine zQ ?_;simp (decide:=true) only [↓vS,vT,simprocAttr,e1,e2];simp[vZ,vP,Tr.get_set,qo,hn,qh,qE,qb,qg]
def qog(P:Program)(m1 m2 m3 m4 m5 m6 m7:Nat):Prop:=QM P m1 xO∧QM P m2 zb∧QM P m3 zc∧QM P m4 Kn∧QM P m5 Kl∧QM P m6 Km∧QM P m7 Kk
def qrV(P:Program)(f:Nat):Prop:=∀(p:Pol) (a:Asg),PolOk p->a.val.length<=1000->qc P f [.agg (qo p),.agg (xl a)] (.tup [.agg (qo (xE p a.key a.val).1),.fz ((xE p a.key a.val).2.map (qN a)).length (rN ((xE p a.key a.val).2.map (qN a)))])
theorem qsU{g1 g2 m1 m2 m3 m4 m5 m6 m7:Nat}(hc:qj P f (Xu g1 g2)=true)(h1:qad P g1)(h2:Own P g2 [] (.map 0) [.map (qbU m1 m2 m3 m4 m5 m6 m7)])(hm:qog P m1 m2 m3 m4 m5 m6 m7):qrV P f:=by
 obtain⟨hm1,hm2,hm3,hm4,hm5,hm6,hm7⟩:=hm;intro p a hp hv;refine qc.mk hc rfl ?_;generalize hT:AV.tup [.agg (qo (xE p a.key a.val).1),.fz ((xE p a.key a.val).2.map (qN a)).length (rN ((xE p a.key a.val).2.map (qN a)))]=tgt;simp only[Xu,qo,xl,vI,simprocAttr];simp only[↓vS,vT,simprocAttr];refine zQ ?_;simp (decide:=true) only [↓vS,vT,simprocAttr];refine (h1 p hp).pc ?_;simp (decide:=true) only [↓vS,vT,simprocAttr,qo];refine S.weak (Wk.mk [(3,.ptr 2 0),(4,.ptr 3 0),(6,.ptr 0 0)] [.cells 0 true false (qF p a 1 0),.cells 4 true true [],.cells 0 true false (xl a),.cells 0 true false [.nils,.i .u8 0,.nils,.i .u32 0,.i .u8 0,.nils,.nils,.i .u8 0,.i .u64 0,.b false,.b false,.b false,.b false]] [3,9,1,2] ?_ ?_ ?_ rfl) (qq ?_)
 ·simp[vw]
 ·simp[vw,qF,xl];try decide
 ·simp[vw]
 simp only[Qt,qF,xl,vI,simprocAttr];simp only[↓vS,vT,simprocAttr];refine zQ ?_;simp only[↓vS,vT,simprocAttr];refine h2.pc ?_;simp only[vJ,simprocAttr,qbU];simp only[↓vS,vT,simprocAttr];subst hT
 by_cases n0:a.key=Qw
 ·have hM:xE p a.key a.val=xO p a.val:=by unfold xE;rw[if_pos n0]
  simp only[↓vS,vT,simprocAttr,n0,if_true];refine (hm1 p a [] a.val hv (by simp) hp.a hp.f).sc (vs:=[.ptr 0 0,.s a.val]) [0,1] (Lent.of (by decide) ?_) ?_
  ·simp[vL,vw,qF,qr qb,qe qb,qP,clo,qp,rN]
  rw[← n0,hM]
  by_cases hnew:(xO p a.val).2.map (qN a)=[]
  ·simp only[qw,if_pos hnew];simp only[vK,simprocAttr,qF,qe qb,qp,clo];simp only[↓vS,vT,simprocAttr];refine xQ g1 g2 (xO p a.val).1 a ((xO p a.val).2.map (qN a)) [] (k:=2) (by simp only[qw,if_pos hnew];rfl) kt rfl (Wk.mk _ _ [0,1,3] ?_ ?_ ?_ rfl)
   ·simp only[qw,if_pos hnew];simp[vw]
   ·simp only[qw,if_pos hnew];simp[vw,qF,kt,qa,qb];try decide
   ·simp[vw]
  ·simp only[qw,if_neg hnew];simp only[vK,simprocAttr,qF,qe qb,qp,clo];simp only[↓vS,vT,simprocAttr];refine xQ g1 g2 (xO p a.val).1 a ((xO p a.val).2.map (qN a)) [] (k:=3) (by simp only[qw,if_neg hnew];rfl) kt rfl (Wk.mk _ _ [0,1,5,3] ?_ ?_ ?_ rfl)
   ·simp only[qw,if_neg hnew];simp[vw]
   ·simp only[qw,if_neg hnew];simp[vw,qF,kt,qa,qb];try decide
   ·simp[vw]
 by_cases n1:a.key=vz
 ·have hM:xE p a.key a.val=zb p a.val:=by unfold xE;rw[if_neg n0,if_pos n1]
  simp only[↓vS,vT,simprocAttr,n0,n1,if_true];refine (hm2 p a [] a.val hv (by simp) hp.a hp.f).sc (vs:=[.ptr 0 0,.s a.val]) [0,1] (Lent.of (by decide) ?_) ?_
  ·simp[vL,vw,qF,qr qb,qe qb,qP,clo,qp,rN]
  rw[← n1,hM]
  by_cases hnew:(zb p a.val).2.map (qN a)=[]
  ·simp only[qw,if_pos hnew];simp only[vK,simprocAttr,qF,qe qb,qp,clo];simp only[↓vS,vT,simprocAttr];refine xQ g1 g2 (zb p a.val).1 a ((zb p a.val).2.map (qN a)) [] (k:=2) (by simp only[qw,if_pos hnew];rfl) kt rfl (Wk.mk _ _ [0,1,3] ?_ ?_ ?_ rfl)
   ·simp only[qw,if_pos hnew];simp[vw]
   ·simp only[qw,if_pos hnew];simp[vw,qF,kt,qa,qb];try decide
   ·simp[vw]
  ·simp only[qw,if_neg hnew];simp only[vK,simprocAttr,qF,qe qb,qp,clo];simp only[↓vS,vT,simprocAttr];refine xQ g1 g2 (zb p a.val).1 a ((zb p a.val).2.map (qN a)) [] (k:=3) (by simp only[qw,if_neg hnew];rfl) kt rfl (Wk.mk _ _ [0,1,5,3] ?_ ?_ ?_ rfl)
   ·simp only[qw,if_neg hnew];simp[vw]
   ·simp only[qw,if_neg hnew];simp[vw,qF,kt,qa,qb];try decide
   ·simp[vw]
 by_cases n2:a.key=kSp
 ·have hM:xE p a.key a.val=zc p a.val:=by unfold xE;rw[if_neg n0,if_neg n1,if_pos n2]
  simp only[↓vS,vT,simprocAttr,n0,n1,n2,if_true];refine (hm3 p a [] a.val hv (by simp) hp.a hp.f).sc (vs:=[.ptr 0 0,.s a.val]) [0,1] (Lent.of (by decide) ?_) ?_
  ·simp[vL,vw,qF,qr qb,qe qb,qP,clo,qp,rN]
  rw[← n2,hM]
  by_cases hnew:(zc p a.val).2.map (qN a)=[]
  ·simp only[qw,if_pos hnew];simp only[vK,simprocAttr,qF,qe qb,qp,clo];simp only[↓vS,vT,simprocAttr];refine xQ g1 g2 (zc p a.val).1 a ((zc p a.val).2.map (qN a)) [] (k:=2) (by simp only[qw,if_pos hnew];rfl) kt rfl (Wk.mk _ _ [0,1,3] ?_ ?_ ?_ rfl)
   ·simp only[qw,if_pos hnew];simp[vw]
   ·simp only[qw,if_pos hnew];simp[vw,qF,kt,qa,qb];try decide
   ·simp[vw]
  ·simp only[qw,if_neg hnew];simp only[vK,simprocAttr,qF,qe qb,qp,clo];simp only[↓vS,vT,simprocAttr];refine xQ g1 g2 (zc p a.val).1 a ((zc p a.val).2.map (qN a)) [] (k:=3) (by simp only[qw,if_neg hnew];rfl) kt rfl (Wk.mk _ _ [0,1,5,3] ?_ ?_ ?_ rfl)
   ·simp only[qw,if_neg hnew];simp[vw]
   ·simp only[qw,if_neg hnew];simp[vw,qF,kt,qa,qb];try decide
   ·simp[vw]
 by_cases n3:a.key=kWe
 ·have hM:xE p a.key a.val=Kn p a.val:=by unfold xE;rw[if_neg n0,if_neg n1,if_neg n2,if_pos n3]
  simp only[↓vS,vT,simprocAttr,n0,n1,n2,n3,if_true];refine (hm4 p a [] a.val hv (by simp) hp.a hp.f).sc (vs:=[.ptr 0 0,.s a.val]) [0,1] (Lent.of (by decide) ?_) ?_
  ·simp[vL,vw,qF,qr qb,qe qb,qP,clo,qp,rN]
  rw[← n3,hM]
  by_cases hnew:(Kn p a.val).2.map (qN a)=[]
  ·simp only[qw,if_pos hnew];simp only[vK,simprocAttr,qF,qe qb,qp,clo];simp only[↓vS,vT,simprocAttr];refine xQ g1 g2 (Kn p a.val).1 a ((Kn p a.val).2.map (qN a)) [] (k:=2) (by simp only[qw,if_pos hnew];rfl) kt rfl (Wk.mk _ _ [0,1,3] ?_ ?_ ?_ rfl)
   ·simp only[qw,if_pos hnew];simp[vw]
   ·simp only[qw,if_pos hnew];simp[vw,qF,kt,qa,qb];try decide
   ·simp[vw]
  ·simp only[qw,if_neg hnew];simp only[vK,simprocAttr,qF,qe qb,qp,clo];simp only[↓vS,vT,simprocAttr];refine xQ g1 g2 (Kn p a.val).1 a ((Kn p a.val).2.map (qN a)) [] (k:=3) (by simp only[qw,if_neg hnew];rfl) kt rfl (Wk.mk _ _ [0,1,5,3] ?_ ?_ ?_ rfl)
   ·simp only[qw,if_neg hnew];simp[vw]
   ·simp only[qw,if_neg hnew];simp[vw,qF,kt,qa,qb];try decide
   ·simp[vw]
 by_cases n4:a.key=kPe
 ·have hM:xE p a.key a.val=Kl p a.val:=by unfold xE;rw[if_neg n0,if_neg n1,if_neg n2,if_neg n3,if_pos n4]
  simp only[↓vS,vT,simprocAttr,n0,n1,n2,n3,n4,if_true];refine (hm5 p a [] a.val hv (by simp) hp.a hp.f).sc (vs:=[.ptr 0 0,.s a.val]) [0,1] (Lent.of (by decide) ?_) ?_
  ·simp[vL,vw,qF,qr qb,qe qb,qP,clo,qp,rN]
  rw[← n4,hM]
  by_cases hnew:(Kl p a.val).2.map (qN a)=[]
  ·simp only[qw,if_pos hnew];simp only[vK,simprocAttr,qF,qe qb,qp,clo];simp only[↓vS,vT,simprocAttr];refine xQ g1 g2 (Kl p a.val).1 a ((Kl p a.val).2.map (qN a)) [] (k:=2) (by simp only[qw,if_pos hnew];rfl) kt rfl (Wk.mk _ _ [0,1,3] ?_ ?_ ?_ rfl)
   ·simp only[qw,if_pos hnew];simp[vw]
   ·simp only[qw,if_pos hnew];simp[vw,qF,kt,qa,qb];try decide
   ·simp[vw]
  ·simp only[qw,if_neg hnew];simp only[vK,simprocAttr,qF,qe qb,qp,clo];simp only[↓vS,vT,simprocAttr];refine xQ g1 g2 (Kl p a.val).1 a ((Kl p a.val).2.map (qN a)) [] (k:=3) (by simp only[qw,if_neg hnew];rfl) kt rfl (Wk.mk _ _ [0,1,5,3] ?_ ?_ ?_ rfl)
   ·simp only[qw,if_neg hnew];simp[vw]
   ·simp only[qw,if_neg hnew];simp[vw,qF,kt,qa,qb];try decide
   ·simp[vw]
 by_cases n5:a.key=kRt
 ·have hM:xE p a.key a.val=Km p a.val:=by unfold xE;rw[if_neg n0,if_neg n1,if_neg n2,if_neg n3,if_neg n4,if_pos n5]
  simp only[↓vS,vT,simprocAttr,n0,n1,n2,n3,n4,n5,if_true];refine (hm6 p a [] a.val hv (by simp) hp.a hp.f).sc (vs:=[.ptr 0 0,.s a.val]) [0,1] (Lent.of (by decide) ?_) ?_
  ·simp[vL,vw,qF,qr qb,qe qb,qP,clo,qp,rN]
  rw[← n5,hM]
  by_cases hnew:(Km p a.val).2.map (qN a)=[]
  ·simp only[qw,if_pos hnew];simp only[vK,simprocAttr,qF,qe qb,qp,clo];simp only[↓vS,vT,simprocAttr];refine xQ g1 g2 (Km p a.val).1 a ((Km p a.val).2.map (qN a)) [] (k:=2) (by simp only[qw,if_pos hnew];rfl) kt rfl (Wk.mk _ _ [0,1,3] ?_ ?_ ?_ rfl)
   ·simp only[qw,if_pos hnew];simp[vw]
   ·simp only[qw,if_pos hnew];simp[vw,qF,kt,qa,qb];try decide
   ·simp[vw]
  ·simp only[qw,if_neg hnew];simp only[vK,simprocAttr,qF,qe qb,qp,clo];simp only[↓vS,vT,simprocAttr];refine xQ g1 g2 (Km p a.val).1 a ((Km p a.val).2.map (qN a)) [] (k:=3) (by simp only[qw,if_neg hnew];rfl) kt rfl (Wk.mk _ _ [0,1,5,3] ?_ ?_ ?_ rfl)
   ·simp only[qw,if_neg hnew];simp[vw]
   ·simp only[qw,if_neg hnew];simp[vw,qF,kt,qa,qb];try decide
   ·simp[vw]
 by_cases n6:a.key=kNp
 ·have hM:xE p a.key a.val=Kk p a.val:=by unfold xE;rw[if_neg n0,if_neg n1,if_neg n2,if_neg n3,if_neg n4,if_neg n5,if_pos n6]
  simp only[↓vS,vT,simprocAttr,n0,n1,n2,n3,n4,n5,n6,if_true];refine (hm7 p a [] a.val hv (by simp) hp.a hp.f).sc (vs:=[.ptr 0 0,.s a.val]) [0,1] (Lent.of (by decide) ?_) ?_
  ·simp[vL,vw,qF,qr qb,qe qb,qP,clo,qp,rN]
  rw[← n6,hM]
  by_cases hnew:(Kk p a.val).2.map (qN a)=[]
  ·simp only[qw,if_pos hnew];simp only[vK,simprocAttr,qF,qe qb,qp,clo];simp only[↓vS,vT,simprocAttr];refine xQ g1 g2 (Kk p a.val).1 a ((Kk p a.val).2.map (qN a)) [] (k:=2) (by simp only[qw,if_pos hnew];rfl) kt rfl (Wk.mk _ _ [0,1,3] ?_ ?_ ?_ rfl)
   ·simp only[qw,if_pos hnew];simp[vw]
   ·simp only[qw,if_pos hnew];simp[vw,qF,kt,qa,qb];try decide
   ·simp[vw]
  ·simp only[qw,if_neg hnew];simp only[vK,simprocAttr,qF,qe qb,qp,clo];simp only[↓vS,vT,simprocAttr];refine xQ g1 g2 (Kk p a.val).1 a ((Kk p a.val).2.map (qN a)) [] (k:=3) (by simp only[qw,if_neg hnew];rfl) kt rfl (Wk.mk _ _ [0,1,5,3] ?_ ?_ ?_ rfl)
   ·simp only[qw,if_neg hnew];simp[vw]
   ·simp only[qw,if_neg hnew];simp[vw,qF,kt,qa,qb];try decide
   ·simp[vw]
 have hM:xE p a.key a.val=(p,[]):=by unfold xE;rw[if_neg n0,if_neg n1,if_neg n2,if_neg n3,if_neg n4,if_neg n5,if_neg n6]
 simp only[↓vS,vT,simprocAttr,n0,n1,n2,n3,n4,n5,n6];rw[hM];refine xQ g1 g2 p a [] [] (k:=2) rfl kt rfl (Wk.mk _ _ [0,1,3] ?_ ?_ ?_ rfl)
 ·simp[vw,qw]
 ·simp[vw,qw,qF,kt,qa,qb,rN];try decide
 ·simp[vw,qw]
end Go.Kc
end
section
/- The law RestrictSpaces. Condition: the functions' texts are these. -/
namespace Go.Kc
variable {P:Program} {f:Nat}
end Go.Kc
end
section
/- What a setter leaves: lists that rise still rise, only the named field differs, every note tells of a fault. No condition. -/
namespace Go.Kc
theorem qge(p q:Nat->Bool):∀(m i j:Nat),j-i=m->(∀k,k<j->p k=q k)->bsN p i j=bsN q i j:=by
 intro m
 induction m using Nat.strongRecOn with
 | ind m ih =>
  intro i j hm h
  conv=>lhs;rw[bsN]
  conv=>rhs;rw[bsN]
  split
  ·rw[h _ (by omega)];split
   ·exact ih (j-((i+j) / 2+1)) (by omega) _ _ rfl h
   ·exact ih ((i+j) / 2-i) (by omega) _ _ rfl fun k hk=>h k (by omega)
  ·rfl
theorem qdd{l:List Int}{x:Int}(h:l.Pairwise (· < ·)):(∀a (ha:a<l.length),a<bsI l x->l[a]<x)∧(∀a (ha:a<l.length),bsI l x<=a->¬l[a]<x):=by
 have hp:=List.pairwise_iff_getElem.1 h
 have e:bsI l x=bsN (fun k=>if hk:k<l.length then decide (l[k]<x) else false) 0 l.length:=by
  refine qge _ _ _ 0 l.length rfl fun k hk=>?_
  rw[dif_pos hk,List.getD_eq_getElem?_getD,List.getElem?_eq_getElem hk];rfl
 have:=qde (fun k=>if hk:k<l.length then decide (l[k]<x) else false) (fun a b hab hb=>by
  by_cases hbl:b<l.length
  ·simp only[dif_pos hbl,decide_eq_true_eq] at hb;have hal:a<l.length:=by omega
   simp only[dif_pos hal,decide_eq_true_eq];rcases Nat.lt_or_eq_of_le hab with hlt|rfl
   ·have:=hp a b hal hbl hlt;omega
   ·exact hb
  ·simp only[dif_neg hbl] at hb;cases hb) l.length 0 l.length rfl (Nat.zero_le _) (fun a ha=>by omega) (fun a ha=>dif_neg (by omega))
 rw[← e] at this;refine⟨fun a ha hlt=>?_,fun a ha hle=>?_⟩
 ·have:=this.1 a hlt;simpa only[dif_pos ha,decide_eq_true_eq] using this
 ·have:=this.2 a hle;simpa only[dif_pos ha,decide_eq_false_iff_not] using this
theorem Kf{l:List Int}(n:Int)(is:Bool)(h:l.Pairwise (· < ·)):(jl l n is).Pairwise (· < ·):=by
 unfold jl;have hm:(l.filter (fun x=>!decide (x=n))).Pairwise (· < ·):=h.filter _
 have hne:∀x ∈ l.filter (fun x=>!decide (x=n)),x≠n:=fun x hx=>by simpa using (List.mem_filter.1 hx).2
 generalize l.filter (fun x=>!decide (x=n))=m at hm hne
 dsimp only;split
 ·obtain⟨h1,h2⟩:=qdd (x:=n) hm;have hp:=List.pairwise_iff_getElem.1 hm;generalize bsI m n=k at h1 h2;refine List.pairwise_append.2 ⟨hm.sublist (List.take_sublist _ _),List.pairwise_cons.2 ⟨fun y hy=>?_,hm.sublist (List.drop_sublist _ _)⟩,fun a ha b hb=>?_⟩
  ·obtain⟨i,hi,rfl⟩:=List.mem_drop_iff_getElem.1 hy;have:=h2 (k+i) (by omega) (by omega);have:=hne m[k+i] (List.getElem_mem _);omega
  ·obtain⟨i,hi,rfl⟩:=List.mem_take_iff_getElem.1 ha;have hi':i<m.length:=by omega
   have q1:=h1 i hi' (by omega);rcases List.mem_cons.1 hb with rfl|hb
   ·exact q1
   ·obtain⟨j,hj,rfl⟩:=List.mem_drop_iff_getElem.1 hb;exact hp i (k+j) hi' (by omega) (by omega)
 ·exact hm
def qrC(p:Pol):Prop:=p.arches.Pairwise (· < ·)∧p.fams.Pairwise (· < ·)
instance (p:Pol):Decidable (qrC p):=inferInstanceAs (Decidable (_∧_))
theorem qaw(ws:List (List UInt8)):∀s:List Int×List (Int×List UInt8),s.1.Pairwise (· < ·)->(ws.foldl zp s).1.Pairwise (· < ·):=by
 induction ws with
 | nil=>intro s h;exact h
 | cons w ws ih =>
  intro s h;refine ih _ ?_;unfold zp;split
  ·exact Kf (jB w).1 true h
  ·exact h
theorem qbw(b:Bool)(ws:List (List UInt8)):∀s:List Int×List (Int×List UInt8),s.1.Pairwise (· < ·)->(ws.foldl (xn b) s).1.Pairwise (· < ·):=by
 induction ws with
 | nil=>intro s h;exact h
 | cons w ws ih =>
  intro s h;refine ih _ ?_;unfold xn;split
  ·exact Kf _ _ h
  ·exact h
end Go.Kc
end
section
/- What the small functions of the law RestrictOwn answer. Condition: the functions' texts are these. -/
namespace Go.Kc
variable {P:Program} {f:Nat}
def kh:IFn:=⟨[.tmp 2],.seq (.r [.q 1 (.box (.t 0)),.m 2 .F]) (.seq (.r [.f 3 1 1,.d 4 3,.e 5 4,.w 6 .gtr 5 100,.n 2 6]) (.ret))⟩
def QP(l:GList):Bool:=decide (100<l.calls.length)
theorem qlJ(hc:qj P f kh=true)(l:GList):qc P f [.agg (qv l)] (.b (QP l)):=by
 refine qc.mk hc rfl ?_;simp only[kh,qv,vI,simprocAttr]
 by_cases h:(100:Int)<l.calls.length
 ·have h':100<l.calls.length:=by omega
  simp only[↓vS,vT,simprocAttr,h,QP,h',vZ]
 ·have h':¬100<l.calls.length:=by omega
  simp only[↓vS,vT,simprocAttr,h,QP,h',vZ]
def ki(a:Nat):IFn:=⟨[.tmp 4],.seq (.r [.q 2 (.box (.t 0)),.q 3 (.box (.t 1)),.m 4 .F]) (.seq (.r [.f 5 0 2,.d 6 5,.e 7 6,.w 8 .gtr 7 20,.n 9 8,.h 10 6 2 9 false,.j 11 10 9 false,.g 12 (.len false (.t 11)) 9 false,.g 13 (.bin .gtr (.t 12) (.k 20)) 9 false,.o 14 9 13,.n 15 14,.h 16 1 2 15 false,.g 17 (.loadN 2 (.t 16)) 15 false,⟨(some 18),.callF a [.t 17],(some (15,false))⟩,.o 19 15 18,.n 20 19,.h 21 4 2 20 false,.g 22 (.loadN 2 (.t 21)) 20 false,⟨(some 23),.callF a [.t 22],(some (20,false))⟩,.o 24 20 23,.n 25 24,.h 26 4 3 25 false,.j 27 26 25 false,.g 28 (.len true (.t 27)) 25 false,.g 29 (.bin .gtr (.t 28) (.k 1000)) 25 false,.o 30 25 29,.n 31 30,.h 32 3 3 31 false,.j 33 32 31 false,.g 34 (.len true (.t 33)) 31 false,.g 35 (.bin .gtr (.t 34) (.k 200)) 31 false,.o 36 31 35,.n 37 36,.h 38 0 3 37 false,.j 39 38 37 false,.g 40 (.len true (.t 39)) 37 false,.g 41 (.bin .gtr (.t 40) (.k 200)) 37 false,.o 42 37 41,.n 4 42]) (.ret))⟩
def je(p:Pol)(a:Asg):Bool:=decide (20<p.arches.length)||decide (20<p.fams.length)||QP p.filter||QP p.log||decide (1000<a.val.length)||decide (200<a.key.length)||decide (200<a.file.length)
theorem qlK{g:Nat}(hc:qj P f (ki g)=true)(hg:∀l,qc P g [.agg (qv l)] (.b (QP l)))(p:Pol)(a:Asg):qc P f [.agg (qo p),.agg (xl a)] (.b (je p a)):=by
 have cast:∀(n m:Nat),((n:Int)<(m:Int))=(n<m):=fun n m=>by simp
 refine qc.mk hc rfl ?_;simp only[ki,qo,xl,vI,simprocAttr]
 by_cases h1:(20:Int)<p.arches.length
 ·have h1':20<p.arches.length:=by omega
  simp only[↓vS,vT,simprocAttr,h1,je,h1',vZ];simp
 have h1':¬20<p.arches.length:=by omega
 by_cases h2:(20:Int)<p.fams.length
 ·have h2':20<p.fams.length:=by omega
  simp only[↓vS,vT,simprocAttr,h1,h2,je,h1',h2',vZ];simp
 have h2':¬20<p.fams.length:=by omega
 simp only[↓vS,vT,simprocAttr,h1,h2];refine (hg p.filter).sc ?_;cases h3:QP p.filter
 case true =>
  simp only[↓vS,vT,simprocAttr];simp[je,h3,vZ]
 simp only[↓vS,vT,simprocAttr];refine (hg p.log).sc ?_;cases h4:QP p.log
 case true =>
  simp only[↓vS,vT,simprocAttr];simp[je,h4,vZ]
 by_cases h5:(1000:Int)<a.val.length
 ·have h5':1000<a.val.length:=by omega
  simp only[↓vS,vT,simprocAttr,h5];simp[je,h5',vZ]
 have h5':¬1000<a.val.length:=by omega
 by_cases h6:(200:Int)<a.key.length
 ·have h6':200<a.key.length:=by omega
  simp only[↓vS,vT,simprocAttr,h5,h6];simp[je,h6',vZ]
 have h6':¬200<a.key.length:=by omega
 by_cases h7:(200:Int)<a.file.length
 ·have h7':200<a.file.length:=by omega
  simp only[↓vS,vT,simprocAttr,h5,h6,h7];simp[je,h7',vZ]
 have h7':¬200<a.file.length:=by omega
 simp only[↓vS,vT,simprocAttr,h5,h6,h7];simp[je,h1',h2',h3,h4,h5',h6',h7',vZ]
def Xt(a:Nat):IFn:=⟨[.tmp 2],.seq (.r [.m 2 .F]) (.seq (.r [.l 6 a [],.n 7 0,.q 8 (.lookM none true (.nilf) (.t 6) (.t 7)),.n 5 8,.x 9 5 0,.x 10 5 1,.n 3 9,.n 4 10]) (.seq (.r [.n 11 4,.n 2 11]) (.ret)))⟩
theorem qsk{g1 m1 m2 m3 m4 m5 m6 m7:Nat}(hc:qj P f (Xt g1)=true)(h2:Own P g1 [] (.map 0) [.map (qbU m1 m2 m3 m4 m5 m6 m7)])(k:List UInt8):qc P f [.s k] (.b (qgK k)):=by
 refine qc.mk hc rfl ?_;simp only[Xt,vI,simprocAttr];simp only[↓vS,vT,simprocAttr];refine h2.sc ?_;simp only[vJ,simprocAttr,qbU];simp only[↓vS,vT,simprocAttr];unfold qgK
 repeat' split
 all_goals simp_all [vZ,Qw,vz,kSp,kWe,kPe,kRt,kNp]
end Go.Kc
end
section
/- Does a policy rise. Condition: the function's text is this. -/
namespace Go.Kc
variable {P:Program} {f:Nat}
end Go.Kc
end
section
/- The law RestrictOwn: whatever the policy and the assignment, true comes back. Condition: the functions' texts are these. -/
namespace Go.Kc
variable {P:Program} {f:Nat}
end Go.Kc
end
section
/- What the names of faults answer, the program's and the reference's. Condition: the functions' texts are these. -/
namespace Go.Kc
variable {P:Program} {f:Nat}
def vg:List UInt8->Nat->Option Nat
 | [],n=>some n
 | c::l,n=>if c.toNat<48∨57<c.toNat then none else vg l (10*n+(c.toNat-48))
def zh(s:List UInt8):Int×Int :=
 if (xe s 160 qI).2=0 then ((xe s 160 qI).1,0)
 else if 4<s.length then (0,160) else if s=[] then (0,160) else match vg s 0 with|none=>(0,160)|some n=>if 4095<n then (0,160) else ((n:Int),0)
theorem VX(s:List UInt8)(no:Int):∀l:List (List UInt8×Int),(∀p ∈ l,0<=p.2∧p.2<=110)->0<=(xe s no l).1∧(xe s no l).1<=110
 | [],_=>by simp[xe]
 | p::l,h=>by
  simp only[xe];split
  ·exact h p (by simp)
  ·exact VX s no l fun q hq=>h q (by simp[hq])
theorem qr5(s:List UInt8):0<=(xe s 160 qI).1∧(xe s 160 qI).1<=110:=VX s 160 qI (by decide)
theorem qbN{s:List UInt8}(he:¬(xe s 160 qI).2=0)(h:4<s.length):zh s=(0,160):=by
 unfold zh;rw[if_neg he,if_pos h]
theorem qeB{s:List UInt8}(he:¬(xe s 160 qI).2=0)(h:vg s 0=none):zh s=(0,160):=by
 unfold zh;rw[if_neg he,h];dsimp only
 repeat' split
 all_goals rfl
theorem qeC{s:List UInt8}{n:Nat}(he:¬(xe s 160 qI).2=0)(hl:¬4<s.length)(h:vg s 0=some n):zh s=if s=[] then (0,160) else if 4095<n then (0,160) else ((n:Int),0):=by
 unfold zh;rw[if_neg he,if_neg hl,h]
def XV(a:Nat):IFn:=⟨[.tmp 4],.seq (.r [.q 2 (.box (.t 0)),.q 3 (.box (.t 1)),.m 4 (.c (.nilf))]) (.seq (.r [.q 5 (.mkF a [] [.t 2,.t 3]),.n 4 5]) (.ret))⟩
theorem qra{g1:Nat}(hc:qj P f (XV g1)=true)(g:Nat)(b:Bool):qc P f [.fn g [] [],.b b] (.fn g1 [] [.pf [.fn g [] []] 0,.pf [.b b] 0]):=by
 refine qc.mk hc (by simp[qt,clo]) ?_;simp only[XV,vI,simprocAttr];simp only[↓vS,vT,simprocAttr];simp[vZ,vP,Tr.get_set]
def X1(a b:Nat):IFn:=⟨[.tmp 2,.tmp 3],.seq (.r [.m 2 (.c (.i .u32 0)),.m 3 (.k 0)]) (.seq (.r [.l 10 a [],.q 4 (.alloc [.s [],.i .u32 0,.s [],.i .u32 0,.s [],.i .u32 0,.s [],.i .u32 0,.s [],.i .u32 0,.s [],.i .u32 0,.s [],.i .u32 0,.s [],.i .u32 0,.s [],.i .u32 0,.s [],.i .u32 0,.s [],.i .u32 0,.s [],.i .u32 0,.s [],.i .u32 0,.s [],.i .u32 0,.s [],.i .u32 0]),.u (.store 30 (.t 4) (.t 10))]) (.seq (.seq (.r [.q 12 (.slcA 15 2 (.t 4) none none none),.n 13 0,.l 14 b [.t 12,.t 13,.k 160],.n 11 14,.x 15 11 0,.x 16 11 1,.n 5 15,.n 6 16]) (.seq (.r [.n 17 6,.w 18 .eql 17 0]) (.cond (.t 18) (.seq (.r [.n 19 5,.n 2 19,.m 3 (.k 0)]) (.ret)) (.skip)))) (.seq (.r [.m 7 (.k 0)]) (.seq (.seq (.r [.n 20 0,.q 21 (.s2b (.t 20)),.e 22 21,.m 23 (.k 0)]) (.blk 0 (.loop (.seq (.r [.s 24 23 22]) (.seq (.cond (.t 24) (.skip) (.exit 0)) (.seq (.blk 1 (.seq (.r [.i 25 1 21 23,.d 26 25,.n 9 26]) (.seq (.seq (.r [.n 27 9,.q 28 (.bin .lss (.t 27) (.c (.i .u8 48))),.n 29 28,.z 30 9 29,.g 31 (.bin .gtr (.t 30) (.c (.i .u8 57))) 29 false,.o 32 29 31]) (.cond (.t 32) (.seq (.r [.m 2 (.c (.i .u32 0)),.m 3 (.k 160)]) (.ret)) (.skip))) (.r [.n 33 7,.q 34 (.bin .mul (.k 10) (.t 33)),.n 35 9,.q 36 (.bin .sub (.t 35) (.c (.i .u8 48))),.q 37 (.cvInt .i64 (.t 36)),.b 38 .add 34 37,.q 39 (.min (.t 38) (.k 1048576)),.n 7 39])))) (.r [.a 40 23 1,.n 23 40]))))))) (.seq (.seq (.r [.n 41 0,.q 42 (.len true (.t 41)),.w 43 .lss 42 1,.n 44 43,.z 45 0 44,.g 46 (.len true (.t 45)) 44 false,.g 47 (.bin .gtr (.t 46) (.k 4)) 44 false,.o 48 44 47,.n 49 48,.z 50 7 49,.g 51 (.bin .gtr (.t 50) (.k 4095)) 49 false,.o 52 49 51]) (.cond (.t 52) (.seq (.r [.m 2 (.c (.i .u32 0)),.m 3 (.k 160)]) (.ret)) (.skip))) (.seq (.r [.n 53 7,.q 54 (.cvInt .u32 (.t 53)),.n 2 54,.m 3 (.k 0)]) (.ret)))))))⟩
set_option maxRecDepth 8000 in
theorem qtJ{g1 g2:Nat}(hc:qj P f (X1 g1 g2)=true)(h1:qc P g1 [] (.agg (qI.flatMap (zo .u32))))(h2:qdi P g2 .u32)(s:List UInt8)(hs:s.length<=1000000):qc P f [.s s] (.tup [.i .u32 (zh s).1,.i .i64 (zh s).2]):=by
 refine qc.mk hc rfl ?_;simp only[X1,vI,simprocAttr];simp only[↓vS,vT,simprocAttr];refine h1.sc ?_;simp only[↓vS,vT,simprocAttr,qI,zo,List.flatMap_cons,List.flatMap_nil];refine (h2 qI s 160 (by decide)).lend (vs':=[.fz 15 (qI.flatMap (zo .u32)),.s s,.i .i64 160]) ?_ (ZW _) ?_
 ·refine .cons _ _ _ _ (.cut 2 rfl (Nat.le_refl _) ?_) (.cons _ _ _ _ (.s _) (.cons _ _ _ _ (.i _ _) .nil));simp[vw,qI,zo]
 rw[qah]
 by_cases he:(xe s 160 qI).2=0
 ·simp only[↓vS,vT,simprocAttr,he];simp[vZ,zh,he]
 have bcl:qt (List.map (fun c:UInt8=>AV.i .u8 (c.toNat:Int)) s)=true:=XI fun _=>rfl
 simp only[↓vS,vT,simprocAttr,he];refine SL.loop (α:=Nat×Nat) (fun q=>[(0,.s s),(2,.i .u32 0),(3,.i .i64 0),(7,.i .i64 q.2),(21,.own 0 s.length),(22,.i .i64 s.length),(23,.i .i64 q.1)]) (fun _=>[.cells 1 true true (s.map fun c=>.i .u8 (Int.ofNat c.toNat))]) (fun q=>q.1<=s.length∧q.2<=1048576∧(q.1<=4->q.2<10 ^ q.1∧vg s 0=vg (s.drop q.1) q.2)) (fun q=>s.length-q.1) (0,0) [1] ?_ ?_ ?_ rfl ?_ ?_
 ·simp[vw]
 ·simp[vw,qa,bcl]
 ·simp
 ·exact⟨Nat.zero_le _,by decide,fun _=>⟨by decide,rfl⟩⟩
 rintro⟨j,nn⟩ ⟨hj,hm,hI⟩ G ih;dsimp only at hj hm hI ih ⊢;simp only[vI,simprocAttr]
 by_cases hlt:j<s.length
 ·have hx:s[j]?=some s[j]:=List.getElem?_eq_getElem hlt
  have hI2:j<=4->nn<10 ^ j∧vg s 0=if s[j].toNat<48∨57<s[j].toNat then none else vg (s.drop (j+1)) (10*nn+(s[j].toNat-48)):=fun h=>by
   have:=hI h;rwa [List.drop_eq_getElem_cons hlt,vg] at this
  clear hI;generalize hc:s[j]=c at hI2 hx;have hcl:=UInt8.toNat_lt c
  have hbad:(c.toNat<48∨57<c.toNat)->zh s=(0,160):=fun h=>by
   by_cases hl:4<s.length
   ·exact qbN he hl
   ·have:=(hI2 (by omega)).2;rw[if_pos h] at this;exact qeB he this
  by_cases h1:(c.toNat:Int)<48
  ·have hw:=hbad (.inl (by omega));simp only[↓vS,vT,simprocAttr,hlt,hx,List.getElem?_map,Option.map_some,Nat.mul_one,Int.ofNat_eq_natCast,h1];simp[vZ,hw]
  by_cases h2:(57:Int)<c.toNat
  ·have hw:=hbad (.inr (by omega));simp only[↓vS,vT,simprocAttr,hlt,hx,List.getElem?_map,Option.map_some,Nat.mul_one,Int.ofNat_eq_natCast,h1,h2];simp[vZ,hw]
  have e1:IntKind.wrap .u8 ((c.toNat:Int)-48)=((c.toNat-48:Nat):Int):=by rw[qqG (by omega) (by omega)];omega
  have e2:IntKind.wrap .i64 ((c.toNat-48:Nat):Int)=((c.toNat-48:Nat):Int):=qB (by omega) (by omega);have e3:IntKind.wrap .i64 (10*(nn:Int))=((10*nn:Nat):Int):=by rw[qB (by omega) (by omega)];omega
  have e4:IntKind.wrap .i64 (((10*nn:Nat):Int)+((c.toNat-48:Nat):Int))=((10*nn+(c.toNat-48):Nat):Int):=by rw[qB (by omega) (by omega)];omega
  have e5:IntKind.wrap .i64 ((j:Int)+1)=((j+1:Nat):Int):=by rw[qB (by omega) (by omega)];omega
  simp only[↓vS,vT,simprocAttr,hlt,hx,List.getElem?_map,Option.map_some,Nat.mul_one,Int.ofNat_eq_natCast,h1,h2,e1,e2,e3,e4,e5]
  have e6:(if (1048576:Int)<((10*nn+(c.toNat-48):Nat):Int) then (1048576:Int) else ((10*nn+(c.toNat-48):Nat):Int))=((min (10*nn+(c.toNat-48)) 1048576:Nat):Int):=by
   split<;>omega
  rw[e6];refine ih (j+1,min (10*nn+(c.toNat-48)) 1048576) ⟨by dsimp only;omega,by dsimp only;omega,fun h=>?_⟩ (by dsimp only;omega) _ _ (Wk.mk _ _ [0] ?_ ?_ ?_ rfl)
  ·dsimp only at h ⊢;obtain⟨q1,q2⟩:=hI2 (by omega);rw[if_neg (by omega)] at q2;have hpow:10 ^ (j+1)<=10 ^ 4:=Nat.pow_le_pow_right (by decide) h;have q3:10*nn+(c.toNat-48)<10 ^ (j+1):=by rw[Nat.pow_succ];omega
   have q4:min (10*nn+(c.toNat-48)) 1048576=10*nn+(c.toNat-48):=by omega
   rw[q4];exact⟨q3,q2⟩
  ·simp[vw]
  ·simp[vw,qa,bcl]
  ·simp
 ·have ej:j=s.length:=by omega
  subst ej
  by_cases h1:(s.length:Int)<1
  ·have h0:s=[]:=List.eq_nil_of_length_eq_zero (by omega);simp only[↓vS,vT,simprocAttr,h1]
   have hw2:zh s=(0,160):=by
    unfold zh;rw[if_neg he,if_neg (by omega),if_pos h0]
   simp[vZ,hw2]
  by_cases h2:(4:Int)<s.length
  ·have hw:=qbN he (s:=s) (by omega);simp only[↓vS,vT,simprocAttr,h1,h2];simp[vZ,hw]
  obtain⟨q1,q2⟩:=hI (by omega);rw[List.drop_length,vg] at q2;have hw:=qeC he (by omega) q2;rw[if_neg (by intro hh;rw[hh] at h1;simp at h1)] at hw
  by_cases h3:(4095:Int)<nn
  ·rw[if_pos (by omega)] at hw;simp only[↓vS,vT,simprocAttr,h1,h2,h3];simp[vZ,hw]
  ·rw[if_neg (by omega)] at hw;simp only[↓vS,vT,simprocAttr,h1,h2,h3,Vg (x:=(nn:Int)) (by omega) (by omega)];simp[vZ,hw]
end Go.Kc
end
section
/- The law FilterKeys: the program's way. Condition: the functions' texts are these. -/
namespace Go.Kc
variable {P:Program} {f:Nat}
theorem or5:∀a b:Fin 64,orI .u32 327680 ((64*a.val+b.val:Nat):Int)=327680+((64*a.val+b.val:Nat):Int):=by decide +kernel
theorem Zo(s:List UInt8):0<=(zh s).1∧(zh s).1<=4095∧((zh s).2=0∨(zh s).2=160):=by
 have:=qr5 s;unfold zh
 repeat' split
 all_goals simp
 all_goals omega
def Jb:List UInt8:=[107,105,108,108]
noncomputable def kX(s:List UInt8):Int×Int:=if s=[]∨s=Jb then (2147483648,0) else if (zh s).2=0 then (327680+(zh s).1,0) else (0,160)
theorem qdX(s:List UInt8):orI .u32 327680 (zh s).1=327680+(zh s).1:=by
 obtain⟨h0,h1,_⟩:=Zo s;have:=or5 ⟨(zh s).1.toNat / 64,by omega⟩ ⟨(zh s).1.toNat % 64,by omega⟩
 have e:((64*((zh s).1.toNat / 64)+(zh s).1.toNat % 64:Nat):Int)=(zh s).1:=by omega
 simpa only[e] using this
def qfd(P:Program)(f:Nat):Prop:=∀s:List UInt8,s.length<=1000000->qc P f [.s s] (.tup [.i .u32 (kX s).1,.i .i64 (kX s).2])
def Xi(a:Nat):IFn:=⟨[.tmp 2,.tmp 3],.seq (.r [.m 2 (.c (.i .u32 0)),.m 3 (.k 0)]) (.seq (.seq (.r [.n 5 0,.q 6 (.bin .eql (.t 5) (.c (.s []))),.n 7 6,.z 8 0 7,.g 9 (.bin .eql (.t 8) (.c (.s [107,105,108,108]))) 7 false,.o 10 7 9]) (.cond (.t 10) (.seq (.r [.m 2 (.c (.i .u32 2147483648)),.m 3 (.k 0)]) (.ret)) (.skip))) (.seq (.r [.n 12 0,.l 13 a [.t 12],.n 11 13,.x 14 11 0,.x 15 11 1,.n 4 14,.n 3 15]) (.seq (.seq (.r [.n 16 3,.w 17 .neq 16 0]) (.cond (.t 17) (.seq (.r [.n 18 3,.m 2 (.c (.i .u32 0)),.n 3 18]) (.ret)) (.skip))) (.seq (.r [.n 19 4,.q 20 (.bin .or (.c (.i .u32 327680)) (.t 19)),.n 2 20,.m 3 (.k 0)]) (.ret)))))⟩
theorem qnj{g:Nat}(hc:qj P f (Xi g)=true)(hg:∀s:List UInt8,s.length<=1000000->qc P g [.s s] (.tup [.i .u32 (zh s).1,.i .i64 (zh s).2])):qfd P f:=by
 intro s hs;obtain⟨h0,h1,h2⟩:=Zo s;refine qc.mk hc (by simp[qt,clo]) ?_;simp only[Xi,vI,simprocAttr]
 by_cases e1:s=[]
 ·have hw:kX s=(2147483648,0):=if_pos (.inl e1);have e1':(s=[])=True:=eq_true e1;simp only[↓vS,vT,simprocAttr,e1'];simp[vZ,hw]
 by_cases e2:s=Jb
 ·have hw:kX s=(2147483648,0):=if_pos (.inr e2);simp only[Jb] at e2;have e2':(s=[107,105,108,108])=True:=eq_true e2;simp only[↓vS,vT,simprocAttr,e1,e2'];simp[vZ,hw]
 have hne:¬(s=[]∨s=Jb):=by intro h;rcases h with h|h;exact e1 h;exact e2 h
 have e2':¬s=[107,105,108,108]:=e2;simp only[↓vS,vT,simprocAttr,e1,e2'];refine (hg s hs).sc ?_;rcases h2 with h2|h2
 ·have hw:kX s=(327680+(zh s).1,0):=by unfold kX;rw[if_neg hne,if_pos h2]
  have hwr:=Vg (x:=327680+(zh s).1) (by omega) (by omega);simp only[↓vS,vT,simprocAttr,h2,qdX,hwr];simp[vZ,hw]
 ·have hw:kX s=(0,160):=by unfold kX;rw[if_neg hne,if_neg (by omega)]
  simp only[↓vS,vT,simprocAttr,h2];simp[vZ,hw]
def zU:List UInt8:=[83,121,115,116,101,109,67,97,108,108,70,105,108,116,101,114]
def Qx:List UInt8:=[83,121,115,116,101,109,67,97,108,108,76,111,103]
def Zx:List UInt8:=[83,121,115,116,101,109,67,97,108,108,69,114,114,111,114,78,117,109,98,101,114]
def qgJ(k:List UInt8):Bool:=decide (k=zU)||decide (k=Qx)||decide (k=Zx)
def qbV(l g1 g2 g3:Nat):List (AV×AV):=[(.s zU,.fn l [] [.pf [.fn g1 [] []] 0,.pf [.b true] 0]),(.s Qx,.fn l [] [.pf [.fn g2 [] []] 0,.pf [.b false] 0]),(.s Zx,.fn g3 [] [])]
def XU(a b c d:Nat):IFn:=⟨[.tmp 0],.seq (.r [.m 0 (.c (.nilm))]) (.seq (.r [.q 1 (.mkM),.l 2 a [(.c (.fn b [] [])),.T],.u (.updM none (.t 1) (.c (.s [83,121,115,116,101,109,67,97,108,108,70,105,108,116,101,114])) (.t 2)),.l 3 a [(.c (.fn c [] [])),.F],.u (.updM none (.t 1) (.c (.s [83,121,115,116,101,109,67,97,108,108,76,111,103])) (.t 3)),.u (.updM none (.t 1) (.c (.s [83,121,115,116,101,109,67,97,108,108,69,114,114,111,114,78,117,109,98,101,114])) (.c (.fn d [] []))),.n 4 1,.n 0 4]) (.ret))⟩
theorem qq7{g0 g1 g2 g3 l:Nat}(hc:qj P f (XU g0 g1 g2 g3)=true)(h:∀(g:Nat) (b:Bool),qc P g0 [.fn g [] [],.b b] (.fn l [] [.pf [.fn g [] []] 0,.pf [.b b] 0])):Own P f [] (.map 0) [.map (qbV l g1 g2 g3)]:=by
 refine Own.mk hc rfl ?_;simp only[XU,vI,simprocAttr];simp (decide:=true) only [↓vS,vT,simprocAttr];refine (h g1 true).sc ?_;simp (decide:=true) only [↓vS,vT,simprocAttr];refine (h g2 false).sc ?_;simp (decide:=true) only [↓vS,vT,simprocAttr];intro _;refine⟨[0],?_⟩;simp[vw,qbV,zU,Qx,Zx,clo,qt]
def JV(a:Nat):IFn:=⟨[.tmp 2],.seq (.r [.m 2 .F]) (.seq (.r [.l 6 a [],.n 7 0,.q 8 (.lookM none true (.nilf) (.t 6) (.t 7)),.n 5 8,.x 9 5 0,.x 10 5 1,.n 3 9,.n 4 10]) (.seq (.r [.n 11 4,.n 2 11]) (.ret)))⟩
theorem qq6{g1 l m1 m2 m3:Nat}(hc:qj P f (JV g1)=true)(h2:Own P g1 [] (.map 0) [.map (qbV l m1 m2 m3)])(k:List UInt8):qc P f [.s k] (.b (qgJ k)):=by
 refine qc.mk hc rfl ?_;simp only[JV,vI,simprocAttr];simp only[↓vS,vT,simprocAttr];refine h2.sc ?_;simp only[vJ,simprocAttr,qbV];simp only[↓vS,vT,simprocAttr];unfold qgJ
 repeat' split
 all_goals simp_all [vZ,zU,Qx,Zx]
end Go.Kc
end
section
/- The small functions of fold: what they answer. Condition: the functions' texts are these. -/
namespace Go.Kc
variable {P:Program} {f:Nat}
def XZ:IFn:=⟨[.tmp 2],.seq (.r [.m 2 .F]) (.seq (.r [.n 3 0,.q 4 (.bin .eql (.t 3) (.c (.i .u32 0))),.n 5 4,.z 6 0 5,.g 7 (.bin .eql (.t 6) (.c (.i .u32 2147483648))) 5 false,.o 8 5 7,.n 9 8,.z 10 0 9,.g 11 (.bin .geq (.t 10) (.c (.i .u32 327680))) 9 false,.z 12 11 9,.y 13 0 12,.g 14 (.bin .leq (.t 13) (.c (.i .u32 331775))) 12 true,.g 15 (.pick (.t 12) (.t 14) .F) 9 false,.o 16 9 15,.n 2 16]) (.ret))⟩
def Q4(n:Int):Bool:=decide (n=0)||decide (n=2147483648)||(decide (327680<=n)&&decide (n<=331775))
theorem qm7(hc:qj P f XZ=true)(n:Int):qc P f [.i .u32 n] (.b (Q4 n)):=by
 refine qc.mk hc rfl ?_;simp only[XZ,vI,simprocAttr]
 by_cases h1:n=0
 ·simp only[↓vS,vT,simprocAttr,h1];simp[vZ,Q4,h1]
 by_cases h2:n=2147483648
 ·simp only[↓vS,vT,simprocAttr,h1,h2];simp[vZ,Q4,h2]
 by_cases h3:327680<=n
 ·by_cases h4:n<=331775
  ·simp only[↓vS,vT,simprocAttr,h1,h2,h3,h4];simp[vZ,Q4,h3,h4]
  ·simp only[↓vS,vT,simprocAttr,h1,h2,h3,h4];simp[vZ,Q4,h1,h2,h4]
 ·simp only[↓vS,vT,simprocAttr,h1,h2,h3];simp[vZ,Q4,h1,h2,h3]
def ze(l:List GCall)(s:List UInt8):Option GCall:=l.find? (fun c=>decide (c.name=s))
def X0(a:Nat):IFn:=⟨[.cell 2 2 true],.seq (.r [.q 1 (.box (.t 0)),.q 2 (.alloc [.i .u8 0,.nils])]) (.seq (.reg true [.f 3 0 1,.d 4 3,.f 5 1 1,.d 6 5,.l 7 a [.t 6],.q 8 (.build [.i .u8 0,.nils] [(0,1,(.t 4)),(1,1,(.t 7))]),.u (.store 2 (.t 2) (.t 8))]) (.ret))⟩
theorem qti{g:Nat}(hc:qj P f (X0 g)=true)(hg:kw P g 2 24)(l:GList)(hl:l.calls.length<=100000):Own P f [.agg (qv l)] (.agg [.i .u8 l.mode,.own 0 l.calls.length]) [.cells 2 true true (rC l.calls)]:=by
 refine Own.mk hc rfl ?_;simp only[X0,qv,vI,simprocAttr];simp only[↓vS,vT,simprocAttr];refine zQ ?_;simp only[↓vS,vT,simprocAttr];refine (hg _ _ yM qg qa8 (by simp only[qf];omega) (by simp only[qf];omega)).pc ?_;simp only[vJ,simprocAttr];simp only[↓vS,vT,simprocAttr];intro _;refine⟨[2],?_⟩;simp[vw,qa,qg,zW qg]
def Qv(a:Nat):IFn:=⟨[.tmp 4],.seq (.r [.m 4 (.k 0)]) (.seq (.r [.n 5 0,.n 6 1,.l 7 a [.t 5,.t 6],.n 4 7]) (.ret))⟩
theorem qlf{g:Nat}(hc:qj P f (Qv g)=true)(hg:∀a b:List UInt8,qc P g [.s a,.s b] (.i .i64 (zS a b)))(a b:List UInt8):qc P f [.s a,.s b] (.i .i64 (zS a b)):=by
 refine qc.mk hc rfl ?_;simp only[Qv,vI,simprocAttr];simp only[↓vS,vT,simprocAttr];refine (hg a b).sc ?_;simp only[↓vS,vT,simprocAttr,vZ]
def xW(a:Nat):IFn:=⟨[.tmp 4],.seq (.r [.m 4 (.k 0)]) (.seq (.r [.n 5 0,.n 6 1,.l 7 a [.t 5,.t 6],.n 4 7]) (.ret))⟩
theorem qks{g:Nat}(hc:qj P f (xW g)=true)(hg:∀a b:List UInt8,qc P g [.s a,.s b] (.i .i64 (zS a b)))(a b:List UInt8):qc P f [.s a,.s b] (.i .i64 (zS a b)):=by
 refine qc.mk hc rfl ?_;simp only[xW,vI,simprocAttr];simp only[↓vS,vT,simprocAttr];refine (hg a b).sc ?_;simp only[↓vS,vT,simprocAttr,vZ]
def JX(a:Nat):IFn:=⟨[.tmp 4],.seq (.r [.q 2 (.box (.t 0)),.m 4 (.k 0)]) (.seq (.r [.f 5 0 2,.d 6 5,.n 7 1,.l 8 a [.t 6,.t 7],.n 4 8]) (.ret))⟩
theorem qri{g:Nat}(hc:qj P f (JX g)=true)(hg:∀a b:List UInt8,qc P g [.s a,.s b] (.i .i64 (zS a b)))(c:GCall)(s:List UInt8):qc P f [.agg (zt c),.s s] (.i .i64 (zS c.name s)):=by
 refine qc.mk hc rfl ?_;simp only[JX,zt,vI,simprocAttr];simp only[↓vS,vT,simprocAttr];refine (hg c.name s).sc ?_;simp only[↓vS,vT,simprocAttr,vZ]
def XY:IFn:=⟨[.tmp 3],.seq (.r [.q 2 (.box (.t 0)),.m 3 .F]) (.seq (.r [.f 4 0 2,.d 5 4,.d 6 1,.b 7 .eql 5 6,.n 3 7]) (.ret))⟩
theorem qqt(hc:qj P f XY=true)(s:List UInt8)(c:GCall):qc P f [.agg (zt c),.pf [.s s] 0] (.b (decide (c.name=s))):=by
 refine qc.mk hc (by simp[qt,clo,zt]) ?_;simp only[XY,zt,vI,simprocAttr];simp only[↓vS,vT,simprocAttr,vZ]
end Go.Kc
end
section
/- A binary search among calls by a function; a list of calls without some. Condition: the functions' texts are these. -/
namespace Go.Kc
variable {P:Program} {f:Nat}
def bsQ(l:List GCall)(cm:GCall->Int)(k:Nat):Bool:=(l[k]?).elim false (fun c=>decide (cm c<0))
def bsC(l:List GCall)(cm:GCall->Int):Nat:=bsN (bsQ l cm) 0 l.length
theorem qoa(l:List GCall)(cm:GCall->Int):bsC l cm<=l.length:=(qhW _ _ 0 l.length rfl (Nat.zero_le _)).2
def zz:IFn:=⟨[.tmp 6,.tmp 7],.seq (.r [.m 6 (.k 0),.m 7 .F]) (.seq (.r [.n 12 0,.e 13 12,.n 8 13]) (.seq (.r [.n 14 8,.m 9 (.k 0),.n 10 14]) (.seq (.blk 0 (.loop (.seq (.seq (.r [.n 15 9,.n 16 10,.s 17 15 16]) (.cond (.t 17) (.skip) (.exit 0))) (.blk 1 (.seq (.r [.n 18 9,.n 19 10,.b 20 .add 18 19,.q 21 (.cvInt .u64 (.t 20)),.q 22 (.bin .shr (.t 21) (.c (.i .u64 1))),.q 23 (.cvInt .i64 (.t 22)),.n 11 23]) (.seq (.r [.n 24 2,.n 25 0,.n 26 11,.i 27 2 25 26,.v 28 2 27,.n 29 1,⟨(some 30),.callV (.t 24) [.t 28,.t 29],none⟩,.w 31 .lss 30 0]) (.cond (.t 31) (.r [.n 32 11,.a 33 32 1,.n 9 33]) (.r [.n 34 11,.n 10 34])))))))) (.seq (.r [.n 35 9,.n 36 9,.n 37 8,.s 38 36 37,.n 39 38,.y 40 2 39,.y 41 0 39,.y 42 9 39,.g 43 (.iAddrS 2 (.t 41) (.t 42)) 39 true,.g 44 (.loadN 2 (.t 43)) 39 true,.y 45 1 39,⟨(some 46),.callV (.t 40) [.t 44,.t 45],(some (39,true))⟩,.g 47 (.bin .eql (.t 46) (.k 0)) 39 true,.p 48 39 47,.n 6 35,.n 7 48]) (.ret)))))⟩
def qrT(P:Program)(f:Nat):Prop:=∀(l:List GCall) (s:List UInt8) (g:Nat) (cm:GCall->Int),l.length<=qf->(∀c ∈ l,qc P g [.agg (zt c),.s s] (.i .i64 (cm c)))->
 qc P f [.fz l.length (rC l),.s s,.fn g [] []] (.tup [.i .i64 (bsC l cm:Int),.b ((l[bsC l cm]?).elim false (fun c=>decide (cm c=0)))])
theorem qrS(hc:qj P f zz=true):qrT P f:=by
 intro l s g cm hl hg;have hl2:=hl;simp only[qf] at hl2;refine qc.mk hc (by simp[qt,clo,qg]) ?_;simp only[zz,vI,simprocAttr];simp only[↓vS,vT,simprocAttr];refine SL.loop (α:=Nat×Nat) (fun q=>[(0,.fz l.length (rC l)),(1,.s s),(2,.fn g [] []),(8,.i .i64 l.length),(9,.i .i64 q.1),(10,.i .i64 q.2)]) (fun _=>[]) (fun q=>q.1<=q.2∧q.2<=l.length∧bsC l cm=bsN (bsQ l cm) q.1 q.2) (fun q=>q.2-q.1) (0,l.length) [] ?_ ?_ ?_ rfl ?_ ?_
 ·simp[vw,qg]
 ·trivial
 ·simp
 ·exact⟨Nat.zero_le _,Nat.le_refl _,rfl⟩
 rintro⟨i,j⟩ ⟨hij,hj,hI⟩ G ih;dsimp only at hij hj hI ih ⊢;simp only[vI,simprocAttr]
 by_cases hlt:i<j
 ·have hh:=qeI hij (by omega);have hm:(i+j) / 2<l.length:=by omega
  have hx:l[(i+j) / 2]?=some l[(i+j) / 2]:=List.getElem?_eq_getElem hm;have hd:bsQ l cm ((i+j) / 2)=decide (cm l[(i+j) / 2]<0):=by unfold bsQ;rw[hx];rfl
  have he:=Z6 hx;have hb:=yz hm;rw[bsN,dif_pos hlt,hd] at hI;simp only[↓vS,vT,simprocAttr,hlt,hh,hm,hb,he];refine (hg l[(i+j) / 2] (List.getElem_mem hm)).sc ?_
  by_cases hc2:cm l[(i+j) / 2]<0
  ·have hw:IntKind.wrap .i64 ((((i+j) / 2:Nat):Int)+1)=(((i+j) / 2+1:Nat):Int):=by rw[qB (by omega) (by omega)];omega
   simp only[hc2,decide_true,if_true] at hI;simp only[↓vS,vT,simprocAttr,hc2,hw];refine ih ((i+j) / 2+1,j) ⟨by dsimp only;omega,hj,hI⟩ (by dsimp only;omega) _ _ (Wk.mk _ _ [] ?_ ?_ ?_ rfl)
   ·simp[vw,qg]
   ·trivial
   ·simp
  ·simp only[hc2,decide_false,Bool.false_eq_true,if_false] at hI;simp only[↓vS,vT,simprocAttr,hc2];refine ih (i,(i+j) / 2) ⟨by dsimp only;omega,by dsimp only;omega,hI⟩ (by dsimp only;omega) _ _ (Wk.mk _ _ [] ?_ ?_ ?_ rfl)
   ·simp[vw,qg]
   ·trivial
   ·simp
 ·have e:bsC l cm=i:=by rw[hI,bsN,dif_neg hlt]
  by_cases hil:i<l.length
  ·have hx:l[i]?=some l[i]:=List.getElem?_eq_getElem hil;have he:=Z6 hx;have hb:=yz hil;simp only[↓vS,vT,simprocAttr,hlt,hil,hb,he];refine (hg l[i] (List.getElem_mem hil)).sc ?_;simp only[↓vS,vT,simprocAttr];simp[vZ,e,hx]
  ·have hx:l[i]?=none:=List.getElem?_eq_none (by omega);simp only[↓vS,vT,simprocAttr,hlt,hil];simp[vZ,e,hx]
end Go.Kc
end
section
/- What slices.DeleteFunc makes of a row of calls of one's own. Condition: the functions' texts are these. -/
namespace Go.Kc
variable {P:Program} {f:Nat}
def xi(a:Nat):IFn:=⟨[.tmp 4],.seq (.r [.m 4 .N]) (.seq (.r [.n 8 0,.n 9 1,.l 10 a [.t 8,.t 9],.n 5 10]) (.seq (.seq (.r [.n 11 5,.q 12 (.bin .eql (.t 11) (.c (.i .i64 (-1))))]) (.cond (.t 12) (.seq (.r [.n 13 0,.n 4 13]) (.ret)) (.skip))) (.seq (.seq (.r [.n 14 5,.a 15 14 1,.n 6 15]) (.blk 0 (.loop (.seq (.seq (.r [.n 16 6,.n 17 0,.e 18 17,.s 19 16 18]) (.cond (.t 19) (.skip) (.exit 0))) (.seq (.blk 1 (.seq (.r [.n 22 0,.n 23 6,.i 24 2 22 23,.v 25 2 24,.q 7 (.alloc [.s [],.i .u32 0]),.u (.store 2 (.t 7) (.t 25))]) (.seq (.r [.n 26 1,.v 27 2 7,⟨(some 28),.callV (.t 26) [.t 27],none⟩,.q 29 (.un .not (.t 28))]) (.cond (.t 29) (.seq (.r [.n 30 0,.n 31 5,.v 32 2 7,.i 33 2 30 31,.u (.store 2 (.t 33) (.t 32))]) (.r [.n 34 5,.a 35 34 1,.n 5 35])) (.skip))))) (.r [.n 20 6,.a 21 20 1,.n 6 21])))))) (.seq (.r [.n 36 0,.n 37 5,.q 38 (.slcS 2 (.t 36) (some (.t 37)) none none),.u (.clear [.s [],.i .u32 0] (.t 38))]) (.seq (.r [.n 39 0,.n 40 5,.q 41 (.slcS 2 (.t 39) none (some (.t 40)) none),.n 4 41]) (.ret))))))⟩
theorem qpZ{n:Nat}:(List.replicate n [AV.s [],AV.i .u32 0]).flatten=rC (List.replicate n ⟨[],0⟩):=by
 induction n with
 | zero=>rfl
 | succ n ih=>simp[List.replicate_succ,ih,qan]
def WD(P:Program)(f:Nat):Prop:=∀(p:GCall->Bool) (g:Nat) (a c:List AV) (l:List GCall),qt a=true->qt c=true->l.length<=qf->(∀x ∈ l,qc P g (a++([.agg (zt x)]++c)) (.b (p x)))->
 Upd P f [.own 0 l.length,.fn g a c] [.cells 2 true true (rC l)] (.own 0 (l.filter fun x=>!p x).length) [.cells 2 true true (rC (l.filter fun x=>!p x))]
theorem qhx{g1:Nat}(hc:qj P f (xi g1)=true)(h1:ZO 2 P g1):WD P f:=by
 intro p g a c l ha hcc hl hp;have hl2:=hl;simp only[qf] at hl2;refine Upd.mkS hc (by simp[z8,bnd,qr ha,qr hcc]) (Nat.le_refl _) (qq ?_);simp only[xi,vI,simprocAttr];simp only[↓vS,vT,simprocAttr];refine (h1 zt p g a c l kV ha hcc hl hp).lend (vs':=[.fz l.length (rC l),.fn g a c]) ?_ rfl ?_
 ·simp[vZ,vP,Tr.get_set,qE ha,qE hcc,qE qg];intro h0;rw[h0];rfl
 rcases Qc p l 0 with⟨hi,_⟩|⟨i,x,hi,hx,hpx,_,hb⟩
 ·simp only[↓vS,vT,simprocAttr,hi,Int.reduceNeg];refine ZK.w (fun _=>⟨[0],?_⟩) (Nat.le_refl _)
  rw[Vr hi];simp[vw,qa,qg]
 ·have hne:¬((i:Nat):Int) = -1:=by omega
  have hil:i<l.length:=(List.getElem?_eq_some_iff.1 hx).1;have hw:IntKind.wrap .i64 ((i:Int)+1)=(i:Int)+1:=qB (by omega) (by omega);rw[Nat.zero_add] at hi;simp only[↓vS,vT,simprocAttr,hi,hne,hw]
  have htk:(l.take i).filter (fun x=>!p x)=l.take i:=by
   rw[List.filter_eq_self];intro y hy;obtain⟨k,hk,rfl⟩:=List.getElem_of_mem hy;simp at hk;rw[List.getElem_take];simp[hb k _ (by omega) (List.getElem?_eq_getElem (by omega))]
  have htk1:(l.take (i+1)).filter (fun x=>!p x)=l.take i:=by
   rw[List.take_add_one,hx,List.filter_append,htk];simp[hpx]
  refine SL.loopn (α:=Nat×List GCall) (fun s=>[(0,.own 0 l.length),(1,.fn g a c),(5,.i .i64 (((l.take s.1).filter fun x=>!p x).length:Int)),(6,.i .i64 (s.1:Int))])
   (fun s=>[.cells 2 true true (rC (((l.take s.1).filter fun x=>!p x)++(s.2++l.drop s.1)))]) (fun s=>s.1<=l.length∧((l.take s.1).filter fun x=>!p x).length+s.2.length=s.1) (fun s=>l.length-s.1) (i+1,[x]) [0] ?_ ?_ ?_ rfl (Nat.le_refl _) ?_ ?_ ?_
  ·simp[vw,qa,ha,hcc,htk1];omega
  ·have:(l.take i++([x]++l.drop (i+1)))=l:=by
    have h2:=List.take_append_drop i l;rw[List.drop_eq_getElem_cons hil] at h2;obtain⟨_,rfl⟩:=List.getElem?_eq_some_iff.1 hx;simpa using h2
   dsimp only;rw[htk1,this];simp[vw,qa,qg]
  ·simp[vw]
  ·intro b hb;obtain rfl:b=0:=by simpa using hb
   simp[qbA]
  ·refine⟨by omega,?_⟩
   dsimp only;rw[htk1];simp;omega
  rintro⟨j,mid⟩ ⟨hj,hm⟩ G ih;dsimp only at hj hm ih ⊢;simp only[vI,simprocAttr];generalize hF:(l.take j).filter (fun x=>!p x)=F at hm ih ⊢
  by_cases hlt:j<l.length
  ·have hxj:l[j]?=some l[j]:=List.getElem?_eq_getElem hlt;have hwj:IntKind.wrap .i64 ((j:Int)+1)=(j:Int)+1:=qB (by omega) (by omega);have hwi:IntKind.wrap .i64 ((F.length:Int)+1)=(F.length:Int)+1:=qB (by omega) (by omega)
   have hgj:(F++(mid++l.drop j))[j]?=some l[j]:=by
    rw[← List.append_assoc,List.getElem?_append_right (by simp;omega),List.getElem?_drop];simp[hm,hxj]
   have hget:=Z6 hgj;have hbd:j*2+2<=(rC (F++(mid++l.drop j))).length:=yz (by simp;omega)
   have htj:(l.take (j+1)).filter (fun x=>!p x)=F++(if p l[j]=true then [] else [l[j]]):=by
    rw[List.take_add_one,hxj,List.filter_append,hF];cases hpj:p l[j]<;>simp[hpj]
   simp only[↓vS,vT,simprocAttr,hlt,hget,hbd,zt];refine (hp l[j] (List.getElem_mem hlt)).sc ?_
   by_cases hpj:p l[j]=true
   ·simp only[↓vS,vT,simprocAttr,hpj,hwj];rw[hpj] at htj;refine ih (j+1,mid++[l[j]]) ⟨by omega,by rw[htj];simp;omega⟩ (by dsimp only;omega) _ _ (Wk.mkn _ _ [0] ?_ ?_ ?_ rfl (Nat.le_refl _) ?_)
    ·simp[vw,qa,ha,hcc,htj]
    ·have e:(F++(mid++l.drop j))=(((l.take (j+1)).filter fun x=>!p x)++((mid++[l[j]])++l.drop (j+1))):=by
      rw[htj,List.drop_eq_getElem_cons hlt];simp
     dsimp only;rw[← e];simp[vw,qa,qg]
    ·simp[vw]
    ·intro b hb;obtain rfl:b=0:=by simpa using hb
     simp[qbA]
   ·have hFl:F.length<l.length:=by omega
    have hlen:F.length*2+2<=(rC (F++(mid++l.drop j))).length:=by rw[yM];simp;omega
    have hFn:(F.length:Int)<l.length:=by omega
    simp only[↓vS,vT,simprocAttr,hpj,hwj,hwi,hFl,hlen];rw[if_neg hpj] at htj
    have hset:rC ((F++(mid++l.drop j)).take F.length)++(AV.s l[j].name::AV.i .u32 l[j].act::rC ((F++(mid++l.drop j)).drop (F.length+1)))=rC (((l.take (j+1)).filter fun x=>!p x)++((mid++[l[j]]).tail++l.drop (j+1))):=by
     rw[htj,← qan,qeU,List.take_left' rfl,← List.drop_drop,List.drop_left' rfl,List.drop_eq_getElem_cons hlt];cases mid<;>simp
    have e2:F.length*2+2=(F.length+1)*2:=by omega
    simp only[qao,e2,qcO,hset];refine ih (j+1,(mid++[l[j]]).tail) ⟨by omega,by rw[htj];simp;omega⟩ (by dsimp only;omega) _ _ (Wk.mkn _ _ [0] ?_ ?_ ?_ rfl (Nat.le_refl _) ?_)
    ·simp[vw,qa,ha,hcc,htj]
    ·simp[vw,qa,qg]
    ·simp[vw]
    ·intro b hb;obtain rfl:b=0:=by simpa using hb
     simp[qbA]
  ·obtain rfl:j=l.length:=by omega
   have hl0:¬l.length=0:=by omega
   have hFl:F.length<=l.length:=by omega
   have hrl:(rC (F++(mid++l.drop l.length))).length=l.length*2:=by rw[yM];simp;omega
   have hz:¬l.length-F.length=0:=by
    intro hz;have:F.length=l.length:=by omega
    rw[← hF,List.take_length] at this;have h2:=List.length_filter_eq_length_iff.1 this x (List.mem_of_getElem? hx);simp[hpx] at h2
   have hsum:F.length+(l.length-F.length)=l.length:=by omega
   have hle:F.length*2+(l.length-F.length)*2<=l.length*2:=by omega
   simp only[↓vS,vT,simprocAttr,hlt,hl0,hFl,hz,qpZ,qa8,yM,List.length_replicate,hrl,Int.ofNat_le,hle];rw[List.take_length] at hF;subst hF;refine ZJ.closed (by simp[Tr.get_set];exact⟨rfl,rfl⟩) rfl ?_ hFl ?_ qg
   ·simp[yM];omega
   ·rw[List.take_left' (by rw[List.length_take,yM];simp),qao,List.take_left' rfl]
end Go.Kc
end
section
/- Is a call known. Condition: the functions' texts are these. -/
namespace Go.Kc
variable {P:Program} {f:Nat}
def zm:List (List UInt8×List Int):=[([98,105,110,100],[49,361,49,282,200,200]),([98,112,102],[321,357,321,386,280,280]),([98,114,107],[12,45,12,45,214,214]),([99,108,111,99,107,95,115,101,116,116,105,109,101],[227,264,227,262,112,112]),([99,108,111,110,101],[56,120,56,120,220,220]),([99,108,111,110,101,51],[435,435,(-1),435,435,435]),([99,108,111,115,101],[3,6,3,6,57,57]),([99,111,110,110,101,99,116],[42,362,42,283,203,203]),([100,101,108,101,116,101,95,109,111,100,117,108,101],[176,129,176,129,106,106]),([101,120,101,99,118,101],[59,11,520,11,221,221]),([101,120,105,116],[60,1,60,1,93,93]),([102,105,110,105,116,95,109,111,100,117,108,101],[313,350,313,379,273,273]),([102,111,114,107],[57,2,57,2,(-1),(-1)]),([103,101,116,117,105,100],[102,24,102,24,174,174]),([105,110,105,116,95,109,111,100,117,108,101],[175,128,(-1),128,105,105]),([105,111,99,116,108],[16,54,514,54,29,29]),([107,105,108,108],[62,37,62,37,129,129]),([108,105,115,116,101,110],[50,363,50,284,201,201]),([109,109,97,112],[9,90,9,(-1),222,222]),([109,111,117,110,116],[165,21,165,21,40,40]),([109,112,114,111,116,101,99,116],[10,125,10,125,226,226]),([109,117,110,109,97,112],[11,91,11,91,215,215]),([111,112,101,110],[2,5,2,5,(-1),(-1)]),([111,112,101,110,97,116],[257,295,257,322,56,56]),([112,101,114,115,111,110,97,108,105,116,121],[135,136,135,136,92,92]),([112,107,101,121,95,109,112,114,111,116,101,99,116],[329,380,329,394,288,(-1)]),([112,116,114,97,99,101],[101,26,521,26,117,117]),([114,101,97,100],[0,3,0,3,63,63]),([114,101,98,111,111,116],[169,88,169,88,142,142]),([115,99,104,101,100,95,115,101,116,97,116,116,114],[314,351,314,380,274,274]),([115,99,104,101,100,95,115,101,116,115,99,104,101,100,117,108,101,114],[144,156,144,156,119,119]),([115,101,99,99,111,109,112],[317,354,317,383,277,277]),([115,101,116,110,115],[308,346,308,375,268,268]),([115,101,116,116,105,109,101,111,102,100,97,121],[164,79,164,79,170,170]),([115,101,116,117,105,100],[105,23,105,23,146,146]),([115,104,109,97,116],[30,397,(-1),305,196,196]),([115,111,99,107,101,116],[41,359,41,281,198,198]),([117,109,111,117,110,116,50],[166,52,166,52,39,39]),([117,110,115,104,97,114,101],[272,310,272,337,97,97]),([119,114,105,116,101],[1,4,1,4,64,64])]
def QK(x:List UInt8×List Int):List AV:=[.s x.1,.i .i64 (x.2.getD 0 0),.i .i64 (x.2.getD 1 0),.i .i64 (x.2.getD 2 0),.i .i64 (x.2.getD 3 0),.i .i64 (x.2.getD 4 0),.i .i64 (x.2.getD 5 0)]
theorem qd2(x:List UInt8×List Int):(QK x).length=7:=rfl
def XT:IFn:=⟨[.cell 0 280 true],.seq (.r [.q 0 (.alloc [.s [],.i .i64 0,.i .i64 0,.i .i64 0,.i .i64 0,.i .i64 0,.i .i64 0,.s [],.i .i64 0,.i .i64 0,.i .i64 0,.i .i64 0,.i .i64 0,.i .i64 0,.s [],.i .i64 0,.i .i64 0,.i .i64 0,.i .i64 0,.i .i64 0,.i .i64 0,.s [],.i .i64 0,.i .i64 0,.i .i64 0,.i .i64 0,.i .i64 0,.i .i64 0,.s [],.i .i64 0,.i .i64 0,.i .i64 0,.i .i64 0,.i .i64 0,.i .i64 0,.s [],.i .i64 0,.i .i64 0,.i .i64 0,.i .i64 0,.i .i64 0,.i .i64 0,.s [],.i .i64 0,.i .i64 0,.i .i64 0,.i .i64 0,.i .i64 0,.i .i64 0,.s [],.i .i64 0,.i .i64 0,.i .i64 0,.i .i64 0,.i .i64 0,.i .i64 0,.s [],.i .i64 0,.i .i64 0,.i .i64 0,.i .i64 0,.i .i64 0,.i .i64 0,.s [],.i .i64 0,.i .i64 0,.i .i64 0,.i .i64 0,.i .i64 0,.i .i64 0,.s [],.i .i64 0,.i .i64 0,.i .i64 0,.i .i64 0,.i .i64 0,.i .i64 0,.s [],.i .i64 0,.i .i64 0,.i .i64 0,.i .i64 0,.i .i64 0,.i .i64 0,.s [],.i .i64 0,.i .i64 0,.i .i64 0,.i .i64 0,.i .i64 0,.i .i64 0,.s [],.i .i64 0,.i .i64 0,.i .i64 0,.i .i64 0,.i .i64 0,.i .i64 0,.s [],.i .i64 0,.i .i64 0,.i .i64 0,.i .i64 0,.i .i64 0,.i .i64 0,.s [],.i .i64 0,.i .i64 0,.i .i64 0,.i .i64 0,.i .i64 0,.i .i64 0,.s [],.i .i64 0,.i .i64 0,.i .i64 0,.i .i64 0,.i .i64 0,.i .i64 0,.s [],.i .i64 0,.i .i64 0,.i .i64 0,.i .i64 0,.i .i64 0,.i .i64 0,.s [],.i .i64 0,.i .i64 0,.i .i64 0,.i .i64 0,.i .i64 0,.i .i64 0,.s [],.i .i64 0,.i .i64 0,.i .i64 0,.i .i64 0,.i .i64 0,.i .i64 0,.s [],.i .i64 0,.i .i64 0,.i .i64 0,.i .i64 0,.i .i64 0,.i .i64 0,.s [],.i .i64 0,.i .i64 0,.i .i64 0,.i .i64 0,.i .i64 0,.i .i64 0,.s [],.i .i64 0,.i .i64 0,.i .i64 0,.i .i64 0,.i .i64 0,.i .i64 0,.s [],.i .i64 0,.i .i64 0,.i .i64 0,.i .i64 0,.i .i64 0,.i .i64 0,.s [],.i .i64 0,.i .i64 0,.i .i64 0,.i .i64 0,.i .i64 0,.i .i64 0,.s [],.i .i64 0,.i .i64 0,.i .i64 0,.i .i64 0,.i .i64 0,.i .i64 0,.s [],.i .i64 0,.i .i64 0,.i .i64 0,.i .i64 0,.i .i64 0,.i .i64 0,.s [],.i .i64 0,.i .i64 0,.i .i64 0,.i .i64 0,.i .i64 0,.i .i64 0,.s [],.i .i64 0,.i .i64 0,.i .i64 0,.i .i64 0,.i .i64 0,.i .i64 0,.s [],.i .i64 0,.i .i64 0,.i .i64 0,.i .i64 0,.i .i64 0,.i .i64 0,.s [],.i .i64 0,.i .i64 0,.i .i64 0,.i .i64 0,.i .i64 0,.i .i64 0,.s [],.i .i64 0,.i .i64 0,.i .i64 0,.i .i64 0,.i .i64 0,.i .i64 0,.s [],.i .i64 0,.i .i64 0,.i .i64 0,.i .i64 0,.i .i64 0,.i .i64 0,.s [],.i .i64 0,.i .i64 0,.i .i64 0,.i .i64 0,.i .i64 0,.i .i64 0,.s [],.i .i64 0,.i .i64 0,.i .i64 0,.i .i64 0,.i .i64 0,.i .i64 0,.s [],.i .i64 0,.i .i64 0,.i .i64 0,.i .i64 0,.i .i64 0,.i .i64 0,.s [],.i .i64 0,.i .i64 0,.i .i64 0,.i .i64 0,.i .i64 0,.i .i64 0,.s [],.i .i64 0,.i .i64 0,.i .i64 0,.i .i64 0,.i .i64 0,.i .i64 0,.s [],.i .i64 0,.i .i64 0,.i .i64 0,.i .i64 0,.i .i64 0,.i .i64 0,.s [],.i .i64 0,.i .i64 0,.i .i64 0,.i .i64 0,.i .i64 0,.i .i64 0])]) (.seq (.r [.q 1 (.build [.i .i64 0,.i .i64 0,.i .i64 0,.i .i64 0,.i .i64 0,.i .i64 0] [(0,1,(.k 49)),(1,1,(.k 361)),(2,1,(.k 49)),(3,1,(.k 282)),(4,1,(.k 200)),(5,1,(.k 200))]),.q 2 (.build [.s [],.i .i64 0,.i .i64 0,.i .i64 0,.i .i64 0,.i .i64 0,.i .i64 0] [(0,1,(.c (.s [98,105,110,100]))),(1,6,(.t 1))]),.q 3 (.build [.i .i64 0,.i .i64 0,.i .i64 0,.i .i64 0,.i .i64 0,.i .i64 0] [(0,1,(.k 321)),(1,1,(.k 357)),(2,1,(.k 321)),(3,1,(.k 386)),(4,1,(.k 280)),(5,1,(.k 280))]),.q 4 (.build [.s [],.i .i64 0,.i .i64 0,.i .i64 0,.i .i64 0,.i .i64 0,.i .i64 0] [(0,1,(.c (.s [98,112,102]))),(1,6,(.t 3))]),.q 5 (.build [.i .i64 0,.i .i64 0,.i .i64 0,.i .i64 0,.i .i64 0,.i .i64 0] [(0,1,(.k 12)),(1,1,(.k 45)),(2,1,(.k 12)),(3,1,(.k 45)),(4,1,(.k 214)),(5,1,(.k 214))]),.q 6 (.build [.s [],.i .i64 0,.i .i64 0,.i .i64 0,.i .i64 0,.i .i64 0,.i .i64 0] [(0,1,(.c (.s [98,114,107]))),(1,6,(.t 5))]),.q 7 (.build [.i .i64 0,.i .i64 0,.i .i64 0,.i .i64 0,.i .i64 0,.i .i64 0] [(0,1,(.k 227)),(1,1,(.k 264)),(2,1,(.k 227)),(3,1,(.k 262)),(4,1,(.k 112)),(5,1,(.k 112))]),.q 8 (.build [.s [],.i .i64 0,.i .i64 0,.i .i64 0,.i .i64 0,.i .i64 0,.i .i64 0] [(0,1,(.c (.s [99,108,111,99,107,95,115,101,116,116,105,109,101]))),(1,6,(.t 7))]),.q 9 (.build [.i .i64 0,.i .i64 0,.i .i64 0,.i .i64 0,.i .i64 0,.i .i64 0] [(0,1,(.k 56)),(1,1,(.k 120)),(2,1,(.k 56)),(3,1,(.k 120)),(4,1,(.k 220)),(5,1,(.k 220))]),.q 10 (.build [.s [],.i .i64 0,.i .i64 0,.i .i64 0,.i .i64 0,.i .i64 0,.i .i64 0] [(0,1,(.c (.s [99,108,111,110,101]))),(1,6,(.t 9))]),.q 11 (.build [.i .i64 0,.i .i64 0,.i .i64 0,.i .i64 0,.i .i64 0,.i .i64 0] [(0,1,(.k 435)),(1,1,(.k 435)),(2,1,(.c (.i .i64 (-1)))),(3,1,(.k 435)),(4,1,(.k 435)),(5,1,(.k 435))]),.q 12 (.build [.s [],.i .i64 0,.i .i64 0,.i .i64 0,.i .i64 0,.i .i64 0,.i .i64 0] [(0,1,(.c (.s [99,108,111,110,101,51]))),(1,6,(.t 11))]),.q 13 (.build [.i .i64 0,.i .i64 0,.i .i64 0,.i .i64 0,.i .i64 0,.i .i64 0] [(0,1,(.k 3)),(1,1,(.k 6)),(2,1,(.k 3)),(3,1,(.k 6)),(4,1,(.k 57)),(5,1,(.k 57))]),.q 14 (.build [.s [],.i .i64 0,.i .i64 0,.i .i64 0,.i .i64 0,.i .i64 0,.i .i64 0] [(0,1,(.c (.s [99,108,111,115,101]))),(1,6,(.t 13))]),.q 15 (.build [.i .i64 0,.i .i64 0,.i .i64 0,.i .i64 0,.i .i64 0,.i .i64 0] [(0,1,(.k 42)),(1,1,(.k 362)),(2,1,(.k 42)),(3,1,(.k 283)),(4,1,(.k 203)),(5,1,(.k 203))]),.q 16 (.build [.s [],.i .i64 0,.i .i64 0,.i .i64 0,.i .i64 0,.i .i64 0,.i .i64 0] [(0,1,(.c (.s [99,111,110,110,101,99,116]))),(1,6,(.t 15))]),.q 17 (.build [.i .i64 0,.i .i64 0,.i .i64 0,.i .i64 0,.i .i64 0,.i .i64 0] [(0,1,(.k 176)),(1,1,(.k 129)),(2,1,(.k 176)),(3,1,(.k 129)),(4,1,(.k 106)),(5,1,(.k 106))]),.q 18 (.build [.s [],.i .i64 0,.i .i64 0,.i .i64 0,.i .i64 0,.i .i64 0,.i .i64 0] [(0,1,(.c (.s [100,101,108,101,116,101,95,109,111,100,117,108,101]))),(1,6,(.t 17))]),.q 19 (.build [.i .i64 0,.i .i64 0,.i .i64 0,.i .i64 0,.i .i64 0,.i .i64 0] [(0,1,(.k 59)),(1,1,(.k 11)),(2,1,(.k 520)),(3,1,(.k 11)),(4,1,(.k 221)),(5,1,(.k 221))]),.q 20 (.build [.s [],.i .i64 0,.i .i64 0,.i .i64 0,.i .i64 0,.i .i64 0,.i .i64 0] [(0,1,(.c (.s [101,120,101,99,118,101]))),(1,6,(.t 19))]),.q 21 (.build [.i .i64 0,.i .i64 0,.i .i64 0,.i .i64 0,.i .i64 0,.i .i64 0] [(0,1,(.k 60)),(1,1,(.k 1)),(2,1,(.k 60)),(3,1,(.k 1)),(4,1,(.k 93)),(5,1,(.k 93))]),.q 22 (.build [.s [],.i .i64 0,.i .i64 0,.i .i64 0,.i .i64 0,.i .i64 0,.i .i64 0] [(0,1,(.c (.s [101,120,105,116]))),(1,6,(.t 21))]),.q 23 (.build [.i .i64 0,.i .i64 0,.i .i64 0,.i .i64 0,.i .i64 0,.i .i64 0] [(0,1,(.k 313)),(1,1,(.k 350)),(2,1,(.k 313)),(3,1,(.k 379)),(4,1,(.k 273)),(5,1,(.k 273))]),.q 24 (.build [.s [],.i .i64 0,.i .i64 0,.i .i64 0,.i .i64 0,.i .i64 0,.i .i64 0] [(0,1,(.c (.s [102,105,110,105,116,95,109,111,100,117,108,101]))),(1,6,(.t 23))]),.q 25 (.build [.i .i64 0,.i .i64 0,.i .i64 0,.i .i64 0,.i .i64 0,.i .i64 0] [(0,1,(.k 57)),(1,1,(.k 2)),(2,1,(.k 57)),(3,1,(.k 2)),(4,1,(.c (.i .i64 (-1)))),(5,1,(.c (.i .i64 (-1))))]),.q 26 (.build [.s [],.i .i64 0,.i .i64 0,.i .i64 0,.i .i64 0,.i .i64 0,.i .i64 0] [(0,1,(.c (.s [102,111,114,107]))),(1,6,(.t 25))]),.q 27 (.build [.i .i64 0,.i .i64 0,.i .i64 0,.i .i64 0,.i .i64 0,.i .i64 0] [(0,1,(.k 102)),(1,1,(.k 24)),(2,1,(.k 102)),(3,1,(.k 24)),(4,1,(.k 174)),(5,1,(.k 174))]),.q 28 (.build [.s [],.i .i64 0,.i .i64 0,.i .i64 0,.i .i64 0,.i .i64 0,.i .i64 0] [(0,1,(.c (.s [103,101,116,117,105,100]))),(1,6,(.t 27))]),.q 29 (.build [.i .i64 0,.i .i64 0,.i .i64 0,.i .i64 0,.i .i64 0,.i .i64 0] [(0,1,(.k 175)),(1,1,(.k 128)),(2,1,(.c (.i .i64 (-1)))),(3,1,(.k 128)),(4,1,(.k 105)),(5,1,(.k 105))]),.q 30 (.build [.s [],.i .i64 0,.i .i64 0,.i .i64 0,.i .i64 0,.i .i64 0,.i .i64 0] [(0,1,(.c (.s [105,110,105,116,95,109,111,100,117,108,101]))),(1,6,(.t 29))]),.q 31 (.build [.i .i64 0,.i .i64 0,.i .i64 0,.i .i64 0,.i .i64 0,.i .i64 0] [(0,1,(.k 16)),(1,1,(.k 54)),(2,1,(.k 514)),(3,1,(.k 54)),(4,1,(.k 29)),(5,1,(.k 29))]),.q 32 (.build [.s [],.i .i64 0,.i .i64 0,.i .i64 0,.i .i64 0,.i .i64 0,.i .i64 0] [(0,1,(.c (.s [105,111,99,116,108]))),(1,6,(.t 31))]),.q 33 (.build [.i .i64 0,.i .i64 0,.i .i64 0,.i .i64 0,.i .i64 0,.i .i64 0] [(0,1,(.k 62)),(1,1,(.k 37)),(2,1,(.k 62)),(3,1,(.k 37)),(4,1,(.k 129)),(5,1,(.k 129))]),.q 34 (.build [.s [],.i .i64 0,.i .i64 0,.i .i64 0,.i .i64 0,.i .i64 0,.i .i64 0] [(0,1,(.c (.s [107,105,108,108]))),(1,6,(.t 33))]),.q 35 (.build [.i .i64 0,.i .i64 0,.i .i64 0,.i .i64 0,.i .i64 0,.i .i64 0] [(0,1,(.k 50)),(1,1,(.k 363)),(2,1,(.k 50)),(3,1,(.k 284)),(4,1,(.k 201)),(5,1,(.k 201))]),.q 36 (.build [.s [],.i .i64 0,.i .i64 0,.i .i64 0,.i .i64 0,.i .i64 0,.i .i64 0] [(0,1,(.c (.s [108,105,115,116,101,110]))),(1,6,(.t 35))]),.q 37 (.build [.i .i64 0,.i .i64 0,.i .i64 0,.i .i64 0,.i .i64 0,.i .i64 0] [(0,1,(.k 9)),(1,1,(.k 90)),(2,1,(.k 9)),(3,1,(.c (.i .i64 (-1)))),(4,1,(.k 222)),(5,1,(.k 222))]),.q 38 (.build [.s [],.i .i64 0,.i .i64 0,.i .i64 0,.i .i64 0,.i .i64 0,.i .i64 0] [(0,1,(.c (.s [109,109,97,112]))),(1,6,(.t 37))]),.q 39 (.build [.i .i64 0,.i .i64 0,.i .i64 0,.i .i64 0,.i .i64 0,.i .i64 0] [(0,1,(.k 165)),(1,1,(.k 21)),(2,1,(.k 165)),(3,1,(.k 21)),(4,1,(.k 40)),(5,1,(.k 40))]),.q 40 (.build [.s [],.i .i64 0,.i .i64 0,.i .i64 0,.i .i64 0,.i .i64 0,.i .i64 0] [(0,1,(.c (.s [109,111,117,110,116]))),(1,6,(.t 39))]),.q 41 (.build [.i .i64 0,.i .i64 0,.i .i64 0,.i .i64 0,.i .i64 0,.i .i64 0] [(0,1,(.k 10)),(1,1,(.k 125)),(2,1,(.k 10)),(3,1,(.k 125)),(4,1,(.k 226)),(5,1,(.k 226))]),.q 42 (.build [.s [],.i .i64 0,.i .i64 0,.i .i64 0,.i .i64 0,.i .i64 0,.i .i64 0] [(0,1,(.c (.s [109,112,114,111,116,101,99,116]))),(1,6,(.t 41))]),.q 43 (.build [.i .i64 0,.i .i64 0,.i .i64 0,.i .i64 0,.i .i64 0,.i .i64 0] [(0,1,(.k 11)),(1,1,(.k 91)),(2,1,(.k 11)),(3,1,(.k 91)),(4,1,(.k 215)),(5,1,(.k 215))]),.q 44 (.build [.s [],.i .i64 0,.i .i64 0,.i .i64 0,.i .i64 0,.i .i64 0,.i .i64 0] [(0,1,(.c (.s [109,117,110,109,97,112]))),(1,6,(.t 43))]),.q 45 (.build [.i .i64 0,.i .i64 0,.i .i64 0,.i .i64 0,.i .i64 0,.i .i64 0] [(0,1,(.k 2)),(1,1,(.k 5)),(2,1,(.k 2)),(3,1,(.k 5)),(4,1,(.c (.i .i64 (-1)))),(5,1,(.c (.i .i64 (-1))))]),.q 46 (.build [.s [],.i .i64 0,.i .i64 0,.i .i64 0,.i .i64 0,.i .i64 0,.i .i64 0] [(0,1,(.c (.s [111,112,101,110]))),(1,6,(.t 45))]),.q 47 (.build [.i .i64 0,.i .i64 0,.i .i64 0,.i .i64 0,.i .i64 0,.i .i64 0] [(0,1,(.k 257)),(1,1,(.k 295)),(2,1,(.k 257)),(3,1,(.k 322)),(4,1,(.k 56)),(5,1,(.k 56))]),.q 48 (.build [.s [],.i .i64 0,.i .i64 0,.i .i64 0,.i .i64 0,.i .i64 0,.i .i64 0] [(0,1,(.c (.s [111,112,101,110,97,116]))),(1,6,(.t 47))]),.q 49 (.build [.i .i64 0,.i .i64 0,.i .i64 0,.i .i64 0,.i .i64 0,.i .i64 0] [(0,1,(.k 135)),(1,1,(.k 136)),(2,1,(.k 135)),(3,1,(.k 136)),(4,1,(.k 92)),(5,1,(.k 92))]),.q 50 (.build [.s [],.i .i64 0,.i .i64 0,.i .i64 0,.i .i64 0,.i .i64 0,.i .i64 0] [(0,1,(.c (.s [112,101,114,115,111,110,97,108,105,116,121]))),(1,6,(.t 49))]),.q 51 (.build [.i .i64 0,.i .i64 0,.i .i64 0,.i .i64 0,.i .i64 0,.i .i64 0] [(0,1,(.k 329)),(1,1,(.k 380)),(2,1,(.k 329)),(3,1,(.k 394)),(4,1,(.k 288)),(5,1,(.c (.i .i64 (-1))))]),.q 52 (.build [.s [],.i .i64 0,.i .i64 0,.i .i64 0,.i .i64 0,.i .i64 0,.i .i64 0] [(0,1,(.c (.s [112,107,101,121,95,109,112,114,111,116,101,99,116]))),(1,6,(.t 51))]),.q 53 (.build [.i .i64 0,.i .i64 0,.i .i64 0,.i .i64 0,.i .i64 0,.i .i64 0] [(0,1,(.k 101)),(1,1,(.k 26)),(2,1,(.k 521)),(3,1,(.k 26)),(4,1,(.k 117)),(5,1,(.k 117))]),.q 54 (.build [.s [],.i .i64 0,.i .i64 0,.i .i64 0,.i .i64 0,.i .i64 0,.i .i64 0] [(0,1,(.c (.s [112,116,114,97,99,101]))),(1,6,(.t 53))]),.q 55 (.build [.i .i64 0,.i .i64 0,.i .i64 0,.i .i64 0,.i .i64 0,.i .i64 0] [(0,1,(.k 0)),(1,1,(.k 3)),(2,1,(.k 0)),(3,1,(.k 3)),(4,1,(.k 63)),(5,1,(.k 63))]),.q 56 (.build [.s [],.i .i64 0,.i .i64 0,.i .i64 0,.i .i64 0,.i .i64 0,.i .i64 0] [(0,1,(.c (.s [114,101,97,100]))),(1,6,(.t 55))]),.q 57 (.build [.i .i64 0,.i .i64 0,.i .i64 0,.i .i64 0,.i .i64 0,.i .i64 0] [(0,1,(.k 169)),(1,1,(.k 88)),(2,1,(.k 169)),(3,1,(.k 88)),(4,1,(.k 142)),(5,1,(.k 142))]),.q 58 (.build [.s [],.i .i64 0,.i .i64 0,.i .i64 0,.i .i64 0,.i .i64 0,.i .i64 0] [(0,1,(.c (.s [114,101,98,111,111,116]))),(1,6,(.t 57))]),.q 59 (.build [.i .i64 0,.i .i64 0,.i .i64 0,.i .i64 0,.i .i64 0,.i .i64 0] [(0,1,(.k 314)),(1,1,(.k 351)),(2,1,(.k 314)),(3,1,(.k 380)),(4,1,(.k 274)),(5,1,(.k 274))]),.q 60 (.build [.s [],.i .i64 0,.i .i64 0,.i .i64 0,.i .i64 0,.i .i64 0,.i .i64 0] [(0,1,(.c (.s [115,99,104,101,100,95,115,101,116,97,116,116,114]))),(1,6,(.t 59))]),.q 61 (.build [.i .i64 0,.i .i64 0,.i .i64 0,.i .i64 0,.i .i64 0,.i .i64 0] [(0,1,(.k 144)),(1,1,(.k 156)),(2,1,(.k 144)),(3,1,(.k 156)),(4,1,(.k 119)),(5,1,(.k 119))]),.q 62 (.build [.s [],.i .i64 0,.i .i64 0,.i .i64 0,.i .i64 0,.i .i64 0,.i .i64 0] [(0,1,(.c (.s [115,99,104,101,100,95,115,101,116,115,99,104,101,100,117,108,101,114]))),(1,6,(.t 61))]),.q 63 (.build [.i .i64 0,.i .i64 0,.i .i64 0,.i .i64 0,.i .i64 0,.i .i64 0] [(0,1,(.k 317)),(1,1,(.k 354)),(2,1,(.k 317)),(3,1,(.k 383)),(4,1,(.k 277)),(5,1,(.k 277))]),.q 64 (.build [.s [],.i .i64 0,.i .i64 0,.i .i64 0,.i .i64 0,.i .i64 0,.i .i64 0] [(0,1,(.c (.s [115,101,99,99,111,109,112]))),(1,6,(.t 63))]),.q 65 (.build [.i .i64 0,.i .i64 0,.i .i64 0,.i .i64 0,.i .i64 0,.i .i64 0] [(0,1,(.k 308)),(1,1,(.k 346)),(2,1,(.k 308)),(3,1,(.k 375)),(4,1,(.k 268)),(5,1,(.k 268))]),.q 66 (.build [.s [],.i .i64 0,.i .i64 0,.i .i64 0,.i .i64 0,.i .i64 0,.i .i64 0] [(0,1,(.c (.s [115,101,116,110,115]))),(1,6,(.t 65))]),.q 67 (.build [.i .i64 0,.i .i64 0,.i .i64 0,.i .i64 0,.i .i64 0,.i .i64 0] [(0,1,(.k 164)),(1,1,(.k 79)),(2,1,(.k 164)),(3,1,(.k 79)),(4,1,(.k 170)),(5,1,(.k 170))]),.q 68 (.build [.s [],.i .i64 0,.i .i64 0,.i .i64 0,.i .i64 0,.i .i64 0,.i .i64 0] [(0,1,(.c (.s [115,101,116,116,105,109,101,111,102,100,97,121]))),(1,6,(.t 67))]),.q 69 (.build [.i .i64 0,.i .i64 0,.i .i64 0,.i .i64 0,.i .i64 0,.i .i64 0] [(0,1,(.k 105)),(1,1,(.k 23)),(2,1,(.k 105)),(3,1,(.k 23)),(4,1,(.k 146)),(5,1,(.k 146))]),.q 70 (.build [.s [],.i .i64 0,.i .i64 0,.i .i64 0,.i .i64 0,.i .i64 0,.i .i64 0] [(0,1,(.c (.s [115,101,116,117,105,100]))),(1,6,(.t 69))]),.q 71 (.build [.i .i64 0,.i .i64 0,.i .i64 0,.i .i64 0,.i .i64 0,.i .i64 0] [(0,1,(.k 30)),(1,1,(.k 397)),(2,1,(.c (.i .i64 (-1)))),(3,1,(.k 305)),(4,1,(.k 196)),(5,1,(.k 196))]),.q 72 (.build [.s [],.i .i64 0,.i .i64 0,.i .i64 0,.i .i64 0,.i .i64 0,.i .i64 0] [(0,1,(.c (.s [115,104,109,97,116]))),(1,6,(.t 71))]),.q 73 (.build [.i .i64 0,.i .i64 0,.i .i64 0,.i .i64 0,.i .i64 0,.i .i64 0] [(0,1,(.k 41)),(1,1,(.k 359)),(2,1,(.k 41)),(3,1,(.k 281)),(4,1,(.k 198)),(5,1,(.k 198))]),.q 74 (.build [.s [],.i .i64 0,.i .i64 0,.i .i64 0,.i .i64 0,.i .i64 0,.i .i64 0] [(0,1,(.c (.s [115,111,99,107,101,116]))),(1,6,(.t 73))]),.q 75 (.build [.i .i64 0,.i .i64 0,.i .i64 0,.i .i64 0,.i .i64 0,.i .i64 0] [(0,1,(.k 166)),(1,1,(.k 52)),(2,1,(.k 166)),(3,1,(.k 52)),(4,1,(.k 39)),(5,1,(.k 39))]),.q 76 (.build [.s [],.i .i64 0,.i .i64 0,.i .i64 0,.i .i64 0,.i .i64 0,.i .i64 0] [(0,1,(.c (.s [117,109,111,117,110,116,50]))),(1,6,(.t 75))]),.q 77 (.build [.i .i64 0,.i .i64 0,.i .i64 0,.i .i64 0,.i .i64 0,.i .i64 0] [(0,1,(.k 272)),(1,1,(.k 310)),(2,1,(.k 272)),(3,1,(.k 337)),(4,1,(.k 97)),(5,1,(.k 97))]),.q 78 (.build [.s [],.i .i64 0,.i .i64 0,.i .i64 0,.i .i64 0,.i .i64 0,.i .i64 0] [(0,1,(.c (.s [117,110,115,104,97,114,101]))),(1,6,(.t 77))]),.q 79 (.build [.i .i64 0,.i .i64 0,.i .i64 0,.i .i64 0,.i .i64 0,.i .i64 0] [(0,1,(.k 1)),(1,1,(.k 4)),(2,1,(.k 1)),(3,1,(.k 4)),(4,1,(.k 64)),(5,1,(.k 64))]),.q 80 (.build [.s [],.i .i64 0,.i .i64 0,.i .i64 0,.i .i64 0,.i .i64 0,.i .i64 0] [(0,1,(.c (.s [119,114,105,116,101]))),(1,6,(.t 79))]),.q 81 (.build [.s [],.i .i64 0,.i .i64 0,.i .i64 0,.i .i64 0,.i .i64 0,.i .i64 0,.s [],.i .i64 0,.i .i64 0,.i .i64 0,.i .i64 0,.i .i64 0,.i .i64 0,.s [],.i .i64 0,.i .i64 0,.i .i64 0,.i .i64 0,.i .i64 0,.i .i64 0,.s [],.i .i64 0,.i .i64 0,.i .i64 0,.i .i64 0,.i .i64 0,.i .i64 0,.s [],.i .i64 0,.i .i64 0,.i .i64 0,.i .i64 0,.i .i64 0,.i .i64 0,.s [],.i .i64 0,.i .i64 0,.i .i64 0,.i .i64 0,.i .i64 0,.i .i64 0,.s [],.i .i64 0,.i .i64 0,.i .i64 0,.i .i64 0,.i .i64 0,.i .i64 0,.s [],.i .i64 0,.i .i64 0,.i .i64 0,.i .i64 0,.i .i64 0,.i .i64 0,.s [],.i .i64 0,.i .i64 0,.i .i64 0,.i .i64 0,.i .i64 0,.i .i64 0,.s [],.i .i64 0,.i .i64 0,.i .i64 0,.i .i64 0,.i .i64 0,.i .i64 0,.s [],.i .i64 0,.i .i64 0,.i .i64 0,.i .i64 0,.i .i64 0,.i .i64 0,.s [],.i .i64 0,.i .i64 0,.i .i64 0,.i .i64 0,.i .i64 0,.i .i64 0,.s [],.i .i64 0,.i .i64 0,.i .i64 0,.i .i64 0,.i .i64 0,.i .i64 0,.s [],.i .i64 0,.i .i64 0,.i .i64 0,.i .i64 0,.i .i64 0,.i .i64 0,.s [],.i .i64 0,.i .i64 0,.i .i64 0,.i .i64 0,.i .i64 0,.i .i64 0,.s [],.i .i64 0,.i .i64 0,.i .i64 0,.i .i64 0,.i .i64 0,.i .i64 0,.s [],.i .i64 0,.i .i64 0,.i .i64 0,.i .i64 0,.i .i64 0,.i .i64 0,.s [],.i .i64 0,.i .i64 0,.i .i64 0,.i .i64 0,.i .i64 0,.i .i64 0,.s [],.i .i64 0,.i .i64 0,.i .i64 0,.i .i64 0,.i .i64 0,.i .i64 0,.s [],.i .i64 0,.i .i64 0,.i .i64 0,.i .i64 0,.i .i64 0,.i .i64 0,.s [],.i .i64 0,.i .i64 0,.i .i64 0,.i .i64 0,.i .i64 0,.i .i64 0,.s [],.i .i64 0,.i .i64 0,.i .i64 0,.i .i64 0,.i .i64 0,.i .i64 0,.s [],.i .i64 0,.i .i64 0,.i .i64 0,.i .i64 0,.i .i64 0,.i .i64 0,.s [],.i .i64 0,.i .i64 0,.i .i64 0,.i .i64 0,.i .i64 0,.i .i64 0,.s [],.i .i64 0,.i .i64 0,.i .i64 0,.i .i64 0,.i .i64 0,.i .i64 0,.s [],.i .i64 0,.i .i64 0,.i .i64 0,.i .i64 0,.i .i64 0,.i .i64 0,.s [],.i .i64 0,.i .i64 0,.i .i64 0,.i .i64 0,.i .i64 0,.i .i64 0,.s [],.i .i64 0,.i .i64 0,.i .i64 0,.i .i64 0,.i .i64 0,.i .i64 0,.s [],.i .i64 0,.i .i64 0,.i .i64 0,.i .i64 0,.i .i64 0,.i .i64 0,.s [],.i .i64 0,.i .i64 0,.i .i64 0,.i .i64 0,.i .i64 0,.i .i64 0,.s [],.i .i64 0,.i .i64 0,.i .i64 0,.i .i64 0,.i .i64 0,.i .i64 0,.s [],.i .i64 0,.i .i64 0,.i .i64 0,.i .i64 0,.i .i64 0,.i .i64 0,.s [],.i .i64 0,.i .i64 0,.i .i64 0,.i .i64 0,.i .i64 0,.i .i64 0,.s [],.i .i64 0,.i .i64 0,.i .i64 0,.i .i64 0,.i .i64 0,.i .i64 0,.s [],.i .i64 0,.i .i64 0,.i .i64 0,.i .i64 0,.i .i64 0,.i .i64 0,.s [],.i .i64 0,.i .i64 0,.i .i64 0,.i .i64 0,.i .i64 0,.i .i64 0,.s [],.i .i64 0,.i .i64 0,.i .i64 0,.i .i64 0,.i .i64 0,.i .i64 0,.s [],.i .i64 0,.i .i64 0,.i .i64 0,.i .i64 0,.i .i64 0,.i .i64 0,.s [],.i .i64 0,.i .i64 0,.i .i64 0,.i .i64 0,.i .i64 0,.i .i64 0,.s [],.i .i64 0,.i .i64 0,.i .i64 0,.i .i64 0,.i .i64 0,.i .i64 0] [(0,7,(.t 2)),(7,7,(.t 4)),(14,7,(.t 6)),(21,7,(.t 8)),(28,7,(.t 10)),(35,7,(.t 12)),(42,7,(.t 14)),(49,7,(.t 16)),(56,7,(.t 18)),(63,7,(.t 20)),(70,7,(.t 22)),(77,7,(.t 24)),(84,7,(.t 26)),(91,7,(.t 28)),(98,7,(.t 30)),(105,7,(.t 32)),(112,7,(.t 34)),(119,7,(.t 36)),(126,7,(.t 38)),(133,7,(.t 40)),(140,7,(.t 42)),(147,7,(.t 44)),(154,7,(.t 46)),(161,7,(.t 48)),(168,7,(.t 50)),(175,7,(.t 52)),(182,7,(.t 54)),(189,7,(.t 56)),(196,7,(.t 58)),(203,7,(.t 60)),(210,7,(.t 62)),(217,7,(.t 64)),(224,7,(.t 66)),(231,7,(.t 68)),(238,7,(.t 70)),(245,7,(.t 72)),(252,7,(.t 74)),(259,7,(.t 76)),(266,7,(.t 78)),(273,7,(.t 80))]),.u (.store 280 (.t 0) (.t 81))]) (.ret))⟩
set_option maxRecDepth 20000 in
theorem qqs(hc:qj P f XT=true):qc P f [] (.agg (zm.flatMap QK)):=by
 refine qc.mk hc rfl ?_;simp only[XT,vI,simprocAttr];simp only[↓vS,vT,simprocAttr,zm,QK,List.flatMap_cons,List.flatMap_nil,List.getD_cons_zero,List.getD_cons_succ,vZ]
def Zq:IFn:=⟨[.tmp 3],.seq (.r [.q 2 (.box (.t 0)),.m 3 .F]) (.seq (.r [.f 4 0 2,.d 5 4,.d 6 1,.b 7 .eql 5 6,.n 3 7]) (.ret))⟩
theorem qnr(hc:qj P f Zq=true)(s:List UInt8)(x:List UInt8×List Int):qc P f [.agg (QK x),.pf [.s s] 0] (.b (decide (x.1=s))):=by
 refine qc.mk hc (by simp[qt,clo,QK]) ?_;simp only[Zq,QK,vI,simprocAttr];simp only[↓vS,vT,simprocAttr,vZ]
def JU(a b:Nat):IFn:=⟨[.cell 2 7 true,.tmp 3],.seq (.r [.q 2 (.alloc [.s [],.i .i64 0,.i .i64 0,.i .i64 0,.i .i64 0,.i .i64 0,.i .i64 0]),.m 3 .F]) (.seq (.r [.l 6 a [],.q 4 (.alloc [.s [],.i .i64 0,.i .i64 0,.i .i64 0,.i .i64 0,.i .i64 0,.i .i64 0,.s [],.i .i64 0,.i .i64 0,.i .i64 0,.i .i64 0,.i .i64 0,.i .i64 0,.s [],.i .i64 0,.i .i64 0,.i .i64 0,.i .i64 0,.i .i64 0,.i .i64 0,.s [],.i .i64 0,.i .i64 0,.i .i64 0,.i .i64 0,.i .i64 0,.i .i64 0,.s [],.i .i64 0,.i .i64 0,.i .i64 0,.i .i64 0,.i .i64 0,.i .i64 0,.s [],.i .i64 0,.i .i64 0,.i .i64 0,.i .i64 0,.i .i64 0,.i .i64 0,.s [],.i .i64 0,.i .i64 0,.i .i64 0,.i .i64 0,.i .i64 0,.i .i64 0,.s [],.i .i64 0,.i .i64 0,.i .i64 0,.i .i64 0,.i .i64 0,.i .i64 0,.s [],.i .i64 0,.i .i64 0,.i .i64 0,.i .i64 0,.i .i64 0,.i .i64 0,.s [],.i .i64 0,.i .i64 0,.i .i64 0,.i .i64 0,.i .i64 0,.i .i64 0,.s [],.i .i64 0,.i .i64 0,.i .i64 0,.i .i64 0,.i .i64 0,.i .i64 0,.s [],.i .i64 0,.i .i64 0,.i .i64 0,.i .i64 0,.i .i64 0,.i .i64 0,.s [],.i .i64 0,.i .i64 0,.i .i64 0,.i .i64 0,.i .i64 0,.i .i64 0,.s [],.i .i64 0,.i .i64 0,.i .i64 0,.i .i64 0,.i .i64 0,.i .i64 0,.s [],.i .i64 0,.i .i64 0,.i .i64 0,.i .i64 0,.i .i64 0,.i .i64 0,.s [],.i .i64 0,.i .i64 0,.i .i64 0,.i .i64 0,.i .i64 0,.i .i64 0,.s [],.i .i64 0,.i .i64 0,.i .i64 0,.i .i64 0,.i .i64 0,.i .i64 0,.s [],.i .i64 0,.i .i64 0,.i .i64 0,.i .i64 0,.i .i64 0,.i .i64 0,.s [],.i .i64 0,.i .i64 0,.i .i64 0,.i .i64 0,.i .i64 0,.i .i64 0,.s [],.i .i64 0,.i .i64 0,.i .i64 0,.i .i64 0,.i .i64 0,.i .i64 0,.s [],.i .i64 0,.i .i64 0,.i .i64 0,.i .i64 0,.i .i64 0,.i .i64 0,.s [],.i .i64 0,.i .i64 0,.i .i64 0,.i .i64 0,.i .i64 0,.i .i64 0,.s [],.i .i64 0,.i .i64 0,.i .i64 0,.i .i64 0,.i .i64 0,.i .i64 0,.s [],.i .i64 0,.i .i64 0,.i .i64 0,.i .i64 0,.i .i64 0,.i .i64 0,.s [],.i .i64 0,.i .i64 0,.i .i64 0,.i .i64 0,.i .i64 0,.i .i64 0,.s [],.i .i64 0,.i .i64 0,.i .i64 0,.i .i64 0,.i .i64 0,.i .i64 0,.s [],.i .i64 0,.i .i64 0,.i .i64 0,.i .i64 0,.i .i64 0,.i .i64 0,.s [],.i .i64 0,.i .i64 0,.i .i64 0,.i .i64 0,.i .i64 0,.i .i64 0,.s [],.i .i64 0,.i .i64 0,.i .i64 0,.i .i64 0,.i .i64 0,.i .i64 0,.s [],.i .i64 0,.i .i64 0,.i .i64 0,.i .i64 0,.i .i64 0,.i .i64 0,.s [],.i .i64 0,.i .i64 0,.i .i64 0,.i .i64 0,.i .i64 0,.i .i64 0,.s [],.i .i64 0,.i .i64 0,.i .i64 0,.i .i64 0,.i .i64 0,.i .i64 0,.s [],.i .i64 0,.i .i64 0,.i .i64 0,.i .i64 0,.i .i64 0,.i .i64 0,.s [],.i .i64 0,.i .i64 0,.i .i64 0,.i .i64 0,.i .i64 0,.i .i64 0,.s [],.i .i64 0,.i .i64 0,.i .i64 0,.i .i64 0,.i .i64 0,.i .i64 0,.s [],.i .i64 0,.i .i64 0,.i .i64 0,.i .i64 0,.i .i64 0,.i .i64 0,.s [],.i .i64 0,.i .i64 0,.i .i64 0,.i .i64 0,.i .i64 0,.i .i64 0,.s [],.i .i64 0,.i .i64 0,.i .i64 0,.i .i64 0,.i .i64 0,.i .i64 0,.s [],.i .i64 0,.i .i64 0,.i .i64 0,.i .i64 0,.i .i64 0,.i .i64 0,.s [],.i .i64 0,.i .i64 0,.i .i64 0,.i .i64 0,.i .i64 0,.i .i64 0]),.u (.store 280 (.t 4) (.t 6))]) (.seq (.r [.q 7 (.slcA 40 7 (.t 4) none none none),.n 8 0,.l 9 b [.t 7,.t 8],.n 5 9]) (.seq (.seq (.r [.n 10 5,.w 11 .lss 10 0]) (.cond (.t 11) (.seq (.r [.q 12 (.build [.s [],.i .i64 0,.i .i64 0,.i .i64 0,.i .i64 0,.i .i64 0,.i .i64 0] []),.u (.store 7 (.t 2) (.t 12)),.m 3 .F]) (.ret)) (.skip))) (.seq (.r [.n 13 5,.q 14 (.iAddrA 40 7 (.t 4) (.t 13)),.v 15 7 14,.u (.store 7 (.t 2) (.t 15)),.m 3 .T]) (.ret)))))⟩
def qhi(p:List UInt8×List Int->Bool):AV:=match zm.find? p with|some x=>.tup [.agg (QK x),.b true]|none=>.tup [.agg [.s [],.i .i64 0,.i .i64 0,.i .i64 0,.i .i64 0,.i .i64 0,.i .i64 0],.b false]
set_option maxRecDepth 20000 in
theorem qon{g1 g2:Nat}(hc:qj P f (JU g1 g2)=true)(h1:qc P g1 [] (.agg (zm.flatMap QK)))(h2:ZO 7 P g2)(p:List UInt8×List Int->Bool)(g:Nat)(a c:List AV)(ha:qt a=true)(hcc:qt c=true)
  (hp:∀x ∈ zm,qc P g (a++([.agg (QK x)]++c)) (.b (p x))):qc P f [.fn g a c] (qhi p):=by
 refine qc.mk hc (by simp[qt,clo,ha,hcc]) ?_;simp only[JU,vI,simprocAttr];simp only[↓vS,vT,simprocAttr];refine h1.sc ?_;have hlen:(zm.flatMap QK).length=280:=by decide
 have hok:qJ (zm.flatMap QK)=true:=by decide
 have hcl:qt (zm.flatMap QK)=true:=by decide
 generalize hT:zm.flatMap QK=T at hlen hok hcl;have htk:T.take 280=T:=List.take_of_length_le (by omega);simp only[↓vS,vT,simprocAttr,hlen,hok];refine (h2 QK p g a c zm qd2 ha hcc (by decide) hp).lend (vs':=[.fz 40 (zm.flatMap QK),.fn g a c]) ?_ rfl ?_
 ·refine .cons _ _ _ _ (.cut 7 rfl (Nat.le_refl _) ?_) (.cons _ _ _ _ (.fn _ _ _ _ _ (Frzs.self ha) (Frzs.self hcc)) .nil);rw[hT];simp[vw,hlen,htk,qE hcl]
 rcases Qc p zm 0 with⟨e1,e2⟩|⟨i,x,e1,e2,e3,e4,e5⟩
 ·rw[e1];simp only[↓vS,vT,simprocAttr];simp[vZ,qhi,e2]
 ·have hi:i<40:=(List.getElem?_eq_some_iff.1 e2).1;have hn:¬(i:Int)<0:=by omega
  have he:(T.drop (i*7)).take 7=QK x:=by rw[← hT];exact xc (f:=QK) (m:=7) qd2 e2
  have hb:i*7<=273:=by omega
  rw[e1,Nat.zero_add];simp only[↓vS,vT,simprocAttr,hn,hi,he,hb,hlen,QK];simp[vZ,qhi,e4,QK]
def XS(a b:Nat):IFn:=⟨[.tmp 2],.seq (.r [.q 1 (.box (.t 0)),.m 2 .F]) (.seq (.r [.q 6 (.mkF a [] [.t 1]),.l 7 b [.t 6],.n 5 7,.x 8 5 0,.x 9 5 1,.q 3 (.alloc [.s [],.i .i64 0,.i .i64 0,.i .i64 0,.i .i64 0,.i .i64 0,.i .i64 0]),.u (.store 7 (.t 3) (.t 8)),.n 4 9]) (.seq (.r [.n 10 4,.n 2 10]) (.ret)))⟩
def xM(s:List UInt8):Bool:=(zm.find? (fun x=>decide (x.1=s))).isSome
theorem qo3{g1 g2:Nat}(hc:qj P f (XS g1 g2)=true)(h1:∀s x,qc P g1 [.agg (QK x),.pf [.s s] 0] (.b (decide (x.1=s))))
  (h2:∀(p:List UInt8×List Int->Bool) (g:Nat) (a c:List AV),qt a=true->qt c=true->(∀x ∈ zm,qc P g (a++([.agg (QK x)]++c)) (.b (p x)))->qc P g2 [.fn g a c] (qhi p)) (s:List UInt8):qc P f [.s s] (.b (xM s)):=by
 refine qc.mk hc rfl ?_;simp only[XS,vI,simprocAttr];simp only[↓vS,vT,simprocAttr];refine (h2 (fun x=>decide (x.1=s)) g1 [] [.pf [.s s] 0] rfl rfl (fun x _=>h1 s x)).lend (vs':=[.fn g1 [] [.pf [.s s] 0]]) ?_ ?_ ?_
 ·simp[vZ,vP,Tr.get_set]
 ·unfold qhi;split<;>rfl
 unfold qhi xM;cases zm.find? (fun x=>decide (x.1=s)) with
 | none =>
  simp only[↓vS,vT,simprocAttr];simp[vZ]
 | some x =>
  simp only[↓vS,vT,simprocAttr,QK];simp[vZ]
end Go.Kc
end
section
/- May a list be: what fold.May answers. Condition: the function's text is this. -/
namespace Go.Kc
variable {P:Program} {f:Nat}
def okC(c:GCall):Bool:=xM c.name&&Q4 c.act
noncomputable def kI:Option GCall->List GCall->Bool
 | _,[]=>true
 | o,c::l=>okC c&&(o.elim true fun b=>ltS b.name c.name)&&kI (some c) l
noncomputable def zF(l:GList):Bool:=decide (l.mode<=2)&&(decide (l.mode≠0)||decide (l.calls=[]))&&kI none l.calls
def Qm(a b:Nat):ICode:=.seq (.seq (.r [.f 19 1 1,.d 20 19,.e 21 20,.m 22 (.k 0)]) (.blk 0 (.loop (.seq (.r [.s 23 22 21]) (.seq (.cond (.t 23) (.skip) (.exit 0)) (.seq (.blk 1 (.seq (.r [.n 24 22,.i 25 2 20 22,.v 26 2 25,.q 4 (.alloc [.s [],.i .u32 0]),.n 3 24,.u (.store 2 (.t 4) (.t 26))]) (.seq (.reg true [.f 27 0 4,.d 28 27,.l 29 a [.t 28],.q 30 (.un .not (.t 29)),.n 31 30,.h 32 1 4 31 false,.j 33 32 31 false,⟨(some 34),.callF b [.t 33],(some (31,false))⟩,.g 35 (.un .not (.t 34)) 31 false,.o 36 31 35,.n 37 36,.z 38 3 37,.g 39 (.bin .gtr (.t 38) (.k 0)) 37 false,.z 40 39 37,.h 41 1 1 40 true,.j 42 41 40 true,.y 43 3 40,.g 44 (.bin .sub (.t 43) (.k 1)) 40 true,.g 45 (.iAddrS 2 (.t 42) (.t 44)) 40 true,.h 46 0 45 40 true,.j 47 46 40 true,.h 48 0 4 40 true,.j 49 48 40 true,.g 50 (.bin .geq (.t 47) (.t 49)) 40 true,.g 51 (.pick (.t 40) (.t 50) .F) 37 false,.o 52 37 51]) (.cond (.t 52) (.seq (.r [.m 2 .F]) (.ret)) (.skip))))) (.r [.a 53 22 1,.n 22 53]))))))) (.seq (.r [.m 2 .T]) (.ret))
def V1(a b:Nat):IFn:=⟨[.tmp 2],.seq (.r [.q 1 (.box (.t 0)),.m 2 .F]) (.seq (.seq (.r [.f 5 0 1,.d 6 5,.q 7 (.bin .gtr (.t 6) (.c (.i .u8 2))),.n 8 7,.h 9 0 1 8 false,.j 10 9 8 false,.g 11 (.bin .eql (.t 10) (.c (.i .u8 0))) 8 false,.z 12 11 8,.h 13 1 1 12 true,.j 14 13 12 true,.g 15 (.len false (.t 14)) 12 true,.g 16 (.bin .gtr (.t 15) (.k 0)) 12 true,.g 17 (.pick (.t 12) (.t 16) .F) 8 false,.o 18 8 17]) (.cond (.t 18) (.seq (.r [.m 2 .F]) (.ret)) (.skip))) (.cut (Qm a b)))⟩
theorem qjl{g1 g2:Nat}(h1:∀s,qc P g1 [.s s] (.b (xM s)))(h2:∀n,qc P g2 [.i .u32 n] (.b (Q4 n)))(l:GList)(hl:l.calls.length<=100000){t':Tr AV}{h':Hp}(hw:Wk 0 t' h' (mkT [(1,.ptr 0 0),(2,.b false)]) (mkH 0 [.cells 0 true false (qv l)])) :
  S P 0 (Qm g1 g2) (wE [.tmp 2] fun v' h'=>Frz h' v' (.b (kI none l.calls))) t' h':=by
 refine S.weak hw (qq ?_);simp only[Qm,qv,vI,simprocAttr];simp only[↓vS,vT,simprocAttr]
 refine SL.loop (α:=Nat) (fun j=>[(1,.ptr 0 0),(2,.b false),(20,.fz l.calls.length (rC l.calls)),(21,.i .i64 l.calls.length),(22,.i .i64 j)]) (fun _=>[.cells 0 true false (qv l)])
  (fun j=>j<=l.calls.length∧kI none l.calls=kI (if j=0 then none else l.calls[j-1]?) (l.calls.drop j)) (fun j=>l.calls.length-j) 0 [0] ?_ ?_ ?_ rfl ?_ ?_
 ·simp[vw,qg]
 ·simp[vw,qv]
 ·simp
 ·exact⟨Nat.zero_le _,rfl⟩
 rintro j ⟨hj,hI⟩ G ih;simp only[vI,simprocAttr,qv]
 by_cases hlt:j<l.calls.length
 ·have hx:l.calls[j]?=some l.calls[j]:=List.getElem?_eq_getElem hlt;have he:=Z6 hx;have hb:=yz hlt;have hw:IntKind.wrap .i64 ((j:Int)+1)=((j+1:Nat):Int):=by rw[qB (by omega) (by omega)];omega
  rw[List.drop_eq_getElem_cons hlt,kI] at hI;have hnx:l.calls[j]?=some l.calls[j]:=hx;generalize hc0:l.calls[j]=c at hI he hx;simp only[↓vS,vT,simprocAttr,hlt,hb,he,zt];refine zQ ?_;simp only[↓vS,vT,simprocAttr];refine (h1 c.name).pc ?_;cases hk:xM c.name with
  | false =>
   have hw:kI none l.calls=false:=by rw[hI];simp[okC,hk]
   simp only[↓vS,vT,simprocAttr];simp[vZ,hw]
  | true =>
   simp only[↓vS,vT,simprocAttr];refine (h2 c.act).pc ?_;cases hac:Q4 c.act with
   | false =>
    have hw:kI none l.calls=false:=by rw[hI];simp[okC,hac]
    simp only[↓vS,vT,simprocAttr];simp[vZ,hw]
   | true =>
    have hok:okC c=true:=by simp[okC,hk,hac]
    by_cases h0:j=0
    ·subst h0;have hn:¬(0:Int)<((0:Nat):Int):=by decide
     simp only[↓vS,vT,simprocAttr,hn,hw];refine ih 1 ⟨by omega,?_⟩ (by omega) _ _ (Wk.mk _ _ [0] ?_ ?_ ?_ rfl)
     ·rw[hI,hok];simp[hx]
     ·simp[vw,qg];exact qB (by decide) (by decide)
     ·simp[vw,qv]
     ·simp
    ·have hp:(0:Int)<(j:Int):=by omega
     have hpl:j-1<l.calls.length:=by omega
     have hy:l.calls[j-1]?=some l.calls[j-1]:=List.getElem?_eq_getElem hpl;have hw2:IntKind.wrap .i64 ((j:Int)-1)=((j-1:Nat):Int):=by rw[qB (by omega) (by omega)];omega
     have g0:(rC l.calls)[(j-1)*2]?=some (.s l.calls[j-1].name):=qpY hy (i:=0) (by decide);rw[if_neg h0,hy] at hI;cases hlt2:ltS l.calls[j-1].name c.name with
     | false =>
      have hwf:kI none l.calls=false:=by rw[hI];simp[hlt2]
      simp only[↓vS,vT,simprocAttr,hp,hw2,hpl,g0,hlt2];simp[vZ,hwf]
     | true =>
      simp only[↓vS,vT,simprocAttr,hp,hw2,hpl,g0,hlt2,hw];refine ih (j+1) ⟨by omega,?_⟩ (by omega) _ _ (Wk.mk _ _ [0] ?_ ?_ ?_ rfl)
      ·rw[hI,hok];simp[hlt2,hx]
      ·simp[vw,qg]
      ·simp[vw,qv]
      ·simp
 ·rw[List.drop_of_length_le (by omega),kI] at hI;simp only[↓vS,vT,simprocAttr,hlt];simp[vZ,hI]
theorem qsz{g1 g2:Nat}(hc:qj P f (V1 g1 g2)=true)(h1:∀s,qc P g1 [.s s] (.b (xM s)))(h2:∀n,qc P g2 [.i .u32 n] (.b (Q4 n)))(l:GList)(hl:l.calls.length<=100000):qc P f [.agg (qv l)] (.b (zF l)):=by
 refine qc.mk hc rfl ?_;simp only[V1,qv,vI,simprocAttr]
 by_cases m1:2<l.mode
 ·have hw:zF l=false:=by simp[zF];omega
  simp only[↓vS,vT,simprocAttr,m1];simp[vZ,hw]
 have tail:(l.mode≠0∨l.calls=[])->zF l=kI none l.calls:=fun h=>by
  have:(decide (l.mode<=2)&&(decide (l.mode≠0)||decide (l.calls=[])))=true:=by
   simp only[Bool.and_eq_true,Bool.or_eq_true,decide_eq_true_eq];exact⟨by omega,h⟩
  unfold zF;rw[this];rfl
 by_cases m2:l.mode=0
 ·by_cases m3:(0:Int)<l.calls.length
  ·have hne:l.calls≠[]:=by intro h;rw[h] at m3;simp at m3
   have hw:zF l=false:=by simp[zF,m2,hne]
   simp only[↓vS,vT,simprocAttr,m1,m2,m3];simp[vZ,hw]
  ·have hz:l.calls=[]:=List.eq_nil_of_length_eq_zero (by omega);rw[tail (.inr hz)];simp only[↓vS,vT,simprocAttr,m1,m2,m3];refine qjl h1 h2 l hl (Wk.mk _ _ [0] ?_ ?_ ?_ rfl)
   ·simp[vw]
   ·simp[vw,qv,m2]
   ·simp
 ·rw[tail (.inl m2)];simp only[↓vS,vT,simprocAttr,m1,m2];refine qjl h1 h2 l hl (Wk.mk _ _ [0] ?_ ?_ ?_ rfl)
  ·simp[vw]
  ·simp[vw,qv]
  ·simp
end Go.Kc
end
section
/- What fold.Put and fold.Take answer. Condition: the functions' texts are these. -/
namespace Go.Kc
variable {P:Program} {f:Nat}
noncomputable def Q1(l:GList)(s:List UInt8):GList:=if zF l=true then ⟨l.mode,l.calls.filter fun c=>!decide (c.name=s)⟩ else l
def qoe(P:Program)(f:Nat):Prop:=∀l:GList,l.calls.length<=100000->Own P f [.agg (qv l)] (.agg [.i .u8 l.mode,.own 0 l.calls.length]) [.cells 2 true true (rC l.calls)]
def qof(P:Program)(f:Nat):Prop:=∀l:GList,l.calls.length<=100000->qc P f [.agg (qv l)] (.b (zF l))
def Xj(a b c d:Nat):ICode:=.seq (.seq (.r [.v 7 2 2,.l 8 b [.t 7]]) (.cond (.t 8) (.r [.f 9 1 2,.d 10 9,.q 11 (.mkF c [] [.t 3]),.l 12 d [.t 10,.t 11],.f 13 1 2,.u (.store 1 (.t 13) (.t 12))]) (.skip))) (.seq (.r [.v 14 2 2,.u (.store 2 (.t 4) (.t 14))]) (.ret))
def WQ(a b c d:Nat):IFn:=⟨[.cell 4 2 true],.seq (.r [.q 2 (.box (.t 0)),.q 3 (.box (.t 1)),.q 4 (.alloc [.i .u8 0,.nils])]) (.seq (.r [.v 5 2 2,.l 6 a [.t 5],.u (.store 2 (.t 2) (.t 6))]) (.cut (Xj a b c d)))⟩
theorem qrt{g1 g2 g3 g4:Nat}(hc:qj P f (WQ g1 g2 g3 g4)=true)(h1:qoe P g1)(h2:qof P g2)(h3:∀s c,qc P g3 [.agg (zt c),.pf [.s s] 0] (.b (decide (c.name=s))))(h4:WD P g4)(l:GList)(s:List UInt8)(hl:l.calls.length<=100000) :
  qc P f [.agg (qv l),.s s] (.agg (qv (Q1 l s))):=by
 refine qc.mk hc rfl ?_;simp only[WQ,qv,vI,simprocAttr];simp only[↓vS,vT,simprocAttr];refine (h1 l hl).sc ?_;simp only[vJ,simprocAttr];simp only[↓vS,vT,simprocAttr];refine S.weak (Wk.mk [(2,.ptr 0 0),(3,.ptr 1 0),(4,.ptr 2 0)] [.cells 0 true false [.i .u8 l.mode,.own 3 l.calls.length],.cells 0 true false [.s s],.cells 0 true false [.i .u8 0,.nils],.cells 2 true true (rC l.calls)] [0,1,2,3] ?_ ?_ ?_ rfl) ?_
 ·simp[vw]
 ·simp[vw,qa,qg,zW qg]
  try decide
 ·simp[vw]
 refine S.weak (Wk.freeze 1 0 0 rfl rfl (Nat.zero_le _) (by simp)) ?_;refine qq ?_;simp only[Xj,vI,simprocAttr,fzv,yp,fzB,List.map_cons,List.map_nil,List.set_cons_zero,List.set_cons_succ,if_true,qaM qg];simp only[↓vS,vT,simprocAttr];refine (h2 l hl).lend (vs':=[.agg (qv l)]) ?_ rfl ?_
 ·simp[vZ,vP,Tr.get_set,qv,qE qg];intro h0;rw[h0];rfl
 cases hM:zF l with
 | false =>
  have hw:Q1 l s=l:=by unfold Q1;rw[hM];rfl
  simp only[↓vS,vT,simprocAttr];rw[hw];simp[vZ,vP,Tr.get_set,qv,qE qg];intro h0;rw[h0];rfl
 | true =>
  have hw:Q1 l s=⟨l.mode,l.calls.filter fun c=>!decide (c.name=s)⟩:=by unfold Q1;rw[hM];rfl
  simp only[↓vS,vT,simprocAttr];refine (h4 (fun c=>decide (c.name=s)) g3 [] [.pf [.s s] 0] l.calls rfl rfl (by simp only[qf];omega) (fun c _=>h3 s c)).sc (vs:=[.own 0 l.calls.length,.fn g3 [] [.pf [.s s] 0]]) [3] (Lent.of (by decide) ?_) ?_
  ·simp[vL,vw,qr qg,qe qg,zW qg]
  simp only[vK,simprocAttr,qe qg];simp only[↓vS,vT,simprocAttr];rw[hw];simp[vZ,vP,Tr.get_set,qE qg];intro h0;rw[List.filter_eq_nil_iff.2 (by simpa using h0)];rfl
noncomputable def VB(l:List GCall)(s:List UInt8)(n:Int):List GCall :=
 if (l[bsC l (fun c=>zS c.name s)]?).elim false (fun c=>decide (zS c.name s=0))=true then l.set (bsC l (fun c=>zS c.name s)) ⟨s,n⟩
 else l.take (bsC l (fun c=>zS c.name s))++⟨s,n⟩::l.drop (bsC l (fun c=>zS c.name s))
noncomputable def W0(l:GList)(s:List UInt8)(n:Int):GList:=if zF l=true then ⟨l.mode,VB l.calls s n⟩ else l
def XW(a b c d e:Nat):ICode:=.seq (.seq (.r [.v 12 2 3,.l 13 b [.t 12],.q 14 (.un .not (.t 13))]) (.cond (.t 14) (.seq (.r [.v 15 2 3,.u (.store 2 (.t 6) (.t 15))]) (.ret)) (.skip))) (.seq (.r [.n 16 1,.n 17 2,.q 18 (.build [.s [],.i .u32 0] [(0,1,(.t 16)),(1,1,(.t 17))]),.q 7 (.alloc [.s [],.i .u32 0]),.u (.store 2 (.t 7) (.t 18))]) (.seq (.r [.f 20 1 3,.d 21 20,.n 22 1,.l 23 c [.t 21,.t 22,(.c (.fn d [] []))],.n 19 23,.x 24 19 0,.x 25 19 1,.n 8 24,.n 9 25]) (.seq (.seq (.r [.n 26 9]) (.cond (.t 26) (.r [.f 27 1 3,.d 28 27,.n 29 8,.v 30 2 7,.i 31 2 28 29,.u (.store 2 (.t 31) (.t 30))]) (.r [.f 32 1 3,.d 33 32,.n 34 8,.v 35 2 7,.q 36 (.buildS 1 [.s [],.i .u32 0] [(0,2,(.t 35))]),.l 37 e [.t 33,.t 34,.t 36],.f 38 1 3,.u (.store 1 (.t 38) (.t 37))]))) (.seq (.r [.v 39 2 3,.u (.store 2 (.t 6) (.t 39))]) (.ret)))))
def V2(a b c d e:Nat):IFn:=⟨[.cell 6 2 true],.seq (.r [.q 3 (.box (.t 0)),.q 6 (.alloc [.i .u8 0,.nils])]) (.seq (.r [.v 10 2 3,.l 11 a [.t 10],.u (.store 2 (.t 3) (.t 11))]) (.cut (XW a b c d e)))⟩
theorem qsO{g1 g2 g3 g4 g5:Nat}(hc:qj P f (V2 g1 g2 g3 g4 g5)=true)(h1:qoe P g1)(h2:qof P g2)(h3:qrT P g3)(h4:∀(c:GCall) (s:List UInt8),qc P g4 [.agg (zt c),.s s] (.i .i64 (zS c.name s)))(h5:Jq 2 24 P g5)(l:GList)(s:List UInt8)(n:Int)(hl:l.calls.length<=100000) :
  qc P f [.agg (qv l),.s s,.i .u32 n] (.agg (qv (W0 l s n))):=by
 refine qc.mk hc rfl ?_;simp only[V2,qv,vI,simprocAttr];simp only[↓vS,vT,simprocAttr];refine (h1 l hl).sc ?_;simp only[vJ,simprocAttr];simp only[↓vS,vT,simprocAttr];refine S.weak (Wk.mk [(1,.s s),(2,.i .u32 n),(3,.ptr 0 0),(6,.ptr 1 0)] [.cells 0 true false [.i .u8 l.mode,.own 2 l.calls.length],.cells 0 true false [.i .u8 0,.nils],.cells 2 true true (rC l.calls)] [0,1,2] ?_ ?_ ?_ rfl) (qq ?_)
 ·simp[vw]
 ·simp[vw,qa,qg,zW qg]
  try decide
 ·simp[vw]
 simp only[XW,vI,simprocAttr];simp only[↓vS,vT,simprocAttr];refine (h2 l hl).lend (vs':=[.agg (qv l)]) ?_ rfl ?_
 ·simp[vZ,vP,Tr.get_set,qv,qE qg];intro h0;rw[h0];rfl
 cases hM:zF l with
 | false =>
  have hw:W0 l s n=l:=by unfold W0;rw[hM];rfl
  simp only[↓vS,vT,simprocAttr];rw[hw];simp[vZ,vP,Tr.get_set,qv,qE qg];intro h0;rw[h0];rfl
 | true =>
  have hw:W0 l s n=⟨l.mode,VB l.calls s n⟩:=by unfold W0;rw[hM];rfl
  have hb:=qoa l.calls (fun c=>zS c.name s)
  simp only[↓vS,vT,simprocAttr];refine (h3 l.calls s g4 (fun c=>zS c.name s) (by simp only[qf];omega) (fun c _=>h4 c s)).lend (vs':=[.fz l.calls.length (rC l.calls),.s s,.fn g4 [] []]) ?_ rfl ?_
  ·simp[vZ,vP,Tr.get_set,qE qg];intro h0;rw[h0];rfl
  rw[hw];cases hfd:(l.calls[bsC l.calls (fun c=>zS c.name s)]?).elim false (fun c=>decide (zS c.name s=0)) with
  | true =>
   have hp:VB l.calls s n=l.calls.set (bsC l.calls (fun c=>zS c.name s)) ⟨s,n⟩:=if_pos hfd
   have hlt:bsC l.calls (fun c=>zS c.name s)<l.calls.length:=by
    rcases Nat.lt_or_ge (bsC l.calls (fun c=>zS c.name s)) l.calls.length with h|h
    ·exact h
    ·rw[List.getElem?_eq_none h] at hfd;cases hfd
   have hbd:=yz hlt
   have hset:rC (l.calls.set (bsC l.calls (fun c=>zS c.name s)) ⟨s,n⟩)=(rC l.calls).take (bsC l.calls (fun c=>zS c.name s)*2)++(AV.s s::AV.i .u32 n::(rC l.calls).drop (bsC l.calls (fun c=>zS c.name s)*2+2)):=by
    have e2:bsC l.calls (fun c=>zS c.name s)*2+2=(bsC l.calls (fun c=>zS c.name s)+1)*2:=by omega
    rw[e2,qao,qcO,List.set_eq_take_append_cons_drop,if_pos hlt,← qeU,qan]<;>rfl
   simp only[↓vS,vT,simprocAttr,hlt,hbd];rw[hp];simp only[← hset];simp[vZ,vP,Tr.get_set,qE qg];intro h0;rw[h0] at hlt;simp at hlt
  | false =>
   have hp:VB l.calls s n=l.calls.take (bsC l.calls (fun c=>zS c.name s))++⟨s,n⟩::l.calls.drop (bsC l.calls (fun c=>zS c.name s)):=if_neg (by rw[hfd];decide)
   simp only[↓vS,vT,simprocAttr];refine (h5 l.calls.length (bsC l.calls (fun c=>zS c.name s)) (rC l.calls) [.s s,.i .u32 n] (by rw[yM]) rfl qg rfl qa8 rfl hb (by simp only[qf];omega) (by simp only[qf];omega)).sc (vs:=[.own 0 l.calls.length,.i .i64 (bsC l.calls (fun c=>zS c.name s):Int),.sl 1 0 1 1 false]) [2,4] (Lent.of (by decide) ?_) ?_
   ·simp[vL,vw,qr qg,qe qg]
   have hT:rC (VB l.calls s n)=(rC l.calls).take (bsC l.calls (fun c=>zS c.name s)*2)++([.s s,.i .u32 n]++(rC l.calls).drop (bsC l.calls (fun c=>zS c.name s)*2)):=by
    rw[hp,← qeU,qan,qao,qcO];rfl
   have hL:(VB l.calls s n).length=l.calls.length+1:=by
    rw[hp];simp;omega
   simp only[← hT];simp only[vK,simprocAttr,qe qg];simp only[↓vS,vT,simprocAttr];simp[vZ,vP,Tr.get_set,qE qg,hL]
end Go.Kc
end
section
/- What a list's lines are read by: fold.ins, values.Read. Condition: the functions' texts are these. -/
namespace Go.Kc
variable {P:Program} {f:Nat}
def V3:IFn:=⟨[.cell 0 4 true],.seq (.r [.q 0 (.alloc [.b false,.b false,.b false,.b false])]) (.seq (.r [.q 1 (.build [.b false,.b false] [(0,1,.T),(1,1,.F)]),.q 2 (.build [.b false,.b false] [(0,1,.F),(1,1,.T)]),.q 3 (.build [.b false,.b false,.b false,.b false] [(0,2,(.t 1)),(2,2,(.t 2))]),.u (.store 4 (.t 0) (.t 3))]) (.ret))⟩
theorem qse(hc:qj P f V3=true):qc P f [] (.agg [.b true,.b false,.b false,.b true]):=by
 refine qc.mk hc rfl ?_;simp only[V3,vI,simprocAttr];simp only[↓vS,vT,simprocAttr,vZ]
def xY(a:Nat):IFn:=⟨[.tmp 4],.seq (.r [.m 4 (.k 0)]) (.seq (.r [.n 5 0,.n 6 1,.l 7 a [.t 5,.t 6],.n 4 7]) (.ret))⟩
theorem qiT{g:Nat}(hc:qj P f (xY g)=true)(hg:∀(a:List UInt8) (c:UInt8),qc P g [.s a,.i .u8 (c.toNat:Int)] (.i .i64 (y6 c a 0)))(a:List UInt8)(c:UInt8):qc P f [.s a,.i .u8 (c.toNat:Int)] (.i .i64 (y6 c a 0)):=by
 refine qc.mk hc rfl ?_;simp only[xY,vI,simprocAttr];simp only[↓vS,vT,simprocAttr];refine (hg a c).sc ?_;simp only[↓vS,vT,simprocAttr,vZ]
theorem qaS(c:UInt8):∀(a:List UInt8) (j:Nat),y6 c a j = -1∨∃i:Nat,y6 c a j=((j+i:Nat):Int)∧i<a.length
 | [],j=>.inl rfl
 | x::xs,j=>by
  unfold y6;split
  ·exact .inr ⟨0,rfl,by simp⟩
  ·rcases qaS c xs (j+1) with h|⟨i,h,hi⟩
   ·exact .inl h
   ·exact .inr ⟨i+1,by rw[h];omega,by simp;omega⟩
def jR(a b c d:Nat):IFn:=⟨[.tmp 4],.seq (.r [.m 4 (.k 0)]) (.seq (.r [.n 14 1,.q 15 (.len true (.t 14)),.n 5 15]) (.seq (.blk 0 (.seq (.r [.n 17 5,.w 18 .eql 17 0,.n 19 18,.z 20 1 19,.z 21 0 19,.g 22 (.bin .eql (.t 20) (.t 21)) 19 false,.o 23 19 22,.n 16 23]) (.cond (.t 16) (.seq (.r [.m 4 (.k 0)]) (.ret)) (.seq (.r [.n 25 5,.w 26 .eql 25 1,.n 24 26]) (.cond (.t 24) (.seq (.r [.n 27 0,.n 28 1,.q 29 (.idxS (.t 28) (.k 0)),.l 30 a [.t 27,.t 29],.n 4 30]) (.ret)) (.seq (.r [.n 32 5,.n 33 0,.q 34 (.len true (.t 33)),.b 35 .geq 32 34,.n 31 35]) (.cond (.t 31) (.seq (.r [.q 4 (.mov (.c (.i .i64 (-1))))]) (.ret)) (.seq (.r [.n 37 5,.q 38 (.no),.b 39 .leq 37 38,.n 40 39,.y 41 0 40,.g 42 (.len true (.t 41)) 40 true,.g 43 (.bin .leq (.t 42) (.k 64)) 40 true,.p 44 40 43,.n 36 44]) (.cond (.t 36) (.seq (.r [.n 45 0,.n 46 1,.l 47 b [.t 45,.t 46],.n 4 47]) (.ret)) (.skip)))))))))) (.seq (.r [.n 48 1,.q 49 (.idxS (.t 48) (.k 0)),.n 6 49]) (.seq (.r [.n 50 1,.q 51 (.idxS (.t 50) (.k 1)),.n 7 51]) (.seq (.r [.m 8 (.k 0)]) (.seq (.r [.n 52 0,.q 53 (.len true (.t 52)),.n 54 5,.b 55 .sub 53 54,.a 56 55 1,.n 9 56]) (.seq (.r [.m 10 (.k 0)]) (.seq (.blk 1 (.loop (.seq (.seq (.r [.n 57 8,.n 58 9,.s 59 57 58]) (.cond (.t 59) (.skip) (.exit 1))) (.blk 2 (.seq (.seq (.r [.n 60 0,.n 61 8,.q 62 (.idxS (.t 60) (.t 61)),.n 63 6,.b 64 .neq 62 63]) (.cond (.t 64) (.seq (.r [.n 65 0,.n 66 8,.a 67 66 1,.n 68 9,.q 69 (.slcStr (.t 65) (some (.t 67)) (some (.t 68))),.n 70 6,.l 71 a [.t 69,.t 70],.n 11 71]) (.seq (.seq (.r [.n 72 11,.w 73 .lss 72 0]) (.cond (.t 73) (.seq (.r [.q 4 (.mov (.c (.i .i64 (-1))))]) (.ret)) (.skip))) (.r [.n 74 8,.n 75 11,.a 76 75 1,.b 77 .add 74 76,.n 8 77]))) (.skip))) (.seq (.seq (.r [.n 78 0,.n 79 8,.a 80 79 1,.q 81 (.idxS (.t 78) (.t 80)),.n 82 7,.b 83 .eql 81 82,.n 84 83,.y 85 0 84,.y 86 8 84,.y 87 8 84,.y 88 5 84,.g 89 (.bin .add (.t 87) (.t 88)) 84 true,.g 90 (.slcStr (.t 85) (some (.t 86)) (some (.t 89))) 84 true,.y 91 1 84,.g 92 (.bin .eql (.t 90) (.t 91)) 84 true,.p 93 84 92]) (.cond (.t 93) (.seq (.r [.n 94 8,.n 4 94]) (.ret)) (.skip))) (.seq (.r [.n 95 8,.a 96 95 1,.n 8 96]) (.seq (.r [.n 97 10,.a 98 97 1,.n 10 98]) (.seq (.r [.n 99 5,.q 100 (.no),.b 101 .leq 99 100,.n 102 101,.y 103 10 102,.y 104 8 102,⟨(some 105),.callF c [.t 104],(some (102,true))⟩,.g 106 (.bin .gtr (.t 103) (.t 105)) 102 true,.p 107 102 106]) (.cond (.t 107) (.seq (.r [.n 108 0,.n 109 8,.q 110 (.slcStr (.t 108) (some (.t 109)) none),.n 111 1,.l 112 b [.t 110,.t 111],.n 12 112]) (.seq (.seq (.r [.n 113 12,.w 114 .geq 113 0]) (.cond (.t 114) (.seq (.r [.n 115 12,.n 116 8,.b 117 .add 115 116,.n 4 117]) (.ret)) (.skip))) (.seq (.r [.q 4 (.mov (.c (.i .i64 (-1))))]) (.ret)))) (.seq (.r [.n 118 5,.q 119 (.no),.b 120 .gtr 118 119,.n 121 120,.y 122 10 121,.y 123 8 121,.g 124 (.bin .shr (.t 123) (.c (.i .u64 4))) 121 true,.g 125 (.bin .add (.k 4) (.t 124)) 121 true,.g 126 (.bin .geq (.t 122) (.t 125)) 121 true,.p 127 121 126,.n 128 127,.y 129 8 128,.y 130 9 128,.g 131 (.bin .lss (.t 129) (.t 130)) 128 true,.p 132 128 131]) (.cond (.t 132) (.seq (.r [.n 133 0,.n 134 8,.q 135 (.slcStr (.t 133) (some (.t 134)) none),.n 136 1,.l 137 d [.t 135,.t 136],.n 13 137]) (.seq (.seq (.r [.n 138 13,.w 139 .lss 138 0]) (.cond (.t 139) (.seq (.r [.q 4 (.mov (.c (.i .i64 (-1))))]) (.ret)) (.skip))) (.seq (.r [.n 140 8,.n 141 13,.b 142 .add 140 141,.n 4 142]) (.ret)))) (.skip))))))))))))) (.seq (.r [.q 4 (.mov (.c (.i .i64 (-1))))]) (.ret))))))))))⟩
theorem qtj{g1 g2 g3 g4:Nat}(hc:qj P f (jR g1 g2 g3 g4)=true)(hg:∀(a:List UInt8) (c:UInt8),qc P g1 [.s a,.i .u8 (c.toNat:Int)] (.i .i64 (y6 c a 0)))(a:List UInt8):qc P f [.s a,.s [58]] (.i .i64 (y6 58 a 0)):=by
 refine qc.mk hc rfl ?_;simp only[jR,vI,simprocAttr]
 by_cases h:[58]=a
 ·have h':([58]=a)=True:=eq_true h;have hw:y6 58 a 0=0:=by rw[← h];rfl
  simp only[↓vS,vT,simprocAttr,h'];simp[vZ,hw]
 ·simp only[↓vS,vT,simprocAttr,h];refine (hg a 58).sc ?_;simp only[↓vS,vT,simprocAttr];simp[vZ]
def x5(a:List UInt8):List UInt8×List UInt8×Bool:=if 0<=y6 58 a 0 then (a.take (y6 58 a 0).toNat,a.drop ((y6 58 a 0).toNat+1),true) else (a,[],false)
def wt(a:Nat):IFn:=⟨[.tmp 4,.tmp 5,.tmp 6],.seq (.r [.m 4 (.c (.s [])),.m 5 (.c (.s [])),.m 6 .F]) (.seq (.seq (.r [.n 8 0,.n 9 1,.l 10 a [.t 8,.t 9],.n 7 10]) (.seq (.r [.n 11 7,.w 12 .geq 11 0]) (.cond (.t 12) (.seq (.reg true [.n 13 0,.n 14 7,.q 15 (.slcStr (.t 13) none (some (.t 14))),.n 16 0,.n 17 7,.n 18 1,.q 19 (.len true (.t 18)),.b 20 .add 17 19,.q 21 (.slcStr (.t 16) (some (.t 20)) none),.n 4 15,.n 5 21,.m 6 .T]) (.ret)) (.skip)))) (.seq (.r [.n 22 0,.n 4 22,.m 5 (.c (.s [])),.m 6 .F]) (.ret)))⟩
theorem qtz{g1:Nat}(hc:qj P f (wt g1)=true)(hg:∀a,qc P g1 [.s a,.s [58]] (.i .i64 (y6 58 a 0)))(a:List UInt8)(ha:a.length<=1000000):qc P f [.s a,.s [58]] (.tup [.s (x5 a).1,.s (x5 a).2.1,.b (x5 a).2.2]):=by
 refine qc.mk hc rfl ?_;simp only[wt,vI,simprocAttr];simp only[↓vS,vT,simprocAttr];refine (hg a).sc ?_;rcases qaS 58 a 0 with h|⟨i,h,hi⟩
 ·have hw:x5 a=(a,[],false):=by unfold x5;rw[h];rfl
  rw[h,hw];simp only[↓vS,vT,simprocAttr];simp[vZ]
 ·rw[Nat.zero_add] at h;have h0:(0:Int)<=(i:Int):=by omega
  have hw:x5 a=(a.take i,a.drop (i+1),true):=by unfold x5;rw[h,if_pos h0];rfl
  have e1:IntKind.wrap .i64 ((i:Int)+1)=((i+1:Nat):Int):=by rw[qB (by omega) (by omega)];omega
  have h1:i<=a.length:=by omega
  have h2:i+1<=a.length:=by omega
  have h3:(i:Int)<=a.length:=by omega
  rw[h,hw];simp only[↓vS,vT,simprocAttr,h0];refine zQ ?_;simp only[↓vS,vT,simprocAttr,h1,h2,h3,e1];simp[vZ]
def X5(a:Nat):IFn:=⟨[.tmp 4,.tmp 5,.tmp 6],.seq (.r [.m 4 (.c (.s [])),.m 5 (.c (.s [])),.m 6 .F]) (.seq (.r [.n 7 0,.n 8 1,.l 9 a [.t 7,.t 8],.x 10 9 0,.x 11 9 1,.x 12 9 2,.n 4 10,.n 5 11,.n 6 12]) (.ret))⟩
theorem quj{g1:Nat}(hc:qj P f (X5 g1)=true)(hg:∀a:List UInt8,a.length<=1000000->qc P g1 [.s a,.s [58]] (.tup [.s (x5 a).1,.s (x5 a).2.1,.b (x5 a).2.2]))(a:List UInt8)(ha:a.length<=1000000):qc P f [.s a,.s [58]] (.tup [.s (x5 a).1,.s (x5 a).2.1,.b (x5 a).2.2]):=by
 refine qc.mk hc rfl ?_;simp only[X5,vI,simprocAttr];simp only[↓vS,vT,simprocAttr];refine (hg a ha).sc ?_;simp only[↓vS,vT,simprocAttr];simp[vZ]
structure Word where
 name:List UInt8
 act:Int
 has:Bool
def jC(w:Word):List AV:=[.s w.name,.i .u32 w.act,.b w.has]
noncomputable def qz(a:List UInt8):Word×Int :=
 if (x5 a).1=[] then (⟨[],0,false⟩,161)
 else if (x5 a).2.2=false then (⟨(x5 a).1,0,false⟩,0)
 else if (x5 a).2.1=Jb then (⟨(x5 a).1,2147483648,true⟩,0)
 else if (zh (x5 a).2.1).2=0 then (⟨(x5 a).1,327680+(zh (x5 a).2.1).1,true⟩,0)
 else (⟨[],0,false⟩,(zh (x5 a).2.1).2)
theorem qik(a:List UInt8):(x5 a).2.1.length<=a.length:=by
 unfold x5;split<;>simp
def X7(a b:Nat):IFn:=⟨[.cell 2 3 true,.tmp 3],.seq (.r [.q 2 (.alloc [.s [],.i .u32 0,.b false]),.m 3 (.k 0)]) (.seq (.r [.n 11 0,.l 12 a [.t 11,(.c (.s [58]))],.n 10 12,.x 13 10 0,.x 14 10 1,.x 15 10 2,.n 4 13,.n 5 14,.n 6 15]) (.seq (.seq (.r [.n 16 4,.q 17 (.bin .eql (.t 16) (.c (.s [])))]) (.cond (.t 17) (.seq (.r [.q 18 (.build [.s [],.i .u32 0,.b false] []),.u (.store 3 (.t 2) (.t 18)),.m 3 (.k 161)]) (.ret)) (.skip))) (.seq (.r [.n 19 4,.n 20 6,.q 21 (.build [.s [],.i .u32 0,.b false] [(0,1,(.t 19)),(2,1,(.t 20))]),.q 7 (.alloc [.s [],.i .u32 0,.b false]),.u (.store 3 (.t 7) (.t 21))]) (.seq (.blk 0 (.seq (.r [.n 35 6,.q 36 (.un .not (.t 35)),.n 34 36]) (.cond (.t 34) (.skip) (.seq (.r [.n 38 5,.q 39 (.bin .eql (.t 38) (.c (.s [107,105,108,108]))),.n 37 39]) (.cond (.t 37) (.r [.f 40 1 7,.u (.store 1 (.t 40) (.c (.i .u32 2147483648)))]) (.seq (.r [.n 23 5,.l 24 b [.t 23],.n 22 24,.x 25 22 0,.x 26 22 1,.n 8 25,.n 9 26]) (.seq (.seq (.r [.n 27 9,.w 28 .neq 27 0]) (.cond (.t 28) (.seq (.r [.q 29 (.build [.s [],.i .u32 0,.b false] []),.n 30 9,.u (.store 3 (.t 2) (.t 29)),.n 3 30]) (.ret)) (.skip))) (.r [.n 31 8,.q 32 (.bin .or (.c (.i .u32 327680)) (.t 31)),.f 33 1 7,.u (.store 1 (.t 33) (.t 32))])))))))) (.seq (.r [.v 41 3 7,.u (.store 3 (.t 2) (.t 41)),.m 3 (.k 0)]) (.ret))))))⟩
theorem qrj{g1 g2:Nat}(hc:qj P f (X7 g1 g2)=true)(h1:∀a:List UInt8,a.length<=1000000->qc P g1 [.s a,.s [58]] (.tup [.s (x5 a).1,.s (x5 a).2.1,.b (x5 a).2.2]))
  (h2:∀s:List UInt8,s.length<=1000000->qc P g2 [.s s] (.tup [.i .u32 (zh s).1,.i .i64 (zh s).2])) (a:List UInt8) (ha:a.length<=1000000):qc P f [.s a] (.tup [.agg (jC (qz a).1),.i .i64 (qz a).2]):=by
 refine qc.mk hc rfl ?_;simp only[X7,vI,simprocAttr];simp only[↓vS,vT,simprocAttr];refine (h1 a ha).sc ?_
 by_cases e1:(x5 a).1=[]
 ·have hw:qz a=(⟨[],0,false⟩,161):=if_pos e1;rw[hw];simp only[↓vS,vT,simprocAttr,e1,jC];simp[vZ]
 cases e2:(x5 a).2.2 with
 | false =>
  have hw:qz a=(⟨(x5 a).1,0,false⟩,0):=by unfold qz;rw[if_neg e1,if_pos e2]
  rw[hw];simp only[↓vS,vT,simprocAttr,e1,jC];simp[vZ]
 | true =>
  by_cases e3:(x5 a).2.1=Jb
  ·have hw:qz a=(⟨(x5 a).1,2147483648,true⟩,0):=by unfold qz;rw[if_neg e1,if_neg (by rw[e2];decide),if_pos e3]
   rw[hw];simp only[Jb] at e3;have e3':((x5 a).2.1=[107,105,108,108])=True:=eq_true e3;simp only[↓vS,vT,simprocAttr,e1,e3',jC];simp[vZ]
  ·have e3':¬(x5 a).2.1=[107,105,108,108]:=e3;simp only[↓vS,vT,simprocAttr,e1,e3',jC];refine (h2 _ (by have:=qik a;omega)).sc ?_;obtain⟨q0,q1,q2⟩:=Zo (x5 a).2.1
   by_cases e4:(zh (x5 a).2.1).2=0
   ·have hw:qz a=(⟨(x5 a).1,327680+(zh (x5 a).2.1).1,true⟩,0):=by unfold qz;rw[if_neg e1,if_neg (by rw[e2];decide),if_neg e3,if_pos e4]
    rw[hw];have hwr:=Vg (x:=327680+(zh (x5 a).2.1).1) (by omega) (by omega);simp only[↓vS,vT,simprocAttr,e4,qdX,hwr];simp[vZ,vP,Tr.get_set,jC]
   ·have hw:qz a=(⟨[],0,false⟩,(zh (x5 a).2.1).2):=by unfold qz;rw[if_neg e1,if_neg (by rw[e2];decide),if_neg e3,if_neg e4]
    rw[hw];simp only[↓vS,vT,simprocAttr,e4];simp[vZ,vP,Tr.get_set,jC]
end Go.Kc
end
section
/- Lists and notes are the same as themselves. Condition: the functions' texts are these. -/
namespace Go.Kc
variable {P:Program} {f:Nat}
def wz:IFn:=⟨[.tmp 4],.seq (.r [.m 4 .F]) (.seq (.seq (.r [.n 6 0,.e 7 6,.n 8 1,.e 9 8,.b 10 .neq 7 9]) (.cond (.t 10) (.seq (.r [.m 4 .F]) (.ret)) (.skip))) (.seq (.seq (.r [.m 5 (.k 0)]) (.blk 0 (.loop (.seq (.seq (.r [.n 11 5,.n 12 0,.e 13 12,.s 14 11 13]) (.cond (.t 14) (.skip) (.exit 0))) (.seq (.blk 1 (.seq (.reg true [.n 17 0,.n 18 5,.i 19 4 17 18,.v 20 4 19,.n 21 1,.n 22 5,.i 23 4 21 22,.v 24 4 23,.q 25 (.eqA true [.s,.i,.i,.s] (.t 20) (.t 24))]) (.cond (.t 25) (.seq (.r [.m 4 .F]) (.ret)) (.skip)))) (.r [.n 15 5,.a 16 15 1,.n 5 16])))))) (.seq (.r [.m 4 .T]) (.ret))))⟩
theorem qj8(hc:qj P f wz=true)(l:List GNote)(hl:l.length<=100000):qc P f [.fz l.length (rN l),.fz l.length (rN l)] (.b true):=by
 refine qc.mk hc (by simp[qt,clo,qb]) ?_;simp only[wz,vI,simprocAttr];simp only[↓vS,vT,simprocAttr];refine SL.loop (α:=Nat) (fun j=>[(0,.fz l.length (rN l)),(1,.fz l.length (rN l)),(4,.b false),(5,.i .i64 j)]) (fun _=>[]) (fun _=>True) (fun j=>l.length-j) 0 [] ?_ ?_ ?_ rfl ?_ ?_
 ·simp[vw,qb]
 ·trivial
 ·simp
 ·trivial
 rintro j-G ih;simp only[vI,simprocAttr]
 by_cases hlt:j<l.length
 ·have hx:l[j]?=some l[j]:=List.getElem?_eq_getElem hlt;have he:=qmM hx;have hb:=qjY hlt;have hw:IntKind.wrap .i64 ((j:Int)+1)=((j+1:Nat):Int):=by rw[qB (by omega) (by omega)];omega
  simp only[↓vS,vT,simprocAttr,hlt];refine zQ ?_;simp (decide:=true) only [↓vS,vT,simprocAttr,hlt,hb,he,Xf,hw,beq_self_eq_true];refine ih (j+1) trivial (by omega) _ _ (Wk.mk _ _ [] ?_ ?_ ?_ rfl)
  ·simp[vw,qb]
  ·trivial
  ·simp
 ·simp only[↓vS,vT,simprocAttr,hlt,vZ]
end Go.Kc
end
section
/- What a word of a list stands for: fold.members, of what groups.Expand answers. Condition: the functions' texts are these. -/
namespace Go.Kc
variable {P:Program} {f:Nat}
def qh0(E:List UInt8->List (List UInt8)×Int)(P:Program)(f:Nat):Prop:=∀s:List UInt8,qc P f [.s s] (.tup [.fz (E s).1.length (rS (E s).1),.i .i64 (E s).2])
def xy(E:List UInt8->List (List UInt8)×Int)(s:List UInt8):List (List UInt8)×Int:=if [64].isPrefixOf s=true then E s else if xM s=true then ([s],0) else ([],90)
def yv(a:Nat):IFn:=⟨[.tmp 4],.seq (.r [.m 4 .F]) (.seq (.r [.n 5 0,.n 6 1,.l 7 a [.t 5,.t 6],.n 4 7]) (.ret))⟩
theorem qfv{g:Nat}(hc:qj P f (yv g)=true)(hg:∀s p:List UInt8,qc P g [.s s,.s p] (.b (p.isPrefixOf s)))(s p:List UInt8):qc P f [.s s,.s p] (.b (p.isPrefixOf s)):=by
 refine qc.mk hc rfl ?_;simp only[yv,vI,simprocAttr];simp only[↓vS,vT,simprocAttr];refine (hg s p).sc ?_;simp only[↓vS,vT,simprocAttr,vZ]
def Xk(a b c:Nat):IFn:=⟨[.tmp 2,.tmp 3],.seq (.r [.m 2 .N,.m 3 (.k 0)]) (.seq (.blk 0 (.seq (.r [.n 5 0,.l 6 a [.t 5,(.c (.s [64]))],.n 4 6]) (.cond (.t 4) (.seq (.r [.n 7 0,.l 8 b [.t 7],.x 9 8 0,.x 10 8 1,.n 2 9,.n 3 10]) (.ret)) (.seq (.r [.n 12 0,.l 13 c [.t 12],.n 11 13]) (.cond (.t 11) (.seq (.r [.n 14 0,.q 15 (.buildS 1 [.s []] [(0,1,(.t 14))]),.n 2 15,.m 3 (.k 0)]) (.ret)) (.skip)))))) (.seq (.r [.m 2 .N,.m 3 (.k 90)]) (.ret)))⟩
theorem qmg{g1 g2 g3:Nat}(hc:qj P f (Xk g1 g2 g3)=true)(E:List UInt8->List (List UInt8)×Int)(h1:∀s p:List UInt8,qc P g1 [.s s,.s p] (.b (p.isPrefixOf s)))(h2:qh0 E P g2)(h3:∀s,qc P g3 [.s s] (.b (xM s))):qh0 (xy E) P f:=by
 intro s;refine qc.mk hc rfl ?_;simp only[Xk,vI,simprocAttr];simp only[↓vS,vT,simprocAttr];refine (h1 s [64]).sc ?_;cases e1:[64].isPrefixOf s with
 | true =>
  have hw:xy E s=E s:=if_pos e1;rw[hw];simp only[↓vS,vT,simprocAttr];refine (h2 s).sc ?_;simp only[↓vS,vT,simprocAttr];simp[vZ]
 | false =>
  simp only[↓vS,vT,simprocAttr];refine (h3 s).sc ?_;cases e2:xM s with
  | true =>
   have hw:xy E s=([s],0):=by unfold xy;rw[if_neg (by rw[e1];decide),if_pos e2]
   rw[hw];simp only[↓vS,vT,simprocAttr];simp[vZ,vP,Tr.get_set,rS];exact Frz.cut 1 rfl (Nat.le_refl _) (by simp[vP,Tr.get_set,vZ])
  | false =>
   have hw:xy E s=([],90):=by unfold xy;rw[if_neg (by rw[e1];decide),if_neg (by rw[e2];decide)]
   rw[hw];simp only[↓vS,vT,simprocAttr];simp[vZ,rS]
end Go.Kc
end
section
/- A note of a word: what fold.Step's closure does. Condition: the function's text is this. -/
namespace Go.Kc
variable {P:Program} {f:Nat}
def XX:IFn:=⟨[],.reg true [.d 4 1,.n 5 0,.d 6 2,.d 7 2,.q 8 (.len true (.t 7)),.q 9 (.min (.t 8) (.k 60)),.q 10 (.slcStr (.t 6) none (some (.t 9))),.q 11 (.build [.s [],.i .i64 0,.i .i64 0,.s []] [(2,1,(.t 5)),(3,1,(.t 10))]),.q 12 (.buildS 1 [.s [],.i .i64 0,.i .i64 0,.s []] [(0,4,(.t 11))]),.q 13 (.app 4 48 true (.t 4) (.t 12)),.u (.store 1 (.t 1) (.t 13))]⟩
def xC(e:Int)(w:List UInt8):GNote:=⟨[],0,e,w.take 60⟩
theorem qrs(hc:qj P f XX=true)(ns:List GNote)(e:Int)(w:List UInt8)(hr:(ns.length+1)*48<=qf) :
  Upd P f [.i .i64 e,.ptr 0 0,.ptr 1 0] [.cells 0 true false [.own 2 ns.length],.cells 0 true false [.s w],.cells 4 true true (rN ns)] (.tup []) [.cells 0 true false [.own 3 (ns++[xC e w]).length],.cells 0 true false [.s w],.dead,.cells 4 true true (rN (ns++[xC e w]))]:=by
 refine Upd.mk hc (by simp[z8,bnd]) (by simp) ?_;simp only[XX,vI,simprocAttr];simp only[↓vS,vT,simprocAttr];refine zQ ?_;have hr1:ns.length+1<=qf:=by omega
 have fin:∀tt,tt=w.take 60->rN ns++[AV.s [],.i .i64 0,.i .i64 e,.s tt]=rN (ns++[xC e w]):=by
  intro tt ht;subst ht;rw[← VF];rfl
 by_cases h60:(60:Int)<w.length
 ·have h1:60<=w.length:=by omega
  simp only[↓vS,vT,simprocAttr,h60,h1,hr1,hr,vD,fin _ rfl];intro _;refine⟨[0,1,2,4],?_⟩;simp[vw,qa,qb]
  try decide
 ·have h1:w.take 60=w:=List.take_of_length_le (by omega);simp only[↓vS,vT,simprocAttr,h60,hr1,hr,vD,List.take_length,fin _ h1.symm];intro _;refine⟨[0,1,2,4],?_⟩;simp[vw,qa,qb]
  try decide
end Go.Kc
end
