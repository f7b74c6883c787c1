/- Part 7 of the abstract machine and of the functions' walks. Conditions: with each theorem. -/
import Derived.Test.YtgaodkfneooonaaGreatK6
import Derived.Lib.Join
import Derived.Below
import Derived.Lib.ItoaLen
set_option maxHeartbeats 4000000
set_option linter.unusedSectionVars false
set_option linter.unusedSimpArgs false
set_option linter.unusedVariables false
set_option linter.unnecessarySimpa false
section
namespace Go.Kc
variable {P:Program} {f:Nat}
def Rng(l:List GCall):Prop:=∀c ∈ l,0<=c.act∧c.act<=4294967295


def qy6(E:List UInt8->List (List UInt8)×Int)(P:Program)(f:Nat):Prop:=∀(l:GList) (v:List UInt8) (fl:Bool),l.calls.length<=100000->v.length<=1000->0<=l.mode->
 Own P f [.agg (qoD l),.s v,.b fl] (.tup [.agg [.i .u8 (qgq E l v fl).1.mode,.own 0 (qgq E l v fl).1.calls.length],.own 1 (qgq E l v fl).2.length]) [.cells 2 true true (rC (qgq E l v fl).1.calls),.cells 4 true true (rN (qgq E l v fl).2)]
def qoE(E:List UInt8->List (List UInt8)×Int)(P:Program)(f:Nat):Prop:=∀(l:GList) (v:List UInt8) (fl:Bool),l.calls.length<=100000->v.length<=1000->0<=l.mode->
 qee P f [.agg (qoD l),.s v,.b fl] (.tup [.agg [.i .u8 (qgq E l v fl).1.mode,.own 0 (qgq E l v fl).1.calls.length],.own 1 (qgq E l v fl).2.length]) [.cells 2 true true (rC (qgq E l v fl).1.calls),.cells 4 true true (rN (qgq E l v fl).2)]
theorem qoE.own{E:List UInt8->List (List UInt8)×Int}(h:qoE E P f):qy6 E P f:=fun l v fl h1 h2 h3=>(h l v fl h1 h2 h3).own rfl





theorem qog{k:IntKind}{L:List Int}{j:Nat}(h:j<L.length)(x:Int):(rI k L).take j++(AV.i k x::(rI k L).drop (j+1))=rI k (L.set j x):=by
 unfold rI;rw[List.set_eq_take_append_cons_drop,if_pos h,List.map_append,List.map_cons,List.map_take,List.map_drop]
def inA(l:List Int)(x:Int):Bool:=decide (l=[])||decide (x ∈ l)
def qCK(a:Int):List UInt8:=if a<0∨6<=a then [] else (xC.getD a.toNat ([],0)).1
def qol(is:Int->Bool):Option Int->List Int->Bool
 | _,[]=>true
 | o,x::l=>is x&&(o.elim true fun b=>decide (b<x))&&qol is (some x) l
def qca(n:Int):List (List UInt8×Int)->List UInt8
 | []=>[]
 | p::l=>if p.2=n then p.1 else qca n l
def qvO(n:Int):Bool:=decide (qca n qbu≠[])
noncomputable def qo3(p:Pol):Bool:=qhl p.filter&&qhl p.log&&decide (qeS .u64 p.spaces 2114060416=0)
def qDz(p:Pol):Bool:=decide (p.fmode<=2)&&(decide (p.fmode≠0)||decide (p.fams=[]))
def qx1(n:Int):Bool:=decide (n=2147483648)||(decide (327680<=n)&&decide (n<=331775))
noncomputable def qqE(p:Pol):Bool:=!(p.log.calls.any fun c=>decide (c.act≠0))&&qx1 p.deny&&qDz p&&qol (fun a=>decide (0<=a)&&decide (a<6)) none p.arches&&qol qvO none p.fams&&qo3 p
structure PolR (p:Pol):Prop where
 fams:∀x ∈ p.fams,0<=x∧x<=4294967295
 deny:0<=p.deny∧p.deny<=4294967295
 spaces:0<=p.spaces∧p.spaces<18446744073709551616
 filter:Rng p.filter.calls
 log:Rng p.log.calls
section
variable {g1 g2 g3 g4:Nat}
end
structure GTest where
 arg:Int
 mask:Int
 val:Int
 act:Int
def xN(t:GTest):List AV:=[.i .i64 t.arg,.i .u64 t.mask,.i .u64 t.val,.i .u32 t.act]
theorem qcB(t:GTest):(xN t).length=4:=rfl
def rT(l:List GTest):List AV:=l.flatMap xN
structure GRule where
 nr:Int
 tests:List GTest
 act:Int
def qw(r:GRule):List AV:=[.i .u32 r.nr,.fz r.tests.length (rT r.tests),.i .u32 r.act]
theorem qax(r:GRule):(qw r).length=3:=rfl
def rR(l:List GRule):List AV:=l.flatMap qw
structure GFil where
 arch:Int
 rules:List GRule
 dflt:Int
def qD(x:GFil):List AV:=[.i .i64 x.arch,.fz x.rules.length (rR x.rules),.i .u32 x.dflt]
section
variable {l m:List GTest} {j:Nat}
theorem qjS:(rT l).length=l.length*4:=zl qcB l
theorem zR:qu (rT l)=true:=qay fun _=>rfl
theorem qDT:qA (rT l)=true:=qjj fun _=>rfl
theorem qpp{c:GTest}(h:l[j]?=some c):((rT l).drop (j*4)).take 4=xN c:=zB qcB h
theorem quh{c:GTest}(h:l[j]?=some c){i:Nat}(hi:i<4):(rT l)[j*4+i]?=(xN c)[i]?:=qcT qcB h hi
theorem qug(h:j<l.length):j*4+4<=(rT l).length:=by rw[qjS];omega
end
section
variable {l m:List GRule} {j:Nat}
theorem qlU:(rR l).length=l.length*3:=zl qax l
theorem xa:qu (rR l)=true:=qay fun _=>rfl
theorem qi4{c:GRule}(h:l[j]?=some c):((rR l).drop (j*3)).take 3=qw c:=zB qax h
theorem qA4{c:GRule}(h:l[j]?=some c){i:Nat}(hi:i<3):(rR l)[j*3+i]?=(qw c)[i]?:=qcT qax h hi
theorem qA3:rR l++rR m=rR (l++m):=by simp[rR]
theorem qno(h:j<l.length):j*3+3<=(rR l).length:=by rw[qlU];omega
end
def qwy(x:List UInt8×List Int)(a:Int):Option Int :=
 if a<0∨6<=a∨x.2.getD a.toNat 0<0 then none else some (if a=2 then orI .u32 (IntKind.wrap .u32 (x.2.getD a.toNat 0)) 1073741824 else IntKind.wrap .u32 (x.2.getD a.toNat 0))
def qkt(a:Int)(s:List UInt8):Option Int:=(qaD.find? (fun x=>decide (x.1=s))).bind fun x=>qwy x a
def qfn(mode:Int)(n:Nat)(al dn:Bool):Bool:=if mode=1 then al||decide (0<n) else if mode=2 then dn||decide (0<n) else false
def qbw(arg mask act:Int)(l:List Int):List GTest:=l.map fun v=>⟨arg,mask,v,act⟩
def qcr(arg act:Int)(l:List Int):List GTest:=l.map fun v=>⟨arg,v,v,act⟩
def qoF(P:Program)(f:Nat):Prop:=∀(arg mask act:Int) (l:List Int),l.length<=100000->Own P f [.i .i64 arg,.i .u64 mask,.i .u32 act,.fz l.length (rI .u64 l)] (.own 0 l.length) [.cells 4 true true (rT (qbw arg mask act l))]
def qrL(P:Program)(f:Nat):Prop:=∀(arg act:Int) (l:List Int),l.length<=100000->Own P f [.i .i64 arg,.i .u32 act,.fz l.length (rI .u64 l)] (.own 0 l.length) [.cells 4 true true (rT (qcr arg act l))]
def qgx(s:Int):List Int:=(qj7.map (·.2)).filter fun n=>decide (x9 .u64 s n≠0)
def qZ:IFn:=⟨[.tmp 2],.seq (.r [.m 2 .N]) (.seq (.seq (.r [.n 3 0,.q 4 (.eqN false .slice (.t 3))]) (.cond (.t 4) (.seq (.r [.m 2 .N]) (.ret)) (.skip))) (.seq (.r [.q 5 (.buildS 0 [.i .i64 0,.i .u64 0,.i .u64 0,.i .u32 0] []),.n 6 0,.q 7 (.app 4 32 true (.t 5) (.t 6)),.n 2 7]) (.ret)))⟩
theorem qzd(hc:qc P f qZ=true):qbH P f 4 32:=by
 intro n rows hlen hcl hok hr1 hr2;refine Own.of_SC (by simp[qu,clo]) ?_;cases n with
 | zero =>
  obtain rfl:rows=[]:=by cases rows with|nil=>rfl|cons=>simp at hlen
  refine SC.nil0 (SC.mk hc (qj ?_)) (SC.mk hc (qj ?_))
  ·simp only[qZ,vI,simprocAttr];simp only[↓vS,vT,simprocAttr];intro _;refine⟨[1],?_⟩;simp[vw]
  ·simp only[qZ,vI,simprocAttr];simp only[↓vS,vT,simprocAttr,if_true];intro _;refine⟨[1],?_⟩;simp[vw]
 | succ n =>
  refine SC.mk hc (qj ?_);simp only[qZ,vI,simprocAttr];have h1:1<=n+1:=by omega
  have h2:(n+1)*4<=rows.length:=by omega
  have h3:rows.take ((n+1)*4)=rows:=List.take_of_length_le (by omega);have h4:¬(n+1<=0):=by omega
  simp only[↓vS,vT,simprocAttr,h1,h2,h3,h4,hr1,hr2,hok,Nat.mul_one,Nat.zero_mul];intro _;refine⟨[1],?_⟩;simp[vw,qr,hcl]
def qbc(a act:Int)(ts:List GTest)(ns:List (List UInt8)):List GRule:=ns.filterMap fun s=>(qkt a s).map fun n=>⟨n,ts,act⟩
def qEL(a own:Int)(l:List GCall):List GRule:=l.flatMap fun c=>qbc a (if c.act=0 then own else c.act) [] [c.name]
def qzA(p:Pol)(a:Int):Bool×List GRule×Int:=(qfn p.filter.mode p.filter.calls.length true false,qEL a (if p.filter.mode=1 then 2147418112 else p.deny) p.filter.calls,if p.filter.mode=1 then p.deny else 2147418112)
def qEW(a own:Int)(l:List GCall):List GRule:=l.flatMap fun c=>qbc a own [] [c.name]
def qz2(p:Pol)(a:Int):Bool×List GRule×Int:=(qfn p.log.mode p.log.calls.length false true,qEW a (if p.log.mode=2 then 2147418112 else 2147221504) p.log.calls,if p.log.mode=2 then 2147221504 else 2147418112)
def qy7(P:Program)(f:Nat):Prop:=∀(arg mask act:Int) (l:List Int),l.length<=100000->qd P f [.i .i64 arg,.i .u64 mask,.i .u32 act,.fz l.length (rI .u64 l)] (.fz (qbw arg mask act l).length (rT (qbw arg mask act l)))
def qCP(P:Program)(f:Nat):Prop:=∀(arg act:Int) (l:List Int),l.length<=100000->qd P f [.i .i64 arg,.i .u32 act,.fz l.length (rI .u64 l)] (.fz (qcr arg act l).length (rT (qcr arg act l)))
theorem qoF.pure(h:qoF P f):qy7 P f:=by
 intro arg mask act l hl;rw[show (qbw arg mask act l).length=l.length by simp[qbw]]
 refine (h arg mask act l hl).pure (by simp[qu,clo]) ?_;refine .own 0 _ 4 true _ _ ?_ (fun h0=>?_) (Frzs.self zR)
 ·simp[xV,Hp.push,shb,H0,Tr.get_set,zZ zR]
 ·rw[List.eq_nil_of_length_eq_zero h0];rfl
theorem qrL.pure(h:qrL P f):qCP P f:=by
 intro arg act l hl;rw[show (qcr arg act l).length=l.length by simp[qcr]]
 refine (h arg act l hl).pure (by simp[qu,clo]) ?_;refine .own 0 _ 4 true _ _ ?_ (fun h0=>?_) (Frzs.self zR)
 ·simp[xV,Hp.push,shb,H0,Tr.get_set,zZ zR]
 ·rw[List.eq_nil_of_length_eq_zero h0];rfl
def qi6:List UInt8:=[115,99,104,101,100,95,115,101,116,115,99,104,101,100,117,108,101,114]
def rtM(p:Pol)(a:Int):Bool×List GRule×Int:=(p.rt,qbc a 327681 (qbw 1 4294967295 2147418112 [0,3,5]) [qi6],2147418112)
def qhw:List UInt8:=[115,111,99,107,101,116]
def qbT:List UInt8:=[117,110,115,104,97,114,101]
def qeB:List UInt8:=[99,108,111,110,101]
def qbY:List UInt8:=[115,101,116,110,115]
def qbp:List UInt8:=[99,108,111,110,101,51]
def qh7:List UInt8:=[109,109,97,112]
def qbS:List UInt8:=[109,112,114,111,116,101,99,116]
def xu:List UInt8:=[112,107,101,121,95,109,112,114,111,116,101,99,116]
def qfU:List UInt8:=[115,104,109,97,116]
def qbX:List UInt8:=[112,101,114,115,111,110,97,108,105,116,121]
def peM(p:Pol)(a:Int):Bool×List GRule×Int:=(p.pe,qbc a 327681 (qbw 0 4294967295 2147418112 [0,4294967295]) [qbX],2147418112)
def weM(p:Pol)(a:Int):Bool×List GRule×Int:=(p.we,qbc a 2147418112 (qcr 2 327681 [6]) [qh7]++qbc a 2147418112 (qcr 2 327681 [4]) [qbS,xu]++qbc a 2147418112 (qcr 2 327681 [32768]) [qfU],2147418112)
def nsM(p:Pol)(a:Int):Bool×List GRule×Int:=(decide (p.spaces≠0),qbc a 2147418112 (qcr 0 327681 (qgx p.spaces)) [qbT,qeB]++qbc a 2147418112 (qcr 1 327681 (qgx p.spaces)++qbw 1 4294967295 327681 [0]) [qbY]++qbc a 327718 [] [qbp],2147418112)
def fmM(p:Pol)(a:Int):Bool×List GRule×Int :=
 (qfn p.fmode p.fams.length true false,qbc a (if p.fmode=2 then 2147418112 else 327777) (qbw 0 4294967295 (if p.fmode=2 then 327777 else 2147418112) p.fams) [qhw],2147418112)
def qiA(rs:List GRule):List GRule:=rs.mergeSort fun x y=>decide (x.nr<=y.nr)
def qo5(d:Int):Option (Pol->Int->Bool×List GRule×Int) :=
 if d=1 then some qzA else if d=2 then some qz2 else if d=3 then some fmM else if d=4 then some nsM else if d=5 then some weM else if d=6 then some peM else if d=7 then some rtM else none
noncomputable def qjI(p:Pol)(d a:Int):Bool:=decide (0<=d)&&decide (d<8)&&(decide (0<=a)&&decide (a<6))&&qqE p&&inA p.arches a
noncomputable def qtj(p:Pol)(d a:Int):Option GFil :=
 if qjI p d a=true then (qo5 d).bind fun F=>if (F p a).1=true then some ⟨a,qiA (F p a).2.1,(F p a).2.2⟩ else none else none
def qCJ:Option GFil->AV
 | some x=>.tup [.agg (qD x),.b true]
 | none=>.tup [.agg [.i .i64 0,.fz 0 [],.i .u32 0],.b false]
section
variable {l m:List GFil} {j:Nat}
end
def qEx(P:Program)(f:Nat):Prop:=∀p,PolOk p->PolR p->∀d a:Int,qd P f [.agg (qvn p),.i .i64 d,.i .i64 a] (qCJ (qtj p d a))

def quV(p:Pol)(d:Int):Bool :=
 if d=1 then qfn p.filter.mode p.filter.calls.length true false else if d=2 then qfn p.log.mode p.log.calls.length false true else if d=3 then qfn p.fmode p.fams.length true false
 else if d=4 then decide (p.spaces≠0) else if d=5 then p.we else if d=6 then p.pe else if d=7 then p.rt else false
def qvN(l:List GCall)(s:List UInt8):Int:=match qe5 l s with|some c=>c.act|none=>0
theorem qrO.act(h:qrO P f)(l:GList)(s:List UInt8)(hl:l.calls.length<=100000):qd P f [.agg (qoD l),.s s] (.tup [.i .u32 (qvN l.calls s),.b (qe5 l.calls s).isSome]):=h l s hl
def qyI(p:Pol)(s:List UInt8):Int:=if qvN p.filter.calls s=0 then (if p.filter.mode=1 then 2147418112 else p.deny) else qvN p.filter.calls s
def qic(s:List UInt8):Int:=if s=qh7 then 6 else if s=qbS∨s=xu then 4 else if s=qfU then 32768 else 0
def qlW(p:Pol)(d:Int)(s:List UInt8):Bool×List GTest×Int :=
 if d=1 then ((qe5 p.filter.calls s).isSome,[],qyI p s)
 else if d=2 then ((qe5 p.log.calls s).isSome,[],if p.log.mode=1 then 2147221504 else 2147418112)
 else if d=3 then (decide (s=qhw),qbw 0 4294967295 (if p.fmode=2 then 327777 else 2147418112) p.fams,if p.fmode=2 then 2147418112 else 327777)
 else if d=4 then (if s=qbp then (true,[],327718) else (decide (s=qbY)||decide (s=qbT)||decide (s=qeB),qcr (if s=qbY then 1 else 0) 327681 (qgx p.spaces)++(if s=qbY then [⟨1,4294967295,0,327681⟩] else []),2147418112))
 else if d=5 then (decide (0<qic s),[⟨2,qic s,qic s,327681⟩],2147418112)
 else if d=6 then (decide (s=qbX),qbw 0 4294967295 2147418112 [0,4294967295],327681)
 else (decide (s=qi6),qbw 1 4294967295 2147418112 [0,3,5],327681)
section
variable {g1 g2:Nat}
end
section
variable {g1 g2:Nat}
end
def qqk(c:GCall):List GCall->List GCall
 | []=>[c]
 | x::l=>if c.act<=x.act then c::x::l else x::qqk c l
def qlk(a:Int):List GCall:=(qaD.filterMap fun x=>(qwy x a).map fun n=>(⟨x.1,n⟩:GCall)).foldr qqk []
def dfR(p:Pol)(d:Int):Int:=if d=1∧p.filter.mode=1 then p.deny else if d=2∧p.log.mode=2 then 2147221504 else 2147418112
def ruR(p:Pol)(d:Int)(l:List GCall):List GRule:=l.filterMap fun c=>if (qlW p d c.name).1=true then some ⟨c.act,(qlW p d c.name).2.1,(qlW p d c.name).2.2⟩ else none
noncomputable def qjU(p:Pol)(d a:Int):Option GFil:=if (decide (0<=a)&&decide (a<6)&&qqE p&&inA p.arches a&&quV p d)=true then some ⟨a,ruR p d (qlk a),dfR p d⟩ else none
section
variable {g1 g2 g3 g4 g5:Nat}
def qxS(P:Program)(f:Nat):Prop:=∀p,PolOk p->PolR p->∀d a:Int,qd P f [.agg (qvn p),.i .i64 d,.i .i64 a] (qCJ (qjU p d a))
end

end Go.Kc
end
section
namespace Go.Kc
theorem qk9{α:Type}(k:α->Int):∀{l m:List α},l.Pairwise (fun x y=>k x<k y)->m.Pairwise (fun x y=>k x<k y)->(∀x,x ∈ l↔x ∈ m)->l=m
 | [],[],_,_,_=>rfl
 | [],y::m,_,_,h=>by have:=(h y).2 (by simp);simp at this
 | x::l,[],_,_,h=>by have:=(h x).1 (by simp);simp at this
 | x::l,y::m,hl,hm,h=>by
  obtain⟨h1,h2⟩:=List.pairwise_cons.1 hl;obtain⟨h3,h4⟩:=List.pairwise_cons.1 hm
  have e:x=y:=by
   rcases List.mem_cons.1 ((h x).1 (by simp)) with e|e
   ·exact e
   ·rcases List.mem_cons.1 ((h y).2 (by simp)) with e'|e'
    ·exact e'.symm
    ·have:=h3 x e;have:=h1 y e';omega
  subst e
  congr 1
  refine qk9 k h2 h4 fun z=>?_
  constructor
  ·intro hz;rcases List.mem_cons.1 ((h z).1 (List.mem_cons_of_mem _ hz)) with e|e
   ·subst e;have:=h1 z hz;omega
   ·exact e
  ·intro hz;rcases List.mem_cons.1 ((h z).2 (List.mem_cons_of_mem _ hz)) with e|e
   ·subst e;have:=h3 z hz;omega
   ·exact e
theorem ql2{rs:List GRule}(hn:(rs.map GRule.nr).Nodup):(qiA rs).Pairwise (fun x y=>x.nr<y.nr):=by
 have h1:(qiA rs).Pairwise (fun x y=>decide (x.nr<=y.nr)=true):=List.pairwise_mergeSort (fun a b c h1 h2=>by simp at *;omega) (fun a b=>by simp;omega) rs
 have h2:((qiA rs).map GRule.nr).Nodup:=((List.mergeSort_perm rs _).map GRule.nr).nodup_iff.2 hn;have h3:(qiA rs).Pairwise (fun x y=>x.nr≠y.nr):=List.pairwise_map.1 h2
 refine (h1.and h3).imp ?_;intro a b ⟨h,h'⟩;simp at h;omega
theorem qq9{rs:List GRule}{r:GRule}:r ∈ qiA rs↔r ∈ rs:=(List.mergeSort_perm rs _).mem_iff
theorem qm0{c x:GCall}:∀{l:List GCall},x ∈ qqk c l↔x=c∨x ∈ l
 | []=>by simp[qqk]
 | y::l=>by
  unfold qqk;split
  ·simp
  ·rw[List.mem_cons,qm0,List.mem_cons];constructor
   ·rintro (h|h|h)
    ·exact .inr (.inl h)
    ·exact .inl h
    ·exact .inr (.inr h)
   ·rintro (h|h|h)
    ·exact .inr (.inl h)
    ·exact .inl h
    ·exact .inr (.inr h)
theorem qpK{a:Int}{c:GCall}:c ∈ qlk a↔∃x ∈ qaD,qwy x a=some c.act∧x.1=c.name:=by
 unfold qlk
 have h1:∀l:List GCall,c ∈ l.foldr qqk []↔c ∈ l:=by
  intro l;induction l with
  | nil=>simp
  | cons y l ih=>rw[List.foldr_cons,qm0,ih,List.mem_cons]
 rw[h1,List.mem_filterMap];constructor
 ·rintro⟨x,hx,h⟩;cases hn:qwy x a with
  | none=>rw[hn] at h;cases h
  | some n=>rw[hn] at h;cases h;exact⟨x,hx,hn,rfl⟩
 ·rintro⟨x,hx,h,h2⟩;refine⟨x,hx,?_⟩;rw[h];cases c;simp_all
theorem qrc:(qaD.map (·.1)).Nodup:=by decide +kernel
theorem qkH{α:Type}(k:α->List UInt8){l:List α}(hn:(l.map k).Nodup){x:α}(hx:x ∈ l):l.find? (fun y=>decide (k y=k x))=some x:=by
 induction l with
 | nil=>simp at hx
 | cons y l ih =>
  rw[List.map_cons,List.nodup_cons] at hn;rw[List.find?_cons]
  by_cases h:k y=k x
  ·have e:y=x:=by
    rcases List.mem_cons.1 hx with e|e
    ·exact e.symm
    ·exact absurd (by rw[h];exact List.mem_map_of_mem (f:=k) e) hn.1
   subst e;simp
  ·rcases List.mem_cons.1 hx with e|e
   ·subst e;exact absurd rfl h
   ·simp[h];exact ih hn.2 e
theorem qgS{a:Int}{c:GCall}:c ∈ qlk a↔qkt a c.name=some c.act:=by
 rw[qpK];unfold qkt;constructor
 ·rintro⟨x,hx,h,h2⟩;rw[← h2,qkH (·.1) qrc hx];exact h
 ·intro h;cases hf:qaD.find? (fun x=>decide (x.1=c.name)) with
  | none=>rw[hf] at h;cases h
  | some x =>
   rw[hf] at h;exact⟨x,List.mem_of_find?_eq_some hf,h,by simpa using List.find?_some hf⟩
theorem qid{a:Int}(h0:0<=a)(h6:a<6):(qlk a).Pairwise (fun x y=>x.act<y.act):=by
 have:a=0∨a=1∨a=2∨a=3∨a=4∨a=5:=by omega
 rcases this with rfl|rfl|rfl|rfl|rfl|rfl<;>decide +kernel
theorem qwz{a:Int}(h0:0<=a)(h6:a<6){s t:List UInt8}{n:Int}(h1:qkt a s=some n)(h2:qkt a t=some n):s=t:=by
 have hs:(⟨s,n⟩:GCall) ∈ qlk a:=qgS.2 h1;have ht:(⟨t,n⟩:GCall) ∈ qlk a:=qgS.2 h2;have hp:=qid h0 h6
 by_cases e:s=t
 ·exact e
 ·exfalso
  have:∀{l:List GCall},l.Pairwise (fun x y=>x.act<y.act)->(⟨s,n⟩:GCall) ∈ l->(⟨t,n⟩:GCall) ∈ l->False:=by
   intro l;induction l with
   | nil=>intro _ h;simp at h
   | cons x l ih =>
    intro hl h1 h2;obtain⟨k1,k2⟩:=List.pairwise_cons.1 hl;rcases List.mem_cons.1 h1 with e1|e1<;>rcases List.mem_cons.1 h2 with e2|e2
    ·rw[← e2] at e1;simp at e1;exact e e1
    ·subst e1;have:=k1 _ e2;simp at this
    ·subst e2;have:=k1 _ e1;simp at this
    ·exact ih k2 e1 e2
  exact this hp hs ht
def qcu(a:Int)(g:List UInt8->List GTest×Int)(ns:List (List UInt8)):List GRule:=ns.filterMap fun s=>(qkt a s).map fun n=>⟨n,(g s).1,(g s).2⟩
theorem qmP{a:Int}{g:List UInt8->List GTest×Int}{ns:List (List UInt8)}{r:GRule}:r ∈ qcu a g ns↔∃s ∈ ns,qkt a s=some r.nr∧r.tests=(g s).1∧r.act=(g s).2:=by
 unfold qcu;rw[List.mem_filterMap];constructor
 ·rintro⟨s,hs,h⟩;cases hn:qkt a s with
  | none=>rw[hn] at h;cases h
  | some n=>rw[hn] at h;cases h;exact⟨s,hs,hn,rfl,rfl⟩
 ·rintro⟨s,hs,h,h2,h3⟩;refine⟨s,hs,?_⟩;rw[h];cases r;simp_all
theorem qn2{a:Int}(h0:0<=a)(h6:a<6){g:List UInt8->List GTest×Int}{ns:List (List UInt8)}(hn:ns.Nodup):((qcu a g ns).map GRule.nr).Nodup:=by
 induction ns with
 | nil=>exact List.nodup_nil
 | cons s ns ih =>
  obtain⟨h1,h2⟩:=List.nodup_cons.1 hn;unfold qcu;rw[List.filterMap_cons];cases hs:qkt a s with
  | none=>exact ih h2
  | some n =>
   simp only[Option.map_some,List.map_cons];refine List.nodup_cons.2 ⟨?_,ih h2⟩;intro hm;obtain⟨r,hr,e⟩:=List.mem_map.1 hm;obtain⟨t,ht,k1,_,_⟩:=qmP.1 hr;rw[e] at k1;exact h1 (qwz h0 h6 hs k1 ▸ ht)
theorem qe8{a:Int}{g:List UInt8->List GTest×Int}{ns ms:List (List UInt8)}:qcu a g (ns++ms)=qcu a g ns++qcu a g ms:=List.filterMap_append
theorem xT{a act:Int}{ts:List GTest}{g:List UInt8->List GTest×Int}:∀{ns:List (List UInt8)},(∀s ∈ ns,g s=(ts,act))->qbc a act ts ns=qcu a g ns
 | [],_=>rfl
 | s::ns,h=>by
  have e:=xT (a:=a) (ns:=ns) fun t ht=>h t (List.mem_cons_of_mem _ ht)
  unfold qbc qcu at *;rw[List.filterMap_cons,List.filterMap_cons,e,h s (by simp)]
theorem qen{p:Pol}{d a:Int}(h0:0<=a)(h6:a<6){ns:List (List UInt8)}{g:List UInt8->List GTest×Int}(hn:ns.Nodup)(h1:∀s n,qkt a s=some n->((qlW p d s).1=true↔s ∈ ns))(h2:∀s ∈ ns,g s=(qlW p d s).2):qiA (qcu a g ns)=ruR p d (qlk a):=by
 refine qk9 GRule.nr (ql2 (qn2 h0 h6 hn)) ?_ fun r=>?_
 ·unfold ruR;refine List.Pairwise.filterMap _ ?_ (qid h0 h6);intro c c' hlt x hx y hy;split at hx
  ·split at hy
   ·cases hx;cases hy;exact hlt
   ·cases hy
  ·cases hx
 ·rw[qq9,qmP];unfold ruR;rw[List.mem_filterMap];constructor
  ·rintro⟨s,hs,k1,k2,k3⟩;have k:=(h1 s _ k1).2 hs;refine⟨⟨s,r.nr⟩,qgS.2 k1,?_⟩;rw[h2 s hs] at k2 k3;rw[if_pos k];cases r;simp_all
  ·rintro⟨c,hc,h⟩;have k1:=qgS.1 hc;split at h
   ·rename_i k;cases h;have hs:=(h1 c.name _ k1).1 k;exact⟨c.name,hs,k1,by rw[h2 _ hs],by rw[h2 _ hs]⟩
   ·cases h
theorem qhZ{l:GList}(h:qhl l=true):(l.calls.map (·.name)).Nodup:=by
 have h2:=((qng l).1 h).2.2;exact List.pairwise_map.2 (List.Pairwise.imp (fun hab=>qtk hab) h2)
theorem qjK{p:Pol}(h:qqE p=true):qhl p.filter=true∧qhl p.log=true:=by
 unfold qqE qo3 at h;simp only[Bool.and_eq_true] at h;exact⟨h.2.1.1,h.2.1.2⟩
theorem qqh{l:List GCall}(hn:(l.map (·.name)).Nodup){c:GCall}(hc:c ∈ l):qe5 l c.name=some c:=qkH GCall.name hn hc
theorem qkG{l:List GCall}{s:List UInt8}:(qe5 l s).isSome=true↔s ∈ l.map (·.name):=by
 unfold qe5;rw[List.find?_isSome];simp only[decide_eq_true_eq,List.mem_map]
theorem qjs{a:Int}{g:List UInt8->List GTest×Int}{A:GCall->Int}:∀{l:List GCall},(∀c ∈ l,g c.name=([],A c))->(l.flatMap fun c=>qbc a (A c) [] [c.name])=qcu a g (l.map (·.name))
 | [],_=>rfl
 | c::l,h=>by
  have e:=qjs (a:=a) (A:=A) (l:=l) fun x hx=>h x (List.mem_cons_of_mem _ hx)
  rw[List.flatMap_cons,e,xT (g:=g) (by intro s hs;simp at hs;subst hs;exact h c (by simp)),← qe8]
  rfl
def qDd(p:Pol)(s:List UInt8):List GTest×Int:=([],qyI p s)
theorem qvR{p:Pol}{a:Int}(hm:qhl p.filter=true):(qzA p a).2.1=qcu a (qDd p) (p.filter.calls.map (·.name)):=by
 refine qjs fun c hc=>?_
 have hf:=qqh (qhZ hm) hc;simp only[qDd,qyI,qvN,hf]
def qEP(p:Pol)(_:List UInt8):List GTest×Int:=([],if p.log.mode=2 then 2147418112 else 2147221504)
theorem qwp{p:Pol}{a:Int}:(qz2 p a).2.1=qcu a (qEP p) (p.log.calls.map (·.name)):=qjs (A:=fun _=>if p.log.mode=2 then 2147418112 else 2147221504) fun _ _=>rfl
def qg4(p:Pol)(d:Int)(s:List UInt8):List GTest×Int:=(qlW p d s).2
theorem qvP{p:Pol}{a:Int}:(fmM p a).2.1=qcu a (qg4 p 3) [qhw]:=xT fun _ _=>rfl
def nsL:List (List UInt8):=[qbT,qeB,qbY,qbp]
theorem qAm{p:Pol}{a:Int}:(nsM p a).2.1=qcu a (qg4 p 4) nsL:=by
 have h1:qbc a 2147418112 (qcr 0 327681 (qgx p.spaces)) [qbT,qeB]=qcu a (qg4 p 4) [qbT,qeB]:=xT fun s hs=>by
  simp only[List.mem_cons,List.not_mem_nil,or_false] at hs;rcases hs with rfl|rfl<;>simp (decide:=true) [qg4,qlW,qbT,qeB,qbp,qbY]
 have h2:qbc a 2147418112 (qcr 1 327681 (qgx p.spaces)++qbw 1 4294967295 327681 [0]) [qbY]=qcu a (qg4 p 4) [qbY]:=xT fun s hs=>by
  simp only[List.mem_cons,List.not_mem_nil,or_false] at hs;subst hs;simp (decide:=true) [qg4,qlW,qbp,qbY,qbw]
 have h3:qbc a 327718 [] [qbp]=qcu a (qg4 p 4) [qbp]:=xT fun s hs=>by
  simp only[List.mem_cons,List.not_mem_nil,or_false] at hs;subst hs;simp (decide:=true) [qg4,qlW]
 show _++_++_=_;rw[h1,h2,h3,← qe8,← qe8];rfl
def weL:List (List UInt8):=[qh7,qbS,xu,qfU]
theorem qBH{p:Pol}{a:Int}:(weM p a).2.1=qcu a (qg4 p 5) weL:=by
 have h1:qbc a 2147418112 (qcr 2 327681 [6]) [qh7]=qcu a (qg4 p 5) [qh7]:=xT fun s hs=>by
  simp only[List.mem_cons,List.not_mem_nil,or_false] at hs;subst hs;rfl
 have h2:qbc a 2147418112 (qcr 2 327681 [4]) [qbS,xu]=qcu a (qg4 p 5) [qbS,xu]:=xT fun s hs=>by
  simp only[List.mem_cons,List.not_mem_nil,or_false] at hs;rcases hs with rfl|rfl<;>rfl
 have h3:qbc a 2147418112 (qcr 2 327681 [32768]) [qfU]=qcu a (qg4 p 5) [qfU]:=xT fun s hs=>by
  simp only[List.mem_cons,List.not_mem_nil,or_false] at hs;subst hs;rfl
 show _++_++_=_;rw[h1,h2,h3,← qe8,← qe8];rfl
theorem qAX{p:Pol}{a:Int}:(peM p a).2.1=qcu a (qg4 p 6) [qbX]:=xT fun _ _=>rfl
theorem qA7{p:Pol}{a:Int}:(rtM p a).2.1=qcu a (qg4 p 7) [qi6]:=xT fun _ _=>rfl
theorem qBI(s:List UInt8):(0<qic s)↔s ∈ weL:=by
 unfold qic weL
 by_cases h1:s=qh7
 ·simp[h1]
 by_cases h2:s=qbS
 ·subst h2;decide
 by_cases h3:s=xu
 ·subst h3;decide
 by_cases h4:s=qfU
 ·simp only[if_neg h1,if_neg (not_or.2 ⟨h2,h3⟩),if_pos h4];simp[h4]
 ·simp[h1,h2,h3,h4]
theorem qc5{p:Pol}{d a:Int}{F:Pol->Int->Bool×List GRule×Int}(hF:qo5 d=some F)(hd:0<=d∧d<8)(h1:quV p d=(F p a).1)
  (h2:qjI p d a=true->(F p a).1=true->qiA (F p a).2.1=ruR p d (qlk a)∧(F p a).2.2=dfR p d):qjU p d a=qtj p d a:=by
 have e:qjI p d a=(decide (0<=a)&&decide (a<6)&&qqE p&&inA p.arches a):=by
  unfold qjI;simp[hd.1,hd.2]
 unfold qjU qtj;rw[hF];cases hk:qjI p d a with
 | false =>
  rw[e] at hk;rw[if_neg (by rw[hk];simp),if_neg (by decide)]
 | true =>
  have hk':=hk;rw[e] at hk';rw[if_pos rfl];simp only[Option.bind_some];cases ha:(F p a).1 with
  | false=>rw[if_neg (by rw[h1,ha];simp),if_neg (by decide)]
  | true =>
   obtain⟨k1,k2⟩:=h2 hk ha;rw[if_pos (by rw[h1,ha,hk'];rfl),if_pos rfl,k1,k2]
theorem qap{p:Pol}{d a:Int}(h:qjI p d a=true):0<=a∧a<6∧qqE p=true:=by
 unfold qjI at h;simp only[Bool.and_eq_true,decide_eq_true_eq] at h;exact⟨h.1.1.2.1,h.1.1.2.2,h.1.2⟩
theorem qz3(p:Pol)(d a:Int):qjU p d a=qtj p d a:=by
 by_cases d1:d=1
 ·subst d1;refine qc5 (F:=qzA) rfl (by decide) rfl fun hk _=>?_
  obtain⟨h0,h6,hm⟩:=qap hk;have hf:=(qjK hm).1;refine⟨?_,?_⟩
  ·rw[qvR hf];refine qen h0 h6 (qhZ hf) (fun s n _=>?_) fun s _=>?_
   ·show (qe5 p.filter.calls s).isSome=true↔_;exact qkG
   ·rfl
  ·show (if p.filter.mode=1 then p.deny else 2147418112)=_
   simp[dfR]
 by_cases d2:d=2
 ·subst d2;refine qc5 (F:=qz2) rfl (by decide) rfl fun hk hact=>?_
  obtain⟨h0,h6,hm⟩:=qap hk;have hl:=(qjK hm).2
  have hmode:p.log.mode=1∨p.log.mode=2:=by
   have hact:qfn p.log.mode p.log.calls.length false true=true:=hact;unfold qfn at hact;split at hact
   ·exact .inl (by assumption)
   ·split at hact
    ·exact .inr (by assumption)
    ·cases hact
  refine⟨?_,?_⟩
  ·rw[qwp];refine qen h0 h6 (qhZ hl) (fun s n _=>?_) fun s _=>?_
   ·show (qe5 p.log.calls s).isSome=true↔_;exact qkG
   ·show ([],_)=([],if p.log.mode=1 then (2147221504:Int) else 2147418112)
    rcases hmode with h|h<;>simp[h]
  ·show (if p.log.mode=2 then 2147221504 else 2147418112)=_
   simp[dfR]
 by_cases d3:d=3
 ·subst d3;refine qc5 (F:=fmM) rfl (by decide) rfl fun hk _=>?_
  obtain⟨h0,h6,hm⟩:=qap hk;refine⟨?_,by simp[dfR,fmM]⟩
  rw[qvP];refine qen h0 h6 (by decide) (fun s n _=>?_) fun s _=>rfl
  show decide (s=qhw)=true↔_;simp
 by_cases d4:d=4
 ·subst d4;refine qc5 (F:=nsM) rfl (by decide) rfl fun hk _=>?_
  obtain⟨h0,h6,hm⟩:=qap hk;refine⟨?_,by simp[dfR,nsM]⟩
  rw[qAm];refine qen h0 h6 (by decide) (fun s n _=>?_) fun s _=>rfl
  show (if s=qbp then ((true,[],327718):Bool×List GTest×Int) else (decide (s=qbY)||decide (s=qbT)||decide (s=qeB),_,_)).1=true↔_
  unfold nsL
  by_cases k:s=qbp
  ·simp[k]
  ·rw[if_neg k];simp only[Bool.or_eq_true,decide_eq_true_eq,List.mem_cons,List.not_mem_nil,or_false];constructor
   ·rintro ((h|h)|h)
    ·exact .inr (.inr (.inl h))
    ·exact .inl h
    ·exact .inr (.inl h)
   ·rintro (h|h|h|h)
    ·exact .inl (.inr h)
    ·exact .inr h
    ·exact .inl (.inl h)
    ·exact absurd h k
 by_cases d5:d=5
 ·subst d5;refine qc5 (F:=weM) rfl (by decide) rfl fun hk _=>?_
  obtain⟨h0,h6,hm⟩:=qap hk;refine⟨?_,by simp[dfR,weM]⟩
  rw[qBH];refine qen h0 h6 (by decide) (fun s n _=>?_) fun s _=>rfl
  show decide (0<qic s)=true↔_;rw[decide_eq_true_eq];exact qBI s
 by_cases d6:d=6
 ·subst d6;refine qc5 (F:=peM) rfl (by decide) rfl fun hk _=>?_
  obtain⟨h0,h6,hm⟩:=qap hk;refine⟨?_,by simp[dfR,peM]⟩
  rw[qAX];refine qen h0 h6 (by decide) (fun s n _=>?_) fun s _=>rfl
  show decide (s=qbX)=true↔_;simp
 by_cases d7:d=7
 ·subst d7;refine qc5 (F:=rtM) rfl (by decide) rfl fun hk _=>?_
  obtain⟨h0,h6,hm⟩:=qap hk;refine⟨?_,by simp[dfR,rtM]⟩
  rw[qA7];refine qen h0 h6 (by decide) (fun s n _=>?_) fun s _=>rfl
  show decide (s=qi6)=true↔_;simp
 have e1:quV p d=false:=by simp[quV,d1,d2,d3,d4,d5,d6,d7]
 have e2:qo5 d=none:=by simp[qo5,d1,d2,d3,d4,d5,d6,d7]
 unfold qjU qtj;rw[e1,e2,Bool.and_false,if_neg (by decide)];split<;>rfl
theorem qxS.low{P:Program}{f:Nat}(h:qxS P f):qEx P f:=fun p hp hR d a=>by rw[← qz3];exact h p hp hR d a
end Go.Kc
end
section
namespace Go.Kc
variable {P:Program} {f:Nat}
def qiG(p:List UInt8×Int):List AV:=[.i .u32 p.2,.s p.1]
theorem qup(p:List UInt8×Int):(qiG p).length=2:=rfl
def zS:List (List UInt8×Int):=[([107,105,108,108],2147483648),([107,105,108,108,116,104,114,101,97,100],0),([116,114,97,112],196608),([101,114,114,110,111],327680),([110,111,116,105,102,121],2143289344),([116,114,97,99,101],2146435072),([108,111,103],2147221504),([97,108,108,111,119],2147418112)]
def qeI:IFn:=⟨[.cell 0 16 true],.seq (.r [.q 0 (.alloc [.i .u32 0,.s [],.i .u32 0,.s [],.i .u32 0,.s [],.i .u32 0,.s [],.i .u32 0,.s [],.i .u32 0,.s [],.i .u32 0,.s [],.i .u32 0,.s []])]) (.seq (.r [.q 1 (.build [.i .u32 0,.s []] [(0,1,(.c (.i .u32 2147483648))),(1,1,(.c (.s [107,105,108,108])))]),.q 2 (.build [.i .u32 0,.s []] [(0,1,(.c (.i .u32 0))),(1,1,(.c (.s [107,105,108,108,116,104,114,101,97,100])))]),.q 3 (.build [.i .u32 0,.s []] [(0,1,(.c (.i .u32 196608))),(1,1,(.c (.s [116,114,97,112])))]),.q 4 (.build [.i .u32 0,.s []] [(0,1,(.c (.i .u32 327680))),(1,1,(.c (.s [101,114,114,110,111])))]),.q 5 (.build [.i .u32 0,.s []] [(0,1,(.c (.i .u32 2143289344))),(1,1,(.c (.s [110,111,116,105,102,121])))]),.q 6 (.build [.i .u32 0,.s []] [(0,1,(.c (.i .u32 2146435072))),(1,1,(.c (.s [116,114,97,99,101])))]),.q 7 (.build [.i .u32 0,.s []] [(0,1,(.c (.i .u32 2147221504))),(1,1,(.c (.s [108,111,103])))]),.q 8 (.build [.i .u32 0,.s []] [(0,1,(.c (.i .u32 2147418112))),(1,1,(.c (.s [97,108,108,111,119])))]),.q 9 (.build [.i .u32 0,.s [],.i .u32 0,.s [],.i .u32 0,.s [],.i .u32 0,.s [],.i .u32 0,.s [],.i .u32 0,.s [],.i .u32 0,.s [],.i .u32 0,.s []] [(0,2,(.t 1)),(2,2,(.t 2)),(4,2,(.t 3)),(6,2,(.t 4)),(8,2,(.t 5)),(10,2,(.t 6)),(12,2,(.t 7)),(14,2,(.t 8))]),.u (.store 16 (.t 0) (.t 9))]) (.ret))⟩
theorem qCI(hc:qc P f qeI=true):qd P f [] (.agg (zS.flatMap qiG)):=by
 refine qd.mk hc rfl ?_;simp only[qeI,vI,simprocAttr];simp only[↓vS,vT,simprocAttr,zS,qiG,List.flatMap_cons,List.flatMap_nil,vZ]
def qe9:IFn:=⟨[.tmp 2],.seq (.r [.m 2 (.c (.i .u32 0))]) (.seq (.r [.n 3 0,.q 4 (.bin .andNot (.t 3) (.c (.i .u32 65535))),.n 2 4]) (.ret))⟩
theorem qEi(hc:qc P f qe9=true)(n:Int):qd P f [.i .u32 n] (.i .u32 (qeS .u32 n 65535)):=by
 refine qd.mk hc rfl ?_;simp only[qe9,vI,simprocAttr];simp only[↓vS,vT,simprocAttr,vZ]
def qfa(a b:Nat):IFn:=⟨[.tmp 2],.seq (.r [.m 2 (.c (.s []))]) (.seq (.seq (.r [.l 5 a [],.m 6 (.k 0)]) (.blk 0 (.loop (.seq (.r [.w 7 .lss 6 8]) (.seq (.cond (.t 7) (.skip) (.exit 0)) (.seq (.blk 1 (.seq (.r [.q 8 (.idxA 8 2 true (.t 5) (.t 6)),.q 4 (.alloc [.i .u32 0,.s []]),.u (.store 2 (.t 4) (.t 8))]) (.seq (.reg true [.f 9 0 4,.d 10 9,.n 11 0,.l 12 b [.t 11],.b 13 .eql 10 12]) (.cond (.t 13) (.seq (.r [.f 14 1 4,.d 15 14,.n 2 15]) (.ret)) (.skip))))) (.r [.a 16 6 1,.n 6 16]))))))) (.seq (.r [.m 2 (.c (.s []))]) (.ret)))⟩
theorem qEh{g1 g2:Nat}(hc:qc P f (qfa g1 g2)=true)(h1:qd P g1 [] (.agg (zS.flatMap qiG)))(h2:∀n,qd P g2 [.i .u32 n] (.i .u32 (qeS .u32 n 65535)))(n:Int):qd P f [.i .u32 n] (.s (qca (qeS .u32 n 65535) zS)):=by
 refine qd.mk hc rfl ?_;simp only[qfa,vI,simprocAttr];simp only[↓vS,vT,simprocAttr];refine h1.sc ?_;simp only[↓vS,vT,simprocAttr];have hlen:(zS.flatMap qiG).length=16:=by decide
 have hTc:qu (zS.flatMap qiG)=true:=rfl;refine SL.loop (α:=Nat) (fun j=>[(0,.i .u32 n),(5,.agg (zS.flatMap qiG)),(6,.i .i64 j)]) (fun _=>[]) (fun j=>j<=8∧qca (qeS .u32 n 65535) zS=qca (qeS .u32 n 65535) (zS.drop j)) (fun j=>8-j) 0 [] ?_ ?_ ?_ rfl ?_ ?_
 ·simp[vw,zS,qiG]
 ·trivial
 ·simp
 ·exact⟨Nat.zero_le _,rfl⟩
 rintro j ⟨hj,hI⟩ G ih;simp only[vI,simprocAttr]
 by_cases hlt:j<8
 ·have hlt':(j:Int)<8:=by omega
  have hjl:j<zS.length:=hlt;have hx:zS[j]?=some zS[j]:=zzE hjl;have hw:IntKind.wrap .i64 ((j:Int)+1)=((j+1:Nat):Int):=by rw[qy (by omega) (by omega)];omega
  have he:=zB (f:=qiG) (m:=2) qup hx;have hb:j*2+2<=(zS.flatMap qiG).length:=by omega
  rw[List.drop_eq_getElem_cons hjl,qca] at hI;generalize hc0:zS[j]=c at he hI;generalize hT:zS.flatMap qiG=T at he hb hlen hTc;simp only[↓vS,vT,simprocAttr,hlt',hlt,he,hb,qiG];refine xb ?_;simp only[↓vS,vT,simprocAttr];refine (h2 n).pc ?_
  by_cases hs:c.2=qeS .u32 n 65535
  ·rw[if_pos hs] at hI;simp only[↓vS,vT,simprocAttr,hs];simp[vZ,hI]
  ·rw[if_neg hs] at hI;simp only[↓vS,vT,simprocAttr,hs,hw];refine ih (j+1) ⟨hlt,hI⟩ (by omega) _ _ (Wk.mk _ _ [] ?_ ?_ ?_ rfl)
   ·rw[hT];simp[vw,qr,hTc]
   ·trivial
   ·simp
 ·have hj':j=8:=by omega
  subst hj';have hlt':¬(((8:Nat):Int)<8):=by decide
  simp only[↓vS,vT,simprocAttr,hlt'];rw[hI];simp[vZ,zS,qca]
def knA(n:Int):Bool:=decide (qca (qeS .u32 n 65535) zS≠[])
def qeH(a:Nat):IFn:=⟨[.tmp 2],.seq (.r [.m 2 .F]) (.seq (.r [.n 3 0,.l 4 a [.t 3],.q 5 (.bin .neq (.t 4) (.c (.s []))),.n 2 5]) (.ret))⟩
theorem qCH{g:Nat}(hc:qc P f (qeH g)=true)(hg:∀n,qd P g [.i .u32 n] (.s (qca (qeS .u32 n 65535) zS)))(n:Int):qd P f [.i .u32 n] (.b (knA n)):=by
 refine qd.mk hc rfl ?_;simp only[qeH,vI,simprocAttr];simp only[↓vS,vT,simprocAttr];refine (hg n).sc ?_;unfold knA;generalize qca (qeS .u32 n 65535) zS=s
 by_cases h:s=[] <;>
 ·simp only[↓vS,vT,simprocAttr,h];simp[vZ,h]
def qbE(t:GTest):Bool:=decide (0<=t.arg)&&decide (t.arg<6)&&decide (qeS .u64 t.val t.mask=0)&&knA t.act
def qgc(a:Nat):IFn:=⟨[.tmp 2],.seq (.r [.q 1 (.box (.t 0)),.m 2 .F]) (.seq (.r [.f 3 0 1,.d 4 3,.w 5 .geq 4 0,.n 6 5,.h 7 0 1 6 true,.j 8 7 6 true,.g 9 (.bin .lss (.t 8) (.k 6)) 6 true,.p 10 6 9,.n 11 10,.h 12 2 1 11 true,.j 13 12 11 true,.h 14 1 1 11 true,.j 15 14 11 true,.g 16 (.bin .andNot (.t 13) (.t 15)) 11 true,.g 17 (.bin .eql (.t 16) (.c (.i .u64 0))) 11 true,.p 18 11 17,.n 19 18,.h 20 3 1 19 true,.j 21 20 19 true,⟨(some 22),.callF a [.t 21],(some (19,true))⟩,.p 23 19 22,.n 2 23]) (.ret))⟩
theorem qEo{g:Nat}(hg:∀n,qd P g [.i .u32 n] (.b (knA n)))(hc:qc P f (qgc g)=true)(t:GTest):qd P f [.agg (xN t)] (.b (qbE t)):=by
 refine qd.mk hc rfl ?_;simp only[qgc,xN,vI,simprocAttr]
 by_cases k1:0<=t.arg
 ·by_cases k2:t.arg<6
  ·by_cases k3:qeS .u64 t.val t.mask=0
   ·simp only[↓vS,vT,simprocAttr,k1,k2,k3];refine (hg t.act).sc ?_;simp only[↓vS,vT,simprocAttr];simp[vZ,qbE,k1,k2,k3]
   ·simp only[↓vS,vT,simprocAttr,k1,k2,k3];simp[vZ,qbE,k3]
  ·simp only[↓vS,vT,simprocAttr,k1,k2];simp[vZ,qbE,k2]
 ·simp only[↓vS,vT,simprocAttr,k1];simp[vZ,qbE,k1]
def qeL(a:Nat):IFn:=⟨[.tmp 2],.seq (.r [.q 1 (.box (.t 0)),.m 2 .F]) (.seq (.r [.v 3 4 1,.l 4 a [.t 3],.q 5 (.un .not (.t 4)),.n 2 5]) (.ret))⟩
theorem qCb{g:Nat}(hc:qc P f (qeL g)=true)(hg:∀t,qd P g [.agg (xN t)] (.b (qbE t)))(t:GTest):qd P f [.agg (xN t)] (.b (!qbE t)):=by
 refine qd.mk hc rfl ?_;simp only[qeL,xN,vI,simprocAttr];simp only[↓vS,vT,simprocAttr];refine (hg t).sc ?_;simp only[↓vS,vT,simprocAttr];simp[vZ]
def zQ:IFn:=⟨[.tmp 4],.seq (.r [.m 4 (.k 0)]) (.seq (.seq (.r [.n 6 0,.e 7 6,.m 8 (.k 0)]) (.blk 0 (.loop (.seq (.r [.s 9 8 7]) (.seq (.cond (.t 9) (.skip) (.exit 0)) (.seq (.blk 1 (.seq (.r [.n 10 8,.n 5 10]) (.seq (.r [.n 11 1,.n 12 0,.n 13 5,.i 14 4 12 13,.v 15 4 14,⟨(some 16),.callV (.t 11) [.t 15],none⟩]) (.cond (.t 16) (.seq (.r [.n 17 5,.n 4 17]) (.ret)) (.skip))))) (.r [.a 18 8 1,.n 8 18]))))))) (.seq (.r [.q 4 (.mov (.c (.i .i64 (-1))))]) (.ret)))⟩
theorem qoU(hc:qc P f zQ=true):qjf 4 P f:=by
 intro α enc p g a c l hlen ha hc' hl hp;refine qd.mk hc (by simp[qu,clo,ha,hc']) ?_;simp only[zQ,vI,simprocAttr];simp only[↓vS,vT,simprocAttr];refine SL.loop (α:=Nat) (fun j=>[(0,.fz l.length (l.flatMap enc)),(1,.fn g a c),(7,.i .i64 l.length),(8,.i .i64 j)]) (fun _=>[]) (fun j=>j<=l.length∧qbz p l 0=qbz p (l.drop j) j) (fun j=>l.length-j) 0 [] ?_ ?_ ?_ rfl ?_ ?_
 ·simp[vw,qr,ha,hc']
 ·trivial
 ·simp
 ·simp
 rintro j ⟨hj,hI⟩ G ih;simp only[vI,simprocAttr]
 by_cases hlt:j<l.length
 ·have hx:l[j]?=some l[j]:=zzE hlt;have hw:IntKind.wrap .i64 ((j:Int)+1)=(j:Int)+1:=qy (by omega) (by have:=hl;simp only[qg] at this;omega)
  have he:=zB hlen hx;have hb:j*4+4<=(l.flatMap enc).length:=by rw[zl hlen];omega
  rw[List.drop_eq_getElem_cons hlt,qbz] at hI;simp only[↓vS,vT,simprocAttr,hlt,hb,he,hw];refine (hp l[j] (List.getElem_mem hlt)).sc ?_
  by_cases hpx:p l[j]=true
  ·rw[if_pos hpx] at hI;simp only[↓vS,vT,simprocAttr,hpx,vZ,hI]
  ·rw[if_neg hpx] at hI;simp only[↓vS,vT,simprocAttr,hpx,hw];refine ih (j+1) ⟨by omega,hI⟩ (by omega) _ _ (Wk.mk _ _ [] ?_ ?_ ?_ rfl)
   ·simp[vw,qr,ha,hc']
   ·trivial
   ·simp
 ·simp only[↓vS,vT,simprocAttr,hlt];rw[List.drop_eq_nil_of_le (by omega)] at hI;simp[hI,qbz,vZ]
def zP:IFn:=⟨[.tmp 4],.seq (.r [.m 4 (.k 0)]) (.seq (.seq (.r [.n 6 0,.e 7 6,.m 8 (.k 0)]) (.blk 0 (.loop (.seq (.r [.s 9 8 7]) (.seq (.cond (.t 9) (.skip) (.exit 0)) (.seq (.blk 1 (.seq (.r [.n 10 8,.n 5 10]) (.seq (.r [.n 11 1,.n 12 0,.n 13 5,.i 14 3 12 13,.v 15 3 14,⟨(some 16),.callV (.t 11) [.t 15],none⟩]) (.cond (.t 16) (.seq (.r [.n 17 5,.n 4 17]) (.ret)) (.skip))))) (.r [.a 18 8 1,.n 8 18]))))))) (.seq (.r [.q 4 (.mov (.c (.i .i64 (-1))))]) (.ret)))⟩
theorem qoT(hc:qc P f zP=true):qjf 3 P f:=by
 intro α enc p g a c l hlen ha hc' hl hp;refine qd.mk hc (by simp[qu,clo,ha,hc']) ?_;simp only[zP,vI,simprocAttr];simp only[↓vS,vT,simprocAttr];refine SL.loop (α:=Nat) (fun j=>[(0,.fz l.length (l.flatMap enc)),(1,.fn g a c),(7,.i .i64 l.length),(8,.i .i64 j)]) (fun _=>[]) (fun j=>j<=l.length∧qbz p l 0=qbz p (l.drop j) j) (fun j=>l.length-j) 0 [] ?_ ?_ ?_ rfl ?_ ?_
 ·simp[vw,qr,ha,hc']
 ·trivial
 ·simp
 ·simp
 rintro j ⟨hj,hI⟩ G ih;simp only[vI,simprocAttr]
 by_cases hlt:j<l.length
 ·have hx:l[j]?=some l[j]:=zzE hlt;have hw:IntKind.wrap .i64 ((j:Int)+1)=(j:Int)+1:=qy (by omega) (by have:=hl;simp only[qg] at this;omega)
  have he:=zB hlen hx;have hb:j*3+3<=(l.flatMap enc).length:=by rw[zl hlen];omega
  rw[List.drop_eq_getElem_cons hlt,qbz] at hI;simp only[↓vS,vT,simprocAttr,hlt,hb,he,hw];refine (hp l[j] (List.getElem_mem hlt)).sc ?_
  by_cases hpx:p l[j]=true
  ·rw[if_pos hpx] at hI;simp only[↓vS,vT,simprocAttr,hpx,vZ,hI]
  ·rw[if_neg hpx] at hI;simp only[↓vS,vT,simprocAttr,hpx,hw];refine ih (j+1) ⟨by omega,hI⟩ (by omega) _ _ (Wk.mk _ _ [] ?_ ?_ ?_ rfl)
   ·simp[vw,qr,ha,hc']
   ·trivial
   ·simp
 ·simp only[↓vS,vT,simprocAttr,hlt];rw[List.drop_eq_nil_of_le (by omega)] at hI;simp[hI,qbz,vZ]
def qrs(p:GTest->Bool)(l:List GTest):AV:=match l.find? p with|some t=>.tup [.agg (xN t),.b true]|none=>.tup [.agg [.i .i64 0,.i .u64 0,.i .u64 0,.i .u32 0],.b false]
def qb5(a:Nat):IFn:=⟨[.cell 4 4 true,.tmp 5],.seq (.r [.q 4 (.alloc [.i .i64 0,.i .u64 0,.i .u64 0,.i .u32 0]),.m 5 .F]) (.seq (.seq (.r [.n 8 0,.n 9 1,.l 10 a [.t 8,.t 9],.n 6 10]) (.seq (.r [.n 11 6,.w 12 .geq 11 0]) (.cond (.t 12) (.seq (.r [.n 13 0,.n 14 6,.i 15 4 13 14,.v 16 4 15,.u (.store 4 (.t 4) (.t 16)),.m 5 .T]) (.ret)) (.skip)))) (.seq (.r [.q 7 (.alloc [.i .i64 0,.i .u64 0,.i .u64 0,.i .u32 0])]) (.seq (.r [.v 17 4 7,.u (.store 4 (.t 4) (.t 17)),.m 5 .F]) (.ret))))⟩
theorem qzD{g:Nat}(hc:qc P f (qb5 g)=true)(h2:qjf 4 P g)(l:List GTest)(k:Nat)(a c:List AV)(p:GTest->Bool)(ha:qu a=true)(hcc:qu c=true)(hk:∀t ∈ l,qd P k (a++([.agg (xN t)]++c)) (.b (p t)))(hl:l.length<=100000):qd P f [.fz l.length (rT l),.fn k a c] (qrs p l):=by
 refine qd.mk hc (by simp[qu,clo,zR,ha,hcc]) ?_;simp only[qb5,vI,simprocAttr];simp only[↓vS,vT,simprocAttr];refine (h2 xN p k a c l qcB ha hcc (by simp only[qg];omega) hk).sc ?_;rcases qhR p l 0 with⟨e1,e2⟩|⟨i,x,e1,e2,e3,e4,e5⟩
 ·rw[e1];simp only[↓vS,vT,simprocAttr];simp[vZ,qrs,e2]
 ·have hi:i<l.length:=(zzS.1 e2).1;have hn:(0:Int)<=(i:Int):=by omega
  have he:=qpp e2;have hb:=qug hi;rw[e1,Nat.zero_add];simp only[↓vS,vT,simprocAttr,hn,hi,he,hb,xN];simp[vZ,qrs,e4,xN]
noncomputable def qbD(r:GRule):Bool:=decide (r.tests.length<=32)&&r.tests.all qbE&&knA r.act
theorem qsB{α:Type}(p:α->Bool)(l:List α):(l.find? fun t=>!p t).isSome = !l.all p:=by
 induction l with
 | nil=>rfl
 | cons x l ih =>
  rw[List.find?_cons,List.all_cons];cases h:p x
  ·simp[h]
  ·simp[h,ih]
def qgb(a b c:Nat):IFn:=⟨[.tmp 2],.seq (.r [.q 1 (.box (.t 0)),.m 2 .F]) (.seq (.r [.f 6 1 1,.d 7 6,.l 8 a [.t 7,(.c (.fn b [] []))],.n 5 8,.x 9 5 0,.x 10 5 1,.q 3 (.alloc [.i .i64 0,.i .u64 0,.i .u64 0,.i .u32 0]),.u (.store 4 (.t 3) (.t 9)),.n 4 10]) (.seq (.r [.f 11 1 1,.d 12 11,.e 13 12,.w 14 .leq 13 32,.n 15 14,.y 16 4 15,.g 17 (.un .not (.t 16)) 15 true,.p 18 15 17,.n 19 18,.h 20 2 1 19 true,.j 21 20 19 true,⟨(some 22),.callF c [.t 21],(some (19,true))⟩,.p 23 19 22,.n 2 23]) (.ret)))⟩
theorem qEn{g1 g2 g3:Nat}(hc:qc P f (qgb g1 g2 g3)=true)(h1:∀(l:List GTest) (k:Nat) (a c:List AV) (p:GTest->Bool),qu a=true->qu c=true->(∀t ∈ l,qd P k (a++([.agg (xN t)]++c)) (.b (p t)))->l.length<=100000->qd P g1 [.fz l.length (rT l),.fn k a c] (qrs p l))
  (h2:∀t,qd P g2 [.agg (xN t)] (.b (!qbE t))) (h3:∀n,qd P g3 [.i .u32 n] (.b (knA n))) (r:GRule) (hl:r.tests.length<=100000):qd P f [.agg (qw r)] (.b (qbD r)):=by
 refine qd.mk hc rfl ?_;simp only[qgb,qw,vI,simprocAttr];simp only[↓vS,vT,simprocAttr];refine (h1 r.tests g2 [] [] (fun t=>!qbE t) rfl rfl (fun t _=>h2 t) hl).sc ?_
 have hf:=qsB qbE r.tests
 have fin:∀odd:Bool,odd = !r.tests.all qbE->(decide (r.tests.length<=32) && !odd&&knA r.act)=qbD r:=by
  rintro odd rfl;simp[qbD]
 unfold qrs;cases hq:r.tests.find? (fun t=>!qbE t) with
 | none =>
  rw[hq] at hf;have fin:=fin false hf
  by_cases k1:r.tests.length<=32
  ·have k1':((r.tests.length:Int)<=32)=True:=eq_true (by omega);simp only[↓vS,vT,simprocAttr,k1'];refine (h3 r.act).sc ?_;simp only[↓vS,vT,simprocAttr];simp[vZ,← fin,k1]
  ·have k1':((r.tests.length:Int)<=32)=False:=eq_false (by omega);simp only[↓vS,vT,simprocAttr,k1'];simp[vZ,← fin,k1]
 | some t =>
  rw[hq] at hf;have fin:=fin true hf
  by_cases k1:r.tests.length<=32
  ·have k1':((r.tests.length:Int)<=32)=True:=eq_true (by omega);simp only[xN,↓vS,vT,simprocAttr,k1'];simp[vZ,← fin]
  ·have k1':((r.tests.length:Int)<=32)=False:=eq_false (by omega);simp only[xN,↓vS,vT,simprocAttr,k1'];simp[vZ,← fin]
noncomputable def upR:Option GRule->List GRule->Bool
 | _,[]=>true
 | o,r::l=>qbD r&&(o.elim true fun b=>decide (b.nr<r.nr))&&upR (some r) l
noncomputable def z7(x:GFil):Bool:=decide (0<=x.arch)&&decide (x.arch<6)&&decide (x.rules.length<=400)&&knA x.dflt&&upR none x.rules
def qkM(a b:Nat):IFn:=⟨[.tmp 2],.seq (.r [.q 1 (.box (.t 0)),.m 2 .F]) (.seq (.seq (.r [.f 5 0 1,.d 6 5,.w 7 .lss 6 0,.n 8 7,.h 9 0 1 8 false,.j 10 9 8 false,.g 11 (.bin .geq (.t 10) (.k 6)) 8 false,.o 12 8 11,.n 13 12,.h 14 1 1 13 false,.j 15 14 13 false,.g 16 (.len false (.t 15)) 13 false,.g 17 (.bin .gtr (.t 16) (.k 400)) 13 false,.o 18 13 17,.n 19 18,.h 20 2 1 19 false,.j 21 20 19 false,⟨(some 22),.callF a [.t 21],(some (19,false))⟩,.g 23 (.un .not (.t 22)) 19 false,.o 24 19 23]) (.cond (.t 24) (.seq (.r [.m 2 .F]) (.ret)) (.skip))) (.seq (.seq (.r [.f 25 1 1,.d 26 25,.e 27 26,.m 28 (.k 0)]) (.blk 0 (.loop (.seq (.r [.s 29 28 27]) (.seq (.cond (.t 29) (.skip) (.exit 0)) (.seq (.blk 1 (.seq (.r [.n 30 28,.i 31 3 26 28,.v 32 3 31,.q 4 (.alloc [.i .u32 0,.nils,.i .u32 0]),.n 3 30,.u (.store 3 (.t 4) (.t 32))]) (.seq (.reg true [.v 33 3 4,.l 34 b [.t 33],.q 35 (.un .not (.t 34)),.n 36 35,.z 37 3 36,.g 38 (.bin .gtr (.t 37) (.k 0)) 36 false,.z 39 38 36,.h 40 0 4 39 true,.j 41 40 39 true,.h 42 1 1 39 true,.j 43 42 39 true,.y 44 3 39,.g 45 (.bin .sub (.t 44) (.k 1)) 39 true,.g 46 (.iAddrS 3 (.t 43) (.t 45)) 39 true,.h 47 0 46 39 true,.j 48 47 39 true,.g 49 (.bin .leq (.t 41) (.t 48)) 39 true,.g 50 (.pick (.t 39) (.t 49) .F) 36 false,.o 51 36 50]) (.cond (.t 51) (.seq (.r [.m 2 .F]) (.ret)) (.skip))))) (.r [.a 52 28 1,.n 28 52]))))))) (.seq (.r [.m 2 .T]) (.ret))))⟩
theorem qFB{g1 g2:Nat}(hc:qc P f (qkM g1 g2)=true)(h1:∀n,qd P g1 [.i .u32 n] (.b (knA n)))(h2:∀r:GRule,r.tests.length<=100000->qd P g2 [.agg (qw r)] (.b (qbD r)))(x:GFil)(hl:x.rules.length<=100000)(ht:∀r ∈ x.rules,r.tests.length<=100000):qd P f [.agg (qD x)] (.b (z7 x)):=by
 refine qd.mk hc rfl ?_;simp only[qkM,qD,vI,simprocAttr]
 by_cases k1:x.arch<0
 ·have hw:z7 x=false:=by simp only[z7,decide_eq_false (by omega:¬0<=x.arch)];simp
  simp only[↓vS,vT,simprocAttr,k1];simp[vZ,hw]
 by_cases k2:6<=x.arch
 ·have hw:z7 x=false:=by simp only[z7,decide_eq_false (by omega:¬x.arch<6)];simp
  simp only[↓vS,vT,simprocAttr,k1,k2];simp[vZ,hw]
 by_cases k3:(400:Int)<x.rules.length
 ·have hw:z7 x=false:=by simp only[z7,decide_eq_false (by omega:¬x.rules.length<=400)];simp
  simp only[↓vS,vT,simprocAttr,k1,k2,k3];simp[vZ,hw]
 simp only[↓vS,vT,simprocAttr,k1,k2,k3];refine (h1 x.dflt).sc ?_;cases k4:knA x.dflt with
 | false =>
  have hw:z7 x=false:=by simp[z7,k4]
  simp only[↓vS,vT,simprocAttr];simp[vZ,hw]
 | true =>
  have hw:z7 x=upR none x.rules:=by
   unfold z7;rw[k4,decide_eq_true (by omega:0<=x.arch),decide_eq_true (by omega:x.arch<6),decide_eq_true (by omega:x.rules.length<=400)];rfl
  rw[hw];simp only[↓vS,vT,simprocAttr]
  refine SL.loop (α:=Nat) (fun j=>[(1,.ptr 0 0),(26,.fz x.rules.length (rR x.rules)),(27,.i .i64 x.rules.length),(28,.i .i64 j)]) (fun _=>[.cells 0 true false (qD x)])
   (fun j=>j<=x.rules.length∧upR none x.rules=upR (if j=0 then none else x.rules[j-1]?) (x.rules.drop j)) (fun j=>x.rules.length-j) 0 [0] ?_ ?_ ?_ rfl ?_ ?_
  ·simp[vw,xa]
  ·simp[vw,qD,xa]
  ·simp
  ·exact⟨Nat.zero_le _,rfl⟩
  rintro j ⟨hj,hI⟩ G ih;simp only[vI,simprocAttr,qD]
  by_cases hlt:j<x.rules.length
  ·have hx:x.rules[j]?=some x.rules[j]:=zzE hlt;have he:=qi4 hx;have hb:=qno hlt;have hw:IntKind.wrap .i64 ((j:Int)+1)=((j+1:Nat):Int):=by rw[qy (by omega) (by omega)];omega
   have htl:=ht _ (List.getElem_mem hlt);rw[List.drop_eq_getElem_cons hlt,upR] at hI;generalize hc0:x.rules[j]=r at hI he hx htl;simp only[↓vS,vT,simprocAttr,hlt,hb,he,qw];refine xb ?_;simp only[↓vS,vT,simprocAttr];refine (h2 r htl).pc ?_;cases hk:qbD r with
   | false =>
    have hwf:upR none x.rules=false:=by rw[hI];simp[hk]
    simp only[↓vS,vT,simprocAttr];simp[vZ,hwf]
   | true =>
    by_cases h0:j=0
    ·subst h0;have hn:¬(0:Int)<((0:Nat):Int):=by decide
     simp only[↓vS,vT,simprocAttr,hn,hw];refine ih 1 ⟨by omega,?_⟩ (by omega) _ _ (Wk.mk _ _ [0] ?_ ?_ ?_ rfl)
     ·rw[hI,hk];simp[hx]
     ·simp[vw,xa];exact qy (by decide) (by decide)
     ·simp[vw,qD,xa]
     ·simp
    ·have hp:(0:Int)<(j:Int):=by omega
     have hpl:j-1<x.rules.length:=by omega
     have hy:x.rules[j-1]?=some x.rules[j-1]:=zzE hpl;have hw2:IntKind.wrap .i64 ((j:Int)-1)=((j-1:Nat):Int):=by rw[qy (by omega) (by omega)];omega
     have g0:(rR x.rules)[(j-1)*3]?=some (.i .u32 x.rules[j-1].nr):=qA4 hy (i:=0) (by decide);rw[if_neg h0,hy] at hI
     by_cases hlt2:r.nr<=x.rules[j-1].nr
     ·have hwf:upR none x.rules=false:=by rw[hI];simp[Int.not_lt.2 hlt2]
      simp only[↓vS,vT,simprocAttr,hp,hw2,hpl,g0,hlt2];simp[vZ,hwf]
     ·simp only[↓vS,vT,simprocAttr,hp,hw2,hpl,g0,hlt2,hw];refine ih (j+1) ⟨by omega,?_⟩ (by omega) _ _ (Wk.mk _ _ [0] ?_ ?_ ?_ rfl)
      ·rw[hI,hk];simp[hx];omega
      ·simp[vw,xa]
      ·simp[vw,qD,xa]
      ·simp
  ·rw[List.drop_of_length_le (by omega),upR] at hI;simp only[↓vS,vT,simprocAttr,hlt];simp[vZ,hI]
end Go.Kc
end
section
namespace Go.Kc
end Go.Kc
end
section
namespace Go.Kc
variable {P:Program} {f:Nat}
end Go.Kc
end
section
namespace Go.Kc
variable {P:Program} {f:Nat}
section
variable {g1 g2 g3 g4 g5:Nat}
end
end Go.Kc
end
section
namespace Go.Kc
structure PMay (p:Pol):Prop where
 own:∀c ∈ p.log.calls,c.act=0
 deny:qx1 p.deny=true
 mode:p.fmode<=2∧(p.fmode≠0∨p.fams=[])
 ar:∀a ∈ p.arches,0<=a∧a<6
 ap:p.arches.Pairwise (· < ·)
 fr:∀n ∈ p.fams,qvO n=true
 fp:p.fams.Pairwise (· < ·)
 fil:qhl p.filter=true
 log:qhl p.log=true
 sp:qeS .u64 p.spaces 2114060416=0
structure PI (p:Pol):Prop where
 may:PMay p
 f0:0<=p.filter.mode
 l0:0<=p.log.mode
 m0:0<=p.fmode
 s0:0<=p.spaces∧p.spaces<18446744073709551616
theorem qjO{l:List Int}(h:l.Pairwise (· < ·)):l.Nodup:=h.imp fun h e=>by omega
theorem qsv{n:Int}(h:qvO n=true):n ∈ qbu.map (·.2):=by
 unfold qvO at h;have h':qca n qbu≠[]:=by simpa using h
 have:∀(t:List (List UInt8×Int)),qca n t≠[]->n ∈ t.map (·.2):=by
  intro t
  induction t with
  | nil=>intro h;exact absurd rfl h
  | cons x t ih =>
   intro h;unfold qca at h;split at h
   ·rename_i e;simp[e]
   ·exact List.mem_cons_of_mem _ (ih h)
 exact this _ h'
theorem qrw{a:Int}(h:0<=a∧a<6):a ∈ ([0,1,2,3,4,5]:List Int):=by
 have:a=0∨a=1∨a=2∨a=3∨a=4∨a=5:=by omega
 simpa using this
theorem PMay.lens{p:Pol}(h:PMay p):p.arches.length<=6∧p.fams.length<=8∧p.filter.calls.length<=40∧p.log.calls.length<=40 :=
 ⟨qfO (t:=[0,1,2,3,4,5]) (qjO h.ap) fun x hx=>qrw (h.ar x hx),qfO (t:=qbu.map (·.2)) (qjO h.fp) fun x hx=>qsv (h.fr x hx),qo4 h.fil,qo4 h.log⟩
theorem PI.ok{p:Pol}(h:PI p):PolOk p:=by
 obtain⟨h1,h2,h3,h4⟩:=h.may.lens;exact⟨by omega,by omega,by omega,by omega⟩
def qw4:Pol:={ qw3 with deny:=2147483648 }
theorem PI.new:PI qw4:=by
 refine⟨⟨?_,?_,?_,?_,?_,?_,?_,?_,?_,?_⟩,?_,?_,?_,?_⟩
 ·intro c hc;simp[qw4,qw3] at hc
 ·decide
 ·exact⟨by decide,.inr rfl⟩
 ·intro c hc;simp[qw4,qw3] at hc
 ·exact List.Pairwise.nil
 ·intro c hc;simp[qw4,qw3] at hc
 ·exact List.Pairwise.nil
 ·rfl
 ·rfl
 ·decide
 ·decide
 ·decide
 ·decide
 ·decide
variable {E:List UInt8->List (List UInt8)×Int}
variable (E)
variable {E}
end Go.Kc
end
section
namespace Go.Kc
variable {P:Program} {f:Nat}
instance:DecidableEq GCall:=fun a b=>if h:a.name=b.name∧a.act=b.act then isTrue (by obtain⟨h1,h2⟩:=h;cases a;cases b;simp_all) else isFalse (by rintro rfl;exact h ⟨rfl,rfl⟩)
section
variable {l m:List Asg} {j:Nat}
end
end Go.Kc
end
section
namespace Go.Kc
variable {P:Program} {f:Nat}
variable {E:List UInt8->List (List UInt8)×Int}
section
variable {g1 g2 g3 g4:Nat}
end
end Go.Kc
end
section
namespace Go.Kc
variable {P:Program} {f:Nat}
end Go.Kc
end
section
namespace Go.Kc
open Go.RowKit
variable {P:Program} {f:Nat}
theorem Rel.below{ρ:Ren}{B:Nat->Prop}{h:Hp}{w w':World}(r:Rel σ0 ρ B h w)(hb:Below w.heap.size w w'):Rel σ0 ρ B h w':=by
 have hget:∀{k o},w.heap[k]?=some o->w'.heap[k]?=some o:=fun {k o} hk=>by rw[hb.block k (Array.getElem?_eq_some_iff.1 hk).1];exact hk
 refine⟨r.dom,fun b L e wf af cs h1 h2=>?_,fun b L es h1 h2=>?_,r.excl,r.exclm,r.app,r.flr,fun k hk=>Nat.lt_of_lt_of_le (r.base k hk) hb.size,fun k arr hk=>?_,⟨r.dn.1,fun b L h=>Nat.lt_of_lt_of_le (r.dn.2 b L h) hb.size⟩⟩
 ·obtain⟨e1,c,ty,fz,e2,e3⟩:=r.cells b L e wf af cs h1 h2;exact⟨e1,c,ty,fz,hget e2,e3⟩
 ·obtain⟨e1,o,e2,e3⟩:=r.maps b L es h1 h2;exact⟨e1,o,hget e2,e3⟩
 ·obtain⟨⟨ty,fz,e1⟩,e2⟩:=r.frz k arr hk;exact⟨⟨ty,fz,hget e1⟩,e2⟩
theorem Kept.below{ρ:Ren}{B:Nat->Prop}{h:Hp}{w w':World}(r:Rel σ0 ρ B h w)(hb:Below w.heap.size w w'):Kept ρ B h w ρ h w' :=
 ⟨fun _ _=>rfl,Nat.le_refl _,rfl,fun _ _ _=>rfl,fun k hk=>hb.block k (r.base k hk),hb.size,⟨hb.os,hb.output⟩,fun _ _ h=>h,fun _ _ h=>.inl h,Nat.le_refl _⟩
def qDk(sep:List UInt8)(xs:List (List UInt8)):List UInt8:=Lib.join xs sep
end Go.Kc
end
section
namespace Go.Kc
variable {P:Program} {f:Nat}
def qoZ(k a:List UInt8)(ws:List (List UInt8)):Prop:=k.length<=100∧a.length<=100∧ws.length<=100000∧(qDk [32] ws).length<=1000000
structure GData where
 nr:Int
 arch:Int
 ip:Int
 a0:Int
 a1:Int
 a2:Int
 a3:Int
 a4:Int
 a5:Int
def qT(d:GData):List AV:=[.i .u32 d.nr,.i .u32 d.arch,.i .u64 d.ip,.i .u64 d.a0,.i .u64 d.a1,.i .u64 d.a2,.i .u64 d.a3,.i .u64 d.a4,.i .u64 d.a5]
def qll(d:GData)(k:Int):Int:=if k=0 then d.a0 else if k=1 then d.a1 else if k=2 then d.a2 else if k=3 then d.a3 else if k=4 then d.a4 else d.a5
def qpO(p:GRule->Bool)(l:List GRule):AV:=match l.find? p with|some r=>.tup [.agg (qw r),.b true]|none=>.tup [.agg [.i .u32 0,.nils,.i .u32 0],.b false]
def qb4(a:Nat):IFn:=⟨[.cell 4 3 true,.tmp 5],.seq (.r [.q 4 (.alloc [.i .u32 0,.nils,.i .u32 0]),.m 5 .F]) (.seq (.seq (.r [.n 8 0,.n 9 1,.l 10 a [.t 8,.t 9],.n 6 10]) (.seq (.r [.n 11 6,.w 12 .geq 11 0]) (.cond (.t 12) (.seq (.r [.n 13 0,.n 14 6,.i 15 3 13 14,.v 16 3 15,.u (.store 3 (.t 4) (.t 16)),.m 5 .T]) (.ret)) (.skip)))) (.seq (.r [.q 7 (.alloc [.i .u32 0,.nils,.i .u32 0])]) (.seq (.r [.v 17 3 7,.u (.store 3 (.t 4) (.t 17)),.m 5 .F]) (.ret))))⟩
theorem qzC{g:Nat}(hc:qc P f (qb4 g)=true)(h2:qjf 3 P g)(l:List GRule)(k:Nat)(a c:List AV)(p:GRule->Bool)(ha:qu a=true)(hcc:qu c=true)(hk:∀t ∈ l,qd P k (a++([.agg (qw t)]++c)) (.b (p t)))(hl:l.length<=100000):qd P f [.fz l.length (rR l),.fn k a c] (qpO p l):=by
 refine qd.mk hc (by simp[qu,clo,xa,ha,hcc]) ?_;simp only[qb4,vI,simprocAttr];simp only[↓vS,vT,simprocAttr];refine (h2 qw p k a c l qax ha hcc (by simp only[qg];omega) hk).sc ?_;rcases qhR p l 0 with⟨e1,e2⟩|⟨i,x,e1,e2,e3,e4,e5⟩
 ·rw[e1];simp only[↓vS,vT,simprocAttr];simp[vZ,qpO,e2]
 ·have hi:i<l.length:=(zzS.1 e2).1;have hn:(0:Int)<=(i:Int):=by omega
  have he:=qi4 e2;have hb:=qno hi;rw[e1,Nat.zero_add];simp only[↓vS,vT,simprocAttr,hn,hi,he,hb,qw];simp[vZ,qpO,e4,qw,ze zR]
def ofM(t n:Int):Int×Bool :=
 if qbz (fun x=>decide (x.2=t)) xC 0<0 then (0,false)
 else if qbz (fun x=>decide (x.2=t)) xC 0=0∧x9 .u32 n 1073741824≠0 then (2,true)
 else (qbz (fun x=>decide (x.2=t)) xC 0,true)
def qhB(a:Int):Int:=(xC.getD a.toNat ([],0)).2
def qf5(a:Nat):IFn:=⟨[.tmp 2,.tmp 3],.seq (.r [.m 2 (.c (.i .u32 0)),.m 3 (.k 0)]) (.seq (.seq (.r [.n 4 0,.w 5 .lss 4 0,.n 6 5,.z 7 0 6,.g 8 (.bin .geq (.t 7) (.k 6)) 6 false,.o 9 6 8]) (.cond (.t 9) (.seq (.r [.m 2 (.c (.i .u32 0)),.m 3 (.k 80)]) (.ret)) (.skip))) (.seq (.r [.l 10 a [],.n 11 0,.q 12 (.idxA 6 2 true (.t 10) (.t 11)),.q 13 (.fld 1 none (.t 12)),.n 2 13,.m 3 (.k 0)]) (.ret)))⟩
theorem qBy{g:Nat}(hc:qc P f (qf5 g)=true)(hg:qd P g [] (.agg (xC.flatMap (qxl .u32))))(a:Int)(h0:0<=a)(h6:a<6):qd P f [.i .i64 a] (.tup [.i .u32 (qhB a),.i .i64 0]):=by
 refine qd.mk hc rfl ?_;simp only[qf5,vI,simprocAttr];have n1:¬a<0:=by omega
 have n2:¬6<=a:=by omega
 simp only[↓vS,vT,simprocAttr,n1,n2];refine hg.sc ?_;have h3:a=0∨a=1∨a=2∨a=3∨a=4∨a=5:=by omega
 rcases h3 with rfl|rfl|rfl|rfl|rfl|rfl <;>
 ·simp only[↓vS,vT,simprocAttr,xC,qxl,List.flatMap_cons,List.flatMap_nil];simp[vZ,qhB,xC]
def qbM(t:GTest)(d:GData):Bool:=decide (0<=t.arg)&&decide (t.arg<6)&&decide (x9 .u64 (qll d t.arg) t.mask=t.val)
def qhL(x:GFil)(d:GData):Int :=
 if (ofM d.arch d.nr).2=false∨(ofM d.arch d.nr).1≠x.arch then 2147418112
 else match x.rules.find? (fun r=>decide (r.nr=d.nr)) with
  | none=>x.dflt
  | some r=>match r.tests.find? (fun t=>qbM t d) with
   | some t=>t.act
   | none=>r.act
section
variable {g1 g2 g3 g4 g5:Nat}
end
section
variable {g1 g2:Nat}
end
end Go.Kc
end
section
namespace Go.Kc
def fnd(q:GTest->Bool)(y:Int)(l:List GTest):Int:=match l.find? q with|some t=>t.act|none=>y
theorem qiU(q:GTest->Bool)(y:Int):fnd q y []=y:=rfl
theorem qcU(q:GTest->Bool)(y:Int)(t:GTest)(l:List GTest):fnd q y (t::l)=if q t=true then t.act else fnd q y l:=by
 unfold fnd;rw[List.find?_cons];cases q t<;>rfl
def U64(b:Int):Prop:=0<=b∧b<18446744073709551616
def idxS:List Nat:=[25,27,30,17,29,7,28,26]
structure DOk (x:GData):Prop where
 a0:U64 x.a0
 a1:U64 x.a1
 a2:U64 x.a2
end Go.Kc
end
section
namespace Go.Kc
variable {P:Program} {f:Nat}
def qEB(n:Int):List UInt8:=Lib.itoa n
def qEI(n:Int):List UInt8:=if qca n qeC=[]∧n<=4095 then qEB n else qca n qeC
def qD4(c:GCall):List UInt8:=if c.act=0 then c.name else if c.act=2147483648 then c.name++[58,107,105,108,108] else if x9 .u32 c.act 4294901760=327680 then c.name++58::qEI (x9 .u32 c.act 65535) else c.name++[58]
def qEE(q:GCall->Bool)(l:List GCall):List (List UInt8):=(l.filter q).map qD4
structure LOkP (k:List UInt8) (l:GList):Prop where
 k100:k.length<=100
 n:l.calls.length<=1000
 nm:∀c ∈ l.calls,c.name.length<=1000000
 ok:∀(q:GCall->Bool) (a:List UInt8),a.length<=1->qoZ k a (qEE q l.calls)
section
variable {e1 e2 g3 g4 g5 g6 g7:Nat}
end
section
variable {g1 g2 g3 g4 g5 g6 g7 g8 g9 g10 g11 g12:Nat}
def spW(p:Pol):List (List UInt8):=(qgx p.spaces).map fun n=>qca n qj7
def faW(p:Pol):List (List UInt8):=p.fams.map fun n=>qca n qbu
structure LinOk (p:Pol):Prop where
 ar:qoZ qDl [] (p.arches.map qCK)
 fil:LOkP qwh p.filter
 log:LOkP qET p.log
 fam:∀a:List UInt8,a.length<=1->qoZ qES a (faW p)
 sp:qoZ kSp [126] (spW p)
end



end Go.Kc
end
section
namespace Go.Kc
variable {P:Program} {f g1 g2:Nat}

end Go.Kc
end
section
namespace Go.Kc
variable {P:Program} {f:Nat}
section
variable {g1 g2 g3 g4 g5 g6 g7 g8 g9:Nat}
end
end Go.Kc
end
section
namespace Go.Kc
section
variable {P:Program} {f g1 g2 g3 g4 g5 g6 g7 g8 g9:Nat}
end
section
variable {P:Program} {f g1 g2 g3 g4 g5 g6 g7 g8 g9:Nat}
structure Lin19 (p:Pol):Prop where
 arch:∀n ∈ p.arches,0<=n∧n<6
 sp:p.spaces=0↔qgx p.spaces=[]
 fl:∀c ∈ p.filter.calls,0<=c.act∧c.act<=4294967295
 lg:∀c ∈ p.log.calls,0<=c.act∧c.act<=4294967295
end
end Go.Kc
end
section
namespace Go.Kc
variable {P:Program} {f:Nat}
def qcw(x:Int×List UInt8×Int):List AV:=[.i .u16 x.1,.s x.2.1,.i .u8 x.2.2]
theorem qns(x:Int×List UInt8×Int):(qcw x).length=3:=rfl
def qaC:List (Int×List UInt8×Int):=[(32,[108,100,97,98,115],1),(128,[108,100,108,101,110],1),(0,[108,100,105],1),(96,[108,100,109],1),(129,[108,100,120,108,101,110],1),(1,[108,100,120,105],1),(97,[108,100,120,109],1),(2,[115,116],2),(3,[115,116,120],2),(4,[97,100,100],3),(20,[115,117,98],3),(36,[109,117,108],3),(52,[100,105,118],3),(68,[111,114],3),(84,[97,110,100],3),(100,[108,115,104],3),(116,[114,115,104],3),(164,[120,111,114],3),(12,[97,100,100,120],3),(28,[115,117,98,120],3),(44,[109,117,108,120],3),(60,[100,105,118,120],3),(76,[111,114,120],3),(92,[97,110,100,120],3),(108,[108,115,104,120],3),(124,[114,115,104,120],3),(172,[120,111,114,120],3),(132,[110,101,103],3),(5,[106,97],4),(21,[106,101,113],4),(37,[106,103,116],4),(53,[106,103,101],4),(69,[106,115,101,116],4),(29,[106,101,113,120],4),(45,[106,103,116,120],4),(61,[106,103,101,120],4),(77,[106,115,101,116,120],4),(6,[114,101,116],5),(22,[114,101,116,97],5),(7,[116,97,120],6),(135,[116,120,97],6)]
def zE:List AV:=[.i .u16 0,.s [],.i .u8 0]
def qaF(c:Int):Option (Int×List UInt8×Int):=qaC.find? fun x=>decide (x.1=c)
def qe3:Option (Int×List UInt8×Int)->List AV
 | some x=>qcw x
 | none=>zE
def qk(c:Int):Int:=(qaF c).elim 0 fun x=>x.2.2
def z9(c:Int):Bool:=(qaF c).isSome
def qeK:IFn:=⟨[.cell 0 123 true],.seq (.r [.q 0 (.alloc [.i .u16 0,.s [],.i .u8 0,.i .u16 0,.s [],.i .u8 0,.i .u16 0,.s [],.i .u8 0,.i .u16 0,.s [],.i .u8 0,.i .u16 0,.s [],.i .u8 0,.i .u16 0,.s [],.i .u8 0,.i .u16 0,.s [],.i .u8 0,.i .u16 0,.s [],.i .u8 0,.i .u16 0,.s [],.i .u8 0,.i .u16 0,.s [],.i .u8 0,.i .u16 0,.s [],.i .u8 0,.i .u16 0,.s [],.i .u8 0,.i .u16 0,.s [],.i .u8 0,.i .u16 0,.s [],.i .u8 0,.i .u16 0,.s [],.i .u8 0,.i .u16 0,.s [],.i .u8 0,.i .u16 0,.s [],.i .u8 0,.i .u16 0,.s [],.i .u8 0,.i .u16 0,.s [],.i .u8 0,.i .u16 0,.s [],.i .u8 0,.i .u16 0,.s [],.i .u8 0,.i .u16 0,.s [],.i .u8 0,.i .u16 0,.s [],.i .u8 0,.i .u16 0,.s [],.i .u8 0,.i .u16 0,.s [],.i .u8 0,.i .u16 0,.s [],.i .u8 0,.i .u16 0,.s [],.i .u8 0,.i .u16 0,.s [],.i .u8 0,.i .u16 0,.s [],.i .u8 0,.i .u16 0,.s [],.i .u8 0,.i .u16 0,.s [],.i .u8 0,.i .u16 0,.s [],.i .u8 0,.i .u16 0,.s [],.i .u8 0,.i .u16 0,.s [],.i .u8 0,.i .u16 0,.s [],.i .u8 0,.i .u16 0,.s [],.i .u8 0,.i .u16 0,.s [],.i .u8 0,.i .u16 0,.s [],.i .u8 0,.i .u16 0,.s [],.i .u8 0,.i .u16 0,.s [],.i .u8 0,.i .u16 0,.s [],.i .u8 0])]) (.seq (.r [.q 1 (.build [.i .u16 0,.s [],.i .u8 0] [(0,1,(.c (.i .u16 32))),(1,1,(.c (.s [108,100,97,98,115]))),(2,1,(.c (.i .u8 1)))]),.q 2 (.build [.i .u16 0,.s [],.i .u8 0] [(0,1,(.c (.i .u16 128))),(1,1,(.c (.s [108,100,108,101,110]))),(2,1,(.c (.i .u8 1)))]),.q 3 (.build [.i .u16 0,.s [],.i .u8 0] [(0,1,(.c (.i .u16 0))),(1,1,(.c (.s [108,100,105]))),(2,1,(.c (.i .u8 1)))]),.q 4 (.build [.i .u16 0,.s [],.i .u8 0] [(0,1,(.c (.i .u16 96))),(1,1,(.c (.s [108,100,109]))),(2,1,(.c (.i .u8 1)))]),.q 5 (.build [.i .u16 0,.s [],.i .u8 0] [(0,1,(.c (.i .u16 129))),(1,1,(.c (.s [108,100,120,108,101,110]))),(2,1,(.c (.i .u8 1)))]),.q 6 (.build [.i .u16 0,.s [],.i .u8 0] [(0,1,(.c (.i .u16 1))),(1,1,(.c (.s [108,100,120,105]))),(2,1,(.c (.i .u8 1)))]),.q 7 (.build [.i .u16 0,.s [],.i .u8 0] [(0,1,(.c (.i .u16 97))),(1,1,(.c (.s [108,100,120,109]))),(2,1,(.c (.i .u8 1)))]),.q 8 (.build [.i .u16 0,.s [],.i .u8 0] [(0,1,(.c (.i .u16 2))),(1,1,(.c (.s [115,116]))),(2,1,(.c (.i .u8 2)))]),.q 9 (.build [.i .u16 0,.s [],.i .u8 0] [(0,1,(.c (.i .u16 3))),(1,1,(.c (.s [115,116,120]))),(2,1,(.c (.i .u8 2)))]),.q 10 (.build [.i .u16 0,.s [],.i .u8 0] [(0,1,(.c (.i .u16 4))),(1,1,(.c (.s [97,100,100]))),(2,1,(.c (.i .u8 3)))]),.q 11 (.build [.i .u16 0,.s [],.i .u8 0] [(0,1,(.c (.i .u16 20))),(1,1,(.c (.s [115,117,98]))),(2,1,(.c (.i .u8 3)))]),.q 12 (.build [.i .u16 0,.s [],.i .u8 0] [(0,1,(.c (.i .u16 36))),(1,1,(.c (.s [109,117,108]))),(2,1,(.c (.i .u8 3)))]),.q 13 (.build [.i .u16 0,.s [],.i .u8 0] [(0,1,(.c (.i .u16 52))),(1,1,(.c (.s [100,105,118]))),(2,1,(.c (.i .u8 3)))]),.q 14 (.build [.i .u16 0,.s [],.i .u8 0] [(0,1,(.c (.i .u16 68))),(1,1,(.c (.s [111,114]))),(2,1,(.c (.i .u8 3)))]),.q 15 (.build [.i .u16 0,.s [],.i .u8 0] [(0,1,(.c (.i .u16 84))),(1,1,(.c (.s [97,110,100]))),(2,1,(.c (.i .u8 3)))]),.q 16 (.build [.i .u16 0,.s [],.i .u8 0] [(0,1,(.c (.i .u16 100))),(1,1,(.c (.s [108,115,104]))),(2,1,(.c (.i .u8 3)))]),.q 17 (.build [.i .u16 0,.s [],.i .u8 0] [(0,1,(.c (.i .u16 116))),(1,1,(.c (.s [114,115,104]))),(2,1,(.c (.i .u8 3)))]),.q 18 (.build [.i .u16 0,.s [],.i .u8 0] [(0,1,(.c (.i .u16 164))),(1,1,(.c (.s [120,111,114]))),(2,1,(.c (.i .u8 3)))]),.q 19 (.build [.i .u16 0,.s [],.i .u8 0] [(0,1,(.c (.i .u16 12))),(1,1,(.c (.s [97,100,100,120]))),(2,1,(.c (.i .u8 3)))]),.q 20 (.build [.i .u16 0,.s [],.i .u8 0] [(0,1,(.c (.i .u16 28))),(1,1,(.c (.s [115,117,98,120]))),(2,1,(.c (.i .u8 3)))]),.q 21 (.build [.i .u16 0,.s [],.i .u8 0] [(0,1,(.c (.i .u16 44))),(1,1,(.c (.s [109,117,108,120]))),(2,1,(.c (.i .u8 3)))]),.q 22 (.build [.i .u16 0,.s [],.i .u8 0] [(0,1,(.c (.i .u16 60))),(1,1,(.c (.s [100,105,118,120]))),(2,1,(.c (.i .u8 3)))]),.q 23 (.build [.i .u16 0,.s [],.i .u8 0] [(0,1,(.c (.i .u16 76))),(1,1,(.c (.s [111,114,120]))),(2,1,(.c (.i .u8 3)))]),.q 24 (.build [.i .u16 0,.s [],.i .u8 0] [(0,1,(.c (.i .u16 92))),(1,1,(.c (.s [97,110,100,120]))),(2,1,(.c (.i .u8 3)))]),.q 25 (.build [.i .u16 0,.s [],.i .u8 0] [(0,1,(.c (.i .u16 108))),(1,1,(.c (.s [108,115,104,120]))),(2,1,(.c (.i .u8 3)))]),.q 26 (.build [.i .u16 0,.s [],.i .u8 0] [(0,1,(.c (.i .u16 124))),(1,1,(.c (.s [114,115,104,120]))),(2,1,(.c (.i .u8 3)))]),.q 27 (.build [.i .u16 0,.s [],.i .u8 0] [(0,1,(.c (.i .u16 172))),(1,1,(.c (.s [120,111,114,120]))),(2,1,(.c (.i .u8 3)))]),.q 28 (.build [.i .u16 0,.s [],.i .u8 0] [(0,1,(.c (.i .u16 132))),(1,1,(.c (.s [110,101,103]))),(2,1,(.c (.i .u8 3)))]),.q 29 (.build [.i .u16 0,.s [],.i .u8 0] [(0,1,(.c (.i .u16 5))),(1,1,(.c (.s [106,97]))),(2,1,(.c (.i .u8 4)))]),.q 30 (.build [.i .u16 0,.s [],.i .u8 0] [(0,1,(.c (.i .u16 21))),(1,1,(.c (.s [106,101,113]))),(2,1,(.c (.i .u8 4)))]),.q 31 (.build [.i .u16 0,.s [],.i .u8 0] [(0,1,(.c (.i .u16 37))),(1,1,(.c (.s [106,103,116]))),(2,1,(.c (.i .u8 4)))]),.q 32 (.build [.i .u16 0,.s [],.i .u8 0] [(0,1,(.c (.i .u16 53))),(1,1,(.c (.s [106,103,101]))),(2,1,(.c (.i .u8 4)))]),.q 33 (.build [.i .u16 0,.s [],.i .u8 0] [(0,1,(.c (.i .u16 69))),(1,1,(.c (.s [106,115,101,116]))),(2,1,(.c (.i .u8 4)))]),.q 34 (.build [.i .u16 0,.s [],.i .u8 0] [(0,1,(.c (.i .u16 29))),(1,1,(.c (.s [106,101,113,120]))),(2,1,(.c (.i .u8 4)))]),.q 35 (.build [.i .u16 0,.s [],.i .u8 0] [(0,1,(.c (.i .u16 45))),(1,1,(.c (.s [106,103,116,120]))),(2,1,(.c (.i .u8 4)))]),.q 36 (.build [.i .u16 0,.s [],.i .u8 0] [(0,1,(.c (.i .u16 61))),(1,1,(.c (.s [106,103,101,120]))),(2,1,(.c (.i .u8 4)))]),.q 37 (.build [.i .u16 0,.s [],.i .u8 0] [(0,1,(.c (.i .u16 77))),(1,1,(.c (.s [106,115,101,116,120]))),(2,1,(.c (.i .u8 4)))]),.q 38 (.build [.i .u16 0,.s [],.i .u8 0] [(0,1,(.c (.i .u16 6))),(1,1,(.c (.s [114,101,116]))),(2,1,(.c (.i .u8 5)))]),.q 39 (.build [.i .u16 0,.s [],.i .u8 0] [(0,1,(.c (.i .u16 22))),(1,1,(.c (.s [114,101,116,97]))),(2,1,(.c (.i .u8 5)))]),.q 40 (.build [.i .u16 0,.s [],.i .u8 0] [(0,1,(.c (.i .u16 7))),(1,1,(.c (.s [116,97,120]))),(2,1,(.c (.i .u8 6)))]),.q 41 (.build [.i .u16 0,.s [],.i .u8 0] [(0,1,(.c (.i .u16 135))),(1,1,(.c (.s [116,120,97]))),(2,1,(.c (.i .u8 6)))]),.q 42 (.build [.i .u16 0,.s [],.i .u8 0,.i .u16 0,.s [],.i .u8 0,.i .u16 0,.s [],.i .u8 0,.i .u16 0,.s [],.i .u8 0,.i .u16 0,.s [],.i .u8 0,.i .u16 0,.s [],.i .u8 0,.i .u16 0,.s [],.i .u8 0,.i .u16 0,.s [],.i .u8 0,.i .u16 0,.s [],.i .u8 0,.i .u16 0,.s [],.i .u8 0,.i .u16 0,.s [],.i .u8 0,.i .u16 0,.s [],.i .u8 0,.i .u16 0,.s [],.i .u8 0,.i .u16 0,.s [],.i .u8 0,.i .u16 0,.s [],.i .u8 0,.i .u16 0,.s [],.i .u8 0,.i .u16 0,.s [],.i .u8 0,.i .u16 0,.s [],.i .u8 0,.i .u16 0,.s [],.i .u8 0,.i .u16 0,.s [],.i .u8 0,.i .u16 0,.s [],.i .u8 0,.i .u16 0,.s [],.i .u8 0,.i .u16 0,.s [],.i .u8 0,.i .u16 0,.s [],.i .u8 0,.i .u16 0,.s [],.i .u8 0,.i .u16 0,.s [],.i .u8 0,.i .u16 0,.s [],.i .u8 0,.i .u16 0,.s [],.i .u8 0,.i .u16 0,.s [],.i .u8 0,.i .u16 0,.s [],.i .u8 0,.i .u16 0,.s [],.i .u8 0,.i .u16 0,.s [],.i .u8 0,.i .u16 0,.s [],.i .u8 0,.i .u16 0,.s [],.i .u8 0,.i .u16 0,.s [],.i .u8 0,.i .u16 0,.s [],.i .u8 0,.i .u16 0,.s [],.i .u8 0,.i .u16 0,.s [],.i .u8 0,.i .u16 0,.s [],.i .u8 0,.i .u16 0,.s [],.i .u8 0,.i .u16 0,.s [],.i .u8 0] [(0,3,(.t 1)),(3,3,(.t 2)),(6,3,(.t 3)),(9,3,(.t 4)),(12,3,(.t 5)),(15,3,(.t 6)),(18,3,(.t 7)),(21,3,(.t 8)),(24,3,(.t 9)),(27,3,(.t 10)),(30,3,(.t 11)),(33,3,(.t 12)),(36,3,(.t 13)),(39,3,(.t 14)),(42,3,(.t 15)),(45,3,(.t 16)),(48,3,(.t 17)),(51,3,(.t 18)),(54,3,(.t 19)),(57,3,(.t 20)),(60,3,(.t 21)),(63,3,(.t 22)),(66,3,(.t 23)),(69,3,(.t 24)),(72,3,(.t 25)),(75,3,(.t 26)),(78,3,(.t 27)),(81,3,(.t 28)),(84,3,(.t 29)),(87,3,(.t 30)),(90,3,(.t 31)),(93,3,(.t 32)),(96,3,(.t 33)),(99,3,(.t 34)),(102,3,(.t 35)),(105,3,(.t 36)),(108,3,(.t 37)),(111,3,(.t 38)),(114,3,(.t 39)),(117,3,(.t 40)),(120,3,(.t 41))]),.u (.store 123 (.t 0) (.t 42))]) (.ret))⟩
set_option maxRecDepth 20000 in
theorem qx3(hc:qc P f qeK=true):qd P f [] (.agg (qaC.flatMap qcw)):=by
 refine qd.mk hc rfl ?_;simp only[qeK,vI,simprocAttr];simp only[↓vS,vT,simprocAttr,qaC,qcw,List.flatMap_cons,List.flatMap_nil,vZ]
def qhc(a:Nat):IFn:=⟨[.cell 2 3 true,.tmp 3],.seq (.r [.q 2 (.alloc [.i .u16 0,.s [],.i .u8 0]),.m 3 .F]) (.seq (.seq (.r [.l 6 a [],.m 7 (.k 0)]) (.blk 0 (.loop (.seq (.r [.w 8 .lss 7 41]) (.seq (.cond (.t 8) (.skip) (.exit 0)) (.seq (.blk 1 (.seq (.r [.q 9 (.idxA 41 3 true (.t 6) (.t 7)),.q 5 (.alloc [.i .u16 0,.s [],.i .u8 0]),.u (.store 3 (.t 5) (.t 9))]) (.seq (.r [.n 10 0,.v 11 3 5,⟨(some 12),.callV (.t 10) [.t 11],none⟩]) (.cond (.t 12) (.seq (.r [.v 13 3 5,.u (.store 3 (.t 2) (.t 13)),.m 3 .T]) (.ret)) (.skip))))) (.r [.a 14 7 1,.n 7 14]))))))) (.seq (.r [.q 15 (.build [.i .u16 0,.s [],.i .u8 0] []),.u (.store 3 (.t 2) (.t 15)),.m 3 .F]) (.ret)))⟩
theorem qB3{e:Nat}(hc:qc P f (qhc e)=true)(he:qd P e [] (.agg (qaC.flatMap qcw))){g:Nat}{a c:List AV}(ha:qu a=true)(hcc:qu c=true)(p:Int×List UInt8×Int->Bool)(hp:∀x ∈ qaC,qd P g (a++([.agg (qcw x)]++c)) (.b (p x))) :
  qd P f [.fn g a c] (.tup [.agg (qe3 (qaC.find? p)),.b (qaC.find? p).isSome]):=by
 refine qd.mk hc (by simp[qu,clo,ha,hcc]) ?_;simp only[qhc,vI,simprocAttr];simp only[↓vS,vT,simprocAttr];refine he.sc ?_;simp only[↓vS,vT,simprocAttr];have hlen:(qaC.flatMap qcw).length=123:=by rw[zl (m:=3) qns];rfl
 have hTc:qu (qaC.flatMap qcw)=true:=rfl;refine SL.loop (α:=Nat) (fun j=>[(0,.fn g a c),(2,.ptr 0 0),(6,.agg (qaC.flatMap qcw)),(7,.i .i64 j)]) (fun _=>[.cells 0 true false zE]) (fun j=>j<=41∧qaC.find? p=(qaC.drop j).find? p) (fun j=>41-j) 0 [0] ?_ ?_ ?_ rfl ?_ ?_
 ·generalize qaC.flatMap qcw=T at hTc;simp[vw,qr,hTc,ha,hcc]
 ·simp[vw,zE]
 ·simp
 ·exact⟨Nat.zero_le _,rfl⟩
 rintro j ⟨hj,hI⟩ G ih;simp only[vI,simprocAttr]
 by_cases hlt:j<41
 ·have hlt':(j:Int)<41:=by omega
  have hjl:j<qaC.length:=hlt;have hx:qaC[j]?=some qaC[j]:=zzE hjl;have hw:IntKind.wrap .i64 ((j:Int)+1)=((j+1:Nat):Int):=by rw[qy (by omega) (by omega)];omega
  have hel:=zB (f:=qcw) (m:=3) qns hx;have hb:j*3+3<=(qaC.flatMap qcw).length:=by omega
  have hpx:=hp _ (List.getElem_mem hjl);rw[List.drop_eq_getElem_cons hjl,List.find?_cons] at hI;generalize hc0:qaC[j]=x at hel hI hpx;generalize hT:qaC.flatMap qcw=T at hel hb hlen hTc;simp only[qcw] at hpx;simp only[↓vS,vT,simprocAttr,hlt',hlt,hel,hb,qcw,zE];refine hpx.sc ?_;cases hs:p x with
  | true =>
   rw[hs] at hI;simp +decide only[↓vS,vT,simprocAttr];rw[hI];simp[vZ,qe3,qcw]
  | false =>
   rw[hs] at hI;simp +decide only[↓vS,vT,simprocAttr,hw];refine ih (j+1) ⟨hlt,hI⟩ (by omega) _ _ (Wk.mk _ _ [0] ?_ ?_ ?_ rfl)
   ·rw[hT];simp[vw,qr,hTc,ha,hcc]
   ·simp[vw,zE]
   ·simp
 ·have hj':j=41:=by omega
  subst hj';have hlt':¬(((41:Nat):Int)<41):=by decide
  have hI':qaC.find? p=none:=hI;clear ih;generalize qaC.flatMap qcw=T;simp +decide only[↓vS,vT,simprocAttr,hlt',zE];rw[hI'];simp[vZ,qe3,zE]
def qhb:IFn:=⟨[.tmp 3],.seq (.r [.q 2 (.box (.t 0)),.m 3 .F]) (.seq (.r [.f 4 0 2,.d 5 4,.d 6 1,.b 7 .eql 5 6,.n 3 7]) (.ret))⟩
theorem qDh(hc:qc P f qhb=true)(x:Int×List UInt8×Int)(n:Int):qd P f [.agg (qcw x),.pf [.i .u16 n] 0] (.b (decide (x.1=n))):=by
 refine qd.mk hc (by simp[qu,clo,qcw]) ?_;simp only[qhb,qcw,vI,simprocAttr];simp only[↓vS,vT,simprocAttr,vZ]
def qjz(a b:Nat):IFn:=⟨[.cell 2 3 true,.tmp 3],.seq (.r [.q 1 (.box (.t 0)),.q 2 (.alloc [.i .u16 0,.s [],.i .u8 0]),.m 3 .F]) (.seq (.r [.q 4 (.mkF a [] [.t 1]),.l 5 b [.t 4],.x 6 5 0,.x 7 5 1,.u (.store 3 (.t 2) (.t 6)),.n 3 7]) (.ret))⟩
theorem qEm{g1 g2:Nat}(hc:qc P f (qjz g1 g2)=true)(h1:∀x n,qd P g1 [.agg (qcw x),.pf [.i .u16 n] 0] (.b (decide (x.1=n))))(h2:∀(g:Nat) (a c:List AV),qu a=true->qu c=true->∀p:Int×List UInt8×Int->Bool,(∀x ∈ qaC,qd P g (a++([.agg (qcw x)]++c)) (.b (p x)))->qd P g2 [.fn g a c] (.tup [.agg (qe3 (qaC.find? p)),.b (qaC.find? p).isSome]))(n:Int) :
  qd P f [.i .u16 n] (.tup [.agg (qe3 (qaF n)),.b (z9 n)]):=by
 refine qd.mk hc rfl ?_;have h:=h2 g1 [] [.pf [.i .u16 n] 0] rfl rfl (fun x=>decide (x.1=n)) (fun x _=>h1 x n)
 unfold z9 qaF;have hce:qu (qe3 (qaC.find? fun x=>decide (x.1=n)))=true∧(qe3 (qaC.find? fun x=>decide (x.1=n))).length=3:=by cases qaC.find? fun x=>decide (x.1=n)<;>exact⟨rfl,rfl⟩
 generalize (qaC.find? fun x=>decide (x.1=n))=o at h hce ⊢
 simp only[qjz,vI,simprocAttr];simp only[↓vS,vT,simprocAttr];refine (h.lend (vs':=[.fn g1 [] [.pf [.i .u16 n] 0]]) ?_ ?_ ?_)
 ·simp[vZ,vP,Tr.get_set]
 ·cases o<;>rfl
 cases o with
 | none =>
  simp +decide only[↓vS,vT,simprocAttr,qe3,zE];simp[vZ]
 | some x =>
  simp +decide only[↓vS,vT,simprocAttr,qe3,qcw];simp[vZ]
def qjy(a:Nat):IFn:=⟨[.tmp 2],.seq (.r [.m 2 (.c (.i .u8 0))]) (.seq (.r [.n 6 0,.l 7 a [.t 6],.n 5 7,.x 8 5 0,.x 9 5 1,.q 3 (.alloc [.i .u16 0,.s [],.i .u8 0]),.u (.store 3 (.t 3) (.t 8)),.n 4 9]) (.seq (.r [.f 10 2 3,.d 11 10,.n 2 11]) (.ret)))⟩
theorem qEl{g:Nat}(hc:qc P f (qjy g)=true)(hg:∀n,qd P g [.i .u16 n] (.tup [.agg (qe3 (qaF n)),.b (z9 n)]))(n:Int):qd P f [.i .u16 n] (.i .u8 (qk n)):=by
 refine qd.mk hc rfl ?_;have h:=hg n;unfold z9 at h;simp only[qjy,vI,simprocAttr];simp only[↓vS,vT,simprocAttr];refine h.sc ?_;cases hcn:qaF n with
 | none =>
  simp +decide only[↓vS,vT,simprocAttr,qe3,zE];simp[vZ,qk,z9,hcn]
 | some x =>
  simp +decide only[↓vS,vT,simprocAttr,qe3,qcw];simp[vZ,qk,z9,hcn]
end Go.Kc
end
section
namespace Go.Kc
variable {P:Program} {f:Nat}
structure Ins where
 code:Int
 jt:Int
 jf:Int
 k:Int
def xH(i:Ins):List AV:=[.i .u16 i.code,.i .u8 i.jt,.i .u8 i.jf,.i .u32 i.k]
theorem qdQ(i:Ins):(xH i).length=4:=rfl
theorem getD_some{b:List Int}{j:Nat}(h:j<b.length):b[j]?=some (b.getD j 0):=by
 rw[zzE h,List.getD_eq_getElem?_getD,zzE h];rfl
def rP(p:List Ins):List AV:=p.flatMap xH
theorem qgJ(p:List Ins):(rP p).length=p.length*4:=zl qdQ p
theorem xL(p:List Ins):qu (rP p)=true:=qay (fun _=>rfl)
theorem qBh{h:Hp}{esz n a c:Nat}{q q2 q3:IntKind}{cs:List AV}{k:AV->Prop}(h1:a<c)(h2:c<=n)(h3:c*esz<=cs.length):slK esz (some (.i q (a:Int))) (some (.i q2 (c:Int))) (some (.i q3 (c:Int))) (.fz n cs) h k↔evA (.fz (c-a) ((cs.drop (a*esz)).take ((c-a)*esz))) k:=by
 have hne:Nat.beq c a=false:=by
  cases hb:Nat.beq c a with
  | false=>rfl
  | true=>have:=Nat.eq_of_beq_eq_true hb;omega
 have e1:a*esz<=cs.length:=Nat.le_trans (Nat.mul_le_mul_right _ (by omega)) h3
 have e2:(c-a)*esz<=(cs.drop (a*esz)).length:=by
  rw[List.length_drop,Nat.sub_mul];omega
 have hac:a<=c:=by omega
 simp only[slK,qiO,qoz];show (ifK (c<=n) (ifK (c<=c) (ifK (a<=c) _)))↔_;simp only[ifK,h2,hac,Nat.le_refl,true_and,Option.isSome_some,hne,Bool.true_and,Bool.false_eq_true,if_false];show (a*esz<=cs.length∧(c-a)*esz<=(cs.drop (a*esz)).length∧_)↔_;simp only[e1,e2,true_and];exact Iff.rfl
theorem qmX{sz fl:Nat}{tr:Tr Blk}{x:Blk}:Hp.push ⟨sz,fl,tr⟩ x=⟨sz+1,fl,tr.set sz x⟩:=rfl
theorem qlV{r:Loop}(h:r.state = .ready)(h2:r.pending=none):rdy r=r:=by cases r;simp_all [rdy]
def cell(k:Int):BitVec 16:=1#16 <<< k.toNat
structure InsOk (i:Ins):Prop where
 c0:0<=i.code
 c1:i.code<=65535
 t0:0<=i.jt
 t1:i.jt<=255
 f0:0<=i.jf
 f1:i.jf<=255
 k0:0<=i.k
 k1:i.k<=4294967295
def cOf(P:Program)(g:Nat):Prop:=∀n,qd P g [.i .u16 n] (.i .u8 (qk n))
def wrM(i:Ins):BitVec 16:=if qk i.code=2∧i.k<16 then cell i.k else 0#16
def rdM(i:Ins):BitVec 16:=if (i.code=96∨i.code=97)∧i.k<16 then cell i.k else 0#16
def qxX(s:List (BitVec 16))(r:List Bool)(j:Nat)(x:BitVec 16):List (BitVec 16):=s.set j (if r.getD j false=true then s.getD j 0 &&& x else x)
def rNt(l:List Nat):List AV:=l.map fun n:Nat=>.i .i64 (n:Int)
theorem qpj{l:List Nat}:(rNt l).length=l.length:=by simp[rNt]
theorem qfs{l:List Nat}:qu (rNt l)=true:=qe0 fun _=>rfl
theorem qxb{l:List Nat}{j:Nat}:(rNt l)[j]?=(l[j]?).map fun n:Nat=>.i .i64 (n:Int):=by simp[rNt]
theorem qxa{l m:List Nat}:rNt l++rNt m=rNt (l++m):=by simp[rNt]
def qBD(i:Ins)(x:BitVec 16)(at':Nat)(l:List Nat):List Nat:=if rdM i &&& ~~~ x=0#16 then l else l++[at']

def loM(i:Ins):Int:=if i.jf<i.jt then i.jf else i.jt
def hiM(i:Ins):Int:=if i.jt<i.jf then i.jf else i.jt
def qyr(i:Ins)(at':Nat):List Nat :=
 if qk i.code=0∨qk i.code=5 then []
 else if qk i.code=4 then (if i.code=5 then [at'+1+i.k.toNat] else if loM i=hiM i then [at'+1+(loM i).toNat] else [at'+1+(loM i).toNat,at'+1+(hiM i).toNat])
 else [at'+1]
def goM(n:Nat)(x:BitVec 16):List Nat->List (BitVec 16)×List Bool->List (BitVec 16)×List Bool
 | [],st=>st
 | m::L,st=>if m<n then goM n x L (qxX st.1 st.2 m x,st.2.set m true) else st
structure RecOk (P:Program) (r0:Loop) (ps:List Nat) (ai bi:ICode):Prop where
 st:r0.state = .ready
 pd:r0.pending=none
 ok:LoopOk P r0 ps ai bi

abbrev WSt:=List Nat×(List (BitVec 16)×List Bool)
def ql3(j:Nat)(st:List (BitVec 16)×List Bool):List (BitVec 16)×List Bool:=if j=0 then (qxX st.1 st.2 0 0#16,st.2.set 0 true) else st
def stM(n j:Nat)(i:Ins)(st:WSt):WSt :=
 if (ql3 j st.2).2.getD j false=true then (qBD i ((ql3 j st.2).1.getD j 0#16) j st.1,goM n ((ql3 j st.2).1.getD j 0#16 ||| wrM i) (qyr i j) (ql3 j st.2)) else (st.1,ql3 j st.2)
def wkM(n:Nat):Nat->List Ins->WSt->WSt
 | _,[],st=>st
 | j,i::L,st=>wkM n (j+1) L (stM n j i st)
def qEa(p:List Ins):List Nat:=(wkM p.length 0 p ([],(List.replicate p.length 0#16,List.replicate p.length false))).1
def qjd(i:Ins):Bool:=!z9 i.code
def qiC(i:Ins):Bool:=decide (i.code=32)&&(decide (i.k % 4≠0)||decide (64<=i.k))
def qkn(i:Ins):Bool:=(decide (i.code=96)||decide (i.code=97)||decide (qk i.code=2))&&decide (16<=i.k)
def qko(i:Ins):Bool:=decide (i.code=52)&&decide (i.k=0)
def qkp(i:Ins):Bool:=(decide (i.code=100)||decide (i.code=116))&&decide (31<i.k)
def qkq(i:Ins)(n:Nat):Bool:=if i.code=5 then decide ((n:Int)<=i.k) else decide (qk i.code=4)&&decide ((n:Int)<=hiM i)
def qlP(i:Ins)(n:Nat):Int:=if qjd i=true then 40 else if qiC i=true then 41 else if qkn i=true then 43 else if qko i=true then 44 else if qkp i=true then 45 else if qkq i n=true then 42 else 0
def qkS(p:List Ins):Int:=(p.getD (p.length-1) ⟨0,0,0,0⟩).code
def qwH(n:Nat)(i:Ins)(j:Nat):List Nat:=(qyr i j).takeWhile fun m=>decide (m<n)
def mkL(L:List Nat)(r:List Bool):List Bool:=L.foldl (fun r m=>r.set m true) r
def qDU(n:Nat):Nat->List Ins->List Bool->List Bool
 | _,[],r=>r
 | j,i::L,r=>qDU n (j+1) L (if r.getD j false=true then mkL (qwH n i j) r else r)
def st0(n:Nat):List Bool:=(List.replicate n false).set 0 true
def wrC(i:Ins)(c:Nat):Bool:=(decide (i.code=2)||decide (i.code=3))&&decide (i.k=(c:Int))
def stS(n c j:Nat)(i:Ins)(st:List Bool×List (BitVec 16)):List Bool×List (BitVec 16) :=
 if st.1.getD j false=false then (st.1,st.2.set j (st.2.getD j 0#16 ||| cell c)) else if wrC i c=true then st else (mkL (qwH n i j) st.1,st.2)
def qD0(n c:Nat):Nat->List Ins->List Bool×List (BitVec 16)->List Bool×List (BitVec 16)
 | _,[],st=>st
 | j,i::L,st=>qD0 n c (j+1) L (stS n c j i st)
def qD1(p:List Ins):Nat->List (BitVec 16)->List (BitVec 16)
 | 0,out=>out
 | k+1,out=>qD1 p k (qD0 p.length (16-(k+1)) 0 p (st0 p.length,out)).2
def qFw(p:List Ins):List (BitVec 16):=qD1 p 16 (List.replicate p.length 0#16)
def rdC(i:Ins):Bool:=(decide (i.code=96)||decide (i.code=97))&&decide (i.k<16)
def unC(rch:List Bool)(sur:List (BitVec 16))(j:Nat)(i:Ins):Bool:=rch.getD j false&&rdC i && !(sur.getD j 0#16).getLsbD i.k.toNat
def qxN(rch:List Bool)(sur:List (BitVec 16)):Nat->List Ins->List Nat->List Nat
 | _,[],l=>l
 | j,i::L,l=>qxN rch sur (j+1) L (if unC rch sur j i=true then l++[j] else l)
def qD9(p:List Ins):List Nat:=qxN (qDU p.length 0 p (st0 p.length)) (qFw p) 0 p []
theorem qcD{c:Int}{x:Int×List UInt8×Int}(h:qaF c=some x):x ∈ qaC∧x.1=c:=by
 unfold qaF at h;have h1:=List.mem_of_find?_eq_some h;have h2:=List.find?_some h;exact⟨h1,by simpa using h2⟩

end Go.Kc
end
section
namespace Go.Kc
def qoO{σ:Type}(F:Nat->Ins->σ->σ):Nat->List Ins->σ->σ
 | _,[],st=>st
 | j,i::L,st=>qoO F (j+1) L (F j i st)
def rcS(n j:Nat)(i:Ins)(r:List Bool):List Bool:=if r.getD j false=true then mkL (qwH n i j) r else r
def U(st:List (BitVec 16)×List Bool)(c j:Nat):Bool:=st.2.getD j false && !(st.1.getD j 0#16).getLsbD c
theorem qop:∀x ∈ qaC,x.2.2=2->x.1=2∨x.1=3:=by decide
theorem qzc{c:Int}:qk c=2↔c=2∨c=3:=by
 constructor
 ·intro h;unfold qk at h;cases hc:qaF c with
  | none=>rw[hc] at h;cases h
  | some x =>
   rw[hc] at h;obtain⟨h1,h2⟩:=qcD hc;rw[← h2];exact qop x h1 h
 ·rintro (rfl|rfl)<;>decide
def uS(n c j:Nat)(i:Ins)(u:List Bool):List Bool:=if u.getD j false=false then u else if wrC i c=true then u else mkL (qwH n i j) u
section
variable (p:List Ins)
def Wk0(k:Nat):WSt:=qoO (stM p.length) 0 (p.take k) ([],(List.replicate p.length 0#16,List.replicate p.length false))
def Rk(k:Nat):List Bool:=qoO (rcS p.length) 0 (p.take k) (st0 p.length)
def Uk(c k:Nat):List Bool:=qoO (uS p.length c) 0 (p.take k) (st0 p.length)
structure InvK (k:Nat):Prop where
 l1:(ql3 k (Wk0 p k).2).1.length=p.length
 l2:(ql3 k (Wk0 p k).2).2.length=p.length
 r:Rk p k=(ql3 k (Wk0 p k).2).2
 u:∀c,c<16->(Uk p c k).length=p.length∧∀j,(Uk p c k).getD j false=U (ql3 k (Wk0 p k).2) c j
end
end Go.Kc
end
section
namespace Go.Kc
variable {P:Program} {f:Nat}
structure Prg where
 dir:Int
 arch:Int
 ins:List Ins
structure PrgOk (x:Prg):Prop where
 len:x.ins.length<=4096
 ins:∀i ∈ x.ins,InsOk i




def loW(x:Int):Int:=x % 4294967296
def hiW(x:Int):Int:=x / 4294967296
def qkw(d:GData):List Int:=[d.ip,d.a0,d.a1,d.a2,d.a3,d.a4,d.a5]
def xG(d:GData):List Int:=d.nr::d.arch::(qkw d).flatMap fun x=>[loW x,hiW x]
structure DatOk (d:GData):Prop where
 nr0:0<=d.nr
 nr1:d.nr<=4294967295
 ar0:0<=d.arch
 ar1:d.arch<=4294967295
 wid:∀x ∈ qkw d,0<=x∧x<18446744073709551616
def qeM:IFn:=⟨[.tmp 2,.tmp 3],.seq (.r [.m 2 (.c (.i .u32 0)),.m 3 (.c (.i .u32 0))]) (.seq (.r [.n 4 0,.q 5 (.cvInt .u32 (.t 4)),.n 6 0,.q 7 (.bin .shr (.t 6) (.c (.i .u64 32))),.q 8 (.cvInt .u32 (.t 7)),.n 2 5,.n 3 8]) (.ret))⟩
theorem qx7(hc:qc P f qeM=true)(x:Int)(h0:0<=x)(h1:x<18446744073709551616):qd P f [.i .u64 x] (.tup [.i .u32 (loW x),.i .u32 (hiW x)]):=by
 refine qd.mk hc rfl ?_;have e1:IntKind.wrap .u32 x=loW x:=rfl
 have e2:IntKind.wrap .u32 (quv .u64 x 32)=hiW x:=by
  have:quv .u64 x 32=x / 4294967296:=by
   show x.fdiv (2 ^ 32)=_;rw[Int.fdiv_eq_ediv_of_nonneg _ (by decide)];rfl
  rw[this];show (x / 4294967296) % 4294967296=x / 4294967296;omega
 simp only[qeM,vI,simprocAttr];simp +decide only[↓vS,vT,simprocAttr,e1,e2];simp[vZ]
theorem qqZ{q:IntKind}{l:List Int}:x5 (rI q l)=true:=by
 unfold rI;induction l with
 | nil=>rfl
 | cons a l ih=>exact ih
def qha:IFn:=⟨[.tmp 4],.seq (.r [.m 4 .N]) (.seq (.r [.n 5 0,.q 6 (.buildS 1 [.i .u64 0] [(0,1,(.t 5))]),.n 7 1,.q 8 (.app 1 8 true (.t 6) (.t 7)),.n 4 8]) (.ret))⟩
theorem qEe(hc:qc P f qha=true)(x:Int)(l:List Int)(hl:l.length=6):qee P f [.i .u64 x,.fz l.length (rI .u64 l)] (.own 0 (1+l.length)) [.cells 1 true true (rI .u64 (x::l))]:=by
 refine qee.mk hc rfl (by simp[qmI,qqZ]) ?_;have hr1:1+l.length<=qg:=by rw[hl];decide
 have hr2:(1+l.length)*8<=qg:=by rw[hl];decide
 have hll:(rI .u64 l).length=l.length:=qa1;simp only[qha,vI,simprocAttr];have hne:¬1+l.length<=1:=by omega
 have htk:List.take l.length (rI .u64 l)=rI .u64 l:=List.take_of_length_le (by rw[qa1];omega);simp +decide only[↓vS,vT,simprocAttr,hne,hr1,hr2,hll,htk,Nat.mul_one];intro _;refine⟨[1],?_⟩;simp[vw,qw7,qr,qhq]
def qdW(d:GData)(j:Nat):List Int:=(xG d).take (2+2*j)++List.replicate (14-2*j) 0
theorem qqf(d:GData){j:Nat}(h:j<=7):(qdW d j).length=16:=by
 have:(xG d).length=16:=rfl;unfold qdW;rw[List.length_append,List.length_take,List.length_replicate,this];omega
theorem qn0(d:GData){j:Nat}{x:Int}(h:(qkw d)[j]?=some x):((qdW d j).set (2+2*j) (loW x)).set (3+2*j) (hiW x)=qdW d (j+1):=by
 have hj:j<7:=(zzS.1 h).1;have:j=0∨j=1∨j=2∨j=3∨j=4∨j=5∨j=6:=by omega
 rcases this with rfl|rfl|rfl|rfl|rfl|rfl|rfl<;>(cases h;rfl)
def qvl(P:Program)(g:Nat):Prop:=∀x:Int,0<=x->x<18446744073709551616->qd P g [.i .u64 x] (.tup [.i .u32 (loW x),.i .u32 (hiW x)])
def qEy(P:Program)(g:Nat):Prop:=∀(x:Int) (l:List Int),l.length=6->qee P g [.i .u64 x,.fz l.length (rI .u64 l)] (.own 0 (1+l.length)) [.cells 1 true true (rI .u64 (x::l))]
def qf9(a b:Nat):IFn:=⟨[.cell 2 16 true],.seq (.r [.q 1 (.box (.t 0)),.q 2 (.alloc [.i .u32 0,.i .u32 0,.i .u32 0,.i .u32 0,.i .u32 0,.i .u32 0,.i .u32 0,.i .u32 0,.i .u32 0,.i .u32 0,.i .u32 0,.i .u32 0,.i .u32 0,.i .u32 0,.i .u32 0,.i .u32 0])]) (.seq (.r [.f 6 0 1,.d 7 6,.f 8 1 1,.d 9 8,.q 10 (.build [.i .u32 0,.i .u32 0,.i .u32 0,.i .u32 0,.i .u32 0,.i .u32 0,.i .u32 0,.i .u32 0,.i .u32 0,.i .u32 0,.i .u32 0,.i .u32 0,.i .u32 0,.i .u32 0,.i .u32 0,.i .u32 0] [(0,1,(.t 7)),(1,1,(.t 9))]),.q 3 (.alloc [.i .u32 0,.i .u32 0,.i .u32 0,.i .u32 0,.i .u32 0,.i .u32 0,.i .u32 0,.i .u32 0,.i .u32 0,.i .u32 0,.i .u32 0,.i .u32 0,.i .u32 0,.i .u32 0,.i .u32 0,.i .u32 0]),.u (.store 16 (.t 3) (.t 10))]) (.seq (.seq (.reg true [.f 11 2 1,.d 12 11,.f 13 3 1,.q 14 (.slcA 6 1 (.t 13) none none none),.l 15 a [.t 12,.t 14],.e 16 15,.m 17 (.k 0)]) (.blk 0 (.loop (.seq (.r [.s 18 17 16]) (.seq (.cond (.t 18) (.skip) (.exit 0)) (.seq (.blk 1 (.seq (.r [.n 19 17,.i 20 1 15 17,.d 21 20,.n 4 19,.n 5 21]) (.r [.n 23 4,.q 24 (.bin .mul (.k 2) (.t 23)),.q 25 (.bin .add (.k 2) (.t 24)),.n 26 4,.q 27 (.bin .mul (.k 2) (.t 26)),.q 28 (.bin .add (.k 3) (.t 27)),.n 29 5,.l 30 b [.t 29],.n 22 30,.x 31 22 0,.x 32 22 1,.q 33 (.iAddrA 16 1 (.t 3) (.t 25)),.u (.store 1 (.t 33) (.t 31)),.q 34 (.iAddrA 16 1 (.t 3) (.t 28)),.u (.store 1 (.t 34) (.t 32))]))) (.r [.a 35 17 1,.n 17 35]))))))) (.seq (.r [.v 36 16 3,.u (.store 16 (.t 2) (.t 36))]) (.ret))))⟩
theorem qBS{g1 g2:Nat}(hc:qc P f (qf9 g1 g2)=true)(h1:qEy P g1)(h2:qvl P g2)(d:GData)(hd:DatOk d):qd P f [.agg (qT d)] (.agg (rI .u32 (xG d))):=by
 refine qd.mk hc rfl ?_;simp only[qf9,qT,vI,simprocAttr];simp +decide only[↓vS,vT,simprocAttr];refine xb ?_;simp +decide only[↓vS,vT,simprocAttr];refine (h1 d.ip [d.a0,d.a1,d.a2,d.a3,d.a4,d.a5] rfl).pc (vs:=[.i .u64 d.ip,.sl 0 3 6 6 false]) ?_ ?_
 ·refine .cons _ _ _ _ (.i _ _) (.cons _ _ _ _ (Frz.cut 1 rfl (Nat.le_refl _) ?_) .nil);simp[vP,Tr.get_set,vZ,rI]
 simp only[vJ,simprocAttr,zZ qhq];simp +decide only[↓vS,vT,simprocAttr]
 refine SL.loop (α:=Nat) (fun j=>[(2,.ptr 0 0),(3,.ptr 1 0),(15,.own 2 7),(16,.i .i64 7),(17,.i .i64 (j:Int))]) (fun j=>[.cells 0 true false [.i .u32 0,.i .u32 0,.i .u32 0,.i .u32 0,.i .u32 0,.i .u32 0,.i .u32 0,.i .u32 0,.i .u32 0,.i .u32 0,.i .u32 0,.i .u32 0,.i .u32 0,.i .u32 0,.i .u32 0,.i .u32 0],.cells 0 true false (rI .u32 (qdW d j)),.cells 1 true true (rI .u64 (qkw d))])
  (fun j=>j<=7) (fun j=>7-j) 0 [1,2,3] ?_ ?_ ?_ rfl ?_ ?_
 ·simp[vw]
 ·simp[vw,qdW,xG,qkw,rI]
 ·simp
 ·exact Nat.zero_le _
 rintro j hj G ih;simp only[vI,simprocAttr]
 by_cases hlt:j<7
 ·have hlt':(j:Int)<7:=by omega
  obtain⟨x,hx⟩:∃x,(qkw d)[j]?=some x:=⟨_,zzE (show j<(qkw d).length from hlt)⟩
  have hxr:=hd.wid x (zzM hx);have hl:=qqf d hj;have hnx:=qn0 d hx;have w1:IntKind.wrap .i64 (2*(j:Int))=((2*j:Nat):Int):=by rw[qy (by omega) (by omega)];omega
  have w2:IntKind.wrap .i64 (2+((2*j:Nat):Int))=((2+2*j:Nat):Int):=by rw[qy (by omega) (by omega)];omega
  have w3:IntKind.wrap .i64 (3+((2*j:Nat):Int))=((3+2*j:Nat):Int):=by rw[qy (by omega) (by omega)];omega
  have w4:IntKind.wrap .i64 ((j:Int)+1)=((j+1:Nat):Int):=by rw[qy (by omega) (by omega)];omega
  simp +decide only[↓vS,vT,simprocAttr,hlt',hlt,Nat.mul_one,qof,hx,Option.map_some,w1,w2,w3];refine (h2 x hxr.1 hxr.2).sc ?_;have hA:2+2*j<(qdW d j).length:=by omega
  have hB:3+2*j<((qdW d j).set (2+2*j) (loW x)).length:=by simp;omega
  have s1:=qog (k:=.u32) hA (loW x);have s2:=qog (k:=.u32) hB (hiW x);rw[hnx] at s2;have k1:2+2*j<16:=by omega
  have k2:3+2*j<16:=by omega
  have k3:2+2*j+1<=(rI .u32 (qdW d j)).length:=by rw[qa1];omega
  have k4:3+2*j+1<=(rI .u32 ((qdW d j).set (2+2*j) (loW x))).length:=by rw[qa1];omega
  simp +decide only[↓vS,vT,simprocAttr,k1,k2,k3,k4,s1,s2,Nat.mul_one,w4];refine ih (j+1) hlt (by omega) _ _ (Wk.mk _ _ [0,1,2] ?_ ?_ ?_ rfl)
  ·simp[vw]
  ·simp[vw,qr,qhq]
  ·simp
 ·obtain rfl:j=7:=by omega
  have h16:16<=(rI .u32 (qdW d 7)).length:=Nat.le_refl 16;have ht:List.take 16 (List.drop 0 (rI .u32 (qdW d 7)))=rI .u32 (xG d):=rfl;have hlen:(rI .u32 (xG d)).length=16:=rfl;have hfd:qdW d 7=xG d:=rfl;have ht2:List.take 16 (rI .u32 (xG d))=rI .u32 (xG d):=rfl;rw[hfd];simp +decide only[↓vS,vT,simprocAttr,h16,ht2,hlen,qDS];simp[vZ,vP,Tr.get_set,ze qhq]
def qlg(d:GData)(k:Int):AV:=if k % 4≠0∨64<=k then .tup [.i .u32 0,.i .i64 41] else .tup [.i .u32 ((xG d).getD (k / 4).toNat 0),.i .i64 0]
def qg9(a:Nat):IFn:=⟨[.tmp 4,.tmp 5],.seq (.r [.q 2 (.box (.t 0)),.m 4 (.c (.i .u32 0)),.m 5 (.k 0)]) (.seq (.seq (.r [.n 6 1,.q 7 (.bin .rem (.t 6) (.c (.i .u32 4))),.q 8 (.bin .neq (.t 7) (.c (.i .u32 0))),.n 9 8,.z 10 1 9,.g 11 (.bin .geq (.t 10) (.c (.i .u32 64))) 9 false,.o 12 9 11]) (.cond (.t 12) (.seq (.r [.m 4 (.c (.i .u32 0)),.m 5 (.k 41)]) (.ret)) (.skip))) (.seq (.r [.v 13 9 2,.l 14 a [.t 13],.n 15 1,.q 16 (.bin .quo (.t 15) (.c (.i .u32 4))),.q 17 (.idxA 16 1 false (.t 14) (.t 16)),.n 4 17,.m 5 (.k 0)]) (.ret)))⟩
theorem qC1{g:Nat}(hc:qc P f (qg9 g)=true)(hg:∀d,DatOk d->qd P g [.agg (qT d)] (.agg (rI .u32 (xG d))))(d:GData)(hd:DatOk d)(k:Int)(h0:0<=k)(h1:k<=4294967295):qd P f [.agg (qT d),.i .u32 k] (qlg d k):=by
 refine qd.mk hc rfl ?_;have h40:(4:Int)≠0:=by decide
 have ht:k.tmod 4=k % 4:=Int.tmod_eq_emod_of_nonneg h0;have hq:k.tdiv 4=k / 4:=Int.tdiv_eq_ediv_of_nonneg h0;have hg:=hg d hd;unfold qlg;simp only[qg9,qT,vI,simprocAttr] at hg ⊢
 by_cases hm:k % 4=0
 ·by_cases hb:64<=k
  ·rw[if_pos (.inr hb)];simp +decide only[↓vS,vT,simprocAttr,↓qgU h40,ht,hm,hb];simp[vZ]
  ·rw[if_neg (by omega)];have hn:(k / 4).toNat<16:=by omega
   obtain⟨x,hx⟩:∃x,(xG d)[(k / 4).toNat]?=some x:=⟨_,zzE hn⟩;rw[List.getD_eq_getElem?_getD,hx];have hk:k / 4=(((k / 4).toNat:Nat):Int):=by omega
   have hw:IntKind.wrap .u32 (k / 4)=(((k / 4).toNat:Nat):Int):=by
    show (k / 4) % 4294967296=_;omega
   simp +decide only[↓vS,vT,simprocAttr,↓qgU h40,ht,hm,hb];refine hg.sc ?_;generalize xG d=W at hx;simp +decide only[↓vS,vT,simprocAttr,↓qiM h40,hq,hw,hn,Nat.mul_one,qof,hx,Option.map_some];simp[vZ]
 ·rw[if_pos (.inl hm)];simp +decide only[↓vS,vT,simprocAttr,↓qgU h40,ht,hm];simp[vZ]


def qCN(c:Int):Bool:=!decide (x9 .u16 c 8=0)
def xX(c:Int):Bool:=(decide (qk c=3)||decide (qk c=4))&&qCN c
def qga(a:Nat):IFn:=⟨[.tmp 2],.seq (.r [.m 2 .F]) (.seq (.r [.n 6 0,.l 7 a [.t 6],.n 5 7,.x 8 5 0,.x 9 5 1,.q 3 (.alloc [.i .u16 0,.s [],.i .u8 0]),.u (.store 3 (.t 3) (.t 8)),.n 4 9]) (.seq (.r [.n 10 4,.n 11 10,.h 12 2 3 11 true,.j 13 12 11 true,.g 14 (.bin .eql (.t 13) (.c (.i .u8 3))) 11 true,.y 15 14 11,.h 16 2 3 15 false,.j 17 16 15 false,.g 18 (.bin .eql (.t 17) (.c (.i .u8 4))) 15 false,.g 19 (.pick (.t 15) .T (.t 18)) 11 true,.p 20 11 19,.n 21 20,.y 22 0 21,.g 23 (.bin .and (.t 22) (.c (.i .u16 8))) 21 true,.g 24 (.bin .neq (.t 23) (.c (.i .u16 0))) 21 true,.p 25 21 24,.n 2 25]) (.ret)))⟩
theorem qBJ{g:Nat}(hc:qc P f (qga g)=true)(hg:∀n,qd P g [.i .u16 n] (.tup [.agg (qe3 (qaF n)),.b (z9 n)]))(c:Int):qd P f [.i .u16 c] (.b (xX c)):=by
 refine qd.mk hc rfl ?_
 have hcl:(qe3 (qaF c)).length=3∧(qe3 (qaF c))[2]?=some (.i .u8 (qk c))∧qA (qe3 (qaF c))=true:=by
  unfold qk;cases qaF c<;>exact⟨rfl,rfl,rfl⟩
 have hk:z9 c=false->qk c=0:=by unfold z9 qk;cases qaF c<;>simp
 have hgc:=hg c;generalize qe3 (qaF c)=E at hcl hgc;obtain⟨he1,he2,he3⟩:=hcl;unfold xX qCN;simp only[qga,vI,simprocAttr];simp +decide only[↓vS,vT,simprocAttr];refine hgc.sc ?_;cases hkn:z9 c with
 | false =>
  have h0:=hk hkn;simp +decide only[↓vS,vT,simprocAttr,he1,he3];simp[vZ,h0]
 | true =>
  by_cases h3:qk c=3
  ·simp +decide only[↓vS,vT,simprocAttr,he1,he2,he3,h3];simp[vZ,h3]
  by_cases h4:qk c=4
  ·simp +decide only[↓vS,vT,simprocAttr,he1,he2,he3,h3,h4];simp[vZ,h4]
  ·simp +decide only[↓vS,vT,simprocAttr,he1,he2,he3,h3,h4];simp[vZ,h3,h4]
def qc4(left:Bool):Nat->Int->Int
 | 0,a=>a
 | n+1,a=>qc4 left n (if left=true then a*2 % 4294967296 else a / 2)
theorem qjD:∀(n:Nat) (a:Int),0<=a->a<=4294967295->qc4 true n a=a*2 ^ n % 4294967296
 | 0,a,h0,h1=>by show a=a*1 % 4294967296;omega
 | n+1,a,h0,h1=>by
  show qc4 true n (a*2 % 4294967296)=_;rw[qjD n _ (by omega) (by omega),Int.pow_succ,Int.mul_emod,Int.emod_emod,← Int.mul_emod,Int.mul_assoc,Int.mul_comm 2]
theorem qip:∀(n:Nat) (a:Int),0<=a->qc4 false n a=a / 2 ^ n
 | 0,a,_=>by show a=a / 1;omega
 | n+1,a,h0=>by
  show qc4 false n (a / 2)=_;rw[qip n _ (by omega),Int.ediv_ediv_of_nonneg (by decide),Int.pow_succ,Int.mul_comm]
structure Mac where
 a:Int
 x:Int
 told:Int
 cl:List Int
 over:Bool
def u32(x:Int):Prop:=0<=x∧x<=4294967295
structure MacOk (m:Mac):Prop where
 a:u32 m.a
 x:u32 m.x
 told:u32 m.told
 len:m.cl.length=16
 cl:∀c ∈ m.cl,u32 c
def qfk(i:Ins):Bool:=decide (i.code=96)||decide (i.code=97)||decide (i.code=2)||decide (i.code=3)
def qdg(m:Mac)(i:Ins)(d:GData):Mac×Int :=
 if qfk i=true∧15<i.k then (m,43)
 else if i.code=32 then (if i.k % 4≠0∨64<=i.k then (m,41) else ({ m with a:=(xG d).getD (i.k / 4).toNat 0 },0))
 else if i.code=128 then ({ m with a:=64 },0)
 else if i.code=129 then ({ m with x:=64 },0)
 else if i.code=0 then ({ m with a:=i.k },0)
 else if i.code=1 then ({ m with x:=i.k },0)
 else if i.code=96 then ({ m with a:=m.cl.getD i.k.toNat 0 },0)
 else if i.code=97 then ({ m with x:=m.cl.getD i.k.toNat 0 },0)
 else if i.code=2 then ({ m with cl:=m.cl.set i.k.toNat m.a },0)
 else if i.code=3 then ({ m with cl:=m.cl.set i.k.toNat m.x },0)
 else if i.code=7 then ({ m with x:=m.a },0)
 else if i.code=135 then ({ m with a:=m.x },0)
 else (m,0)
def qrX(P:Program)(g:Nat):Prop:=∀d,DatOk d->∀k:Int,0<=k->k<=4294967295->qd P g [.agg (qT d),.i .u32 k] (qlg d k)
def opM(c a b:Int):Int :=
 if c=4 then IntKind.wrap .u32 (a+b) else if c=20 then IntKind.wrap .u32 (a-b) else if c=36 then IntKind.wrap .u32 (a*b)
 else if c=68 then orI .u32 a b else if c=84 then x9 .u32 a b else if c=164 then qBK .u32 a b else IntKind.wrap .u32 (0-a)
def qcv(m:Mac)(i:Ins):Int:=if xX i.code=true then m.x else i.k
def qM(c:Int):Int:=if xX c=true then c-8 else c
def nuM(m:Mac)(i:Ins):Mac×Int :=
 if qM i.code=52 then (if 0<qcv m i then ({ m with a:=m.a / qcv m i },0) else if xX i.code=true then ({ m with over:=true },0) else (m,44))
 else if qM i.code=100∨qM i.code=116 then (if xX i.code=false∧31<qcv m i then (m,45) else ({ m with a:=qc4 (decide (qM i.code=100)) (qcv m i % 32).toNat m.a },0))
 else ({ m with a:=opM (qM i.code) m.a (qcv m i) },0)
def c3L:List Int:=[4,12,20,28,36,44,52,60,68,76,84,92,100,108,116,124,164,172,132]
theorem quB:∀x ∈ qaC,x.2.2=3->c3L.contains x.1=true:=by decide
def cWX(P:Program)(g:Nat):Prop:=∀c:Int,qd P g [.i .u16 c] (.b (xX c))
def qbL(c a b:Int):Bool:=if c=21 then decide (a=b) else if c=37 then decide (b<a) else if c=53 then decide (b<=a) else decide (0<x9 .u32 a b)
def qgm(m:Mac)(i:Ins):Int:=if i.code=5 then i.k else if qbL (qM i.code) m.a (qcv m i)=true then i.jt else i.jf
def c4L:List Int:=[21,29,37,45,53,61,69,77,5]
theorem qBt:∀x ∈ qaC,x.2.2=4->c4L.contains x.1=true:=by decide
def qpz(m:Mac)(i:Ins):Mac:={ m with over:=true,told:=if i.code=22 then m.a else i.k }
def doR(m:Mac)(i:Ins)(d:GData):Mac×Int×Int :=
 if z9 i.code=false then (m,0,40)
 else if qk i.code=1∨qk i.code=2∨qk i.code=6 then ((qdg m i d).1,0,(qdg m i d).2)
 else if qk i.code=3 then ((nuM m i).1,0,(nuM m i).2)
 else if qk i.code=4 then (m,qgm m i,0)
 else (qpz m i,0,0)
theorem qcd(x:Int):u32 (IntKind.wrap .u32 x):=by show 0<=x % 4294967296∧x % 4294967296<=4294967295;omega
theorem qm4(left:Bool):∀(n:Nat) (a:Int),u32 a->u32 (qc4 left n a)
 | 0,_,h=>h
 | n+1,a,h=>by
  refine qm4 left n _ ?_;unfold u32 at h ⊢;split<;>omega
theorem qkl{d:GData}(hd:DatOk d){x:Int}(hm:x ∈ xG d):u32 x:=by
 unfold xG at hm;rcases List.mem_cons.1 hm with rfl|hm
 ·exact⟨hd.nr0,hd.nr1⟩
 rcases List.mem_cons.1 hm with rfl|hm
 ·exact⟨hd.ar0,hd.ar1⟩
 obtain⟨y,hy,hm⟩:=List.mem_flatMap.1 hm;have:=hd.wid y hy;simp only[List.mem_cons,List.not_mem_nil,or_false] at hm;unfold u32;rcases hm with rfl|rfl
 ·unfold loW;omega
 ·unfold hiW;omega
theorem qg5{l:List Int}(h:∀c ∈ l,u32 c)(j:Nat):u32 (l.getD j 0):=by
 rw[List.getD_eq_getElem?_getD];cases hx:l[j]? with
 | none=>exact⟨Int.le_refl _,by decide⟩
 | some x=>exact h x (zzM hx)
theorem qtg{m:Mac}(hm:MacOk m){i:Ins}(hi:InsOk i){d:GData}(hd:DatOk d):MacOk (qdg m i d).1:=by
 have hk:u32 i.k:=⟨hi.k0,hi.k1⟩;have h64:u32 64:=⟨by decide,by decide⟩
 unfold qdg
 by_cases c1:qfk i=true∧15<i.k
 ·rw[if_pos c1];exact hm
 rw[if_neg c1]
 by_cases c2:i.code=32
 ·rw[if_pos c2]
  by_cases c3:i.k % 4≠0∨64<=i.k
  ·rw[if_pos c3];exact hm
  ·rw[if_neg c3];exact⟨qg5 (fun c hc=>qkl hd hc) _,hm.x,hm.told,hm.len,hm.cl⟩
 rw[if_neg c2]
 by_cases d1:i.code=128
 ·rw[if_pos d1];exact⟨h64,hm.x,hm.told,hm.len,hm.cl⟩
 rw[if_neg d1]
 by_cases d2:i.code=129
 ·rw[if_pos d2];exact⟨hm.a,h64,hm.told,hm.len,hm.cl⟩
 rw[if_neg d2]
 by_cases d3:i.code=0
 ·rw[if_pos d3];exact⟨hk,hm.x,hm.told,hm.len,hm.cl⟩
 rw[if_neg d3]
 by_cases d4:i.code=1
 ·rw[if_pos d4];exact⟨hm.a,hk,hm.told,hm.len,hm.cl⟩
 rw[if_neg d4]
 by_cases d5:i.code=96
 ·rw[if_pos d5];exact⟨qg5 hm.cl _,hm.x,hm.told,hm.len,hm.cl⟩
 rw[if_neg d5]
 by_cases d6:i.code=97
 ·rw[if_pos d6];exact⟨hm.a,qg5 hm.cl _,hm.told,hm.len,hm.cl⟩
 rw[if_neg d6]
 by_cases d7:i.code=2
 ·rw[if_pos d7];exact⟨hm.a,hm.x,hm.told,by simpa using hm.len,fun c hc=>(List.mem_or_eq_of_mem_set hc).elim (hm.cl c) (fun e=>e ▸ hm.a)⟩
 rw[if_neg d7]
 by_cases d8:i.code=3
 ·rw[if_pos d8];exact⟨hm.a,hm.x,hm.told,by simpa using hm.len,fun c hc=>(List.mem_or_eq_of_mem_set hc).elim (hm.cl c) (fun e=>e ▸ hm.x)⟩
 rw[if_neg d8]
 by_cases d9:i.code=7
 ·rw[if_pos d9];exact⟨hm.a,hm.a,hm.told,hm.len,hm.cl⟩
 rw[if_neg d9]
 by_cases d10:i.code=135
 ·rw[if_pos d10];exact⟨hm.x,hm.x,hm.told,hm.len,hm.cl⟩
 rw[if_neg d10];exact hm
theorem qAy(c a b:Int):u32 (opM c a b):=by
 unfold opM;split
 ·exact qcd _
 split
 ·exact qcd _
 split
 ·exact qcd _
 split
 ·exact qcd _
 split
 ·exact qcd _
 split
 ·exact qcd _
 ·exact qcd _
theorem qAn{m:Mac}(hm:MacOk m)(i:Ins):MacOk (nuM m i).1:=by
 unfold nuM;split
 ·split
  ·rename_i hb;have h1:m.a / qcv m i<=m.a:=Int.ediv_le_self _ hm.a.1;have h2:0<=m.a / qcv m i:=Int.ediv_nonneg hm.a.1 (by omega);have h3:=hm.a.2;exact⟨⟨h2,by show m.a / qcv m i<=4294967295;omega⟩,hm.x,hm.told,hm.len,hm.cl⟩
  split
  ·exact⟨hm.a,hm.x,hm.told,hm.len,hm.cl⟩
  ·exact hm
 split
 ·split
  ·exact hm
  ·exact⟨qm4 _ _ _ hm.a,hm.x,hm.told,hm.len,hm.cl⟩
 ·exact⟨qAy _ _ _,hm.x,hm.told,hm.len,hm.cl⟩
theorem qsZ{m:Mac}{i:Ins}(hi:InsOk i):u32 (qgm m i):=by
 have:=hi.t0;have:=hi.t1;have:=hi.f0;have:=hi.f1;have:=hi.k0;have:=hi.k1
 unfold qgm u32;split
 ·omega
 split<;>omega
theorem qzo{m:Mac}(hm:MacOk m){i:Ins}(hi:InsOk i){d:GData}(hd:DatOk d):MacOk (doR m i d).1∧u32 (doR m i d).2.1:=by
 have h0:u32 0:=⟨by decide,by decide⟩
 unfold doR;split
 ·exact⟨hm,h0⟩
 split
 ·exact⟨qtg hm hi hd,h0⟩
 split
 ·exact⟨qAn hm i,h0⟩
 split
 ·exact⟨hm,qsZ hi⟩
 ·refine⟨⟨hm.a,hm.x,?_,hm.len,hm.cl⟩,h0⟩;show u32 (if i.code=22 then m.a else i.k)
  split
  ·exact hm.a
  ·exact⟨hi.k0,hi.k1⟩
def qj2(p:List Ins)(d:GData):Nat->Mac->Nat->Int->List Nat->Int×Nat×List Nat×Int
 | 0,_,_,_,l=>(0,0,l,0)
 | n+1,m,at',bh,l=>match p[at']? with
  | none=>(0,l.length,l,bh)
  | some i=>if (doR m i d).2.2≠0 then (0,l.length,l++[at'],(doR m i d).2.2)
   else if (doR m i d).1.over=true then ((doR m i d).1.told,l.length+1,l++[at'],0)
   else qj2 p d n (doR m i d).1 (at'+1+(doR m i d).2.1.toNat) (if qk i.code=4 then 42 else 46) (l++[at'])
def qtl:Mac:=⟨0,0,0,List.replicate 16 0,false⟩
theorem qr1{d:GData}:List.take 9 (List.drop 0 (qT d))=qT d:=rfl
theorem qxW{d:GData}:9<=(qT d).length:=Nat.le_refl 9
theorem qls{d:GData}:qu (qT d)=true:=rfl
theorem qwr:MacOk qtl:=⟨⟨by decide,by decide⟩,⟨by decide,by decide⟩,⟨by decide,by decide⟩,rfl,fun c hc=>by
 have:=List.eq_of_mem_replicate hc;subst this;exact⟨by decide,by decide⟩⟩
theorem qh6{p:List Ins}{d:GData}{n:Nat}{m:Mac}{at':Nat}{bh:Int}{l:List Nat}:qj2 p d (n+1) m at' bh l=match p[at']? with
  | none=>(0,l.length,l,bh)
  | some i=>if (doR m i d).2.2≠0 then (0,l.length,l++[at'],(doR m i d).2.2)
   else if (doR m i d).1.over=true then ((doR m i d).1.told,l.length+1,l++[at'],0)
   else qj2 p d n (doR m i d).1 (at'+1+(doR m i d).2.1.toNat) (if qk i.code=4 then 42 else 46) (l++[at']):=rfl
def qgd:IFn:=⟨[.tmp 4],.seq (.r [.m 4 (.c (.i .u32 0))]) (.seq (.r [.n 5 0,.n 6 1,.b 7 .add 5 6,.n 4 7]) (.ret))⟩
theorem qFE(hc:qc P f qgd=true)(a b:Int):qd P f [.i .u32 a,.i .u32 b] (.i .u32 (opM 4 a b)):=by
 refine qd.mk hc rfl ?_;simp only[qgd,vI,simprocAttr];simp +decide only[↓vS,vT,simprocAttr];simp[vZ,opM]
def qge:IFn:=⟨[.tmp 4],.seq (.r [.m 4 (.c (.i .u32 0))]) (.seq (.r [.n 5 0,.n 6 1,.b 7 .sub 5 6,.n 4 7]) (.ret))⟩
theorem qFF(hc:qc P f qge=true)(a b:Int):qd P f [.i .u32 a,.i .u32 b] (.i .u32 (opM 20 a b)):=by
 refine qd.mk hc rfl ?_;simp only[qge,vI,simprocAttr];simp +decide only[↓vS,vT,simprocAttr];simp[vZ,opM]
def qgf:IFn:=⟨[.tmp 4],.seq (.r [.m 4 (.c (.i .u32 0))]) (.seq (.r [.n 5 0,.n 6 1,.b 7 .mul 5 6,.n 4 7]) (.ret))⟩
theorem qFG(hc:qc P f qgf=true)(a b:Int):qd P f [.i .u32 a,.i .u32 b] (.i .u32 (opM 36 a b)):=by
 refine qd.mk hc rfl ?_;simp only[qgf,vI,simprocAttr];simp +decide only[↓vS,vT,simprocAttr];simp[vZ,opM]
def qgh:IFn:=⟨[.tmp 4],.seq (.r [.m 4 (.c (.i .u32 0))]) (.seq (.r [.n 5 0,.n 6 1,.b 7 .or 5 6,.n 4 7]) (.ret))⟩
theorem qFI(hc:qc P f qgh=true)(a b:Int):qd P f [.i .u32 a,.i .u32 b] (.i .u32 (opM 68 a b)):=by
 refine qd.mk hc rfl ?_;simp only[qgh,vI,simprocAttr];simp +decide only[↓vS,vT,simprocAttr];simp[vZ,opM]
def qgi:IFn:=⟨[.tmp 4],.seq (.r [.m 4 (.c (.i .u32 0))]) (.seq (.r [.n 5 0,.n 6 1,.b 7 .and 5 6,.n 4 7]) (.ret))⟩
theorem qFJ(hc:qc P f qgi=true)(a b:Int):qd P f [.i .u32 a,.i .u32 b] (.i .u32 (opM 84 a b)):=by
 refine qd.mk hc rfl ?_;simp only[qgi,vI,simprocAttr];simp +decide only[↓vS,vT,simprocAttr];simp[vZ,opM]
def qgl:IFn:=⟨[.tmp 4],.seq (.r [.m 4 (.c (.i .u32 0))]) (.seq (.r [.n 5 0,.n 6 1,.b 7 .xor 5 6,.n 4 7]) (.ret))⟩
theorem qFM(hc:qc P f qgl=true)(a b:Int):qd P f [.i .u32 a,.i .u32 b] (.i .u32 (opM 164 a b)):=by
 refine qd.mk hc rfl ?_;simp only[qgl,vI,simprocAttr];simp +decide only[↓vS,vT,simprocAttr];simp[vZ,opM]
def qff:IFn:=⟨[.tmp 4],.seq (.r [.m 4 (.c (.i .u32 0))]) (.seq (.r [.n 5 0,.q 6 (.un .neg (.t 5)),.n 4 6]) (.ret))⟩
theorem qE2(hc:qc P f qff=true)(a b:Int):qd P f [.i .u32 a,.i .u32 b] (.i .u32 (opM 132 a b)):=by
 refine qd.mk hc rfl ?_;simp only[qff,vI,simprocAttr];simp +decide only[↓vS,vT,simprocAttr];simp[vZ,opM]
def qgg:IFn:=⟨[.tmp 4],.seq (.r [.m 4 (.c (.i .u32 0))]) (.seq (.r [.n 5 0,.n 6 1,.q 7 (.max (.t 6) (.c (.i .u32 1))),.b 8 .quo 5 7,.n 4 8]) (.ret))⟩
theorem qFH(hc:qc P f qgg=true)(a b:Int)(a0:0<=a)(a1:a<=4294967295)(b0:0<b):qd P f [.i .u32 a,.i .u32 b] (.i .u32 (a / b)):=by
 refine qd.mk hc rfl ?_;have h1:¬b<1:=by omega
 have hne:b≠0:=by omega
 have hq:a.tdiv b=a / b:=Int.tdiv_eq_ediv_of_nonneg a0;have hle:a / b<=a:=Int.ediv_le_self _ a0;have hge:0<=a / b:=Int.ediv_nonneg a0 (by omega);have hwq:IntKind.wrap .u32 (a / b)=a / b:=by show (a / b) % 4294967296=_;omega
 simp only[qgg,vI,simprocAttr];simp +decide only[↓vS,vT,simprocAttr,h1,↓qiM hne,hq,hwq];simp[vZ]
def qgj:IFn:=⟨[.tmp 4],.seq (.r [.m 4 (.c (.i .u32 0))]) (.seq (.r [.n 5 0,.n 6 1,.q 7 (.bin .rem (.t 6) (.c (.i .u32 32))),.b 8 .shl 5 7,.n 4 8]) (.ret))⟩
theorem qFK(hc:qc P f qgj=true)(a b:Int)(a0:0<=a)(a1:a<=4294967295)(b0:0<=b):qd P f [.i .u32 a,.i .u32 b] (.i .u32 (qc4 true (b % 32).toNat a)):=by
 refine qd.mk hc rfl ?_;have h32:(32:Int)≠0:=by decide
 have hr:b.tmod 32=b % 32:=Int.tmod_eq_emod_of_nonneg b0;have hp:0<=b % 32:=by omega
 have hm:min (b % 32).toNat 32=(b % 32).toNat:=by omega
 have hsh:qBe .u32 a (b % 32)=qc4 true (b % 32).toNat a:=by
  rw[qjD (b % 32).toNat a a0 a1];unfold qBe;rw[show IntKind.bits .u32=32 from rfl,hm]
  rfl
 simp only[qgj,vI,simprocAttr];simp +decide only[↓vS,vT,simprocAttr,↓qgU h32,hr,hp,hsh];simp[vZ]
def qgk:IFn:=⟨[.tmp 4],.seq (.r [.m 4 (.c (.i .u32 0))]) (.seq (.r [.n 5 0,.n 6 1,.q 7 (.bin .rem (.t 6) (.c (.i .u32 32))),.b 8 .shr 5 7,.n 4 8]) (.ret))⟩
theorem qFL(hc:qc P f qgk=true)(a b:Int)(a0:0<=a)(a1:a<=4294967295)(b0:0<=b):qd P f [.i .u32 a,.i .u32 b] (.i .u32 (qc4 false (b % 32).toNat a)):=by
 refine qd.mk hc rfl ?_;have h32:(32:Int)≠0:=by decide
 have hr:b.tmod 32=b % 32:=Int.tmod_eq_emod_of_nonneg b0;have hp:0<=b % 32:=by omega
 have hm:min (b % 32).toNat 32=(b % 32).toNat:=by omega
 have hsh:quv .u32 a (b % 32)=qc4 false (b % 32).toNat a:=by
  rw[qip (b % 32).toNat a a0];unfold quv;rw[show IntKind.bits .u32=32 from rfl,hm]
  exact Int.fdiv_eq_ediv_of_nonneg _ (Int.le_of_lt (Int.pow_pos (by decide)))
 simp only[qgk,vI,simprocAttr];simp +decide only[↓vS,vT,simprocAttr,↓qgU h32,hr,hp,hsh];simp[vZ]
def qfg:IFn:=⟨[.tmp 4],.seq (.r [.m 4 .F]) (.seq (.r [.n 5 0,.n 6 1,.b 7 .eql 5 6,.n 4 7]) (.ret))⟩
theorem qE3(hc:qc P f qfg=true)(a b:Int):qd P f [.i .u32 a,.i .u32 b] (.b (qbL 21 a b)):=by
 refine qd.mk hc rfl ?_;simp only[qfg,vI,simprocAttr];simp +decide only[↓vS,vT,simprocAttr];simp[vZ,qbL]
def qfh:IFn:=⟨[.tmp 4],.seq (.r [.m 4 .F]) (.seq (.r [.n 5 0,.n 6 1,.b 7 .gtr 5 6,.n 4 7]) (.ret))⟩
theorem qE4(hc:qc P f qfh=true)(a b:Int):qd P f [.i .u32 a,.i .u32 b] (.b (qbL 37 a b)):=by
 refine qd.mk hc rfl ?_;simp only[qfh,vI,simprocAttr];simp +decide only[↓vS,vT,simprocAttr];simp[vZ,qbL]
def qfi:IFn:=⟨[.tmp 4],.seq (.r [.m 4 .F]) (.seq (.r [.n 5 0,.n 6 1,.b 7 .geq 5 6,.n 4 7]) (.ret))⟩
theorem qE5(hc:qc P f qfi=true)(a b:Int):qd P f [.i .u32 a,.i .u32 b] (.b (qbL 53 a b)):=by
 refine qd.mk hc rfl ?_;simp only[qfi,vI,simprocAttr];simp +decide only[↓vS,vT,simprocAttr];simp[vZ,qbL]
theorem quW(a b:Int):0<=x9 .u32 a b:=(qcd _).1
def qfj:IFn:=⟨[.tmp 4],.seq (.r [.m 4 .F]) (.seq (.r [.n 5 0,.n 6 1,.b 7 .and 5 6,.q 8 (.bin .neq (.t 7) (.c (.i .u32 0))),.n 4 8]) (.ret))⟩
theorem qE6(hc:qc P f qfj=true)(a b:Int):qd P f [.i .u32 a,.i .u32 b] (.b (qbL 69 a b)):=by
 refine qd.mk hc rfl ?_;have h:=quW a b;simp only[qfj,vI,simprocAttr];simp +decide only[↓vS,vT,simprocAttr];simp[vZ,qbL]
 by_cases h0:0<x9 .u32 a b
 ·have h1:¬x9 .u32 a b=0:=by omega
  simp[h0,h1]
 ·have h1:x9 .u32 a b=0:=by omega
  simp[h1]
def fnO:Option Nat->AV
 | none=>.nilf
 | some g=>.fn g [] []
def qaG(x:Int×Option Nat×Option Nat):List AV:=[.i .u16 x.1,fnO x.2.1,fnO x.2.2]
theorem qk3(x:Int×Option Nat×Option Nat):(qaG x).length=3:=rfl
def qAZ(g1 g2 g3 g4 g5 g6 g7 g8 g9 g10 g11 g12 g13 g14:Nat):List (Int×Option Nat×Option Nat):=[(4,some g1,none),(20,some g2,none),(36,some g3,none),(52,some g4,none),(68,some g5,none),(84,some g6,none),(100,some g7,none),(116,some g8,none),(164,some g9,none),(132,some g10,none),(21,none,some g11),(37,none,some g12),(53,none,some g13),(69,none,some g14)]
def qin(a b c d e g h i j k l m n o:Nat):IFn:=⟨[.cell 0 42 true],.seq (.r [.q 0 (.alloc [.i .u16 0,.nilf,.nilf,.i .u16 0,.nilf,.nilf,.i .u16 0,.nilf,.nilf,.i .u16 0,.nilf,.nilf,.i .u16 0,.nilf,.nilf,.i .u16 0,.nilf,.nilf,.i .u16 0,.nilf,.nilf,.i .u16 0,.nilf,.nilf,.i .u16 0,.nilf,.nilf,.i .u16 0,.nilf,.nilf,.i .u16 0,.nilf,.nilf,.i .u16 0,.nilf,.nilf,.i .u16 0,.nilf,.nilf,.i .u16 0,.nilf,.nilf])]) (.seq (.r [.q 1 (.build [.i .u16 0,.nilf,.nilf] [(0,1,(.c (.i .u16 4))),(1,1,(.c (.fn a [] [])))]),.q 2 (.build [.i .u16 0,.nilf,.nilf] [(0,1,(.c (.i .u16 20))),(1,1,(.c (.fn b [] [])))]),.q 3 (.build [.i .u16 0,.nilf,.nilf] [(0,1,(.c (.i .u16 36))),(1,1,(.c (.fn c [] [])))]),.q 4 (.build [.i .u16 0,.nilf,.nilf] [(0,1,(.c (.i .u16 52))),(1,1,(.c (.fn d [] [])))]),.q 5 (.build [.i .u16 0,.nilf,.nilf] [(0,1,(.c (.i .u16 68))),(1,1,(.c (.fn e [] [])))]),.q 6 (.build [.i .u16 0,.nilf,.nilf] [(0,1,(.c (.i .u16 84))),(1,1,(.c (.fn g [] [])))]),.q 7 (.build [.i .u16 0,.nilf,.nilf] [(0,1,(.c (.i .u16 100))),(1,1,(.c (.fn h [] [])))]),.q 8 (.build [.i .u16 0,.nilf,.nilf] [(0,1,(.c (.i .u16 116))),(1,1,(.c (.fn i [] [])))]),.q 9 (.build [.i .u16 0,.nilf,.nilf] [(0,1,(.c (.i .u16 164))),(1,1,(.c (.fn j [] [])))]),.q 10 (.build [.i .u16 0,.nilf,.nilf] [(0,1,(.c (.i .u16 132))),(1,1,(.c (.fn k [] [])))]),.q 11 (.build [.i .u16 0,.nilf,.nilf] [(0,1,(.c (.i .u16 21))),(2,1,(.c (.fn l [] [])))]),.q 12 (.build [.i .u16 0,.nilf,.nilf] [(0,1,(.c (.i .u16 37))),(2,1,(.c (.fn m [] [])))]),.q 13 (.build [.i .u16 0,.nilf,.nilf] [(0,1,(.c (.i .u16 53))),(2,1,(.c (.fn n [] [])))]),.q 14 (.build [.i .u16 0,.nilf,.nilf] [(0,1,(.c (.i .u16 69))),(2,1,(.c (.fn o [] [])))]),.q 15 (.build [.i .u16 0,.nilf,.nilf,.i .u16 0,.nilf,.nilf,.i .u16 0,.nilf,.nilf,.i .u16 0,.nilf,.nilf,.i .u16 0,.nilf,.nilf,.i .u16 0,.nilf,.nilf,.i .u16 0,.nilf,.nilf,.i .u16 0,.nilf,.nilf,.i .u16 0,.nilf,.nilf,.i .u16 0,.nilf,.nilf,.i .u16 0,.nilf,.nilf,.i .u16 0,.nilf,.nilf,.i .u16 0,.nilf,.nilf,.i .u16 0,.nilf,.nilf] [(0,3,(.t 1)),(3,3,(.t 2)),(6,3,(.t 3)),(9,3,(.t 4)),(12,3,(.t 5)),(15,3,(.t 6)),(18,3,(.t 7)),(21,3,(.t 8)),(24,3,(.t 9)),(27,3,(.t 10)),(30,3,(.t 11)),(33,3,(.t 12)),(36,3,(.t 13)),(39,3,(.t 14))]),.u (.store 42 (.t 0) (.t 15))]) (.ret))⟩
set_option maxRecDepth 8000 in
theorem qAW{g1 g2 g3 g4 g5 g6 g7 g8 g9 g10 g11 g12 g13 g14:Nat}(hc:qc P f (qin g1 g2 g3 g4 g5 g6 g7 g8 g9 g10 g11 g12 g13 g14)=true):qd P f [] (.agg ((qAZ g1 g2 g3 g4 g5 g6 g7 g8 g9 g10 g11 g12 g13 g14).flatMap qaG)):=by
 refine qd.mk hc rfl ?_;simp only[qin,vI,simprocAttr];simp +decide only[↓vS,vT,simprocAttr];simp[vZ,vP,Tr.get_set,qAZ,qaG,fnO]
def qje(c:Int):Int:=if xX c=true then qeS .u16 c 8 else c
theorem qiT(o:Option Nat):clo (fnO o)=true:=by cases o<;>rfl
def qfe(a b:Nat):ICode:=.seq (.seq (.r [.l 9 b [],.m 10 (.k 0)]) (.blk 0 (.loop (.seq (.r [.w 11 .lss 10 14]) (.seq (.cond (.t 11) (.skip) (.exit 0)) (.seq (.blk 1 (.seq (.r [.q 12 (.idxA 14 3 true (.t 9) (.t 10)),.q 4 (.alloc [.i .u16 0,.nilf,.nilf]),.u (.store 3 (.t 4) (.t 12))]) (.seq (.r [.f 13 0 4,.d 14 13,.n 15 0,.b 16 .eql 14 15]) (.cond (.t 16) (.seq (.r [.v 17 3 4,.u (.store 3 (.t 2) (.t 17))]) (.ret)) (.skip))))) (.r [.a 18 10 1,.n 10 18]))))))) (.seq (.r [.q 19 (.build [.i .u16 0,.nilf,.nilf] []),.u (.store 3 (.t 2) (.t 19))]) (.ret))
def qm2(a b:Nat):IFn:=⟨[.cell 2 3 true],.seq (.r [.q 2 (.alloc [.i .u16 0,.nilf,.nilf])]) (.seq (.seq (.r [.n 5 0,.l 6 a [.t 5]]) (.cond (.t 6) (.r [.n 7 0,.q 8 (.bin .andNot (.t 7) (.c (.i .u16 8))),.n 0 8]) (.skip))) (.cut (qfe a b)))⟩
theorem qxR{g1 g2:Nat}(ws:List (Int×Option Nat×Option Nat))(hw:ws.length=14)(h2:qd P g2 [] (.agg (ws.flatMap qaG)))(b:Int)(r:Int×Option Nat×Option Nat)(hr:(ws.find? fun x=>decide (x.1=b))=some r)
  {t':Tr AV} {h':Hp} (hwk:Wk 0 t' h' (mkT [(0,.i .u16 b),(2,.ptr 0 0)]) (mkH 0 [.cells 0 true false [.i .u16 0,.nilf,.nilf]])) :
  S P 0 (qfe g1 g2) (qby [.cell 2 3 true] fun v' h'=>Frz h' v' (.agg (qaG r))) t' h':=by
 refine S.weak hwk (qj ?_);have hlen:(ws.flatMap qaG).length=42:=by rw[zl qk3,hw]
 have hcl:qu (ws.flatMap qaG)=true:=qay (fun x=>by simp[qaG,qu,clo,qiT])
 simp only[qfe,vI,simprocAttr];simp +decide only[↓vS,vT,simprocAttr];refine h2.sc ?_;simp +decide only[↓vS,vT,simprocAttr];refine SL.loop (α:=Nat) (fun j=>[(0,.i .u16 b),(2,.ptr 0 0),(9,.agg (ws.flatMap qaG)),(10,.i .i64 (j:Int))]) (fun _=>[.cells 0 true false [.i .u16 0,.nilf,.nilf]]) (fun j=>j<=14∧((ws.drop j).find? fun x=>decide (x.1=b))=some r) (fun j=>14-j) 0 [0] ?_ ?_ ?_ rfl ?_ ?_
 ·simp[vw,qr,hcl]
 ·simp[vw]
 ·simp
 ·exact⟨Nat.zero_le _,hr⟩
 rintro j ⟨hj,hI⟩ G ih;simp only[vI,simprocAttr]
 by_cases hlt:j<14
 ·have hlt':(j:Int)<14:=by omega
  have hjl:j<ws.length:=by omega
  have hx:ws[j]?=some ws[j]:=zzE hjl;have hw1:IntKind.wrap .i64 ((j:Int)+1)=((j+1:Nat):Int):=by rw[qy (by omega) (by omega)];omega
  have hel:=zB (f:=qaG) (m:=3) qk3 hx;have hb:j*3+3<=(ws.flatMap qaG).length:=by omega
  rw[List.drop_eq_getElem_cons hjl,List.find?_cons] at hI;generalize hc0:ws[j]=x at hel hI;simp only[qaG] at hel;generalize hT:ws.flatMap qaG=T at hel hb hlen hcl;have hf1:=qiT x.2.1;have hf2:=qiT x.2.2;have hok:qA [AV.i .u16 x.1,fnO x.2.1,fnO x.2.2]=true:=by obtain⟨_,o1,o2⟩:=x;cases o1<;>cases o2<;>rfl
  by_cases hxb:x.1=b
  ·have hd:decide (x.1=b)=true:=by simpa using hxb
   rw[hd] at hI;obtain rfl:x=r:=by simpa using hI
   have hok':qX (fnO x.2.1)=true∧qX (fnO x.2.2)=true:=by obtain⟨_,o1,o2⟩:=x;cases o1<;>cases o2<;>exact⟨rfl,rfl⟩
   simp +decide only[↓vS,vT,simprocAttr,hlt',hlt,hel,hb,hok,hok'.1,hok'.2,hxb];have fz:∀(h:Hp) (o:Option Nat),Frz h (fnO o) (fnO o):=fun h o=>Frz.self (qiT o)
   simp[vZ,qaG,hxb,fz]
  ·have hd:decide (x.1=b)=false:=by simpa using hxb
   rw[hd] at hI;simp +decide only[↓vS,vT,simprocAttr,hlt',hlt,hel,hb,hok,hxb,hw1];refine ih (j+1) ⟨hlt,hI⟩ (by omega) _ _ (Wk.mk _ _ [0] ?_ ?_ ?_ rfl)
   ·simp[vw,qr,hcl,hT]
   ·simp[vw]
   ·simp
 ·obtain rfl:j=14:=by omega
  have hd:ws.drop 14=[]:=List.drop_eq_nil_of_le (by omega);rw[hd] at hI;cases hI
theorem qEk{g1 g2:Nat}(hc:qc P f (qm2 g1 g2)=true)(h1:cWX P g1)(ws:List (Int×Option Nat×Option Nat))(hw:ws.length=14)(h2:qd P g2 [] (.agg (ws.flatMap qaG)))(c:Int)(r:Int×Option Nat×Option Nat)(hr:(ws.find? fun x=>decide (x.1=qje c))=some r) :
  qd P f [.i .u16 c] (.agg (qaG r)):=by
 refine qd.mk hc rfl ?_;have hX:=h1 c;unfold qje at hr;simp only[qm2,vI,simprocAttr];cases hx:xX c with
 | true =>
  rw[hx] at hX hr;rw[if_pos rfl] at hr;simp +decide only[↓vS,vT,simprocAttr];refine hX.sc ?_;simp +decide only[↓vS,vT,simprocAttr];refine qxR ws hw h2 (qeS .u16 c 8) r hr (Wk.mk _ _ [0] ?_ ?_ ?_ rfl)
  ·simp[vw]
  ·simp[vw]
  ·simp
 | false =>
  rw[hx] at hX hr;rw[if_neg (by simp)] at hr;simp +decide only[↓vS,vT,simprocAttr];refine hX.sc ?_;simp +decide only[↓vS,vT,simprocAttr];refine qxR ws hw h2 c r hr (Wk.mk _ _ [0] ?_ ?_ ?_ rfl)
  ·simp[vw]
  ·simp[vw]
  ·simp
def cVm(m:Mac)(d:GData):List AV:=.i .u32 m.a :: .i .u32 m.x::(rI .u32 m.cl++(qT d++[.i .u32 m.told,.b m.over]))
theorem qfE{m:Mac}{d:GData}(h:m.cl.length=16):(cVm m d).length=29:=by
 show (rI .u32 m.cl++(qT d++[AV.i .u32 m.told,AV.b m.over])).length+2=29;rw[List.length_append,qa1,h];rfl
theorem ql{m:Mac}{d:GData}:qu (cVm m d)=true:=by
 show qu (rI .u32 m.cl++(qT d++[AV.i .u32 m.told,AV.b m.over]))=true;rw[qih,qhq];rfl
def qb7(a:Nat):IFn:=⟨[.tmp 4],.seq (.r [.q 3 (.box (.t 1)),.m 4 (.c (.i .u32 0))]) (.seq (.seq (.r [.f 5 0 3,.d 6 5,.l 7 a [.t 6]]) (.cond (.t 7) (.seq (.r [.n 8 0,.q 9 (.nilChk (.t 8)),.f 10 1 9,.d 11 10,.n 4 11]) (.ret)) (.skip))) (.seq (.r [.f 12 3 3,.d 13 12,.n 4 13]) (.ret)))⟩
theorem qym{g:Nat}(hc:qc P f (qb7 g)=true)(hg:cWX P g)(m:Mac)(d:GData)(hl:m.cl.length=16)(i:Ins):Rd P f [.ptr 0 0,.agg (xH i)] [.cells 0 true false (cVm m d)] (.i .u32 (qcv m i)):=by
 refine Rd.mk hc (by simp[qaH,bnd,xH]) rfl ?_;have hX:=hg i.code;have g1:(cVm m d)[1]?=some (.i .u32 m.x):=rfl;unfold qcv;simp only[qb7,xH,vI,simprocAttr];cases hx:xX i.code with
 | true =>
  rw[hx] at hX;simp +decide only[↓vS,vT,simprocAttr];refine hX.sc ?_;simp +decide only[↓vS,vT,simprocAttr,g1]
 | false =>
  rw[hx] at hX;simp +decide only[↓vS,vT,simprocAttr];refine hX.sc ?_;simp +decide only[↓vS,vT,simprocAttr]
def qCV(P:Program)(g:Nat):Prop:=∀(m:Mac) (d:GData),m.cl.length=16->∀i:Ins,Rd P g [.ptr 0 0,.agg (xH i)] [.cells 0 true false (cVm m d)] (.i .u32 (qcv m i))
def qCQ(P:Program)(g:Nat):Prop:=∀c:Int,c4L.contains c=true->c≠5->∃(b:Int) (o:Option Nat) (k:Nat),qd P g [.i .u16 c] (.agg (qaG (b,o,some k)))∧∀x y:Int,qd P k [.i .u32 x,.i .u32 y] (.b (qbL (qM c) x y))
def qc2(a b:Nat):IFn:=⟨[.tmp 4],.seq (.r [.q 3 (.box (.t 1)),.m 4 (.k 0)]) (.seq (.blk 0 (.seq (.r [.f 6 0 3,.d 7 6,.q 8 (.bin .eql (.t 7) (.c (.i .u16 5))),.n 5 8]) (.cond (.t 5) (.seq (.r [.f 9 3 3,.d 10 9,.q 11 (.cvInt .i64 (.t 10)),.n 4 11]) (.ret)) (.seq (.reg true [.f 13 0 3,.d 14 13,.l 15 a [.t 14],.q 16 (.fld 2 none (.t 15)),.n 17 0,.q 18 (.nilChk (.t 17)),.f 19 0 18,.d 20 19,.n 21 0,.v 22 4 3,.l 23 b [.t 21,.t 22],⟨(some 24),.callV (.t 16) [.t 20,.t 23],none⟩,.n 12 24]) (.cond (.t 12) (.seq (.r [.f 25 1 3,.d 26 25,.q 27 (.cvInt .i64 (.t 26)),.n 4 27]) (.ret)) (.skip)))))) (.seq (.r [.f 28 2 3,.d 29 28,.q 30 (.cvInt .i64 (.t 29)),.n 4 30]) (.ret)))⟩
theorem qFz{g1 g2:Nat}(hc:qc P f (qc2 g1 g2)=true)(h1:qCQ P g1)(h2:qCV P g2)(m:Mac)(d:GData)(hl:m.cl.length=16)(i:Ins)(hi:InsOk i)(hcls:qk i.code=4) :
  Upd P f [.ptr 0 0,.agg (xH i)] [.cells 0 true false (cVm m d)] (.i .i64 (qgm m i)) [.cells 0 true false (cVm m d)]:=by
 refine Upd.mk hc (by simp[qaH,bnd,xH]) (by simp) ?_;have g0:(cVm m d)[0]?=some (.i .u32 m.a):=rfl;have wk:IntKind.wrap .i64 i.k=i.k:=by have:=hi.k0;have:=hi.k1;exact qy (by omega) (by omega)
 have wt:IntKind.wrap .i64 i.jt=i.jt:=by have:=hi.t0;have:=hi.t1;exact qy (by omega) (by omega)
 have wf:IntKind.wrap .i64 i.jf=i.jf:=by have:=hi.f0;have:=hi.f1;exact qy (by omega) (by omega)
 have hmem:c4L.contains i.code=true:=by
  unfold qk at hcls;cases hcm:qaF i.code with
  | none=>rw[hcm] at hcls;cases hcls
  | some x =>
   rw[hcm] at hcls;obtain⟨q1,q2⟩:=qcD hcm;rw[← q2];exact qBt x q1 hcls
 have hsec:=h2 m d hl i;unfold qgm;simp only[qc2,xH,vI,simprocAttr] at hsec ⊢
 by_cases c5:i.code=5
 ·simp +decide only[↓vS,vT,simprocAttr,c5,wk];intro _;refine⟨[0],?_⟩;simp[vw,qr,ql]
 obtain⟨b,o,k,hby,hho⟩:=h1 i.code hmem c5;simp only[qaG] at hby;rw[if_neg c5];simp +decide only[↓vS,vT,simprocAttr,c5];refine xb ?_;simp +decide only[↓vS,vT,simprocAttr];refine hby.pc ?_;simp +decide only[↓vS,vT,simprocAttr,fnO,g0];refine hsec.pc (vs:=[.ptr 0 0,.agg [.i .u16 i.code,.i .u8 i.jt,.i .u8 i.jf,.i .u32 i.k]]) [0] (Lent.of (by decide) ?_) ?_
 ·simp[vL,vw,jd ql,zo ql]
 simp +decide only[↓vS,vT,simprocAttr];refine (hho m.a (qcv m i)).pc ?_;simp only[Hp.up,Hp.down];cases hh:qbL (qM i.code) m.a (qcv m i) with
 | true =>
  simp +decide only[↓vS,vT,simprocAttr,wt];intro _;refine⟨[0],?_⟩;simp[vw,qr,ql]
 | false =>
  simp +decide only[↓vS,vT,simprocAttr,wf];intro _;refine⟨[0],?_⟩;simp[vw,qr,ql]
theorem qmu{m:Mac}{d:GData}(h:m.cl.length=16)(v:Bool):List.take 28 (cVm m d)++(AV.b v::List.drop 29 (cVm m d))=cVm { m with over:=v } d:=by
 have e:List.take 26 (rI .u32 m.cl++(qT d++[AV.i .u32 m.told,AV.b m.over]))++(AV.b v::List.drop 27 (rI .u32 m.cl++(qT d++[AV.i .u32 m.told,AV.b m.over])))=rI .u32 m.cl++(qT d++[AV.i .u32 m.told,AV.b v]):=by
  have hl:(rI .u32 m.cl).length=16:=by rw[qa1,h]
  rw[List.take_append,hl,List.take_of_length_le (by rw[hl];decide),List.drop_eq_nil_of_le (by rw[List.length_append,hl];exact Nat.le_refl 27),List.append_assoc];rfl
 show AV.i .u32 m.a::AV.i .u32 m.x::(List.take 26 (rI .u32 m.cl++(qT d++[AV.i .u32 m.told,AV.b m.over]))++(AV.b v::List.drop 27 (rI .u32 m.cl++(qT d++[AV.i .u32 m.told,AV.b m.over]))))=_;rw[e];rfl
def qxh(c a b:Int):Int:=if c=52 then a / b else if c=100∨c=116 then qc4 (decide (c=100)) (b % 32).toNat a else opM c a b
def qCR(P:Program)(g:Nat):Prop:=∀c:Int,c3L.contains c=true->∃(b:Int) (k:Nat) (o:Option Nat),qd P g [.i .u16 c] (.agg (qaG (b,some k,o)))∧∀x y:Int,u32 x->u32 y->(qM c=52->0<y)->qd P k [.i .u32 x,.i .u32 y] (.i .u32 (qxh (qM c) x y))
theorem qoy:∀c:Int,c3L.contains c=true->(qM c=52↔c=52∨c=60)∧(qM c=100↔c=100∨c=108)∧(qM c=116↔c=116∨c=124)∧(xX c=true↔c≠132∧8<=c % 16):=by
 intro c h;have key:∀c ∈ c3L,(qM c=52↔c=52∨c=60)∧(qM c=100↔c=100∨c=108)∧(qM c=116↔c=116∨c=124)∧(xX c=true↔c≠132∧8<=c % 16):=by decide
 exact key c (by simpa using h)
def qb6(a b c:Nat):IFn:=⟨[],.seq (.r [.q 3 (.box (.t 1))]) (.seq (.r [.n 5 0,.v 6 4 3,.l 7 a [.t 5,.t 6],.n 4 7]) (.blk 0 (.seq (.r [.f 22 0 3,.d 23 22,.q 24 (.bin .eql (.t 23) (.c (.i .u16 52))),.n 25 24,.y 26 4 25,.g 27 (.bin .eql (.t 26) (.c (.i .u32 0))) 25 true,.p 28 25 27,.n 21 28]) (.cond (.t 21) (.r [.l 29 b [.k 44]]) (.seq (.r [.f 31 0 3,.d 32 31,.q 33 (.bin .eql (.t 32) (.c (.i .u16 60))),.n 34 33,.y 35 4 34,.g 36 (.bin .eql (.t 35) (.c (.i .u32 0))) 34 true,.p 37 34 36,.n 30 37]) (.cond (.t 30) (.r [.n 38 0,.q 39 (.nilChk (.t 38)),.f 40 28 39,.u (.store 1 (.t 40) .T)]) (.seq (.r [.f 42 0 3,.d 43 42,.q 44 (.bin .eql (.t 43) (.c (.i .u16 100))),.n 45 44,.h 46 0 3 45 false,.j 47 46 45 false,.g 48 (.bin .eql (.t 47) (.c (.i .u16 116))) 45 false,.o 49 45 48,.n 50 49,.y 51 4 50,.g 52 (.bin .gtr (.t 51) (.c (.i .u32 31))) 50 true,.p 53 50 52,.n 41 53]) (.cond (.t 41) (.r [.l 54 b [.k 45]]) (.reg true [.n 8 0,.f 9 0 3,.d 10 9,.l 11 c [.t 10],.q 12 (.fld 1 none (.t 11)),.n 13 0,.q 14 (.nilChk (.t 13)),.f 15 0 14,.d 16 15,.n 17 4,⟨(some 18),.callV (.t 12) [.t 16,.t 17],none⟩,.q 19 (.nilChk (.t 8)),.f 20 0 19,.u (.store 1 (.t 20) (.t 18))])))))))))⟩
theorem qEc{g1 g2 g3:Nat}(hc:qc P f (qb6 g1 g2 g3)=true)(h1:qCV P g1)(h3:qCR P g3)(m:Mac)(hm:MacOk m)(d:GData)(i:Ins)(hi:InsOk i)(hcls:qk i.code=3)(hz:(nuM m i).2=0) :
  Upd P f [.ptr 0 0,.agg (xH i)] [.cells 0 true false (cVm m d)] (.tup []) [.cells 0 true false (cVm (nuM m i).1 d)]:=by
 refine Upd.mk hc (by simp[qaH,bnd,xH]) (by simp) ?_;have hl:=qfE (d:=d) hm.len;have g0:(cVm m d)[0]?=some (.i .u32 m.a):=rfl;have s0:∀v:Int,AV.i .u32 v::List.drop 1 (cVm m d)=cVm { m with a:=v } d:=fun _=>rfl
 have so:=qmu (d:=d) hm.len true
 have hmem:c3L.contains i.code=true:=by
  unfold qk at hcls;cases hcm:qaF i.code with
  | none=>rw[hcm] at hcls;cases hcls
  | some x =>
   rw[hcm] at hcls;obtain⟨q1,q2⟩:=qcD hcm;rw[← q2];exact quB x q1 hcls
 obtain⟨e52,e100,e116,eX⟩:=qoy i.code hmem
 have hB:u32 (qcv m i):=by
  unfold qcv;split
  ·exact hm.x
  ·exact⟨hi.k0,hi.k1⟩
 obtain⟨b,k,o,hby,hres⟩:=h3 i.code hmem;have hsec:=h1 m d hm.len i;have hr:=hres m.a (qcv m i) hm.a hB;have hb0:=hB.1;unfold nuM at hz ⊢;simp only[qaG] at hby;simp only[qb6,xH,vI,simprocAttr] at hsec ⊢;generalize qcv m i=y at hz hsec hr hb0 ⊢;simp +decide only[↓vS,vT,simprocAttr];refine hsec.sc (vs:=[.ptr 0 0,.agg [.i .u16 i.code,.i .u8 i.jt,.i .u8 i.jf,.i .u32 i.k]]) [0] (Lent.of (by decide) ?_) ?_
 ·simp[vL,vw,jd ql,zo ql]
 by_cases c60:i.code=60∧y=0
 ·have b52:=e52.2 (.inr c60.1);have hX:xX i.code=true:=eX.2 (by rw[c60.1];decide);rw[if_pos b52,if_neg (by omega),if_pos hX];simp +decide only[↓vS,vT,simprocAttr,c60.1,c60.2,hl,so];intro _;refine⟨[0],?_⟩;simp[vw,qr,ql]
 have h52:i.code=52->y≠0:=fun hc52 h0=>by
  have b52:=e52.2 (.inl hc52);have hX:¬xX i.code=true:=fun h=>by have:=(eX.1 h).2;rw[hc52] at this;omega
  rw[if_pos b52,if_neg (by omega),if_neg hX] at hz;cases hz
 have h60:i.code=60->y≠0:=fun hc60 h0=>c60 ⟨hc60,h0⟩
 have hsh:(i.code=100∨i.code=116)->y<=31:=fun hs=>by
  have hX:xX i.code=false:=by
   cases h:xX i.code with
   | false=>rfl
   | true =>
    have:=(eX.1 h).2;rcases hs with hs|hs<;>(rw[hs] at this;omega)
  have hb:qM i.code=100∨qM i.code=116:=hs.elim (fun h=>.inl (e100.2 (.inl h))) (fun h=>.inr (e116.2 (.inl h)))
  have hn:¬qM i.code=52:=by rcases hb with hb|hb<;>(rw[hb];decide)
  rw[if_neg hn,if_pos hb] at hz
  by_cases h31:31<y
  ·rw[if_pos ⟨hX,h31⟩] at hz;cases hz
  ·omega
 have hnu:(if qM i.code=52 then (if 0<y then (({ m with a:=m.a / y }:Mac),(0:Int)) else if xX i.code=true then ({ m with over:=true },0) else (m,44)) else if qM i.code=100∨qM i.code=116 then (if xX i.code=false∧31<y then (m,45) else ({ m with a:=qc4 (decide (qM i.code=100)) (y % 32).toNat m.a },0)) else ({ m with a:=opM (qM i.code) m.a y },0)).1={ m with a:=qxh (qM i.code) m.a y }:=by
  unfold qxh
  by_cases b52:qM i.code=52
  ·have hy:0<y:=by
    rcases e52.1 b52 with h|h
    ·have:=h52 h;omega
    ·have:=h60 h;omega
   rw[if_pos b52,if_pos hy,if_pos b52]
  ·rw[if_neg b52,if_neg b52]
   by_cases bs:qM i.code=100∨qM i.code=116
   ·rw[if_pos bs,if_pos bs,if_neg];rintro⟨hX,h31⟩
    have hc:i.code=100∨i.code=116:=by
     rcases bs with bs|bs
     ·rcases e100.1 bs with h|h
      ·exact .inl h
      ·have:xX i.code=true:=eX.2 (by rw[h];decide);rw[hX] at this;cases this
     ·rcases e116.1 bs with h|h
      ·exact .inr h
      ·have:xX i.code=true:=eX.2 (by rw[h];decide);rw[hX] at this;cases this
    have:=hsh hc;omega
   ·rw[if_neg bs,if_neg bs]
 rw[hnu]
 have hr:=hr fun b52=>by
  rcases e52.1 b52 with h|h
  ·have:=h52 h;omega
  ·have:=h60 h;omega
 generalize qxh (qM i.code) m.a y=R at hr ⊢;clear hz hnu hres
 by_cases d52:i.code=52
 ·have hy0:=h52 d52;simp +decide only[↓vS,vT,simprocAttr,d52,hy0];refine xb ?_;simp +decide only[↓vS,vT,simprocAttr];refine hby.pc ?_;simp +decide only[↓vS,vT,simprocAttr,fnO,g0];refine hr.pc ?_;simp only[Hp.up,Hp.down];simp +decide only[↓vS,vT,simprocAttr,hl,s0];intro _;refine⟨[0],?_⟩;simp[vw,qr,ql]
 by_cases d60:i.code=60
 ·have hy0:=h60 d60;simp +decide only[↓vS,vT,simprocAttr,d60,hy0];refine xb ?_;simp +decide only[↓vS,vT,simprocAttr];refine hby.pc ?_;simp +decide only[↓vS,vT,simprocAttr,fnO,g0];refine hr.pc ?_;simp only[Hp.up,Hp.down];simp +decide only[↓vS,vT,simprocAttr,hl,s0];intro _;refine⟨[0],?_⟩;simp[vw,qr,ql]
 by_cases d100:i.code=100
 ·have hy1:=hsh (.inl d100);have hy0:¬31<y:=by omega
  simp +decide only[↓vS,vT,simprocAttr,d100,hy0];refine xb ?_;simp +decide only[↓vS,vT,simprocAttr];refine hby.pc ?_;simp +decide only[↓vS,vT,simprocAttr,fnO,g0];refine hr.pc ?_;simp only[Hp.up,Hp.down];simp +decide only[↓vS,vT,simprocAttr,hl,s0];intro _;refine⟨[0],?_⟩;simp[vw,qr,ql]
 by_cases d116:i.code=116
 ·have hy1:=hsh (.inr d116);have hy0:¬31<y:=by omega
  simp +decide only[↓vS,vT,simprocAttr,d116,hy0];refine xb ?_;simp +decide only[↓vS,vT,simprocAttr];refine hby.pc ?_;simp +decide only[↓vS,vT,simprocAttr,fnO,g0];refine hr.pc ?_;simp only[Hp.up,Hp.down];simp +decide only[↓vS,vT,simprocAttr,hl,s0];intro _;refine⟨[0],?_⟩;simp[vw,qr,ql]
 simp +decide only[↓vS,vT,simprocAttr,d52,d60,d100,d116];refine xb ?_;simp +decide only[↓vS,vT,simprocAttr];refine hby.pc ?_;simp +decide only[↓vS,vT,simprocAttr,fnO,g0];refine hr.pc ?_;simp only[Hp.up,Hp.down];simp +decide only[↓vS,vT,simprocAttr,hl,s0];intro _;refine⟨[0],?_⟩;simp[vw,qr,ql]
end Go.Kc
end
