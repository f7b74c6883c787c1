/- Part 7 of the abstract machine and of the functions' walks. Conditions: with each theorem. -/
import Derived.Test.YtpgbjeabmkbmbaaGreatK6
import Derived.Lib.Join
import Derived.Below
import Derived.Lib.ItoaLen
set_option linter.unusedSimpArgs false
set_option linter.unusedVariables false
set_option linter.unnecessarySimpa false
section
/- What policy.May answers. Condition: the functions' texts are these. -/
namespace Go.Kc
variable {P:Program} {f:Nat}
def inA(l:List Int)(x:Int):Bool:=decide (l=[])||decide (x ∈ l)
def qqK(a:Int):List UInt8:=if a<0∨6<=a then [] else (XB.getD a.toNat ([],0)).1
def qeo(is:Int->Bool):Option Int->List Int->Bool
 | _,[]=>true
 | o,x::l=>is x&&(o.elim true fun b=>decide (b<x))&&qeo is (some x) l
def Xr(n:Int):List (List UInt8×Int)->List UInt8
 | []=>[]
 | p::l=>if p.2=n then p.1 else Xr n l
def qks(n:Int):Bool:=decide (Xr n ww≠[])
noncomputable def qe0(p:Pol):Bool:=Xp p.filter&&Xp p.log&&decide (qaC .u64 p.spaces 2114060416=0)
def qrE(p:Pol):Bool:=decide (p.fmode<=2)&&(decide (p.fmode≠0)||decide (p.fams=[]))
def qmh(n:Int):Bool:=decide (n=2147483648)||(decide (327680<=n)&&decide (n<=331775))
noncomputable def qgi(p:Pol):Bool:=!(p.log.calls.any fun c=>decide (c.act≠0))&&qmh p.deny&&qrE p&&qeo (fun a=>decide (0<=a)&&decide (a<6)) none p.arches&&qeo qks none p.fams&&qe0 p
end Go.Kc
end
section
/- What the document's May of a policy answers. Condition: the functions' texts are these. -/
namespace Go.Kc
variable {P:Program} {f:Nat}
structure PolR (p:Pol):Prop where
 fams:∀x ∈ p.fams,0<=x∧x<=4294967295
 deny:0<=p.deny∧p.deny<=4294967295
 spaces:0<=p.spaces∧p.spaces<18446744073709551616
 filter:Rng p.filter.calls
 log:Rng p.log.calls
section
variable {g1 g2 g3 g4:Nat}
end
end Go.Kc
end
section
/- Tests, rules; numbers of calls; the helpers of lower. Condition: the functions' texts are these. -/
namespace Go.Kc
variable {P:Program} {f:Nat}
structure GTest where
 arg:Int
 mask:Int
 val:Int
 act:Int
def qq0(t:GTest):List AV:=[.i .i64 t.arg,.i .u64 t.mask,.i .u64 t.val,.i .u32 t.act]
def rT(l:List GTest):List AV:=l.flatMap qq0
structure GRule where
 nr:Int
 tests:List GTest
 act:Int
def qqX(r:GRule):List AV:=[.i .u32 r.nr,.fz r.tests.length (rT r.tests),.i .u32 r.act]
def rR(l:List GRule):List AV:=l.flatMap qqX
structure GFil where
 arch:Int
 rules:List GRule
 dflt:Int
def qsE(x:GFil):List AV:=[.i .i64 x.arch,.fz x.rules.length (rR x.rules),.i .u32 x.dflt]
section
variable {l m:List GTest} {j:Nat}
theorem qan:qy (rT l)=true:=ye fun _=>rfl
end
section
variable {l m:List GRule} {j:Nat}
end
def qlb(x:List UInt8×List Int)(a:Int):Option Int :=
 if a<0∨6<=a∨x.2.getD a.toNat 0<0 then none else some (if a=2 then orI .u32 (IntKind.wrap .u32 (x.2.getD a.toNat 0)) 1073741824 else IntKind.wrap .u32 (x.2.getD a.toNat 0))
def qbt(a:Int)(s:List UInt8):Option Int:=(jp.find? (fun x=>decide (x.1=s))).bind fun x=>qlb x a
end Go.Kc
end
section
/- The helpers of lower. Condition: the functions' texts are these. -/
namespace Go.Kc
variable {P:Program} {f:Nat}
def QI(mode:Int)(n:Nat)(al dn:Bool):Bool:=if mode=1 then al||decide (0<n) else if mode=2 then dn||decide (0<n) else false
def wy(arg mask act:Int)(l:List Int):List GTest:=l.map fun v=>⟨arg,mask,v,act⟩
def vo(arg act:Int)(l:List Int):List GTest:=l.map fun v=>⟨arg,v,v,act⟩
def qeI(P:Program)(f:Nat):Prop:=∀(arg mask act:Int) (l:List Int),l.length<=100000->Own P f [.i .i64 arg,.i .u64 mask,.i .u32 act,.fz l.length (rI .u64 l)] (.own 0 l.length) [.cells 4 true true (rT (wy arg mask act l))]
def qhd(P:Program)(f:Nat):Prop:=∀(arg act:Int) (l:List Int),l.length<=100000->Own P f [.i .i64 arg,.i .u32 act,.fz l.length (rI .u64 l)] (.own 0 l.length) [.cells 4 true true (rT (vo arg act l))]
def ZJ(s:Int):List Int:=(qbk.map (·.2)).filter fun n=>decide (y8 .u64 s n≠0)
end Go.Kc
end
section
/- The rule method of lower's maker. Condition: the functions' texts are these. -/
namespace Go.Kc
variable {P:Program} {f:Nat}
def jV(a act:Int)(ts:List GTest)(ns:List (List UInt8)):List GRule:=ns.filterMap fun s=>(qbt a s).map fun n=>⟨n,ts,act⟩
end Go.Kc
end
section
/- The filter and log methods of lower's maker. Condition: the functions' texts are these. -/
namespace Go.Kc
variable {P:Program} {f:Nat}
def qsV(a own:Int)(l:List GCall):List GRule:=l.flatMap fun c=>jV a (if c.act=0 then own else c.act) [] [c.name]
def qnI(p:Pol)(a:Int):Bool×List GRule×Int:=(QI p.filter.mode p.filter.calls.length true false,qsV a (if p.filter.mode=1 then 2147418112 else p.deny) p.filter.calls,if p.filter.mode=1 then p.deny else 2147418112)
end Go.Kc
end
section
/- The log method of lower's maker. Condition: the functions' texts are these. -/
namespace Go.Kc
variable {P:Program} {f:Nat}
def qs9(a own:Int)(l:List GCall):List GRule:=l.flatMap fun c=>jV a own [] [c.name]
def qoc(p:Pol)(a:Int):Bool×List GRule×Int:=(QI p.log.mode p.log.calls.length false true,qs9 a (if p.log.mode=2 then 2147418112 else 2147221504) p.log.calls,if p.log.mode=2 then 2147221504 else 2147418112)
end Go.Kc
end
section
/- The methods of lower's maker that make a few rules. Condition: the functions' texts are these. -/
namespace Go.Kc
variable {P:Program} {f:Nat}
def qnn(P:Program)(f:Nat):Prop:=∀(arg mask act:Int) (l:List Int),l.length<=100000->qc P f [.i .i64 arg,.i .u64 mask,.i .u32 act,.fz l.length (rI .u64 l)] (.fz (wy arg mask act l).length (rT (wy arg mask act l)))
def qqO(P:Program)(f:Nat):Prop:=∀(arg act:Int) (l:List Int),l.length<=100000->qc P f [.i .i64 arg,.i .u32 act,.fz l.length (rI .u64 l)] (.fz (vo arg act l).length (rT (vo arg act l)))
theorem qeI.pure(h:qeI P f):qnn P f:=by
 intro arg mask act l hl;rw[show (wy arg mask act l).length=l.length by simp[wy]]
 refine (h arg mask act l hl).pure (by simp[qy,clo]) ?_;refine .own 0 _ 4 true _ _ ?_ (fun h0=>?_) (Frzs.self qan)
 ·simp[xO,Hp.push,shb,H0,Tr.get_set,zx qan]
 ·rw[List.eq_nil_of_length_eq_zero h0];rfl
theorem qhd.pure(h:qhd P f):qqO P f:=by
 intro arg act l hl;rw[show (vo arg act l).length=l.length by simp[vo]]
 refine (h arg act l hl).pure (by simp[qy,clo]) ?_;refine .own 0 _ 4 true _ _ ?_ (fun h0=>?_) (Frzs.self qan)
 ·simp[xO,Hp.push,shb,H0,Tr.get_set,zx qan]
 ·rw[List.eq_nil_of_length_eq_zero h0];rfl
def qao:List UInt8:=[115,99,104,101,100,95,115,101,116,115,99,104,101,100,117,108,101,114]
def rtM(p:Pol)(a:Int):Bool×List GRule×Int:=(p.rt,jV a 327681 (wy 1 4294967295 2147418112 [0,3,5]) [qao],2147418112)
end Go.Kc
end
section
/- The methods of lower's maker that make a few rules. Condition: the functions' texts are these. -/
namespace Go.Kc
variable {P:Program} {f:Nat}
def Xz:List UInt8:=[115,111,99,107,101,116]
def wW:List UInt8:=[117,110,115,104,97,114,101]
def yK:List UInt8:=[99,108,111,110,101]
def w6:List UInt8:=[115,101,116,110,115]
def wq:List UInt8:=[99,108,111,110,101,51]
def X4:List UInt8:=[109,109,97,112]
def wV:List UInt8:=[109,112,114,111,116,101,99,116]
def xh:List UInt8:=[112,107,101,121,95,109,112,114,111,116,101,99,116]
def Q8:List UInt8:=[115,104,109,97,116]
def w5:List UInt8:=[112,101,114,115,111,110,97,108,105,116,121]
def peM(p:Pol)(a:Int):Bool×List GRule×Int:=(p.pe,jV a 327681 (wy 0 4294967295 2147418112 [0,4294967295]) [w5],2147418112)
def weM(p:Pol)(a:Int):Bool×List GRule×Int:=(p.we,jV a 2147418112 (vo 2 327681 [6]) [X4]++jV a 2147418112 (vo 2 327681 [4]) [wV,xh]++jV a 2147418112 (vo 2 327681 [32768]) [Q8],2147418112)
end Go.Kc
end
section
/- The namespaces method of lower's maker. Condition: the functions' texts are these. -/
namespace Go.Kc
variable {P:Program} {f:Nat}
def nsM(p:Pol)(a:Int):Bool×List GRule×Int:=(decide (p.spaces≠0),jV a 2147418112 (vo 0 327681 (ZJ p.spaces)) [wW,yK]++jV a 2147418112 (vo 1 327681 (ZJ p.spaces)++wy 1 4294967295 327681 [0]) [w6]++jV a 327718 [] [wq],2147418112)
end Go.Kc
end
section
/- The families method of lower's maker. Condition: the functions' texts are these. -/
namespace Go.Kc
variable {P:Program} {f:Nat}
def fmM(p:Pol)(a:Int):Bool×List GRule×Int :=
 (QI p.fmode p.fams.length true false,jV a (if p.fmode=2 then 2147418112 else 327777) (wy 0 4294967295 (if p.fmode=2 then 327777 else 2147418112) p.fams) [Xz],2147418112)
end Go.Kc
end
section
/- What lower.Lower answers. Condition: the functions' texts are these. -/
namespace Go.Kc
variable {P:Program} {f:Nat}
def Jw(rs:List GRule):List GRule:=rs.mergeSort fun x y=>decide (x.nr<=y.nr)
def qe2(d:Int):Option (Pol->Int->Bool×List GRule×Int) :=
 if d=1 then some qnI else if d=2 then some qoc else if d=3 then some fmM else if d=4 then some nsM else if d=5 then some weM else if d=6 then some peM else if d=7 then some rtM else none
noncomputable def qaY(p:Pol)(d a:Int):Bool:=decide (0<=d)&&decide (d<8)&&(decide (0<=a)&&decide (a<6))&&qgi p&&inA p.arches a
noncomputable def qip(p:Pol)(d a:Int):Option GFil :=
 if qaY p d a=true then (qe2 d).bind fun F=>if (F p a).1=true then some ⟨a,Jw (F p a).2.1,(F p a).2.2⟩ else none else none
def qqJ:Option GFil->AV
 | some x=>.tup [.agg (qsE x),.b true]
 | none=>.tup [.agg [.i .i64 0,.fz 0 [],.i .u32 0],.b false]
end Go.Kc
end
section
/- What lower.Active, lower.All answer. Condition: the functions' texts are these. -/
namespace Go.Kc
variable {P:Program} {f:Nat}
section
variable {l m:List GFil} {j:Nat}
end
def qsG(P:Program)(f:Nat):Prop:=∀p,PolOk p->PolR p->∀d a:Int,qc P f [.agg (qj3 p),.i .i64 d,.i .i64 a] (qqJ (qip p d a))
end Go.Kc
end
section
/- The document's flags, which directives are active. Condition: the functions' texts are these. -/
namespace Go.Kc
variable {P:Program} {f:Nat}
end Go.Kc
end
section
/- Which directives are active, by the document; its rule of a call. Condition: the functions' texts are these. -/
namespace Go.Kc
variable {P:Program} {f:Nat}
def qjy(p:Pol)(d:Int):Bool :=
 if d=1 then QI p.filter.mode p.filter.calls.length true false else if d=2 then QI p.log.mode p.log.calls.length false true else if d=3 then QI p.fmode p.fams.length true false
 else if d=4 then decide (p.spaces≠0) else if d=5 then p.we else if d=6 then p.pe else if d=7 then p.rt else false
end Go.Kc
end
section
/- The document's rule of a call. Condition: the functions' texts are these. -/
namespace Go.Kc
variable {P:Program} {f:Nat}
def qkr(l:List GCall)(s:List UInt8):Int:=match Qk l s with|some c=>c.act|none=>0
theorem qhh.act(h:qhh P f)(l:GList)(s:List UInt8)(hl:l.calls.length<=100000):qc P f [.agg (qeF l),.s s] (.tup [.i .u32 (qkr l.calls s),.b (Qk l.calls s).isSome]):=h l s hl
def qmV(p:Pol)(s:List UInt8):Int:=if qkr p.filter.calls s=0 then (if p.filter.mode=1 then 2147418112 else p.deny) else qkr p.filter.calls s
def Ja(s:List UInt8):Int:=if s=X4 then 6 else if s=wV∨s=xh then 4 else if s=Q8 then 32768 else 0
def qcx(p:Pol)(d:Int)(s:List UInt8):Bool×List GTest×Int :=
 if d=1 then ((Qk p.filter.calls s).isSome,[],qmV p s)
 else if d=2 then ((Qk p.log.calls s).isSome,[],if p.log.mode=1 then 2147221504 else 2147418112)
 else if d=3 then (decide (s=Xz),wy 0 4294967295 (if p.fmode=2 then 327777 else 2147418112) p.fams,if p.fmode=2 then 2147418112 else 327777)
 else if d=4 then (if s=wq then (true,[],327718) else (decide (s=w6)||decide (s=wW)||decide (s=yK),vo (if s=w6 then 1 else 0) 327681 (ZJ p.spaces)++(if s=w6 then [⟨1,4294967295,0,327681⟩] else []),2147418112))
 else if d=5 then (decide (0<Ja s),[⟨2,Ja s,Ja s,327681⟩],2147418112)
 else if d=6 then (decide (s=w5),wy 0 4294967295 2147418112 [0,4294967295],327681)
 else (decide (s=qao),wy 1 4294967295 2147418112 [0,3,5],327681)
section
variable {g1 g2:Nat}
end
end Go.Kc
end
section
/- The document's rule of a call: namespaces, and all of it. Condition: the functions' texts are these. -/
namespace Go.Kc
variable {P:Program} {f:Nat}
section
variable {g1 g2:Nat}
end
end Go.Kc
end
section
/- What the document's Lower answers. Condition: the functions' texts are these. -/
namespace Go.Kc
variable {P:Program} {f:Nat}
def qf7(c:GCall):List GCall->List GCall
 | []=>[c]
 | x::l=>if c.act<=x.act then c::x::l else x::qf7 c l
def qb5(a:Int):List GCall:=(jp.filterMap fun x=>(qlb x a).map fun n=>(⟨x.1,n⟩:GCall)).foldr qf7 []
def dfR(p:Pol)(d:Int):Int:=if d=1∧p.filter.mode=1 then p.deny else if d=2∧p.log.mode=2 then 2147221504 else 2147418112
def ruR(p:Pol)(d:Int)(l:List GCall):List GRule:=l.filterMap fun c=>if (qcx p d c.name).1=true then some ⟨c.act,(qcx p d c.name).2.1,(qcx p d c.name).2.2⟩ else none
noncomputable def qba(p:Pol)(d a:Int):Option GFil:=if (decide (0<=a)&&decide (a<6)&&qgi p&&inA p.arches a&&qjy p d)=true then some ⟨a,ruR p d (qb5 a),dfR p d⟩ else none
section
variable {g1 g2 g3 g4 g5:Nat}
def qma(P:Program)(f:Nat):Prop:=∀p,PolOk p->PolR p->∀d a:Int,qc P f [.agg (qj3 p),.i .i64 d,.i .i64 a] (qqJ (qba p d a))
end
end Go.Kc
end
section
/- When two filters are the same, by the document; all its filters. Condition: the functions' texts are these. -/
namespace Go.Kc
variable {P:Program} {f:Nat}
end Go.Kc
end
section
/- The plain law of lower: what its code makes is what the document says. No condition. -/
namespace Go.Kc
theorem qbZ{α:Type}(k:α->Int):∀{l m:List α},l.Pairwise (fun x y=>k x<k y)->m.Pairwise (fun x y=>k x<k y)->(∀x,x ∈ l↔x ∈ m)->l=m
 | [],[],_,_,_=>rfl
 | [],y::m,_,_,h=>by have:=(h y).2 (by simp);simp at this
 | x::l,[],_,_,h=>by have:=(h x).1 (by simp);simp at this
 | x::l,y::m,hl,hm,h=>by
  obtain⟨h1,h2⟩:=List.pairwise_cons.1 hl;obtain⟨h3,h4⟩:=List.pairwise_cons.1 hm
  have e:x=y:=by
   rcases List.mem_cons.1 ((h x).1 (by simp)) with e|e
   ·exact e
   ·rcases List.mem_cons.1 ((h y).2 (by simp)) with e'|e'
    ·exact e'.symm
    ·have:=h3 x e;have:=h1 y e';omega
  subst e
  congr 1
  refine qbZ k h2 h4 fun z=>?_
  constructor
  ·intro hz;rcases List.mem_cons.1 ((h z).1 (List.mem_cons_of_mem _ hz)) with e|e
   ·subst e;have:=h1 z hz;omega
   ·exact e
  ·intro hz;rcases List.mem_cons.1 ((h z).2 (List.mem_cons_of_mem _ hz)) with e|e
   ·subst e;have:=h3 z hz;omega
   ·exact e
theorem qcA{rs:List GRule}(hn:(rs.map GRule.nr).Nodup):(Jw rs).Pairwise (fun x y=>x.nr<y.nr):=by
 have h1:(Jw rs).Pairwise (fun x y=>decide (x.nr<=y.nr)=true):=List.pairwise_mergeSort (fun a b c h1 h2=>by simp at *;omega) (fun a b=>by simp;omega) rs
 have h2:((Jw rs).map GRule.nr).Nodup:=((List.mergeSort_perm rs _).map GRule.nr).nodup_iff.2 hn;have h3:(Jw rs).Pairwise (fun x y=>x.nr≠y.nr):=List.pairwise_map.1 h2
 refine (h1.and h3).imp ?_;intro a b ⟨h,h'⟩;simp at h;omega
theorem qgF{rs:List GRule}{r:GRule}:r ∈ Jw rs↔r ∈ rs:=(List.mergeSort_perm rs _).mem_iff
theorem qdl{c x:GCall}:∀{l:List GCall},x ∈ qf7 c l↔x=c∨x ∈ l
 | []=>by simp[qf7]
 | y::l=>by
  unfold qf7;split
  ·simp
  ·rw[List.mem_cons,qdl,List.mem_cons];constructor
   ·rintro (h|h|h)
    ·exact .inr (.inl h)
    ·exact .inl h
    ·exact .inr (.inr h)
   ·rintro (h|h|h)
    ·exact .inr (.inl h)
    ·exact .inl h
    ·exact .inr (.inr h)
theorem qfx{a:Int}{c:GCall}:c ∈ qb5 a↔∃x ∈ jp,qlb x a=some c.act∧x.1=c.name:=by
 unfold qb5
 have h1:∀l:List GCall,c ∈ l.foldr qf7 []↔c ∈ l:=by
  intro l;induction l with
  | nil=>simp
  | cons y l ih=>rw[List.foldr_cons,qdl,ih,List.mem_cons]
 rw[h1,List.mem_filterMap];constructor
 ·rintro⟨x,hx,h⟩;cases hn:qlb x a with
  | none=>rw[hn] at h;cases h
  | some n=>rw[hn] at h;cases h;exact⟨x,hx,hn,rfl⟩
 ·rintro⟨x,hx,h,h2⟩;refine⟨x,hx,?_⟩;rw[h];cases c;simp_all
theorem qgK:(jp.map (·.1)).Nodup:=by decide +kernel
theorem qbD{α:Type}(k:α->List UInt8){l:List α}(hn:(l.map k).Nodup){x:α}(hx:x ∈ l):l.find? (fun y=>decide (k y=k x))=some x:=by
 induction l with
 | nil=>simp at hx
 | cons y l ih =>
  rw[List.map_cons,List.nodup_cons] at hn;rw[List.find?_cons]
  by_cases h:k y=k x
  ·have e:y=x:=by
    rcases List.mem_cons.1 hx with e|e
    ·exact e.symm
    ·exact absurd (by rw[h];exact List.mem_map_of_mem (f:=k) e) hn.1
   subst e;simp
  ·rcases List.mem_cons.1 hx with e|e
   ·subst e;exact absurd rfl h
   ·simp[h];exact ih hn.2 e
theorem Z3{a:Int}{c:GCall}:c ∈ qb5 a↔qbt a c.name=some c.act:=by
 rw[qfx];unfold qbt;constructor
 ·rintro⟨x,hx,h,h2⟩;rw[← h2,qbD (·.1) qgK hx];exact h
 ·intro h;cases hf:jp.find? (fun x=>decide (x.1=c.name)) with
  | none=>rw[hf] at h;cases h
  | some x =>
   rw[hf] at h;exact⟨x,List.mem_of_find?_eq_some hf,h,by simpa using List.find?_some hf⟩
theorem Jc{a:Int}(h0:0<=a)(h6:a<6):(qb5 a).Pairwise (fun x y=>x.act<y.act):=by
 have:a=0∨a=1∨a=2∨a=3∨a=4∨a=5:=by omega
 rcases this with rfl|rfl|rfl|rfl|rfl|rfl<;>decide +kernel
theorem qlc{a:Int}(h0:0<=a)(h6:a<6){s t:List UInt8}{n:Int}(h1:qbt a s=some n)(h2:qbt a t=some n):s=t:=by
 have hs:(⟨s,n⟩:GCall) ∈ qb5 a:=Z3.2 h1;have ht:(⟨t,n⟩:GCall) ∈ qb5 a:=Z3.2 h2;have hp:=Jc h0 h6
 by_cases e:s=t
 ·exact e
 ·exfalso
  have:∀{l:List GCall},l.Pairwise (fun x y=>x.act<y.act)->(⟨s,n⟩:GCall) ∈ l->(⟨t,n⟩:GCall) ∈ l->False:=by
   intro l;induction l with
   | nil=>intro _ h;simp at h
   | cons x l ih =>
    intro hl h1 h2;obtain⟨k1,k2⟩:=List.pairwise_cons.1 hl;rcases List.mem_cons.1 h1 with e1|e1<;>rcases List.mem_cons.1 h2 with e2|e2
    ·rw[← e2] at e1;simp at e1;exact e e1
    ·subst e1;have:=k1 _ e2;simp at this
    ·subst e2;have:=k1 _ e1;simp at this
    ·exact ih k2 e1 e2
  exact this hp hs ht
def vz(a:Int)(g:List UInt8->List GTest×Int)(ns:List (List UInt8)):List GRule:=ns.filterMap fun s=>(qbt a s).map fun n=>⟨n,(g s).1,(g s).2⟩
theorem qde{a:Int}{g:List UInt8->List GTest×Int}{ns:List (List UInt8)}{r:GRule}:r ∈ vz a g ns↔∃s ∈ ns,qbt a s=some r.nr∧r.tests=(g s).1∧r.act=(g s).2:=by
 unfold vz;rw[List.mem_filterMap];constructor
 ·rintro⟨s,hs,h⟩;cases hn:qbt a s with
  | none=>rw[hn] at h;cases h
  | some n=>rw[hn] at h;cases h;exact⟨s,hs,hn,rfl,rfl⟩
 ·rintro⟨s,hs,h,h2,h3⟩;refine⟨s,hs,?_⟩;rw[h];cases r;simp_all
theorem qeb{a:Int}(h0:0<=a)(h6:a<6){g:List UInt8->List GTest×Int}{ns:List (List UInt8)}(hn:ns.Nodup):((vz a g ns).map GRule.nr).Nodup:=by
 induction ns with
 | nil=>exact List.nodup_nil
 | cons s ns ih =>
  obtain⟨h1,h2⟩:=List.nodup_cons.1 hn;unfold vz;rw[List.filterMap_cons];cases hs:qbt a s with
  | none=>exact ih h2
  | some n =>
   simp only[Option.map_some,List.map_cons];refine List.nodup_cons.2 ⟨?_,ih h2⟩;intro hm;obtain⟨r,hr,e⟩:=List.mem_map.1 hm;obtain⟨t,ht,k1,_,_⟩:=qde.1 hr;rw[e] at k1;exact h1 (qlc h0 h6 hs k1 ▸ ht)
theorem Qn{a:Int}{g:List UInt8->List GTest×Int}{ns ms:List (List UInt8)}:vz a g (ns++ms)=vz a g ns++vz a g ms:=List.filterMap_append
theorem xE{a act:Int}{ts:List GTest}{g:List UInt8->List GTest×Int}:∀{ns:List (List UInt8)},(∀s ∈ ns,g s=(ts,act))->jV a act ts ns=vz a g ns
 | [],_=>rfl
 | s::ns,h=>by
  have e:=xE (a:=a) (ns:=ns) fun t ht=>h t (List.mem_cons_of_mem _ ht)
  unfold jV vz at *;rw[List.filterMap_cons,List.filterMap_cons,e,h s (by simp)]
theorem yA{p:Pol}{d a:Int}(h0:0<=a)(h6:a<6){ns:List (List UInt8)}{g:List UInt8->List GTest×Int}(hn:ns.Nodup)(h1:∀s n,qbt a s=some n->((qcx p d s).1=true↔s ∈ ns))(h2:∀s ∈ ns,g s=(qcx p d s).2):Jw (vz a g ns)=ruR p d (qb5 a):=by
 refine qbZ GRule.nr (qcA (qeb h0 h6 hn)) ?_ fun r=>?_
 ·unfold ruR;refine List.Pairwise.filterMap _ ?_ (Jc h0 h6);intro c c' hlt x hx y hy;split at hx
  ·split at hy
   ·cases hx;cases hy;exact hlt
   ·cases hy
  ·cases hx
 ·rw[qgF,qde];unfold ruR;rw[List.mem_filterMap];constructor
  ·rintro⟨s,hs,k1,k2,k3⟩;have k:=(h1 s _ k1).2 hs;refine⟨⟨s,r.nr⟩,Z3.2 k1,?_⟩;rw[h2 s hs] at k2 k3;rw[if_pos k];cases r;simp_all
  ·rintro⟨c,hc,h⟩;have k1:=Z3.1 hc;split at h
   ·rename_i k;cases h;have hs:=(h1 c.name _ k1).1 k;exact⟨c.name,hs,k1,by rw[h2 _ hs],by rw[h2 _ hs]⟩
   ·cases h
theorem XW{l:GList}(h:Xp l=true):(l.calls.map (·.name)).Nodup:=by
 have h2:=((qdw l).1 h).2.2;exact List.pairwise_map.2 (List.Pairwise.imp (fun hab=>qiq hab) h2)
theorem qa0{p:Pol}(h:qgi p=true):Xp p.filter=true∧Xp p.log=true:=by
 unfold qgi qe0 at h;simp only[Bool.and_eq_true] at h;exact⟨h.2.1.1,h.2.1.2⟩
theorem qf3{l:List GCall}(hn:(l.map (·.name)).Nodup){c:GCall}(hc:c ∈ l):Qk l c.name=some c:=qbD GCall.name hn hc
theorem qbC{l:List GCall}{s:List UInt8}:(Qk l s).isSome=true↔s ∈ l.map (·.name):=by
 unfold Qk;rw[List.find?_isSome];simp only[decide_eq_true_eq,List.mem_map]
theorem qaK{a:Int}{g:List UInt8->List GTest×Int}{A:GCall->Int}:∀{l:List GCall},(∀c ∈ l,g c.name=([],A c))->(l.flatMap fun c=>jV a (A c) [] [c.name])=vz a g (l.map (·.name))
 | [],_=>rfl
 | c::l,h=>by
  have e:=qaK (a:=a) (A:=A) (l:=l) fun x hx=>h x (List.mem_cons_of_mem _ hx)
  rw[List.flatMap_cons,e,xE (g:=g) (by intro s hs;simp at hs;subst hs;exact h c (by simp)),← Qn]
  rfl
def qrg(p:Pol)(s:List UInt8):List GTest×Int:=([],qmV p s)
theorem qkv{p:Pol}{a:Int}(hm:Xp p.filter=true):(qnI p a).2.1=vz a (qrg p) (p.filter.calls.map (·.name)):=by
 refine qaK fun c hc=>?_
 have hf:=qf3 (XW hm) hc;simp only[qrg,qmV,qkr,hf]
def qsZ(p:Pol)(_:List UInt8):List GTest×Int:=([],if p.log.mode=2 then 2147418112 else 2147221504)
theorem qk3{p:Pol}{a:Int}:(qoc p a).2.1=vz a (qsZ p) (p.log.calls.map (·.name)):=qaK (A:=fun _=>if p.log.mode=2 then 2147418112 else 2147221504) fun _ _=>rfl
def Xc(p:Pol)(d:Int)(s:List UInt8):List GTest×Int:=(qcx p d s).2
theorem qkt{p:Pol}{a:Int}:(fmM p a).2.1=vz a (Xc p 3) [Xz]:=xE fun _ _=>rfl
def nsL:List (List UInt8):=[wW,yK,w6,wq]
theorem qov{p:Pol}{a:Int}:(nsM p a).2.1=vz a (Xc p 4) nsL:=by
 have h1:jV a 2147418112 (vo 0 327681 (ZJ p.spaces)) [wW,yK]=vz a (Xc p 4) [wW,yK]:=xE fun s hs=>by
  simp only[List.mem_cons,List.not_mem_nil,or_false] at hs;rcases hs with rfl|rfl<;>simp (decide:=true) [Xc,qcx,wW,yK,wq,w6]
 have h2:jV a 2147418112 (vo 1 327681 (ZJ p.spaces)++wy 1 4294967295 327681 [0]) [w6]=vz a (Xc p 4) [w6]:=xE fun s hs=>by
  simp only[List.mem_cons,List.not_mem_nil,or_false] at hs;subst hs;simp (decide:=true) [Xc,qcx,wq,w6,wy]
 have h3:jV a 327718 [] [wq]=vz a (Xc p 4) [wq]:=xE fun s hs=>by
  simp only[List.mem_cons,List.not_mem_nil,or_false] at hs;subst hs;simp (decide:=true) [Xc,qcx]
 show _++_++_=_;rw[h1,h2,h3,← Qn,← Qn];rfl
def weL:List (List UInt8):=[X4,wV,xh,Q8]
theorem qpE{p:Pol}{a:Int}:(weM p a).2.1=vz a (Xc p 5) weL:=by
 have h1:jV a 2147418112 (vo 2 327681 [6]) [X4]=vz a (Xc p 5) [X4]:=xE fun s hs=>by
  simp only[List.mem_cons,List.not_mem_nil,or_false] at hs;subst hs;rfl
 have h2:jV a 2147418112 (vo 2 327681 [4]) [wV,xh]=vz a (Xc p 5) [wV,xh]:=xE fun s hs=>by
  simp only[List.mem_cons,List.not_mem_nil,or_false] at hs;rcases hs with rfl|rfl<;>rfl
 have h3:jV a 2147418112 (vo 2 327681 [32768]) [Q8]=vz a (Xc p 5) [Q8]:=xE fun s hs=>by
  simp only[List.mem_cons,List.not_mem_nil,or_false] at hs;subst hs;rfl
 show _++_++_=_;rw[h1,h2,h3,← Qn,← Qn];rfl
theorem qo1{p:Pol}{a:Int}:(peM p a).2.1=vz a (Xc p 6) [w5]:=xE fun _ _=>rfl
theorem qpe{p:Pol}{a:Int}:(rtM p a).2.1=vz a (Xc p 7) [qao]:=xE fun _ _=>rfl
end Go.Kc
end
section
/- The plain law of lower: its filters are the document's. No condition. -/
namespace Go.Kc
theorem qpF(s:List UInt8):(0<Ja s)↔s ∈ weL:=by
 unfold Ja weL
 by_cases h1:s=X4
 ·simp[h1]
 by_cases h2:s=wV
 ·subst h2;decide
 by_cases h3:s=xh
 ·subst h3;decide
 by_cases h4:s=Q8
 ·simp only[if_neg h1,if_neg (not_or.2 ⟨h2,h3⟩),if_pos h4];simp[h4]
 ·simp[h1,h2,h3,h4]
theorem kl{p:Pol}{d a:Int}{F:Pol->Int->Bool×List GRule×Int}(hF:qe2 d=some F)(hd:0<=d∧d<8)(h1:qjy p d=(F p a).1)
  (h2:qaY p d a=true->(F p a).1=true->Jw (F p a).2.1=ruR p d (qb5 a)∧(F p a).2.2=dfR p d):qba p d a=qip p d a:=by
 have e:qaY p d a=(decide (0<=a)&&decide (a<6)&&qgi p&&inA p.arches a):=by
  unfold qaY;simp[hd.1,hd.2]
 unfold qba qip;rw[hF];cases hk:qaY p d a with
 | false =>
  rw[e] at hk;rw[if_neg (by rw[hk];simp),if_neg (by decide)]
 | true =>
  have hk':=hk;rw[e] at hk';rw[if_pos rfl];simp only[Option.bind_some];cases ha:(F p a).1 with
  | false=>rw[if_neg (by rw[h1,ha];simp),if_neg (by decide)]
  | true =>
   obtain⟨k1,k2⟩:=h2 hk ha;rw[if_pos (by rw[h1,ha,hk'];rfl),if_pos rfl,k1,k2]
theorem jg{p:Pol}{d a:Int}(h:qaY p d a=true):0<=a∧a<6∧qgi p=true:=by
 unfold qaY at h;simp only[Bool.and_eq_true,decide_eq_true_eq] at h;exact⟨h.1.1.2.1,h.1.1.2.2,h.1.2⟩
theorem qod(p:Pol)(d a:Int):qba p d a=qip p d a:=by
 by_cases d1:d=1
 ·subst d1;refine kl (F:=qnI) rfl (by decide) rfl fun hk _=>?_
  obtain⟨h0,h6,hm⟩:=jg hk;have hf:=(qa0 hm).1;refine⟨?_,?_⟩
  ·rw[qkv hf];refine yA h0 h6 (XW hf) (fun s n _=>?_) fun s _=>?_
   ·show (Qk p.filter.calls s).isSome=true↔_;exact qbC
   ·rfl
  ·show (if p.filter.mode=1 then p.deny else 2147418112)=_
   simp[dfR]
 by_cases d2:d=2
 ·subst d2;refine kl (F:=qoc) rfl (by decide) rfl fun hk hact=>?_
  obtain⟨h0,h6,hm⟩:=jg hk;have hl:=(qa0 hm).2
  have hmode:p.log.mode=1∨p.log.mode=2:=by
   have hact:QI p.log.mode p.log.calls.length false true=true:=hact;unfold QI at hact;split at hact
   ·exact .inl (by assumption)
   ·split at hact
    ·exact .inr (by assumption)
    ·cases hact
  refine⟨?_,?_⟩
  ·rw[qk3];refine yA h0 h6 (XW hl) (fun s n _=>?_) fun s _=>?_
   ·show (Qk p.log.calls s).isSome=true↔_;exact qbC
   ·show ([],_)=([],if p.log.mode=1 then (2147221504:Int) else 2147418112)
    rcases hmode with h|h<;>simp[h]
  ·show (if p.log.mode=2 then 2147221504 else 2147418112)=_
   simp[dfR]
 by_cases d3:d=3
 ·subst d3;refine kl (F:=fmM) rfl (by decide) rfl fun hk _=>?_
  obtain⟨h0,h6,hm⟩:=jg hk;refine⟨?_,by simp[dfR,fmM]⟩
  rw[qkt];refine yA h0 h6 (by decide) (fun s n _=>?_) fun s _=>rfl
  show decide (s=Xz)=true↔_;simp
 by_cases d4:d=4
 ·subst d4;refine kl (F:=nsM) rfl (by decide) rfl fun hk _=>?_
  obtain⟨h0,h6,hm⟩:=jg hk;refine⟨?_,by simp[dfR,nsM]⟩
  rw[qov];refine yA h0 h6 (by decide) (fun s n _=>?_) fun s _=>rfl
  show (if s=wq then ((true,[],327718):Bool×List GTest×Int) else (decide (s=w6)||decide (s=wW)||decide (s=yK),_,_)).1=true↔_
  unfold nsL
  by_cases k:s=wq
  ·simp[k]
  ·rw[if_neg k];simp only[Bool.or_eq_true,decide_eq_true_eq,List.mem_cons,List.not_mem_nil,or_false];constructor
   ·rintro ((h|h)|h)
    ·exact .inr (.inr (.inl h))
    ·exact .inl h
    ·exact .inr (.inl h)
   ·rintro (h|h|h|h)
    ·exact .inl (.inr h)
    ·exact .inr h
    ·exact .inl (.inl h)
    ·exact absurd h k
 by_cases d5:d=5
 ·subst d5;refine kl (F:=weM) rfl (by decide) rfl fun hk _=>?_
  obtain⟨h0,h6,hm⟩:=jg hk;refine⟨?_,by simp[dfR,weM]⟩
  rw[qpE];refine yA h0 h6 (by decide) (fun s n _=>?_) fun s _=>rfl
  show decide (0<Ja s)=true↔_;rw[decide_eq_true_eq];exact qpF s
 by_cases d6:d=6
 ·subst d6;refine kl (F:=peM) rfl (by decide) rfl fun hk _=>?_
  obtain⟨h0,h6,hm⟩:=jg hk;refine⟨?_,by simp[dfR,peM]⟩
  rw[qo1];refine yA h0 h6 (by decide) (fun s n _=>?_) fun s _=>rfl
  show decide (s=w5)=true↔_;simp
 by_cases d7:d=7
 ·subst d7;refine kl (F:=rtM) rfl (by decide) rfl fun hk _=>?_
  obtain⟨h0,h6,hm⟩:=jg hk;refine⟨?_,by simp[dfR,rtM]⟩
  rw[qpe];refine yA h0 h6 (by decide) (fun s n _=>?_) fun s _=>rfl
  show decide (s=qao)=true↔_;simp
 have e1:qjy p d=false:=by simp[qjy,d1,d2,d3,d4,d5,d6,d7]
 have e2:qe2 d=none:=by simp[qe2,d1,d2,d3,d4,d5,d6,d7]
 unfold qba qip;rw[e1,e2,Bool.and_false,if_neg (by decide)];split<;>rfl
theorem qma.low{P:Program}{f:Nat}(h:qma P f):qsG P f:=fun p hp hR d a=>by rw[← qod];exact h p hp hR d a
end Go.Kc
end
section
/- LowerAll: what the law answers. Condition: the functions' texts are these. -/
namespace Go.Kc
variable {P:Program} {f:Nat}
end Go.Kc
end
section
/- Actions that are known, rules and filters that may be, a call's name by its number. Condition: the functions' texts are these. -/
namespace Go.Kc
variable {P:Program} {f:Nat}
def Qq:IFn:=⟨[.tmp 2],.seq (.r [.m 2 (.c (.i .u32 0))]) (.seq (.r [.n 3 0,.q 4 (.bin .andNot (.t 3) (.c (.i .u32 65535))),.n 2 4]) (.ret))⟩
theorem qsj(hc:qi P f Qq=true)(n:Int):qc P f [.i .u32 n] (.i .u32 (qaC .u32 n 65535)):=by
 refine qc.mk hc rfl ?_;simp only[Qq,vI,simprocAttr];simp only[↓vS,vT,simprocAttr,vZ]
end Go.Kc
end
section
/- Rules and filters that may be; a call's name by its number. Condition: the functions' texts are these. -/
namespace Go.Kc
variable {P:Program} {f:Nat}
end Go.Kc
end
section
/- Filters that may be; LowerMay: what the law answers. Condition: the functions' texts are these. -/
namespace Go.Kc
variable {P:Program} {f:Nat}
end Go.Kc
end
section
/- The plain law of LowerMay: lower's filters may be, their numbers have names. No condition. -/
namespace Go.Kc
end Go.Kc
end
section
/- LowerMay: what the law answers. Condition: the functions' texts are these. -/
namespace Go.Kc
variable {P:Program} {f:Nat}
end Go.Kc
end
section
/- Filters that are the same as themselves. Condition: the functions' texts are these. -/
namespace Go.Kc
variable {P:Program} {f:Nat}
end Go.Kc
end
section
/- LowerAlone: what the law answers (first its end). Condition: the functions' texts are these. -/
namespace Go.Kc
variable {P:Program} {f:Nat}
section
variable {g1 g2 g3 g4 g5:Nat}
end
end Go.Kc
end
section
/- What assignments come to, one behind the other: it may be. No condition. -/
namespace Go.Kc
structure PMay (p:Pol):Prop where
 own:∀c ∈ p.log.calls,c.act=0
 deny:qmh p.deny=true
 mode:p.fmode<=2∧(p.fmode≠0∨p.fams=[])
 ar:∀a ∈ p.arches,0<=a∧a<6
 ap:p.arches.Pairwise (· < ·)
 fr:∀n ∈ p.fams,qks n=true
 fp:p.fams.Pairwise (· < ·)
 fil:Xp p.filter=true
 log:Xp p.log=true
 sp:qaC .u64 p.spaces 2114060416=0
structure PI (p:Pol):Prop where
 may:PMay p
 f0:0<=p.filter.mode
 l0:0<=p.log.mode
 m0:0<=p.fmode
 s0:0<=p.spaces∧p.spaces<18446744073709551616
theorem qa4{l:List Int}(h:l.Pairwise (· < ·)):l.Nodup:=h.imp fun h e=>by omega
theorem qhR{n:Int}(h:qks n=true):n ∈ ww.map (·.2):=by
 unfold qks at h;have h':Xr n ww≠[]:=by simpa using h
 have:∀(t:List (List UInt8×Int)),Xr n t≠[]->n ∈ t.map (·.2):=by
  intro t
  induction t with
  | nil=>intro h;exact absurd rfl h
  | cons x t ih =>
   intro h;unfold Xr at h;split at h
   ·rename_i e;simp[e]
   ·exact List.mem_cons_of_mem _ (ih h)
 exact this _ h'
theorem qg1{a:Int}(h:0<=a∧a<6):a ∈ ([0,1,2,3,4,5]:List Int):=by
 have:a=0∨a=1∨a=2∨a=3∨a=4∨a=5:=by omega
 simpa using this
theorem PMay.lens{p:Pol}(h:PMay p):p.arches.length<=6∧p.fams.length<=8∧p.filter.calls.length<=40∧p.log.calls.length<=40 :=
 ⟨Q3 (t:=[0,1,2,3,4,5]) (qa4 h.ap) fun x hx=>qg1 (h.ar x hx),Q3 (t:=ww.map (·.2)) (qa4 h.fp) fun x hx=>qhR (h.fr x hx),qe1 h.fil,qe1 h.log⟩
theorem PI.ok{p:Pol}(h:PI p):PolOk p:=by
 obtain⟨h1,h2,h3,h4⟩:=h.may.lens;exact⟨by omega,by omega,by omega,by omega⟩
def qlA:Pol:={ qlz with deny:=2147483648 }
theorem PI.new:PI qlA:=by
 refine⟨⟨?_,?_,?_,?_,?_,?_,?_,?_,?_,?_⟩,?_,?_,?_,?_⟩
 ·intro c hc;simp[qlA,qlz] at hc
 ·decide
 ·exact⟨by decide,.inr rfl⟩
 ·intro c hc;simp[qlA,qlz] at hc
 ·exact List.Pairwise.nil
 ·intro c hc;simp[qlA,qlz] at hc
 ·exact List.Pairwise.nil
 ·rfl
 ·rfl
 ·decide
 ·decide
 ·decide
 ·decide
 ·decide
variable {E:List UInt8->List (List UInt8)×Int}
variable (E)
variable {E}
end Go.Kc
end
section
/- Lists that are equal, policies that are the same, notes with errors. Condition: the functions' texts are these. -/
namespace Go.Kc
variable {P:Program} {f:Nat}
instance:DecidableEq GCall:=fun a b=>if h:a.name=b.name∧a.act=b.act then isTrue (by obtain⟨h1,h2⟩:=h;cases a;cases b;simp_all) else isFalse (by rintro rfl;exact h ⟨rfl,rfl⟩)
theorem yp{α:Type}{l m:List α}{j:Nat}{x y:α}(hx:l[j]?=some x)(hy:m[j]?=some y)(h:l.take j=m.take j)(e:x=y):l.take (j+1)=m.take (j+1):=by
 rw[List.take_add_one,List.take_add_one,hx,hy,h,e]
end Go.Kc
end
section
/- What policy.do and policy.Resolve answer. Condition: the functions' texts are these. -/
namespace Go.Kc
variable {P:Program} {f:Nat}
section
variable {l m:List Asg} {j:Nat}
end
end Go.Kc
end
section
/- PolicyOther: what the law answers. Condition: the functions' texts are these. -/
namespace Go.Kc
variable {P:Program} {f:Nat}
variable {E:List UInt8->List (List UInt8)×Int}
section
variable {g1 g2 g3 g4:Nat}
end
end Go.Kc
end
section
/- What the document's functions of stage 18 answer: the small ones. Condition: the functions' texts are these. -/
namespace Go.Kc
variable {P:Program} {f:Nat}
end Go.Kc
end
section
/- The kit's law of strings.Join, as a contract. No condition. -/
namespace Go.Kc
open Go.RowKit
variable {P:Program} {f:Nat}
def qrq(sep:List UInt8)(xs:List (List UInt8)):List UInt8:=Lib.join xs sep
end Go.Kc
end
section
/- What policy's writer does: its lines. Condition: the functions' texts are these. -/
namespace Go.Kc
variable {P:Program} {f:Nat}
def qeX(k a:List UInt8)(ws:List (List UInt8)):Prop:=k.length<=100∧a.length<=100∧ws.length<=100000∧(qrq [32] ws).length<=1000000
end Go.Kc
end
section
/- What a filter says of data. Condition: the functions' texts are these. -/
namespace Go.Kc
variable {P:Program} {f:Nat}
structure GData where
 nr:Int
 arch:Int
 ip:Int
 a0:Int
 a1:Int
 a2:Int
 a3:Int
 a4:Int
 a5:Int
def qE(d:GData):List AV:=[.i .u32 d.nr,.i .u32 d.arch,.i .u64 d.ip,.i .u64 d.a0,.i .u64 d.a1,.i .u64 d.a2,.i .u64 d.a3,.i .u64 d.a4,.i .u64 d.a5]
def ofM(t n:Int):Int×Bool :=
 if Jz (fun x=>decide (x.2=t)) XB 0<0 then (0,false)
 else if Jz (fun x=>decide (x.2=t)) XB 0=0∧y8 .u32 n 1073741824≠0 then (2,true)
 else (Jz (fun x=>decide (x.2=t)) XB 0,true)
section
variable {g1 g2 g3 g4 g5:Nat}
end
end Go.Kc
end
section
/- The words of a policy's lines. Itoa's contract is taken as given. Condition: the functions' texts are these. -/
namespace Go.Kc
variable {P:Program} {f:Nat}
def qsL(n:Int):List UInt8:=Lib.itoa n
def qsT(n:Int):List UInt8:=if Xr n yM=[]∧n<=4095 then qsL n else Xr n yM
def qr5(c:GCall):List UInt8:=if c.act=0 then c.name else if c.act=2147483648 then c.name++[58,107,105,108,108] else if y8 .u32 c.act 4294901760=327680 then c.name++58::qsT (y8 .u32 c.act 65535) else c.name++[58]
end Go.Kc
end
section
/- What policy's writer lists. Condition: the functions' texts are these. -/
namespace Go.Kc
variable {P:Program} {f:Nat}
def qsO(q:GCall->Bool)(l:List GCall):List (List UInt8):=(l.filter q).map qr5
end Go.Kc
end
section
/- policy's writer: a list's lines. Condition: the functions' texts are these. -/
namespace Go.Kc
variable {P:Program} {f:Nat}
structure LOkP (k:List UInt8) (l:GList):Prop where
 k100:k.length<=100
 n:l.calls.length<=1000
 nm:∀c ∈ l.calls,c.name.length<=1000000
 ok:∀(q:GCall->Bool) (a:List UInt8),a.length<=1->qeX k a (qsO q l.calls)
section
variable {e1 e2 g3 g4 g5 g6 g7:Nat}
end
end Go.Kc
end
section
/- policy.Lines. Itoa's contract is taken as given. Condition: the functions' texts are these. -/
namespace Go.Kc
variable {P:Program} {f:Nat}
section
variable {g1 g2 g3 g4 g5 g6 g7 g8 g9 g10 g11 g12:Nat}
def spW(p:Pol):List (List UInt8):=(ZJ p.spaces).map fun n=>Xr n qbk
def faW(p:Pol):List (List UInt8):=p.fams.map fun n=>Xr n ww
structure LinOk (p:Pol):Prop where
 ar:qeX qrr [] (p.arches.map qqK)
 fil:LOkP qkW p.filter
 log:LOkP qs5 p.log
 fam:∀a:List UInt8,a.length<=1->qeX qs4 a (faW p)
 sp:qeX kSp [126] (spW p)
end
end Go.Kc
end
section
/- The document's writer: join. Condition: the functions' texts are these. -/
namespace Go.Kc
variable {P:Program} {f:Nat}
end Go.Kc
end
section
/- The document's words of numbers. Condition: the functions' texts are these. -/
namespace Go.Kc
variable {P:Program} {f:Nat}
end Go.Kc
end
section
/- The document's text of an entry. Condition: the functions' texts are these. -/
namespace Go.Kc
variable {P:Program} {f:Nat}
end Go.Kc
end
section
/- The document's lines of a list. Condition: the functions' texts are these. -/
namespace Go.Kc
variable {P:Program} {f g1 g2:Nat}
end Go.Kc
end
section
/- The document's lines of a list: the end. Condition: the functions' texts are these. -/
namespace Go.Kc
variable {P:Program} {f g1 g2:Nat}
end Go.Kc
end
section
/- The document's lines of a policy. Condition: the functions' texts are these. -/
namespace Go.Kc
variable {P:Program} {f:Nat}
section
variable {g1 g2 g3 g4 g5 g6 g7 g8 g9:Nat}
end
end Go.Kc
end
section
/- The document's lines of a policy: architectures. Condition: the functions' texts are these. -/
namespace Go.Kc
section
variable {P:Program} {f g1 g2 g3 g4 g5 g6 g7 g8 g9:Nat}
end
end Go.Kc
end
section
/- The document's lines of a policy: joined. Condition: the functions' texts are these. -/
namespace Go.Kc
section
variable {P:Program} {f g1 g2 g3 g4 g5 g6 g7 g8 g9:Nat}
structure Lin19 (p:Pol):Prop where
 arch:∀n ∈ p.arches,0<=n∧n<6
 sp:p.spaces=0↔ZJ p.spaces=[]
 fl:∀c ∈ p.filter.calls,0<=c.act∧c.act<=4294967295
 lg:∀c ∈ p.log.calls,0<=c.act∧c.act<=4294967295
end
end Go.Kc
end
section
/- The lines of a policy that may be are not too long. No condition. -/
namespace Go.Kc
end Go.Kc
end
section
/- Codes of instructions: the program's table. Condition: the functions' texts are these. -/
namespace Go.Kc
variable {P:Program} {f:Nat}
def xt(x:Int×List UInt8×Int):List AV:=[.i .u16 x.1,.s x.2.1,.i .u8 x.2.2]
theorem QP(x:Int×List UInt8×Int):(xt x).length=3:=rfl
def xF:List (Int×List UInt8×Int):=[(32,[108,100,97,98,115],1),(128,[108,100,108,101,110],1),(0,[108,100,105],1),(96,[108,100,109],1),(129,[108,100,120,108,101,110],1),(1,[108,100,120,105],1),(97,[108,100,120,109],1),(2,[115,116],2),(3,[115,116,120],2),(4,[97,100,100],3),(20,[115,117,98],3),(36,[109,117,108],3),(52,[100,105,118],3),(68,[111,114],3),(84,[97,110,100],3),(100,[108,115,104],3),(116,[114,115,104],3),(164,[120,111,114],3),(12,[97,100,100,120],3),(28,[115,117,98,120],3),(44,[109,117,108,120],3),(60,[100,105,118,120],3),(76,[111,114,120],3),(92,[97,110,100,120],3),(108,[108,115,104,120],3),(124,[114,115,104,120],3),(172,[120,111,114,120],3),(132,[110,101,103],3),(5,[106,97],4),(21,[106,101,113],4),(37,[106,103,116],4),(53,[106,103,101],4),(69,[106,115,101,116],4),(29,[106,101,113,120],4),(45,[106,103,116,120],4),(61,[106,103,101,120],4),(77,[106,115,101,116,120],4),(6,[114,101,116],5),(22,[114,101,116,97],5),(7,[116,97,120],6),(135,[116,120,97],6)]
def jI:List (Int×List UInt8×Int):=[(32,[108,100,97,98,115],1),(128,[108,100,108,101,110],1),(0,[108,100,105],1),(96,[108,100,109],1),(129,[108,100,120,108,101,110],1),(1,[108,100,120,105],1),(97,[108,100,120,109],1),(2,[115,116],2),(3,[115,116,120],2),(132,[110,101,103],3),(5,[106,97],4),(6,[114,101,116],5),(22,[114,101,116,97],5),(7,[116,97,120],6),(135,[116,120,97],6),(4,[97,100,100],3),(12,[97,100,100,120],3),(20,[115,117,98],3),(28,[115,117,98,120],3),(36,[109,117,108],3),(44,[109,117,108,120],3),(52,[100,105,118],3),(60,[100,105,118,120],3),(68,[111,114],3),(76,[111,114,120],3),(84,[97,110,100],3),(92,[97,110,100,120],3),(100,[108,115,104],3),(108,[108,115,104,120],3),(116,[114,115,104],3),(124,[114,115,104,120],3),(164,[120,111,114],3),(172,[120,111,114,120],3),(21,[106,101,113],4),(29,[106,101,113,120],4),(37,[106,103,116],4),(45,[106,103,116,120],4),(53,[106,103,101],4),(61,[106,103,101,120],4),(69,[106,115,101,116],4),(77,[106,115,101,116,120],4)]
def zE:List AV:=[.i .u16 0,.s [],.i .u8 0]
def qw(c:Int):Option (Int×List UInt8×Int):=xF.find? fun x=>decide (x.1=c)
def zj:Option (Int×List UInt8×Int)->List AV
 | some x=>xt x
 | none=>zE
def qg(c:Int):Int:=(qw c).elim 0 fun x=>x.2.2
def zk(c:Int):Bool:=(qw c).isSome
def yU:IFn:=⟨[.cell 0 123 true],.seq (.r [.q 0 (.alloc [.i .u16 0,.s [],.i .u8 0,.i .u16 0,.s [],.i .u8 0,.i .u16 0,.s [],.i .u8 0,.i .u16 0,.s [],.i .u8 0,.i .u16 0,.s [],.i .u8 0,.i .u16 0,.s [],.i .u8 0,.i .u16 0,.s [],.i .u8 0,.i .u16 0,.s [],.i .u8 0,.i .u16 0,.s [],.i .u8 0,.i .u16 0,.s [],.i .u8 0,.i .u16 0,.s [],.i .u8 0,.i .u16 0,.s [],.i .u8 0,.i .u16 0,.s [],.i .u8 0,.i .u16 0,.s [],.i .u8 0,.i .u16 0,.s [],.i .u8 0,.i .u16 0,.s [],.i .u8 0,.i .u16 0,.s [],.i .u8 0,.i .u16 0,.s [],.i .u8 0,.i .u16 0,.s [],.i .u8 0,.i .u16 0,.s [],.i .u8 0,.i .u16 0,.s [],.i .u8 0,.i .u16 0,.s [],.i .u8 0,.i .u16 0,.s [],.i .u8 0,.i .u16 0,.s [],.i .u8 0,.i .u16 0,.s [],.i .u8 0,.i .u16 0,.s [],.i .u8 0,.i .u16 0,.s [],.i .u8 0,.i .u16 0,.s [],.i .u8 0,.i .u16 0,.s [],.i .u8 0,.i .u16 0,.s [],.i .u8 0,.i .u16 0,.s [],.i .u8 0,.i .u16 0,.s [],.i .u8 0,.i .u16 0,.s [],.i .u8 0,.i .u16 0,.s [],.i .u8 0,.i .u16 0,.s [],.i .u8 0,.i .u16 0,.s [],.i .u8 0,.i .u16 0,.s [],.i .u8 0,.i .u16 0,.s [],.i .u8 0,.i .u16 0,.s [],.i .u8 0,.i .u16 0,.s [],.i .u8 0,.i .u16 0,.s [],.i .u8 0])]) (.seq (.r [.q 1 (.build [.i .u16 0,.s [],.i .u8 0] [(0,1,(.c (.i .u16 32))),(1,1,(.c (.s [108,100,97,98,115]))),(2,1,(.c (.i .u8 1)))]),.q 2 (.build [.i .u16 0,.s [],.i .u8 0] [(0,1,(.c (.i .u16 128))),(1,1,(.c (.s [108,100,108,101,110]))),(2,1,(.c (.i .u8 1)))]),.q 3 (.build [.i .u16 0,.s [],.i .u8 0] [(0,1,(.c (.i .u16 0))),(1,1,(.c (.s [108,100,105]))),(2,1,(.c (.i .u8 1)))]),.q 4 (.build [.i .u16 0,.s [],.i .u8 0] [(0,1,(.c (.i .u16 96))),(1,1,(.c (.s [108,100,109]))),(2,1,(.c (.i .u8 1)))]),.q 5 (.build [.i .u16 0,.s [],.i .u8 0] [(0,1,(.c (.i .u16 129))),(1,1,(.c (.s [108,100,120,108,101,110]))),(2,1,(.c (.i .u8 1)))]),.q 6 (.build [.i .u16 0,.s [],.i .u8 0] [(0,1,(.c (.i .u16 1))),(1,1,(.c (.s [108,100,120,105]))),(2,1,(.c (.i .u8 1)))]),.q 7 (.build [.i .u16 0,.s [],.i .u8 0] [(0,1,(.c (.i .u16 97))),(1,1,(.c (.s [108,100,120,109]))),(2,1,(.c (.i .u8 1)))]),.q 8 (.build [.i .u16 0,.s [],.i .u8 0] [(0,1,(.c (.i .u16 2))),(1,1,(.c (.s [115,116]))),(2,1,(.c (.i .u8 2)))]),.q 9 (.build [.i .u16 0,.s [],.i .u8 0] [(0,1,(.c (.i .u16 3))),(1,1,(.c (.s [115,116,120]))),(2,1,(.c (.i .u8 2)))]),.q 10 (.build [.i .u16 0,.s [],.i .u8 0] [(0,1,(.c (.i .u16 4))),(1,1,(.c (.s [97,100,100]))),(2,1,(.c (.i .u8 3)))]),.q 11 (.build [.i .u16 0,.s [],.i .u8 0] [(0,1,(.c (.i .u16 20))),(1,1,(.c (.s [115,117,98]))),(2,1,(.c (.i .u8 3)))]),.q 12 (.build [.i .u16 0,.s [],.i .u8 0] [(0,1,(.c (.i .u16 36))),(1,1,(.c (.s [109,117,108]))),(2,1,(.c (.i .u8 3)))]),.q 13 (.build [.i .u16 0,.s [],.i .u8 0] [(0,1,(.c (.i .u16 52))),(1,1,(.c (.s [100,105,118]))),(2,1,(.c (.i .u8 3)))]),.q 14 (.build [.i .u16 0,.s [],.i .u8 0] [(0,1,(.c (.i .u16 68))),(1,1,(.c (.s [111,114]))),(2,1,(.c (.i .u8 3)))]),.q 15 (.build [.i .u16 0,.s [],.i .u8 0] [(0,1,(.c (.i .u16 84))),(1,1,(.c (.s [97,110,100]))),(2,1,(.c (.i .u8 3)))]),.q 16 (.build [.i .u16 0,.s [],.i .u8 0] [(0,1,(.c (.i .u16 100))),(1,1,(.c (.s [108,115,104]))),(2,1,(.c (.i .u8 3)))]),.q 17 (.build [.i .u16 0,.s [],.i .u8 0] [(0,1,(.c (.i .u16 116))),(1,1,(.c (.s [114,115,104]))),(2,1,(.c (.i .u8 3)))]),.q 18 (.build [.i .u16 0,.s [],.i .u8 0] [(0,1,(.c (.i .u16 164))),(1,1,(.c (.s [120,111,114]))),(2,1,(.c (.i .u8 3)))]),.q 19 (.build [.i .u16 0,.s [],.i .u8 0] [(0,1,(.c (.i .u16 12))),(1,1,(.c (.s [97,100,100,120]))),(2,1,(.c (.i .u8 3)))]),.q 20 (.build [.i .u16 0,.s [],.i .u8 0] [(0,1,(.c (.i .u16 28))),(1,1,(.c (.s [115,117,98,120]))),(2,1,(.c (.i .u8 3)))]),.q 21 (.build [.i .u16 0,.s [],.i .u8 0] [(0,1,(.c (.i .u16 44))),(1,1,(.c (.s [109,117,108,120]))),(2,1,(.c (.i .u8 3)))]),.q 22 (.build [.i .u16 0,.s [],.i .u8 0] [(0,1,(.c (.i .u16 60))),(1,1,(.c (.s [100,105,118,120]))),(2,1,(.c (.i .u8 3)))]),.q 23 (.build [.i .u16 0,.s [],.i .u8 0] [(0,1,(.c (.i .u16 76))),(1,1,(.c (.s [111,114,120]))),(2,1,(.c (.i .u8 3)))]),.q 24 (.build [.i .u16 0,.s [],.i .u8 0] [(0,1,(.c (.i .u16 92))),(1,1,(.c (.s [97,110,100,120]))),(2,1,(.c (.i .u8 3)))]),.q 25 (.build [.i .u16 0,.s [],.i .u8 0] [(0,1,(.c (.i .u16 108))),(1,1,(.c (.s [108,115,104,120]))),(2,1,(.c (.i .u8 3)))]),.q 26 (.build [.i .u16 0,.s [],.i .u8 0] [(0,1,(.c (.i .u16 124))),(1,1,(.c (.s [114,115,104,120]))),(2,1,(.c (.i .u8 3)))]),.q 27 (.build [.i .u16 0,.s [],.i .u8 0] [(0,1,(.c (.i .u16 172))),(1,1,(.c (.s [120,111,114,120]))),(2,1,(.c (.i .u8 3)))]),.q 28 (.build [.i .u16 0,.s [],.i .u8 0] [(0,1,(.c (.i .u16 132))),(1,1,(.c (.s [110,101,103]))),(2,1,(.c (.i .u8 3)))]),.q 29 (.build [.i .u16 0,.s [],.i .u8 0] [(0,1,(.c (.i .u16 5))),(1,1,(.c (.s [106,97]))),(2,1,(.c (.i .u8 4)))]),.q 30 (.build [.i .u16 0,.s [],.i .u8 0] [(0,1,(.c (.i .u16 21))),(1,1,(.c (.s [106,101,113]))),(2,1,(.c (.i .u8 4)))]),.q 31 (.build [.i .u16 0,.s [],.i .u8 0] [(0,1,(.c (.i .u16 37))),(1,1,(.c (.s [106,103,116]))),(2,1,(.c (.i .u8 4)))]),.q 32 (.build [.i .u16 0,.s [],.i .u8 0] [(0,1,(.c (.i .u16 53))),(1,1,(.c (.s [106,103,101]))),(2,1,(.c (.i .u8 4)))]),.q 33 (.build [.i .u16 0,.s [],.i .u8 0] [(0,1,(.c (.i .u16 69))),(1,1,(.c (.s [106,115,101,116]))),(2,1,(.c (.i .u8 4)))]),.q 34 (.build [.i .u16 0,.s [],.i .u8 0] [(0,1,(.c (.i .u16 29))),(1,1,(.c (.s [106,101,113,120]))),(2,1,(.c (.i .u8 4)))]),.q 35 (.build [.i .u16 0,.s [],.i .u8 0] [(0,1,(.c (.i .u16 45))),(1,1,(.c (.s [106,103,116,120]))),(2,1,(.c (.i .u8 4)))]),.q 36 (.build [.i .u16 0,.s [],.i .u8 0] [(0,1,(.c (.i .u16 61))),(1,1,(.c (.s [106,103,101,120]))),(2,1,(.c (.i .u8 4)))]),.q 37 (.build [.i .u16 0,.s [],.i .u8 0] [(0,1,(.c (.i .u16 77))),(1,1,(.c (.s [106,115,101,116,120]))),(2,1,(.c (.i .u8 4)))]),.q 38 (.build [.i .u16 0,.s [],.i .u8 0] [(0,1,(.c (.i .u16 6))),(1,1,(.c (.s [114,101,116]))),(2,1,(.c (.i .u8 5)))]),.q 39 (.build [.i .u16 0,.s [],.i .u8 0] [(0,1,(.c (.i .u16 22))),(1,1,(.c (.s [114,101,116,97]))),(2,1,(.c (.i .u8 5)))]),.q 40 (.build [.i .u16 0,.s [],.i .u8 0] [(0,1,(.c (.i .u16 7))),(1,1,(.c (.s [116,97,120]))),(2,1,(.c (.i .u8 6)))]),.q 41 (.build [.i .u16 0,.s [],.i .u8 0] [(0,1,(.c (.i .u16 135))),(1,1,(.c (.s [116,120,97]))),(2,1,(.c (.i .u8 6)))]),.q 42 (.build [.i .u16 0,.s [],.i .u8 0,.i .u16 0,.s [],.i .u8 0,.i .u16 0,.s [],.i .u8 0,.i .u16 0,.s [],.i .u8 0,.i .u16 0,.s [],.i .u8 0,.i .u16 0,.s [],.i .u8 0,.i .u16 0,.s [],.i .u8 0,.i .u16 0,.s [],.i .u8 0,.i .u16 0,.s [],.i .u8 0,.i .u16 0,.s [],.i .u8 0,.i .u16 0,.s [],.i .u8 0,.i .u16 0,.s [],.i .u8 0,.i .u16 0,.s [],.i .u8 0,.i .u16 0,.s [],.i .u8 0,.i .u16 0,.s [],.i .u8 0,.i .u16 0,.s [],.i .u8 0,.i .u16 0,.s [],.i .u8 0,.i .u16 0,.s [],.i .u8 0,.i .u16 0,.s [],.i .u8 0,.i .u16 0,.s [],.i .u8 0,.i .u16 0,.s [],.i .u8 0,.i .u16 0,.s [],.i .u8 0,.i .u16 0,.s [],.i .u8 0,.i .u16 0,.s [],.i .u8 0,.i .u16 0,.s [],.i .u8 0,.i .u16 0,.s [],.i .u8 0,.i .u16 0,.s [],.i .u8 0,.i .u16 0,.s [],.i .u8 0,.i .u16 0,.s [],.i .u8 0,.i .u16 0,.s [],.i .u8 0,.i .u16 0,.s [],.i .u8 0,.i .u16 0,.s [],.i .u8 0,.i .u16 0,.s [],.i .u8 0,.i .u16 0,.s [],.i .u8 0,.i .u16 0,.s [],.i .u8 0,.i .u16 0,.s [],.i .u8 0,.i .u16 0,.s [],.i .u8 0,.i .u16 0,.s [],.i .u8 0,.i .u16 0,.s [],.i .u8 0,.i .u16 0,.s [],.i .u8 0,.i .u16 0,.s [],.i .u8 0] [(0,3,(.t 1)),(3,3,(.t 2)),(6,3,(.t 3)),(9,3,(.t 4)),(12,3,(.t 5)),(15,3,(.t 6)),(18,3,(.t 7)),(21,3,(.t 8)),(24,3,(.t 9)),(27,3,(.t 10)),(30,3,(.t 11)),(33,3,(.t 12)),(36,3,(.t 13)),(39,3,(.t 14)),(42,3,(.t 15)),(45,3,(.t 16)),(48,3,(.t 17)),(51,3,(.t 18)),(54,3,(.t 19)),(57,3,(.t 20)),(60,3,(.t 21)),(63,3,(.t 22)),(66,3,(.t 23)),(69,3,(.t 24)),(72,3,(.t 25)),(75,3,(.t 26)),(78,3,(.t 27)),(81,3,(.t 28)),(84,3,(.t 29)),(87,3,(.t 30)),(90,3,(.t 31)),(93,3,(.t 32)),(96,3,(.t 33)),(99,3,(.t 34)),(102,3,(.t 35)),(105,3,(.t 36)),(108,3,(.t 37)),(111,3,(.t 38)),(114,3,(.t 39)),(117,3,(.t 40)),(120,3,(.t 41))]),.u (.store 123 (.t 0) (.t 42))]) (.ret))⟩
set_option maxRecDepth 20000 in
theorem qmi(hc:qi P f yU=true):qc P f [] (.agg (xF.flatMap xt)):=by
 refine qc.mk hc rfl ?_;simp only[yU,vI,simprocAttr];simp only[↓vS,vT,simprocAttr,xF,xt,List.flatMap_cons,List.flatMap_nil,vZ]
def Xj(a:Nat):IFn:=⟨[.cell 2 3 true,.tmp 3],.seq (.r [.q 2 (.alloc [.i .u16 0,.s [],.i .u8 0]),.m 3 .F]) (.seq (.seq (.r [.l 6 a [],.m 7 (.k 0)]) (.blk 0 (.loop (.seq (.r [.w 8 .lss 7 41]) (.seq (.cond (.t 8) (.skip) (.exit 0)) (.seq (.blk 1 (.seq (.r [.q 9 (.idxA 41 3 true (.t 6) (.t 7)),.q 5 (.alloc [.i .u16 0,.s [],.i .u8 0]),.u (.store 3 (.t 5) (.t 9))]) (.seq (.r [.n 10 0,.v 11 3 5,⟨(some 12),.callV (.t 10) [.t 11],none⟩]) (.cond (.t 12) (.seq (.r [.v 13 3 5,.u (.store 3 (.t 2) (.t 13)),.m 3 .T]) (.ret)) (.skip))))) (.r [.a 14 7 1,.n 7 14]))))))) (.seq (.r [.q 15 (.build [.i .u16 0,.s [],.i .u8 0] []),.u (.store 3 (.t 2) (.t 15)),.m 3 .F]) (.ret)))⟩
theorem qp0{e:Nat}(hc:qi P f (Xj e)=true)(he:qc P e [] (.agg (xF.flatMap xt))){g:Nat}{a c:List AV}(ha:qy a=true)(hcc:qy c=true)(p:Int×List UInt8×Int->Bool)(hp:∀x ∈ xF,qc P g (a++([.agg (xt x)]++c)) (.b (p x))) :
  qc P f [.fn g a c] (.tup [.agg (zj (xF.find? p)),.b (xF.find? p).isSome]):=by
 refine qc.mk hc (by simp[qy,clo,ha,hcc]) ?_;simp only[Xj,vI,simprocAttr];simp only[↓vS,vT,simprocAttr];refine he.sc ?_;simp only[↓vS,vT,simprocAttr];have hlen:(xF.flatMap xt).length=123:=by rw[x9 (m:=3) QP];rfl
 have hTc:qy (xF.flatMap xt)=true:=rfl;refine SL.loop (α:=Nat) (fun j=>[(0,.fn g a c),(2,.ptr 0 0),(6,.agg (xF.flatMap xt)),(7,.i .i64 j)]) (fun _=>[.cells 0 true false zE]) (fun j=>j<=41∧xF.find? p=(xF.drop j).find? p) (fun j=>41-j) 0 [0] ?_ ?_ ?_ rfl ?_ ?_
 ·generalize xF.flatMap xt=T at hTc;simp[vw,qa,hTc,ha,hcc]
 ·simp[vw,zE]
 ·simp
 ·exact⟨Nat.zero_le _,rfl⟩
 rintro j ⟨hj,hI⟩ G ih;simp only[vI,simprocAttr]
 by_cases hlt:j<41
 ·have hlt':(j:Int)<41:=by omega
  have hjl:j<xF.length:=hlt;have hx:xF[j]?=some xF[j]:=List.getElem?_eq_getElem hjl;have hw:IntKind.wrap .i64 ((j:Int)+1)=((j+1:Nat):Int):=by rw[qp (by omega) (by omega)];omega
  have hel:=qU (f:=xt) (m:=3) QP hx;have hb:j*3+3<=(xF.flatMap xt).length:=by omega
  have hpx:=hp _ (List.getElem_mem hjl);rw[List.drop_eq_getElem_cons hjl,List.find?_cons] at hI;generalize hc0:xF[j]=x at hel hI hpx;generalize hT:xF.flatMap xt=T at hel hb hlen hTc;simp only[xt] at hpx;simp only[↓vS,vT,simprocAttr,hlt',hlt,hel,hb,xt,zE];refine hpx.sc ?_;cases hs:p x with
  | true =>
   rw[hs] at hI;simp (decide:=true) only [↓vS,vT,simprocAttr];rw[hI];simp[vZ,zj,xt]
  | false =>
   rw[hs] at hI;simp (decide:=true) only [↓vS,vT,simprocAttr,hw];refine ih (j+1) ⟨hlt,hI⟩ (by omega) _ _ (Wk.mk _ _ [0] ?_ ?_ ?_ rfl)
   ·rw[hT];simp[vw,qa,hTc,ha,hcc]
   ·simp[vw,zE]
   ·simp
 ·have hj':j=41:=by omega
  subst hj';have hlt':¬(((41:Nat):Int)<41):=by decide
  have hI':xF.find? p=none:=hI;clear ih;generalize xF.flatMap xt=T;simp (decide:=true) only [↓vS,vT,simprocAttr,hlt',zE];rw[hI'];simp[vZ,zj,zE]
def Xh:IFn:=⟨[.tmp 3],.seq (.r [.q 2 (.box (.t 0)),.m 3 .F]) (.seq (.r [.f 4 0 2,.d 5 4,.d 6 1,.b 7 .eql 5 6,.n 3 7]) (.ret))⟩
theorem qrm(hc:qi P f Xh=true)(x:Int×List UInt8×Int)(n:Int):qc P f [.agg (xt x),.pf [.i .u16 n] 0] (.b (decide (x.1=n))):=by
 refine qc.mk hc (by simp[qy,clo,xt]) ?_;simp only[Xh,xt,vI,simprocAttr];simp only[↓vS,vT,simprocAttr,vZ]
def qaT(a b:Nat):IFn:=⟨[.cell 2 3 true,.tmp 3],.seq (.r [.q 1 (.box (.t 0)),.q 2 (.alloc [.i .u16 0,.s [],.i .u8 0]),.m 3 .F]) (.seq (.r [.q 4 (.mkF a [] [.t 1]),.l 5 b [.t 4],.x 6 5 0,.x 7 5 1,.u (.store 3 (.t 2) (.t 6)),.n 3 7]) (.ret))⟩
theorem qso{g1 g2:Nat}(hc:qi P f (qaT g1 g2)=true)(h1:∀x n,qc P g1 [.agg (xt x),.pf [.i .u16 n] 0] (.b (decide (x.1=n))))(h2:∀(g:Nat) (a c:List AV),qy a=true->qy c=true->∀p:Int×List UInt8×Int->Bool,(∀x ∈ xF,qc P g (a++([.agg (xt x)]++c)) (.b (p x)))->qc P g2 [.fn g a c] (.tup [.agg (zj (xF.find? p)),.b (xF.find? p).isSome]))(n:Int) :
  qc P f [.i .u16 n] (.tup [.agg (zj (qw n)),.b (zk n)]):=by
 refine qc.mk hc rfl ?_;have h:=h2 g1 [] [.pf [.i .u16 n] 0] rfl rfl (fun x=>decide (x.1=n)) (fun x _=>h1 x n)
 unfold zk qw;have hce:qy (zj (xF.find? fun x=>decide (x.1=n)))=true∧(zj (xF.find? fun x=>decide (x.1=n))).length=3:=by cases xF.find? fun x=>decide (x.1=n)<;>exact⟨rfl,rfl⟩
 generalize (xF.find? fun x=>decide (x.1=n))=o at h hce ⊢
 simp only[qaT,vI,simprocAttr];simp only[↓vS,vT,simprocAttr];refine (h.lend (vs':=[.fn g1 [] [.pf [.i .u16 n] 0]]) ?_ ?_ ?_)
 ·simp[vZ,vP,Tr.get_set]
 ·cases o<;>rfl
 cases o with
 | none =>
  simp (decide:=true) only [↓vS,vT,simprocAttr,zj,zE];simp[vZ]
 | some x =>
  simp (decide:=true) only [↓vS,vT,simprocAttr,zj,xt];simp[vZ]
def qaS(a:Nat):IFn:=⟨[.tmp 2],.seq (.r [.m 2 (.c (.i .u8 0))]) (.seq (.r [.n 6 0,.l 7 a [.t 6],.n 5 7,.x 8 5 0,.x 9 5 1,.q 3 (.alloc [.i .u16 0,.s [],.i .u8 0]),.u (.store 3 (.t 3) (.t 8)),.n 4 9]) (.seq (.r [.f 10 2 3,.d 11 10,.n 2 11]) (.ret)))⟩
theorem qsn{g:Nat}(hc:qi P f (qaS g)=true)(hg:∀n,qc P g [.i .u16 n] (.tup [.agg (zj (qw n)),.b (zk n)]))(n:Int):qc P f [.i .u16 n] (.i .u8 (qg n)):=by
 refine qc.mk hc rfl ?_;have h:=hg n;unfold zk at h;simp only[qaS,vI,simprocAttr];simp only[↓vS,vT,simprocAttr];refine h.sc ?_;cases hcn:qw n with
 | none =>
  simp (decide:=true) only [↓vS,vT,simprocAttr,zj,zE];simp[vZ,qg,zk,hcn]
 | some x =>
  simp (decide:=true) only [↓vS,vT,simprocAttr,zj,xt];simp[vZ,qg,zk,hcn]
def Zl(a:Nat):IFn:=⟨[.tmp 2],.seq (.r [.m 2 .F]) (.seq (.r [.n 6 0,.l 7 a [.t 6],.n 5 7,.x 8 5 0,.x 9 5 1,.q 3 (.alloc [.i .u16 0,.s [],.i .u8 0]),.u (.store 3 (.t 3) (.t 8)),.n 4 9]) (.seq (.r [.n 10 4,.n 2 10]) (.ret)))⟩
theorem qnW{g:Nat}(hc:qi P f (Zl g)=true)(hg:∀n,qc P g [.i .u16 n] (.tup [.agg (zj (qw n)),.b (zk n)]))(n:Int):qc P f [.i .u16 n] (.b (zk n)):=by
 refine qc.mk hc rfl ?_;have h:=hg n;unfold zk at h;simp only[Zl,vI,simprocAttr];simp only[↓vS,vT,simprocAttr];refine h.sc ?_;cases hcn:qw n with
 | none =>
  simp (decide:=true) only [↓vS,vT,simprocAttr,zj,zE];simp[vZ,qg,zk,hcn]
 | some x =>
  simp (decide:=true) only [↓vS,vT,simprocAttr,zj,xt];simp[vZ,qg,zk,hcn]
theorem qfT(c:Int):(jI.find? fun x=>decide (x.1=c))=qw c:=by
 unfold qw
 by_cases h:c ∈ xF.map (·.1)
 ·have key:∀c ∈ xF.map (·.1),(jI.find? fun x=>decide (x.1=c))=xF.find? fun x=>decide (x.1=c):=by decide
  exact key c h
 ·have h2:c ∉ jI.map (·.1):=by
   have key:∀c ∈ jI.map (·.1),c ∈ xF.map (·.1):=by decide
   exact fun hh=>h (key c hh)
  rw[List.find?_eq_none.2,List.find?_eq_none.2]
  ·intro x hx;simp only[decide_eq_true_eq];exact fun e=>h (List.mem_map.2 ⟨x,hx,e⟩)
  ·intro x hx;simp only[decide_eq_true_eq];exact fun e=>h2 (List.mem_map.2 ⟨x,hx,e⟩)
def vb(a:Nat):IFn:=⟨[.cell 2 3 true],.seq (.r [.q 2 (.alloc [.i .u16 0,.s [],.i .u8 0])]) (.seq (.r [.l 5 a [],.n 3 5]) (.seq (.seq (.r [.m 4 (.k 0)]) (.blk 0 (.loop (.seq (.seq (.r [.n 6 4,.n 7 3,.e 8 7,.s 9 6 8]) (.cond (.t 9) (.skip) (.exit 0))) (.seq (.blk 1 (.seq (.r [.n 12 3,.n 13 4,.i 14 3 12 13,.f 15 0 14,.d 16 15,.n 17 0,.b 18 .eql 16 17]) (.cond (.t 18) (.seq (.r [.n 19 3,.n 20 4,.i 21 3 19 20,.v 22 3 21,.u (.store 3 (.t 2) (.t 22))]) (.ret)) (.skip)))) (.r [.n 10 4,.a 11 10 1,.n 4 11])))))) (.seq (.r [.q 23 (.build [.i .u16 0,.s [],.i .u8 0] []),.u (.store 3 (.t 2) (.t 23))]) (.ret))))⟩
theorem que{g:Nat}(hc:qi P f (vb g)=true)(hg:qc P g [] (.fz 41 (jI.flatMap xt)))(n:Int):qc P f [.i .u16 n] (.agg (zj (qw n))):=by
 refine qc.mk hc rfl ?_;rw[← qfT];simp only[vb,vI,simprocAttr];simp only[↓vS,vT,simprocAttr];refine hg.sc ?_;simp only[↓vS,vT,simprocAttr];have hlen:(jI.flatMap xt).length=123:=by rw[x9 (m:=3) QP];rfl
 have hTc:qy (jI.flatMap xt)=true:=rfl;refine SL.loop (α:=Nat) (fun j=>[(0,.i .u16 n),(2,.ptr 0 0),(3,.fz 41 (jI.flatMap xt)),(4,.i .i64 j)]) (fun _=>[.cells 0 true false zE]) (fun j=>j<=41∧(jI.find? fun x=>decide (x.1=n))=(jI.drop j).find? fun x=>decide (x.1=n)) (fun j=>41-j) 0 [0] ?_ ?_ ?_ rfl ?_ ?_
 ·generalize jI.flatMap xt=T at hTc;simp[vw,qa,hTc]
 ·simp[vw,zE]
 ·simp
 ·exact⟨Nat.zero_le _,rfl⟩
 rintro j ⟨hj,hI⟩ G ih;simp only[vI,simprocAttr]
 by_cases hlt:j<41
 ·have hlt':(j:Int)<41:=by omega
  have hjl:j<jI.length:=hlt;have hx:jI[j]?=some jI[j]:=List.getElem?_eq_getElem hjl;have hw:IntKind.wrap .i64 ((j:Int)+1)=((j+1:Nat):Int):=by rw[qp (by omega) (by omega)];omega
  have hel:=qU (f:=xt) (m:=3) QP hx;have g0:(jI.flatMap xt)[j*3]?=some (.i .u16 jI[j].1):=zb (f:=xt) (m:=3) QP hx (i:=0) (by decide);have hb:j*3+3<=(jI.flatMap xt).length:=by omega
  rw[List.drop_eq_getElem_cons hjl,List.find?_cons] at hI;generalize hc0:jI[j]=x at hel hI g0;generalize hT:jI.flatMap xt=T at hel hb hlen hTc g0
  by_cases hs:x.1=n
  ·have hd:decide (x.1=n)=true:=decide_eq_true hs;rw[hd] at hI;simp (decide:=true) only [↓vS,vT,simprocAttr,hlt',hlt,g0,hel,hb,xt,zE,hs];rw[hI];simp[vZ,zj,xt,hs]
  ·have hd:decide (x.1=n)=false:=decide_eq_false hs;rw[hd] at hI;simp (decide:=true) only [↓vS,vT,simprocAttr,hlt',hlt,g0,hs,hw,zE];refine ih (j+1) ⟨hlt,hI⟩ (by omega) _ _ (Wk.mk _ _ [0] ?_ ?_ ?_ rfl)
   ·rw[hT];simp[vw,qa,hTc]
   ·simp[vw,zE]
   ·simp
 ·have hj':j=41:=by omega
  subst hj';have hlt':¬(((41:Nat):Int)<41):=by decide
  have hI':(jI.find? fun x=>decide (x.1=n))=none:=hI
  clear ih;generalize jI.flatMap xt=T;simp (decide:=true) only [↓vS,vT,simprocAttr,hlt',zE];rw[hI'];simp[vZ,zj,zE]
end Go.Kc
end
section
/- Numbers of bytes. Condition: the functions' texts are these. -/
namespace Go.Kc
variable {P:Program} {f:Nat}
def leM:List Int->Int
 | []=>0
 | x::l=>x+256*leM l
def v5(b:List Int):Prop:=∀x ∈ b,0<=x∧x<=255
theorem qbL:∀{l:List Int},v5 l->0<=leM l∧leM l<256 ^ l.length
 | [],_=>by simp[leM]
 | x::l,h=>by
  have h1:=qbL (l:=l) fun y hy=>h y (by simp[hy])
  have h2:=h x (by simp);simp only[leM,List.length_cons,Int.pow_succ];omega
theorem qcS{b:List Int}(h:v5 b)(n:Nat):v5 (b.take n):=fun x hx=>h x (List.mem_of_mem_take hx)
theorem qcR{b:List Int}(h:v5 b)(n:Nat):v5 (b.drop n):=fun x hx=>h x (List.mem_of_mem_drop hx)
end Go.Kc
end
section
/- Numbers read from bytes; instructions from eight. Condition: the functions' texts are these. -/
namespace Go.Kc
variable {P:Program} {f:Nat}
def rB(b:List Int):List AV:=rI .u8 b
theorem xD(b:List Int):(rB b).length=b.length:=zB
theorem qF(b:List Int):qy (rB b)=true:=zg
theorem qek(b:List Int)(j:Nat):(rB b)[j]?=(b[j]?).map (.i .u8):=X0
def y5(b:List Int)(at' n:Nat):List Int:=(b.drop at').take n
theorem qjh{b:List Int}{at' n:Nat}(h:at'+n<=b.length):(y5 b at' n).length=n:=by unfold y5;simp;omega
theorem qgJ{b:List Int}{at' n:Nat}{c:Int}(h:b[at']?=some c):y5 b at' (n+1)=c::y5 b (at'+1) n:=by
 unfold y5;obtain⟨hl,rfl⟩:=List.getElem?_eq_some_iff.1 h;rw[List.drop_eq_getElem_cons hl,List.take_succ_cons]
theorem qlX{b:List Int}(h:v5 b)(at' n:Nat):v5 (y5 b at' n):=qcS (qcR h at') n
def qkG(b:List Int)(at' n:Nat):AV:=if at'+n<=b.length then .tup [.i .u64 (leM (y5 b at' n)),.b true] else .tup [.i .u64 0,.b false]
def wC:IFn:=⟨[.tmp 6,.tmp 7],.seq (.r [.m 6 (.c (.i .u64 0)),.m 7 .F]) (.seq (.seq (.r [.n 10 1,.w 11 .lss 10 0,.n 12 11,.z 13 2 12,.z 14 0 12,.g 15 (.len false (.t 14)) 12 false,.g 16 (.bin .gtr (.t 13) (.t 15)) 12 false,.o 17 12 16,.n 18 17,.z 19 1 18,.z 20 0 18,.g 21 (.len false (.t 20)) 18 false,.z 22 2 18,.g 23 (.bin .sub (.t 21) (.t 22)) 18 false,.g 24 (.bin .gtr (.t 19) (.t 23)) 18 false,.o 25 18 24]) (.cond (.t 25) (.seq (.r [.m 6 (.c (.i .u64 0)),.m 7 .F]) (.ret)) (.skip))) (.seq (.r [.m 8 (.c (.i .u64 0))]) (.seq (.seq (.r [.n 26 2,.w 27 .sub 26 1,.n 9 27]) (.blk 0 (.loop (.seq (.seq (.r [.n 28 9,.w 29 .geq 28 0]) (.cond (.t 29) (.skip) (.exit 0))) (.seq (.blk 1 (.r [.n 32 8,.q 33 (.bin .mul (.t 32) (.c (.i .u64 256))),.n 34 0,.n 35 1,.n 36 9,.b 37 .add 35 36,.i 38 1 34 37,.d 39 38,.q 40 (.cvInt .u64 (.t 39)),.b 41 .add 33 40,.n 8 41])) (.r [.n 30 9,.w 31 .sub 30 1,.n 9 31])))))) (.seq (.r [.n 42 8,.n 6 42,.m 7 .T]) (.ret)))))⟩
theorem qtZ(hc:qi P f wC=true)(b:List Int)(hb:v5 b)(hl:b.length<=1000000)(at':Nat)(ha:at'<=1000000)(n:Nat)(hn8:n<=7):qc P f [.fz b.length (rB b),.i .i64 at',.i .i64 n] (qkG b at' n):=by
 refine qc.mk hc (by simp[qy,clo,qF]) ?_;have hn:¬(at':Int)<0:=by omega
 have hw0:IntKind.wrap .i64 ((b.length:Int)-(n:Int))=(b.length:Int)-n:=qp (by omega) (by omega);have hw1:IntKind.wrap .i64 ((n:Int)-1)=(n:Int)-1:=qp (by omega) (by omega);unfold qkG;simp only[wC,vI,simprocAttr]
 by_cases h:at'+n<=b.length
 ·have h1:¬(b.length:Int)<(n:Int):=by omega
  have h':¬(b.length:Int)-n<(at':Int):=by omega
  rw[if_pos h];simp (decide:=true) only [↓vS,vT,simprocAttr,hn,h1,h',hw0,hw1];refine SL.loop (α:=Nat) (fun r=>[(0,.fz b.length (rB b)),(1,.i .i64 at'),(8,.i .u64 (leM (y5 b (at'+r) (n-r)))),(9,.i .i64 ((r:Int)-1))]) (fun _=>[]) (fun r=>r<=n) (fun r=>r) n [] ?_ ?_ ?_ rfl ?_ ?_
  ·simp[vw,qF,y5,leM]
  ·trivial
  ·simp
  ·exact Nat.le_refl _
  rintro r hr G ih;simp only[vI,simprocAttr]
  by_cases hr0:r=0
  ·subst hr0;clear ih;simp (decide:=true) only [↓vS,vT,simprocAttr];simp[vZ]
  ·obtain⟨j,rfl⟩:∃j,r=j+1:=⟨r-1,by omega⟩
   have hge:(0:Int)<=((j+1:Nat):Int)-1:=by omega
   have hgel:¬((j+1:Nat):Int)-1<0:=by omega
   have hjl:at'+j<b.length:=by omega
   obtain⟨c,hcx⟩:∃c,b[at'+j]?=some c:=⟨_,List.getElem?_eq_getElem hjl⟩;have hcb:=hb c (List.mem_of_getElem? hcx);have hw2:IntKind.wrap .i64 ((at':Int)+(((j+1:Nat):Int)-1))=((at'+j:Nat):Int):=by rw[qp (by omega) (by omega)];omega
   have hw3:IntKind.wrap .i64 ((((j+1:Nat):Int)-1)-1)=(j:Int)-1:=by rw[qp (by omega) (by omega)];omega
   have hp:y5 b (at'+j) (n-j)=c::y5 b (at'+(j+1)) (n-(j+1)):=by
    have:n-j=(n-(j+1))+1:=by omega
    rw[this,qgJ hcx];rfl
   have hbd:=qbL (qlX hb (at'+(j+1)) (n-(j+1)));have hsl:(y5 b (at'+(j+1)) (n-(j+1))).length=n-(j+1):=qjh (by omega);rw[hsl] at hbd
   have hpw:(256:Int) ^ (n-(j+1))<=256 ^ 6:=by
    have:(256:Nat) ^ (n-(j+1))<=256 ^ 6:=Nat.pow_le_pow_right (by decide) (by omega);have h2:=Int.ofNat_le.2 this;rw[Int.natCast_pow,Int.natCast_pow] at h2;exact h2
   have h6:(256:Int) ^ 6=281474976710656:=by decide
   rw[h6] at hpw;have hx:leM (y5 b (at'+j) (n-j))=leM (y5 b (at'+(j+1)) (n-(j+1)))*256+c:=by rw[hp];simp only[leM];omega
   have ih2:=ih j;rw[hx] at ih2;generalize leM (y5 b (at'+(j+1)) (n-(j+1)))=x at hbd ih2 ⊢;have hw4:IntKind.wrap .u64 (x*256)=x*256:=qcI (by omega) (by omega);have hw5:IntKind.wrap .u64 c=c:=qcI (by omega) (by omega);have hw6:IntKind.wrap .u64 (x*256+c)=x*256+c:=qcI (by omega) (by omega);simp only[↓vS,vT,simprocAttr,hgel,hge,hw2,hjl,Nat.mul_one,qek,hcx,Option.map_some,hw3,hw4,hw5,hw6];refine ih2 (by omega) (by omega) _ _ (Wk.mk _ _ [] ?_ ?_ ?_ rfl)
   ·simp[vw,qF]
   ·trivial
   ·simp
 ·rw[if_neg h]
  by_cases h1:(b.length:Int)<(n:Int)
  ·simp (decide:=true) only [↓vS,vT,simprocAttr,hn,h1];simp[vZ]
  ·have h':(b.length:Int)-n<(at':Int):=by omega
   simp (decide:=true) only [↓vS,vT,simprocAttr,hn,h1,h',hw0];simp[vZ]
structure Ins where
 code:Int
 jt:Int
 jf:Int
 k:Int
def qn(i:Ins):List AV:=[.i .u16 i.code,.i .u8 i.jt,.i .u8 i.jf,.i .u32 i.k]
theorem qW(i:Ins):(qn i).length=4:=rfl
def qqS(P:Program)(g:Nat):Prop:=∀(b:List Int),v5 b->b.length<=1000000->∀at':Nat,at'<=1000000->∀n:Nat,n<=7->qc P g [.fz b.length (rB b),.i .i64 at',.i .i64 n] (qkG b at' n)
theorem getD_some{b:List Int}{j:Nat}(h:j<b.length):b[j]?=some (b.getD j 0):=by
 rw[List.getElem?_eq_getElem h,List.getD_eq_getElem?_getD,List.getElem?_eq_getElem h];rfl
def wb:IFn:=⟨[.tmp 4],.seq (.r [.m 4 .F]) (.seq (.seq (.r [.n 6 0,.e 7 6,.n 8 1,.e 9 8,.b 10 .neq 7 9]) (.cond (.t 10) (.seq (.r [.m 4 .F]) (.ret)) (.skip))) (.seq (.seq (.r [.m 5 (.k 0)]) (.blk 0 (.loop (.seq (.seq (.r [.n 11 5,.n 12 0,.e 13 12,.s 14 11 13]) (.cond (.t 14) (.skip) (.exit 0))) (.seq (.blk 1 (.seq (.reg true [.n 17 0,.n 18 5,.i 19 1 17 18,.d 20 19,.n 21 1,.n 22 5,.i 23 1 21 22,.d 24 23,.b 25 .neq 20 24]) (.cond (.t 25) (.seq (.r [.m 4 .F]) (.ret)) (.skip)))) (.r [.n 15 5,.a 16 15 1,.n 5 16])))))) (.seq (.r [.m 4 .T]) (.ret))))⟩
theorem qtF(hc:qi P f wb=true)(l m:List Int)(hl:l.length<=1000000):qc P f [.fz l.length (rB l),.fz m.length (rB m)] (.b (decide (l=m))):=by
 refine qc.mk hc (by simp[qy,clo,qF]) ?_;simp only[wb,vI,simprocAttr]
 by_cases hlen:l.length=m.length
 ·have hli:(l.length:Int)=m.length:=by omega
  simp only[↓vS,vT,simprocAttr,hli];refine SL.loop (α:=Nat) (fun j=>[(0,.fz l.length (rB l)),(1,.fz m.length (rB m)),(5,.i .i64 j)]) (fun _=>[]) (fun j=>j<=l.length∧l.take j=m.take j) (fun j=>l.length-j) 0 [] ?_ ?_ ?_ rfl ?_ ?_
  ·simp[vw,qF]
  ·trivial
  ·simp
  ·exact⟨Nat.zero_le _,by simp⟩
  rintro j ⟨hj,hI⟩ G ih;simp only[vI,simprocAttr]
  by_cases hlt:j<l.length
  ·have hlm:j<m.length:=by omega
   have hx:l[j]?=some l[j]:=List.getElem?_eq_getElem hlt;have hy:m[j]?=some m[j]:=List.getElem?_eq_getElem hlm;have hw:IntKind.wrap .i64 ((j:Int)+1)=((j+1:Nat):Int):=by rw[qp (by omega) (by omega)];omega
   by_cases e:l[j]=m[j]
   ·simp only[↓vS,vT,simprocAttr,hlt,hlm];refine zm ?_;simp (decide:=true) only [↓vS,vT,simprocAttr,hlt,hlm,Nat.mul_one,qek,hx,hy,Option.map_some,e,hw,ne_eq,not_true_eq_false];refine ih (j+1) ⟨by omega,yp hx hy hI e⟩ (by omega) _ _ (Wk.mk _ _ [] ?_ ?_ ?_ rfl)
    ·simp[vw,qF]
    ·trivial
    ·simp
   ·have hne:l≠m:=by
     intro h;subst h;exact e rfl
    simp only[↓vS,vT,simprocAttr,hlt,hlm];refine zm ?_;simp (decide:=true) only [↓vS,vT,simprocAttr,hlt,hlm,Nat.mul_one,qek,hx,hy,Option.map_some,e,hw,ne_eq,not_false_eq_true];simp[vZ,hne]
  ·have he:l=m:=by
    rw[List.take_of_length_le (by omega),List.take_of_length_le (by omega)] at hI;exact hI
   simp only[↓vS,vT,simprocAttr,hlt];simp[vZ,he]
 ·have hli:¬(l.length:Int)=m.length:=by omega
  have hne:l≠m:=fun h=>hlen (by rw[h])
  simp only[↓vS,vT,simprocAttr,hli];simp[vZ,hne]
end Go.Kc
end
section
/- A program of bytes. Condition: the functions' texts are these. -/
namespace Go.Kc
variable {P:Program} {f:Nat}
def rP(p:List Ins):List AV:=p.flatMap qn
theorem vm(p:List Ins):(rP p).length=p.length*4:=x9 qW p
theorem qd(p:List Ins):qy (rP p)=true:=ye (fun _=>rfl)
theorem qcw{r:Loop}(h:r.state = .ready)(h2:r.pending=none):rdy r=r:=by cases r;simp_all [rdy]
end Go.Kc
end
section
/- Cells as bits; what an instruction reads and writes; a way's coming. Condition: the functions' texts are these. -/
namespace Go.Kc
variable {P:Program} {f:Nat}
theorem qey(x:BitVec 16):IntKind.wrap .u16 (x.toNat:Int)=(x.toNat:Int):=by
 have:=x.isLt;show ((x.toNat:Int)) % 65536=_;omega
theorem Q4(x:BitVec 16):BitVec.ofInt 16 (x.toNat:Int)=x:=by simp
theorem qrS(x y:BitVec 16):orI .u16 (x.toNat:Int) (y.toNat:Int)=((x ||| y).toNat:Int):=by
 show IntKind.wrap .u16 ((BitVec.ofInt 16 (x.toNat:Int) ||| BitVec.ofInt 16 (y.toNat:Int)).toNat:Int)=_
 rw[Q4,Q4,qey]
theorem ql4(x y:BitVec 16):y8 .u16 (x.toNat:Int) (y.toNat:Int)=((x &&& y).toNat:Int):=by
 show IntKind.wrap .u16 ((BitVec.ofInt 16 (x.toNat:Int) &&& BitVec.ofInt 16 (y.toNat:Int)).toNat:Int)=_;rw[Q4,Q4,qey]
theorem qmd(x y:BitVec 16):qaC .u16 (x.toNat:Int) (y.toNat:Int)=((x &&& ~~~ y).toNat:Int):=by
 show IntKind.wrap .u16 ((BitVec.ofInt 16 (x.toNat:Int) &&& ~~~ (BitVec.ofInt 16 (y.toNat:Int))).toNat:Int)=_;rw[Q4,Q4,qey]
def cell(k:Int):BitVec 16:=1#16 <<< k.toNat
theorem qfk{k:Int}(h0:0<=k)(h:k<16):qgD .u16 1 k=((cell k).toNat:Int):=by
 have key:∀n:Fin 16,qgD .u16 1 (n.val:Int)=((cell (n.val:Int)).toNat:Int):=by decide
 have:=key ⟨k.toNat,by omega⟩
 simpa[Int.toNat_of_nonneg h0] using this
structure InsOk (i:Ins):Prop where
 c0:0<=i.code
 c1:i.code<=65535
 t0:0<=i.jt
 t1:i.jt<=255
 f0:0<=i.jf
 f1:i.jf<=255
 k0:0<=i.k
 k1:i.k<=4294967295
def cOf(P:Program)(g:Nat):Prop:=∀n,qc P g [.i .u16 n] (.i .u8 (qg n))
def wrM(i:Ins):BitVec 16:=if qg i.code=2∧i.k<16 then cell i.k else 0#16
def rdM(i:Ins):BitVec 16:=if (i.code=96∨i.code=97)∧i.k<16 then cell i.k else 0#16
def yS(a:Nat):IFn:=⟨[.tmp 2],.seq (.r [.q 1 (.box (.t 0)),.m 2 (.c (.i .u16 0))]) (.seq (.seq (.r [.f 3 0 1,.d 4 3,.l 5 a [.t 4],.q 6 (.bin .neq (.t 5) (.c (.i .u8 2))),.n 7 6,.h 8 3 1 7 false,.j 9 8 7 false,.g 10 (.bin .geq (.t 9) (.c (.i .u32 16))) 7 false,.o 11 7 10]) (.cond (.t 11) (.seq (.r [.m 2 (.c (.i .u16 0))]) (.ret)) (.skip))) (.seq (.r [.f 12 3 1,.d 13 12,.q 14 (.bin .shl (.c (.i .u16 1)) (.t 13)),.n 2 14]) (.ret)))⟩
theorem qmH{g:Nat}(hc:qi P f (yS g)=true)(hg:cOf P g)(i:Ins)(hi:InsOk i):qc P f [.agg (qn i)] (.i .u16 ((wrM i).toNat:Int)):=by
 refine qc.mk hc (by rfl) ?_;have h0:=hi.k0;unfold wrM;simp only[yS,qn,vI,simprocAttr];simp (decide:=true) only [↓vS,vT,simprocAttr];refine (hg _).sc ?_
 by_cases h2:qg i.code=2
 ·by_cases hk:i.k<16
  ·have hk':¬16<=i.k:=by omega
   rw[if_pos ⟨h2,hk⟩];simp (decide:=true) only [↓vS,vT,simprocAttr,h2,hk,hk',h0,qfk h0 hk];simp[vZ]
  ·have hk':16<=i.k:=by omega
   rw[if_neg (fun h=>hk h.2)]
   simp (decide:=true) only [↓vS,vT,simprocAttr,h2,hk,hk'];simp[vZ]
 ·rw[if_neg (fun h=>h2 h.1)]
  simp (decide:=true) only [↓vS,vT,simprocAttr,h2];simp[vZ]
def Qr:IFn:=⟨[.tmp 2],.seq (.r [.q 1 (.box (.t 0)),.m 2 (.c (.i .u16 0))]) (.seq (.seq (.r [.f 3 0 1,.d 4 3,.q 5 (.bin .neq (.t 4) (.c (.i .u16 96))),.n 6 5,.h 7 0 1 6 true,.j 8 7 6 true,.g 9 (.bin .neq (.t 8) (.c (.i .u16 97))) 6 true,.p 10 6 9,.n 11 10,.h 12 3 1 11 false,.j 13 12 11 false,.g 14 (.bin .geq (.t 13) (.c (.i .u32 16))) 11 false,.o 15 11 14]) (.cond (.t 15) (.seq (.r [.m 2 (.c (.i .u16 0))]) (.ret)) (.skip))) (.seq (.r [.f 16 3 1,.d 17 16,.q 18 (.bin .shl (.c (.i .u16 1)) (.t 17)),.n 2 18]) (.ret)))⟩
theorem qpb(hc:qi P f Qr=true)(i:Ins)(hi:InsOk i):qc P f [.agg (qn i)] (.i .u16 ((rdM i).toNat:Int)):=by
 refine qc.mk hc (by rfl) ?_;have h0:=hi.k0;unfold rdM;simp only[Qr,qn,vI,simprocAttr]
 by_cases hk:i.k<16
 ·have hk':¬16<=i.k:=by omega
  by_cases h1:i.code=96
  ·rw[if_pos ⟨.inl h1,hk⟩];simp (decide:=true) only [↓vS,vT,simprocAttr,h1,hk',h0,qfk h0 hk];simp[vZ]
  ·by_cases h2:i.code=97
   ·rw[if_pos ⟨.inr h2,hk⟩];simp (decide:=true) only [↓vS,vT,simprocAttr,h2,hk',h0,qfk h0 hk];simp[vZ]
   ·rw[if_neg (fun h=>h.1.elim h1 h2)]
    simp (decide:=true) only [↓vS,vT,simprocAttr,h1,h2];simp[vZ]
 ·have hk':16<=i.k:=by omega
  rw[if_neg (fun h=>hk h.2)]
  by_cases h1:i.code=96
  ·simp (decide:=true) only [↓vS,vT,simprocAttr,h1,hk'];simp[vZ]
  ·by_cases h2:i.code=97
   ·simp (decide:=true) only [↓vS,vT,simprocAttr,h2,hk'];simp[vZ]
   ·simp (decide:=true) only [↓vS,vT,simprocAttr,h1,h2];simp[vZ]
def rW(s:List (BitVec 16)):List AV:=s.map fun x=>.i .u16 (x.toNat:Int)
def rTt(r:List Bool):List AV:=r.map .b
theorem qcu{s:List (BitVec 16)}:(rW s).length=s.length:=by simp[rW]
theorem yJ{s:List Bool}:(rTt s).length=s.length:=by simp[rTt]
theorem qx{s:List (BitVec 16)}:qy (rW s)=true:=Qe fun _=>rfl
theorem qm{s:List Bool}:qy (rTt s)=true:=Qe fun _=>rfl
theorem ZU{s:List (BitVec 16)}{j:Nat}:(rW s)[j]?=(s[j]?).map fun x=>.i .u16 (x.toNat:Int):=by simp[rW]
theorem xK{s:List Bool}{j:Nat}:(rTt s)[j]?=(s[j]?).map .b:=by simp[rTt]
theorem qeZ{α:Type}{F:α->AV}{L:List α}{j:Nat}(h:j<L.length)(x:α):(L.map F).take j++(F x::(L.map F).drop (j+1))=(L.set j x).map F:=by
 rw[← List.map_take,← List.map_drop,← List.map_cons,← List.map_append,List.set_eq_take_append_cons_drop,if_pos h]
theorem qi3{s:List (BitVec 16)}{j:Nat}(h:j<s.length)(x:BitVec 16):(rW s).take j++(.i .u16 (x.toNat:Int)::(rW s).drop (j+1))=rW (s.set j x):=qeZ h x
theorem Xv{s:List Bool}{j:Nat}(h:j<s.length)(x:Bool):(rTt s).take j++(.b x::(rTt s).drop (j+1))=rTt (s.set j x):=qeZ h x
def xW(s:List (BitVec 16))(r:List Bool)(j:Nat)(x:BitVec 16):List (BitVec 16):=s.set j (if r.getD j false=true then s.getD j 0 &&& x else x)
def Qg(nv:List AV)(s:List (BitVec 16))(r:List Bool):List Blk:=[.cells 0 true false (rW s),.cells 0 true false (rTt r),.cells 0 true false [.sl 0 0 s.length s.length false],.cells 0 true false [.sl 1 0 s.length s.length false]]
def yR:IFn:=⟨[],.seq (.seq (.r [.d 6 2,.n 7 0,.i 8 1 6 7,.d 9 8,.q 10 (.un .not (.t 9))]) (.cond (.t 10) (.r [.d 11 3,.n 12 0,.i 13 1 11 12,.u (.store 1 (.t 13) (.c (.i .u16 65535)))]) (.skip))) (.seq (.r [.d 14 2,.n 15 0,.i 16 1 14 15,.u (.store 1 (.t 16) .T)]) (.r [.d 17 3,.n 18 0,.i 19 1 17 18,.d 20 19,.n 21 1,.b 22 .and 20 21,.i 23 1 17 18,.u (.store 1 (.t 23) (.t 22))]))⟩
theorem qq3(hc:qi P f yR=true)(s:List (BitVec 16))(r:List Bool)(hr:r.length=s.length)(j:Nat)(hj:j<s.length)(x:BitVec 16) :
  Upd P f [.i .i64 j,.i .u16 (x.toNat:Int),.ptr 3 0,.ptr 2 0] (Qg [] s r) (.tup []) (Qg [] (xW s r j x) (r.set j true)):=by
 refine Upd.mk hc (by simp[xu,bnd,Qg]) (by simp[Qg]) ?_;have hjr:j<r.length:=by omega
 obtain⟨y,hy⟩:∃y,s[j]?=some y:=⟨_,List.getElem?_eq_getElem hj⟩;obtain⟨b,hb⟩:∃b,r[j]?=some b:=⟨_,List.getElem?_eq_getElem hjr⟩;have hl1:j+1<=(rTt r).length:=by rw[yJ];omega
 have hl2:∀s':List (BitVec 16),s'.length=s.length->j+1<=(rW s').length:=fun s' h=>by rw[qcu];omega
 have hb1:∀y:Bool,List.take j (rTt r)++(AV.b y::List.drop (j+1) (rTt r))=rTt (r.set j y):=fun y=>Xv hjr y
 have hb2:∀(s':List (BitVec 16)) (y:BitVec 16),s'.length=s.length->List.take j (rW s')++(AV.i .u16 (y.toNat:Int)::List.drop (j+1) (rW s'))=rW (s'.set j y):=fun s' y h=>qi3 (by omega) y
 have hc0:=hl2 s rfl;have hc1:=hb2 s (y &&& x) rfl;have hd0:=hl2 (s.set j 65535#16) (by simp);have hd1:=hb2 s 65535#16 rfl;have hd2:=hb2 (s.set j 65535#16) x (by simp);rw[show (((65535#16).toNat:Nat):Int)=65535 from rfl] at hd1
 have hy2:(s.set j 65535#16)[j]?=some 65535#16:=by rw[List.getElem?_set_self (by omega)]
 have hand:y8 .u16 65535 (x.toNat:Int)=(x.toNat:Int):=by
  rw[show (65535:Int)=((65535#16).toNat:Int) from rfl,ql4,show (65535#16:BitVec 16)=BitVec.allOnes 16 from rfl,BitVec.allOnes_and]
 have ht3:(65535#16).toNat=65535:=rfl;simp only[yR,Qg,xW,List.getD_eq_getElem?_getD,hy,hb,Option.getD_some,vI,simprocAttr];cases b with
 | true =>
  simp (decide:=true) only [↓vS,vT,simprocAttr,Nat.mul_one,ZU,xK,hy,hb,Option.map_some,hl1,hb1,hc0,hc1,ql4,hj];intro _;refine⟨[0,1,2,3],?_⟩;simp[vw,qa,qx,qm];decide
 | false =>
  simp (decide:=true) only [↓vS,vT,simprocAttr,Nat.mul_one,ZU,xK,hy,hb,Option.map_some,hl1,hb1,hc0,hd0,hd1,hy2,hand,hd2,hj];intro _;refine⟨[0,1,2,3],?_⟩;simp[vw,qa,qx,qm];decide
end Go.Kc
end
section
/- What is done at a place that is reached; where ways lead to. Condition: the functions' texts are these. -/
namespace Go.Kc
variable {P:Program} {f:Nat}
def rNt(l:List Nat):List AV:=l.map fun n:Nat=>.i .i64 (n:Int)
theorem Xt{l:List Nat}:(rNt l).length=l.length:=by simp[rNt]
theorem qu{l:List Nat}:qy (rNt l)=true:=Qe fun _=>rfl
theorem qcr{l:List Nat}{j:Nat}:(rNt l)[j]?=(l[j]?).map fun n:Nat=>.i .i64 (n:Int):=by simp[rNt]
theorem qam{l m:List Nat}:rNt l++rNt m=rNt (l++m):=by simp[rNt]
def X9(i:Ins)(x:BitVec 16)(at':Nat)(l:List Nat):List Nat:=if rdM i &&& ~~~ x=0#16 then l else l++[at']
def kw(a:Nat):IFn:=⟨[],.seq (.r [.d 6 2,.n 7 0,.i 8 4 6 7,.v 9 4 8,.l 10 a [.t 9],.n 11 1,.b 12 .andNot 10 11,.q 13 (.bin .neq (.t 12) (.c (.i .u16 0)))]) (.cond (.t 13) (.r [.d 14 3,.n 15 0,.q 16 (.buildS 1 [.i .i64 0] [(0,1,(.t 15))]),.q 17 (.app 1 8 true (.t 14) (.t 16)),.u (.store 1 (.t 3) (.t 17))]) (.skip))⟩
theorem qqp{g:Nat}(hc:qi P f (kw g)=true)(hg:∀i,InsOk i->qc P g [.agg (qn i)] (.i .u16 ((rdM i).toNat:Int)))(p:List Ins)(hp:p.length<=4096)(l:List Nat)(hl:l.length<=4096)(j:Nat)(i:Ins)(hj:p[j]?=some i)(hi:InsOk i)(x:BitVec 16) :
  Upd P f [.i .i64 j,.i .u16 (x.toNat:Int),.ptr 0 0,.ptr 1 0] [.cells 0 true false [.fz p.length (rP p)],.cells 0 true false [.own 2 l.length],.cells 1 true true (rNt l)] (.tup [])
   [.cells 0 true false [.fz p.length (rP p)],.cells 0 true false [.own 3 (X9 i x j l).length],.dead,.cells 1 true true (rNt (X9 i x j l))]:=by
 refine Upd.mkd hc (by simp[xu,bnd,za (qd p)]) (by simp) ?_
 have hjl:j<p.length:=(List.getElem?_eq_some_iff.1 hj).1;have hel:=qU (f:=qn) (m:=4) qW hj;rw[show p.flatMap qn=rP p from rfl] at hel
 have h4:j*4+4<=(rP p).length:=by rw[vm];omega
 have hr1:l.length+1<=qf:=by simp only[qf];omega
 have hr2:(l.length+1)*8<=qf:=by simp only[qf];omega
 have hap:rNt l++[.i .i64 (j:Int)]=rNt (l++[j]):=by rw[← qam];rfl
 have hll:(rNt l).length=l.length:=Xt;simp only[kw,vI,simprocAttr];simp (decide:=true) only [↓vS,vT,simprocAttr,hjl,hel,h4];refine (hg i hi).sc ?_;unfold X9
 by_cases h0:rdM i &&& ~~~ x=0#16
 ·have h0':(((rdM i &&& ~~~ x).toNat:Nat):Int)=0:=by rw[h0];rfl
  rw[if_pos h0];simp (decide:=true) only [↓vS,vT,simprocAttr,qmd,h0'];intro _;refine⟨[0,1,2,2],?_⟩;simp[vw,qa,qd,qu,x5,rl];intro b hb;have:b=0∨b=1∨b=2:=by omega
  rcases this with rfl|rfl|rfl<;>simp
 ·have h0':¬(((rdM i &&& ~~~ x).toNat:Nat):Int)=0:=fun h=>h0 (by
   have:(rdM i &&& ~~~ x).toNat=0:=by omega
   exact BitVec.eq_of_toNat_eq this)
  rw[if_neg h0];simp (decide:=true) only [↓vS,vT,simprocAttr,qmd,h0',Nat.mul_one,hr1,hr2,hll,hap];intro _;refine⟨[0,1,2,4],?_⟩;simp[vw,qa,qd,qu,x5,rl];intro b hb;have:b=0∨b=1∨b=2:=by omega
  rcases this with rfl|rfl|rfl<;>simp
end Go.Kc
end
section
/- Where ways lead to: the list of places. Condition: the functions' texts are these. -/
namespace Go.Kc
variable {P:Program} {f:Nat}
def qD:IFn:=⟨[.tmp 2],.seq (.r [.m 2 .N]) (.seq (.seq (.r [.n 6 0,.e 7 6,.w 8 .lss 7 2]) (.cond (.t 8) (.seq (.r [.n 9 0,.n 2 9]) (.ret)) (.skip))) (.seq (.seq (.r [.m 3 (.k 1)]) (.blk 0 (.loop (.seq (.seq (.r [.n 10 3,.n 11 0,.e 12 11,.s 13 10 12]) (.cond (.t 13) (.skip) (.exit 0))) (.seq (.blk 1 (.seq (.reg true [.n 16 0,.n 17 3,.i 18 1 16 17,.d 19 18,.n 20 0,.n 21 3,.w 22 .sub 21 1,.i 23 1 20 22,.d 24 23,.b 25 .eql 19 24]) (.cond (.t 25) (.seq (.r [.n 26 0,.n 27 3,.q 28 (.slcS 1 (.t 26) (some (.t 27)) none none),.n 4 28]) (.seq (.seq (.r [.m 5 (.k 1)]) (.blk 2 (.loop (.seq (.seq (.r [.n 29 5,.n 30 4,.e 31 30,.s 32 29 31]) (.cond (.t 32) (.skip) (.exit 2))) (.seq (.blk 3 (.seq (.reg true [.n 35 4,.n 36 5,.i 37 1 35 36,.d 38 37,.n 39 4,.n 40 5,.w 41 .sub 40 1,.i 42 1 39 41,.d 43 42,.b 44 .neq 38 43]) (.cond (.t 44) (.seq (.r [.n 45 0,.n 46 3,.n 47 4,.n 48 5,.i 49 1 47 48,.d 50 49,.i 51 1 45 46,.u (.store 1 (.t 51) (.t 50))]) (.r [.n 52 3,.a 53 52 1,.n 3 53])) (.skip)))) (.r [.n 33 5,.a 34 33 1,.n 5 34])))))) (.seq (.r [.n 54 0,.n 55 3,.q 56 (.slcS 1 (.t 54) (some (.t 55)) none none),.u (.clear [.i .i64 0] (.t 56))]) (.seq (.r [.n 57 0,.n 58 3,.q 59 (.slcS 1 (.t 57) none (some (.t 58)) none),.n 2 59]) (.ret))))) (.skip)))) (.r [.n 14 3,.a 15 14 1,.n 3 15])))))) (.seq (.r [.n 60 0,.n 2 60]) (.ret))))⟩
theorem qhA(hc:qi P f qD=true):qc P f [.nils] .nils:=by
 refine qc.mk hc rfl ?_;simp only[qD,vI,simprocAttr];simp (decide:=true) only [↓vS,vT,simprocAttr];simp[vZ]
theorem qc3(hc:qi P f qD=true)(x:Int):Upd P f [.sl 0 0 1 1 false] [.cells 0 true false [.i .i64 x]] (.sl 0 0 1 1 false) [.cells 0 true false [.i .i64 x]]:=by
 refine Upd.mk hc (by simp[xu,bnd]) (by simp) ?_;simp only[qD,vI,simprocAttr];simp (decide:=true) only [↓vS,vT,simprocAttr];intro _;refine⟨[0],?_⟩;simp[vw,qa]
theorem qc4(hc:qi P f qD=true)(x y:Int):Upd P f [.sl 0 0 2 2 false] [.cells 0 true false [.i .i64 x,.i .i64 y]] (.sl 0 0 (if x=y then 1 else 2) 2 false) [.cells 0 true false [.i .i64 x,.i .i64 (if x=y then 0 else y)]]:=by
 refine Upd.mk hc (by simp[xu,bnd]) (by simp) ?_;simp only[qD,vI,simprocAttr];simp (decide:=true) only [↓vS,vT,simprocAttr];refine SL.loopn (α:=Nat) (fun k=>[(0,.sl 0 0 2 2 false),(3,.i .i64 (k:Int))]) (fun _=>[.cells 0 true false [.i .i64 x,.i .i64 y]]) (fun k=>k=1∨k=2∧x≠y) (fun k=>2-k) 1 [0] ?_ ?_ ?_ rfl ?_ ?_ ?_ ?_
 ·simp[vw]
 ·simp[vw]
 ·simp
 ·simp
 ·intro b hb;obtain rfl:b=0:=by omega
  rfl
 ·exact .inl rfl
 rintro k hk G ih;have hw0:IntKind.wrap .i64 0=0:=rfl;have hw1:IntKind.wrap .i64 1=1:=rfl;have hw2:IntKind.wrap .i64 2=2:=rfl;simp only[vI,simprocAttr];rcases hk with rfl|⟨rfl,hne⟩
 ·by_cases h:x=y
  ·subst h;simp (decide:=true) only [↓vS,vT,simprocAttr];refine zm ?_;simp (decide:=true) only [↓vS,vT,simprocAttr,hw0];refine SL.loopn (α:=Unit) (fun _=>[(0,.sl 0 0 2 2 false),(3,.i .i64 1),(4,.sl 0 1 1 1 false),(5,.i .i64 1)]) (fun _=>[.cells 0 true false [.i .i64 x,.i .i64 x]]) (fun _=>True) (fun _=>0) () [0] ?_ ?_ ?_ rfl ?_ ?_ ?_ ?_
   ·simp[vw]
   ·simp[vw]
   ·simp
   ·simp
   ·intro b hb;obtain rfl:b=0:=by omega
    rfl
   ·trivial
   rintro _ _ G2 _;simp only[vI,simprocAttr];simp (decide:=true) only [↓vS,vT,simprocAttr];intro _;refine⟨[0],?_⟩;simp[vw,qa]
  ·have h':¬y=x:=fun e=>h e.symm
   simp (decide:=true) only [↓vS,vT,simprocAttr];refine zm ?_;simp (decide:=true) only [↓vS,vT,simprocAttr,h',hw0,hw1,hw2];refine ih 2 (.inr ⟨rfl,h⟩) (by decide) _ _ (Wk.mkn _ _ [0] ?_ ?_ ?_ rfl ?_ ?_)
   ·simp[vw]
   ·simp[vw]
   ·simp
   ·simp
   ·intro b hb;obtain rfl:b=0:=by omega
    rfl
 ·simp (decide:=true) only [↓vS,vT,simprocAttr,hne,if_false];intro _;refine⟨[0],?_⟩;simp[vw,qa,hne]
end Go.Kc
end
section
/- The loop over where ways lead to. Condition: the functions' texts are these. -/
namespace Go.Kc
variable {P:Program} {f:Nat}
def loM(i:Ins):Int:=if i.jf<i.jt then i.jf else i.jt
def hiM(i:Ins):Int:=if i.jt<i.jf then i.jf else i.jt
def zN(i:Ins)(at':Nat):List Nat :=
 if qg i.code=0∨qg i.code=5 then []
 else if qg i.code=4 then (if i.code=5 then [at'+1+i.k.toNat] else if loM i=hiM i then [at'+1+(loM i).toNat] else [at'+1+(loM i).toNat,at'+1+(hiM i).toNat])
 else [at'+1]
def goM(n:Nat)(x:BitVec 16):List Nat->List (BitVec 16)×List Bool->List (BitVec 16)×List Bool
 | [],st=>st
 | m::L,st=>if m<n then goM n x L (xW st.1 st.2 m x,st.2.set m true) else st
theorem Qo{n:Nat}{x:BitVec 16}{m:Nat}{L:List Nat}{st:List (BitVec 16)×List Bool}:goM n x (m::L) st=if m<n then goM n x L (xW st.1 st.2 m x,st.2.set m true) else st:=rfl
theorem qch{n:Nat}{x:BitVec 16}:∀(L:List Nat) (st:List (BitVec 16)×List Bool),(goM n x L st).1.length=st.1.length∧(goM n x L st).2.length=st.2.length
 | [],_=>⟨rfl,rfl⟩
 | m::L,st=>by
  unfold goM;split
  ·have:=qch (n:=n) (x:=x) L (xW st.1 st.2 m x,st.2.set m true);simpa[xW] using this
  ·exact⟨rfl,rfl⟩
def wkB(p:List Ins)(gc:Nat)(l:List Nat)(st:List (BitVec 16)×List Bool):List Blk:=[.cells 0 true false [.fz p.length (rP p)],.cells 0 true false [.own 2 l.length],.cells 1 true true (rNt l),.cells 0 true false (rW st.1),.cells 0 true false (rTt st.2),.cells 0 true false [.sl 3 0 st.1.length st.1.length false],.cells 0 true false [.sl 4 0 st.1.length st.1.length false],.cells 0 true false [.fn gc [] [.ptr 6 0,.ptr 5 0]]]
def wI(p:List Ins)(gc:Nat)(l:List Nat)(st:List (BitVec 16)×List Bool)(j:Nat)(i:Ins):List Blk:=wkB p gc l st++[.cells 0 true false [.i .i64 (j:Int)],.cells 0 true false (qn i)]
def kZ(gv:Nat):AV:=.fn gv [] [.ptr 0 0,.ptr 1 0]
def XG(gw:Nat)(p:List Ins)(j:Nat)(i:Ins):AV:=.fn gw [] [.pf (qn i) 0,.pf [.i .i64 (j:Int)] 0,.pf [.i .i64 (p.length:Int)] 0]
def wT(gv:Nat)(p:List Ins)(j:Nat):List (Nat×AV):=[(0,.fz p.length (rP p)),(1,kZ gv),(4,.ptr 5 0),(5,.ptr 6 0),(6,.ptr 7 0),(20,.fz p.length (rP p)),(21,.i .i64 (p.length:Int)),(22,.i .i64 (j:Int))]
def wTr(gv gw:Nat)(p:List Ins)(j:Nat)(i:Ins):List (Nat×AV):=wT gv p j++[(7,.ptr 8 0),(8,.ptr 9 0),(47,XG gw p j i)]
def zy(a b:Nat):ICode:=.blk 1 (.loop (.seq (.r [.s 52 51 50]) (.seq (.cond (.t 52) (.skip) (.exit 1)) (.seq (.blk 2 (.seq (.r [.i 53 1 49 51,.d 54 53,.n 7 54]) (.seq (.r [.n 55 7,.d 56 3,.b 57 .geq 55 56,.n 58 57,.z 59 0 58,.z 60 7 58,⟨(some 61),.callV (.t 59) [.t 60],(some (58,false))⟩,.g 62 (.un .not (.t 61)) 58 false,.o 63 58 62]) (.cond (.t 63) (.ret) (.skip))))) (.r [.a 64 51 1,.n 51 64])))))
def xL(a b:Nat):IFn:=⟨[],.seq (.r [.m 5 .N]) (.seq (.seq (.r [.f 8 0 1,.d 9 8,.l 10 a [.t 9]]) (.blk 0 (.seq (.seq (.r [.q 15 (.bin .eql (.t 10) (.c (.i .u8 0))),.n 14 15]) (.cond (.t 14) (.skip) (.r [.q 16 (.bin .eql (.t 10) (.c (.i .u8 5))),.n 14 16]))) (.cond (.t 14) (.skip) (.seq (.r [.q 18 (.bin .eql (.t 10) (.c (.i .u8 4))),.n 17 18]) (.cond (.t 17) (.seq (.r [.d 19 2,.a 20 19 1,.f 21 1 1,.d 22 21,.f 23 2 1,.d 24 23,.q 25 (.min (.t 22) (.t 24)),.q 26 (.cvInt .i64 (.t 25)),.b 27 .add 20 26,.d 28 2,.a 29 28 1,.f 30 1 1,.d 31 30,.f 32 2 1,.d 33 32,.q 34 (.max (.t 31) (.t 33)),.q 35 (.cvInt .i64 (.t 34)),.b 36 .add 29 35,.q 37 (.buildS 2 [.i .i64 0] [(0,1,(.t 27)),(1,1,(.t 36))]),.n 5 37]) (.seq (.r [.f 38 0 1,.d 39 38,.q 40 (.bin .eql (.t 39) (.c (.i .u16 5)))]) (.cond (.t 40) (.r [.d 41 2,.a 42 41 1,.f 43 3 1,.d 44 43,.q 45 (.cvInt .i64 (.t 44)),.b 46 .add 42 45,.q 47 (.buildS 1 [.i .i64 0] [(0,1,(.t 46))]),.n 5 47]) (.skip)))) (.r [.d 11 2,.a 12 11 1,.q 13 (.buildS 1 [.i .i64 0] [(0,1,(.t 12))]),.n 5 13]))))))) (.seq (.r [.n 48 5,.l 49 b [.t 48],.e 50 49,.m 51 (.k 0)]) (.cut (zy a b))))⟩
def wa(a b c:Nat):ICode:=.r [.a 59 22 1,.n 22 59]
def j9(a b c:Nat):ICode:=.seq (.r [.v 43 4 8,.d 44 7,.n 45 0,.e 46 45,.l 47 b [.t 43,.t 44,.t 46]]) (.blk 2 (.rangeF (.t 47) [48] (.r [.n 9 48]) (.blk 3 (.reg true [.d 49 6,.n 50 9,.d 51 4,.d 52 7,.i 53 1 51 52,.d 54 53,.v 55 4 8,.l 56 c [.t 55],.b 57 .or 54 56,⟨(some 58),.callVW (.t 49) [.t 50,.t 57],none⟩]))))
def j8(a b c:Nat):ICode:=.seq (.seq (.r [.d 31 5,.d 32 7,.i 33 1 31 32,.d 34 33,.q 35 (.un .not (.t 34))]) (.cond (.t 35) (.exit 1) (.skip))) (.seq (.reg true [.n 36 1,.d 37 7,.d 38 4,.d 39 7,.i 40 1 38 39,.d 41 40,⟨(some 42),.callVW (.t 36) [.t 37,.t 41],none⟩]) (.cut (j9 a b c)))
def Zi(a b c:Nat):IFn:=⟨[],.seq (.seq (.r [.n 10 0,.e 11 10,.w 12 .gtr 11 4096]) (.cond (.t 12) (.ret) (.skip))) (.seq (.reg true [.n 13 0,.e 14 13,.q 15 (.mkS 1 2 [.i .u16 0] (.t 14) (.t 14)),.n 16 0,.e 17 16,.q 18 (.mkS 1 1 [.b false] (.t 17) (.t 17)),.q 4 (.alloc [.nils]),.q 5 (.alloc [.nils]),.u (.storeD 1 (.t 4) (.t 15) []),.u (.store 1 (.t 5) (.t 18))]) (.seq (.r [.q 19 (.mkF a [] [.t 5,.t 4]),.q 6 (.alloc [.nilf]),.u (.store 1 (.t 6) (.t 19))]) (.seq (.r [.n 20 0,.e 21 20,.m 22 (.k 0)]) (.blk 0 (.loop (.seq (.r [.s 23 22 21]) (.seq (.cond (.t 23) (.skip) (.exit 0)) (.seq (.blk 1 (.seq (.r [.n 24 22,.i 25 4 20 22,.v 26 4 25,.q 7 (.alloc [.i .i64 0]),.q 8 (.alloc [.i .u16 0,.i .u8 0,.i .u8 0,.i .u32 0]),.u (.store 1 (.t 7) (.t 24)),.u (.store 4 (.t 8) (.t 26))]) (.seq (.seq (.r [.d 27 7,.w 28 .eql 27 0]) (.cond (.t 28) (.r [.d 29 6,⟨(some 30),.callVW (.t 29) [.k 0,(.c (.i .u16 0))],none⟩]) (.skip))) (.cut (j8 a b c))))) (.cut (wa a b c))))))))))⟩
def aW:ICode:=.r [.n 9 48]
def bW(fw:Nat):ICode:=.blk 3 (.reg true [.d 49 6,.n 50 9,.d 51 4,.d 52 7,.i 53 1 51 52,.d 54 53,.v 55 4 8,.l 56 fw [.t 55],.b 57 .or 54 56,⟨(some 58),.callVW (.t 49) [.t 50,.t 57],none⟩])
structure RecOk (P:Program) (r0:Loop) (ps:List Nat) (ai bi:ICode):Prop where
 st:r0.state = .ready
 pd:r0.pending=none
 ok:LoopOk P r0 ps ai bi
theorem qhw{i:Ins}:List.take 4 (List.drop 0 (qn i))=qn i:=rfl
theorem qmc{i:Ins}:4<=(qn i).length:=Nat.le_refl 4
def qeE(P:Program)(gc:Nat):Prop:=∀(s:List (BitVec 16)) (r:List Bool),r.length=s.length->∀j:Nat,j<s.length->∀x:BitVec 16,
  Upd P gc [.i .i64 j,.i .u16 (x.toNat:Int),.ptr 3 0,.ptr 2 0] (Qg [] s r) (.tup []) (Qg [] (xW s r j x) (r.set j true))
def cWr(P:Program)(g:Nat):Prop:=∀i,InsOk i->qc P g [.agg (qn i)] (.i .u16 ((wrM i).toNat:Int))
set_option maxHeartbeats 1000000 in
theorem qap{g1 g2 g3 gc gv gw:Nat}(hcome:qeE P gc)(hwr:cWr P g3)(p:List Ins)(hp:p.length<=4096)(i:Ins)(hi:InsOk i)(j:Nat)(l:List Nat)
  (r0:Loop) (hr:RecOk P r0 [48] aW (bW g3)) (L:List Nat) (ex:List AV) (hex:qy ex=true) (cp:Nat) (hcp:L.length<=cp) (hL:∀n ∈ L,j<n) (hL4:L.length<=4)
  (x:BitVec 16) (s0:List (BitVec 16)×List Bool) (hs1:s0.1.length=p.length) (hs2:s0.2.length=p.length) (hx:s0.1[j]?=some x) (Qf:AV->Hp->Prop)
  (hQ:Qf (.tup []) (mkH 0 (wI p gc l (goM p.length (x ||| wrM i) L s0) j i++[.map (zC r0 (wTr gv gw p j i)),.cells 0 true false (rNt L++ex)])))
  {t':Tr AV} {h':Hp} (hw:Wk 11 t' h' (mkT [(0,.yl 10),(3,.pf [.i .i64 (p.length:Int)] 0),(49,.sl 11 0 L.length cp false),(50,.i .i64 (L.length:Int)),(51,.i .i64 0)]) (mkH 0 (wI p gc l s0 j i++[.map (zC r0 (wTr gv gw p j i)),.cells 0 true false (rNt L++ex)]))) :
  S P 11 (zy g1 g2) (j0 [] Qf) t' h':=by
 refine S.weak hw (qA ?_);have hid:=qcw hr.st hr.pd;simp only[zy,wI,wkB,List.cons_append,List.nil_append,vI,simprocAttr];simp (decide:=true) only [↓vS,vT,simprocAttr]
 refine SL.loopn (α:=Nat×(List (BitVec 16)×List Bool)) (fun a=>[(0,.yl 10),(3,.pf [.i .i64 (p.length:Int)] 0),(49,.sl 11 0 L.length cp false),(50,.i .i64 (L.length:Int)),(51,.i .i64 (a.1:Int))])
  (fun a=>wI p gc l a.2 j i++[.map (zC r0 (wTr gv gw p j i)),.cells 0 true false (rNt L++ex)])
  (fun a=>a.1<=L.length∧a.2.1.length=p.length∧a.2.2.length=p.length∧a.2.1[j]?=some x∧goM p.length (x ||| wrM i) (L.drop a.1) a.2=goM p.length (x ||| wrM i) L s0) (fun a=>L.length-a.1) (0,s0) [0,1,2,3,4,5,6,7,8,9,10,11] ?_ ?_ ?_ rfl ?_ ?_ ?_ ?_
 ·simp[vw,wI,wkB]
 ·simp[vw,wI,wkB,wTr,wT,kZ,XG,qd,qu,qx,qm,qa,hex,qn,jo,jq,xG,zA,zG]
 ·simp
 ·simp[wI,wkB]
 ·intro b hb;have:b=0∨b=1∨b=2∨b=3∨b=4∨b=5∨b=6∨b=7∨b=8∨b=9∨b=10:=by omega
  rcases this with rfl|rfl|rfl|rfl|rfl|rfl|rfl|rfl|rfl|rfl|rfl<;>rfl
 ·exact⟨Nat.zero_le _,hs1,hs2,hx,rfl⟩
 rintro⟨q,s,r⟩ ⟨hq,hl1,hl2,hxq,hgo⟩ G ih;simp only at hq hl1 hl2 hxq hgo;simp only[wI,wkB,List.cons_append,List.nil_append,vI,simprocAttr]
 by_cases hlt:q<L.length
 ·obtain⟨n,hn⟩:∃n,L[q]?=some n:=⟨_,List.getElem?_eq_getElem hlt⟩;have hjn:=hL n (List.mem_of_getElem? hn);have hgn:(rNt L++ex)[q]?=some (.i .i64 (n:Int)):=by rw[List.getElem?_append_left (by rw[Xt];exact hlt),qcr,hn];rfl
  have hqc:q<cp:=by omega
  simp (decide:=true) only [↓vS,vT,simprocAttr,hlt,Nat.mul_one,hgn]
  have hdr:L.drop q=n::L.drop (q+1):=by
   obtain⟨hh,he⟩:=List.getElem?_eq_some_iff.1 hn;rw[List.drop_eq_getElem_cons hh,he]
  rw[hdr,Qo] at hgo
  by_cases hnl:n<p.length
  ·have hnl':¬(p.length:Int)<=(n:Int):=by omega
   rw[if_pos hnl] at hgo;have hw1:IntKind.wrap .i64 ((q:Int)+1)=((q+1:Nat):Int):=by rw[qp (by omega) (by omega)];omega
   have hjs:j<p.length:=hl1 ▸ (List.getElem?_eq_some_iff.1 hxq).1;have hcm:=hcome s r (by omega) n (by omega) (x ||| wrM i)
   have hln:(xW s r n (x ||| wrM i)).length=p.length:=by simp[xW,hl1]
   have hxn:(xW s r n (x ||| wrM i))[j]?=some x:=by unfold xW;rw[List.getElem?_set_ne (by omega)];exact hxq
   have hln2:(r.set n true).length=p.length:=by simp[hl2]
   have ih2:=ih (q+1,xW s r n (x ||| wrM i),r.set n true) ⟨hlt,hln,hln2,hxn,hgo⟩ (by simp only;omega)
   simp (decide:=true) only [↓vS,vT,simprocAttr,hnl'];refine SY.mk (r:=r0) (ts:=wTr gv gw p j i) (ps:=[48]) (ai:=aW) (bi:=bW g3) (by simp[Tr.get_set]) hr.st hr.ok (Nat.zero_le _) (by show 10<12;decide) rfl ?_;rw[show mkT (wTr gv gw p j i)=mkT [(0,.fz p.length (rP p)),(1,kZ gv),(4,.ptr 5 0),(5,.ptr 6 0),(6,.ptr 7 0),(20,.fz p.length (rP p)),(21,.i .i64 (p.length:Int)),(22,.i .i64 (j:Int)),(7,.ptr 8 0),(8,.ptr 9 0),(47,XG gw p j i)] from rfl]
   refine qA ?_;simp only[aW,qej,vI,simprocAttr];simp only[↓vS,vT,simprocAttr];refine⟨wTr gv gw p j i,by simp[Tr.get_set],?_⟩
   refine qA ?_;simp only[zW,bW,vI,simprocAttr];simp (decide:=true) only [↓vS,vT,simprocAttr];refine zm ?_;simp (decide:=true) only [↓vS,vT,simprocAttr,hl1,hjs,Nat.mul_one,ZU,hxq,Option.map_some,qhw,qmc];refine (hwr i hi).pc ?_;simp (decide:=true) only [↓vS,vT,simprocAttr,qrS];refine hcm.pc (vs:=[.i .i64 n,.i .u16 ((x ||| wrM i).toNat:Int),.ptr 3 0,.ptr 2 0]) [3,4,5,6] (Lent.of (by decide) ?_) ?_
   ·simp[vL,vw,Qg,za qx,qz qx,za qm,qz qm,hl1]
   simp only[vK,simprocAttr,Qg,qz qx,qz qm];simp (decide:=true) only [↓vS,vT,simprocAttr];refine⟨bsy r0,wTr gv gw p j i,by simp[Tr.get_set],?_⟩
   rw[qcv,hid];simp only[zW];simp (decide:=true) only [↓vS,vT,simprocAttr,hw1,hnl'];refine ih2 _ _ (Wk.mkn _ _ [0,1,2,3,4,5,6,7,8,9,10,11] ?_ ?_ ?_ rfl ?_ ?_)
   ·simp[vw,wI,wkB]
   ·simp[vw,wI,wkB,wTr,wT,kZ,XG,qd,qu,qx,qm,qa,hex,qn,jo,jq,xG,zA,zG]
   ·simp
   ·simp[wI,wkB]
   ·intro b hb;have:b=0∨b=1∨b=2∨b=3∨b=4∨b=5∨b=6∨b=7∨b=8∨b=9∨b=10:=by omega
    rcases this with rfl|rfl|rfl|rfl|rfl|rfl|rfl|rfl|rfl|rfl|rfl<;>rfl
  ·have hnl':(p.length:Int)<=(n:Int):=by omega
   rw[if_neg hnl] at hgo;simp (decide:=true) only [↓vS,vT,simprocAttr,hnl'];rw[← hgo] at hQ;exact hQ
 ·obtain rfl:q=L.length:=by omega
  simp (decide:=true) only [↓vS,vT,simprocAttr,hlt];rw[List.drop_length] at hgo;rw[← hgo] at hQ;exact hQ
end Go.Kc
end
section
/- The ways from a place. Condition: the functions' texts are these. -/
namespace Go.Kc
variable {P:Program} {f:Nat}
def Zj(a:Nat):IFn:=⟨[.tmp 6],.seq (.r [.q 3 (.box (.t 0)),.q 4 (.box (.t 1)),.q 5 (.box (.t 2)),.m 6 (.c (.nilf))]) (.seq (.r [.q 7 (.mkF a [] [.t 3,.t 4,.t 5]),.n 6 7]) (.ret))⟩
theorem qsv{g:Nat}(hc:qi P f (Zj g)=true)(i:Ins)(j n:Nat):qc P f [.agg (qn i),.i .i64 (j:Int),.i .i64 (n:Int)] (.fn g [] [.pf (qn i) 0,.pf [.i .i64 (j:Int)] 0,.pf [.i .i64 (n:Int)] 0]):=by
 refine qc.mk hc rfl ?_;simp only[Zj,vI,simprocAttr];simp (decide:=true) only [↓vS,vT,simprocAttr];simp[vZ,vP,Tr.get_set,qn]
theorem qcs{x:Nat}:rNt [x]=[.i .i64 (x:Int)]:=rfl
theorem qct{x y:Nat}:rNt [x,y]=[.i .i64 (x:Int),.i .i64 (y:Int)]:=rfl
theorem qjt{g1 g2:Nat}(g3 gv gw gc:Nat)(p:List Ins)(i:Ins)(j:Nat)(l:List Nat)(r0:Loop)(s0:List (BitVec 16)×List Bool)(Qf:AV->Hp->Prop)
  (hQ:Qf (.tup []) (mkH 0 (wI p gc l s0 j i++[.map (zC r0 (wTr gv gw p j i))])))
  {t':Tr AV} {h':Hp} (hw:Wk 11 t' h' (mkT [(50,.i .i64 0),(51,.i .i64 0)]) (mkH 0 (wI p gc l s0 j i++[.map (zC r0 (wTr gv gw p j i))]))) :
  S P 11 (zy g1 g2) (j0 [] Qf) t' h':=by
 refine S.weak hw (qA ?_);simp only[zy,wI,wkB,List.cons_append,List.nil_append,vI,simprocAttr];simp (decide:=true) only [↓vS,vT,simprocAttr];refine SL.loopn (α:=Unit) (fun _=>[(50,.i .i64 0),(51,.i .i64 0)]) (fun _=>wI p gc l s0 j i++[.map (zC r0 (wTr gv gw p j i))]) (fun _=>True) (fun _=>0) () [0,1,2,3,4,5,6,7,8,9,10] ?_ ?_ ?_ rfl ?_ ?_ ?_ ?_
 ·simp[vw,wI,wkB]
 ·simp[vw,wI,wkB,wTr,wT,kZ,XG,qd,qu,qx,qm,qa,qn,jo,jq,xG,zA,zG]
 ·simp
 ·simp[wI,wkB]
 ·intro b hb;have:b=0∨b=1∨b=2∨b=3∨b=4∨b=5∨b=6∨b=7∨b=8∨b=9∨b=10:=by omega
  rcases this with rfl|rfl|rfl|rfl|rfl|rfl|rfl|rfl|rfl|rfl|rfl<;>rfl
 ·trivial
 rintro _ _ G _;simp only[wI,wkB,List.cons_append,List.nil_append,vI,simprocAttr];simp (decide:=true) only [↓vS,vT,simprocAttr];exact hQ
set_option maxHeartbeats 1000000 in
theorem qjr{g1 g2 g3 g4 gc gv gw:Nat}(hcw:qi P gw (xL g1 g2)=true)(hof:cOf P g1)(hcc:qi P g2 qD=true)(hcome:qeE P gc)(hwr:cWr P g3)
  (hwy:∀i (j n:Nat),qc P g4 [.agg (qn i),.i .i64 (j:Int),.i .i64 (n:Int)] (.fn gw [] [.pf (qn i) 0,.pf [.i .i64 (j:Int)] 0,.pf [.i .i64 (n:Int)] 0]))
  (p:List Ins) (hp:p.length<=4096) (i:Ins) (hi:InsOk i) (j:Nat) (hj:j<p.length) (l:List Nat)
  (x:BitVec 16) (s0:List (BitVec 16)×List Bool) (hs1:s0.1.length=p.length) (hs2:s0.2.length=p.length) (hx:s0.1[j]?=some x) (Q:X->Tr AV->Hp->Prop)
  (hQ:∀t'' h'',Wk 2 t'' h'' (mkT (wT gv p j)) (mkH 0 (wkB p gc l (goM p.length (x ||| wrM i) (zN i j) s0)))->Q .normal t'' h'')
  {t':Tr AV} {h':Hp} (hw:Wk 2 t' h' (mkT (wT gv p j++[(7,.ptr 8 0),(8,.ptr 9 0)])) (mkH 0 (wI p gc l s0 j i))) :
  S P 2 (j9 gc g4 g3) Q t' h':=by
 refine S.weak hw (qA ?_);simp only[j9,wT,wI,wkB,List.cons_append,List.nil_append,vI,simprocAttr];simp (decide:=true) only [↓vS,vT,simprocAttr,qhw,qmc];refine (hwy i j p.length).sc ?_;simp (decide:=true) only [↓vS,vT,simprocAttr];refine S.weak (Wk.mkn (wTr gv gw p j i) (wI p gc l s0 j i) [0,1,2,3,4,5,6,7,8,9] ?_ ?_ ?_ rfl ?_ ?_) ?_
 ·simp[vw,wTr,wT,kZ,XG,qd,wI,wkB,qn]
 ·simp[vw,wI,wkB,qd,qu,qx,qm,qa,qn]
 ·simp
 ·simp[wI,wkB]
 ·intro b hb;have:b=0∨b=1:=by omega
  rcases this with rfl|rfl<;>rfl
 refine S.rangeF (by simp[x5,wI,wkB]) (by simp[wTr,wT]) ⟨rfl,rfl⟩ ?_;refine qeN.2 ⟨XG gw p j i,by simp[wTr,wT,mkT,Tr.get_set],?_⟩
 refine⟨qaD hcw,fun r0 hr0 hp0 hlo=>SC.mk hcw ?_⟩
 have hrec:RecOk P r0 [48] aW (bW g3):=⟨hr0,hp0,hlo⟩;have hid:=qcw hr0 hp0;obtain⟨Qf,hQf⟩:∃Qf:AV->Hp->Prop,Qf=qnB (mkH 0 (wI p gc l s0 j i)).sz (fun e t h=>onX e (Q .normal t h) (fun i=>if i=2 then Q .normal t h else Q (.exit i) t h) (Q .ret t h)) (mkT (wTr gv gw p j i)):=⟨_,rfl⟩
 have hfin0:Qf (.tup []) (mkH 0 (wI p gc l (goM p.length (x ||| wrM i) (zN i j) s0) j i++[.map (zC r0 (wTr gv gw p j i))])):=by
  skip
  rw[hQf];refine⟨r0,wTr gv gw p j i,by rw[zq];rfl,by rw[hr0];decide,?_⟩
  rw[hp0];simp only[wI,wkB,wTr,wT,List.cons_append,List.nil_append,vI,simprocAttr,zW];simp only[ZQ];refine hQ _ _ (Wk.mkn _ _ [0,1,2,3,4,5,6,7] ?_ ?_ ?_ rfl ?_ ?_)
  ·simp[vw,wT,kZ,XG,qd,wkB,qn]
  ·simp[vw,wkB,qd,qu,qx,qm,qa,qn]
  ·simp
  ·simp[wkB]
  ·intro b hb;have:b=0∨b=1:=by omega
   rcases this with rfl|rfl<;>rfl
 have hfin1:∀cs:List AV,Qf (.tup []) (mkH 0 (wI p gc l (goM p.length (x ||| wrM i) (zN i j) s0) j i++[.map (zC r0 (wTr gv gw p j i)),.cells 0 true false cs])):=by
  intro cs;rw[hQf];refine⟨r0,wTr gv gw p j i,by rw[zq];rfl,by rw[hr0];decide,?_⟩
  rw[hp0];simp only[wI,wkB,wTr,wT,List.cons_append,List.nil_append,vI,simprocAttr,zW];simp only[ZQ];refine hQ _ _ (Wk.mkn _ _ [0,1,2,3,4,5,6,7] ?_ ?_ ?_ rfl ?_ ?_)
  ·simp[vw,wT,kZ,XG,qd,wkB,qn]
  ·simp[vw,wkB,qd,qu,qx,qm,qa,qn]
  ·simp
  ·simp[wkB]
  ·intro b hb;have:b=0∨b=1:=by omega
   rcases this with rfl|rfl<;>rfl
 rw[← hQf];show S P 11 (xL g1 g2).body (j0 [] Qf) (jO [.yl 10,.pf (qn i) 0,.pf [.i .i64 (j:Int)] 0,.pf [.i .i64 (p.length:Int)] 0] 0 .leaf) (mkH 0 (wI p gc l s0 j i++[.map (zC r0 (wTr gv gw p j i))]));refine qA ?_;simp only[xL,wI,wkB,qn,List.cons_append,List.nil_append,vI,simprocAttr];simp (decide:=true) only [↓vS,vT,simprocAttr];refine (hof i.code).sc ?_;simp (decide:=true) only [↓vS,vT,simprocAttr];have hj1:IntKind.wrap .i64 ((j:Int)+1)=((j+1:Nat):Int):=by rw[qp (by omega) (by omega)];omega
 have hjj:∀a:Int,0<=a->a<=4294967295->IntKind.wrap .i64 (IntKind.wrap .i64 ((j:Int)+1)+IntKind.wrap .i64 a)=((j+1+a.toNat:Nat):Int):=by
  intro a h1 h2;rw[hj1,qp (x:=a) (by omega) (by omega),qp (by omega) (by omega)];omega
 have hk:=hjj i.k hi.k0 hi.k1;have hlo0:0<=loM i∧loM i<=255:=by have:=hi.t0;have:=hi.t1;have:=hi.f0;have:=hi.f1;unfold loM;split<;>omega
 have hhi0:0<=hiM i∧hiM i<=255:=by have:=hi.t0;have:=hi.t1;have:=hi.f0;have:=hi.f1;unfold hiM;split<;>omega
 have hlo:=hjj (loM i) hlo0.1 (by omega);have hhi:=hjj (hiM i) hhi0.1 (by omega)
 by_cases hA:qg i.code=0∨qg i.code=5
 ·have hwl:zN i j=[]:=by unfold zN;rw[if_pos hA]
  have h4:¬qg i.code=4:=by omega
  rw[hwl] at hfin0;have fin0:∀{t':Tr AV} {h':Hp},Wk 11 t' h' (mkT [(50,.i .i64 0),(51,.i .i64 0)]) (mkH 0 (wI p gc l s0 j i++[.map (zC r0 (wTr gv gw p j i))]))->S P 11 (zy g1 g2) (j0 [] Qf) t' h':=fun hw=>qjt g3 gv gw gc p i j l r0 s0 Qf hfin0 hw
  rcases hA with hA|hA<;>(
   simp (decide:=true) only [↓vS,vT,simprocAttr,hA];refine (qhA hcc).sc ?_;simp (decide:=true) only [↓vS,vT,simprocAttr];refine fin0 (Wk.mkn _ _ [0,1,2,3,4,5,6,7,8,9,10] ?_ ?_ ?_ rfl ?_ ?_)
   ·simp[vw,wI,wkB]
   ·simp[vw,wI,wkB,wTr,wT,kZ,XG,qd,qu,qx,qm,qa,qn,jo,jq,xG,zA,zG]
   ·simp
   ·simp[wI,wkB]
   ·intro b hb;have:b=0∨b=1∨b=2∨b=3∨b=4∨b=5∨b=6∨b=7∨b=8∨b=9∨b=10:=by omega
    rcases this with rfl|rfl|rfl|rfl|rfl|rfl|rfl|rfl|rfl|rfl|rfl<;>rfl)
 by_cases h4:qg i.code=4
 ·have h0:¬qg i.code=0:=fun h=>hA (.inl h)
  have h5:¬qg i.code=5:=fun h=>hA (.inr h)
  simp (decide:=true) only [↓vS,vT,simprocAttr,h4,hj1]
  by_cases hja:i.code=5
  ·have hwl:zN i j=[j+1+i.k.toNat]:=by unfold zN;rw[if_neg hA,if_pos h4,if_pos hja]
   rw[if_pos hja];simp only[hk];refine (qc3 hcc ((j+1+i.k.toNat:Nat):Int)).sc (vs:=[.sl 0 0 1 1 false]) [12] (Lent.of (by decide) ?_) ?_
   ·simp[vL,vw]
   simp only[vK,simprocAttr];simp (decide:=true) only [↓vS,vT,simprocAttr];refine qap (gv:=gv) (gw:=gw) (gc:=gc) hcome hwr p hp i hi j l r0 hrec [j+1+i.k.toNat] [] rfl 1 (by simp) (by simp;try omega) (by simp) x s0 hs1 hs2 hx Qf (by rw[← hwl];exact hfin1 _) (Wk.mkn _ _ [0,1,2,3,4,5,6,7,8,9,10,12] ?_ ?_ ?_ rfl ?_ ?_)
   ·simp[vw,wI,wkB]
   ·simp[vw,wI,wkB,wTr,wT,kZ,XG,qd,qu,qx,qm,qa,qn,jo,jq,xG,zA,zG,qcs,qct]
   ·simp
   ·simp[wI,wkB]
   ·intro b hb;have:b=0∨b=1∨b=2∨b=3∨b=4∨b=5∨b=6∨b=7∨b=8∨b=9∨b=10:=by omega
    rcases this with rfl|rfl|rfl|rfl|rfl|rfl|rfl|rfl|rfl|rfl|rfl<;>rfl
  ·rw[if_neg hja];simp only[show (if i.jf<i.jt then i.jf else i.jt)=loM i from rfl,show (if i.jt<i.jf then i.jf else i.jt)=hiM i from rfl,hlo,hhi]
   by_cases hlh:loM i=hiM i
   ·have hwl:zN i j=[j+1+(loM i).toNat]:=by unfold zN;rw[if_neg hA,if_pos h4,if_neg hja,if_pos hlh]
    refine (qc4 hcc ((j+1+(loM i).toNat:Nat):Int) ((j+1+(hiM i).toNat:Nat):Int)).sc (vs:=[.sl 0 0 2 2 false]) [11] (Lent.of (by decide) ?_) ?_
    ·simp[vL,vw]
    rw[hlh,if_pos rfl,if_pos rfl];rw[hlh] at hwl;simp only[vK,simprocAttr];simp (decide:=true) only [↓vS,vT,simprocAttr];refine qap (gv:=gv) (gw:=gw) (gc:=gc) hcome hwr p hp i hi j l r0 hrec [j+1+(hiM i).toNat] [.i .i64 0] rfl 2 (by simp) (by simp;try omega) (by simp) x s0 hs1 hs2 hx Qf (by rw[← hwl];exact hfin1 _) (Wk.mkn _ _ [0,1,2,3,4,5,6,7,8,9,10,11] ?_ ?_ ?_ rfl ?_ ?_)
    ·simp[vw,wI,wkB]
    ·simp[vw,wI,wkB,wTr,wT,kZ,XG,qd,qu,qx,qm,qa,qn,jo,jq,xG,zA,zG,qcs,qct]
    ·simp
    ·simp[wI,wkB]
    ·intro b hb;have:b=0∨b=1∨b=2∨b=3∨b=4∨b=5∨b=6∨b=7∨b=8∨b=9∨b=10:=by omega
     rcases this with rfl|rfl|rfl|rfl|rfl|rfl|rfl|rfl|rfl|rfl|rfl<;>rfl
   ·have hwl:zN i j=[j+1+(loM i).toNat,j+1+(hiM i).toNat]:=by unfold zN;rw[if_neg hA,if_pos h4,if_neg hja,if_neg hlh]
    refine (qc4 hcc ((j+1+(loM i).toNat:Nat):Int) ((j+1+(hiM i).toNat:Nat):Int)).sc (vs:=[.sl 0 0 2 2 false]) [11] (Lent.of (by decide) ?_) ?_
    ·simp[vL,vw]
    rw[if_neg (by omega),if_neg (by omega)];simp only[vK,simprocAttr];simp (decide:=true) only [↓vS,vT,simprocAttr];refine qap (gv:=gv) (gw:=gw) (gc:=gc) hcome hwr p hp i hi j l r0 hrec [j+1+(loM i).toNat,j+1+(hiM i).toNat] [] rfl 2 (by simp) (by simp;try omega) (by simp) x s0 hs1 hs2 hx Qf (by rw[← hwl];exact hfin1 _) (Wk.mkn _ _ [0,1,2,3,4,5,6,7,8,9,10,11] ?_ ?_ ?_ rfl ?_ ?_)
    ·simp[vw,wI,wkB]
    ·simp[vw,wI,wkB,wTr,wT,kZ,XG,qd,qu,qx,qm,qa,qn,jo,jq,xG,zA,zG,qcs,qct]
    ·simp
    ·simp[wI,wkB]
    ·intro b hb;have:b=0∨b=1∨b=2∨b=3∨b=4∨b=5∨b=6∨b=7∨b=8∨b=9∨b=10:=by omega
     rcases this with rfl|rfl|rfl|rfl|rfl|rfl|rfl|rfl|rfl|rfl|rfl<;>rfl
 ·have h0:¬qg i.code=0:=fun h=>hA (.inl h)
  have h5:¬qg i.code=5:=fun h=>hA (.inr h)
  have hwl:zN i j=[j+1]:=by unfold zN;rw[if_neg hA,if_neg h4]
  simp (decide:=true) only [↓vS,vT,simprocAttr,h0,h4,h5,hj1];simp only[hj1];refine (qc3 hcc ((j+1:Nat):Int)).sc (vs:=[.sl 0 0 1 1 false]) [11] (Lent.of (by decide) ?_) ?_
  ·simp[vL,vw]
  simp only[vK,simprocAttr];simp (decide:=true) only [↓vS,vT,simprocAttr];refine qap (gv:=gv) (gw:=gw) (gc:=gc) hcome hwr p hp i hi j l r0 hrec [j+1] [] rfl 1 (by simp) (by simp;try omega) (by simp) x s0 hs1 hs2 hx Qf (by rw[← hwl];exact hfin1 _) (Wk.mkn _ _ [0,1,2,3,4,5,6,7,8,9,10,11] ?_ ?_ ?_ rfl ?_ ?_)
  ·simp[vw,wI,wkB]
  ·simp[vw,wI,wkB,wTr,wT,kZ,XG,qd,qu,qx,qm,qa,qn,jo,jq,xG,zA,zG,qcs,qct]
  ·simp
  ·simp[wI,wkB]
  ·intro b hb;have:b=0∨b=1∨b=2∨b=3∨b=4∨b=5∨b=6∨b=7∨b=8∨b=9∨b=10:=by omega
   rcases this with rfl|rfl|rfl|rfl|rfl|rfl|rfl|rfl|rfl|rfl|rfl<;>rfl
end Go.Kc
end
section
/- The places that read a cell that isn't sure. Condition: the functions' texts are these. -/
namespace Go.Kc
variable {P:Program} {f:Nat}
abbrev WSt:=List Nat×(List (BitVec 16)×List Bool)
def x6(j:Nat)(st:List (BitVec 16)×List Bool):List (BitVec 16)×List Bool:=if j=0 then (xW st.1 st.2 0 0#16,st.2.set 0 true) else st
def stM(n j:Nat)(i:Ins)(st:WSt):WSt :=
 if (x6 j st.2).2.getD j false=true then (X9 i ((x6 j st.2).1.getD j 0#16) j st.1,goM n ((x6 j st.2).1.getD j 0#16 ||| wrM i) (zN i j) (x6 j st.2)) else (st.1,x6 j st.2)
def wkM(n:Nat):Nat->List Ins->WSt->WSt
 | _,[],st=>st
 | j,i::L,st=>wkM n (j+1) L (stM n j i st)
def kY(p:List Ins):List Nat:=(wkM p.length 0 p ([],(List.replicate p.length 0#16,List.replicate p.length false))).1
theorem qjf{j:Nat}{st:List (BitVec 16)×List Bool}:(x6 j st).1.length=st.1.length∧(x6 j st).2.length=st.2.length:=by
 unfold x6;split<;>simp[xW]
theorem qjq{i:Ins}{x:BitVec 16}{j:Nat}{l:List Nat}:(X9 i x j l).length<=l.length+1:=by
 unfold X9;split<;>simp
def qq1(P:Program)(gv:Nat):Prop:=∀p:List Ins,p.length<=4096->∀l:List Nat,l.length<=4096->∀(j:Nat) (i:Ins),p[j]?=some i->InsOk i->∀x:BitVec 16,
  Upd P gv [.i .i64 j,.i .u16 (x.toNat:Int),.ptr 0 0,.ptr 1 0] [.cells 0 true false [.fz p.length (rP p)],.cells 0 true false [.own 2 l.length],.cells 1 true true (rNt l)] (.tup [])
   [.cells 0 true false [.fz p.length (rP p)],.cells 0 true false [.own 3 (X9 i x j l).length],.dead,.cells 1 true true (rNt (X9 i x j l))]
set_option maxHeartbeats 1000000 in
theorem qdN{g1 g2 g3 g4 gc gv gw:Nat}(hcw:qi P gw (xL g1 g2)=true)(hof:cOf P g1)(hcc:qi P g2 qD=true)(hcome:qeE P gc)(hwr:cWr P g3)(hvis:qq1 P gv)
  (hwy:∀i (j n:Nat),qc P g4 [.agg (qn i),.i .i64 (j:Int),.i .i64 (n:Int)] (.fn gw [] [.pf (qn i) 0,.pf [.i .i64 (j:Int)] 0,.pf [.i .i64 (n:Int)] 0]))
  (p:List Ins) (hp:p.length<=4096) (i:Ins) (hi:InsOk i) (j:Nat) (hpi:p[j]?=some i) (l:List Nat) (hl:l.length<=4096)
  (s:List (BitVec 16)) (r:List Bool) (hs1:s.length=p.length) (hs2:r.length=p.length) (Q:X->Tr AV->Hp->Prop)
  (hQ:∀e t'' h'',(e = .normal∨e = .exit 1)->Wk 2 t'' h'' (mkT (wT gv p j)) (mkH 0 (if r.getD j false=true then wkB p gc (X9 i (s.getD j 0#16) j l) (goM p.length (s.getD j 0#16 ||| wrM i) (zN i j) (s,r)) else wkB p gc l (s,r)))->Q e t'' h'')
  {t':Tr AV} {h':Hp} (hw:Wk 2 t' h' (mkT (wT gv p j++[(7,.ptr 8 0),(8,.ptr 9 0)])) (mkH 0 (wI p gc l (s,r) j i))) :
  S P 2 (j8 gc g4 g3) Q t' h':=by
 refine S.weak hw (qA ?_);have hlt:j<p.length:=(List.getElem?_eq_some_iff.1 hpi).1;obtain⟨x,hx⟩:∃x,s[j]?=some x:=⟨_,List.getElem?_eq_getElem (by omega)⟩;obtain⟨b,hb⟩:∃b,r[j]?=some b:=⟨_,List.getElem?_eq_getElem (by omega)⟩;simp only[List.getD_eq_getElem?_getD,hx,hb,Option.getD_some] at hQ;simp only[j8,wT,wI,wkB,List.cons_append,List.nil_append,vI,simprocAttr];cases b with
 | false =>
  rw[if_neg (by simp)] at hQ;simp (decide:=true) only [↓vS,vT,simprocAttr,hs1,hlt,Nat.mul_one,xK,hb,Option.map_some];refine hQ _ _ _ (.inr rfl) (Wk.mkn _ _ [0,1,2,3,4,5,6,7] ?_ ?_ ?_ rfl ?_ ?_)
  ·simp[vw,wT,kZ,qd,wkB]
  ·simp[vw,wkB,qd,qu,qx,qm,qa,hs1]
  ·simp
  ·simp[wkB]
  ·intro b hb;have:b=0∨b=1:=by omega
   rcases this with rfl|rfl<;>rfl
 | true =>
  rw[if_pos rfl] at hQ;simp (decide:=true) only [↓vS,vT,simprocAttr,hs1,hlt,Nat.mul_one,xK,hb,Option.map_some];refine zm ?_;simp (decide:=true) only [↓vS,vT,simprocAttr,hs1,hlt,Nat.mul_one,ZU,hx,Option.map_some,kZ];refine (hvis p hp l hl j i hpi hi x).pc (vs:=[.i .i64 j,.i .u16 (x.toNat:Int),.ptr 0 0,.ptr 1 0]) [0,1,2] (Lent.of (by decide) ?_) ?_
  ·simp[vL,vw,za (qd p),qz (qd p),za qu,qz qu]
  simp only[vK,simprocAttr,qz (qd p),qz qu];simp (decide:=true) only [↓vS,vT,simprocAttr];refine qjr hcw hof hcc hcome hwr hwy p hp i hi j hlt (X9 i x j l) x (s,r) hs1 hs2 hx Q (fun t'' h'' hw=>hQ _ _ _ (.inl rfl) hw) (Wk.mkn _ _ [0,1,10,3,4,5,6,7,8,9] ?_ ?_ ?_ rfl ?_ ?_)
  ·simp[vw,wT,kZ,qd,wI,wkB]
  ·simp[vw,wI,wkB,qd,qu,qx,qm,qa,hs1,qn]
  ·simp
  ·simp[wI,wkB]
  ·intro b hb;have:b=0∨b=1:=by omega
   rcases this with rfl|rfl<;>rfl
def yQ(a b:Nat):IFn:=⟨[.tmp 2],.seq (.r [.q 1 (.box (.t 0)),.m 2 .N]) (.seq (.r [.q 3 (.alloc [.nils])]) (.seq (.r [.d 4 1,.q 5 (.mkF a [] [.t 1,.t 3]),.l 6 b [.t 4,.t 5]]) (.seq (.r [.d 7 3,.n 2 7]) (.ret))))⟩
set_option maxHeartbeats 1000000 in
theorem qmB{g0 g1 g2 g3 g4 gc gv gw:Nat}(hc:qi P f (yQ gv g0)=true)(hck:qi P g0 (Zi gc g4 g3)=true)
  (hcw:qi P gw (xL g1 g2)=true) (hof:cOf P g1) (hcc:qi P g2 qD=true) (hcome:qeE P gc) (hwr:cWr P g3) (hvis:qq1 P gv)
  (hwy:∀i (j n:Nat),qc P g4 [.agg (qn i),.i .i64 (j:Int),.i .i64 (n:Int)] (.fn gw [] [.pf (qn i) 0,.pf [.i .i64 (j:Int)] 0,.pf [.i .i64 (n:Int)] 0]))
  (p:List Ins) (hp:p.length<=4096) (hi:∀i ∈ p,InsOk i):qc P f [.fz p.length (rP p)] (.fz (kY p).length (rNt (kY p))):=by
 refine qc.mk hc (by simp[qy,clo,qd]) ?_;simp only[yQ,vI,simprocAttr];simp (decide:=true) only [↓vS,vT,simprocAttr];refine SC.mk hck (qA ?_);have hp':¬4096<(p.length:Int):=by omega
 have hr1:p.length<=qf:=by simp only[qf];omega
 have hr2:2*p.length<=qf:=by simp only[qf];omega
 have hr3:1*p.length<=qf:=by simp only[qf];omega
 have hf1:(List.replicate p.length [AV.i .u16 0]).flatten=rW (List.replicate p.length 0#16):=by
  generalize p.length=n
  induction n with
  | zero=>rfl
  | succ n ih=>rw[List.replicate_succ,List.replicate_succ,List.flatten_cons,ih];rfl
 have hf2:(List.replicate p.length [AV.b false]).flatten=rTt (List.replicate p.length false):=by
  generalize p.length=n
  induction n with
  | zero=>rfl
  | succ n ih=>rw[List.replicate_succ,List.replicate_succ,List.flatten_cons,ih];rfl
 simp only[Zi,vI,simprocAttr];simp (decide:=true) only [↓vS,vT,simprocAttr,hp'];refine zm ?_;simp (decide:=true) only [↓vS,vT,simprocAttr,hr1,hr2,hr3,hf1,hf2]
 refine SL.loopn (α:=Nat×WSt) (fun a=>wT gv p a.1) (fun a=>wkB p gc a.2.1 a.2.2)
  (fun a=>a.1<=p.length∧a.2.1.length<=a.1∧a.2.2.1.length=p.length∧a.2.2.2.length=p.length∧wkM p.length a.1 (p.drop a.1) a.2=wkM p.length 0 p ([],(List.replicate p.length 0#16,List.replicate p.length false))) (fun a=>p.length-a.1) (0,([],(List.replicate p.length 0#16,List.replicate p.length false))) [0,1,99,2,3,4,5,6] ?_ ?_ ?_ rfl ?_ ?_ ?_ ?_
 ·simp[vw,wT,kZ,qd,wkB]
 ·simp[vw,wkB,qd,qu,qx,qm,qa]
 ·simp
 ·simp[wkB]
 ·intro b hb;have:b=0∨b=1:=by omega
  rcases this with rfl|rfl<;>rfl
 ·exact⟨Nat.zero_le _,Nat.le_refl _,by simp,by simp,rfl⟩
 rintro⟨j,l,s,r⟩ ⟨hj,hl,hs1,hs2,hgo⟩ G ih;simp only at hj hl hs1 hs2 hgo;simp only[wT,wkB,List.cons_append,List.nil_append,vI,simprocAttr]
 by_cases hlt:j<p.length
 ·obtain⟨i,hpi⟩:∃i,p[j]?=some i:=⟨_,List.getElem?_eq_getElem hlt⟩;have hii:=hi i (List.mem_of_getElem? hpi);have hel:=qU (f:=qn) (m:=4) qW hpi;rw[show p.flatMap qn=rP p from rfl] at hel
  have h4:j*4+4<=(rP p).length:=by rw[vm];omega
  have hdr:p.drop j=i::p.drop (j+1):=by
   obtain⟨hh,he⟩:=List.getElem?_eq_some_iff.1 hpi;rw[List.drop_eq_getElem_cons hh,he]
  rw[hdr] at hgo;have hw1:IntKind.wrap .i64 ((j:Int)+1)=((j+1:Nat):Int):=by rw[qp (by omega) (by omega)];omega
  simp only[qn] at hel;have ih2:=ih (j+1,stM p.length j i (l,s,r));have hst:wkM p.length j (i::p.drop (j+1)) (l,s,r)=wkM p.length (j+1) (p.drop (j+1)) (stM p.length j i (l,s,r)):=rfl;rw[hst] at hgo;have hlen0:=qjf (j:=j) (st:=(s,r))
  have hI:j+1<=p.length∧(stM p.length j i (l,s,r)).1.length<=j+1∧(stM p.length j i (l,s,r)).2.1.length=p.length∧(stM p.length j i (l,s,r)).2.2.length=p.length:=by
   refine⟨hlt,?_⟩;unfold stM;split
   ·have:=qjq (i:=i) (x:=(x6 j (s,r)).1.getD j 0#16) (j:=j) (l:=l);have h2:=qch (n:=p.length) (x:=(x6 j (s,r)).1.getD j 0#16 ||| wrM i) (zN i j) (x6 j (s,r))
    simp only at hlen0 ⊢;exact⟨by omega,by omega,by omega⟩
   ·simp only at hlen0 ⊢;exact⟨by omega,by omega,by omega⟩
  have ih3:=ih2 ⟨hI.1,hI.2.1,hI.2.2.1,hI.2.2.2,hgo⟩ (by simp only;omega)
  have hstM:(wkB p gc (stM p.length j i (l,s,r)).1 (stM p.length j i (l,s,r)).2)=if (x6 j (s,r)).2.getD j false=true then wkB p gc (X9 i ((x6 j (s,r)).1.getD j 0#16) j l) (goM p.length ((x6 j (s,r)).1.getD j 0#16 ||| wrM i) (zN i j) ((x6 j (s,r)).1,(x6 j (s,r)).2)) else wkB p gc l ((x6 j (s,r)).1,(x6 j (s,r)).2):=by
   unfold stM;split<;>rfl
  clear hgo hst ih2
  by_cases hj0:j=0
  ·have hj0':decide ((j:Int)=0)=true:=by rw[hj0];rfl
   have hcm:=hcome s r (by omega) 0 (by omega) 0#16;have he1:(x6 j (s,r)).1=xW s r 0 0#16:=by unfold x6;rw[if_pos hj0]
   have he2:(x6 j (s,r)).2=r.set 0 true:=by unfold x6;rw[if_pos hj0]
   simp only[he1,he2] at hstM;have hs1':(xW s r 0 0#16).length=p.length:=by simp[xW,hs1]
   simp (decide:=true) only [↓vS,vT,simprocAttr,hlt,hel,h4,hj0'];refine hcm.sc (vs:=[.i .i64 0,.i .u16 0,.ptr 3 0,.ptr 2 0]) [3,4,5,6] (Lent.of (by decide) ?_) ?_
   ·simp[vL,vw,Qg,za qx,qz qx,za qm,qz qm]
   simp only[vK,simprocAttr,Qg,qz qx,qz qm];simp (decide:=true) only [↓vS,vT,simprocAttr];refine qdN hcw hof hcc hcome hwr hvis hwy p hp i hii j hpi l (by omega) (xW s r 0 0#16) (r.set 0 true) hs1' (by simp[hs2]) _ ?_ (Wk.mkn _ _ [0,1,2,3,4,5,6,7,8,9] ?_ ?_ ?_ rfl ?_ ?_)
   ·rintro e t'' h'' (rfl|rfl) hw2<;>(
     simp (decide:=true) only [↓vS,vT,simprocAttr];rw[← hstM] at hw2;refine S.weak hw2 (qA ?_);generalize (stM p.length j i (l,s,r))=st2 at ih3 hI;obtain⟨l2,s2,r2⟩:=st2;simp only at ih3 hI;simp only[wa,wT,wkB,List.cons_append,List.nil_append,vI,simprocAttr];simp (decide:=true) only [↓vS,vT,simprocAttr,hw1];refine ih3 _ _ (Wk.mkn _ _ [0,1,2,3,4,5,6,7] ?_ ?_ ?_ rfl ?_ ?_)
     ·simp[vw,wT,kZ,qd,wkB]
     ·simp[vw,wkB,qd,qu,qx,qm,qa]
     ·simp
     ·simp[wkB]
     ·intro b hb;have:b=0∨b=1:=by omega
      rcases this with rfl|rfl<;>rfl)
   ·simp[vw,wT,kZ,qd,wI,wkB]
   ·simp[vw,wI,wkB,qd,qu,qx,qm,qa,qn,hs1,hs1']
   ·simp
   ·simp[wI,wkB]
   ·intro b hb;have:b=0∨b=1:=by omega
    rcases this with rfl|rfl<;>rfl
  ·have hj0':decide ((j:Int)=0)=false:=by simp;omega
   have he1:(x6 j (s,r)).1=s:=by unfold x6;rw[if_neg hj0]
   have he2:(x6 j (s,r)).2=r:=by unfold x6;rw[if_neg hj0]
   simp only[he1,he2] at hstM;have hs1':=hs1;simp (decide:=true) only [↓vS,vT,simprocAttr,hlt,hel,h4,hj0'];refine qdN hcw hof hcc hcome hwr hvis hwy p hp i hii j hpi l (by omega) s r hs1 hs2 _ ?_ (Wk.mkn _ _ [0,1,2,3,4,5,6,7,8,9] ?_ ?_ ?_ rfl ?_ ?_)
   ·rintro e t'' h'' (rfl|rfl) hw2<;>(
     simp (decide:=true) only [↓vS,vT,simprocAttr];rw[← hstM] at hw2;refine S.weak hw2 (qA ?_);generalize (stM p.length j i (l,s,r))=st2 at ih3 hI;obtain⟨l2,s2,r2⟩:=st2;simp only at ih3 hI;simp only[wa,wT,wkB,List.cons_append,List.nil_append,vI,simprocAttr];simp (decide:=true) only [↓vS,vT,simprocAttr,hw1];refine ih3 _ _ (Wk.mkn _ _ [0,1,2,3,4,5,6,7] ?_ ?_ ?_ rfl ?_ ?_)
     ·simp[vw,wT,kZ,qd,wkB]
     ·simp[vw,wkB,qd,qu,qx,qm,qa]
     ·simp
     ·simp[wkB]
     ·intro b hb;have:b=0∨b=1:=by omega
      rcases this with rfl|rfl<;>rfl)
   ·simp[vw,wT,kZ,qd,wI,wkB]
   ·simp[vw,wI,wkB,qd,qu,qx,qm,qa,qn,hs1,hs1']
   ·simp
   ·simp[wI,wkB]
   ·intro b hb;have:b=0∨b=1:=by omega
    rcases this with rfl|rfl<;>rfl
 ·obtain rfl:j=p.length:=by omega
  have hu:kY p=l:=by unfold kY;rw[← hgo,List.drop_length];rfl
  simp (decide:=true) only [↓vS,vT,simprocAttr,hlt];rw[hu];simp[vZ,vP,Tr.get_set,qY qu];intro h0;rw[h0];rfl
end Go.Kc
end
section
/- What is wrong with an instruction. Condition: the functions' texts are these. -/
namespace Go.Kc
variable {P:Program} {f:Nat}
def qnj(P:Program)(g:Nat):Prop:=∀n,qc P g [.i .u16 n] (.b (zk n))
def XI(i:Ins):Bool:=!zk i.code
def jX(i:Ins):Bool:=decide (i.code=32)&&(decide (i.k % 4≠0)||decide (64<=i.k))
def wL(i:Ins):Bool:=(decide (i.code=96)||decide (i.code=97)||decide (qg i.code=2))&&decide (16<=i.k)
def wM(i:Ins):Bool:=decide (i.code=52)&&decide (i.k=0)
def wN(i:Ins):Bool:=(decide (i.code=100)||decide (i.code=116))&&decide (31<i.k)
def wO(i:Ins)(n:Nat):Bool:=if i.code=5 then decide ((n:Int)<=i.k) else decide (qg i.code=4)&&decide ((n:Int)<=hiM i)
def ky(a:Nat):IFn:=⟨[.tmp 4],.seq (.r [.q 2 (.box (.t 0)),.m 4 .F]) (.seq (.r [.f 5 0 2,.d 6 5,.l 7 a [.t 6],.q 8 (.un .not (.t 7)),.n 4 8]) (.ret))⟩
theorem qtS{g:Nat}(hc:qi P f (ky g)=true)(hg:qnj P g)(i:Ins)(n:Nat):qc P f [.agg (qn i),.i .i64 n] (.b (XI i)):=by
 refine qc.mk hc rfl ?_;simp only[ky,qn,vI,simprocAttr];simp (decide:=true) only [↓vS,vT,simprocAttr];refine (hg _).sc ?_;simp (decide:=true) only [↓vS,vT,simprocAttr];simp[vZ,XI]
def kz:IFn:=⟨[.tmp 4],.seq (.r [.q 2 (.box (.t 0)),.m 4 .F]) (.seq (.r [.f 5 0 2,.d 6 5,.q 7 (.bin .eql (.t 6) (.c (.i .u16 32))),.n 8 7,.h 9 3 2 8 true,.j 10 9 8 true,.g 11 (.bin .rem (.t 10) (.c (.i .u32 4))) 8 true,.g 12 (.bin .neq (.t 11) (.c (.i .u32 0))) 8 true,.y 13 12 8,.h 14 3 2 13 false,.j 15 14 13 false,.g 16 (.bin .geq (.t 15) (.c (.i .u32 64))) 13 false,.g 17 (.pick (.t 13) .T (.t 16)) 8 true,.p 18 8 17,.n 4 18]) (.ret))⟩
theorem qtT(hc:qi P f kz=true)(i:Ins)(hi:InsOk i)(n:Nat):qc P f [.agg (qn i),.i .i64 n] (.b (jX i)):=by
 refine qc.mk hc rfl ?_;have h40:(4:Int)≠0:=by decide
 have h0:=hi.k0;have ht:i.k.tmod 4=i.k % 4:=Int.tmod_eq_emod_of_nonneg h0;unfold jX;simp only[kz,qn,vI,simprocAttr]
 by_cases h1:i.code=32
 ·by_cases h2:i.k % 4=0
  ·simp (decide:=true) only [↓vS,vT,simprocAttr,h1,↓zT h40,ht,h2];simp[vZ]
  ·simp (decide:=true) only [↓vS,vT,simprocAttr,h1,↓zT h40,ht,h2];simp[vZ,h2]
 ·simp (decide:=true) only [↓vS,vT,simprocAttr,h1];simp[vZ]
def kA(a:Nat):IFn:=⟨[.tmp 4],.seq (.r [.q 2 (.box (.t 0)),.m 4 .F]) (.seq (.r [.f 6 0 2,.d 7 6,.q 8 (.bin .eql (.t 7) (.c (.i .u16 96))),.n 9 8,.h 10 0 2 9 false,.j 11 10 9 false,.g 12 (.bin .eql (.t 11) (.c (.i .u16 97))) 9 false,.o 13 9 12,.n 14 13,.h 15 0 2 14 false,.j 16 15 14 false,⟨(some 17),.callF a [.t 16],(some (14,false))⟩,.g 18 (.bin .eql (.t 17) (.c (.i .u8 2))) 14 false,.o 19 14 18,.n 5 19]) (.seq (.r [.n 20 5,.n 21 20,.h 22 3 2 21 true,.j 23 22 21 true,.g 24 (.bin .geq (.t 23) (.c (.i .u32 16))) 21 true,.p 25 21 24,.n 4 25]) (.ret)))⟩
theorem qtU{g:Nat}(hc:qi P f (kA g)=true)(hg:cOf P g)(i:Ins)(n:Nat):qc P f [.agg (qn i),.i .i64 n] (.b (wL i)):=by
 refine qc.mk hc rfl ?_;unfold wL;simp only[kA,qn,vI,simprocAttr]
 by_cases h1:i.code=96
 ·simp (decide:=true) only [↓vS,vT,simprocAttr,h1];simp[vZ]
 by_cases h2:i.code=97
 ·simp (decide:=true) only [↓vS,vT,simprocAttr,h1,h2];simp[vZ]
 simp (decide:=true) only [↓vS,vT,simprocAttr,h1,h2];refine (hg _).sc ?_
 by_cases h3:qg i.code=2
 ·simp (decide:=true) only [↓vS,vT,simprocAttr,h3];simp[vZ]
 ·simp (decide:=true) only [↓vS,vT,simprocAttr,h3];simp[vZ,h1,h2]
def kB:IFn:=⟨[.tmp 4],.seq (.r [.q 2 (.box (.t 0)),.m 4 .F]) (.seq (.r [.f 5 0 2,.d 6 5,.q 7 (.bin .eql (.t 6) (.c (.i .u16 52))),.n 8 7,.h 9 3 2 8 true,.j 10 9 8 true,.g 11 (.bin .eql (.t 10) (.c (.i .u32 0))) 8 true,.p 12 8 11,.n 4 12]) (.ret))⟩
theorem qtV(hc:qi P f kB=true)(i:Ins)(n:Nat):qc P f [.agg (qn i),.i .i64 n] (.b (wM i)):=by
 refine qc.mk hc rfl ?_;unfold wM;simp only[kB,qn,vI,simprocAttr]
 by_cases h1:i.code=52
 ·simp (decide:=true) only [↓vS,vT,simprocAttr,h1];simp[vZ]
 ·simp (decide:=true) only [↓vS,vT,simprocAttr,h1];simp[vZ]
def kC:IFn:=⟨[.tmp 4],.seq (.r [.q 2 (.box (.t 0)),.m 4 .F]) (.seq (.r [.f 5 0 2,.d 6 5,.q 7 (.bin .eql (.t 6) (.c (.i .u16 100))),.n 8 7,.h 9 0 2 8 false,.j 10 9 8 false,.g 11 (.bin .eql (.t 10) (.c (.i .u16 116))) 8 false,.o 12 8 11,.n 13 12,.h 14 3 2 13 true,.j 15 14 13 true,.g 16 (.bin .gtr (.t 15) (.c (.i .u32 31))) 13 true,.p 17 13 16,.n 4 17]) (.ret))⟩
theorem qtW(hc:qi P f kC=true)(i:Ins)(n:Nat):qc P f [.agg (qn i),.i .i64 n] (.b (wN i)):=by
 refine qc.mk hc rfl ?_;unfold wN;simp only[kC,qn,vI,simprocAttr]
 by_cases h1:i.code=100
 ·simp (decide:=true) only [↓vS,vT,simprocAttr,h1];simp[vZ]
 by_cases h2:i.code=116
 ·simp (decide:=true) only [↓vS,vT,simprocAttr,h1,h2];simp[vZ]
 simp (decide:=true) only [↓vS,vT,simprocAttr,h1,h2];simp[vZ]
def kD(a:Nat):IFn:=⟨[.tmp 4],.seq (.r [.q 2 (.box (.t 0)),.m 4 .F]) (.seq (.seq (.r [.f 5 0 2,.d 6 5,.q 7 (.bin .eql (.t 6) (.c (.i .u16 5)))]) (.cond (.t 7) (.seq (.r [.f 8 3 2,.d 9 8,.q 10 (.cvInt .i64 (.t 9)),.n 11 1,.b 12 .geq 10 11,.n 4 12]) (.ret)) (.skip))) (.seq (.r [.f 13 0 2,.d 14 13,.l 15 a [.t 14],.q 16 (.bin .eql (.t 15) (.c (.i .u8 4))),.n 17 16,.h 18 1 2 17 true,.j 19 18 17 true,.h 20 2 2 17 true,.j 21 20 17 true,.g 22 (.max (.t 19) (.t 21)) 17 true,.g 23 (.cvInt .i64 (.t 22)) 17 true,.y 24 1 17,.g 25 (.bin .geq (.t 23) (.t 24)) 17 true,.p 26 17 25,.n 4 26]) (.ret)))⟩
theorem qtX{g:Nat}(hc:qi P f (kD g)=true)(hg:cOf P g)(i:Ins)(hi:InsOk i)(n:Nat):qc P f [.agg (qn i),.i .i64 n] (.b (wO i n)):=by
 refine qc.mk hc rfl ?_;have hk:IntKind.wrap .i64 i.k=i.k:=by have:=hi.k0;have:=hi.k1;exact qp (by omega) (by omega)
 have hh:IntKind.wrap .i64 (hiM i)=hiM i:=by
  have:=hi.t0;have:=hi.t1;have:=hi.f0;have:=hi.f1
  refine qp ?_ ?_<;>(unfold hiM;split<;>omega)
 unfold wO;simp only[kD,qn,vI,simprocAttr]
 by_cases h1:i.code=5
 ·rw[if_pos h1];simp (decide:=true) only [↓vS,vT,simprocAttr,h1,hk];simp[vZ]
 rw[if_neg h1];simp (decide:=true) only [↓vS,vT,simprocAttr,h1];refine (hg _).sc ?_
 by_cases h2:qg i.code=4
 ·simp (decide:=true) only [↓vS,vT,simprocAttr,h2];simp only[show (if i.jt<i.jf then i.jf else i.jt)=hiM i from rfl,hh]
  simp[vZ]
 ·simp (decide:=true) only [↓vS,vT,simprocAttr,h2];simp[vZ]
def qbg(x:Int×Nat×Bool):List AV:=[.i .i64 x.1,.fn x.2.1 [] []]
theorem qdA(x:Int×Nat×Bool):(qbg x).length=2:=rfl
def wsM(g1 g2 g3 g4 g5 g6:Nat)(i:Ins)(n:Nat):List (Int×Nat×Bool):=[(40,g1,XI i),(41,g2,jX i),(43,g3,wL i),(44,g4,wM i),(45,g5,wN i),(42,g6,wO i n)]
def kt(i:Ins)(n:Nat):Int:=if XI i=true then 40 else if jX i=true then 41 else if wL i=true then 43 else if wM i=true then 44 else if wN i=true then 45 else if wO i n=true then 42 else 0
def yT(a b c d e g:Nat):IFn:=⟨[.cell 0 12 true],.seq (.r [.q 0 (.alloc [.i .i64 0,.nilf,.i .i64 0,.nilf,.i .i64 0,.nilf,.i .i64 0,.nilf,.i .i64 0,.nilf,.i .i64 0,.nilf])]) (.seq (.r [.q 1 (.build [.i .i64 0,.nilf] [(0,1,(.k 40)),(1,1,(.c (.fn a [] [])))]),.q 2 (.build [.i .i64 0,.nilf] [(0,1,(.k 41)),(1,1,(.c (.fn b [] [])))]),.q 3 (.build [.i .i64 0,.nilf] [(0,1,(.k 43)),(1,1,(.c (.fn c [] [])))]),.q 4 (.build [.i .i64 0,.nilf] [(0,1,(.k 44)),(1,1,(.c (.fn d [] [])))]),.q 5 (.build [.i .i64 0,.nilf] [(0,1,(.k 45)),(1,1,(.c (.fn e [] [])))]),.q 6 (.build [.i .i64 0,.nilf] [(0,1,(.k 42)),(1,1,(.c (.fn g [] [])))]),.q 7 (.build [.i .i64 0,.nilf,.i .i64 0,.nilf,.i .i64 0,.nilf,.i .i64 0,.nilf,.i .i64 0,.nilf,.i .i64 0,.nilf] [(0,2,(.t 1)),(2,2,(.t 2)),(4,2,(.t 3)),(6,2,(.t 4)),(8,2,(.t 5)),(10,2,(.t 6))]),.u (.store 12 (.t 0) (.t 7))]) (.ret))⟩
theorem qmI{g1 g2 g3 g4 g5 g6:Nat}(hc:qi P f (yT g1 g2 g3 g4 g5 g6)=true)(i:Ins)(n:Nat):qc P f [] (.agg ((wsM g1 g2 g3 g4 g5 g6 i n).flatMap qbg)):=by
 refine qc.mk hc rfl ?_;simp only[yT,vI,simprocAttr];simp (decide:=true) only [↓vS,vT,simprocAttr];simp[vZ,vP,Tr.get_set,wsM,qbg]
def Xd(a:Nat):IFn:=⟨[.tmp 4],.seq (.r [.q 2 (.box (.t 0)),.m 4 (.k 0)]) (.seq (.seq (.r [.l 7 a [],.m 8 (.k 0)]) (.blk 0 (.loop (.seq (.r [.w 9 .lss 8 6]) (.seq (.cond (.t 9) (.skip) (.exit 0)) (.seq (.blk 1 (.seq (.r [.q 10 (.idxA 6 2 true (.t 7) (.t 8)),.q 6 (.alloc [.i .i64 0,.nilf]),.u (.store 2 (.t 6) (.t 10))]) (.seq (.r [.f 11 1 6,.d 12 11,.v 13 4 2,.n 14 1,.q 15 (.max (.t 14) (.k 0)),⟨(some 16),.callV (.t 12) [.t 13,.t 15],none⟩]) (.cond (.t 16) (.seq (.r [.f 17 0 6,.d 18 17,.n 4 18]) (.ret)) (.skip))))) (.r [.a 19 8 1,.n 8 19]))))))) (.seq (.r [.m 4 (.k 0)]) (.ret)))⟩
theorem qrO{g0:Nat}(hc:qi P f (Xd g0)=true)(i:Ins)(n:Nat)(ws:List (Int×Nat×Bool))(hw6:ws.length=6)(h0:qc P g0 [] (.agg (ws.flatMap qbg)))(hw:∀x ∈ ws,qc P x.2.1 [.agg (qn i),.i .i64 n] (.b x.2.2)) :
  qc P f [.agg (qn i),.i .i64 n] (.i .i64 ((ws.find? fun x=>x.2.2).elim 0 fun x=>x.1)):=by
 refine qc.mk hc rfl ?_;have hn0:¬(n:Int)<0:=by omega
 have hlen:(ws.flatMap qbg).length=12:=by rw[x9 qdA,hw6]
 have hcl:qy (ws.flatMap qbg)=true:=ye (fun _=>rfl)
 simp only[Xd,qn,vI,simprocAttr];simp (decide:=true) only [↓vS,vT,simprocAttr];refine h0.sc ?_;simp (decide:=true) only [↓vS,vT,simprocAttr];refine SL.loop (α:=Nat) (fun j=>[(1,.i .i64 (n:Int)),(2,.ptr 0 0),(7,.agg (ws.flatMap qbg)),(8,.i .i64 (j:Int))]) (fun _=>[.cells 0 true false (qn i)]) (fun j=>j<=6∧(ws.drop j).find? (fun x=>x.2.2)=ws.find? (fun x=>x.2.2)) (fun j=>6-j) 0 [0] ?_ ?_ ?_ rfl ?_ ?_
 ·simp[vw,qa,hcl]
 ·simp[vw,qn]
 ·simp
 ·exact⟨Nat.zero_le _,rfl⟩
 rintro j ⟨hj,hI⟩ G ih;simp only[vI,simprocAttr,qn]
 by_cases hlt:j<6
 ·have hlt':(j:Int)<6:=by omega
  have hjl:j<ws.length:=by omega
  have hx:ws[j]?=some ws[j]:=List.getElem?_eq_getElem hjl;have hw1:IntKind.wrap .i64 ((j:Int)+1)=((j+1:Nat):Int):=by rw[qp (by omega) (by omega)];omega
  have hel:=qU (f:=qbg) (m:=2) qdA hx;have hb:j*2+2<=(ws.flatMap qbg).length:=by omega
  have hpx:=hw _ (List.getElem_mem hjl);rw[List.drop_eq_getElem_cons hjl,List.find?_cons] at hI;generalize hc0:ws[j]=x at hel hI hpx;simp only[qbg] at hel;generalize hT:ws.flatMap qbg=T at hel hb hlen hcl;simp (decide:=true) only [↓vS,vT,simprocAttr,hlt',hlt,hel,hb,hn0];refine hpx.sc ?_;cases hs:x.2.2 with
  | true =>
   rw[hs] at hI;simp (decide:=true) only [↓vS,vT,simprocAttr];rw[← hI];simp[vZ]
  | false =>
   rw[hs] at hI;simp (decide:=true) only [↓vS,vT,simprocAttr,hw1];refine ih (j+1) ⟨hlt,hI⟩ (by omega) _ _ (Wk.mk _ _ [0] ?_ ?_ ?_ rfl)
   ·simp[vw,qa,hcl,hT]
   ·simp[vw,qn]
   ·simp
 ·obtain rfl:j=6:=by omega
  have hd:ws.drop 6=[]:=List.drop_eq_nil_of_le (by omega);rw[hd] at hI;rw[← hI];simp (decide:=true) only [↓vS,vT,simprocAttr];simp[vZ]
theorem qsr{g1 g2 g3 g4 g5 g6:Nat}{i:Ins}{n:Nat}:(((wsM g1 g2 g3 g4 g5 g6 i n).find? fun x=>x.2.2).elim 0 fun x=>x.1)=kt i n:=by
 unfold wsM kt;cases XI i<;>cases jX i<;>cases wL i<;>cases wM i<;>cases wN i<;>cases wO i n<;>rfl
end Go.Kc
end
section
/- What is wrong with a program. Condition: the functions' texts are these. -/
namespace Go.Kc
variable {P:Program} {f:Nat}
def k9(n:Nat):Nat->List Ins->Option (Nat×Int)
 | _,[]=>none
 | j,i::L=>if kt i (n-1-j)=0 then k9 n (j+1) L else some (j,kt i (n-1-j))
theorem yr{n j:Nat}{i:Ins}{L:List Ins}:k9 n j (i::L)=if kt i (n-1-j)=0 then k9 n (j+1) L else some (j,kt i (n-1-j)):=rfl
def yX(p:List Ins):Int:=(p.getD (p.length-1) ⟨0,0,0,0⟩).code
def atU(p:List Ins)(u:List Nat):Nat×Int :=
 if p.length=0∨4096<p.length then (0,60) else (k9 p.length 0 p).elim (if qg (yX p)=5 then (match u with | []=>(0,0)|a::_=>(a,61)) else (p.length-1,46)) id
def cAt(P:Program)(f:Nat):Prop:=∀p:List Ins,(∀i ∈ p,InsOk i)->p.length<=5000->qc P f [.fz p.length (rP p)] (.tup [.i .i64 ((atU p (kY p)).1:Int),.i .i64 (atU p (kY p)).2])
def kx(a b c:Nat):IFn:=⟨[.tmp 2,.tmp 3],.seq (.r [.m 2 (.k 0),.m 3 (.k 0)]) (.seq (.seq (.r [.n 10 0,.e 11 10,.w 12 .lss 11 1,.n 13 12,.z 14 0 13,.g 15 (.len false (.t 14)) 13 false,.g 16 (.bin .gtr (.t 15) (.k 4096)) 13 false,.o 17 13 16]) (.cond (.t 17) (.seq (.r [.m 2 (.k 0),.m 3 (.k 60)]) (.ret)) (.skip))) (.seq (.r [.n 18 0,.e 19 18,.w 20 .sub 19 1,.n 4 20]) (.seq (.seq (.r [.n 21 0,.e 22 21,.m 23 (.k 0)]) (.blk 0 (.loop (.seq (.r [.s 24 23 22]) (.seq (.cond (.t 24) (.skip) (.exit 0)) (.seq (.blk 1 (.seq (.r [.n 25 23,.i 26 4 21 23,.v 27 4 26,.q 6 (.alloc [.i .u16 0,.i .u8 0,.i .u8 0,.i .u32 0]),.n 5 25,.u (.store 4 (.t 6) (.t 27))]) (.seq (.r [.v 28 4 6,.n 29 4,.n 30 5,.b 31 .sub 29 30,.l 32 a [.t 28,.t 31],.n 7 32]) (.seq (.r [.n 33 7,.w 34 .neq 33 0]) (.cond (.t 34) (.seq (.r [.n 35 5,.n 36 7,.n 2 35,.n 3 36]) (.ret)) (.skip)))))) (.r [.a 37 23 1,.n 23 37]))))))) (.seq (.seq (.r [.n 38 0,.n 39 4,.i 40 4 38 39,.f 41 0 40,.d 42 41,.l 43 b [.t 42],.q 44 (.bin .neq (.t 43) (.c (.i .u8 5)))]) (.cond (.t 44) (.seq (.r [.n 45 4,.n 2 45,.m 3 (.k 46)]) (.ret)) (.skip))) (.seq (.seq (.r [.n 46 0,.l 47 c [.t 46],.e 48 47,.m 49 (.k 0)]) (.blk 2 (.loop (.seq (.r [.s 50 49 48]) (.seq (.cond (.t 50) (.skip) (.exit 2)) (.seq (.blk 3 (.seq (.r [.i 51 1 47 49,.d 52 51,.n 9 52]) (.seq (.r [.n 53 9,.n 2 53,.m 3 (.k 61)]) (.ret)))) (.r [.a 54 49 1,.n 49 54]))))))) (.seq (.r [.m 2 (.k 0),.m 3 (.k 0)]) (.ret)))))))⟩
set_option maxHeartbeats 1000000 in
theorem qkd{g1 g2 g3:Nat}(hc:qi P f (kx g1 g2 g3)=true)(h1:∀i,InsOk i->∀n:Nat,qc P g1 [.agg (qn i),.i .i64 (n:Int)] (.i .i64 (kt i n)))(h2:cOf P g2)
  (h3:∀p:List Ins,p.length<=4096->(∀i ∈ p,InsOk i)->qc P g3 [.fz p.length (rP p)] (.fz (kY p).length (rNt (kY p)))):cAt P f:=by
 intro p hi hp;refine qc.mk hc (by simp[qy,clo,qd]) ?_;unfold atU;simp only[kx,vI,simprocAttr]
 by_cases hz:p.length=0
 ·have hz':(p.length:Int)<1:=by omega
  rw[if_pos (.inl hz)];simp (decide:=true) only [↓vS,vT,simprocAttr,hz'];simp[vZ]
 have hz':¬(p.length:Int)<1:=by omega
 by_cases hb:4096<p.length
 ·have hb':(4096:Int)<p.length:=by omega
  rw[if_pos (.inr hb)];simp (decide:=true) only [↓vS,vT,simprocAttr,hz',hb'];simp[vZ]
 have hb':¬(4096:Int)<p.length:=by omega
 rw[if_neg (by omega)];have hl1:IntKind.wrap .i64 ((p.length:Int)-1)=((p.length-1:Nat):Int):=by rw[qp (by omega) (by omega)];omega
 simp (decide:=true) only [↓vS,vT,simprocAttr,hz',hb',hl1];refine SL.loop (α:=Nat) (fun j=>[(0,.fz p.length (rP p)),(4,.i .i64 ((p.length-1:Nat):Int)),(21,.fz p.length (rP p)),(22,.i .i64 (p.length:Int)),(23,.i .i64 (j:Int))]) (fun _=>[]) (fun j=>j<=p.length∧k9 p.length j (p.drop j)=k9 p.length 0 p) (fun j=>p.length-j) 0 [] ?_ ?_ ?_ rfl ?_ ?_
 ·simp[vw,qd]
 ·trivial
 ·simp
 ·exact⟨Nat.zero_le _,rfl⟩
 rintro j ⟨hj,hI⟩ G ih;simp only[vI,simprocAttr]
 by_cases hlt:j<p.length
 ·obtain⟨i,hpi⟩:∃i,p[j]?=some i:=⟨_,List.getElem?_eq_getElem hlt⟩;have hii:=hi i (List.mem_of_getElem? hpi);have hel:=qU (f:=qn) (m:=4) qW hpi;rw[show p.flatMap qn=rP p from rfl] at hel
  simp only[qn] at hel;have h4:j*4+4<=(rP p).length:=by rw[vm];omega
  have hdr:p.drop j=i::p.drop (j+1):=by
   obtain⟨hh,he⟩:=List.getElem?_eq_some_iff.1 hpi;rw[List.drop_eq_getElem_cons hh,he]
  rw[hdr,yr] at hI;have hw1:IntKind.wrap .i64 ((j:Int)+1)=((j+1:Nat):Int):=by rw[qp (by omega) (by omega)];omega
  have hw2:IntKind.wrap .i64 (((p.length-1:Nat):Int)-(j:Int))=((p.length-1-j:Nat):Int):=by rw[qp (by omega) (by omega)];omega
  have hone:=h1 i hii (p.length-1-j);simp only[qn] at hone;simp (decide:=true) only [↓vS,vT,simprocAttr,hlt,hel,h4,hw2];refine hone.sc ?_
  by_cases h0:kt i (p.length-1-j)=0
  ·rw[if_pos h0] at hI;simp (decide:=true) only [↓vS,vT,simprocAttr,h0,hw1];refine ih (j+1) ⟨hlt,hI⟩ (by omega) _ _ (Wk.mk _ _ [] ?_ ?_ ?_ rfl)
   ·simp[vw,qd]
   ·trivial
   ·simp
  ·rw[if_neg h0] at hI;simp (decide:=true) only [↓vS,vT,simprocAttr,h0];rw[← hI];simp[vZ]
 ·obtain rfl:j=p.length:=by omega
  have hd:p.drop p.length=[]:=List.drop_eq_nil_of_le (by omega);rw[hd] at hI;simp only[k9] at hI;rw[← hI];obtain⟨i,hpi⟩:∃i,p[p.length-1]?=some i:=⟨_,List.getElem?_eq_getElem (by omega)⟩;have hlc:yX p=i.code:=by unfold yX;rw[List.getD_eq_getElem?_getD,hpi];rfl
  have hg:=zb (f:=qn) (m:=4) qW hpi (i:=0) (by omega);rw[show p.flatMap qn=rP p from rfl] at hg
  simp only[qn,Nat.add_zero,List.getElem?_cons_zero] at hg;have hlt2:p.length-1<p.length:=by omega
  simp (decide:=true) only [↓vS,vT,simprocAttr,hlt,hlt2,hg];refine (h2 _).sc ?_
  by_cases h5:qg i.code=5
  ·simp (decide:=true) only [↓vS,vT,simprocAttr,h5];refine (h3 p (by omega) hi).sc ?_;simp (decide:=true) only [↓vS,vT,simprocAttr];refine SL.loop (α:=Unit) (fun _=>[(47,.fz (kY p).length (rNt (kY p))),(48,.i .i64 ((kY p).length:Int)),(49,.i .i64 0)]) (fun _=>[]) (fun _=>True) (fun _=>0) () [] ?_ ?_ ?_ rfl ?_ ?_
   ·simp[vw,qu]
   ·trivial
   ·simp
   ·trivial
   rintro _ _ G2 _;simp only[vI,simprocAttr];rw[hlc];cases hu:kY p with
   | nil =>
    simp (decide:=true) only [↓vS,vT,simprocAttr,List.length_nil];simp[vZ,h5]
   | cons a u =>
    have hgt2:0<(a::u).length:=by simp
    have hga:(rNt (a::u))[0]?=some (.i .i64 (a:Int)):=rfl;generalize (a::u).length=m at hgt2 ⊢;generalize rNt (a::u)=T at hga ⊢;have hgt:(0:Int)<(m:Int):=by omega
    simp (decide:=true) only [↓vS,vT,simprocAttr,hgt,hgt2,Nat.mul_one,hga];simp[vZ,h5]
  ·simp (decide:=true) only [↓vS,vT,simprocAttr,h5];rw[hlc];simp[vZ,h5]
def Qs(a:Nat):IFn:=⟨[.tmp 2],.seq (.r [.m 2 (.k 0)]) (.seq (.r [.n 6 0,.l 7 a [.t 6],.n 5 7,.x 8 5 0,.x 9 5 1,.n 3 8,.n 4 9]) (.seq (.r [.n 10 4,.n 2 10]) (.ret)))⟩
end Go.Kc
end
