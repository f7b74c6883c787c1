/- Part 7 of the abstract machine and of the functions' walks. Conditions: with each theorem. -/
import Derived.Test.YtgaodkfneooonaaGreatK6
import Derived.Lib.Join
import Derived.Below
import Derived.Lib.ItoaLen
set_option maxHeartbeats 4000000
set_option linter.unusedSectionVars false
set_option linter.unusedSimpArgs false
set_option linter.unusedVariables false
set_option linter.unnecessarySimpa false
section
namespace Go.Kc
variable {P:Program} {f:Nat}
def nsM(p:Pol)(a:Int):Bool×List GRule×Int:=(decide (p.spaces≠0),qbt a 2147418112 (qcQ 0 327681 (qgH p.spaces)) [qcg,qeV]++qbt a 2147418112 (qcQ 1 327681 (qgH p.spaces)++qbV 1 4294967295 327681 [0]) [qcl]++qbt a 327718 [] [qbQ],2147418112)
def fmM(p:Pol)(a:Int):Bool×List GRule×Int :=
 (qfB p.fmode p.fams.length true false,qbt a (if p.fmode=2 then 2147418112 else 327777) (qbV 0 4294967295 (if p.fmode=2 then 327777 else 2147418112) p.fams) [qhH],2147418112)
def qiH(rs:List GRule):List GRule:=rs.mergeSort fun x y=>decide (x.nr<=y.nr)
def qpi(d:Int):Option (Pol->Int->Bool×List GRule×Int) :=
 if d=1 then some qzz else if d=2 then some qzZ else if d=3 then some fmM else if d=4 then some nsM else if d=5 then some weM else if d=6 then some peM else if d=7 then some rtM else none
noncomputable def qjL(p:Pol)(d a:Int):Bool:=decide (0<=d)&&decide (d<8)&&(decide (0<=a)&&decide (a<6))&&qqW p&&inA p.arches a
noncomputable def qtp(p:Pol)(d a:Int):Option GFil :=
 if qjL p d a=true then (qpi d).bind fun F=>if (F p a).1=true then some ⟨a,qiH (F p a).2.1,(F p a).2.2⟩ else none else none
def qCN:Option GFil->AV
 | some x=>.tup [.agg (qz x),.b true]
 | none=>.tup [.agg [.i .i64 0,.fz 0 [],.i .u32 0],.b false]
section
variable {l m:List GFil} {j:Nat}
end
def qEB(P:Program)(f:Nat):Prop:=∀p,PolOk p->PolR p->∀d a:Int,qf P f [.agg (qCZ p),.i .i64 d,.i .i64 a] (qCN (qtp p d a))

def quQ(p:Pol)(d:Int):Bool :=
 if d=1 then qfB p.filter.mode p.filter.calls.length true false else if d=2 then qfB p.log.mode p.log.calls.length false true else if d=3 then qfB p.fmode p.fams.length true false
 else if d=4 then decide (p.spaces≠0) else if d=5 then p.we else if d=6 then p.pe else if d=7 then p.rt else false
def qvH(l:List GCall)(s:List UInt8):Int:=match qfp l s with|some c=>c.act|none=>0
theorem qr6.act(h:qr6 P f)(l:GList)(s:List UInt8)(hl:l.calls.length<=100000):qf P f [.agg (qoM l),.s s] (.tup [.i .u32 (qvH l.calls s),.b (qfp l.calls s).isSome]):=h l s hl
def qyI(p:Pol)(s:List UInt8):Int:=if qvH p.filter.calls s=0 then (if p.filter.mode=1 then 2147418112 else p.deny) else qvH p.filter.calls s
def qih(s:List UInt8):Int:=if s=qic then 6 else if s=qcf∨s=xP then 4 else if s=qgb then 32768 else 0
def ql0(p:Pol)(d:Int)(s:List UInt8):Bool×List GTest×Int :=
 if d=1 then ((qfp p.filter.calls s).isSome,[],qyI p s)
 else if d=2 then ((qfp p.log.calls s).isSome,[],if p.log.mode=1 then 2147221504 else 2147418112)
 else if d=3 then (decide (s=qhH),qbV 0 4294967295 (if p.fmode=2 then 327777 else 2147418112) p.fams,if p.fmode=2 then 2147418112 else 327777)
 else if d=4 then (if s=qbQ then (true,[],327718) else (decide (s=qcl)||decide (s=qcg)||decide (s=qeV),qcQ (if s=qcl then 1 else 0) 327681 (qgH p.spaces)++(if s=qcl then [⟨1,4294967295,0,327681⟩] else []),2147418112))
 else if d=5 then (decide (0<qih s),[⟨2,qih s,qih s,327681⟩],2147418112)
 else if d=6 then (decide (s=qck),qbV 0 4294967295 2147418112 [0,4294967295],327681)
 else (decide (s=qjb),qbV 1 4294967295 2147418112 [0,3,5],327681)
section
variable {g1 g2:Nat}
end
section
variable {g1 g2:Nat}
end
def qqE(c:GCall):List GCall->List GCall
 | []=>[c]
 | x::l=>if c.act<=x.act then c::x::l else x::qqE c l
def qlr(a:Int):List GCall:=(qaB.filterMap fun x=>(qww x a).map fun n=>(⟨x.1,n⟩:GCall)).foldr qqE []
def dfR(p:Pol)(d:Int):Int:=if d=1∧p.filter.mode=1 then p.deny else if d=2∧p.log.mode=2 then 2147221504 else 2147418112
def ruR(p:Pol)(d:Int)(l:List GCall):List GRule:=l.filterMap fun c=>if (ql0 p d c.name).1=true then some ⟨c.act,(ql0 p d c.name).2.1,(ql0 p d c.name).2.2⟩ else none
noncomputable def qj2(p:Pol)(d a:Int):Option GFil:=if (decide (0<=a)&&decide (a<6)&&qqW p&&inA p.arches a&&quQ p d)=true then some ⟨a,ruR p d (qlr a),dfR p d⟩ else none
section
variable {g1 g2 g3 g4 g5:Nat}
def qxS(P:Program)(f:Nat):Prop:=∀p,PolOk p->PolR p->∀d a:Int,qf P f [.agg (qCZ p),.i .i64 d,.i .i64 a] (qCN (qj2 p d a))
end
def qaq:IFn:=⟨[.tmp 4],.seq (.r [.q 2 (.box (.t 0)),.q 3 (.box (.t 1)),.m 4 .F]) (.seq (.seq (.r [.f 6 0 2,.d 7 6,.f 8 0 3,.d 9 8,.b 10 .neq 7 9,.n 11 10,.h 12 2 2 11 false,.j 13 12 11 false,.h 14 2 3 11 false,.j 15 14 11 false,.g 16 (.bin .neq (.t 13) (.t 15)) 11 false,.o 17 11 16,.n 18 17,.h 19 1 2 18 false,.j 20 19 18 false,.g 21 (.len false (.t 20)) 18 false,.h 22 1 3 18 false,.j 23 22 18 false,.g 24 (.len false (.t 23)) 18 false,.g 25 (.bin .neq (.t 21) (.t 24)) 18 false,.o 26 18 25]) (.cond (.t 26) (.seq (.r [.m 4 .F]) (.ret)) (.skip))) (.seq (.seq (.r [.m 5 (.k 0)]) (.blk 0 (.loop (.seq (.seq (.r [.n 27 5,.f 28 1 2,.d 29 28,.e 30 29,.s 31 27 30]) (.cond (.t 31) (.skip) (.exit 0))) (.seq (.blk 1 (.seq (.reg true [.f 34 1 2,.d 35 34,.n 36 5,.i 37 4 35 36,.v 38 4 37,.f 39 1 3,.d 40 39,.n 41 5,.i 42 4 40 41,.v 43 4 42,.q 44 (.eqA true [.i,.i,.i,.i] (.t 38) (.t 43))]) (.cond (.t 44) (.seq (.r [.m 4 .F]) (.ret)) (.skip)))) (.r [.n 32 5,.a 33 32 1,.n 5 33])))))) (.seq (.r [.m 4 .T]) (.ret))))⟩
theorem qBb(hc:qd P f qaq=true)(r:GRule)(hl:r.tests.length<=100000):qf P f [.agg (qB r),.agg (qB r)] (.b true):=by
 refine qf.mk hc rfl ?_;simp only[qaq,qB,vI,simprocAttr];simp only[↓vS,vT,simprocAttr];refine SL.loop (α:=Nat) (fun j=>[(2,.ptr 0 0),(3,.ptr 1 0),(5,.i .i64 j)]) (fun _=>[.cells 0 true false (qB r),.cells 0 true false (qB r)]) (fun j=>j<=r.tests.length) (fun j=>r.tests.length-j) 0 [0,1] ?_ ?_ ?_ rfl ?_ ?_
 ·simp[vw]
 ·simp[vw,qB,xW]
 ·simp
 ·exact Nat.zero_le _
 rintro j hj G ih;simp only[vI,simprocAttr,qB]
 by_cases hlt:j<r.tests.length
 ·have hx:r.tests[j]?=some r.tests[j]:=zzE hlt;have he:=qf8 hx;have hb:=qfH hlt;have hw:IntKind.wrap .i64 ((j:Int)+1)=((j+1:Nat):Int):=by rw[qm (by omega) (by omega)];omega
  generalize r.tests[j]=c at he;simp only[↓vS,vT,simprocAttr,hlt];refine zg ?_;simp only[↓vS,vT,simprocAttr,hlt,he,hb,zA,hw];refine ih (j+1) hlt (by omega) _ _ (Wk.mk _ _ [0,1] ?_ ?_ ?_ rfl)
  ·simp[vw]
  ·simp[vw,qB,xW]
  ·simp
 ·simp only[↓vS,vT,simprocAttr,hlt];simp[vZ]
def qbK(a:Nat):IFn:=⟨[.tmp 4],.seq (.r [.q 2 (.box (.t 0)),.q 3 (.box (.t 1)),.m 4 .F]) (.seq (.seq (.r [.f 6 0 2,.d 7 6,.f 8 0 3,.d 9 8,.b 10 .neq 7 9,.n 11 10,.h 12 2 2 11 false,.j 13 12 11 false,.h 14 2 3 11 false,.j 15 14 11 false,.g 16 (.bin .neq (.t 13) (.t 15)) 11 false,.o 17 11 16,.n 18 17,.h 19 1 2 18 false,.j 20 19 18 false,.g 21 (.len false (.t 20)) 18 false,.h 22 1 3 18 false,.j 23 22 18 false,.g 24 (.len false (.t 23)) 18 false,.g 25 (.bin .neq (.t 21) (.t 24)) 18 false,.o 26 18 25]) (.cond (.t 26) (.seq (.r [.m 4 .F]) (.ret)) (.skip))) (.seq (.seq (.r [.m 5 (.k 0)]) (.blk 0 (.loop (.seq (.seq (.r [.n 27 5,.f 28 1 2,.d 29 28,.e 30 29,.s 31 27 30]) (.cond (.t 31) (.skip) (.exit 0))) (.seq (.blk 1 (.seq (.reg true [.f 34 1 2,.d 35 34,.n 36 5,.i 37 3 35 36,.v 38 3 37,.f 39 1 3,.d 40 39,.n 41 5,.i 42 3 40 41,.v 43 3 42,.l 44 a [.t 38,.t 43],.q 45 (.un .not (.t 44))]) (.cond (.t 45) (.seq (.r [.m 4 .F]) (.ret)) (.skip)))) (.r [.n 32 5,.a 33 32 1,.n 5 33])))))) (.seq (.r [.m 4 .T]) (.ret))))⟩
theorem qFw{g:Nat}(hc:qd P f (qbK g)=true)(hg:∀r:GRule,r.tests.length<=100000->qf P g [.agg (qB r),.agg (qB r)] (.b true))(x:GFil)(hl:x.rules.length<=100000)(ht:∀r ∈ x.rules,r.tests.length<=100000):qf P f [.agg (qz x),.agg (qz x)] (.b true):=by
 refine qf.mk hc rfl ?_;simp only[qbK,qz,vI,simprocAttr];simp only[↓vS,vT,simprocAttr];refine SL.loop (α:=Nat) (fun j=>[(2,.ptr 0 0),(3,.ptr 1 0),(5,.i .i64 j)]) (fun _=>[.cells 0 true false (qz x),.cells 0 true false (qz x)]) (fun j=>j<=x.rules.length) (fun j=>x.rules.length-j) 0 [0,1] ?_ ?_ ?_ rfl ?_ ?_
 ·simp[vw]
 ·simp[vw,qz,xt]
 ·simp
 ·exact Nat.zero_le _
 rintro j hj G ih;simp only[vI,simprocAttr,qz]
 by_cases hlt:j<x.rules.length
 ·have hx:x.rules[j]?=some x.rules[j]:=zzE hlt;have he:=qeT hx;have hb:=qnx hlt;have hw:IntKind.wrap .i64 ((j:Int)+1)=((j+1:Nat):Int):=by rw[qm (by omega) (by omega)];omega
  have htl:=ht _ (List.getElem_mem hlt);generalize x.rules[j]=c at he htl;simp only[↓vS,vT,simprocAttr,hlt];refine zg ?_;simp only[↓vS,vT,simprocAttr,hlt,he,hb];refine (hg c htl).pc ?_;simp only[↓vS,vT,simprocAttr,hw];refine ih (j+1) hlt (by omega) _ _ (Wk.mk _ _ [0,1] ?_ ?_ ?_ rfl)
  ·simp[vw]
  ·simp[vw,qz,xt]
  ·simp
 ·simp only[↓vS,vT,simprocAttr,hlt];simp[vZ]
end Go.Kc
end
section
namespace Go.Kc
theorem qlg{α:Type}(k:α->Int):∀{l m:List α},l.Pairwise (fun x y=>k x<k y)->m.Pairwise (fun x y=>k x<k y)->(∀x,x ∈ l↔x ∈ m)->l=m
 | [],[],_,_,_=>rfl
 | [],y::m,_,_,h=>by have:=(h y).2 (by simp);simp at this
 | x::l,[],_,_,h=>by have:=(h x).1 (by simp);simp at this
 | x::l,y::m,hl,hm,h=>by
  obtain⟨h1,h2⟩:=List.pairwise_cons.1 hl;obtain⟨h3,h4⟩:=List.pairwise_cons.1 hm
  have e:x=y:=by
   rcases List.mem_cons.1 ((h x).1 (by simp)) with e|e
   ·exact e
   ·rcases List.mem_cons.1 ((h y).2 (by simp)) with e'|e'
    ·exact e'.symm
    ·have:=h3 x e;have:=h1 y e';omega
  subst e
  congr 1
  refine qlg k h2 h4 fun z=>?_
  constructor
  ·intro hz;rcases List.mem_cons.1 ((h z).1 (List.mem_cons_of_mem _ hz)) with e|e
   ·subst e;have:=h1 z hz;omega
   ·exact e
  ·intro hz;rcases List.mem_cons.1 ((h z).2 (List.mem_cons_of_mem _ hz)) with e|e
   ·subst e;have:=h3 z hz;omega
   ·exact e
theorem ql9{rs:List GRule}(hn:(rs.map GRule.nr).Nodup):(qiH rs).Pairwise (fun x y=>x.nr<y.nr):=by
 have h1:(qiH rs).Pairwise (fun x y=>decide (x.nr<=y.nr)=true):=List.pairwise_mergeSort (fun a b c h1 h2=>by simp at *;omega) (fun a b=>by simp;omega) rs
 have h2:((qiH rs).map GRule.nr).Nodup:=((List.mergeSort_perm rs _).map GRule.nr).nodup_iff.2 hn;have h3:(qiH rs).Pairwise (fun x y=>x.nr≠y.nr):=List.pairwise_map.1 h2
 refine (h1.and h3).imp ?_;intro a b ⟨h,h'⟩;simp at h;omega
theorem qrq{rs:List GRule}{r:GRule}:r ∈ qiH rs↔r ∈ rs:=(List.mergeSort_perm rs _).mem_iff
theorem qm9{c x:GCall}:∀{l:List GCall},x ∈ qqE c l↔x=c∨x ∈ l
 | []=>by simp[qqE]
 | y::l=>by
  unfold qqE;split
  ·simp
  ·rw[List.mem_cons,qm9,List.mem_cons];constructor
   ·rintro (h|h|h)
    ·exact .inr (.inl h)
    ·exact .inl h
    ·exact .inr (.inr h)
   ·rintro (h|h|h)
    ·exact .inr (.inl h)
    ·exact .inl h
    ·exact .inr (.inr h)
theorem qpY{a:Int}{c:GCall}:c ∈ qlr a↔∃x ∈ qaB,qww x a=some c.act∧x.1=c.name:=by
 unfold qlr
 have h1:∀l:List GCall,c ∈ l.foldr qqE []↔c ∈ l:=by
  intro l;induction l with
  | nil=>simp
  | cons y l ih=>rw[List.foldr_cons,qm9,ih,List.mem_cons]
 rw[h1,List.mem_filterMap];constructor
 ·rintro⟨x,hx,h⟩;cases hn:qww x a with
  | none=>rw[hn] at h;cases h
  | some n=>rw[hn] at h;cases h;exact⟨x,hx,hn,rfl⟩
 ·rintro⟨x,hx,h,h2⟩;refine⟨x,hx,?_⟩;rw[h];cases c;simp_all
theorem qrv:(qaB.map (·.1)).Nodup:=by decide +kernel
theorem qkN{α:Type}(k:α->List UInt8){l:List α}(hn:(l.map k).Nodup){x:α}(hx:x ∈ l):l.find? (fun y=>decide (k y=k x))=some x:=by
 induction l with
 | nil=>simp at hx
 | cons y l ih =>
  rw[List.map_cons,List.nodup_cons] at hn;rw[List.find?_cons]
  by_cases h:k y=k x
  ·have e:y=x:=by
    rcases List.mem_cons.1 hx with e|e
    ·exact e.symm
    ·exact absurd (by rw[h];exact List.mem_map_of_mem (f:=k) e) hn.1
   subst e;simp
  ·rcases List.mem_cons.1 hx with e|e
   ·subst e;exact absurd rfl h
   ·simp[h];exact ih hn.2 e
theorem qg5{a:Int}{c:GCall}:c ∈ qlr a↔qky a c.name=some c.act:=by
 rw[qpY];unfold qky;constructor
 ·rintro⟨x,hx,h,h2⟩;rw[← h2,qkN (·.1) qrv hx];exact h
 ·intro h;cases hf:qaB.find? (fun x=>decide (x.1=c.name)) with
  | none=>rw[hf] at h;cases h
  | some x =>
   rw[hf] at h;exact⟨x,List.mem_of_find?_eq_some hf,h,by simpa using List.find?_some hf⟩
theorem qij{a:Int}(h0:0<=a)(h6:a<6):(qlr a).Pairwise (fun x y=>x.act<y.act):=by
 have:a=0∨a=1∨a=2∨a=3∨a=4∨a=5:=by omega
 rcases this with rfl|rfl|rfl|rfl|rfl|rfl<;>decide +kernel
theorem qwx{a:Int}(h0:0<=a)(h6:a<6){s t:List UInt8}{n:Int}(h1:qky a s=some n)(h2:qky a t=some n):s=t:=by
 have hs:(⟨s,n⟩:GCall) ∈ qlr a:=qg5.2 h1;have ht:(⟨t,n⟩:GCall) ∈ qlr a:=qg5.2 h2;have hp:=qij h0 h6
 by_cases e:s=t
 ·exact e
 ·exfalso
  have:∀{l:List GCall},l.Pairwise (fun x y=>x.act<y.act)->(⟨s,n⟩:GCall) ∈ l->(⟨t,n⟩:GCall) ∈ l->False:=by
   intro l;induction l with
   | nil=>intro _ h;simp at h
   | cons x l ih =>
    intro hl h1 h2;obtain⟨k1,k2⟩:=List.pairwise_cons.1 hl;rcases List.mem_cons.1 h1 with e1|e1<;>rcases List.mem_cons.1 h2 with e2|e2
    ·rw[← e2] at e1;simp at e1;exact e e1
    ·subst e1;have:=k1 _ e2;simp at this
    ·subst e2;have:=k1 _ e1;simp at this
    ·exact ih k2 e1 e2
  exact this hp hs ht
def qcS(a:Int)(g:List UInt8->List GTest×Int)(ns:List (List UInt8)):List GRule:=ns.filterMap fun s=>(qky a s).map fun n=>⟨n,(g s).1,(g s).2⟩
theorem qmY{a:Int}{g:List UInt8->List GTest×Int}{ns:List (List UInt8)}{r:GRule}:r ∈ qcS a g ns↔∃s ∈ ns,qky a s=some r.nr∧r.tests=(g s).1∧r.act=(g s).2:=by
 unfold qcS;rw[List.mem_filterMap];constructor
 ·rintro⟨s,hs,h⟩;cases hn:qky a s with
  | none=>rw[hn] at h;cases h
  | some n=>rw[hn] at h;cases h;exact⟨s,hs,hn,rfl,rfl⟩
 ·rintro⟨s,hs,h,h2,h3⟩;refine⟨s,hs,?_⟩;rw[h];cases r;simp_all
theorem qoa{a:Int}(h0:0<=a)(h6:a<6){g:List UInt8->List GTest×Int}{ns:List (List UInt8)}(hn:ns.Nodup):((qcS a g ns).map GRule.nr).Nodup:=by
 induction ns with
 | nil=>exact List.nodup_nil
 | cons s ns ih =>
  obtain⟨h1,h2⟩:=List.nodup_cons.1 hn;unfold qcS;rw[List.filterMap_cons];cases hs:qky a s with
  | none=>exact ih h2
  | some n =>
   simp only[Option.map_some,List.map_cons];refine List.nodup_cons.2 ⟨?_,ih h2⟩;intro hm;obtain⟨r,hr,e⟩:=List.mem_map.1 hm;obtain⟨t,ht,k1,_,_⟩:=qmY.1 hr;rw[e] at k1;exact h1 (qwx h0 h6 hs k1 ▸ ht)
theorem qft{a:Int}{g:List UInt8->List GTest×Int}{ns ms:List (List UInt8)}:qcS a g (ns++ms)=qcS a g ns++qcS a g ms:=List.filterMap_append
theorem jo{a act:Int}{ts:List GTest}{g:List UInt8->List GTest×Int}:∀{ns:List (List UInt8)},(∀s ∈ ns,g s=(ts,act))->qbt a act ts ns=qcS a g ns
 | [],_=>rfl
 | s::ns,h=>by
  have e:=jo (a:=a) (ns:=ns) fun t ht=>h t (List.mem_cons_of_mem _ ht)
  unfold qbt qcS at *;rw[List.filterMap_cons,List.filterMap_cons,e,h s (by simp)]
theorem qeG{p:Pol}{d a:Int}(h0:0<=a)(h6:a<6){ns:List (List UInt8)}{g:List UInt8->List GTest×Int}(hn:ns.Nodup)(h1:∀s n,qky a s=some n->((ql0 p d s).1=true↔s ∈ ns))(h2:∀s ∈ ns,g s=(ql0 p d s).2):qiH (qcS a g ns)=ruR p d (qlr a):=by
 refine qlg GRule.nr (ql9 (qoa h0 h6 hn)) ?_ fun r=>?_
 ·unfold ruR;refine List.Pairwise.filterMap _ ?_ (qij h0 h6);intro c c' hlt x hx y hy;split at hx
  ·split at hy
   ·cases hx;cases hy;exact hlt
   ·cases hy
  ·cases hx
 ·rw[qrq,qmY];unfold ruR;rw[List.mem_filterMap];constructor
  ·rintro⟨s,hs,k1,k2,k3⟩;have k:=(h1 s _ k1).2 hs;refine⟨⟨s,r.nr⟩,qg5.2 k1,?_⟩;rw[h2 s hs] at k2 k3;rw[if_pos k];cases r;simp_all
  ·rintro⟨c,hc,h⟩;have k1:=qg5.1 hc;split at h
   ·rename_i k;cases h;have hs:=(h1 c.name _ k1).1 k;exact⟨c.name,hs,k1,by rw[h2 _ hs],by rw[h2 _ hs]⟩
   ·cases h
theorem qh4{l:GList}(h:qhw l=true):(l.calls.map (·.name)).Nodup:=by
 have h2:=((qno l).1 h).2.2;exact List.pairwise_map.2 (List.Pairwise.imp (fun hab=>qtq hab) h2)
theorem qjP{p:Pol}(h:qqW p=true):qhw p.filter=true∧qhw p.log=true:=by
 unfold qqW qpg at h;simp only[Bool.and_eq_true] at h;exact⟨h.2.1.1,h.2.1.2⟩
theorem qqA{l:List GCall}(hn:(l.map (·.name)).Nodup){c:GCall}(hc:c ∈ l):qfp l c.name=some c:=qkN GCall.name hn hc
theorem qkM{l:List GCall}{s:List UInt8}:(qfp l s).isSome=true↔s ∈ l.map (·.name):=by
 unfold qfp;rw[List.find?_isSome];simp only[decide_eq_true_eq,List.mem_map]
theorem qjz{a:Int}{g:List UInt8->List GTest×Int}{A:GCall->Int}:∀{l:List GCall},(∀c ∈ l,g c.name=([],A c))->(l.flatMap fun c=>qbt a (A c) [] [c.name])=qcS a g (l.map (·.name))
 | [],_=>rfl
 | c::l,h=>by
  have e:=qjz (a:=a) (A:=A) (l:=l) fun x hx=>h x (List.mem_cons_of_mem _ hx)
  rw[List.flatMap_cons,e,jo (g:=g) (by intro s hs;simp at hs;subst hs;exact h c (by simp)),← qft]
  rfl
def qDi(p:Pol)(s:List UInt8):List GTest×Int:=([],qyI p s)
theorem qvL{p:Pol}{a:Int}(hm:qhw p.filter=true):(qzz p a).2.1=qcS a (qDi p) (p.filter.calls.map (·.name)):=by
 refine qjz fun c hc=>?_
 have hf:=qqA (qh4 hm) hc;simp only[qDi,qyI,qvH,hf]
def qES(p:Pol)(_:List UInt8):List GTest×Int:=([],if p.log.mode=2 then 2147418112 else 2147221504)
theorem qwm{p:Pol}{a:Int}:(qzZ p a).2.1=qcS a (qES p) (p.log.calls.map (·.name)):=qjz (A:=fun _=>if p.log.mode=2 then 2147418112 else 2147221504) fun _ _=>rfl
def qhg(p:Pol)(d:Int)(s:List UInt8):List GTest×Int:=(ql0 p d s).2
theorem qvJ{p:Pol}{a:Int}:(fmM p a).2.1=qcS a (qhg p 3) [qhH]:=jo fun _ _=>rfl
def nsL:List (List UInt8):=[qcg,qeV,qcl,qbQ]
theorem qAi{p:Pol}{a:Int}:(nsM p a).2.1=qcS a (qhg p 4) nsL:=by
 have h1:qbt a 2147418112 (qcQ 0 327681 (qgH p.spaces)) [qcg,qeV]=qcS a (qhg p 4) [qcg,qeV]:=jo fun s hs=>by
  simp only[List.mem_cons,List.not_mem_nil,or_false] at hs;rcases hs with rfl|rfl<;>simp (decide:=true) [qhg,ql0,qcg,qeV,qbQ,qcl]
 have h2:qbt a 2147418112 (qcQ 1 327681 (qgH p.spaces)++qbV 1 4294967295 327681 [0]) [qcl]=qcS a (qhg p 4) [qcl]:=jo fun s hs=>by
  simp only[List.mem_cons,List.not_mem_nil,or_false] at hs;subst hs;simp (decide:=true) [qhg,ql0,qbQ,qcl,qbV]
 have h3:qbt a 327718 [] [qbQ]=qcS a (qhg p 4) [qbQ]:=jo fun s hs=>by
  simp only[List.mem_cons,List.not_mem_nil,or_false] at hs;subst hs;simp (decide:=true) [qhg,ql0]
 show _++_++_=_;rw[h1,h2,h3,← qft,← qft];rfl
def weL:List (List UInt8):=[qic,qcf,xP,qgb]
theorem qBJ{p:Pol}{a:Int}:(weM p a).2.1=qcS a (qhg p 5) weL:=by
 have h1:qbt a 2147418112 (qcQ 2 327681 [6]) [qic]=qcS a (qhg p 5) [qic]:=jo fun s hs=>by
  simp only[List.mem_cons,List.not_mem_nil,or_false] at hs;subst hs;rfl
 have h2:qbt a 2147418112 (qcQ 2 327681 [4]) [qcf,xP]=qcS a (qhg p 5) [qcf,xP]:=jo fun s hs=>by
  simp only[List.mem_cons,List.not_mem_nil,or_false] at hs;rcases hs with rfl|rfl<;>rfl
 have h3:qbt a 2147418112 (qcQ 2 327681 [32768]) [qgb]=qcS a (qhg p 5) [qgb]:=jo fun s hs=>by
  simp only[List.mem_cons,List.not_mem_nil,or_false] at hs;subst hs;rfl
 show _++_++_=_;rw[h1,h2,h3,← qft,← qft];rfl
theorem qAT{p:Pol}{a:Int}:(peM p a).2.1=qcS a (qhg p 6) [qck]:=jo fun _ _=>rfl
theorem qA7{p:Pol}{a:Int}:(rtM p a).2.1=qcS a (qhg p 7) [qjb]:=jo fun _ _=>rfl
theorem qBK(s:List UInt8):(0<qih s)↔s ∈ weL:=by
 unfold qih weL
 by_cases h1:s=qic
 ·simp[h1]
 by_cases h2:s=qcf
 ·subst h2;decide
 by_cases h3:s=xP
 ·subst h3;decide
 by_cases h4:s=qgb
 ·simp only[if_neg h1,if_neg (not_or.2 ⟨h2,h3⟩),if_pos h4];simp[h4]
 ·simp[h1,h2,h3,h4]
theorem qdm{p:Pol}{d a:Int}{F:Pol->Int->Bool×List GRule×Int}(hF:qpi d=some F)(hd:0<=d∧d<8)(h1:quQ p d=(F p a).1)
  (h2:qjL p d a=true->(F p a).1=true->qiH (F p a).2.1=ruR p d (qlr a)∧(F p a).2.2=dfR p d):qj2 p d a=qtp p d a:=by
 have e:qjL p d a=(decide (0<=a)&&decide (a<6)&&qqW p&&inA p.arches a):=by
  unfold qjL;simp[hd.1,hd.2]
 unfold qj2 qtp;rw[hF];cases hk:qjL p d a with
 | false =>
  rw[e] at hk;rw[if_neg (by rw[hk];simp),if_neg (by decide)]
 | true =>
  have hk':=hk;rw[e] at hk';rw[if_pos rfl];simp only[Option.bind_some];cases ha:(F p a).1 with
  | false=>rw[if_neg (by rw[h1,ha];simp),if_neg (by decide)]
  | true =>
   obtain⟨k1,k2⟩:=h2 hk ha;rw[if_pos (by rw[h1,ha,hk'];rfl),if_pos rfl,k1,k2]
theorem qas{p:Pol}{d a:Int}(h:qjL p d a=true):0<=a∧a<6∧qqW p=true:=by
 unfold qjL at h;simp only[Bool.and_eq_true,decide_eq_true_eq] at h;exact⟨h.1.1.2.1,h.1.1.2.2,h.1.2⟩
theorem qz0(p:Pol)(d a:Int):qj2 p d a=qtp p d a:=by
 by_cases d1:d=1
 ·subst d1;refine qdm (F:=qzz) rfl (by decide) rfl fun hk _=>?_
  obtain⟨h0,h6,hm⟩:=qas hk;have hf:=(qjP hm).1;refine⟨?_,?_⟩
  ·rw[qvL hf];refine qeG h0 h6 (qh4 hf) (fun s n _=>?_) fun s _=>?_
   ·show (qfp p.filter.calls s).isSome=true↔_;exact qkM
   ·rfl
  ·show (if p.filter.mode=1 then p.deny else 2147418112)=_
   simp[dfR]
 by_cases d2:d=2
 ·subst d2;refine qdm (F:=qzZ) rfl (by decide) rfl fun hk hact=>?_
  obtain⟨h0,h6,hm⟩:=qas hk;have hl:=(qjP hm).2
  have hmode:p.log.mode=1∨p.log.mode=2:=by
   have hact:qfB p.log.mode p.log.calls.length false true=true:=hact;unfold qfB at hact;split at hact
   ·exact .inl (by assumption)
   ·split at hact
    ·exact .inr (by assumption)
    ·cases hact
  refine⟨?_,?_⟩
  ·rw[qwm];refine qeG h0 h6 (qh4 hl) (fun s n _=>?_) fun s _=>?_
   ·show (qfp p.log.calls s).isSome=true↔_;exact qkM
   ·show ([],_)=([],if p.log.mode=1 then (2147221504:Int) else 2147418112)
    rcases hmode with h|h<;>simp[h]
  ·show (if p.log.mode=2 then 2147221504 else 2147418112)=_
   simp[dfR]
 by_cases d3:d=3
 ·subst d3;refine qdm (F:=fmM) rfl (by decide) rfl fun hk _=>?_
  obtain⟨h0,h6,hm⟩:=qas hk;refine⟨?_,by simp[dfR,fmM]⟩
  rw[qvJ];refine qeG h0 h6 (by decide) (fun s n _=>?_) fun s _=>rfl
  show decide (s=qhH)=true↔_;simp
 by_cases d4:d=4
 ·subst d4;refine qdm (F:=nsM) rfl (by decide) rfl fun hk _=>?_
  obtain⟨h0,h6,hm⟩:=qas hk;refine⟨?_,by simp[dfR,nsM]⟩
  rw[qAi];refine qeG h0 h6 (by decide) (fun s n _=>?_) fun s _=>rfl
  show (if s=qbQ then ((true,[],327718):Bool×List GTest×Int) else (decide (s=qcl)||decide (s=qcg)||decide (s=qeV),_,_)).1=true↔_
  unfold nsL
  by_cases k:s=qbQ
  ·simp[k]
  ·rw[if_neg k];simp only[Bool.or_eq_true,decide_eq_true_eq,List.mem_cons,List.not_mem_nil,or_false];constructor
   ·rintro ((h|h)|h)
    ·exact .inr (.inr (.inl h))
    ·exact .inl h
    ·exact .inr (.inl h)
   ·rintro (h|h|h|h)
    ·exact .inl (.inr h)
    ·exact .inr h
    ·exact .inl (.inl h)
    ·exact absurd h k
 by_cases d5:d=5
 ·subst d5;refine qdm (F:=weM) rfl (by decide) rfl fun hk _=>?_
  obtain⟨h0,h6,hm⟩:=qas hk;refine⟨?_,by simp[dfR,weM]⟩
  rw[qBJ];refine qeG h0 h6 (by decide) (fun s n _=>?_) fun s _=>rfl
  show decide (0<qih s)=true↔_;rw[decide_eq_true_eq];exact qBK s
 by_cases d6:d=6
 ·subst d6;refine qdm (F:=peM) rfl (by decide) rfl fun hk _=>?_
  obtain⟨h0,h6,hm⟩:=qas hk;refine⟨?_,by simp[dfR,peM]⟩
  rw[qAT];refine qeG h0 h6 (by decide) (fun s n _=>?_) fun s _=>rfl
  show decide (s=qck)=true↔_;simp
 by_cases d7:d=7
 ·subst d7;refine qdm (F:=rtM) rfl (by decide) rfl fun hk _=>?_
  obtain⟨h0,h6,hm⟩:=qas hk;refine⟨?_,by simp[dfR,rtM]⟩
  rw[qA7];refine qeG h0 h6 (by decide) (fun s n _=>?_) fun s _=>rfl
  show decide (s=qjb)=true↔_;simp
 have e1:quQ p d=false:=by simp[quQ,d1,d2,d3,d4,d5,d6,d7]
 have e2:qpi d=none:=by simp[qpi,d1,d2,d3,d4,d5,d6,d7]
 unfold qj2 qtp;rw[e1,e2,Bool.and_false,if_neg (by decide)];split<;>rfl
theorem qxS.low{P:Program}{f:Nat}(h:qxS P f):qEB P f:=fun p hp hR d a=>by rw[← qz0];exact h p hp hR d a
end Go.Kc
end
section
namespace Go.Kc
variable {P:Program} {f:Nat}
def qiO(p:List UInt8×Int):List AV:=[.i .u32 p.2,.s p.1]
theorem qul(p:List UInt8×Int):(qiO p).length=2:=rfl
def zV:List (List UInt8×Int):=[([107,105,108,108],2147483648),([107,105,108,108,116,104,114,101,97,100],0),([116,114,97,112],196608),([101,114,114,110,111],327680),([110,111,116,105,102,121],2143289344),([116,114,97,99,101],2146435072),([108,111,103],2147221504),([97,108,108,111,119],2147418112)]
def qe2:IFn:=⟨[.cell 0 16 true],.seq (.r [.q 0 (.alloc [.i .u32 0,.s [],.i .u32 0,.s [],.i .u32 0,.s [],.i .u32 0,.s [],.i .u32 0,.s [],.i .u32 0,.s [],.i .u32 0,.s [],.i .u32 0,.s []])]) (.seq (.r [.q 1 (.build [.i .u32 0,.s []] [(0,1,(.c (.i .u32 2147483648))),(1,1,(.c (.s [107,105,108,108])))]),.q 2 (.build [.i .u32 0,.s []] [(0,1,(.c (.i .u32 0))),(1,1,(.c (.s [107,105,108,108,116,104,114,101,97,100])))]),.q 3 (.build [.i .u32 0,.s []] [(0,1,(.c (.i .u32 196608))),(1,1,(.c (.s [116,114,97,112])))]),.q 4 (.build [.i .u32 0,.s []] [(0,1,(.c (.i .u32 327680))),(1,1,(.c (.s [101,114,114,110,111])))]),.q 5 (.build [.i .u32 0,.s []] [(0,1,(.c (.i .u32 2143289344))),(1,1,(.c (.s [110,111,116,105,102,121])))]),.q 6 (.build [.i .u32 0,.s []] [(0,1,(.c (.i .u32 2146435072))),(1,1,(.c (.s [116,114,97,99,101])))]),.q 7 (.build [.i .u32 0,.s []] [(0,1,(.c (.i .u32 2147221504))),(1,1,(.c (.s [108,111,103])))]),.q 8 (.build [.i .u32 0,.s []] [(0,1,(.c (.i .u32 2147418112))),(1,1,(.c (.s [97,108,108,111,119])))]),.q 9 (.build [.i .u32 0,.s [],.i .u32 0,.s [],.i .u32 0,.s [],.i .u32 0,.s [],.i .u32 0,.s [],.i .u32 0,.s [],.i .u32 0,.s [],.i .u32 0,.s []] [(0,2,(.t 1)),(2,2,(.t 2)),(4,2,(.t 3)),(6,2,(.t 4)),(8,2,(.t 5)),(10,2,(.t 6)),(12,2,(.t 7)),(14,2,(.t 8))]),.u (.store 16 (.t 0) (.t 9))]) (.ret))⟩
theorem qCM(hc:qd P f qe2=true):qf P f [] (.agg (zV.flatMap qiO)):=by
 refine qf.mk hc rfl ?_;simp only[qe2,vI,simprocAttr];simp only[↓vS,vT,simprocAttr,zV,qiO,List.flatMap_cons,List.flatMap_nil,vZ]
def qfu:IFn:=⟨[.tmp 2],.seq (.r [.m 2 (.c (.i .u32 0))]) (.seq (.r [.n 3 0,.q 4 (.bin .andNot (.t 3) (.c (.i .u32 65535))),.n 2 4]) (.ret))⟩
theorem qEk(hc:qd P f qfu=true)(n:Int):qf P f [.i .u32 n] (.i .u32 (qfd .u32 n 65535)):=by
 refine qf.mk hc rfl ?_;simp only[qfu,vI,simprocAttr];simp only[↓vS,vT,simprocAttr,vZ]
def qfv(a b:Nat):IFn:=⟨[.tmp 2],.seq (.r [.m 2 (.c (.s []))]) (.seq (.seq (.r [.l 5 a [],.m 6 (.k 0)]) (.blk 0 (.loop (.seq (.r [.w 7 .lss 6 8]) (.seq (.cond (.t 7) (.skip) (.exit 0)) (.seq (.blk 1 (.seq (.r [.q 8 (.idxA 8 2 true (.t 5) (.t 6)),.q 4 (.alloc [.i .u32 0,.s []]),.u (.store 2 (.t 4) (.t 8))]) (.seq (.reg true [.f 9 0 4,.d 10 9,.n 11 0,.l 12 b [.t 11],.b 13 .eql 10 12]) (.cond (.t 13) (.seq (.r [.f 14 1 4,.d 15 14,.n 2 15]) (.ret)) (.skip))))) (.r [.a 16 6 1,.n 6 16]))))))) (.seq (.r [.m 2 (.c (.s []))]) (.ret)))⟩
theorem qEj{g1 g2:Nat}(hc:qd P f (qfv g1 g2)=true)(h1:qf P g1 [] (.agg (zV.flatMap qiO)))(h2:∀n,qf P g2 [.i .u32 n] (.i .u32 (qfd .u32 n 65535)))(n:Int):qf P f [.i .u32 n] (.s (qb4 (qfd .u32 n 65535) zV)):=by
 refine qf.mk hc rfl ?_;simp only[qfv,vI,simprocAttr];simp only[↓vS,vT,simprocAttr];refine h1.sc ?_;simp only[↓vS,vT,simprocAttr];have hlen:(zV.flatMap qiO).length=16:=by decide
 have hTc:qw (zV.flatMap qiO)=true:=rfl;refine SL.loop (α:=Nat) (fun j=>[(0,.i .u32 n),(5,.agg (zV.flatMap qiO)),(6,.i .i64 j)]) (fun _=>[]) (fun j=>j<=8∧qb4 (qfd .u32 n 65535) zV=qb4 (qfd .u32 n 65535) (zV.drop j)) (fun j=>8-j) 0 [] ?_ ?_ ?_ rfl ?_ ?_
 ·simp[vw,zV,qiO]
 ·trivial
 ·simp
 ·exact⟨Nat.zero_le _,rfl⟩
 rintro j ⟨hj,hI⟩ G ih;simp only[vI,simprocAttr]
 by_cases hlt:j<8
 ·have hlt':(j:Int)<8:=by omega
  have hjl:j<zV.length:=hlt;have hx:zV[j]?=some zV[j]:=zzE hjl;have hw:IntKind.wrap .i64 ((j:Int)+1)=((j+1:Nat):Int):=by rw[qm (by omega) (by omega)];omega
  have he:=zL (f:=qiO) (m:=2) qul hx;have hb:j*2+2<=(zV.flatMap qiO).length:=by omega
  rw[List.drop_eq_getElem_cons hjl,qb4] at hI;generalize hc0:zV[j]=c at he hI;generalize hT:zV.flatMap qiO=T at he hb hlen hTc;simp only[↓vS,vT,simprocAttr,hlt',hlt,he,hb,qiO];refine zg ?_;simp only[↓vS,vT,simprocAttr];refine (h2 n).pc ?_
  by_cases hs:c.2=qfd .u32 n 65535
  ·rw[if_pos hs] at hI;simp only[↓vS,vT,simprocAttr,hs];simp[vZ,hI]
  ·rw[if_neg hs] at hI;simp only[↓vS,vT,simprocAttr,hs,hw];refine ih (j+1) ⟨hlt,hI⟩ (by omega) _ _ (Wk.mk _ _ [] ?_ ?_ ?_ rfl)
   ·rw[hT];simp[vw,qc,hTc]
   ·trivial
   ·simp
 ·have hj':j=8:=by omega
  subst hj';have hlt':¬(((8:Nat):Int)<8):=by decide
  simp only[↓vS,vT,simprocAttr,hlt'];rw[hI];simp[vZ,zV,qb4]
def knA(n:Int):Bool:=decide (qb4 (qfd .u32 n 65535) zV≠[])
def qe1(a:Nat):IFn:=⟨[.tmp 2],.seq (.r [.m 2 .F]) (.seq (.r [.n 3 0,.l 4 a [.t 3],.q 5 (.bin .neq (.t 4) (.c (.s []))),.n 2 5]) (.ret))⟩
theorem qCL{g:Nat}(hc:qd P f (qe1 g)=true)(hg:∀n,qf P g [.i .u32 n] (.s (qb4 (qfd .u32 n 65535) zV)))(n:Int):qf P f [.i .u32 n] (.b (knA n)):=by
 refine qf.mk hc rfl ?_;simp only[qe1,vI,simprocAttr];simp only[↓vS,vT,simprocAttr];refine (hg n).sc ?_;unfold knA;generalize qb4 (qfd .u32 n 65535) zV=s
 by_cases h:s=[] <;>
 ·simp only[↓vS,vT,simprocAttr,h];simp[vZ,h]
def zS(t:GTest):Bool:=decide (0<=t.arg)&&decide (t.arg<6)&&decide (qfd .u64 t.val t.mask=0)&&knA t.act
def qgu(a:Nat):IFn:=⟨[.tmp 2],.seq (.r [.q 1 (.box (.t 0)),.m 2 .F]) (.seq (.r [.f 3 0 1,.d 4 3,.w 5 .geq 4 0,.n 6 5,.h 7 0 1 6 true,.j 8 7 6 true,.g 9 (.bin .lss (.t 8) (.k 6)) 6 true,.p 10 6 9,.n 11 10,.h 12 2 1 11 true,.j 13 12 11 true,.h 14 1 1 11 true,.j 15 14 11 true,.g 16 (.bin .andNot (.t 13) (.t 15)) 11 true,.g 17 (.bin .eql (.t 16) (.c (.i .u64 0))) 11 true,.p 18 11 17,.n 19 18,.h 20 3 1 19 true,.j 21 20 19 true,⟨(some 22),.callF a [.t 21],(some (19,true))⟩,.p 23 19 22,.n 2 23]) (.ret))⟩
theorem qEr{g:Nat}(hg:∀n,qf P g [.i .u32 n] (.b (knA n)))(hc:qd P f (qgu g)=true)(t:GTest):qf P f [.agg (zA t)] (.b (zS t)):=by
 refine qf.mk hc rfl ?_;simp only[qgu,zA,vI,simprocAttr]
 by_cases k1:0<=t.arg
 ·by_cases k2:t.arg<6
  ·by_cases k3:qfd .u64 t.val t.mask=0
   ·simp only[↓vS,vT,simprocAttr,k1,k2,k3];refine (hg t.act).sc ?_;simp only[↓vS,vT,simprocAttr];simp[vZ,zS,k1,k2,k3]
   ·simp only[↓vS,vT,simprocAttr,k1,k2,k3];simp[vZ,zS,k3]
  ·simp only[↓vS,vT,simprocAttr,k1,k2];simp[vZ,zS,k2]
 ·simp only[↓vS,vT,simprocAttr,k1];simp[vZ,zS,k1]
def qe5(a:Nat):IFn:=⟨[.tmp 2],.seq (.r [.q 1 (.box (.t 0)),.m 2 .F]) (.seq (.r [.v 3 4 1,.l 4 a [.t 3],.q 5 (.un .not (.t 4)),.n 2 5]) (.ret))⟩
theorem qCc{g:Nat}(hc:qd P f (qe5 g)=true)(hg:∀t,qf P g [.agg (zA t)] (.b (zS t)))(t:GTest):qf P f [.agg (zA t)] (.b (!zS t)):=by
 refine qf.mk hc rfl ?_;simp only[qe5,zA,vI,simprocAttr];simp only[↓vS,vT,simprocAttr];refine (hg t).sc ?_;simp only[↓vS,vT,simprocAttr];simp[vZ]
def z9:IFn:=⟨[.tmp 4],.seq (.r [.m 4 (.k 0)]) (.seq (.seq (.r [.n 6 0,.e 7 6,.m 8 (.k 0)]) (.blk 0 (.loop (.seq (.r [.s 9 8 7]) (.seq (.cond (.t 9) (.skip) (.exit 0)) (.seq (.blk 1 (.seq (.r [.n 10 8,.n 5 10]) (.seq (.r [.n 11 1,.n 12 0,.n 13 5,.i 14 4 12 13,.v 15 4 14,⟨(some 16),.callV (.t 11) [.t 15],none⟩]) (.cond (.t 16) (.seq (.r [.n 17 5,.n 4 17]) (.ret)) (.skip))))) (.r [.a 18 8 1,.n 8 18]))))))) (.seq (.r [.q 4 (.mov (.c (.i .i64 (-1))))]) (.ret)))⟩
theorem qo6(hc:qd P f z9=true):qn3 4 P f:=by
 intro α enc p g a c l hlen ha hc' hl hp;refine qf.mk hc (by simp[qw,clo,ha,hc']) ?_;simp only[z9,vI,simprocAttr];simp only[↓vS,vT,simprocAttr];refine SL.loop (α:=Nat) (fun j=>[(0,.fz l.length (l.flatMap enc)),(1,.fn g a c),(7,.i .i64 l.length),(8,.i .i64 j)]) (fun _=>[]) (fun j=>j<=l.length∧xM p l 0=xM p (l.drop j) j) (fun j=>l.length-j) 0 [] ?_ ?_ ?_ rfl ?_ ?_
 ·simp[vw,qc,ha,hc']
 ·trivial
 ·simp
 ·simp
 rintro j ⟨hj,hI⟩ G ih;simp only[vI,simprocAttr]
 by_cases hlt:j<l.length
 ·have hx:l[j]?=some l[j]:=zzE hlt;have hw:IntKind.wrap .i64 ((j:Int)+1)=(j:Int)+1:=qm (by omega) (by have:=hl;simp only[qh] at this;omega)
  have he:=zL hlen hx;have hb:j*4+4<=(l.flatMap enc).length:=by rw[zt hlen];omega
  rw[List.drop_eq_getElem_cons hlt,xM] at hI;simp only[↓vS,vT,simprocAttr,hlt,hb,he,hw];refine (hp l[j] (List.getElem_mem hlt)).sc ?_
  by_cases hpx:p l[j]=true
  ·rw[if_pos hpx] at hI;simp only[↓vS,vT,simprocAttr,hpx,vZ,hI]
  ·rw[if_neg hpx] at hI;simp only[↓vS,vT,simprocAttr,hpx,hw];refine ih (j+1) ⟨by omega,hI⟩ (by omega) _ _ (Wk.mk _ _ [] ?_ ?_ ?_ rfl)
   ·simp[vw,qc,ha,hc']
   ·trivial
   ·simp
 ·simp only[↓vS,vT,simprocAttr,hlt];rw[List.drop_eq_nil_of_le (by omega)] at hI;simp[hI,xM,vZ]
def qrL(p:GTest->Bool)(l:List GTest):AV:=match l.find? p with|some t=>.tup [.agg (zA t),.b true]|none=>.tup [.agg [.i .i64 0,.i .u64 0,.i .u64 0,.i .u32 0],.b false]
def qcw(a:Nat):IFn:=⟨[.cell 4 4 true,.tmp 5],.seq (.r [.q 4 (.alloc [.i .i64 0,.i .u64 0,.i .u64 0,.i .u32 0]),.m 5 .F]) (.seq (.seq (.r [.n 8 0,.n 9 1,.l 10 a [.t 8,.t 9],.n 6 10]) (.seq (.r [.n 11 6,.w 12 .geq 11 0]) (.cond (.t 12) (.seq (.r [.n 13 0,.n 14 6,.i 15 4 13 14,.v 16 4 15,.u (.store 4 (.t 4) (.t 16)),.m 5 .T]) (.ret)) (.skip)))) (.seq (.r [.q 7 (.alloc [.i .i64 0,.i .u64 0,.i .u64 0,.i .u32 0])]) (.seq (.r [.v 17 4 7,.u (.store 4 (.t 4) (.t 17)),.m 5 .F]) (.ret))))⟩
theorem qzB{g:Nat}(hc:qd P f (qcw g)=true)(h2:qn3 4 P g)(l:List GTest)(k:Nat)(a c:List AV)(p:GTest->Bool)(ha:qw a=true)(hcc:qw c=true)(hk:∀t ∈ l,qf P k (a++([.agg (zA t)]++c)) (.b (p t)))(hl:l.length<=100000):qf P f [.fz l.length (rT l),.fn k a c] (qrL p l):=by
 refine qf.mk hc (by simp[qw,clo,xW,ha,hcc]) ?_;simp only[qcw,vI,simprocAttr];simp only[↓vS,vT,simprocAttr];refine (h2 zA p k a c l qcW ha hcc (by simp only[qh];omega) hk).sc ?_;rcases qkS p l 0 with⟨e1,e2⟩|⟨i,x,e1,e2,e3,e4,e5⟩
 ·rw[e1];simp only[↓vS,vT,simprocAttr];simp[vZ,qrL,e2]
 ·have hi:i<l.length:=(zzS.1 e2).1;have hn:(0:Int)<=(i:Int):=by omega
  have he:=qf8 e2;have hb:=qfH hi;rw[e1,Nat.zero_add];simp only[↓vS,vT,simprocAttr,hn,hi,he,hb,zA];simp[vZ,qrL,e4,zA]
noncomputable def qak(r:GRule):Bool:=decide (r.tests.length<=32)&&r.tests.all zS&&knA r.act
theorem qsN{α:Type}(p:α->Bool)(l:List α):(l.find? fun t=>!p t).isSome = !l.all p:=by
 induction l with
 | nil=>rfl
 | cons x l ih =>
  rw[List.find?_cons,List.all_cons];cases h:p x
  ·simp[h]
  ·simp[h,ih]
def qgt(a b c:Nat):IFn:=⟨[.tmp 2],.seq (.r [.q 1 (.box (.t 0)),.m 2 .F]) (.seq (.r [.f 6 1 1,.d 7 6,.l 8 a [.t 7,(.c (.fn b [] []))],.n 5 8,.x 9 5 0,.x 10 5 1,.q 3 (.alloc [.i .i64 0,.i .u64 0,.i .u64 0,.i .u32 0]),.u (.store 4 (.t 3) (.t 9)),.n 4 10]) (.seq (.r [.f 11 1 1,.d 12 11,.e 13 12,.w 14 .leq 13 32,.n 15 14,.y 16 4 15,.g 17 (.un .not (.t 16)) 15 true,.p 18 15 17,.n 19 18,.h 20 2 1 19 true,.j 21 20 19 true,⟨(some 22),.callF c [.t 21],(some (19,true))⟩,.p 23 19 22,.n 2 23]) (.ret)))⟩
theorem qEq{g1 g2 g3:Nat}(hc:qd P f (qgt g1 g2 g3)=true)(h1:∀(l:List GTest) (k:Nat) (a c:List AV) (p:GTest->Bool),qw a=true->qw c=true->(∀t ∈ l,qf P k (a++([.agg (zA t)]++c)) (.b (p t)))->l.length<=100000->qf P g1 [.fz l.length (rT l),.fn k a c] (qrL p l))
  (h2:∀t,qf P g2 [.agg (zA t)] (.b (!zS t))) (h3:∀n,qf P g3 [.i .u32 n] (.b (knA n))) (r:GRule) (hl:r.tests.length<=100000):qf P f [.agg (qB r)] (.b (qak r)):=by
 refine qf.mk hc rfl ?_;simp only[qgt,qB,vI,simprocAttr];simp only[↓vS,vT,simprocAttr];refine (h1 r.tests g2 [] [] (fun t=>!zS t) rfl rfl (fun t _=>h2 t) hl).sc ?_
 have hf:=qsN zS r.tests
 have fin:∀odd:Bool,odd = !r.tests.all zS->(decide (r.tests.length<=32) && !odd&&knA r.act)=qak r:=by
  rintro odd rfl;simp[qak]
 unfold qrL;cases hq:r.tests.find? (fun t=>!zS t) with
 | none =>
  rw[hq] at hf;have fin:=fin false hf
  by_cases k1:r.tests.length<=32
  ·have k1':((r.tests.length:Int)<=32)=True:=eq_true (by omega);simp only[↓vS,vT,simprocAttr,k1'];refine (h3 r.act).sc ?_;simp only[↓vS,vT,simprocAttr];simp[vZ,← fin,k1]
  ·have k1':((r.tests.length:Int)<=32)=False:=eq_false (by omega);simp only[↓vS,vT,simprocAttr,k1'];simp[vZ,← fin,k1]
 | some t =>
  rw[hq] at hf;have fin:=fin true hf
  by_cases k1:r.tests.length<=32
  ·have k1':((r.tests.length:Int)<=32)=True:=eq_true (by omega);simp only[zA,↓vS,vT,simprocAttr,k1'];simp[vZ,← fin]
  ·have k1':((r.tests.length:Int)<=32)=False:=eq_false (by omega);simp only[zA,↓vS,vT,simprocAttr,k1'];simp[vZ,← fin]
noncomputable def upR:Option GRule->List GRule->Bool
 | _,[]=>true
 | o,r::l=>qak r&&(o.elim true fun b=>decide (b.nr<r.nr))&&upR (some r) l
noncomputable def xp(x:GFil):Bool:=decide (0<=x.arch)&&decide (x.arch<6)&&decide (x.rules.length<=400)&&knA x.dflt&&upR none x.rules
def qkT(a b:Nat):IFn:=⟨[.tmp 2],.seq (.r [.q 1 (.box (.t 0)),.m 2 .F]) (.seq (.seq (.r [.f 5 0 1,.d 6 5,.w 7 .lss 6 0,.n 8 7,.h 9 0 1 8 false,.j 10 9 8 false,.g 11 (.bin .geq (.t 10) (.k 6)) 8 false,.o 12 8 11,.n 13 12,.h 14 1 1 13 false,.j 15 14 13 false,.g 16 (.len false (.t 15)) 13 false,.g 17 (.bin .gtr (.t 16) (.k 400)) 13 false,.o 18 13 17,.n 19 18,.h 20 2 1 19 false,.j 21 20 19 false,⟨(some 22),.callF a [.t 21],(some (19,false))⟩,.g 23 (.un .not (.t 22)) 19 false,.o 24 19 23]) (.cond (.t 24) (.seq (.r [.m 2 .F]) (.ret)) (.skip))) (.seq (.seq (.r [.f 25 1 1,.d 26 25,.e 27 26,.m 28 (.k 0)]) (.blk 0 (.loop (.seq (.r [.s 29 28 27]) (.seq (.cond (.t 29) (.skip) (.exit 0)) (.seq (.blk 1 (.seq (.r [.n 30 28,.i 31 3 26 28,.v 32 3 31,.q 4 (.alloc [.i .u32 0,.nils,.i .u32 0]),.n 3 30,.u (.store 3 (.t 4) (.t 32))]) (.seq (.reg true [.v 33 3 4,.l 34 b [.t 33],.q 35 (.un .not (.t 34)),.n 36 35,.z 37 3 36,.g 38 (.bin .gtr (.t 37) (.k 0)) 36 false,.z 39 38 36,.h 40 0 4 39 true,.j 41 40 39 true,.h 42 1 1 39 true,.j 43 42 39 true,.y 44 3 39,.g 45 (.bin .sub (.t 44) (.k 1)) 39 true,.g 46 (.iAddrS 3 (.t 43) (.t 45)) 39 true,.h 47 0 46 39 true,.j 48 47 39 true,.g 49 (.bin .leq (.t 41) (.t 48)) 39 true,.g 50 (.pick (.t 39) (.t 49) .F) 36 false,.o 51 36 50]) (.cond (.t 51) (.seq (.r [.m 2 .F]) (.ret)) (.skip))))) (.r [.a 52 28 1,.n 28 52]))))))) (.seq (.r [.m 2 .T]) (.ret))))⟩
theorem qFD{g1 g2:Nat}(hc:qd P f (qkT g1 g2)=true)(h1:∀n,qf P g1 [.i .u32 n] (.b (knA n)))(h2:∀r:GRule,r.tests.length<=100000->qf P g2 [.agg (qB r)] (.b (qak r)))(x:GFil)(hl:x.rules.length<=100000)(ht:∀r ∈ x.rules,r.tests.length<=100000):qf P f [.agg (qz x)] (.b (xp x)):=by
 refine qf.mk hc rfl ?_;simp only[qkT,qz,vI,simprocAttr]
 by_cases k1:x.arch<0
 ·have hw:xp x=false:=by simp only[xp,decide_eq_false (by omega:¬0<=x.arch)];simp
  simp only[↓vS,vT,simprocAttr,k1];simp[vZ,hw]
 by_cases k2:6<=x.arch
 ·have hw:xp x=false:=by simp only[xp,decide_eq_false (by omega:¬x.arch<6)];simp
  simp only[↓vS,vT,simprocAttr,k1,k2];simp[vZ,hw]
 by_cases k3:(400:Int)<x.rules.length
 ·have hw:xp x=false:=by simp only[xp,decide_eq_false (by omega:¬x.rules.length<=400)];simp
  simp only[↓vS,vT,simprocAttr,k1,k2,k3];simp[vZ,hw]
 simp only[↓vS,vT,simprocAttr,k1,k2,k3];refine (h1 x.dflt).sc ?_;cases k4:knA x.dflt with
 | false =>
  have hw:xp x=false:=by simp[xp,k4]
  simp only[↓vS,vT,simprocAttr];simp[vZ,hw]
 | true =>
  have hw:xp x=upR none x.rules:=by
   unfold xp;rw[k4,decide_eq_true (by omega:0<=x.arch),decide_eq_true (by omega:x.arch<6),decide_eq_true (by omega:x.rules.length<=400)];rfl
  rw[hw];simp only[↓vS,vT,simprocAttr]
  refine SL.loop (α:=Nat) (fun j=>[(1,.ptr 0 0),(26,.fz x.rules.length (rR x.rules)),(27,.i .i64 x.rules.length),(28,.i .i64 j)]) (fun _=>[.cells 0 true false (qz x)])
   (fun j=>j<=x.rules.length∧upR none x.rules=upR (if j=0 then none else x.rules[j-1]?) (x.rules.drop j)) (fun j=>x.rules.length-j) 0 [0] ?_ ?_ ?_ rfl ?_ ?_
  ·simp[vw,xt]
  ·simp[vw,qz,xt]
  ·simp
  ·exact⟨Nat.zero_le _,rfl⟩
  rintro j ⟨hj,hI⟩ G ih;simp only[vI,simprocAttr,qz]
  by_cases hlt:j<x.rules.length
  ·have hx:x.rules[j]?=some x.rules[j]:=zzE hlt;have he:=qeT hx;have hb:=qnx hlt;have hw:IntKind.wrap .i64 ((j:Int)+1)=((j+1:Nat):Int):=by rw[qm (by omega) (by omega)];omega
   have htl:=ht _ (List.getElem_mem hlt);rw[List.drop_eq_getElem_cons hlt,upR] at hI;generalize hc0:x.rules[j]=r at hI he hx htl;simp only[↓vS,vT,simprocAttr,hlt,hb,he,qB];refine zg ?_;simp only[↓vS,vT,simprocAttr];refine (h2 r htl).pc ?_;cases hk:qak r with
   | false =>
    have hwf:upR none x.rules=false:=by rw[hI];simp[hk]
    simp only[↓vS,vT,simprocAttr];simp[vZ,hwf]
   | true =>
    by_cases h0:j=0
    ·subst h0;have hn:¬(0:Int)<((0:Nat):Int):=by decide
     simp only[↓vS,vT,simprocAttr,hn,hw];refine ih 1 ⟨by omega,?_⟩ (by omega) _ _ (Wk.mk _ _ [0] ?_ ?_ ?_ rfl)
     ·rw[hI,hk];simp[hx]
     ·simp[vw,xt];exact qm (by decide) (by decide)
     ·simp[vw,qz,xt]
     ·simp
    ·have hp:(0:Int)<(j:Int):=by omega
     have hpl:j-1<x.rules.length:=by omega
     have hy:x.rules[j-1]?=some x.rules[j-1]:=zzE hpl;have hw2:IntKind.wrap .i64 ((j:Int)-1)=((j-1:Nat):Int):=by rw[qm (by omega) (by omega)];omega
     have g0:(rR x.rules)[(j-1)*3]?=some (.i .u32 x.rules[j-1].nr):=qlY hy (i:=0) (by decide);rw[if_neg h0,hy] at hI
     by_cases hlt2:r.nr<=x.rules[j-1].nr
     ·have hwf:upR none x.rules=false:=by rw[hI];simp[Int.not_lt.2 hlt2]
      simp only[↓vS,vT,simprocAttr,hp,hw2,hpl,g0,hlt2];simp[vZ,hwf]
     ·simp only[↓vS,vT,simprocAttr,hp,hw2,hpl,g0,hlt2,hw];refine ih (j+1) ⟨by omega,?_⟩ (by omega) _ _ (Wk.mk _ _ [0] ?_ ?_ ?_ rfl)
      ·rw[hI,hk];simp[hx];omega
      ·simp[vw,xt]
      ·simp[vw,qz,xt]
      ·simp
  ·rw[List.drop_of_length_le (by omega),upR] at hI;simp only[↓vS,vT,simprocAttr,hlt];simp[vZ,hI]
end Go.Kc
end
section
namespace Go.Kc
end Go.Kc
end
section
namespace Go.Kc
variable {P:Program} {f:Nat}
end Go.Kc
end
section
namespace Go.Kc
variable {P:Program} {f:Nat}
section
variable {g1 g2 g3 g4 g5:Nat}
end
end Go.Kc
end
section
namespace Go.Kc
structure PMay (p:Pol):Prop where
 own:∀c ∈ p.log.calls,c.act=0
 deny:qx1 p.deny=true
 mode:p.fmode<=2∧(p.fmode≠0∨p.fams=[])
 ar:∀a ∈ p.arches,0<=a∧a<6
 ap:p.arches.Pairwise (· < ·)
 fr:∀n ∈ p.fams,qvI n=true
 fp:p.fams.Pairwise (· < ·)
 fil:qhw p.filter=true
 log:qhw p.log=true
 sp:qfd .u64 p.spaces 2114060416=0
structure PI (p:Pol):Prop where
 may:PMay p
 f0:0<=p.filter.mode
 l0:0<=p.log.mode
 m0:0<=p.fmode
 s0:0<=p.spaces∧p.spaces<18446744073709551616
theorem qjV{l:List Int}(h:l.Pairwise (· < ·)):l.Nodup:=h.imp fun h e=>by omega
theorem qsI{n:Int}(h:qvI n=true):n ∈ qbT.map (·.2):=by
 unfold qvI at h;have h':qb4 n qbT≠[]:=by simpa using h
 have:∀(t:List (List UInt8×Int)),qb4 n t≠[]->n ∈ t.map (·.2):=by
  intro t
  induction t with
  | nil=>intro h;exact absurd rfl h
  | cons x t ih =>
   intro h;unfold qb4 at h;split at h
   ·rename_i e;simp[e]
   ·exact List.mem_cons_of_mem _ (ih h)
 exact this _ h'
theorem qrP{a:Int}(h:0<=a∧a<6):a ∈ ([0,1,2,3,4,5]:List Int):=by
 have:a=0∨a=1∨a=2∨a=3∨a=4∨a=5:=by omega
 simpa using this
theorem PMay.lens{p:Pol}(h:PMay p):p.arches.length<=6∧p.fams.length<=8∧p.filter.calls.length<=40∧p.log.calls.length<=40 :=
 ⟨qf3 (t:=[0,1,2,3,4,5]) (qjV h.ap) fun x hx=>qrP (h.ar x hx),qf3 (t:=qbT.map (·.2)) (qjV h.fp) fun x hx=>qsI (h.fr x hx),qph h.fil,qph h.log⟩
theorem PI.ok{p:Pol}(h:PI p):PolOk p:=by
 obtain⟨h1,h2,h3,h4⟩:=h.may.lens;exact⟨by omega,by omega,by omega,by omega⟩
def qw0:Pol:={ qwZ with deny:=2147483648 }
theorem PI.new:PI qw0:=by
 refine⟨⟨?_,?_,?_,?_,?_,?_,?_,?_,?_,?_⟩,?_,?_,?_,?_⟩
 ·intro c hc;simp[qw0,qwZ] at hc
 ·decide
 ·exact⟨by decide,.inr rfl⟩
 ·intro c hc;simp[qw0,qwZ] at hc
 ·exact List.Pairwise.nil
 ·intro c hc;simp[qw0,qwZ] at hc
 ·exact List.Pairwise.nil
 ·rfl
 ·rfl
 ·decide
 ·decide
 ·decide
 ·decide
 ·decide
variable {E:List UInt8->List (List UInt8)×Int}
variable (E)
variable {E}
end Go.Kc
end
section
namespace Go.Kc
variable {P:Program} {f:Nat}
instance:DecidableEq GCall:=fun a b=>if h:a.name=b.name∧a.act=b.act then isTrue (by obtain⟨h1,h2⟩:=h;cases a;cases b;simp_all) else isFalse (by rintro rfl;exact h ⟨rfl,rfl⟩)
section
variable {l m:List Asg} {j:Nat}
end
end Go.Kc
end
section
namespace Go.Kc
variable {P:Program} {f:Nat}
variable {E:List UInt8->List (List UInt8)×Int}
section
variable {g1 g2 g3 g4:Nat}
end
end Go.Kc
end
section
namespace Go.Kc
variable {P:Program} {f:Nat}
end Go.Kc
end
section
namespace Go.Kc
open Go.RowKit
variable {P:Program} {f:Nat}
theorem Rel.below{ρ:Ren}{B:Nat->Prop}{h:Hp}{w w':World}(r:Rel σ0 ρ B h w)(hb:Below w.heap.size w w'):Rel σ0 ρ B h w':=by
 have hget:∀{k o},w.heap[k]?=some o->w'.heap[k]?=some o:=fun {k o} hk=>by rw[hb.block k (Array.getElem?_eq_some_iff.1 hk).1];exact hk
 refine⟨r.dom,fun b L e wf af cs h1 h2=>?_,fun b L es h1 h2=>?_,r.excl,r.exclm,r.app,r.flr,fun k hk=>Nat.lt_of_lt_of_le (r.base k hk) hb.size,fun k arr hk=>?_,⟨r.dn.1,fun b L h=>Nat.lt_of_lt_of_le (r.dn.2 b L h) hb.size⟩⟩
 ·obtain⟨e1,c,ty,fz,e2,e3⟩:=r.cells b L e wf af cs h1 h2;exact⟨e1,c,ty,fz,hget e2,e3⟩
 ·obtain⟨e1,o,e2,e3⟩:=r.maps b L es h1 h2;exact⟨e1,o,hget e2,e3⟩
 ·obtain⟨⟨ty,fz,e1⟩,e2⟩:=r.frz k arr hk;exact⟨⟨ty,fz,hget e1⟩,e2⟩
theorem Kept.below{ρ:Ren}{B:Nat->Prop}{h:Hp}{w w':World}(r:Rel σ0 ρ B h w)(hb:Below w.heap.size w w'):Kept ρ B h w ρ h w' :=
 ⟨fun _ _=>rfl,Nat.le_refl _,rfl,fun _ _ _=>rfl,fun k hk=>hb.block k (r.base k hk),hb.size,⟨hb.os,hb.output⟩,fun _ _ h=>h,fun _ _ h=>.inl h,Nat.le_refl _⟩
def qDq(sep:List UInt8)(xs:List (List UInt8)):List UInt8:=Lib.join xs sep
end Go.Kc
end
section
namespace Go.Kc
variable {P:Program} {f:Nat}
def qpb(k a:List UInt8)(ws:List (List UInt8)):Prop:=k.length<=100∧a.length<=100∧ws.length<=100000∧(qDq [32] ws).length<=1000000
structure GData where
 nr:Int
 arch:Int
 ip:Int
 a0:Int
 a1:Int
 a2:Int
 a3:Int
 a4:Int
 a5:Int
def qX(d:GData):List AV:=[.i .u32 d.nr,.i .u32 d.arch,.i .u64 d.ip,.i .u64 d.a0,.i .u64 d.a1,.i .u64 d.a2,.i .u64 d.a3,.i .u64 d.a4,.i .u64 d.a5]
def qkv(d:GData)(k:Int):Int:=if k=0 then d.a0 else if k=1 then d.a1 else if k=2 then d.a2 else if k=3 then d.a3 else if k=4 then d.a4 else d.a5
def ofM(t n:Int):Int×Bool :=
 if xM (fun x=>decide (x.2=t)) xn 0<0 then (0,false)
 else if xM (fun x=>decide (x.2=t)) xn 0=0∧jq .u32 n 1073741824≠0 then (2,true)
 else (xM (fun x=>decide (x.2=t)) xn 0,true)
def qhL(a:Int):Int:=(xn.getD a.toNat ([],0)).2
def qgp(a:Nat):IFn:=⟨[.tmp 2,.tmp 3],.seq (.r [.m 2 (.c (.i .u32 0)),.m 3 (.k 0)]) (.seq (.seq (.r [.n 4 0,.w 5 .lss 4 0,.n 6 5,.z 7 0 6,.g 8 (.bin .geq (.t 7) (.k 6)) 6 false,.o 9 6 8]) (.cond (.t 9) (.seq (.r [.m 2 (.c (.i .u32 0)),.m 3 (.k 80)]) (.ret)) (.skip))) (.seq (.r [.l 10 a [],.n 11 0,.q 12 (.idxA 6 2 true (.t 10) (.t 11)),.q 13 (.fld 1 none (.t 12)),.n 2 13,.m 3 (.k 0)]) (.ret)))⟩
theorem qBA{g:Nat}(hc:qd P f (qgp g)=true)(hg:qf P g [] (.agg (xn.flatMap (qxi .u32))))(a:Int)(h0:0<=a)(h6:a<6):qf P f [.i .i64 a] (.tup [.i .u32 (qhL a),.i .i64 0]):=by
 refine qf.mk hc rfl ?_;simp only[qgp,vI,simprocAttr];have n1:¬a<0:=by omega
 have n2:¬6<=a:=by omega
 simp only[↓vS,vT,simprocAttr,n1,n2];refine hg.sc ?_;have h3:a=0∨a=1∨a=2∨a=3∨a=4∨a=5:=by omega
 rcases h3 with rfl|rfl|rfl|rfl|rfl|rfl <;>
 ·simp only[↓vS,vT,simprocAttr,xn,qxi,List.flatMap_cons,List.flatMap_nil];simp[vZ,qhL,xn]
def xZ(t:GTest)(d:GData):Bool:=decide (0<=t.arg)&&decide (t.arg<6)&&decide (jq .u64 (qkv d t.arg) t.mask=t.val)
def qkw(x:GFil)(d:GData):Int :=
 if (ofM d.arch d.nr).2=false∨(ofM d.arch d.nr).1≠x.arch then 2147418112
 else match x.rules.find? (fun r=>decide (r.nr=d.nr)) with
  | none=>x.dflt
  | some r=>match r.tests.find? (fun t=>xZ t d) with
   | some t=>t.act
   | none=>r.act
section
variable {g1 g2 g3 g4 g5:Nat}
end
section
variable {g1 g2:Nat}
end
end Go.Kc
end
section
namespace Go.Kc
def fnd(q:GTest->Bool)(y:Int)(l:List GTest):Int:=match l.find? q with|some t=>t.act|none=>y
theorem qhe(q:GTest->Bool)(y:Int):fnd q y []=y:=rfl
theorem qcv(q:GTest->Bool)(y:Int)(t:GTest)(l:List GTest):fnd q y (t::l)=if q t=true then t.act else fnd q y l:=by
 unfold fnd;rw[List.find?_cons];cases q t<;>rfl
def U64(b:Int):Prop:=0<=b∧b<18446744073709551616
def idxS:List Nat:=[25,27,30,17,29,7,28,26]
structure DOk (x:GData):Prop where
 a0:U64 x.a0
 a1:U64 x.a1
 a2:U64 x.a2
end Go.Kc
end
section
namespace Go.Kc
variable {P:Program} {f:Nat}
def qEH(n:Int):List UInt8:=Lib.itoa n
def qEO(n:Int):List UInt8:=if qb4 n qeX=[]∧n<=4095 then qEH n else qb4 n qeX
def qD6(c:GCall):List UInt8:=if c.act=0 then c.name else if c.act=2147483648 then c.name++[58,107,105,108,108] else if jq .u32 c.act 4294901760=327680 then c.name++58::qEO (jq .u32 c.act 65535) else c.name++[58]
def qEK(q:GCall->Bool)(l:List GCall):List (List UInt8):=(l.filter q).map qD6
structure LOkP (k:List UInt8) (l:GList):Prop where
 k100:k.length<=100
 n:l.calls.length<=1000
 nm:∀c ∈ l.calls,c.name.length<=1000000
 ok:∀(q:GCall->Bool) (a:List UInt8),a.length<=1->qpb k a (qEK q l.calls)
section
variable {e1 e2 g3 g4 g5 g6 g7:Nat}
end
section
variable {g1 g2 g3 g4 g5 g6 g7 g8 g9 g10 g11 g12:Nat}
def spW(p:Pol):List (List UInt8):=(qgH p.spaces).map fun n=>qb4 n qkf
def faW(p:Pol):List (List UInt8):=p.fams.map fun n=>qb4 n qbT
structure LinOk (p:Pol):Prop where
 ar:qpb qDr [] (p.arches.map qCO)
 fil:LOkP qwd p.filter
 log:LOkP qEW p.log
 fam:∀a:List UInt8,a.length<=1->qpb qEV a (faW p)
 sp:qpb kSp [126] (spW p)
end



end Go.Kc
end
section
namespace Go.Kc
variable {P:Program} {f g1 g2:Nat}

end Go.Kc
end
section
namespace Go.Kc
variable {P:Program} {f:Nat}
section
variable {g1 g2 g3 g4 g5 g6 g7 g8 g9:Nat}
end
end Go.Kc
end
section
namespace Go.Kc
section
variable {P:Program} {f g1 g2 g3 g4 g5 g6 g7 g8 g9:Nat}
end
section
variable {P:Program} {f g1 g2 g3 g4 g5 g6 g7 g8 g9:Nat}
structure Lin19 (p:Pol):Prop where
 arch:∀n ∈ p.arches,0<=n∧n<6
 sp:p.spaces=0↔qgH p.spaces=[]
 fl:∀c ∈ p.filter.calls,0<=c.act∧c.act<=4294967295
 lg:∀c ∈ p.log.calls,0<=c.act∧c.act<=4294967295
end
end Go.Kc
end
section
namespace Go.Kc
variable {P:Program} {f:Nat}
def x8(x:Int×List UInt8×Int):List AV:=[.i .u16 x.1,.s x.2.1,.i .u8 x.2.2]
theorem qfN(x:Int×List UInt8×Int):(x8 x).length=3:=rfl
def jL:List (Int×List UInt8×Int):=[(32,[108,100,97,98,115],1),(128,[108,100,108,101,110],1),(0,[108,100,105],1),(96,[108,100,109],1),(129,[108,100,120,108,101,110],1),(1,[108,100,120,105],1),(97,[108,100,120,109],1),(2,[115,116],2),(3,[115,116,120],2),(4,[97,100,100],3),(20,[115,117,98],3),(36,[109,117,108],3),(52,[100,105,118],3),(68,[111,114],3),(84,[97,110,100],3),(100,[108,115,104],3),(116,[114,115,104],3),(164,[120,111,114],3),(12,[97,100,100,120],3),(28,[115,117,98,120],3),(44,[109,117,108,120],3),(60,[100,105,118,120],3),(76,[111,114,120],3),(92,[97,110,100,120],3),(108,[108,115,104,120],3),(124,[114,115,104,120],3),(172,[120,111,114,120],3),(132,[110,101,103],3),(5,[106,97],4),(21,[106,101,113],4),(37,[106,103,116],4),(53,[106,103,101],4),(69,[106,115,101,116],4),(29,[106,101,113,120],4),(45,[106,103,116,120],4),(61,[106,103,101,120],4),(77,[106,115,101,116,120],4),(6,[114,101,116],5),(22,[114,101,116,97],5),(7,[116,97,120],6),(135,[116,120,97],6)]
def qaV:List (Int×List UInt8×Int):=[(32,[108,100,97,98,115],1),(128,[108,100,108,101,110],1),(0,[108,100,105],1),(96,[108,100,109],1),(129,[108,100,120,108,101,110],1),(1,[108,100,120,105],1),(97,[108,100,120,109],1),(2,[115,116],2),(3,[115,116,120],2),(132,[110,101,103],3),(5,[106,97],4),(6,[114,101,116],5),(22,[114,101,116,97],5),(7,[116,97,120],6),(135,[116,120,97],6),(4,[97,100,100],3),(12,[97,100,100,120],3),(20,[115,117,98],3),(28,[115,117,98,120],3),(36,[109,117,108],3),(44,[109,117,108,120],3),(52,[100,105,118],3),(60,[100,105,118,120],3),(68,[111,114],3),(76,[111,114,120],3),(84,[97,110,100],3),(92,[97,110,100,120],3),(100,[108,115,104],3),(108,[108,115,104,120],3),(116,[114,115,104],3),(124,[114,115,104,120],3),(164,[120,111,114],3),(172,[120,111,114,120],3),(21,[106,101,113],4),(29,[106,101,113,120],4),(37,[106,103,116],4),(45,[106,103,116,120],4),(53,[106,103,101],4),(61,[106,103,101,120],4),(69,[106,115,101,116],4),(77,[106,115,101,116,120],4)]
def zE:List AV:=[.i .u16 0,.s [],.i .u8 0]
def qC(c:Int):Option (Int×List UInt8×Int):=jL.find? fun x=>decide (x.1=c)
def zG:Option (Int×List UInt8×Int)->List AV
 | some x=>x8 x
 | none=>zE
def qn(c:Int):Int:=(qC c).elim 0 fun x=>x.2.2
def z5(c:Int):Bool:=(qC c).isSome
def qe4:IFn:=⟨[.cell 0 123 true],.seq (.r [.q 0 (.alloc [.i .u16 0,.s [],.i .u8 0,.i .u16 0,.s [],.i .u8 0,.i .u16 0,.s [],.i .u8 0,.i .u16 0,.s [],.i .u8 0,.i .u16 0,.s [],.i .u8 0,.i .u16 0,.s [],.i .u8 0,.i .u16 0,.s [],.i .u8 0,.i .u16 0,.s [],.i .u8 0,.i .u16 0,.s [],.i .u8 0,.i .u16 0,.s [],.i .u8 0,.i .u16 0,.s [],.i .u8 0,.i .u16 0,.s [],.i .u8 0,.i .u16 0,.s [],.i .u8 0,.i .u16 0,.s [],.i .u8 0,.i .u16 0,.s [],.i .u8 0,.i .u16 0,.s [],.i .u8 0,.i .u16 0,.s [],.i .u8 0,.i .u16 0,.s [],.i .u8 0,.i .u16 0,.s [],.i .u8 0,.i .u16 0,.s [],.i .u8 0,.i .u16 0,.s [],.i .u8 0,.i .u16 0,.s [],.i .u8 0,.i .u16 0,.s [],.i .u8 0,.i .u16 0,.s [],.i .u8 0,.i .u16 0,.s [],.i .u8 0,.i .u16 0,.s [],.i .u8 0,.i .u16 0,.s [],.i .u8 0,.i .u16 0,.s [],.i .u8 0,.i .u16 0,.s [],.i .u8 0,.i .u16 0,.s [],.i .u8 0,.i .u16 0,.s [],.i .u8 0,.i .u16 0,.s [],.i .u8 0,.i .u16 0,.s [],.i .u8 0,.i .u16 0,.s [],.i .u8 0,.i .u16 0,.s [],.i .u8 0,.i .u16 0,.s [],.i .u8 0,.i .u16 0,.s [],.i .u8 0,.i .u16 0,.s [],.i .u8 0,.i .u16 0,.s [],.i .u8 0,.i .u16 0,.s [],.i .u8 0,.i .u16 0,.s [],.i .u8 0])]) (.seq (.r [.q 1 (.build [.i .u16 0,.s [],.i .u8 0] [(0,1,(.c (.i .u16 32))),(1,1,(.c (.s [108,100,97,98,115]))),(2,1,(.c (.i .u8 1)))]),.q 2 (.build [.i .u16 0,.s [],.i .u8 0] [(0,1,(.c (.i .u16 128))),(1,1,(.c (.s [108,100,108,101,110]))),(2,1,(.c (.i .u8 1)))]),.q 3 (.build [.i .u16 0,.s [],.i .u8 0] [(0,1,(.c (.i .u16 0))),(1,1,(.c (.s [108,100,105]))),(2,1,(.c (.i .u8 1)))]),.q 4 (.build [.i .u16 0,.s [],.i .u8 0] [(0,1,(.c (.i .u16 96))),(1,1,(.c (.s [108,100,109]))),(2,1,(.c (.i .u8 1)))]),.q 5 (.build [.i .u16 0,.s [],.i .u8 0] [(0,1,(.c (.i .u16 129))),(1,1,(.c (.s [108,100,120,108,101,110]))),(2,1,(.c (.i .u8 1)))]),.q 6 (.build [.i .u16 0,.s [],.i .u8 0] [(0,1,(.c (.i .u16 1))),(1,1,(.c (.s [108,100,120,105]))),(2,1,(.c (.i .u8 1)))]),.q 7 (.build [.i .u16 0,.s [],.i .u8 0] [(0,1,(.c (.i .u16 97))),(1,1,(.c (.s [108,100,120,109]))),(2,1,(.c (.i .u8 1)))]),.q 8 (.build [.i .u16 0,.s [],.i .u8 0] [(0,1,(.c (.i .u16 2))),(1,1,(.c (.s [115,116]))),(2,1,(.c (.i .u8 2)))]),.q 9 (.build [.i .u16 0,.s [],.i .u8 0] [(0,1,(.c (.i .u16 3))),(1,1,(.c (.s [115,116,120]))),(2,1,(.c (.i .u8 2)))]),.q 10 (.build [.i .u16 0,.s [],.i .u8 0] [(0,1,(.c (.i .u16 4))),(1,1,(.c (.s [97,100,100]))),(2,1,(.c (.i .u8 3)))]),.q 11 (.build [.i .u16 0,.s [],.i .u8 0] [(0,1,(.c (.i .u16 20))),(1,1,(.c (.s [115,117,98]))),(2,1,(.c (.i .u8 3)))]),.q 12 (.build [.i .u16 0,.s [],.i .u8 0] [(0,1,(.c (.i .u16 36))),(1,1,(.c (.s [109,117,108]))),(2,1,(.c (.i .u8 3)))]),.q 13 (.build [.i .u16 0,.s [],.i .u8 0] [(0,1,(.c (.i .u16 52))),(1,1,(.c (.s [100,105,118]))),(2,1,(.c (.i .u8 3)))]),.q 14 (.build [.i .u16 0,.s [],.i .u8 0] [(0,1,(.c (.i .u16 68))),(1,1,(.c (.s [111,114]))),(2,1,(.c (.i .u8 3)))]),.q 15 (.build [.i .u16 0,.s [],.i .u8 0] [(0,1,(.c (.i .u16 84))),(1,1,(.c (.s [97,110,100]))),(2,1,(.c (.i .u8 3)))]),.q 16 (.build [.i .u16 0,.s [],.i .u8 0] [(0,1,(.c (.i .u16 100))),(1,1,(.c (.s [108,115,104]))),(2,1,(.c (.i .u8 3)))]),.q 17 (.build [.i .u16 0,.s [],.i .u8 0] [(0,1,(.c (.i .u16 116))),(1,1,(.c (.s [114,115,104]))),(2,1,(.c (.i .u8 3)))]),.q 18 (.build [.i .u16 0,.s [],.i .u8 0] [(0,1,(.c (.i .u16 164))),(1,1,(.c (.s [120,111,114]))),(2,1,(.c (.i .u8 3)))]),.q 19 (.build [.i .u16 0,.s [],.i .u8 0] [(0,1,(.c (.i .u16 12))),(1,1,(.c (.s [97,100,100,120]))),(2,1,(.c (.i .u8 3)))]),.q 20 (.build [.i .u16 0,.s [],.i .u8 0] [(0,1,(.c (.i .u16 28))),(1,1,(.c (.s [115,117,98,120]))),(2,1,(.c (.i .u8 3)))]),.q 21 (.build [.i .u16 0,.s [],.i .u8 0] [(0,1,(.c (.i .u16 44))),(1,1,(.c (.s [109,117,108,120]))),(2,1,(.c (.i .u8 3)))]),.q 22 (.build [.i .u16 0,.s [],.i .u8 0] [(0,1,(.c (.i .u16 60))),(1,1,(.c (.s [100,105,118,120]))),(2,1,(.c (.i .u8 3)))]),.q 23 (.build [.i .u16 0,.s [],.i .u8 0] [(0,1,(.c (.i .u16 76))),(1,1,(.c (.s [111,114,120]))),(2,1,(.c (.i .u8 3)))]),.q 24 (.build [.i .u16 0,.s [],.i .u8 0] [(0,1,(.c (.i .u16 92))),(1,1,(.c (.s [97,110,100,120]))),(2,1,(.c (.i .u8 3)))]),.q 25 (.build [.i .u16 0,.s [],.i .u8 0] [(0,1,(.c (.i .u16 108))),(1,1,(.c (.s [108,115,104,120]))),(2,1,(.c (.i .u8 3)))]),.q 26 (.build [.i .u16 0,.s [],.i .u8 0] [(0,1,(.c (.i .u16 124))),(1,1,(.c (.s [114,115,104,120]))),(2,1,(.c (.i .u8 3)))]),.q 27 (.build [.i .u16 0,.s [],.i .u8 0] [(0,1,(.c (.i .u16 172))),(1,1,(.c (.s [120,111,114,120]))),(2,1,(.c (.i .u8 3)))]),.q 28 (.build [.i .u16 0,.s [],.i .u8 0] [(0,1,(.c (.i .u16 132))),(1,1,(.c (.s [110,101,103]))),(2,1,(.c (.i .u8 3)))]),.q 29 (.build [.i .u16 0,.s [],.i .u8 0] [(0,1,(.c (.i .u16 5))),(1,1,(.c (.s [106,97]))),(2,1,(.c (.i .u8 4)))]),.q 30 (.build [.i .u16 0,.s [],.i .u8 0] [(0,1,(.c (.i .u16 21))),(1,1,(.c (.s [106,101,113]))),(2,1,(.c (.i .u8 4)))]),.q 31 (.build [.i .u16 0,.s [],.i .u8 0] [(0,1,(.c (.i .u16 37))),(1,1,(.c (.s [106,103,116]))),(2,1,(.c (.i .u8 4)))]),.q 32 (.build [.i .u16 0,.s [],.i .u8 0] [(0,1,(.c (.i .u16 53))),(1,1,(.c (.s [106,103,101]))),(2,1,(.c (.i .u8 4)))]),.q 33 (.build [.i .u16 0,.s [],.i .u8 0] [(0,1,(.c (.i .u16 69))),(1,1,(.c (.s [106,115,101,116]))),(2,1,(.c (.i .u8 4)))]),.q 34 (.build [.i .u16 0,.s [],.i .u8 0] [(0,1,(.c (.i .u16 29))),(1,1,(.c (.s [106,101,113,120]))),(2,1,(.c (.i .u8 4)))]),.q 35 (.build [.i .u16 0,.s [],.i .u8 0] [(0,1,(.c (.i .u16 45))),(1,1,(.c (.s [106,103,116,120]))),(2,1,(.c (.i .u8 4)))]),.q 36 (.build [.i .u16 0,.s [],.i .u8 0] [(0,1,(.c (.i .u16 61))),(1,1,(.c (.s [106,103,101,120]))),(2,1,(.c (.i .u8 4)))]),.q 37 (.build [.i .u16 0,.s [],.i .u8 0] [(0,1,(.c (.i .u16 77))),(1,1,(.c (.s [106,115,101,116,120]))),(2,1,(.c (.i .u8 4)))]),.q 38 (.build [.i .u16 0,.s [],.i .u8 0] [(0,1,(.c (.i .u16 6))),(1,1,(.c (.s [114,101,116]))),(2,1,(.c (.i .u8 5)))]),.q 39 (.build [.i .u16 0,.s [],.i .u8 0] [(0,1,(.c (.i .u16 22))),(1,1,(.c (.s [114,101,116,97]))),(2,1,(.c (.i .u8 5)))]),.q 40 (.build [.i .u16 0,.s [],.i .u8 0] [(0,1,(.c (.i .u16 7))),(1,1,(.c (.s [116,97,120]))),(2,1,(.c (.i .u8 6)))]),.q 41 (.build [.i .u16 0,.s [],.i .u8 0] [(0,1,(.c (.i .u16 135))),(1,1,(.c (.s [116,120,97]))),(2,1,(.c (.i .u8 6)))]),.q 42 (.build [.i .u16 0,.s [],.i .u8 0,.i .u16 0,.s [],.i .u8 0,.i .u16 0,.s [],.i .u8 0,.i .u16 0,.s [],.i .u8 0,.i .u16 0,.s [],.i .u8 0,.i .u16 0,.s [],.i .u8 0,.i .u16 0,.s [],.i .u8 0,.i .u16 0,.s [],.i .u8 0,.i .u16 0,.s [],.i .u8 0,.i .u16 0,.s [],.i .u8 0,.i .u16 0,.s [],.i .u8 0,.i .u16 0,.s [],.i .u8 0,.i .u16 0,.s [],.i .u8 0,.i .u16 0,.s [],.i .u8 0,.i .u16 0,.s [],.i .u8 0,.i .u16 0,.s [],.i .u8 0,.i .u16 0,.s [],.i .u8 0,.i .u16 0,.s [],.i .u8 0,.i .u16 0,.s [],.i .u8 0,.i .u16 0,.s [],.i .u8 0,.i .u16 0,.s [],.i .u8 0,.i .u16 0,.s [],.i .u8 0,.i .u16 0,.s [],.i .u8 0,.i .u16 0,.s [],.i .u8 0,.i .u16 0,.s [],.i .u8 0,.i .u16 0,.s [],.i .u8 0,.i .u16 0,.s [],.i .u8 0,.i .u16 0,.s [],.i .u8 0,.i .u16 0,.s [],.i .u8 0,.i .u16 0,.s [],.i .u8 0,.i .u16 0,.s [],.i .u8 0,.i .u16 0,.s [],.i .u8 0,.i .u16 0,.s [],.i .u8 0,.i .u16 0,.s [],.i .u8 0,.i .u16 0,.s [],.i .u8 0,.i .u16 0,.s [],.i .u8 0,.i .u16 0,.s [],.i .u8 0,.i .u16 0,.s [],.i .u8 0,.i .u16 0,.s [],.i .u8 0,.i .u16 0,.s [],.i .u8 0,.i .u16 0,.s [],.i .u8 0] [(0,3,(.t 1)),(3,3,(.t 2)),(6,3,(.t 3)),(9,3,(.t 4)),(12,3,(.t 5)),(15,3,(.t 6)),(18,3,(.t 7)),(21,3,(.t 8)),(24,3,(.t 9)),(27,3,(.t 10)),(30,3,(.t 11)),(33,3,(.t 12)),(36,3,(.t 13)),(39,3,(.t 14)),(42,3,(.t 15)),(45,3,(.t 16)),(48,3,(.t 17)),(51,3,(.t 18)),(54,3,(.t 19)),(57,3,(.t 20)),(60,3,(.t 21)),(63,3,(.t 22)),(66,3,(.t 23)),(69,3,(.t 24)),(72,3,(.t 25)),(75,3,(.t 26)),(78,3,(.t 27)),(81,3,(.t 28)),(84,3,(.t 29)),(87,3,(.t 30)),(90,3,(.t 31)),(93,3,(.t 32)),(96,3,(.t 33)),(99,3,(.t 34)),(102,3,(.t 35)),(105,3,(.t 36)),(108,3,(.t 37)),(111,3,(.t 38)),(114,3,(.t 39)),(117,3,(.t 40)),(120,3,(.t 41))]),.u (.store 123 (.t 0) (.t 42))]) (.ret))⟩
set_option maxRecDepth 20000 in
theorem qx3(hc:qd P f qe4=true):qf P f [] (.agg (jL.flatMap x8)):=by
 refine qf.mk hc rfl ?_;simp only[qe4,vI,simprocAttr];simp only[↓vS,vT,simprocAttr,jL,x8,List.flatMap_cons,List.flatMap_nil,vZ]
def qho(a:Nat):IFn:=⟨[.cell 2 3 true,.tmp 3],.seq (.r [.q 2 (.alloc [.i .u16 0,.s [],.i .u8 0]),.m 3 .F]) (.seq (.seq (.r [.l 6 a [],.m 7 (.k 0)]) (.blk 0 (.loop (.seq (.r [.w 8 .lss 7 41]) (.seq (.cond (.t 8) (.skip) (.exit 0)) (.seq (.blk 1 (.seq (.r [.q 9 (.idxA 41 3 true (.t 6) (.t 7)),.q 5 (.alloc [.i .u16 0,.s [],.i .u8 0]),.u (.store 3 (.t 5) (.t 9))]) (.seq (.r [.n 10 0,.v 11 3 5,⟨(some 12),.callV (.t 10) [.t 11],none⟩]) (.cond (.t 12) (.seq (.r [.v 13 3 5,.u (.store 3 (.t 2) (.t 13)),.m 3 .T]) (.ret)) (.skip))))) (.r [.a 14 7 1,.n 7 14]))))))) (.seq (.r [.q 15 (.build [.i .u16 0,.s [],.i .u8 0] []),.u (.store 3 (.t 2) (.t 15)),.m 3 .F]) (.ret)))⟩
theorem qB4{e:Nat}(hc:qd P f (qho e)=true)(he:qf P e [] (.agg (jL.flatMap x8))){g:Nat}{a c:List AV}(ha:qw a=true)(hcc:qw c=true)(p:Int×List UInt8×Int->Bool)(hp:∀x ∈ jL,qf P g (a++([.agg (x8 x)]++c)) (.b (p x))) :
  qf P f [.fn g a c] (.tup [.agg (zG (jL.find? p)),.b (jL.find? p).isSome]):=by
 refine qf.mk hc (by simp[qw,clo,ha,hcc]) ?_;simp only[qho,vI,simprocAttr];simp only[↓vS,vT,simprocAttr];refine he.sc ?_;simp only[↓vS,vT,simprocAttr];have hlen:(jL.flatMap x8).length=123:=by rw[zt (m:=3) qfN];rfl
 have hTc:qw (jL.flatMap x8)=true:=rfl;refine SL.loop (α:=Nat) (fun j=>[(0,.fn g a c),(2,.ptr 0 0),(6,.agg (jL.flatMap x8)),(7,.i .i64 j)]) (fun _=>[.cells 0 true false zE]) (fun j=>j<=41∧jL.find? p=(jL.drop j).find? p) (fun j=>41-j) 0 [0] ?_ ?_ ?_ rfl ?_ ?_
 ·generalize jL.flatMap x8=T at hTc;simp[vw,qc,hTc,ha,hcc]
 ·simp[vw,zE]
 ·simp
 ·exact⟨Nat.zero_le _,rfl⟩
 rintro j ⟨hj,hI⟩ G ih;simp only[vI,simprocAttr]
 by_cases hlt:j<41
 ·have hlt':(j:Int)<41:=by omega
  have hjl:j<jL.length:=hlt;have hx:jL[j]?=some jL[j]:=zzE hjl;have hw:IntKind.wrap .i64 ((j:Int)+1)=((j+1:Nat):Int):=by rw[qm (by omega) (by omega)];omega
  have hel:=zL (f:=x8) (m:=3) qfN hx;have hb:j*3+3<=(jL.flatMap x8).length:=by omega
  have hpx:=hp _ (List.getElem_mem hjl);rw[List.drop_eq_getElem_cons hjl,List.find?_cons] at hI;generalize hc0:jL[j]=x at hel hI hpx;generalize hT:jL.flatMap x8=T at hel hb hlen hTc;simp only[x8] at hpx;simp only[↓vS,vT,simprocAttr,hlt',hlt,hel,hb,x8,zE];refine hpx.sc ?_;cases hs:p x with
  | true =>
   rw[hs] at hI;simp +decide only[↓vS,vT,simprocAttr];rw[hI];simp[vZ,zG,x8]
  | false =>
   rw[hs] at hI;simp +decide only[↓vS,vT,simprocAttr,hw];refine ih (j+1) ⟨hlt,hI⟩ (by omega) _ _ (Wk.mk _ _ [0] ?_ ?_ ?_ rfl)
   ·rw[hT];simp[vw,qc,hTc,ha,hcc]
   ·simp[vw,zE]
   ·simp
 ·have hj':j=41:=by omega
  subst hj';have hlt':¬(((41:Nat):Int)<41):=by decide
  have hI':jL.find? p=none:=hI;clear ih;generalize jL.flatMap x8=T;simp +decide only[↓vS,vT,simprocAttr,hlt',zE];rw[hI'];simp[vZ,zG,zE]
def qhn:IFn:=⟨[.tmp 3],.seq (.r [.q 2 (.box (.t 0)),.m 3 .F]) (.seq (.r [.f 4 0 2,.d 5 4,.d 6 1,.b 7 .eql 5 6,.n 3 7]) (.ret))⟩
theorem qDn(hc:qd P f qhn=true)(x:Int×List UInt8×Int)(n:Int):qf P f [.agg (x8 x),.pf [.i .u16 n] 0] (.b (decide (x.1=n))):=by
 refine qf.mk hc (by simp[qw,clo,x8]) ?_;simp only[qhn,x8,vI,simprocAttr];simp only[↓vS,vT,simprocAttr,vZ]
def qjG(a b:Nat):IFn:=⟨[.cell 2 3 true,.tmp 3],.seq (.r [.q 1 (.box (.t 0)),.q 2 (.alloc [.i .u16 0,.s [],.i .u8 0]),.m 3 .F]) (.seq (.r [.q 4 (.mkF a [] [.t 1]),.l 5 b [.t 4],.x 6 5 0,.x 7 5 1,.u (.store 3 (.t 2) (.t 6)),.n 3 7]) (.ret))⟩
theorem qEn{g1 g2:Nat}(hc:qd P f (qjG g1 g2)=true)(h1:∀x n,qf P g1 [.agg (x8 x),.pf [.i .u16 n] 0] (.b (decide (x.1=n))))(h2:∀(g:Nat) (a c:List AV),qw a=true->qw c=true->∀p:Int×List UInt8×Int->Bool,(∀x ∈ jL,qf P g (a++([.agg (x8 x)]++c)) (.b (p x)))->qf P g2 [.fn g a c] (.tup [.agg (zG (jL.find? p)),.b (jL.find? p).isSome]))(n:Int) :
  qf P f [.i .u16 n] (.tup [.agg (zG (qC n)),.b (z5 n)]):=by
 refine qf.mk hc rfl ?_;have h:=h2 g1 [] [.pf [.i .u16 n] 0] rfl rfl (fun x=>decide (x.1=n)) (fun x _=>h1 x n)
 unfold z5 qC;have hce:qw (zG (jL.find? fun x=>decide (x.1=n)))=true∧(zG (jL.find? fun x=>decide (x.1=n))).length=3:=by cases jL.find? fun x=>decide (x.1=n)<;>exact⟨rfl,rfl⟩
 generalize (jL.find? fun x=>decide (x.1=n))=o at h hce ⊢
 simp only[qjG,vI,simprocAttr];simp only[↓vS,vT,simprocAttr];refine (h.lend (vs':=[.fn g1 [] [.pf [.i .u16 n] 0]]) ?_ ?_ ?_)
 ·simp[vZ,vP,Tr.get_set]
 ·cases o<;>rfl
 cases o with
 | none =>
  simp +decide only[↓vS,vT,simprocAttr,zG,zE];simp[vZ]
 | some x =>
  simp +decide only[↓vS,vT,simprocAttr,zG,x8];simp[vZ]
def qjF(a:Nat):IFn:=⟨[.tmp 2],.seq (.r [.m 2 (.c (.i .u8 0))]) (.seq (.r [.n 6 0,.l 7 a [.t 6],.n 5 7,.x 8 5 0,.x 9 5 1,.q 3 (.alloc [.i .u16 0,.s [],.i .u8 0]),.u (.store 3 (.t 3) (.t 8)),.n 4 9]) (.seq (.r [.f 10 2 3,.d 11 10,.n 2 11]) (.ret)))⟩
theorem qEm{g:Nat}(hc:qd P f (qjF g)=true)(hg:∀n,qf P g [.i .u16 n] (.tup [.agg (zG (qC n)),.b (z5 n)]))(n:Int):qf P f [.i .u16 n] (.i .u8 (qn n)):=by
 refine qf.mk hc rfl ?_;have h:=hg n;unfold z5 at h;simp only[qjF,vI,simprocAttr];simp only[↓vS,vT,simprocAttr];refine h.sc ?_;cases hcn:qC n with
 | none =>
  simp +decide only[↓vS,vT,simprocAttr,zG,zE];simp[vZ,qn,z5,hcn]
 | some x =>
  simp +decide only[↓vS,vT,simprocAttr,zG,x8];simp[vZ,qn,z5,hcn]
theorem qqp(c:Int):(qaV.find? fun x=>decide (x.1=c))=qC c:=by
 unfold qC
 by_cases h:c ∈ jL.map (·.1)
 ·have key:∀c ∈ jL.map (·.1),(qaV.find? fun x=>decide (x.1=c))=jL.find? fun x=>decide (x.1=c):=by decide
  exact key c h
 ·have h2:c ∉ qaV.map (·.1):=by
   have key:∀c ∈ qaV.map (·.1),c ∈ jL.map (·.1):=by decide
   exact fun hh=>h (key c hh)
  rw[List.find?_eq_none.2,List.find?_eq_none.2]
  ·intro x hx;simp only[decide_eq_true_eq];exact fun e=>h (List.mem_map.2 ⟨x,hx,e⟩)
  ·intro x hx;simp only[decide_eq_true_eq];exact fun e=>h2 (List.mem_map.2 ⟨x,hx,e⟩)
def qcx(a:Nat):IFn:=⟨[.cell 2 3 true],.seq (.r [.q 2 (.alloc [.i .u16 0,.s [],.i .u8 0])]) (.seq (.r [.l 5 a [],.n 3 5]) (.seq (.seq (.r [.m 4 (.k 0)]) (.blk 0 (.loop (.seq (.seq (.r [.n 6 4,.n 7 3,.e 8 7,.s 9 6 8]) (.cond (.t 9) (.skip) (.exit 0))) (.seq (.blk 1 (.seq (.r [.n 12 3,.n 13 4,.i 14 3 12 13,.f 15 0 14,.d 16 15,.n 17 0,.b 18 .eql 16 17]) (.cond (.t 18) (.seq (.r [.n 19 3,.n 20 4,.i 21 3 19 20,.v 22 3 21,.u (.store 3 (.t 2) (.t 22))]) (.ret)) (.skip)))) (.r [.n 10 4,.a 11 10 1,.n 4 11])))))) (.seq (.r [.q 23 (.build [.i .u16 0,.s [],.i .u8 0] []),.u (.store 3 (.t 2) (.t 23))]) (.ret))))⟩
theorem qFL{g:Nat}(hc:qd P f (qcx g)=true)(hg:qf P g [] (.fz 41 (qaV.flatMap x8)))(n:Int):qf P f [.i .u16 n] (.agg (zG (qC n))):=by
 refine qf.mk hc rfl ?_;rw[← qqp];simp only[qcx,vI,simprocAttr];simp only[↓vS,vT,simprocAttr];refine hg.sc ?_;simp only[↓vS,vT,simprocAttr];have hlen:(qaV.flatMap x8).length=123:=by rw[zt (m:=3) qfN];rfl
 have hTc:qw (qaV.flatMap x8)=true:=rfl;refine SL.loop (α:=Nat) (fun j=>[(0,.i .u16 n),(2,.ptr 0 0),(3,.fz 41 (qaV.flatMap x8)),(4,.i .i64 j)]) (fun _=>[.cells 0 true false zE]) (fun j=>j<=41∧(qaV.find? fun x=>decide (x.1=n))=(qaV.drop j).find? fun x=>decide (x.1=n)) (fun j=>41-j) 0 [0] ?_ ?_ ?_ rfl ?_ ?_
 ·generalize qaV.flatMap x8=T at hTc;simp[vw,qc,hTc]
 ·simp[vw,zE]
 ·simp
 ·exact⟨Nat.zero_le _,rfl⟩
 rintro j ⟨hj,hI⟩ G ih;simp only[vI,simprocAttr]
 by_cases hlt:j<41
 ·have hlt':(j:Int)<41:=by omega
  have hjl:j<qaV.length:=hlt;have hx:qaV[j]?=some qaV[j]:=zzE hjl;have hw:IntKind.wrap .i64 ((j:Int)+1)=((j+1:Nat):Int):=by rw[qm (by omega) (by omega)];omega
  have hel:=zL (f:=x8) (m:=3) qfN hx;have g0:(qaV.flatMap x8)[j*3]?=some (.i .u16 qaV[j].1):=zZ (f:=x8) (m:=3) qfN hx (i:=0) (by decide);have hb:j*3+3<=(qaV.flatMap x8).length:=by omega
  rw[List.drop_eq_getElem_cons hjl,List.find?_cons] at hI;generalize hc0:qaV[j]=x at hel hI g0;generalize hT:qaV.flatMap x8=T at hel hb hlen hTc g0
  by_cases hs:x.1=n
  ·have hd:decide (x.1=n)=true:=decide_eq_true hs;rw[hd] at hI;simp +decide only[↓vS,vT,simprocAttr,hlt',hlt,g0,hel,hb,x8,zE,hs];rw[hI];simp[vZ,zG,x8,hs]
  ·have hd:decide (x.1=n)=false:=decide_eq_false hs;rw[hd] at hI;simp +decide only[↓vS,vT,simprocAttr,hlt',hlt,g0,hs,hw,zE];refine ih (j+1) ⟨hlt,hI⟩ (by omega) _ _ (Wk.mk _ _ [0] ?_ ?_ ?_ rfl)
   ·rw[hT];simp[vw,qc,hTc]
   ·simp[vw,zE]
   ·simp
 ·have hj':j=41:=by omega
  subst hj';have hlt':¬(((41:Nat):Int)<41):=by decide
  have hI':(qaV.find? fun x=>decide (x.1=n))=none:=hI
  clear ih;generalize qaV.flatMap x8=T;simp +decide only[↓vS,vT,simprocAttr,hlt',zE];rw[hI'];simp[vZ,zG,zE]
end Go.Kc
end
section
namespace Go.Kc
variable {P:Program} {f:Nat}
def leM:List Int->Int
 | []=>0
 | x::l=>x+256*leM l
def qda(b:List Int):Prop:=∀x ∈ b,0<=x∧x<=255
theorem qkY:∀{l:List Int},qda l->0<=leM l∧leM l<256 ^ l.length
 | [],_=>by simp[leM]
 | x::l,h=>by
  have h1:=qkY (l:=l) fun y hy=>h y (by simp[hy])
  have h2:=h x (by simp);simp only[leM,List.length_cons,Int.pow_succ];omega
theorem qmC{b:List Int}(h:qda b)(n:Nat):qda (b.take n):=fun x hx=>h x (List.mem_of_mem_take hx)
theorem qmB{b:List Int}(h:qda b)(n:Nat):qda (b.drop n):=fun x hx=>h x (List.mem_of_mem_drop hx)
def rB(b:List Int):List AV:=rI .u8 b
theorem qjZ(b:List Int):(rB b).length=b.length:=qbO
theorem qaz(b:List Int):qw (rB b)=true:=qf7
theorem qAZ(b:List Int)(j:Nat):(rB b)[j]?=(b[j]?).map (.i .u8):=qh8
def qfg(b:List Int)(at' n:Nat):List Int:=(b.drop at').take n
theorem quu{b:List Int}{at' n:Nat}(h:at'+n<=b.length):(qfg b at' n).length=n:=by unfold qfg;simp;omega
theorem qrt{b:List Int}{at' n:Nat}{c:Int}(h:b[at']?=some c):qfg b at' (n+1)=c::qfg b (at'+1) n:=by
 unfold qfg;obtain⟨hl,rfl⟩:=zzS.1 h;rw[List.drop_eq_getElem_cons hl,List.take_succ_cons]
theorem qxC{b:List Int}(h:qda b)(at' n:Nat):qda (qfg b at' n):=qmC (qmB h at') n
def qvV(b:List Int)(at' n:Nat):AV:=if at'+n<=b.length then .tup [.i .u64 (leM (qfg b at' n)),.b true] else .tup [.i .u64 0,.b false]
def qbZ:IFn:=⟨[.tmp 6,.tmp 7],.seq (.r [.m 6 (.c (.i .u64 0)),.m 7 .F]) (.seq (.seq (.r [.n 10 1,.w 11 .lss 10 0,.n 12 11,.z 13 2 12,.z 14 0 12,.g 15 (.len false (.t 14)) 12 false,.g 16 (.bin .gtr (.t 13) (.t 15)) 12 false,.o 17 12 16,.n 18 17,.z 19 1 18,.z 20 0 18,.g 21 (.len false (.t 20)) 18 false,.z 22 2 18,.g 23 (.bin .sub (.t 21) (.t 22)) 18 false,.g 24 (.bin .gtr (.t 19) (.t 23)) 18 false,.o 25 18 24]) (.cond (.t 25) (.seq (.r [.m 6 (.c (.i .u64 0)),.m 7 .F]) (.ret)) (.skip))) (.seq (.r [.m 8 (.c (.i .u64 0))]) (.seq (.seq (.r [.n 26 2,.w 27 .sub 26 1,.n 9 27]) (.blk 0 (.loop (.seq (.seq (.r [.n 28 9,.w 29 .geq 28 0]) (.cond (.t 29) (.skip) (.exit 0))) (.seq (.blk 1 (.r [.n 32 8,.q 33 (.bin .mul (.t 32) (.c (.i .u64 256))),.n 34 0,.n 35 1,.n 36 9,.b 37 .add 35 36,.i 38 1 34 37,.d 39 38,.q 40 (.cvInt .u64 (.t 39)),.b 41 .add 33 40,.n 8 41])) (.r [.n 30 9,.w 31 .sub 30 1,.n 9 31])))))) (.seq (.r [.n 42 8,.n 6 42,.m 7 .T]) (.ret)))))⟩
theorem qFC(hc:qd P f qbZ=true)(b:List Int)(hb:qda b)(hl:b.length<=1000000)(at':Nat)(ha:at'<=1000000)(n:Nat)(hn8:n<=7):qf P f [.fz b.length (rB b),.i .i64 at',.i .i64 n] (qvV b at' n):=by
 refine qf.mk hc (by simp[qw,clo,qaz]) ?_;have hn:¬(at':Int)<0:=by omega
 have hw0:IntKind.wrap .i64 ((b.length:Int)-(n:Int))=(b.length:Int)-n:=qm (by omega) (by omega);have hw1:IntKind.wrap .i64 ((n:Int)-1)=(n:Int)-1:=qm (by omega) (by omega);unfold qvV;simp only[qbZ,vI,simprocAttr]
 by_cases h:at'+n<=b.length
 ·have h1:¬(b.length:Int)<(n:Int):=by omega
  have h':¬(b.length:Int)-n<(at':Int):=by omega
  rw[if_pos h];simp +decide only[↓vS,vT,simprocAttr,hn,h1,h',hw0,hw1];refine SL.loop (α:=Nat) (fun r=>[(0,.fz b.length (rB b)),(1,.i .i64 at'),(8,.i .u64 (leM (qfg b (at'+r) (n-r)))),(9,.i .i64 ((r:Int)-1))]) (fun _=>[]) (fun r=>r<=n) (fun r=>r) n [] ?_ ?_ ?_ rfl ?_ ?_
  ·simp[vw,qaz,qfg,leM]
  ·trivial
  ·simp
  ·exact Nat.le_refl _
  rintro r hr G ih;simp only[vI,simprocAttr]
  by_cases hr0:r=0
  ·subst hr0;clear ih;simp +decide only[↓vS,vT,simprocAttr];simp[vZ]
  ·obtain⟨j,rfl⟩:∃j,r=j+1:=⟨r-1,by omega⟩
   have hge:(0:Int)<=((j+1:Nat):Int)-1:=by omega
   have hgel:¬((j+1:Nat):Int)-1<0:=by omega
   have hjl:at'+j<b.length:=by omega
   obtain⟨c,hcx⟩:∃c,b[at'+j]?=some c:=⟨_,zzE hjl⟩;have hcb:=hb c (zzM hcx);have hw2:IntKind.wrap .i64 ((at':Int)+(((j+1:Nat):Int)-1))=((at'+j:Nat):Int):=by rw[qm (by omega) (by omega)];omega
   have hw3:IntKind.wrap .i64 ((((j+1:Nat):Int)-1)-1)=(j:Int)-1:=by rw[qm (by omega) (by omega)];omega
   have hp:qfg b (at'+j) (n-j)=c::qfg b (at'+(j+1)) (n-(j+1)):=by
    have:n-j=(n-(j+1))+1:=by omega
    rw[this,qrt hcx];rfl
   have hbd:=qkY (qxC hb (at'+(j+1)) (n-(j+1)));have hsl:(qfg b (at'+(j+1)) (n-(j+1))).length=n-(j+1):=quu (by omega);rw[hsl] at hbd
   have hpw:(256:Int) ^ (n-(j+1))<=256 ^ 6:=by
    have:(256:Nat) ^ (n-(j+1))<=256 ^ 6:=Nat.pow_le_pow_right (by decide) (by omega);have h2:=Int.ofNat_le.2 this;rw[Int.natCast_pow,Int.natCast_pow] at h2;exact h2
   have h6:(256:Int) ^ 6=281474976710656:=by decide
   rw[h6] at hpw;have hx:leM (qfg b (at'+j) (n-j))=leM (qfg b (at'+(j+1)) (n-(j+1)))*256+c:=by rw[hp];simp only[leM];omega
   have ih2:=ih j;rw[hx] at ih2;generalize leM (qfg b (at'+(j+1)) (n-(j+1)))=x at hbd ih2 ⊢;have hw4:IntKind.wrap .u64 (x*256)=x*256:=qaX (by omega) (by omega);have hw5:IntKind.wrap .u64 c=c:=qaX (by omega) (by omega);have hw6:IntKind.wrap .u64 (x*256+c)=x*256+c:=qaX (by omega) (by omega);simp only[↓vS,vT,simprocAttr,hgel,hge,hw2,hjl,Nat.mul_one,qAZ,hcx,Option.map_some,hw3,hw4,hw5,hw6];refine ih2 (by omega) (by omega) _ _ (Wk.mk _ _ [] ?_ ?_ ?_ rfl)
   ·simp[vw,qaz]
   ·trivial
   ·simp
 ·rw[if_neg h]
  by_cases h1:(b.length:Int)<(n:Int)
  ·simp +decide only[↓vS,vT,simprocAttr,hn,h1];simp[vZ]
  ·have h':(b.length:Int)-n<(at':Int):=by omega
   simp +decide only[↓vS,vT,simprocAttr,hn,h1,h',hw0];simp[vZ]
structure Ins where
 code:Int
 jt:Int
 jf:Int
 k:Int
def zy(i:Ins):List AV:=[.i .u16 i.code,.i .u8 i.jt,.i .u8 i.jf,.i .u32 i.k]
theorem xf(i:Ins):(zy i).length=4:=rfl
def qCW(P:Program)(g:Nat):Prop:=∀(b:List Int),qda b->b.length<=1000000->∀at':Nat,at'<=1000000->∀n:Nat,n<=7->qf P g [.fz b.length (rB b),.i .i64 at',.i .i64 n] (qvV b at' n)
theorem getD_some{b:List Int}{j:Nat}(h:j<b.length):b[j]?=some (b.getD j 0):=by
 rw[zzE h,List.getD_eq_getElem?_getD,zzE h];rfl
def rP(p:List Ins):List AV:=p.flatMap zy
theorem qfG(p:List Ins):(rP p).length=p.length*4:=zt xf p
theorem qu(p:List Ins):qw (rP p)=true:=qbg (fun _=>rfl)
theorem qBh{h:Hp}{esz n a c:Nat}{q q2 q3:IntKind}{cs:List AV}{k:AV->Prop}(h1:a<c)(h2:c<=n)(h3:c*esz<=cs.length):slK esz (some (.i q (a:Int))) (some (.i q2 (c:Int))) (some (.i q3 (c:Int))) (.fz n cs) h k↔evA (.fz (c-a) ((cs.drop (a*esz)).take ((c-a)*esz))) k:=by
 have hne:Nat.beq c a=false:=by
  cases hb:Nat.beq c a with
  | false=>rfl
  | true=>have:=Nat.eq_of_beq_eq_true hb;omega
 have e1:a*esz<=cs.length:=Nat.le_trans (Nat.mul_le_mul_right _ (by omega)) h3
 have e2:(c-a)*esz<=(cs.drop (a*esz)).length:=by
  rw[List.length_drop,Nat.sub_mul];omega
 have hac:a<=c:=by omega
 simp only[slK,qiV,qoJ];show (ifK (c<=n) (ifK (c<=c) (ifK (a<=c) _)))↔_;simp only[ifK,h2,hac,Nat.le_refl,true_and,Option.isSome_some,hne,Bool.true_and,Bool.false_eq_true,if_false];show (a*esz<=cs.length∧(c-a)*esz<=(cs.drop (a*esz)).length∧_)↔_;simp only[e1,e2,true_and];exact Iff.rfl
theorem qm6{sz fl:Nat}{tr:Tr Blk}{x:Blk}:Hp.push ⟨sz,fl,tr⟩ x=⟨sz+1,fl,tr.set sz x⟩:=rfl
theorem qlZ{r:Loop}(h:r.state = .ready)(h2:r.pending=none):rdy r=r:=by cases r;simp_all [rdy]
theorem qBL(x:BitVec 16):IntKind.wrap .u16 (x.toNat:Int)=(x.toNat:Int):=by
 have:=x.isLt;show ((x.toNat:Int)) % 65536=_;omega
theorem qpn(x:BitVec 16):BitVec.ofInt 16 (x.toNat:Int)=x:=by simp
theorem qE7(x y:BitVec 16):orI .u16 (x.toNat:Int) (y.toNat:Int)=((x ||| y).toNat:Int):=by
 show IntKind.wrap .u16 ((BitVec.ofInt 16 (x.toNat:Int) ||| BitVec.ofInt 16 (y.toNat:Int)).toNat:Int)=_
 rw[qpn,qpn,qBL]
def cell(k:Int):BitVec 16:=1#16 <<< k.toNat
theorem qDZ{k:Int}(h0:0<=k)(h:k<16):qxp .u16 1 k=((cell k).toNat:Int):=by
 have key:∀n:Fin 16,qxp .u16 1 (n.val:Int)=((cell (n.val:Int)).toNat:Int):=by decide
 have:=key ⟨k.toNat,by omega⟩
 simpa[Int.toNat_of_nonneg h0] using this
structure InsOk (i:Ins):Prop where
 c0:0<=i.code
 c1:i.code<=65535
 t0:0<=i.jt
 t1:i.jt<=255
 f0:0<=i.jf
 f1:i.jf<=255
 k0:0<=i.k
 k1:i.k<=4294967295
def cOf(P:Program)(g:Nat):Prop:=∀n,qf P g [.i .u16 n] (.i .u8 (qn n))
def wrM(i:Ins):BitVec 16:=if qn i.code=2∧i.k<16 then cell i.k else 0#16
def rdM(i:Ins):BitVec 16:=if (i.code=96∨i.code=97)∧i.k<16 then cell i.k else 0#16
def rW(s:List (BitVec 16)):List AV:=s.map fun x=>.i .u16 (x.toNat:Int)
def rTt(r:List Bool):List AV:=r.map .b
theorem qon{s:List (BitVec 16)}:(rW s).length=s.length:=by simp[rW]
theorem qf9{s:List Bool}:(rTt s).length=s.length:=by simp[rTt]
theorem zf{s:List (BitVec 16)}:qw (rW s)=true:=qdd fun _=>rfl
theorem qM{s:List Bool}:qw (rTt s)=true:=qdd fun _=>rfl
theorem qom{s:List (BitVec 16)}{j:Nat}:(rW s)[j]?=(s[j]?).map fun x=>.i .u16 (x.toNat:Int):=by simp[rW]
theorem qbP{s:List Bool}{j:Nat}:(rTt s)[j]?=(s[j]?).map .b:=by simp[rTt]
theorem qpf{α:Type}{F:α->AV}{L:List α}{j:Nat}(h:j<L.length)(x:α):(L.map F).take j++(F x::(L.map F).drop (j+1))=(L.set j x).map F:=by
 rw[← List.map_take,← List.map_drop,← List.map_cons,← List.map_append,List.set_eq_take_append_cons_drop,if_pos h]
theorem qA2{s:List (BitVec 16)}{j:Nat}(h:j<s.length)(x:BitVec 16):(rW s).take j++(.i .u16 (x.toNat:Int)::(rW s).drop (j+1))=rW (s.set j x):=qpf h x
theorem qi9{s:List Bool}{j:Nat}(h:j<s.length)(x:Bool):(rTt s).take j++(.b x::(rTt s).drop (j+1))=rTt (s.set j x):=qpf h x
def qxY(s:List (BitVec 16))(r:List Bool)(j:Nat)(x:BitVec 16):List (BitVec 16):=s.set j (if r.getD j false=true then s.getD j 0 &&& x else x)
def rNt(l:List Nat):List AV:=l.map fun n:Nat=>.i .i64 (n:Int)
theorem qlW{l:List Nat}:(rNt l).length=l.length:=by simp[rNt]
theorem zk{l:List Nat}:qw (rNt l)=true:=qdd fun _=>rfl
theorem qlV{l:List Nat}{j:Nat}:(rNt l)[j]?=(l[j]?).map fun n:Nat=>.i .i64 (n:Int):=by simp[rNt]
theorem qpx{l m:List Nat}:rNt l++rNt m=rNt (l++m):=by simp[rNt]
def qBF(i:Ins)(x:BitVec 16)(at':Nat)(l:List Nat):List Nat:=if rdM i &&& ~~~ x=0#16 then l else l++[at']

def loM(i:Ins):Int:=if i.jf<i.jt then i.jf else i.jt
def hiM(i:Ins):Int:=if i.jt<i.jf then i.jf else i.jt
def qdG(i:Ins)(at':Nat):List Nat :=
 if qn i.code=0∨qn i.code=5 then []
 else if qn i.code=4 then (if i.code=5 then [at'+1+i.k.toNat] else if loM i=hiM i then [at'+1+(loM i).toNat] else [at'+1+(loM i).toNat,at'+1+(hiM i).toNat])
 else [at'+1]
def goM(n:Nat)(x:BitVec 16):List Nat->List (BitVec 16)×List Bool->List (BitVec 16)×List Bool
 | [],st=>st
 | m::L,st=>if m<n then goM n x L (qxY st.1 st.2 m x,st.2.set m true) else st
structure RecOk (P:Program) (r0:Loop) (ps:List Nat) (ai bi:ICode):Prop where
 st:r0.state = .ready
 pd:r0.pending=none
 ok:LoopOk P r0 ps ai bi

abbrev WSt:=List Nat×(List (BitVec 16)×List Bool)
def qma(j:Nat)(st:List (BitVec 16)×List Bool):List (BitVec 16)×List Bool:=if j=0 then (qxY st.1 st.2 0 0#16,st.2.set 0 true) else st
def stM(n j:Nat)(i:Ins)(st:WSt):WSt :=
 if (qma j st.2).2.getD j false=true then (qBF i ((qma j st.2).1.getD j 0#16) j st.1,goM n ((qma j st.2).1.getD j 0#16 ||| wrM i) (qdG i j) (qma j st.2)) else (st.1,qma j st.2)
def wkM(n:Nat):Nat->List Ins->WSt->WSt
 | _,[],st=>st
 | j,i::L,st=>wkM n (j+1) L (stM n j i st)
def qEd(p:List Ins):List Nat:=(wkM p.length 0 p ([],(List.replicate p.length 0#16,List.replicate p.length false))).1
def qjk(i:Ins):Bool:=!z5 i.code
def qaZ(i:Ins):Bool:=decide (i.code=32)&&(decide (i.k % 4≠0)||decide (64<=i.k))
def qcn(i:Ins):Bool:=(decide (i.code=96)||decide (i.code=97)||decide (qn i.code=2))&&decide (16<=i.k)
def qco(i:Ins):Bool:=decide (i.code=52)&&decide (i.k=0)
def qcp(i:Ins):Bool:=(decide (i.code=100)||decide (i.code=116))&&decide (31<i.k)
def qcq(i:Ins)(n:Nat):Bool:=if i.code=5 then decide ((n:Int)<=i.k) else decide (qn i.code=4)&&decide ((n:Int)<=hiM i)
def qgT(i:Ins)(n:Nat):Int:=if qjk i=true then 40 else if qaZ i=true then 41 else if qcn i=true then 43 else if qco i=true then 44 else if qcp i=true then 45 else if qcq i n=true then 42 else 0
def qil(n:Nat):Nat->List Ins->Option (Nat×Int)
 | _,[]=>none
 | j,i::L=>if qgT i (n-1-j)=0 then qil n (j+1) L else some (j,qgT i (n-1-j))
theorem qjl{n j:Nat}{i:Ins}{L:List Ins}:qil n j (i::L)=if qgT i (n-1-j)=0 then qil n (j+1) L else some (j,qgT i (n-1-j)):=rfl
def qkX(p:List Ins):Int:=(p.getD (p.length-1) ⟨0,0,0,0⟩).code
def atU(p:List Ins)(u:List Nat):Nat×Int :=
 if p.length=0∨4096<p.length then (0,60) else (qil p.length 0 p).elim (if qn (qkX p)=5 then (match u with | []=>(0,0)|a::_=>(a,61)) else (p.length-1,46)) id
def qim(P:Program)(g:Nat):Prop:=∀n,qf P g [.i .u16 n] (.agg (zG (qC n)))
def nxE(n a b:Nat):List Nat:=(if a<n then [a] else [])++(if b<n∧b≠a then [b] else [])
def qgS(n:Nat)(i:Ins)(j:Nat):List Nat:=(qdG i j).takeWhile fun m=>decide (m<n)
def zp(a:Nat):ICode:=.seq (.seq (.r [.n 79 5,.n 80 6,.b 81 .gtr 79 80]) (.cond (.t 81) (.r [.n 82 6,.n 83 5,.n 5 82,.n 6 83]) (.skip))) (.seq (.r [.m 7 .N]) (.seq (.seq (.r [.n 84 5,.n 85 0,.e 86 85,.s 87 84 86]) (.cond (.t 87) (.r [.n 88 7,.n 89 5,.q 90 (.buildS 1 [.i .i64 0] [(0,1,(.t 89))]),.q 91 (.app 1 8 true (.t 88) (.t 90)),.n 7 91]) (.skip))) (.seq (.seq (.r [.n 92 6,.n 93 0,.e 94 93,.s 95 92 94,.n 96 95,.y 97 6 96,.y 98 5 96,.g 99 (.bin .neq (.t 97) (.t 98)) 96 true,.p 100 96 99]) (.cond (.t 100) (.r [.n 101 7,.n 102 6,.q 103 (.buildS 1 [.i .i64 0] [(0,1,(.t 102))]),.q 104 (.app 1 8 true (.t 101) (.t 103)),.n 7 104]) (.skip))) (.seq (.r [.n 105 7,.n 4 105]) (.ret)))))
def qbF(a:Nat):IFn:=⟨[.tmp 4],.seq (.r [.m 4 .N]) (.seq (.seq (.r [.n 8 1,.w 9 .lss 8 0,.n 10 9,.z 11 1 10,.z 12 0 10,.g 13 (.len false (.t 12)) 10 false,.g 14 (.bin .geq (.t 11) (.t 13)) 10 false,.o 15 10 14,.n 16 15,.z 17 0 16,.g 18 (.len false (.t 17)) 16 false,.g 19 (.bin .gtr (.t 18) (.k 4096)) 16 false,.o 20 16 19]) (.cond (.t 20) (.seq (.r [.m 4 .N]) (.ret)) (.skip))) (.seq (.r [.n 21 1,.a 22 21 1,.n 23 1,.a 24 23 1,.n 5 22,.n 6 24]) (.seq (.seq (.r [.n 25 0,.n 26 1,.i 27 4 25 26,.f 28 0 27,.d 29 28,.l 30 a [.t 29],.q 31 (.fld 2 none (.t 30))]) (.blk 0 (.seq (.seq (.r [.q 33 (.bin .eql (.t 31) (.c (.i .u8 0))),.n 32 33]) (.cond (.t 32) (.skip) (.r [.q 34 (.bin .eql (.t 31) (.c (.i .u8 5))),.n 32 34]))) (.cond (.t 32) (.seq (.r [.m 4 .N]) (.ret)) (.seq (.r [.q 36 (.bin .eql (.t 31) (.c (.i .u8 4))),.n 35 36]) (.cond (.t 35) (.seq (.reg true [.n 37 1,.a 38 37 1,.n 39 0,.n 40 1,.i 41 4 39 40,.f 42 1 41,.d 43 42,.q 44 (.cvInt .i64 (.t 43)),.b 45 .add 38 44,.n 46 1,.a 47 46 1,.n 48 0,.n 49 1,.i 50 4 48 49,.f 51 2 50,.d 52 51,.q 53 (.cvInt .i64 (.t 52)),.b 54 .add 47 53,.n 5 45,.n 6 54]) (.seq (.r [.n 55 0,.n 56 1,.i 57 4 55 56,.f 58 0 57,.d 59 58,.q 60 (.bin .eql (.t 59) (.c (.i .u16 5)))]) (.cond (.t 60) (.reg true [.n 61 1,.a 62 61 1,.n 63 0,.n 64 1,.i 65 4 63 64,.f 66 3 65,.d 67 66,.q 68 (.cvInt .i64 (.t 67)),.b 69 .add 62 68,.n 70 1,.a 71 70 1,.n 72 0,.n 73 1,.i 74 4 72 73,.f 75 3 74,.d 76 75,.q 77 (.cvInt .i64 (.t 76)),.b 78 .add 71 77,.n 5 69,.n 6 78]) (.skip)))) (.skip))))))) (.cut (zp a)))))⟩
theorem qwr(g:Nat)(n:Nat)(p:List AV)(hp:qw p=true)(a b:Nat)(hn:n<=4096){t':Tr AV}{h':Hp}(hw:Wk 0 t' h' (mkT [(0,.fz n p),(5,.i .i64 (a:Int)),(6,.i .i64 (b:Int))]) (mkH 0 [])) :
  S P 0 (zp g) (qb9 [.tmp 4] fun v' h'=>Frz h' v' (.fz (nxE n (min a b) (max a b)).length (rNt (nxE n (min a b) (max a b))))) t' h':=by
 refine S.weak hw (ql ?_)
 have main:∀x y:Nat,x<=y->min a b=x->max a b=y->(a=x∧b=y∨a=y∧b=x∧x<y)->V P 0 (zp g) (qb9 [.tmp 4] fun v' h'=>Frz h' v' (.fz (nxE n x y).length (rNt (nxE n x y)))) (mkT [(0,.fz n p),(5,.i .i64 (a:Int)),(6,.i .i64 (b:Int))]) (mkH 0 []):=by
  intro x y hxy _ _ hab;have hr:1<=qh:=by decide
  have hr1:8<=qh:=by decide
  have hr2:2<=qh:=by decide
  have hr3:16<=qh:=by decide
  unfold nxE;simp only[zp,vI,simprocAttr];rcases hab with⟨rfl,rfl⟩|⟨rfl,rfl,hlt⟩
  ·have h1:¬(b:Int)<(a:Int):=by omega
   by_cases ha:a<n
   ·by_cases hb:b<n
    ·by_cases he:b=a
     ·have he':(b:Int)=a:=by omega
      simp +decide only[↓vS,vT,simprocAttr,h1,ha,hb,he',he];simp[vZ,vP,Tr.get_set,rNt]
     ·have he':¬(b:Int)=a:=by omega
      simp +decide only[↓vS,vT,simprocAttr,h1,ha,hb,he',he];simp[vZ,vP,Tr.get_set,rNt,he]
    ·simp +decide only[↓vS,vT,simprocAttr,h1,ha,hb];simp[vZ,vP,Tr.get_set,rNt]
   ·have hb:¬b<n:=by omega
    simp +decide only[↓vS,vT,simprocAttr,h1,ha,hb];simp[vZ,vP,Tr.get_set,rNt]
  ·have h1:(a:Int)<(b:Int)∨(b:Int)<(a:Int):=by omega
   have h1:(b:Int)<(a:Int):=by omega
   have he:¬a=b:=by omega
   have he':¬(a:Int)=b:=by omega
   by_cases ha:b<n
   ·by_cases hb:a<n
    ·simp +decide only[↓vS,vT,simprocAttr,h1,ha,hb,he',he];simp[vZ,vP,Tr.get_set,rNt,he]
    ·simp +decide only[↓vS,vT,simprocAttr,h1,ha,hb];simp[vZ,vP,Tr.get_set,rNt]
   ·have hb:¬a<n:=by omega
    simp +decide only[↓vS,vT,simprocAttr,h1,ha,hb];simp[vZ,vP,Tr.get_set,rNt]
 rcases Nat.lt_or_ge b a with h|h
 ·rw[Nat.min_eq_right (by omega),Nat.max_eq_left (by omega)];exact main b a (by omega) (by omega) (by omega) (.inr ⟨rfl,rfl,h⟩)
 ·rw[Nat.min_eq_left h,Nat.max_eq_right h];exact main a b h (by omega) (by omega) (.inl ⟨rfl,rfl⟩)
theorem qjT{n a b:Nat}(h:a<=b):nxE n a b=(if a=b then [a] else [a,b]).takeWhile fun m=>decide (m<n):=by
 unfold nxE
 by_cases he:a=b
 ·subst he
  by_cases ha:a<n<;>simp[ha,List.takeWhile]
 ·rw[if_neg he]
  by_cases ha:a<n
  ·by_cases hb:b<n
   ·simp[ha,hb,List.takeWhile,Ne.symm he]
   ·simp[ha,hb,List.takeWhile]
  ·have hb:¬b<n:=by omega
   simp[ha,hb,List.takeWhile]
theorem qE2{g:Nat}(hc:qd P f (qbF g)=true)(hg:qim P g)(p:List Ins)(hp:p.length<=4096)(j:Nat)(i:Ins)(hj:p[j]?=some i)(hi:InsOk i) :
  qf P f [.fz p.length (rP p),.i .i64 (j:Int)] (.fz (qgS p.length i j).length (rNt (qgS p.length i j))):=by
 refine qf.mk hc (by simp[qw,clo,qu]) ?_;have hlt:j<p.length:=(zzS.1 hj).1;have hz:¬(j:Int)<0:=by omega
 have hz2:¬(p.length:Int)<=(j:Int):=by omega
 have hz3:¬(4096:Int)<(p.length:Int):=by omega
 have hj1:IntKind.wrap .i64 ((j:Int)+1)=((j+1:Nat):Int):=by rw[qm (by omega) (by omega)];omega
 have hjj:∀a:Int,0<=a->a<=4294967295->IntKind.wrap .i64 (((j+1:Nat):Int)+IntKind.wrap .i64 a)=((j+1+a.toNat:Nat):Int):=by
  intro a h1 h2;rw[qm (x:=a) (by omega) (by omega),qm (by omega) (by omega)];omega
 have hk:=hjj i.k hi.k0 hi.k1;have ht:=hjj i.jt hi.t0 (by have:=hi.t1;omega)
 have hf:=hjj i.jf hi.f0 (by have:=hi.f1;omega)
 have g0:=zZ (f:=zy) (m:=4) xf hj (i:=0) (by omega);have g1:=zZ (f:=zy) (m:=4) xf hj (i:=1) (by omega);have g2:=zZ (f:=zy) (m:=4) xf hj (i:=2) (by omega);have g3:=zZ (f:=zy) (m:=4) xf hj (i:=3) (by omega);rw[show p.flatMap zy=rP p from rfl] at g0 g1 g2 g3
 simp only[zy,Nat.add_zero,List.getElem?_cons_zero,List.getElem?_cons_succ] at g0 g1 g2 g3;have hn0:nxE p.length (j+1) (j+1)=[j+1].takeWhile fun m=>decide (m<p.length):=by rw[qjT (Nat.le_refl _),if_pos rfl]
 have hcl:(zG (qC i.code)).length=3∧(zG (qC i.code))[2]?=some (.i .u8 (qn i.code))∧qw (zG (qC i.code))=true:=by
  unfold qn;cases qC i.code<;>exact⟨rfl,rfl,rfl⟩
 have hgc:=hg i.code;generalize zG (qC i.code)=E at hcl hgc;obtain⟨he1,he2,he3⟩:=hcl;unfold qgS;simp only[qbF,vI,simprocAttr];simp +decide only[↓vS,vT,simprocAttr,hz,hz2,hz3,hj1,hlt,g0];refine hgc.sc ?_;simp +decide only[↓vS,vT,simprocAttr,he2]
 have hend:∀(a b:Nat) {t':Tr AV} {h':Hp},nxE p.length (min a b) (max a b)=(qdG i j).takeWhile (fun m=>decide (m<p.length))->Wk 0 t' h' (mkT [(0,.fz p.length (rP p)),(5,.i .i64 (a:Int)),(6,.i .i64 (b:Int))]) (mkH 0 [])->
   S P 0 (zp g) (qb9 [.tmp 4] fun v' h'=>Frz h' v' (.fz ((qdG i j).takeWhile (fun m=>decide (m<p.length))).length (rNt ((qdG i j).takeWhile (fun m=>decide (m<p.length)))))) t' h':=by
  intro a b t' h' hE hw;rw[← hE];exact qwr g p.length (rP p) (qu p) a b hp hw
 by_cases hA:qn i.code=0∨qn i.code=5
 ·have hwl:qdG i j=[]:=by unfold qdG;rw[if_pos hA]
  rw[hwl]
  rcases hA with hA|hA<;>(
   simp +decide only[↓vS,vT,simprocAttr,hA];simp[vZ,List.takeWhile,rNt])
 have h0:¬qn i.code=0:=fun h=>hA (.inl h)
 have h5:¬qn i.code=5:=fun h=>hA (.inr h)
 by_cases h4:qn i.code=4
 ·simp +decide only[↓vS,vT,simprocAttr,h4];refine zg ?_;simp +decide only[↓vS,vT,simprocAttr,hlt,g0,g1,g2,hj1]
  by_cases hja:i.code=5
  ·have hwl:qdG i j=[j+1+i.k.toNat]:=by unfold qdG;rw[if_neg hA,if_pos h4,if_pos hja]
   rw[if_pos hja];refine zg ?_;simp +decide only[↓vS,vT,simprocAttr,hlt,g3,hj1];refine hend (j+1+i.k.toNat) (j+1+i.k.toNat) ?_ (Wk.mk _ _ [] ?_ ?_ ?_ rfl)
   ·rw[hwl,Nat.min_self,Nat.max_self,qjT (Nat.le_refl _),if_pos rfl]
   ·simp[vw,qu];simpa using hk
   ·trivial
   ·simp
  ·rw[if_neg hja];refine hend (j+1+i.jt.toNat) (j+1+i.jf.toNat) ?_ (Wk.mk _ _ [] ?_ ?_ ?_ rfl)
   ·have:=hi.t0;have:=hi.f0
    have e1:min (j+1+i.jt.toNat) (j+1+i.jf.toNat)=j+1+(loM i).toNat:=by unfold loM;split<;>omega
    have e2:max (j+1+i.jt.toNat) (j+1+i.jf.toNat)=j+1+(hiM i).toNat:=by unfold hiM;split<;>omega
    have e0:(loM i).toNat<=(hiM i).toNat:=by unfold loM hiM;split<;>split<;>omega
    have e3:0<=loM i∧0<=hiM i:=by unfold loM hiM;constructor<;>split<;>omega
    rw[e1,e2,qjT (by omega)];unfold qdG;rw[if_neg hA,if_pos h4,if_neg hja]
    by_cases he:loM i=hiM i
    ·rw[if_pos he,if_pos (by rw[he])]
    ·rw[if_neg he,if_neg (by omega)]
   ·simp[vw,qu];exact⟨by simpa using ht,by simpa using hf⟩
   ·trivial
   ·simp
 ·have hwl:qdG i j=[j+1]:=by unfold qdG;rw[if_neg hA,if_neg h4]
  simp +decide only[↓vS,vT,simprocAttr,h0,h4,h5];refine hend (j+1) (j+1) ?_ (Wk.mk _ _ [] ?_ ?_ ?_ rfl)
  ·rw[hwl,Nat.min_self,Nat.max_self];exact hn0
  ·simp[vw,qu,hj1]
  ·trivial
  ·simp
def mkL(L:List Nat)(r:List Bool):List Bool:=L.foldl (fun r m=>r.set m true) r
theorem qf2:∀{L:List Nat} {r:List Bool},(mkL L r).length=r.length
 | [],_=>rfl
 | m::L,r=>by show (mkL L (r.set m true)).length=_;rw[qf2];simp
theorem qnq{m:Nat}{L:List Nat}{r:List Bool}:mkL (m::L) r=mkL L (r.set m true):=rfl
theorem qpm{n j:Nat}{i:Ins}:∀m ∈ qgS n i j,m<n:=fun m hm=>by
 unfold qgS at hm
 have key:∀l:List Nat,m ∈ l.takeWhile (fun m=>decide (m<n))->m<n:=by
  intro l
  induction l with
  | nil=>intro h;cases h
  | cons a l ih =>
   intro h;rw[List.takeWhile_cons] at h;split at h
   ·rename_i ha;rcases List.mem_cons.1 h with rfl|h
    ·exact of_decide_eq_true ha
    ·exact ih h
   ·cases h
 exact key _ hm
theorem qoA{j:Nat}{i:Ins}:(qdG i j).length<=2:=by
 unfold qdG;split
 ·simp
 split
 ·split
  ·simp
  split<;>simp
 simp
theorem qk6{n j:Nat}{i:Ins}:(qgS n i j).length<=2:=Nat.le_trans (List.takeWhile_sublist _).length_le qoA
def qhE(n:Nat):Nat->List Ins->List Bool->List Bool
 | _,[],r=>r
 | j,i::L,r=>qhE n (j+1) L (if r.getD j false=true then mkL (qgS n i j) r else r)
def st0(n:Nat):List Bool:=(List.replicate n false).set 0 true
theorem qpE(n:Nat):(List.replicate n [AV.b false]).flatten=rTt (List.replicate n false):=by
 induction n with
 | zero=>rfl
 | succ n ih=>rw[List.replicate_succ,List.replicate_succ,List.flatten_cons,ih];rfl
theorem qDY(n:Nat):(List.replicate n [AV.i .u16 0]).flatten=rW (List.replicate n 0#16):=by
 induction n with
 | zero=>rfl
 | succ n ih=>rw[List.replicate_succ,List.replicate_succ,List.flatten_cons,ih];rfl
def qoN(P:Program)(g:Nat):Prop:=∀p:List Ins,p.length<=4096->∀(j:Nat) (i:Ins),p[j]?=some i->InsOk i->qf P g [.fz p.length (rP p),.i .i64 (j:Int)] (.fz (qgS p.length i j).length (rNt (qgS p.length i j)))
def xa(a:Nat):ICode:=.seq (.seq (.r [.m 4 (.k 0)]) (.blk 0 (.loop (.seq (.seq (.r [.n 18 4,.n 19 0,.e 20 19,.s 21 18 20]) (.cond (.t 21) (.skip) (.exit 0))) (.seq (.blk 1 (.seq (.seq (.r [.n 24 3,.n 25 4,.i 26 1 24 25,.d 27 26,.q 28 (.un .not (.t 27))]) (.cond (.t 28) (.exit 1) (.skip))) (.seq (.r [.n 29 0,.n 30 4,.l 31 a [.t 29,.t 30],.n 5 31]) (.seq (.r [.m 6 (.k 0)]) (.blk 2 (.loop (.seq (.seq (.r [.n 32 6,.n 33 5,.e 34 33,.s 35 32 34]) (.cond (.t 35) (.skip) (.exit 2))) (.seq (.blk 3 (.r [.n 38 3,.n 39 5,.n 40 6,.i 41 1 39 40,.d 42 41,.i 43 1 38 42,.u (.store 1 (.t 43) .T)])) (.r [.n 36 6,.a 37 36 1,.n 6 37]))))))))) (.r [.n 22 4,.a 23 22 1,.n 4 23])))))) (.seq (.r [.n 44 3,.n 2 44]) (.ret))
def qaE(a:Nat):IFn:=⟨[.tmp 2],.seq (.r [.m 2 .N]) (.seq (.seq (.r [.n 7 0,.e 8 7,.w 9 .gtr 8 4096]) (.cond (.t 9) (.seq (.r [.m 2 .N]) (.ret)) (.skip))) (.seq (.r [.n 10 0,.e 11 10,.q 12 (.mkS 1 1 [.b false] (.t 11) (.t 11)),.n 3 12]) (.seq (.seq (.r [.n 13 0,.e 14 13,.w 15 .gtr 14 0]) (.cond (.t 15) (.r [.n 16 3,.q 17 (.iAddrS 1 (.t 16) (.k 0)),.u (.store 1 (.t 17) .T)]) (.skip))) (.cut (xa a)))))⟩
theorem qj0{g:Nat}(hg:qoN P g)(p:List Ins)(hp:p.length<=4096)(hi:∀i ∈ p,InsOk i)(r0:List Bool)(hr0:r0.length=p.length)
  {t':Tr AV} {h':Hp} (hw:Wk 0 t' h' (mkT [(0,.fz p.length (rP p)),(3,.sl 0 0 p.length p.length false)]) (mkH 0 [.cells 0 true false (rTt r0)])) :
  S P 0 (xa g) (qb9 [.tmp 2] fun v' h'=>Frz h' v' (.fz p.length (rTt (qhE p.length 0 p r0)))) t' h':=by
 refine S.weak hw (ql ?_);simp only[xa,vI,simprocAttr];simp +decide only[↓vS,vT,simprocAttr]
 refine SL.loop (α:=Nat×List Bool) (fun a=>[(0,.fz p.length (rP p)),(3,.sl 0 0 p.length p.length false),(4,.i .i64 (a.1:Int))]) (fun a=>[.cells 0 true false (rTt a.2)])
  (fun a=>a.1<=p.length∧a.2.length=p.length∧qhE p.length a.1 (p.drop a.1) a.2=qhE p.length 0 p r0) (fun a=>p.length-a.1) (0,r0) [0] ?_ ?_ ?_ rfl ?_ ?_
 ·simp[vw,qu]
 ·simp[vw,qc,qM]
 ·simp
 ·exact⟨Nat.zero_le _,hr0,rfl⟩
 rintro⟨j,r⟩ ⟨hj,hlr,hI⟩ G ih;simp only at hj hlr hI;simp only[vI,simprocAttr]
 by_cases hlt:j<p.length
 ·obtain⟨i,hpi⟩:∃i,p[j]?=some i:=⟨_,zzE hlt⟩;have hii:=hi i (zzM hpi)
  have hdr:p.drop j=i::p.drop (j+1):=by
   obtain⟨hh,he⟩:=zzS.1 hpi;rw[List.drop_eq_getElem_cons hh,he]
  obtain⟨b,hb⟩:∃b,r[j]?=some b:=⟨_,zzE (by omega)⟩;have hI2:qhE p.length (j+1) (p.drop (j+1)) (if r.getD j false=true then mkL (qgS p.length i j) r else r)=qhE p.length 0 p r0:=by rw[← hI,hdr];rfl
  rw[List.getD_eq_getElem?_getD,hb,Option.getD_some] at hI2;have hw1:IntKind.wrap .i64 ((j:Int)+1)=((j+1:Nat):Int):=by rw[qm (by omega) (by omega)];omega
  cases b with
  | false =>
   rw[if_neg (by simp)] at hI2;simp +decide only[↓vS,vT,simprocAttr,hlt,Nat.mul_one,qbP,hb,Option.map_some,hw1];refine ih (j+1,r) ⟨hlt,hlr,hI2⟩ (by simp only;omega) _ _ (Wk.mk _ _ [0] ?_ ?_ ?_ rfl)
   ·simp[vw,qu]
   ·simp[vw,qc,qM]
   ·simp
  | true =>
   rw[if_pos rfl] at hI2;simp +decide only[↓vS,vT,simprocAttr,hlt,Nat.mul_one,qbP,hb,Option.map_some];refine (hg p hp j i hpi hii).sc ?_;have hLlt:=qpm (n:=p.length) (j:=j) (i:=i);have hL2:=qk6 (n:=p.length) (j:=j) (i:=i);generalize qgS p.length i j=L at hI2 hLlt hL2;simp +decide only[↓vS,vT,simprocAttr]
   refine SL.loop (α:=Nat×List Bool) (fun a=>[(0,.fz p.length (rP p)),(3,.sl 0 0 p.length p.length false),(4,.i .i64 (j:Int)),(5,.fz L.length (rNt L)),(6,.i .i64 (a.1:Int))]) (fun a=>[.cells 0 true false (rTt a.2)])
    (fun a=>a.1<=L.length∧a.2.length=p.length∧mkL (L.drop a.1) a.2=mkL L r) (fun a=>L.length-a.1) (0,r) [0] ?_ ?_ ?_ rfl ?_ ?_
   ·simp[vw,qu,zk]
   ·simp[vw,qc,qM]
   ·simp
   ·exact⟨Nat.zero_le _,hlr,rfl⟩
   rintro⟨k,r2⟩ ⟨hk,hlr2,hJ⟩ G2 ih2;simp only at hk hlr2 hJ;simp only[vI,simprocAttr]
   by_cases hkl:k<L.length
   ·obtain⟨m,hm⟩:∃m,L[k]?=some m:=⟨_,zzE hkl⟩;have hml:=hLlt m (zzM hm)
    have hdk:L.drop k=m::L.drop (k+1):=by
     obtain⟨hh,he⟩:=zzS.1 hm;rw[List.drop_eq_getElem_cons hh,he]
    rw[hdk,qnq] at hJ
    have hw2:IntKind.wrap .i64 ((k:Int)+1)=((k+1:Nat):Int):=by
     rw[qm (by omega) (by omega)];omega
    have hs0:m+1<=(rTt r2).length:=by rw[qf9];omega
    have hs1:=qi9 (s:=r2) (j:=m) (by omega) true;simp +decide only[↓vS,vT,simprocAttr,hkl,Nat.mul_one,qlV,hm,Option.map_some,hml,hs0,hs1,hw2];refine ih2 (k+1,r2.set m true) ⟨hkl,by simp[hlr2],hJ⟩ (by simp only;omega) _ _ (Wk.mk _ _ [0] ?_ ?_ ?_ rfl)
    ·simp[vw,qu,zk]
    ·simp[vw,qc,qM]
    ·simp
   ·obtain rfl:k=L.length:=by omega
    rw[List.drop_length] at hJ;have hJ:r2=mkL L r:=hJ;simp +decide only[↓vS,vT,simprocAttr,hkl,hw1];refine ih (j+1,r2) ⟨hlt,hlr2,by rw[hJ];exact hI2⟩ (by simp only;omega) _ _ (Wk.mk _ _ [0] ?_ ?_ ?_ rfl)
    ·simp[vw,qu]
    ·simp[vw,qc,qM]
    ·simp
 ·obtain rfl:j=p.length:=by omega
  rw[List.drop_length] at hI;have hI:r=qhE p.length 0 p r0:=hI;rw[← hI];simp +decide only[↓vS,vT,simprocAttr,hlt];refine Frz.cut 1 rfl (Nat.le_refl _) ?_;have ht:(rTt r).take p.length=rTt r:=List.take_of_length_le (by rw[qf9];omega);simp[vZ,vP,Tr.get_set,qQ qM,ht,qf9,hlr]
theorem qxc{g:Nat}(hc:qd P f (qaE g)=true)(hg:qoN P g)(p:List Ins)(hp:p.length<=4096)(hi:∀i ∈ p,InsOk i):qf P f [.fz p.length (rP p)] (.fz p.length (rTt (qhE p.length 0 p (st0 p.length)))):=by
 refine qf.mk hc (by simp[qw,clo,qu]) ?_;have hz3:¬(4096:Int)<(p.length:Int):=by omega
 have hr1:p.length<=qh:=by simp only[qh];omega
 have hr3:1*p.length<=qh:=by simp only[qh];omega
 simp only[qaE,vI,simprocAttr]
 by_cases h0:p.length=0
 ·have h0':¬(0:Int)<(p.length:Int):=by omega
  have hst:st0 p.length=List.replicate p.length false:=by unfold st0;rw[h0];rfl
  rw[hst];simp +decide only[↓vS,vT,simprocAttr,hz3,hr1,hr3,qpE,h0'];refine qj0 hg p hp hi (List.replicate p.length false) (by simp) (Wk.mk _ _ [0] ?_ ?_ ?_ rfl)
  ·simp[vw,qu]
  ·simp[vw,qc,qM]
  ·simp
 ·have h0':(0:Int)<(p.length:Int):=by omega
  have h0n:0<p.length:=by omega
  have hs0:1<=(rTt (List.replicate p.length false)).length:=by rw[qf9];simp;omega
  have hs1:AV.b true::List.drop 1 (rTt (List.replicate p.length false))=rTt (st0 p.length):=qi9 (s:=List.replicate p.length false) (j:=0) (by simp;omega) true;simp +decide only[↓vS,vT,simprocAttr,hz3,hr1,hr3,qpE,h0',h0n,hs0,hs1];refine qj0 hg p hp hi (st0 p.length) (by simp[st0]) (Wk.mk _ _ [0] ?_ ?_ ?_ rfl)
  ·simp[vw,qu]
  ·simp[vw,qc,qM]
  ·simp
def wrC(i:Ins)(c:Nat):Bool:=(decide (i.code=2)||decide (i.code=3))&&decide (i.k=(c:Int))
def stS(n c j:Nat)(i:Ins)(st:List Bool×List (BitVec 16)):List Bool×List (BitVec 16) :=
 if st.1.getD j false=false then (st.1,st.2.set j (st.2.getD j 0#16 ||| cell c)) else if wrC i c=true then st else (mkL (qgS n i j) st.1,st.2)
def qgk(n c:Nat):Nat->List Ins->List Bool×List (BitVec 16)->List Bool×List (BitVec 16)
 | _,[],st=>st
 | j,i::L,st=>qgk n c (j+1) L (stS n c j i st)
theorem qxx{n c j:Nat}{i:Ins}{st:List Bool×List (BitVec 16)}:(stS n c j i st).1.length=st.1.length∧(stS n c j i st).2.length=st.2.length:=by
 unfold stS;split
 ·simp
 split<;>simp[qf2]
theorem qkd{n c:Nat}:∀{L:List Ins} {j:Nat} {st:List Bool×List (BitVec 16)},(qgk n c j L st).1.length=st.1.length∧(qgk n c j L st).2.length=st.2.length
 | [],_,_=>⟨rfl,rfl⟩
 | i::L,j,st=>by
  show (qgk n c (j+1) L (stS n c j i st)).1.length=_∧(qgk n c (j+1) L (stS n c j i st)).2.length=_;have h1:=qkd (n:=n) (c:=c) (L:=L) (j:=j+1) (st:=stS n c j i st);have h2:=qxx (n:=n) (c:=c) (j:=j) (i:=i) (st:=st);exact⟨h1.1.trans h2.1,h1.2.trans h2.2⟩
def qru(p:List Ins):Nat->List (BitVec 16)->List (BitVec 16)
 | 0,out=>out
 | k+1,out=>qru p k (qgk p.length (16-(k+1)) 0 p (st0 p.length,out)).2
def qmd(p:List Ins):List (BitVec 16):=qru p 16 (List.replicate p.length 0#16)
def xC(a:Nat):ICode:=.r [.n 17 4,.a 18 17 1,.n 4 18]
def xD(a:Nat):ICode:=.r [.n 31 6,.a 32 31 1,.n 6 32]
def xE(a:Nat):ICode:=.seq (.r [.n 72 0,.n 73 6,.l 74 a [.t 72,.t 73],.n 7 74]) (.seq (.r [.m 8 (.k 0)]) (.blk 4 (.loop (.seq (.seq (.r [.n 75 8,.n 76 7,.e 77 76,.s 78 75 77]) (.cond (.t 78) (.skip) (.exit 4))) (.seq (.blk 5 (.r [.n 81 5,.n 82 7,.n 83 8,.i 84 1 82 83,.d 85 84,.i 86 1 81 85,.u (.store 1 (.t 86) .T)])) (.r [.n 79 8,.a 80 79 1,.n 8 80]))))))
def xN(a:Nat):ICode:=.seq (.r [.m 6 (.k 0)]) (.blk 2 (.loop (.seq (.seq (.r [.n 27 6,.n 28 0,.e 29 28,.s 30 27 29]) (.cond (.t 30) (.skip) (.exit 2))) (.seq (.blk 3 (.seq (.seq (.r [.n 33 5,.n 34 6,.i 35 1 33 34,.d 36 35,.q 37 (.un .not (.t 36))]) (.cond (.t 37) (.seq (.reg true [.n 38 3,.n 39 6,.n 40 3,.n 41 6,.i 42 1 40 41,.d 43 42,.n 44 4,.q 45 (.bin .shl (.c (.i .u16 1)) (.t 44)),.b 46 .or 43 45,.i 47 1 38 39,.u (.store 1 (.t 47) (.t 46))]) (.exit 3)) (.skip))) (.seq (.seq (.r [.n 48 0,.n 49 6,.i 50 4 48 49,.f 51 0 50,.d 52 51,.q 53 (.bin .eql (.t 52) (.c (.i .u16 2))),.n 54 53,.z 55 0 54,.z 56 6 54,.g 57 (.iAddrS 4 (.t 55) (.t 56)) 54 false,.h 58 0 57 54 false,.j 59 58 54 false,.g 60 (.bin .eql (.t 59) (.c (.i .u16 3))) 54 false,.o 61 54 60,.n 62 61,.y 63 0 62,.y 64 6 62,.g 65 (.iAddrS 4 (.t 63) (.t 64)) 62 true,.h 66 3 65 62 true,.j 67 66 62 true,.y 68 4 62,.g 69 (.cvInt .u32 (.t 68)) 62 true,.g 70 (.bin .eql (.t 67) (.t 69)) 62 true,.p 71 62 70]) (.cond (.t 71) (.exit 3) (.skip))) (.cut (xE a))))) (.cut (xD a))))))
def qaF(a:Nat):ICode:=.seq (.seq (.r [.m 4 (.k 0)]) (.blk 0 (.loop (.seq (.seq (.r [.n 15 4,.w 16 .lss 15 16]) (.cond (.t 16) (.skip) (.exit 0))) (.seq (.blk 1 (.seq (.r [.n 19 0,.e 20 19,.q 21 (.mkS 1 1 [.b false] (.t 20) (.t 20)),.n 5 21]) (.seq (.seq (.r [.n 22 0,.e 23 22,.w 24 .gtr 23 0]) (.cond (.t 24) (.r [.n 25 5,.q 26 (.iAddrS 1 (.t 25) (.k 0)),.u (.store 1 (.t 26) .T)]) (.skip))) (.cut (xN a))))) (.cut (xC a))))))) (.seq (.r [.n 87 3,.n 2 87]) (.ret))
def qbG(a:Nat):IFn:=⟨[.tmp 2],.seq (.r [.m 2 .N]) (.seq (.seq (.r [.n 9 0,.e 10 9,.w 11 .gtr 10 4096]) (.cond (.t 11) (.seq (.r [.m 2 .N]) (.ret)) (.skip))) (.seq (.r [.n 12 0,.e 13 12,.q 14 (.mkS 1 2 [.i .u16 0] (.t 13) (.t 13)),.n 3 14]) (.cut (qaF a))))⟩
theorem qke{g:Nat}(p:List Ins)(hp:p.length<=4096)(c j:Nat)(hj:j<p.length)(L:List Nat)(hg:qf P g [.fz p.length (rP p),.i .i64 (j:Int)] (.fz L.length (rNt L)))(hLlt:∀m ∈ L,m<p.length)(hL2:L.length<=2)
  (r:List Bool) (hlr:r.length=p.length) (o:List (BitVec 16)) (Q:X->Tr AV->Hp->Prop)
  (hQ:∀t'' h'',Wk 0 t'' h'' (mkT [(0,.fz p.length (rP p)),(3,.sl 0 0 p.length p.length false),(4,.i .i64 (c:Int)),(5,.sl 1 0 p.length p.length false),(6,.i .i64 (j:Int))]) (mkH 0 [.cells 0 true false (rW o),.cells 0 true false (rTt (mkL L r))])->Q .normal t'' h'')
  {t':Tr AV} {h':Hp} (hw:Wk 0 t' h' (mkT [(0,.fz p.length (rP p)),(3,.sl 0 0 p.length p.length false),(4,.i .i64 (c:Int)),(5,.sl 1 0 p.length p.length false),(6,.i .i64 (j:Int))]) (mkH 0 [.cells 0 true false (rW o),.cells 0 true false (rTt r)])) :
  S P 0 (xE g) Q t' h':=by
 refine S.weak hw (ql ?_);simp only[xE,vI,simprocAttr];simp +decide only[↓vS,vT,simprocAttr];refine hg.sc ?_;simp +decide only[↓vS,vT,simprocAttr]
 refine SL.loop (α:=Nat×List Bool) (fun a=>[(0,.fz p.length (rP p)),(3,.sl 0 0 p.length p.length false),(4,.i .i64 (c:Int)),(5,.sl 1 0 p.length p.length false),(6,.i .i64 (j:Int)),(7,.fz L.length (rNt L)),(8,.i .i64 (a.1:Int))]) (fun a=>[.cells 0 true false (rW o),.cells 0 true false (rTt a.2)])
  (fun a=>a.1<=L.length∧a.2.length=p.length∧mkL (L.drop a.1) a.2=mkL L r) (fun a=>L.length-a.1) (0,r) [0,1] ?_ ?_ ?_ rfl ?_ ?_
 ·simp[vw,qu,zk]
 ·simp[vw,qc,qM,zf]
 ·simp
 ·exact⟨Nat.zero_le _,hlr,rfl⟩
 rintro⟨k,r2⟩ ⟨hk,hlr2,hJ⟩ G2 ih2;simp only at hk hlr2 hJ;simp only[vI,simprocAttr]
 by_cases hkl:k<L.length
 ·obtain⟨m,hm⟩:∃m,L[k]?=some m:=⟨_,zzE hkl⟩;have hml:=hLlt m (zzM hm)
  have hdk:L.drop k=m::L.drop (k+1):=by
   obtain⟨hh,he⟩:=zzS.1 hm;rw[List.drop_eq_getElem_cons hh,he]
  rw[hdk,qnq] at hJ
  have hw2:IntKind.wrap .i64 ((k:Int)+1)=((k+1:Nat):Int):=by
   rw[qm (by omega) (by omega)];omega
  have hs0:m+1<=(rTt r2).length:=by rw[qf9];omega
  have hs1:=qi9 (s:=r2) (j:=m) (by omega) true;simp +decide only[↓vS,vT,simprocAttr,hkl,Nat.mul_one,qlV,hm,Option.map_some,hml,hs0,hs1,hw2];refine ih2 (k+1,r2.set m true) ⟨hkl,by simp[hlr2],hJ⟩ (by simp only;omega) _ _ (Wk.mk _ _ [0,1] ?_ ?_ ?_ rfl)
  ·simp[vw,qu,zk]
  ·simp[vw,qc,qM,zf]
  ·simp
 ·obtain rfl:k=L.length:=by omega
  rw[List.drop_length] at hJ;have hJ:r2=mkL L r:=hJ;simp +decide only[↓vS,vT,simprocAttr,hkl];rw[← hJ] at hQ;refine hQ _ _ (Wk.mk _ _ [0,1] ?_ ?_ ?_ rfl)
  ·simp[vw,qu,zk]
  ·simp[vw,qc,qM,zf]
  ·simp
theorem qpN{g:Nat}(hg:qoN P g)(p:List Ins)(hp:p.length<=4096)(hi:∀i ∈ p,InsOk i)(c:Nat)(hc:c<16)(un0:List Bool)(hu0:un0.length=p.length)(out0:List (BitVec 16))(ho0:out0.length=p.length)(Q:X->Tr AV->Hp->Prop)
  (hQ:∀t'' h'',Wk 0 t'' h'' (mkT [(0,.fz p.length (rP p)),(3,.sl 0 0 p.length p.length false),(4,.i .i64 (c:Int))]) (mkH 0 [.cells 0 true false (rW (qgk p.length c 0 p (un0,out0)).2)])->Q .normal t'' h'')
  {t':Tr AV} {h':Hp} (hw:Wk 0 t' h' (mkT [(0,.fz p.length (rP p)),(3,.sl 0 0 p.length p.length false),(4,.i .i64 (c:Int)),(5,.sl 1 0 p.length p.length false)]) (mkH 0 [.cells 0 true false (rW out0),.cells 0 true false (rTt un0)])) :
  S P 0 (xN g) Q t' h':=by
 refine S.weak hw (ql ?_);have hc0:(0:Int)<=(c:Int):=by omega
 have hsh:qxp .u16 1 (c:Int)=((cell (c:Int)).toNat:Int):=qDZ hc0 (by omega);have hcv:IntKind.wrap .u32 (c:Int)=(c:Int):=by show (c:Int) % 4294967296=_;omega
 simp only[xN,vI,simprocAttr];simp +decide only[↓vS,vT,simprocAttr]
 refine SL.loop (α:=Nat×(List Bool×List (BitVec 16))) (fun a=>[(0,.fz p.length (rP p)),(3,.sl 0 0 p.length p.length false),(4,.i .i64 (c:Int)),(5,.sl 1 0 p.length p.length false),(6,.i .i64 (a.1:Int))]) (fun a=>[.cells 0 true false (rW a.2.2),.cells 0 true false (rTt a.2.1)])
  (fun a=>a.1<=p.length∧a.2.1.length=p.length∧a.2.2.length=p.length∧qgk p.length c a.1 (p.drop a.1) a.2=qgk p.length c 0 p (un0,out0)) (fun a=>p.length-a.1) (0,(un0,out0)) [0,1] ?_ ?_ ?_ rfl ?_ ?_
 ·simp[vw,qu]
 ·simp[vw,qc,qM,zf]
 ·simp
 ·exact⟨Nat.zero_le _,hu0,ho0,rfl⟩
 rintro⟨j,r,o⟩ ⟨hj,hlr,hlo,hI⟩ G ih;simp only at hj hlr hlo hI;simp only[vI,simprocAttr]
 by_cases hlt:j<p.length
 ·obtain⟨i,hpi⟩:∃i,p[j]?=some i:=⟨_,zzE hlt⟩;have hii:=hi i (zzM hpi)
  have hdr:p.drop j=i::p.drop (j+1):=by
   obtain⟨hh,he⟩:=zzS.1 hpi;rw[List.drop_eq_getElem_cons hh,he]
  obtain⟨b,hb⟩:∃b,r[j]?=some b:=⟨_,zzE (by omega)⟩;obtain⟨y,hy⟩:∃y,o[j]?=some y:=⟨_,zzE (by omega)⟩;have hI2:qgk p.length c (j+1) (p.drop (j+1)) (stS p.length c j i (r,o))=qgk p.length c 0 p (un0,out0):=by rw[← hI,hdr];rfl
  unfold stS at hI2;simp only[List.getD_eq_getElem?_getD,hb,hy,Option.getD_some] at hI2;have hw1:IntKind.wrap .i64 ((j:Int)+1)=((j+1:Nat):Int):=by rw[qm (by omega) (by omega)];omega
  have fin:∀(r2:List Bool) (o2:List (BitVec 16)),r2.length=p.length->o2.length=p.length->qgk p.length c (j+1) (p.drop (j+1)) (r2,o2)=qgk p.length c 0 p (un0,out0)->∀Qc:X->Tr AV->Hp->Prop,(∀t h,G t h->Qc .normal t h)->∀{t':Tr AV} {h':Hp},Wk 0 t' h' (mkT [(0,.fz p.length (rP p)),(3,.sl 0 0 p.length p.length false),(4,.i .i64 (c:Int)),(5,.sl 1 0 p.length p.length false),(6,.i .i64 (j:Int))]) (mkH 0 [.cells 0 true false (rW o2),.cells 0 true false (rTt r2)])->S P 0 (xD g) Qc t' h':=by
   intro r2 o2 e1 e2 e3 Qc hQc t' h' hw;refine S.weak hw (ql ?_);simp only[xD,vI,simprocAttr];simp +decide only[↓vS,vT,simprocAttr,hw1];refine hQc _ _ (ih (j+1,(r2,o2)) ⟨hlt,e1,e2,e3⟩ (by simp only;omega) _ _ (Wk.mk _ _ [0,1] ?_ ?_ ?_ rfl))
   ·simp[vw,qu]
   ·simp[vw,qc,qM,zf]
   ·simp
  have g0:=zZ (f:=zy) (m:=4) xf hpi (i:=0) (by omega);have g3:=zZ (f:=zy) (m:=4) xf hpi (i:=3) (by omega);rw[show p.flatMap zy=rP p from rfl] at g0 g3
  simp only[zy,Nat.add_zero,List.getElem?_cons_zero,List.getElem?_cons_succ] at g0 g3;cases b with
  | false =>
   rw[if_pos rfl] at hI2;have hs0:j+1<=(rW o).length:=by rw[qon];omega
   have hs1:=qA2 (s:=o) (j:=j) (by omega) (y ||| cell (c:Int))
   simp +decide only[↓vS,vT,simprocAttr,hlt,Nat.mul_one,qbP,hb,Option.map_some];refine zg ?_;simp +decide only[↓vS,vT,simprocAttr,hlt,Nat.mul_one,qom,hy,Option.map_some,hc0,hsh,qE7,hs0,hs1];refine fin r (o.set j (y ||| cell (c:Int))) hlr (by simp[hlo]) hI2 _ (fun _ _ h=>h) (Wk.mk _ _ [0,1] ?_ ?_ ?_ rfl)
   ·simp[vw,qu]
   ·simp[vw,qc,qM,zf]
   ·simp
  | true =>
   rw[if_neg (by simp)] at hI2
   by_cases hwc:wrC i c=true
   ·rw[if_pos hwc] at hI2;have hk:i.k=(c:Int):=by unfold wrC at hwc;simp at hwc;exact hwc.2
    have hcd:i.code=2∨i.code=3:=by unfold wrC at hwc;simp at hwc;exact hwc.1
    rcases hcd with hcd|hcd<;>(
     simp +decide only[↓vS,vT,simprocAttr,hlt,Nat.mul_one,qbP,hb,Option.map_some,g0,hcd,g3,hk,hcv];refine fin r o hlr hlo hI2 _ (fun _ _ h=>h) (Wk.mk _ _ [0,1] ?_ ?_ ?_ rfl)
     ·simp[vw,qu]
     ·simp[vw,qc,qM,zf]
     ·simp)
   rw[if_neg hwc] at hI2;have hnx:=hg p hp j i hpi hii;have hLlt:=qpm (n:=p.length) (j:=j) (i:=i);have hL2:=qk6 (n:=p.length) (j:=j) (i:=i);generalize qgS p.length i j=L at hI2 hLlt hL2 hnx
   have hcs:¬(i.code=2∨i.code=3)∨¬i.k=(c:Int):=by
    unfold wrC at hwc;simp at hwc
    by_cases h:i.code=2∨i.code=3
    ·exact .inr (hwc h)
    ·exact .inl h
   by_cases e2:i.code=2
   ·have hk:¬i.k=(c:Int):=hcs.elim (fun h=>absurd (.inl e2) h) id
    simp +decide only[↓vS,vT,simprocAttr,hlt,Nat.mul_one,qbP,hb,Option.map_some,g0,e2,g3,hk,hcv];refine qke p hp c j hlt L hnx hLlt hL2 r hlr o _ ?_ (Wk.mk _ _ [0,1] ?_ ?_ ?_ rfl)
    ·intro t'' h'' hw2;simp +decide only[↓vS,vT,simprocAttr];exact fin (mkL L r) o (by rw[qf2];exact hlr) hlo hI2 _ (fun _ _ h=>h) hw2
    ·simp[vw,qu]
    ·simp[vw,qc,qM,zf]
    ·simp
   by_cases e3:i.code=3
   ·have hk:¬i.k=(c:Int):=hcs.elim (fun h=>absurd (.inr e3) h) id
    simp +decide only[↓vS,vT,simprocAttr,hlt,Nat.mul_one,qbP,hb,Option.map_some,g0,e3,g3,hk,hcv];refine qke p hp c j hlt L hnx hLlt hL2 r hlr o _ ?_ (Wk.mk _ _ [0,1] ?_ ?_ ?_ rfl)
    ·intro t'' h'' hw2;simp +decide only[↓vS,vT,simprocAttr];exact fin (mkL L r) o (by rw[qf2];exact hlr) hlo hI2 _ (fun _ _ h=>h) hw2
    ·simp[vw,qu]
    ·simp[vw,qc,qM,zf]
    ·simp
   simp +decide only[↓vS,vT,simprocAttr,hlt,Nat.mul_one,qbP,hb,Option.map_some,g0,e2,e3];refine qke p hp c j hlt L hnx hLlt hL2 r hlr o _ ?_ (Wk.mk _ _ [0,1] ?_ ?_ ?_ rfl)
   ·intro t'' h'' hw2;simp +decide only[↓vS,vT,simprocAttr];exact fin (mkL L r) o (by rw[qf2];exact hlr) hlo hI2 _ (fun _ _ h=>h) hw2
   ·simp[vw,qu]
   ·simp[vw,qc,qM,zf]
   ·simp
 ·obtain rfl:j=p.length:=by omega
  rw[List.drop_length] at hI;have hI:(r,o)=qgk p.length c 0 p (un0,out0):=hI;rw[← hI] at hQ;simp +decide only[↓vS,vT,simprocAttr,hlt];refine hQ _ _ (Wk.mk _ _ [0] ?_ ?_ ?_ rfl)
  ·simp[vw,qu]
  ·simp[vw,qc,zf]
  ·simp
theorem qli{p:List Ins}{k:Nat}{out:List (BitVec 16)}:qru p (k+1) out=qru p k (qgk p.length (16-(k+1)) 0 p (st0 p.length,out)).2:=rfl
theorem qCm{g:Nat}(hc:qd P f (qbG g)=true)(hg:qoN P g)(p:List Ins)(hp:p.length<=4096)(hi:∀i ∈ p,InsOk i):qf P f [.fz p.length (rP p)] (.fz p.length (rW (qmd p))):=by
 refine qf.mk hc (by simp[qw,clo,qu]) ?_;have hz3:¬(4096:Int)<(p.length:Int):=by omega
 have hr1:p.length<=qh:=by simp only[qh];omega
 have hr2:2*p.length<=qh:=by simp only[qh];omega
 have hr3:1*p.length<=qh:=by simp only[qh];omega
 simp only[qbG,vI,simprocAttr];simp +decide only[↓vS,vT,simprocAttr,hz3,hr1,hr2,qDY];refine ql ?_;simp only[qaF,vI,simprocAttr];simp +decide only[↓vS,vT,simprocAttr]
 refine SL.loop (α:=Nat×List (BitVec 16)) (fun a=>[(0,.fz p.length (rP p)),(3,.sl 0 0 p.length p.length false),(4,.i .i64 (a.1:Int))]) (fun a=>[.cells 0 true false (rW a.2)])
  (fun a=>a.1<=16∧a.2.length=p.length∧qru p (16-a.1) a.2=qmd p) (fun a=>16-a.1) (0,List.replicate p.length 0#16) [0] ?_ ?_ ?_ rfl ?_ ?_
 ·simp[vw,qu]
 ·simp[vw,qc,zf]
 ·simp
 ·exact⟨Nat.zero_le _,by simp,rfl⟩
 rintro⟨c,o⟩ ⟨hc16,hlo,hI⟩ G ih;simp only at hc16 hlo hI;simp only[vI,simprocAttr]
 by_cases hlt:c<16
 ·have hlt':(c:Int)<16:=by omega
  have e16:16-c=(15-c)+1:=by omega
  rw[e16,qli,show 16-(15-c+1)=c from by omega,show 15-c=16-(c+1) from by omega] at hI
  have hw1:IntKind.wrap .i64 ((c:Int)+1)=((c+1:Nat):Int):=by rw[qm (by omega) (by omega)];omega
  have hsl:=qkd (n:=p.length) (c:=c) (L:=p) (j:=0) (st:=(st0 p.length,o));have hst:(st0 p.length).length=p.length:=by simp[st0]
  have fin:∀Qc:X->Tr AV->Hp->Prop,(∀t h,G t h->Qc .normal t h)->∀{t':Tr AV} {h':Hp},Wk 0 t' h' (mkT [(0,.fz p.length (rP p)),(3,.sl 0 0 p.length p.length false),(4,.i .i64 (c:Int))]) (mkH 0 [.cells 0 true false (rW (qgk p.length c 0 p (st0 p.length,o)).2)])->S P 0 (xC g) Qc t' h':=by
   intro Qc hQc t' h' hw;refine S.weak hw (ql ?_);simp only[xC,vI,simprocAttr];simp +decide only[↓vS,vT,simprocAttr,hw1];refine hQc _ _ (ih (c+1,_) ⟨hlt,hsl.2.trans hlo,hI⟩ (by simp only;omega) _ _ (Wk.mk _ _ [0] ?_ ?_ ?_ rfl))
   ·simp[vw,qu]
   ·simp[vw,qc,zf]
   ·simp
  by_cases h0:p.length=0
  ·have h0':¬(0:Int)<(p.length:Int):=by omega
   have hst2:st0 p.length=List.replicate p.length false:=by unfold st0;rw[h0];rfl
   simp +decide only[↓vS,vT,simprocAttr,hlt',hr1,hr3,qpE,h0'];refine qpN hg p hp hi c hlt (st0 p.length) hst o hlo _ ?_ (Wk.mk _ _ [0,1] ?_ ?_ ?_ rfl)
   ·intro t'' h'' hw2;simp +decide only[↓vS,vT,simprocAttr];exact fin _ (fun _ _ h=>h) hw2
   ·simp[vw,qu]
   ·simp[vw,qc,qM,zf,hst2]
   ·simp
  ·have h0':(0:Int)<(p.length:Int):=by omega
   have h0n:0<p.length:=by omega
   have hs0:1<=(rTt (List.replicate p.length false)).length:=by rw[qf9];simp;omega
   have hs1:AV.b true::List.drop 1 (rTt (List.replicate p.length false))=rTt (st0 p.length):=qi9 (s:=List.replicate p.length false) (j:=0) (by simp;omega) true;simp +decide only[↓vS,vT,simprocAttr,hlt',hr1,hr3,qpE,h0',h0n,hs0,hs1];refine qpN hg p hp hi c hlt (st0 p.length) hst o hlo _ ?_ (Wk.mk _ _ [0,1] ?_ ?_ ?_ rfl)
   ·intro t'' h'' hw2;simp +decide only[↓vS,vT,simprocAttr];exact fin _ (fun _ _ h=>h) hw2
   ·simp[vw,qu]
   ·simp[vw,qc,qM,zf]
   ·simp
 ·obtain rfl:c=16:=by omega
  have hI:o=qmd p:=hI;rw[← hI];simp +decide only[↓vS,vT,simprocAttr];refine Frz.cut 1 rfl (Nat.le_refl _) ?_;have ht:(rW o).take p.length=rW o:=List.take_of_length_le (by rw[qon];omega);simp[vZ,vP,Tr.get_set,qQ zf,ht,qon,hlo]
def rdC(i:Ins):Bool:=(decide (i.code=96)||decide (i.code=97))&&decide (i.k<16)
def unC(rch:List Bool)(sur:List (BitVec 16))(j:Nat)(i:Ins):Bool:=rch.getD j false&&rdC i && !(sur.getD j 0#16).getLsbD i.k.toNat
def qig(rch:List Bool)(sur:List (BitVec 16)):Nat->List Ins->List Nat->List Nat
 | _,[],l=>l
 | j,i::L,l=>qig rch sur (j+1) L (if unC rch sur j i=true then l++[j] else l)
def qiQ(p:List Ins):List Nat:=qig (qhE p.length 0 p (st0 p.length)) (qmd p) 0 p []
theorem qCR(x:BitVec 16){k:Int}(h0:0<=k)(h:k<16):(qur .u16 (x.toNat:Int) k).tmod 2=if x.getLsbD k.toNat=true then 1 else 0:=by
 have hm:min k.toNat 16=k.toNat:=by omega
 unfold qur;rw[show IntKind.bits .u16=16 from rfl,hm]
 have hp:(2:Int) ^ k.toNat=((2 ^ k.toNat:Nat):Int):=by simp
 rw[hp,Int.fdiv_eq_ediv_of_nonneg _ (Int.natCast_nonneg _),← Int.natCast_ediv];rw[BitVec.getLsbD,Nat.testBit_eq_decide_div_mod_eq];have:((x.toNat / 2 ^ k.toNat:Nat):Int).tmod 2=((x.toNat / 2 ^ k.toNat % 2:Nat):Int):=by rw[Int.tmod_eq_emod_of_nonneg (Int.natCast_nonneg _)];omega
 rw[this]
 by_cases hb:x.toNat / 2 ^ k.toNat % 2=1
 ·rw[hb];simp
 ·have:x.toNat / 2 ^ k.toNat % 2=0:=by omega
  rw[this];simp
def xb(a b:Nat):ICode:=.r [.n 16 6,.a 17 16 1,.n 6 17]
def xd(a b:Nat):ICode:=.seq (.reg true [.n 40 5,.n 41 6,.i 42 1 40 41,.d 43 42,.n 44 43,.y 45 7 44,.p 46 44 45,.n 47 46,.y 48 4 47,.y 49 6 47,.g 50 (.iAddrS 1 (.t 48) (.t 49)) 47 true,.j 51 50 47 true,.y 52 0 47,.y 53 6 47,.g 54 (.iAddrS 4 (.t 52) (.t 53)) 47 true,.h 55 3 54 47 true,.j 56 55 47 true,.g 57 (.bin .shr (.t 51) (.t 56)) 47 true,.g 58 (.bin .rem (.t 57) (.c (.i .u16 2))) 47 true,.g 59 (.bin .eql (.t 58) (.c (.i .u16 0))) 47 true,.p 60 47 59]) (.cond (.t 60) (.r [.n 61 3,.n 62 6,.q 63 (.buildS 1 [.i .i64 0] [(0,1,(.t 62))]),.q 64 (.app 1 8 true (.t 61) (.t 63)),.n 3 64]) (.skip))
def qaO(a b:Nat):IFn:=⟨[.tmp 2],.seq (.r [.m 2 .N]) (.seq (.r [.m 3 .N]) (.seq (.r [.n 8 0,.l 9 a [.t 8],.n 10 0,.l 11 b [.t 10],.n 4 9,.n 5 11]) (.seq (.seq (.r [.m 6 (.k 0)]) (.blk 0 (.loop (.seq (.seq (.r [.n 12 6,.n 13 4,.e 14 13,.s 15 12 14]) (.cond (.t 15) (.skip) (.exit 0))) (.seq (.blk 1 (.seq (.r [.n 18 0,.n 19 6,.i 20 4 18 19,.f 21 0 20,.d 22 21,.q 23 (.bin .eql (.t 22) (.c (.i .u16 96))),.n 24 23,.z 25 0 24,.z 26 6 24,.g 27 (.iAddrS 4 (.t 25) (.t 26)) 24 false,.h 28 0 27 24 false,.j 29 28 24 false,.g 30 (.bin .eql (.t 29) (.c (.i .u16 97))) 24 false,.o 31 24 30,.n 32 31,.y 33 0 32,.y 34 6 32,.g 35 (.iAddrS 4 (.t 33) (.t 34)) 32 true,.h 36 3 35 32 true,.j 37 36 32 true,.g 38 (.bin .lss (.t 37) (.c (.i .u32 16))) 32 true,.p 39 32 38,.n 7 39]) (.cut (xd a b)))) (.cut (xb a b))))))) (.seq (.r [.n 65 3,.n 2 65]) (.ret)))))⟩
theorem qCs{g1 g2:Nat}(hc:qd P f (qaO g1 g2)=true)
  (h1:∀p:List Ins,p.length<=4096->(∀i ∈ p,InsOk i)->qf P g1 [.fz p.length (rP p)] (.fz p.length (rW (qmd p))))
  (h2:∀p:List Ins,p.length<=4096->(∀i ∈ p,InsOk i)->qf P g2 [.fz p.length (rP p)] (.fz p.length (rTt (qhE p.length 0 p (st0 p.length)))))
  (p:List Ins) (hp:p.length<=4096) (hi:∀i ∈ p,InsOk i) (hsl:(qmd p).length=p.length) (hrl:(qhE p.length 0 p (st0 p.length)).length=p.length):qf P f [.fz p.length (rP p)] (.fz (qiQ p).length (rNt (qiQ p))):=by
 refine qf.mk hc (by simp[qw,clo,qu]) ?_;simp only[qaO,vI,simprocAttr];simp +decide only[↓vS,vT,simprocAttr];refine (h1 p hp hi).sc ?_;simp +decide only[↓vS,vT,simprocAttr];refine (h2 p hp hi).sc ?_;simp +decide only[↓vS,vT,simprocAttr];unfold qiQ;generalize qmd p=sur at hsl ⊢;generalize qhE p.length 0 p (st0 p.length)=rch at hrl ⊢
 refine SL.loop (α:=Nat×List Nat) (fun a=>[(0,.fz p.length (rP p)),(3,.own 0 a.2.length),(4,.fz p.length (rW sur)),(5,.fz p.length (rTt rch)),(6,.i .i64 (a.1:Int))]) (fun a=>[.cells 1 true true (rNt a.2)])
  (fun a=>a.1<=p.length∧a.2.length<=a.1∧qig rch sur a.1 (p.drop a.1) a.2=qig rch sur 0 p []) (fun a=>p.length-a.1) (0,[]) [99] ?_ ?_ ?_ rfl ?_ ?_
 ·simp[vw,qu,zf,qM]
 ·simp[vw]
 ·simp
 ·exact⟨Nat.zero_le _,Nat.le_refl _,rfl⟩
 rintro⟨j,l⟩ ⟨hj,hl,hI⟩ G ih;simp only at hj hl hI;simp only[vI,simprocAttr]
 by_cases hlt:j<p.length
 ·obtain⟨i,hpi⟩:∃i,p[j]?=some i:=⟨_,zzE hlt⟩;have hii:=hi i (zzM hpi)
  have hdr:p.drop j=i::p.drop (j+1):=by
   obtain⟨hh,he⟩:=zzS.1 hpi;rw[List.drop_eq_getElem_cons hh,he]
  obtain⟨b,hb⟩:∃b,rch[j]?=some b:=⟨_,zzE (by omega)⟩;obtain⟨y,hy⟩:∃y,sur[j]?=some y:=⟨_,zzE (by omega)⟩;have hI2:qig rch sur (j+1) (p.drop (j+1)) (if unC rch sur j i=true then l++[j] else l)=qig rch sur 0 p []:=by rw[← hI,hdr];rfl
  have hw1:IntKind.wrap .i64 ((j:Int)+1)=((j+1:Nat):Int):=by rw[qm (by omega) (by omega)];omega
  have g0:=zZ (f:=zy) (m:=4) xf hpi (i:=0) (by omega);have g3:=zZ (f:=zy) (m:=4) xf hpi (i:=3) (by omega);rw[show p.flatMap zy=rP p from rfl] at g0 g3
  simp only[zy,Nat.add_zero,List.getElem?_cons_zero,List.getElem?_cons_succ] at g0 g3
  have fin:∀l2:List Nat,l2.length<=j+1->qig rch sur (j+1) (p.drop (j+1)) l2=qig rch sur 0 p []->∀Qc:X->Tr AV->Hp->Prop,(∀t h,G t h->Qc .normal t h)->∀{t':Tr AV} {h':Hp},Wk 0 t' h' (mkT [(0,.fz p.length (rP p)),(3,.own 0 l2.length),(4,.fz p.length (rW sur)),(5,.fz p.length (rTt rch)),(6,.i .i64 (j:Int))]) (mkH 0 [.cells 1 true true (rNt l2)])->S P 0 (xb g1 g2) Qc t' h':=by
   intro l2 e1 e2 Qc hQc t' h' hw;refine S.weak hw (ql ?_);simp only[xb,vI,simprocAttr];simp +decide only[↓vS,vT,simprocAttr,hw1];refine hQc _ _ (ih (j+1,l2) ⟨hlt,e1,e2⟩ (by simp only;omega) _ _ (Wk.mk _ _ [0] ?_ ?_ ?_ rfl))
   ·simp[vw,qu,zf,qM]
   ·simp[vw,qc,zk]
   ·simp
  have c40:∀Qc:X->Tr AV->Hp->Prop,(∀l2 t'' h'',l2.length<=j+1->qig rch sur (j+1) (p.drop (j+1)) l2=qig rch sur 0 p []->Wk 0 t'' h'' (mkT [(0,.fz p.length (rP p)),(3,.own 0 l2.length),(4,.fz p.length (rW sur)),(5,.fz p.length (rTt rch)),(6,.i .i64 (j:Int))]) (mkH 0 [.cells 1 true true (rNt l2)])->Qc .normal t'' h'')->∀{t':Tr AV} {h':Hp},Wk 0 t' h' (mkT [(0,.fz p.length (rP p)),(3,.own 0 l.length),(4,.fz p.length (rW sur)),(5,.fz p.length (rTt rch)),(6,.i .i64 (j:Int)),(7,.b (rdC i))]) (mkH 0 [.cells 1 true true (rNt l)])->S P 0 (xd g1 g2) Qc t' h':=by
   intro Qc hQc t' h' hw;refine S.weak hw (ql ?_);have h20:(2:Int)≠0:=by decide
   have hr1:l.length+1<=qh:=by simp only[qh];omega
   have hr2:(l.length+1)*8<=qh:=by simp only[qh];omega
   have hap:rNt l++[.i .i64 (j:Int)]=rNt (l++[j]):=by rw[← qpx];rfl
   have hll:(rNt l).length=l.length:=qlW;have hk0:=hii.k0;unfold unC at hI2;simp only[List.getD_eq_getElem?_getD,hb,hy,Option.getD_some] at hI2;simp only[xd,vI,simprocAttr];refine zg ?_;cases b with
   | false =>
    simp +decide only[↓vS,vT,simprocAttr,hlt,Nat.mul_one,qbP,hb,Option.map_some];rw[if_neg (by simp)] at hI2;refine hQc l _ _ (by omega) hI2 (Wk.mk _ _ [0] ?_ ?_ ?_ rfl)
    ·simp[vw,qu,zf,qM]
    ·simp[vw,qc,zk]
    ·simp
   | true =>
   cases hrc:rdC i with
   | false =>
    rw[hrc] at hI2;simp +decide only[↓vS,vT,simprocAttr,hlt,Nat.mul_one,qbP,hb,Option.map_some];rw[if_neg (by simp)] at hI2;refine hQc l _ _ (by omega) hI2 (Wk.mk _ _ [0] ?_ ?_ ?_ rfl)
    ·simp[vw,qu,zf,qM]
    ·simp[vw,qc,zk]
    ·simp
   | true =>
   have hk16:i.k<16:=by unfold rdC at hrc;simp at hrc;exact hrc.2
   have hbt:=qCR y hk0 hk16;rw[hrc] at hI2;cases hbb:y.getLsbD i.k.toNat with
   | true =>
    rw[hbb] at hI2 hbt;rw[if_pos rfl] at hbt;simp +decide only[↓vS,vT,simprocAttr,hlt,Nat.mul_one,qbP,hb,Option.map_some,qom,hy,g3,hk0,↓xR h20,hbt];rw[if_neg (by simp)] at hI2;refine hQc l _ _ (by omega) hI2 (Wk.mk _ _ [0] ?_ ?_ ?_ rfl)
    ·simp[vw,qu,zf,qM]
    ·simp[vw,qc,zk]
    ·simp
   | false =>
    rw[hbb] at hI2 hbt;rw[if_neg (by simp)] at hbt;rw[if_pos (by simp)] at hI2;simp +decide only[↓vS,vT,simprocAttr,hlt,Nat.mul_one,qbP,hb,Option.map_some,qom,hy,g3,hk0,↓xR h20,hbt,hr1,hr2,hll,hap];refine hQc (l++[j]) _ _ (by simp;omega) hI2 (Wk.mk _ _ [2] ?_ ?_ ?_ rfl)
    ·simp[vw,qu,zf,qM]
    ·simp[vw,qc,zk]
    ·simp
  clear ih
  by_cases hk16:i.k<16
  ·by_cases e1:i.code=96
   ·have hrc:rdC i=true:=by unfold rdC;simp[e1,hk16]
    simp +decide only[↓vS,vT,simprocAttr,hlt,g0,g3,e1,hk16];refine c40 _ ?_ (Wk.mk _ _ [0] ?_ ?_ ?_ rfl)
    ·intro l2 t'' h'' q1 q2 hw2;simp +decide only[↓vS,vT,simprocAttr];exact fin l2 q1 q2 _ (fun _ _ h=>h) hw2
    ·simp[vw,qu,zf,qM,hrc]
    ·simp[vw,qc,zk]
    ·simp
   by_cases e2:i.code=97
   ·have hrc:rdC i=true:=by unfold rdC;simp[e2,hk16]
    simp +decide only[↓vS,vT,simprocAttr,hlt,g0,g3,e1,e2,hk16];refine c40 _ ?_ (Wk.mk _ _ [0] ?_ ?_ ?_ rfl)
    ·intro l2 t'' h'' q1 q2 hw2;simp +decide only[↓vS,vT,simprocAttr];exact fin l2 q1 q2 _ (fun _ _ h=>h) hw2
    ·simp[vw,qu,zf,qM,hrc]
    ·simp[vw,qc,zk]
    ·simp
   have hrc:rdC i=false:=by unfold rdC;simp[e1,e2]
   simp +decide only[↓vS,vT,simprocAttr,hlt,g0,g3,e1,e2];refine c40 _ ?_ (Wk.mk _ _ [0] ?_ ?_ ?_ rfl)
   ·intro l2 t'' h'' q1 q2 hw2;simp +decide only[↓vS,vT,simprocAttr];exact fin l2 q1 q2 _ (fun _ _ h=>h) hw2
   ·simp[vw,qu,zf,qM,hrc]
   ·simp[vw,qc,zk]
   ·simp
  ·have hrc:rdC i=false:=by unfold rdC;simp[hk16]
   by_cases e1:i.code=96
   ·simp +decide only[↓vS,vT,simprocAttr,hlt,g0,g3,e1,hk16];refine c40 _ ?_ (Wk.mk _ _ [0] ?_ ?_ ?_ rfl)
    ·intro l2 t'' h'' q1 q2 hw2;simp +decide only[↓vS,vT,simprocAttr];exact fin l2 q1 q2 _ (fun _ _ h=>h) hw2
    ·simp[vw,qu,zf,qM,hrc]
    ·simp[vw,qc,zk]
    ·simp
   by_cases e2:i.code=97
   ·simp +decide only[↓vS,vT,simprocAttr,hlt,g0,g3,e1,e2,hk16];refine c40 _ ?_ (Wk.mk _ _ [0] ?_ ?_ ?_ rfl)
    ·intro l2 t'' h'' q1 q2 hw2;simp +decide only[↓vS,vT,simprocAttr];exact fin l2 q1 q2 _ (fun _ _ h=>h) hw2
    ·simp[vw,qu,zf,qM,hrc]
    ·simp[vw,qc,zk]
    ·simp
   simp +decide only[↓vS,vT,simprocAttr,hlt,g0,g3,e1,e2];refine c40 _ ?_ (Wk.mk _ _ [0] ?_ ?_ ?_ rfl)
   ·intro l2 t'' h'' q1 q2 hw2;simp +decide only[↓vS,vT,simprocAttr];exact fin l2 q1 q2 _ (fun _ _ h=>h) hw2
   ·simp[vw,qu,zf,qM,hrc]
   ·simp[vw,qc,zk]
   ·simp
 ·obtain rfl:j=p.length:=by omega
  rw[List.drop_length] at hI;have hI:l=qig rch sur 0 p []:=hI;rw[← hI];simp +decide only[↓vS,vT,simprocAttr,hlt];simp[vZ,vP,Tr.get_set,qQ zk];intro h0;rw[h0];rfl
end Go.Kc
end
