/- Part 11 of the abstract machine and of the functions' walks. Conditions: with each theorem. -/
import Derived.Test.YtpopmjgimhmciaaGreatDoorK10
import Derived.Lib.AppendIntMem
set_option linter.unusedSimpArgs false
set_option linter.unusedVariables false
set_option linter.unnecessarySimpa false
section
/- The document's Same of any two; PolicyTells: what the law answers. Condition: the functions' texts are these. -/
namespace Go.Kc
variable {P:Program} {f:Nat}
noncomputable def ql8(p:Pol):AV:=if Wj p=true then .tup [.fz (Je p).length (rS (Je p)),.i .i64 0] else .tup [.fz 0 [],.i .i64 2]
section
variable {g1 g2 g3 g4 g5 g6 g7 g8 g9 g10 g11 g12:Nat}
end
end Go.Kc
end
section
/- The kit's law of strconv.Itoa, as a contract: the table that it reads is one that the machine knows of. No condition. -/
namespace Go.Kc
open Go.RowKit Go.Sort
variable {P:Program} {f:Nat}
def qpV:Array Value:=(Lib.pow10Tab.map fun z=>Value.int .u64 z).toArray
def qkz(P:Program)(f:Nat):Prop:=∀n:Int,-9223372036854775808<=n->n<=9223372036854775807->∀w:World,Lib.TabIs P w "internal/strconv.uint64pow10" .u64 Lib.pow10Tab->
 Calls P f #[.int .i64 n] w fun e w'=>e = .returned (.string ⟨(Lib.itoa n).toArray⟩)∧∃k os,w'=grow (w.drewN k) os
theorem qsf{g:Nat}(hcod:qdo P f)(hg:P.globalNamed "internal/strconv.uint64pow10" = some g)(ht:tab g=some qpV)(hK:qkz P f):qnb P f:=by
 intro n h0 h1 h k hk;refine⟨trivial,fun ρ B w args r ha=>?_⟩
 generalize hA:args.toList=L at ha;cases ha with
 | cons _ _ _ _ a1 a2 =>
  rename_i v1 vs1;cases a2;have hargs:args = #[v1]:=by apply Array.ext';rw[hA]
  subst hargs;cases a1;obtain⟨⟨ty,fz,hw⟩,_⟩:=r.frz g _ (ρ.frz.ok g _ ht)
  have htab:Lib.TabIs P w "internal/strconv.uint64pow10" .u64 Lib.pow10Tab:=by
   unfold Lib.TabIs World.var?;rw[hg];show (match w.heap[g]? with|some (.cells cs _ _)=>some cs|_=>none)=_
   rw[hw];rfl
  refine .inl ⟨hcod,(hK n (by omega) (by omega) w htab).mono ?_⟩;rintro e w' ⟨rfl,q,os,rfl⟩;have hb:=Lib.below_grow w.heap.size w (Nat.le_refl _) q os;exact⟨_,_,h,ρ,rfl,hk,.s _,r.below hb,Kept.below r hb⟩
end Go.Kc
end
section
/- The lines of a policy, read as assignments, come to it: words and entries. No condition. -/
namespace Go.Kc
def wb(w:List UInt8):Prop:=w≠[]∧∀c ∈ w,WS c=false
instance (w:List UInt8):Decidable (wb w):=by unfold wb;infer_instance
theorem qeK(sep w x:List UInt8)(r:List (List UInt8)):zx sep (w::x::r)=w++sep++zx sep (x::r):=by
 unfold zx;rw[Lib.join_cons,Lib.join_cons];simp[Lib.joinTail]
theorem qf0:∀ws:List (List UInt8),(∀w ∈ ws,wb w)->∀cur:List UInt8,ws≠[]->wB (zx [32] ws) cur=(match ws with | []=>[]|w::r=>(cur++w)::r)
 | [],_,_,h=>absurd rfl h
 | [w],h,cur,_=>by
  have hw:=h w (by simp);have e:=qar [] w cur hw.2;rw[ye];rw[List.append_nil] at e;rw[e];simp[wB,hw.1]
 | w::x::r,h,cur,_=>by
  have hw:=h w (by simp);have ih:=qf0 (x::r) (fun y hy=>h y (by simp[hy])) [] (by simp)
  rw[qeK,List.append_assoc,qar _ _ _ hw.2];simp only[List.singleton_append,wB];have h32:WS 32=true:=by decide
  rw[if_pos h32,if_neg (by simp[hw.1]),ih];simp
theorem QG{ws:List (List UInt8)}(h:∀w ∈ ws,wb w):ql (zx [32] ws)=ws:=by
 rw[QI];cases ws with
 | nil=>rfl
 | cons w r=>rw[qf0 _ h [] (by simp)];simp
theorem qkp:∀(l cur:List UInt8),cur≠[]->wB l cur≠[]
 | [],cur,h=>by simp[wB,h]
 | c::l,cur,h=>by
  simp only[wB];split
  ·simp[h]
  ·exact qkp l _ (by simp)
theorem QH(v:List UInt8):ql (126::v)≠[]:=by
 rw[QI];simp only[wB];rw[if_neg (by decide)];exact qkp v _ (by simp)
theorem Jm(v:List UInt8):qZ (126::v)=(v,true):=by simp[qZ,List.isPrefixOf]
theorem qcZ{v:List UInt8}(h:v.head?≠some 126):qZ v=(v,false):=by
 cases v with
 | nil=>rfl
 | cons c v =>
  have hc:c≠126:=fun e=>h (by simp[e])
  have:([126].isPrefixOf (c::v))=false:=by
   simp only[List.isPrefixOf,Bool.and_true,beq_eq_false_iff_ne];exact fun e=>hc e.symm
  simp[qZ,this]
theorem qbR{ws:List (List UInt8)}{w:List UInt8}{r:List (List UInt8)}(hw:ws=w::r)(h:w≠[]):(zx [32] ws).head?=w.head?:=by
 subst hw;show (Lib.join (w::r) [32]).head?=_;rw[Lib.join_cons];cases w with
 | nil=>exact absurd rfl h
 | cons c w=>rfl
theorem VU:∀(xs:List UInt8) (c:UInt8) (n:Nat),48<=c.toNat->c.toNat<=57->vg (xs++[c]) n=(vg xs n).map fun m=>10*m+(c.toNat-48)
 | [],c,n,h1,h2=>by
  simp only[List.nil_append,vg];rw[if_neg (by omega)];rfl
 | x::xs,c,n,h1,h2=>by
  simp only[List.cons_append,vg];split
  ·rfl
  ·exact VU xs c _ h1 h2
theorem qbM{u:Nat}(h:u<10):(UInt8.ofNat (48+u)).toNat=48+u:=by
 simp only[UInt8.toNat_ofNat',Nat.reducePow];omega
theorem qaG:∀(n u:Nat),u<=n->vg (XA u) 0=some u∧XA u≠[]∧∀c ∈ XA u,48<=c.toNat∧c.toNat<=57
 | n,u,h=>by
  by_cases hu:u<10
  ·rw[kW hu];have e:=qbM hu;refine⟨?_,by simp,fun c hc=>?_⟩
   ·simp only[vg];rw[if_neg (by omega),e]
    congr 1;omega
   ·simp only[List.mem_singleton] at hc;subst hc;omega
  ·match n with
   | 0=>omega
   | n+1 =>
    obtain⟨h1,h2,h3⟩:=qaG n (u / 10) (by omega);have hr:u % 10<10:=Nat.mod_lt _ (by decide);have e:=qbM hr;have ed:XA (u:Int)=XA ((u / 10:Nat):Int)++[UInt8.ofNat (48+u % 10)]:=by rw[qdp hu,kW hr]
    rw[ed];refine⟨?_,by simp,fun c hc=>?_⟩
    ·rw[VU _ _ _ (by omega) (by omega),h1,e];show some (10*(u / 10)+(48+u % 10-48))=some u
     congr 1;omega
    ·rcases List.mem_append.1 hc with hc|hc
     ·exact h3 c hc
     ·simp only[List.mem_singleton] at hc;subst hc;omega
theorem qfn:∀(k u:Nat),u<10 ^ (k+1)->(XA u).length<=k+1
 | 0,u,h=>by rw[kW (by simpa using h)];simp
 | k+1,u,h=>by
  by_cases hu:u<10
  ·rw[kW hu];simp
  ·have e:XA (u:Int)=XA ((u / 10:Nat):Int)++[UInt8.ofNat (48+u % 10)]:=by rw[qdp hu,kW (Nat.mod_lt _ (by decide))]
   have:=qfn k (u / 10) (by rw[Nat.pow_succ] at h;omega);rw[e,List.length_append,List.length_singleton];omega
theorem qgz{s:List UInt8}{c:UInt8}(hc:c ∈ s)(h:∀p ∈ qI,c ∉ p.1):(xe s 160 qI).2≠0:=by
 have:∀l:List (List UInt8×Int),(∀p ∈ l,c ∉ p.1)->(xe s 160 l).2=160:=by
  intro l
  induction l with
  | nil=>intro _;rfl
  | cons p l ih =>
   intro h;simp only[xe];rw[if_neg (fun (e:p.1=s)=>h p (by simp) (by rw[e];exact hc))]
   exact ih fun q hq=>h q (by simp[hq])
 rw[this _ h];decide
theorem Wa(u:Nat)(hu:u<=4095):zh (QJ u)=((u:Int),0)∧QJ u≠Jb∧wb (QJ u)∧(QJ u).length<=12:=by
 unfold QJ
 by_cases hn:zd (u:Int) qI=[]
 ·rw[if_pos ⟨hn,by omega⟩]
  obtain⟨h1,h2,h3⟩:=qaG u u (Nat.le_refl _);have hl:=qfn 3 u (by omega);generalize XA (u:Int)=s at h1 h2 h3 hl;obtain⟨c,r,rfl⟩:=List.exists_cons_of_ne_nil h2;have hc:=h3 c (by simp)
  have hf:=qgz (s:=c::r) (c:=c) (by simp) (fun p hp hm=>by
   have key:∀p ∈ qI,∀x ∈ p.1,57<x.toNat:=by decide
   have:=key p hp c hm;omega)
  refine⟨?_,?_,⟨by simp,fun x hx=>?_⟩,by omega⟩
  ·unfold zh;rw[if_neg hf,if_neg (by omega),if_neg (by simp),h1];simp only;rw[if_neg (by omega)]
  ·intro e;have:c=107:=by unfold Jb at e;exact (List.cons.inj e).1
   subst this;revert hc;decide
  ·have:=h3 x hx;unfold WS;have n1:x≠32:=by rintro rfl;revert this;decide
   have n2:x≠9:=by rintro rfl;revert this;decide
   have n3:x≠13:=by rintro rfl;revert this;decide
   simp[n1,n2,n3]
 ·rw[if_neg (fun h=>hn h.1)]
  have key:∀p ∈ qI,zh (zd p.2 qI)=(p.2,0)∧zd p.2 qI≠Jb∧wb (zd p.2 qI)∧(zd p.2 qI).length<=12:=by decide
  have:∃p ∈ qI,p.2=(u:Int):=by
   have go:∀l:List (List UInt8×Int),zd (u:Int) l≠[]->∃p ∈ l,p.2=(u:Int):=by
    intro l
    induction l with
    | nil=>intro h;exact absurd rfl h
    | cons p l ih =>
     intro h;simp only[zd] at h;split at h
     ·exact⟨p,by simp,by assumption⟩
     ·obtain⟨q,h1,h2⟩:=ih h;exact⟨q,by simp[h1],h2⟩
   exact go _ hn
  obtain⟨p,hp,hpu⟩:=this;rw[← hpu];exact key p hp
theorem QT{s:List UInt8}(h:xM s=true):wb s∧58 ∉ s∧s.head?≠some 126∧[64].isPrefixOf s=false:=by
 have key:∀s ∈ zm.map (·.1),wb s∧58 ∉ s∧s.head?≠some 126∧[64].isPrefixOf s=false:=by decide
 exact key s (Wh h)
theorem qlQ{a:List UInt8}(h:58 ∉ a):∀j,y6 58 a j = -1:=by
 induction a with
 | nil=>intro j;rfl
 | cons x a ih =>
  intro j;simp only[y6];rw[if_neg (fun e=>h (by simp[e]))]
  exact ih (fun hm=>h (by simp[hm])) _
theorem qlP{a:List UInt8}(h:58 ∉ a)(b:List UInt8):∀j,y6 58 (a++58::b) j=((j+a.length:Nat):Int):=by
 induction a with
 | nil=>intro j;simp[y6]
 | cons x a ih =>
  intro j;simp only[List.cons_append,y6];rw[if_neg (fun e=>h (by simp[e])),ih (fun hm=>h (by simp[hm]))]
  simp only[List.length_cons];omega
theorem qov{a:List UInt8}(h:58 ∉ a):x5 a=(a,[],false):=by
 unfold x5;rw[qlQ h];rfl
theorem qim{a:List UInt8}(h:58 ∉ a)(b:List UInt8):x5 (a++58::b)=(a,b,true):=by
 unfold x5;rw[qlP h,if_pos (by omega)];have e:(((0+a.length:Nat):Int)).toNat=a.length:=by omega
 rw[e];simp
theorem qhg{c:GCall}(hk:xM c.name=true)(ha:Q4 c.act=true):qz (wC c)=(⟨c.name,c.act,decide (c.act≠0)⟩,0):=by
 obtain⟨⟨hne,_⟩,h58,_,_⟩:=QT hk;unfold qz wC
 by_cases a0:c.act=0
 ·rw[if_pos a0,qov h58];simp[hne,a0]
 rw[if_neg a0]
 by_cases a1:c.act=2147483648
 ·rw[if_pos a1,qim h58];simp[hne,a1,Jb]
 rw[if_neg a1];simp only[Q4,Bool.or_eq_true,decide_eq_true_eq,Bool.and_eq_true] at ha;obtain⟨h1,h2⟩:327680<=c.act∧c.act<=331775:=by omega
 obtain⟨e1,e2⟩:=Vi (a:=c.act) (by omega) (by omega);have e3:c.act.tdiv 65536=5:=by rw[Int.tdiv_eq_ediv_of_nonneg (by omega)];omega
 have e4:c.act.tmod 65536=c.act-327680:=by rw[Int.tmod_eq_emod_of_nonneg (by omega)];omega
 rw[if_pos (e2.2 e3),e1,e4,qim h58];obtain⟨u,hu⟩:∃u:Nat,c.act-327680=(u:Int):=⟨(c.act-327680).toNat,by omega⟩
 obtain⟨g1,g2,_,_⟩:=Wa u (by omega);rw[hu];simp only[hne,if_false,g2,g1,if_true,Bool.true_eq_false];have:327680+(u:Int)=c.act:=by omega
 rw[this];simp[a0]
theorem qbl{c:GCall}(hk:xM c.name=true)(ha:Q4 c.act=true):wb (wC c)∧(wC c).head?=c.name.head?∧(wC c).length<=c.name.length+13:=by
 obtain⟨⟨hne,hsp⟩,_,_,_⟩:=QT hk
 have hh:∀b:List UInt8,(c.name++b).head?=c.name.head?:=by
  intro b;cases hn:c.name with
  | nil=>exact absurd hn hne
  | cons x y=>rfl
 have hp:∀b:List UInt8,(∀x ∈ b,WS x=false)->wb (c.name++b):=fun b hb=>⟨by simp[hne],fun x hx=>by
  rcases List.mem_append.1 hx with hx|hx
  ·exact hsp x hx
  ·exact hb x hx⟩
 unfold wC
 by_cases a0:c.act=0
 ·rw[if_pos a0];exact⟨⟨hne,hsp⟩,rfl,by omega⟩
 rw[if_neg a0]
 by_cases a1:c.act=2147483648
 ·rw[if_pos a1];exact⟨hp _ (by decide),hh _,by simp⟩
 rw[if_neg a1];simp only[Q4,Bool.or_eq_true,decide_eq_true_eq,Bool.and_eq_true] at ha;obtain⟨h1,h2⟩:327680<=c.act∧c.act<=331775:=by omega
 obtain⟨e1,e2⟩:=Vi (a:=c.act) (by omega) (by omega);have e3:c.act.tdiv 65536=5:=by rw[Int.tdiv_eq_ediv_of_nonneg (by omega)];omega
 have e4:c.act.tmod 65536=c.act-327680:=by rw[Int.tmod_eq_emod_of_nonneg (by omega)];omega
 obtain⟨u,hu⟩:∃u:Nat,c.act-327680=(u:Int):=⟨(c.act-327680).toNat,by omega⟩
 obtain⟨_,_,g3,g4⟩:=Wa u (by omega);rw[if_pos (e2.2 e3),e1,e4,hu];refine⟨hp _ (fun x hx=>?_),hh _,?_⟩
 ·rcases List.mem_cons.1 hx with rfl|hx
  ·decide
  ·exact g3.2 x hx
 ·simp only[List.length_append,List.length_cons];omega
end Go.Kc
end
section
/- The lines of a list of calls come to it. No condition. -/
namespace Go.Kc
variable {E:List UInt8->List (List UInt8)×Int}
theorem qjm{c:GCall}(h:okC c=true):xy E (qz (wC c)).1.name=([c.name],0)∧(qz (wC c))=(⟨c.name,c.act,decide (c.act≠0)⟩,0):=by
 simp only[okC,Bool.and_eq_true] at h;have e:=qhg h.1 h.2;obtain⟨_,_,_,h64⟩:=QT h.1;rw[e];refine⟨?_,rfl⟩;unfold xy;rw[h64,if_neg (by decide),if_pos h.1]
def gO(t:Bool)(m:Int)(c:GCall):Option Int:=if c.act≠0 then some c.act else if m-1=(if t=true then 1 else 0) then some 0 else none
theorem qdW{c:GCall}(h:okC c=true){fl t:Bool}(ha:c.act≠0->fl=true∧t=true)(m:Int):qbz E fl t m (wC c)=[(c.name,gO t m c)]∧Z3 E fl t (wC c)=[]:=by
 obtain⟨e1,e2⟩:=qjm (E:=E) h;unfold qbz Z3 gO;rw[e1,e2]
 by_cases a0:c.act=0
 ·simp[a0]
 ·obtain⟨f1,f2⟩:=ha a0;simp[a0,f1,f2]
theorem VY{α β:Type}{g:α->List β}{k:α->β}:∀{l:List α},(∀x ∈ l,g x=[k x])->l.flatMap g=l.map k
 | [],_=>rfl
 | x::l,h=>by rw[List.flatMap_cons,List.map_cons,h x (by simp),VY fun y hy=>h y (by simp[hy])];rfl
theorem WL{α β:Type}{g:α->List β}:∀{l:List α},(∀x ∈ l,g x=[])->l.flatMap g=[]
 | [],_=>rfl
 | x::l,h=>by rw[List.flatMap_cons,h x (by simp),WL fun y hy=>h y (by simp[hy])];rfl
theorem qbX{g:GCall->Option Int}:∀{cs:List GCall},Up cs->∀t,qbW (cs.map fun c=>(c.name,g c)) t=(ze cs t).map g
 | [],_,_=>rfl
 | c::cs,hu,t=>by
  have hu':=List.pairwise_cons.1 hu;rw[List.map_cons,qaV,qbX hu'.2 t]
  by_cases ht:t=c.name
  ·subst ht;rw[wJ,Qh (fun d hd=>hu'.1 d hd)]
   simp
  ·rw[wK ht,if_neg ht];simp
theorem vu{l:List GCall}{t:List UInt8}{c:GCall}(h:ze l t=some c):c.name=t∧c ∈ l:=by
 unfold ze at h;exact⟨by simpa using List.find?_some h,List.mem_of_find?_eq_some h⟩
theorem y5{l:List GCall}(hu:Up l){c:GCall}(h:c ∈ l):ze l c.name=some c:=by
 induction l with
 | nil=>cases h
 | cons d l ih =>
  have hu':=List.pairwise_cons.1 hu;rcases List.mem_cons.1 h with rfl|h
  ·exact wJ
  ·have hd:=hu'.1 c h;rw[wK (Zb hd).symm];exact ih hu'.2 h
theorem Vk{l:List GCall}(hu:Up l)(q:GCall->Bool)(t:List UInt8):ze (l.filter q) t=(ze l t).filter q:=by
 cases h:ze l t with
 | none =>
  cases h2:ze (l.filter q) t with
  | none=>rfl
  | some c =>
   obtain⟨h3,h4⟩:=vu h2;have:=y5 hu (List.mem_filter.1 h4).1;rw[h3,h] at this;cases this
 | some c =>
  obtain⟨h3,h4⟩:=vu h;subst h3;cases hq:q c with
  | true =>
   have:=y5 (yg hu q) (List.mem_filter.2 ⟨h4,hq⟩);rw[this];simp[Option.filter,hq]
  | false =>
   simp only[Option.filter,hq];cases h2:ze (l.filter q) c.name with
   | none=>rfl
   | some d =>
    obtain⟨h5,h6⟩:=vu h2;obtain⟨h7,h8⟩:=List.mem_filter.1 h6;have:=y5 hu h7;rw[h5,h] at this;cases this;rw[hq] at h8;cases h8
theorem ZF(hE:ku E){l:GList}(hm:zF l=true){v x:List UInt8}{t fl:Bool}{cs:List GCall}(hc:∀c ∈ cs,okC c=true)(hu:Up cs)(ht:qZ v=(x,t))(hx:ql x=cs.map wC)(hv:ql v≠[])(ha:∀c ∈ cs,c.act≠0->fl=true∧t=true) :
  (zn E l v fl).2=[]∧zF (zn E l v fl).1=true∧(zn E l v fl).1.mode=yX l.mode t∧∀u,ze (zn E l v fl).1.calls u=match ze cs u with|some c=>(gO t (yX l.mode t) c).map (fun a=>⟨u,a⟩)|none=>ze l.calls u:=by
 have h1:=VJ hE hm v fl;have h2:=qbh (E:=E) hm fl hv;have h3:=W9 (E:=E) (fl:=fl) hm hv;rw[ht] at h2 h3;simp only at h2 h3;rw[hx,List.flatMap_map,List.flatMap_map] at h3;rw[VY (k:=fun c=>(c.name,gO t (yX l.mode t) c)) (fun c hcc=>(qdW (hc c hcc) (ha c hcc) _).1),WL (fun c hcc=>(qdW (E:=E) (hc c hcc) (ha c hcc) (yX l.mode t)).2)] at h3
 have h4:=Vn (os:=cs.map fun c=>(c.name,gO t (yX l.mode t) c)) (qa0 hm t) (JB _ _) (by
  intro o ho;obtain⟨c,hcc,rfl⟩:=List.mem_map.1 ho;have:=hc c hcc;simp only[okC,Bool.and_eq_true] at this;refine⟨this.1,fun a haa=>?_⟩
  change gO t (yX l.mode t) c=some a at haa;unfold gO at haa
  by_cases k1:c.act≠0
  ·rw[if_pos k1] at haa;cases haa;exact this.2
  ·rw[if_neg k1] at haa
   by_cases k2:yX l.mode t-1=(if t=true then 1 else 0)
   ·rw[if_pos k2] at haa;cases haa;rfl
   ·rw[if_neg k2] at haa;cases haa)
 refine⟨by rw[h3],h1,h2,fun u=>?_⟩
 rw[h3,h4.2 u,qbX hu];cases ze cs u<;>rfl
def XE(E:List UInt8->List (List UInt8)×Int)(fl:Bool):GList->List (List UInt8)->GList->Prop
 | l,[],l'=>l'=l
 | l,v::vs,l'=>(zn E l v fl).2=[]∧XE E fl (zn E l v fl).1 vs l'
def Kp(a:List UInt8)(ws:List (List UInt8)):List (List UInt8):=if ws=[] then [] else [a++zx [32] ws]
def Xw(l:GList):List (List UInt8) :=
 if l.mode=2 then [126::zx [32] (zC qA l.calls)]
 else if l.mode=1 then [qV]++(if zC qR l.calls=[] then [126::qV] else [])++Kp [] (zC qO l.calls)++Kp [126] (zC qW l.calls)
 else []
theorem qma(k:List UInt8)(l:GList):yy k l=(Xw l).map fun v=>k++61::v:=by
 have hl:∀a ws,wi k a ws=k++61::(a++zx [32] ws):=fun a ws=>by simp[wi]
 have ho:∀a ws,XC k a ws=(Kp a ws).map fun v=>k++61::v:=fun a ws=>by
  unfold XC Kp;split
  ·rfl
  ·simp[hl]
 unfold yy Xw;split
 ·simp[hl]
 split
 ·rw[ho,ho];simp only[Jj,hl,ye,List.nil_append,List.map_append]
  congr 2
  split<;>simp
 ·rfl
theorem qmi{l:GList}(hm:zF l=true)(h0:0<=l.mode):l.mode=0∧l.calls=[]∨l.mode=1∨l.mode=2:=by
 obtain⟨⟨h1,h2⟩,_⟩:=(zV l).1 hm;rcases h2 with h2|h2
 ·have:l.mode=1∨l.mode=2:=by omega
  exact .inr this
 ·by_cases h:l.mode=0
  ·exact .inl ⟨h,h2⟩
  ·have:l.mode=1∨l.mode=2:=by omega
   exact .inr this
theorem W4:okC ⟨qV,0⟩=true∧wC ⟨qV,0⟩=qV:=by decide
theorem Jw{a b:GList}(h1:a.mode=b.mode)(h2:a.calls=b.calls):a=b:=by cases a;cases b;simp_all
theorem qb0(hE:ku E){l:GList}{fl:Bool}(hm:zF l=true)(h0:0<=l.mode)(hf:∀c ∈ l.calls,c.act≠0->fl=true):XE E fl ⟨0,[]⟩ (Xw l) l:=by
 obtain⟨_,hok,hu⟩:=(zV l).1 hm;have hz:zF ⟨0,[]⟩=true:=rfl
 have hpl:∀{c:GCall},okC c=true->wb (wC c)∧(wC c).head?=c.name.head?∧c.name.head?≠some 126:=fun {c} h=>by
  simp only[okC,Bool.and_eq_true] at h;obtain⟨a1,a2,_⟩:=qbl h.1 h.2;exact⟨a1,a2,(QT h.1).2.2.1⟩
 have hent:∀q:GCall->Bool,∀w ∈ zC q l.calls,wb w:=fun q w hw=>by
  obtain⟨c,h1,rfl⟩:=List.mem_map.1 hw;exact (hpl (hok c (List.mem_filter.1 h1).1)).1
 have hjoin:∀q:GCall->Bool,ql (zx [32] (zC q l.calls))=(l.calls.filter q).map wC:=fun q=>QG (hent q)
 have hokq:∀(q:GCall->Bool),∀c ∈ l.calls.filter q,okC c=true:=fun q c hc=>hok c (List.mem_filter.1 hc).1
 unfold Xw;rcases qmi hm h0 with⟨h,hc⟩|h|h
 ·rw[if_neg (by omega),if_neg (by omega)];exact Jw h hc
 ·rw[if_neg (by omega),if_pos h]
  -- read
  have hrw:ql qV=[qV]:=by rw[QI];decide
  obtain⟨a1,a2,a3,a4⟩:=ZF (fl:=fl) hE hz (v:=qV) (x:=qV) (t:=false) (cs:=[⟨qV,0⟩]) (by simp[W4.1]) (by simp[Up]) (qcZ (by decide)) (by rw[hrw];simp[W4.2]) (by rw[hrw];simp) (by simp);rw[List.append_assoc,List.append_assoc,List.singleton_append];refine⟨a1,?_⟩;generalize (zn E ⟨0,[]⟩ qV fl).1=s1 at a2 a3 a4 ⊢
  have b4:∀u,ze s1.calls u=if u=qV then some ⟨qV,0⟩ else none:=fun u=>by
   rw[a4 u]
   by_cases hu:u=qV
   ·subst hu;rw[if_pos rfl];decide
   ·rw[if_neg hu];have:ze [⟨qV,0⟩] u=none:=by rw[wK (by exact hu)];rfl
    rw[this];rfl
  have b3:s1.mode=1:=a3
  -- without it
  have c2:∃s2:GList,zF s2=true∧s2.mode=1∧(∀u,ze s2.calls u=ze (l.calls.filter qR) u)∧∀vs,XE E fl s2 vs l->XE E fl s1 ((if zC qR l.calls=[] then [126::qV] else [])++vs) l:=by
   by_cases hr:zC qR l.calls=[]
   ·rw[if_pos hr];obtain⟨d1,d2,d3,d4⟩:=ZF (fl:=fl) hE a2 (v:=126::qV) (x:=qV) (t:=true) (cs:=[⟨qV,0⟩]) (by simp[W4.1]) (by simp[Up]) (Jm _) (by rw[hrw];simp[W4.2]) (QH _) (by simp);refine⟨_,d2,by rw[d3,b3];rfl,fun u=>?_,fun vs h=>⟨d1,h⟩⟩
    have hn:l.calls.filter qR=[]:=by
     unfold zC at hr;exact List.map_eq_nil_iff.1 hr
    rw[d4 u,hn,b3];have hrr:ze [⟨qV,0⟩] qV=some ⟨qV,0⟩:=by decide
    by_cases hu:u=qV
    ·subst hu;rw[hrr];rfl
    ·have:ze [⟨qV,0⟩] u=none:=by rw[wK (by exact hu)];rfl
     rw[this,b4 u,if_neg hu];rfl
   ·rw[if_neg hr];refine⟨s1,a2,b3,fun u=>?_,fun vs h=>h⟩
    rw[b4 u];obtain⟨c,r,hcr⟩:=List.exists_cons_of_ne_nil (fun e=>hr (by unfold zC;rw[e];rfl):l.calls.filter qR≠[])
    have hcm:c ∈ l.calls.filter qR:=by rw[hcr];simp
    have hq:=(List.mem_filter.1 hcm).2;simp only[qR,Bool.and_eq_true,decide_eq_true_eq] at hq;have hcc:c=⟨qV,0⟩:=by cases c;simp_all
    by_cases hu':u=qV
    ·subst hu';rw[if_pos rfl];have:=y5 (yg hu qR) hcm;rw[hcc] at this;exact this.symm
    ·rw[if_neg hu'];cases hfc:ze (l.calls.filter qR) u with
     | none=>rfl
     | some d =>
      obtain⟨h5,h6⟩:=vu hfc;have hq2:=(List.mem_filter.1 h6).2;simp only[qR,Bool.and_eq_true,decide_eq_true_eq] at hq2;exact absurd (h5.symm.trans hq2.1) hu'
  obtain⟨s2,e2,e3,e4,e5⟩:=c2;refine e5 _ ?_
  -- own
  have f2:∃s3:GList,zF s3=true∧s3.mode=1∧(∀u,ze s3.calls u=(ze (l.calls.filter qO) u).or (ze (l.calls.filter qR) u))∧∀vs,XE E fl s3 vs l->XE E fl s2 (Kp [] (zC qO l.calls)++vs) l:=by
   by_cases ho:zC qO l.calls=[]
   ·have hn:l.calls.filter qO=[]:=by unfold zC at ho;exact List.map_eq_nil_iff.1 ho
    refine⟨s2,e2,e3,fun u=>by rw[e4 u,hn];rfl,fun vs h=>?_⟩
    unfold Kp;rw[if_pos ho];exact h
   ·obtain⟨w,r,hwr⟩:=List.exists_cons_of_ne_nil ho;have hwm:w ∈ zC qO l.calls:=by rw[hwr];simp
    obtain⟨c,hc1,hc2⟩:=List.mem_map.1 hwm;have hcp:=hpl (hokq qO c hc1);rw[hc2] at hcp
    obtain⟨d1,d2,d3,d4⟩:=ZF (fl:=fl) hE e2 (v:=zx [32] (zC qO l.calls)) (x:=zx [32] (zC qO l.calls)) (t:=false) (cs:=l.calls.filter qO) (hokq qO) (yg hu _)
     (qcZ (by rw[qbR hwr hcp.1.1,hcp.2.1];exact hcp.2.2)) (hjoin qO) (by rw[QG (hent qO)];exact ho) (fun c hc hne=>by
      have:=(List.mem_filter.1 hc).2;simp only[qO,Bool.and_eq_true,decide_eq_true_eq] at this;exact absurd this.2 hne)
    refine⟨_,d2,by rw[d3,e3];rfl,fun u=>?_,fun vs h=>?_⟩
    ·rw[d4 u,e3];cases hfc:ze (l.calls.filter qO) u with
     | none=>simp[e4 u]
     | some d =>
      obtain⟨h5,h6⟩:=vu hfc;have:=(List.mem_filter.1 h6).2;simp only[qO,Bool.and_eq_true,decide_eq_true_eq] at this;have hd:d=⟨u,0⟩:=by cases d;simp_all
      rw[hd];rfl
    ·unfold Kp;rw[if_neg ho];exact⟨d1,h⟩
  obtain⟨s3,g2,g3,g4,g5⟩:=f2;refine g5 _ ?_
  -- what they come to
  have hall:∀u,((ze (l.calls.filter qW) u).or ((ze (l.calls.filter qO) u).or (ze (l.calls.filter qR) u)))=ze l.calls u:=fun u=>by
   rw[Vk hu,Vk hu,Vk hu];cases hfc:ze l.calls u with
   | none=>rfl
   | some c =>
    simp only[Option.filter,qW,qO,qR]
    by_cases k1:c.act=0<;>by_cases k2:c.name=qV<;>simp[k1,k2]
  by_cases hw:zC qW l.calls=[]
  ·have hn:l.calls.filter qW=[]:=by unfold zC at hw;exact List.map_eq_nil_iff.1 hw
   unfold Kp;rw[if_pos hw];refine Jw (by rw[g3,h]) (qc1 hu ((zV _).1 g2).2.2 fun u=>?_)
   rw[g4 u,← hall u,hn];rfl
  ·have hne:∀c ∈ l.calls.filter qW,c.act≠0:=fun c hc=>by
    have:=(List.mem_filter.1 hc).2;simpa[qW] using this
   obtain⟨d1,d2,d3,d4⟩:=ZF (fl:=fl) hE g2 (v:=126::zx [32] (zC qW l.calls)) (x:=zx [32] (zC qW l.calls)) (t:=true) (cs:=l.calls.filter qW) (hokq qW) (yg hu _)
     (Jm _) (hjoin qW) (QH _) (fun c hc hn=>⟨hf c (List.mem_filter.1 hc).1 hn,rfl⟩)
   unfold Kp;rw[if_neg hw];refine⟨d1,?_⟩;refine Jw (by rw[h];exact (d3.trans (by rw[g3];rfl)).symm) (qc1 hu ((zV _).1 d2).2.2 fun u=>?_)
   refine Eq.trans ?_ (d4 u).symm;rw[← hall u,g4 u];cases hfc:ze (l.calls.filter qW) u with
   | none=>rfl
   | some d =>
    obtain⟨h5,h6⟩:=vu hfc;have:=hne d h6;subst h5;simp[gO,this]
 ·rw[if_pos h];have hq:∀c:GCall,qA c=true:=fun _=>rfl
  have hall:l.calls.filter qA=l.calls:=List.filter_eq_self.2 fun c _=>hq c
  obtain⟨d1,d2,d3,d4⟩:=ZF (fl:=fl) hE hz (v:=126::zx [32] (zC qA l.calls)) (x:=zx [32] (zC qA l.calls)) (t:=true) (cs:=l.calls) hok hu (Jm _) (by rw[hjoin qA,hall]) (QH _) (fun c hc hn=>⟨hf c hc hn,rfl⟩)
  refine⟨d1,?_⟩;refine Jw (by rw[h];exact d3.symm) (qc1 hu ((zV _).1 d2).2.2 fun u=>?_)
  rw[d4 u];cases hfc:ze l.calls u with
  | none=>rfl
  | some d =>
   obtain⟨h5,_⟩:=vu hfc;subst h5;have hmm:yX (0:Int) true=2:=rfl
   by_cases k:d.act=0
   ·cases d;simp only at k;subst k;simp[gO,hmm]
   ·simp[gO,k]
end Go.Kc
end
section
/- A policy's lines, as assignments, come to it, without notes. No condition. -/
namespace Go.Kc
variable {E:List UInt8->List (List UInt8)×Int}
def kK(k v:List UInt8):Asg:=⟨[102],2,WT,k,v⟩
abbrev KV:=List UInt8×List UInt8
def xA(kv:List KV):List Asg:=kv.map fun q=>kK q.1 q.2
def qbu:List UInt8:=[121,101,115]
def qc6(p:Pol):List KV:=if p.arches=[] then [] else [(Qw,zx [32] (p.arches.map xU))]
def qdr(p:Pol):List KV:=if p.deny=2147483648 then [] else [(Zx,QJ (wD .u32 p.deny 65535))]
def qdu(p:Pol):List KV:=if p.fmode=2 then [(vz,126::zx [32] (faW p))] else if p.fmode=1 then (if p.fams=[] then [(vz,km)] else [(vz,zx [32] (faW p))]) else []
def qea(p:Pol):List KV:=if p.spaces=0 then [] else [(kSp,126::zx [32] (spW p))]
def yC(k:List UInt8)(is:Bool):List KV:=if is=true then [(k,qbu)] else []
def jO(p:Pol):List KV:=qc6 p++(Xw p.filter).map (zU,·)++qdr p++(Xw p.log).map (Qx,·)++qdu p++qea p++yC kWe p.we++yC kPe p.pe++yC kRt p.rt++yC kNp p.np
def xG(q:KV):List UInt8:=q.1++61::q.2
theorem Qy(k a:List UInt8)(ws:List (List UInt8)):wi k a ws=xG (k,a++zx [32] ws):=by simp[wi,xG]
theorem qgO(p:Pol):Je p=(jO p).map xG:=by
 have hy:∀k b,ZI k b=(yC k b).map xG:=fun k b=>by
  unfold ZI yC;split
  ·simp[Qy,ye,qbu]
  ·rfl
 have ha:arL p=(qc6 p).map xG:=by
  unfold arL qc6;split
  ·rfl
  ·simp[Qy]
 have he:erL p=(qdr p).map xG:=by
  unfold erL qdr;split
  ·rfl
  ·simp[Qy,ye]
 have hf:faL p=(qdu p).map xG:=by
  unfold faL qdu;split
  ·simp[Qy]
  split
  ·split
   ·simp[Qy,Vs]
   ·simp[Qy]
  ·rfl
 have hs:spL p=(qea p).map xG:=by
  unfold spL qea;split
  ·rfl
  ·simp[Qy]
 have hl:∀k l,yy k l=((Xw l).map (k,·)).map xG:=fun k l=>by rw[qma,List.map_map];rfl
 unfold Je jO;simp only[hy,ha,he,hf,hs,hl,List.map_append,List.nil_append]
theorem qtC(q:Pol)(v:List UInt8):doM E q (kK zU v)=({ q with filter:=(zn E q.filter v true).1 },(zn E q.filter v true).2.map (jV (kK zU v))):=rfl
theorem qtD(q:Pol)(v:List UInt8):doM E q (kK Qx v)=({ q with log:=(zn E q.log v false).1 },(zn E q.log v false).2.map (jV (kK Qx v))):=rfl
theorem qtB(q:Pol)(v:List UInt8)(h:(kX v).2=0):doM E q (kK Zx v)=({ q with deny:=(kX v).1 },[]):=by
 have e:doM E q (kK Zx v)=((kN E q Zx v).1,(kN E q Zx v).2.map (jV (kK Zx v))):=rfl
 have e2:kN E q Zx v=({ q with deny:=(kX v).1 },[]):=by
  unfold kN;rw[if_neg (by decide),if_neg (by decide),if_pos rfl,if_pos h]
 rw[e,e2];rfl
theorem qcx(q:Pol)(k v:List UInt8)(h1:qgJ k=false)(h2:qgK k=true):doM E q (kK k v)=((xE q k v).1,(xE q k v).2.map (qN (kK k v))):=by
 unfold doM kK;simp[h1,h2]
theorem qnC:∀(vs:List (List UInt8)) (q:Pol) (l:GList),XE E true q.filter vs l->(xA (vs.map (zU,·))).foldl (doS E) (q,[])=({ q with filter:=l },[])
 | [],q,l,h=>by cases h;rfl
 | v::vs,q,l,h=>by
  have ih:=qnC vs { q with filter:=(zn E q.filter v true).1 } l h.2;show (xA (vs.map (zU,·))).foldl (doS E) (doS E (q,[]) (kK zU v))=_
  have e:doS E (q,[]) (kK zU v)=({ q with filter:=(zn E q.filter v true).1 },[]):=by
   unfold doS;rw[qtC,h.1];rfl
  rw[e,ih]
theorem qnD:∀(vs:List (List UInt8)) (q:Pol) (l:GList),XE E false q.log vs l->(xA (vs.map (Qx,·))).foldl (doS E) (q,[])=({ q with log:=l },[])
 | [],q,l,h=>by cases h;rfl
 | v::vs,q,l,h=>by
  have ih:=qnD vs { q with log:=(zn E q.log v false).1 } l h.2;show (xA (vs.map (Qx,·))).foldl (doS E) (doS E (q,[]) (kK Qx v))=_
  have e:doS E (q,[]) (kK Qx v)=({ q with log:=(zn E q.log v false).1 },[]):=by
   unfold doS;rw[qtD,h.1];rfl
  rw[e,ih]
theorem J3(q:Pol)(k v:List UInt8):(xA [(k,v)]).foldl (doS E) (q,[])=((doM E q (kK k v)).1,(doM E q (kK k v)).2):=by
 show doS E (q,[]) (kK k v)=_;unfold doS;simp
theorem qbs{l:List Int}(hp:l.Pairwise (· < ·)){a:Int}(h:∀x ∈ l,x<a):jl l a true=l++[a]:=by
 have hf:l.filter (fun x=>!decide (x=a))=l:=List.filter_eq_self.2 fun x hx=>by
  have:=h x hx;simp only[Bool.not_eq_true',decide_eq_false_iff_not];omega
 unfold jl;simp only[hf,if_true]
 have hb:bsI l a=l.length:=by
  have h1:=qeu l a;rcases Nat.lt_or_eq_of_le h1 with h2|h2
  ·exact absurd (h _ (List.getElem_mem h2)) ((qdd hp).2 _ h2 (Nat.le_refl _))
  ·exact h2
 rw[hb];simp
theorem qb9{l:List Int}{a:Int}{r:List Int}(h:(l++a::r).Pairwise (· < ·)):l.Pairwise (· < ·)∧(∀x ∈ l,x<a)∧((l++[a])++r).Pairwise (· < ·):=by
 obtain⟨h1,_,h3⟩:=List.pairwise_append.1 h;exact⟨h1,fun x hx=>h3 x hx a (by simp),by simpa using h⟩
theorem qbE{a:Int}(h:0<=a∧a<6):jB (xU a)=(a,0)∧wb (xU a)∧(xU a).head?≠some 126:=by
 have key:∀a ∈ ([0,1,2,3,4,5]:List Int),jB (xU a)=(a,0)∧wb (xU a)∧(xU a).head?≠some 126:=by decide
 exact key a (qc7 h)
theorem qbF:∀(r acc:List Int),(acc++r).Pairwise (· < ·)->(∀a ∈ r,0<=a∧a<6)->(r.map xU).foldl zp (acc,[])=(acc++r,[])
 | [],acc,_,_=>by simp
 | a::r,acc,hp,hr=>by
  obtain⟨h1,h2,h3⟩:=qb9 hp;have hb:=(qbE (hr a (by simp))).1;have ih:=qbF r (acc++[a]) h3 (fun x hx=>hr x (by simp[hx]))
  rw[List.map_cons,List.foldl_cons]
  have e:zp (acc,[]) (xU a)=(acc++[a],[]):=by
   unfold zp;rw[hb];simp[qbs h1 h2]
  rw[e,ih];simp
theorem qsT{p q:Pol}(hq:q.arches=[])(hp:p.arches.Pairwise (· < ·))(hr:∀a ∈ p.arches,0<=a∧a<6):(xA (qc6 p)).foldl (doS E) (q,[])=({ q with arches:=p.arches },[]):=by
 unfold qc6
 by_cases h:p.arches=[]
 ·rw[if_pos h,h];show (q,[])=_;cases q;simp_all
 rw[if_neg h,J3,qcx _ _ _ (by decide) (by decide)]
 have hw:ql (zx [32] (p.arches.map xU))=p.arches.map xU:=QG fun w hw=>by
  obtain⟨a,ha,rfl⟩:=List.mem_map.1 hw;exact (qbE (hr a ha)).2.1
 have e:xE q Qw (zx [32] (p.arches.map xU))=({ q with arches:=p.arches },[]):=by
  unfold xE;rw[if_pos rfl];unfold xO;rw[hw,if_neg (by simpa using h),hq,qbF p.arches [] (by simpa using hp) hr];rfl
 rw[e];rfl
theorem qaH{n:Int}(h:XB n=true):JK (zd n qn)=(n,0)∧wb (zd n qn)∧(zd n qn).head?=some 65:=by
 have key:∀n ∈ qn.map (·.2),JK (zd n qn)=(n,0)∧wb (zd n qn)∧(zd n qn).head?=some 65:=by decide
 exact key n (qdv h)
theorem qdw:∀(r acc:List Int),(acc++r).Pairwise (· < ·)->(∀a ∈ r,XB a=true)->(r.map fun n=>zd n qn).foldl (xn true) (acc,[])=(acc++r,[])
 | [],acc,_,_=>by simp
 | a::r,acc,hp,hr=>by
  obtain⟨h1,h2,h3⟩:=qb9 hp;have hb:=(qaH (hr a (by simp))).1;have ih:=qdw r (acc++[a]) h3 (fun x hx=>hr x (by simp[hx]))
  rw[List.map_cons,List.foldl_cons]
  have e:xn true (acc,[]) (zd a qn)=(acc++[a],[]):=by
   unfold xn;rw[hb];simp[qbs h1 h2]
  rw[e,ih];simp
theorem qp8{p q:Pol}(hq:q.fams=[]∧q.fmode=0)(h:PMay p)(h0:0<=p.fmode):(xA (qdu p)).foldl (doS E) (q,[])=({ q with fams:=p.fams,fmode:=p.fmode },[]):=by
 have hpl:∀w ∈ faW p,wb w:=fun w hw=>by
  obtain⟨a,ha,rfl⟩:=List.mem_map.1 hw;exact (qaH (h.fr a ha)).2.1
 have hw:ql (zx [32] (faW p))=faW p:=QG hpl;have hfold:=qdw p.fams [] (by simpa using h.fp) h.fr;unfold qdu;have hm:=h.mode
 by_cases m2:p.fmode=2
 ·rw[if_pos m2,J3,qcx _ _ _ (by decide) (by decide)]
  have e:xE q vz (126::zx [32] (faW p))=({ q with fams:=p.fams,fmode:=p.fmode },[]):=by
   unfold xE;rw[if_neg (by decide),if_pos rfl];unfold zb
   have hne:ql (126::zx [32] (faW p))≠[km]:=by
    rw[QI];intro hh
    have h1:∀l cur:List UInt8,cur.head?=some 126->(wB l cur).head?.bind List.head?=some 126:=by
     intro l
     induction l with
     | nil => intro cur hc;simp only[wB];split
              ·rename_i e;rw[e] at hc;cases hc
              ·simpa using hc
     | cons c l ih =>
      intro cur hc;simp only[wB];split
      ·split
       ·rename_i e;rw[e] at hc;cases hc
       ·simpa using hc
      ·refine ih _ ?_;cases cur with
       | nil=>cases hc
       | cons x y=>simpa using hc
    have h2:=h1 (zx [32] (faW p)) [126] rfl
    have h3:wB (126::zx [32] (faW p)) []=wB (zx [32] (faW p)) [126]:=by
     simp only[wB];rw[if_neg (by decide)];rfl
    rw[h3] at hh;rw[hh] at h2;revert h2;decide
   rw[if_neg (QH _),if_neg hne];simp only[Jm,hw,hq.1,hq.2];have em:kT 0 true=2:=rfl;rw[em];have et:(true==decide ((2:Int)=2))=true:=by decide
   rw[et];unfold faW;rw[hfold,m2];rfl
  rw[e];rfl
 rw[if_neg m2]
 by_cases m1:p.fmode=1
 ·rw[if_pos m1]
  by_cases hf:p.fams=[]
  ·rw[if_pos hf,J3,qcx _ _ _ (by decide) (by decide)];have hn:ql km=[km]:=by rw[QI];decide
   have e:xE q vz km=({ q with fams:=p.fams,fmode:=p.fmode },[]):=by
    unfold xE;rw[if_neg (by decide),if_pos rfl];unfold zb;rw[hn,if_neg (by simp),if_pos rfl,hf,m1]
   rw[e];rfl
  ·rw[if_neg hf,J3,qcx _ _ _ (by decide) (by decide)];have hfw:faW p≠[]:=by unfold faW;simpa using hf
   obtain⟨w,r,hwr⟩:=List.exists_cons_of_ne_nil hfw;have hwm:w ∈ faW p:=by rw[hwr];simp
   obtain⟨a,ha,hwa⟩:=List.mem_map.1 hwm;have hh:=(qaH (h.fr a ha)).2.2;rw[hwa] at hh;have ht:qZ (zx [32] (faW p))=(zx [32] (faW p),false):=qcZ (by rw[qbR hwr (hpl w hwm).1,hh];decide)
   have hne:faW p≠[km]:=by
    intro e;rw[e] at hwr;have:w=km:=(List.cons.inj hwr).1.symm;rw[this] at hh;revert hh;decide
   have e:xE q vz (zx [32] (faW p))=({ q with fams:=p.fams,fmode:=p.fmode },[]):=by
    unfold xE;rw[if_neg (by decide),if_pos rfl];unfold zb;rw[hw,if_neg hfw,if_neg hne];simp only[ht,hw,hq.1,hq.2];have em:kT 0 false=1:=rfl;rw[em];have et:(false==decide ((1:Int)=2))=true:=by decide
    rw[et];unfold faW;rw[hfold,m1];rfl
   rw[e];rfl
 ·rw[if_neg m1];have m0:p.fmode=0:=by omega
  have hf : p.fams = [] := by rcases hm.2 with h1|h1
                              ·exact absurd m0 h1
                              ·exact h1
  show (q,[])=_;rw[hf,m0];cases q;simp_all
theorem qfS{n:Int}(h:n ∈ qk.map (·.2)):spM (zd n qk)=(n,0)∧wb (zd n qk):=by
 have key:∀n ∈ qk.map (·.2),spM (zd n qk)=(n,0)∧wb (zd n qk):=by decide
 exact key n h
theorem qfT:∀(r:List Int) (acc:Int),(∀a ∈ r,a ∈ qk.map (·.2))->(r.map fun n=>zd n qk).foldl xz (acc,[])=(r.foldl (fun x n=>orI .u64 x n) acc,[])
 | [],_,_=>rfl
 | a::r,acc,hr=>by
  have hb:=(qfS (hr a (by simp))).1;rw[List.map_cons,List.foldl_cons,List.foldl_cons]
  have e:xz (acc,[]) (zd a qk)=(orI .u64 acc a,[]):=by
   unfold xz;rw[hb];simp
  rw[e,qfT r _ (fun x hx=>hr x (by simp[hx]))]
theorem qmv(x:BitVec 64)(i:Nat):x &&& BitVec.twoPow 64 i=0#64∨x &&& BitVec.twoPow 64 i=BitVec.twoPow 64 i:=by
 rw[BitVec.and_twoPow];split
 ·exact .inr rfl
 ·exact .inl rfl
theorem qdY(x:BitVec 64):∀(L:List Int) (y:BitVec 64),(∀n ∈ L,∃i,BitVec.ofInt 64 n=BitVec.twoPow 64 i)->
  (L.filter fun n=>decide (wD .u64 (x.toNat:Int) n≠0)).foldl (fun z n=>orI .u64 z n) (y.toNat:Int)=((L.foldl (fun z n=>z ||| (x &&& BitVec.ofInt 64 n)) y).toNat:Int)
 | [],y,_=>rfl
 | n::L,y,h=>by
  have hw:∀x:BitVec 64,IntKind.wrap .u64 (x.toNat:Int)=x.toNat:=fun x=>Vh (by omega) (by have:=x.isLt;omega)
  have hx:BitVec.ofInt 64 (x.toNat:Int)=x:=by apply BitVec.eq_of_toNat_eq;rw[BitVec.toNat_ofInt];have:=x.isLt;omega
  have hy:BitVec.ofInt 64 (y.toNat:Int)=y:=by apply BitVec.eq_of_toNat_eq;rw[BitVec.toNat_ofInt];have:=y.isLt;omega
  have e1:wD .u64 (x.toNat:Int) n=((x &&& BitVec.ofInt 64 n).toNat:Int):=by
   show IntKind.wrap .u64 ((BitVec.ofInt 64 (x.toNat:Int) &&& BitVec.ofInt 64 n).toNat:Int)=_;rw[hx];exact hw _
  have e2:orI .u64 (y.toNat:Int) n=((y ||| BitVec.ofInt 64 n).toNat:Int):=by
   show IntKind.wrap .u64 ((BitVec.ofInt 64 (y.toNat:Int) ||| BitVec.ofInt 64 n).toNat:Int)=_
   rw[hy];exact hw _
  obtain⟨i,hi⟩:=h n (by simp);have ih:=fun y=>qdY x L y (fun m hm=>h m (by simp[hm]))
  rw[List.filter_cons,List.foldl_cons,e1];rcases qmv x i with hb|hb
  ·rw[hi,hb,if_neg (by simp),ih]
   congr 2;rw[BitVec.or_zero]
  ·rw[hi,hb];have hne:BitVec.twoPow 64 i≠0#64∨BitVec.twoPow 64 i=0#64:=(Decidable.em (BitVec.twoPow 64 i=0#64)).symm;rcases hne with hz|hz
   ·rw[if_pos (by
     simp only[decide_eq_true_eq];intro h0;exact hz (BitVec.eq_of_toNat_eq (Int.ofNat_inj.1 h0))),List.foldl_cons,e2,hi,ih]
   ·rw[hz,if_neg (by simp),ih]
    congr 2;rw[BitVec.or_zero]
theorem qeb{s:Int}(h0:0<=s)(h1:s<18446744073709551616)(h:yH .u64 s 2114060416=0):(wL s).foldl (fun x n=>orI .u64 x n) 0=s:=by
 have hw:∀x:BitVec 64,IntKind.wrap .u64 (x.toNat:Int)=x.toNat:=fun x=>Vh (by omega) (by have:=x.isLt;omega)
 have hs:s=((BitVec.ofInt 64 s).toNat:Int):=by rw[BitVec.toNat_ofInt];omega
 have e2:yH .u64 s 2114060416=(BitVec.ofInt 64 s &&& ~~~ 2114060416#64).toNat:=hw _;rw[e2] at h;generalize BitVec.ofInt 64 s=x at hs h;subst hs;have hx0:x &&& ~~~ 2114060416#64=0#64:=BitVec.eq_of_toNat_eq (Int.ofNat_inj.1 h)
 have e:x=(x &&& 2114060416#64) ||| (x &&& ~~~ 2114060416#64):=by
  rw[← BitVec.and_or_distrib_left,BitVec.or_not_self,BitVec.and_allOnes]
 have m:(2114060416#64)=0#64 ||| 128#64 ||| 131072#64 ||| 33554432#64 ||| 67108864#64 ||| 134217728#64 ||| 268435456#64 ||| 536870912#64 ||| 1073741824#64:=by decide
 rw[hx0,m,BitVec.or_zero] at e
 have key:=qdY x (qk.map (·.2)) 0#64 (by
  intro n hn;have:∀n ∈ qk.map (·.2),BitVec.ofInt 64 n=BitVec.twoPow 64 7∨BitVec.ofInt 64 n=BitVec.twoPow 64 17∨BitVec.ofInt 64 n=BitVec.twoPow 64 25∨BitVec.ofInt 64 n=BitVec.twoPow 64 26∨BitVec.ofInt 64 n=BitVec.twoPow 64 27∨BitVec.ofInt 64 n=BitVec.twoPow 64 28∨BitVec.ofInt 64 n=BitVec.twoPow 64 29∨BitVec.ofInt 64 n=BitVec.twoPow 64 30:=by decide
  rcases this n hn with h|h|h|h|h|h|h|h<;>exact⟨_,h⟩)
 refine Eq.trans (show _=_ from key) ?_
 congr 2
 simp only[qk,List.map_cons,List.map_nil,List.foldl_cons,List.foldl_nil]
 conv=>rhs;rw[e]
 simp only[BitVec.and_or_distrib_left,BitVec.and_zero];rfl
theorem qqc{p q:Pol}(hq:q.spaces=0)(h0:0<=p.spaces∧p.spaces<18446744073709551616)(h:yH .u64 p.spaces 2114060416=0):(xA (qea p)).foldl (doS E) (q,[])=({ q with spaces:=p.spaces },[]):=by
 unfold qea
 by_cases hz:p.spaces=0
 ·rw[if_pos hz,hz];show (q,[])=_;cases q;simp_all
 rw[if_neg hz,J3,qcx _ _ _ (by decide) (by decide)];have hfl:∀n ∈ wL p.spaces,n ∈ qk.map (·.2):=fun n hn=>(List.mem_filter.1 hn).1
 have hw:ql (zx [32] (spW p))=spW p:=QG fun w hw=>by
  obtain⟨n,hn,rfl⟩:=List.mem_map.1 hw;exact (qfS (hfl n hn)).2
 have e:xE q kSp (126::zx [32] (spW p))=({ q with spaces:=p.spaces },[]):=by
  unfold xE;rw[if_neg (by decide),if_neg (by decide),if_pos rfl];unfold zc
  have n1:126::zx [32] (spW p) ∉ xH:=by
   intro hm;have:∀w ∈ xH,w.head?≠some 126:=by decide
   exact this _ hm rfl
  have n2:126::zx [32] (spW p) ∉ zX:=by
   intro hm;have:∀w ∈ zX,w.head?≠some 126:=by decide
   exact this _ hm rfl
  rw[if_neg (QH _),if_neg n1,if_neg n2];simp only[Jm,hw]
  have hf:(spW p).foldl xz (0,[])=(p.spaces,[]):=by
   unfold spW;rw[qfT _ _ hfl,qeb h0.1 h0.2 h]
  rw[hf];simp[qbf]
 rw[e];rfl
theorem qp7{p q:Pol}(hq:q.deny=2147483648)(h:XK p.deny=true):(xA (qdr p)).foldl (doS E) (q,[])=({ q with deny:=p.deny },[]):=by
 unfold qdr
 by_cases hz:p.deny=2147483648
 ·rw[if_pos hz,hz];show (q,[])=_;cases q;simp_all
 rw[if_neg hz,J3];simp only[XK,Bool.or_eq_true,decide_eq_true_eq,Bool.and_eq_true] at h;obtain⟨h1,h2⟩:327680<=p.deny∧p.deny<=331775:=by omega
 obtain⟨e1,_⟩:=Vi (a:=p.deny) (by omega) (by omega);have e4:p.deny.tmod 65536=p.deny-327680:=by rw[Int.tmod_eq_emod_of_nonneg (by omega)];omega
 obtain⟨u,hu⟩:∃u:Nat,p.deny-327680=(u:Int):=⟨(p.deny-327680).toNat,by omega⟩
 obtain⟨g1,g2,g3,_⟩:=Wa u (by omega);rw[e1,e4,hu]
 have e:kX (QJ (u:Int))=(327680+(u:Int),0):=by
  unfold kX;rw[if_neg (by rintro (h|h);exact g3.1 h;exact g2 h),g1]
  rfl
 rw[qtB _ _ (by rw[e]),e];have:327680+(u:Int)=p.deny:=by omega
 simp only[this]
theorem W8:zH qbu=(some true,[]):=by
 unfold zH;rw[if_neg (by decide),if_neg (by decide),if_pos (by decide)]
theorem qqd{q:Pol}(b:Bool)(hq:q.we=false):(xA (yC kWe b)).foldl (doS E) (q,[])=({ q with we:=b },[]):=by
 unfold yC;cases b with
 | false =>
  rw[if_neg (by decide)];show (q,[])=_;cases q;simp_all
 | true =>
  rw[if_pos rfl,J3,qcx _ _ _ (by decide) (by decide)];have e:xE q kWe qbu=Kn q qbu:=by unfold xE;simp (decide:=true)
  rw[e];unfold Kn;rw[W8];rfl
theorem qqa{q:Pol}(b:Bool)(hq:q.pe=false):(xA (yC kPe b)).foldl (doS E) (q,[])=({ q with pe:=b },[]):=by
 unfold yC;cases b with
 | false =>
  rw[if_neg (by decide)];show (q,[])=_;cases q;simp_all
 | true =>
  rw[if_pos rfl,J3,qcx _ _ _ (by decide) (by decide)];have e:xE q kPe qbu=Kl q qbu:=by unfold xE;simp (decide:=true)
  rw[e];unfold Kl;rw[W8];rfl
theorem qqb{q:Pol}(b:Bool)(hq:q.rt=false):(xA (yC kRt b)).foldl (doS E) (q,[])=({ q with rt:=b },[]):=by
 unfold yC;cases b with
 | false =>
  rw[if_neg (by decide)];show (q,[])=_;cases q;simp_all
 | true =>
  rw[if_pos rfl,J3,qcx _ _ _ (by decide) (by decide)];have e:xE q kRt qbu=Km q qbu:=by unfold xE;simp (decide:=true)
  rw[e];unfold Km;rw[W8];rfl
theorem qp9{q:Pol}(b:Bool)(hq:q.np=false):(xA (yC kNp b)).foldl (doS E) (q,[])=({ q with np:=b },[]):=by
 unfold yC;cases b with
 | false =>
  rw[if_neg (by decide)];show (q,[])=_;cases q;simp_all
 | true =>
  rw[if_pos rfl,J3,qcx _ _ _ (by decide) (by decide)];have e:xE q kNp qbu=Kk q qbu:=by unfold xE;simp (decide:=true)
  rw[e];unfold Kk;rw[W8];rfl
theorem qbQ(hE:ku E){p:Pol}(h:PI p):(xA (jO p)).foldl (doS E) (QC,[])=(p,[]):=by
 have hm:=h.may;unfold jO xA;simp only[List.map_append,List.foldl_append];have a1:=qsT (E:=E) (p:=p) (q:=QC) rfl hm.ap hm.ar;unfold xA at a1;rw[a1];have a2:=qnC (E:=E) (Xw p.filter) { QC with arches:=p.arches } p.filter (qb0 hE hm.fil h.f0 (fun _ _ _=>rfl))
 unfold xA at a2;rw[a2];have a3:=qp7 (E:=E) (p:=p) (q:={ QC with arches:=p.arches,filter:=p.filter }) rfl hm.deny;unfold xA at a3;rw[a3];have a4:=qnD (E:=E) (Xw p.log) { QC with arches:=p.arches,filter:=p.filter,deny:=p.deny } p.log (qb0 hE hm.log h.l0 (fun c hc hn=>absurd (hm.own c hc) hn))
 unfold xA at a4;rw[a4];have a5:=qp8 (E:=E) (p:=p) (q:={ QC with arches:=p.arches,filter:=p.filter,deny:=p.deny,log:=p.log }) ⟨rfl,rfl⟩ hm h.m0;unfold xA at a5;rw[a5];have a6:=qqc (E:=E) (p:=p) (q:={ QC with arches:=p.arches,filter:=p.filter,deny:=p.deny,log:=p.log,fams:=p.fams,fmode:=p.fmode }) rfl h.s0 hm.sp;unfold xA at a6;rw[a6];have a7:=qqd (E:=E) (q:={ QC with arches:=p.arches,filter:=p.filter,deny:=p.deny,log:=p.log,fams:=p.fams,fmode:=p.fmode,spaces:=p.spaces }) p.we rfl;unfold xA at a7;rw[a7];have a8:=qqa (E:=E) (q:={ QC with arches:=p.arches,filter:=p.filter,deny:=p.deny,log:=p.log,fams:=p.fams,fmode:=p.fmode,spaces:=p.spaces,we:=p.we }) p.pe rfl;unfold xA at a8;rw[a8];have a9:=qqb (E:=E) (q:={ QC with arches:=p.arches,filter:=p.filter,deny:=p.deny,log:=p.log,fams:=p.fams,fmode:=p.fmode,spaces:=p.spaces,we:=p.we,pe:=p.pe }) p.rt rfl;unfold xA at a9;rw[a9];have a10:=qp9 (E:=E) (q:={ QC with arches:=p.arches,filter:=p.filter,deny:=p.deny,log:=p.log,fams:=p.fams,fmode:=p.fmode,spaces:=p.spaces,we:=p.we,pe:=p.pe,rt:=p.rt }) p.np rfl;unfold xA at a10;rw[a10]
end Go.Kc
end
section
/- Lines read as assignments; how long they are. Condition: the functions' texts are these. -/
namespace Go.Kc
variable {P:Program} {f:Nat}
theorem qb6:∀{l t:List (List UInt8)},l.Nodup->(∀x ∈ l,x ∈ t)->Lib.lens l<=Lib.lens t
 | [],_,_,_=>by simp[Lib.lens]
 | x::l,t,hn,hs=>by
  have hn':=List.nodup_cons.1 hn;have hx:=hs x List.mem_cons_self;have h1:=qb6 (t:=t.erase x) hn'.2 (fun y hy=>(List.mem_erase_of_ne (fun (e:y=x)=>hn'.1 (by rw[← e];exact hy))).2 (hs y (List.mem_cons_of_mem _ hy)))
  have h2:∀{t:List (List UInt8)},x ∈ t->Lib.lens t=x.length+Lib.lens (t.erase x):=by
   intro t
   induction t with
   | nil=>intro h;cases h
   | cons y t ih =>
    intro h
    by_cases e:y=x
    ·subst e;simp[Lib.lens]
    ·rw[List.erase_cons_tail (by simpa using e)]
     have := ih (by rcases List.mem_cons.1 h with h|h
                    ·exact absurd h.symm e
                    ·exact h)
     simp only[Lib.lens,List.map_cons,List.sum_cons] at this ⊢;omega
  have h3:=h2 hx;simp only[Lib.lens,List.map_cons,List.sum_cons] at h1 h3 ⊢;omega
theorem qiZ:∀xs:List (List UInt8),(zx [32] xs).length<=Lib.lens xs+xs.length
 | []=>by simp[Vs]
 | x::r=>by
  show (Lib.join (x::r) [32]).length<=_;rw[Lib.join_length,List.length_singleton,List.length_cons,Nat.one_mul];omega
theorem qfq(q:GCall->Bool):∀cs:List GCall,(∀c ∈ cs,okC c=true)->Lib.lens (zC q cs)<=Lib.lens (cs.map (·.name))+13*cs.length
 | [],_=>by simp[zC,Lib.lens]
 | c::cs,h=>by
  have ih:=qfq q cs fun d hd=>h d (by simp[hd])
  have hc:=h c (by simp);simp only[okC,Bool.and_eq_true] at hc;have ht:=(qbl hc.1 hc.2).2.2;unfold zC at ih ⊢;rw[List.filter_cons];split
  ·simp only[Lib.lens,List.map_cons,List.sum_cons,List.length_cons] at ih ⊢;omega
  ·simp only[Lib.lens,List.map_cons,List.sum_cons,List.length_cons] at ih ⊢;omega
theorem qiu{l:GList}(h:zF l=true)(q:GCall->Bool):(zx [32] (zC q l.calls)).length<=850:=by
 obtain⟨_,h1,h2⟩:=(zV l).1 h;have hl:=JA h
 have hs:=qb6 (l:=l.calls.map (·.name)) (t:=zm.map (·.1)) (List.pairwise_map.2 (List.Pairwise.imp (R:=fun a b:GCall=>ltS a.name b.name=true) (fun hab=>Zb hab) h2)) (by
  intro x hx;obtain⟨c,hc,rfl⟩:=List.mem_map.1 hx;have:=h1 c hc;simp only[okC,Bool.and_eq_true] at this;exact Wh this.1)
 have e:Lib.lens (zm.map (·.1))=281:=by decide
 have h3:=qfq q l.calls h1;have h4:=qiZ (zC q l.calls);have h5:=XL q l.calls;omega
theorem qbZ{l:GList}(h:zF l=true):(Xw l).length<=4∧∀v ∈ Xw l,v.length<=900:=by
 have hj:=fun q=>qiu h q
 have ho:∀(a:List UInt8) q,a.length<=1->(Kp a (zC q l.calls)).length<=1∧∀v ∈ Kp a (zC q l.calls),v.length<=900:=fun a q ha=>by
  unfold Kp;split
  ·exact⟨by simp,fun v hv=>by cases hv⟩
  ·refine⟨by simp,fun v hv=>?_⟩
   rw[List.mem_singleton] at hv;subst hv;have:=hj q;rw[List.length_append];omega
 unfold Xw;split
 ·refine⟨by simp,fun v hv=>?_⟩
  rw[List.mem_singleton] at hv;subst hv;have:=hj qA;rw[List.length_cons];omega
 split
 ·obtain⟨o1,o2⟩:=ho [] qO (by simp);obtain⟨w1,w2⟩:=ho [126] qW (by simp);refine⟨?_,fun v hv=>?_⟩
  ·simp only[List.length_append,List.length_singleton];have:(if zC qR l.calls=[] then [126::qV] else []).length<=1:=by split<;>simp
   omega
  ·simp only[List.mem_append] at hv;rcases hv with ((hv|hv)|hv)|hv
   ·rw[List.mem_singleton] at hv;subst hv;decide
   ·split at hv
    ·rw[List.mem_singleton] at hv;subst hv;decide
    ·cases hv
   ·exact o2 v hv
   ·exact w2 v hv
 ·exact⟨by simp,fun v hv=>by cases hv⟩
def Ko(q:KV):Prop:=61 ∉ q.1∧q.1.length<=100∧q.2.length<=1000
theorem qdR{p:Pol}(h:PI p):(jO p).length<=20∧∀q ∈ jO p,Ko q:=by
 have hm:=h.may;obtain⟨l1,l2,_,_⟩:=hm.lens;obtain⟨f1,f2⟩:=qbZ hm.fil;obtain⟨g1,g2⟩:=qbZ hm.log
 have one:∀{k v:List UInt8},61 ∉ k->k.length<=100->v.length<=1000->∀q ∈ [(k,v)],Ko q:=fun {k v} a b c q hq=>by
  rw[List.mem_singleton] at hq;subst hq;exact⟨a,b,c⟩
 have nil:∀q ∈ ([]:List KV),Ko q:=fun q hq=>by cases hq
 have ha:(qc6 p).length<=1∧∀q ∈ qc6 p,Ko q:=by
  unfold qc6;split
  ·exact⟨by simp,nil⟩
  ·refine⟨by simp,one (by decide) (by decide) ?_⟩
   have:=Ja [32] (m:=21) (xs:=p.arches.map xU) fun x hx=>by
    obtain⟨n,_,rfl⟩:=List.mem_map.1 hx;exact qbD n
   simp only[List.length_map,List.length_singleton] at this;omega
 have he:(qdr p).length<=1∧∀q ∈ qdr p,Ko q:=by
  unfold qdr;split
  ·exact⟨by simp,nil⟩
  ·exact⟨by simp,one (by decide) (by decide) (by have:=WI (n:=wD .u32 p.deny 65535) (Wz _ _).1;omega)⟩
 have hfj:(zx [32] (faW p)).length<=200:=by
  have:=Ja [32] (m:=21) (xs:=faW p) fun x hx=>by
   obtain⟨n,_,rfl⟩:=List.mem_map.1 hx;exact WZ n (by decide)
  unfold faW at *;simp only[List.length_map,List.length_singleton] at this;omega
 have hf:(qdu p).length<=1∧∀q ∈ qdu p,Ko q:=by
  unfold qdu;split
  ·exact⟨by simp,one (by decide) (by decide) (by rw[List.length_cons];omega)⟩
  split
  ·split
   ·exact⟨by simp,one (by decide) (by decide) (by decide)⟩
   ·exact⟨by simp,one (by decide) (by decide) (by omega)⟩
  ·exact⟨by simp,nil⟩
 have hs:(qea p).length<=1∧∀q ∈ qea p,Ko q:=by
  unfold qea;split
  ·exact⟨by simp,nil⟩
  ·refine⟨by simp,one (by decide) (by decide) ?_⟩
   have:=Ja [32] (m:=21) (xs:=spW p) fun x hx=>by
    obtain⟨n,_,rfl⟩:=List.mem_map.1 hx;exact WZ n (by decide)
   have h8:=XN p.spaces;unfold spW at *;simp only[List.length_map,List.length_singleton] at this;rw[List.length_cons];omega
 have hy:∀k b,61 ∉ k->k.length<=100->(yC k b).length<=1∧∀q ∈ yC k b,Ko q:=fun k b h1 h2=>by
  unfold yC;split
  ·exact⟨by simp,one h1 h2 (by decide)⟩
  ·exact⟨by simp,nil⟩
 obtain⟨y1,z1⟩:=hy kWe p.we (by decide) (by decide);obtain⟨y2,z2⟩:=hy kPe p.pe (by decide) (by decide);obtain⟨y3,z3⟩:=hy kRt p.rt (by decide) (by decide);obtain⟨y4,z4⟩:=hy kNp p.np (by decide) (by decide)
 have hl:∀k (vs:List (List UInt8)),61 ∉ k->k.length<=100->(∀v ∈ vs,v.length<=900)->∀q ∈ vs.map (fun v=>((k,v):KV)),Ko q:=fun k vs h1 h2 h3 q hq=>by
  obtain⟨v,hv,rfl⟩:=List.mem_map.1 hq;exact⟨h1,h2,by have:=h3 v hv;show v.length<=1000;omega⟩
 unfold jO;refine⟨?_,fun q hq=>?_⟩
 ·simp only[List.length_append,List.length_map];omega
 ·simp only[List.mem_append] at hq;rcases hq with ((((((((hq|hq)|hq)|hq)|hq)|hq)|hq)|hq)|hq)|hq
  ·exact ha.2 q hq
  ·exact hl zU _ (by decide) (by decide) f2 q hq
  ·exact he.2 q hq
  ·exact hl Qx _ (by decide) (by decide) g2 q hq
  ·exact hf.2 q hq
  ·exact hs.2 q hq
  ·exact z1 q hq
  ·exact z2 q hq
  ·exact z3 q hq
  ·exact z4 q hq
def yw:IFn:=⟨[.cell 4 5 true],.seq (.r [.q 4 (.alloc [.s [],.i .i64 0,.s [],.s [],.s []])]) (.seq (.r [.n 5 0,.n 6 1,.q 7 (.build [.s [],.i .i64 0,.s [],.s [],.s []] [(0,1,(.c (.s [102]))),(1,1,(.k 2)),(2,1,(.c (.s [83,101,114,118,105,99,101]))),(3,1,(.t 5)),(4,1,(.t 6))]),.u (.store 5 (.t 4) (.t 7))]) (.ret))⟩
theorem qup(hc:qj P f yw=true)(k v:List UInt8):qc P f [.s k,.s v] (.agg (xl (kK k v))):=by
 refine qc.mk hc rfl ?_;simp only[yw,vI,simprocAttr];simp only[↓vS,vT,simprocAttr];simp[vZ,xl,kK,WT]
theorem ql9{q:KV}(h:61 ∉ q.1):(∀j,j<q.1.length->∃c,(xG q)[j]?=some c∧c≠61)∧(xG q)[q.1.length]?=some 61∧(xG q).take q.1.length=q.1∧(xG q).drop (q.1.length+1)=q.2∧(xG q).length=q.1.length+1+q.2.length:=by
 unfold xG;refine⟨fun j hj=>⟨q.1[j],by rw[List.getElem?_append_left hj,List.getElem?_eq_getElem hj],fun e=>h (e ▸ List.getElem_mem hj)⟩,by simp,by simp,by simp,by simp;omega⟩
def wQ(a:Nat):IFn:=⟨[.tmp 2,.tmp 3],.seq (.r [.m 2 .N,.m 3 .F]) (.seq (.r [.m 4 .N]) (.seq (.seq (.r [.m 5 (.k 0)]) (.blk 0 (.loop (.seq (.seq (.r [.n 8 5,.n 9 0,.e 10 9,.s 11 8 10]) (.cond (.t 11) (.skip) (.exit 0))) (.seq (.blk 1 (.seq (.r [.q 6 (.mov (.c (.i .i64 (-1))))]) (.seq (.seq (.r [.m 7 (.k 0)]) (.blk 2 (.loop (.seq (.seq (.r [.n 14 7,.n 15 0,.n 16 5,.i 17 1 15 16,.d 18 17,.q 19 (.len true (.t 18)),.s 20 14 19,.n 21 20,.y 22 6 21,.g 23 (.bin .lss (.t 22) (.k 0)) 21 true,.p 24 21 23]) (.cond (.t 24) (.skip) (.exit 2))) (.seq (.blk 3 (.seq (.r [.n 27 0,.n 28 5,.i 29 1 27 28,.d 30 29,.n 31 7,.q 32 (.idxS (.t 30) (.t 31)),.q 33 (.bin .eql (.t 32) (.c (.i .u8 61)))]) (.cond (.t 33) (.r [.n 34 7,.n 6 34]) (.skip)))) (.r [.n 25 7,.a 26 25 1,.n 7 26])))))) (.seq (.seq (.r [.n 35 6,.w 36 .lss 35 0]) (.cond (.t 36) (.seq (.r [.m 2 .N,.m 3 .F]) (.ret)) (.skip))) (.reg true [.n 37 4,.n 38 0,.n 39 5,.i 40 1 38 39,.d 41 40,.n 42 6,.q 43 (.slcStr (.t 41) none (some (.t 42))),.n 44 0,.n 45 5,.i 46 1 44 45,.d 47 46,.n 48 6,.a 49 48 1,.q 50 (.slcStr (.t 47) (some (.t 49)) none),.l 51 a [.t 43,.t 50],.q 52 (.buildS 1 [.s [],.i .i64 0,.s [],.s [],.s []] [(0,5,(.t 51))]),.q 53 (.app 5 72 true (.t 37) (.t 52)),.n 4 53]))))) (.r [.n 12 5,.a 13 12 1,.n 5 13])))))) (.seq (.r [.n 54 4,.n 2 54,.m 3 .T]) (.ret))))⟩
def qdg(P:Program)(f:Nat):Prop:=∀kvs:List KV,kvs.length<=100->(∀q ∈ kvs,Ko q)->Own P f [.fz kvs.length (rS (kvs.map xG))] (.tup [.own 0 kvs.length,.b true]) [.cells 5 true true (rA (xA kvs))]
theorem qkE{g:Nat}(hc:qj P f (wQ g)=true)(hg:∀k v,qc P g [.s k,.s v] (.agg (xl (kK k v)))):qdg P f:=by
 intro kvs hl hok;refine Own.mk hc (by simp[qt,clo,qi]) ?_;simp only[wQ,vI,simprocAttr];simp only[↓vS,vT,simprocAttr];refine SL.loop (α:=Nat) (fun j=>[(0,.fz kvs.length (rS (kvs.map xG))),(4,.own 0 j),(5,.i .i64 j)]) (fun j=>[.cells 5 true true (rA (xA (kvs.take j)))]) (fun j=>j<=kvs.length) (fun j=>kvs.length-j) 0 [99] ?_ ?_ ?_ rfl ?_ ?_
 ·simp[vw,qi]
 ·simp[vw,xA,rA]
 ·simp
 ·exact Nat.zero_le _
 rintro j hj G ih;simp only[vI,simprocAttr];have hlm:(kvs.map xG).length=kvs.length:=List.length_map _
 by_cases hlt:j<kvs.length
 ·have hx:kvs[j]?=some kvs[j]:=List.getElem?_eq_getElem hlt;have hxm:(kvs.map xG)[j]?=some (xG kvs[j]):=by rw[List.getElem?_map,hx];rfl
  have hw:IntKind.wrap .i64 ((j:Int)+1)=((j+1:Nat):Int):=by rw[qB (by omega) (by omega)];omega
  obtain⟨q1,q2,q3⟩:=hok _ (List.getElem_mem hlt);obtain⟨a1,a2,a3,a4,a5⟩:=ql9 q1;have hg1:=hg kvs[j].1 kvs[j].2;have ht:xA (kvs.take (j+1))=xA (kvs.take j)++[kK kvs[j].1 kvs[j].2]:=by unfold xA;rw[List.take_add_one,hx,List.map_append];rfl
  have ih2:=ih (j+1);rw[ht] at ih2;generalize xG kvs[j]=s at a1 a2 a3 a4 a5 hxm;have hAl:(xA (kvs.take j)).length=j:=by simp[xA];omega
  generalize kvs[j]=kv at q1 q2 q3 a1 a2 a3 a4 a5 hg1 ih2;generalize xA (kvs.take j)=A at hAl ih2 ⊢;simp only[↓vS,vT,simprocAttr,hlt];refine SL.loop (α:=Nat) (fun k=>[(0,.fz kvs.length (rS (kvs.map xG))),(4,.own 0 j),(5,.i .i64 j),(6,.i .i64 (if k<=kv.1.length then -1 else (kv.1.length:Nat))),(7,.i .i64 k)]) (fun _=>[.cells 5 true true (rA A)]) (fun k=>k<=kv.1.length+1) (fun k=>kv.1.length+1-k) 0 [0] ?_ ?_ ?_ rfl ?_ ?_
  ·simp[vw,qi]
  ·simp[vw,qa,xT]
  ·simp
  ·exact Nat.zero_le _
  rintro k hk G2 ih3;simp only[vI,simprocAttr]
  by_cases hk1:k<=kv.1.length
  ·have hks:k<s.length:=by omega
   have hwk:IntKind.wrap .i64 ((k:Int)+1)=((k+1:Nat):Int):=by rw[qB (by omega) (by omega)];omega
   rcases Nat.lt_or_eq_of_le hk1 with hk2|hk2
   ·obtain⟨c,hc1,hc2⟩:=a1 k hk2;have hcn:¬(c.toNat:Int)=61:=fun e=>hc2 (by apply UInt8.toNat_inj.1;show c.toNat=61;omega)
    simp (decide:=true) only [↓vS,vT,simprocAttr,hlt,hk1,hks,Nat.mul_one,Z8,hxm,Option.map_some,hc1,hcn,hwk,if_true];have ih4:=ih3 (k+1);rw[if_pos (by omega)] at ih4;refine ih4 (by omega) (by omega) _ _ (Wk.mk _ _ [0] ?_ ?_ ?_ rfl)
    ·simp[vw,qi]
    ·simp[vw,qa,xT]
    ·simp
   ·subst hk2;have h61:((61:UInt8).toNat:Int)=61:=rfl;simp (decide:=true) only [↓vS,vT,simprocAttr,hlt,hk1,hks,Nat.mul_one,Z8,hxm,Option.map_some,a2,h61,hwk,if_true];have ih4:=ih3 (kv.1.length+1);rw[if_neg (by omega)] at ih4;refine ih4 (by omega) (by omega) _ _ (Wk.mk _ _ [0] ?_ ?_ ?_ rfl)
    ·simp[vw,qi]
    ·simp[vw,qa,xT]
    ·simp
  ·have hn:¬((kv.1.length:Nat):Int)<0:=by omega
   have hk3:¬k<kv.1.length:=by omega
   have hw2:IntKind.wrap .i64 ((kv.1.length:Int)+1)=((kv.1.length+1:Nat):Int):=by rw[qB (by omega) (by omega)];omega
   have e1:kv.1.length<=s.length:=by omega
   have e2:kv.1.length+1<=s.length:=by omega
   have hr1:j+1<=qf:=by simp only[qf];omega
   have hr2:(j+1)*72<=qf:=by simp only[qf];omega
   have hap:rA A++xl (kK kv.1 kv.2)=rA (A++[kK kv.1 kv.2]):=by unfold rA;rw[List.flatMap_append,List.flatMap_cons,List.flatMap_nil,List.append_nil]
   have hlr:(rA A).length=j*5:=by rw[VE,hAl]
   clear ih3;simp only[if_neg hk1];have e3:s.take s.length=s:=List.take_length
   by_cases hks:k<s.length
   ·simp (decide:=true) only [↓vS,vT,simprocAttr,hlt,hks,hn,Nat.mul_one,Z8,hxm,Option.map_some];refine zQ ?_;simp (decide:=true) only [↓vS,vT,simprocAttr,hlt,Nat.mul_one,Z8,hxm,Option.map_some,e1,e2,a3,a4,hw2,List.drop_zero,List.take_length];refine hg1.pc ?_;simp (decide:=true) only [↓vS,vT,simprocAttr,xl,kK,hr1,hr2,hlr,hw] at hap ⊢;simp (decide:=true) only [↓vS,vT,simprocAttr,hap,hw];refine ih2 (by omega) (by omega) _ _ (Wk.mk _ _ [2] ?_ ?_ ?_ rfl)
    ·simp[vw,qi]
    ·simp[vw,qa,xT,kK]
    ·simp
   ·simp (decide:=true) only [↓vS,vT,simprocAttr,hlt,hks,hn,Nat.mul_one,Z8,hxm,Option.map_some];refine zQ ?_;simp (decide:=true) only [↓vS,vT,simprocAttr,hlt,Nat.mul_one,Z8,hxm,Option.map_some,e1,e2,a3,a4,hw2,List.drop_zero,List.take_length];refine hg1.pc ?_;simp (decide:=true) only [↓vS,vT,simprocAttr,xl,kK,hr1,hr2,hlr,hw] at hap ⊢;simp (decide:=true) only [↓vS,vT,simprocAttr,hap,hw];refine ih2 (by omega) (by omega) _ _ (Wk.mk _ _ [2] ?_ ?_ ?_ rfl)
    ·simp[vw,qi]
    ·simp[vw,qa,xT,kK]
    ·simp
 ·have hj':j=kvs.length:=by omega
  subst hj';clear ih;rw[List.take_length];simp (decide:=true) only [↓vS,vT,simprocAttr,hlt];intro _;refine⟨[0],?_⟩;simp[vw,qa,xT]
end Go.Kc
end
section
/- PolicyBack and PolicyBehind: what the laws answer. Condition: the functions' texts are these. -/
namespace Go.Kc
variable {P:Program} {f:Nat} {E:List UInt8->List (List UInt8)×Int}
theorem qdg.pure(h:qdg P f)(kvs:List KV)(hl:kvs.length<=100)(hok:∀q ∈ kvs,Ko q):qc P f [.fz kvs.length (rS (kvs.map xG))] (.tup [.fz kvs.length (rA (xA kvs)),.b true]):=by
 refine (h kvs hl hok).pure (by simp[qt,clo,qi]) ?_;simp only[H0,vJ,simprocAttr];simp[vZ,vP,Tr.get_set,qE xT,zW xT,Xb,shv];intro h0;rw[h0];rfl
theorem WC(kvs:List KV):(xA kvs).length=kvs.length:=by simp[xA]
theorem qc9{kvs:List KV}(h:∀q ∈ kvs,Ko q):∀a ∈ xA kvs,a.val.length<=1000:=fun a ha=>by
 obtain⟨q,hq,rfl⟩:=List.mem_map.1 ha;exact (h q hq).2.2
theorem qdS{p:Pol}(h:PI p):ql8 p = .tup [.fz (jO p).length (rS ((jO p).map xG)),.i .i64 0]:=by
 unfold ql8;rw[if_pos ((qdV p).2 h.may),qgO,List.length_map]
theorem qaL{l:List Asg}(hl:l.length<=90)(hv:∀a ∈ l,a.val.length<=1000):(zM E l).2.length<=100000:=by
 have:=qcw E l (QC,[]) hv;unfold zM;simp only[List.length_nil] at this;omega
def wg(a b c d e g h i:Nat):IFn:=⟨[.tmp 2],.seq (.r [.m 2 .F]) (.seq (.seq (.r [.n 11 0,.l 12 a [.t 11]]) (.cond (.t 12) (.seq (.r [.l 13 b [],.n 2 13]) (.ret)) (.skip))) (.seq (.r [.n 15 0,.l 16 c [.t 15],.n 14 16,.x 17 14 0,.x 18 14 1,.q 3 (.alloc [.nils,.i .u8 0,.nils,.i .u32 0,.i .u8 0,.nils,.nils,.i .u8 0,.i .u64 0,.b false,.b false,.b false,.b false]),.u (.store 13 (.t 3) (.t 17)),.n 4 18]) (.seq (.seq (.r [.n 19 4,.l 20 d [.t 19]]) (.cond (.t 20) (.seq (.r [.v 21 13 3,.q 22 (.build [.nils,.i .u8 0,.nils,.i .u32 0,.i .u8 0,.nils,.nils,.i .u8 0,.i .u64 0,.b false,.b false,.b false,.b false] []),.l 23 e [.t 21,.t 22],.n 24 23,⟨(some 25),.callF b [],(some (24,true))⟩,.p 26 24 25,.n 2 26]) (.ret)) (.skip))) (.seq (.r [.v 28 13 3,.l 29 g [.t 28],.n 27 29,.x 30 27 0,.x 31 27 1,.n 5 30,.n 6 31]) (.seq (.r [.n 33 5,.l 34 h [.t 33],.n 32 34,.x 35 32 0,.x 36 32 1,.n 7 35,.n 8 36]) (.seq (.r [.n 38 7,.l 39 c [.t 38],.n 37 39,.x 40 37 0,.x 41 37 1,.q 9 (.alloc [.nils,.i .u8 0,.nils,.i .u32 0,.i .u8 0,.nils,.nils,.i .u8 0,.i .u64 0,.b false,.b false,.b false,.b false]),.u (.store 13 (.t 9) (.t 40)),.n 10 41]) (.seq (.r [.v 42 13 3,.l 43 i [.t 42],.n 44 43,.y 45 6 44,.g 46 (.bin .eql (.t 45) (.k 0)) 44 true,.p 47 44 46,.n 48 47,.y 49 8 48,.p 50 48 49,.n 51 50,.g 52 (.loadN 13 (.t 3)) 51 true,.g 53 (.loadN 13 (.t 9)) 51 true,⟨(some 54),.callF e [.t 52,.t 53],(some (51,true))⟩,.p 55 51 54,.n 56 55,.y 57 10 56,.g 58 (.len false (.t 57)) 56 true,.g 59 (.bin .eql (.t 58) (.k 0)) 56 true,.p 60 56 59,.n 61 60,⟨(some 62),.callF b [],(some (61,true))⟩,.p 63 61 62,.n 2 63]) (.ret))))))))⟩
section
variable {g1 g2 g3 g4 g5 g6 g7 g8:Nat}
theorem policyBack(hE:ku E)(hc:qj P f (wg g1 g2 g3 g4 g5 g6 g7 g8)=true)(h1:∀l,qc P g1 [.fz l.length (rA l)] (.b (j0 l)))(h2:qc P g2 [] (.b true))(h3:qoi E P g3)(h4:∀l:List GNote,l.length<=qf->qc P g4 [.fz l.length (rN l)] (.b (jZ l)))
  (h5:qcn P g5) (h6:∀p,PolOk p->(Wj p=true->LinOk p)->qc P g6 [.agg (qo p)] (ql8 p)) (h7:qdg P g7) (h8:∀p,PolOk p->qc P g8 [.agg (qo p)] (.b (Wj p))) (l:List Asg):qc P f [.fz l.length (rA l)] (.b true):=by
 refine qc.mk hc (by simp[qt,clo,xT]) ?_;simp only[wg,vI,simprocAttr];simp only[↓vS,vT,simprocAttr];refine (h1 l).sc ?_;cases hG:j0 l with
 | true =>
  simp only[↓vS,vT,simprocAttr];refine h2.sc ?_;simp only[↓vS,vT,simprocAttr];simp[vZ]
 | false =>
 obtain⟨hl,hv,_⟩:=qaQ hG;have hlen:=qaL (E:=E) (by omega) hv;have k3:=h3 l (by omega) hv;have hinv:PI (zM E l).1:=WH hE _ _ PI.new;cases hf:jZ (zM E l).2 with
 | true =>
  have e:kM E l=(y7,(zM E l).2):=by unfold kM;rw[if_pos hf]
  rw[e] at k3;have k4:=h4 (zM E l).2 (by simp only[qf];omega);rw[hf] at k4
  have k5:qc P g5 [.agg (qo y7),.agg [.nils,.i .u8 0,.nils,.i .u32 0,.i .u8 0,.nils,.nils,.i .u8 0,.i .u64 0,.b false,.b false,.b false,.b false]] (.b true):=by
   have:=h5 y7 y7 ⟨by decide,by decide,by decide,by decide⟩
   rw[Xa] at this;exact this.coe fun h=>by simp[vZ,qo,y7,rI,rC]
  simp only[qo] at k3 k5;simp only[↓vS,vT,simprocAttr];refine k3.sc ?_;simp (decide:=true) only [↓vS,vT,simprocAttr];refine k4.sc ?_;simp (decide:=true) only [↓vS,vT,simprocAttr];refine k5.sc ?_;simp (decide:=true) only [↓vS,vT,simprocAttr];refine h2.sc ?_;simp (decide:=true) only [↓vS,vT,simprocAttr];simp[vZ]
 | false =>
  have e:kM E l=zM E l:=by unfold kM;rw[if_neg (by simp[hf])]
  rw[e] at k3;have k4:=h4 (zM E l).2 (by simp only[qf];omega);rw[hf] at k4;generalize zM E l=r at k3 k4 hinv hf hlen;obtain⟨p,ns⟩:=r;dsimp only at hinv hf hlen k3 k4;have hok:=hinv.ok;obtain⟨kn,kok⟩:=qdR hinv;have k6:=h6 p hok (qi6 hok);rw[qdS hinv] at k6;have k7:=h7.pure (jO p) (by omega) kok;have k3b:=h3 (xA (jO p)) (by rw[WC];omega) (qc9 kok)
  have eb:kM E (xA (jO p))=(p,[]):=by
   have:zM E (xA (jO p))=(p,[]):=qbQ hE hinv;unfold kM;rw[this];rfl
  rw[eb,WC] at k3b;have k5:=h5 p p hok;rw[Xa] at k5;have k8:=h8 p hok;rw[(qdV p).2 hinv.may] at k8;simp only[qo] at k3 k3b k5 k6 k8;simp only[↓vS,vT,simprocAttr];refine k3.sc ?_;simp (decide:=true) only [↓vS,vT,simprocAttr];refine k4.sc ?_;simp (decide:=true) only [↓vS,vT,simprocAttr];refine k6.sc ?_;simp (decide:=true) only [↓vS,vT,simprocAttr];refine k7.sc ?_;simp (decide:=true) only [↓vS,vT,simprocAttr];refine k3b.sc ?_;simp (decide:=true) only [↓vS,vT,simprocAttr];refine k8.sc ?_;simp (decide:=true) only [↓vS,vT,simprocAttr];refine k5.sc ?_;simp (decide:=true) only [↓vS,vT,simprocAttr,List.length_nil];refine h2.sc ?_;simp (decide:=true) only [↓vS,vT,simprocAttr];simp[vZ]
end
def zP(a b c d e g h i:Nat):ICode:=.seq (.r [.n 74 11,.w 75 .eql 74 0,.n 76 75,.y 77 13 76,.p 78 76 77,.n 79 78,.g 80 (.loadN 13 (.t 6)) 79 true,.g 81 (.loadN 13 (.t 14)) 79 true,⟨(some 82),.callF h [.t 80,.t 81],(some (79,true))⟩,.p 83 79 82,.n 84 83,.y 85 7 84,.g 86 (.len false (.t 85)) 84 true,.y 87 9 84,.g 88 (.len false (.t 87)) 84 true,.y 89 15 84,.g 90 (.len false (.t 89)) 84 true,.g 91 (.bin .add (.t 88) (.t 90)) 84 true,.g 92 (.bin .eql (.t 86) (.t 91)) 84 true,.p 93 84 92,.n 94 93,.y 95 7 94,.y 96 9 94,.g 97 (.len false (.t 96)) 94 true,.g 98 (.slcS 4 (.t 95) (some (.t 97)) none none) 94 true,.y 99 15 94,⟨(some 100),.callF i [.t 98,.t 99],(some (94,true))⟩,.p 101 94 100,.n 102 101,⟨(some 103),.callF b [],(some (102,true))⟩,.p 104 102 103,.n 4 104]) (.ret)
def jM(a b c d e g h i:Nat):IFn:=⟨[.tmp 4],.seq (.r [.m 4 .F]) (.seq (.seq (.r [.n 16 0,.l 17 a [.t 16]]) (.cond (.t 17) (.seq (.r [.l 18 b [],.n 4 18]) (.ret)) (.skip))) (.seq (.r [.n 19 1,.q 20 (.cvInt .u64 (.t 19)),.n 21 0,.e 22 21,.a 23 22 1,.q 24 (.cvInt .u64 (.t 23)),.b 25 .rem 20 24,.q 26 (.cvInt .i64 (.t 25)),.n 5 26]) (.seq (.r [.n 28 0,.l 29 c [.t 28],.n 27 29,.x 30 27 0,.x 31 27 1,.q 6 (.alloc [.nils,.i .u8 0,.nils,.i .u32 0,.i .u8 0,.nils,.nils,.i .u8 0,.i .u64 0,.b false,.b false,.b false,.b false]),.u (.store 13 (.t 6) (.t 30)),.n 7 31]) (.seq (.r [.n 33 0,.n 34 5,.q 35 (.slcS 5 (.t 33) none (some (.t 34)) none),.l 36 c [.t 35],.n 32 36,.x 37 32 0,.x 38 32 1,.q 8 (.alloc [.nils,.i .u8 0,.nils,.i .u32 0,.i .u8 0,.nils,.nils,.i .u8 0,.i .u64 0,.b false,.b false,.b false,.b false]),.u (.store 13 (.t 8) (.t 37)),.n 9 38]) (.seq (.seq (.r [.n 39 7,.l 40 d [.t 39],.n 41 40,.z 42 9 41,⟨(some 43),.callF d [.t 42],(some (41,false))⟩,.o 44 41 43]) (.cond (.t 44) (.seq (.r [.n 45 7,.l 46 d [.t 45],.n 47 46,.z 48 9 47,⟨(some 49),.callF d [.t 48],(some (47,false))⟩,.g 50 (.un .not (.t 49)) 47 false,.o 51 47 50,.n 52 51,⟨(some 53),.callF b [],(some (52,true))⟩,.p 54 52 53,.n 4 54]) (.ret)) (.skip))) (.seq (.r [.v 56 13 8,.l 57 e [.t 56],.n 55 57,.x 58 55 0,.x 59 55 1,.n 10 58,.n 11 59]) (.seq (.r [.n 61 10,.l 62 g [.t 61],.n 60 62,.x 63 60 0,.x 64 60 1,.n 12 63,.n 13 64]) (.seq (.r [.n 66 12,.n 67 0,.n 68 5,.q 69 (.slcS 5 (.t 67) (some (.t 68)) none none),.q 70 (.app 5 72 true (.t 66) (.t 69)),.l 71 c [.t 70],.n 65 71,.x 72 65 0,.x 73 65 1,.q 14 (.alloc [.nils,.i .u8 0,.nils,.i .u32 0,.i .u8 0,.nils,.nils,.i .u8 0,.i .u64 0,.b false,.b false,.b false,.b false]),.u (.store 13 (.t 14) (.t 72)),.n 15 73]) (.cut (zP a b c d e g h i))))))))))⟩
section
variable {g1 g2 g3 g4 g5 g6 g7 g8:Nat}
theorem qgc(h2:qc P g2 [] (.b true))(h7:qcn P g7)(h8:qfg P g8)(p:Pol)(hp:PolOk p)(m o:List GNote)(hm:m.length+o.length<=100000){t':Tr AV}{h':Hp}
  (hw:Wk 0 t' h' (mkT [(6,.ptr 0 0),(7,.fz (m++o).length (rN (m++o))),(9,.fz m.length (rN m)),(11,.i .i64 0),(13,.b true),(14,.ptr 1 0),(15,.fz o.length (rN o))]) (mkH 0 [.cells 0 true false (qo p),.cells 0 true false (qo p)])) :
  S P 0 (zP g1 g2 g3 g4 g5 g6 g7 g8) (wE [.tmp 4] fun v' h'=>Frz h' v' (.b true)) t' h':=by
 refine S.weak hw (qq ?_);have k7:=h7 p p hp;rw[Xa] at k7;have k8:=h8 o (by omega);have hw1:IntKind.wrap .i64 ((m.length:Int)+(o.length:Int))=((m++o).length:Int):=by rw[qB (by omega) (by omega),List.length_append];omega
 have hle:m.length<=(m++o).length:=by simp
 have hsub:(m++o).length-m.length=o.length:=by simp
 have hdr:(rN (m++o)).drop (m.length*4)=rN o:=by
  have e:rN (m++o)=rN m++rN o:=by simp[rN]
  have hl:(rN m).length=m.length*4:=vD;rw[e,← hl,List.drop_left]
 have hb:m.length*4+o.length*4<=(rN (m++o)).length:=by rw[vD,List.length_append];omega
 have htk:(rN o).take (o.length*4)=rN o:=List.take_of_length_le (by rw[vD];omega);simp only[zP,qo,vI,simprocAttr] at k7 ⊢;simp only[↓vS,vT,simprocAttr];refine k7.sc ?_;simp (decide:=true) only [↓vS,vT,simprocAttr,hw1,hle,hsub,hdr,hb,htk];refine k8.sc ?_;simp (decide:=true) only [↓vS,vT,simprocAttr];refine h2.sc ?_;simp (decide:=true) only [↓vS,vT,simprocAttr];simp[vZ]
theorem policyBehind(hE:ku E)(hc:qj P f (jM g1 g2 g3 g4 g5 g6 g7 g8)=true)(h1:∀l,qc P g1 [.fz l.length (rA l)] (.b (j0 l)))(h2:qc P g2 [] (.b true))(h3:qoi E P g3)(h4:∀l:List GNote,l.length<=qf->qc P g4 [.fz l.length (rN l)] (.b (jZ l)))
  (h5:∀p,PolOk p->(Wj p=true->LinOk p)->qc P g5 [.agg (qo p)] (ql8 p)) (h6:qdg P g6) (h7:qcn P g7) (h8:qfg P g8) (l:List Asg) (at':Int):qc P f [.fz l.length (rA l),.i .i64 at'] (.b true):=by
 refine qc.mk hc (by simp[qt,clo,xT]) ?_;simp only[jM,vI,simprocAttr];simp only[↓vS,vT,simprocAttr];refine (h1 l).sc ?_;cases hG:j0 l with
 | true =>
  simp only[↓vS,vT,simprocAttr];refine h2.sc ?_;simp only[↓vS,vT,simprocAttr];simp[vZ]
 | false =>
 obtain⟨hl,hv,_⟩:=qaQ hG;have hw1:IntKind.wrap .i64 ((l.length:Int)+1)=(l.length:Int)+1:=qB (by omega) (by omega);have hw2:IntKind.wrap .u64 ((l.length:Int)+1)=(l.length:Int)+1:=Vh (by omega) (by omega);have hnz:(l.length:Int)+1≠0:=by omega
 have hu:0<=IntKind.wrap .u64 at':=by
  show 0<=Int.emod _ _;exact Int.emod_nonneg _ (by decide)
 obtain⟨k,hk,hkl⟩:∃k:Nat,IntKind.wrap .i64 ((IntKind.wrap .u64 at').tmod ((l.length:Int)+1))=(k:Int)∧k<=l.length:=by
  have h3:=Int.emod_nonneg (IntKind.wrap .u64 at') hnz;have h4:=Int.emod_lt_of_pos (IntKind.wrap .u64 at') (show (0:Int)<(l.length:Int)+1 by omega)
  rw[Int.tmod_eq_emod_of_nonneg hu];refine⟨((IntKind.wrap .u64 at') % ((l.length:Int)+1)).toNat,?_,by omega⟩
  rw[qB (by omega) (by omega)];omega
 have htl:(l.take k).length=k:=by simp;omega
 have hdl:(l.drop k).length=l.length-k:=by simp
 have hvt:∀a ∈ l.take k,a.val.length<=1000:=fun a ha=>hv a (List.mem_of_mem_take ha)
 have hvd:∀a ∈ l.drop k,a.val.length<=1000:=fun a ha=>hv a (List.mem_of_mem_drop ha)
 have hspl:zM E l=((l.drop k).foldl (doS E) ((zM E (l.take k)).1,[]) |>.1,(zM E (l.take k)).2++((l.drop k).foldl (doS E) ((zM E (l.take k)).1,[])).2):=by
  have:zM E l=(l.drop k).foldl (doS E) (zM E (l.take k)):=by
   unfold zM;rw[← List.foldl_append,List.take_append_drop]
  rw[this];exact qcv _ _ _
 have hlen:=qaL (E:=E) (l:=l) (by omega) hv;have k3:=h3 l (by omega) hv;have k3t:=h3 (l.take k) (by omega) hvt;rw[htl] at k3t;have hinv:PI (zM E (l.take k)).1:=WH hE _ _ PI.new;have hinv2:PI (zM E l).1:=WH hE _ _ PI.new;have hrl:(rA l).length=l.length*5:=VE;have hrk:k*5<=(rA l).length:=by omega
 have hrk2:k*5+(l.length-k)*5<=(rA l).length:=by omega
 have hspA:rA l=rA (l.take k)++rA (l.drop k):=by unfold rA;rw[← List.flatMap_append,List.take_append_drop]
 have hl2:(rA (l.take k)).length=k*5:=by rw[VE,htl]
 have hrt:(rA l).take (k*5)=rA (l.take k):=by rw[hspA,← hl2,List.take_left]
 have hrd:(rA l).drop (k*5)=rA (l.drop k):=by rw[hspA,← hl2,List.drop_left]
 cases hft:jZ (zM E (l.take k)).2 with
 | true =>
  have hfl:jZ (zM E l).2=true:=by
   rw[hspl];unfold jZ at hft ⊢;rw[List.any_append,Bool.or_eq_true];exact .inl hft
  have e:kM E l=(y7,(zM E l).2):=by unfold kM;rw[if_pos hfl]
  have et:kM E (l.take k)=(y7,(zM E (l.take k)).2):=by unfold kM;rw[if_pos hft]
  rw[e] at k3;rw[et] at k3t;have k4:=h4 (zM E l).2 (by simp only[qf];omega);rw[hfl] at k4;simp only[qo] at k3 k3t;simp only[↓vS,vT,simprocAttr,hw1,hw2,↓qck hnz,hk];refine k3.sc ?_;simp (decide:=true) only [↓vS,vT,simprocAttr,hkl,hrk,hrt,List.drop_zero];refine k3t.sc ?_;simp (decide:=true) only [↓vS,vT,simprocAttr];refine k4.sc ?_;simp (decide:=true) only [↓vS,vT,simprocAttr];refine k4.sc ?_;simp (decide:=true) only [↓vS,vT,simprocAttr];refine h2.sc ?_;simp (decide:=true) only [↓vS,vT,simprocAttr];simp[vZ]
 | false =>
 have hlt2:=qaL (E:=E) (l:=l.take k) (by omega) hvt;have et:kM E (l.take k)=zM E (l.take k):=by unfold kM;rw[if_neg (by simp[hft])]
 rw[et] at k3t;have k4t:=h4 (zM E (l.take k)).2 (by simp only[qf];omega);rw[hft] at k4t;cases hfl:jZ (zM E l).2 with
 | true =>
  have e:kM E l=(y7,(zM E l).2):=by unfold kM;rw[if_pos hfl]
  rw[e] at k3;have k4:=h4 (zM E l).2 (by simp only[qf];omega);rw[hfl] at k4;simp only[qo] at k3 k3t;simp only[↓vS,vT,simprocAttr,hw1,hw2,↓qck hnz,hk];refine k3.sc ?_;simp (decide:=true) only [↓vS,vT,simprocAttr,hkl,hrk,hrt,List.drop_zero];refine k3t.sc ?_;simp (decide:=true) only [↓vS,vT,simprocAttr];refine k4.sc ?_;simp (decide:=true) only [↓vS,vT,simprocAttr];refine k4.sc ?_;simp (decide:=true) only [↓vS,vT,simprocAttr];refine h2.sc ?_;simp (decide:=true) only [↓vS,vT,simprocAttr];simp[vZ]
 | false =>
 have e:kM E l=zM E l:=by unfold kM;rw[if_neg (by simp[hfl])]
 rw[e] at k3;have k4:=h4 (zM E l).2 (by simp only[qf];omega);rw[hfl] at k4;generalize zM E (l.take k)=r at hspl hinv hft hlt2 k3t k4t;obtain⟨q,m⟩:=r;dsimp only at hspl hinv hft hlt2 k3t k4t;generalize hrest:(l.drop k).foldl (doS E) (q,[])=r2 at hspl;obtain⟨p,o⟩:=r2;dsimp only at hspl;rw[hspl] at k3 k4 hfl hlen hinv2;dsimp only at k3 k4 hfl hlen hinv2
 have hfo:jZ o=false:=by
  unfold jZ at hfl ⊢;rw[List.any_append,Bool.or_eq_false_iff] at hfl;exact hfl.2
 obtain⟨kn,kok⟩:=qdR hinv;have k5:=h5 q hinv.ok (qi6 hinv.ok);rw[qdS hinv] at k5;have k6:=h6 (jO q) (by omega) kok;have hal:(xA (jO q)++l.drop k).length=(jO q).length+(l.length-k):=by rw[List.length_append,WC,hdl]
 have k3b:=h3 (xA (jO q)++l.drop k) (by omega) (fun a ha=>by
  rcases List.mem_append.1 ha with ha|ha
  ·exact qc9 kok a ha
  ·exact hvd a ha)
 have eb:kM E (xA (jO q)++l.drop k)=(p,o):=by
  have:zM E (xA (jO q)++l.drop k)=(p,o):=by
   unfold zM;rw[List.foldl_append,qbQ hE hinv,hrest]
  unfold kM;rw[this,if_neg (by simp[hfo])]
 rw[eb,hal] at k3b;have hd5:(rA (l.drop k)).length=(l.length-k)*5:=by rw[VE,hdl]
 have htd:(rA (l.drop k)).take ((l.length-k)*5)=rA (l.drop k):=List.take_of_length_le (by omega);have ha5:(rA (xA (jO q))).length=(jO q).length*5:=by rw[VE,WC]
 have hr1:(jO q).length+(l.length-k)<=qf:=by simp only[qf];omega
 have hr2:((jO q).length+(l.length-k))*72<=qf:=by simp only[qf];omega
 have hal5:rA (xA (jO q))++rA (l.drop k)=rA (xA (jO q)++l.drop k):=by simp[rA]
 simp only[qo] at k3 k3b k3t k5;simp only[↓vS,vT,simprocAttr,hw1,hw2,↓qck hnz,hk];refine k3.sc ?_;simp (decide:=true) only [↓vS,vT,simprocAttr,hkl,hrk,hrt,List.drop_zero];refine k3t.sc ?_;simp (decide:=true) only [↓vS,vT,simprocAttr];refine k4.sc ?_;simp (decide:=true) only [↓vS,vT,simprocAttr];refine k4t.sc ?_;simp (decide:=true) only [↓vS,vT,simprocAttr];refine k5.sc ?_;simp (decide:=true) only [↓vS,vT,simprocAttr];refine k6.sc ?_;simp only[vJ,simprocAttr,zW xT];simp (decide:=true) only [↓vS,vT,simprocAttr,hkl,hrk2,hrd,hd5,htd,ha5,hr1,hr2,hal5,qsP,Nat.le_refl,List.drop_zero,and_self];refine k3b.give [(3,.cells 5 true true (rA (xA (jO q)++l.drop k)))] (by simp[Tr.get_set]) rfl ?_ ?_
 ·simp[vZ,vP,Tr.get_set,qE xT,trP];intro h0 h1
  have h2:xA (jO q)++l.drop k=[]:=by
   refine List.eq_nil_of_length_eq_zero ?_;rw[hal,h0,List.length_nil];omega
  rw[h2];rfl
 simp only[Zz,ZA,ZX];simp (decide:=true) only [↓vS,vT,simprocAttr];refine qgc h2 h7 h8 p hinv2.ok m o (by rw[← List.length_append];omega) (Wk.mk _ _ [0,4] ?_ ?_ ?_ rfl)
 ·simp[vw,qb]
 ·simp[vw,qo,qh,qg]
 ·simp
end
end Go.Kc
end
