/- Part 9 of the abstract machine and of the functions' walks. Conditions: with each theorem. -/
import Derived.Test.YtpopmjgimhmciaaGreatDoorK8
set_option linter.unusedSimpArgs false
set_option linter.unusedVariables false
set_option linter.unnecessarySimpa false
section
/- What fold.Step makes of a list, in plain words. No condition. -/
namespace Go.Kc
variable (E:List UInt8->List (List UInt8)×Int)
noncomputable def jk(ins:Bool)(act:Int)(l:GList)(n:List UInt8):GList:=if ins=true then W0 l n act else Q1 l n
noncomputable def zu(fl t:Bool)(s:GList×List GNote)(w:List UInt8):GList×List GNote :=
 if (qz w).2≠0 then (s.1,s.2++[xC (qz w).2 w])
 else if (xy E (qz w).1.name).2≠0 then (s.1,s.2++[xC (xy E (qz w).1.name).2 w])
 else if (qz w).1.has=false then ((xy E (qz w).1.name).1.foldl (jk (decide (s.1.mode-1=if t=true then 1 else 0)) (qz w).1.act) s.1,s.2)
 else if fl=false∨t=false then ((xy E (qz w).1.name).1.foldl (jk (decide (s.1.mode-1=if t=true then 1 else 0)) 0) s.1,s.2++[xC 161 w])
 else ((xy E (qz w).1.name).1.foldl (jk true (qz w).1.act) s.1,s.2)
noncomputable def zn(l:GList)(v:List UInt8)(fl:Bool):GList×List GNote :=
 if zF l=false then (l,[])
 else if ql v=[] then (⟨0,[]⟩,[])
 else (ql (qZ v).1).foldl (zu E fl (qZ v).2) (⟨if l.mode=0 then (if (qZ v).2=true then 2 else 1) else l.mode,l.calls⟩,[])
theorem VC(l:GList)(s:List UInt8)(n:Int):(W0 l s n).mode=l.mode:=by unfold W0;split<;>rfl
theorem Wu(l:GList)(s:List UInt8):(Q1 l s).mode=l.mode:=by unfold Q1;split<;>rfl
theorem qbj(ins:Bool)(act:Int)(l:GList)(n:List UInt8):(jk ins act l n).mode=l.mode:=by
 unfold jk;split
 ·exact VC _ _ _
 ·exact Wu _ _
theorem We(ins:Bool)(act:Int)(ns:List (List UInt8)):∀l:GList,(ns.foldl (jk ins act) l).mode=l.mode:=by
 induction ns with
 | nil=>intro l;rfl
 | cons n ns ih=>intro l;rw[List.foldl_cons,ih,qbj]
end Go.Kc
end
section
/- The order of names; lists that rise; what Put and Take make of these. No condition. -/
namespace Go.Kc
theorem Jz:∀a:List UInt8,ltS a a=false
 | []=>rfl
 | c::x=>by rw[Qz,if_neg (UInt8.lt_irrefl c),if_pos rfl];exact Jz x
theorem kl:∀{a b c:List UInt8},ltS a b=true->ltS b c=true->ltS a c=true
 | _,[],[],_,h2=>by simp[qfz] at h2
 | _,_::_,[],_,h2=>by simp[qaX] at h2
 | [],_,_::_,_,_=>rfl
 | _::_,[],_::_,h1,_=>by simp[qaX] at h1
 | a::x,b::y,c::z,h1,h2=>by
  rw[Qz] at h1 h2 ⊢;simp only[UInt8.lt_iff_toNat_lt,← UInt8.toNat_inj] at h1 h2 ⊢
  by_cases e1:a.toNat<b.toNat
  ·by_cases e2:b.toNat<c.toNat
   ·rw[if_pos (by omega)]
   ·rw[if_neg e2] at h2;split at h2
    ·rw[if_pos (by omega)]
    ·cases h2
  ·rw[if_neg e1] at h1;split at h1
   ·rename_i e3
    by_cases e2:b.toNat<c.toNat
    ·rw[if_pos (by omega)]
    ·rw[if_neg e2] at h2;split at h2
     ·rw[if_neg (by omega),if_pos (by omega)];exact kl h1 h2
     ·cases h2
   ·cases h1
theorem qak:∀a b:List UInt8,ltS a b=true∨a=b∨ltS b a=true
 | [],[]=>.inr (.inl rfl)
 | [],_::_=>.inl rfl
 | _::_,[]=>.inr (.inr rfl)
 | a::x,b::y=>by
  rw[Qz,Qz];simp only[UInt8.lt_iff_toNat_lt,← UInt8.toNat_inj];rcases Nat.lt_trichotomy a.toNat b.toNat with h|h|h
  ·left;rw[if_pos h]
  ·obtain rfl:=UInt8.toNat_inj.1 h;simp only[Nat.lt_irrefl,if_false,if_true];rcases qak x y with h|h|h
   ·exact .inl h
   ·exact .inr (.inl (by rw[h]))
   ·exact .inr (.inr h)
  ·right;right;rw[if_pos h]
theorem Vu{a b:List UInt8}(h:ltS a b=true):ltS b a=false:=by
 cases h2:ltS b a with
 | false=>rfl
 | true=>have:=kl h h2;rw[Jz] at this;cases this
theorem Zb{a b:List UInt8}(h:ltS a b=true):a≠b:=by
 intro e;rw[e,Jz] at h;cases h
theorem qih{a b:List UInt8}:(zS a b<0)↔ltS a b=true:=by
 unfold zS;split
 ·rename_i h;rw[h,Jz];simp
 ·split
  ·rename_i h;simp[h]
  ·rename_i h;simp[h]
theorem qbL{a b:List UInt8}:(zS a b=0)↔a=b:=by
 unfold zS;split
 ·rename_i h;simp[h]
 ·rename_i h;split<;>simp[h]
def Up(l:List GCall):Prop:=l.Pairwise fun a b=>ltS a.name b.name=true
theorem qbo:∀(o:Option GCall) (l:List GCall),kI o l=true↔((∀c ∈ l,okC c=true)∧Up l∧∀b,o=some b->∀c ∈ l,ltS b.name c.name=true)
 | o,[]=>by simp[kI,Up]
 | o,c::l=>by
  have ih:=qbo (some c) l;simp only[kI,Bool.and_eq_true,ih,Up,List.pairwise_cons,List.mem_cons,forall_eq_or_imp];constructor
  ·rintro⟨⟨h1,h2⟩,h3,h4,h5⟩;refine⟨⟨h1,h3⟩,⟨h5 c rfl,h4⟩,?_⟩;rintro b rfl;exact⟨h2,fun d hd=>kl h2 (h5 c rfl d hd)⟩
  ·rintro⟨⟨h1,h3⟩,⟨h5,h4⟩,h6⟩;refine⟨⟨h1,?_⟩,h3,h4,?_⟩
   ·cases o with
    | none=>rfl
    | some b=>exact (h6 b rfl).1
   ·rintro b hb;cases hb;exact h5
theorem zV(l:GList):zF l=true↔(l.mode<=2∧(l.mode≠0∨l.calls=[]))∧(∀c ∈ l.calls,okC c=true)∧Up l.calls:=by
 unfold zF;rw[Bool.and_eq_true,Bool.and_eq_true,Bool.or_eq_true,decide_eq_true_eq,decide_eq_true_eq,decide_eq_true_eq,qbo];simp
theorem qeE{α:Type}(p:α->Bool)(l:List α)(n:Nat)(h1:∀x ∈ l.take n,p x=true)(h2:∀x ∈ l.drop n,p x=false):l.filter p=l.take n∧l.filter (fun x=>!p x)=l.drop n:=by
 have e:l=l.take n++l.drop n:=(List.take_append_drop n l).symm;constructor
 ·conv=>lhs;rw[e,List.filter_append]
  rw[List.filter_eq_self.2 h1,List.filter_eq_nil_iff.2 (fun x hx=>by rw[h2 x hx];decide),List.append_nil]
 ·conv=>lhs;rw[e,List.filter_append]
  rw[List.filter_eq_nil_iff.2 (fun x hx=>by rw[h1 x hx];decide),List.filter_eq_self.2 (fun x hx=>by rw[h2 x hx];rfl),List.nil_append]
theorem qkZ{l:List GCall}(hu:Up l)(s:List UInt8):(∀c ∈ l.take (bsC l fun c=>zS c.name s),ltS c.name s=true)∧∀c ∈ l.drop (bsC l fun c=>zS c.name s),ltS c.name s=false:=by
 have hq:∀k c,l[k]?=some c->bsQ l (fun c=>zS c.name s) k=ltS c.name s:=by
  intro k c hc;unfold bsQ;rw[hc];show decide (zS c.name s<0)=_;rw[Bool.eq_iff_iff,decide_eq_true_iff,qih]
 have h:=qde (bsQ l fun c=>zS c.name s) (fun a b hab hb=>by
  rcases Nat.lt_or_ge b l.length with hbl|hbl
  ·have hx:l[b]?=some l[b]:=List.getElem?_eq_getElem hbl;have hy:l[a]?=some l[a]:=List.getElem?_eq_getElem (by omega);rw[hq b _ hx] at hb;rw[hq a _ hy];rcases Nat.lt_or_eq_of_le hab with h|h
   ·exact kl (List.pairwise_iff_getElem.1 hu a b (by omega) hbl h) hb
   ·subst h;exact hb
  ·unfold bsQ at hb;rw[List.getElem?_eq_none hbl] at hb;cases hb) _ 0 l.length rfl (Nat.zero_le _) (fun a ha=>by omega) (fun a ha=>by unfold bsQ;rw[List.getElem?_eq_none ha];rfl)
 constructor
 ·intro c hc;obtain⟨k,hk,rfl⟩:=List.getElem_of_mem hc;rw[List.length_take] at hk;have hk:=Nat.lt_min.1 hk;have:=h.1 k hk.1;rw[hq k l[k] (List.getElem?_eq_getElem hk.2)] at this;rw[List.getElem_take];exact this
 ·intro c hc;obtain⟨k,hk,rfl⟩:=List.getElem_of_mem hc;rw[List.length_drop] at hk;have:=h.2 (bsC l (fun c=>zS c.name s)+k) (by show bsC l _<=_;omega)
  rw[hq _ l[bsC l (fun c=>zS c.name s)+k] (List.getElem?_eq_getElem (by omega))] at this
  rw[List.getElem_drop];exact this
theorem qcN{l:List GCall}(hu:Up l)(s:List UInt8)(n:Int):VB l s n=l.filter (fun c=>ltS c.name s)++⟨s,n⟩::l.filter (fun c=>ltS s c.name):=by
 obtain⟨h1,h2⟩:=qkZ hu s;obtain⟨e1,e2⟩:=qeE (fun c=>ltS c.name s) l _ h1 h2
 have hcut:l=l.take (bsC l fun c=>zS c.name s)++l.drop (bsC l fun c=>zS c.name s):=(List.take_append_drop _ l).symm
 have hA:(l.take (bsC l fun c=>zS c.name s)).filter (fun c=>ltS s c.name)=[]:=by
  rw[List.filter_eq_nil_iff];intro c hc;rw[Vu (h1 c hc)];decide
 have hud:Up (l.drop (bsC l fun c=>zS c.name s)):=List.Pairwise.sublist (List.drop_sublist _ _) hu
 have e3:l.filter (fun c=>ltS s c.name)=(l.drop (bsC l fun c=>zS c.name s)).filter (fun c=>ltS s c.name):=by
  conv=>lhs;rw[hcut,List.filter_append,hA,List.nil_append]
 rw[e1,e3];unfold VB;generalize hN:bsC l (fun c=>zS c.name s)=N at *
 by_cases hlt:N<l.length
 ·have hx:l[N]?=some l[N]:=List.getElem?_eq_getElem hlt;rw[List.drop_eq_getElem_cons hlt] at hud h2 ⊢;have hud':=List.pairwise_cons.1 hud;rw[hx];show (if decide (zS l[N].name s=0)=true then _ else _)=_
  by_cases he:zS l[N].name s=0
  ·rw[if_pos (decide_eq_true he),List.set_eq_take_append_cons_drop,if_pos hlt];have he2:=qbL.1 he;rw[List.filter_cons,he2,Jz,if_neg (by decide),List.filter_eq_self.2];intro c hc;rw[← he2];exact hud'.1 c hc
  ·rw[if_neg (by simpa using he)];have hne:¬l[N].name=s:=fun h=>he (qbL.2 h)
   have hs:ltS s l[N].name=true:=by
    rcases qak s l[N].name with h|h|h
    ·exact h
    ·exact absurd h.symm hne
    ·rw[h2 _ List.mem_cons_self] at h;cases h
   rw[List.filter_eq_self.2];intro c hc;rcases List.mem_cons.1 hc with rfl|hc
   ·exact hs
   ·exact kl hs (hud'.1 c hc)
 ·rw[List.getElem?_eq_none (by omega),List.drop_eq_nil_of_le (by omega)];rfl
theorem ZV(l:List GCall)(p:List UInt8->Bool)(t:List UInt8):ze (l.filter fun c=>p c.name) t=if p t=true then ze l t else none:=by
 unfold ze;rw[List.find?_filter];cases h:p t with
 | true =>
  rw[if_pos rfl]
  congr 1;funext c
  by_cases e:c.name=t
  ·simp[e,h]
  ·simp[e]
 | false =>
  rw[if_neg (by decide),List.find?_eq_none];intro c _
  by_cases e:c.name=t
  ·simp[e,h]
  ·simp[e]
theorem qeF(l:List GCall)(s t:List UInt8):ze (l.filter fun c=>!decide (c.name=s)) t=if t=s then none else ze l t:=by
 rw[ZV l (fun n=>!decide (n=s)) t]
 by_cases h:t=s<;>simp[h]
theorem qgx(l m:List GCall)(t:List UInt8):ze (l++m) t=(ze l t).or (ze m t):=by
 unfold ze;rw[List.find?_append]
theorem qgy{l:List GCall}(hu:Up l)(s:List UInt8)(n:Int)(t:List UInt8):ze (VB l s n) t=if t=s then some ⟨s,n⟩ else ze l t:=by
 rw[qcN hu,qgx,ZV l (fun x=>ltS x s)]
 have e:ze (⟨s,n⟩::l.filter fun c=>ltS s c.name) t=if s=t then some ⟨s,n⟩ else ze (l.filter fun c=>ltS s c.name) t:=by
  unfold ze;rw[List.find?_cons]
  by_cases h:s=t<;>simp[h]
 rw[e,ZV l (fun x=>ltS s x)]
 rcases qak t s with h|h|h
 ·rw[h,Vu h,if_pos rfl,if_neg (Ne.symm (Zb h)),if_neg (by decide),if_neg (Zb h),Option.or_none]
 ·rw[h,Jz,if_neg (by decide),if_pos rfl,if_pos rfl];rfl
 ·rw[h,Vu h,if_neg (by decide),if_neg (Zb h),if_pos rfl,if_neg (Ne.symm (Zb h))];rfl
theorem yg{l:List GCall}(hu:Up l)(p:GCall->Bool):Up (l.filter p):=List.Pairwise.sublist List.filter_sublist hu
theorem qqy{l:List GCall}(hu:Up l)(s:List UInt8)(n:Int):Up (VB l s n):=by
 rw[qcN hu];refine List.pairwise_append.2 ⟨yg hu _,List.pairwise_cons.2 ⟨fun c hc=>(List.mem_filter.1 hc).2,yg hu _⟩,?_⟩
 intro a ha b hb;have h1:ltS a.name s=true:=(List.mem_filter.1 ha).2;rcases List.mem_cons.1 hb with rfl|hb
 ·exact h1
 ·exact kl h1 (List.mem_filter.1 hb).2
theorem qfA{l:List GCall}(hu:Up l){s:List UInt8}{n:Int}{c:GCall}(h:c ∈ VB l s n):c=⟨s,n⟩∨c ∈ l:=by
 rw[qcN hu] at h;rcases List.mem_append.1 h with h|h
 ·exact .inr (List.mem_filter.1 h).1
 ·rcases List.mem_cons.1 h with h|h
  ·exact .inl h
  ·exact .inr (List.mem_filter.1 h).1
theorem Qh{l:List GCall}{t:List UInt8}(h:∀c ∈ l,ltS t c.name=true):ze l t=none:=by
 unfold ze;rw[List.find?_eq_none];intro c hc;simp[(Zb (h c hc)).symm]
theorem wJ{c:GCall}{l:List GCall}:ze (c::l) c.name=some c:=by unfold ze;rw[List.find?_cons];simp
theorem wK{c:GCall}{l:List GCall}{t:List UInt8}(h:t≠c.name):ze (c::l) t=ze l t:=by unfold ze;rw[List.find?_cons];simp[Ne.symm h]
theorem qc1:∀{l m:List GCall},Up l->Up m->(∀t,ze l t=ze m t)->l=m
 | [],[],_,_,_=>rfl
 | [],d::m,_,_,h=>by have:=h d.name;rw[wJ] at this;cases this
 | c::l,[],_,_,h=>by have:=h c.name;rw[wJ] at this;cases this
 | c::l,d::m,hl,hm,h=>by
  have hl':=List.pairwise_cons.1 hl;have hm':=List.pairwise_cons.1 hm
  have hcd:c=d:=by
   rcases qak c.name d.name with e|e|e
   ·have:=h c.name;rw[wJ,wK (Zb e),Qh (fun x hx=>kl e (hm'.1 x hx))] at this
    cases this
   ·have:=h c.name;rw[wJ,e,wJ] at this;exact Option.some.inj this
   ·have:=h d.name;rw[wJ,wK (Zb e),Qh (fun x hx=>kl e (hl'.1 x hx))] at this
    cases this
  subst hcd;rw[qc1 hl'.2 hm'.2];intro t
  by_cases e:t=c.name
  ·subst e;rw[Qh hl'.1,Qh hm'.1]
  ·have:=h t;rwa [wK e,wK e] at this
end Go.Kc
end
section
/- What fold.Step makes of a list that may be: it may be again. No condition. -/
namespace Go.Kc
theorem qas:∀(l cur:List UInt8) (w:List UInt8),w ∈ wB l cur->w.length<=l.length+cur.length
 | [],cur,w,h=>by
  unfold wB at h;split at h
  ·cases h
  ·obtain rfl:=List.mem_singleton.1 h;simp
 | c::cs,cur,w,h=>by
  unfold wB at h;split at h
  ·split at h
   ·have:=qas cs [] w h;simp at this ⊢;omega
   ·rcases List.mem_cons.1 h with rfl|h
    ·simp
    ·have:=qas cs [] w h;simp at this ⊢;omega
  ·have:=qas cs _ w h;simp at this ⊢;omega
theorem qe7{l w:List UInt8}(h:w ∈ ql l):w.length<=l.length:=by
 rw[QI] at h;simpa using qas l [] w h
theorem JC{α:Type} [DecidableEq α]:∀{l t:List α},l.Nodup->(∀x ∈ l,x ∈ t)->l.length<=t.length
 | [],_,_,_=>Nat.zero_le _
 | x::l,t,hn,hs=>by
  have hn':=List.nodup_cons.1 hn;have hx:=hs x List.mem_cons_self;have h1:=JC (t:=t.erase x) hn'.2 (fun y hy=>(List.mem_erase_of_ne (fun (e:y=x)=>hn'.1 (by rw[← e];exact hy))).2 (hs y (List.mem_cons_of_mem _ hy)))
  have h2:=List.length_erase_of_mem hx;have h3:0<t.length:=List.length_pos_of_mem hx;simp only[List.length_cons];omega
theorem Wh{s:List UInt8}(h:xM s=true):s ∈ zm.map (·.1):=by
 unfold xM at h;obtain⟨x,hx⟩:=Option.isSome_iff_exists.1 h;have h1:=List.mem_of_find?_eq_some hx;have h2:=List.find?_some hx;exact List.mem_map.2 ⟨x,h1,of_decide_eq_true h2⟩
theorem JA{l:GList}(h:zF l=true):l.calls.length<=40:=by
 obtain⟨_,h1,h2⟩:=(zV l).1 h
 have:=JC (l:=l.calls.map (·.name)) (t:=zm.map (·.1)) (List.pairwise_map.2 (List.Pairwise.imp (R:=fun a b:GCall=>ltS a.name b.name=true) (fun hab=>Zb hab) h2)) (by
  intro x hx;obtain⟨c,hc,rfl⟩:=List.mem_map.1 hx;have:=h1 c hc;simp only[okC,Bool.and_eq_true] at this;exact Wh this.1)
 have e:(zm.map (·.1)).length=40:=by rw[List.length_map];rfl
 rw[List.length_map] at this;omega
theorem qfH{l:GList}(h:zF l=true)(hm:l.mode≠0){n:List UInt8}{a:Int}(hk:xM n=true)(ha:Q4 a=true):zF (W0 l n a)=true:=by
 obtain⟨h0,h1,h2⟩:=(zV l).1 h;have e:W0 l n a=⟨l.mode,VB l.calls n a⟩:=if_pos h;rw[e,zV];refine⟨⟨h0.1,.inl hm⟩,?_,qqy h2 _ _⟩;intro c hc;rcases qfA h2 hc with rfl|hc
 ·simp[okC,hk,ha]
 ·exact h1 c hc
theorem qeh{l:GList}(h:zF l=true)(n:List UInt8):zF (Q1 l n)=true:=by
 obtain⟨h0,h1,h2⟩:=(zV l).1 h;have e:Q1 l n=⟨l.mode,l.calls.filter fun c=>!decide (c.name=n)⟩:=if_pos h
 rw[e,zV];refine⟨⟨h0.1,h0.2.imp id (fun hh=>by rw[hh];rfl)⟩,fun c hc=>h1 c (List.mem_filter.1 hc).1,yg h2 _⟩
theorem qhm{l:GList}(h:zF l=true)(hm:l.mode≠0){ins:Bool}{a:Int}{n:List UInt8}(hk:xM n=true)(ha:Q4 a=true):zF (jk ins a l n)=true:=by
 unfold jk;split
 ·exact qfH h hm hk ha
 ·exact qeh h n
theorem Zp{ins:Bool}{a:Int}(ha:Q4 a=true):∀{ns:List (List UInt8)} {l:GList},zF l=true->l.mode≠0->(∀n ∈ ns,xM n=true)->zF (ns.foldl (jk ins a) l)=true
 | [],_,h,_,_=>h
 | n::ns,l,h,hm,hk=>by
  rw[List.foldl_cons];exact Zp ha (qhm h hm (hk n List.mem_cons_self) ha) (by rw[qbj];exact hm) (fun x hx=>hk x (List.mem_cons_of_mem _ hx))
theorem va(w:List UInt8):Q4 (qz w).1.act=true:=by
 have h:=Zo (x5 w).2.1;unfold qz
 repeat' split
 all_goals (simp[Q4];try omega)
def ku(E:List UInt8->List (List UInt8)×Int):Prop:=∀s,(∀n ∈ (E s).1,xM n=true)∧(E s).1.length<=100
theorem qcJ{E:List UInt8->List (List UInt8)×Int}(hE:ku E):ku (xy E):=by
 intro s;unfold xy;split
 ·exact hE s
 ·split
  ·rename_i h;simp[h]
  ·simp
theorem qhn{E:List UInt8->List (List UInt8)×Int}(hE:ku E)(fl t:Bool){s:GList×List GNote}(h:zF s.1=true)(hm:s.1.mode≠0)(w:List UInt8) :
  zF (zu E fl t s w).1=true∧(zu E fl t s w).1.mode=s.1.mode∧(zu E fl t s w).2.length<=s.2.length+1:=by
 have hk:=(qcJ hE (qz w).1.name).1;unfold zu;split
 ·exact⟨h,rfl,by simp⟩
 split
 ·exact⟨h,rfl,by simp⟩
 split
 ·exact⟨Zp (va w) h hm hk,We _ _ _ _,by simp⟩
 split
 ·exact⟨Zp (by rfl) h hm hk,We _ _ _ _,by simp⟩
 ·exact⟨Zp (va w) h hm hk,We _ _ _ _,by simp⟩
theorem qbk{E:List UInt8->List (List UInt8)×Int}(hE:ku E)(fl t:Bool):∀(ws:List (List UInt8)) (s:GList×List GNote),zF s.1=true->s.1.mode≠0->
  zF (ws.foldl (zu E fl t) s).1=true∧(ws.foldl (zu E fl t) s).1.mode=s.1.mode∧(ws.foldl (zu E fl t) s).2.length<=s.2.length+ws.length
 | [],s,h,_=>⟨h,rfl,Nat.le_refl _⟩
 | w::ws,s,h,hm=>by
  obtain⟨h1,h2,h3⟩:=qhn hE fl t h hm w;obtain⟨h4,h5,h6⟩:=qbk hE fl t ws (zu E fl t s w) h1 (by rw[h2];exact hm);rw[List.foldl_cons];exact⟨h4,by rw[h5,h2],by simp only[List.length_cons];omega⟩
end Go.Kc
end
section
/- The table of groups; what groups.Expand answers of a name that is none of them. Condition: the functions' texts are these. -/
namespace Go.Kc
variable {P:Program} {f:Nat}
def xS:List (List UInt8×List (List UInt8)):=[([64,98,97,115,105,99,45,105,111],[[114,101,97,100],[119,114,105,116,101],[99,108,111,115,101]]),([64,99,108,111,99,107],[[99,108,111,99,107,95,115,101,116,116,105,109,101],[115,101,116,116,105,109,101,111,102,100,97,121]]),([64,100,101,98,117,103],[[112,116,114,97,99,101],[112,101,114,115,111,110,97,108,105,116,121]]),([64,102,105,108,101],[[64,98,97,115,105,99,45,105,111],[111,112,101,110],[111,112,101,110,97,116],[105,111,99,116,108]]),([64,109,101,109,111,114,121],[[98,114,107],[109,109,97,112],[109,112,114,111,116,101,99,116],[109,117,110,109,97,112],[112,107,101,121,95,109,112,114,111,116,101,99,116],[115,104,109,97,116]]),([64,109,111,100,117,108,101],[[100,101,108,101,116,101,95,109,111,100,117,108,101],[102,105,110,105,116,95,109,111,100,117,108,101],[105,110,105,116,95,109,111,100,117,108,101]]),([64,109,111,117,110,116],[[109,111,117,110,116],[117,109,111,117,110,116,50]]),([64,110,101,115,116],[[64,110,101,115,116,45,50],[107,105,108,108]]),([64,110,101,115,116,45,50],[[64,110,101,115,116,45,51],[103,101,116,117,105,100]]),([64,110,101,115,116,45,51],[[64,110,101,115,116,45,52],[115,101,116,117,105,100]]),([64,110,101,115,116,45,52],[[64,110,101,115,116,45,53],[101,120,105,116]]),([64,110,101,115,116,45,53],[[114,101,97,100]]),([64,110,101,116,119,111,114,107],[[98,105,110,100],[99,111,110,110,101,99,116],[108,105,115,116,101,110],[115,111,99,107,101,116]]),([64,112,114,105,118,105,108,101,103,101,100],[[64,99,108,111,99,107],[64,109,111,100,117,108,101],[64,109,111,117,110,116],[64,114,101,98,111,111,116],[98,112,102],[115,101,116,117,105,100]]),([64,112,114,111,99,101,115,115],[[99,108,111,110,101],[99,108,111,110,101,51],[101,120,101,99,118,101],[101,120,105,116],[102,111,114,107],[107,105,108,108],[115,101,116,110,115],[117,110,115,104,97,114,101]]),([64,114,101,98,111,111,116],[[114,101,98,111,111,116]]),([64,114,101,115,111,117,114,99,101,115],[[115,99,104,101,100,95,115,101,116,97,116,116,114],[115,99,104,101,100,95,115,101,116,115,99,104,101,100,117,108,101,114]]),([64,115,121,115,116,101,109],[[64,102,105,108,101],[64,109,101,109,111,114,121],[64,110,101,116,119,111,114,107],[64,112,114,111,99,101,115,115],[103,101,116,117,105,100]])]
def Xd:List (List UInt8×List (List UInt8)×Int):=[([64,98,97,115,105,99,45,105,111],[[99,108,111,115,101],[114,101,97,100],[119,114,105,116,101]],0),([64,99,108,111,99,107],[[99,108,111,99,107,95,115,101,116,116,105,109,101],[115,101,116,116,105,109,101,111,102,100,97,121]],0),([64,100,101,98,117,103],[[112,101,114,115,111,110,97,108,105,116,121],[112,116,114,97,99,101]],0),([64,102,105,108,101],[[99,108,111,115,101],[105,111,99,116,108],[111,112,101,110],[111,112,101,110,97,116],[114,101,97,100],[119,114,105,116,101]],0),([64,109,101,109,111,114,121],[[98,114,107],[109,109,97,112],[109,112,114,111,116,101,99,116],[109,117,110,109,97,112],[112,107,101,121,95,109,112,114,111,116,101,99,116],[115,104,109,97,116]],0),([64,109,111,100,117,108,101],[[100,101,108,101,116,101,95,109,111,100,117,108,101],[102,105,110,105,116,95,109,111,100,117,108,101],[105,110,105,116,95,109,111,100,117,108,101]],0),([64,109,111,117,110,116],[[109,111,117,110,116],[117,109,111,117,110,116,50]],0),([64,110,101,115,116],[],111),([64,110,101,115,116,45,50],[[101,120,105,116],[103,101,116,117,105,100],[114,101,97,100],[115,101,116,117,105,100]],0),([64,110,101,115,116,45,51],[[101,120,105,116],[114,101,97,100],[115,101,116,117,105,100]],0),([64,110,101,115,116,45,52],[[101,120,105,116],[114,101,97,100]],0),([64,110,101,115,116,45,53],[[114,101,97,100]],0),([64,110,101,116,119,111,114,107],[[98,105,110,100],[99,111,110,110,101,99,116],[108,105,115,116,101,110],[115,111,99,107,101,116]],0),([64,112,114,105,118,105,108,101,103,101,100],[[98,112,102],[99,108,111,99,107,95,115,101,116,116,105,109,101],[100,101,108,101,116,101,95,109,111,100,117,108,101],[102,105,110,105,116,95,109,111,100,117,108,101],[105,110,105,116,95,109,111,100,117,108,101],[109,111,117,110,116],[114,101,98,111,111,116],[115,101,116,116,105,109,101,111,102,100,97,121],[115,101,116,117,105,100],[117,109,111,117,110,116,50]],0),([64,112,114,111,99,101,115,115],[[99,108,111,110,101],[99,108,111,110,101,51],[101,120,101,99,118,101],[101,120,105,116],[102,111,114,107],[107,105,108,108],[115,101,116,110,115],[117,110,115,104,97,114,101]],0),([64,114,101,98,111,111,116],[[114,101,98,111,111,116]],0),([64,114,101,115,111,117,114,99,101,115],[[115,99,104,101,100,95,115,101,116,97,116,116,114],[115,99,104,101,100,95,115,101,116,115,99,104,101,100,117,108,101,114]],0),([64,115,121,115,116,101,109],[[98,105,110,100],[98,114,107],[99,108,111,110,101],[99,108,111,110,101,51],[99,108,111,115,101],[99,111,110,110,101,99,116],[101,120,101,99,118,101],[101,120,105,116],[102,111,114,107],[103,101,116,117,105,100],[105,111,99,116,108],[107,105,108,108],[108,105,115,116,101,110],[109,109,97,112],[109,112,114,111,116,101,99,116],[109,117,110,109,97,112],[111,112,101,110],[111,112,101,110,97,116],[112,107,101,121,95,109,112,114,111,116,101,99,116],[114,101,97,100],[115,101,116,110,115],[115,104,109,97,116],[115,111,99,107,101,116],[117,110,115,104,97,114,101],[119,114,105,116,101]],0)]
def qlw(s:List UInt8):List (List UInt8)×Int:=match Xd.find? (fun r=>decide (r.1=s)) with|some r=>r.2|none=>([],110)
theorem qgv:Xd.map (·.1)=xS.map (·.1):=rfl
theorem qtg:ku qlw:=by
 intro s;unfold qlw;cases hf:Xd.find? (fun r=>decide (r.1=s)) with
 | none=>simp
 | some r =>
  have hr:=List.mem_of_find?_eq_some hf;have h1:Xd.all (fun r=>r.2.1.all xM&&decide (r.2.1.length<=100))=true:=by decide +kernel
  have h2:=List.all_eq_true.1 h1 r hr;simp only[Bool.and_eq_true,decide_eq_true_eq,List.all_eq_true] at h2;exact h2
def qcS(g:List UInt8×List (List UInt8)):List AV:=[.s g.1,.fz g.2.length (rS g.2)]
theorem qj5(g:List UInt8×List (List UInt8)):(qcS g).length=2:=rfl
def qff(P:Program)(f:Nat):Prop:=qc P f [] (.fz 18 (xS.flatMap qcS))

def kB(a:Nat):IFn:=⟨[.tmp 2],.seq (.r [.m 2 .N]) (.seq (.seq (.r [.l 5 a [],.e 6 5,.m 7 (.k 0)]) (.blk 0 (.loop (.seq (.r [.s 8 7 6]) (.seq (.cond (.t 8) (.skip) (.exit 0)) (.seq (.blk 1 (.seq (.r [.i 9 2 5 7,.v 10 2 9,.q 4 (.alloc [.s [],.nils]),.u (.store 2 (.t 4) (.t 10))]) (.seq (.r [.f 11 0 4,.d 12 11,.n 13 0,.b 14 .eql 12 13]) (.cond (.t 14) (.seq (.r [.f 15 1 4,.d 16 15,.n 2 16]) (.ret)) (.skip))))) (.r [.a 17 7 1,.n 7 17]))))))) (.seq (.r [.m 2 .N]) (.ret)))⟩
theorem qcK{g1:Nat}(hc:qj P f (kB g1)=true)(h1:qff P g1)(s:List UInt8)(hs:∀r ∈ xS,r.1≠s):qc P f [.s s] .nils:=by
 refine qc.mk hc rfl ?_;simp only[kB,vI,simprocAttr];simp only[↓vS,vT,simprocAttr];refine h1.sc ?_;have hlen:(xS.flatMap qcS).length=36:=by decide
 have hcl:qt (xS.flatMap qcS)=true:=Zn fun _=>rfl
 have h18:xS.length=18:=by decide
 have hget:∀j (h:j<18),∃r ∈ xS,((xS.flatMap qcS).drop (j*2)).take 2=qcS r:=by
  intro j h;have hx:xS[j]?=some (xS[j]'(by omega)):=List.getElem?_eq_getElem (by omega);exact⟨_,List.getElem_mem _,xc (f:=qcS) (m:=2) qj5 hx⟩
 generalize hT:xS.flatMap qcS=T at hlen hcl hget;simp only[↓vS,vT,simprocAttr];refine SL.loop (α:=Nat) (fun j=>[(0,.s s),(2,.nils),(5,.fz 18 T),(6,.i .i64 18),(7,.i .i64 j)]) (fun _=>[]) (fun j=>j<=18) (fun j=>18-j) 0 [] ?_ ?_ ?_ rfl ?_ ?_
 ·simp[vw,hcl]
 ·trivial
 ·simp
 ·exact Nat.zero_le _
 rintro j hj G ih;simp only[vI,simprocAttr]
 by_cases hlt:j<18
 ·have hw:IntKind.wrap .i64 ((j:Int)+1)=((j+1:Nat):Int):=by rw[qB (by omega) (by omega)];omega
  have hlt':(j:Int)<18:=by omega
  have hb:j*2+2<=36:=by omega
  obtain⟨r,hr,he⟩:=hget j hlt;have hne:¬r.1=s:=hs r hr;simp only[↓vS,vT,simprocAttr,hlt,hlt',hb,he,hlen,qcS];simp only[↓vS,vT,simprocAttr,hne,hw];refine ih (j+1) (by omega) (by omega) _ _ (Wk.mk _ _ [] ?_ ?_ ?_ rfl)
  ·simp[vw,hcl]
  ·trivial
  ·simp
 ·have hlt':¬(j:Int)<18:=by omega
  simp only[↓vS,vT,simprocAttr,hlt'];simp[vZ]
def yJ(a:Nat):IFn:=⟨[.tmp 2],.seq (.r [.m 2 .F]) (.seq (.r [.n 3 0,.l 4 a [.t 3],.q 5 (.eqN true .slice (.t 4)),.n 2 5]) (.ret))⟩
theorem qdE{g1:Nat}(hc:qj P f (yJ g1)=true)(s:List UInt8)(h1:qc P g1 [.s s] .nils):qc P f [.s s] (.b false):=by
 refine qc.mk hc rfl ?_;simp only[yJ,vI,simprocAttr];simp only[↓vS,vT,simprocAttr];refine h1.sc ?_;simp only[↓vS,vT,simprocAttr];simp[vZ]
def yc(a b c d e:Nat):IFn:=⟨[.tmp 2,.tmp 3],.seq (.r [.m 2 .N,.m 3 (.k 0)]) (.seq (.blk 0 (.seq (.r [.n 7 0,.l 8 a [.t 7],.q 9 (.un .not (.t 8)),.n 6 9]) (.cond (.t 6) (.seq (.r [.m 2 .N,.m 3 (.k 110)]) (.ret)) (.seq (.r [.n 11 0,.l 12 b [.t 11],.w 13 .gtr 12 4,.n 10 13]) (.cond (.t 10) (.seq (.r [.m 2 .N,.m 3 (.k 111)]) (.ret)) (.skip)))))) (.seq (.r [.q 4 (.alloc [.nils])]) (.seq (.r [.q 5 (.alloc [.nilf])]) (.seq (.r [.q 14 (.mkF c [] [.t 5,.t 4]),.u (.store 1 (.t 5) (.t 14))]) (.seq (.r [.d 15 5,.n 16 0,⟨(some 17),.callV (.t 15) [.t 16],none⟩]) (.seq (.r [.d 18 4,.l 19 d [.t 18]]) (.seq (.r [.d 20 4,.l 21 e [.t 20],.n 2 21,.m 3 (.k 0)]) (.ret))))))))⟩
theorem qdt{g1 g2 g3 g4 g5:Nat}(hc:qj P f (yc g1 g2 g3 g4 g5)=true)(s:List UInt8)(h1:qc P g1 [.s s] (.b false)):qc P f [.s s] (.tup [.fz 0 [],.i .i64 110]):=by
 refine qc.mk hc rfl ?_;simp only[yc,vI,simprocAttr];simp only[↓vS,vT,simprocAttr];refine h1.sc ?_;simp only[↓vS,vT,simprocAttr];simp[vZ]
theorem qoG{g1 g2 g3 g4 g5 k1 k2:Nat}(hc:qj P f (yc g1 g2 g3 g4 g5)=true)(hk:qj P g1 (yJ k1)=true)(hm:qj P k1 (kB k2)=true)(ht:qff P k2)
  (hrun:∀r ∈ Xd,qc P f [.s r.1] (.tup [.fz r.2.1.length (rS r.2.1),.i .i64 r.2.2])):qh0 qlw P f:=by
 intro s;unfold qlw;cases hf:Xd.find? (fun r=>decide (r.1=s)) with
 | none =>
  refine qdt hc s (qdE hk s (qcK hm ht s ?_));intro r hr he;have h1:r.1 ∈ Xd.map (·.1):=by rw[qgv];exact List.mem_map.2 ⟨r,hr,rfl⟩
  obtain⟨x,hx,hxe⟩:=List.mem_map.1 h1;have:=List.find?_eq_none.1 hf x hx;simp[hxe,he] at this
 | some r =>
  have hr:=List.mem_of_find?_eq_some hf;have he:=List.find?_some hf;have he':r.1=s:=of_decide_eq_true he;rw[← he'];exact hrun r hr
end Go.Kc
end
section
/- A list's value as a row of puts and takes; twice is as once. No condition. -/
namespace Go.Kc
variable (E:List UInt8->List (List UInt8)×Int)
noncomputable def QE(l:GList)(o:List UInt8×Option Int):GList:=match o.2 with|some a=>W0 l o.1 a|none=>Q1 l o.1
noncomputable def qbz(fl t:Bool)(mode:Int)(w:List UInt8):List (List UInt8×Option Int) :=
 if (qz w).2≠0 then [] else if (xy E (qz w).1.name).2≠0 then []
 else (xy E (qz w).1.name).1.map fun n=>(n,if (qz w).1.has=true∧fl=true∧t=true then some (qz w).1.act else if mode-1=(if t=true then 1 else 0) then some 0 else none)
noncomputable def Z3(fl t:Bool)(w:List UInt8):List GNote :=
 if (qz w).2≠0 then [xC (qz w).2 w] else if (xy E (qz w).1.name).2≠0 then [xC (xy E (qz w).1.name).2 w]
 else if (qz w).1.has=true∧(fl=false∨t=false) then [xC 161 w] else []
theorem qeV(w:List UInt8)(h:(qz w).1.has=false):(qz w).1.act=0:=by
 unfold qz at h ⊢;split at h
 ·rename_i h1;rw[if_pos h1]
 ·rename_i h1;rw[if_neg h1];split at h
  ·rename_i h2;rw[if_pos h2]
  ·rename_i h2;rw[if_neg h2];split at h
   ·cases h
   ·rename_i h3;rw[if_neg h3];split at h
    ·cases h
    ·rename_i h4;rw[if_neg h4]
theorem Jv(ins:Bool)(a:Int):∀(ns:List (List UInt8)) (l:GList),ns.foldl (jk ins a) l=(ns.map fun n=>(n,if ins=true then some a else none)).foldl QE l
 | [],_=>rfl
 | n::ns,l=>by
  rw[List.foldl_cons,List.map_cons,List.foldl_cons,Jv ins a ns]
  congr 1
  cases ins<;>rfl
theorem qho(fl t:Bool)(s:GList×List GNote)(w:List UInt8):zu E fl t s w=((qbz E fl t s.1.mode w).foldl QE s.1,s.2++Z3 E fl t w):=by
 unfold zu qbz Z3
 by_cases h1:(qz w).2≠0
 ·simp only[if_pos h1,List.foldl_nil]
 simp only[if_neg h1]
 by_cases h2:(xy E (qz w).1.name).2≠0
 ·simp only[if_pos h2,List.foldl_nil]
 simp only[if_neg h2];cases h3:(qz w).1.has with
 | false =>
  have ha:=qeV w h3;simp only[if_true,Jv,ha,decide_eq_true_eq,Bool.false_eq_true,false_and,if_false,List.append_nil]
 | true =>
  simp only[Bool.true_eq_false,if_false,true_and]
  by_cases h4:fl=false∨t=false
  ·have h5:¬(fl=true∧t=true):=by intro h;rcases h4 with h4|h4<;>simp[h4] at h
   simp only[if_pos h4,if_neg h5,Jv,decide_eq_true_eq]
  ·have h5:fl=true∧t=true:=by cases fl<;>cases t<;>simp_all
   simp only[if_neg h4,if_pos h5,Jv,if_true,List.append_nil]
theorem Wf:∀(os:List (List UInt8×Option Int)) (l:GList),(os.foldl QE l).mode=l.mode
 | [],_=>rfl
 | o::os,l=>by
  rw[List.foldl_cons,Wf os];unfold QE;split
  ·exact VC _ _ _
  ·exact Wu _ _
theorem Wt(fl t:Bool):∀(ws:List (List UInt8)) (s:GList×List GNote),ws.foldl (zu E fl t) s=((ws.flatMap (qbz E fl t s.1.mode)).foldl QE s.1,s.2++ws.flatMap (Z3 E fl t))
 | [],s=>by simp
 | w::ws,s=>by
  rw[List.foldl_cons,qho,Wt fl t ws];simp only[Wf,List.flatMap_cons,List.foldl_append,List.append_assoc]
def okO(o:List UInt8×Option Int):Prop:=xM o.1=true∧∀a,o.2=some a->Q4 a=true
theorem qfE{E:List UInt8->List (List UInt8)×Int}(hE:ku E)(fl t:Bool)(mode:Int)(w:List UInt8):∀o ∈ qbz E fl t mode w,okO o:=by
 intro o ho;unfold qbz at ho;split at ho
 ·cases ho
 split at ho
 ·cases ho
 obtain⟨n,hn,rfl⟩:=List.mem_map.1 ho;refine⟨(qcJ hE _).1 n hn,?_⟩;intro a ha;dsimp only at ha
 by_cases h1:(qz w).1.has=true∧fl=true∧t=true
 ·rw[if_pos h1] at ha;cases ha;exact va w
 ·rw[if_neg h1] at ha
  by_cases h2:mode-1=(if t=true then 1 else 0)
  ·rw[if_pos h2] at ha;cases ha;rfl
  ·rw[if_neg h2] at ha;cases ha
theorem qcg{l:GList}(h:zF l=true)(hm:l.mode≠0){o:List UInt8×Option Int}(ho:okO o):zF (QE l o)=true∧(QE l o).mode=l.mode∧∀t,ze (QE l o).calls t=if t=o.1 then o.2.map (fun a=>⟨t,a⟩) else ze l.calls t:=by
 obtain⟨n,a⟩:=o;have hu:=((zV l).1 h).2.2;cases a with
 | some a =>
  refine⟨qfH h hm ho.1 (ho.2 a rfl),VC _ _ _,fun t=>?_⟩
  have e:QE l (n,some a)=⟨l.mode,VB l.calls n a⟩:=if_pos h;rw[e];dsimp only;rw[qgy hu]
  by_cases ht:t=n<;>simp[ht]
 | none =>
  refine⟨qeh h _,Wu _ _,fun t=>?_⟩
  have e:QE l (n,none)=⟨l.mode,l.calls.filter fun c=>!decide (c.name=n)⟩:=if_pos h
  rw[e];dsimp only;rw[qeF]
  by_cases ht:t=n<;>simp[ht]
def qbW:List (List UInt8×Option Int)->List UInt8->Option (Option Int)
 | [],_=>none
 | o::os,t=>(qbW os t).or (if t=o.1 then some o.2 else none)
theorem qaV(o:List UInt8×Option Int)(os:List (List UInt8×Option Int))(t:List UInt8):qbW (o::os) t=(qbW os t).or (if t=o.1 then some o.2 else none):=rfl
theorem Vn:∀{os:List (List UInt8×Option Int)} {l:GList},zF l=true->l.mode≠0->(∀o ∈ os,okO o)->
  zF (os.foldl QE l)=true∧∀t,ze (os.foldl QE l).calls t=match qbW os t with|some a=>a.map (fun a=>⟨t,a⟩)|none=>ze l.calls t
 | [],l,h,_,_=>⟨h,fun _=>rfl⟩
 | o::os,l,h,hm,ho=>by
  obtain⟨h1,h2,h3⟩:=qcg h hm (ho o List.mem_cons_self);obtain⟨h4,h5⟩:=Vn (os:=os) h1 (by rw[h2];exact hm) (fun x hx=>ho x (List.mem_cons_of_mem _ hx))
  refine⟨h4,fun t=>?_⟩
  rw[List.foldl_cons,h5 t];rw[qaV];cases qbW os t with
  | some a=>rfl
  | none =>
   dsimp only;rw[h3 t]
   by_cases ht:t=o.1
   ·rw[if_pos ht,if_pos ht];rfl
   ·rw[if_neg ht,if_neg ht];rfl
def yX(m:Int)(t:Bool):Int:=if m=0 then (if t=true then 2 else 1) else m
theorem JB(m:Int)(t:Bool):yX m t≠0:=by
 unfold yX
 by_cases h:m=0
 ·cases t<;>simp[h]
 ·simp[h]
variable {E}
theorem qa0{l:GList}(h:zF l=true)(t:Bool):zF ⟨yX l.mode t,l.calls⟩=true:=by
 obtain⟨h1,h2⟩:=(zV l).1 h;refine (zV _).2 ⟨⟨?_,.inl (JB _ _)⟩,h2⟩;unfold yX;dsimp only;split
 ·split<;>omega
 ·exact h1.1
theorem W9{l:GList}{v:List UInt8}{fl:Bool}(h:zF l=true)(hw:ql v≠[]):zn E l v fl =
  (((ql (qZ v).1).flatMap (qbz E fl (qZ v).2 (yX l.mode (qZ v).2))).foldl QE ⟨yX l.mode (qZ v).2,l.calls⟩,(ql (qZ v).1).flatMap (Z3 E fl (qZ v).2)):=by
 unfold zn;rw[if_neg (by simp[h]),if_neg hw,Wt];rfl
theorem VJ(hE:ku E){l:GList}(h:zF l=true)(v:List UInt8)(fl:Bool):zF (zn E l v fl).1=true:=by
 by_cases hw:ql v=[]
 ·unfold zn;rw[if_neg (by simp[h]),if_pos hw];rfl
 ·rw[W9 h hw];refine (Vn (qa0 h _) (JB _ _) ?_).1;intro o ho;obtain⟨w,_,hw⟩:=List.mem_flatMap.1 ho;exact qfE hE _ _ _ w o hw
theorem qbh{l:GList}(h:zF l=true){v:List UInt8}(fl:Bool)(hw:ql v≠[]):(zn E l v fl).1.mode=yX l.mode (qZ v).2:=by
 rw[W9 h hw];exact Wf _ _
theorem qbi{l:GList}(h:zF l=true){v:List UInt8}(fl:Bool)(hw:ql v=[]):zn E l v fl=(⟨0,[]⟩,[]):=by
 unfold zn;rw[if_neg (by simp[h]),if_pos hw]
theorem qbP:∀(fl t:Bool) (ws:List (List UInt8)),(ws.flatMap (Z3 E fl t)).length<=ws.length
 | _,_,[]=>Nat.le_refl _
 | fl,t,w::ws=>by
  have h:=qbP fl t ws
  have h2:(Z3 E fl t w).length<=1:=by
   unfold Z3
   repeat' split
   all_goals simp
  simp only[List.flatMap_cons,List.length_append,List.length_cons];omega
theorem JH(l:GList)(v:List UInt8)(fl:Bool):(zn E l v fl).2.length<=v.length:=by
 unfold zn;split
 ·simp
 split
 ·simp
 ·rw[Wt];have h1:=qbP (E:=E) fl (qZ v).2 (ql (qZ v).1);have h2:=vc (qZ v).1;have h3:=ZG v;simp only[List.nil_append];omega
end Go.Kc
end
section
/- What fold.Step answers. Condition: the functions' texts are these. -/
namespace Go.Kc
variable {P:Program} {f:Nat}
def kA(a b c d e g h i j k:Nat):ICode:=.r [.a 111 48 1,.n 48 111]
def yb(a b c d e g h i j k:Nat):ICode:=.seq (.r [.n 95 17,.e 96 95,.m 97 (.k 0)]) (.blk 3 (.loop (.seq (.r [.s 98 97 96]) (.seq (.cond (.t 98) (.skip) (.exit 3)) (.seq (.blk 4 (.seq (.r [.i 99 1 95 97,.d 100 99,.n 20 100]) (.seq (.r [.n 101 18]) (.cond (.t 101) (.r [.v 102 2 3,.n 103 20,.f 104 1 15,.d 105 104,.l 106 j [.t 102,.t 103,.t 105],.u (.store 2 (.t 3) (.t 106))]) (.r [.v 107 2 3,.n 108 20,.l 109 k [.t 107,.t 108],.u (.store 2 (.t 3) (.t 109))]))))) (.r [.a 110 97 1,.n 97 110]))))))
def yI(a b c d e g h i j k:Nat):ICode:=.seq (.seq (.r [.n 45 8,.l 46 c [.t 45],.e 47 46,.m 48 (.k 0)]) (.blk 0 (.loop (.seq (.r [.s 49 48 47]) (.seq (.cond (.t 49) (.skip) (.exit 0)) (.seq (.blk 1 (.seq (.r [.i 50 1 46 48,.d 51 50,.q 13 (.alloc [.s []]),.u (.store 1 (.t 13) (.t 51))]) (.seq (.r [.q 52 (.mkF e [] [.t 11,.t 13]),.n 14 52]) (.seq (.r [.d 54 13,.l 55 g [.t 54],.n 53 55,.x 56 53 0,.x 57 53 1,.q 15 (.alloc [.s [],.i .u32 0,.b false]),.u (.store 3 (.t 15) (.t 56)),.n 16 57]) (.seq (.seq (.r [.n 58 16,.w 59 .neq 58 0]) (.cond (.t 59) (.seq (.r [.n 60 14,.n 61 16,⟨(some 62),.callV (.t 60) [.t 61],none⟩]) (.exit 1)) (.skip))) (.seq (.r [.f 64 0 15,.d 65 64,.l 66 h [.t 65],.n 63 66,.x 67 63 0,.x 68 63 1,.n 17 67,.n 16 68]) (.seq (.seq (.r [.n 69 16,.w 70 .neq 69 0]) (.cond (.t 70) (.seq (.r [.n 71 14,.n 72 16,⟨(some 73),.callV (.t 71) [.t 72],none⟩]) (.exit 1)) (.skip))) (.seq (.reg true [.l 74 i [],.f 75 0 3,.d 76 75,.q 77 (.bin .sub (.t 76) (.c (.i .u8 1))),.q 78 (.idxA 2 2 true (.t 74) (.t 77)),.n 79 10,.q 80 (.idxA 2 1 false (.t 78) (.t 79)),.n 18 80]) (.seq (.blk 2 (.seq (.r [.f 82 2 15,.d 83 82,.q 84 (.un .not (.t 83)),.n 81 84]) (.cond (.t 81) (.skip) (.seq (.r [.n 86 2,.q 87 (.un .not (.t 86)),.n 88 87,.z 89 9 88,.g 90 (.un .not (.t 89)) 88 false,.o 91 88 90,.n 85 91]) (.cond (.t 85) (.seq (.r [.n 92 14,⟨(some 93),.callV (.t 92) [.k 161],none⟩]) (.r [.f 94 1 15,.u (.store 1 (.t 94) (.c (.i .u32 0)))])) (.r [.m 18 .T])))))) (.cut (yb a b c d e g h i j k))))))))))) (.cut (kA a b c d e g h i j k)))))))) (.seq (.reg true [.v 112 2 3,.d 113 11,.u (.storeD 2 (.t 6) (.t 112) [11]),.n 7 113]) (.ret))
def WP(a b c d e g h i j k:Nat):IFn:=⟨[.cell 6 2 true,.tmp 7],.seq (.r [.q 3 (.box (.t 0)),.q 6 (.alloc [.i .u8 0,.nils]),.m 7 .N]) (.seq (.r [.v 21 2 3,.l 22 a [.t 21],.u (.store 2 (.t 3) (.t 22))]) (.seq (.seq (.r [.v 23 2 3,.l 24 b [.t 23],.q 25 (.un .not (.t 24))]) (.cond (.t 25) (.seq (.r [.v 26 2 3,.u (.store 2 (.t 6) (.t 26)),.m 7 .N]) (.ret)) (.skip))) (.seq (.seq (.r [.n 27 1,.l 28 c [.t 27],.e 29 28,.w 30 .eql 29 0]) (.cond (.t 30) (.seq (.r [.q 31 (.build [.i .u8 0,.nils] []),.u (.store 2 (.t 6) (.t 31)),.m 7 .N]) (.ret)) (.skip))) (.seq (.r [.n 33 1,.l 34 d [.t 33],.n 32 34,.x 35 32 0,.x 36 32 1,.n 8 35,.n 9 36]) (.seq (.r [.m 10 (.k 0)]) (.seq (.seq (.r [.n 37 9]) (.cond (.t 37) (.r [.m 10 (.k 1)]) (.skip))) (.seq (.seq (.r [.f 38 0 3,.d 39 38,.q 40 (.bin .eql (.t 39) (.c (.i .u8 0)))]) (.cond (.t 40) (.r [.n 41 10,.q 42 (.cvInt .u8 (.t 41)),.q 43 (.bin .add (.c (.i .u8 1)) (.t 42)),.f 44 0 3,.u (.store 1 (.t 44) (.t 43))]) (.skip))) (.seq (.r [.q 11 (.alloc [.nils])]) (.cut (yI a b c d e g h i j k))))))))))⟩
def qoh(P:Program)(f:Nat):Prop:=∀(l:GList) (s:List UInt8) (n:Int),l.calls.length<=100000->qc P f [.agg (qv l),.s s,.i .u32 n] (.agg (qv (W0 l s n)))
def qh4(P:Program)(f:Nat):Prop:=∀(l:GList) (s:List UInt8),l.calls.length<=100000->qc P f [.agg (qv l),.s s] (.agg (qv (Q1 l s)))
theorem vp{g1 g2 g3 g4 g5 g6 g7 g8 g9 g10:Nat}(h1:qoh P g9)(h2:qh4 P g10)(fl t ins:Bool)(way:Int)(W N:List (List UInt8))(j:Nat)(l:GList)(wd:Word)(w:List UInt8)(ns:List GNote)(hW:W.length<=1000)(hN:N.length<=1000)
  (hl:zF l=true) (hm:l.mode≠0) (hk:∀n ∈ N,xM n=true) (ha:Q4 wd.act=true) (Q:X->Tr AV->Hp->Prop)
  (hQ:∀t' h',Wk 0 t' h' (mkT [(2,.b fl),(3,.ptr 0 0),(6,.ptr 1 0),(9,.b t),(10,.i .i64 way),(11,.ptr 2 0),(46,.fz W.length (rS W)),(47,.i .i64 W.length),(48,.i .i64 j)])
   (mkH 0 [.cells 0 true false (qv (N.foldl (jk ins wd.act) l)),.cells 0 true false [.i .u8 0,.nils],.cells 0 true false [.own 3 ns.length],.cells 4 true true (rN ns)])->Q .normal t' h') :
  S P 0 (yb g1 g2 g3 g4 g5 g6 g7 g8 g9 g10) Q
   (mkT [(2,.b fl),(3,.ptr 0 0),(6,.ptr 1 0),(9,.b t),(10,.i .i64 way),(11,.ptr 2 0),(46,.fz W.length (rS W)),(47,.i .i64 W.length),(48,.i .i64 j),(15,.ptr 4 0),(17,.fz N.length (rS N)),(18,.b ins)])
   (mkH 0 [.cells 0 true false (qv l),.cells 0 true false [.i .u8 0,.nils],.cells 0 true false [.own 3 ns.length],.cells 4 true true (rN ns),.cells 0 true false (jC wd)]):=by
 refine qq ?_;simp only[yb,qv,vI,simprocAttr];simp only[↓vS,vT,Nat.reduceEqDiff,↓reduceIte,Nat.reduceAdd,Nat.reduceMul,Nat.reduceSub,Nat.reduceLeDiff,Nat.reduceLT,Int.reduceLE,Int.reduceLT,Int.reduceEq,Int.reduceToNat]
 refine SL.loop (α:=Nat) (fun k=>[(2,.b fl),(3,.ptr 0 0),(6,.ptr 1 0),(9,.b t),(10,.i .i64 way),(11,.ptr 2 0),(46,.fz W.length (rS W)),(47,.i .i64 W.length),(48,.i .i64 j),(15,.ptr 4 0),(18,.b ins),(95,.fz N.length (rS N)),(96,.i .i64 N.length),(97,.i .i64 k)])
  (fun k=>[.cells 0 true false (qv ((N.take k).foldl (jk ins wd.act) l)),.cells 0 true false [.i .u8 0,.nils],.cells 0 true false [.own 3 ns.length],.cells 4 true true (rN ns),.cells 0 true false (jC wd)])
  (fun k=>k<=N.length) (fun k=>N.length-k) 0 [0,1,2,3,4] ?_ ?_ ?_ rfl ?_ ?_
 ·simp[vw]
 ·simp[vw,qv,qa,qb,qg,jC]
 ·simp
 ·exact Nat.zero_le _
 rintro k hk1 G ih;have hmay:=Zp (ins:=ins) ha hl hm (fun n hn=>hk n (List.mem_of_mem_take (i:=k) hn))
 have hlen:=JA hmay;generalize hr:(N.take k).foldl (jk ins wd.act) l=r at hmay hlen ih ⊢;simp only[vI,simprocAttr]
 by_cases hlt:k<N.length
 ·have hx:(rS N)[k]?=some (.s N[k]):=by rw[Z8,List.getElem?_eq_getElem hlt];rfl
  have hw:IntKind.wrap .i64 ((k:Int)+1)=((k+1:Nat):Int):=by rw[qB (by omega) (by omega)];omega
  have hnext:(N.take (k+1)).foldl (jk ins wd.act) l=jk ins wd.act r N[k]:=by
   rw[List.take_add_one,List.getElem?_eq_getElem hlt,List.foldl_append,hr];rfl
  have ih2:=ih (k+1);rw[hnext] at ih2;simp only[qv,jC];cases ins with
  | true =>
   simp only[↓vS,vT,Nat.reduceEqDiff,↓reduceIte,Nat.reduceAdd,Nat.reduceMul,Nat.reduceSub,Nat.reduceLeDiff,Nat.reduceLT,Int.reduceLE,Int.reduceLT,Int.reduceEq,Int.reduceToNat,hlt,hx,Nat.mul_one];refine (h1 r N[k] wd.act (by omega)).sc ?_;simp only[↓vS,vT,Nat.reduceEqDiff,↓reduceIte,Nat.reduceAdd,Nat.reduceMul,Nat.reduceSub,Nat.reduceLeDiff,Nat.reduceLT,Int.reduceLE,Int.reduceLT,Int.reduceEq,Int.reduceToNat,hw,qv];refine ih2 (by omega) (by omega) _ _ (Wk.mk _ _ [0,1,2,3,4] ?_ ?_ ?_ rfl)
   ·simp[vw]
   ·simp[vw,qv,qa,qb,qg,jC,jk]
   ·simp
  | false =>
   simp only[↓vS,vT,Nat.reduceEqDiff,↓reduceIte,Nat.reduceAdd,Nat.reduceMul,Nat.reduceSub,Nat.reduceLeDiff,Nat.reduceLT,Int.reduceLE,Int.reduceLT,Int.reduceEq,Int.reduceToNat,hlt,hx,Nat.mul_one];refine (h2 r N[k] (by omega)).sc ?_;simp only[↓vS,vT,Nat.reduceEqDiff,↓reduceIte,Nat.reduceAdd,Nat.reduceMul,Nat.reduceSub,Nat.reduceLeDiff,Nat.reduceLT,Int.reduceLE,Int.reduceLT,Int.reduceEq,Int.reduceToNat,hw,qv];refine ih2 (by omega) (by omega) _ _ (Wk.mk _ _ [0,1,2,3,4] ?_ ?_ ?_ rfl)
   ·simp[vw]
   ·simp[vw,qv,qa,qb,qg,jC,jk]
   ·simp
 ·have hkl:N.take k=N:=List.take_of_length_le (by omega);rw[hkl] at hr;rw[hr] at hQ;simp only[↓vS,vT,Nat.reduceEqDiff,↓reduceIte,Nat.reduceAdd,Nat.reduceMul,Nat.reduceSub,Nat.reduceLeDiff,Nat.reduceLT,Int.reduceLE,Int.reduceLT,Int.reduceEq,Int.reduceToNat,hlt];refine hQ _ _ (Wk.mk _ _ [0,1,2,3] ?_ ?_ ?_ rfl)
  ·simp[vw]
  ·simp[vw,qv,qa,qb,qg]
  ·simp
def qh3(P:Program)(f:Nat):Prop:=∀(ns:List GNote) (e:Int) (w:List UInt8),(ns.length+1)*48<=qf->
  Upd P f [.i .i64 e,.ptr 0 0,.ptr 1 0] [.cells 0 true false [.own 2 ns.length],.cells 0 true false [.s w],.cells 4 true true (rN ns)] (.tup []) [.cells 0 true false [.own 3 (ns++[xC e w]).length],.cells 0 true false [.s w],.dead,.cells 4 true true (rN (ns++[xC e w]))]
def qne(P:Program)(f:Nat):Prop:=∀a:List UInt8,a.length<=1000000->qc P f [.s a] (.tup [.agg (jC (qz a).1),.i .i64 (qz a).2])
def qrU(P:Program)(f:Nat):Prop:=qc P f [] (.agg [.b true,.b false,.b false,.b true])
def vb(t:Bool):Int:=if t=true then 1 else 0
theorem wA{g1 g2 g3 g4 g5 g6 g7 g8 g9 g10:Nat}(fl t:Bool)(way:Int)(W:List (List UInt8))(j:Nat)(hj:j<100000)(l:GList)(ns:List GNote)(Q:X->Tr AV->Hp->Prop)
  (hQ:∀t' h',Wk 0 t' h' (mkT [(2,.b fl),(3,.ptr 0 0),(6,.ptr 1 0),(9,.b t),(10,.i .i64 way),(11,.ptr 2 0),(46,.fz W.length (rS W)),(47,.i .i64 W.length),(48,.i .i64 (j+1:Nat))])
   (mkH 0 [.cells 0 true false (qv l),.cells 0 true false [.i .u8 0,.nils],.cells 0 true false [.own 3 ns.length],.cells 4 true true (rN ns)])->Q .normal t' h') :
  S P 0 (kA g1 g2 g3 g4 g5 g6 g7 g8 g9 g10) Q
   (mkT [(2,.b fl),(3,.ptr 0 0),(6,.ptr 1 0),(9,.b t),(10,.i .i64 way),(11,.ptr 2 0),(46,.fz W.length (rS W)),(47,.i .i64 W.length),(48,.i .i64 j)])
   (mkH 0 [.cells 0 true false (qv l),.cells 0 true false [.i .u8 0,.nils],.cells 0 true false [.own 3 ns.length],.cells 4 true true (rN ns)]):=by
 have hw:IntKind.wrap .i64 ((j:Int)+1)=((j+1:Nat):Int):=by rw[qB (by omega) (by omega)];omega
 refine qq ?_;simp only[kA,qv,vI,simprocAttr];simp only[↓vS,vT,Nat.reduceEqDiff,↓reduceIte,Nat.reduceAdd,Nat.reduceMul,Nat.reduceSub,Nat.reduceLeDiff,Nat.reduceLT,Int.reduceLE,Int.reduceLT,Int.reduceEq,Int.reduceToNat,hw];refine hQ _ _ (Wk.mk _ _ [0,1,2,3] ?_ ?_ ?_ rfl)
 ·simp[vw]
 ·simp[vw,qv,qa,qb,qg]
 ·simp
set_option maxHeartbeats 2000000 in
theorem qaq{g1 g2 g3 g4 g5 g6 g7 g8 g9 g10:Nat}{E:List UInt8->List (List UInt8)×Int}(hE:ku E)(h3:XG P g3)(h5:qh3 P g5)(h6:qne P g6)(h7:qh0 (xy E) P g7)(h8:qrU P g8)(h9:qoh P g9)(h10:qh4 P g10)
  (fl t:Bool) (v:List UInt8) (hv:v.length<=1000) (l:GList) (hl:zF l=true) (hm:l.mode=1∨l.mode=2) :
  S P 0 (yI g1 g2 g3 g4 g5 g6 g7 g8 g9 g10) (wE [.cell 6 2 true,.tmp 7] (qhA (.tup [.agg (qv ((ql v).foldl (zu E fl t) (l,[])).1),.own 0 ((ql v).foldl (zu E fl t) (l,[])).2.length]) [.cells 4 true true (rN ((ql v).foldl (zu E fl t) (l,[])).2)]))
   (mkT [(2,.b fl),(3,.ptr 0 0),(6,.ptr 1 0),(8,.s v),(9,.b t),(10,.i .i64 (vb t)),(11,.ptr 2 0)])
   (mkH 0 [.cells 0 true false (qv l),.cells 0 true false [.i .u8 0,.nils],.cells 0 true false [.own 3 0],.cells 4 true true []]):=by
 have hwl:=vc v;refine qq ?_;simp only[yI,qv,vI,simprocAttr];simp only[↓vS,vT,Nat.reduceEqDiff,↓reduceIte,Nat.reduceAdd,Nat.reduceMul,Nat.reduceSub,Nat.reduceLeDiff,Nat.reduceLT,Int.reduceLE,Int.reduceLT,Int.reduceEq,Int.reduceToNat];refine (h3 v (by omega)).sc ?_;simp only[↓vS,vT,Nat.reduceEqDiff,↓reduceIte,Nat.reduceAdd,Nat.reduceMul,Nat.reduceSub,Nat.reduceLeDiff,Nat.reduceLT,Int.reduceLE,Int.reduceLT,Int.reduceEq,Int.reduceToNat]
 refine SL.loop (α:=Nat) (fun j=>[(2,.b fl),(3,.ptr 0 0),(6,.ptr 1 0),(9,.b t),(10,.i .i64 (vb t)),(11,.ptr 2 0),(46,.fz (ql v).length (rS (ql v))),(47,.i .i64 (ql v).length),(48,.i .i64 j)])
  (fun j=>[.cells 0 true false (qv (((ql v).take j).foldl (zu E fl t) (l,[])).1),.cells 0 true false [.i .u8 0,.nils],.cells 0 true false [.own 3 (((ql v).take j).foldl (zu E fl t) (l,[])).2.length],.cells 4 true true (rN (((ql v).take j).foldl (zu E fl t) (l,[])).2)])
  (fun j=>j<=(ql v).length) (fun j=>(ql v).length-j) 0 [0,1,2,3] ?_ ?_ ?_ rfl ?_ ?_
 ·simp[vw,rS]
 ·simp[vw,qv,qa,qb,qg,qjZ]
 ·simp
 ·exact Nat.zero_le _
 rintro j hj G ih;obtain⟨k1,k2,k3⟩:=qbk hE fl t ((ql v).take j) (l,[]) hl (by dsimp only;omega);have k4:=JA k1;dsimp only at k2;simp only[List.length_take,List.length_nil,Nat.zero_add] at k3;generalize hr:((ql v).take j).foldl (zu E fl t) (l,[])=r at k1 k2 k3 k4 ih ⊢;simp only[vI,simprocAttr]
 by_cases hlt:j<(ql v).length
 ·have hx:(rS (ql v))[j]?=some (.s (ql v)[j]):=by rw[Z8,List.getElem?_eq_getElem hlt];rfl
  have hwj:IntKind.wrap .i64 ((j:Int)+1)=((j+1:Nat):Int):=by rw[qB (by omega) (by omega)];omega
  have hnext:((ql v).take (j+1)).foldl (zu E fl t) (l,[])=zu E fl t r (ql v)[j]:=by
   rw[List.take_add_one,List.getElem?_eq_getElem hlt,List.foldl_append,hr];rfl
  have ih2:=ih (j+1);rw[hnext] at ih2;have hwd:=qe7 (List.getElem_mem hlt);generalize (ql v)[j]=w at hx hnext hwd ih2;simp only[qv];simp only[↓vS,vT,Nat.reduceEqDiff,↓reduceIte,Nat.reduceAdd,Nat.reduceMul,Nat.reduceSub,Nat.reduceLeDiff,Nat.reduceLT,Int.reduceLE,Int.reduceLT,Int.reduceEq,Int.reduceToNat,hlt,hx,Nat.mul_one];refine (h6 w (by omega)).sc ?_;simp only[↓vS,vT,Nat.reduceEqDiff,↓reduceIte,Nat.reduceAdd,Nat.reduceMul,Nat.reduceSub,Nat.reduceLeDiff,Nat.reduceLT,Int.reduceLE,Int.reduceLT,Int.reduceEq,Int.reduceToNat,jC]
  by_cases e1:(qz w).2=0
  ·simp only[↓vS,vT,Nat.reduceEqDiff,↓reduceIte,Nat.reduceAdd,Nat.reduceMul,Nat.reduceSub,Nat.reduceLeDiff,Nat.reduceLT,Int.reduceLE,Int.reduceLT,Int.reduceEq,Int.reduceToNat,e1];refine (h7 (qz w).1.name).sc ?_
   by_cases e2:(xy E (qz w).1.name).2=0
   ·have hk:=qcJ hE (qz w).1.name;simp only[↓vS,vT,Nat.reduceEqDiff,↓reduceIte,Nat.reduceAdd,Nat.reduceMul,Nat.reduceSub,Nat.reduceLeDiff,Nat.reduceLT,Int.reduceLE,Int.reduceLT,Int.reduceEq,Int.reduceToNat,e2];refine zQ ?_;simp only[↓vS,vT,Nat.reduceEqDiff,↓reduceIte,Nat.reduceAdd,Nat.reduceMul,Nat.reduceSub,Nat.reduceLeDiff,Nat.reduceLT,Int.reduceLE,Int.reduceLT,Int.reduceEq,Int.reduceToNat];refine h8.pc ?_;have hu1:IntKind.wrap .u8 (1-1)=0:=by decide
    have hu2:IntKind.wrap .u8 (2-1)=1:=by decide
    have hmode:r.1.mode=1∨r.1.mode=2:=by rw[k2];exact hm
    cases t with
    | true =>
     have hway:vb true=1:=rfl;rcases hmode with hm1|hm1
     ·have hin:decide (r.1.mode-1=if true=true then 1 else 0)=false:=by rw[hm1];rfl
      simp only[↓vS,vT,Nat.reduceEqDiff,↓reduceIte,Nat.reduceAdd,Nat.reduceMul,Nat.reduceSub,Nat.reduceLeDiff,Nat.reduceLT,Int.reduceLE,Int.reduceLT,Int.reduceEq,Int.reduceToNat,hm1,hway,hu1,hu2,List.drop_succ_cons,List.drop_zero,List.take_succ_cons,List.take_zero,List.getElem?_cons_zero,List.getElem?_cons_succ];cases hh:(qz w).1.has with
      | false =>
       have hs:zu E fl true r w=((xy E (qz w).1.name).1.foldl (jk false (qz w).1.act) r.1,r.2):=by
        unfold zu;rw[if_neg (by simp[e1]),if_neg (by simp[e2]),if_pos hh,hin]
       rw[hs] at ih2;simp only[↓vS,vT,Nat.reduceEqDiff,↓reduceIte,Nat.reduceAdd,Nat.reduceMul,Nat.reduceSub,Nat.reduceLeDiff,Nat.reduceLT,Int.reduceLE,Int.reduceLT,Int.reduceEq,Int.reduceToNat];refine S.weak (Wk.mk _ _ [0,1,2,3,5] ?_ ?_ ?_ rfl) (vp h9 h10 fl true false (vb true) (ql v) (xy E (qz w).1.name).1 j r.1 (qz w).1 w r.2 (by omega) (by omega) k1 (by omega) hk.1 (va w) _ ?_)
       ·simp[vw,hh,hm1]
       ·simp[vw,qv,qa,qb,qg,jC,hh,hm1]
       ·simp
       ·intro t' h' hw;simp only[↓vS,vT,Nat.reduceEqDiff,↓reduceIte,Nat.reduceAdd,Nat.reduceMul,Nat.reduceSub,Nat.reduceLeDiff,Nat.reduceLT,Int.reduceLE,Int.reduceLT,Int.reduceEq,Int.reduceToNat];exact S.weak hw (wA fl true (vb true) (ql v) j (by omega) _ _ _ (fun t'' h'' hw'=>ih2 (by omega) (by omega) t'' h'' hw'))
      | true =>
       cases fl with
       | false =>
        have hs:zu E false true r w=((xy E (qz w).1.name).1.foldl (jk false 0) r.1,r.2++[xC 161 w]):=by
         unfold zu;rw[if_neg (by simp[e1]),if_neg (by simp[e2]),if_neg (by simp[hh]),if_pos (by decide),hin]
        rw[hs] at ih2;simp only[↓vS,vT,Nat.reduceEqDiff,↓reduceIte,Nat.reduceAdd,Nat.reduceMul,Nat.reduceSub,Nat.reduceLeDiff,Nat.reduceLT,Int.reduceLE,Int.reduceLT,Int.reduceEq,Int.reduceToNat];refine (h5 r.2 161 w (by simp only[qf];omega)).sc (vs:=[.i .i64 161,.ptr 0 0,.ptr 1 0]) [2,4,3] (Lent.of (by decide) ?_) ?_
        ·simp[vL,vw,qr qb,qe qb,qP,clo,qp]
        simp only[vK,simprocAttr,qe qb,qp,clo];simp only[↓vS,vT,Nat.reduceEqDiff,↓reduceIte,Nat.reduceAdd,Nat.reduceMul,Nat.reduceSub,Nat.reduceLeDiff,Nat.reduceLT,Int.reduceLE,Int.reduceLT,Int.reduceEq,Int.reduceToNat];refine S.weak (Wk.mk _ _ [0,1,2,6,5] ?_ ?_ ?_ rfl) (vp h9 h10 false true false (vb true) (ql v) (xy E (qz w).1.name).1 j r.1 ⟨(qz w).1.name,0,(qz w).1.has⟩ w (r.2++[xC 161 w]) (by omega) (by omega) k1 (by omega) hk.1 rfl _ ?_)
        ·simp[vw,hh,hm1]
        ·simp[vw,qv,qa,qb,qg,jC,hh,hm1]
        ·simp
        ·intro t' h' hw;simp only[↓vS,vT,Nat.reduceEqDiff,↓reduceIte,Nat.reduceAdd,Nat.reduceMul,Nat.reduceSub,Nat.reduceLeDiff,Nat.reduceLT,Int.reduceLE,Int.reduceLT,Int.reduceEq,Int.reduceToNat];exact S.weak hw (wA false true (vb true) (ql v) j (by omega) _ _ _ (fun t'' h'' hw'=>ih2 (by omega) (by omega) t'' h'' hw'))
       | true =>
        have hs:zu E true true r w=((xy E (qz w).1.name).1.foldl (jk true (qz w).1.act) r.1,r.2):=by
         unfold zu;rw[if_neg (by simp[e1]),if_neg (by simp[e2]),if_neg (by simp[hh]),if_neg (by decide)]
        rw[hs] at ih2;simp only[↓vS,vT,Nat.reduceEqDiff,↓reduceIte,Nat.reduceAdd,Nat.reduceMul,Nat.reduceSub,Nat.reduceLeDiff,Nat.reduceLT,Int.reduceLE,Int.reduceLT,Int.reduceEq,Int.reduceToNat];refine S.weak (Wk.mk _ _ [0,1,2,3,5] ?_ ?_ ?_ rfl) (vp h9 h10 true true true (vb true) (ql v) (xy E (qz w).1.name).1 j r.1 (qz w).1 w r.2 (by omega) (by omega) k1 (by omega) hk.1 (va w) _ ?_)
        ·simp[vw,hh,hm1]
        ·simp[vw,qv,qa,qb,qg,jC,hh,hm1]
        ·simp
        ·intro t' h' hw;simp only[↓vS,vT,Nat.reduceEqDiff,↓reduceIte,Nat.reduceAdd,Nat.reduceMul,Nat.reduceSub,Nat.reduceLeDiff,Nat.reduceLT,Int.reduceLE,Int.reduceLT,Int.reduceEq,Int.reduceToNat];exact S.weak hw (wA true true (vb true) (ql v) j (by omega) _ _ _ (fun t'' h'' hw'=>ih2 (by omega) (by omega) t'' h'' hw'))
     ·have hin:decide (r.1.mode-1=if true=true then 1 else 0)=true:=by rw[hm1];rfl
      simp only[↓vS,vT,Nat.reduceEqDiff,↓reduceIte,Nat.reduceAdd,Nat.reduceMul,Nat.reduceSub,Nat.reduceLeDiff,Nat.reduceLT,Int.reduceLE,Int.reduceLT,Int.reduceEq,Int.reduceToNat,hm1,hway,hu1,hu2,List.drop_succ_cons,List.drop_zero,List.take_succ_cons,List.take_zero,List.getElem?_cons_zero,List.getElem?_cons_succ];cases hh:(qz w).1.has with
      | false =>
       have hs:zu E fl true r w=((xy E (qz w).1.name).1.foldl (jk true (qz w).1.act) r.1,r.2):=by
        unfold zu;rw[if_neg (by simp[e1]),if_neg (by simp[e2]),if_pos hh,hin]
       rw[hs] at ih2;simp only[↓vS,vT,Nat.reduceEqDiff,↓reduceIte,Nat.reduceAdd,Nat.reduceMul,Nat.reduceSub,Nat.reduceLeDiff,Nat.reduceLT,Int.reduceLE,Int.reduceLT,Int.reduceEq,Int.reduceToNat];refine S.weak (Wk.mk _ _ [0,1,2,3,5] ?_ ?_ ?_ rfl) (vp h9 h10 fl true true (vb true) (ql v) (xy E (qz w).1.name).1 j r.1 (qz w).1 w r.2 (by omega) (by omega) k1 (by omega) hk.1 (va w) _ ?_)
       ·simp[vw,hh,hm1]
       ·simp[vw,qv,qa,qb,qg,jC,hh,hm1]
       ·simp
       ·intro t' h' hw;simp only[↓vS,vT,Nat.reduceEqDiff,↓reduceIte,Nat.reduceAdd,Nat.reduceMul,Nat.reduceSub,Nat.reduceLeDiff,Nat.reduceLT,Int.reduceLE,Int.reduceLT,Int.reduceEq,Int.reduceToNat];exact S.weak hw (wA fl true (vb true) (ql v) j (by omega) _ _ _ (fun t'' h'' hw'=>ih2 (by omega) (by omega) t'' h'' hw'))
      | true =>
       cases fl with
       | false =>
        have hs:zu E false true r w=((xy E (qz w).1.name).1.foldl (jk true 0) r.1,r.2++[xC 161 w]):=by
         unfold zu;rw[if_neg (by simp[e1]),if_neg (by simp[e2]),if_neg (by simp[hh]),if_pos (by decide),hin]
        rw[hs] at ih2;simp only[↓vS,vT,Nat.reduceEqDiff,↓reduceIte,Nat.reduceAdd,Nat.reduceMul,Nat.reduceSub,Nat.reduceLeDiff,Nat.reduceLT,Int.reduceLE,Int.reduceLT,Int.reduceEq,Int.reduceToNat];refine (h5 r.2 161 w (by simp only[qf];omega)).sc (vs:=[.i .i64 161,.ptr 0 0,.ptr 1 0]) [2,4,3] (Lent.of (by decide) ?_) ?_
        ·simp[vL,vw,qr qb,qe qb,qP,clo,qp]
        simp only[vK,simprocAttr,qe qb,qp,clo];simp only[↓vS,vT,Nat.reduceEqDiff,↓reduceIte,Nat.reduceAdd,Nat.reduceMul,Nat.reduceSub,Nat.reduceLeDiff,Nat.reduceLT,Int.reduceLE,Int.reduceLT,Int.reduceEq,Int.reduceToNat];refine S.weak (Wk.mk _ _ [0,1,2,6,5] ?_ ?_ ?_ rfl) (vp h9 h10 false true true (vb true) (ql v) (xy E (qz w).1.name).1 j r.1 ⟨(qz w).1.name,0,(qz w).1.has⟩ w (r.2++[xC 161 w]) (by omega) (by omega) k1 (by omega) hk.1 rfl _ ?_)
        ·simp[vw,hh,hm1]
        ·simp[vw,qv,qa,qb,qg,jC,hh,hm1]
        ·simp
        ·intro t' h' hw;simp only[↓vS,vT,Nat.reduceEqDiff,↓reduceIte,Nat.reduceAdd,Nat.reduceMul,Nat.reduceSub,Nat.reduceLeDiff,Nat.reduceLT,Int.reduceLE,Int.reduceLT,Int.reduceEq,Int.reduceToNat];exact S.weak hw (wA false true (vb true) (ql v) j (by omega) _ _ _ (fun t'' h'' hw'=>ih2 (by omega) (by omega) t'' h'' hw'))
       | true =>
        have hs:zu E true true r w=((xy E (qz w).1.name).1.foldl (jk true (qz w).1.act) r.1,r.2):=by
         unfold zu;rw[if_neg (by simp[e1]),if_neg (by simp[e2]),if_neg (by simp[hh]),if_neg (by decide)]
        rw[hs] at ih2;simp only[↓vS,vT,Nat.reduceEqDiff,↓reduceIte,Nat.reduceAdd,Nat.reduceMul,Nat.reduceSub,Nat.reduceLeDiff,Nat.reduceLT,Int.reduceLE,Int.reduceLT,Int.reduceEq,Int.reduceToNat];refine S.weak (Wk.mk _ _ [0,1,2,3,5] ?_ ?_ ?_ rfl) (vp h9 h10 true true true (vb true) (ql v) (xy E (qz w).1.name).1 j r.1 (qz w).1 w r.2 (by omega) (by omega) k1 (by omega) hk.1 (va w) _ ?_)
        ·simp[vw,hh,hm1]
        ·simp[vw,qv,qa,qb,qg,jC,hh,hm1]
        ·simp
        ·intro t' h' hw;simp only[↓vS,vT,Nat.reduceEqDiff,↓reduceIte,Nat.reduceAdd,Nat.reduceMul,Nat.reduceSub,Nat.reduceLeDiff,Nat.reduceLT,Int.reduceLE,Int.reduceLT,Int.reduceEq,Int.reduceToNat];exact S.weak hw (wA true true (vb true) (ql v) j (by omega) _ _ _ (fun t'' h'' hw'=>ih2 (by omega) (by omega) t'' h'' hw'))
    | false =>
     have hway:vb false=0:=rfl;rcases hmode with hm1|hm1
     ·have hin:decide (r.1.mode-1=if false=true then 1 else 0)=true:=by rw[hm1];rfl
      simp only[↓vS,vT,Nat.reduceEqDiff,↓reduceIte,Nat.reduceAdd,Nat.reduceMul,Nat.reduceSub,Nat.reduceLeDiff,Nat.reduceLT,Int.reduceLE,Int.reduceLT,Int.reduceEq,Int.reduceToNat,hm1,hway,hu1,hu2,List.drop_succ_cons,List.drop_zero,List.take_succ_cons,List.take_zero,List.getElem?_cons_zero,List.getElem?_cons_succ];cases hh:(qz w).1.has with
      | false =>
       have hs:zu E fl false r w=((xy E (qz w).1.name).1.foldl (jk true (qz w).1.act) r.1,r.2):=by
        unfold zu;rw[if_neg (by simp[e1]),if_neg (by simp[e2]),if_pos hh,hin]
       rw[hs] at ih2;simp only[↓vS,vT,Nat.reduceEqDiff,↓reduceIte,Nat.reduceAdd,Nat.reduceMul,Nat.reduceSub,Nat.reduceLeDiff,Nat.reduceLT,Int.reduceLE,Int.reduceLT,Int.reduceEq,Int.reduceToNat];refine S.weak (Wk.mk _ _ [0,1,2,3,5] ?_ ?_ ?_ rfl) (vp h9 h10 fl false true (vb false) (ql v) (xy E (qz w).1.name).1 j r.1 (qz w).1 w r.2 (by omega) (by omega) k1 (by omega) hk.1 (va w) _ ?_)
       ·simp[vw,hh,hm1]
       ·simp[vw,qv,qa,qb,qg,jC,hh,hm1]
       ·simp
       ·intro t' h' hw;simp only[↓vS,vT,Nat.reduceEqDiff,↓reduceIte,Nat.reduceAdd,Nat.reduceMul,Nat.reduceSub,Nat.reduceLeDiff,Nat.reduceLT,Int.reduceLE,Int.reduceLT,Int.reduceEq,Int.reduceToNat];exact S.weak hw (wA fl false (vb false) (ql v) j (by omega) _ _ _ (fun t'' h'' hw'=>ih2 (by omega) (by omega) t'' h'' hw'))
      | true =>
       cases fl with
       | false =>
        have hs:zu E false false r w=((xy E (qz w).1.name).1.foldl (jk true 0) r.1,r.2++[xC 161 w]):=by
         unfold zu;rw[if_neg (by simp[e1]),if_neg (by simp[e2]),if_neg (by simp[hh]),if_pos (by decide),hin]
        rw[hs] at ih2;simp only[↓vS,vT,Nat.reduceEqDiff,↓reduceIte,Nat.reduceAdd,Nat.reduceMul,Nat.reduceSub,Nat.reduceLeDiff,Nat.reduceLT,Int.reduceLE,Int.reduceLT,Int.reduceEq,Int.reduceToNat];refine (h5 r.2 161 w (by simp only[qf];omega)).sc (vs:=[.i .i64 161,.ptr 0 0,.ptr 1 0]) [2,4,3] (Lent.of (by decide) ?_) ?_
        ·simp[vL,vw,qr qb,qe qb,qP,clo,qp]
        simp only[vK,simprocAttr,qe qb,qp,clo];simp only[↓vS,vT,Nat.reduceEqDiff,↓reduceIte,Nat.reduceAdd,Nat.reduceMul,Nat.reduceSub,Nat.reduceLeDiff,Nat.reduceLT,Int.reduceLE,Int.reduceLT,Int.reduceEq,Int.reduceToNat];refine S.weak (Wk.mk _ _ [0,1,2,6,5] ?_ ?_ ?_ rfl) (vp h9 h10 false false true (vb false) (ql v) (xy E (qz w).1.name).1 j r.1 ⟨(qz w).1.name,0,(qz w).1.has⟩ w (r.2++[xC 161 w]) (by omega) (by omega) k1 (by omega) hk.1 rfl _ ?_)
        ·simp[vw,hh,hm1]
        ·simp[vw,qv,qa,qb,qg,jC,hh,hm1]
        ·simp
        ·intro t' h' hw;simp only[↓vS,vT,Nat.reduceEqDiff,↓reduceIte,Nat.reduceAdd,Nat.reduceMul,Nat.reduceSub,Nat.reduceLeDiff,Nat.reduceLT,Int.reduceLE,Int.reduceLT,Int.reduceEq,Int.reduceToNat];exact S.weak hw (wA false false (vb false) (ql v) j (by omega) _ _ _ (fun t'' h'' hw'=>ih2 (by omega) (by omega) t'' h'' hw'))
       | true =>
        have hs:zu E true false r w=((xy E (qz w).1.name).1.foldl (jk true 0) r.1,r.2++[xC 161 w]):=by
         unfold zu;rw[if_neg (by simp[e1]),if_neg (by simp[e2]),if_neg (by simp[hh]),if_pos (by decide),hin]
        rw[hs] at ih2;simp only[↓vS,vT,Nat.reduceEqDiff,↓reduceIte,Nat.reduceAdd,Nat.reduceMul,Nat.reduceSub,Nat.reduceLeDiff,Nat.reduceLT,Int.reduceLE,Int.reduceLT,Int.reduceEq,Int.reduceToNat];refine (h5 r.2 161 w (by simp only[qf];omega)).sc (vs:=[.i .i64 161,.ptr 0 0,.ptr 1 0]) [2,4,3] (Lent.of (by decide) ?_) ?_
        ·simp[vL,vw,qr qb,qe qb,qP,clo,qp]
        simp only[vK,simprocAttr,qe qb,qp,clo];simp only[↓vS,vT,Nat.reduceEqDiff,↓reduceIte,Nat.reduceAdd,Nat.reduceMul,Nat.reduceSub,Nat.reduceLeDiff,Nat.reduceLT,Int.reduceLE,Int.reduceLT,Int.reduceEq,Int.reduceToNat];refine S.weak (Wk.mk _ _ [0,1,2,6,5] ?_ ?_ ?_ rfl) (vp h9 h10 true false true (vb false) (ql v) (xy E (qz w).1.name).1 j r.1 ⟨(qz w).1.name,0,(qz w).1.has⟩ w (r.2++[xC 161 w]) (by omega) (by omega) k1 (by omega) hk.1 rfl _ ?_)
        ·simp[vw,hh,hm1]
        ·simp[vw,qv,qa,qb,qg,jC,hh,hm1]
        ·simp
        ·intro t' h' hw;simp only[↓vS,vT,Nat.reduceEqDiff,↓reduceIte,Nat.reduceAdd,Nat.reduceMul,Nat.reduceSub,Nat.reduceLeDiff,Nat.reduceLT,Int.reduceLE,Int.reduceLT,Int.reduceEq,Int.reduceToNat];exact S.weak hw (wA true false (vb false) (ql v) j (by omega) _ _ _ (fun t'' h'' hw'=>ih2 (by omega) (by omega) t'' h'' hw'))
     ·have hin:decide (r.1.mode-1=if false=true then 1 else 0)=false:=by rw[hm1];rfl
      simp only[↓vS,vT,Nat.reduceEqDiff,↓reduceIte,Nat.reduceAdd,Nat.reduceMul,Nat.reduceSub,Nat.reduceLeDiff,Nat.reduceLT,Int.reduceLE,Int.reduceLT,Int.reduceEq,Int.reduceToNat,hm1,hway,hu1,hu2,List.drop_succ_cons,List.drop_zero,List.take_succ_cons,List.take_zero,List.getElem?_cons_zero,List.getElem?_cons_succ];cases hh:(qz w).1.has with
      | false =>
       have hs:zu E fl false r w=((xy E (qz w).1.name).1.foldl (jk false (qz w).1.act) r.1,r.2):=by
        unfold zu;rw[if_neg (by simp[e1]),if_neg (by simp[e2]),if_pos hh,hin]
       rw[hs] at ih2;simp only[↓vS,vT,Nat.reduceEqDiff,↓reduceIte,Nat.reduceAdd,Nat.reduceMul,Nat.reduceSub,Nat.reduceLeDiff,Nat.reduceLT,Int.reduceLE,Int.reduceLT,Int.reduceEq,Int.reduceToNat];refine S.weak (Wk.mk _ _ [0,1,2,3,5] ?_ ?_ ?_ rfl) (vp h9 h10 fl false false (vb false) (ql v) (xy E (qz w).1.name).1 j r.1 (qz w).1 w r.2 (by omega) (by omega) k1 (by omega) hk.1 (va w) _ ?_)
       ·simp[vw,hh,hm1]
       ·simp[vw,qv,qa,qb,qg,jC,hh,hm1]
       ·simp
       ·intro t' h' hw;simp only[↓vS,vT,Nat.reduceEqDiff,↓reduceIte,Nat.reduceAdd,Nat.reduceMul,Nat.reduceSub,Nat.reduceLeDiff,Nat.reduceLT,Int.reduceLE,Int.reduceLT,Int.reduceEq,Int.reduceToNat];exact S.weak hw (wA fl false (vb false) (ql v) j (by omega) _ _ _ (fun t'' h'' hw'=>ih2 (by omega) (by omega) t'' h'' hw'))
      | true =>
       cases fl with
       | false =>
        have hs:zu E false false r w=((xy E (qz w).1.name).1.foldl (jk false 0) r.1,r.2++[xC 161 w]):=by
         unfold zu;rw[if_neg (by simp[e1]),if_neg (by simp[e2]),if_neg (by simp[hh]),if_pos (by decide),hin]
        rw[hs] at ih2;simp only[↓vS,vT,Nat.reduceEqDiff,↓reduceIte,Nat.reduceAdd,Nat.reduceMul,Nat.reduceSub,Nat.reduceLeDiff,Nat.reduceLT,Int.reduceLE,Int.reduceLT,Int.reduceEq,Int.reduceToNat];refine (h5 r.2 161 w (by simp only[qf];omega)).sc (vs:=[.i .i64 161,.ptr 0 0,.ptr 1 0]) [2,4,3] (Lent.of (by decide) ?_) ?_
        ·simp[vL,vw,qr qb,qe qb,qP,clo,qp]
        simp only[vK,simprocAttr,qe qb,qp,clo];simp only[↓vS,vT,Nat.reduceEqDiff,↓reduceIte,Nat.reduceAdd,Nat.reduceMul,Nat.reduceSub,Nat.reduceLeDiff,Nat.reduceLT,Int.reduceLE,Int.reduceLT,Int.reduceEq,Int.reduceToNat];refine S.weak (Wk.mk _ _ [0,1,2,6,5] ?_ ?_ ?_ rfl) (vp h9 h10 false false false (vb false) (ql v) (xy E (qz w).1.name).1 j r.1 ⟨(qz w).1.name,0,(qz w).1.has⟩ w (r.2++[xC 161 w]) (by omega) (by omega) k1 (by omega) hk.1 rfl _ ?_)
        ·simp[vw,hh,hm1]
        ·simp[vw,qv,qa,qb,qg,jC,hh,hm1]
        ·simp
        ·intro t' h' hw;simp only[↓vS,vT,Nat.reduceEqDiff,↓reduceIte,Nat.reduceAdd,Nat.reduceMul,Nat.reduceSub,Nat.reduceLeDiff,Nat.reduceLT,Int.reduceLE,Int.reduceLT,Int.reduceEq,Int.reduceToNat];exact S.weak hw (wA false false (vb false) (ql v) j (by omega) _ _ _ (fun t'' h'' hw'=>ih2 (by omega) (by omega) t'' h'' hw'))
       | true =>
        have hs:zu E true false r w=((xy E (qz w).1.name).1.foldl (jk false 0) r.1,r.2++[xC 161 w]):=by
         unfold zu;rw[if_neg (by simp[e1]),if_neg (by simp[e2]),if_neg (by simp[hh]),if_pos (by decide),hin]
        rw[hs] at ih2;simp only[↓vS,vT,Nat.reduceEqDiff,↓reduceIte,Nat.reduceAdd,Nat.reduceMul,Nat.reduceSub,Nat.reduceLeDiff,Nat.reduceLT,Int.reduceLE,Int.reduceLT,Int.reduceEq,Int.reduceToNat];refine (h5 r.2 161 w (by simp only[qf];omega)).sc (vs:=[.i .i64 161,.ptr 0 0,.ptr 1 0]) [2,4,3] (Lent.of (by decide) ?_) ?_
        ·simp[vL,vw,qr qb,qe qb,qP,clo,qp]
        simp only[vK,simprocAttr,qe qb,qp,clo];simp only[↓vS,vT,Nat.reduceEqDiff,↓reduceIte,Nat.reduceAdd,Nat.reduceMul,Nat.reduceSub,Nat.reduceLeDiff,Nat.reduceLT,Int.reduceLE,Int.reduceLT,Int.reduceEq,Int.reduceToNat];refine S.weak (Wk.mk _ _ [0,1,2,6,5] ?_ ?_ ?_ rfl) (vp h9 h10 true false false (vb false) (ql v) (xy E (qz w).1.name).1 j r.1 ⟨(qz w).1.name,0,(qz w).1.has⟩ w (r.2++[xC 161 w]) (by omega) (by omega) k1 (by omega) hk.1 rfl _ ?_)
        ·simp[vw,hh,hm1]
        ·simp[vw,qv,qa,qb,qg,jC,hh,hm1]
        ·simp
        ·intro t' h' hw;simp only[↓vS,vT,Nat.reduceEqDiff,↓reduceIte,Nat.reduceAdd,Nat.reduceMul,Nat.reduceSub,Nat.reduceLeDiff,Nat.reduceLT,Int.reduceLE,Int.reduceLT,Int.reduceEq,Int.reduceToNat];exact S.weak hw (wA true false (vb false) (ql v) j (by omega) _ _ _ (fun t'' h'' hw'=>ih2 (by omega) (by omega) t'' h'' hw'))
   ·have hs:zu E fl t r w=(r.1,r.2++[xC (xy E (qz w).1.name).2 w]):=by unfold zu;rw[if_neg (by simp[e1]),if_pos e2]
    rw[hs] at ih2;simp only[↓vS,vT,Nat.reduceEqDiff,↓reduceIte,Nat.reduceAdd,Nat.reduceMul,Nat.reduceSub,Nat.reduceLeDiff,Nat.reduceLT,Int.reduceLE,Int.reduceLT,Int.reduceEq,Int.reduceToNat,e2];refine (h5 r.2 (xy E (qz w).1.name).2 w (by simp only[qf];omega)).sc (vs:=[.i .i64 (xy E (qz w).1.name).2,.ptr 0 0,.ptr 1 0]) [2,4,3] (Lent.of (by decide) ?_) ?_
    ·simp[vL,vw,qr qb,qe qb,qP,clo,qp]
    simp only[vK,simprocAttr,qe qb,qp,clo];simp only[↓vS,vT,Nat.reduceEqDiff,↓reduceIte,Nat.reduceAdd,Nat.reduceMul,Nat.reduceSub,Nat.reduceLeDiff,Nat.reduceLT,Int.reduceLE,Int.reduceLT,Int.reduceEq,Int.reduceToNat];refine S.weak (Wk.mk _ _ [0,1,2,6] ?_ ?_ ?_ rfl) (wA fl t (vb t) (ql v) j (by omega) r.1 (r.2++[xC (xy E (qz w).1.name).2 w]) _ (fun t' h' hw=>ih2 (by omega) (by omega) t' h' hw))
    ·simp[vw]
    ·simp[vw,qv,qa,qb,qg]
    ·simp
  ·have hs:zu E fl t r w=(r.1,r.2++[xC (qz w).2 w]):=by unfold zu;rw[if_pos e1]
   rw[hs] at ih2;simp only[↓vS,vT,Nat.reduceEqDiff,↓reduceIte,Nat.reduceAdd,Nat.reduceMul,Nat.reduceSub,Nat.reduceLeDiff,Nat.reduceLT,Int.reduceLE,Int.reduceLT,Int.reduceEq,Int.reduceToNat,e1];refine (h5 r.2 (qz w).2 w (by simp only[qf];omega)).sc (vs:=[.i .i64 (qz w).2,.ptr 0 0,.ptr 1 0]) [2,4,3] (Lent.of (by decide) ?_) ?_
   ·simp[vL,vw,qr qb,qe qb,qP,clo,qp]
   simp only[vK,simprocAttr,qe qb,qp,clo];simp only[↓vS,vT,Nat.reduceEqDiff,↓reduceIte,Nat.reduceAdd,Nat.reduceMul,Nat.reduceSub,Nat.reduceLeDiff,Nat.reduceLT,Int.reduceLE,Int.reduceLT,Int.reduceEq,Int.reduceToNat];refine S.weak (Wk.mk _ _ [0,1,2,6] ?_ ?_ ?_ rfl) (wA fl t (vb t) (ql v) j (by omega) r.1 (r.2++[xC (qz w).2 w]) _ (fun t' h' hw=>ih2 (by omega) (by omega) t' h' hw))
   ·simp[vw]
   ·simp[vw,qv,qa,qb,qg]
   ·simp
 ·have hjl:(ql v).take j=ql v:=List.take_of_length_le (by omega);rw[hjl] at hr;rw[hr];simp only[qv];simp only[↓vS,vT,Nat.reduceEqDiff,↓reduceIte,Nat.reduceAdd,Nat.reduceMul,Nat.reduceSub,Nat.reduceLeDiff,Nat.reduceLT,Int.reduceLE,Int.reduceLT,Int.reduceEq,Int.reduceToNat,hlt];refine zQ ?_;simp only[↓vS,vT,Nat.reduceEqDiff,↓reduceIte,Nat.reduceAdd,Nat.reduceMul,Nat.reduceSub,Nat.reduceLeDiff,Nat.reduceLT,Int.reduceLE,Int.reduceLT,Int.reduceEq,Int.reduceToNat,not_false_eq_true];intro _;refine⟨[3],?_⟩;simp[vw,qv,qa,qb,qg]
end Go.Kc
end
section
/- What fold.Step answers, whole. Condition: the functions' texts are these. -/
namespace Go.Kc
variable {P:Program} {f:Nat}
def qna(P:Program)(f:Nat):Prop:=∀l:GList,l.calls.length<=100000->qc P f [.agg (qv l)] (.agg (qv l))
theorem qqM(h:qoe P f):qna P f:=by
 intro l hl;refine (h l hl).pure rfl ?_;simp only[H0,vJ,simprocAttr];simp[vZ,vP,Tr.get_set,qv,qE qg,zW qg];intro h0;rw[h0];rfl
def qco(E:List UInt8->List (List UInt8)×Int)(P:Program)(f:Nat):Prop:=∀(l:GList) (v:List UInt8) (fl:Bool),l.calls.length<=100000->v.length<=1000->0<=l.mode->
 Own P f [.agg (qv l),.s v,.b fl] (.tup [.agg (qv (zn E l v fl).1),.own 0 (zn E l v fl).2.length]) [.cells 4 true true (rN (zn E l v fl).2)]
theorem qsY{g1 g2 g3 g4 g5 g6 g7 g8 g9 g10:Nat}{E:List UInt8->List (List UInt8)×Int}(hc:qj P f (WP g1 g2 g3 g4 g5 g6 g7 g8 g9 g10)=true)(hE:ku E)(h1:qna P g1)(h2:qof P g2)(h3:XG P g3)(h4:qcp P g4)(h5:qh3 P g5)(h6:qne P g6)(h7:qh0 (xy E) P g7)(h8:qrU P g8)(h9:qoh P g9)(h10:qh4 P g10):qco E P f:=by
 intro l v fl hl hv hm0;have htl:=ZG v;refine Own.mk hc rfl ?_;simp only[WP,qv,vI,simprocAttr];simp only[↓vS,vT,Nat.reduceEqDiff,↓reduceIte,Nat.reduceAdd,Nat.reduceMul,Nat.reduceSub,Nat.reduceLeDiff,Nat.reduceLT,Int.reduceLE,Int.reduceLT,Int.reduceEq,Int.reduceToNat];refine (h1 l hl).sc ?_;simp only[↓vS,vT,Nat.reduceEqDiff,↓reduceIte,Nat.reduceAdd,Nat.reduceMul,Nat.reduceSub,Nat.reduceLeDiff,Nat.reduceLT,Int.reduceLE,Int.reduceLT,Int.reduceEq,Int.reduceToNat,qv];refine (h2 l hl).sc ?_;cases hM:zF l with
 | false =>
  have hs:zn E l v fl=(l,[]):=if_pos hM;rw[hs];simp only[↓vS,vT,Nat.reduceEqDiff,↓reduceIte,Nat.reduceAdd,Nat.reduceMul,Nat.reduceSub,Nat.reduceLeDiff,Nat.reduceLT,Int.reduceLE,Int.reduceLT,Int.reduceEq,Int.reduceToNat];intro _;refine⟨[2],?_⟩;simp[vw,qv,qa,qg,rN]
 | true =>
  have hmm:=((zV l).1 hM).1;simp only[↓vS,vT,Nat.reduceEqDiff,↓reduceIte,Nat.reduceAdd,Nat.reduceMul,Nat.reduceSub,Nat.reduceLeDiff,Nat.reduceLT,Int.reduceLE,Int.reduceLT,Int.reduceEq,Int.reduceToNat];refine (h3 v (by omega)).sc ?_
  by_cases hw:ql v=[]
  ·have hs:zn E l v fl=(⟨0,[]⟩,[]):=by unfold zn;rw[if_neg (by simp[hM]),if_pos hw]
   rw[hs];simp only[↓vS,vT,Nat.reduceEqDiff,↓reduceIte,Nat.reduceAdd,Nat.reduceMul,Nat.reduceSub,Nat.reduceLeDiff,Nat.reduceLT,Int.reduceLE,Int.reduceLT,Int.reduceEq,Int.reduceToNat,hw,List.length_nil];intro _;refine⟨[2],?_⟩;simp[vw,qv,qa,rC,rN]
  ·have hwn:¬((ql v).length:Int)=0:=by have:=List.length_pos_iff.2 hw;omega
   have hs:zn E l v fl=(ql (qZ v).1).foldl (zu E fl (qZ v).2) (⟨if l.mode=0 then (if (qZ v).2=true then 2 else 1) else l.mode,l.calls⟩,[]):=by
    unfold zn;rw[if_neg (by simp[hM]),if_neg hw]
   rw[hs];simp only[↓vS,vT,Nat.reduceEqDiff,↓reduceIte,Nat.reduceAdd,Nat.reduceMul,Nat.reduceSub,Nat.reduceLeDiff,Nat.reduceLT,Int.reduceLE,Int.reduceLT,Int.reduceEq,Int.reduceToNat,hwn];refine (h4 v).sc ?_;rw[qaE]
   have key:∀(m:Int),m=(if l.mode=0 then (if (qZ v).2=true then 2 else 1) else l.mode)->zF ⟨m,l.calls⟩=true∧(m=1∨m=2):=by
    intro m hm
    have h12:m=1∨m=2:=by
     rw[hm];split
     ·split<;>simp
     ·have:=hmm.1;omega
    obtain⟨_,a1,a2⟩:=(zV l).1 hM;exact⟨(zV _).2 ⟨⟨by dsimp only;omega,.inl (by dsimp only;omega)⟩,a1,a2⟩,h12⟩
   cases ht:(qZ v).2 with
   | true =>
    by_cases h0:l.mode=0
    ·have hu:IntKind.wrap .u8 (1+1)=2:=by decide
     have hu1:IntKind.wrap .u8 1=1:=by decide
     obtain⟨k1,k2⟩:=key 2 (by rw[h0,ht];rfl);rw[show (if l.mode=0 then (if true=true then (2:Int) else 1) else l.mode)=2 from by rw[h0];rfl]
     simp only[↓vS,vT,Nat.reduceEqDiff,↓reduceIte,Nat.reduceAdd,Nat.reduceMul,Nat.reduceSub,Nat.reduceLeDiff,Nat.reduceLT,Int.reduceLE,Int.reduceLT,Int.reduceEq,Int.reduceToNat,h0,hu,hu1];refine S.weak (Wk.mk _ _ [0,1,2,3] ?_ ?_ ?_ rfl) (qaq hE h3 h5 h6 h7 h8 h9 h10 fl true (qZ v).1 (by omega) ⟨2,l.calls⟩ k1 k2)
     ·simp[vw,vb]
     ·simp[vw,qv,qa,qg]
     ·simp
    ·obtain⟨k1,k2⟩:=key l.mode (by rw[if_neg h0]);rw[show (if l.mode=0 then (if true=true then (2:Int) else 1) else l.mode)=l.mode from if_neg h0]
     simp only[↓vS,vT,Nat.reduceEqDiff,↓reduceIte,Nat.reduceAdd,Nat.reduceMul,Nat.reduceSub,Nat.reduceLeDiff,Nat.reduceLT,Int.reduceLE,Int.reduceLT,Int.reduceEq,Int.reduceToNat,h0];refine S.weak (Wk.mk _ _ [0,1,2,3] ?_ ?_ ?_ rfl) (qaq hE h3 h5 h6 h7 h8 h9 h10 fl true (qZ v).1 (by omega) ⟨l.mode,l.calls⟩ k1 k2)
     ·simp[vw,vb]
     ·simp[vw,qv,qa,qg]
     ·simp
   | false =>
    by_cases h0:l.mode=0
    ·have hu:IntKind.wrap .u8 (1+0)=1:=by decide
     have hu1:IntKind.wrap .u8 0=0:=by decide
     obtain⟨k1,k2⟩:=key 1 (by rw[h0,ht];rfl);rw[show (if l.mode=0 then (if false=true then (2:Int) else 1) else l.mode)=1 from by rw[h0];rfl]
     simp only[↓vS,vT,Nat.reduceEqDiff,↓reduceIte,Nat.reduceAdd,Nat.reduceMul,Nat.reduceSub,Nat.reduceLeDiff,Nat.reduceLT,Int.reduceLE,Int.reduceLT,Int.reduceEq,Int.reduceToNat,h0,hu,hu1];refine S.weak (Wk.mk _ _ [0,1,2,3] ?_ ?_ ?_ rfl) (qaq hE h3 h5 h6 h7 h8 h9 h10 fl false (qZ v).1 (by omega) ⟨1,l.calls⟩ k1 k2)
     ·simp[vw,vb]
     ·simp[vw,qv,qa,qg]
     ·simp
    ·obtain⟨k1,k2⟩:=key l.mode (by rw[if_neg h0]);rw[show (if l.mode=0 then (if false=true then (2:Int) else 1) else l.mode)=l.mode from if_neg h0]
     simp only[↓vS,vT,Nat.reduceEqDiff,↓reduceIte,Nat.reduceAdd,Nat.reduceMul,Nat.reduceSub,Nat.reduceLeDiff,Nat.reduceLT,Int.reduceLE,Int.reduceLT,Int.reduceEq,Int.reduceToNat,h0];refine S.weak (Wk.mk _ _ [0,1,2,3] ?_ ?_ ?_ rfl) (qaq hE h3 h5 h6 h7 h8 h9 h10 fl false (qZ v).1 (by omega) ⟨l.mode,l.calls⟩ k1 k2)
     ·simp[vw,vb]
     ·simp[vw,qv,qa,qg]
     ·simp
end Go.Kc
end
section
/- FoldKeeps, FoldTwice: what the laws answer. Condition: the functions' texts are these. -/
namespace Go.Kc
variable {P:Program} {f:Nat}
def qfg(P:Program)(f:Nat):Prop:=∀l:List GNote,l.length<=100000->qc P f [.fz l.length (rN l),.fz l.length (rN l)] (.b true)
end Go.Kc
end
section
/- FoldOne: what the law answers. Condition: the functions' texts are these. -/
namespace Go.Kc
variable {P:Program} {f:Nat}
end Go.Kc
end
section
/- What values come to, as the kernel can count it. No condition. -/
namespace Go.Kc
variable (E:List UInt8->List (List UInt8)×Int)
end Go.Kc
end
section
/- What filter.Set answers: its functions. Condition: the functions' texts are these. -/
namespace Go.Kc
variable {P:Program} {f:Nat}
def jV(a:Asg)(n:GNote):GNote:=⟨a.file,a.line,n.err,n.text⟩
theorem qd1{l:List GNote}{i:Nat}{c:GNote}(h:l[i]?=some c):rN l=rN (l.take i)++([.s c.file,.i .i64 c.line,.i .i64 c.err,.s c.text]++rN (l.drop (i+1))):=by
 obtain⟨hi,rfl⟩:=List.getElem?_eq_some_iff.1 h
 have:l=l.take i++([l[i]]++l.drop (i+1)):=by
  rw[List.singleton_append,← List.drop_eq_getElem_cons hi,List.take_append_drop]
 conv=>lhs;rw[this]
 rw[← VF,← VF];rfl
theorem qj1{l:List GNote}{i:Nat}{c d:GNote}(h:l[i]?=some c):rN (l.set i d)=rN (l.take i)++([.s d.file,.i .i64 d.line,.i .i64 d.err,.s d.text]++rN (l.drop (i+1))):=by
 obtain⟨hi,_⟩:=List.getElem?_eq_some_iff.1 h;rw[List.set_eq_take_append_cons_drop,if_pos hi,← VF];rfl
theorem qmN{l:List GNote}{i:Nat}{c:GNote}(h:l[i]?=some c)(s:List UInt8):(rN l).take (i*4)++(.s s::(rN l).drop (i*4+1))=rN (l.set i ⟨s,c.line,c.err,c.text⟩):=by
 have hi:i<=l.length:=Nat.le_of_lt (List.getElem?_eq_some_iff.1 h).1;have hl:(rN (l.take i)).length=i*4:=by rw[vD,List.length_take];omega
 rw[qj1 h,qd1 h,List.take_left' hl,← List.drop_drop,List.drop_left' hl];rfl
theorem qmO{l:List GNote}{i:Nat}{c:GNote}(h:l[i]?=some c)(n:Int):(rN l).take (i*4+1)++(.i .i64 n::(rN l).drop (i*4+2))=rN (l.set i ⟨c.file,n,c.err,c.text⟩):=by
 have hi:i<=l.length:=Nat.le_of_lt (List.getElem?_eq_some_iff.1 h).1;have hl:(rN (l.take i)).length=i*4:=by rw[vD,List.length_take];omega
 rw[qj1 h,qd1 h,← hl,List.take_length_add_append,List.drop_length_add_append,List.append_assoc];rfl
def k9:IFn:=⟨[.tmp 2],.seq (.r [.m 2 (.c (.nilp))]) (.seq (.r [.n 3 0,.q 4 (.nilChk (.t 3)),.f 5 1 4,.n 2 5]) (.ret))⟩
theorem qoL(hc:qj P f k9=true)(p:Pol):Upd P f [.ptr 0 0] [.cells 0 true false (qo p)] (.ptr 0 1) [.cells 0 true false (qo p)]:=by
 refine Upd.mk hc (by simp[z8,bnd]) (by simp) ?_;simp only[k9,qo,vI,simprocAttr];simp only[↓vS,vT,simprocAttr];intro _;refine⟨[0],?_⟩;simp[vw]
 try decide
def ya:IFn:=⟨[.tmp 2],.seq (.r [.m 2 (.c (.nilp))]) (.seq (.r [.n 3 0,.q 4 (.nilChk (.t 3)),.f 5 4 4,.n 2 5]) (.ret))⟩
theorem qoM(hc:qj P f ya=true)(p:Pol):Upd P f [.ptr 0 0] [.cells 0 true false (qo p)] (.ptr 0 4) [.cells 0 true false (qo p)]:=by
 refine Upd.mk hc (by simp[z8,bnd]) (by simp) ?_;simp only[ya,qo,vI,simprocAttr];simp only[↓vS,vT,simprocAttr];intro _;refine⟨[0],?_⟩;simp[vw]
 try decide
end Go.Kc
end
section
/- What the keys of filter do to a policy. Condition: the functions' texts are these. -/
namespace Go.Kc
variable {P:Program} {f:Nat}
def jJ(a:Nat):IFn:=⟨[.tmp 6],.seq (.r [.m 6 .N]) (.seq (.r [.d 10 2,.n 11 0,⟨(some 12),.callV (.t 10) [.t 11],none⟩,.n 7 12]) (.seq (.reg true [.n 14 7,.q 15 (.nilChk (.t 14)),.v 16 2 15,.n 17 1,.d 18 3,.l 19 a [.t 16,.t 17,.t 18],.n 13 19,.x 20 13 0,.x 21 13 1,.q 8 (.alloc [.i .u8 0,.nils]),.u (.store 2 (.t 8) (.t 20)),.n 9 21]) (.seq (.r [.n 22 7,.v 23 2 8,.q 24 (.nilChk (.t 22)),.u (.store 2 (.t 24) (.t 23))]) (.seq (.r [.n 25 9,.n 6 25]) (.ret)))))⟩
theorem qlx{g1 g2:Nat}{E:List UInt8->List (List UInt8)×Int}(hc:qj P f (jJ g2)=true)(h1:∀p,Upd P g1 [.ptr 0 0] [.cells 0 true false (qo p)] (.ptr 0 1) [.cells 0 true false (qo p)])(h2:qco E P g2)(p:Pol)(v:List UInt8)(fl:Bool)
  (hl:p.filter.calls.length<=100000) (hv:v.length<=1000) (hm:0<=p.filter.mode) :
  Upd P f [.ptr 0 0,.s v,.pf [.fn g1 [] []] 0,.pf [.b fl] 0] [.cells 0 true false (qo p)] (.own 1 (zn E p.filter v fl).2.length) [.cells 0 true false (qo { p with filter:=(zn E p.filter v fl).1 }),.cells 4 true true (rN (zn E p.filter v fl).2)]:=by
 refine Upd.mk hc (by simp[z8,bnd,qP,clo,qt]) (by simp) ?_;simp only[jJ,qo,vI,simprocAttr];simp only[↓vS,vT,simprocAttr];refine (h1 p).sc (vs:=[.ptr 0 0]) [0] (Lent.of (by decide) ?_) ?_
 ·simp[vL,vw,qo,qP,clo,qp]
 simp only[vK,simprocAttr,qo,qp,clo];simp only[↓vS,vT,simprocAttr];refine zQ ?_;simp only[↓vS,vT,simprocAttr];refine (h2 p.filter v fl hl hv hm).pc ?_;simp only[vJ,simprocAttr,qv];simp only[↓vS,vT,simprocAttr];intro _;refine⟨[0,1],?_⟩;simp[vw,qo,qa,qb,qg,qh,zW qb]
 try decide
theorem qly{g1 g2:Nat}{E:List UInt8->List (List UInt8)×Int}(hc:qj P f (jJ g2)=true)(h1:∀p,Upd P g1 [.ptr 0 0] [.cells 0 true false (qo p)] (.ptr 0 4) [.cells 0 true false (qo p)])(h2:qco E P g2)(p:Pol)(v:List UInt8)(fl:Bool)
  (hl:p.log.calls.length<=100000) (hv:v.length<=1000) (hm:0<=p.log.mode) :
  Upd P f [.ptr 0 0,.s v,.pf [.fn g1 [] []] 0,.pf [.b fl] 0] [.cells 0 true false (qo p)] (.own 1 (zn E p.log v fl).2.length) [.cells 0 true false (qo { p with log:=(zn E p.log v fl).1 }),.cells 4 true true (rN (zn E p.log v fl).2)]:=by
 refine Upd.mk hc (by simp[z8,bnd,qP,clo,qt]) (by simp) ?_;simp only[jJ,qo,vI,simprocAttr];simp only[↓vS,vT,simprocAttr];refine (h1 p).sc (vs:=[.ptr 0 0]) [0] (Lent.of (by decide) ?_) ?_
 ·simp[vL,vw,qo,qP,clo,qp]
 simp only[vK,simprocAttr,qo,qp,clo];simp only[↓vS,vT,simprocAttr];refine zQ ?_;simp only[↓vS,vT,simprocAttr];refine (h2 p.log v fl hl hv hm).pc ?_;simp only[vJ,simprocAttr,qv];simp only[↓vS,vT,simprocAttr];intro _;refine⟨[0,1],?_⟩;simp[vw,qo,qa,qb,qg,qh,zW qb]
 try decide
def jI(a:Nat):IFn:=⟨[.tmp 4],.seq (.r [.m 4 .N]) (.seq (.r [.n 8 1,.l 9 a [.t 8],.n 7 9,.x 10 7 0,.x 11 7 1,.n 5 10,.n 6 11]) (.seq (.seq (.r [.n 12 6,.w 13 .neq 12 0]) (.cond (.t 13) (.seq (.r [.n 14 6,.n 15 1,.n 16 1,.q 17 (.len true (.t 16)),.q 18 (.min (.t 17) (.k 60)),.q 19 (.slcStr (.t 15) none (some (.t 18))),.q 20 (.build [.s [],.i .i64 0,.i .i64 0,.s []] [(2,1,(.t 14)),(3,1,(.t 19))]),.q 21 (.buildS 1 [.s [],.i .i64 0,.i .i64 0,.s []] [(0,4,(.t 20))]),.n 4 21]) (.ret)) (.skip))) (.seq (.r [.n 22 0,.n 23 5,.q 24 (.nilChk (.t 22)),.f 25 3 24,.u (.store 1 (.t 25) (.t 23))]) (.seq (.r [.m 4 .N]) (.ret)))))⟩
theorem qgB{g1:Nat}(hc:qj P f (jI g1)=true)(h1:qfd P g1)(p:Pol)(v:List UInt8)(hv:v.length<=1000)(he:(kX v).2=0) :
  Upd P f [.ptr 0 0,.s v] [.cells 0 true false (qo p)] (.own 1 0) [.cells 0 true false (qo { p with deny:=(kX v).1 }),.cells 4 true true []]:=by
 refine Upd.mk hc (by simp[z8,bnd]) (by simp) ?_;simp only[jI,qo,vI,simprocAttr];simp only[↓vS,vT,simprocAttr];refine (h1 v (by omega)).sc ?_;simp only[↓vS,vT,simprocAttr,he];intro _;refine⟨[0,1],?_⟩;simp[vw,qo,qa,qb,qg,qh]
 try decide
theorem qgA{g1:Nat}(hc:qj P f (jI g1)=true)(h1:qfd P g1)(p:Pol)(v:List UInt8)(hv:v.length<=1000)(he:¬(kX v).2=0) :
  Upd P f [.ptr 0 0,.s v] [.cells 0 true false (qo p)] (.sl 1 0 1 1 false) [.cells 0 true false (qo p),.cells 0 true false (rN [xC (kX v).2 v])]:=by
 refine Upd.mk hc (by simp[z8,bnd]) (by simp) ?_;simp only[jI,qo,vI,simprocAttr];simp only[↓vS,vT,simprocAttr];refine (h1 v (by omega)).sc ?_;simp only[↓vS,vT,simprocAttr,he]
 by_cases h60:(60:Int)<v.length
 ·have h1:60<=v.length:=by omega
  simp only[↓vS,vT,simprocAttr,h60,h1,List.drop_zero];intro _;refine⟨[0,1],?_⟩;simp[vw,qa,rN,Xf,xC,qh,qg,qo]
  try decide
 ·have h1:v.take 60=v:=List.take_of_length_le (by omega);simp only[↓vS,vT,simprocAttr,h60,List.take_length,List.drop_zero];intro _;refine⟨[0,1],?_⟩;simp[vw,qa,rN,Xf,xC,qh,qg,qo,h1]
  try decide
end Go.Kc
end
section
/- What filter.Set answers. Condition: the functions' texts are these. -/
namespace Go.Kc
variable {P:Program} {f:Nat}
def xu:List AV:=[.nils,.i .u8 0,.nils,.i .u32 0,.i .u8 0,.nils,.nils,.i .u8 0,.i .u64 0,.b false,.b false,.b false,.b false]
theorem qeS{a:Asg}{ns:List GNote}{j:Nat}(h:j<ns.length):((ns.take j).map (jV a)++ns.drop j)[j]?=some ns[j]:=by
 rw[List.getElem?_append_right (by simp;omega)];simp[Nat.min_eq_left (Nat.le_of_lt h),h]
theorem qeT{a:Asg}{ns:List GNote}{j:Nat}(h:j<ns.length)(d:GNote)(hd:d=jV a ns[j]):((ns.take j).map (jV a)++ns.drop j).set j d=(ns.take (j+1)).map (jV a)++ns.drop (j+1):=by
 have hl:((ns.take j).map (jV a)).length=j:=by simp;omega
 rw[List.set_append,if_neg (by omega),hl,Nat.sub_self,List.drop_eq_getElem_cons h,List.set_cons_zero,List.take_add_one,List.getElem?_eq_getElem h,hd,List.map_append,List.append_assoc];rfl
def jH(a b:Nat):ICode:=.seq (.seq (.r [.n 26 8,.e 27 26,.m 28 (.k 0)]) (.blk 0 (.loop (.seq (.r [.s 29 28 27]) (.seq (.cond (.t 29) (.skip) (.exit 0)) (.seq (.blk 1 (.seq (.r [.n 30 28,.n 9 30]) (.reg true [.n 31 8,.n 32 9,.n 33 8,.n 34 9,.f 35 0 3,.d 36 35,.f 37 1 3,.d 38 37,.i 39 4 31 32,.f 40 0 39,.u (.storeD 1 (.t 40) (.t 36) [37]),.i 41 4 33 34,.f 42 1 41,.u (.store 1 (.t 42) (.t 38))]))) (.r [.a 43 28 1,.n 28 43]))))))) (.seq (.r [.v 44 13 2,.n 45 8,.u (.store 13 (.t 4) (.t 44)),.n 5 45]) (.ret))
def wY(a b:Nat):ICode:=.seq (.r [.n 22 6,.f 23 4 3,.d 24 23,⟨(some 25),.callV (.t 22) [.t 2,.t 24],none⟩,.n 8 25]) (.cut (jH a b))
def JW(a b:Nat):IFn:=⟨[.cell 4 13 true,.tmp 5],.seq (.r [.q 2 (.box (.t 0)),.q 3 (.box (.t 1)),.q 4 (.alloc [.nils,.i .u8 0,.nils,.i .u32 0,.i .u8 0,.nils,.nils,.i .u8 0,.i .u64 0,.b false,.b false,.b false,.b false]),.m 5 .N]) (.seq (.r [.v 10 13 2,.l 11 a [.t 10],.u (.store 13 (.t 2) (.t 11))]) (.seq (.reg true [.l 13 b [],.f 14 3 3,.d 15 14,.q 16 (.lookM none true (.nilf) (.t 13) (.t 15)),.n 12 16,.x 17 12 0,.x 18 12 1,.n 6 17,.n 7 18]) (.seq (.seq (.r [.n 19 7,.q 20 (.un .not (.t 19))]) (.cond (.t 20) (.seq (.r [.v 21 13 2,.u (.store 13 (.t 4) (.t 21)),.m 5 .N]) (.ret)) (.skip))) (.cut (wY a b)))))⟩
theorem Vq(g1 g2:Nat)(q:Pol)(a:Asg)(ns:List GNote)(hn:ns.length<=100000) :
  S P 0 (jH g1 g2) (wE [.cell 4 13 true,.tmp 5] (fun v' h'=>Frz h' v' (.tup [.agg (qo q),.fz ns.length (rN (ns.map (jV a)))])))
   (mkT [(2,.ptr 0 0),(3,.ptr 1 0),(4,.ptr 2 0),(8,.own 3 ns.length)]) (mkH 0 [.cells 0 true false (qo q),.cells 0 true false (xl a),.cells 0 true false xu,.cells 4 true true (rN ns)]):=by
 refine qq ?_;simp only[jH,qo,xl,xu,vI,simprocAttr];simp only[↓vS,vT,simprocAttr]
 refine SL.loop (α:=Nat) (fun j=>[(2,.ptr 0 0),(3,.ptr 1 0),(4,.ptr 2 0),(8,.own 3 ns.length),(27,.i .i64 ns.length),(28,.i .i64 j)])
  (fun j=>[.cells 0 true false (qo q),.cells 0 true false (xl a),.cells 0 true false xu,.cells 4 true true (rN ((ns.take j).map (jV a)++ns.drop j))]) (fun j=>j<=ns.length) (fun j=>ns.length-j) 0 [0,1,2,3] ?_ ?_ ?_ rfl ?_ ?_
 ·simp[vw]
 ·simp[vw,qo,xl,xu,qa,qb]
  try decide
 ·simp
 ·exact Nat.zero_le _
 rintro j hj G ih;simp only[qo,xl,xu,vI,simprocAttr]
 by_cases hlt:j<ns.length
 ·have hw:IntKind.wrap .i64 ((j:Int)+1)=((j+1:Nat):Int):=by rw[qB (by omega) (by omega)];omega
  have hx:=qeS (a:=a) hlt;have hset:=qeT (a:=a) hlt (jV a ns[j]) rfl;have ih2:=ih (j+1);rw[← hset] at ih2;generalize hL:(ns.take j).map (jV a)++ns.drop j=L at hx ih2;have hLl:L.length=ns.length:=by rw[← hL];simp;omega
  have e0:=qmN hx a.file;have hx1:(L.set j ⟨a.file,ns[j].line,ns[j].err,ns[j].text⟩)[j]?=some ⟨a.file,ns[j].line,ns[j].err,ns[j].text⟩:=by rw[List.getElem?_set];simp;omega
  have e1:=qmO hx1 a.line;rw[List.set_set] at e1;have hlen:(rN L).length=ns.length*4:=by rw[vD,hLl]
  have hlen1:(rN (L.set j ⟨a.file,ns[j].line,ns[j].err,ns[j].text⟩)).length=ns.length*4:=by rw[vD,List.length_set,hLl]
  have hb0:j*4+1<=ns.length*4:=by omega
  have hb1:j*4+2<=ns.length*4:=by omega
  simp only[↓vS,vT,simprocAttr,hlt];refine zQ ?_;simp (decide:=true) only [↓vS,vT,simprocAttr,hlt,hlen,hlen1,hb0,hb1,e0,e1,hw];refine ih2 (by omega) (by omega) _ _ (Wk.mk _ _ [0,1,2,3] ?_ ?_ ?_ rfl)
  ·simp[vw]
  ·simp[vw,qo,xl,xu,qa,qb,jV]
   try decide
  ·simp
 ·have hjl:ns.take j=ns:=List.take_of_length_le (by omega);have hdl:ns.drop j=[]:=List.drop_of_length_le (by omega);rw[hjl,hdl,List.append_nil];simp (decide:=true) only [↓vS,vT,simprocAttr,hlt];simp[vZ,vP,Tr.get_set,qo,qh,qE,qb,qg];intro h0;rw[h0];rfl
theorem qiP(g1 g2:Nat)(q:Pol)(a:Asg)(n:GNote) :
  S P 0 (jH g1 g2) (wE [.cell 4 13 true,.tmp 5] (fun v' h'=>Frz h' v' (.tup [.agg (qo q),.fz 1 (rN [jV a n])])))
   (mkT [(2,.ptr 0 0),(3,.ptr 1 0),(4,.ptr 2 0),(8,.sl 3 0 1 1 false)]) (mkH 0 [.cells 0 true false (qo q),.cells 0 true false (xl a),.cells 0 true false xu,.cells 0 true false (rN [n])]):=by
 have hw:IntKind.wrap .i64 (0+1)=1:=by decide
 refine qq ?_;simp only[jH,qo,xl,xu,qj0,vI,simprocAttr];simp only[↓vS,vT,simprocAttr];refine yh ?_;simp (decide:=true) only [↓vS,vT,simprocAttr];refine zQ ?_;simp (decide:=true) only [↓vS,vT,simprocAttr,hw];refine yh ?_;simp (decide:=true) only [↓vS,vT,simprocAttr];simp[vZ,vP,Tr.get_set,qo,qh,qE,qj0,qg,jV];exact Frz.cut 4 rfl (Nat.le_refl _) (by simp[vP,Tr.get_set,vZ])
noncomputable def kN(E:List UInt8->List (List UInt8)×Int)(p:Pol)(k v:List UInt8):Pol×List GNote :=
 if k=zU then ({ p with filter:=(zn E p.filter v true).1 },(zn E p.filter v true).2)
 else if k=Qx then ({ p with log:=(zn E p.log v false).1 },(zn E p.log v false).2)
 else if k=Zx then (if (kX v).2=0 then ({ p with deny:=(kX v).1 },[]) else (p,[xC (kX v).2 v]))
 else (p,[])
def qnf(E:List UInt8->List (List UInt8)×Int)(P:Program)(f:Nat):Prop:=∀(p:Pol) (a:Asg),PolOk p->0<=p.filter.mode∧0<=p.log.mode->a.val.length<=1000->
 qc P f [.agg (qo p),.agg (xl a)] (.tup [.agg (qo (kN E p a.key a.val).1),.fz (kN E p a.key a.val).2.length (rN ((kN E p a.key a.val).2.map (jV a)))])
theorem qrn{g1 g2 l m1 m2 m3 e s0:Nat}{E:List UInt8->List (List UInt8)×Int}(hc:qj P f (JW g1 g2)=true)(h1:qad P g1)(h2:Own P g2 [] (.map 0) [.map (qbV l m1 m2 m3)])
  (hl:qj P l (jJ s0)=true) (hs:qco E P s0) (hm1:qj P m1 k9=true) (hm2:qj P m2 ya=true) (hm3:qj P m3 (jI e)=true) (he:qfd P e):qnf E P f:=by
 intro p a hp hm hv;have hpc:=hp.c;have hpl:=hp.l;refine qc.mk hc rfl ?_;generalize hT:AV.tup [.agg (qo (kN E p a.key a.val).1),.fz (kN E p a.key a.val).2.length (rN ((kN E p a.key a.val).2.map (jV a)))]=tgt;simp only[JW,qo,xl,vI,simprocAttr];simp only[↓vS,vT,simprocAttr];refine (h1 p hp).sc ?_;simp (decide:=true) only [↓vS,vT,simprocAttr,qo];refine zQ ?_;simp only[↓vS,vT,simprocAttr];refine h2.pc ?_;simp only[vJ,simprocAttr,qbV];simp only[↓vS,vT,simprocAttr];subst hT
 by_cases n0:a.key=zU
 ·have hM:kN E p a.key a.val=({ p with filter:=(zn E p.filter a.val true).1 },(zn E p.filter a.val true).2):=by unfold kN;rw[if_pos n0]
  rw[hM];have hlen:=JH (E:=E) p.filter a.val true;simp only[↓vS,vT,simprocAttr,n0,if_true];refine S.weak (Wk.mk [(2,.ptr 0 0),(3,.ptr 1 0),(4,.ptr 2 0),(6,.fn l [] [.pf [.fn m1 [] []] 0,.pf [.b true] 0])] [.cells 0 true false (qo p),.cells 0 true false (xl a),.cells 0 true false xu] [0,1,2] ?_ ?_ ?_ rfl) (qq ?_)
  ·simp[vw,clo,qt]
  ·simp[vw,qo,xl,xu,qa]
   try decide
  ·simp
  simp only[wY,xl,xu,vI,simprocAttr];simp only[↓vS,vT,simprocAttr];refine (qlx hl (qoL hm1) hs p a.val true (by omega) hv hm.1).sc (vs:=[.ptr 0 0,.s a.val,.pf [.fn m1 [] []] 0,.pf [.b true] 0]) [0] (Lent.of (by decide) ?_) ?_
  ·simp[vL,vw,qo,qP,clo,qt,qp]
  simp only[vK,simprocAttr,qe qb,qe (Jr _),qp,clo];simp only[↓vS,vT,simprocAttr];refine S.weak (Wk.mk _ _ [0,1,2,3] ?_ ?_ ?_ rfl) (Vq g1 g2 { p with filter:=(zn E p.filter a.val true).1 } a (zn E p.filter a.val true).2 (by omega))
  ·simp[vw]
  ·simp[vw,qo,xl,xu,qa,qb]
   try decide
  ·simp
 by_cases n1:a.key=Qx
 ·have hM:kN E p a.key a.val=({ p with log:=(zn E p.log a.val false).1 },(zn E p.log a.val false).2):=by unfold kN;rw[if_neg n0,if_pos n1]
  rw[hM];have hlen:=JH (E:=E) p.log a.val false;simp only[↓vS,vT,simprocAttr,n0,n1,if_true];refine S.weak (Wk.mk [(2,.ptr 0 0),(3,.ptr 1 0),(4,.ptr 2 0),(6,.fn l [] [.pf [.fn m2 [] []] 0,.pf [.b false] 0])] [.cells 0 true false (qo p),.cells 0 true false (xl a),.cells 0 true false xu] [0,1,2] ?_ ?_ ?_ rfl) (qq ?_)
  ·simp[vw,clo,qt]
  ·simp[vw,qo,xl,xu,qa]
   try decide
  ·simp
  simp only[wY,xl,xu,vI,simprocAttr];simp only[↓vS,vT,simprocAttr];refine (qly hl (qoM hm2) hs p a.val false (by omega) hv hm.2).sc (vs:=[.ptr 0 0,.s a.val,.pf [.fn m2 [] []] 0,.pf [.b false] 0]) [0] (Lent.of (by decide) ?_) ?_
  ·simp[vL,vw,qo,qP,clo,qt,qp]
  simp only[vK,simprocAttr,qe qb,qe (Jr _),qp,clo];simp only[↓vS,vT,simprocAttr];refine S.weak (Wk.mk _ _ [0,1,2,3] ?_ ?_ ?_ rfl) (Vq g1 g2 { p with log:=(zn E p.log a.val false).1 } a (zn E p.log a.val false).2 (by omega))
  ·simp[vw]
  ·simp[vw,qo,xl,xu,qa,qb]
   try decide
  ·simp
 by_cases n2:a.key=Zx
 ·simp only[↓vS,vT,simprocAttr,n0,n1,n2,if_true];refine S.weak (Wk.mk [(2,.ptr 0 0),(3,.ptr 1 0),(4,.ptr 2 0),(6,.fn m3 [] [])] [.cells 0 true false (qo p),.cells 0 true false (xl a),.cells 0 true false xu] [0,1,2] ?_ ?_ ?_ rfl) (qq ?_)
  ·simp[vw,clo,qt]
  ·simp[vw,qo,xl,xu,qa]
   try decide
  ·simp
  simp only[wY,xl,xu,vI,simprocAttr];simp only[↓vS,vT,simprocAttr]
  by_cases hz:(kX a.val).2=0
  ·have hM:kN E p a.key a.val=({ p with deny:=(kX a.val).1 },[]):=by unfold kN;rw[if_neg n0,if_neg n1,if_pos n2,if_pos hz]
   rw[hM];refine (qgB hm3 he p a.val hv hz).sc (vs:=[.ptr 0 0,.s a.val]) [0] (Lent.of (by decide) ?_) ?_
   ·simp[vL,vw,qo,qP,clo,qt,qp]
   simp only[vK,simprocAttr,qe (Jr _),qp,clo];simp only[↓vS,vT,simprocAttr];refine S.weak (Wk.mk _ _ [0,1,2,3] ?_ ?_ ?_ rfl) (Vq g1 g2 { p with deny:=(kX a.val).1 } a [] (by simp))
   ·simp[vw]
   ·simp[vw,qo,xl,xu,qa,qjZ]
    try decide
   ·simp
  ·have hM:kN E p a.key a.val=(p,[xC (kX a.val).2 a.val]):=by unfold kN;rw[if_neg n0,if_neg n1,if_pos n2,if_neg hz]
   rw[hM];refine (qgA hm3 he p a.val hv hz).sc (vs:=[.ptr 0 0,.s a.val]) [0] (Lent.of (by decide) ?_) ?_
   ·simp[vL,vw,qo,qP,clo,qt,qp]
   simp only[vK,simprocAttr,qe qb,qe (Jr _),qp,clo];simp only[↓vS,vT,simprocAttr];refine S.weak (Wk.mk _ _ [0,1,2,3] ?_ ?_ ?_ rfl) (qiP g1 g2 p a (xC (kX a.val).2 a.val))
   ·simp[vw]
   ·simp[vw,qo,xl,xu,qa,qb]
    try decide
   ·simp
 ·have hM:kN E p a.key a.val=(p,[]):=by unfold kN;rw[if_neg n0,if_neg n1,if_neg n2]
  rw[hM];simp only[↓vS,vT,simprocAttr,n0,n1,n2,if_false];simp[vZ,vP,Tr.get_set,qo,qh,qE,rN,qg]
end Go.Kc
end
section
/- FilterOwn: what the law answers. Condition: the functions' texts are these. -/
namespace Go.Kc
variable {P:Program} {f:Nat}
theorem qkb(E:List UInt8->List (List UInt8)×Int)(p:Pol)(k v:List UInt8):(kN E p k v).2.length<=v.length+1:=by
 have h1:=JH (E:=E) p.filter v true;have h2:=JH (E:=E) p.log v false;unfold kN
 repeat' split
 all_goals simp
 all_goals omega
end Go.Kc
end
section
/- What fold.Put and fold.Take answer, in rows of one's own. Condition: the functions' texts are these. -/
namespace Go.Kc
variable {P:Program} {f:Nat}
end Go.Kc
end
section
/- What the document's reading of values answers. Condition: the functions' texts are these. -/
namespace Go.Kc
variable {P:Program} {f:Nat}
end Go.Kc
end
section
/- What the document says of lists. Condition: the functions' texts are these. -/
namespace Go.Kc
variable {P:Program} {f:Nat}
def Rng(l:List GCall):Prop:=∀c ∈ l,0<=c.act∧c.act<=4294967295
end Go.Kc
end
section
/- What the document makes of lists: Find, take, Take, Put, Same. Condition: the functions' texts are these. -/
namespace Go.Kc
variable {P:Program} {f:Nat}
end Go.Kc
end
section
/- What the document makes of a list by a value. Condition: the functions' texts are these. -/
namespace Go.Kc
variable {P:Program} {f:Nat}
end Go.Kc
end
section
/- What the document makes of a list by a value, whole; and by values. Condition: the functions' texts are these. -/
namespace Go.Kc
variable {P:Program} {f:Nat}
end Go.Kc
end
section
/- What the document makes of a list by a value, and by values. Condition: the functions' texts are these. -/
namespace Go.Kc
variable {P:Program} {f:Nat}
end Go.Kc
end
section
/- What the document's groups answer. Condition: the functions' texts are these. -/
namespace Go.Kc
variable {P:Program} {f:Nat}
end Go.Kc
end
section
/- FoldLists: what the law answers. Condition: the functions' texts are these. -/
namespace Go.Kc
variable {P:Program} {f:Nat}
def Ve(e:Int):Bool:=decide (e=90)||decide (e=100)||decide (e=110)||decide (e=161)
def xI:IFn:=⟨[.tmp 4],.seq (.r [.m 4 (.k 0)]) (.seq (.seq (.r [.n 6 0,.e 7 6,.m 8 (.k 0)]) (.blk 0 (.loop (.seq (.r [.s 9 8 7]) (.seq (.cond (.t 9) (.skip) (.exit 0)) (.seq (.blk 1 (.seq (.r [.n 10 8,.n 5 10]) (.seq (.r [.n 11 1,.n 12 0,.n 13 5,.i 14 1 12 13,.d 15 14,.b 16 .eql 11 15]) (.cond (.t 16) (.seq (.r [.n 17 5,.n 4 17]) (.ret)) (.skip))))) (.r [.a 18 8 1,.n 8 18]))))))) (.seq (.r [.q 4 (.mov (.c (.i .i64 (-1))))]) (.ret)))⟩
def qcF(x:Int):List Int->Nat->Int
 | [],_=>-1
 | y::ys,j=>if x=y then (j:Int) else qcF x ys (j+1)
theorem qq4(hc:qj P f xI=true)(xs:List Int)(x:Int)(hl:xs.length<=qf):qc P f [.fz xs.length (rI .i64 xs),.i .i64 x] (.i .i64 (qcF x xs 0)):=by
 refine qc.mk hc (by simp[qt,clo,qh]) ?_;simp only[xI,vI,simprocAttr];simp only[↓vS,vT,simprocAttr];refine SL.loop (α:=Nat) (fun j=>[(0,.fz xs.length (rI .i64 xs)),(1,.i .i64 x),(7,.i .i64 xs.length),(8,.i .i64 j)]) (fun _=>[]) (fun j=>j<=xs.length∧qcF x xs 0=qcF x (xs.drop j) j) (fun j=>xs.length-j) 0 [] ?_ ?_ ?_ rfl ?_ ?_
 ·simp[vw,qh]
 ·trivial
 ·simp
 ·simp
 rintro j ⟨hj,hI⟩ G ih;simp only[vI,simprocAttr]
 by_cases hlt:j<xs.length
 ·have hx:xs[j]?=some xs[j]:=List.getElem?_eq_getElem hlt;have hw:IntKind.wrap .i64 ((j:Int)+1)=(j:Int)+1:=qB (by omega) (by have:=hl;simp only[qf] at this;omega)
  rw[List.drop_eq_getElem_cons hlt,qcF] at hI;simp only[↓vS,vT,simprocAttr,hlt,Nat.mul_one,x9,hx,Option.map_some,hw];split
  ·rename_i he;simp only[he,vZ,if_true] at hI ⊢;simp[hI]
  ·rename_i he;rw[if_neg he] at hI;refine ih (j+1) ⟨by omega,hI⟩ (by omega) _ _ (Wk.mk _ _ [] ?_ ?_ ?_ rfl)
   ·simp[vw,qh]
   ·trivial
   ·simp
 ·simp only[↓vS,vT,simprocAttr,hlt,vZ];rw[List.drop_eq_nil_of_le (by omega)] at hI;simp[hI,qcF]
def xh(a:Nat):IFn:=⟨[.tmp 4],.seq (.r [.m 4 .F]) (.seq (.r [.n 5 0,.n 6 1,.l 7 a [.t 5,.t 6],.w 8 .geq 7 0,.n 4 8]) (.ret))⟩
theorem qlg{g:Nat}(hc:qj P f (xh g)=true)(hg:∀(xs:List Int) (x:Int),xs.length<=qf->qc P g [.fz xs.length (rI .i64 xs),.i .i64 x] (.i .i64 (qcF x xs 0)))(x:Int):qc P f [.fz 4 (rI .i64 [90,110,100,161]),.i .i64 x] (.b (Ve x)):=by
 refine qc.mk hc (by simp[qt,clo,qh]) ?_;simp only[xh,vI,simprocAttr];simp only[↓vS,vT,simprocAttr];refine (hg [90,110,100,161] x (by decide)).sc ?_
 have hw:decide (0<=qcF x [90,110,100,161] 0)=Ve x:=by
  simp only[qcF,Ve]
  by_cases h1:x=90
  ·simp[h1]
  by_cases h2:x=110
  ·simp[h2]
  by_cases h3:x=100
  ·simp[h3]
  by_cases h4:x=161
  ·simp[h4]
  ·simp[h1,h2,h3,h4]
 simp only[↓vS,vT,simprocAttr];simp[vZ,← hw]
def JY(a:Nat):IFn:=⟨[.tmp 2],.seq (.r [.m 2 .F]) (.seq (.r [.q 3 (.buildS 4 [.i .i64 0] [(0,1,(.k 90)),(1,1,(.k 110)),(2,1,(.k 100)),(3,1,(.k 161))]),.n 4 0,.l 5 a [.t 3,.t 4],.n 2 5]) (.ret))⟩
theorem qqB{g:Nat}(hc:qj P f (JY g)=true)(hg:∀x,qc P g [.fz 4 (rI .i64 [90,110,100,161]),.i .i64 x] (.b (Ve x)))(x:Int):qc P f [.i .i64 x] (.b (Ve x)):=by
 refine qc.mk hc rfl ?_;simp only[JY,vI,simprocAttr];simp only[↓vS,vT,simprocAttr];refine (hg x).lend (vs':=[.fz 4 (rI .i64 [90,110,100,161]),.i .i64 x]) ?_ rfl ?_
 ·refine .cons _ _ _ _ (.cut 1 rfl (Nat.le_refl _) ?_) (.cons _ _ _ _ (.i _ _) .nil);simp[vw,rI]
 simp only[↓vS,vT,simprocAttr];simp[vZ]
end Go.Kc
end
section
/- What the document's functions of stage 17 answer. Condition: the functions' texts are these. -/
namespace Go.Kc
variable {P:Program} {f:Nat}
end Go.Kc
end
section
/- What policy.May answers. Condition: the functions' texts are these. -/
namespace Go.Kc
variable {P:Program} {f:Nat}
def xU(a:Int):List UInt8:=if a<0∨6<=a then [] else (zK.getD a.toNat ([],0)).1
def WN(a:Nat):IFn:=⟨[.tmp 2],.seq (.r [.m 2 (.c (.s []))]) (.seq (.seq (.r [.n 3 0,.w 4 .lss 3 0,.n 5 4,.z 6 0 5,.g 7 (.bin .geq (.t 6) (.k 6)) 5 false,.o 8 5 7]) (.cond (.t 8) (.seq (.r [.m 2 (.c (.s []))]) (.ret)) (.skip))) (.seq (.r [.l 9 a [],.n 10 0,.q 11 (.idxA 6 2 true (.t 9) (.t 10)),.q 12 (.fld 0 none (.t 11)),.n 2 12]) (.ret)))⟩
theorem qrR{g:Nat}(hc:qj P f (WN g)=true)(hg:qc P g [] (.agg (zK.flatMap (zo .u32))))(a:Int):qc P f [.i .i64 a] (.s (xU a)):=by
 refine qc.mk hc rfl ?_;simp only[WN,vI,simprocAttr]
 by_cases h1:a<0
 ·simp only[↓vS,vT,simprocAttr,h1];simp[vZ,xU,h1]
 by_cases h2:6<=a
 ·simp only[↓vS,vT,simprocAttr,h1,h2];simp[vZ,xU,h2]
 simp only[↓vS,vT,simprocAttr,h1,h2];refine hg.sc ?_;have h3:a=0∨a=1∨a=2∨a=3∨a=4∨a=5:=by omega
 rcases h3 with rfl|rfl|rfl|rfl|rfl|rfl <;>
 ·simp only[↓vS,vT,simprocAttr,zK,zo,List.flatMap_cons,List.flatMap_nil];simp[vZ,xU,zK]
theorem qhM(a:Int):(xU a≠[])↔(0<=a∧a<6):=by
 unfold xU;constructor
 ·intro h
  by_cases hh:a<0∨6<=a
  ·rw[if_pos hh] at h;exact absurd rfl h
  ·omega
 ·intro h;rw[if_neg (by omega)];have h3:a=0∨a=1∨a=2∨a=3∨a=4∨a=5:=by omega
  rcases h3 with rfl|rfl|rfl|rfl|rfl|rfl<;>decide
def zJ(is:Int->Bool):Option Int->List Int->Bool
 | _,[]=>true
 | o,x::l=>is x&&(o.elim true fun b=>decide (b<x))&&zJ is (some x) l
def yU:IFn:=⟨[.tmp 4],.seq (.r [.m 4 .F]) (.seq (.seq (.r [.n 7 0,.e 8 7,.m 9 (.k 0)]) (.blk 0 (.loop (.seq (.r [.s 10 9 8]) (.seq (.cond (.t 10) (.skip) (.exit 0)) (.seq (.blk 1 (.seq (.r [.n 11 9,.i 12 1 7 9,.d 13 12,.n 5 11,.n 6 13]) (.seq (.r [.n 14 1,.n 15 6,⟨(some 16),.callV (.t 14) [.t 15],none⟩,.q 17 (.un .not (.t 16)),.n 18 17,.z 19 5 18,.g 20 (.bin .gtr (.t 19) (.k 0)) 18 false,.z 21 20 18,.y 22 0 21,.y 23 5 21,.g 24 (.bin .sub (.t 23) (.k 1)) 21 true,.g 25 (.iAddrS 1 (.t 22) (.t 24)) 21 true,.j 26 25 21 true,.y 27 6 21,.g 28 (.bin .geq (.t 26) (.t 27)) 21 true,.g 29 (.pick (.t 21) (.t 28) .F) 18 false,.o 30 18 29]) (.cond (.t 30) (.seq (.r [.m 4 .F]) (.ret)) (.skip))))) (.r [.a 31 9 1,.n 9 31]))))))) (.seq (.r [.m 4 .T]) (.ret)))⟩
theorem qrk(hc:qj P f yU=true)(xs:List Int)(g:Nat)(is:Int->Bool)(hg:∀x,qc P g [.i .i64 x] (.b (is x)))(hl:xs.length<=100000):qc P f [.fz xs.length (rI .i64 xs),.fn g [] []] (.b (zJ is none xs)):=by
 refine qc.mk hc (by simp[qt,clo,qh]) ?_;simp only[yU,vI,simprocAttr];simp only[↓vS,vT,simprocAttr]
 refine SL.loop (α:=Nat) (fun j=>[(0,.fz xs.length (rI .i64 xs)),(1,.fn g [] []),(7,.fz xs.length (rI .i64 xs)),(8,.i .i64 xs.length),(9,.i .i64 j)]) (fun _=>[])
  (fun j=>j<=xs.length∧zJ is none xs=zJ is (if j=0 then none else xs[j-1]?) (xs.drop j)) (fun j=>xs.length-j) 0 [] ?_ ?_ ?_ rfl ?_ ?_
 ·simp[vw,qh]
 ·trivial
 ·simp
 ·exact⟨Nat.zero_le _,rfl⟩
 rintro j ⟨hj,hI⟩ G ih;simp only[vI,simprocAttr]
 by_cases hlt:j<xs.length
 ·have hx:xs[j]?=some xs[j]:=List.getElem?_eq_getElem hlt;have hw:IntKind.wrap .i64 ((j:Int)+1)=((j+1:Nat):Int):=by rw[qB (by omega) (by omega)];omega
  rw[List.drop_eq_getElem_cons hlt,zJ] at hI;generalize hc0:xs[j]=c at hI hx;simp only[↓vS,vT,simprocAttr,hlt,Nat.mul_one,x9,hx,Option.map_some];refine (hg c).sc ?_;cases hk:is c with
  | false =>
   have hw:zJ is none xs=false:=by rw[hI];simp[hk]
   simp only[↓vS,vT,simprocAttr];simp[vZ,hw]
  | true =>
   by_cases h0:j=0
   ·subst h0;have hn:¬(0:Int)<((0:Nat):Int):=by decide
    simp only[↓vS,vT,simprocAttr,hn,hw];refine ih 1 ⟨by omega,?_⟩ (by omega) _ _ (Wk.mk _ _ [] ?_ ?_ ?_ rfl)
    ·rw[hI,hk];simp[hx]
    ·simp[vw,qh];exact qB (by decide) (by decide)
    ·trivial
    ·simp
   ·have hp:(0:Int)<(j:Int):=by omega
    have hpl:j-1<xs.length:=by omega
    have hy:xs[j-1]?=some xs[j-1]:=List.getElem?_eq_getElem hpl;have hw2:IntKind.wrap .i64 ((j:Int)-1)=((j-1:Nat):Int):=by rw[qB (by omega) (by omega)];omega
    rw[if_neg h0,hy] at hI
    by_cases hlt2:c<=xs[j-1]
    ·have hwf:zJ is none xs=false:=by rw[hI];simp[Int.not_lt.2 hlt2]
     simp only[↓vS,vT,simprocAttr,hp,hw2,hpl,hy,Nat.mul_one,x9,Option.map_some,hlt2];simp[vZ,hwf]
    ·simp only[↓vS,vT,simprocAttr,hp,hw2,hpl,hy,Nat.mul_one,x9,Option.map_some,hlt2,hw];refine ih (j+1) ⟨by omega,?_⟩ (by omega) _ _ (Wk.mk _ _ [] ?_ ?_ ?_ rfl)
     ·rw[hI,hk];simp[hx];omega
     ·simp[vw,qh]
     ·trivial
     ·simp
 ·rw[List.drop_of_length_le (by omega),zJ] at hI;simp only[↓vS,vT,simprocAttr,hlt];simp[vZ,hI]
def kC:IFn:=⟨[.tmp 4],.seq (.r [.m 4 .F]) (.seq (.seq (.r [.n 7 0,.e 8 7,.m 9 (.k 0)]) (.blk 0 (.loop (.seq (.r [.s 10 9 8]) (.seq (.cond (.t 10) (.skip) (.exit 0)) (.seq (.blk 1 (.seq (.r [.n 11 9,.i 12 1 7 9,.d 13 12,.n 5 11,.n 6 13]) (.seq (.r [.n 14 1,.n 15 6,⟨(some 16),.callV (.t 14) [.t 15],none⟩,.q 17 (.un .not (.t 16)),.n 18 17,.z 19 5 18,.g 20 (.bin .gtr (.t 19) (.k 0)) 18 false,.z 21 20 18,.y 22 0 21,.y 23 5 21,.g 24 (.bin .sub (.t 23) (.k 1)) 21 true,.g 25 (.iAddrS 1 (.t 22) (.t 24)) 21 true,.j 26 25 21 true,.y 27 6 21,.g 28 (.bin .geq (.t 26) (.t 27)) 21 true,.g 29 (.pick (.t 21) (.t 28) .F) 18 false,.o 30 18 29]) (.cond (.t 30) (.seq (.r [.m 4 .F]) (.ret)) (.skip))))) (.r [.a 31 9 1,.n 9 31]))))))) (.seq (.r [.m 4 .T]) (.ret)))⟩
theorem qrl(hc:qj P f kC=true)(xs:List Int)(g:Nat)(is:Int->Bool)(hg:∀x,qc P g [.i .u32 x] (.b (is x)))(hl:xs.length<=100000):qc P f [.fz xs.length (rI .u32 xs),.fn g [] []] (.b (zJ is none xs)):=by
 refine qc.mk hc (by simp[qt,clo,qh]) ?_;simp only[kC,vI,simprocAttr];simp only[↓vS,vT,simprocAttr]
 refine SL.loop (α:=Nat) (fun j=>[(0,.fz xs.length (rI .u32 xs)),(1,.fn g [] []),(7,.fz xs.length (rI .u32 xs)),(8,.i .i64 xs.length),(9,.i .i64 j)]) (fun _=>[])
  (fun j=>j<=xs.length∧zJ is none xs=zJ is (if j=0 then none else xs[j-1]?) (xs.drop j)) (fun j=>xs.length-j) 0 [] ?_ ?_ ?_ rfl ?_ ?_
 ·simp[vw,qh]
 ·trivial
 ·simp
 ·exact⟨Nat.zero_le _,rfl⟩
 rintro j ⟨hj,hI⟩ G ih;simp only[vI,simprocAttr]
 by_cases hlt:j<xs.length
 ·have hx:xs[j]?=some xs[j]:=List.getElem?_eq_getElem hlt;have hw:IntKind.wrap .i64 ((j:Int)+1)=((j+1:Nat):Int):=by rw[qB (by omega) (by omega)];omega
  rw[List.drop_eq_getElem_cons hlt,zJ] at hI;generalize hc0:xs[j]=c at hI hx;simp only[↓vS,vT,simprocAttr,hlt,Nat.mul_one,x9,hx,Option.map_some];refine (hg c).sc ?_;cases hk:is c with
  | false =>
   have hw:zJ is none xs=false:=by rw[hI];simp[hk]
   simp only[↓vS,vT,simprocAttr];simp[vZ,hw]
  | true =>
   by_cases h0:j=0
   ·subst h0;have hn:¬(0:Int)<((0:Nat):Int):=by decide
    simp only[↓vS,vT,simprocAttr,hn,hw];refine ih 1 ⟨by omega,?_⟩ (by omega) _ _ (Wk.mk _ _ [] ?_ ?_ ?_ rfl)
    ·rw[hI,hk];simp[hx]
    ·simp[vw,qh];exact qB (by decide) (by decide)
    ·trivial
    ·simp
   ·have hp:(0:Int)<(j:Int):=by omega
    have hpl:j-1<xs.length:=by omega
    have hy:xs[j-1]?=some xs[j-1]:=List.getElem?_eq_getElem hpl;have hw2:IntKind.wrap .i64 ((j:Int)-1)=((j-1:Nat):Int):=by rw[qB (by omega) (by omega)];omega
    rw[if_neg h0,hy] at hI
    by_cases hlt2:c<=xs[j-1]
    ·have hwf:zJ is none xs=false:=by rw[hI];simp[Int.not_lt.2 hlt2]
     simp only[↓vS,vT,simprocAttr,hp,hw2,hpl,hy,Nat.mul_one,x9,Option.map_some,hlt2];simp[vZ,hwf]
    ·simp only[↓vS,vT,simprocAttr,hp,hw2,hpl,hy,Nat.mul_one,x9,Option.map_some,hlt2,hw];refine ih (j+1) ⟨by omega,?_⟩ (by omega) _ _ (Wk.mk _ _ [] ?_ ?_ ?_ rfl)
     ·rw[hI,hk];simp[hx];omega
     ·simp[vw,qh]
     ·trivial
     ·simp
 ·rw[List.drop_of_length_le (by omega),zJ] at hI;simp only[↓vS,vT,simprocAttr,hlt];simp[vZ,hI]
def zd(n:Int):List (List UInt8×Int)->List UInt8
 | []=>[]
 | p::l=>if p.2=n then p.1 else zd n l
def Qp:IFn:=⟨[.tmp 4],.seq (.r [.m 4 (.c (.s []))]) (.seq (.seq (.r [.n 7 0,.e 8 7,.m 9 (.k 0)]) (.blk 0 (.loop (.seq (.r [.s 10 9 8]) (.seq (.cond (.t 10) (.skip) (.exit 0)) (.seq (.blk 1 (.seq (.r [.i 11 2 7 9,.v 12 2 11,.q 6 (.alloc [.s [],.i .u32 0]),.u (.store 2 (.t 6) (.t 12))]) (.seq (.r [.f 13 1 6,.d 14 13,.n 15 1,.b 16 .eql 14 15]) (.cond (.t 16) (.seq (.r [.f 17 0 6,.d 18 17,.n 4 18]) (.ret)) (.skip))))) (.r [.a 19 9 1,.n 9 19]))))))) (.seq (.r [.m 4 (.c (.s []))]) (.ret)))⟩
theorem qtW(hc:qj P f Qp=true)(l:List (List UInt8×Int))(n:Int)(hl:l.length<=qf):qc P f [.fz l.length (l.flatMap (zo .u32)),.i .u32 n] (.s (zd n l)):=by
 refine qc.mk hc (by simp[qt,clo]) ?_;simp only[Qp,vI,simprocAttr];simp only[↓vS,vT,simprocAttr];refine SL.loop (α:=Nat) (fun j=>[(1,.i .u32 n),(7,.fz l.length (l.flatMap (zo .u32))),(8,.i .i64 l.length),(9,.i .i64 j)]) (fun _=>[]) (fun j=>j<=l.length∧zd n l=zd n (l.drop j)) (fun j=>l.length-j) 0 [] ?_ ?_ ?_ rfl ?_ ?_
 ·simp[vw]
 ·trivial
 ·simp
 ·simp
 rintro j ⟨hj,hI⟩ G ih;simp only[vI,simprocAttr]
 by_cases hlt:j<l.length
 ·have hx:l[j]?=some l[j]:=List.getElem?_eq_getElem hlt;have hw:IntKind.wrap .i64 ((j:Int)+1)=(j:Int)+1:=qB (by omega) (by have:=hl;simp only[qf] at this;omega)
  have he:=xc (f:=zo .u32) (m:=2) vo hx;have hb:j*2+2<=(l.flatMap (zo .u32)).length:=by rw[zY (m:=2) vo];omega
  rw[List.drop_eq_getElem_cons hlt,zd] at hI;simp only[↓vS,vT,simprocAttr,hlt,hb,he,zo,hw];split
  ·rename_i hs;rw[hI,if_pos hs];simp only[vZ,and_self,true_and]
  ·rename_i hs;rw[if_neg hs] at hI;refine ih (j+1) ⟨by omega,hI⟩ (by omega) _ _ (Wk.mk _ _ [] ?_ ?_ ?_ rfl)
   ·simp[vw]
   ·trivial
   ·simp
 ·simp only[↓vS,vT,simprocAttr,hlt,vZ];rw[List.drop_eq_nil_of_le (by omega),zd] at hI;rw[hI]
def Qq:IFn:=⟨[.tmp 4],.seq (.r [.m 4 (.c (.s []))]) (.seq (.seq (.r [.n 7 0,.e 8 7,.m 9 (.k 0)]) (.blk 0 (.loop (.seq (.r [.s 10 9 8]) (.seq (.cond (.t 10) (.skip) (.exit 0)) (.seq (.blk 1 (.seq (.r [.i 11 2 7 9,.v 12 2 11,.q 6 (.alloc [.s [],.i .u64 0]),.u (.store 2 (.t 6) (.t 12))]) (.seq (.r [.f 13 1 6,.d 14 13,.n 15 1,.b 16 .eql 14 15]) (.cond (.t 16) (.seq (.r [.f 17 0 6,.d 18 17,.n 4 18]) (.ret)) (.skip))))) (.r [.a 19 9 1,.n 9 19]))))))) (.seq (.r [.m 4 (.c (.s []))]) (.ret)))⟩
theorem qtX(hc:qj P f Qq=true)(l:List (List UInt8×Int))(n:Int)(hl:l.length<=qf):qc P f [.fz l.length (l.flatMap (zo .u64)),.i .u64 n] (.s (zd n l)):=by
 refine qc.mk hc (by simp[qt,clo]) ?_;simp only[Qq,vI,simprocAttr];simp only[↓vS,vT,simprocAttr];refine SL.loop (α:=Nat) (fun j=>[(1,.i .u64 n),(7,.fz l.length (l.flatMap (zo .u64))),(8,.i .i64 l.length),(9,.i .i64 j)]) (fun _=>[]) (fun j=>j<=l.length∧zd n l=zd n (l.drop j)) (fun j=>l.length-j) 0 [] ?_ ?_ ?_ rfl ?_ ?_
 ·simp[vw]
 ·trivial
 ·simp
 ·simp
 rintro j ⟨hj,hI⟩ G ih;simp only[vI,simprocAttr]
 by_cases hlt:j<l.length
 ·have hx:l[j]?=some l[j]:=List.getElem?_eq_getElem hlt;have hw:IntKind.wrap .i64 ((j:Int)+1)=(j:Int)+1:=qB (by omega) (by have:=hl;simp only[qf] at this;omega)
  have he:=xc (f:=zo .u64) (m:=2) vo hx;have hb:j*2+2<=(l.flatMap (zo .u64)).length:=by rw[zY (m:=2) vo];omega
  rw[List.drop_eq_getElem_cons hlt,zd] at hI;simp only[↓vS,vT,simprocAttr,hlt,hb,he,zo,hw];split
  ·rename_i hs;rw[hI,if_pos hs];simp only[vZ,and_self,true_and]
  ·rename_i hs;rw[if_neg hs] at hI;refine ih (j+1) ⟨by omega,hI⟩ (by omega) _ _ (Wk.mk _ _ [] ?_ ?_ ?_ rfl)
   ·simp[vw]
   ·trivial
   ·simp
 ·simp only[↓vS,vT,simprocAttr,hlt,vZ];rw[List.drop_eq_nil_of_le (by omega),zd] at hI;rw[hI]
def yT(a b:Nat):IFn:=⟨[.tmp 2],.seq (.r [.m 2 (.c (.s []))]) (.seq (.r [.l 4 a [],.q 3 (.alloc [.s [],.i .u32 0,.s [],.i .u32 0,.s [],.i .u32 0,.s [],.i .u32 0,.s [],.i .u32 0,.s [],.i .u32 0,.s [],.i .u32 0,.s [],.i .u32 0]),.u (.store 16 (.t 3) (.t 4))]) (.seq (.r [.q 5 (.slcA 8 2 (.t 3) none none none),.n 6 0,.l 7 b [.t 5,.t 6],.n 2 7]) (.ret)))⟩
theorem qoI{g1 g2:Nat}(hc:qj P f (yT g1 g2)=true)(h1:qc P g1 [] (.agg (qn.flatMap (zo .u32))))(h2:∀(l:List (List UInt8×Int)) (n:Int),l.length<=qf->qc P g2 [.fz l.length (l.flatMap (zo .u32)),.i .u32 n] (.s (zd n l)))(n:Int):qc P f [.i .u32 n] (.s (zd n qn)):=by
 refine qc.mk hc rfl ?_;simp only[yT,vI,simprocAttr];simp only[↓vS,vT,simprocAttr];refine h1.sc ?_;simp only[↓vS,vT,simprocAttr,qn,zo,List.flatMap_cons,List.flatMap_nil];refine (h2 qn n (by decide)).lend (vs':=[.fz 8 (qn.flatMap (zo .u32)),.i .u32 n]) ?_ rfl ?_
 ·refine .cons _ _ _ _ (.cut 2 rfl (Nat.le_refl _) ?_) (.cons _ _ _ _ (.i _ _) .nil);simp[vw,qn,zo]
 simp only[↓vS,vT,simprocAttr,vZ,and_self,qn]
def Xq:IFn:=⟨[.tmp 2],.seq (.r [.q 1 (.box (.t 0)),.m 2 .F]) (.seq (.r [.f 3 1 1,.d 4 3,.q 5 (.bin .neq (.t 4) (.c (.i .u32 0))),.n 2 5]) (.ret))⟩
theorem quk(hc:qj P f Xq=true)(c:GCall):qc P f [.agg (zt c)] (.b (decide (c.act≠0))):=by
 refine qc.mk hc rfl ?_;simp only[Xq,zt,vI,simprocAttr]
 by_cases h:c.act=0 <;>
 ·simp only[↓vS,vT,simprocAttr,h];simp[vZ,h]
def Xr(a:Nat):IFn:=⟨[.tmp 2],.seq (.r [.m 2 .F]) (.seq (.r [.n 3 0,.l 4 a [.t 3],.q 5 (.bin .neq (.t 4) (.c (.s []))),.n 2 5]) (.ret))⟩
theorem qul{g:Nat}(hc:qj P f (Xr g)=true)(hg:∀a,qc P g [.i .i64 a] (.s (xU a)))(a:Int):qc P f [.i .i64 a] (.b (decide (0<=a)&&decide (a<6))):=by
 refine qc.mk hc rfl ?_;simp only[Xr,vI,simprocAttr];simp only[↓vS,vT,simprocAttr];refine (hg a).sc ?_;have h:=qhM a
 by_cases h':xU a=[]
 ·have h2:(decide (0<=a)&&decide (a<6))=false:=by
   have:=mt h.2 (by simpa using h');simp only[Bool.and_eq_false_iff,decide_eq_false_iff_not];omega
  simp only[↓vS,vT,simprocAttr,h'];simp[vZ,h2]
 ·have h2:=h.1 h';simp only[↓vS,vT,simprocAttr,h'];simp[vZ,h2]
def XB(n:Int):Bool:=decide (zd n qn≠[])
def Xs(a:Nat):IFn:=⟨[.tmp 2],.seq (.r [.m 2 .F]) (.seq (.r [.n 3 0,.l 4 a [.t 3],.q 5 (.bin .neq (.t 4) (.c (.s []))),.n 2 5]) (.ret))⟩
theorem qum{g:Nat}(hc:qj P f (Xs g)=true)(hg:∀a,qc P g [.i .u32 a] (.s (zd a qn)))(a:Int):qc P f [.i .u32 a] (.b (XB a)):=by
 refine qc.mk hc rfl ?_;simp only[Xs,vI,simprocAttr];simp only[↓vS,vT,simprocAttr];refine (hg a).sc ?_;unfold XB;generalize zd a qn=s
 by_cases h':s=[] <;>
 ·simp only[↓vS,vT,simprocAttr,h'];simp[vZ,h']
def xa(a:Nat):IFn:=⟨[.tmp 4],.seq (.r [.m 4 .F]) (.seq (.r [.n 5 0,.n 6 1,.l 7 a [.t 5,.t 6],.w 8 .geq 7 0,.n 4 8]) (.ret))⟩
theorem qaT{α:Type}(p:α->Bool):∀(l:List α) (j:Nat),decide (0<=jf p l j)=l.any p
 | [],j=>by simp[jf]
 | x::l,j=>by
  rw[jf]
  by_cases h:p x=true
  ·simp[h]
  ·rw[if_neg h,qaT p l (j+1)];simp[h]
theorem qii{g:Nat}(hc:qj P f (xa g)=true)(h:ZO 2 P g)(l:List GCall)(k:Nat)(p:GCall->Bool)(hk:∀c,qc P k [.agg (zt c)] (.b (p c)))(hl:l.length<=qf):qc P f [.fz l.length (rC l),.fn k [] []] (.b (l.any p)):=by
 refine qc.mk hc (by simp[qt,clo,qg]) ?_;simp only[xa,vI,simprocAttr];simp only[↓vS,vT,simprocAttr];refine (h zt p k [] [] l kV rfl rfl hl fun x _=>hk x).sc ?_
 simp only[↓vS,vT,simprocAttr];simp[vZ,← qaT p l 0]
def yd(a b c d e g h i:Nat):ICode:=.seq (.reg true [.n 46 3,.n 47 46,.y 48 4 47,.p 49 47 48,.n 50 49,.y 51 5 50,.p 52 50 51,.n 53 52,.y 54 6 53,.p 55 53 54,.n 56 55,.y 57 7 56,.p 58 56 57,.n 59 58,.h 60 1 1 59 true,.g 61 (.loadN 2 (.t 60)) 59 true,⟨(some 62),.callF h [.t 61],(some (59,true))⟩,.p 63 59 62,.n 64 63,.h 65 4 1 64 true,.g 66 (.loadN 2 (.t 65)) 64 true,⟨(some 67),.callF h [.t 66],(some (64,true))⟩,.p 68 64 67,.n 69 68,.h 70 8 1 69 true,.j 71 70 69 true,⟨(some 72),.callF i [],(some (69,true))⟩,.g 73 (.bin .andNot (.t 71) (.t 72)) 69 true,.g 74 (.bin .eql (.t 73) (.c (.i .u64 0))) 69 true,.p 75 69 74,.n 2 75]) (.ret)
def w8(a b c d e g h i:Nat):ICode:=.seq (.r [.f 40 0 1,.d 41 40,.l 42 c [.t 41,(.c (.fn d [] []))],.n 6 42]) (.seq (.r [.f 43 6 1,.d 44 43,.l 45 e [.t 44,(.c (.fn g [] []))],.n 7 45]) (.cut (yd a b c d e g h i)))
def wZ(a b c d e g h i:Nat):ICode:=.seq (.r [.f 26 7 1,.d 27 26,.q 28 (.bin .leq (.t 27) (.c (.i .u8 2))),.n 29 28,.h 30 7 1 29 true,.j 31 30 29 true,.g 32 (.bin .neq (.t 31) (.c (.i .u8 0))) 29 true,.y 33 32 29,.h 34 6 1 33 false,.j 35 34 33 false,.g 36 (.len false (.t 35)) 33 false,.g 37 (.bin .eql (.t 36) (.k 0)) 33 false,.g 38 (.pick (.t 33) .T (.t 37)) 29 true,.p 39 29 38,.n 5 39]) (.cut (w8 a b c d e g h i))
def JZ(a b c d e g h i:Nat):IFn:=⟨[.tmp 2],.seq (.r [.q 1 (.box (.t 0)),.m 2 .F]) (.seq (.r [.f 8 4 1,.f 9 1 8,.d 10 9,.l 11 a [.t 10,(.c (.fn b [] []))],.q 12 (.un .not (.t 11)),.n 3 12]) (.seq (.r [.f 13 3 1,.d 14 13,.q 15 (.bin .eql (.t 14) (.c (.i .u32 2147483648))),.n 16 15,.h 17 3 1 16 false,.j 18 17 16 false,.g 19 (.bin .geq (.t 18) (.c (.i .u32 327680))) 16 false,.z 20 19 16,.h 21 3 1 20 true,.j 22 21 20 true,.g 23 (.bin .leq (.t 22) (.c (.i .u32 331775))) 20 true,.g 24 (.pick (.t 20) (.t 23) .F) 16 false,.o 25 16 24,.n 4 25]) (.cut (wZ a b c d e g h i))))⟩
noncomputable def yi(p:Pol):Bool:=zF p.filter&&zF p.log&&decide (yH .u64 p.spaces 2114060416=0)
theorem qmf{g1 g2 g3 g4 g5 g6 g7 g8:Nat}(h7:∀l:GList,l.calls.length<=100000->qc P g7 [.agg (qv l)] (.b (zF l)))
  (h8:qc P g8 [] (.i .u64 2114060416)) (p:Pol) (hp:PolOk p) (o d m a fm:Bool) {t':Tr AV} {h':Hp} (hw:Wk 0 t' h' (mkT [(1,.ptr 0 0),(2,.b false),(3,.b o),(4,.b d),(5,.b m),(6,.b a),(7,.b fm)]) (mkH 0 [.cells 0 true false (qo p)])) :
  S P 0 (yd g1 g2 g3 g4 g5 g6 g7 g8) (wE [.tmp 2] fun v' h'=>Frz h' v' (.b (o&&d&&m&&a&&fm&&yi p))) t' h':=by
 have hcc:=hp.c;have hl:=hp.l;refine S.weak hw (qq ?_);simp only[yd,qo,vI,simprocAttr];simp only[↓vS,vT,simprocAttr];refine zQ ?_;cases o
 ·simp only[↓vS,vT,simprocAttr];simp[vZ]
 cases d
 ·simp only[↓vS,vT,simprocAttr];simp[vZ]
 cases m
 ·simp only[↓vS,vT,simprocAttr];simp[vZ]
 cases a
 ·simp only[↓vS,vT,simprocAttr];simp[vZ]
 cases fm
 ·simp only[↓vS,vT,simprocAttr];simp[vZ]
 simp only[↓vS,vT,simprocAttr];refine (h7 p.filter (by omega)).pc ?_;cases hF:zF p.filter
 ·simp only[↓vS,vT,simprocAttr];simp[vZ,yi,hF]
 simp only[↓vS,vT,simprocAttr];refine (h7 p.log (by omega)).pc ?_;cases hL:zF p.log
 ·simp only[↓vS,vT,simprocAttr];simp[vZ,yi,hF,hL]
 simp only[↓vS,vT,simprocAttr];refine h8.pc ?_;simp only[↓vS,vT,simprocAttr];simp[vZ,yi,hF,hL]
theorem qme{g1 g2 g3 g4 g5 g6 g7 g8:Nat}(h3:∀(xs:List Int) (g:Nat) (is:Int->Bool),(∀x,qc P g [.i .i64 x] (.b (is x)))->xs.length<=100000->qc P g3 [.fz xs.length (rI .i64 xs),.fn g [] []] (.b (zJ is none xs)))
  (h4:∀a,qc P g4 [.i .i64 a] (.b (decide (0<=a)&&decide (a<6))))
  (h5:∀(xs:List Int) (g:Nat) (is:Int->Bool),(∀x,qc P g [.i .u32 x] (.b (is x)))->xs.length<=100000->qc P g5 [.fz xs.length (rI .u32 xs),.fn g [] []] (.b (zJ is none xs)))
  (h6:∀a,qc P g6 [.i .u32 a] (.b (XB a)))
  (h7:∀l:GList,l.calls.length<=100000->qc P g7 [.agg (qv l)] (.b (zF l)))
  (h8:qc P g8 [] (.i .u64 2114060416)) (p:Pol) (hp:PolOk p) (o d m:Bool) {t':Tr AV} {h':Hp} (hw:Wk 0 t' h' (mkT [(1,.ptr 0 0),(2,.b false),(3,.b o),(4,.b d),(5,.b m)]) (mkH 0 [.cells 0 true false (qo p)])) :
  S P 0 (w8 g1 g2 g3 g4 g5 g6 g7 g8) (wE [.tmp 2] fun v' h'=>Frz h' v' (.b (o&&d&&m&&zJ (fun a=>decide (0<=a)&&decide (a<6)) none p.arches&&zJ XB none p.fams&&yi p))) t' h':=by
 have ha:=hp.a;have hf:=hp.f;refine S.weak hw (qq ?_);simp only[w8,qo,vI,simprocAttr];simp only[↓vS,vT,simprocAttr];refine (h3 p.arches g4 _ h4 (by omega)).sc ?_;simp only[↓vS,vT,simprocAttr];refine (h5 p.fams g6 _ h6 (by omega)).sc ?_;simp only[↓vS,vT,simprocAttr];refine qmf h7 h8 p hp o d m _ _ (Wk.mk _ _ [0] ?_ ?_ ?_ rfl)
 ·simp[vw]
 ·simp[vw,qo,qh,qg]
 ·simp
def WX(p:Pol):Bool:=decide (p.fmode<=2)&&(decide (p.fmode≠0)||decide (p.fams=[]))
theorem qmd{g1 g2 g3 g4 g5 g6 g7 g8:Nat}(h3:∀(xs:List Int) (g:Nat) (is:Int->Bool),(∀x,qc P g [.i .i64 x] (.b (is x)))->xs.length<=100000->qc P g3 [.fz xs.length (rI .i64 xs),.fn g [] []] (.b (zJ is none xs)))
  (h4:∀a,qc P g4 [.i .i64 a] (.b (decide (0<=a)&&decide (a<6))))
  (h5:∀(xs:List Int) (g:Nat) (is:Int->Bool),(∀x,qc P g [.i .u32 x] (.b (is x)))->xs.length<=100000->qc P g5 [.fz xs.length (rI .u32 xs),.fn g [] []] (.b (zJ is none xs)))
  (h6:∀a,qc P g6 [.i .u32 a] (.b (XB a)))
  (h7:∀l:GList,l.calls.length<=100000->qc P g7 [.agg (qv l)] (.b (zF l)))
  (h8:qc P g8 [] (.i .u64 2114060416)) (p:Pol) (hp:PolOk p) (o d:Bool) {t':Tr AV} {h':Hp} (hw:Wk 0 t' h' (mkT [(1,.ptr 0 0),(2,.b false),(3,.b o),(4,.b d)]) (mkH 0 [.cells 0 true false (qo p)])) :
  S P 0 (wZ g1 g2 g3 g4 g5 g6 g7 g8) (wE [.tmp 2] fun v' h'=>Frz h' v' (.b (o&&d&&WX p&&zJ (fun a=>decide (0<=a)&&decide (a<6)) none p.arches&&zJ XB none p.fams&&yi p))) t' h':=by
 refine S.weak hw (qq ?_);simp only[wZ,qo,vI,simprocAttr]
 have go:∀m,m=WX p->∀{t':Tr AV} {h':Hp},Wk 0 t' h' (mkT [(1,.ptr 0 0),(2,.b false),(3,.b o),(4,.b d),(5,.b m)]) (mkH 0 [.cells 0 true false (qo p)])->S P 0 (w8 g1 g2 g3 g4 g5 g6 g7 g8) (wE [.tmp 2] fun v' h'=>Frz h' v' (.b (o&&d&&WX p&&zJ (fun a=>decide (0<=a)&&decide (a<6)) none p.arches&&zJ XB none p.fams&&yi p))) t' h':=by
  rintro m rfl t' h' hw;exact qme h3 h4 h5 h6 h7 h8 p hp o d _ hw
 by_cases m1:p.fmode<=2
 ·by_cases m2:p.fmode=0
  ·by_cases m3:p.fams=[]
   ·have h0:(p.fams.length:Int)=0:=by rw[m3];rfl
    simp only[↓vS,vT,simprocAttr,m1,m2,h0];refine go true (by simp[WX,m1,m2,m3]) (Wk.mk _ _ [0] ?_ ?_ ?_ rfl)
    ·simp[vw]
    ·simp[vw,qo,qh,qg,m2]
    ·simp
   ·have h0:((p.fams.length:Int)=0)=False:=eq_false (by have:=List.length_pos_iff.2 m3;omega)
    simp only[↓vS,vT,simprocAttr,m1,m2,h0];refine go false (by simp[WX,m1,m2,m3]) (Wk.mk _ _ [0] ?_ ?_ ?_ rfl)
    ·simp[vw]
    ·simp[vw,qo,qh,qg,m2]
    ·simp
  ·simp only[↓vS,vT,simprocAttr,m1,m2];refine go true (by simp[WX,m1,m2]) (Wk.mk _ _ [0] ?_ ?_ ?_ rfl)
   ·simp[vw]
   ·simp[vw,qo,qh,qg]
   ·simp
 ·simp only[↓vS,vT,simprocAttr,m1];refine go false (by simp[WX,m1]) (Wk.mk _ _ [0] ?_ ?_ ?_ rfl)
  ·simp[vw]
  ·simp[vw,qo,qh,qg]
  ·simp
def XK(n:Int):Bool:=decide (n=2147483648)||(decide (327680<=n)&&decide (n<=331775))
noncomputable def Wj(p:Pol):Bool:=!(p.log.calls.any fun c=>decide (c.act≠0))&&XK p.deny&&WX p&&zJ (fun a=>decide (0<=a)&&decide (a<6)) none p.arches&&zJ XB none p.fams&&yi p
theorem qrd{g1 g2 g3 g4 g5 g6 g7 g8:Nat}(hc:qj P f (JZ g1 g2 g3 g4 g5 g6 g7 g8)=true)
  (h1:∀(l:List GCall) (k:Nat) (p:GCall->Bool),(∀c,qc P k [.agg (zt c)] (.b (p c)))->l.length<=qf->qc P g1 [.fz l.length (rC l),.fn k [] []] (.b (l.any p)))
  (h2:∀c,qc P g2 [.agg (zt c)] (.b (decide (c.act≠0))))
  (h3:∀(xs:List Int) (g:Nat) (is:Int->Bool),(∀x,qc P g [.i .i64 x] (.b (is x)))->xs.length<=100000->qc P g3 [.fz xs.length (rI .i64 xs),.fn g [] []] (.b (zJ is none xs)))
  (h4:∀a,qc P g4 [.i .i64 a] (.b (decide (0<=a)&&decide (a<6))))
  (h5:∀(xs:List Int) (g:Nat) (is:Int->Bool),(∀x,qc P g [.i .u32 x] (.b (is x)))->xs.length<=100000->qc P g5 [.fz xs.length (rI .u32 xs),.fn g [] []] (.b (zJ is none xs)))
  (h6:∀a,qc P g6 [.i .u32 a] (.b (XB a)))
  (h7:∀l:GList,l.calls.length<=100000->qc P g7 [.agg (qv l)] (.b (zF l)))
  (h8:qc P g8 [] (.i .u64 2114060416)) (p:Pol) (hp:PolOk p):qc P f [.agg (qo p)] (.b (Wj p)):=by
 have hl:=hp.l;refine qc.mk hc rfl ?_
 have go:∀d,d=XK p.deny->∀{t':Tr AV} {h':Hp},Wk 0 t' h' (mkT [(1,.ptr 0 0),(2,.b false),(3,.b (!(p.log.calls.any fun c=>decide (c.act≠0)))),(4,.b d)]) (mkH 0 [.cells 0 true false (qo p)])->S P 0 (wZ g1 g2 g3 g4 g5 g6 g7 g8) (wE [.tmp 2] fun v' h'=>Frz h' v' (.b (Wj p))) t' h':=by
  rintro d rfl t' h' hw;exact qmd h3 h4 h5 h6 h7 h8 p hp _ _ hw
 simp only[JZ,qo,vI,simprocAttr];simp only[↓vS,vT,simprocAttr];refine (h1 p.log.calls g2 _ h2 (by simp only[qf];omega)).sc ?_
 by_cases d1:p.deny=2147483648
 ·simp only[↓vS,vT,simprocAttr,d1];refine go true (by simp[XK,d1]) (Wk.mk _ _ [0] ?_ ?_ ?_ rfl)
  ·simp[vw]
  ·simp[vw,qo,qh,qg,d1]
  ·simp
 by_cases d2:327680<=p.deny
 ·by_cases d3:p.deny<=331775
  ·simp only[↓vS,vT,simprocAttr,d1,d2,d3];refine go true (by simp[XK,d1,d2,d3]) (Wk.mk _ _ [0] ?_ ?_ ?_ rfl)
   ·simp[vw]
   ·simp[vw,qo,qh,qg]
   ·simp
  ·simp only[↓vS,vT,simprocAttr,d1,d2,d3];refine go false (by simp[XK,d1,d2,d3]) (Wk.mk _ _ [0] ?_ ?_ ?_ rfl)
   ·simp[vw]
   ·simp[vw,qo,qh,qg]
   ·simp
 ·simp only[↓vS,vT,simprocAttr,d1,d2];refine go false (by simp[XK,d1,d2]) (Wk.mk _ _ [0] ?_ ?_ ?_ rfl)
  ·simp[vw]
  ·simp[vw,qo,qh,qg]
  ·simp
end Go.Kc
end
section
/- What the document's May of a policy answers. Condition: the functions' texts are these. -/
namespace Go.Kc
variable {P:Program} {f:Nat}
structure PolR (p:Pol):Prop where
 fams:∀x ∈ p.fams,0<=x∧x<=4294967295
 deny:0<=p.deny∧p.deny<=4294967295
 spaces:0<=p.spaces∧p.spaces<18446744073709551616
 filter:Rng p.filter.calls
 log:Rng p.log.calls
section
variable {g1 g2 g3 g4:Nat}
end
end Go.Kc
end
section
/- Tests, rules; numbers of calls; the helpers of lower. Condition: the functions' texts are these. -/
namespace Go.Kc
variable {P:Program} {f:Nat}
structure GTest where
 arg:Int
 qgW:Int
 val:Int
 act:Int
structure GRule where
 nr:Int
 tests:List GTest
 act:Int
structure GFil where
 arch:Int
 rules:List GRule
 dflt:Int
section
variable {l m:List GTest} {j:Nat}
end
section
variable {l m:List GRule} {j:Nat}
end
end Go.Kc
end
section
/- The helpers of lower. Condition: the functions' texts are these. -/
namespace Go.Kc
variable {P:Program} {f:Nat}
def wL(s:Int):List Int:=(qk.map (·.2)).filter fun n=>decide (wD .u64 s n≠0)
def X2(a:Nat):IFn:=⟨[.tmp 2],.seq (.r [.m 2 .N]) (.seq (.r [.m 3 .N]) (.seq (.seq (.r [.l 6 a [],.m 7 (.k 0)]) (.blk 0 (.loop (.seq (.r [.w 8 .lss 7 8]) (.seq (.cond (.t 8) (.skip) (.exit 0)) (.seq (.blk 1 (.seq (.r [.q 9 (.idxA 8 2 true (.t 6) (.t 7)),.q 5 (.alloc [.s [],.i .u64 0]),.u (.store 2 (.t 5) (.t 9))]) (.seq (.r [.n 10 0,.f 11 1 5,.d 12 11,.b 13 .and 10 12,.q 14 (.bin .neq (.t 13) (.c (.i .u64 0)))]) (.cond (.t 14) (.r [.n 15 3,.f 16 1 5,.d 17 16,.q 18 (.buildS 1 [.i .u64 0] [(0,1,(.t 17))]),.q 19 (.app 1 8 true (.t 15) (.t 18)),.n 3 19]) (.skip))))) (.r [.a 20 7 1,.n 7 20]))))))) (.seq (.r [.n 21 3,.n 2 21]) (.ret))))⟩
theorem qoN{g:Nat}(hc:qj P f (X2 g)=true)(hg:qc P g [] (.agg (qk.flatMap (zo .u64))))(s:Int):qc P f [.i .u64 s] (.fz (wL s).length (rI .u64 (wL s))):=by
 refine qc.mk hc rfl ?_;simp only[X2,vI,simprocAttr];simp only[↓vS,vT,simprocAttr];refine hg.sc ?_;simp only[↓vS,vT,simprocAttr];have hlen:(qk.flatMap (zo .u64)).length=16:=by decide
 refine SL.loop (α:=Nat) (fun j=>[(0,.i .u64 s),(3,.own 0 ((((qk.take j).map (·.2)).filter fun n=>decide (wD .u64 s n≠0)).length)),(6,.agg (qk.flatMap (zo .u64))),(7,.i .i64 j)])
  (fun j=>[.cells 1 true true (rI .u64 (((qk.take j).map (·.2)).filter fun n=>decide (wD .u64 s n≠0)))])
  (fun j=>j<=8) (fun j=>8-j) 0 [9] ?_ ?_ ?_ rfl ?_ ?_
 ·simp[vw,qk,zo]
 ·simp[vw,rI]
 ·simp
 ·exact Nat.zero_le _
 rintro j hj G ih;simp only[vI,simprocAttr]
 by_cases hlt:j<8
 ·have hlt':(j:Int)<8:=by omega
  have hjl:j<qk.length:=hlt;have hx:qk[j]?=some qk[j]:=List.getElem?_eq_getElem hjl;have hw:IntKind.wrap .i64 ((j:Int)+1)=((j+1:Nat):Int):=by rw[qB (by omega) (by omega)];omega
  have he:=xc (f:=zo .u64) (m:=2) vo hx;have hb:j*2+2<=(qk.flatMap (zo .u64)).length:=by omega
  generalize hA:((qk.take j).map (·.2)).filter (fun n=>decide (wD .u64 s n≠0))=A
  have hA1:((qk.take (j+1)).map (·.2)).filter (fun n=>decide (wD .u64 s n≠0))=A++(if wD .u64 s qk[j].2=0 then [] else [qk[j].2]):=by
   rw[List.take_add_one,hx,List.map_append,List.filter_append,hA]
   by_cases h:wD .u64 s qk[j].2=0<;>simp[h]
  have hAl:A.length<=j:=by
   rw[← hA];refine Nat.le_trans (List.length_filter_le _ _) ?_;simp;omega
  generalize hc0:qk[j]=c at hx he hA1;generalize hT:qk.flatMap (zo .u64)=T at he hb hlen;have hTc:qt T=true:=by rw[← hT];rfl
  have hr1:A.length+1<=qf:=by simp only[qf];omega
  have hr2:(A.length+1)*8<=qf:=by simp only[qf];omega
  by_cases h0:wD .u64 s c.2=0
  ·rw[if_pos h0,List.append_nil] at hA1;simp only[↓vS,vT,simprocAttr,hlt',hlt,he,hb,zo,h0,hw];refine ih (j+1) hlt (by omega) _ _ (Wk.mk _ _ [0] ?_ ?_ ?_ rfl)
   ·rw[hA1,hT];simp[vw,qa,hTc]
   ·rw[hA1];simp[vw,qa,qh]
   ·simp
  ·rw[if_neg h0] at hA1;have hap:rI .u64 A++[AV.i .u64 c.2]=rI .u64 (A++[c.2]):=by rw[← Z7];rfl
   simp (decide:=true) only [↓vS,vT,simprocAttr,hlt',hlt,he,hb,zo,h0,hw,hr1,hr2,wV,Nat.mul_one,hap];refine ih (j+1) hlt (by omega) _ _ (Wk.mk _ _ [3] ?_ ?_ ?_ rfl)
   ·rw[hA1,hT];simp[vw,qa,hTc]
   ·rw[hA1];simp[vw,qa,qh]
   ·simp
 ·have hj':j=8:=by omega
  subst hj';have hlt':¬(((8:Nat):Int)<8):=by decide
  simp only[↓vS,vT,simprocAttr,hlt'];refine .own 0 _ 1 true _ _ ?_ (fun h0=>?_) (Frzs.self qh)
  ·simp[Tr.get_set,wL,qk]
  ·have h0:(wL s).length=0:=h0;rw[List.eq_nil_of_length_eq_zero h0];rfl
end Go.Kc
end
section
/- The document's flags, which directives are active. Condition: the functions' texts are these. -/
namespace Go.Kc
variable {P:Program} {f:Nat}
end Go.Kc
end
section
/- Actions that are known, rules and filters that may be, a call's name by its number. Condition: the functions' texts are these. -/
namespace Go.Kc
variable {P:Program} {f:Nat}
end Go.Kc
end
section
/- Rules and filters that may be; a call's name by its number. Condition: the functions' texts are these. -/
namespace Go.Kc
variable {P:Program} {f:Nat}
end Go.Kc
end
section
/- The plain law of LowerMay: lower's filters may be, their numbers have names. No condition. -/
namespace Go.Kc
end Go.Kc
end
section
/- LowerAlone: what the law answers (first its end). Condition: the functions' texts are these. -/
namespace Go.Kc
variable {P:Program} {f:Nat}
section
variable {g1 g2 g3 g4 g5:Nat}
end
end Go.Kc
end
