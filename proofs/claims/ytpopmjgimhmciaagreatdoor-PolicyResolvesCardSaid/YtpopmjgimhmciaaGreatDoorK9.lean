/- Part 9 of the abstract machine and of the functions' walks. Conditions: with each theorem. -/
import Derived.Test.YtpopmjgimhmciaaGreatDoorK8
set_option linter.unusedSimpArgs false
set_option linter.unusedVariables false
set_option linter.unnecessarySimpa false
section
/- The order of names; lists that rise; what Put and Take make of these. No condition. -/
namespace Go.Kc
theorem ZL:∀a:List UInt8,ltS a a=false
 | []=>rfl
 | c::x=>by rw[Qq,if_neg (UInt8.lt_irrefl c),if_pos rfl];exact ZL x
theorem yb:∀{a b c:List UInt8},ltS a b=true->ltS b c=true->ltS a c=true
 | _,[],[],_,h2=>by simp[qe9] at h2
 | _,_::_,[],_,h2=>by simp[qa4] at h2
 | [],_,_::_,_,_=>rfl
 | _::_,[],_::_,h1,_=>by simp[qa4] at h1
 | a::x,b::y,c::z,h1,h2=>by
  rw[Qq] at h1 h2 ⊢;simp only[UInt8.lt_iff_toNat_lt,← UInt8.toNat_inj] at h1 h2 ⊢
  by_cases e1:a.toNat<b.toNat
  ·by_cases e2:b.toNat<c.toNat
   ·rw[if_pos (by omega)]
   ·rw[if_neg e2] at h2;split at h2
    ·rw[if_pos (by omega)]
    ·cases h2
  ·rw[if_neg e1] at h1;split at h1
   ·rename_i e3
    by_cases e2:b.toNat<c.toNat
    ·rw[if_pos (by omega)]
    ·rw[if_neg e2] at h2;split at h2
     ·rw[if_neg (by omega),if_pos (by omega)];exact yb h1 h2
     ·cases h2
   ·cases h1
theorem Wn:∀a b:List UInt8,ltS a b=true∨a=b∨ltS b a=true
 | [],[]=>.inr (.inl rfl)
 | [],_::_=>.inl rfl
 | _::_,[]=>.inr (.inr rfl)
 | a::x,b::y=>by
  rw[Qq,Qq];simp only[UInt8.lt_iff_toNat_lt,← UInt8.toNat_inj];rcases Nat.lt_trichotomy a.toNat b.toNat with h|h|h
  ·left;rw[if_pos h]
  ·obtain rfl:=UInt8.toNat_inj.1 h;simp only[Nat.lt_irrefl,if_false,if_true];rcases Wn x y with h|h|h
   ·exact .inl h
   ·exact .inr (.inl (by rw[h]))
   ·exact .inr (.inr h)
  ·right;right;rw[if_pos h]
theorem y9{a b:List UInt8}(h:ltS a b=true):ltS b a=false:=by
 cases h2:ltS b a with
 | false=>rfl
 | true=>have:=yb h h2;rw[ZL] at this;cases this
theorem JL{a b:List UInt8}(h:ltS a b=true):a≠b:=by
 intro e;rw[e,ZL] at h;cases h
theorem qhV{a b:List UInt8}:(zQ a b<0)↔ltS a b=true:=by
 unfold zQ;split
 ·rename_i h;rw[h,ZL];simp
 ·split
  ·rename_i h;simp[h]
  ·rename_i h;simp[h]
theorem qbO{a b:List UInt8}:(zQ a b=0)↔a=b:=by
 unfold zQ;split
 ·rename_i h;simp[h]
 ·rename_i h;split<;>simp[h]
def Up(l:List GCall):Prop:=l.Pairwise fun a b=>ltS a.name b.name=true
theorem qbt:∀(o:Option GCall) (l:List GCall),xo o l=true↔((∀c ∈ l,okC c=true)∧Up l∧∀b,o=some b->∀c ∈ l,ltS b.name c.name=true)
 | o,[]=>by simp[xo,Up]
 | o,c::l=>by
  have ih:=qbt (some c) l;simp only[xo,Bool.and_eq_true,ih,Up,List.pairwise_cons,List.mem_cons,forall_eq_or_imp];constructor
  ·rintro⟨⟨h1,h2⟩,h3,h4,h5⟩;refine⟨⟨h1,h3⟩,⟨h5 c rfl,h4⟩,?_⟩;rintro b rfl;exact⟨h2,fun d hd=>yb h2 (h5 c rfl d hd)⟩
  ·rintro⟨⟨h1,h3⟩,⟨h5,h4⟩,h6⟩;refine⟨⟨h1,?_⟩,h3,h4,?_⟩
   ·cases o with
    | none=>rfl
    | some b=>exact (h6 b rfl).1
   ·rintro b hb;cases hb;exact h5
theorem xC(l:GList):zp l=true↔(l.mode<=2∧(l.mode≠0∨l.calls=[]))∧(∀c ∈ l.calls,okC c=true)∧Up l.calls:=by
 unfold zp;rw[Bool.and_eq_true,Bool.and_eq_true,Bool.or_eq_true,decide_eq_true_eq,decide_eq_true_eq,decide_eq_true_eq,qbt];simp
theorem qaM{α:Type}(p:α->Bool)(l:List α)(n:Nat)(h1:∀x ∈ l.take n,p x=true)(h2:∀x ∈ l.drop n,p x=false):l.filter p=l.take n∧l.filter (fun x=>!p x)=l.drop n:=by
 have e:l=l.take n++l.drop n:=(List.take_append_drop n l).symm;constructor
 ·conv=>lhs;rw[e,List.filter_append]
  rw[List.filter_eq_self.2 h1,List.filter_eq_nil_iff.2 (fun x hx=>by rw[h2 x hx];decide),List.append_nil]
 ·conv=>lhs;rw[e,List.filter_append]
  rw[List.filter_eq_nil_iff.2 (fun x hx=>by rw[h1 x hx];decide),List.filter_eq_self.2 (fun x hx=>by rw[h2 x hx];rfl),List.nil_append]
theorem qkw{l:List GCall}(hu:Up l)(s:List UInt8):(∀c ∈ l.take (bsC l fun c=>zQ c.name s),ltS c.name s=true)∧∀c ∈ l.drop (bsC l fun c=>zQ c.name s),ltS c.name s=false:=by
 have hq:∀k c,l[k]?=some c->bsQ l (fun c=>zQ c.name s) k=ltS c.name s:=by
  intro k c hc;unfold bsQ;rw[hc];show decide (zQ c.name s<0)=_;rw[Bool.eq_iff_iff,decide_eq_true_iff,qhV]
 have h:=qc2 (bsQ l fun c=>zQ c.name s) (fun a b hab hb=>by
  rcases Nat.lt_or_ge b l.length with hbl|hbl
  ·have hx:l[b]?=some l[b]:=List.getElem?_eq_getElem hbl;have hy:l[a]?=some l[a]:=List.getElem?_eq_getElem (by omega);rw[hq b _ hx] at hb;rw[hq a _ hy];rcases Nat.lt_or_eq_of_le hab with h|h
   ·exact yb (List.pairwise_iff_getElem.1 hu a b (by omega) hbl h) hb
   ·subst h;exact hb
  ·unfold bsQ at hb;rw[List.getElem?_eq_none hbl] at hb;cases hb) _ 0 l.length rfl (Nat.zero_le _) (fun a ha=>by omega) (fun a ha=>by unfold bsQ;rw[List.getElem?_eq_none ha];rfl)
 constructor
 ·intro c hc;obtain⟨k,hk,rfl⟩:=List.getElem_of_mem hc;rw[List.length_take] at hk;have hk:=Nat.lt_min.1 hk;have:=h.1 k hk.1;rw[hq k l[k] (List.getElem?_eq_getElem hk.2)] at this;rw[List.getElem_take];exact this
 ·intro c hc;obtain⟨k,hk,rfl⟩:=List.getElem_of_mem hc;rw[List.length_drop] at hk;have:=h.2 (bsC l (fun c=>zQ c.name s)+k) (by show bsC l _<=_;omega)
  rw[hq _ l[bsC l (fun c=>zQ c.name s)+k] (List.getElem?_eq_getElem (by omega))] at this
  rw[List.getElem_drop];exact this
theorem qaq{l:List GCall}(hu:Up l)(s:List UInt8)(n:Int):Wq l s n=l.filter (fun c=>ltS c.name s)++⟨s,n⟩::l.filter (fun c=>ltS s c.name):=by
 obtain⟨h1,h2⟩:=qkw hu s;obtain⟨e1,e2⟩:=qaM (fun c=>ltS c.name s) l _ h1 h2
 have hcut:l=l.take (bsC l fun c=>zQ c.name s)++l.drop (bsC l fun c=>zQ c.name s):=(List.take_append_drop _ l).symm
 have hA:(l.take (bsC l fun c=>zQ c.name s)).filter (fun c=>ltS s c.name)=[]:=by
  rw[List.filter_eq_nil_iff];intro c hc;rw[y9 (h1 c hc)];decide
 have hud:Up (l.drop (bsC l fun c=>zQ c.name s)):=List.Pairwise.sublist (List.drop_sublist _ _) hu
 have e3:l.filter (fun c=>ltS s c.name)=(l.drop (bsC l fun c=>zQ c.name s)).filter (fun c=>ltS s c.name):=by
  conv=>lhs;rw[hcut,List.filter_append,hA,List.nil_append]
 rw[e1,e3];unfold Wq;generalize hN:bsC l (fun c=>zQ c.name s)=N at *
 by_cases hlt:N<l.length
 ·have hx:l[N]?=some l[N]:=List.getElem?_eq_getElem hlt;rw[List.drop_eq_getElem_cons hlt] at hud h2 ⊢;have hud':=List.pairwise_cons.1 hud;rw[hx];show (if decide (zQ l[N].name s=0)=true then _ else _)=_
  by_cases he:zQ l[N].name s=0
  ·rw[if_pos (decide_eq_true he),List.set_eq_take_append_cons_drop,if_pos hlt];have he2:=qbO.1 he;rw[List.filter_cons,he2,ZL,if_neg (by decide),List.filter_eq_self.2];intro c hc;rw[← he2];exact hud'.1 c hc
  ·rw[if_neg (by simpa using he)];have hne:¬l[N].name=s:=fun h=>he (qbO.2 h)
   have hs:ltS s l[N].name=true:=by
    rcases Wn s l[N].name with h|h|h
    ·exact h
    ·exact absurd h.symm hne
    ·rw[h2 _ List.mem_cons_self] at h;cases h
   rw[List.filter_eq_self.2];intro c hc;rcases List.mem_cons.1 hc with rfl|hc
   ·exact hs
   ·exact yb hs (hud'.1 c hc)
 ·rw[List.getElem?_eq_none (by omega),List.drop_eq_nil_of_le (by omega)];rfl
theorem ZD(l:List GCall)(p:List UInt8->Bool)(t:List UInt8):kF (l.filter fun c=>p c.name) t=if p t=true then kF l t else none:=by
 unfold kF;rw[List.find?_filter];cases h:p t with
 | true =>
  rw[if_pos rfl]
  congr 1;funext c
  by_cases e:c.name=t
  ·simp[e,h]
  ·simp[e]
 | false =>
  rw[if_neg (by decide),List.find?_eq_none];intro c _
  by_cases e:c.name=t
  ·simp[e,h]
  ·simp[e]
theorem qed(l:List GCall)(s t:List UInt8):kF (l.filter fun c=>!decide (c.name=s)) t=if t=s then none else kF l t:=by
 rw[ZD l (fun n=>!decide (n=s)) t]
 by_cases h:t=s<;>simp[h]
theorem qga(l m:List GCall)(t:List UInt8):kF (l++m) t=(kF l t).or (kF m t):=by
 unfold kF;rw[List.find?_append]
theorem qgb{l:List GCall}(hu:Up l)(s:List UInt8)(n:Int)(t:List UInt8):kF (Wq l s n) t=if t=s then some ⟨s,n⟩ else kF l t:=by
 rw[qaq hu,qga,ZD l (fun x=>ltS x s)]
 have e:kF (⟨s,n⟩::l.filter fun c=>ltS s c.name) t=if s=t then some ⟨s,n⟩ else kF (l.filter fun c=>ltS s c.name) t:=by
  unfold kF;rw[List.find?_cons]
  by_cases h:s=t<;>simp[h]
 rw[e,ZD l (fun x=>ltS s x)]
 rcases Wn t s with h|h|h
 ·rw[h,y9 h,if_pos rfl,if_neg (Ne.symm (JL h)),if_neg (by decide),if_neg (JL h),Option.or_none]
 ·rw[h,ZL,if_neg (by decide),if_pos rfl,if_pos rfl];rfl
 ·rw[h,y9 h,if_neg (by decide),if_neg (JL h),if_pos rfl,if_neg (Ne.symm (JL h))];rfl
theorem X9{l:List GCall}(hu:Up l)(p:GCall->Bool):Up (l.filter p):=List.Pairwise.sublist List.filter_sublist hu
theorem qpS{l:List GCall}(hu:Up l)(s:List UInt8)(n:Int):Up (Wq l s n):=by
 rw[qaq hu];refine List.pairwise_append.2 ⟨X9 hu _,List.pairwise_cons.2 ⟨fun c hc=>(List.mem_filter.1 hc).2,X9 hu _⟩,?_⟩
 intro a ha b hb;have h1:ltS a.name s=true:=(List.mem_filter.1 ha).2;rcases List.mem_cons.1 hb with rfl|hb
 ·exact h1
 ·exact yb h1 (List.mem_filter.1 hb).2
theorem qfa{l:List GCall}(hu:Up l){s:List UInt8}{n:Int}{c:GCall}(h:c ∈ Wq l s n):c=⟨s,n⟩∨c ∈ l:=by
 rw[qaq hu] at h;rcases List.mem_append.1 h with h|h
 ·exact .inr (List.mem_filter.1 h).1
 ·rcases List.mem_cons.1 h with h|h
  ·exact .inl h
  ·exact .inr (List.mem_filter.1 h).1
end Go.Kc
end
section
/- What fold.Step makes of a list that may be: it may be again. No condition. -/
namespace Go.Kc
theorem qav:∀(l cur:List UInt8) (w:List UInt8),w ∈ wB l cur->w.length<=l.length+cur.length
 | [],cur,w,h=>by
  unfold wB at h;split at h
  ·cases h
  ·obtain rfl:=List.mem_singleton.1 h;simp
 | c::cs,cur,w,h=>by
  unfold wB at h;split at h
  ·split at h
   ·have:=qav cs [] w h;simp at this ⊢;omega
   ·rcases List.mem_cons.1 h with rfl|h
    ·simp
    ·have:=qav cs [] w h;simp at this ⊢;omega
  ·have:=qav cs _ w h;simp at this ⊢;omega
theorem qbx{l w:List UInt8}(h:w ∈ qh l):w.length<=l.length:=by
 rw[qbw] at h;simpa using qav l [] w h
theorem X4{α:Type} [DecidableEq α]:∀{l t:List α},l.Nodup->(∀x ∈ l,x ∈ t)->l.length<=t.length
 | [],_,_,_=>Nat.zero_le _
 | x::l,t,hn,hs=>by
  have hn':=List.nodup_cons.1 hn;have hx:=hs x List.mem_cons_self;have h1:=X4 (t:=t.erase x) hn'.2 (fun y hy=>(List.mem_erase_of_ne (fun (e:y=x)=>hn'.1 (by rw[← e];exact hy))).2 (hs y (List.mem_cons_of_mem _ hy)))
  have h2:=List.length_erase_of_mem hx;have h3:0<t.length:=List.length_pos_of_mem hx;simp only[List.length_cons];omega
theorem qa2{s:List UInt8}(h:zG s=true):s ∈ zE.map (·.1):=by
 unfold zG at h;obtain⟨x,hx⟩:=Option.isSome_iff_exists.1 h;have h1:=List.mem_of_find?_eq_some hx;have h2:=List.find?_some hx;exact List.mem_map.2 ⟨x,h1,of_decide_eq_true h2⟩
theorem QH{l:GList}(h:zp l=true):l.calls.length<=40:=by
 obtain⟨_,h1,h2⟩:=(xC l).1 h
 have:=X4 (l:=l.calls.map (·.name)) (t:=zE.map (·.1)) (List.pairwise_map.2 (List.Pairwise.imp (R:=fun a b:GCall=>ltS a.name b.name=true) (fun hab=>JL hab) h2)) (by
  intro x hx;obtain⟨c,hc,rfl⟩:=List.mem_map.1 hx;have:=h1 c hc;simp only[okC,Bool.and_eq_true] at this;exact qa2 this.1)
 have e:(zE.map (·.1)).length=40:=by rw[List.length_map];rfl
 rw[List.length_map] at this;omega
theorem qfi{l:GList}(h:zp l=true)(hm:l.mode≠0){n:List UInt8}{a:Int}(hk:zG n=true)(ha:kR a=true):zp (Q0 l n a)=true:=by
 obtain⟨h0,h1,h2⟩:=(xC l).1 h;have e:Q0 l n a=⟨l.mode,Wq l.calls n a⟩:=if_pos h;rw[e,xC];refine⟨⟨h0.1,.inl hm⟩,?_,qpS h2 _ _⟩;intro c hc;rcases qfa h2 hc with rfl|hc
 ·simp[okC,hk,ha]
 ·exact h1 c hc
theorem qdS{l:GList}(h:zp l=true)(n:List UInt8):zp (yR l n)=true:=by
 obtain⟨h0,h1,h2⟩:=(xC l).1 h;have e:yR l n=⟨l.mode,l.calls.filter fun c=>!decide (c.name=n)⟩:=if_pos h
 rw[e,xC];refine⟨⟨h0.1,h0.2.imp id (fun hh=>by rw[hh];rfl)⟩,fun c hc=>h1 c (List.mem_filter.1 hc).1,X9 h2 _⟩
theorem qgS{l:GList}(h:zp l=true)(hm:l.mode≠0){ins:Bool}{a:Int}{n:List UInt8}(hk:zG n=true)(ha:kR a=true):zp (zw ins a l n)=true:=by
 unfold zw;split
 ·exact qfi h hm hk ha
 ·exact qdS h n
theorem y6{ins:Bool}{a:Int}(ha:kR a=true):∀{ns:List (List UInt8)} {l:GList},zp l=true->l.mode≠0->(∀n ∈ ns,zG n=true)->zp (ns.foldl (zw ins a) l)=true
 | [],_,h,_,_=>h
 | n::ns,l,h,hm,hk=>by
  rw[List.foldl_cons];exact y6 ha (qgS h hm (hk n List.mem_cons_self) ha) (by rw[qbo];exact hm) (fun x hx=>hk x (List.mem_cons_of_mem _ hx))
theorem xK(w:List UInt8):kR (qo w).1.act=true:=by
 have h:=kU (xT w).2.1;unfold qo
 repeat' split
 all_goals (simp[kR];try omega)
def wQ(E:List UInt8->List (List UInt8)×Int):Prop:=∀s,(∀n ∈ (E s).1,zG n=true)∧(E s).1.length<=100
theorem qan{E:List UInt8->List (List UInt8)×Int}(hE:wQ E):wQ (zO E):=by
 intro s;unfold zO;split
 ·exact hE s
 ·split
  ·rename_i h;simp[h]
  ·simp
theorem qgU{E:List UInt8->List (List UInt8)×Int}(hE:wQ E)(fl t:Bool){s:GList×List GNote}(h:zp s.1=true)(hm:s.1.mode≠0)(w:List UInt8) :
  zp (qS E fl t s w).1=true∧(qS E fl t s w).1.mode=s.1.mode∧(qS E fl t s w).2.length<=s.2.length+1:=by
 have hk:=(qan hE (qo w).1.name).1;unfold qS;split
 ·exact⟨h,rfl,by simp⟩
 split
 ·exact⟨h,rfl,by simp⟩
 split
 ·exact⟨y6 (xK w) h hm hk,ZG _ _ _ _,by simp⟩
 split
 ·exact⟨y6 (by rfl) h hm hk,ZG _ _ _ _,by simp⟩
 ·exact⟨y6 (xK w) h hm hk,ZG _ _ _ _,by simp⟩
theorem JY{E:List UInt8->List (List UInt8)×Int}(hE:wQ E)(fl t:Bool):∀(ws:List (List UInt8)) (s:GList×List GNote),zp s.1=true->s.1.mode≠0->
  zp (ws.foldl (qS E fl t) s).1=true∧(ws.foldl (qS E fl t) s).1.mode=s.1.mode∧(ws.foldl (qS E fl t) s).2.length<=s.2.length+ws.length
 | [],s,h,_=>⟨h,rfl,Nat.le_refl _⟩
 | w::ws,s,h,hm=>by
  obtain⟨h1,h2,h3⟩:=qgU hE fl t h hm w;obtain⟨h4,h5,h6⟩:=JY hE fl t ws (qS E fl t s w) h1 (by rw[h2];exact hm);rw[List.foldl_cons];exact⟨h4,by rw[h5,h2],by simp only[List.length_cons];omega⟩
end Go.Kc
end
section
/- The table of groups; what groups.Expand answers of a name that is none of them. Condition: the functions' texts are these. -/
namespace Go.Kc
variable {P:Program} {f:Nat}
def zj:List (List UInt8×List (List UInt8)):=[([64,98,97,115,105,99,45,105,111],[[114,101,97,100],[119,114,105,116,101],[99,108,111,115,101]]),([64,99,108,111,99,107],[[99,108,111,99,107,95,115,101,116,116,105,109,101],[115,101,116,116,105,109,101,111,102,100,97,121]]),([64,100,101,98,117,103],[[112,116,114,97,99,101],[112,101,114,115,111,110,97,108,105,116,121]]),([64,102,105,108,101],[[64,98,97,115,105,99,45,105,111],[111,112,101,110],[111,112,101,110,97,116],[105,111,99,116,108]]),([64,109,101,109,111,114,121],[[98,114,107],[109,109,97,112],[109,112,114,111,116,101,99,116],[109,117,110,109,97,112],[112,107,101,121,95,109,112,114,111,116,101,99,116],[115,104,109,97,116]]),([64,109,111,100,117,108,101],[[100,101,108,101,116,101,95,109,111,100,117,108,101],[102,105,110,105,116,95,109,111,100,117,108,101],[105,110,105,116,95,109,111,100,117,108,101]]),([64,109,111,117,110,116],[[109,111,117,110,116],[117,109,111,117,110,116,50]]),([64,110,101,115,116],[[64,110,101,115,116,45,50],[107,105,108,108]]),([64,110,101,115,116,45,50],[[64,110,101,115,116,45,51],[103,101,116,117,105,100]]),([64,110,101,115,116,45,51],[[64,110,101,115,116,45,52],[115,101,116,117,105,100]]),([64,110,101,115,116,45,52],[[64,110,101,115,116,45,53],[101,120,105,116]]),([64,110,101,115,116,45,53],[[114,101,97,100]]),([64,110,101,116,119,111,114,107],[[98,105,110,100],[99,111,110,110,101,99,116],[108,105,115,116,101,110],[115,111,99,107,101,116]]),([64,112,114,105,118,105,108,101,103,101,100],[[64,99,108,111,99,107],[64,109,111,100,117,108,101],[64,109,111,117,110,116],[64,114,101,98,111,111,116],[98,112,102],[115,101,116,117,105,100]]),([64,112,114,111,99,101,115,115],[[99,108,111,110,101],[99,108,111,110,101,51],[101,120,101,99,118,101],[101,120,105,116],[102,111,114,107],[107,105,108,108],[115,101,116,110,115],[117,110,115,104,97,114,101]]),([64,114,101,98,111,111,116],[[114,101,98,111,111,116]]),([64,114,101,115,111,117,114,99,101,115],[[115,99,104,101,100,95,115,101,116,97,116,116,114],[115,99,104,101,100,95,115,101,116,115,99,104,101,100,117,108,101,114]]),([64,115,121,115,116,101,109],[[64,102,105,108,101],[64,109,101,109,111,114,121],[64,110,101,116,119,111,114,107],[64,112,114,111,99,101,115,115],[103,101,116,117,105,100]])]
def yh:List (List UInt8×List (List UInt8)×Int):=[([64,98,97,115,105,99,45,105,111],[[99,108,111,115,101],[114,101,97,100],[119,114,105,116,101]],0),([64,99,108,111,99,107],[[99,108,111,99,107,95,115,101,116,116,105,109,101],[115,101,116,116,105,109,101,111,102,100,97,121]],0),([64,100,101,98,117,103],[[112,101,114,115,111,110,97,108,105,116,121],[112,116,114,97,99,101]],0),([64,102,105,108,101],[[99,108,111,115,101],[105,111,99,116,108],[111,112,101,110],[111,112,101,110,97,116],[114,101,97,100],[119,114,105,116,101]],0),([64,109,101,109,111,114,121],[[98,114,107],[109,109,97,112],[109,112,114,111,116,101,99,116],[109,117,110,109,97,112],[112,107,101,121,95,109,112,114,111,116,101,99,116],[115,104,109,97,116]],0),([64,109,111,100,117,108,101],[[100,101,108,101,116,101,95,109,111,100,117,108,101],[102,105,110,105,116,95,109,111,100,117,108,101],[105,110,105,116,95,109,111,100,117,108,101]],0),([64,109,111,117,110,116],[[109,111,117,110,116],[117,109,111,117,110,116,50]],0),([64,110,101,115,116],[],111),([64,110,101,115,116,45,50],[[101,120,105,116],[103,101,116,117,105,100],[114,101,97,100],[115,101,116,117,105,100]],0),([64,110,101,115,116,45,51],[[101,120,105,116],[114,101,97,100],[115,101,116,117,105,100]],0),([64,110,101,115,116,45,52],[[101,120,105,116],[114,101,97,100]],0),([64,110,101,115,116,45,53],[[114,101,97,100]],0),([64,110,101,116,119,111,114,107],[[98,105,110,100],[99,111,110,110,101,99,116],[108,105,115,116,101,110],[115,111,99,107,101,116]],0),([64,112,114,105,118,105,108,101,103,101,100],[[98,112,102],[99,108,111,99,107,95,115,101,116,116,105,109,101],[100,101,108,101,116,101,95,109,111,100,117,108,101],[102,105,110,105,116,95,109,111,100,117,108,101],[105,110,105,116,95,109,111,100,117,108,101],[109,111,117,110,116],[114,101,98,111,111,116],[115,101,116,116,105,109,101,111,102,100,97,121],[115,101,116,117,105,100],[117,109,111,117,110,116,50]],0),([64,112,114,111,99,101,115,115],[[99,108,111,110,101],[99,108,111,110,101,51],[101,120,101,99,118,101],[101,120,105,116],[102,111,114,107],[107,105,108,108],[115,101,116,110,115],[117,110,115,104,97,114,101]],0),([64,114,101,98,111,111,116],[[114,101,98,111,111,116]],0),([64,114,101,115,111,117,114,99,101,115],[[115,99,104,101,100,95,115,101,116,97,116,116,114],[115,99,104,101,100,95,115,101,116,115,99,104,101,100,117,108,101,114]],0),([64,115,121,115,116,101,109],[[98,105,110,100],[98,114,107],[99,108,111,110,101],[99,108,111,110,101,51],[99,108,111,115,101],[99,111,110,110,101,99,116],[101,120,101,99,118,101],[101,120,105,116],[102,111,114,107],[103,101,116,117,105,100],[105,111,99,116,108],[107,105,108,108],[108,105,115,116,101,110],[109,109,97,112],[109,112,114,111,116,101,99,116],[109,117,110,109,97,112],[111,112,101,110],[111,112,101,110,97,116],[112,107,101,121,95,109,112,114,111,116,101,99,116],[114,101,97,100],[115,101,116,110,115],[115,104,109,97,116],[115,111,99,107,101,116],[117,110,115,104,97,114,101],[119,114,105,116,101]],0)]
def qf5(s:List UInt8):List (List UInt8)×Int:=match yh.find? (fun r=>decide (r.1=s)) with|some r=>r.2|none=>([],110)
theorem qbP:yh.map (·.1)=zj.map (·.1):=rfl
theorem qsx:wQ qf5:=by
 intro s;unfold qf5;cases hf:yh.find? (fun r=>decide (r.1=s)) with
 | none=>simp
 | some r =>
  have hr:=List.mem_of_find?_eq_some hf;have h1:yh.all (fun r=>r.2.1.all zG&&decide (r.2.1.length<=100))=true:=by decide +kernel
  have h2:=List.all_eq_true.1 h1 r hr;simp only[Bool.and_eq_true,decide_eq_true_eq,List.all_eq_true] at h2;exact h2
def Wx(g:List UInt8×List (List UInt8)):List AV:=[.s g.1,.fz g.2.length (rS g.2)]
theorem qdG(g:List UInt8×List (List UInt8)):(Wx g).length=2:=rfl
def qaf(P:Program)(f:Nat):Prop:=qd P f [] (.fz 18 (zj.flatMap Wx))

def ke(a:Nat):IFn:=⟨[.tmp 2],.seq (.r [.m 2 .N]) (.seq (.seq (.r [.l 5 a [],.e 6 5,.m 7 (.k 0)]) (.blk 0 (.loop (.seq (.r [.s 8 7 6]) (.seq (.cond (.t 8) (.skip) (.exit 0)) (.seq (.blk 1 (.seq (.r [.i 9 2 5 7,.v 10 2 9,.q 4 (.alloc [.s [],.nils]),.u (.store 2 (.t 4) (.t 10))]) (.seq (.r [.f 11 0 4,.d 12 11,.n 13 0,.b 14 .eql 12 13]) (.cond (.t 14) (.seq (.r [.f 15 1 4,.d 16 15,.n 2 16]) (.ret)) (.skip))))) (.r [.a 17 7 1,.n 7 17]))))))) (.seq (.r [.m 2 .N]) (.ret)))⟩
theorem qcD{g1:Nat}(hc:qk P f (ke g1)=true)(h1:qaf P g1)(s:List UInt8)(hs:∀r ∈ zj,r.1≠s):qd P f [.s s] .nils:=by
 refine qd.mk hc rfl ?_;simp only[ke,vI,simprocAttr];simp only[↓vS,vT,simprocAttr];refine h1.sc ?_;have hlen:(zj.flatMap Wx).length=36:=by decide
 have hcl:qx (zj.flatMap Wx)=true:=kT fun _=>rfl
 have h18:zj.length=18:=by decide
 have hget:∀j (h:j<18),∃r ∈ zj,((zj.flatMap Wx).drop (j*2)).take 2=Wx r:=by
  intro j h;have hx:zj[j]?=some (zj[j]'(by omega)):=List.getElem?_eq_getElem (by omega);exact⟨_,List.getElem_mem _,xJ (f:=Wx) (m:=2) qdG hx⟩
 generalize hT:zj.flatMap Wx=T at hlen hcl hget;simp only[↓vS,vT,simprocAttr];refine SL.loop (α:=Nat) (fun j=>[(0,.s s),(2,.nils),(5,.fz 18 T),(6,.i .i64 18),(7,.i .i64 j)]) (fun _=>[]) (fun j=>j<=18) (fun j=>18-j) 0 [] ?_ ?_ ?_ rfl ?_ ?_
 ·simp[vw,hcl]
 ·trivial
 ·simp
 ·exact Nat.zero_le _
 rintro j hj G ih;simp only[vI,simprocAttr]
 by_cases hlt:j<18
 ·have hw:IntKind.wrap .i64 ((j:Int)+1)=((j+1:Nat):Int):=by rw[qq (by omega) (by omega)];omega
  have hlt':(j:Int)<18:=by omega
  have hb:j*2+2<=36:=by omega
  obtain⟨r,hr,he⟩:=hget j hlt;have hne:¬r.1=s:=hs r hr;simp only[↓vS,vT,simprocAttr,hlt,hlt',hb,he,hlen,Wx];simp only[↓vS,vT,simprocAttr,hne,hw];refine ih (j+1) (by omega) (by omega) _ _ (Wk.mk _ _ [] ?_ ?_ ?_ rfl)
  ·simp[vw,hcl]
  ·trivial
  ·simp
 ·have hlt':¬(j:Int)<18:=by omega
  simp only[↓vS,vT,simprocAttr,hlt'];simp[vZ]
def yC(a:Nat):IFn:=⟨[.tmp 2],.seq (.r [.m 2 .F]) (.seq (.r [.n 3 0,.l 4 a [.t 3],.q 5 (.eqN true .slice (.t 4)),.n 2 5]) (.ret))⟩
theorem qdl{g1:Nat}(hc:qk P f (yC g1)=true)(s:List UInt8)(h1:qd P g1 [.s s] .nils):qd P f [.s s] (.b false):=by
 refine qd.mk hc rfl ?_;simp only[yC,vI,simprocAttr];simp only[↓vS,vT,simprocAttr];refine h1.sc ?_;simp only[↓vS,vT,simprocAttr];simp[vZ]
def k9(a b c d e:Nat):IFn:=⟨[.tmp 2,.tmp 3],.seq (.r [.m 2 .N,.m 3 (.k 0)]) (.seq (.blk 0 (.seq (.r [.n 7 0,.l 8 a [.t 7],.q 9 (.un .not (.t 8)),.n 6 9]) (.cond (.t 6) (.seq (.r [.m 2 .N,.m 3 (.k 110)]) (.ret)) (.seq (.r [.n 11 0,.l 12 b [.t 11],.w 13 .gtr 12 4,.n 10 13]) (.cond (.t 10) (.seq (.r [.m 2 .N,.m 3 (.k 111)]) (.ret)) (.skip)))))) (.seq (.r [.q 4 (.alloc [.nils])]) (.seq (.r [.q 5 (.alloc [.nilf])]) (.seq (.r [.q 14 (.mkF c [] [.t 5,.t 4]),.u (.store 1 (.t 5) (.t 14))]) (.seq (.r [.d 15 5,.n 16 0,⟨(some 17),.callV (.t 15) [.t 16],none⟩]) (.seq (.r [.d 18 4,.l 19 d [.t 18]]) (.seq (.r [.d 20 4,.l 21 e [.t 20],.n 2 21,.m 3 (.k 0)]) (.ret))))))))⟩
theorem qdb{g1 g2 g3 g4 g5:Nat}(hc:qk P f (k9 g1 g2 g3 g4 g5)=true)(s:List UInt8)(h1:qd P g1 [.s s] (.b false)):qd P f [.s s] (.tup [.fz 0 [],.i .i64 110]):=by
 refine qd.mk hc rfl ?_;simp only[k9,vI,simprocAttr];simp only[↓vS,vT,simprocAttr];refine h1.sc ?_;simp only[↓vS,vT,simprocAttr];simp[vZ]
theorem qn8{g1 g2 g3 g4 g5 k1 k2:Nat}(hc:qk P f (k9 g1 g2 g3 g4 g5)=true)(hk:qk P g1 (yC k1)=true)(hm:qk P k1 (ke k2)=true)(ht:qaf P k2)
  (hrun:∀r ∈ yh,qd P f [.s r.1] (.tup [.fz r.2.1.length (rS r.2.1),.i .i64 r.2.2])):qch qf5 P f:=by
 intro s;unfold qf5;cases hf:yh.find? (fun r=>decide (r.1=s)) with
 | none =>
  refine qdb hc s (qdl hk s (qcD hm ht s ?_));intro r hr he;have h1:r.1 ∈ yh.map (·.1):=by rw[qbP];exact List.mem_map.2 ⟨r,hr,rfl⟩
  obtain⟨x,hx,hxe⟩:=List.mem_map.1 h1;have:=List.find?_eq_none.1 hf x hx;simp[hxe,he] at this
 | some r =>
  have hr:=List.mem_of_find?_eq_some hf;have he:=List.find?_some hf;have he':r.1=s:=of_decide_eq_true he;rw[← he'];exact hrun r hr
end Go.Kc
end
section
/- A list's value as a row of puts and takes; twice is as once. No condition. -/
namespace Go.Kc
variable (E:List UInt8->List (List UInt8)×Int)
noncomputable def Qw(l:GList)(o:List UInt8×Option Int):GList:=match o.2 with|some a=>Q0 l o.1 a|none=>yR l o.1
noncomputable def qdB(fl t:Bool)(mode:Int)(w:List UInt8):List (List UInt8×Option Int) :=
 if (qo w).2≠0 then [] else if (zO E (qo w).1.name).2≠0 then []
 else (zO E (qo w).1.name).1.map fun n=>(n,if (qo w).1.has=true∧fl=true∧t=true then some (qo w).1.act else if mode-1=(if t=true then 1 else 0) then some 0 else none)
noncomputable def JO(fl t:Bool)(w:List UInt8):List GNote :=
 if (qo w).2≠0 then [zt (qo w).2 w] else if (zO E (qo w).1.name).2≠0 then [zt (zO E (qo w).1.name).2 w]
 else if (qo w).1.has=true∧(fl=false∨t=false) then [zt 161 w] else []
theorem qet(w:List UInt8)(h:(qo w).1.has=false):(qo w).1.act=0:=by
 unfold qo at h ⊢;split at h
 ·rename_i h1;rw[if_pos h1]
 ·rename_i h1;rw[if_neg h1];split at h
  ·rename_i h2;rw[if_pos h2]
  ·rename_i h2;rw[if_neg h2];split at h
   ·cases h
   ·rename_i h3;rw[if_neg h3];split at h
    ·cases h
    ·rename_i h4;rw[if_neg h4]
theorem X0(ins:Bool)(a:Int):∀(ns:List (List UInt8)) (l:GList),ns.foldl (zw ins a) l=(ns.map fun n=>(n,if ins=true then some a else none)).foldl Qw l
 | [],_=>rfl
 | n::ns,l=>by
  rw[List.foldl_cons,List.map_cons,List.foldl_cons,X0 ins a ns]
  congr 1
  cases ins<;>rfl
theorem qgV(fl t:Bool)(s:GList×List GNote)(w:List UInt8):qS E fl t s w=((qdB E fl t s.1.mode w).foldl Qw s.1,s.2++JO E fl t w):=by
 unfold qS qdB JO
 by_cases h1:(qo w).2≠0
 ·simp only[if_pos h1,List.foldl_nil]
 simp only[if_neg h1]
 by_cases h2:(zO E (qo w).1.name).2≠0
 ·simp only[if_pos h2,List.foldl_nil]
 simp only[if_neg h2];cases h3:(qo w).1.has with
 | false =>
  have ha:=qet w h3;simp only[if_true,X0,ha,decide_eq_true_eq,Bool.false_eq_true,false_and,if_false,List.append_nil]
 | true =>
  simp only[Bool.true_eq_false,if_false,true_and]
  by_cases h4:fl=false∨t=false
  ·have h5:¬(fl=true∧t=true):=by intro h;rcases h4 with h4|h4<;>simp[h4] at h
   simp only[if_pos h4,if_neg h5,X0,decide_eq_true_eq]
  ·have h5:fl=true∧t=true:=by cases fl<;>cases t<;>simp_all
   simp only[if_neg h4,if_pos h5,X0,if_true,List.append_nil]
theorem JH:∀(os:List (List UInt8×Option Int)) (l:GList),(os.foldl Qw l).mode=l.mode
 | [],_=>rfl
 | o::os,l=>by
  rw[List.foldl_cons,JH os];unfold Qw;split
  ·exact WZ _ _ _
  ·exact J1 _ _
theorem JZ(fl t:Bool):∀(ws:List (List UInt8)) (s:GList×List GNote),ws.foldl (qS E fl t) s=((ws.flatMap (qdB E fl t s.1.mode)).foldl Qw s.1,s.2++ws.flatMap (JO E fl t))
 | [],s=>by simp
 | w::ws,s=>by
  rw[List.foldl_cons,qgV,JZ fl t ws];simp only[JH,List.flatMap_cons,List.foldl_append,List.append_assoc]
def okO(o:List UInt8×Option Int):Prop:=zG o.1=true∧∀a,o.2=some a->kR a=true
theorem qfe{E:List UInt8->List (List UInt8)×Int}(hE:wQ E)(fl t:Bool)(mode:Int)(w:List UInt8):∀o ∈ qdB E fl t mode w,okO o:=by
 intro o ho;unfold qdB at ho;split at ho
 ·cases ho
 split at ho
 ·cases ho
 obtain⟨n,hn,rfl⟩:=List.mem_map.1 ho;refine⟨(qan hE _).1 n hn,?_⟩;intro a ha;dsimp only at ha
 by_cases h1:(qo w).1.has=true∧fl=true∧t=true
 ·rw[if_pos h1] at ha;cases ha;exact xK w
 ·rw[if_neg h1] at ha
  by_cases h2:mode-1=(if t=true then 1 else 0)
  ·rw[if_pos h2] at ha;cases ha;rfl
  ·rw[if_neg h2] at ha;cases ha
theorem qce{l:GList}(h:zp l=true)(hm:l.mode≠0){o:List UInt8×Option Int}(ho:okO o):zp (Qw l o)=true∧(Qw l o).mode=l.mode∧∀t,kF (Qw l o).calls t=if t=o.1 then o.2.map (fun a=>⟨t,a⟩) else kF l.calls t:=by
 obtain⟨n,a⟩:=o;have hu:=((xC l).1 h).2.2;cases a with
 | some a =>
  refine⟨qfi h hm ho.1 (ho.2 a rfl),WZ _ _ _,fun t=>?_⟩
  have e:Qw l (n,some a)=⟨l.mode,Wq l.calls n a⟩:=if_pos h;rw[e];dsimp only;rw[qgb hu]
  by_cases ht:t=n<;>simp[ht]
 | none =>
  refine⟨qdS h _,J1 _ _,fun t=>?_⟩
  have e:Qw l (n,none)=⟨l.mode,l.calls.filter fun c=>!decide (c.name=n)⟩:=if_pos h
  rw[e];dsimp only;rw[qed]
  by_cases ht:t=n<;>simp[ht]
def qdx:List (List UInt8×Option Int)->List UInt8->Option (Option Int)
 | [],_=>none
 | o::os,t=>(qdx os t).or (if t=o.1 then some o.2 else none)
theorem qei(o:List UInt8×Option Int)(os:List (List UInt8×Option Int))(t:List UInt8):qdx (o::os) t=(qdx os t).or (if t=o.1 then some o.2 else none):=rfl
theorem qbT:∀{os:List (List UInt8×Option Int)} {l:GList},zp l=true->l.mode≠0->(∀o ∈ os,okO o)->
  zp (os.foldl Qw l)=true∧∀t,kF (os.foldl Qw l).calls t=match qdx os t with|some a=>a.map (fun a=>⟨t,a⟩)|none=>kF l.calls t
 | [],l,h,_,_=>⟨h,fun _=>rfl⟩
 | o::os,l,h,hm,ho=>by
  obtain⟨h1,h2,h3⟩:=qce h hm (ho o List.mem_cons_self);obtain⟨h4,h5⟩:=qbT (os:=os) h1 (by rw[h2];exact hm) (fun x hx=>ho x (List.mem_cons_of_mem _ hx))
  refine⟨h4,fun t=>?_⟩
  rw[List.foldl_cons,h5 t];rw[qei];cases qdx os t with
  | some a=>rfl
  | none =>
   dsimp only;rw[h3 t]
   by_cases ht:t=o.1
   ·rw[if_pos ht,if_pos ht];rfl
   ·rw[if_neg ht,if_neg ht];rfl
def yQ(m:Int)(t:Bool):Int:=if m=0 then (if t=true then 2 else 1) else m
theorem X3(m:Int)(t:Bool):yQ m t≠0:=by
 unfold yQ
 by_cases h:m=0
 ·cases t<;>simp[h]
 ·simp[h]
variable {E}
theorem qa7{l:GList}(h:zp l=true)(t:Bool):zp ⟨yQ l.mode t,l.calls⟩=true:=by
 obtain⟨h1,h2⟩:=(xC l).1 h;refine (xC _).2 ⟨⟨?_,.inl (X3 _ _)⟩,h2⟩;unfold yQ;dsimp only;split
 ·split<;>omega
 ·exact h1.1
theorem qbm{l:GList}{v:List UInt8}{fl:Bool}(h:zp l=true)(hw:qh v≠[]):zm E l v fl =
  (((qh (qE v).1).flatMap (qdB E fl (qE v).2 (yQ l.mode (qE v).2))).foldl Qw ⟨yQ l.mode (qE v).2,l.calls⟩,(qh (qE v).1).flatMap (JO E fl (qE v).2)):=by
 unfold zm;rw[if_neg (by simp[h]),if_neg hw,JZ];rfl
theorem qcd(hE:wQ E){l:GList}(h:zp l=true)(v:List UInt8)(fl:Bool):zp (zm E l v fl).1=true:=by
 by_cases hw:qh v=[]
 ·unfold zm;rw[if_neg (by simp[h]),if_pos hw];rfl
 ·rw[qbm h hw];refine (qbT (qa7 h _) (X3 _ _) ?_).1;intro o ho;obtain⟨w,_,hw⟩:=List.mem_flatMap.1 ho;exact qfe hE _ _ _ w o hw
theorem qeE{l:GList}(h:zp l=true){v:List UInt8}(fl:Bool)(hw:qh v≠[]):(zm E l v fl).1.mode=yQ l.mode (qE v).2:=by
 rw[qbm h hw];exact JH _ _
theorem qbn{l:GList}(h:zp l=true){v:List UInt8}(fl:Bool)(hw:qh v=[]):zm E l v fl=(⟨0,[]⟩,[]):=by
 unfold zm;rw[if_neg (by simp[h]),if_pos hw]
theorem qbS:∀(fl t:Bool) (ws:List (List UInt8)),(ws.flatMap (JO E fl t)).length<=ws.length
 | _,_,[]=>Nat.le_refl _
 | fl,t,w::ws=>by
  have h:=qbS fl t ws
  have h2:(JO E fl t w).length<=1:=by
   unfold JO
   repeat' split
   all_goals simp
  simp only[List.flatMap_cons,List.length_append,List.length_cons];omega
theorem Qa(l:GList)(v:List UInt8)(fl:Bool):(zm E l v fl).2.length<=v.length:=by
 unfold zm;split
 ·simp
 split
 ·simp
 ·rw[JZ];have h1:=qbS (E:=E) fl (qE v).2 (qh (qE v).1);have h2:=zW (qE v).1;have h3:=v5 v;simp only[List.nil_append];omega
end Go.Kc
end
section
/- What fold.Step answers. Condition: the functions' texts are these. -/
namespace Go.Kc
variable {P:Program} {f:Nat}
def kc(a b c d e g h i j k:Nat):ICode:=.r [.a 111 48 1,.n 48 111]
def k8(a b c d e g h i j k:Nat):ICode:=.seq (.r [.n 95 17,.e 96 95,.m 97 (.k 0)]) (.blk 3 (.loop (.seq (.r [.s 98 97 96]) (.seq (.cond (.t 98) (.skip) (.exit 3)) (.seq (.blk 4 (.seq (.r [.i 99 1 95 97,.d 100 99,.n 20 100]) (.seq (.r [.n 101 18]) (.cond (.t 101) (.r [.v 102 2 3,.n 103 20,.f 104 1 15,.d 105 104,.l 106 j [.t 102,.t 103,.t 105],.u (.store 2 (.t 3) (.t 106))]) (.r [.v 107 2 3,.n 108 20,.l 109 k [.t 107,.t 108],.u (.store 2 (.t 3) (.t 109))]))))) (.r [.a 110 97 1,.n 97 110]))))))
def yB(a b c d e g h i j k:Nat):ICode:=.seq (.seq (.r [.n 45 8,.l 46 c [.t 45],.e 47 46,.m 48 (.k 0)]) (.blk 0 (.loop (.seq (.r [.s 49 48 47]) (.seq (.cond (.t 49) (.skip) (.exit 0)) (.seq (.blk 1 (.seq (.r [.i 50 1 46 48,.d 51 50,.q 13 (.alloc [.s []]),.u (.store 1 (.t 13) (.t 51))]) (.seq (.r [.q 52 (.mkF e [] [.t 11,.t 13]),.n 14 52]) (.seq (.r [.d 54 13,.l 55 g [.t 54],.n 53 55,.x 56 53 0,.x 57 53 1,.q 15 (.alloc [.s [],.i .u32 0,.b false]),.u (.store 3 (.t 15) (.t 56)),.n 16 57]) (.seq (.seq (.r [.n 58 16,.w 59 .neq 58 0]) (.cond (.t 59) (.seq (.r [.n 60 14,.n 61 16,⟨(some 62),.callV (.t 60) [.t 61],none⟩]) (.exit 1)) (.skip))) (.seq (.r [.f 64 0 15,.d 65 64,.l 66 h [.t 65],.n 63 66,.x 67 63 0,.x 68 63 1,.n 17 67,.n 16 68]) (.seq (.seq (.r [.n 69 16,.w 70 .neq 69 0]) (.cond (.t 70) (.seq (.r [.n 71 14,.n 72 16,⟨(some 73),.callV (.t 71) [.t 72],none⟩]) (.exit 1)) (.skip))) (.seq (.reg true [.l 74 i [],.f 75 0 3,.d 76 75,.q 77 (.bin .sub (.t 76) (.c (.i .u8 1))),.q 78 (.idxA 2 2 true (.t 74) (.t 77)),.n 79 10,.q 80 (.idxA 2 1 false (.t 78) (.t 79)),.n 18 80]) (.seq (.blk 2 (.seq (.r [.f 82 2 15,.d 83 82,.q 84 (.un .not (.t 83)),.n 81 84]) (.cond (.t 81) (.skip) (.seq (.r [.n 86 2,.q 87 (.un .not (.t 86)),.n 88 87,.z 89 9 88,.g 90 (.un .not (.t 89)) 88 false,.o 91 88 90,.n 85 91]) (.cond (.t 85) (.seq (.r [.n 92 14,⟨(some 93),.callV (.t 92) [.k 161],none⟩]) (.r [.f 94 1 15,.u (.store 1 (.t 94) (.c (.i .u32 0)))])) (.r [.m 18 .T])))))) (.cut (k8 a b c d e g h i j k))))))))))) (.cut (kc a b c d e g h i j k)))))))) (.seq (.reg true [.v 112 2 3,.d 113 11,.u (.storeD 2 (.t 6) (.t 112) [11]),.n 7 113]) (.ret))
def Wj(a b c d e g h i j k:Nat):IFn:=⟨[.cell 6 2 true,.tmp 7],.seq (.r [.q 3 (.box (.t 0)),.q 6 (.alloc [.i .u8 0,.nils]),.m 7 .N]) (.seq (.r [.v 21 2 3,.l 22 a [.t 21],.u (.store 2 (.t 3) (.t 22))]) (.seq (.seq (.r [.v 23 2 3,.l 24 b [.t 23],.q 25 (.un .not (.t 24))]) (.cond (.t 25) (.seq (.r [.v 26 2 3,.u (.store 2 (.t 6) (.t 26)),.m 7 .N]) (.ret)) (.skip))) (.seq (.seq (.r [.n 27 1,.l 28 c [.t 27],.e 29 28,.w 30 .eql 29 0]) (.cond (.t 30) (.seq (.r [.q 31 (.build [.i .u8 0,.nils] []),.u (.store 2 (.t 6) (.t 31)),.m 7 .N]) (.ret)) (.skip))) (.seq (.r [.n 33 1,.l 34 d [.t 33],.n 32 34,.x 35 32 0,.x 36 32 1,.n 8 35,.n 9 36]) (.seq (.r [.m 10 (.k 0)]) (.seq (.seq (.r [.n 37 9]) (.cond (.t 37) (.r [.m 10 (.k 1)]) (.skip))) (.seq (.seq (.r [.f 38 0 3,.d 39 38,.q 40 (.bin .eql (.t 39) (.c (.i .u8 0)))]) (.cond (.t 40) (.r [.n 41 10,.q 42 (.cvInt .u8 (.t 41)),.q 43 (.bin .add (.c (.i .u8 1)) (.t 42)),.f 44 0 3,.u (.store 1 (.t 44) (.t 43))]) (.skip))) (.seq (.r [.q 11 (.alloc [.nils])]) (.cut (yB a b c d e g h i j k))))))))))⟩
def qnJ(P:Program)(f:Nat):Prop:=∀(l:GList) (s:List UInt8) (n:Int),l.calls.length<=100000->qd P f [.agg (qj l),.s s,.i .u32 n] (.agg (qj (Q0 l s n)))
def qhH(P:Program)(f:Nat):Prop:=∀(l:GList) (s:List UInt8),l.calls.length<=100000->qd P f [.agg (qj l),.s s] (.agg (qj (yR l s)))
theorem vc{g1 g2 g3 g4 g5 g6 g7 g8 g9 g10:Nat}(h1:qnJ P g9)(h2:qhH P g10)(fl t ins:Bool)(way:Int)(W N:List (List UInt8))(j:Nat)(l:GList)(wd:Word)(w:List UInt8)(ns:List GNote)(hW:W.length<=1000)(hN:N.length<=1000)
  (hl:zp l=true) (hm:l.mode≠0) (hk:∀n ∈ N,zG n=true) (ha:kR wd.act=true) (Q:X->Tr AV->Hp->Prop)
  (hQ:∀t' h',Wk 0 t' h' (mkT [(2,.b fl),(3,.ptr 0 0),(6,.ptr 1 0),(9,.b t),(10,.i .i64 way),(11,.ptr 2 0),(46,.fz W.length (rS W)),(47,.i .i64 W.length),(48,.i .i64 j)])
   (mkH 0 [.cells 0 true false (qj (N.foldl (zw ins wd.act) l)),.cells 0 true false [.i .u8 0,.nils],.cells 0 true false [.own 3 ns.length],.cells 4 true true (rN ns)])->Q .normal t' h') :
  S P 0 (k8 g1 g2 g3 g4 g5 g6 g7 g8 g9 g10) Q
   (mkT [(2,.b fl),(3,.ptr 0 0),(6,.ptr 1 0),(9,.b t),(10,.i .i64 way),(11,.ptr 2 0),(46,.fz W.length (rS W)),(47,.i .i64 W.length),(48,.i .i64 j),(15,.ptr 4 0),(17,.fz N.length (rS N)),(18,.b ins)])
   (mkH 0 [.cells 0 true false (qj l),.cells 0 true false [.i .u8 0,.nils],.cells 0 true false [.own 3 ns.length],.cells 4 true true (rN ns),.cells 0 true false (qV wd)]):=by
 refine qr ?_;simp only[k8,qj,vI,simprocAttr];simp only[↓vS,vT,Nat.reduceEqDiff,↓reduceIte,Nat.reduceAdd,Nat.reduceMul,Nat.reduceSub,Nat.reduceLeDiff,Nat.reduceLT,Int.reduceLE,Int.reduceLT,Int.reduceEq,Int.reduceToNat]
 refine SL.loop (α:=Nat) (fun k=>[(2,.b fl),(3,.ptr 0 0),(6,.ptr 1 0),(9,.b t),(10,.i .i64 way),(11,.ptr 2 0),(46,.fz W.length (rS W)),(47,.i .i64 W.length),(48,.i .i64 j),(15,.ptr 4 0),(18,.b ins),(95,.fz N.length (rS N)),(96,.i .i64 N.length),(97,.i .i64 k)])
  (fun k=>[.cells 0 true false (qj ((N.take k).foldl (zw ins wd.act) l)),.cells 0 true false [.i .u8 0,.nils],.cells 0 true false [.own 3 ns.length],.cells 4 true true (rN ns),.cells 0 true false (qV wd)])
  (fun k=>k<=N.length) (fun k=>N.length-k) 0 [0,1,2,3,4] ?_ ?_ ?_ rfl ?_ ?_
 ·simp[vw]
 ·simp[vw,qj,qa,qb,qc,qV]
 ·simp
 ·exact Nat.zero_le _
 rintro k hk1 G ih;have hmay:=y6 (ins:=ins) ha hl hm (fun n hn=>hk n (List.mem_of_mem_take (i:=k) hn))
 have hlen:=QH hmay;generalize hr:(N.take k).foldl (zw ins wd.act) l=r at hmay hlen ih ⊢;simp only[vI,simprocAttr]
 by_cases hlt:k<N.length
 ·have hx:(rS N)[k]?=some (.s N[k]):=by rw[yF,List.getElem?_eq_getElem hlt];rfl
  have hw:IntKind.wrap .i64 ((k:Int)+1)=((k+1:Nat):Int):=by rw[qq (by omega) (by omega)];omega
  have hnext:(N.take (k+1)).foldl (zw ins wd.act) l=zw ins wd.act r N[k]:=by
   rw[List.take_add_one,List.getElem?_eq_getElem hlt,List.foldl_append,hr];rfl
  have ih2:=ih (k+1);rw[hnext] at ih2;simp only[qj,qV];cases ins with
  | true =>
   simp only[↓vS,vT,Nat.reduceEqDiff,↓reduceIte,Nat.reduceAdd,Nat.reduceMul,Nat.reduceSub,Nat.reduceLeDiff,Nat.reduceLT,Int.reduceLE,Int.reduceLT,Int.reduceEq,Int.reduceToNat,hlt,hx,Nat.mul_one];refine (h1 r N[k] wd.act (by omega)).sc ?_;simp only[↓vS,vT,Nat.reduceEqDiff,↓reduceIte,Nat.reduceAdd,Nat.reduceMul,Nat.reduceSub,Nat.reduceLeDiff,Nat.reduceLT,Int.reduceLE,Int.reduceLT,Int.reduceEq,Int.reduceToNat,hw,qj];refine ih2 (by omega) (by omega) _ _ (Wk.mk _ _ [0,1,2,3,4] ?_ ?_ ?_ rfl)
   ·simp[vw]
   ·simp[vw,qj,qa,qb,qc,qV,zw]
   ·simp
  | false =>
   simp only[↓vS,vT,Nat.reduceEqDiff,↓reduceIte,Nat.reduceAdd,Nat.reduceMul,Nat.reduceSub,Nat.reduceLeDiff,Nat.reduceLT,Int.reduceLE,Int.reduceLT,Int.reduceEq,Int.reduceToNat,hlt,hx,Nat.mul_one];refine (h2 r N[k] (by omega)).sc ?_;simp only[↓vS,vT,Nat.reduceEqDiff,↓reduceIte,Nat.reduceAdd,Nat.reduceMul,Nat.reduceSub,Nat.reduceLeDiff,Nat.reduceLT,Int.reduceLE,Int.reduceLT,Int.reduceEq,Int.reduceToNat,hw,qj];refine ih2 (by omega) (by omega) _ _ (Wk.mk _ _ [0,1,2,3,4] ?_ ?_ ?_ rfl)
   ·simp[vw]
   ·simp[vw,qj,qa,qb,qc,qV,zw]
   ·simp
 ·have hkl:N.take k=N:=List.take_of_length_le (by omega);rw[hkl] at hr;rw[hr] at hQ;simp only[↓vS,vT,Nat.reduceEqDiff,↓reduceIte,Nat.reduceAdd,Nat.reduceMul,Nat.reduceSub,Nat.reduceLeDiff,Nat.reduceLT,Int.reduceLE,Int.reduceLT,Int.reduceEq,Int.reduceToNat,hlt];refine hQ _ _ (Wk.mk _ _ [0,1,2,3] ?_ ?_ ?_ rfl)
  ·simp[vw]
  ·simp[vw,qj,qa,qb,qc]
  ·simp
def qhF(P:Program)(f:Nat):Prop:=∀(ns:List GNote) (e:Int) (w:List UInt8),(ns.length+1)*48<=qf->
  Upd P f [.i .i64 e,.ptr 0 0,.ptr 1 0] [.cells 0 true false [.own 2 ns.length],.cells 0 true false [.s w],.cells 4 true true (rN ns)] (.tup []) [.cells 0 true false [.own 3 (ns++[zt e w]).length],.cells 0 true false [.s w],.dead,.cells 4 true true (rN (ns++[zt e w]))]
def qc4(P:Program)(f:Nat):Prop:=∀a:List UInt8,a.length<=1000000->qd P f [.s a] (.tup [.agg (qV (qo a).1),.i .i64 (qo a).2])
def qrc(P:Program)(f:Nat):Prop:=qd P f [] (.agg [.b true,.b false,.b false,.b true])
def wH(t:Bool):Int:=if t=true then 1 else 0
theorem wk{g1 g2 g3 g4 g5 g6 g7 g8 g9 g10:Nat}(fl t:Bool)(way:Int)(W:List (List UInt8))(j:Nat)(hj:j<100000)(l:GList)(ns:List GNote)(Q:X->Tr AV->Hp->Prop)
  (hQ:∀t' h',Wk 0 t' h' (mkT [(2,.b fl),(3,.ptr 0 0),(6,.ptr 1 0),(9,.b t),(10,.i .i64 way),(11,.ptr 2 0),(46,.fz W.length (rS W)),(47,.i .i64 W.length),(48,.i .i64 (j+1:Nat))])
   (mkH 0 [.cells 0 true false (qj l),.cells 0 true false [.i .u8 0,.nils],.cells 0 true false [.own 3 ns.length],.cells 4 true true (rN ns)])->Q .normal t' h') :
  S P 0 (kc g1 g2 g3 g4 g5 g6 g7 g8 g9 g10) Q
   (mkT [(2,.b fl),(3,.ptr 0 0),(6,.ptr 1 0),(9,.b t),(10,.i .i64 way),(11,.ptr 2 0),(46,.fz W.length (rS W)),(47,.i .i64 W.length),(48,.i .i64 j)])
   (mkH 0 [.cells 0 true false (qj l),.cells 0 true false [.i .u8 0,.nils],.cells 0 true false [.own 3 ns.length],.cells 4 true true (rN ns)]):=by
 have hw:IntKind.wrap .i64 ((j:Int)+1)=((j+1:Nat):Int):=by rw[qq (by omega) (by omega)];omega
 refine qr ?_;simp only[kc,qj,vI,simprocAttr];simp only[↓vS,vT,Nat.reduceEqDiff,↓reduceIte,Nat.reduceAdd,Nat.reduceMul,Nat.reduceSub,Nat.reduceLeDiff,Nat.reduceLT,Int.reduceLE,Int.reduceLT,Int.reduceEq,Int.reduceToNat,hw];refine hQ _ _ (Wk.mk _ _ [0,1,2,3] ?_ ?_ ?_ rfl)
 ·simp[vw]
 ·simp[vw,qj,qa,qb,qc]
 ·simp
set_option maxHeartbeats 2000000 in
theorem qau{g1 g2 g3 g4 g5 g6 g7 g8 g9 g10:Nat}{E:List UInt8->List (List UInt8)×Int}(hE:wQ E)(h3:Xi P g3)(h5:qhF P g5)(h6:qc4 P g6)(h7:qch (zO E) P g7)(h8:qrc P g8)(h9:qnJ P g9)(h10:qhH P g10)
  (fl t:Bool) (v:List UInt8) (hv:v.length<=1000) (l:GList) (hl:zp l=true) (hm:l.mode=1∨l.mode=2) :
  S P 0 (yB g1 g2 g3 g4 g5 g6 g7 g8 g9 g10) (xg [.cell 6 2 true,.tmp 7] (qg9 (.tup [.agg (qj ((qh v).foldl (qS E fl t) (l,[])).1),.own 0 ((qh v).foldl (qS E fl t) (l,[])).2.length]) [.cells 4 true true (rN ((qh v).foldl (qS E fl t) (l,[])).2)]))
   (mkT [(2,.b fl),(3,.ptr 0 0),(6,.ptr 1 0),(8,.s v),(9,.b t),(10,.i .i64 (wH t)),(11,.ptr 2 0)])
   (mkH 0 [.cells 0 true false (qj l),.cells 0 true false [.i .u8 0,.nils],.cells 0 true false [.own 3 0],.cells 4 true true []]):=by
 have hwl:=zW v;refine qr ?_;simp only[yB,qj,vI,simprocAttr];simp only[↓vS,vT,Nat.reduceEqDiff,↓reduceIte,Nat.reduceAdd,Nat.reduceMul,Nat.reduceSub,Nat.reduceLeDiff,Nat.reduceLT,Int.reduceLE,Int.reduceLT,Int.reduceEq,Int.reduceToNat];refine (h3 v (by omega)).sc ?_;simp only[↓vS,vT,Nat.reduceEqDiff,↓reduceIte,Nat.reduceAdd,Nat.reduceMul,Nat.reduceSub,Nat.reduceLeDiff,Nat.reduceLT,Int.reduceLE,Int.reduceLT,Int.reduceEq,Int.reduceToNat]
 refine SL.loop (α:=Nat) (fun j=>[(2,.b fl),(3,.ptr 0 0),(6,.ptr 1 0),(9,.b t),(10,.i .i64 (wH t)),(11,.ptr 2 0),(46,.fz (qh v).length (rS (qh v))),(47,.i .i64 (qh v).length),(48,.i .i64 j)])
  (fun j=>[.cells 0 true false (qj (((qh v).take j).foldl (qS E fl t) (l,[])).1),.cells 0 true false [.i .u8 0,.nils],.cells 0 true false [.own 3 (((qh v).take j).foldl (qS E fl t) (l,[])).2.length],.cells 4 true true (rN (((qh v).take j).foldl (qS E fl t) (l,[])).2)])
  (fun j=>j<=(qh v).length) (fun j=>(qh v).length-j) 0 [0,1,2,3] ?_ ?_ ?_ rfl ?_ ?_
 ·simp[vw,rS]
 ·simp[vw,qj,qa,qb,qc,vh]
 ·simp
 ·exact Nat.zero_le _
 rintro j hj G ih;obtain⟨k1,k2,k3⟩:=JY hE fl t ((qh v).take j) (l,[]) hl (by dsimp only;omega);have k4:=QH k1;dsimp only at k2;simp only[List.length_take,List.length_nil,Nat.zero_add] at k3;generalize hr:((qh v).take j).foldl (qS E fl t) (l,[])=r at k1 k2 k3 k4 ih ⊢;simp only[vI,simprocAttr]
 by_cases hlt:j<(qh v).length
 ·have hx:(rS (qh v))[j]?=some (.s (qh v)[j]):=by rw[yF,List.getElem?_eq_getElem hlt];rfl
  have hwj:IntKind.wrap .i64 ((j:Int)+1)=((j+1:Nat):Int):=by rw[qq (by omega) (by omega)];omega
  have hnext:((qh v).take (j+1)).foldl (qS E fl t) (l,[])=qS E fl t r (qh v)[j]:=by
   rw[List.take_add_one,List.getElem?_eq_getElem hlt,List.foldl_append,hr];rfl
  have ih2:=ih (j+1);rw[hnext] at ih2;have hwd:=qbx (List.getElem_mem hlt);generalize (qh v)[j]=w at hx hnext hwd ih2;simp only[qj];simp only[↓vS,vT,Nat.reduceEqDiff,↓reduceIte,Nat.reduceAdd,Nat.reduceMul,Nat.reduceSub,Nat.reduceLeDiff,Nat.reduceLT,Int.reduceLE,Int.reduceLT,Int.reduceEq,Int.reduceToNat,hlt,hx,Nat.mul_one];refine (h6 w (by omega)).sc ?_;simp only[↓vS,vT,Nat.reduceEqDiff,↓reduceIte,Nat.reduceAdd,Nat.reduceMul,Nat.reduceSub,Nat.reduceLeDiff,Nat.reduceLT,Int.reduceLE,Int.reduceLT,Int.reduceEq,Int.reduceToNat,qV]
  by_cases e1:(qo w).2=0
  ·simp only[↓vS,vT,Nat.reduceEqDiff,↓reduceIte,Nat.reduceAdd,Nat.reduceMul,Nat.reduceSub,Nat.reduceLeDiff,Nat.reduceLT,Int.reduceLE,Int.reduceLT,Int.reduceEq,Int.reduceToNat,e1];refine (h7 (qo w).1.name).sc ?_
   by_cases e2:(zO E (qo w).1.name).2=0
   ·have hk:=qan hE (qo w).1.name;simp only[↓vS,vT,Nat.reduceEqDiff,↓reduceIte,Nat.reduceAdd,Nat.reduceMul,Nat.reduceSub,Nat.reduceLeDiff,Nat.reduceLT,Int.reduceLE,Int.reduceLT,Int.reduceEq,Int.reduceToNat,e2];refine qW ?_;simp only[↓vS,vT,Nat.reduceEqDiff,↓reduceIte,Nat.reduceAdd,Nat.reduceMul,Nat.reduceSub,Nat.reduceLeDiff,Nat.reduceLT,Int.reduceLE,Int.reduceLT,Int.reduceEq,Int.reduceToNat];refine h8.pc ?_;have hu1:IntKind.wrap .u8 (1-1)=0:=by decide
    have hu2:IntKind.wrap .u8 (2-1)=1:=by decide
    have hmode:r.1.mode=1∨r.1.mode=2:=by rw[k2];exact hm
    cases t with
    | true =>
     have hway:wH true=1:=rfl;rcases hmode with hm1|hm1
     ·have hin:decide (r.1.mode-1=if true=true then 1 else 0)=false:=by rw[hm1];rfl
      simp only[↓vS,vT,Nat.reduceEqDiff,↓reduceIte,Nat.reduceAdd,Nat.reduceMul,Nat.reduceSub,Nat.reduceLeDiff,Nat.reduceLT,Int.reduceLE,Int.reduceLT,Int.reduceEq,Int.reduceToNat,hm1,hway,hu1,hu2,List.drop_succ_cons,List.drop_zero,List.take_succ_cons,List.take_zero,List.getElem?_cons_zero,List.getElem?_cons_succ];cases hh:(qo w).1.has with
      | false =>
       have hs:qS E fl true r w=((zO E (qo w).1.name).1.foldl (zw false (qo w).1.act) r.1,r.2):=by
        unfold qS;rw[if_neg (by simp[e1]),if_neg (by simp[e2]),if_pos hh,hin]
       rw[hs] at ih2;simp only[↓vS,vT,Nat.reduceEqDiff,↓reduceIte,Nat.reduceAdd,Nat.reduceMul,Nat.reduceSub,Nat.reduceLeDiff,Nat.reduceLT,Int.reduceLE,Int.reduceLT,Int.reduceEq,Int.reduceToNat];refine S.weak (Wk.mk _ _ [0,1,2,3,5] ?_ ?_ ?_ rfl) (vc h9 h10 fl true false (wH true) (qh v) (zO E (qo w).1.name).1 j r.1 (qo w).1 w r.2 (by omega) (by omega) k1 (by omega) hk.1 (xK w) _ ?_)
       ·simp[vw,hh,hm1]
       ·simp[vw,qj,qa,qb,qc,qV,hh,hm1]
       ·simp
       ·intro t' h' hw;simp only[↓vS,vT,Nat.reduceEqDiff,↓reduceIte,Nat.reduceAdd,Nat.reduceMul,Nat.reduceSub,Nat.reduceLeDiff,Nat.reduceLT,Int.reduceLE,Int.reduceLT,Int.reduceEq,Int.reduceToNat];exact S.weak hw (wk fl true (wH true) (qh v) j (by omega) _ _ _ (fun t'' h'' hw'=>ih2 (by omega) (by omega) t'' h'' hw'))
      | true =>
       cases fl with
       | false =>
        have hs:qS E false true r w=((zO E (qo w).1.name).1.foldl (zw false 0) r.1,r.2++[zt 161 w]):=by
         unfold qS;rw[if_neg (by simp[e1]),if_neg (by simp[e2]),if_neg (by simp[hh]),if_pos (by decide),hin]
        rw[hs] at ih2;simp only[↓vS,vT,Nat.reduceEqDiff,↓reduceIte,Nat.reduceAdd,Nat.reduceMul,Nat.reduceSub,Nat.reduceLeDiff,Nat.reduceLT,Int.reduceLE,Int.reduceLT,Int.reduceEq,Int.reduceToNat];refine (h5 r.2 161 w (by simp only[qf];omega)).sc (vs:=[.i .i64 161,.ptr 0 0,.ptr 1 0]) [2,4,3] (Lent.of (by decide) ?_) ?_
        ·simp[vL,vw,qK qb,ql qb,qX,clo,qt]
        simp only[vK,simprocAttr,ql qb,qt,clo];simp only[↓vS,vT,Nat.reduceEqDiff,↓reduceIte,Nat.reduceAdd,Nat.reduceMul,Nat.reduceSub,Nat.reduceLeDiff,Nat.reduceLT,Int.reduceLE,Int.reduceLT,Int.reduceEq,Int.reduceToNat];refine S.weak (Wk.mk _ _ [0,1,2,6,5] ?_ ?_ ?_ rfl) (vc h9 h10 false true false (wH true) (qh v) (zO E (qo w).1.name).1 j r.1 ⟨(qo w).1.name,0,(qo w).1.has⟩ w (r.2++[zt 161 w]) (by omega) (by omega) k1 (by omega) hk.1 rfl _ ?_)
        ·simp[vw,hh,hm1]
        ·simp[vw,qj,qa,qb,qc,qV,hh,hm1]
        ·simp
        ·intro t' h' hw;simp only[↓vS,vT,Nat.reduceEqDiff,↓reduceIte,Nat.reduceAdd,Nat.reduceMul,Nat.reduceSub,Nat.reduceLeDiff,Nat.reduceLT,Int.reduceLE,Int.reduceLT,Int.reduceEq,Int.reduceToNat];exact S.weak hw (wk false true (wH true) (qh v) j (by omega) _ _ _ (fun t'' h'' hw'=>ih2 (by omega) (by omega) t'' h'' hw'))
       | true =>
        have hs:qS E true true r w=((zO E (qo w).1.name).1.foldl (zw true (qo w).1.act) r.1,r.2):=by
         unfold qS;rw[if_neg (by simp[e1]),if_neg (by simp[e2]),if_neg (by simp[hh]),if_neg (by decide)]
        rw[hs] at ih2;simp only[↓vS,vT,Nat.reduceEqDiff,↓reduceIte,Nat.reduceAdd,Nat.reduceMul,Nat.reduceSub,Nat.reduceLeDiff,Nat.reduceLT,Int.reduceLE,Int.reduceLT,Int.reduceEq,Int.reduceToNat];refine S.weak (Wk.mk _ _ [0,1,2,3,5] ?_ ?_ ?_ rfl) (vc h9 h10 true true true (wH true) (qh v) (zO E (qo w).1.name).1 j r.1 (qo w).1 w r.2 (by omega) (by omega) k1 (by omega) hk.1 (xK w) _ ?_)
        ·simp[vw,hh,hm1]
        ·simp[vw,qj,qa,qb,qc,qV,hh,hm1]
        ·simp
        ·intro t' h' hw;simp only[↓vS,vT,Nat.reduceEqDiff,↓reduceIte,Nat.reduceAdd,Nat.reduceMul,Nat.reduceSub,Nat.reduceLeDiff,Nat.reduceLT,Int.reduceLE,Int.reduceLT,Int.reduceEq,Int.reduceToNat];exact S.weak hw (wk true true (wH true) (qh v) j (by omega) _ _ _ (fun t'' h'' hw'=>ih2 (by omega) (by omega) t'' h'' hw'))
     ·have hin:decide (r.1.mode-1=if true=true then 1 else 0)=true:=by rw[hm1];rfl
      simp only[↓vS,vT,Nat.reduceEqDiff,↓reduceIte,Nat.reduceAdd,Nat.reduceMul,Nat.reduceSub,Nat.reduceLeDiff,Nat.reduceLT,Int.reduceLE,Int.reduceLT,Int.reduceEq,Int.reduceToNat,hm1,hway,hu1,hu2,List.drop_succ_cons,List.drop_zero,List.take_succ_cons,List.take_zero,List.getElem?_cons_zero,List.getElem?_cons_succ];cases hh:(qo w).1.has with
      | false =>
       have hs:qS E fl true r w=((zO E (qo w).1.name).1.foldl (zw true (qo w).1.act) r.1,r.2):=by
        unfold qS;rw[if_neg (by simp[e1]),if_neg (by simp[e2]),if_pos hh,hin]
       rw[hs] at ih2;simp only[↓vS,vT,Nat.reduceEqDiff,↓reduceIte,Nat.reduceAdd,Nat.reduceMul,Nat.reduceSub,Nat.reduceLeDiff,Nat.reduceLT,Int.reduceLE,Int.reduceLT,Int.reduceEq,Int.reduceToNat];refine S.weak (Wk.mk _ _ [0,1,2,3,5] ?_ ?_ ?_ rfl) (vc h9 h10 fl true true (wH true) (qh v) (zO E (qo w).1.name).1 j r.1 (qo w).1 w r.2 (by omega) (by omega) k1 (by omega) hk.1 (xK w) _ ?_)
       ·simp[vw,hh,hm1]
       ·simp[vw,qj,qa,qb,qc,qV,hh,hm1]
       ·simp
       ·intro t' h' hw;simp only[↓vS,vT,Nat.reduceEqDiff,↓reduceIte,Nat.reduceAdd,Nat.reduceMul,Nat.reduceSub,Nat.reduceLeDiff,Nat.reduceLT,Int.reduceLE,Int.reduceLT,Int.reduceEq,Int.reduceToNat];exact S.weak hw (wk fl true (wH true) (qh v) j (by omega) _ _ _ (fun t'' h'' hw'=>ih2 (by omega) (by omega) t'' h'' hw'))
      | true =>
       cases fl with
       | false =>
        have hs:qS E false true r w=((zO E (qo w).1.name).1.foldl (zw true 0) r.1,r.2++[zt 161 w]):=by
         unfold qS;rw[if_neg (by simp[e1]),if_neg (by simp[e2]),if_neg (by simp[hh]),if_pos (by decide),hin]
        rw[hs] at ih2;simp only[↓vS,vT,Nat.reduceEqDiff,↓reduceIte,Nat.reduceAdd,Nat.reduceMul,Nat.reduceSub,Nat.reduceLeDiff,Nat.reduceLT,Int.reduceLE,Int.reduceLT,Int.reduceEq,Int.reduceToNat];refine (h5 r.2 161 w (by simp only[qf];omega)).sc (vs:=[.i .i64 161,.ptr 0 0,.ptr 1 0]) [2,4,3] (Lent.of (by decide) ?_) ?_
        ·simp[vL,vw,qK qb,ql qb,qX,clo,qt]
        simp only[vK,simprocAttr,ql qb,qt,clo];simp only[↓vS,vT,Nat.reduceEqDiff,↓reduceIte,Nat.reduceAdd,Nat.reduceMul,Nat.reduceSub,Nat.reduceLeDiff,Nat.reduceLT,Int.reduceLE,Int.reduceLT,Int.reduceEq,Int.reduceToNat];refine S.weak (Wk.mk _ _ [0,1,2,6,5] ?_ ?_ ?_ rfl) (vc h9 h10 false true true (wH true) (qh v) (zO E (qo w).1.name).1 j r.1 ⟨(qo w).1.name,0,(qo w).1.has⟩ w (r.2++[zt 161 w]) (by omega) (by omega) k1 (by omega) hk.1 rfl _ ?_)
        ·simp[vw,hh,hm1]
        ·simp[vw,qj,qa,qb,qc,qV,hh,hm1]
        ·simp
        ·intro t' h' hw;simp only[↓vS,vT,Nat.reduceEqDiff,↓reduceIte,Nat.reduceAdd,Nat.reduceMul,Nat.reduceSub,Nat.reduceLeDiff,Nat.reduceLT,Int.reduceLE,Int.reduceLT,Int.reduceEq,Int.reduceToNat];exact S.weak hw (wk false true (wH true) (qh v) j (by omega) _ _ _ (fun t'' h'' hw'=>ih2 (by omega) (by omega) t'' h'' hw'))
       | true =>
        have hs:qS E true true r w=((zO E (qo w).1.name).1.foldl (zw true (qo w).1.act) r.1,r.2):=by
         unfold qS;rw[if_neg (by simp[e1]),if_neg (by simp[e2]),if_neg (by simp[hh]),if_neg (by decide)]
        rw[hs] at ih2;simp only[↓vS,vT,Nat.reduceEqDiff,↓reduceIte,Nat.reduceAdd,Nat.reduceMul,Nat.reduceSub,Nat.reduceLeDiff,Nat.reduceLT,Int.reduceLE,Int.reduceLT,Int.reduceEq,Int.reduceToNat];refine S.weak (Wk.mk _ _ [0,1,2,3,5] ?_ ?_ ?_ rfl) (vc h9 h10 true true true (wH true) (qh v) (zO E (qo w).1.name).1 j r.1 (qo w).1 w r.2 (by omega) (by omega) k1 (by omega) hk.1 (xK w) _ ?_)
        ·simp[vw,hh,hm1]
        ·simp[vw,qj,qa,qb,qc,qV,hh,hm1]
        ·simp
        ·intro t' h' hw;simp only[↓vS,vT,Nat.reduceEqDiff,↓reduceIte,Nat.reduceAdd,Nat.reduceMul,Nat.reduceSub,Nat.reduceLeDiff,Nat.reduceLT,Int.reduceLE,Int.reduceLT,Int.reduceEq,Int.reduceToNat];exact S.weak hw (wk true true (wH true) (qh v) j (by omega) _ _ _ (fun t'' h'' hw'=>ih2 (by omega) (by omega) t'' h'' hw'))
    | false =>
     have hway:wH false=0:=rfl;rcases hmode with hm1|hm1
     ·have hin:decide (r.1.mode-1=if false=true then 1 else 0)=true:=by rw[hm1];rfl
      simp only[↓vS,vT,Nat.reduceEqDiff,↓reduceIte,Nat.reduceAdd,Nat.reduceMul,Nat.reduceSub,Nat.reduceLeDiff,Nat.reduceLT,Int.reduceLE,Int.reduceLT,Int.reduceEq,Int.reduceToNat,hm1,hway,hu1,hu2,List.drop_succ_cons,List.drop_zero,List.take_succ_cons,List.take_zero,List.getElem?_cons_zero,List.getElem?_cons_succ];cases hh:(qo w).1.has with
      | false =>
       have hs:qS E fl false r w=((zO E (qo w).1.name).1.foldl (zw true (qo w).1.act) r.1,r.2):=by
        unfold qS;rw[if_neg (by simp[e1]),if_neg (by simp[e2]),if_pos hh,hin]
       rw[hs] at ih2;simp only[↓vS,vT,Nat.reduceEqDiff,↓reduceIte,Nat.reduceAdd,Nat.reduceMul,Nat.reduceSub,Nat.reduceLeDiff,Nat.reduceLT,Int.reduceLE,Int.reduceLT,Int.reduceEq,Int.reduceToNat];refine S.weak (Wk.mk _ _ [0,1,2,3,5] ?_ ?_ ?_ rfl) (vc h9 h10 fl false true (wH false) (qh v) (zO E (qo w).1.name).1 j r.1 (qo w).1 w r.2 (by omega) (by omega) k1 (by omega) hk.1 (xK w) _ ?_)
       ·simp[vw,hh,hm1]
       ·simp[vw,qj,qa,qb,qc,qV,hh,hm1]
       ·simp
       ·intro t' h' hw;simp only[↓vS,vT,Nat.reduceEqDiff,↓reduceIte,Nat.reduceAdd,Nat.reduceMul,Nat.reduceSub,Nat.reduceLeDiff,Nat.reduceLT,Int.reduceLE,Int.reduceLT,Int.reduceEq,Int.reduceToNat];exact S.weak hw (wk fl false (wH false) (qh v) j (by omega) _ _ _ (fun t'' h'' hw'=>ih2 (by omega) (by omega) t'' h'' hw'))
      | true =>
       cases fl with
       | false =>
        have hs:qS E false false r w=((zO E (qo w).1.name).1.foldl (zw true 0) r.1,r.2++[zt 161 w]):=by
         unfold qS;rw[if_neg (by simp[e1]),if_neg (by simp[e2]),if_neg (by simp[hh]),if_pos (by decide),hin]
        rw[hs] at ih2;simp only[↓vS,vT,Nat.reduceEqDiff,↓reduceIte,Nat.reduceAdd,Nat.reduceMul,Nat.reduceSub,Nat.reduceLeDiff,Nat.reduceLT,Int.reduceLE,Int.reduceLT,Int.reduceEq,Int.reduceToNat];refine (h5 r.2 161 w (by simp only[qf];omega)).sc (vs:=[.i .i64 161,.ptr 0 0,.ptr 1 0]) [2,4,3] (Lent.of (by decide) ?_) ?_
        ·simp[vL,vw,qK qb,ql qb,qX,clo,qt]
        simp only[vK,simprocAttr,ql qb,qt,clo];simp only[↓vS,vT,Nat.reduceEqDiff,↓reduceIte,Nat.reduceAdd,Nat.reduceMul,Nat.reduceSub,Nat.reduceLeDiff,Nat.reduceLT,Int.reduceLE,Int.reduceLT,Int.reduceEq,Int.reduceToNat];refine S.weak (Wk.mk _ _ [0,1,2,6,5] ?_ ?_ ?_ rfl) (vc h9 h10 false false true (wH false) (qh v) (zO E (qo w).1.name).1 j r.1 ⟨(qo w).1.name,0,(qo w).1.has⟩ w (r.2++[zt 161 w]) (by omega) (by omega) k1 (by omega) hk.1 rfl _ ?_)
        ·simp[vw,hh,hm1]
        ·simp[vw,qj,qa,qb,qc,qV,hh,hm1]
        ·simp
        ·intro t' h' hw;simp only[↓vS,vT,Nat.reduceEqDiff,↓reduceIte,Nat.reduceAdd,Nat.reduceMul,Nat.reduceSub,Nat.reduceLeDiff,Nat.reduceLT,Int.reduceLE,Int.reduceLT,Int.reduceEq,Int.reduceToNat];exact S.weak hw (wk false false (wH false) (qh v) j (by omega) _ _ _ (fun t'' h'' hw'=>ih2 (by omega) (by omega) t'' h'' hw'))
       | true =>
        have hs:qS E true false r w=((zO E (qo w).1.name).1.foldl (zw true 0) r.1,r.2++[zt 161 w]):=by
         unfold qS;rw[if_neg (by simp[e1]),if_neg (by simp[e2]),if_neg (by simp[hh]),if_pos (by decide),hin]
        rw[hs] at ih2;simp only[↓vS,vT,Nat.reduceEqDiff,↓reduceIte,Nat.reduceAdd,Nat.reduceMul,Nat.reduceSub,Nat.reduceLeDiff,Nat.reduceLT,Int.reduceLE,Int.reduceLT,Int.reduceEq,Int.reduceToNat];refine (h5 r.2 161 w (by simp only[qf];omega)).sc (vs:=[.i .i64 161,.ptr 0 0,.ptr 1 0]) [2,4,3] (Lent.of (by decide) ?_) ?_
        ·simp[vL,vw,qK qb,ql qb,qX,clo,qt]
        simp only[vK,simprocAttr,ql qb,qt,clo];simp only[↓vS,vT,Nat.reduceEqDiff,↓reduceIte,Nat.reduceAdd,Nat.reduceMul,Nat.reduceSub,Nat.reduceLeDiff,Nat.reduceLT,Int.reduceLE,Int.reduceLT,Int.reduceEq,Int.reduceToNat];refine S.weak (Wk.mk _ _ [0,1,2,6,5] ?_ ?_ ?_ rfl) (vc h9 h10 true false true (wH false) (qh v) (zO E (qo w).1.name).1 j r.1 ⟨(qo w).1.name,0,(qo w).1.has⟩ w (r.2++[zt 161 w]) (by omega) (by omega) k1 (by omega) hk.1 rfl _ ?_)
        ·simp[vw,hh,hm1]
        ·simp[vw,qj,qa,qb,qc,qV,hh,hm1]
        ·simp
        ·intro t' h' hw;simp only[↓vS,vT,Nat.reduceEqDiff,↓reduceIte,Nat.reduceAdd,Nat.reduceMul,Nat.reduceSub,Nat.reduceLeDiff,Nat.reduceLT,Int.reduceLE,Int.reduceLT,Int.reduceEq,Int.reduceToNat];exact S.weak hw (wk true false (wH false) (qh v) j (by omega) _ _ _ (fun t'' h'' hw'=>ih2 (by omega) (by omega) t'' h'' hw'))
     ·have hin:decide (r.1.mode-1=if false=true then 1 else 0)=false:=by rw[hm1];rfl
      simp only[↓vS,vT,Nat.reduceEqDiff,↓reduceIte,Nat.reduceAdd,Nat.reduceMul,Nat.reduceSub,Nat.reduceLeDiff,Nat.reduceLT,Int.reduceLE,Int.reduceLT,Int.reduceEq,Int.reduceToNat,hm1,hway,hu1,hu2,List.drop_succ_cons,List.drop_zero,List.take_succ_cons,List.take_zero,List.getElem?_cons_zero,List.getElem?_cons_succ];cases hh:(qo w).1.has with
      | false =>
       have hs:qS E fl false r w=((zO E (qo w).1.name).1.foldl (zw false (qo w).1.act) r.1,r.2):=by
        unfold qS;rw[if_neg (by simp[e1]),if_neg (by simp[e2]),if_pos hh,hin]
       rw[hs] at ih2;simp only[↓vS,vT,Nat.reduceEqDiff,↓reduceIte,Nat.reduceAdd,Nat.reduceMul,Nat.reduceSub,Nat.reduceLeDiff,Nat.reduceLT,Int.reduceLE,Int.reduceLT,Int.reduceEq,Int.reduceToNat];refine S.weak (Wk.mk _ _ [0,1,2,3,5] ?_ ?_ ?_ rfl) (vc h9 h10 fl false false (wH false) (qh v) (zO E (qo w).1.name).1 j r.1 (qo w).1 w r.2 (by omega) (by omega) k1 (by omega) hk.1 (xK w) _ ?_)
       ·simp[vw,hh,hm1]
       ·simp[vw,qj,qa,qb,qc,qV,hh,hm1]
       ·simp
       ·intro t' h' hw;simp only[↓vS,vT,Nat.reduceEqDiff,↓reduceIte,Nat.reduceAdd,Nat.reduceMul,Nat.reduceSub,Nat.reduceLeDiff,Nat.reduceLT,Int.reduceLE,Int.reduceLT,Int.reduceEq,Int.reduceToNat];exact S.weak hw (wk fl false (wH false) (qh v) j (by omega) _ _ _ (fun t'' h'' hw'=>ih2 (by omega) (by omega) t'' h'' hw'))
      | true =>
       cases fl with
       | false =>
        have hs:qS E false false r w=((zO E (qo w).1.name).1.foldl (zw false 0) r.1,r.2++[zt 161 w]):=by
         unfold qS;rw[if_neg (by simp[e1]),if_neg (by simp[e2]),if_neg (by simp[hh]),if_pos (by decide),hin]
        rw[hs] at ih2;simp only[↓vS,vT,Nat.reduceEqDiff,↓reduceIte,Nat.reduceAdd,Nat.reduceMul,Nat.reduceSub,Nat.reduceLeDiff,Nat.reduceLT,Int.reduceLE,Int.reduceLT,Int.reduceEq,Int.reduceToNat];refine (h5 r.2 161 w (by simp only[qf];omega)).sc (vs:=[.i .i64 161,.ptr 0 0,.ptr 1 0]) [2,4,3] (Lent.of (by decide) ?_) ?_
        ·simp[vL,vw,qK qb,ql qb,qX,clo,qt]
        simp only[vK,simprocAttr,ql qb,qt,clo];simp only[↓vS,vT,Nat.reduceEqDiff,↓reduceIte,Nat.reduceAdd,Nat.reduceMul,Nat.reduceSub,Nat.reduceLeDiff,Nat.reduceLT,Int.reduceLE,Int.reduceLT,Int.reduceEq,Int.reduceToNat];refine S.weak (Wk.mk _ _ [0,1,2,6,5] ?_ ?_ ?_ rfl) (vc h9 h10 false false false (wH false) (qh v) (zO E (qo w).1.name).1 j r.1 ⟨(qo w).1.name,0,(qo w).1.has⟩ w (r.2++[zt 161 w]) (by omega) (by omega) k1 (by omega) hk.1 rfl _ ?_)
        ·simp[vw,hh,hm1]
        ·simp[vw,qj,qa,qb,qc,qV,hh,hm1]
        ·simp
        ·intro t' h' hw;simp only[↓vS,vT,Nat.reduceEqDiff,↓reduceIte,Nat.reduceAdd,Nat.reduceMul,Nat.reduceSub,Nat.reduceLeDiff,Nat.reduceLT,Int.reduceLE,Int.reduceLT,Int.reduceEq,Int.reduceToNat];exact S.weak hw (wk false false (wH false) (qh v) j (by omega) _ _ _ (fun t'' h'' hw'=>ih2 (by omega) (by omega) t'' h'' hw'))
       | true =>
        have hs:qS E true false r w=((zO E (qo w).1.name).1.foldl (zw false 0) r.1,r.2++[zt 161 w]):=by
         unfold qS;rw[if_neg (by simp[e1]),if_neg (by simp[e2]),if_neg (by simp[hh]),if_pos (by decide),hin]
        rw[hs] at ih2;simp only[↓vS,vT,Nat.reduceEqDiff,↓reduceIte,Nat.reduceAdd,Nat.reduceMul,Nat.reduceSub,Nat.reduceLeDiff,Nat.reduceLT,Int.reduceLE,Int.reduceLT,Int.reduceEq,Int.reduceToNat];refine (h5 r.2 161 w (by simp only[qf];omega)).sc (vs:=[.i .i64 161,.ptr 0 0,.ptr 1 0]) [2,4,3] (Lent.of (by decide) ?_) ?_
        ·simp[vL,vw,qK qb,ql qb,qX,clo,qt]
        simp only[vK,simprocAttr,ql qb,qt,clo];simp only[↓vS,vT,Nat.reduceEqDiff,↓reduceIte,Nat.reduceAdd,Nat.reduceMul,Nat.reduceSub,Nat.reduceLeDiff,Nat.reduceLT,Int.reduceLE,Int.reduceLT,Int.reduceEq,Int.reduceToNat];refine S.weak (Wk.mk _ _ [0,1,2,6,5] ?_ ?_ ?_ rfl) (vc h9 h10 true false false (wH false) (qh v) (zO E (qo w).1.name).1 j r.1 ⟨(qo w).1.name,0,(qo w).1.has⟩ w (r.2++[zt 161 w]) (by omega) (by omega) k1 (by omega) hk.1 rfl _ ?_)
        ·simp[vw,hh,hm1]
        ·simp[vw,qj,qa,qb,qc,qV,hh,hm1]
        ·simp
        ·intro t' h' hw;simp only[↓vS,vT,Nat.reduceEqDiff,↓reduceIte,Nat.reduceAdd,Nat.reduceMul,Nat.reduceSub,Nat.reduceLeDiff,Nat.reduceLT,Int.reduceLE,Int.reduceLT,Int.reduceEq,Int.reduceToNat];exact S.weak hw (wk true false (wH false) (qh v) j (by omega) _ _ _ (fun t'' h'' hw'=>ih2 (by omega) (by omega) t'' h'' hw'))
   ·have hs:qS E fl t r w=(r.1,r.2++[zt (zO E (qo w).1.name).2 w]):=by unfold qS;rw[if_neg (by simp[e1]),if_pos e2]
    rw[hs] at ih2;simp only[↓vS,vT,Nat.reduceEqDiff,↓reduceIte,Nat.reduceAdd,Nat.reduceMul,Nat.reduceSub,Nat.reduceLeDiff,Nat.reduceLT,Int.reduceLE,Int.reduceLT,Int.reduceEq,Int.reduceToNat,e2];refine (h5 r.2 (zO E (qo w).1.name).2 w (by simp only[qf];omega)).sc (vs:=[.i .i64 (zO E (qo w).1.name).2,.ptr 0 0,.ptr 1 0]) [2,4,3] (Lent.of (by decide) ?_) ?_
    ·simp[vL,vw,qK qb,ql qb,qX,clo,qt]
    simp only[vK,simprocAttr,ql qb,qt,clo];simp only[↓vS,vT,Nat.reduceEqDiff,↓reduceIte,Nat.reduceAdd,Nat.reduceMul,Nat.reduceSub,Nat.reduceLeDiff,Nat.reduceLT,Int.reduceLE,Int.reduceLT,Int.reduceEq,Int.reduceToNat];refine S.weak (Wk.mk _ _ [0,1,2,6] ?_ ?_ ?_ rfl) (wk fl t (wH t) (qh v) j (by omega) r.1 (r.2++[zt (zO E (qo w).1.name).2 w]) _ (fun t' h' hw=>ih2 (by omega) (by omega) t' h' hw))
    ·simp[vw]
    ·simp[vw,qj,qa,qb,qc]
    ·simp
  ·have hs:qS E fl t r w=(r.1,r.2++[zt (qo w).2 w]):=by unfold qS;rw[if_pos e1]
   rw[hs] at ih2;simp only[↓vS,vT,Nat.reduceEqDiff,↓reduceIte,Nat.reduceAdd,Nat.reduceMul,Nat.reduceSub,Nat.reduceLeDiff,Nat.reduceLT,Int.reduceLE,Int.reduceLT,Int.reduceEq,Int.reduceToNat,e1];refine (h5 r.2 (qo w).2 w (by simp only[qf];omega)).sc (vs:=[.i .i64 (qo w).2,.ptr 0 0,.ptr 1 0]) [2,4,3] (Lent.of (by decide) ?_) ?_
   ·simp[vL,vw,qK qb,ql qb,qX,clo,qt]
   simp only[vK,simprocAttr,ql qb,qt,clo];simp only[↓vS,vT,Nat.reduceEqDiff,↓reduceIte,Nat.reduceAdd,Nat.reduceMul,Nat.reduceSub,Nat.reduceLeDiff,Nat.reduceLT,Int.reduceLE,Int.reduceLT,Int.reduceEq,Int.reduceToNat];refine S.weak (Wk.mk _ _ [0,1,2,6] ?_ ?_ ?_ rfl) (wk fl t (wH t) (qh v) j (by omega) r.1 (r.2++[zt (qo w).2 w]) _ (fun t' h' hw=>ih2 (by omega) (by omega) t' h' hw))
   ·simp[vw]
   ·simp[vw,qj,qa,qb,qc]
   ·simp
 ·have hjl:(qh v).take j=qh v:=List.take_of_length_le (by omega);rw[hjl] at hr;rw[hr];simp only[qj];simp only[↓vS,vT,Nat.reduceEqDiff,↓reduceIte,Nat.reduceAdd,Nat.reduceMul,Nat.reduceSub,Nat.reduceLeDiff,Nat.reduceLT,Int.reduceLE,Int.reduceLT,Int.reduceEq,Int.reduceToNat,hlt];refine qW ?_;simp only[↓vS,vT,Nat.reduceEqDiff,↓reduceIte,Nat.reduceAdd,Nat.reduceMul,Nat.reduceSub,Nat.reduceLeDiff,Nat.reduceLT,Int.reduceLE,Int.reduceLT,Int.reduceEq,Int.reduceToNat,not_false_eq_true];intro _;refine⟨[3],?_⟩;simp[vw,qj,qa,qb,qc]
end Go.Kc
end
section
/- What fold.Step answers, whole. Condition: the functions' texts are these. -/
namespace Go.Kc
variable {P:Program} {f:Nat}
def qmD(P:Program)(f:Nat):Prop:=∀l:GList,l.calls.length<=100000->qd P f [.agg (qj l)] (.agg (qj l))
theorem qp5(h:qnG P f):qmD P f:=by
 intro l hl;refine (h l hl).pure rfl ?_;simp only[H0,vJ,simprocAttr];simp[vZ,vP,Tr.get_set,qj,qn qc,zV qc];intro h0;rw[h0];rfl
def qcl(E:List UInt8->List (List UInt8)×Int)(P:Program)(f:Nat):Prop:=∀(l:GList) (v:List UInt8) (fl:Bool),l.calls.length<=100000->v.length<=1000->0<=l.mode->
 Own P f [.agg (qj l),.s v,.b fl] (.tup [.agg (qj (zm E l v fl).1),.own 0 (zm E l v fl).2.length]) [.cells 4 true true (rN (zm E l v fl).2)]
theorem qsg{g1 g2 g3 g4 g5 g6 g7 g8 g9 g10:Nat}{E:List UInt8->List (List UInt8)×Int}(hc:qk P f (Wj g1 g2 g3 g4 g5 g6 g7 g8 g9 g10)=true)(hE:wQ E)(h1:qmD P g1)(h2:qnH P g2)(h3:Xi P g3)(h4:qcm P g4)(h5:qhF P g5)(h6:qc4 P g6)(h7:qch (zO E) P g7)(h8:qrc P g8)(h9:qnJ P g9)(h10:qhH P g10):qcl E P f:=by
 intro l v fl hl hv hm0;have htl:=v5 v;refine Own.mk hc rfl ?_;simp only[Wj,qj,vI,simprocAttr];simp only[↓vS,vT,Nat.reduceEqDiff,↓reduceIte,Nat.reduceAdd,Nat.reduceMul,Nat.reduceSub,Nat.reduceLeDiff,Nat.reduceLT,Int.reduceLE,Int.reduceLT,Int.reduceEq,Int.reduceToNat];refine (h1 l hl).sc ?_;simp only[↓vS,vT,Nat.reduceEqDiff,↓reduceIte,Nat.reduceAdd,Nat.reduceMul,Nat.reduceSub,Nat.reduceLeDiff,Nat.reduceLT,Int.reduceLE,Int.reduceLT,Int.reduceEq,Int.reduceToNat,qj];refine (h2 l hl).sc ?_;cases hM:zp l with
 | false =>
  have hs:zm E l v fl=(l,[]):=if_pos hM;rw[hs];simp only[↓vS,vT,Nat.reduceEqDiff,↓reduceIte,Nat.reduceAdd,Nat.reduceMul,Nat.reduceSub,Nat.reduceLeDiff,Nat.reduceLT,Int.reduceLE,Int.reduceLT,Int.reduceEq,Int.reduceToNat];intro _;refine⟨[2],?_⟩;simp[vw,qj,qa,qc,rN]
 | true =>
  have hmm:=((xC l).1 hM).1;simp only[↓vS,vT,Nat.reduceEqDiff,↓reduceIte,Nat.reduceAdd,Nat.reduceMul,Nat.reduceSub,Nat.reduceLeDiff,Nat.reduceLT,Int.reduceLE,Int.reduceLT,Int.reduceEq,Int.reduceToNat];refine (h3 v (by omega)).sc ?_
  by_cases hw:qh v=[]
  ·have hs:zm E l v fl=(⟨0,[]⟩,[]):=by unfold zm;rw[if_neg (by simp[hM]),if_pos hw]
   rw[hs];simp only[↓vS,vT,Nat.reduceEqDiff,↓reduceIte,Nat.reduceAdd,Nat.reduceMul,Nat.reduceSub,Nat.reduceLeDiff,Nat.reduceLT,Int.reduceLE,Int.reduceLT,Int.reduceEq,Int.reduceToNat,hw,List.length_nil];intro _;refine⟨[2],?_⟩;simp[vw,qj,qa,rC,rN]
  ·have hwn:¬((qh v).length:Int)=0:=by have:=List.length_pos_iff.2 hw;omega
   have hs:zm E l v fl=(qh (qE v).1).foldl (qS E fl (qE v).2) (⟨if l.mode=0 then (if (qE v).2=true then 2 else 1) else l.mode,l.calls⟩,[]):=by
    unfold zm;rw[if_neg (by simp[hM]),if_neg hw]
   rw[hs];simp only[↓vS,vT,Nat.reduceEqDiff,↓reduceIte,Nat.reduceAdd,Nat.reduceMul,Nat.reduceSub,Nat.reduceLeDiff,Nat.reduceLT,Int.reduceLE,Int.reduceLT,Int.reduceEq,Int.reduceToNat,hwn];refine (h4 v).sc ?_;rw[qaI]
   have key:∀(m:Int),m=(if l.mode=0 then (if (qE v).2=true then 2 else 1) else l.mode)->zp ⟨m,l.calls⟩=true∧(m=1∨m=2):=by
    intro m hm
    have h12:m=1∨m=2:=by
     rw[hm];split
     ·split<;>simp
     ·have:=hmm.1;omega
    obtain⟨_,a1,a2⟩:=(xC l).1 hM;exact⟨(xC _).2 ⟨⟨by dsimp only;omega,.inl (by dsimp only;omega)⟩,a1,a2⟩,h12⟩
   cases ht:(qE v).2 with
   | true =>
    by_cases h0:l.mode=0
    ·have hu:IntKind.wrap .u8 (1+1)=2:=by decide
     have hu1:IntKind.wrap .u8 1=1:=by decide
     obtain⟨k1,k2⟩:=key 2 (by rw[h0,ht];rfl);rw[show (if l.mode=0 then (if true=true then (2:Int) else 1) else l.mode)=2 from by rw[h0];rfl]
     simp only[↓vS,vT,Nat.reduceEqDiff,↓reduceIte,Nat.reduceAdd,Nat.reduceMul,Nat.reduceSub,Nat.reduceLeDiff,Nat.reduceLT,Int.reduceLE,Int.reduceLT,Int.reduceEq,Int.reduceToNat,h0,hu,hu1];refine S.weak (Wk.mk _ _ [0,1,2,3] ?_ ?_ ?_ rfl) (qau hE h3 h5 h6 h7 h8 h9 h10 fl true (qE v).1 (by omega) ⟨2,l.calls⟩ k1 k2)
     ·simp[vw,wH]
     ·simp[vw,qj,qa,qc]
     ·simp
    ·obtain⟨k1,k2⟩:=key l.mode (by rw[if_neg h0]);rw[show (if l.mode=0 then (if true=true then (2:Int) else 1) else l.mode)=l.mode from if_neg h0]
     simp only[↓vS,vT,Nat.reduceEqDiff,↓reduceIte,Nat.reduceAdd,Nat.reduceMul,Nat.reduceSub,Nat.reduceLeDiff,Nat.reduceLT,Int.reduceLE,Int.reduceLT,Int.reduceEq,Int.reduceToNat,h0];refine S.weak (Wk.mk _ _ [0,1,2,3] ?_ ?_ ?_ rfl) (qau hE h3 h5 h6 h7 h8 h9 h10 fl true (qE v).1 (by omega) ⟨l.mode,l.calls⟩ k1 k2)
     ·simp[vw,wH]
     ·simp[vw,qj,qa,qc]
     ·simp
   | false =>
    by_cases h0:l.mode=0
    ·have hu:IntKind.wrap .u8 (1+0)=1:=by decide
     have hu1:IntKind.wrap .u8 0=0:=by decide
     obtain⟨k1,k2⟩:=key 1 (by rw[h0,ht];rfl);rw[show (if l.mode=0 then (if false=true then (2:Int) else 1) else l.mode)=1 from by rw[h0];rfl]
     simp only[↓vS,vT,Nat.reduceEqDiff,↓reduceIte,Nat.reduceAdd,Nat.reduceMul,Nat.reduceSub,Nat.reduceLeDiff,Nat.reduceLT,Int.reduceLE,Int.reduceLT,Int.reduceEq,Int.reduceToNat,h0,hu,hu1];refine S.weak (Wk.mk _ _ [0,1,2,3] ?_ ?_ ?_ rfl) (qau hE h3 h5 h6 h7 h8 h9 h10 fl false (qE v).1 (by omega) ⟨1,l.calls⟩ k1 k2)
     ·simp[vw,wH]
     ·simp[vw,qj,qa,qc]
     ·simp
    ·obtain⟨k1,k2⟩:=key l.mode (by rw[if_neg h0]);rw[show (if l.mode=0 then (if false=true then (2:Int) else 1) else l.mode)=l.mode from if_neg h0]
     simp only[↓vS,vT,Nat.reduceEqDiff,↓reduceIte,Nat.reduceAdd,Nat.reduceMul,Nat.reduceSub,Nat.reduceLeDiff,Nat.reduceLT,Int.reduceLE,Int.reduceLT,Int.reduceEq,Int.reduceToNat,h0];refine S.weak (Wk.mk _ _ [0,1,2,3] ?_ ?_ ?_ rfl) (qau hE h3 h5 h6 h7 h8 h9 h10 fl false (qE v).1 (by omega) ⟨l.mode,l.calls⟩ k1 k2)
     ·simp[vw,wH]
     ·simp[vw,qj,qa,qc]
     ·simp
end Go.Kc
end
section
/- FoldKeeps, FoldTwice: what the laws answer. Condition: the functions' texts are these. -/
namespace Go.Kc
variable {P:Program} {f:Nat}
def qeQ(P:Program)(f:Nat):Prop:=∀l:List GNote,l.length<=100000->qd P f [.fz l.length (rN l),.fz l.length (rN l)] (.b true)
end Go.Kc
end
section
/- FoldOne: what the law answers. Condition: the functions' texts are these. -/
namespace Go.Kc
variable {P:Program} {f:Nat}
end Go.Kc
end
section
/- What values come to, as the kernel can count it. No condition. -/
namespace Go.Kc
variable (E:List UInt8->List (List UInt8)×Int)
end Go.Kc
end
section
/- What filter.Set answers: its functions. Condition: the functions' texts are these. -/
namespace Go.Kc
variable {P:Program} {f:Nat}
def z0(a:Asg)(n:GNote):GNote:=⟨a.file,a.line,n.err,n.text⟩
theorem qdE{l:List GNote}{i:Nat}{c:GNote}(h:l[i]?=some c):rN l=rN (l.take i)++([.s c.file,.i .i64 c.line,.i .i64 c.err,.s c.text]++rN (l.drop (i+1))):=by
 obtain⟨hi,rfl⟩:=List.getElem?_eq_some_iff.1 h
 have:l=l.take i++([l[i]]++l.drop (i+1)):=by
  rw[List.singleton_append,← List.drop_eq_getElem_cons hi,List.take_append_drop]
 conv=>lhs;rw[this]
 rw[← yd,← yd];rfl
theorem qjt{l:List GNote}{i:Nat}{c d:GNote}(h:l[i]?=some c):rN (l.set i d)=rN (l.take i)++([.s d.file,.i .i64 d.line,.i .i64 d.err,.s d.text]++rN (l.drop (i+1))):=by
 obtain⟨hi,_⟩:=List.getElem?_eq_some_iff.1 h;rw[List.set_eq_take_append_cons_drop,if_pos hi,← yd];rfl
theorem qmb{l:List GNote}{i:Nat}{c:GNote}(h:l[i]?=some c)(s:List UInt8):(rN l).take (i*4)++(.s s::(rN l).drop (i*4+1))=rN (l.set i ⟨s,c.line,c.err,c.text⟩):=by
 have hi:i<=l.length:=Nat.le_of_lt (List.getElem?_eq_some_iff.1 h).1;have hl:(rN (l.take i)).length=i*4:=by rw[jq,List.length_take];omega
 rw[qjt h,qdE h,List.take_left' hl,← List.drop_drop,List.drop_left' hl];rfl
theorem qmc{l:List GNote}{i:Nat}{c:GNote}(h:l[i]?=some c)(n:Int):(rN l).take (i*4+1)++(.i .i64 n::(rN l).drop (i*4+2))=rN (l.set i ⟨c.file,n,c.err,c.text⟩):=by
 have hi:i<=l.length:=Nat.le_of_lt (List.getElem?_eq_some_iff.1 h).1;have hl:(rN (l.take i)).length=i*4:=by rw[jq,List.length_take];omega
 rw[qjt h,qdE h,← hl,List.take_length_add_append,List.drop_length_add_append,List.append_assoc];rfl
def kZ:IFn:=⟨[.tmp 2],.seq (.r [.m 2 (.c (.nilp))]) (.seq (.r [.n 3 0,.q 4 (.nilChk (.t 3)),.f 5 1 4,.n 2 5]) (.ret))⟩
theorem qof(hc:qk P f kZ=true)(p:Pol):Upd P f [.ptr 0 0] [.cells 0 true false (qi p)] (.ptr 0 1) [.cells 0 true false (qi p)]:=by
 refine Upd.mk hc (by simp[xA,bnd]) (by simp) ?_;simp only[kZ,qi,vI,simprocAttr];simp only[↓vS,vT,simprocAttr];intro _;refine⟨[0],?_⟩;simp[vw]
 try decide
def k7:IFn:=⟨[.tmp 2],.seq (.r [.m 2 (.c (.nilp))]) (.seq (.r [.n 3 0,.q 4 (.nilChk (.t 3)),.f 5 4 4,.n 2 5]) (.ret))⟩
theorem qog(hc:qk P f k7=true)(p:Pol):Upd P f [.ptr 0 0] [.cells 0 true false (qi p)] (.ptr 0 4) [.cells 0 true false (qi p)]:=by
 refine Upd.mk hc (by simp[xA,bnd]) (by simp) ?_;simp only[k7,qi,vI,simprocAttr];simp only[↓vS,vT,simprocAttr];intro _;refine⟨[0],?_⟩;simp[vw]
 try decide
end Go.Kc
end
section
/- What the keys of filter do to a policy. Condition: the functions' texts are these. -/
namespace Go.Kc
variable {P:Program} {f:Nat}
def jF(a:Nat):IFn:=⟨[.tmp 6],.seq (.r [.m 6 .N]) (.seq (.r [.d 10 2,.n 11 0,⟨(some 12),.callV (.t 10) [.t 11],none⟩,.n 7 12]) (.seq (.reg true [.n 14 7,.q 15 (.nilChk (.t 14)),.v 16 2 15,.n 17 1,.d 18 3,.l 19 a [.t 16,.t 17,.t 18],.n 13 19,.x 20 13 0,.x 21 13 1,.q 8 (.alloc [.i .u8 0,.nils]),.u (.store 2 (.t 8) (.t 20)),.n 9 21]) (.seq (.r [.n 22 7,.v 23 2 8,.q 24 (.nilChk (.t 22)),.u (.store 2 (.t 24) (.t 23))]) (.seq (.r [.n 25 9,.n 6 25]) (.ret)))))⟩
theorem qk2{g1 g2:Nat}{E:List UInt8->List (List UInt8)×Int}(hc:qk P f (jF g2)=true)(h1:∀p,Upd P g1 [.ptr 0 0] [.cells 0 true false (qi p)] (.ptr 0 1) [.cells 0 true false (qi p)])(h2:qcl E P g2)(p:Pol)(v:List UInt8)(fl:Bool)
  (hl:p.filter.calls.length<=100000) (hv:v.length<=1000) (hm:0<=p.filter.mode) :
  Upd P f [.ptr 0 0,.s v,.pf [.fn g1 [] []] 0,.pf [.b fl] 0] [.cells 0 true false (qi p)] (.own 1 (zm E p.filter v fl).2.length) [.cells 0 true false (qi { p with filter:=(zm E p.filter v fl).1 }),.cells 4 true true (rN (zm E p.filter v fl).2)]:=by
 refine Upd.mk hc (by simp[xA,bnd,qX,clo,qx]) (by simp) ?_;simp only[jF,qi,vI,simprocAttr];simp only[↓vS,vT,simprocAttr];refine (h1 p).sc (vs:=[.ptr 0 0]) [0] (Lent.of (by decide) ?_) ?_
 ·simp[vL,vw,qi,qX,clo,qt]
 simp only[vK,simprocAttr,qi,qt,clo];simp only[↓vS,vT,simprocAttr];refine qW ?_;simp only[↓vS,vT,simprocAttr];refine (h2 p.filter v fl hl hv hm).pc ?_;simp only[vJ,simprocAttr,qj];simp only[↓vS,vT,simprocAttr];intro _;refine⟨[0,1],?_⟩;simp[vw,qi,qa,qb,qc,qe,zV qb]
 try decide
theorem qk3{g1 g2:Nat}{E:List UInt8->List (List UInt8)×Int}(hc:qk P f (jF g2)=true)(h1:∀p,Upd P g1 [.ptr 0 0] [.cells 0 true false (qi p)] (.ptr 0 4) [.cells 0 true false (qi p)])(h2:qcl E P g2)(p:Pol)(v:List UInt8)(fl:Bool)
  (hl:p.log.calls.length<=100000) (hv:v.length<=1000) (hm:0<=p.log.mode) :
  Upd P f [.ptr 0 0,.s v,.pf [.fn g1 [] []] 0,.pf [.b fl] 0] [.cells 0 true false (qi p)] (.own 1 (zm E p.log v fl).2.length) [.cells 0 true false (qi { p with log:=(zm E p.log v fl).1 }),.cells 4 true true (rN (zm E p.log v fl).2)]:=by
 refine Upd.mk hc (by simp[xA,bnd,qX,clo,qx]) (by simp) ?_;simp only[jF,qi,vI,simprocAttr];simp only[↓vS,vT,simprocAttr];refine (h1 p).sc (vs:=[.ptr 0 0]) [0] (Lent.of (by decide) ?_) ?_
 ·simp[vL,vw,qi,qX,clo,qt]
 simp only[vK,simprocAttr,qi,qt,clo];simp only[↓vS,vT,simprocAttr];refine qW ?_;simp only[↓vS,vT,simprocAttr];refine (h2 p.log v fl hl hv hm).pc ?_;simp only[vJ,simprocAttr,qj];simp only[↓vS,vT,simprocAttr];intro _;refine⟨[0,1],?_⟩;simp[vw,qi,qa,qb,qc,qe,zV qb]
 try decide
def jE(a:Nat):IFn:=⟨[.tmp 4],.seq (.r [.m 4 .N]) (.seq (.r [.n 8 1,.l 9 a [.t 8],.n 7 9,.x 10 7 0,.x 11 7 1,.n 5 10,.n 6 11]) (.seq (.seq (.r [.n 12 6,.w 13 .neq 12 0]) (.cond (.t 13) (.seq (.r [.n 14 6,.n 15 1,.n 16 1,.q 17 (.len true (.t 16)),.q 18 (.min (.t 17) (.k 60)),.q 19 (.slcStr (.t 15) none (some (.t 18))),.q 20 (.build [.s [],.i .i64 0,.i .i64 0,.s []] [(2,1,(.t 14)),(3,1,(.t 19))]),.q 21 (.buildS 1 [.s [],.i .i64 0,.i .i64 0,.s []] [(0,4,(.t 20))]),.n 4 21]) (.ret)) (.skip))) (.seq (.r [.n 22 0,.n 23 5,.q 24 (.nilChk (.t 22)),.f 25 3 24,.u (.store 1 (.t 25) (.t 23))]) (.seq (.r [.m 4 .N]) (.ret)))))⟩
theorem qgd{g1:Nat}(hc:qk P f (jE g1)=true)(h1:qbL P g1)(p:Pol)(v:List UInt8)(hv:v.length<=1000)(he:(wC v).2=0) :
  Upd P f [.ptr 0 0,.s v] [.cells 0 true false (qi p)] (.own 1 0) [.cells 0 true false (qi { p with deny:=(wC v).1 }),.cells 4 true true []]:=by
 refine Upd.mk hc (by simp[xA,bnd]) (by simp) ?_;simp only[jE,qi,vI,simprocAttr];simp only[↓vS,vT,simprocAttr];refine (h1 v (by omega)).sc ?_;simp only[↓vS,vT,simprocAttr,he];intro _;refine⟨[0,1],?_⟩;simp[vw,qi,qa,qb,qc,qe]
 try decide
theorem qgc{g1:Nat}(hc:qk P f (jE g1)=true)(h1:qbL P g1)(p:Pol)(v:List UInt8)(hv:v.length<=1000)(he:¬(wC v).2=0) :
  Upd P f [.ptr 0 0,.s v] [.cells 0 true false (qi p)] (.sl 1 0 1 1 false) [.cells 0 true false (qi p),.cells 0 true false (rN [zt (wC v).2 v])]:=by
 refine Upd.mk hc (by simp[xA,bnd]) (by simp) ?_;simp only[jE,qi,vI,simprocAttr];simp only[↓vS,vT,simprocAttr];refine (h1 v (by omega)).sc ?_;simp only[↓vS,vT,simprocAttr,he]
 by_cases h60:(60:Int)<v.length
 ·have h1:60<=v.length:=by omega
  simp only[↓vS,vT,simprocAttr,h60,h1,List.drop_zero];intro _;refine⟨[0,1],?_⟩;simp[vw,qa,rN,wS,zt,qe,qc,qi]
  try decide
 ·have h1:v.take 60=v:=List.take_of_length_le (by omega);simp only[↓vS,vT,simprocAttr,h60,List.take_length,List.drop_zero];intro _;refine⟨[0,1],?_⟩;simp[vw,qa,rN,wS,zt,qe,qc,qi,h1]
  try decide
end Go.Kc
end
section
/- What filter.Set answers. Condition: the functions' texts are these. -/
namespace Go.Kc
variable {P:Program} {f:Nat}
def xw:List AV:=[.nils,.i .u8 0,.nils,.i .u32 0,.i .u8 0,.nils,.nils,.i .u8 0,.i .u64 0,.b false,.b false,.b false,.b false]
theorem qep{a:Asg}{ns:List GNote}{j:Nat}(h:j<ns.length):((ns.take j).map (z0 a)++ns.drop j)[j]?=some ns[j]:=by
 rw[List.getElem?_append_right (by simp;omega)];simp[Nat.min_eq_left (Nat.le_of_lt h),h]
theorem qeq{a:Asg}{ns:List GNote}{j:Nat}(h:j<ns.length)(d:GNote)(hd:d=z0 a ns[j]):((ns.take j).map (z0 a)++ns.drop j).set j d=(ns.take (j+1)).map (z0 a)++ns.drop (j+1):=by
 have hl:((ns.take j).map (z0 a)).length=j:=by simp;omega
 rw[List.set_append,if_neg (by omega),hl,Nat.sub_self,List.drop_eq_getElem_cons h,List.set_cons_zero,List.take_add_one,List.getElem?_eq_getElem h,hd,List.map_append,List.append_assoc];rfl
def jD(a b:Nat):ICode:=.seq (.seq (.r [.n 26 8,.e 27 26,.m 28 (.k 0)]) (.blk 0 (.loop (.seq (.r [.s 29 28 27]) (.seq (.cond (.t 29) (.skip) (.exit 0)) (.seq (.blk 1 (.seq (.r [.n 30 28,.n 9 30]) (.reg true [.n 31 8,.n 32 9,.n 33 8,.n 34 9,.f 35 0 3,.d 36 35,.f 37 1 3,.d 38 37,.i 39 4 31 32,.f 40 0 39,.u (.storeD 1 (.t 40) (.t 36) [37]),.i 41 4 33 34,.f 42 1 41,.u (.store 1 (.t 42) (.t 38))]))) (.r [.a 43 28 1,.n 28 43]))))))) (.seq (.r [.v 44 13 2,.n 45 8,.u (.store 13 (.t 4) (.t 44)),.n 5 45]) (.ret))
def wE(a b:Nat):ICode:=.seq (.r [.n 22 6,.f 23 4 3,.d 24 23,⟨(some 25),.callV (.t 22) [.t 2,.t 24],none⟩,.n 8 25]) (.cut (jD a b))
def Jp(a b:Nat):IFn:=⟨[.cell 4 13 true,.tmp 5],.seq (.r [.q 2 (.box (.t 0)),.q 3 (.box (.t 1)),.q 4 (.alloc [.nils,.i .u8 0,.nils,.i .u32 0,.i .u8 0,.nils,.nils,.i .u8 0,.i .u64 0,.b false,.b false,.b false,.b false]),.m 5 .N]) (.seq (.r [.v 10 13 2,.l 11 a [.t 10],.u (.store 13 (.t 2) (.t 11))]) (.seq (.reg true [.l 13 b [],.f 14 3 3,.d 15 14,.q 16 (.lookM none true (.nilf) (.t 13) (.t 15)),.n 12 16,.x 17 12 0,.x 18 12 1,.n 6 17,.n 7 18]) (.seq (.seq (.r [.n 19 7,.q 20 (.un .not (.t 19))]) (.cond (.t 20) (.seq (.r [.v 21 13 2,.u (.store 13 (.t 4) (.t 21)),.m 5 .N]) (.ret)) (.skip))) (.cut (wE a b)))))⟩
theorem WL(g1 g2:Nat)(q:Pol)(a:Asg)(ns:List GNote)(hn:ns.length<=100000) :
  S P 0 (jD g1 g2) (xg [.cell 4 13 true,.tmp 5] (fun v' h'=>Frz h' v' (.tup [.agg (qi q),.fz ns.length (rN (ns.map (z0 a)))])))
   (mkT [(2,.ptr 0 0),(3,.ptr 1 0),(4,.ptr 2 0),(8,.own 3 ns.length)]) (mkH 0 [.cells 0 true false (qi q),.cells 0 true false (qF a),.cells 0 true false xw,.cells 4 true true (rN ns)]):=by
 refine qr ?_;simp only[jD,qi,qF,xw,vI,simprocAttr];simp only[↓vS,vT,simprocAttr]
 refine SL.loop (α:=Nat) (fun j=>[(2,.ptr 0 0),(3,.ptr 1 0),(4,.ptr 2 0),(8,.own 3 ns.length),(27,.i .i64 ns.length),(28,.i .i64 j)])
  (fun j=>[.cells 0 true false (qi q),.cells 0 true false (qF a),.cells 0 true false xw,.cells 4 true true (rN ((ns.take j).map (z0 a)++ns.drop j))]) (fun j=>j<=ns.length) (fun j=>ns.length-j) 0 [0,1,2,3] ?_ ?_ ?_ rfl ?_ ?_
 ·simp[vw]
 ·simp[vw,qi,qF,xw,qa,qb]
  try decide
 ·simp
 ·exact Nat.zero_le _
 rintro j hj G ih;simp only[qi,qF,xw,vI,simprocAttr]
 by_cases hlt:j<ns.length
 ·have hw:IntKind.wrap .i64 ((j:Int)+1)=((j+1:Nat):Int):=by rw[qq (by omega) (by omega)];omega
  have hx:=qep (a:=a) hlt;have hset:=qeq (a:=a) hlt (z0 a ns[j]) rfl;have ih2:=ih (j+1);rw[← hset] at ih2;generalize hL:(ns.take j).map (z0 a)++ns.drop j=L at hx ih2;have hLl:L.length=ns.length:=by rw[← hL];simp;omega
  have e0:=qmb hx a.file;have hx1:(L.set j ⟨a.file,ns[j].line,ns[j].err,ns[j].text⟩)[j]?=some ⟨a.file,ns[j].line,ns[j].err,ns[j].text⟩:=by rw[List.getElem?_set];simp;omega
  have e1:=qmc hx1 a.line;rw[List.set_set] at e1;have hlen:(rN L).length=ns.length*4:=by rw[jq,hLl]
  have hlen1:(rN (L.set j ⟨a.file,ns[j].line,ns[j].err,ns[j].text⟩)).length=ns.length*4:=by rw[jq,List.length_set,hLl]
  have hb0:j*4+1<=ns.length*4:=by omega
  have hb1:j*4+2<=ns.length*4:=by omega
  simp only[↓vS,vT,simprocAttr,hlt];refine qW ?_;simp (decide:=true) only [↓vS,vT,simprocAttr,hlt,hlen,hlen1,hb0,hb1,e0,e1,hw];refine ih2 (by omega) (by omega) _ _ (Wk.mk _ _ [0,1,2,3] ?_ ?_ ?_ rfl)
  ·simp[vw]
  ·simp[vw,qi,qF,xw,qa,qb,z0]
   try decide
  ·simp
 ·have hjl:ns.take j=ns:=List.take_of_length_le (by omega);have hdl:ns.drop j=[]:=List.drop_of_length_le (by omega);rw[hjl,hdl,List.append_nil];simp (decide:=true) only [↓vS,vT,simprocAttr,hlt];simp[vZ,vP,Tr.get_set,qi,qe,qn,qb,qc];intro h0;rw[h0];rfl
theorem qiv(g1 g2:Nat)(q:Pol)(a:Asg)(n:GNote) :
  S P 0 (jD g1 g2) (xg [.cell 4 13 true,.tmp 5] (fun v' h'=>Frz h' v' (.tup [.agg (qi q),.fz 1 (rN [z0 a n])])))
   (mkT [(2,.ptr 0 0),(3,.ptr 1 0),(4,.ptr 2 0),(8,.sl 3 0 1 1 false)]) (mkH 0 [.cells 0 true false (qi q),.cells 0 true false (qF a),.cells 0 true false xw,.cells 0 true false (rN [n])]):=by
 have hw:IntKind.wrap .i64 (0+1)=1:=by decide
 refine qr ?_;simp only[jD,qi,qF,xw,qes,vI,simprocAttr];simp only[↓vS,vT,simprocAttr];refine vb ?_;simp (decide:=true) only [↓vS,vT,simprocAttr];refine qW ?_;simp (decide:=true) only [↓vS,vT,simprocAttr,hw];refine vb ?_;simp (decide:=true) only [↓vS,vT,simprocAttr];simp[vZ,vP,Tr.get_set,qi,qe,qn,qes,qc,z0];exact Frz.cut 4 rfl (Nat.le_refl _) (by simp[vP,Tr.get_set,vZ])
noncomputable def jw(E:List UInt8->List (List UInt8)×Int)(p:Pol)(k v:List UInt8):Pol×List GNote :=
 if k=kv then ({ p with filter:=(zm E p.filter v true).1 },(zm E p.filter v true).2)
 else if k=qaZ then ({ p with log:=(zm E p.log v false).1 },(zm E p.log v false).2)
 else if k=VC then (if (wC v).2=0 then ({ p with deny:=(wC v).1 },[]) else (p,[zt (wC v).2 v]))
 else (p,[])
def qmF(E:List UInt8->List (List UInt8)×Int)(P:Program)(f:Nat):Prop:=∀(p:Pol) (a:Asg),PolOk p->0<=p.filter.mode∧0<=p.log.mode->a.val.length<=1000->
 qd P f [.agg (qi p),.agg (qF a)] (.tup [.agg (qi (jw E p a.key a.val).1),.fz (jw E p a.key a.val).2.length (rN ((jw E p a.key a.val).2.map (z0 a)))])
theorem qqF{g1 g2 l m1 m2 m3 e s0:Nat}{E:List UInt8->List (List UInt8)×Int}(hc:qk P f (Jp g1 g2)=true)(h1:qae P g1)(h2:Own P g2 [] (.map 0) [.map (qbX l m1 m2 m3)])
  (hl:qk P l (jF s0)=true) (hs:qcl E P s0) (hm1:qk P m1 kZ=true) (hm2:qk P m2 k7=true) (hm3:qk P m3 (jE e)=true) (he:qbL P e):qmF E P f:=by
 intro p a hp hm hv;have hpc:=hp.c;have hpl:=hp.l;refine qd.mk hc rfl ?_;generalize hT:AV.tup [.agg (qi (jw E p a.key a.val).1),.fz (jw E p a.key a.val).2.length (rN ((jw E p a.key a.val).2.map (z0 a)))]=tgt;simp only[Jp,qi,qF,vI,simprocAttr];simp only[↓vS,vT,simprocAttr];refine (h1 p hp).sc ?_;simp (decide:=true) only [↓vS,vT,simprocAttr,qi];refine qW ?_;simp only[↓vS,vT,simprocAttr];refine h2.pc ?_;simp only[vJ,simprocAttr,qbX];simp only[↓vS,vT,simprocAttr];subst hT
 by_cases n0:a.key=kv
 ·have hM:jw E p a.key a.val=({ p with filter:=(zm E p.filter a.val true).1 },(zm E p.filter a.val true).2):=by unfold jw;rw[if_pos n0]
  rw[hM];have hlen:=Qa (E:=E) p.filter a.val true;simp only[↓vS,vT,simprocAttr,n0,if_true];refine S.weak (Wk.mk [(2,.ptr 0 0),(3,.ptr 1 0),(4,.ptr 2 0),(6,.fn l [] [.pf [.fn m1 [] []] 0,.pf [.b true] 0])] [.cells 0 true false (qi p),.cells 0 true false (qF a),.cells 0 true false xw] [0,1,2] ?_ ?_ ?_ rfl) (qr ?_)
  ·simp[vw,clo,qx]
  ·simp[vw,qi,qF,xw,qa]
   try decide
  ·simp
  simp only[wE,qF,xw,vI,simprocAttr];simp only[↓vS,vT,simprocAttr];refine (qk2 hl (qof hm1) hs p a.val true (by omega) hv hm.1).sc (vs:=[.ptr 0 0,.s a.val,.pf [.fn m1 [] []] 0,.pf [.b true] 0]) [0] (Lent.of (by decide) ?_) ?_
  ·simp[vL,vw,qi,qX,clo,qx,qt]
  simp only[vK,simprocAttr,ql qb,ql (XW _),qt,clo];simp only[↓vS,vT,simprocAttr];refine S.weak (Wk.mk _ _ [0,1,2,3] ?_ ?_ ?_ rfl) (WL g1 g2 { p with filter:=(zm E p.filter a.val true).1 } a (zm E p.filter a.val true).2 (by omega))
  ·simp[vw]
  ·simp[vw,qi,qF,xw,qa,qb]
   try decide
  ·simp
 by_cases n1:a.key=qaZ
 ·have hM:jw E p a.key a.val=({ p with log:=(zm E p.log a.val false).1 },(zm E p.log a.val false).2):=by unfold jw;rw[if_neg n0,if_pos n1]
  rw[hM];have hlen:=Qa (E:=E) p.log a.val false;simp only[↓vS,vT,simprocAttr,n0,n1,if_true];refine S.weak (Wk.mk [(2,.ptr 0 0),(3,.ptr 1 0),(4,.ptr 2 0),(6,.fn l [] [.pf [.fn m2 [] []] 0,.pf [.b false] 0])] [.cells 0 true false (qi p),.cells 0 true false (qF a),.cells 0 true false xw] [0,1,2] ?_ ?_ ?_ rfl) (qr ?_)
  ·simp[vw,clo,qx]
  ·simp[vw,qi,qF,xw,qa]
   try decide
  ·simp
  simp only[wE,qF,xw,vI,simprocAttr];simp only[↓vS,vT,simprocAttr];refine (qk3 hl (qog hm2) hs p a.val false (by omega) hv hm.2).sc (vs:=[.ptr 0 0,.s a.val,.pf [.fn m2 [] []] 0,.pf [.b false] 0]) [0] (Lent.of (by decide) ?_) ?_
  ·simp[vL,vw,qi,qX,clo,qx,qt]
  simp only[vK,simprocAttr,ql qb,ql (XW _),qt,clo];simp only[↓vS,vT,simprocAttr];refine S.weak (Wk.mk _ _ [0,1,2,3] ?_ ?_ ?_ rfl) (WL g1 g2 { p with log:=(zm E p.log a.val false).1 } a (zm E p.log a.val false).2 (by omega))
  ·simp[vw]
  ·simp[vw,qi,qF,xw,qa,qb]
   try decide
  ·simp
 by_cases n2:a.key=VC
 ·simp only[↓vS,vT,simprocAttr,n0,n1,n2,if_true];refine S.weak (Wk.mk [(2,.ptr 0 0),(3,.ptr 1 0),(4,.ptr 2 0),(6,.fn m3 [] [])] [.cells 0 true false (qi p),.cells 0 true false (qF a),.cells 0 true false xw] [0,1,2] ?_ ?_ ?_ rfl) (qr ?_)
  ·simp[vw,clo,qx]
  ·simp[vw,qi,qF,xw,qa]
   try decide
  ·simp
  simp only[wE,qF,xw,vI,simprocAttr];simp only[↓vS,vT,simprocAttr]
  by_cases hz:(wC a.val).2=0
  ·have hM:jw E p a.key a.val=({ p with deny:=(wC a.val).1 },[]):=by unfold jw;rw[if_neg n0,if_neg n1,if_pos n2,if_pos hz]
   rw[hM];refine (qgd hm3 he p a.val hv hz).sc (vs:=[.ptr 0 0,.s a.val]) [0] (Lent.of (by decide) ?_) ?_
   ·simp[vL,vw,qi,qX,clo,qx,qt]
   simp only[vK,simprocAttr,ql (XW _),qt,clo];simp only[↓vS,vT,simprocAttr];refine S.weak (Wk.mk _ _ [0,1,2,3] ?_ ?_ ?_ rfl) (WL g1 g2 { p with deny:=(wC a.val).1 } a [] (by simp))
   ·simp[vw]
   ·simp[vw,qi,qF,xw,qa,vh]
    try decide
   ·simp
  ·have hM:jw E p a.key a.val=(p,[zt (wC a.val).2 a.val]):=by unfold jw;rw[if_neg n0,if_neg n1,if_pos n2,if_neg hz]
   rw[hM];refine (qgc hm3 he p a.val hv hz).sc (vs:=[.ptr 0 0,.s a.val]) [0] (Lent.of (by decide) ?_) ?_
   ·simp[vL,vw,qi,qX,clo,qx,qt]
   simp only[vK,simprocAttr,ql qb,ql (XW _),qt,clo];simp only[↓vS,vT,simprocAttr];refine S.weak (Wk.mk _ _ [0,1,2,3] ?_ ?_ ?_ rfl) (qiv g1 g2 p a (zt (wC a.val).2 a.val))
   ·simp[vw]
   ·simp[vw,qi,qF,xw,qa,qb]
    try decide
   ·simp
 ·have hM:jw E p a.key a.val=(p,[]):=by unfold jw;rw[if_neg n0,if_neg n1,if_neg n2]
  rw[hM];simp only[↓vS,vT,simprocAttr,n0,n1,n2,if_false];simp[vZ,vP,Tr.get_set,qi,qe,qn,rN,qc]
end Go.Kc
end
section
/- FilterOwn: what the law answers. Condition: the functions' texts are these. -/
namespace Go.Kc
variable {P:Program} {f:Nat}
theorem qjI(E:List UInt8->List (List UInt8)×Int)(p:Pol)(k v:List UInt8):(jw E p k v).2.length<=v.length+1:=by
 have h1:=Qa (E:=E) p.filter v true;have h2:=Qa (E:=E) p.log v false;unfold jw
 repeat' split
 all_goals simp
 all_goals omega
def qnK(P:Program)(f:Nat):Prop:=∀l:GList,l.calls.length<=100000->qd P f [.agg (qj l),.agg (qj l)] (.b true)
end Go.Kc
end
section
/- What fold.Put and fold.Take answer, in rows of one's own. Condition: the functions' texts are these. -/
namespace Go.Kc
variable {P:Program} {f:Nat}
end Go.Kc
end
section
/- What the document's reading of values answers. Condition: the functions' texts are these. -/
namespace Go.Kc
variable {P:Program} {f:Nat}
def vD:IFn:=⟨[.tmp 2],.seq (.r [.m 2 .N]) (.seq (.r [.m 3 .N]) (.seq (.r [.m 4 (.c (.s []))]) (.seq (.seq (.r [.m 5 (.k 0)]) (.blk 0 (.loop (.seq (.seq (.r [.n 6 5,.n 7 0,.q 8 (.len true (.t 7)),.b 9 .leq 6 8]) (.cond (.t 9) (.skip) (.exit 0))) (.seq (.blk 1 (.seq (.seq (.r [.n 12 5,.n 13 0,.q 14 (.len true (.t 13)),.s 15 12 14,.n 16 15,.y 17 0 16,.y 18 5 16,.g 19 (.idxS (.t 17) (.t 18)) 16 true,.g 20 (.bin .neq (.t 19) (.c (.i .u8 32))) 16 true,.p 21 16 20,.n 22 21,.y 23 0 22,.y 24 5 22,.g 25 (.idxS (.t 23) (.t 24)) 22 true,.g 26 (.bin .neq (.t 25) (.c (.i .u8 9))) 22 true,.p 27 22 26,.n 28 27,.y 29 0 28,.y 30 5 28,.g 31 (.idxS (.t 29) (.t 30)) 28 true,.g 32 (.bin .neq (.t 31) (.c (.i .u8 13))) 28 true,.p 33 28 32]) (.cond (.t 33) (.seq (.r [.n 34 4,.n 35 0,.n 36 5,.n 37 5,.a 38 37 1,.q 39 (.slcStr (.t 35) (some (.t 36)) (some (.t 38))),.b 40 .add 34 39,.n 4 40]) (.exit 1)) (.skip))) (.seq (.seq (.r [.n 41 4,.q 42 (.bin .neq (.t 41) (.c (.s [])))]) (.cond (.t 42) (.r [.n 43 3,.n 44 4,.q 45 (.buildS 1 [.s []] [(0,1,(.t 44))]),.q 46 (.app 1 16 true (.t 43) (.t 45)),.n 3 46]) (.skip))) (.r [.m 4 (.c (.s []))])))) (.r [.n 10 5,.a 11 10 1,.n 5 11])))))) (.seq (.r [.n 47 3,.n 2 47]) (.ret)))))⟩
theorem qeh(c:UInt8):JK c=(decide ((c.toNat:Int)=32)||decide ((c.toNat:Int)=9)||decide ((c.toNat:Int)=13)):=by rw[qaX];rfl
theorem qsO(hc:qk P f vD=true)(s:List UInt8)(hs:s.length<=1000000):qd P f [.s s] (.fz (qh s).length (rS (qh s))):=by
 refine qd.mk hc rfl ?_;simp only[vD,vI,simprocAttr];simp only[↓vS,vT,simprocAttr]
 refine SL.loop (α:=Nat×List UInt8×List (List UInt8)) (fun q=>[(0,.s s),(3,.own 0 q.2.2.length),(4,.s q.2.1),(5,.i .i64 q.1)]) (fun q=>[.cells 1 true true (rS q.2.2)])
  (fun q=>(q.1<=s.length∧q.2.1.length<=q.1∧q.2.2.length<=q.1∧q.2.2++wB (s.drop q.1) q.2.1=qh s)∨(q.1=s.length+1∧q.2.2=qh s)) (fun q=>s.length+1-q.1) (0,[],[]) [0] ?_ ?_ ?_ rfl ?_ ?_
 ·simp[vw]
 ·simp[vw,qpq]
 ·simp
 ·left;exact⟨Nat.zero_le _,Nat.le_refl _,Nat.le_refl _,by rw[qbw];rfl⟩
 rintro⟨i,w,acc⟩ hI G ih;dsimp only at hI ih ⊢;simp only[vI,simprocAttr];rcases hI with⟨hi,hw,ha,hI⟩|⟨rfl,hI⟩
 ·have hle:(i:Int)<=s.length:=by omega
  have hw1:IntKind.wrap .i64 ((i:Int)+1)=((i+1:Nat):Int):=by rw[qq (by omega) (by omega)];omega
  by_cases hlt:i<s.length
  ·have hx:s[i]?=some s[i]:=List.getElem?_eq_getElem hlt
   have hsub:(s.take (i+1)).drop i=[s[i]]:=by
    rw[List.take_add_one,hx,List.drop_append_of_le_length (by simp;omega),List.drop_of_length_le (by simp;omega)];rfl
   rw[List.drop_eq_getElem_cons hlt,wB] at hI;generalize s[i]=c at hx hsub hI;have hsp:=qeh c
   by_cases c1:(c.toNat:Int)=32
   ·have hs1:JK c=true:=by rw[hsp];simp[c1]
    rw[hs1,if_pos rfl] at hI
    by_cases hwn:w=[]
    ·subst hwn;rw[if_pos rfl] at hI;simp only[↓vS,vT,simprocAttr,hle,hlt,hx,c1,hw1];refine ih (i+1,[],acc) (.inl ⟨hlt,by simp,by dsimp only;omega,hI⟩) (by dsimp only;omega) _ _ (Wk.mk _ _ [0] ?_ ?_ ?_ rfl)
     ·simp[vw]
     ·simp[vw,qa,zf]
     ·simp
    ·rw[if_neg hwn] at hI;have hr1:acc.length+1<=qf:=by simp only[qf];omega
     have hr2:(acc.length+1)*16<=qf:=by simp only[qf];omega
     have hap:rS acc++[AV.s w]=rS (acc++[w]):=by rw[← qcG];rfl
     simp (decide:=true) only [↓vS,vT,simprocAttr,hle,hlt,hx,c1,hw1,hwn,hr1,hr2,qcH,Nat.mul_one,hap];refine ih (i+1,[],acc++[w]) (.inl ⟨hlt,by simp,by simp;omega,by simpa using hI⟩) (by dsimp only;omega) _ _ (Wk.mk _ _ [2] ?_ ?_ ?_ rfl)
     ·simp[vw]
     ·simp[vw,qa,zf]
     ·simp
   by_cases c2:(c.toNat:Int)=9
   ·have hs1:JK c=true:=by rw[hsp];simp[c2]
    rw[hs1,if_pos rfl] at hI
    by_cases hwn:w=[]
    ·subst hwn;rw[if_pos rfl] at hI;simp only[↓vS,vT,simprocAttr,hle,hlt,hx,c1,c2,hw1];refine ih (i+1,[],acc) (.inl ⟨hlt,by simp,by dsimp only;omega,hI⟩) (by dsimp only;omega) _ _ (Wk.mk _ _ [0] ?_ ?_ ?_ rfl)
     ·simp[vw]
     ·simp[vw,qa,zf]
     ·simp
    ·rw[if_neg hwn] at hI;have hr1:acc.length+1<=qf:=by simp only[qf];omega
     have hr2:(acc.length+1)*16<=qf:=by simp only[qf];omega
     have hap:rS acc++[AV.s w]=rS (acc++[w]):=by rw[← qcG];rfl
     simp (decide:=true) only [↓vS,vT,simprocAttr,hle,hlt,hx,c1,c2,hw1,hwn,hr1,hr2,qcH,Nat.mul_one,hap];refine ih (i+1,[],acc++[w]) (.inl ⟨hlt,by simp,by simp;omega,by simpa using hI⟩) (by dsimp only;omega) _ _ (Wk.mk _ _ [2] ?_ ?_ ?_ rfl)
     ·simp[vw]
     ·simp[vw,qa,zf]
     ·simp
   by_cases c3:(c.toNat:Int)=13
   ·have hs1:JK c=true:=by rw[hsp];simp[c3]
    rw[hs1,if_pos rfl] at hI
    by_cases hwn:w=[]
    ·subst hwn;rw[if_pos rfl] at hI;simp only[↓vS,vT,simprocAttr,hle,hlt,hx,c1,c2,c3,hw1];refine ih (i+1,[],acc) (.inl ⟨hlt,by simp,by dsimp only;omega,hI⟩) (by dsimp only;omega) _ _ (Wk.mk _ _ [0] ?_ ?_ ?_ rfl)
     ·simp[vw]
     ·simp[vw,qa,zf]
     ·simp
    ·rw[if_neg hwn] at hI;have hr1:acc.length+1<=qf:=by simp only[qf];omega
     have hr2:(acc.length+1)*16<=qf:=by simp only[qf];omega
     have hap:rS acc++[AV.s w]=rS (acc++[w]):=by rw[← qcG];rfl
     simp (decide:=true) only [↓vS,vT,simprocAttr,hle,hlt,hx,c1,c2,c3,hw1,hwn,hr1,hr2,qcH,Nat.mul_one,hap];refine ih (i+1,[],acc++[w]) (.inl ⟨hlt,by simp,by simp;omega,by simpa using hI⟩) (by dsimp only;omega) _ _ (Wk.mk _ _ [2] ?_ ?_ ?_ rfl)
     ·simp[vw]
     ·simp[vw,qa,zf]
     ·simp
   ·have hs0:JK c=false:=by rw[hsp];simp[c1,c2,c3]
    rw[hs0,if_neg (by decide)] at hI;have hl1:i+1<=s.length:=hlt;have hcat:w.length+1<=9223372036854775807:=by omega
    simp only[↓vS,vT,simprocAttr,hle,hlt,hx,c1,c2,c3,hw1,hl1,hsub,Nat.le_add_right,List.length_cons,List.length_nil,hcat];refine ih (i+1,w++[c],acc) (.inl ⟨hlt,by simp;omega,by dsimp only;omega,hI⟩) (by dsimp only;omega) _ _ (Wk.mk _ _ [0] ?_ ?_ ?_ rfl)
    ·simp[vw]
    ·simp[vw,qa,zf]
    ·simp
  ·rw[List.drop_of_length_le (by omega)] at hI
   by_cases hwn:w=[]
   ·subst hwn;rw[wB,if_pos rfl] at hI;simp only[↓vS,vT,simprocAttr,hle,hlt,hw1];refine ih (i+1,[],acc) (.inr ⟨by dsimp only;omega,by simpa using hI⟩) (by dsimp only;omega) _ _ (Wk.mk _ _ [0] ?_ ?_ ?_ rfl)
    ·simp[vw]
    ·simp[vw,qa,zf]
    ·simp
   ·rw[wB,if_neg hwn] at hI;have hr1:acc.length+1<=qf:=by simp only[qf];omega
    have hr2:(acc.length+1)*16<=qf:=by simp only[qf];omega
    have hap:rS acc++[AV.s w]=rS (acc++[w]):=by rw[← qcG];rfl
    simp (decide:=true) only [↓vS,vT,simprocAttr,hle,hlt,hw1,hwn,hr1,hr2,qcH,Nat.mul_one,hap];refine ih (i+1,[],acc++[w]) (.inr ⟨by dsimp only;omega,hI⟩) (by dsimp only;omega) _ _ (Wk.mk _ _ [2] ?_ ?_ ?_ rfl)
    ·simp[vw]
    ·simp[vw,qa,zf]
    ·simp
 ·have hgt:¬((s.length+1:Nat):Int)<=s.length:=by omega
  simp only[↓vS,vT,simprocAttr,hgt];subst hI;simp[vZ,vP,Tr.get_set,qn zf];intro h0;rw[h0];rfl
def wZ:IFn:=⟨[.tmp 2,.tmp 3],.seq (.r [.m 2 (.c (.s [])),.m 3 .F]) (.seq (.seq (.r [.n 4 0,.q 5 (.len true (.t 4)),.w 6 .gtr 5 0,.n 7 6,.y 8 0 7,.g 9 (.idxS (.t 8) (.k 0)) 7 true,.g 10 (.bin .eql (.t 9) (.c (.i .u8 126))) 7 true,.p 11 7 10]) (.cond (.t 11) (.seq (.r [.n 12 0,.q 13 (.slcStr (.t 12) (some (.k 1)) none),.n 2 13,.m 3 .T]) (.ret)) (.skip))) (.seq (.r [.n 14 0,.n 2 14,.m 3 .F]) (.ret)))⟩
theorem qsi(hc:qk P f wZ=true)(s:List UInt8):qd P f [.s s] (.tup [.s (qE s).1,.b (qE s).2]):=by
 refine qd.mk hc rfl ?_;simp only[wZ,vI,simprocAttr];cases s with
 | nil =>
  simp only[↓vS,vT,simprocAttr,List.length_nil];simp[vZ,qE]
 | cons c s =>
  have h0:(0:Int)<((c::s).length:Int):=by simp
  have h1:0<(c::s).length:=by simp
  have h2:1<=(c::s).length:=by simp
  have hx:(c::s)[0]?=some c:=rfl
  by_cases hc:(c.toNat:Int)=126
  ·have hc':c=126:=by rw[← UInt8.toNat_inj];have:=hc;simp at this ⊢;omega
   have ht:qE (c::s)=(s,true):=by rw[hc'];simp[qE,List.isPrefixOf]
   simp only[↓vS,vT,simprocAttr,h0,h1,h2,hx,hc,List.take_length,List.drop_succ_cons,List.drop_zero];simp[vZ,ht]
  ·have hc':¬(126:UInt8)=c:=by rintro rfl;exact hc rfl
   have ht:qE (c::s)=(c::s,false):=by unfold qE;rw[if_neg (by simp[List.isPrefixOf,hc'])]
   simp only[↓vS,vT,simprocAttr,h0,h1,hx,hc];simp[vZ,ht]
def x4(a:Nat):ICode:=.seq (.seq (.r [.n 27 4,.w 28 .eql 27 0]) (.cond (.t 28) (.seq (.r [.q 29 (.build [.s [],.i .u32 0,.b false] []),.u (.store 3 (.t 2) (.t 29)),.m 3 (.k 161)]) (.ret)) (.skip))) (.seq (.seq (.r [.n 30 4,.n 31 0,.q 32 (.len true (.t 31)),.b 33 .eql 30 32]) (.cond (.t 33) (.seq (.r [.v 34 3 6,.u (.store 3 (.t 2) (.t 34)),.m 3 (.k 0)]) (.ret)) (.skip))) (.seq (.r [.f 35 2 6,.u (.store 1 (.t 35) .T)]) (.seq (.seq (.r [.n 36 0,.n 37 4,.a 38 37 1,.q 39 (.slcStr (.t 36) (some (.t 38)) none),.q 40 (.bin .eql (.t 39) (.c (.s [107,105,108,108])))]) (.cond (.t 40) (.seq (.r [.f 41 1 6,.u (.store 1 (.t 41) (.c (.i .u32 2147483648)))]) (.seq (.r [.v 42 3 6,.u (.store 3 (.t 2) (.t 42)),.m 3 (.k 0)]) (.ret))) (.skip))) (.seq (.r [.n 44 0,.n 45 4,.a 46 45 1,.q 47 (.slcStr (.t 44) (some (.t 46)) none),.l 48 a [.t 47],.n 43 48,.x 49 43 0,.x 50 43 1,.n 7 49,.n 8 50]) (.seq (.seq (.r [.n 51 8,.w 52 .neq 51 0]) (.cond (.t 52) (.seq (.r [.q 53 (.build [.s [],.i .u32 0,.b false] []),.u (.store 3 (.t 2) (.t 53)),.m 3 (.k 160)]) (.ret)) (.skip))) (.seq (.r [.n 54 7,.q 55 (.bin .add (.c (.i .u32 327680)) (.t 54)),.f 56 1 6,.u (.store 1 (.t 56) (.t 55))]) (.seq (.r [.v 57 3 6,.u (.store 3 (.t 2) (.t 57)),.m 3 (.k 0)]) (.ret))))))))
def kl(a:Nat):IFn:=⟨[.cell 2 3 true,.tmp 3],.seq (.r [.q 2 (.alloc [.s [],.i .u32 0,.b false]),.m 3 (.k 0)]) (.seq (.r [.n 9 0,.q 10 (.len true (.t 9)),.n 4 10]) (.seq (.seq (.r [.n 11 0,.q 12 (.len true (.t 11)),.w 13 .sub 12 1,.n 5 13]) (.blk 0 (.loop (.seq (.seq (.r [.n 14 5,.w 15 .geq 14 0]) (.cond (.t 15) (.skip) (.exit 0))) (.seq (.blk 1 (.seq (.r [.n 18 0,.n 19 5,.q 20 (.idxS (.t 18) (.t 19)),.q 21 (.bin .eql (.t 20) (.c (.i .u8 58)))]) (.cond (.t 21) (.r [.n 22 5,.n 4 22]) (.skip)))) (.r [.n 16 5,.w 17 .sub 16 1,.n 5 17])))))) (.seq (.r [.n 23 0,.n 24 4,.q 25 (.slcStr (.t 23) none (some (.t 24))),.q 26 (.build [.s [],.i .u32 0,.b false] [(0,1,(.t 25))]),.q 6 (.alloc [.s [],.i .u32 0,.b false]),.u (.store 3 (.t 6) (.t 26))]) (.cut (x4 a)))))⟩
theorem WM(c x:UInt8)(xs:List UInt8)(j:Nat):kD c (x::xs) j=if x=c then (j:Int) else kD c xs (j+1):=by
 rw[kD]
theorem JI(c:UInt8):∀(xs:List UInt8) (j:Nat),kD c xs j=if kD c xs 0 = -1 then -1 else kD c xs 0+j
 | [],j=>by simp[kD]
 | x::xs,j=>by
  rw[WM,WM]
  by_cases h:x=c
  ·simp[h]
  ·rw[if_neg h,if_neg h,JI c xs (j+1),JI c xs (0+1)];rcases kX c xs 0 with h1|⟨i,h1,_⟩
   ·simp[h1]
   ·rw[h1];rw[if_neg (by omega),if_neg (by omega),if_neg (by omega)];omega
noncomputable def fcI(s:List UInt8)(j:Nat):Int:=if kD 58 (s.drop j) 0 = -1 then (s.length:Int) else (j:Int)+kD 58 (s.drop j) 0
theorem qil{s:List UInt8}{j:Nat}(h:j<s.length):fcI s j=if s[j]=58 then (j:Int) else fcI s (j+1):=by
 unfold fcI;rw[List.drop_eq_getElem_cons h,WM]
 by_cases hc:s[j]=58
 ·simp[hc]
 ·rw[if_neg hc,if_neg hc,JI 58 _ (0+1)];rcases kX 58 (s.drop (j+1)) 0 with h1|⟨i,h1,_⟩
  ·simp[h1]
  ·rw[h1,if_neg (by omega),if_neg (by omega),if_neg (by omega)];omega
theorem qgJ{g:Nat}(hg:∀s:List UInt8,s.length<=1000000->qd P g [.s s] (.tup [.i .u32 (qP s).1,.i .i64 (qP s).2]))(s:List UInt8)(hs:s.length<=1000000) :
  S P 0 (x4 g) (xg [.cell 2 3 true,.tmp 3] fun v' h'=>Frz h' v' (.tup [.agg (qV (qo s).1),.i .i64 (qo s).2])) (mkT [(0,.s s),(2,.ptr 0 0),(3,.i .i64 0),(4,.i .i64 (fcI s 0)),(6,.ptr 1 0)]) (mkH 0 [.cells 0 true false [.s [],.i .u32 0,.b false],.cells 0 true false [.s (s.take (fcI s 0).toNat),.i .u32 0,.b false]]):=by
 refine qr ?_;simp only[x4,vI,simprocAttr];rcases kX 58 s 0 with h1|⟨i,h1,hi⟩
 ·have hf:fcI s 0=(s.length:Int):=by unfold fcI;rw[List.drop_zero,if_pos h1]
  have hcut:xT s=(s,[],false):=by unfold xT;rw[h1];rfl
  have htk:s.take ((s.length:Int)).toNat=s:=by simp
  rw[hf,htk]
  by_cases h0:s=[]
  ·have hw:qo s=(⟨[],0,false⟩,161):=by unfold qo;rw[hcut,if_pos h0]
   rw[hw];simp only[↓vS,vT,simprocAttr,h0,List.length_nil];simp[vZ,vP,Tr.get_set,qV]
  ·have hn:¬(s.length:Int)=0:=by have:=List.length_pos_iff.2 h0;omega
   have hw:qo s=(⟨s,0,false⟩,0):=by unfold qo;rw[hcut,if_neg h0,if_pos rfl]
   rw[hw];simp only[↓vS,vT,simprocAttr,hn];simp[vZ,vP,Tr.get_set,qV]
 ·rw[Nat.zero_add] at h1;have hf:fcI s 0=(i:Int):=by unfold fcI;rw[List.drop_zero,h1,if_neg (by omega)];simp
  have hcut:xT s=(s.take i,s.drop (i+1),true):=by unfold xT;rw[h1,if_pos (by omega)];rfl
  have htk:s.take ((i:Int)).toNat=s.take i:=rfl;rw[hf,htk]
  by_cases h0:i=0
  ·have hw:qo s=(⟨[],0,false⟩,161):=by unfold qo;rw[hcut,h0,if_pos (by simp)]
   rw[hw];simp only[↓vS,vT,simprocAttr,h0];simp[vZ,vP,Tr.get_set,qV]
  ·have hi0:¬(i:Int)=0:=by omega
   have hil:¬(i:Int)=s.length:=by omega
   have htn:¬s.take i=[]:=by intro h;have:=congrArg List.length h;simp at this;rcases this with h|h<;>simp_all
   have hw1:IntKind.wrap .i64 ((i:Int)+1)=((i+1:Nat):Int):=by rw[qq (by omega) (by omega)];omega
   have hb:i+1<=s.length:=hi
   by_cases e3:s.drop (i+1)=[107,105,108,108]
   ·have hw:qo s=(⟨s.take i,2147483648,true⟩,0):=by unfold qo;rw[hcut];dsimp only;rw[if_neg htn,if_neg (by decide),if_pos (show s.drop (i+1)=Zj from e3)]
    rw[hw];have e3':(s.drop (i+1)=[107,105,108,108])=True:=eq_true e3;simp only[↓vS,vT,simprocAttr,hi0,hil,hw1,hb,List.take_length,e3'];simp[vZ,vP,Tr.get_set,qV]
   ·simp only[↓vS,vT,simprocAttr,hi0,hil,hw1,hb,List.take_length,e3];refine (hg (s.drop (i+1)) (by simp;omega)).sc ?_;obtain⟨q0,q1,q2⟩:=kU (s.drop (i+1))
    by_cases e4:(qP (s.drop (i+1))).2=0
    ·have hw:qo s=(⟨s.take i,327680+(qP (s.drop (i+1))).1,true⟩,0):=by unfold qo;rw[hcut];dsimp only;rw[if_neg htn,if_neg (by decide),if_neg (show ¬s.drop (i+1)=Zj from e3),if_pos e4]
     rw[hw];have hwr:=yi (x:=327680+(qP (s.drop (i+1))).1) (by omega) (by omega);simp only[↓vS,vT,simprocAttr,hi0,hil,hw1,hb,List.take_length,e4,hwr];simp[vZ,vP,Tr.get_set,qV]
    ·have hw:qo s=(⟨[],0,false⟩,160):=by unfold qo;rw[hcut];dsimp only;rw[if_neg htn,if_neg (by decide),if_neg (show ¬s.drop (i+1)=Zj from e3),if_neg e4];rcases q2 with h|h;exact absurd h e4;rw[h]
     rw[hw];simp only[↓vS,vT,simprocAttr,hi0,hil,hw1,hb,List.take_length,e4];simp[vZ,vP,Tr.get_set,qV]
theorem qtx{g:Nat}(hc:qk P f (kl g)=true)(hg:∀s:List UInt8,s.length<=1000000->qd P g [.s s] (.tup [.i .u32 (qP s).1,.i .i64 (qP s).2]))(s:List UInt8)(hs:s.length<=1000000):qd P f [.s s] (.tup [.agg (qV (qo s).1),.i .i64 (qo s).2]):=by
 refine qd.mk hc rfl ?_;simp only[kl,vI,simprocAttr];have hw0:IntKind.wrap .i64 ((s.length:Int)-1)=(s.length:Int)-1:=qq (by omega) (by omega);simp only[↓vS,vT,simprocAttr,hw0];have hfl:fcI s s.length=(s.length:Int):=by unfold fcI;rw[List.drop_of_length_le (Nat.le_refl _)];rfl
 refine SL.loop (α:=Nat) (fun j=>[(0,.s s),(2,.ptr 0 0),(3,.i .i64 0),(4,.i .i64 (fcI s j)),(5,.i .i64 ((j:Int)-1))]) (fun _=>[.cells 0 true false [.s [],.i .u32 0,.b false]]) (fun j=>j<=s.length) (fun j=>j) s.length [0] ?_ ?_ ?_ rfl ?_ ?_
 ·simp[vw,hfl]
 ·simp[vw]
 ·simp
 ·exact Nat.le_refl _
 rintro j hj G ih;simp only[vI,simprocAttr];cases j with
 | zero =>
  have hn:¬(0:Int)<=-1:=by decide
  have e0:((0:Nat):Int)-1 = -1:=rfl
  have hr:0<=fcI s 0∧(fcI s 0).toNat<=s.length:=by
   unfold fcI;rcases kX 58 (s.drop 0) 0 with h1|⟨i,h1,h2⟩
   ·rw[h1,if_pos rfl];omega
   ·rw[h1,if_neg (by omega)];simp at h2 ⊢;omega
  simp only[↓vS,vT,simprocAttr,e0,hn,hr.1,hr.2,List.drop_zero];refine S.weak (Wk.mk _ _ [0,1] ?_ ?_ ?_ rfl) (qgJ hg s hs)
  ·simp[vw]
  ·simp[vw]
  ·simp
 | succ j =>
  have hp:(0:Int)<=((j+1:Nat):Int)-1:=by omega
  have e1:((j+1:Nat):Int)-1=(j:Int):=by omega
  have hlt:j<s.length:=by omega
  have hx:s[j]?=some s[j]:=List.getElem?_eq_getElem hlt;have hw:IntKind.wrap .i64 ((j:Int)-1)=(j:Int)-1:=qq (by omega) (by omega);have hstep:=qil hlt;have ih2:=ih j (by omega) (by omega);rw[hstep] at ih2
  by_cases h58:s[j]=58
  ·have h58':(s[j].toNat:Int)=58:=by rw[h58];rfl
   rw[if_pos h58] at ih2;have hjp:(0:Int)<=(j:Int):=by omega
   simp only[↓vS,vT,simprocAttr,hp,e1,hjp,hlt,hx,h58',hw];refine ih2 _ _ (Wk.mk _ _ [0] ?_ ?_ ?_ rfl)
   ·simp[vw]
   ·simp[vw]
   ·simp
  ·have h58':¬(s[j].toNat:Int)=58:=by intro h;apply h58;rw[← UInt8.toNat_inj];simp;omega
   rw[if_neg h58] at ih2;have hjp:(0:Int)<=(j:Int):=by omega
   simp only[↓vS,vT,simprocAttr,hp,e1,hjp,hlt,hx,h58',hw];refine ih2 _ _ (Wk.mk _ _ [0] ?_ ?_ ?_ rfl)
   ·simp[vw]
   ·simp[vw]
   ·simp
end Go.Kc
end
section
/- What the document says of lists. Condition: the functions' texts are these. -/
namespace Go.Kc
variable {P:Program} {f:Nat}
def Xe:List (List UInt8×List Int):=[([98,105,110,100],[49,361,1073741873,282,200,200]),([98,112,102],[321,357,1073742145,386,280,280]),([98,114,107],[12,45,1073741836,45,214,214]),([99,108,111,99,107,95,115,101,116,116,105,109,101],[227,264,1073742051,262,112,112]),([99,108,111,110,101],[56,120,1073741880,120,220,220]),([99,108,111,110,101,51],[435,435,-1,435,435,435]),([99,108,111,115,101],[3,6,1073741827,6,57,57]),([99,111,110,110,101,99,116],[42,362,1073741866,283,203,203]),([100,101,108,101,116,101,95,109,111,100,117,108,101],[176,129,1073742000,129,106,106]),([101,120,101,99,118,101],[59,11,1073742344,11,221,221]),([101,120,105,116],[60,1,1073741884,1,93,93]),([102,105,110,105,116,95,109,111,100,117,108,101],[313,350,1073742137,379,273,273]),([102,111,114,107],[57,2,1073741881,2,-1,-1]),([103,101,116,117,105,100],[102,24,1073741926,24,174,174]),([105,110,105,116,95,109,111,100,117,108,101],[175,128,-1,128,105,105]),([105,111,99,116,108],[16,54,1073742338,54,29,29]),([107,105,108,108],[62,37,1073741886,37,129,129]),([108,105,115,116,101,110],[50,363,1073741874,284,201,201]),([109,109,97,112],[9,90,1073741833,-1,222,222]),([109,111,117,110,116],[165,21,1073741989,21,40,40]),([109,112,114,111,116,101,99,116],[10,125,1073741834,125,226,226]),([109,117,110,109,97,112],[11,91,1073741835,91,215,215]),([111,112,101,110],[2,5,1073741826,5,-1,-1]),([111,112,101,110,97,116],[257,295,1073742081,322,56,56]),([112,101,114,115,111,110,97,108,105,116,121],[135,136,1073741959,136,92,92]),([112,107,101,121,95,109,112,114,111,116,101,99,116],[329,380,1073742153,394,288,-1]),([112,116,114,97,99,101],[101,26,1073742345,26,117,117]),([114,101,97,100],[0,3,1073741824,3,63,63]),([114,101,98,111,111,116],[169,88,1073741993,88,142,142]),([115,99,104,101,100,95,115,101,116,97,116,116,114],[314,351,1073742138,380,274,274]),([115,99,104,101,100,95,115,101,116,115,99,104,101,100,117,108,101,114],[144,156,1073741968,156,119,119]),([115,101,99,99,111,109,112],[317,354,1073742141,383,277,277]),([115,101,116,110,115],[308,346,1073742132,375,268,268]),([115,101,116,116,105,109,101,111,102,100,97,121],[164,79,1073741988,79,170,170]),([115,101,116,117,105,100],[105,23,1073741929,23,146,146]),([115,104,109,97,116],[30,397,-1,305,196,196]),([115,111,99,107,101,116],[41,359,1073741865,281,198,198]),([117,109,111,117,110,116,50],[166,52,1073741990,52,39,39]),([117,110,115,104,97,114,101],[272,310,1073742096,337,97,97]),([119,114,105,116,101],[1,4,1073741825,4,64,64])]
def qgL(x:List UInt8×List Int):List AV:=[.s x.1,.fz 6 (rI .i64 x.2)]
theorem qdF(x:List UInt8×List Int):(qgL x).length=2:=rfl
theorem qeF:Xe.map (·.1)=zE.map (·.1):=rfl
def qre(P:Program)(f:Nat):Prop:=qd P f [] (.fz 40 (Xe.flatMap qgL))
theorem qa1(s:List UInt8):zG s=true↔s ∈ Xe.map (·.1):=by
 rw[qeF];constructor
 ·exact qa2
 ·intro h;obtain⟨x,hx,rfl⟩:=List.mem_map.1 h;unfold zG;rw[List.find?_isSome];exact⟨x,hx,by simp⟩
def vy(a:Nat):IFn:=⟨[.tmp 2],.seq (.r [.m 2 .F]) (.seq (.r [.l 5 a [],.n 3 5]) (.seq (.seq (.r [.m 4 (.k 0)]) (.blk 0 (.loop (.seq (.seq (.r [.n 6 4,.n 7 3,.e 8 7,.s 9 6 8]) (.cond (.t 9) (.skip) (.exit 0))) (.seq (.blk 1 (.seq (.r [.n 12 3,.n 13 4,.i 14 2 12 13,.f 15 0 14,.d 16 15,.n 17 0,.b 18 .eql 16 17]) (.cond (.t 18) (.seq (.r [.m 2 .T]) (.ret)) (.skip)))) (.r [.n 10 4,.a 11 10 1,.n 4 11])))))) (.seq (.r [.m 2 .F]) (.ret))))⟩
theorem qs8{g1:Nat}(hc:qk P f (vy g1)=true)(h1:qre P g1)(s:List UInt8):qd P f [.s s] (.b (zG s)):=by
 refine qd.mk hc rfl ?_;simp only[vy,vI,simprocAttr];simp only[↓vS,vT,simprocAttr];refine h1.sc ?_;have h40:Xe.length=40:=by decide
 have hlen:(Xe.flatMap qgL).length=80:=by rw[zX qdF,h40]
 have hcl:qx (Xe.flatMap qgL)=true:=kT fun _=>rfl
 have hget:∀j r,Xe[j]?=some r->(Xe.flatMap qgL)[j*2]?=some (.s r.1):=fun j r h=>Qh (m:=2) qdF h (i:=0) (by decide)
 generalize hT:Xe.flatMap qgL=T at hlen hcl hget;simp only[↓vS,vT,simprocAttr];refine SL.loop (α:=Nat) (fun j=>[(0,.s s),(3,.fz 40 T),(4,.i .i64 j)]) (fun _=>[]) (fun j=>j<=40∧∀r ∈ Xe.take j,r.1≠s) (fun j=>40-j) 0 [] ?_ ?_ ?_ rfl ?_ ?_
 ·simp[vw,hcl]
 ·trivial
 ·simp
 ·exact⟨Nat.zero_le _,fun r hr=>by cases hr⟩
 rintro j ⟨hj,hI⟩ G ih;simp only[vI,simprocAttr]
 by_cases hlt:j<40
 ·have hx:Xe[j]?=some (Xe[j]'(by omega)):=List.getElem?_eq_getElem (by omega);have hw:IntKind.wrap .i64 ((j:Int)+1)=((j+1:Nat):Int):=by rw[qq (by omega) (by omega)];omega
  have hlt':(j:Int)<40:=by omega
  have ht:Xe.take (j+1)=Xe.take j++[Xe[j]'(by omega)]:=by rw[List.take_add_one,hx];rfl
  have hmem:(Xe[j]'(by omega)) ∈ Xe:=List.getElem_mem _;have g0:=hget j _ hx;generalize (Xe[j]'(by omega))=r at hx ht hmem g0
  by_cases he:r.1=s
  ·have hk:zG s=true:=(qa1 s).2 (List.mem_map.2 ⟨r,hmem,he⟩);simp only[↓vS,vT,simprocAttr,hlt,hlt',g0,he];simp[vZ,hk]
  ·simp only[↓vS,vT,simprocAttr,hlt,hlt',g0,he,hw];refine ih (j+1) ⟨by omega,?_⟩ (by omega) _ _ (Wk.mk _ _ [] ?_ ?_ ?_ rfl)
   ·intro q hq;rw[ht] at hq;rcases List.mem_append.1 hq with h|h
    ·exact hI q h
    ·rw[List.mem_singleton.1 h];exact he
   ·simp[vw,hcl]
   ·trivial
   ·simp
 ·have hlt':¬(j:Int)<40:=by omega
  have hk:zG s=false:=by
   rw[Bool.eq_false_iff];intro h;obtain⟨r,hr,he⟩:=List.mem_map.1 ((qa1 s).1 h);exact hI r (by rw[List.take_of_length_le (by omega)];exact hr) he
  simp only[↓vS,vT,simprocAttr,hlt'];simp[vZ,hk]
def Rng(l:List GCall):Prop:=∀c ∈ l,0<=c.act∧c.act<=4294967295
theorem qcC{l:GList}(h:zp l=true):Rng l.calls:=by
 intro c hc;have h1:=((xC l).1 h).2.1 c hc;simp only[okC,kR,Bool.and_eq_true,Bool.or_eq_true,decide_eq_true_eq] at h1;omega
def qhB(P:Program)(f:Nat):Prop:=∀l:GList,l.calls.length<=100000->Rng l.calls->qd P f [.agg (qj l)] (.b (zp l))
theorem qbq{a:Int}(h:0<=a):a=65536*a.tdiv 65536+a.tmod 65536∧0<=a.tmod 65536∧a.tmod 65536<65536:=by
 rw[Int.tdiv_eq_ediv_of_nonneg h,Int.tmod_eq_emod_of_nonneg h];omega
theorem WC{a:Int}(h0:0<=a)(h1:a<=4294967295):0<=a.tdiv 65536∧a.tdiv 65536<4294967296:=by
 have:=qbq h0;omega
theorem yZ{a:Int}(h0:0<=a)(h1:a<=4294967295):kR a=(decide (a=0)||decide (a=2147483648)||(decide (a.tdiv 65536=5)&&decide (a.tmod 65536<=4095))):=by
 have:=qbq h0;unfold kR;rw[Bool.eq_iff_iff];simp only[Bool.or_eq_true,Bool.and_eq_true,decide_eq_true_eq];omega
def jk(a:Nat):ICode:=.seq (.seq (.r [.m 3 (.k 0)]) (.blk 0 (.loop (.seq (.seq (.r [.n 19 3,.f 20 1 1,.d 21 20,.e 22 21,.s 23 19 22]) (.cond (.t 23) (.skip) (.exit 0))) (.seq (.blk 1 (.seq (.r [.f 26 1 1,.d 27 26,.n 28 3,.i 29 2 27 28,.f 30 1 29,.d 31 30,.n 4 31]) (.seq (.seq (.reg true [.f 32 1 1,.d 33 32,.n 34 3,.i 35 2 33 34,.f 36 0 35,.d 37 36,.l 38 a [.t 37],.q 39 (.un .not (.t 38)),.n 40 39,.z 41 3 40,.g 42 (.bin .gtr (.t 41) (.k 0)) 40 false,.z 43 42 40,.h 44 1 1 43 true,.j 45 44 43 true,.y 46 3 43,.g 47 (.bin .sub (.t 46) (.k 1)) 43 true,.g 48 (.iAddrS 2 (.t 45) (.t 47)) 43 true,.h 49 0 48 43 true,.j 50 49 43 true,.h 51 1 1 43 true,.j 52 51 43 true,.y 53 3 43,.g 54 (.iAddrS 2 (.t 52) (.t 53)) 43 true,.h 55 0 54 43 true,.j 56 55 43 true,.g 57 (.bin .geq (.t 50) (.t 56)) 43 true,.g 58 (.pick (.t 43) (.t 57) .F) 40 false,.o 59 40 58]) (.cond (.t 59) (.seq (.r [.m 2 .F]) (.ret)) (.skip))) (.seq (.r [.n 60 4,.q 61 (.bin .neq (.t 60) (.c (.i .u32 0))),.n 62 61,.y 63 4 62,.g 64 (.bin .neq (.t 63) (.c (.i .u32 2147483648))) 62 true,.p 65 62 64,.n 66 65,.y 67 4 66,.g 68 (.bin .quo (.t 67) (.c (.i .u32 65536))) 66 true,.g 69 (.bin .neq (.t 68) (.c (.i .u32 5))) 66 true,.y 70 69 66,.z 71 4 70,.g 72 (.bin .rem (.t 71) (.c (.i .u32 65536))) 70 false,.g 73 (.bin .gtr (.t 72) (.c (.i .u32 4095))) 70 false,.g 74 (.pick (.t 70) .T (.t 73)) 66 true,.p 75 66 74]) (.cond (.t 75) (.seq (.r [.m 2 .F]) (.ret)) (.skip)))))) (.r [.n 24 3,.a 25 24 1,.n 3 25])))))) (.seq (.r [.m 2 .T]) (.ret))
def kI(a:Nat):IFn:=⟨[.tmp 2],.seq (.r [.q 1 (.box (.t 0)),.m 2 .F]) (.seq (.seq (.r [.f 5 0 1,.d 6 5,.q 7 (.bin .gtr (.t 6) (.c (.i .u8 2))),.n 8 7,.h 9 0 1 8 false,.j 10 9 8 false,.g 11 (.bin .eql (.t 10) (.c (.i .u8 0))) 8 false,.z 12 11 8,.h 13 1 1 12 true,.j 14 13 12 true,.g 15 (.len false (.t 14)) 12 true,.g 16 (.bin .gtr (.t 15) (.k 0)) 12 true,.g 17 (.pick (.t 12) (.t 16) .F) 8 false,.o 18 8 17]) (.cond (.t 18) (.seq (.r [.m 2 .F]) (.ret)) (.skip))) (.cut (jk a)))⟩
set_option maxRecDepth 8000 in
theorem qdA{g1:Nat}(h1:∀s,qd P g1 [.s s] (.b (zG s)))(l:GList)(hl:l.calls.length<=100000)(hR:Rng l.calls){t':Tr AV}{h':Hp}(hw:Wk 0 t' h' (mkT [(1,.ptr 0 0),(2,.b false)]) (mkH 0 [.cells 0 true false (qj l)])) :
  S P 0 (jk g1) (xg [.tmp 2] fun v' h'=>Frz h' v' (.b (xo none l.calls))) t' h':=by
 refine S.weak hw (qr ?_);simp only[jk,qj,vI,simprocAttr];simp only[↓vS,vT,simprocAttr]
 refine SL.loop (α:=Nat) (fun j=>[(1,.ptr 0 0),(2,.b false),(3,.i .i64 j)]) (fun _=>[.cells 0 true false (qj l)])
  (fun j=>j<=l.calls.length∧xo none l.calls=xo (if j=0 then none else l.calls[j-1]?) (l.calls.drop j)) (fun j=>l.calls.length-j) 0 [0] ?_ ?_ ?_ rfl ?_ ?_
 ·simp[vw,qc]
 ·simp[vw,qj]
 ·simp
 ·exact⟨Nat.zero_le _,rfl⟩
 rintro j ⟨hj,hI⟩ G ih;simp only[vI,simprocAttr,qj]
 by_cases hlt:j<l.calls.length
 ·have hx:l.calls[j]?=some l.calls[j]:=List.getElem?_eq_getElem hlt;have g0:(rC l.calls)[j*2]?=some (.s l.calls[j].name):=JT hx (i:=0) (by decide);have g1:(rC l.calls)[j*2+1]?=some (.i .u32 l.calls[j].act):=JT hx (i:=1) (by decide);have hw:IntKind.wrap .i64 ((j:Int)+1)=((j+1:Nat):Int):=by rw[qq (by omega) (by omega)];omega
  rw[List.drop_eq_getElem_cons hlt,xo] at hI;obtain⟨r0,r1⟩:=hR l.calls[j] (List.getElem_mem hlt);generalize hc0:l.calls[j]=c at hI hx g0 g1 r0 r1;simp only[↓vS,vT,simprocAttr,hlt,g1];refine qW ?_;simp only[↓vS,vT,simprocAttr,hlt,g0];refine (h1 c.name).pc ?_;cases hk:zG c.name with
  | false =>
   have hw:xo none l.calls=false:=by rw[hI];simp[okC,hk]
   simp only[↓vS,vT,simprocAttr];simp[vZ,hw]
  | true =>
   by_cases h0:j=0
   ·subst h0;have hn:¬(0:Int)<((0:Nat):Int):=by decide
    have hw:IntKind.wrap .i64 (((0:Nat):Int)+1)=((1:Nat):Int):=by decide
    have hw':IntKind.wrap .i64 (0+1)=((1:Nat):Int):=by decide
    have h65:(65536:Int)≠0:=by decide
    by_cases e0:c.act=0
    ·have hok:okC c=true:=by simp[okC,hk,kR,e0]
     simp only[↓vS,vT,simprocAttr,hn,e0,hw];refine ih 1 ⟨by omega,?_⟩ (by omega) _ _ (Wk.mk _ _ [0] ?_ ?_ ?_ rfl)
     ·rw[hI,hok];simp[hx]
     ·simp[vw,qc];exact qq (by decide) (by decide)
     ·simp[vw,qj]
     ·simp
    by_cases e1:c.act=2147483648
    ·have hok:okC c=true:=by simp[okC,hk,kR,e1]
     simp only[↓vS,vT,simprocAttr,hn,e0,e1,hw];refine ih 1 ⟨by omega,?_⟩ (by omega) _ _ (Wk.mk _ _ [0] ?_ ?_ ?_ rfl)
     ·rw[hI,hok];simp[hx]
     ·simp[vw,qc];exact qq (by decide) (by decide)
     ·simp[vw,qj]
     ·simp
    by_cases e2:c.act.tdiv 65536=5
    ·have hwq:IntKind.wrap .u32 (c.act.tdiv 65536)=5:=by rw[e2];decide
     by_cases e3:4095<c.act.tmod 65536
     ·have e3':¬c.act.tmod 65536<=4095:=by omega
      have hwf:xo none l.calls=false:=by rw[hI];simp[okC,yZ r0 r1,e0,e1,e2,e3']
      simp only[↓vS,vT,simprocAttr,hn,e0,e1,↓XT h65,↓qac h65,hwq,e3];simp[vZ,hwf]
     ·have hok:okC c=true:=by simp[okC,hk,yZ r0 r1,e0,e1,e2,e3];omega
      simp only[↓vS,vT,simprocAttr,hn,e0,e1,↓XT h65,↓qac h65,hwq,e3,hw];refine ih 1 ⟨by omega,?_⟩ (by omega) _ _ (Wk.mk _ _ [0] ?_ ?_ ?_ rfl)
      ·rw[hI,hok];simp[hx]
      ·simp[vw,qc];exact qq (by decide) (by decide)
      ·simp[vw,qj]
      ·simp
    ·have hwq:¬IntKind.wrap .u32 (c.act.tdiv 65536)=5:=by rw[yi (WC r0 r1).1 (by have:=(WC r0 r1).2;omega)];exact e2
     have hwf:xo none l.calls=false:=by rw[hI];simp[okC,yZ r0 r1,e0,e1,e2]
     simp only[↓vS,vT,simprocAttr,hn,e0,e1,↓XT h65,hwq];simp[vZ,hwf]
   ·have hp:(0:Int)<(j:Int):=by omega
    have hpl:j-1<l.calls.length:=by omega
    have hy:l.calls[j-1]?=some l.calls[j-1]:=List.getElem?_eq_getElem hpl;have hw2:IntKind.wrap .i64 ((j:Int)-1)=((j-1:Nat):Int):=by rw[qq (by omega) (by omega)];omega
    have g2:(rC l.calls)[(j-1)*2]?=some (.s l.calls[j-1].name):=JT hy (i:=0) (by decide);rw[if_neg h0,hy] at hI;cases hlt2:ltS l.calls[j-1].name c.name with
    | false =>
     have hwf:xo none l.calls=false:=by rw[hI];simp[hlt2]
     simp only[↓vS,vT,simprocAttr,hp,hw2,hpl,hlt,g0,g2,hlt2];simp[vZ,hwf]
    | true =>
     have h65:(65536:Int)≠0:=by decide
     by_cases e0:c.act=0
     ·have hok:okC c=true:=by simp[okC,hk,kR,e0]
      simp only[↓vS,vT,simprocAttr,hp,hw2,hpl,hlt,g0,g2,hlt2,e0,hw];refine ih (j+1) ⟨by omega,?_⟩ (by omega) _ _ (Wk.mk _ _ [0] ?_ ?_ ?_ rfl)
      ·rw[hI,hok];simp[hlt2,hx]
      ·simp[vw,qc]
      ·simp[vw,qj]
      ·simp
     by_cases e1:c.act=2147483648
     ·have hok:okC c=true:=by simp[okC,hk,kR,e1]
      simp only[↓vS,vT,simprocAttr,hp,hw2,hpl,hlt,g0,g2,hlt2,e0,e1,hw];refine ih (j+1) ⟨by omega,?_⟩ (by omega) _ _ (Wk.mk _ _ [0] ?_ ?_ ?_ rfl)
      ·rw[hI,hok];simp[hlt2,hx]
      ·simp[vw,qc]
      ·simp[vw,qj]
      ·simp
     by_cases e2:c.act.tdiv 65536=5
     ·have hwq:IntKind.wrap .u32 (c.act.tdiv 65536)=5:=by rw[e2];decide
      by_cases e3:4095<c.act.tmod 65536
      ·have e3':¬c.act.tmod 65536<=4095:=by omega
       have hwf:xo none l.calls=false:=by rw[hI];simp[okC,yZ r0 r1,e0,e1,e2,e3']
       simp only[↓vS,vT,simprocAttr,hp,hw2,hpl,hlt,g0,g2,hlt2,e0,e1,↓XT h65,↓qac h65,hwq,e3];simp[vZ,hwf]
      ·have hok:okC c=true:=by simp[okC,hk,yZ r0 r1,e0,e1,e2,e3];omega
       simp only[↓vS,vT,simprocAttr,hp,hw2,hpl,hlt,g0,g2,hlt2,e0,e1,↓XT h65,↓qac h65,hwq,e3,hw];refine ih (j+1) ⟨by omega,?_⟩ (by omega) _ _ (Wk.mk _ _ [0] ?_ ?_ ?_ rfl)
       ·rw[hI,hok];simp[hlt2,hx]
       ·simp[vw,qc]
       ·simp[vw,qj]
       ·simp
     ·have hwq:¬IntKind.wrap .u32 (c.act.tdiv 65536)=5:=by rw[yi (WC r0 r1).1 (by have:=(WC r0 r1).2;omega)];exact e2
      have hwf:xo none l.calls=false:=by rw[hI];simp[okC,yZ r0 r1,e0,e1,e2]
      simp only[↓vS,vT,simprocAttr,hp,hw2,hpl,hlt,g0,g2,hlt2,e0,e1,↓XT h65,hwq];simp[vZ,hwf]
 ·rw[List.drop_of_length_le (by omega),xo] at hI;simp only[↓vS,vT,simprocAttr,hlt];simp[vZ,hI]
theorem qtL{g1:Nat}(hc:qk P f (kI g1)=true)(h1:∀s,qd P g1 [.s s] (.b (zG s))):qhB P f:=by
 intro l hl hR;refine qd.mk hc rfl ?_;simp only[kI,qj,vI,simprocAttr]
 by_cases m1:2<l.mode
 ·have hw:zp l=false:=by simp[zp];omega
  simp only[↓vS,vT,simprocAttr,m1];simp[vZ,hw]
 have tail:(l.mode≠0∨l.calls=[])->zp l=xo none l.calls:=fun h=>by
  have:(decide (l.mode<=2)&&(decide (l.mode≠0)||decide (l.calls=[])))=true:=by
   simp only[Bool.and_eq_true,Bool.or_eq_true,decide_eq_true_eq];exact⟨by omega,h⟩
  unfold zp;rw[this];rfl
 by_cases m2:l.mode=0
 ·by_cases m3:(0:Int)<l.calls.length
  ·have hne:l.calls≠[]:=by intro h;rw[h] at m3;simp at m3
   have hw:zp l=false:=by simp[zp,m2,hne]
   simp only[↓vS,vT,simprocAttr,m1,m2,m3];simp[vZ,hw]
  ·have hz:l.calls=[]:=List.eq_nil_of_length_eq_zero (by omega);rw[tail (.inr hz)];simp only[↓vS,vT,simprocAttr,m1,m2,m3];refine qdA h1 l hl hR (Wk.mk _ _ [0] ?_ ?_ ?_ rfl)
   ·simp[vw]
   ·simp[vw,qj,m2]
   ·simp
 ·rw[tail (.inl m2)];simp only[↓vS,vT,simprocAttr,m1,m2];refine qdA h1 l hl hR (Wk.mk _ _ [0] ?_ ?_ ?_ rfl)
  ·simp[vw]
  ·simp[vw,qj]
  ·simp
end Go.Kc
end
section
/- What the document makes of lists: Find, take, Take, Put, Same. Condition: the functions' texts are these. -/
namespace Go.Kc
variable {P:Program} {f:Nat}
def km:IFn:=⟨[.tmp 4],.seq (.r [.q 2 (.box (.t 0)),.q 3 (.box (.t 1)),.m 4 .F]) (.seq (.seq (.r [.f 6 0 2,.d 7 6,.f 8 0 3,.d 9 8,.b 10 .neq 7 9,.n 11 10,.h 12 1 2 11 false,.j 13 12 11 false,.g 14 (.len false (.t 13)) 11 false,.h 15 1 3 11 false,.j 16 15 11 false,.g 17 (.len false (.t 16)) 11 false,.g 18 (.bin .neq (.t 14) (.t 17)) 11 false,.o 19 11 18]) (.cond (.t 19) (.seq (.r [.m 4 .F]) (.ret)) (.skip))) (.seq (.seq (.r [.m 5 (.k 0)]) (.blk 0 (.loop (.seq (.seq (.r [.n 20 5,.f 21 1 2,.d 22 21,.e 23 22,.s 24 20 23]) (.cond (.t 24) (.skip) (.exit 0))) (.seq (.blk 1 (.seq (.reg true [.f 27 1 2,.d 28 27,.n 29 5,.i 30 2 28 29,.v 31 2 30,.f 32 1 3,.d 33 32,.n 34 5,.i 35 2 33 34,.v 36 2 35,.q 37 (.eqA true [.s,.i] (.t 31) (.t 36))]) (.cond (.t 37) (.seq (.r [.m 4 .F]) (.ret)) (.skip)))) (.r [.n 25 5,.a 26 25 1,.n 5 26])))))) (.seq (.r [.m 4 .T]) (.ret))))⟩
theorem qtz(hc:qk P f km=true)(l:GList)(hl:l.calls.length<=100000):qd P f [.agg (qj l),.agg (qj l)] (.b true):=by
 refine qd.mk hc rfl ?_;simp only[km,qj,vI,simprocAttr];simp only[↓vS,vT,simprocAttr];refine SL.loop (α:=Nat) (fun j=>[(2,.ptr 0 0),(3,.ptr 1 0),(4,.b false),(5,.i .i64 j)]) (fun _=>[.cells 0 true false (qj l),.cells 0 true false (qj l)]) (fun _=>True) (fun j=>l.calls.length-j) 0 [0,1] ?_ ?_ ?_ rfl ?_ ?_
 ·simp[vw]
 ·simp[vw,qj]
 ·simp
 ·trivial
 rintro j-G ih;simp only[vI,simprocAttr,qj]
 by_cases hlt:j<l.calls.length
 ·have hx:l.calls[j]?=some l.calls[j]:=List.getElem?_eq_getElem hlt;have he:=yf hx;have hb:=kx hlt;have hw:IntKind.wrap .i64 ((j:Int)+1)=((j+1:Nat):Int):=by rw[qq (by omega) (by omega)];omega
  simp only[↓vS,vT,simprocAttr,hlt];refine qW ?_;simp (decide:=true) only [↓vS,vT,simprocAttr,hlt,hb,he,js,hw,beq_self_eq_true];refine ih (j+1) trivial (by omega) _ _ (Wk.mk _ _ [0,1] ?_ ?_ ?_ rfl)
  ·simp[vw]
  ·simp[vw,qj]
  ·simp
 ·simp only[↓vS,vT,simprocAttr,hlt,vZ]
def ko:IFn:=⟨[.cell 4 2 true],.seq (.r [.q 2 (.box (.t 0)),.q 4 (.alloc [.i .u8 0,.nils])]) (.seq (.r [.f 7 0 2,.d 8 7,.q 9 (.build [.i .u8 0,.nils] [(0,1,(.t 8))]),.q 5 (.alloc [.i .u8 0,.nils]),.u (.store 2 (.t 5) (.t 9))]) (.seq (.seq (.r [.m 6 (.k 0)]) (.blk 0 (.loop (.seq (.seq (.r [.n 10 6,.f 11 1 2,.d 12 11,.e 13 12,.s 14 10 13]) (.cond (.t 14) (.skip) (.exit 0))) (.seq (.blk 1 (.seq (.r [.f 17 1 2,.d 18 17,.n 19 6,.i 20 2 18 19,.f 21 0 20,.d 22 21,.n 23 1,.b 24 .neq 22 23]) (.cond (.t 24) (.reg true [.f 25 1 5,.d 26 25,.f 27 1 2,.d 28 27,.n 29 6,.i 30 2 28 29,.v 31 2 30,.q 32 (.buildS 1 [.s [],.i .u32 0] [(0,2,(.t 31))]),.q 33 (.app 2 24 true (.t 26) (.t 32)),.f 34 1 5,.u (.store 1 (.t 34) (.t 33))]) (.skip)))) (.r [.n 15 6,.a 16 15 1,.n 6 16])))))) (.seq (.r [.v 35 2 5,.u (.store 2 (.t 4) (.t 35))]) (.ret))))⟩
def wo(l:List GCall)(s:List UInt8):List GCall:=l.filter fun c=>!decide (c.name=s)
theorem qmz{l:List GCall}{s:List UInt8}{j:Nat}{c:GCall}(h:l[j]?=some c):wo (l.take (j+1)) s=wo (l.take j) s++(if c.name=s then [] else [c]):=by
 unfold wo;rw[List.take_add_one,h,List.filter_append]
 by_cases hc:c.name=s<;>simp[hc]
def Zw(P:Program)(f:Nat):Prop:=∀(l:GList) (s:List UInt8),l.calls.length<=100000->Own P f [.agg (qj l),.s s] (.agg [.i .u8 l.mode,.own 0 (wo l.calls s).length]) [.cells 2 true true (rC (wo l.calls s))]
theorem qtW(hc:qk P f ko=true):Zw P f:=by
 intro l s hl;refine Own.mk hc rfl ?_;simp only[ko,qj,vI,simprocAttr];simp only[↓vS,vT,simprocAttr]
 refine SL.loop (α:=Nat) (fun j=>[(1,.s s),(2,.ptr 0 0),(4,.ptr 1 0),(5,.ptr 2 0),(6,.i .i64 j)]) (fun j=>[.cells 0 true false (qj l),.cells 0 true false [.i .u8 0,.nils],.cells 0 true false [.i .u8 l.mode,.own 3 (wo (l.calls.take j) s).length],.cells 2 true true (rC (wo (l.calls.take j) s))])
  (fun j=>j<=l.calls.length) (fun j=>l.calls.length-j) 0 [0,1,2,3] ?_ ?_ ?_ rfl ?_ ?_
 ·simp[vw]
 ·simp[vw,qj,wo,JU]
 ·simp
 ·exact Nat.zero_le _
 rintro j hj G ih
 have hlen:(wo (l.calls.take j) s).length<=l.calls.length:=by
  have:=List.length_filter_le (fun c:GCall=>!decide (c.name=s)) (l.calls.take j)
  rw[List.length_take] at this;unfold wo;omega
 simp only[vI,simprocAttr,qj]
 by_cases hlt:j<l.calls.length
 ·have hx:l.calls[j]?=some l.calls[j]:=List.getElem?_eq_getElem hlt;have he:=yf hx;have hb:=kx hlt;have g0:(rC l.calls)[j*2]?=some (.s l.calls[j].name):=JT hx (i:=0) (by decide);have hw:IntKind.wrap .i64 ((j:Int)+1)=((j+1:Nat):Int):=by rw[qq (by omega) (by omega)];omega
  have hnx:=qmz (s:=s) hx;have ih2:=ih (j+1);rw[hnx] at ih2;generalize l.calls[j]=c at hx he g0 hnx ih2;generalize wo (l.calls.take j) s=A at hlen hnx ih2
  by_cases hc:c.name=s
  ·rw[if_pos hc,List.append_nil] at ih2;simp only[↓vS,vT,simprocAttr,hlt,g0,hc,hw];refine ih2 (by omega) (by omega) _ _ (Wk.mk _ _ [0,1,2,3] ?_ ?_ ?_ rfl)
   ·simp[vw]
   ·simp[vw,qj,qa,qc]
   ·simp
  ·rw[if_neg hc] at ih2;have hb2:j*2+2<=l.calls.length*2:=by omega
   have hr1:A.length+1<=qf:=by simp only[qf];omega
   have hr2:(A.length+1)*24<=qf:=by simp only[qf];omega
   have hap:rC A++[AV.s c.name,.i .u32 c.act]=rC (A++[c]):=by rw[← W0];rfl
   simp only[↓vS,vT,simprocAttr,hlt,g0,hc];refine qW ?_;simp (decide:=true) only [↓vS,vT,simprocAttr,hlt,hb2,he,js,hr1,hr2,wP,hap,hw];refine ih2 (by omega) (by omega) _ _ (Wk.mk _ _ [0,1,2,5] ?_ ?_ ?_ rfl)
   ·simp[vw]
   ·simp[vw,qj,qa,qc]
   ·simp
 ·have hjl:l.calls.take j=l.calls:=List.take_of_length_le (by omega);rw[hjl];simp only[↓vS,vT,simprocAttr,hlt];intro _;refine⟨[3],?_⟩;simp[vw,qa,qc]
def qaC(P:Program)(f:Nat):Prop:=∀(l:GList) (s:List UInt8) (n:Int),l.calls.length<=100000->Rng l.calls->qd P f [.agg (qj l),.s s,.i .u32 n] (.agg (qj (Q0 l s n)))
theorem J0(h:Zw P f)(l:GList)(s:List UInt8)(hl:l.calls.length<=100000):qd P f [.agg (qj l),.s s] (.agg (qj ⟨l.mode,wo l.calls s⟩)):=by
 refine (h l s hl).pure rfl ?_;simp only[H0,vJ,simprocAttr];simp[vZ,vP,Tr.get_set,qj,qn qc,zV qc,ZR,shv];intro h0;rw[h0];rfl
def jl(a b:Nat):ICode:=.seq (.seq (.r [.f 24 1 7,.d 25 24,.e 26 25,.w 27 .sub 26 1,.n 8 27]) (.blk 0 (.loop (.seq (.seq (.reg true [.n 28 8,.w 29 .gtr 28 0,.n 30 29,.h 31 1 7 30 true,.j 32 31 30 true,.y 33 8 30,.g 34 (.iAddrS 2 (.t 32) (.t 33)) 30 true,.h 35 0 34 30 true,.j 36 35 30 true,.h 37 1 7 30 true,.j 38 37 30 true,.y 39 8 30,.g 40 (.bin .sub (.t 39) (.k 1)) 30 true,.g 41 (.iAddrS 2 (.t 38) (.t 40)) 30 true,.h 42 0 41 30 true,.j 43 42 30 true,.g 44 (.bin .lss (.t 36) (.t 43)) 30 true,.p 45 30 44]) (.cond (.t 45) (.skip) (.exit 0))) (.seq (.blk 1 (.reg true [.f 48 1 7,.d 49 48,.n 50 8,.f 51 1 7,.d 52 51,.n 53 8,.w 54 .sub 53 1,.f 55 1 7,.d 56 55,.n 57 8,.w 58 .sub 57 1,.i 59 2 56 58,.v 60 2 59,.f 61 1 7,.d 62 61,.n 63 8,.i 64 2 62 63,.v 65 2 64,.i 66 2 49 50,.u (.storeD 2 (.t 66) (.t 60) [51]),.i 67 2 52 54,.u (.store 2 (.t 67) (.t 65))])) (.r [.n 46 8,.w 47 .sub 46 1,.n 8 47])))))) (.seq (.r [.v 68 2 7,.u (.store 2 (.t 6) (.t 68))]) (.ret))
def kJ(a b:Nat):IFn:=⟨[.cell 6 2 true],.seq (.r [.q 3 (.box (.t 0)),.q 6 (.alloc [.i .u8 0,.nils])]) (.seq (.seq (.r [.v 9 2 3,.l 10 a [.t 9],.q 11 (.un .not (.t 10))]) (.cond (.t 11) (.seq (.r [.v 12 2 3,.u (.store 2 (.t 6) (.t 12))]) (.ret)) (.skip))) (.seq (.r [.v 13 2 3,.n 14 1,.l 15 b [.t 13,.t 14],.q 7 (.alloc [.i .u8 0,.nils]),.u (.store 2 (.t 7) (.t 15))]) (.seq (.r [.f 16 1 7,.d 17 16,.n 18 1,.n 19 2,.q 20 (.build [.s [],.i .u32 0] [(0,1,(.t 18)),(1,1,(.t 19))]),.q 21 (.buildS 1 [.s [],.i .u32 0] [(0,2,(.t 20))]),.q 22 (.app 2 24 true (.t 17) (.t 21)),.f 23 1 7,.u (.store 1 (.t 23) (.t 22))]) (.cut (jl a b)))))⟩
theorem qgG{l:GList}(hM:zp l=true)(s:List UInt8)(n:Int){k:Nat}(h1:∀c ∈ (wo l.calls s).take k,ltS c.name s=true)(h2:∀c ∈ (wo l.calls s).drop k,ltS c.name s=false) :
  Q0 l s n=⟨l.mode,(wo l.calls s).take k++⟨s,n⟩::(wo l.calls s).drop k⟩:=by
 have hu:=((xC l).1 hM).2.2;have e:Q0 l s n=⟨l.mode,Wq l.calls s n⟩:=if_pos hM;obtain⟨f1,f2⟩:=qaM (fun c=>ltS c.name s) (wo l.calls s) k h1 h2
 have e1:l.calls.filter (fun c=>ltS c.name s)=(wo l.calls s).take k:=by
  rw[← f1];unfold wo;rw[List.filter_filter];refine List.filter_congr fun c _=>?_
  cases h:ltS c.name s with
  | false=>simp
  | true=>simp[JL h]
 have e2:l.calls.filter (fun c=>ltS s c.name)=(wo l.calls s).drop k:=by
  rw[← f2];unfold wo;rw[List.filter_filter];refine List.filter_congr fun c _=>?_
  rcases Wn c.name s with h|h|h
  ·rw[h,y9 h];simp
  ·rw[h,ZL];simp
  ·rw[h,y9 h];simp[(JL h).symm]
 rw[e,qaq hu,e1,e2]
theorem qjp{L:List GCall}{j:Nat}(h:j<L.length)(c:GCall):(rC L).take (j*2)++(AV.s c.name::AV.i .u32 c.act::(rC L).drop (j*2+2))=rC (L.set j c):=by
 have e:j*2+2=(j+1)*2:=by omega
 rw[e,Wu,qas,List.set_eq_take_append_cons_drop,if_pos h,← W0,Wt]
theorem qbp{α:Type}(d c:α)(B:List α):∀A:List α,((A++d::c::B).set (A.length+1) d).set A.length c=A++c::d::B
 | []=>rfl
 | a::A=>by
  have:=qbp d c B A;simp only[List.cons_append,List.length_cons,List.set_cons_succ,this]
theorem qjm(g1 g2:Nat)(l:GList)(hM:zp l=true)(s:List UInt8)(n:Int) :
  S P 0 (jl g1 g2) (xg [.cell 6 2 true] fun v' h'=>Frz h' v' (.agg (qj (Q0 l s n)))) (mkT [(6,.ptr 0 0),(7,.ptr 1 0)])
   (mkH 0 [.cells 0 true false [.i .u8 0,.nils],.cells 0 true false [.i .u8 l.mode,.own 2 (wo l.calls s++[(⟨s,n⟩:GCall)]).length],.cells 2 true true (rC (wo l.calls s++[(⟨s,n⟩:GCall)]))]):=by
 have hlen:(wo l.calls s).length<=40:=Nat.le_trans (List.length_filter_le _ _) (QH hM);have hup:Up (wo l.calls s):=X9 ((xC l).1 hM).2.2 _
 have hne:∀c ∈ wo l.calls s,c.name≠s:=by
  intro c hc;have:=(List.mem_filter.1 hc).2;simpa using this
 have fin:=fun {k:Nat}=>qgG hM s n (k:=k)
 generalize wo l.calls s=R at hlen hup hne fin;have hRl:(R++[(⟨s,n⟩:GCall)]).length=R.length+1:=by simp
 refine qr ?_;simp only[jl,hRl,vI,simprocAttr];have hw0:IntKind.wrap .i64 (((R.length+1:Nat):Int)-1)=(R.length:Int):=by rw[qq (by omega) (by omega)];omega
 have hw0':IntKind.wrap .i64 (R.length:Int)=(R.length:Int):=qq (by omega) (by omega);simp only[↓vS,vT,simprocAttr,hw0]
 refine SL.loop (α:=Nat) (fun k=>[(6,.ptr 0 0),(7,.ptr 1 0),(8,.i .i64 k)]) (fun k=>[.cells 0 true false [.i .u8 0,.nils],.cells 0 true false [.i .u8 l.mode,.own 2 (R.length+1)],.cells 2 true true (rC (R.take k++⟨s,n⟩::R.drop k))])
  (fun k=>k<=R.length∧∀c ∈ R.drop k,ltS s c.name=true) (fun k=>k) R.length [0,1,2] ?_ ?_ ?_ rfl ?_ ?_
 ·simp[vw,hw0']
 ·simp[vw,qa,qc]
 ·simp
 ·exact⟨Nat.le_refl _,fun c hc=>by rw[List.drop_of_length_le (Nat.le_refl _)] at hc;cases hc⟩
 rintro k ⟨hk,hI⟩ G ih;have h2:∀c ∈ R.drop k,ltS c.name s=false:=fun c hc=>y9 (hI c hc)
 have hLl:(R.take k++(⟨s,n⟩:GCall)::R.drop k).length=R.length+1:=by simp;omega
 have stop:(∀c ∈ R.take k,ltS c.name s=true)->Q0 l s n=⟨l.mode,R.take k++⟨s,n⟩::R.drop k⟩:=fun h1=>fin h1 h2
 simp only[vI,simprocAttr];cases k with
 | zero =>
  have hf:=stop (fun c hc=>by cases hc)
  have hn:¬(0:Int)<((0:Nat):Int):=by decide
  rw[hf];generalize (R.take 0++(⟨s,n⟩:GCall)::R.drop 0)=L at hLl;simp only[↓vS,vT,simprocAttr];refine qW ?_;simp only[↓vS,vT,simprocAttr,hn];simp[vZ,vP,Tr.get_set,qj,qn qc,hLl]
 | succ k =>
  have hkl:k<R.length:=by omega
  have hp:(0:Int)<((k+1:Nat):Int):=by omega
  have hw1:IntKind.wrap .i64 (((k+1:Nat):Int)-1)=(k:Int):=by rw[qq (by omega) (by omega)];omega
  have hd:R[k]?=some R[k]:=List.getElem?_eq_getElem hkl;have htk:R.take (k+1)=R.take k++[R[k]]:=by rw[List.take_add_one,hd];rfl
  have hdr:R.drop k=R[k]::R.drop (k+1):=List.drop_eq_getElem_cons hkl;have hLe:R.take (k+1)++(⟨s,n⟩:GCall)::R.drop (k+1)=R.take k++R[k]::⟨s,n⟩::R.drop (k+1):=by rw[htk,List.append_assoc];rfl
  have hAl:(R.take k).length=k:=by simp;omega
  have hswap:=qbp R[k] ⟨s,n⟩ (R.drop (k+1)) (R.take k);rw[hAl,← hLe] at hswap
  have hx1:(R.take (k+1)++(⟨s,n⟩:GCall)::R.drop (k+1))[k+1]?=some ⟨s,n⟩:=by
   rw[hLe,List.getElem?_append_right (by omega),hAl,Nat.add_sub_cancel_left];rfl
  have hx0:(R.take (k+1)++(⟨s,n⟩:GCall)::R.drop (k+1))[k]?=some R[k]:=by
   rw[hLe,List.getElem?_append_right (by omega),hAl];simp
  have hdm:R[k] ∈ R:=List.getElem_mem _
  have hI2:ltS s R[k].name=true->∀c ∈ R.drop k,ltS s c.name=true:=by
   intro h c hc;rw[hdr] at hc;rcases List.mem_cons.1 hc with rfl|hc
   ·exact h
   ·exact hI c hc
  have hstop2:ltS s R[k].name=false->∀c ∈ R.take (k+1),ltS c.name s=true:=by
   intro h c hc
   have hk1:ltS R[k].name s=true:=by
    rcases Wn R[k].name s with h1|h1|h1
    ·exact h1
    ·exact absurd h1 (hne _ hdm)
    ·rw[h1] at h;cases h
   rw[htk] at hc;rcases List.mem_append.1 hc with hc|hc
   ·have hu2:Up (R.take k++[R[k]]):=by rw[← htk];exact List.Pairwise.sublist (List.take_sublist _ _) hup
    exact yb ((List.pairwise_append.1 hu2).2.2 c hc R[k] (by simp)) hk1
   ·rw[List.mem_singleton.1 hc];exact hk1
  have g1:(rC (R.take (k+1)++(⟨s,n⟩:GCall)::R.drop (k+1)))[(k+1)*2]?=some (.s s):=JT hx1 (i:=0) (by decide);have g0:(rC (R.take (k+1)++(⟨s,n⟩:GCall)::R.drop (k+1)))[k*2]?=some (.s R[k].name):=JT hx0 (i:=0) (by decide);have e1:=yf hx1;have e0:=yf hx0;have s1:=qjp (L:=R.take (k+1)++(⟨s,n⟩:GCall)::R.drop (k+1)) (j:=k+1) (by omega) R[k];have s0:=qjp (L:=(R.take (k+1)++(⟨s,n⟩:GCall)::R.drop (k+1)).set (k+1) R[k]) (j:=k) (by rw[List.length_set];omega) ⟨s,n⟩;rw[hswap] at s0;have hll1:(rC ((R.take (k+1)++(⟨s,n⟩:GCall)::R.drop (k+1)).set (k+1) R[k])).length=(R.length+1)*2:=by rw[wP,List.length_set,hLl]
  cases hlt:ltS s R[k].name with
  | false =>
   have hf:=stop (hstop2 hlt);rw[hf];generalize (R.take (k+1)++(⟨s,n⟩:GCall)::R.drop (k+1))=L at hLl g1 g0;have b1:k+1<R.length+1:=by omega
   have b0:k<R.length+1:=by omega
   simp only[↓vS,vT,simprocAttr];refine qW ?_;simp only[↓vS,vT,simprocAttr,hp,hw1,b1,b0,g1,g0,hlt];simp[vZ,vP,Tr.get_set,qj,qn qc,hLl]
  | true =>
   have ih2:=ih k ⟨by omega,hI2 hlt⟩ (by omega)
   rw[hdr] at ih2;generalize (R.take (k+1)++(⟨s,n⟩:GCall)::R.drop (k+1))=L at hLl g1 g0 e1 e0 s1 s0 hll1;have hll:(rC L).length=(R.length+1)*2:=by rw[wP,hLl]
   have b1:k+1<R.length+1:=by omega
   have b0:k<R.length+1:=by omega
   have c1:(k+1)*2+2<=(R.length+1)*2:=by omega
   have c0:k*2+2<=(R.length+1)*2:=by omega
   simp only[↓vS,vT,simprocAttr];refine qW ?_;simp only[↓vS,vT,simprocAttr,hp,hw1,b1,b0,g1,g0,hlt];refine qW ?_;simp (decide:=true) only [↓vS,vT,simprocAttr,hp,hw1,b1,b0,hll,hll1,c1,c0,e1,e0,js,s1,s0];refine ih2 _ _ (Wk.mk _ _ [0,1,2] ?_ ?_ ?_ rfl)
   ·simp[vw]
   ·simp[vw,qa,qc]
   ·simp
theorem qtQ{g1 g2:Nat}(hc:qk P f (kJ g1 g2)=true)(h1:qhB P g1)(h2:Zw P g2):qaC P f:=by
 intro l s n hl hR;refine qd.mk hc rfl ?_;simp only[kJ,qj,vI,simprocAttr];simp only[↓vS,vT,simprocAttr];refine (h1 l hl hR).sc ?_;cases hM:zp l with
 | false =>
  have hw:Q0 l s n=l:=by unfold Q0;rw[hM];rfl
  rw[hw];simp only[↓vS,vT,simprocAttr];simp[vZ,vP,Tr.get_set,qj,qn qc]
 | true =>
  have hlen:(wo l.calls s).length<=40:=Nat.le_trans (List.length_filter_le _ _) (QH hM);have hr1:(wo l.calls s).length+1<=qf:=by simp only[qf];omega
  have hr2:((wo l.calls s).length+1)*24<=qf:=by simp only[qf];omega
  have hap:rC (wo l.calls s)++[AV.s s,.i .u32 n]=rC (wo l.calls s++[⟨s,n⟩]):=by rw[← W0];rfl
  simp only[↓vS,vT,simprocAttr];refine (h2 l s hl).sc ?_;simp only[vJ,simprocAttr,zV qc];simp (decide:=true) only [↓vS,vT,simprocAttr,hr1,hr2,wP,hap];refine S.weak (Wk.mk _ _ [1,3,5] ?_ ?_ ?_ rfl) (qjm g1 g2 l hM s n)
  ·simp[vw]
  ·simp[vw,qa,qc]
  ·simp
end Go.Kc
end
