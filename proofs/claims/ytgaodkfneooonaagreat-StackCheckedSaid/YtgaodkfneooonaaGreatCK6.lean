/- Walks, part 6. Conditions: with each theorem. -/
import Derived.Test.YtgaodkfneooonaaGreatCK5
import Derived.Shelf.GgSortFunc.InsertionK
set_option maxHeartbeats 4000000
set_option linter.defProp false
set_option linter.unusedSectionVars false
set_option linter.unusedSimpArgs false
set_option linter.unusedVariables false
set_option linter.unnecessarySimpa false
section
namespace Go.Kc
variable {P:Program} {f:Nat}



end Go.Kc
end
section
namespace Go.Kc
variable (E:List UInt8->List (List UInt8)×Int)
end Go.Kc
end
section
namespace Go.Kc
theorem qrK:∀a:List UInt8,ltS a a=false
 | []=>rfl
 | c::x=>by rw[qpG,if_neg (UInt8.lt_irrefl c),if_pos rfl];exact qrK x
theorem qm9:∀{a b c:List UInt8},ltS a b=true->ltS b c=true->ltS a c=true
 | _,[],[],_,h2=>by omega
 | _,_::_,[],_,h2=>by simp_all[qpH]
 | [],_,_::_,_,_=>rfl
 | _::_,[],_::_,h1,_=>by simp_all[qpH]
 | a::x,b::y,c::z,h1,h2=>by
  rw[qpG]at h1 h2 ⊢;simp only[UInt8.lt_iff_toNat_lt,<- UInt8.toNat_inj]at h1 h2 ⊢
  by_cases e1:a.toNat<b.toNat
  .grind
  .rw[if_neg e1]at h1;split at h1
   .rename_i e3
    by_cases e2:b.toNat<c.toNat
    .rw[if_pos (by omega)]
    .rw[if_neg e2]at h2;split at h2
     .rw[if_neg (by omega),if_pos (by omega)];exact qm9 h1 h2
     .cases h2
   simp_all
def qDs{a b:List UInt8}(h:ltS a b=true):a≠b:=by
 grind[qrK]
def Up(l:List GCall):Prop:=l.Pairwise λa b=>ltS a.name b.name=true
def qmr:∀(o:Option GCall) (l:List GCall),qbW o l=true↔((∀c ∈ l,okC c=true)/\Up l/\∀b,o=some b->∀c ∈ l,ltS b.name c.name=true)
 | o,[]=>by simp[qbW,Up]
 | o,c::l=>by
  have ih:=qmr (some c) l;simp only[qbW,zzB,ih,Up,List.pairwise_cons,List.mem_cons,forall_eq_or_imp];constructor
  .grind[qm9]
  .rintro⟨⟨h1,h3⟩,⟨h5,h4⟩,h6⟩;refine⟨⟨h1,?_⟩,h3,h4,?_⟩
   .cases o with
    | none=>rfl
    | some b=>exact(h6 b rfl).1
   simp_all
def qwt(l:GList):qd8 l=true↔(l.mode<=2/\(l.mode≠0\/l.calls=[]))/\(∀c ∈ l.calls,okC c=true)/\Up l.calls:=by
 unfold qd8;rw[zzB,zzB,zzO,decide_eq_true_eq,decide_eq_true_eq,decide_eq_true_eq,qmr];simp
end Go.Kc
end
section
namespace Go.Kc
variable (E:List UInt8->List (List UInt8)×Int)
variable {E}
end Go.Kc
end
section
namespace Go.Kc
variable {P:Program} {f:Nat}



def ql3(a:Asg)(n:GNote):GNote:=⟨a.file,a.line,n.err,n.text⟩




def Rng(l:List GCall):Prop:=∀c ∈ l,0<=c.act/\c.act<=4294967295




def qmB(x:Int):List Int->Nat->Int
 | [],_=>-1
 | y::ys,j=>if x=y then(j:Int)else qmB x ys (j+1)




def qmb{k:IntKind}{L:List Int}{j:Nat}(h:j<L.length)(x:Int):(rI k L).take j++(AV.i k x::(rI k L).drop (j+1))=rI k (L.set j x):=by
 unfold rI;rw[List.set_eq_take_append_cons_drop,if_pos h,List.map_append,List.map_cons,List.map_take,List.map_drop]
def qbo:IFn:=⟨[.tmp 4],sq [.r [.m 4 (.k 0)],sq [.r [.n 6 0,.e 7 6,.m 8 (.k 0)],.blk 0 (.loop (sq [.r [.s 9 8 7],.cond (.t 9) (.skip) (.exit 0),.blk 1 (sq [.r [.n 10 8,.n 5 10],.r [.n 11 1,.n 12 0,.n 13 5,.i 14 1 12 13,.d 15 14,.b 16 .eql 11 15],.cond (.t 16) (sq [.r [.n 17 5,.n 4 17],.ret]) (.skip)]),.r [.a 18 8 1,.n 8 18]]))],.r [.q 4 (.mov (.c (.j (-1))))],.ret]⟩
def qFF(hc:qc P f qbo=true)(xs:List Int)(x:Int)(hl:xs.length<=qf):qa P f [.fz xs.length (rI .i64 xs),.j x] (.j (qmB x xs 0)):=by
 refine qa.mk hc (by simp[qt,clo,qi]) ?_;simp only[qbo,vI,simprocAttr];simp only[↓vS,vT,simprocAttr];refine SL.loop (α:=Nat) (λj=>[(0,.fz xs.length (rI .i64 xs)),(1,.j x),(7,.j xs.length),(8,.j j)]) (λ_=>[]) (λj=>j<=xs.length/\qmB x xs 0=qmB x (xs.drop j) j) (λj=>xs.length-j) 0 [] ?_ ?_ ?_ rfl ?_ ?_
 .simp[vw,qi]
 .trivial
 .simp
 .simp
 rintro j ⟨hj,hI⟩ G ih;simp only[vI,simprocAttr]
 by_cases hlt:j<xs.length
 .have hx:xs[j]?=some xs[j]:=by simp_all
  have hw:IntKind.wrap .i64 ((j:Int)+1)=(j:Int)+1:=qm (by omega) (by have:=hl;simp only[qf]at this;omega)
  rw[List.drop_eq_getElem_cons hlt,qmB]at hI;simp only[↓vS,vT,simprocAttr,hlt,zzU,qaZ,hx,Option.map_some,hw];split
  .rename_i he;simp only[he,vZ,if_true]at hI ⊢
   grind
  .rename_i he;rw[if_neg he]at hI;refine ih (j+1) ⟨by omega,hI⟩ (by omega) _ _ (Wk.mk _ _ [] ?_ ?_ ?_ rfl)
   .simp[vw,qi]
   .trivial
   .simp
 .simp only[↓vS,vT,simprocAttr,hlt,vZ];rw[List.drop_eq_nil_of_le (by omega)]at hI;simp[hI,qmB]
def qpp(x:Int):∀(l:List Int) (j:Nat),decide (0<=qmB x l j)=decide (x ∈ l)
 | [],j=>by simp[qmB]
 | y::l,j=>by
  rw[qmB]
  by_cases h:x=y
  .simp[h]
  .rw[if_neg h,qpp x l (j+1)];simp[h]
def qaw(a:Nat):IFn:=⟨[.tmp 4],sq [.r [.m 4 .F],.r [.n 5 0,.n 6 1,.l 7 a [.t 5,.t 6],.w 8 .geq 7 0,.n 4 8],.ret]⟩
def qyQ{g:Nat}(hc:qc P f (qaw g)=true)(hg:∀(xs:List Int) (x:Int),xs.length<=qf->qa P g [.fz xs.length (rI .i64 xs),.j x] (.j (qmB x xs 0)))(xs:List Int)(x:Int)(hl:xs.length<=qf):qa P f [.fz xs.length (rI .i64 xs),.j x] (.b (decide (x ∈ xs))):=by
 refine qa.mk hc (by simp[qt,clo,qi]) ?_;simp only[qaw,vI,simprocAttr];simp only[↓vS,vT,simprocAttr];refine(hg xs x hl).sc ?_;simp only[↓vS,vT,simprocAttr];simp[vZ,<- qpp x xs 0]
def inA(l:List Int)(x:Int):Bool:=decide (l=[])||decide (x ∈ l)
def qlL(a:Nat):IFn:=⟨[.tmp 4],sq [.r [.m 4 .F],.r [.n 5 0,.e 6 5,.w 7 .eql 6 0,.n 8 7,.z 9 0 8,.z 10 1 8,⟨(some 11),.callF a [.t 9,.t 10],(some (8,false))⟩,.o 12 8 11,.n 4 12],.ret]⟩
def qIx{g:Nat}(hc:qc P f (qlL g)=true)(hg:∀(xs:List Int) (x:Int),xs.length<=qf->qa P g [.fz xs.length (rI .i64 xs),.j x] (.b (decide (x ∈ xs))))(xs:List Int)(x:Int)(hl:xs.length<=qf):qa P f [.fz xs.length (rI .i64 xs),.j x] (.b (inA xs x)):=by
 refine qa.mk hc (by simp[qt,clo,qi]) ?_;simp only[qlL,vI,simprocAttr]
 by_cases h:xs.length=0
 .have h':((xs.length:Int)=0)=True:=eq_true (by omega);have hn:xs=[]:=by simp_all
  simp only[↓vS,vT,simprocAttr,h'];simp[vZ,inA,hn]
 .have h':((xs.length:Int)=0)=False:=eq_false (by omega);have hn:xs≠[]:=by simp_all
  simp only[↓vS,vT,simprocAttr,h'];refine(hg xs x hl).sc ?_;simp only[↓vS,vT,simprocAttr];simp[vZ,inA,hn]
def qhR(a:Int):List UInt8:=if a<0\/6<=a then []else(xc.getD a.toNat ([],0)).1
def qja(a:Nat):IFn:=⟨[.tmp 2],sq [.r [.m 2 (.c (.s []))],sq [.r [.n 3 0,.w 4 .lss 3 0,.n 5 4,.z 6 0 5,.g 7 (.bin .geq (.t 6) (.k 6)) 5 false,.o 8 5 7],.cond (.t 8) (sq [.r [.m 2 (.c (.s []))],.ret]) (.skip)],.r [.l 9 a [],.n 10 0,.q 11 (.idxA 6 2 true (.t 9) (.t 10)),.q 12 (.fld 0 none (.t 11)),.n 2 12],.ret]⟩
def qGy{g:Nat}(hc:qc P f (qja g)=true)(hg:qa P g [] (.agg (xc.flatMap (qa5 .u32))))(a:Int):qa P f [.j a] (.s (qhR a)):=by
 refine qa.mk hc rfl ?_;simp only[qja,vI,simprocAttr]
 by_cases h1:a<0
 .simp only[↓vS,vT,simprocAttr,h1];simp[vZ,qhR,h1]
 by_cases h2:6<=a
 .simp only[↓vS,vT,simprocAttr,h1,h2];simp[vZ,qhR,h2]
 simp only[↓vS,vT,simprocAttr,h1,h2];refine hg.sc ?_;have h3:a=0\/a=1\/a=2\/a=3\/a=4\/a=5:=by omega
 rcases h3 with rfl|rfl|rfl|rfl|rfl|rfl <;>
 .simp only[↓vS,vT,simprocAttr,xc,qa5,List.flatMap_cons,List.flatMap_nil];simp[vZ,qhR,xc]
def qoK(a:Int):(qhR a≠[])↔(0<=a/\a<6):=by
 unfold qhR;constructor
 .simp_all
 .intro h;rw[if_neg (by omega)];have h3:a=0\/a=1\/a=2\/a=3\/a=4\/a=5:=by omega
  rcases h3 with rfl|rfl|rfl|rfl|rfl|rfl<;>decide
def z8(is:Int->Bool):Option Int->List Int->Bool
 | _,[]=>true
 | o,x::l=>is x&&(o.elim true λb=>decide (b<x))&&z8 is (some x) l
def qdc:IFn:=⟨[.tmp 4],sq [.r [.m 4 .F],sq [.r [.n 7 0,.e 8 7,.m 9 (.k 0)],.blk 0 (.loop (sq [.r [.s 10 9 8],.cond (.t 10) (.skip) (.exit 0),.blk 1 (sq [.r [.n 11 9,.i 12 1 7 9,.d 13 12,.n 5 11,.n 6 13],.r [.n 14 1,.n 15 6,⟨(some 16),.callV (.t 14) [.t 15],none⟩,.q 17 (.un .not (.t 16)),.n 18 17,.z 19 5 18,.g 20 (.bin .gtr (.t 19) (.k 0)) 18 false,.z 21 20 18,.y 22 0 21,.y 23 5 21,.g 24 (.bin .sub (.t 23) (.k 1)) 21 true,.g 25 (.iAddrS 1 (.t 22) (.t 24)) 21 true,.j 26 25 21 true,.y 27 6 21,.g 28 (.bin .geq (.t 26) (.t 27)) 21 true,.g 29 (.pick (.t 21) (.t 28) .F) 18 false,.o 30 18 29],.cond (.t 30) (sq [.r [.m 4 .F],.ret]) (.skip)]),.r [.a 31 9 1,.n 9 31]]))],.r [.m 4 .T],.ret]⟩
def qFW(hc:qc P f qdc=true)(xs:List Int)(g:Nat)(is:Int->Bool)(hg:∀x,qa P g [.j x] (.b (is x)))(hl:xs.length<=100000):qa P f [.fz xs.length (rI .i64 xs),.fn g [] []] (.b (z8 is none xs)):=by
 refine qa.mk hc (by simp[qt,clo,qi]) ?_;simp only[qdc,vI,simprocAttr];simp only[↓vS,vT,simprocAttr]
 refine SL.loop (α:=Nat) (λj=>[(0,.fz xs.length (rI .i64 xs)),(1,.fn g [] []),(7,.fz xs.length (rI .i64 xs)),(8,.j xs.length),(9,.j j)]) (λ_=>[])
  (λj=>j<=xs.length/\z8 is none xs=z8 is (if j=0 then none else xs[j-1]?) (xs.drop j)) (λj=>xs.length-j) 0 [] ?_ ?_ ?_ rfl ?_ ?_
 .simp[vw,qi]
 .trivial
 .simp
 .simp_all
 rintro j ⟨hj,hI⟩ G ih;simp only[vI,simprocAttr]
 by_cases hlt:j<xs.length
 .have hx:xs[j]?=some xs[j]:=by simp_all
  have hw:IntKind.wrap .i64 ((j:Int)+1)=((j+1:Nat):Int):=by rw[qm (by omega) (by omega)];omega
  rw[List.drop_eq_getElem_cons hlt,z8]at hI;generalize hc0:xs[j]=c at hI hx;simp only[↓vS,vT,simprocAttr,hlt,zzU,qaZ,hx,Option.map_some];refine(hg c).sc ?_;cases hk:is c with
  | false =>
   have hw:z8 is none xs=false:=by rw[hI];grind
   simp only[↓vS,vT,simprocAttr];simp[vZ,hw]
  | true =>
   by_cases h0:j=0
   .subst h0;have hn:¬(0:Int)<((0:Nat):Int):=by decide
    simp only[↓vS,vT,simprocAttr,hn,hw];refine ih 1 ⟨by omega,?_⟩ (by omega) _ _ (Wk.mk _ _ [] ?_ ?_ ?_ rfl)
    .rw[hI,hk];grind
    .simp[vw,qi]
     simp_all
    .trivial
    .simp
   .have hp:(0:Int)<(j:Int):=by omega
    have hpl:j-1<xs.length:=by omega
    have hy:xs[j-1]?=some xs[j-1]:=by simp_all
    have hw2:IntKind.wrap .i64 ((j:Int)-1)=((j-1:Nat):Int):=by rw[qm (by omega) (by omega)];omega
    rw[if_neg h0,hy]at hI
    by_cases hlt2:c<=xs[j-1]
    .have hwf:z8 is none xs=false:=by rw[hI];grind
     simp only[↓vS,vT,simprocAttr,hp,hw2,hpl,hy,zzU,qaZ,Option.map_some,hlt2];simp[vZ,hwf]
    .simp only[↓vS,vT,simprocAttr,hp,hw2,hpl,hy,zzU,qaZ,Option.map_some,hlt2,hw];refine ih (j+1) ⟨by omega,?_⟩ (by omega) _ _ (Wk.mk _ _ [] ?_ ?_ ?_ rfl)
     .rw[hI,hk];simp_all
     .simp[vw,qi]
     .trivial
     .simp
 .rw[List.drop_of_length_le (by omega),z8]at hI;simp only[↓vS,vT,simprocAttr,hlt];simp[vZ,hI]
def qbM:IFn:=⟨[.tmp 4],sq [.r [.m 4 .F],sq [.r [.n 7 0,.e 8 7,.m 9 (.k 0)],.blk 0 (.loop (sq [.r [.s 10 9 8],.cond (.t 10) (.skip) (.exit 0),.blk 1 (sq [.r [.n 11 9,.i 12 1 7 9,.d 13 12,.n 5 11,.n 6 13],.r [.n 14 1,.n 15 6,⟨(some 16),.callV (.t 14) [.t 15],none⟩,.q 17 (.un .not (.t 16)),.n 18 17,.z 19 5 18,.g 20 (.bin .gtr (.t 19) (.k 0)) 18 false,.z 21 20 18,.y 22 0 21,.y 23 5 21,.g 24 (.bin .sub (.t 23) (.k 1)) 21 true,.g 25 (.iAddrS 1 (.t 22) (.t 24)) 21 true,.j 26 25 21 true,.y 27 6 21,.g 28 (.bin .geq (.t 26) (.t 27)) 21 true,.g 29 (.pick (.t 21) (.t 28) .F) 18 false,.o 30 18 29],.cond (.t 30) (sq [.r [.m 4 .F],.ret]) (.skip)]),.r [.a 31 9 1,.n 9 31]]))],.r [.m 4 .T],.ret]⟩
def qFX(hc:qc P f qbM=true)(xs:List Int)(g:Nat)(is:Int->Bool)(hg:∀x,qa P g [.w x] (.b (is x)))(hl:xs.length<=100000):qa P f [.fz xs.length (rI .u32 xs),.fn g [] []] (.b (z8 is none xs)):=by
 refine qa.mk hc (by simp[qt,clo,qi]) ?_;simp only[qbM,vI,simprocAttr];simp only[↓vS,vT,simprocAttr]
 refine SL.loop (α:=Nat) (λj=>[(0,.fz xs.length (rI .u32 xs)),(1,.fn g [] []),(7,.fz xs.length (rI .u32 xs)),(8,.j xs.length),(9,.j j)]) (λ_=>[])
  (λj=>j<=xs.length/\z8 is none xs=z8 is (if j=0 then none else xs[j-1]?) (xs.drop j)) (λj=>xs.length-j) 0 [] ?_ ?_ ?_ rfl ?_ ?_
 .simp[vw,qi]
 .trivial
 .simp
 .simp_all
 rintro j ⟨hj,hI⟩ G ih;simp only[vI,simprocAttr]
 by_cases hlt:j<xs.length
 .have hx:xs[j]?=some xs[j]:=by simp_all
  have hw:IntKind.wrap .i64 ((j:Int)+1)=((j+1:Nat):Int):=by rw[qm (by omega) (by omega)];omega
  rw[List.drop_eq_getElem_cons hlt,z8]at hI;generalize hc0:xs[j]=c at hI hx;simp only[↓vS,vT,simprocAttr,hlt,zzU,qaZ,hx,Option.map_some];refine(hg c).sc ?_;cases hk:is c with
  | false =>
   have hw:z8 is none xs=false:=by rw[hI];grind
   simp only[↓vS,vT,simprocAttr];simp[vZ,hw]
  | true =>
   by_cases h0:j=0
   .subst h0;have hn:¬(0:Int)<((0:Nat):Int):=by decide
    simp only[↓vS,vT,simprocAttr,hn,hw];refine ih 1 ⟨by omega,?_⟩ (by omega) _ _ (Wk.mk _ _ [] ?_ ?_ ?_ rfl)
    .rw[hI,hk];grind
    .simp[vw,qi]
     simp_all
    .trivial
    .simp
   .have hp:(0:Int)<(j:Int):=by omega
    have hpl:j-1<xs.length:=by omega
    have hy:xs[j-1]?=some xs[j-1]:=by simp_all
    have hw2:IntKind.wrap .i64 ((j:Int)-1)=((j-1:Nat):Int):=by rw[qm (by omega) (by omega)];omega
    rw[if_neg h0,hy]at hI
    by_cases hlt2:c<=xs[j-1]
    .have hwf:z8 is none xs=false:=by rw[hI];grind
     simp only[↓vS,vT,simprocAttr,hp,hw2,hpl,hy,zzU,qaZ,Option.map_some,hlt2];simp[vZ,hwf]
    .simp only[↓vS,vT,simprocAttr,hp,hw2,hpl,hy,zzU,qaZ,Option.map_some,hlt2,hw];refine ih (j+1) ⟨by omega,?_⟩ (by omega) _ _ (Wk.mk _ _ [] ?_ ?_ ?_ rfl)
     .rw[hI,hk];simp_all
     .simp[vw,qi]
     .trivial
     .simp
 .rw[List.drop_of_length_le (by omega),z8]at hI;simp only[↓vS,vT,simprocAttr,hlt];simp[vZ,hI]
def qbQ(n:Int):List (List UInt8×Int)->List UInt8
 | []=>[]
 | p::l=>if p.2=n then p.1 else qbQ n l
def qdP:IFn:=⟨[.tmp 4],sq [.r [.m 4 (.c (.s []))],sq [.r [.n 7 0,.e 8 7,.m 9 (.k 0)],.blk 0 (.loop (sq [.r [.s 10 9 8],.cond (.t 10) (.skip) (.exit 0),.blk 1 (sq [.r [.i 11 2 7 9,.v 12 2 11,.q 6 (.alloc [.s [],.w 0]),.u (.store 2 (.t 6) (.t 12))],.r [.f 13 1 6,.d 14 13,.n 15 1,.b 16 .eql 14 15],.cond (.t 16) (sq [.r [.f 17 0 6,.d 18 17,.n 4 18],.ret]) (.skip)]),.r [.a 19 9 1,.n 9 19]]))],.r [.m 4 (.c (.s []))],.ret]⟩
def qIY(hc:qc P f qdP=true)(l:List (List UInt8×Int))(n:Int)(hl:l.length<=qf):qa P f [.fz l.length (l.flatMap (qa5 .u32)),.w n] (.s (qbQ n l)):=by
 refine qa.mk hc (by simp[qt,clo]) ?_;simp only[qdP,vI,simprocAttr];simp only[↓vS,vT,simprocAttr];refine SL.loop (α:=Nat) (λj=>[(1,.w n),(7,.fz l.length (l.flatMap (qa5 .u32))),(8,.j l.length),(9,.j j)]) (λ_=>[]) (λj=>j<=l.length/\qbQ n l=qbQ n (l.drop j)) (λj=>l.length-j) 0 [] ?_ ?_ ?_ rfl ?_ ?_
 .simp[vw]
 .trivial
 .simp
 .simp
 rintro j ⟨hj,hI⟩ G ih;simp only[vI,simprocAttr]
 by_cases hlt:j<l.length
 .have hx:l[j]?=some l[j]:=by simp_all
  have hw:IntKind.wrap .i64 ((j:Int)+1)=(j:Int)+1:=qm (by omega) (by have:=hl;simp only[qf]at this;omega)
  have he:=qG (f:=qa5 .u32) (m:=2) qmi hx;have hb:j*2+2<=(l.flatMap (qa5 .u32)).length:=by rw[qV (m:=2) qmi];omega
  rw[List.drop_eq_getElem_cons hlt,qbQ]at hI;simp only[↓vS,vT,simprocAttr,hlt,hb,he,qa5,hw];split
  .rename_i hs;rw[hI,if_pos hs];simp only[vZ,and_self,true_and]
  .rename_i hs;rw[if_neg hs]at hI;refine ih (j+1) ⟨by omega,hI⟩ (by omega) _ _ (Wk.mk _ _ [] ?_ ?_ ?_ rfl)
   .simp[vw]
   .trivial
   .simp
 .simp only[↓vS,vT,simprocAttr,hlt,vZ];rw[List.drop_eq_nil_of_le (by omega),qbQ]at hI;rw[hI]
def qdb(a b:Nat):IFn:=⟨[.tmp 2],sq [.r [.m 2 (.c (.s []))],.r [.l 4 a [],.q 3 (.alloc [.s [],.w 0,.s [],.w 0,.s [],.w 0,.s [],.w 0,.s [],.w 0,.s [],.w 0,.s [],.w 0,.s [],.w 0]),.u (.store 16 (.t 3) (.t 4))],.r [.q 5 (.slcA 8 2 (.t 3) none none none),.n 6 0,.l 7 b [.t 5,.t 6],.n 2 7],.ret]⟩
def qCQ{g1 g2:Nat}(hc:qc P f (qdb g1 g2)=true)(h1:qa P g1 [] (.agg (zR.flatMap (qa5 .u32))))(h2:∀(l:List (List UInt8×Int)) (n:Int),l.length<=qf->qa P g2 [.fz l.length (l.flatMap (qa5 .u32)),.w n] (.s (qbQ n l)))(n:Int):qa P f [.w n] (.s (qbQ n zR)):=by
 refine qa.mk hc rfl ?_;simp only[qdb,vI,simprocAttr];simp only[↓vS,vT,simprocAttr];refine h1.sc ?_;simp only[↓vS,vT,simprocAttr,zR,qa5,List.flatMap_cons,List.flatMap_nil];refine(h2 zR n (by decide)).lend (vs':=[.fz 8 (zR.flatMap (qa5 .u32)),.w n]) ?_ rfl ?_
 .refine .cons _ _ _ _ (.cut 2 rfl (zzL _) ?_) (.cons _ _ _ _ (.i _ _) .nil);simp[vw,zR,qa5]
 simp only[↓vS,vT,simprocAttr,vZ,and_self,zR]
def qge:IFn:=⟨[.tmp 2],sq [.r [.q 1 (.box (.t 0)),.m 2 .F],.r [.f 3 1 1,.d 4 3,.q 5 (.bin .neq (.t 4) (.c (.w 0))),.n 2 5],.ret]⟩
def qJR(hc:qc P f qge=true)(c:GCall):qa P f [.agg (qe9 c)] (.b (decide (c.act≠0))):=by
 refine qa.mk hc rfl ?_;simp only[qge,qe9,vI,simprocAttr]
 by_cases h:c.act=0 <;>
 .simp only[↓vS,vT,simprocAttr,h];simp[vZ,h]
def qgf(a:Nat):IFn:=⟨[.tmp 2],sq [.r [.m 2 .F],.r [.n 3 0,.l 4 a [.t 3],.q 5 (.bin .neq (.t 4) (.c (.s []))),.n 2 5],.ret]⟩
def qJS{g:Nat}(hc:qc P f (qgf g)=true)(hg:∀a,qa P g [.j a] (.s (qhR a)))(a:Int):qa P f [.j a] (.b (decide (0<=a)&&decide (a<6))):=by
 refine qa.mk hc rfl ?_;simp only[qgf,vI,simprocAttr];simp only[↓vS,vT,simprocAttr];refine(hg a).sc ?_;have h:=qoK a
 by_cases h':qhR a=[]
 .have h2:(decide (0<=a)&&decide (a<6))=false:=by
   have:=mt h.2 (by simpa using h')
   simp_all
  simp only[↓vS,vT,simprocAttr,h'];simp[vZ,h2]
 .have h2:=h.1 h';simp only[↓vS,vT,simprocAttr,h'];simp[vZ,h2]
def qnX(n:Int):Bool:=decide (qbQ n zR≠[])
def qgg(a:Nat):IFn:=⟨[.tmp 2],sq [.r [.m 2 .F],.r [.n 3 0,.l 4 a [.t 3],.q 5 (.bin .neq (.t 4) (.c (.s []))),.n 2 5],.ret]⟩
def qJT{g:Nat}(hc:qc P f (qgg g)=true)(hg:∀a,qa P g [.w a] (.s (qbQ a zR)))(a:Int):qa P f [.w a] (.b (qnX a)):=by
 refine qa.mk hc rfl ?_;simp only[qgg,vI,simprocAttr];simp only[↓vS,vT,simprocAttr];refine(hg a).sc ?_;unfold qnX;generalize qbQ a zR=s
 by_cases h':s=[] <;>
 .simp only[↓vS,vT,simprocAttr,h'];simp[vZ,h']
def xg(a:Nat):IFn:=⟨[.tmp 4],sq [.r [.m 4 .F],.r [.n 5 0,.n 6 1,.l 7 a [.t 5,.t 6],.w 8 .geq 7 0,.n 4 8],.ret]⟩
def qlK{α:Type}(p:α->Bool):∀(l:List α) (j:Nat),decide (0<=xI p l j)=l.any p
 | [],j=>by simp[xI]
 | x::l,j=>by
  rw[xI]
  by_cases h:p x=true
  .simp[h]
  .rw[if_neg h,qlK p l (j+1)];simp[h]
def qu6{g:Nat}(hc:qc P f (xg g)=true)(h:qfC 2 P g)(l:List GCall)(k:Nat)(p:GCall->Bool)(hk:∀c,qa P k [.agg (qe9 c)] (.b (p c)))(hl:l.length<=qf):qa P f [.fz l.length (rC l),.fn k [] []] (.b (l.any p)):=by
 refine qa.mk hc (by simp[qt,clo,qp]) ?_;simp only[xg,vI,simprocAttr];simp only[↓vS,vT,simprocAttr];refine(h qe9 p k [] [] l qhr rfl rfl hl λx _=>hk x).sc ?_
 simp only[↓vS,vT,simprocAttr];simp[vZ,<- qlK p l 0]
def qch(a b c d e g h i:Nat):ICode:=sq [.reg true [.n 46 3,.n 47 46,.y 48 4 47,.p 49 47 48,.n 50 49,.y 51 5 50,.p 52 50 51,.n 53 52,.y 54 6 53,.p 55 53 54,.n 56 55,.y 57 7 56,.p 58 56 57,.n 59 58,.h 60 1 1 59 true,.g 61 (.loadN 2 (.t 60)) 59 true,⟨(some 62),.callF h [.t 61],(some (59,true))⟩,.p 63 59 62,.n 64 63,.h 65 4 1 64 true,.g 66 (.loadN 2 (.t 65)) 64 true,⟨(some 67),.callF h [.t 66],(some (64,true))⟩,.p 68 64 67,.n 69 68,.h 70 8 1 69 true,.j 71 70 69 true,⟨(some 72),.callF i [],(some (69,true))⟩,.g 73 (.bin .andNot (.t 71) (.t 72)) 69 true,.g 74 (.bin .eql (.t 73) (.c (.x 0))) 69 true,.p 75 69 74,.n 2 75],.ret]
def qaL(a b c d e g h i:Nat):ICode:=sq [.r [.f 40 0 1,.d 41 40,.l 42 c [.t 41,(.c (.fn d [] []))],.n 6 42],.r [.f 43 6 1,.d 44 43,.l 45 e [.t 44,(.c (.fn g [] []))],.n 7 45],.cut (qch a b c d e g h i)]
def qaK(a b c d e g h i:Nat):ICode:=sq [.r [.f 26 7 1,.d 27 26,.q 28 (.bin .leq (.t 27) (.c (.y 2))),.n 29 28,.h 30 7 1 29 true,.j 31 30 29 true,.g 32 (.bin .neq (.t 31) (.c (.y 0))) 29 true,.y 33 32 29,.h 34 6 1 33 false,.j 35 34 33 false,.g 36 (.len false (.t 35)) 33 false,.g 37 (.bin .eql (.t 36) (.k 0)) 33 false,.g 38 (.pick (.t 33) .T (.t 37)) 29 true,.p 39 29 38,.n 5 39],.cut (qaL a b c d e g h i)]
def qh9(a b c d e g h i:Nat):IFn:=⟨[.tmp 2],sq [.r [.q 1 (.box (.t 0)),.m 2 .F],.r [.f 8 4 1,.f 9 1 8,.d 10 9,.l 11 a [.t 10,(.c (.fn b [] []))],.q 12 (.un .not (.t 11)),.n 3 12],.r [.f 13 3 1,.d 14 13,.q 15 (.bin .eql (.t 14) (.c (.w 2147483648))),.n 16 15,.h 17 3 1 16 false,.j 18 17 16 false,.g 19 (.bin .geq (.t 18) (.c (.w 327680))) 16 false,.z 20 19 16,.h 21 3 1 20 true,.j 22 21 20 true,.g 23 (.bin .leq (.t 22) (.c (.w 331775))) 20 true,.g 24 (.pick (.t 20) (.t 23) .F) 16 false,.o 25 16 24,.n 4 25],.cut (qaK a b c d e g h i)]⟩
noncomputable def qdl(p:Pol):Bool:=qd8 p.filter&&qd8 p.log&&decide (qeH .u64 p.spaces 2114060416=0)
def qzE{g1 g2 g3 g4 g5 g6 g7 g8:Nat}(h7:∀l:GList,l.calls.length<=100000->qa P g7 [.agg (qc8 l)] (.b (qd8 l)))
  (h8:qa P g8 [] (.x 2114060416)) (p:Pol) (hp:PolOk p) (o d m a fm:Bool) {t':Tr AV} {h':Hp} (hw:Wk 0 t' h' (mkT [(1,.ptr 0 0),(2,.b false),(3,.b o),(4,.b d),(5,.b m),(6,.b a),(7,.b fm)]) (mkH 0 [.v (qB p)])) :
  S P 0 (qch g1 g2 g3 g4 g5 g6 g7 g8) (xk [.tmp 2] λv' h'=>Frz h' v' (.b (o&&d&&m&&a&&fm&&qdl p))) t' h':=by
 have hcc:=hp.c;have hl:=hp.l;refine S.weak hw (qk ?_);simp only[qch,qB,vI,simprocAttr];simp only[↓vS,vT,simprocAttr];refine zg ?_;cases o
 .simp only[↓vS,vT,simprocAttr];simp[vZ]
 cases d
 .simp only[↓vS,vT,simprocAttr];simp[vZ]
 cases m
 .simp only[↓vS,vT,simprocAttr];simp[vZ]
 cases a
 .simp only[↓vS,vT,simprocAttr];simp[vZ]
 cases fm
 .simp only[↓vS,vT,simprocAttr];simp[vZ]
 simp only[↓vS,vT,simprocAttr];refine(h7 p.filter (by omega)).pc ?_;cases hF:qd8 p.filter
 .simp only[↓vS,vT,simprocAttr];simp[vZ,qdl,hF]
 simp only[↓vS,vT,simprocAttr];refine(h7 p.log (by omega)).pc ?_;cases hL:qd8 p.log
 .simp only[↓vS,vT,simprocAttr];simp[vZ,qdl,hF,hL]
 simp only[↓vS,vT,simprocAttr];refine h8.pc ?_;simp only[↓vS,vT,simprocAttr];simp[vZ,qdl,hF,hL]
def qzD{g1 g2 g3 g4 g5 g6 g7 g8:Nat}(h3:∀(xs:List Int) (g:Nat) (is:Int->Bool),(∀x,qa P g [.j x] (.b (is x)))->xs.length<=100000->qa P g3 [.fz xs.length (rI .i64 xs),.fn g [] []] (.b (z8 is none xs)))
  (h4:∀a,qa P g4 [.j a] (.b (decide (0<=a)&&decide (a<6))))
  (h5:∀(xs:List Int) (g:Nat) (is:Int->Bool),(∀x,qa P g [.w x] (.b (is x)))->xs.length<=100000->qa P g5 [.fz xs.length (rI .u32 xs),.fn g [] []] (.b (z8 is none xs)))
  (h6:∀a,qa P g6 [.w a] (.b (qnX a)))
  (h7:∀l:GList,l.calls.length<=100000->qa P g7 [.agg (qc8 l)] (.b (qd8 l)))
  (h8:qa P g8 [] (.x 2114060416)) (p:Pol) (hp:PolOk p) (o d m:Bool) {t':Tr AV} {h':Hp} (hw:Wk 0 t' h' (mkT [(1,.ptr 0 0),(2,.b false),(3,.b o),(4,.b d),(5,.b m)]) (mkH 0 [.v (qB p)])) :
  S P 0 (qaL g1 g2 g3 g4 g5 g6 g7 g8) (xk [.tmp 2] λv' h'=>Frz h' v' (.b (o&&d&&m&&z8 (λa=>decide (0<=a)&&decide (a<6)) none p.arches&&z8 qnX none p.fams&&qdl p))) t' h':=by
 have ha:=hp.a;have hf:=hp.f;refine S.weak hw (qk ?_);simp only[qaL,qB,vI,simprocAttr];simp only[↓vS,vT,simprocAttr];refine(h3 p.arches g4 _ h4 (by omega)).sc ?_;simp only[↓vS,vT,simprocAttr];refine(h5 p.fams g6 _ h6 (by omega)).sc ?_;simp only[↓vS,vT,simprocAttr];refine qzE h7 h8 p hp o d m _ _ (Wk.mk _ _ [0] ?_ ?_ ?_ rfl)
 .simp[vw]
 .simp[vw,qB,qi,qp]
 .simp
def qkF(p:Pol):Bool:=decide (p.fmode<=2)&&(decide (p.fmode≠0)||decide (p.fams=[]))
def qzC{g1 g2 g3 g4 g5 g6 g7 g8:Nat}(h3:∀(xs:List Int) (g:Nat) (is:Int->Bool),(∀x,qa P g [.j x] (.b (is x)))->xs.length<=100000->qa P g3 [.fz xs.length (rI .i64 xs),.fn g [] []] (.b (z8 is none xs)))
  (h4:∀a,qa P g4 [.j a] (.b (decide (0<=a)&&decide (a<6))))
  (h5:∀(xs:List Int) (g:Nat) (is:Int->Bool),(∀x,qa P g [.w x] (.b (is x)))->xs.length<=100000->qa P g5 [.fz xs.length (rI .u32 xs),.fn g [] []] (.b (z8 is none xs)))
  (h6:∀a,qa P g6 [.w a] (.b (qnX a)))
  (h7:∀l:GList,l.calls.length<=100000->qa P g7 [.agg (qc8 l)] (.b (qd8 l)))
  (h8:qa P g8 [] (.x 2114060416)) (p:Pol) (hp:PolOk p) (o d:Bool) {t':Tr AV} {h':Hp} (hw:Wk 0 t' h' (mkT [(1,.ptr 0 0),(2,.b false),(3,.b o),(4,.b d)]) (mkH 0 [.v (qB p)])) :
  S P 0 (qaK g1 g2 g3 g4 g5 g6 g7 g8) (xk [.tmp 2] λv' h'=>Frz h' v' (.b (o&&d&&qkF p&&z8 (λa=>decide (0<=a)&&decide (a<6)) none p.arches&&z8 qnX none p.fams&&qdl p))) t' h':=by
 refine S.weak hw (qk ?_);simp only[qaK,qB,vI,simprocAttr]
 have go:∀m,m=qkF p->∀{t':Tr AV} {h':Hp},Wk 0 t' h' (mkT [(1,.ptr 0 0),(2,.b false),(3,.b o),(4,.b d),(5,.b m)]) (mkH 0 [.v (qB p)])->S P 0 (qaL g1 g2 g3 g4 g5 g6 g7 g8) (xk [.tmp 2] λv' h'=>Frz h' v' (.b (o&&d&&qkF p&&z8 (λa=>decide (0<=a)&&decide (a<6)) none p.arches&&z8 qnX none p.fams&&qdl p))) t' h':=by
  rintro m rfl t' h' hw;exact qzD h3 h4 h5 h6 h7 h8 p hp o d _ hw
 by_cases m1:p.fmode<=2
 .by_cases m2:p.fmode=0
  .by_cases m3:p.fams=[]
   .have h0:(p.fams.length:Int)=0:=by rw[m3];rfl
    simp only[↓vS,vT,simprocAttr,m1,m2,h0];refine go true (by simp[qkF,m1,m2,m3]) (Wk.mk _ _ [0] ?_ ?_ ?_ rfl)
    .simp[vw]
    .simp[vw,qB,qi,qp,m2]
    .simp
   .have h0:((p.fams.length:Int)=0)=False:=by simp_all
    simp only[↓vS,vT,simprocAttr,m1,m2,h0];refine go false (by simp[qkF,m1,m2,m3]) (Wk.mk _ _ [0] ?_ ?_ ?_ rfl)
    .simp[vw]
    .simp[vw,qB,qi,qp,m2]
    .simp
  .simp only[↓vS,vT,simprocAttr,m1,m2];refine go true (by simp[qkF,m1,m2]) (Wk.mk _ _ [0] ?_ ?_ ?_ rfl)
   .simp[vw]
   .simp[vw,qB,qi,qp]
   .simp
 .simp only[↓vS,vT,simprocAttr,m1];refine go false (by simp[qkF,m1]) (Wk.mk _ _ [0] ?_ ?_ ?_ rfl)
  .simp[vw]
  .simp[vw,qB,qi,qp]
  .simp
def qmS(n:Int):Bool:=decide (n=2147483648)||(decide (327680<=n)&&decide (n<=331775))
noncomputable def qjt(p:Pol):Bool:=!(p.log.calls.any λc=>decide (c.act≠0))&&qmS p.deny&&qkF p&&z8 (λa=>decide (0<=a)&&decide (a<6)) none p.arches&&z8 qnX none p.fams&&qdl p
def qFO{g1 g2 g3 g4 g5 g6 g7 g8:Nat}(hc:qc P f (qh9 g1 g2 g3 g4 g5 g6 g7 g8)=true)
  (h1:∀(l:List GCall) (k:Nat) (p:GCall->Bool),(∀c,qa P k [.agg (qe9 c)] (.b (p c)))->l.length<=qf->qa P g1 [.fz l.length (rC l),.fn k [] []] (.b (l.any p)))
  (h2:∀c,qa P g2 [.agg (qe9 c)] (.b (decide (c.act≠0))))
  (h3:∀(xs:List Int) (g:Nat) (is:Int->Bool),(∀x,qa P g [.j x] (.b (is x)))->xs.length<=100000->qa P g3 [.fz xs.length (rI .i64 xs),.fn g [] []] (.b (z8 is none xs)))
  (h4:∀a,qa P g4 [.j a] (.b (decide (0<=a)&&decide (a<6))))
  (h5:∀(xs:List Int) (g:Nat) (is:Int->Bool),(∀x,qa P g [.w x] (.b (is x)))->xs.length<=100000->qa P g5 [.fz xs.length (rI .u32 xs),.fn g [] []] (.b (z8 is none xs)))
  (h6:∀a,qa P g6 [.w a] (.b (qnX a)))
  (h7:∀l:GList,l.calls.length<=100000->qa P g7 [.agg (qc8 l)] (.b (qd8 l)))
  (h8:qa P g8 [] (.x 2114060416)) (p:Pol) (hp:PolOk p):qa P f [.agg (qB p)] (.b (qjt p)):=by
 have hl:=hp.l;refine qa.mk hc rfl ?_
 have go:∀d,d=qmS p.deny->∀{t':Tr AV} {h':Hp},Wk 0 t' h' (mkT [(1,.ptr 0 0),(2,.b false),(3,.b (!(p.log.calls.any λc=>decide (c.act≠0)))),(4,.b d)]) (mkH 0 [.v (qB p)])->S P 0 (qaK g1 g2 g3 g4 g5 g6 g7 g8) (xk [.tmp 2] λv' h'=>Frz h' v' (.b (qjt p))) t' h':=by
  rintro d rfl t' h' hw;exact qzC h3 h4 h5 h6 h7 h8 p hp _ _ hw
 simp only[qh9,qB,vI,simprocAttr];simp only[↓vS,vT,simprocAttr];refine(h1 p.log.calls g2 _ h2 (by simp only[qf];omega)).sc ?_
 by_cases d1:p.deny=2147483648
 .simp only[↓vS,vT,simprocAttr,d1];refine go true (by simp[qmS,d1]) (Wk.mk _ _ [0] ?_ ?_ ?_ rfl)
  .simp[vw]
  .simp[vw,qB,qi,qp,d1]
  .simp
 by_cases d2:327680<=p.deny
 .by_cases d3:p.deny<=331775
  .simp only[↓vS,vT,simprocAttr,d1,d2,d3];refine go true (by simp[qmS,d1,d2,d3]) (Wk.mk _ _ [0] ?_ ?_ ?_ rfl)
   .simp[vw]
   .simp[vw,qB,qi,qp]
   .simp
  .simp only[↓vS,vT,simprocAttr,d1,d2,d3];refine go false (by simp[qmS,d1,d2,d3]) (Wk.mk _ _ [0] ?_ ?_ ?_ rfl)
   .simp[vw]
   .simp[vw,qB,qi,qp]
   .simp
 .simp only[↓vS,vT,simprocAttr,d1,d2];refine go false (by simp[qmS,d1,d2]) (Wk.mk _ _ [0] ?_ ?_ ?_ rfl)
  .simp[vw]
  .simp[vw,qB,qi,qp]
  .simp
structure PolR (p:Pol):Prop where
 fams:∀x ∈ p.fams,0<=x/\x<=4294967295
 deny:0<=p.deny/\p.deny<=4294967295
 spaces:0<=p.spaces/\p.spaces<18446744073709551616
 filter:Rng p.filter.calls
 log:Rng p.log.calls
section
variable {g1 g2 g3 g4:Nat}
end
structure GTest where
 arg:Int
 mask:Int
 val:Int
 act:Int
def jD(t:GTest):List AV:=[.j t.arg,.x t.mask,.x t.val,.w t.act]
def qds(t:GTest):(jD t).length=4:=rfl
def rT(l:List GTest):List AV:=l.flatMap jD
structure GRule where
 nr:Int
 tests:List GTest
 act:Int
def zw(r:GRule):List AV:=[.w r.nr,.fz r.tests.length (rT r.tests),.w r.act]
def qb5(r:GRule):(zw r).length=3:=rfl
def rR(l:List GRule):List AV:=l.flatMap zw
structure GFil where
 arch:Int
 rules:List GRule
 dflt:Int
def zr(x:GFil):List AV:=[.j x.arch,.fz x.rules.length (rR x.rules),.w x.dflt]
section
variable {l m:List GTest} {j:Nat}
def qeY:(rT l).length=l.length*4:=qV qds l
def zX:qt (rT l)=true:=xT λ_=>rfl
def qxk:qF (rT l)=true:=qlt λ_=>rfl
def qse{c:GTest}(h:l[j]?=some c):((rT l).drop (j*4)).take 4=jD c:=qG qds h
def qxj{c:GTest}(h:l[j]?=some c){i:Nat}(hi:i<4):(rT l)[j*4+i]?=(jD c)[i]?:=qbE qds h hi
def qqV:rT l++rT m=rT (l++m):=by simp[rT]
def qxi(h:j<l.length):j*4+4<=(rT l).length:=by rw[qeY];omega
end
section
variable {l m:List GRule} {j:Nat}
def qhg:(rR l).length=l.length*3:=qV qb5 l
def qq:qt (rR l)=true:=xT λ_=>rfl
def qsb{c:GRule}(h:l[j]?=some c):((rR l).drop (j*3)).take 3=zw c:=qG qb5 h
def qqU{c:GRule}(h:l[j]?=some c){i:Nat}(hi:i<3):(rR l)[j*3+i]?=(zw c)[i]?:=qbE qb5 h hi
def qxc:rR l++rR m=rR (l++m):=by simp[rR]
def qxd(h:j<l.length):j*3+3<=(rR l).length:=by rw[qhg];omega
end
def qfP(x:List UInt8×List Int)(a:Int):Option Int :=
 if a<0\/6<=a\/x.2.getD a.toNat 0<0 then none else some (if a=2 then orI .u32 (IntKind.wrap .u32 (x.2.getD a.toNat 0)) 1073741824 else IntKind.wrap .u32 (x.2.getD a.toNat 0))
def qgm(a:Int)(s:List UInt8):Option Int:=(zf.find? (λx=>decide (x.1=s))).bind λx=>qfP x a
def qfr(x:List UInt8×List Int)(i:Nat)(hi:i<6):qfP x (i:Int)=if x.2.getD i 0<0 then none else some (if(i:Int)=2 then orI .u32 (IntKind.wrap .u32 (x.2.getD i 0)) 1073741824 else IntKind.wrap .u32 (x.2.getD i 0)):=by
 unfold qfP;rw[Int.toNat_natCast]
 grind
def qcB:IFn:=⟨[.tmp 4,.tmp 5],sq [.r [.q 2 (.box (.t 0)),.m 4 (.c (.w 0)),.m 5 .F],sq [.r [.n 7 1,.w 8 .lss 7 0,.n 9 8,.z 10 1 9,.g 11 (.bin .geq (.t 10) (.k 6)) 9 false,.o 12 9 11,.n 13 12,.z 14 1 13,.h 15 1 2 13 false,.g 16 (.iAddrA 6 1 (.t 15) (.t 14)) 13 false,.j 17 16 13 false,.g 18 (.bin .lss (.t 17) (.k 0)) 13 false,.o 19 13 18],.cond (.t 19) (sq [.r [.m 4 (.c (.w 0)),.m 5 .F],.ret]) (.skip)],.r [.n 20 1,.f 21 1 2,.q 22 (.iAddrA 6 1 (.t 21) (.t 20)),.d 23 22,.q 24 (.cvInt .u32 (.t 23)),.n 6 24],sq [.r [.n 25 1,.w 26 .eql 25 2],.cond (.t 26) (.r [.n 27 6,.q 28 (.bin .or (.t 27) (.c (.w 1073741824))),.n 6 28]) (.skip)],.r [.n 29 6,.n 4 29,.m 5 .T],.ret]⟩
def qIs(hc:qc P f qcB=true)(x:List UInt8×List Int)(a:Int):qa P f [.agg (qbh x),.j a] (match qfP x a with|some n=>.tup [.w n,.b true]|none=>.tup [.w 0,.b false]):=by
 refine qa.mk hc rfl ?_;simp only[qcB,qbh,vI,simprocAttr]
 by_cases h1:a<0
 .simp only[↓vS,vT,simprocAttr,h1];simp[vZ,qfP,h1]
 by_cases h2:6<=a
 .simp only[↓vS,vT,simprocAttr,h1,h2];simp[vZ,qfP,h2]
 have h3:a=0\/a=1\/a=2\/a=3\/a=4\/a=5:=by omega
 clear h1 h2;rcases h3 with rfl|rfl|rfl|rfl|rfl|rfl <;>
 .first
   | rw[show qfP x 0=_ from qfr x 0 (by decide)]
   | rw[show qfP x 1=_ from qfr x 1 (by decide)]
   | rw[show qfP x 2=_ from qfr x 2 (by decide)]
   | rw[show qfP x 3=_ from qfr x 3 (by decide)]
   | rw[show qfP x 4=_ from qfr x 4 (by decide)]
   | rw[show qfP x 5=_ from qfr x 5 (by decide)]
  generalize x.2.getD _ 0=v0
  by_cases h4:v0<0
  .simp +decide only[↓vS,vT,simprocAttr,h4];simp[vZ]
  .simp +decide only[↓vS,vT,simprocAttr,h4];simp[vZ]
def qeh:IFn:=⟨[.tmp 3],sq [.r [.q 2 (.box (.t 0)),.m 3 .F],.r [.f 4 0 2,.d 5 4,.d 6 1,.b 7 .eql 5 6,.n 3 7],.ret]⟩
def qHu(hc:qc P f qeh=true)(s:List UInt8)(x:List UInt8×List Int):qa P f [.agg (qbh x),.pf [.s s] 0] (.b (decide (x.1=s))):=by
 refine qa.mk hc (by simp[qt,clo,qbh]) ?_;simp only[qeh,qbh,vI,simprocAttr];simp only[↓vS,vT,simprocAttr,vZ]
def qf3(a b c:Nat):IFn:=⟨[.tmp 4,.tmp 5],sq [.r [.q 3 (.box (.t 1)),.m 4 (.c (.w 0)),.m 5 (.k 0)],.r [.q 11 (.mkF a [] [.t 3]),.l 12 b [.t 11],.n 10 12,.x 13 10 0,.x 14 10 1,.q 6 (.alloc [.s [],.j 0,.j 0,.j 0,.j 0,.j 0,.j 0]),.u (.store 7 (.t 6) (.t 13)),.n 7 14],.r [.v 16 7 6,.n 17 0,.l 18 c [.t 16,.t 17],.n 15 18,.x 19 15 0,.x 20 15 1,.n 8 19,.n 9 20],sq [.r [.n 21 7,.q 22 (.un .not (.t 21)),.n 23 22,.z 24 9 23,.g 25 (.un .not (.t 24)) 23 false,.o 26 23 25],.cond (.t 26) (sq [.r [.m 4 (.c (.w 0)),.m 5 (.k 90)],.ret]) (.skip)],.r [.n 27 8,.n 4 27,.m 5 (.k 0)],.ret]⟩
def qBt{g1 g2 g3:Nat}(hc:qc P f (qf3 g1 g2 g3)=true)(h1:∀s x,qa P g1 [.agg (qbh x),.pf [.s s] 0] (.b (decide (x.1=s))))
  (h2:∀(p:List UInt8×List Int->Bool) (g:Nat) (a c:List AV),qt a=true->qt c=true->(∀x ∈ zf,qa P g (a++([.agg (qbh x)]++c)) (.b (p x)))->qa P g2 [.fn g a c] (qol p))
  (h3:∀x a,qa P g3 [.agg (qbh x),.j a] (match qfP x a with|some n=>.tup [.w n,.b true]|none=>.tup [.w 0,.b false])) (a:Int) (s:List UInt8) :
  qa P f [.j a,.s s] (match qgm a s with|some n=>.tup [.w n,.j 0]|none=>.tup [.w 0,.j 90]):=by
 refine qa.mk hc rfl ?_;simp only[qf3,vI,simprocAttr];simp only[↓vS,vT,simprocAttr];refine(h2 (λx=>decide (x.1=s)) g1 [] [.pf [.s s] 0] rfl rfl (λx _=>h1 s x)).lend (vs':=[.fn g1 [] [.pf [.s s] 0]]) ?_ ?_ ?_
 .simp[vZ,vP,Tr.get_set]
 .unfold qol;split<;>rfl
 unfold qol qgm;cases hf:zf.find? (λx=>decide (x.1=s))with
 | none =>
  have e:=h3 ([],[0,0,0,0,0,0]) a;simp only[↓vS,vT,simprocAttr];refine e.sc ?_;cases hn:qfP ([],[0,0,0,0,0,0]) a with
  | none =>
   simp only[↓vS,vT,simprocAttr];simp[vZ]
  | some n =>
   simp only[↓vS,vT,simprocAttr];simp[vZ]
 | some x =>
  simp only[qbh,↓vS,vT,simprocAttr];refine(h3 x a).sc ?_;cases hn:qfP x a with
  | none =>
   simp only[↓vS,vT,simprocAttr];simp[vZ,hn]
  | some n =>
   simp only[↓vS,vT,simprocAttr];simp[vZ,hn]
def xv(mode:Int)(n:Nat)(al dn:Bool):Bool:=if mode=1 then al||decide (0<n)else if mode=2 then dn||decide (0<n)else false
def qgQ:IFn:=⟨[.tmp 8],sq [.r [.m 8 .F],sq [.r [.n 9 0],.blk 0 (sq [.r [.q 11 (.bin .eql (.t 9) (.c (.y 1))),.n 10 11],.cond (.t 10) (sq [.r [.n 12 2,.n 13 12,.z 14 1 13,.g 15 (.bin .gtr (.t 14) (.k 0)) 13 false,.o 16 13 15,.n 8 16],.ret]) (sq [.r [.q 18 (.bin .eql (.t 9) (.c (.y 2))),.n 17 18],.cond (.t 17) (sq [.r [.n 19 3,.n 20 19,.z 21 1 20,.g 22 (.bin .gtr (.t 21) (.k 0)) 20 false,.o 23 20 22,.n 8 23],.ret]) (.skip)])])],.r [.m 8 .F],.ret]⟩
def qDm(hc:qc P f qgQ=true)(mode:Int)(n:Nat)(al dn:Bool):qa P f [.y mode,.j n,.b al,.b dn] (.b (xv mode n al dn)):=by
 refine qa.mk hc rfl ?_;simp only[qgQ,vI,simprocAttr]
 by_cases m1:mode=1
 .cases al
  .simp only[↓vS,vT,simprocAttr,m1];simp[vZ,xv]
  .simp only[↓vS,vT,simprocAttr,m1];simp[vZ,xv]
 by_cases m2:mode=2
 .cases dn
  .simp only[↓vS,vT,simprocAttr,m1,m2];simp[vZ,xv]
  .simp only[↓vS,vT,simprocAttr,m1,m2];simp[vZ,xv]
 simp only[↓vS,vT,simprocAttr,m1,m2];simp[vZ,xv,m1,m2]
def qfi:IFn:=⟨[.tmp 2],sq [.r [.m 2 (.c (.w 0))],.r [.m 3 (.c (.w 0))],sq [.r [.n 6 0,.e 7 6,.m 8 (.k 0)],.blk 0 (.loop (sq [.r [.s 9 8 7],.cond (.t 9) (.skip) (.exit 0),.blk 1 (sq [.r [.i 10 1 6 8,.d 11 10,.n 5 11],.r [.n 12 5,.n 13 3,.b 14 .neq 12 13],.cond (.t 14) (sq [.r [.n 15 5,.n 2 15],.ret]) (.skip)]),.r [.a 16 8 1,.n 8 16]]))],.r [.n 17 3,.n 2 17],.ret]⟩
def qI0(hc:qc P f qfi=true)(x y:Int):qa P f [.fz 2 (rI .u32 [x,y])] (.w (if x=0 then y else x)):=by
 refine qa.mk hc (by simp[qt,clo,qi]) ?_;simp only[qfi,rI,List.map_cons,List.map_nil,vI,simprocAttr];simp only[↓vS,vT,simprocAttr];refine qcp ?_
 by_cases h1:x=0
 .simp only[↓vS,vT,simprocAttr,Int.reduceLT,Int.reduceAdd,qm,Int.reduceLE,Int.reduceNeg,h1];refine qcp ?_
  by_cases h2:y=0
  .simp only[↓vS,vT,simprocAttr,Int.reduceLT,Int.reduceAdd,qm,Int.reduceLE,Int.reduceNeg,h2];refine qcp ?_;simp only[↓vS,vT,simprocAttr,Int.reduceLT];simp[vZ,h1,h2]
  .simp only[↓vS,vT,simprocAttr,Int.reduceLT,Int.reduceAdd,qm,Int.reduceLE,Int.reduceNeg,h2];simp[vZ,h1]
 .simp only[↓vS,vT,simprocAttr,Int.reduceLT,Int.reduceAdd,qm,Int.reduceLE,Int.reduceNeg,h1];simp[vZ,h1]
def zt(arg mask act:Int)(l:List Int):List GTest:=l.map λv=>⟨arg,mask,v,act⟩
def zU(arg act:Int)(l:List Int):List GTest:=l.map λv=>⟨arg,v,v,act⟩
def qnM(P:Program)(f:Nat):Prop:=∀(arg mask act:Int) (l:List Int),l.length<=100000->Own P f [.j arg,.x mask,.w act,.fz l.length (rI .u64 l)] (.own 0 l.length) [.cells 4 true true (rT (zt arg mask act l))]
def qnL(P:Program)(f:Nat):Prop:=∀(arg act:Int) (l:List Int),l.length<=100000->Own P f [.j arg,.w act,.fz l.length (rI .u64 l)] (.own 0 l.length) [.cells 4 true true (rT (zU arg act l))]
def qgR:IFn:=⟨[.tmp 8],sq [.r [.m 8 .N],.r [.m 9 .N],sq [.r [.n 12 3,.e 13 12,.m 14 (.k 0)],.blk 0 (.loop (sq [.r [.s 15 14 13],.cond (.t 15) (.skip) (.exit 0),.blk 1 (sq [.r [.i 16 1 12 14,.d 17 16,.n 11 17],.r [.n 18 9,.n 19 0,.n 20 1,.n 21 11,.n 22 2,.q 23 (.build [.j 0,.x 0,.x 0,.w 0] [(0,1,(.t 19)),(1,1,(.t 20)),(2,1,(.t 21)),(3,1,(.t 22))]),.q 24 (.buildS 1 [.j 0,.x 0,.x 0,.w 0] [(0,4,(.t 23))]),.q 25 (.app 4 32 true (.t 18) (.t 24)),.n 9 25]]),.r [.a 26 14 1,.n 14 26]]))],.r [.n 27 9,.n 8 27],.ret]⟩
def qF3(hc:qc P f qgR=true):qnM P f:=by
 intro arg mask act l hl;refine Own.mk hc (by simp[qt,clo,qi]) ?_;simp only[qgR,vI,simprocAttr];simp only[↓vS,vT,simprocAttr]
 refine SL.loop (α:=Nat) (λj=>[(0,.j arg),(1,.x mask),(2,.w act),(9,.own 0 j),(12,.fz l.length (rI .u64 l)),(13,.j l.length),(14,.j j)]) (λj=>[.cells 4 true true (rT (zt arg mask act (l.take j)))])
  (λj=>j<=l.length) (λj=>l.length-j) 0 [9] ?_ ?_ ?_ rfl ?_ ?_
 .simp[vw,qi]
 .simp[vw,rT,zt]
 .simp
 .omega
 rintro j hj G ih;simp only[vI,simprocAttr]
 by_cases hlt:j<l.length
 .have hx:l[j]?=some l[j]:=by simp_all
  have hw:IntKind.wrap .i64 ((j:Int)+1)=((j+1:Nat):Int):=by rw[qm (by omega) (by omega)];omega
  have hr1:j+1<=qf:=by simp only[qf];omega
  have hr2:(j+1)*32<=qf:=by simp only[qf];omega
  have hln:(rT (zt arg mask act (l.take j))).length=j*4:=by rw[qeY];simp[zt];omega
  have hb:j*4<=(rT (zt arg mask act (l.take j))).length:=by omega
  have htk:(rT (zt arg mask act (l.take j))).take (j*4)=rT (zt arg mask act (l.take j)):=List.take_of_length_le (by omega)
  have hap:rT (zt arg mask act (l.take j))++[AV.j arg,.x mask,.x l[j],.w act]=rT (zt arg mask act (l.take (j+1))):=by
   rw[List.take_add_one,hx];simp only[Option.toList_some,zt,List.map_append,List.map_cons,List.map_nil];rw[<- qqV];rfl
  simp +decide only[↓vS,vT,simprocAttr,hlt,zzU,qaZ,hx,Option.map_some,hw,hr1,hr2,hln,htk,hap];refine ih (j+1) hlt (by omega) _ _ (Wk.mk _ _ [2] ?_ ?_ ?_ rfl)
  .simp[vw,qi]
  .simp[vw,qe,zX]
  .simp
 .have hj':j=l.length:=by omega
  subst hj';simp only[↓vS,vT,simprocAttr,hlt];intro _;refine⟨[0],?_⟩;simp[vw,qe,zX]
def qh8:IFn:=⟨[.tmp 6],sq [.r [.m 6 .N],.r [.m 7 .N],sq [.r [.n 10 2,.e 11 10,.m 12 (.k 0)],.blk 0 (.loop (sq [.r [.s 13 12 11],.cond (.t 13) (.skip) (.exit 0),.blk 1 (sq [.r [.i 14 1 10 12,.d 15 14,.n 9 15],.r [.n 16 7,.n 17 0,.n 18 9,.n 19 9,.n 20 1,.q 21 (.build [.j 0,.x 0,.x 0,.w 0] [(0,1,(.t 17)),(1,1,(.t 18)),(2,1,(.t 19)),(3,1,(.t 20))]),.q 22 (.buildS 1 [.j 0,.x 0,.x 0,.w 0] [(0,4,(.t 21))]),.q 23 (.app 4 32 true (.t 16) (.t 22)),.n 7 23]]),.r [.a 24 12 1,.n 12 24]]))],.r [.n 25 7,.n 6 25],.ret]⟩
def qGD(hc:qc P f qh8=true):qnL P f:=by
 intro arg act l hl;refine Own.mk hc (by simp[qt,clo,qi]) ?_;simp only[qh8,vI,simprocAttr];simp only[↓vS,vT,simprocAttr]
 refine SL.loop (α:=Nat) (λj=>[(0,.j arg),(1,.w act),(7,.own 0 j),(10,.fz l.length (rI .u64 l)),(11,.j l.length),(12,.j j)]) (λj=>[.cells 4 true true (rT (zU arg act (l.take j)))])
  (λj=>j<=l.length) (λj=>l.length-j) 0 [9] ?_ ?_ ?_ rfl ?_ ?_
 .simp[vw,qi]
 .simp[vw,rT,zU]
 .simp
 .omega
 rintro j hj G ih;simp only[vI,simprocAttr]
 by_cases hlt:j<l.length
 .have hx:l[j]?=some l[j]:=by simp_all
  have hw:IntKind.wrap .i64 ((j:Int)+1)=((j+1:Nat):Int):=by rw[qm (by omega) (by omega)];omega
  have hr1:j+1<=qf:=by simp only[qf];omega
  have hr2:(j+1)*32<=qf:=by simp only[qf];omega
  have hln:(rT (zU arg act (l.take j))).length=j*4:=by rw[qeY];simp[zU];omega
  have htk:(rT (zU arg act (l.take j))).take (j*4)=rT (zU arg act (l.take j)):=List.take_of_length_le (by omega)
  have hap:rT (zU arg act (l.take j))++[AV.j arg,.x l[j],.x l[j],.w act]=rT (zU arg act (l.take (j+1))):=by
   rw[List.take_add_one,hx];simp only[Option.toList_some,zU,List.map_append,List.map_cons,List.map_nil];rw[<- qqV];rfl
  simp +decide only[↓vS,vT,simprocAttr,hlt,zzU,qaZ,hx,Option.map_some,hw,hr1,hr2,hln,htk,hap];refine ih (j+1) hlt (by omega) _ _ (Wk.mk _ _ [2] ?_ ?_ ?_ rfl)
  .simp[vw,qi]
  .simp[vw,qe,zX]
  .simp
 .have hj':j=l.length:=by omega
  subst hj';simp only[↓vS,vT,simprocAttr,hlt];intro _;refine⟨[0],?_⟩;simp[vw,qe,zX]
def qaU(s:Int):List Int:=(qS.map (·.2)).filter λn=>decide (qcO .u64 s n≠0)
def qgS(a:Nat):IFn:=⟨[.tmp 2],sq [.r [.m 2 .N],.r [.m 3 .N],sq [.r [.l 6 a [],.m 7 (.k 0)],.blk 0 (.loop (sq [.r [.w 8 .lss 7 8],.cond (.t 8) (.skip) (.exit 0),.blk 1 (sq [.r [.q 9 (.idxA 8 2 true (.t 6) (.t 7)),.q 5 (.alloc [.s [],.x 0]),.u (.store 2 (.t 5) (.t 9))],.r [.n 10 0,.f 11 1 5,.d 12 11,.b 13 .and 10 12,.q 14 (.bin .neq (.t 13) (.c (.x 0)))],.cond (.t 14) (.r [.n 15 3,.f 16 1 5,.d 17 16,.q 18 (.buildS 1 [.x 0] [(0,1,(.t 17))]),.q 19 (.app 1 8 true (.t 15) (.t 18)),.n 3 19]) (.skip)]),.r [.a 20 7 1,.n 7 20]]))],.r [.n 21 3,.n 2 21],.ret]⟩
def qCU{g:Nat}(hc:qc P f (qgS g)=true)(hg:qa P g [] (.agg (qS.flatMap (qa5 .u64))))(s:Int):qa P f [.x s] (.fz (qaU s).length (rI .u64 (qaU s))):=by
 refine qa.mk hc rfl ?_;simp only[qgS,vI,simprocAttr];simp only[↓vS,vT,simprocAttr];refine hg.sc ?_;simp only[↓vS,vT,simprocAttr];have hlen:(qS.flatMap (qa5 .u64)).length=16:=by decide
 refine SL.loop (α:=Nat) (λj=>[(0,.x s),(3,.own 0 ((((qS.take j).map (·.2)).filter λn=>decide (qcO .u64 s n≠0)).length)),(6,.agg (qS.flatMap (qa5 .u64))),(7,.j j)])
  (λj=>[.cells 1 true true (rI .u64 (((qS.take j).map (·.2)).filter λn=>decide (qcO .u64 s n≠0)))])
  (λj=>j<=8) (λj=>8-j) 0 [9] ?_ ?_ ?_ rfl ?_ ?_
 .simp[vw,qS,qa5]
 .simp[vw,rI]
 .simp
 .omega
 rintro j hj G ih;simp only[vI,simprocAttr]
 by_cases hlt:j<8
 .have hlt':(j:Int)<8:=by omega
  have hjl:j<qS.length:=hlt;have hx:qS[j]?=some qS[j]:=by simp_all
  have hw:IntKind.wrap .i64 ((j:Int)+1)=((j+1:Nat):Int):=by rw[qm (by omega) (by omega)];omega
  have he:=qG (f:=qa5 .u64) (m:=2) qmi hx;have hb:j*2+2<=(qS.flatMap (qa5 .u64)).length:=by omega
  generalize hA:((qS.take j).map (·.2)).filter (λn=>decide (qcO .u64 s n≠0))=A
  have hA1:((qS.take (j+1)).map (·.2)).filter (λn=>decide (qcO .u64 s n≠0))=A++(if qcO .u64 s qS[j].2=0 then []else [qS[j].2]):=by
   rw[List.take_add_one,hx,List.map_append,List.filter_append,hA]
   by_cases h:qcO .u64 s qS[j].2=0<;>simp[h]
  have hAl:A.length<=j:=by
   rw[<- hA];grind
  generalize hc0:qS[j]=c at hx he hA1;generalize hT:qS.flatMap (qa5 .u64)=T at he hb hlen;have hTc:qt T=true:=by rw[<- hT];rfl
  have hr1:A.length+1<=qf:=by simp only[qf];omega
  have hr2:(A.length+1)*8<=qf:=by simp only[qf];omega
  by_cases h0:qcO .u64 s c.2=0
  .rw[if_pos h0,List.append_nil]at hA1;simp only[↓vS,vT,simprocAttr,hlt',hlt,he,hb,qa5,h0,hw];refine ih (j+1) hlt (by omega) _ _ (Wk.mk _ _ [0] ?_ ?_ ?_ rfl)
   .rw[hA1,hT];simp[vw,qe,hTc]
   .rw[hA1];simp[vw,qe,qi]
   .simp
  .rw[if_neg h0]at hA1;have hap:rI .u64 A++[AV.x c.2]=rI .u64 (A++[c.2]):=by rw[<- qof];rfl
   simp +decide only[↓vS,vT,simprocAttr,hlt',hlt,he,hb,qa5,h0,hw,hr1,hr2,jS,zzU,hap];refine ih (j+1) hlt (by omega) _ _ (Wk.mk _ _ [3] ?_ ?_ ?_ rfl)
   .rw[hA1,hT];simp[vw,qe,hTc]
   .rw[hA1];simp[vw,qe,qi]
   .simp
 .have hj':j=8:=by omega
  subst hj';have hlt':¬(((8:Nat):Int)<8):=by decide
  simp only[↓vS,vT,simprocAttr,hlt'];refine .own 0 _ 1 true _ _ ?_ (λh0=>?_) (Frzs.self qi)
  .simp[Tr.get_set,qaU,qS]
  .have h0:(qaU s).length=0:=h0;rw[List.eq_nil_of_length_eq_zero h0];rfl
def zy:IFn:=⟨[.tmp 2],sq [.r [.m 2 .N],sq [.r [.n 3 0,.q 4 (.eqN false .slice (.t 3))],.cond (.t 4) (sq [.r [.m 2 .N],.ret]) (.skip)],.r [.q 5 (.buildS 0 [.j 0,.x 0,.x 0,.w 0] []),.n 6 0,.q 7 (.app 4 32 true (.t 5) (.t 6)),.n 2 7],.ret]⟩
def qCw(hc:qc P f zy=true):qbz P f 4 32:=by
 intro n rows hlen hcl hok hr1 hr2;refine Own.of_SC (by simp[qt,clo]) ?_;cases n with
 | zero =>
  obtain rfl:rows=[]:=by simp_all
  refine SC.nil0 (SC.mk hc (qk ?_)) (SC.mk hc (qk ?_))
  .simp only[zy,vI,simprocAttr];simp only[↓vS,vT,simprocAttr];intro _;refine⟨[1],?_⟩;simp[vw]
  .simp only[zy,vI,simprocAttr];simp only[↓vS,vT,simprocAttr,if_true];intro _;refine⟨[1],?_⟩;simp[vw]
 | succ n =>
  refine SC.mk hc (qk ?_);simp only[zy,vI,simprocAttr];have h1:1<=n+1:=by omega
  have h2:(n+1)*4<=rows.length:=by omega
  have h3:rows.take ((n+1)*4)=rows:=by grind
  have h4:¬(n+1<=0):=by omega
  simp only[↓vS,vT,simprocAttr,h1,h2,h3,h4,hr1,hr2,hok,zzU,Nat.zero_mul];intro _;refine⟨[1],?_⟩;simp[vw,qe,hcl]
def mkC(p:Pol)(a d:Int)(b n:Nat):List AV:=qB p++[.j a,.own b n,.w d]
def mkB(p:Pol)(a d:Int)(b n:Nat):Blk:=.v (mkC p a d b n)
def zh(a act:Int)(ts:List GTest)(ns:List (List UInt8)):List GRule:=ns.filterMap λs=>(qgm a s).map λn=>⟨n,ts,act⟩
def qcQ(P:Program)(f:Nat):Prop:=∀(p:Pol) (a d act:Int) (ts:List GTest) (ns:List (List UInt8)) (rs:List GRule),ts.length<=100000->rs.length+ns.length<=100000->
 Upd P f [.ptr 0 0,.w act,.fz ts.length (rT ts),.fz ns.length (rS ns)] [mkB p a d 1 rs.length,.cells 3 true true (rR rs)] (.tup [])
  [mkB p a d 2 (rs++zh a act ts ns).length,.dead,.cells 3 true true (rR (rs++zh a act ts ns))]
def qda(a b:Nat):IFn:=⟨[],sq [.r [.n 12 3,.e 13 12,.m 14 (.k 0)],.blk 0 (.loop (sq [.r [.s 15 14 13],.cond (.t 15) (.skip) (.exit 0),.blk 1 (sq [.r [.i 16 1 12 14,.d 17 16,.n 9 17],.r [.n 19 0,.q 20 (.nilChk (.t 19)),.f 21 13 20,.f 22 0 21,.d 23 22,.n 24 9,.l 25 a [.t 23,.t 24],.n 18 25,.x 26 18 0,.x 27 18 1,.n 10 26,.n 11 27],.r [.n 28 11,.w 29 .eql 28 0],.cond (.t 29) (.reg true [.n 30 0,.n 31 0,.q 32 (.nilChk (.t 31)),.f 33 13 32,.f 34 1 33,.d 35 34,.n 36 10,.n 37 2,.l 38 b [.t 37],.n 39 1,.q 40 (.build [.w 0,.nils,.w 0] [(0,1,(.t 36)),(1,1,(.t 38)),(2,1,(.t 39))]),.q 41 (.buildS 1 [.w 0,.nils,.w 0] [(0,3,(.t 40))]),.q 42 (.app 3 40 true (.t 35) (.t 41)),.q 43 (.nilChk (.t 30)),.f 44 13 43,.f 45 1 44,.u (.store 1 (.t 45) (.t 42))]) (.skip)]),.r [.a 46 14 1,.n 14 46]]))]⟩
def qHS{g1 g2:Nat}(hc:qc P f (qda g1 g2)=true)
  (h1:∀(a:Int) (s:List UInt8),qa P g1 [.j a,.s s] (match qgm a s with|some n=>.tup [.w n,.j 0]|none=>.tup [.w 0,.j 90])) (h2:qbz P g2 4 32):qcQ P f:=by
 intro p a d act ts ns rs hts hrs;refine Upd.mkd hc (by simp[jl,bnd,mkB]) (by simp) ?_;simp only[qda,mkB,mkC,qB,vI,simprocAttr,zzC,zzN];simp only[↓vS,vT,simprocAttr]
 refine SL.loopd (α:=Nat) (λj=>[(0,.ptr 0 0),(1,.w act),(2,.fz ts.length (rT ts)),(12,.fz ns.length (rS ns)),(13,.j ns.length),(14,.j j)])
  (λj=>[mkB p a d 2 (rs++zh a act ts (ns.take j)).length,.dead,.cells 3 true true (rR (rs++zh a act ts (ns.take j)))])
  (λj=>j<=ns.length) (λj=>ns.length-j) 0 [0,1,1] ?_ ?_ ?_ rfl (by simp) ?_ ?_ ?_
 .simp[vw,zX,qoj]
 .simp[vw,mkB,mkC,qB,zh,qe,qq,qp,qi]
 .simp[jy,mkB]
 .intro b hb;have:b=0\/b=1:=by omega
  rcases this with rfl|rfl<;>simp[qhi,rl]
 .omega
 rintro j hj G ih;simp only[vI,simprocAttr,mkB,mkC,qB,zzC,zzN]
 by_cases hlt:j<ns.length
 .have hx:ns[j]?=some ns[j]:=by simp_all
  have hg:(rS ns)[j]?=some (.s ns[j]):=by rw[qEE,hx];rfl
  have hw:IntKind.wrap .i64 ((j:Int)+1)=((j+1:Nat):Int):=by rw[qm (by omega) (by omega)];omega
  have hnx:zh a act ts (ns.take (j+1))=zh a act ts (ns.take j)++((qgm a ns[j]).map λn=>⟨n,ts,act⟩).toList:=by
   rw[List.take_add_one,hx];unfold zh;rw[List.filterMap_append];cases hq:qgm a ns[j]<;>simp[hq]
  have hl1:(zh a act ts (ns.take j)).length<=j:=by
   unfold zh;grind
  generalize hA:rs++zh a act ts (ns.take j)=A;have hAl:A.length<=rs.length+j:=by rw[<- hA];grind
  have hA1:rs++zh a act ts (ns.take (j+1))=A++((qgm a ns[j]).map λn=>⟨n,ts,act⟩).toList:=by rw[hnx,<- List.append_assoc,hA]
  generalize hs0:ns[j]=s at hg hA1;simp only[↓vS,vT,simprocAttr,hlt,zzU,hg];refine(h1 a s).sc ?_;cases hn:qgm a s with
  | none =>
   rw[hn]at hA1;simp only[Option.map_none,Option.toList_none,List.append_nil]at hA1;simp +decide only[↓vS,vT,simprocAttr,hw];refine ih (j+1) hlt (by omega) _ _ (Wk.mkd _ _ [0,1,2] ?_ ?_ ?_ rfl (by simp) ?_)
   .simp[vw,zX,qoj]
   .rw[hA1];simp[vw,mkB,mkC,qB,qe,qq,qp,qi]
   .simp[jy,mkB]
   .intro b hb;have:b=0\/b=1:=by omega
    rcases this with rfl|rfl<;>simp[qhi,rl]
  | some n =>
   rw[hn]at hA1;simp only[Option.map_some,Option.toList_some]at hA1;have hr1:A.length+1<=qf:=by simp only[qf];omega
   have hr2:(A.length+1)*40<=qf:=by simp only[qf];omega
   simp +decide only[↓vS,vT,simprocAttr,hw];refine zg ?_;simp only[↓vS,vT,simprocAttr];refine(h2.pure qeY zX qxk (by simp only[qf];omega) (by simp only[qf];omega)).pc ?_;have hap:rR A++[AV.w n,.fz ts.length (rT ts),.w act]=rR (A++[⟨n,ts,act⟩]):=by rw[<- qxc];rfl
   have htk:(rR A).take (A.length*3)=rR A:=List.take_of_length_le (by rw[qhg];omega);simp +decide only[↓vS,vT,simprocAttr,hr1,hr2,qhg,htk,hap];refine ih (j+1) hlt (by omega) _ _ (Wk.mkd _ _ [0,1,4] ?_ ?_ ?_ rfl (by simp) ?_)
   .simp[vw,zX,qoj];omega
   .rw[hA1];simp[vw,mkB,mkC,qB,qe,qq,qp,qi]
   .simp[jy,mkB]
   .intro b hb;have:b=0\/b=1:=by omega
    rcases this with rfl|rfl<;>simp[qhi,rl]
 .have hj':j=ns.length:=by omega
  subst hj';simp only[↓vS,vT,simprocAttr,hlt];intro _;rw[List.take_length];refine⟨[0,1,2],?_⟩;simp[vw,mkB,mkC,qB,qe,qq,qp,qi,jy,rl]
  grind
def zZ(P:Program)(f:Nat)(F:Pol->Int->Bool×List GRule×Int):Prop:=∀(p:Pol) (a:Int),PolOk p->PolR p->
 Upd P f [.ptr 0 0] [mkB p a 2147418112 1 0,.cells 3 true true (rR [])] (.b (F p a).1) [mkB p a (F p a).2.2 2 (F p a).2.1.length,.dead,.cells 3 true true (rR (F p a).2.1)]
def qi4(a own:Int)(l:List GCall):List GRule:=l.flatMap λc=>zh a (if c.act=0 then own else c.act) [] [c.name]
def qlB(p:Pol)(a:Int):Bool×List GRule×Int:=(xv p.filter.mode p.filter.calls.length true false,qi4 a (if p.filter.mode=1 then 2147418112 else p.deny) p.filter.calls,if p.filter.mode=1 then p.deny else 2147418112)
def qaN(a act:Int)(ts:List GTest)(ns:List (List UInt8)):(zh a act ts ns).length<=ns.length:=List.length_filterMap_le _ _
def qpa(a own:Int):∀l,(qi4 a own l).length<=l.length
 | []=>zzL _
 | c::l=>by
  have h1:=qpa a own l;have h2:=qaN a (if c.act=0 then own else c.act) [] [c.name]
  simp only[qi4,List.flatMap_cons,zzP,List.length_cons,List.length_nil]at h1 h2 ⊢;omega
def qs6{a own:Int}{l:List GCall}{j:Nat}{c:GCall}(h:l[j]?=some c):qi4 a own (l.take (j+1))=qi4 a own (l.take j)++zh a (if c.act=0 then own else c.act) [] [c.name]:=by
 rw[List.take_add_one,h];simp[qi4]
def jx(a b c:Nat):ICode:=sq [sq [.r [.n 27 0,.q 28 (.nilChk (.t 27)),.f 29 0 28,.f 30 1 29,.f 31 1 30,.d 32 31,.e 33 32,.m 34 (.k 0)],.blk 0 (.loop (sq [.r [.s 35 34 33],.cond (.t 35) (.skip) (.exit 0),.blk 1 (sq [.r [.i 36 2 32 34,.v 37 2 36,.q 5 (.alloc [.s [],.w 0]),.u (.store 2 (.t 5) (.t 37))],.reg true [.n 38 0,.f 39 1 5,.d 40 39,.n 41 3,.q 42 (.buildS 2 [.w 0] [(0,1,(.t 40)),(1,1,(.t 41))]),.l 43 a [.t 42],.f 44 0 5,.d 45 44,.q 46 (.buildS 1 [.s []] [(0,1,(.t 45))]),⟨(some 47),.callW b [.t 38,.t 43,.N,.t 46],none⟩]]),.r [.a 48 34 1,.n 34 48]]))],.reg true [.n 49 0,.q 50 (.nilChk (.t 49)),.f 51 0 50,.f 52 1 51,.f 53 0 52,.d 54 53,.n 55 0,.q 56 (.nilChk (.t 55)),.f 57 0 56,.f 58 1 57,.f 59 1 58,.d 60 59,.e 61 60,.l 62 c [.t 54,.t 61,.T,.F],.n 2 62],.ret]
def qb0(a b c:Nat):IFn:=⟨[.tmp 2],sq [.r [.m 2 .F],.r [.n 6 0,.q 7 (.nilChk (.t 6)),.f 8 0 7,.f 9 3 8,.d 10 9,.n 3 10],sq [.r [.n 11 0,.q 12 (.nilChk (.t 11)),.f 13 0 12,.f 14 1 13,.f 15 0 14,.d 16 15,.q 17 (.bin .eql (.t 16) (.c (.y 1)))],.cond (.t 17) (.r [.n 18 0,.n 19 0,.q 20 (.nilChk (.t 19)),.f 21 0 20,.f 22 3 21,.d 23 22,.q 24 (.nilChk (.t 18)),.f 25 13 24,.f 26 2 25,.u (.store 1 (.t 26) (.t 23)),.m 3 (.c (.w 2147418112))]) (.skip)],.cut (jx a b c)]⟩
def qlZ{g1 g2 g3:Nat}(h1:∀x y,qa P g1 [.fz 2 (rI .u32 [x,y])] (.w (if x=0 then y else x)))(h2:qcQ P g2)(h3:∀mode n al dn,qa P g3 [.y mode,.j (n:Nat),.b al,.b dn] (.b (xv mode n al dn)))
  (p:Pol) (a d own:Int) (hp:PolOk p) {t':Tr AV} {h':Hp} (hw:Wk 2 t' h' (mkT [(0,.ptr 0 0),(3,.w own)]) (mkH 0 [mkB p a d 1 0,.cells 3 true true (rR [])])) :
  S P 2 (jx g1 g2 g3) (xk [.tmp 2] (qoz 2 (.b (xv p.filter.mode p.filter.calls.length true false)) [mkB p a d 2 (qi4 a own p.filter.calls).length,.dead,.cells 3 true true (rR (qi4 a own p.filter.calls))])) t' h':=by
 have hl:=hp.c;refine S.weak hw (qk ?_);simp only[jx,mkB,mkC,qB,zzC,zzN,vI,simprocAttr];simp only[↓vS,vT,simprocAttr]
 refine SL.loopd (α:=Nat) (λj=>[(0,.ptr 0 0),(3,.w own),(32,.fz p.filter.calls.length (rC p.filter.calls)),(33,.j p.filter.calls.length),(34,.j j)])
  (λj=>[mkB p a d 2 (qi4 a own (p.filter.calls.take j)).length,.dead,.cells 3 true true (rR (qi4 a own (p.filter.calls.take j)))])
  (λj=>j<=p.filter.calls.length) (λj=>p.filter.calls.length-j) 0 [0,1,1] ?_ ?_ ?_ rfl (by simp) ?_ ?_ ?_
 .simp[vw,qp]
 .simp[vw,mkB,mkC,qB,qi4,qe,qq,qp,qi]
 .simp[jy,mkB]
 .intro b hb;have:b=0\/b=1:=by omega
  rcases this with rfl|rfl<;>simp[qhi,rl]
 .omega
 rintro j hj G ih;simp only[vI,simprocAttr,mkB,mkC,qB,zzC,zzN]
 by_cases hlt:j<p.filter.calls.length
 .have hx:p.filter.calls[j]?=some p.filter.calls[j]:=by simp_all
  have he:=qoe hx;have hb:=qma hlt;have hw:IntKind.wrap .i64 ((j:Int)+1)=((j+1:Nat):Int):=by rw[qm (by omega) (by omega)];omega
  have hA1:=qs6 (a:=a) (own:=own) hx;have hl1:=qpa a own (p.filter.calls.take j);rw[List.length_take,Nat.min_eq_left (by omega)]at hl1;generalize hA:qi4 a own (p.filter.calls.take j)=A at hA1 hl1;generalize hc0:p.filter.calls[j]=c at he hA1;simp only[↓vS,vT,simprocAttr,hlt,hb,he,qe9];refine zg ?_;simp only[↓vS,vT,simprocAttr];refine(h1 c.act own).lendp (vs':=[.fz 2 (rI .u32 [c.act,own])]) ?_ rfl ?_
  .refine .cons _ _ _ _ (.cut 1 rfl (zzL _) ?_) .nil;simp[vw,rI]
  simp only[↓vS,vT,simprocAttr];refine PC.give (vs':=[.ptr 0 0,.w (if c.act=0 then own else c.act),.fz 0 (rT []),.fz 1 (rS [c.name])]) [(5,.v [.s c.name])] ?_ ?_ ?_
  .simp_all[Tr.get_set]
  .refine .keep _ _ _ (.keep _ _ _ (.fz _ _ _ _ .nilz (.fz _ _ _ _ (.cut 1 rfl (zzL _) ?_) .nil)));simp[vw,trP,rS]
  simp only[qW,zp,qx];refine(h2 p a d (if c.act=0 then own else c.act) [] [c.name] A (by simp) (by grind)).pc (vs:=[.ptr 0 0,.w (if c.act=0 then own else c.act),.fz 0 (rT []),.fz 1 (rS [c.name])]) [0,2] (Lent.of (by decide) ?_) ?_
  .simp[vL,vw,mkB,mkC,qB,qv qq,qg qq,qv qp,qg qp,qv qi,qg qi]
  rw[<- hA1];simp only[vK,simprocAttr,mkB,mkC,qB,zzC,zzN,qg qq,qg qp,qg qi];simp only[↓vS,vT,simprocAttr,hw];refine ih (j+1) hlt (by omega) _ _ (Wk.mkd _ _ [0,1,6] ?_ ?_ ?_ rfl (by simp) ?_)
  .simp[vw,qp]
  .simp[vw,mkB,mkC,qB,qe,qq,qp,qi]
  .simp[jy,mkB]
  .intro b hb;have:b=0\/b=1:=by omega
   rcases this with rfl|rfl<;>simp[qhi,rl]
 .have hj':j=p.filter.calls.length:=by omega
  subst hj';simp only[↓vS,vT,simprocAttr,hlt];refine zg ?_;simp only[↓vS,vT,simprocAttr];refine(h3 p.filter.mode p.filter.calls.length true false).pc ?_;simp only[↓vS,vT,simprocAttr];rw[List.take_length];intro _;refine⟨[0,1,2],?_⟩;simp[vw,mkB,mkC,qB,qe,qq,qp,qi,jy,rl]
  grind
def qBq{g1 g2 g3:Nat}(hc:qc P f (qb0 g1 g2 g3)=true)(h1:∀x y,qa P g1 [.fz 2 (rI .u32 [x,y])] (.w (if x=0 then y else x)))(h2:qcQ P g2)(h3:∀mode n al dn,qa P g3 [.y mode,.j (n:Nat),.b al,.b dn] (.b (xv mode n al dn))):zZ P f qlB:=by
 intro p a hp hR;refine Upd.mkd hc (by simp[jl,bnd,mkB]) (by simp) ?_;simp only[qb0,mkB,mkC,qB,vI,simprocAttr,zzC,zzN]
 by_cases m:p.filter.mode=1
 .simp only[↓vS,vT,simprocAttr,m];have e:qlB p a=(xv p.filter.mode p.filter.calls.length true false,qi4 a 2147418112 p.filter.calls,p.deny):=by simp[qlB,m]
  rw[e];refine qlZ h1 h2 h3 p a p.deny 2147418112 hp (Wk.mkd _ _ [0,1] ?_ ?_ ?_ rfl (by simp) ?_)
  .simp[vw]
  .simp[vw,mkB,mkC,qB,qe,qq,qp,qi,m,rR]
  .simp[jy,mkB]
  .intro b hb;have:b=0\/b=1:=by omega
   rcases this with rfl|rfl<;>simp[qhi,rl]
 .simp only[↓vS,vT,simprocAttr,m];have e:qlB p a=(xv p.filter.mode p.filter.calls.length true false,qi4 a p.deny p.filter.calls,2147418112):=by simp[qlB,m]
  rw[e];refine qlZ h1 h2 h3 p a 2147418112 p.deny hp (Wk.mkd _ _ [0,1] ?_ ?_ ?_ rfl (by simp) ?_)
  .simp[vw]
  .simp[vw,mkB,mkC,qB,qe,qq,qp,qi,rR]
  .simp[jy,mkB]
  .intro b hb;have:b=0\/b=1:=by omega
   rcases this with rfl|rfl<;>simp[qhi,rl]
def qjs(a own:Int)(l:List GCall):List GRule:=l.flatMap λc=>zh a own [] [c.name]
def qlX(p:Pol)(a:Int):Bool×List GRule×Int:=(xv p.log.mode p.log.calls.length false true,qjs a (if p.log.mode=2 then 2147418112 else 2147221504) p.log.calls,if p.log.mode=2 then 2147221504 else 2147418112)
def qpD(a own:Int):∀l,(qjs a own l).length<=l.length
 | []=>zzL _
 | c::l=>by
  have h1:=qpD a own l;have h2:=qaN a own [] [c.name];simp only[qjs,List.flatMap_cons,zzP,List.length_cons,List.length_nil]at h1 h2 ⊢;omega
def qtz{a own:Int}{l:List GCall}{j:Nat}{c:GCall}(h:l[j]?=some c):qjs a own (l.take (j+1))=qjs a own (l.take j)++zh a own [] [c.name]:=by
 rw[List.take_add_one,h];simp[qjs]
def qac(a b:Nat):ICode:=sq [sq [.r [.n 17 0,.q 18 (.nilChk (.t 17)),.f 19 0 18,.f 20 4 19,.f 21 1 20,.d 22 21,.e 23 22,.m 24 (.k 0)],.blk 0 (.loop (sq [.r [.s 25 24 23],.cond (.t 25) (.skip) (.exit 0),.blk 1 (sq [.r [.i 26 2 22 24,.v 27 2 26,.q 5 (.alloc [.s [],.w 0]),.u (.store 2 (.t 5) (.t 27))],.r [.n 28 0,.n 29 3,.f 30 0 5,.d 31 30,.q 32 (.buildS 1 [.s []] [(0,1,(.t 31))]),.l 33 a [.t 28,.t 29,.N,.t 32]]]),.r [.a 34 24 1,.n 24 34]]))],.reg true [.n 35 0,.q 36 (.nilChk (.t 35)),.f 37 0 36,.f 38 4 37,.f 39 0 38,.d 40 39,.n 41 0,.q 42 (.nilChk (.t 41)),.f 43 0 42,.f 44 4 43,.f 45 1 44,.d 46 45,.e 47 46,.l 48 b [.t 40,.t 47,.F,.T],.n 2 48],.ret]
def qdO(a b:Nat):IFn:=⟨[.tmp 2],sq [.r [.m 2 .F],.r [.m 3 (.c (.w 2147221504))],sq [.r [.n 6 0,.q 7 (.nilChk (.t 6)),.f 8 0 7,.f 9 4 8,.f 10 0 9,.d 11 10,.q 12 (.bin .eql (.t 11) (.c (.y 2)))],.cond (.t 12) (.r [.n 13 0,.q 14 (.nilChk (.t 13)),.f 15 13 14,.f 16 2 15,.u (.store 1 (.t 16) (.c (.w 2147221504))),.m 3 (.c (.w 2147418112))]) (.skip)],.cut (qac a b)]⟩
def qrP{g2 g3:Nat}(h2:qcQ P g2)(h3:∀mode n al dn,qa P g3 [.y mode,.j (n:Nat),.b al,.b dn] (.b (xv mode n al dn)))
  (p:Pol) (a d own:Int) (hp:PolOk p) {t':Tr AV} {h':Hp} (hw:Wk 2 t' h' (mkT [(0,.ptr 0 0),(3,.w own)]) (mkH 0 [mkB p a d 1 0,.cells 3 true true (rR [])])) :
  S P 2 (qac g2 g3) (xk [.tmp 2] (qoz 2 (.b (xv p.log.mode p.log.calls.length false true)) [mkB p a d 2 (qjs a own p.log.calls).length,.dead,.cells 3 true true (rR (qjs a own p.log.calls))])) t' h':=by
 have hl:=hp.l;refine S.weak hw (qk ?_);simp only[qac,mkB,mkC,qB,zzC,zzN,vI,simprocAttr];simp only[↓vS,vT,simprocAttr]
 refine SL.loopd (α:=Nat) (λj=>[(0,.ptr 0 0),(3,.w own),(22,.fz p.log.calls.length (rC p.log.calls)),(23,.j p.log.calls.length),(24,.j j)])
  (λj=>[mkB p a d 2 (qjs a own (p.log.calls.take j)).length,.dead,.cells 3 true true (rR (qjs a own (p.log.calls.take j)))])
  (λj=>j<=p.log.calls.length) (λj=>p.log.calls.length-j) 0 [0,1,1] ?_ ?_ ?_ rfl (by simp) ?_ ?_ ?_
 .simp[vw,qp]
 .simp[vw,mkB,mkC,qB,qjs,qe,qq,qp,qi]
 .simp[jy,mkB]
 .intro b hb;have:b=0\/b=1:=by omega
  rcases this with rfl|rfl<;>simp[qhi,rl]
 .omega
 rintro j hj G ih;simp only[vI,simprocAttr,mkB,mkC,qB,zzC,zzN]
 by_cases hlt:j<p.log.calls.length
 .have hx:p.log.calls[j]?=some p.log.calls[j]:=by simp_all
  have he:=qoe hx;have hb:=qma hlt;have hw:IntKind.wrap .i64 ((j:Int)+1)=((j+1:Nat):Int):=by rw[qm (by omega) (by omega)];omega
  have hA1:=qtz (a:=a) (own:=own) hx;have hl1:=qpD a own (p.log.calls.take j);rw[List.length_take,Nat.min_eq_left (by omega)]at hl1;generalize hA:qjs a own (p.log.calls.take j)=A at hA1 hl1;generalize hc0:p.log.calls[j]=c at he hA1;simp only[↓vS,vT,simprocAttr,hlt,hb,he,qe9];refine SC.give (vs':=[.ptr 0 0,.w own,.fz 0 (rT []),.fz 1 (rS [c.name])]) [(4,.v [.s c.name])] ?_ ?_ ?_
  .simp_all[Tr.get_set]
  .refine .keep _ _ _ (.keep _ _ _ (.fz _ _ _ _ .nilz (.fz _ _ _ _ (.cut 1 rfl (zzL _) ?_) .nil)));simp[vw,trP,rS]
  simp only[qW,zp,qx];refine(h2 p a d own [] [c.name] A (by simp) (by grind)).sc (vs:=[.ptr 0 0,.w own,.fz 0 (rT []),.fz 1 (rS [c.name])]) [0,2] (Lent.of (by decide) ?_) ?_
  .simp[vL,vw,mkB,mkC,qB,qv qq,qg qq,qv qp,qg qp,qv qi,qg qi]
  rw[<- hA1];simp only[vK,simprocAttr,mkB,mkC,qB,zzC,zzN,qg qq,qg qp,qg qi];simp only[↓vS,vT,simprocAttr,hw];refine ih (j+1) hlt (by omega) _ _ (Wk.mkd _ _ [0,1,5] ?_ ?_ ?_ rfl (by simp) ?_)
  .simp[vw,qp]
  .simp[vw,mkB,mkC,qB,qe,qq,qp,qi]
  .simp[jy,mkB]
  .intro b hb;have:b=0\/b=1:=by omega
   rcases this with rfl|rfl<;>simp[qhi,rl]
 .have hj':j=p.log.calls.length:=by omega
  subst hj';simp only[↓vS,vT,simprocAttr,hlt];refine zg ?_;simp only[↓vS,vT,simprocAttr];refine(h3 p.log.mode p.log.calls.length false true).pc ?_;simp only[↓vS,vT,simprocAttr];rw[List.take_length];intro _;refine⟨[0,1,2],?_⟩;simp[vw,mkB,mkC,qB,qe,qq,qp,qi,jy,rl]
  grind
def qHq{g2 g3:Nat}(hc:qc P f (qdO g2 g3)=true)(h2:qcQ P g2)(h3:∀mode n al dn,qa P g3 [.y mode,.j (n:Nat),.b al,.b dn] (.b (xv mode n al dn))):zZ P f qlX:=by
 intro p a hp hR;refine Upd.mkd hc (by simp[jl,bnd,mkB]) (by simp) ?_;simp only[qdO,mkB,mkC,qB,vI,simprocAttr,zzC,zzN]
 by_cases m:p.log.mode=2
 .simp only[↓vS,vT,simprocAttr,m];have e:qlX p a=(xv p.log.mode p.log.calls.length false true,qjs a 2147418112 p.log.calls,2147221504):=by simp[qlX,m]
  rw[e];refine qrP h2 h3 p a 2147221504 2147418112 hp (Wk.mkd _ _ [0,1] ?_ ?_ ?_ rfl (by simp) ?_)
  .simp[vw]
  .simp[vw,mkB,mkC,qB,qe,qq,qp,qi,m,rR]
  .simp[jy,mkB]
  .intro b hb;have:b=0\/b=1:=by omega
   rcases this with rfl|rfl<;>simp[qhi,rl]
 .simp only[↓vS,vT,simprocAttr,m];have e:qlX p a=(xv p.log.mode p.log.calls.length false true,qjs a 2147221504 p.log.calls,2147418112):=by simp[qlX,m]
  rw[e];refine qrP h2 h3 p a 2147418112 2147221504 hp (Wk.mkd _ _ [0,1] ?_ ?_ ?_ rfl (by simp) ?_)
  .simp[vw]
  .simp[vw,mkB,mkC,qB,qe,qq,qp,qi,rR]
  .simp[jy,mkB]
  .intro b hb;have:b=0\/b=1:=by omega
   rcases this with rfl|rfl<;>simp[qhi,rl]
def qir(P:Program)(f:Nat):Prop:=∀(arg mask act:Int) (l:List Int),l.length<=100000->qa P f [.j arg,.x mask,.w act,.fz l.length (rI .u64 l)] (.fz (zt arg mask act l).length (rT (zt arg mask act l)))
def qAY(P:Program)(f:Nat):Prop:=∀(arg act:Int) (l:List Int),l.length<=100000->qa P f [.j arg,.w act,.fz l.length (rI .u64 l)] (.fz (zU arg act l).length (rT (zU arg act l)))
theorem qnM.pure(h:qnM P f):qir P f:=by
 intro arg mask act l hl;rw[show(zt arg mask act l).length=l.length by simp[zt]]
 refine(h arg mask act l hl).pure (by simp[qt,clo]) ?_;refine .own 0 _ 4 true _ _ ?_ (λh0=>?_) (Frzs.self zX)
 .simp[qam,Hp.push,shb,H0,Tr.get_set,xj zX]
 .rw[List.eq_nil_of_length_eq_zero h0];rfl
theorem qnL.pure(h:qnL P f):qAY P f:=by
 intro arg act l hl;rw[show(zU arg act l).length=l.length by simp[zU]]
 refine(h arg act l hl).pure (by simp[qt,clo]) ?_;refine .own 0 _ 4 true _ _ ?_ (λh0=>?_) (Frzs.self zX)
 .simp[qam,Hp.push,shb,H0,Tr.get_set,xj zX]
 .rw[List.eq_nil_of_length_eq_zero h0];rfl
def qdq:List UInt8:=[115,99,104,101,100,95,115,101,116,115,99,104,101,100,117,108,101,114]
def rtM(p:Pol)(a:Int):Bool×List GRule×Int:=(p.rt,zh a 327681 (zt 1 4294967295 2147418112 [0,3,5]) [qdq],2147418112)
def qbn(a b:Nat):IFn:=⟨[.tmp 2],sq [.r [.m 2 .F],.r [.n 3 0,.q 4 (.buildS 3 [.x 0] [(0,1,(.c (.x 0))),(1,1,(.c (.x 3))),(2,1,(.c (.x 5)))]),.l 5 a [.k 1,(.c (.x 4294967295)),(.c (.w 2147418112)),.t 4],.q 6 (.buildS 1 [.s []] [(0,1,(.c (.s [115,99,104,101,100,95,115,101,116,115,99,104,101,100,117,108,101,114])))]),.l 7 b [.t 3,(.c (.w 327681)),.t 5,.t 6]],.r [.n 8 0,.q 9 (.nilChk (.t 8)),.f 10 0 9,.f 11 11 10,.d 12 11,.n 2 12],.ret]⟩
def qx6{g1 g2:Nat}(hc:qc P f (qbn g1 g2)=true)(h1:qir P g1)(h2:qcQ P g2):zZ P f rtM:=by
 intro p a hp hR;refine Upd.mkd hc (by simp[jl,bnd,mkB]) (by simp) ?_;simp only[qbn,mkB,mkC,qB,vI,simprocAttr,zzC,zzN];simp only[↓vS,vT,simprocAttr];refine SC.give (vs':=[.j 1,.x 4294967295,.w 2147418112,.fz 3 (rI .u64 [0,3,5])]) [(2,.v [.x 0,.x 3,.x 5])] ?_ ?_ ?_
 .intro q hq;simp at hq;subst hq;simp[Tr.get_set]
 .refine .keep _ _ _ (.keep _ _ _ (.keep _ _ _ (.fz _ _ _ _ (.cut 1 rfl (zzL _) ?_) .nil)));simp[vw,trP,rI]
 simp only[qW,zp,qx];refine(h1 1 4294967295 2147418112 [0,3,5] (by decide)).sc ?_;generalize hts:zt 1 4294967295 2147418112 [0,3,5]=ts;have hl:ts.length<=100000:=by rw[<- hts];decide
 simp only[↓vS,vT,simprocAttr];refine SC.give (vs':=[.ptr 0 0,.w 327681,.fz ts.length (rT ts),.fz 1 (rS [qdq])]) [(3,.v [.s qdq])] ?_ ?_ ?_
 .intro q hq;simp at hq;subst hq;simp[Tr.get_set,qdq]
 .refine .keep _ _ _ (.keep _ _ _ (.keep _ _ _ (.fz _ _ _ _ (.cut 1 rfl (zzL _) ?_) .nil)));simp[vw,trP,rS,qdq]
 simp only[qW,zp,qx];refine(h2 p a 2147418112 327681 ts [qdq] [] hl (by simp)).sc (vs:=[.ptr 0 0,.w 327681,.fz ts.length (rT ts),.fz 1 (rS [qdq])]) [0,1] (Lent.of (by decide) ?_) ?_
 .simp[vL,vw,mkB,mkC,qB,qv qq,qg qq,qv qp,qg qp,qv qi,qg qi]
 simp only[vK,simprocAttr,mkB,mkC,qB,zzC,zzN,qg qq,qg qp,qg qi];simp only[↓vS,vT,simprocAttr];intro _;refine⟨[0,1,4],?_⟩;simp[vw,rtM,hts,mkB,mkC,qB,qe,qq,qp,qi,jy,rl]
 grind
def xO:List UInt8:=[115,111,99,107,101,116]
def xn:List UInt8:=[117,110,115,104,97,114,101]
def jT:List UInt8:=[99,108,111,110,101]
def ji:List UInt8:=[115,101,116,110,115]
def xN:List UInt8:=[99,108,111,110,101,51]
def qbU:List UInt8:=[109,109,97,112]
def xa:List UInt8:=[109,112,114,111,116,101,99,116]
def qU:List UInt8:=[112,107,101,121,95,109,112,114,111,116,101,99,116]
def qao:List UInt8:=[115,104,109,97,116]
def zG:List UInt8:=[112,101,114,115,111,110,97,108,105,116,121]
def peM(p:Pol)(a:Int):Bool×List GRule×Int:=(p.pe,zh a 327681 (zt 0 4294967295 2147418112 [0,4294967295]) [zG],2147418112)
def qau(a b:Nat):IFn:=⟨[.tmp 2],sq [.r [.m 2 .F],.r [.n 3 0,.q 4 (.buildS 2 [.x 0] [(0,1,(.c (.x 0))),(1,1,(.c (.x 4294967295)))]),.l 5 a [.k 0,(.c (.x 4294967295)),(.c (.w 2147418112)),.t 4],.q 6 (.buildS 1 [.s []] [(0,1,(.c (.s [112,101,114,115,111,110,97,108,105,116,121])))]),.l 7 b [.t 3,(.c (.w 327681)),.t 5,.t 6]],.r [.n 8 0,.q 9 (.nilChk (.t 8)),.f 10 0 9,.f 11 10 10,.d 12 11,.n 2 12],.ret]⟩
def qtE{g1 g2:Nat}(hc:qc P f (qau g1 g2)=true)(h1:qir P g1)(h2:qcQ P g2):zZ P f peM:=by
 intro p a hp hR;refine Upd.mkd hc (by simp[jl,bnd,mkB]) (by simp) ?_;simp only[qau,mkB,mkC,qB,vI,simprocAttr,zzC,zzN];simp only[↓vS,vT,simprocAttr];refine SC.give (vs':=[.j 0,.x 4294967295,.w 2147418112,.fz 2 (rI .u64 [0,4294967295])]) [(2,.v [.x 0,.x 4294967295])] ?_ ?_ ?_
 .intro q hq;simp at hq;subst hq;simp[Tr.get_set]
 .refine .keep _ _ _ (.keep _ _ _ (.keep _ _ _ (.fz _ _ _ _ (.cut 1 rfl (zzL _) ?_) .nil)));simp[vw,trP,rI]
 simp only[qW,zp,qx];refine(h1 0 4294967295 2147418112 [0,4294967295] (by decide)).sc ?_;generalize hts0:zt 0 4294967295 2147418112 [0,4294967295]=ts0;have hlts0:ts0.length<=100000:=by rw[<- hts0];decide
 simp only[↓vS,vT,simprocAttr];refine SC.give (vs':=[.ptr 0 0,.w 327681,.fz ts0.length (rT ts0),.fz 1 (rS [zG])]) [(3,.v [.s zG])] ?_ ?_ ?_
 .intro q hq;simp at hq;subst hq;simp[Tr.get_set,zG]
 .refine .keep _ _ _ (.keep _ _ _ (.keep _ _ _ (.fz _ _ _ _ (.cut 1 rfl (zzL _) ?_) .nil)));simp[vw,trP,rS,zG]
 simp only[qW,zp,qx];refine(h2 p a 2147418112 327681 ts0 [zG] [] hlts0 (by simp)).sc (vs:=[.ptr 0 0,.w 327681,.fz ts0.length (rT ts0),.fz 1 (rS [zG])]) [0,1] (Lent.of (by decide) ?_) ?_
 .simp[vL,vw,mkB,mkC,qB,qv qq,qg qq,qv qp,qg qp,qv qi,qg qi]
 simp only[vK,simprocAttr,mkB,mkC,qB,zzC,zzN,qg qq,qg qp,qg qi]
 have hlA:(zh a 327681 ts0 [zG]).length<=1:=by
  have:=qaN a 327681 ts0 [zG];simp only[zzP,List.length_cons,List.length_nil]at this ⊢;omega
 generalize hA0:zh a 327681 ts0 [zG]=A0 at hlA;simp only[↓vS,vT,simprocAttr];intro _;refine⟨[0,1,4],?_⟩;have e:(peM p a).2.1=A0:=by simp only[peM,<- hA0,<- hts0]
 rw[e];simp[vw,peM,mkB,mkC,qB,qe,qq,qp,qi,jy,rl]
 grind
def weM(p:Pol)(a:Int):Bool×List GRule×Int:=(p.we,zh a 2147418112 (zU 2 327681 [6]) [qbU]++zh a 2147418112 (zU 2 327681 [4]) [xa,qU]++zh a 2147418112 (zU 2 327681 [32768]) [qao],2147418112)
def qai(a b:Nat):IFn:=⟨[.tmp 2],sq [.r [.m 2 .F],.r [.n 3 0,.q 4 (.buildS 1 [.x 0] [(0,1,(.c (.x 6)))]),.l 5 a [.k 2,(.c (.w 327681)),.t 4],.q 6 (.buildS 1 [.s []] [(0,1,(.c (.s [109,109,97,112])))]),.l 7 b [.t 3,(.c (.w 2147418112)),.t 5,.t 6]],.r [.n 8 0,.q 9 (.buildS 1 [.x 0] [(0,1,(.c (.x 4)))]),.l 10 a [.k 2,(.c (.w 327681)),.t 9],.q 11 (.buildS 2 [.s []] [(0,1,(.c (.s [109,112,114,111,116,101,99,116]))),(1,1,(.c (.s [112,107,101,121,95,109,112,114,111,116,101,99,116])))]),.l 12 b [.t 8,(.c (.w 2147418112)),.t 10,.t 11]],.r [.n 13 0,.q 14 (.buildS 1 [.x 0] [(0,1,(.c (.x 32768)))]),.l 15 a [.k 2,(.c (.w 327681)),.t 14],.q 16 (.buildS 1 [.s []] [(0,1,(.c (.s [115,104,109,97,116])))]),.l 17 b [.t 13,(.c (.w 2147418112)),.t 15,.t 16]],.r [.n 18 0,.q 19 (.nilChk (.t 18)),.f 20 0 19,.f 21 9 20,.d 22 21,.n 2 22],.ret]⟩
def qrR{g1 g2:Nat}(hc:qc P f (qai g1 g2)=true)(h1:qAY P g1)(h2:qcQ P g2):zZ P f weM:=by
 intro p a hp hR;refine Upd.mkd hc (by simp[jl,bnd,mkB]) (by simp) ?_;simp only[qai,mkB,mkC,qB,vI,simprocAttr,zzC,zzN];simp only[↓vS,vT,simprocAttr];refine SC.give (vs':=[.j 2,.w 327681,.fz 1 (rI .u64 [6])]) [(2,.v [.x 6])] ?_ ?_ ?_
 .intro q hq;simp at hq;subst hq;simp[Tr.get_set]
 .refine .keep _ _ _ (.keep _ _ _ (.fz _ _ _ _ (.cut 1 rfl (zzL _) ?_) .nil));simp[vw,trP,rI]
 simp only[qW,zp,qx];refine(h1 2 327681 [6] (by decide)).sc ?_;generalize hts0:zU 2 327681 [6]=ts0;have hlts0:ts0.length<=100000:=by rw[<- hts0];decide
 simp only[↓vS,vT,simprocAttr];refine SC.give (vs':=[.ptr 0 0,.w 2147418112,.fz ts0.length (rT ts0),.fz 1 (rS [qbU])]) [(3,.v [.s qbU])] ?_ ?_ ?_
 .intro q hq;simp at hq;subst hq;simp[Tr.get_set,qbU]
 .refine .keep _ _ _ (.keep _ _ _ (.keep _ _ _ (.fz _ _ _ _ (.cut 1 rfl (zzL _) ?_) .nil)));simp[vw,trP,rS,qbU]
 simp only[qW,zp,qx];refine(h2 p a 2147418112 2147418112 ts0 [qbU] [] hlts0 (by simp)).sc (vs:=[.ptr 0 0,.w 2147418112,.fz ts0.length (rT ts0),.fz 1 (rS [qbU])]) [0,1] (Lent.of (by decide) ?_) ?_
 .simp[vL,vw,mkB,mkC,qB,qv qq,qg qq,qv qp,qg qp,qv qi,qg qi]
 simp only[vK,simprocAttr,mkB,mkC,qB,zzC,zzN,qg qq,qg qp,qg qi]
 have hlA:(zh a 2147418112 ts0 [qbU]).length<=1:=by
  have:=qaN a 2147418112 ts0 [qbU];simp only[zzP,List.length_cons,List.length_nil]at this ⊢;omega
 generalize hA0:zh a 2147418112 ts0 [qbU]=A0 at hlA;simp only[↓vS,vT,simprocAttr];refine SC.give (vs':=[.j 2,.w 327681,.fz 1 (rI .u64 [4])]) [(5,.v [.x 4])] ?_ ?_ ?_
 .intro q hq;simp at hq;subst hq;simp[Tr.get_set]
 .refine .keep _ _ _ (.keep _ _ _ (.fz _ _ _ _ (.cut 1 rfl (zzL _) ?_) .nil));simp[vw,trP,rI]
 simp only[qW,zp,qx];refine(h1 2 327681 [4] (by decide)).sc ?_;generalize hts1:zU 2 327681 [4]=ts1;have hlts1:ts1.length<=100000:=by rw[<- hts1];decide
 simp only[↓vS,vT,simprocAttr];refine SC.give (vs':=[.ptr 0 0,.w 2147418112,.fz ts1.length (rT ts1),.fz 2 (rS [xa,qU])]) [(6,.v [.s xa,.s qU])] ?_ ?_ ?_
 .intro q hq;simp at hq;subst hq;simp[Tr.get_set,xa,qU]
 .refine .keep _ _ _ (.keep _ _ _ (.keep _ _ _ (.fz _ _ _ _ (.cut 1 rfl (zzL _) ?_) .nil)));simp[vw,trP,rS,xa,qU]
 simp only[qW,zp,qx];refine(h2 p a 2147418112 2147418112 ts1 [xa,qU] A0 hlts1 (by simp;omega)).sc (vs:=[.ptr 0 0,.w 2147418112,.fz ts1.length (rT ts1),.fz 2 (rS [xa,qU])]) [0,4] (Lent.of (by decide) ?_) ?_
 .simp[vL,vw,mkB,mkC,qB,qv qq,qg qq,qv qp,qg qp,qv qi,qg qi]
 simp only[vK,simprocAttr,mkB,mkC,qB,zzC,zzN,qg qq,qg qp,qg qi]
 have hlA:(A0++zh a 2147418112 ts1 [xa,qU]).length<=3:=by
  have:=qaN a 2147418112 ts1 [xa,qU];simp only[zzP,List.length_cons,List.length_nil]at this ⊢;omega
 generalize hA1:A0++zh a 2147418112 ts1 [xa,qU]=A1 at hlA;simp only[↓vS,vT,simprocAttr];refine SC.give (vs':=[.j 2,.w 327681,.fz 1 (rI .u64 [32768])]) [(8,.v [.x 32768])] ?_ ?_ ?_
 .intro q hq;simp at hq;subst hq;simp[Tr.get_set]
 .refine .keep _ _ _ (.keep _ _ _ (.fz _ _ _ _ (.cut 1 rfl (zzL _) ?_) .nil));simp[vw,trP,rI]
 simp only[qW,zp,qx];refine(h1 2 327681 [32768] (by decide)).sc ?_;generalize hts2:zU 2 327681 [32768]=ts2;have hlts2:ts2.length<=100000:=by rw[<- hts2];decide
 simp only[↓vS,vT,simprocAttr];refine SC.give (vs':=[.ptr 0 0,.w 2147418112,.fz ts2.length (rT ts2),.fz 1 (rS [qao])]) [(9,.v [.s qao])] ?_ ?_ ?_
 .intro q hq;simp at hq;subst hq;simp[Tr.get_set,qao]
 .refine .keep _ _ _ (.keep _ _ _ (.keep _ _ _ (.fz _ _ _ _ (.cut 1 rfl (zzL _) ?_) .nil)));simp[vw,trP,rS,qao]
 simp only[qW,zp,qx];refine(h2 p a 2147418112 2147418112 ts2 [qao] A1 hlts2 (by simp;omega)).sc (vs:=[.ptr 0 0,.w 2147418112,.fz ts2.length (rT ts2),.fz 1 (rS [qao])]) [0,7] (Lent.of (by decide) ?_) ?_
 .simp[vL,vw,mkB,mkC,qB,qv qq,qg qq,qv qp,qg qp,qv qi,qg qi]
 simp only[vK,simprocAttr,mkB,mkC,qB,zzC,zzN,qg qq,qg qp,qg qi]
 have hlA:(A1++zh a 2147418112 ts2 [qao]).length<=4:=by
  have:=qaN a 2147418112 ts2 [qao];simp only[zzP,List.length_cons,List.length_nil]at this ⊢;omega
 generalize hA2:A1++zh a 2147418112 ts2 [qao]=A2 at hlA;simp only[↓vS,vT,simprocAttr];intro _;refine⟨[0,1,10],?_⟩;have e:(weM p a).2.1=A2:=by simp only[weM,<- hA2,<- hA1,<- hA0,<- hts0,<- hts1,<- hts2]
 rw[e];simp[vw,weM,mkB,mkC,qB,qe,qq,qp,qi,jy,rl]
 grind
def nsM(p:Pol)(a:Int):Bool×List GRule×Int:=(decide (p.spaces≠0),zh a 2147418112 (zU 0 327681 (qaU p.spaces)) [xn,jT]++zh a 2147418112 (zU 1 327681 (qaU p.spaces)++zt 1 4294967295 327681 [0]) [ji]++zh a 327718 [] [xN],2147418112)
def qaP(a b c d:Nat):IFn:=⟨[.tmp 2],sq [.r [.m 2 .F],.r [.n 4 0,.q 5 (.nilChk (.t 4)),.f 6 0 5,.f 7 8 6,.d 8 7,.l 9 a [.t 8],.n 3 9],.r [.n 10 0,.n 11 3,.l 12 b [.k 0,(.c (.w 327681)),.t 11],.q 13 (.buildS 2 [.s []] [(0,1,(.c (.s [117,110,115,104,97,114,101]))),(1,1,(.c (.s [99,108,111,110,101])))]),.l 14 c [.t 10,(.c (.w 2147418112)),.t 12,.t 13]],.r [.n 15 0,.n 16 3,.l 17 b [.k 1,(.c (.w 327681)),.t 16],.q 18 (.buildS 1 [.x 0] [(0,1,(.c (.x 0)))]),.l 19 d [.k 1,(.c (.x 4294967295)),(.c (.w 327681)),.t 18],.q 20 (.app 4 32 true (.t 17) (.t 19)),.q 21 (.buildS 1 [.s []] [(0,1,(.c (.s [115,101,116,110,115])))]),.l 22 c [.t 15,(.c (.w 2147418112)),.t 20,.t 21]],.r [.n 23 0,.q 24 (.buildS 1 [.s []] [(0,1,(.c (.s [99,108,111,110,101,51])))]),.l 25 c [.t 23,(.c (.w 327718)),.N,.t 24]],.r [.n 26 0,.q 27 (.nilChk (.t 26)),.f 28 0 27,.f 29 8 28,.d 30 29,.q 31 (.bin .neq (.t 30) (.c (.x 0))),.n 2 31],.ret]⟩
def qub{g0 g1 g2 g3:Nat}(hc:qc P f (qaP g0 g1 g2 g3)=true)(h0:∀s,qa P g0 [.x s] (.fz (qaU s).length (rI .u64 (qaU s))))(hb:qnL P g1)(h1:qir P g3)(h2:qcQ P g2):zZ P f nsM:=by
 intro p a hp hR;refine Upd.mkd hc (by simp[jl,bnd,mkB]) (by simp) ?_;simp only[qaP,mkB,mkC,qB,vI,simprocAttr,zzC,zzN];simp only[↓vS,vT,simprocAttr];refine(h0 p.spaces).sc ?_;have hfl:(qaU p.spaces).length<=8:=Nat.le_trans (List.length_filter_le _ _) (by decide);generalize hF:qaU p.spaces=F at hfl;simp only[↓vS,vT,simprocAttr];refine(hb.pure 0 327681 F (by omega)).sc ?_;have hlts0:(zU 0 327681 F).length<=100000:=by simp[zU];omega
 generalize hts0:zU 0 327681 F=ts0 at hlts0;simp only[↓vS,vT,simprocAttr];refine SC.give (vs':=[.ptr 0 0,.w 2147418112,.fz ts0.length (rT ts0),.fz 2 (rS [xn,jT])]) [(2,.v [.s xn,.s jT])] ?_ ?_ ?_
 .intro q hq;simp at hq;subst hq;simp[Tr.get_set,xn,jT]
 .refine .keep _ _ _ (.keep _ _ _ (.keep _ _ _ (.fz _ _ _ _ (.cut 1 rfl (zzL _) ?_) .nil)));simp[vw,trP,rS,xn,jT]
 simp only[qW,zp,qx];refine(h2 p a 2147418112 2147418112 ts0 [xn,jT] [] hlts0 (by simp)).sc (vs:=[.ptr 0 0,.w 2147418112,.fz ts0.length (rT ts0),.fz 2 (rS [xn,jT])]) [0,1] (Lent.of (by decide) ?_) ?_
 .simp[vL,vw,mkB,mkC,qB,qv qq,qg qq,qv qp,qg qp,qv qi,qg qi]
 simp only[vK,simprocAttr,mkB,mkC,qB,zzC,zzN,qg qq,qg qp,qg qi]
 have hlA:(zh a 2147418112 ts0 [xn,jT]).length<=2:=by
  have:=qaN a 2147418112 ts0 [xn,jT];simp only[zzP,List.length_cons,List.length_nil]at this ⊢;omega
 generalize hA0:zh a 2147418112 ts0 [xn,jT]=A0 at hlA;simp only[↓vS,vT,simprocAttr];refine(hb 1 327681 F (by omega)).sc ?_;simp only[vJ,simprocAttr,xj zX];have hlb:(zU 1 327681 F).length=F.length:=by simp[zU]
 have hlbT:(rT (zU 1 327681 F)).length=F.length*4:=by rw[qeY,hlb]
 simp only[↓vS,vT,simprocAttr];refine SC.give (vs':=[.j 1,.x 4294967295,.w 327681,.fz 1 (rI .u64 [0])]) [(5,.v [.x 0])] ?_ ?_ ?_
 .intro q hq;simp at hq;subst hq;simp[Tr.get_set]
 .refine .keep _ _ _ (.keep _ _ _ (.keep _ _ _ (.fz _ _ _ _ (.cut 1 rfl (zzL _) ?_) .nil)));simp[vw,trP,rI]
 simp only[qW,zp,qx];refine(h1 1 4294967295 327681 [0] (by decide)).sc ?_;generalize hts1:zt 1 4294967295 327681 [0]=ts1;have hlts1:ts1.length<=100000:=by rw[<- hts1];decide
 simp only[↓vS,vT,simprocAttr];have hl1:ts1.length=1:=by rw[<- hts1];rfl
 have hl1T:(rT ts1).length=4:=by rw[qeY,hl1]
 obtain⟨ts2,hts2⟩:∃x,zU 1 327681 F++ts1=x:=⟨_,rfl⟩;have hl2:F.length+1=ts2.length:=by rw[<- hts2,zzP,hlb,hl1]
 have hr1:ts2.length<=qf:=by simp only[qf];omega
 have hr2:ts2.length*32<=qf:=by simp only[qf];omega
 have hlts2:ts2.length<=100000:=by omega
 have htk:(rT (zU 1 327681 F)).take (F.length*4)=rT (zU 1 327681 F):=List.take_of_length_le (by omega);have htk1:(rT ts1).take 4=rT ts1:=by grind
 have hok:qF (rT ts1)=true:=qxk;simp +decide only[↓vS,vT,simprocAttr,hl1,hl1T,hlbT,htk,htk1,hl2,hr1,hr2,qqV,hts2,hok];refine SC.give (vs':=[.ptr 0 0,.w 2147418112,.fz ts2.length (rT ts2),.fz 1 (rS [ji])]) [(6,.cells 4 true true (rT ts2)),(7,.v [.s ji])] ?_ ?_ ?_
 .intro q hq;simp at hq;rcases hq with rfl|rfl<;>simp[Tr.get_set,ji]
 .refine .keep _ _ _ (.keep _ _ _ (.fz _ _ _ _ (.own 6 _ 4 true (rT ts2) _ ?_ (λh0=>?_) (Frzs.self zX)) (.fz _ _ _ _ (.cut 1 rfl (zzL _) ?_) .nil)))
  .simp[trP,Tr.get_set]
  .rw[List.eq_nil_of_length_eq_zero h0];rfl
  simp[vw,trP,rS,ji]
 simp only[qW,zp,qx];refine(h2 p a 2147418112 2147418112 ts2 [ji] A0 hlts2 (by simp;omega)).sc (vs:=[.ptr 0 0,.w 2147418112,.fz ts2.length (rT ts2),.fz 1 (rS [ji])]) [0,3] (Lent.of (by decide) ?_) ?_
 .simp[vL,vw,mkB,mkC,qB,qv qq,qg qq,qv qp,qg qp,qv qi,qg qi]
 simp only[vK,simprocAttr,mkB,mkC,qB,zzC,zzN,qg qq,qg qp,qg qi]
 have hlA:(A0++zh a 2147418112 ts2 [ji]).length<=3:=by
  have:=qaN a 2147418112 ts2 [ji];simp only[zzP,List.length_cons,List.length_nil]at this ⊢;omega
 generalize hA1:A0++zh a 2147418112 ts2 [ji]=A1 at hlA;simp only[↓vS,vT,simprocAttr];refine SC.give (vs':=[.ptr 0 0,.w 327718,.fz 0 (rT []),.fz 1 (rS [xN])]) [(9,.v [.s xN])] ?_ ?_ ?_
 .intro q hq;simp at hq;subst hq;simp[Tr.get_set,xN]
 .refine .keep _ _ _ (.keep _ _ _ (.fz _ _ _ _ .nilz (.fz _ _ _ _ (.cut 1 rfl (zzL _) ?_) .nil)));simp[vw,trP,rS,xN]
 simp only[qW,zp,qx];refine(h2 p a 2147418112 327718 [] [xN] A1 (by simp) (by simp;omega)).sc (vs:=[.ptr 0 0,.w 327718,.fz 0 (rT []),.fz 1 (rS [xN])]) [0,8] (Lent.of (by decide) ?_) ?_
 .simp[vL,vw,mkB,mkC,qB,qv qq,qg qq,qv qp,qg qp,qv qi,qg qi]
 simp only[vK,simprocAttr,mkB,mkC,qB,zzC,zzN,qg qq,qg qp,qg qi]
 have hlA:(A1++zh a 327718 [] [xN]).length<=4:=by
  have:=qaN a 327718 [] [xN];simp only[zzP,List.length_cons,List.length_nil]at this ⊢;omega
 generalize hA2:A1++zh a 327718 [] [xN]=A2 at hlA;simp only[↓vS,vT,simprocAttr];intro _;refine⟨[0,1,10],?_⟩;have e:(nsM p a).2.1=A2:=by simp only[nsM,<- hA2,<- hA1,<- hA0,<- hts2,<- hts0,<- hts1,<- hF]
 rw[e];simp[vw,nsM,mkB,mkC,qB,qe,qq,qp,qi,jy,rl]
 grind
def fmM(p:Pol)(a:Int):Bool×List GRule×Int :=
 (xv p.fmode p.fams.length true false,zh a (if p.fmode=2 then 2147418112 else 327777) (zt 0 4294967295 (if p.fmode=2 then 327777 else 2147418112) p.fams) [xO],2147418112)
def x5(a b c:Nat):ICode:=sq [.r [.n 32 0,.n 33 4,.n 34 3,.n 35 5,.l 36 a [.k 0,(.c (.x 4294967295)),.t 34,.t 35],.q 37 (.buildS 1 [.s []] [(0,1,(.c (.s [115,111,99,107,101,116])))]),.l 38 b [.t 32,.t 33,.t 36,.t 37]],.reg true [.n 39 0,.q 40 (.nilChk (.t 39)),.f 41 0 40,.f 42 7 41,.d 43 42,.n 44 0,.q 45 (.nilChk (.t 44)),.f 46 0 45,.f 47 6 46,.d 48 47,.e 49 48,.l 50 c [.t 43,.t 49,.T,.F],.n 2 50],.ret]
def x4(a b c:Nat):ICode:=sq [.r [.m 5 .N],sq [.r [.n 16 0,.q 17 (.nilChk (.t 16)),.f 18 0 17,.f 19 6 18,.d 20 19,.e 21 20,.m 22 (.k 0)],.blk 0 (.loop (sq [.r [.s 23 22 21],.cond (.t 23) (.skip) (.exit 0),.blk 1 (sq [.r [.i 24 1 20 22,.d 25 24,.n 7 25],.r [.n 26 5,.n 27 7,.q 28 (.cvInt .u64 (.t 27)),.q 29 (.buildS 1 [.x 0] [(0,1,(.t 28))]),.q 30 (.app 1 8 true (.t 26) (.t 29)),.n 5 30]]),.r [.a 31 22 1,.n 22 31]]))],.cut (x5 a b c)]
def qbm(a b c:Nat):IFn:=⟨[.tmp 2],sq [.r [.m 2 .F],.r [.m 3 (.c (.w 2147418112)),.m 4 (.c (.w 327777))],sq [.r [.n 8 0,.q 9 (.nilChk (.t 8)),.f 10 0 9,.f 11 7 10,.d 12 11,.q 13 (.bin .eql (.t 12) (.c (.y 2)))],.cond (.t 13) (.r [.n 14 4,.n 15 3,.n 3 14,.n 4 15]) (.skip)],.cut (x4 a b c)]⟩
def qzG{g1 g2 g3:Nat}(h1:qir P g1)(h2:qcQ P g2)(h3:∀mode n al dn,qa P g3 [.y mode,.j (n:Nat),.b al,.b dn] (.b (xv mode n al dn)))
  (p:Pol) (a nm ot:Int) (hp:PolOk p) {t':Tr AV} {h':Hp} (hw:Wk 2 t' h' (mkT [(0,.ptr 0 0),(2,.b false),(3,.w nm),(4,.w ot),(5,.own 2 p.fams.length)]) (mkH 0 [mkB p a 2147418112 1 0,.cells 3 true true (rR []),.cells 1 true true (rI .u64 p.fams)])) :
  S P 2 (x5 g1 g2 g3) (xk [.tmp 2] (qoz 2 (.b (xv p.fmode p.fams.length true false)) [mkB p a 2147418112 2 (zh a ot (zt 0 4294967295 nm p.fams) [xO]).length,.dead,.cells 3 true true (rR (zh a ot (zt 0 4294967295 nm p.fams) [xO]))])) t' h':=by
 have hl:=hp.f;refine S.weak hw (qk ?_);simp only[x5,mkB,mkC,qB,zzC,zzN,vI,simprocAttr];simp only[↓vS,vT,simprocAttr];refine SC.give (vs':=[.j 0,.x 4294967295,.w nm,.fz p.fams.length (rI .u64 p.fams)]) [(2,.cells 1 true true (rI .u64 p.fams))] ?_ ?_ ?_
 .intro q hq;simp at hq;subst hq;simp[Tr.get_set]
 .refine .keep _ _ _ (.keep _ _ _ (.keep _ _ _ (.fz _ _ _ _ (.own 2 _ 1 true (rI .u64 p.fams) _ ?_ (λh0=>?_) (Frzs.self qi)) .nil)))
  .simp[trP,Tr.get_set]
  .rw[List.eq_nil_of_length_eq_zero h0];rfl
 simp only[qW,zp,qx];refine(h1 0 4294967295 nm p.fams (by omega)).sc ?_;have hlts:(zt 0 4294967295 nm p.fams).length<=100000:=by simp[zt];omega
 generalize hts:zt 0 4294967295 nm p.fams=ts at hlts;simp only[↓vS,vT,simprocAttr];refine SC.give (vs':=[.ptr 0 0,.w ot,.fz ts.length (rT ts),.fz 1 (rS [xO])]) [(3,.v [.s xO])] ?_ ?_ ?_
 .intro q hq;simp at hq;subst hq;simp[Tr.get_set,xO]
 .refine .keep _ _ _ (.keep _ _ _ (.keep _ _ _ (.fz _ _ _ _ (.cut 1 rfl (zzL _) ?_) .nil)));simp[vw,trP,rS,xO]
 simp only[qW,zp,qx];refine(h2 p a 2147418112 ot ts [xO] [] hlts (by simp)).sc (vs:=[.ptr 0 0,.w ot,.fz ts.length (rT ts),.fz 1 (rS [xO])]) [0,1] (Lent.of (by decide) ?_) ?_
 .simp[vL,vw,mkB,mkC,qB,qv qq,qg qq,qv qp,qg qp,qv qi,qg qi]
 simp only[vK,simprocAttr,mkB,mkC,qB,zzC,zzN,qg qq,qg qp,qg qi];generalize hA:zh a ot ts [xO]=A;simp only[↓vS,vT,simprocAttr];refine zg ?_;simp only[↓vS,vT,simprocAttr];refine(h3 p.fmode p.fams.length true false).pc ?_;simp only[↓vS,vT,simprocAttr];intro _;refine⟨[0,1,4],?_⟩;simp[vw,mkB,mkC,qB,qe,qq,qp,qi,jy,rl]
 grind
def qrN{g1 g2 g3:Nat}(h1:qir P g1)(h2:qcQ P g2)(h3:∀mode n al dn,qa P g3 [.y mode,.j (n:Nat),.b al,.b dn] (.b (xv mode n al dn)))
  (p:Pol) (a nm ot:Int) (hp:PolOk p) (hR:PolR p) {t':Tr AV} {h':Hp} (hw:Wk 2 t' h' (mkT [(0,.ptr 0 0),(2,.b false),(3,.w nm),(4,.w ot)]) (mkH 0 [mkB p a 2147418112 1 0,.cells 3 true true (rR [])])) :
  S P 2 (x4 g1 g2 g3) (xk [.tmp 2] (qoz 2 (.b (xv p.fmode p.fams.length true false)) [mkB p a 2147418112 2 (zh a ot (zt 0 4294967295 nm p.fams) [xO]).length,.dead,.cells 3 true true (rR (zh a ot (zt 0 4294967295 nm p.fams) [xO]))])) t' h':=by
 have hl:=hp.f;refine S.weak hw (qk ?_);simp only[x4,mkB,mkC,qB,zzC,zzN,vI,simprocAttr];simp only[↓vS,vT,simprocAttr]
 refine SL.loopd (α:=Nat) (λj=>[(0,.ptr 0 0),(2,.b false),(3,.w nm),(4,.w ot),(5,.own 2 j),(20,.fz p.fams.length (rI .u32 p.fams)),(21,.j p.fams.length),(22,.j j)])
  (λj=>[mkB p a 2147418112 1 0,.cells 3 true true (rR []),.cells 1 true true (rI .u64 (p.fams.take j))])
  (λj=>j<=p.fams.length) (λj=>p.fams.length-j) 0 [0,1,99] ?_ ?_ ?_ rfl (by simp) ?_ ?_ ?_
 .simp[vw,qi]
 .simp[vw,mkB,mkC,qB,qe,qq,qp,qi]
 .simp[jy,mkB]
 .intro b hb;have:b=0\/b=1:=by omega
  rcases this with rfl|rfl<;>simp[qhi,rl]
 .omega
 rintro j hj G ih;simp only[vI,simprocAttr,mkB,mkC,qB,zzC,zzN]
 by_cases hlt:j<p.fams.length
 .have hx:p.fams[j]?=some p.fams[j]:=by simp_all
  have hw:IntKind.wrap .i64 ((j:Int)+1)=((j+1:Nat):Int):=by rw[qm (by omega) (by omega)];omega
  have hb:=hR.fams p.fams[j] (by simp_all);have hln:(rI .u64 (p.fams.take j)).length=j:=by rw[jS];simp_all
  have htk:(rI .u64 (p.fams.take j)).take j=rI .u64 (p.fams.take j):=List.take_of_length_le (by omega)
  have hap:rI .u64 (p.fams.take j)++[AV.x p.fams[j]]=rI .u64 (p.fams.take (j+1)):=by
   rw[List.take_add_one,hx];simp only[Option.toList_some,<- qof];rfl
  have hcv:IntKind.wrap .u64 p.fams[j]=p.fams[j]:=by grind[qeF]
  have hr1:j+1<=qf:=by simp only[qf];omega
  have hr2:(j+1)*8<=qf:=by simp only[qf];omega
  simp +decide only[↓vS,vT,simprocAttr,hlt,zzU,qaZ,hx,Option.map_some,hcv,hw,hr1,hr2,hln,htk,hap];refine ih (j+1) hlt (by omega) _ _ (Wk.mkd _ _ [0,1,4] ?_ ?_ ?_ rfl (by simp) ?_)
  .simp[vw,qi]
  .simp[vw,mkB,mkC,qB,qe,qq,qp,qi]
  .simp[jy,mkB]
  .intro b hb;have:b=0\/b=1:=by omega
   rcases this with rfl|rfl<;>simp[qhi,rl]
 .have hj':j=p.fams.length:=by omega
  subst hj';simp only[↓vS,vT,simprocAttr,hlt];refine qzG h1 h2 h3 p a nm ot hp (Wk.mkd _ _ [0,1,2] ?_ ?_ ?_ rfl (by simp) ?_)
  .simp[vw]
  .simp[vw,mkB,mkC,qB,qe,qq,qp,qi]
  .simp[jy,mkB]
  .intro b hb;have:b=0\/b=1:=by omega
   rcases this with rfl|rfl<;>simp[qhi,rl]
def qx5{g1 g2 g3:Nat}(hc:qc P f (qbm g1 g2 g3)=true)(h1:qir P g1)(h2:qcQ P g2)(h3:∀mode n al dn,qa P g3 [.y mode,.j (n:Nat),.b al,.b dn] (.b (xv mode n al dn))):zZ P f fmM:=by
 intro p a hp hR;refine Upd.mkd hc (by simp[jl,bnd,mkB]) (by simp) ?_;simp only[qbm,mkB,mkC,qB,vI,simprocAttr,zzC,zzN]
 by_cases m:p.fmode=2
 .simp only[↓vS,vT,simprocAttr,m];have e:fmM p a=(xv p.fmode p.fams.length true false,zh a 2147418112 (zt 0 4294967295 327777 p.fams) [xO],2147418112):=by simp[fmM,m]
  rw[e];refine qrN h1 h2 h3 p a 327777 2147418112 hp hR (Wk.mkd _ _ [0,1] ?_ ?_ ?_ rfl (by simp) ?_)
  .simp[vw]
  .simp[vw,mkB,mkC,qB,qe,qq,qp,qi,m]
  .simp[jy,mkB]
  .intro b hb;have:b=0\/b=1:=by omega
   rcases this with rfl|rfl<;>simp[qhi,rl]
 .simp only[↓vS,vT,simprocAttr,m];have e:fmM p a=(xv p.fmode p.fams.length true false,zh a 327777 (zt 0 4294967295 2147418112 p.fams) [xO],2147418112):=by simp[fmM,m]
  rw[e];refine qrN h1 h2 h3 p a 2147418112 327777 hp hR (Wk.mkd _ _ [0,1] ?_ ?_ ?_ rfl (by simp) ?_)
  .simp[vw]
  .simp[vw,mkB,mkC,qB,qe,qq,qp,qi]
  .simp[jy,mkB]
  .intro b hb;have:b=0\/b=1:=by omega
   rcases this with rfl|rfl<;>simp[qhi,rl]
def je(rs:List GRule):List GRule:=rs.mergeSort λx y=>decide (x.nr<=y.nr)
def qlp(P:Program)(f c:Nat):Prop:=∀rs:List GRule,rs.length<=100000->(rs.map GRule.nr).Nodup->
 Upd P f [.own 0 rs.length,.fn c [] []] [.cells 3 true true (rR rs)] (.tup []) [.cells 3 true true (rR (je rs))]
def qfp(d:Int):Option (Pol->Int->Bool×List GRule×Int) :=
 if d=1 then some qlB else if d=2 then some qlX else if d=3 then some fmM else if d=4 then some nsM else if d=5 then some weM else if d=6 then some peM else if d=7 then some rtM else none
noncomputable def qin(p:Pol)(d a:Int):Bool:=decide (0<=d)&&decide (d<8)&&(decide (0<=a)&&decide (a<6))&&qjt p&&inA p.arches a
noncomputable def qhb(p:Pol)(d a:Int):Option GFil :=
 if qin p d a=true then(qfp d).bind λF=>if(F p a).1=true then some ⟨a,je (F p a).2.1,(F p a).2.2⟩else none else none
def qnG:Option GFil->AV
 | some x=>.tup [.agg (zr x),.b true]
 | none=>.tup [.agg [.i .i64 0,.fz 0 [],.i .u32 0],.b false]
def qx7(F:Pol->Int->Bool×List GRule×Int):Prop:=∀p a,PolOk p->qjt p=true->0<=a->a<6->(F p a).2.1.length<=100000/\((F p a).2.1.map GRule.nr).Nodup
def qgb(a b c d e g h:Nat):IFn:=⟨[.cell 0 8 true],sq [.r [.q 0 (.alloc [.nilf,.nilf,.nilf,.nilf,.nilf,.nilf,.nilf,.nilf])],.r [.q 1 (.build [.nilf,.nilf,.nilf,.nilf,.nilf,.nilf,.nilf,.nilf] [(0,1,(.c (.nilf))),(1,1,(.c (.fn a [] []))),(2,1,(.c (.fn b [] []))),(3,1,(.c (.fn c [] []))),(4,1,(.c (.fn d [] []))),(5,1,(.c (.fn e [] []))),(6,1,(.c (.fn g [] []))),(7,1,(.c (.fn h [] [])))]),.u (.store 8 (.t 0) (.t 1))],.ret]⟩
def qBo{g1 g2 g3 g4 g5 g6 g7:Nat}(hc:qc P f (qgb g1 g2 g3 g4 g5 g6 g7)=true):qa P f [] (.agg [.nilf,.fn g1 [] [],.fn g2 [] [],.fn g3 [] [],.fn g4 [] [],.fn g5 [] [],.fn g6 [] [],.fn g7 [] []]):=by
 refine qa.mk hc rfl ?_;simp only[qgb,vI,simprocAttr];simp only[↓vS,vT,simprocAttr];simp[vZ]
def qbL(a b c d e g:Nat):ICode:=sq [.r [.n 51 8,.q 52 (.nilChk (.t 51)),.f 53 13 52,.f 54 1 53,.d 55 54,.l 56 e [.t 55,(.c (.fn g [] []))]],.r [.n 57 8,.q 58 (.nilChk (.t 57)),.f 59 13 58,.v 60 3 59,.u (.store 3 (.t 6) (.t 60)),.m 7 .T],.ret]
def qbK(a b c d e g:Nat):ICode:=sq [sq [.r [.l 39 d [],.n 40 1,.q 41 (.idxA 8 1 false (.t 39) (.t 40)),.n 9 41],.r [.n 42 9,.q 43 (.eqN false .func (.t 42)),.n 44 43,.z 45 9 44,.z 46 8 44,⟨(some 47),.callV (.t 45) [.t 46],(some (44,false))⟩,.g 48 (.un .not (.t 47)) 44 false,.o 49 44 48],.cond (.t 49) (sq [.r [.q 50 (.build [.j 0,.nils,.w 0] []),.u (.store 3 (.t 6) (.t 50)),.m 7 .F],.ret]) (.skip)],.cut (qbL a b c d e g)]
def qbJ(a b c d e g:Nat):ICode:=sq [.r [.v 34 13 3,.n 35 2,.q 36 (.build [.j 0,.nils,.w 0] [(0,1,(.t 35)),(2,1,(.c (.w 2147418112)))]),.q 37 (.build [.nils,.y 0,.nils,.w 0,.y 0,.nils,.nils,.y 0,.x 0,.b false,.b false,.b false,.b false,.j 0,.nils,.w 0] [(0,13,(.t 34)),(13,3,(.t 36))]),.q 38 (.box (.t 37)),.n 8 38],.cut (qbK a b c d e g)]
def qgP(a b c d e g:Nat):IFn:=⟨[.cell 6 3 true,.tmp 7],sq [.r [.q 3 (.box (.t 0)),.q 6 (.alloc [.j 0,.nils,.w 0]),.m 7 .F],sq [.r [.n 10 1,.w 11 .lss 10 0,.n 12 11,.z 13 1 12,.g 14 (.bin .geq (.t 13) (.k 8)) 12 false,.o 15 12 14,.n 16 15,.z 17 2 16,⟨(some 18),.callF a [.t 17],(some (16,false))⟩,.g 19 (.bin .eql (.t 18) (.c (.s []))) 16 false,.o 20 16 19,.n 21 20,.g 22 (.loadN 13 (.t 3)) 21 false,⟨(some 23),.callF b [.t 22],(some (21,false))⟩,.g 24 (.un .not (.t 23)) 21 false,.o 25 21 24,.n 26 25,.h 27 0 3 26 false,.j 28 27 26 false,.z 29 2 26,⟨(some 30),.callF c [.t 28,.t 29],(some (26,false))⟩,.g 31 (.un .not (.t 30)) 26 false,.o 32 26 31],.cond (.t 32) (sq [.r [.q 33 (.build [.j 0,.nils,.w 0] []),.u (.store 3 (.t 6) (.t 33)),.m 7 .F],.ret]) (.skip)],.cut (qbJ a b c d e g)]⟩
def qwq{g1 g2 g3 g4 g5 g6:Nat}(h5:qlp P g5 g6)(p:Pol)(a d:Int)(rs:List GRule)(hr:rs.length<=100000)(hn:(rs.map GRule.nr).Nodup){t':Tr AV}{h':Hp}(hw:Wk 0 t' h' (mkT [(6,.ptr 0 0),(7,.b false),(8,.ptr 1 0)]) (mkH 0 [.v [.j 0,.nils,.w 0],mkB p a d 2 rs.length,.cells 3 true true (rR rs)])) :
  S P 0 (qbL g1 g2 g3 g4 g5 g6) (xk [.cell 6 3 true,.tmp 7] λv' h'=>Frz h' v' (qnG (some ⟨a,je rs,d⟩))) t' h':=by
 refine S.weak hw (qk ?_);simp only[qbL,mkB,mkC,qB,zzC,zzN,vI,simprocAttr];simp only[↓vS,vT,simprocAttr];refine(h5 rs hr hn).sc (vs:=[.own 0 rs.length,.fn g6 [] []]) [2] (Lent.of (by decide) ?_) ?_
 .simp[vL,vw,qv qq,qg qq]
 simp only[vK,simprocAttr,qg qq];simp only[↓vS,vT,simprocAttr];have hsl:(je rs).length=rs.length:=List.length_mergeSort _;simp only[qnG,zr,hsl];refine .tup _ _ (.cons _ _ _ _ (.agg _ _ (.cons _ _ _ _ (.i _ _) (.cons _ _ _ _ (.own 2 _ 3 true (rR (je rs)) _ ?_ (λh0=>?_) (Frzs.self qq)) (.cons _ _ _ _ (.i _ _) .nil)))) (.cons _ _ _ _ (.b _) .nil))
 .simp[Tr.get_set]
 .rw[List.eq_nil_of_length_eq_zero (hsl.trans h0)];rfl
def qwp{g1 g2 g3 g4 g5 g6 m1 m2 m3 m4 m5 m6 m7:Nat}(h4:qa P g4 [] (.agg [.nilf,.fn m1 [] [],.fn m2 [] [],.fn m3 [] [],.fn m4 [] [],.fn m5 [] [],.fn m6 [] [],.fn m7 [] []]))(h5:qlp P g5 g6)
  (hm1:zZ P m1 qlB) (hm2:zZ P m2 qlX) (hm3:zZ P m3 fmM) (hm4:zZ P m4 nsM) (hm5:zZ P m5 weM) (hm6:zZ P m6 peM) (hm7:zZ P m7 rtM)
  (hM:∀d F,qfp d=some F->qx7 F) (p:Pol) (hp:PolOk p) (hR:PolR p) (a d:Int) (ha:0<=a) (ha6:a<6) (hmay:qjt p=true) (hd0:0<=d) (hd8:d<8) {t':Tr AV} {h':Hp} (hw:Wk 0 t' h' (mkT [(1,.j d),(6,.ptr 0 0),(7,.b false),(8,.ptr 1 0)]) (mkH 0 [.v [.j 0,.nils,.w 0],mkB p a 2147418112 2 0,.cells 3 true true (rR [])])) :
  S P 0 (qbK g1 g2 g3 g4 g5 g6) (xk [.cell 6 3 true,.tmp 7] λv' h'=>Frz h' v' (qnG ((qfp d).bind λF=>if(F p a).1=true then some ⟨a,je (F p a).2.1,(F p a).2.2⟩else none))) t' h':=by
 refine S.weak hw (qk ?_);simp only[qbK,mkB,mkC,qB,zzC,zzN,vI,simprocAttr];simp only[↓vS,vT,simprocAttr];refine h4.sc ?_;obtain⟨j,rfl⟩:∃j:Nat,d=j:=⟨d.toNat,by omega⟩
 have hj:j<8:=by omega
 by_cases h0:j=0
 .subst h0;simp only[↓vS,vT,simprocAttr];refine .tup _ _ (.cons _ _ _ _ (.agg _ _ (.cons _ _ _ _ (.i _ _) (.cons _ _ _ _ .nilz (.cons _ _ _ _ (.i _ _) .nil)))) (.cons _ _ _ _ (.b _) .nil))
 .have hh:∃g F,([.nilf,.fn m1 [] [],.fn m2 [] [],.fn m3 [] [],.fn m4 [] [],.fn m5 [] [],.fn m6 [] [],.fn m7 [] []]:List AV)[j]?=some (.fn g [] [])/\qfp j=some F/\zZ P g F:=by
   have:j=1\/j=2\/j=3\/j=4\/j=5\/j=6\/j=7:=by omega
   rcases this with rfl|rfl|rfl|rfl|rfl|rfl|rfl
   .exact⟨_,_,rfl,rfl,hm1⟩
   .exact⟨_,_,rfl,rfl,hm2⟩
   .exact⟨_,_,rfl,rfl,hm3⟩
   .exact⟨_,_,rfl,rfl,hm4⟩
   .exact⟨_,_,rfl,rfl,hm5⟩
   .exact⟨_,_,rfl,rfl,hm6⟩
   .exact⟨_,_,rfl,rfl,hm7⟩
  obtain⟨g,F,he,hF,hg⟩:=hh;obtain⟨hl,hn⟩:=hM _ _ hF p a hp hmay ha ha6;obtain⟨ok,rs,df,hFp⟩:∃ok rs df,F p a=(ok,rs,df):=⟨_,_,_,rfl⟩;have hu:=hg p a hp hR;have e:((qfp j).bind λF=>if(F p a).1=true then some (⟨a,je (F p a).2.1,(F p a).2.2⟩:GFil)else none)=if ok=true then some ⟨a,je rs,df⟩else none:=by rw[hF];grind
  rw[e];rw[hFp]at hl hn hu;dsimp only at hl hn hu;generalize([.nilf,.fn m1 [] [],.fn m2 [] [],.fn m3 [] [],.fn m4 [] [],.fn m5 [] [],.fn m6 [] [],.fn m7 [] []]:List AV)=L at he;simp only[↓vS,vT,simprocAttr,hj,zzU,he];refine hu.sc (vs:=[.ptr 0 0]) [1,2] (Lent.of (by decide) ?_) ?_
  .simp[vL,vw,mkB,mkC,qB,qv qq,qg qq,qv qp,qg qp,qv qi,qg qi]
  simp only[vK,simprocAttr,mkB,mkC,qB,zzC,zzN,qg qq,qg qp,qg qi];cases ok with
  | false =>
   simp only[↓vS,vT,simprocAttr];refine .tup _ _ (.cons _ _ _ _ (.agg _ _ (.cons _ _ _ _ (.i _ _) (.cons _ _ _ _ .nilz (.cons _ _ _ _ (.i _ _) .nil)))) (.cons _ _ _ _ (.b _) .nil))
  | true =>
   simp only[↓vS,vT,simprocAttr];refine qwq h5 p a df rs hl hn (Wk.mk _ _ [0,1,3] ?_ ?_ ?_ rfl)
   .simp[vw]
   .simp[vw,mkB,mkC,qB,qe,qq,qp,qi]
   .simp
def qwo{g1 g2 g3 g4 g5 g6 m1 m2 m3 m4 m5 m6 m7:Nat}(h4:qa P g4 [] (.agg [.nilf,.fn m1 [] [],.fn m2 [] [],.fn m3 [] [],.fn m4 [] [],.fn m5 [] [],.fn m6 [] [],.fn m7 [] []]))(h5:qlp P g5 g6)
  (hm1:zZ P m1 qlB) (hm2:zZ P m2 qlX) (hm3:zZ P m3 fmM) (hm4:zZ P m4 nsM) (hm5:zZ P m5 weM) (hm6:zZ P m6 peM) (hm7:zZ P m7 rtM)
  (hM:∀d F,qfp d=some F->qx7 F) (p:Pol) (hp:PolOk p) (hR:PolR p) (a d:Int) (ha:0<=a) (ha6:a<6) (hmay:qjt p=true) (hd0:0<=d) (hd8:d<8) {t':Tr AV} {h':Hp} (hw:Wk 0 t' h' (mkT [(1,.j d),(2,.j a),(3,.ptr 0 0),(6,.ptr 1 0),(7,.b false)]) (mkH 0 [.v (qB p),.v [.j 0,.nils,.w 0]])) :
  S P 0 (qbJ g1 g2 g3 g4 g5 g6) (xk [.cell 6 3 true,.tmp 7] λv' h'=>Frz h' v' (qnG ((qfp d).bind λF=>if(F p a).1=true then some ⟨a,je (F p a).2.1,(F p a).2.2⟩else none))) t' h':=by
 refine S.weak hw (qk ?_);simp only[qbJ,qB,vI,simprocAttr];simp only[↓vS,vT,simprocAttr];refine qwp h4 h5 hm1 hm2 hm3 hm4 hm5 hm6 hm7 hM p hp hR a d ha ha6 hmay hd0 hd8 (Wk.mk _ _ [1,2,99] ?_ ?_ ?_ rfl)
 .simp[vw]
 .simp[vw,mkB,mkC,qB,qe,qq,qp,qi,rR]
 .simp
def qDr{g1 g2 g3 g4 g5 g6 m1 m2 m3 m4 m5 m6 m7:Nat}(hc:qc P f (qgP g1 g2 g3 g4 g5 g6)=true)(h1:∀a,qa P g1 [.j a] (.s (qhR a)))(h2:∀p,PolOk p->qa P g2 [.agg (qB p)] (.b (qjt p)))(h3:∀(xs:List Int) (x:Int),xs.length<=qf->qa P g3 [.fz xs.length (rI .i64 xs),.j x] (.b (inA xs x)))
  (h4:qa P g4 [] (.agg [.nilf,.fn m1 [] [],.fn m2 [] [],.fn m3 [] [],.fn m4 [] [],.fn m5 [] [],.fn m6 [] [],.fn m7 [] []])) (h5:qlp P g5 g6)
  (hm1:zZ P m1 qlB) (hm2:zZ P m2 qlX) (hm3:zZ P m3 fmM) (hm4:zZ P m4 nsM) (hm5:zZ P m5 weM) (hm6:zZ P m6 peM) (hm7:zZ P m7 rtM)
  (hM:∀d F,qfp d=some F->qx7 F) (p:Pol) (hp:PolOk p) (hR:PolR p) (d a:Int):qa P f [.agg (qB p),.j d,.j a] (qnG (qhb p d a)):=by
 have hl:=hp.a;refine qa.mk hc rfl ?_
 have no:qin p d a=false->∀{h:Hp},Frz h (.tup [.agg [.j 0,.nils,.w 0],.b false]) (qnG (qhb p d a)):=by
  intro h0 h;rw[qhb,h0];exact .tup _ _ (.cons _ _ _ _ (.agg _ _ (.cons _ _ _ _ (.i _ _) (.cons _ _ _ _ .nilz (.cons _ _ _ _ (.i _ _) .nil)))) (.cons _ _ _ _ (.b _) .nil))
 simp only[qgP,qB,vI,simprocAttr]
 by_cases k1:d<0
 .simp only[↓vS,vT,simprocAttr,k1];exact no (by simp only[qin,decide_eq_false (by omega:¬0<=d)];simp)
 by_cases k2:8<=d
 .simp only[↓vS,vT,simprocAttr,k1,k2];exact no (by simp only[qin,decide_eq_false (by omega:¬d<8)];simp)
 simp only[↓vS,vT,simprocAttr,k1,k2];refine(h1 a).sc ?_;have hN:=qoK a
 by_cases k3:qhR a=[]
 .have k3':(decide (0<=a)&&decide (a<6))=false:=by
   rw[Bool.eq_false_iff];simp_all
  simp only[↓vS,vT,simprocAttr,k3];exact no (by simp only[qin,k3'];simp)
 have ⟨a0,a6⟩:=hN.1 k3;simp only[↓vS,vT,simprocAttr,k3];refine(h2 p hp).sc ?_;cases k4:qjt p with
 | false =>
  simp only[↓vS,vT,simprocAttr];exact no (by simp[qin,k4])
 | true =>
  simp only[↓vS,vT,simprocAttr];refine(h3 p.arches a (by simp only[qf];omega)).sc ?_;cases k5:inA p.arches a with
  | false =>
   simp only[↓vS,vT,simprocAttr];exact no (by simp[qin,k5])
  | true =>
   have hok:qin p d a=true:=by simp[qin,k4,k5,a0,a6];omega
   have e:qhb p d a=(qfp d).bind λF=>if(F p a).1=true then some ⟨a,je (F p a).2.1,(F p a).2.2⟩else none:=by rw[qhb,if_pos hok]
   rw[e];simp only[↓vS,vT,simprocAttr];refine qwo h4 h5 hm1 hm2 hm3 hm4 hm5 hm6 hm7 hM p hp hR a d a0 a6 k4 (by omega) (by omega) (Wk.mk _ _ [0,1] ?_ ?_ ?_ rfl)
   .simp[vw]
   .simp[vw,qB,qe,qp,qi]
   .simp
section
variable {l m:List GFil} {j:Nat}
end
def qyC(P:Program)(f:Nat):Prop:=∀p,PolOk p->PolR p->∀d a:Int,qa P f [.agg (qB p),.j d,.j a] (qnG (qhb p d a))
def qkp:IFn:=⟨[.tmp 0],sq [.r [.m 0 .N],.r [.m 1 .N],sq [.r [.m 3 (.k 0)],.blk 0 (.loop (sq [.r [.w 4 .lss 3 6],.cond (.t 4) (.skip) (.exit 0),.blk 1 (sq [.r [.n 5 3,.n 2 5],.r [.n 6 1,.n 7 2,.q 8 (.buildS 1 [.j 0] [(0,1,(.t 7))]),.q 9 (.app 1 8 true (.t 6) (.t 8)),.n 1 9]]),.r [.a 10 3 1,.n 3 10]]))],.r [.n 11 1,.n 0 11],.ret]⟩
def qIc(hc:qc P f qkp=true):qa P f [] (.fz 6 (rI .i64 [0,1,2,3,4,5])):=by
 refine qa.mk hc rfl ?_;simp only[qkp,vI,simprocAttr];simp only[↓vS,vT,simprocAttr];refine SL.loop (α:=Nat) (λj=>[(1,.own 0 j),(3,.j j)]) (λj=>[.cells 1 true true (rI .i64 ([0,1,2,3,4,5].take j))]) (λj=>j<=6) (λj=>6-j) 0 [9] ?_ ?_ ?_ rfl ?_ ?_
 .simp[vw]
 .simp[vw,rI]
 .simp
 .omega
 rintro j hj G ih;simp only[vI,simprocAttr]
 by_cases hlt:j<6
 .have hlt':(j:Int)<6:=by omega
  have hw:IntKind.wrap .i64 ((j:Int)+1)=((j+1:Nat):Int):=by rw[qm (by omega) (by omega)];omega
  have hln:(rI .i64 (([0,1,2,3,4,5]:List Int).take j)).length=j:=by rw[jS];simp_all
  have htk:(rI .i64 (([0,1,2,3,4,5]:List Int).take j)).take j=rI .i64 (([0,1,2,3,4,5]:List Int).take j):=by grind
  have hap:rI .i64 (([0,1,2,3,4,5]:List Int).take j)++[AV.j (j:Int)]=rI .i64 (([0,1,2,3,4,5]:List Int).take (j+1)):=by
   have:j=0\/j=1\/j=2\/j=3\/j=4\/j=5:=by omega
   rcases this with rfl|rfl|rfl|rfl|rfl|rfl<;>rfl
  have hr1:j+1<=qf:=by simp only[qf];omega
  have hr2:(j+1)*8<=qf:=by simp only[qf];omega
  generalize hL:(([0,1,2,3,4,5]:List Int).take j)=L at *;simp +decide only[↓vS,vT,simprocAttr,hlt',zzU,hw,hr1,hr2,hln,htk,hap];refine ih (j+1) hlt (by omega) _ _ (Wk.mk _ _ [2] ?_ ?_ ?_ rfl)
  .simp[vw]
  .simp[vw,qe,qi]
  .simp
 .have hj':j=6:=by omega
  subst hj';have hlt':¬(((6:Nat):Int)<6):=by decide
  simp only[↓vS,vT,simprocAttr,hlt'];refine .own 0 6 1 true (rI .i64 [0,1,2,3,4,5]) _ ?_ (by omega) (Frzs.self qi);simp[Tr.get_set]


def qCP(l:List GCall)(s:List UInt8):Int:=match qrs l s with|some c=>c.act|none=>0
def qBV(p:Pol)(s:List UInt8):Int:=if qCP p.filter.calls s=0 then(if p.filter.mode=1 then 2147418112 else p.deny)else qCP p.filter.calls s
def qq9(s:List UInt8):Int:=if s=qbU then 6 else if s=xa\/s=qU then 4 else if s=qao then 32768 else 0
def qAn(p:Pol)(d:Int)(s:List UInt8):Bool×List GTest×Int :=
 if d=1 then((qrs p.filter.calls s).isSome,[],qBV p s)
 else if d=2 then((qrs p.log.calls s).isSome,[],if p.log.mode=1 then 2147221504 else 2147418112)
 else if d=3 then(decide (s=xO),zt 0 4294967295 (if p.fmode=2 then 327777 else 2147418112) p.fams,if p.fmode=2 then 2147418112 else 327777)
 else if d=4 then(if s=xN then(true,[],327718)else(decide (s=ji)||decide (s=xn)||decide (s=jT),zU (if s=ji then 1 else 0) 327681 (qaU p.spaces)++(if s=ji then [⟨1,4294967295,0,327681⟩]else []),2147418112))
 else if d=5 then(decide (0<qq9 s),[⟨2,qq9 s,qq9 s,327681⟩],2147418112)
 else if d=6 then(decide (s=zG),zt 0 4294967295 2147418112 [0,4294967295],327681)
 else(decide (s=qdq),zt 1 4294967295 2147418112 [0,3,5],327681)
section
variable {g1 g2:Nat}
end
section
variable {g1 g2:Nat}
end
def qtf(c:GCall):List GCall->List GCall
 | []=>[c]
 | x::l=>if c.act<=x.act then c::x::l else x::qtf c l
def qsy(a:Int):List GCall:=(zf.filterMap λx=>(qfP x a).map λn=>(⟨x.1,n⟩:GCall)).foldr qtf []
section
variable {g1 g2 g3 g4 g5:Nat}
end

end Go.Kc
end
section
namespace Go.Kc
def qnr{α:Type}(k:α->Int):∀{l m:List α},l.Pairwise (λx y=>k x<k y)->m.Pairwise (λx y=>k x<k y)->(∀x,x ∈ l↔x ∈ m)->l=m
 | [],[],_,_,_=>rfl
 | [],y::m,_,_,h=>by have:=(h y).2 (by simp);simp_all
 | x::l,[],_,_,h=>by have:=(h x).1 (by simp);simp_all
 | x::l,y::m,hl,hm,h=>by
  obtain⟨h1,h2⟩:=List.pairwise_cons.1 hl;obtain⟨h3,h4⟩:=List.pairwise_cons.1 hm
  have e:x=y:=by
   rcases List.mem_cons.1 ((h x).1 (by simp))with e|e
   .exact e
   .rcases List.mem_cons.1 ((h y).2 (by simp))with e'|e'
    .exact e'.symm
    .have:=h3 x e;have:=h1 y e';omega
  subst e
  congr 1
  refine qnr k h2 h4 λz=>?_
  grind
def qoo{rs:List GRule}(hn:(rs.map GRule.nr).Nodup):(je rs).Pairwise (λx y=>x.nr<y.nr):=by
 have h1:(je rs).Pairwise (λx y=>decide (x.nr<=y.nr)=true):=List.pairwise_mergeSort (by grind) (by grind) rs
 have h2:((je rs).map GRule.nr).Nodup:=((List.mergeSort_perm rs _).map GRule.nr).nodup_iff.2 hn;have h3:(je rs).Pairwise (λx y=>x.nr≠y.nr):=(by grind)
 refine(h1.and h3).imp ?_
 grind
def qt4{rs:List GRule}{r:GRule}:r ∈ je rs↔r ∈ rs:=(List.mergeSort_perm rs _).mem_iff
theorem qpr{c x:GCall}:∀{l:List GCall},x ∈ qtf c l↔x=c\/x ∈ l
 | []=>by simp[qtf]
 | y::l=>by
  unfold qtf;split
  .simp
  .rw[List.mem_cons,qpr,List.mem_cons]
   grind
def qsz{a:Int}{c:GCall}:c ∈ qsy a↔∃x ∈ zf,qfP x a=some c.act/\x.1=c.name:=by
 unfold qsy
 have h1:∀l:List GCall,c ∈ l.foldr qtf []↔c ∈ l:=by
  intro l;induction l<;>grind[qpr]
 rw[h1,List.mem_filterMap];constructor
 .rintro⟨x,hx,h⟩;cases hn:qfP x a<;>grind
 .rintro⟨x,hx,h,h2⟩;refine⟨x,hx,?_⟩;rw[h]
  simp_all
def qt8:(zf.map (·.1)).Nodup:=by decide +kernel
def qmU{α:Type}(k:α->List UInt8){l:List α}(hn:(l.map k).Nodup){x:α}(hx:x ∈ l):l.find? (λy=>decide (k y=k x))=some x:=by
 induction l<;>grind
def qoB{a:Int}{c:GCall}:c ∈ qsy a↔qgm a c.name=some c.act:=by
 rw[qsz];unfold qgm;constructor
 .rintro⟨x,hx,h,h2⟩;rw[<- h2,qmU (·.1) qt8 hx];exact h
 .intro h;cases hf:zf.find? (λx=>decide (x.1=c.name))<;>grind
def qoC{a:Int}(h0:0<=a)(h6:a<6):(qsy a).Pairwise (λx y=>x.act<y.act):=by
 have:a=0\/a=1\/a=2\/a=3\/a=4\/a=5:=by omega
 rcases this with rfl|rfl|rfl|rfl|rfl|rfl<;>decide +kernel
theorem qzM{a:Int}(h0:0<=a)(h6:a<6){s t:List UInt8}{n:Int}(h1:qgm a s=some n)(h2:qgm a t=some n):s=t:=by
 have hs:(⟨s,n⟩:GCall) ∈ qsy a:=qoB.2 h1;have ht:(⟨t,n⟩:GCall) ∈ qsy a:=qoB.2 h2;have hp:=qoC h0 h6
 by_cases e:s=t
 .exact e
 .exfalso
  have:∀{l:List GCall},l.Pairwise (λx y=>x.act<y.act)->(⟨s,n⟩:GCall) ∈ l->(⟨t,n⟩:GCall) ∈ l->False:=by
   intro l;induction l with
   | nil=>intro _ h;simp at h
   | cons x l ih =>
    intro hl h1 h2;obtain⟨k1,k2⟩:=List.pairwise_cons.1 hl;rcases List.mem_cons.1 h1 with e1|e1<;>rcases List.mem_cons.1 h2 with e2|e2
    .rw[<- e2]at e1;simp at e1;exact e e1
    .subst e1;have:=k1 _ e2;simp at this
    .subst e2;have:=k1 _ e1;simp at this
    .exact ih k2 e1 e2
  simp_all
def qcT(a:Int)(g:List UInt8->List GTest×Int)(ns:List (List UInt8)):List GRule:=ns.filterMap λs=>(qgm a s).map λn=>⟨n,(g s).1,(g s).2⟩
def qvH{a:Int}{g:List UInt8->List GTest×Int}{ns:List (List UInt8)}{r:GRule}:r ∈ qcT a g ns↔∃s ∈ ns,qgm a s=some r.nr/\r.tests=(g s).1/\r.act=(g s).2:=by
 unfold qcT;rw[List.mem_filterMap];constructor
 .rintro⟨s,hs,h⟩;cases hn:qgm a s<;>grind
 .rintro⟨s,hs,h,h2,h3⟩;refine⟨s,hs,?_⟩;rw[h];cases r;simp_all
def qqI{a:Int}(h0:0<=a)(h6:a<6){g:List UInt8->List GTest×Int}{ns:List (List UInt8)}(hn:ns.Nodup):((qcT a g ns).map GRule.nr).Nodup:=by
 induction ns with
 | nil=>exact List.nodup_nil
 | cons s ns ih =>
  obtain⟨h1,h2⟩:=List.nodup_cons.1 hn;unfold qcT;rw[List.filterMap_cons];cases hs:qgm a s with
  | none=>exact ih h2
  | some n =>
   simp only[Option.map_some,List.map_cons];refine List.nodup_cons.2 ⟨?_,ih h2⟩;intro hm;obtain⟨r,hr,e⟩:=List.mem_map.1 hm;obtain⟨t,ht,k1,_,_⟩:=qvH.1 hr;rw[e]at k1
   grind[qzM]
def qvG{a:Int}{g:List UInt8->List GTest×Int}{ns:List (List UInt8)}:(qcT a g ns).length<=ns.length:=List.length_filterMap_le _ _
def qgB{a:Int}{g:List UInt8->List GTest×Int}{ns ms:List (List UInt8)}:qcT a g (ns++ms)=qcT a g ns++qcT a g ms:=List.filterMap_append
def jI{a act:Int}{ts:List GTest}{g:List UInt8->List GTest×Int}:∀{ns:List (List UInt8)},(∀s ∈ ns,g s=(ts,act))->zh a act ts ns=qcT a g ns
 | [],_=>rfl
 | s::ns,h=>by
  have e:=jI (a:=a) (ns:=ns) λt ht=>h t (List.mem_cons_of_mem _ ht)
  unfold zh qcT at *;rw[List.filterMap_cons,List.filterMap_cons,e,h s (by simp)]
def qkd{l:GList}(h:qd8 l=true):(l.calls.map (·.name)).Nodup:=by
 have h2:=((qwt l).1 h).2.2;exact List.pairwise_map.2 (List.Pairwise.imp (λhab=>qDs hab) h2)
def qqP{p:Pol}(h:qjt p=true):qd8 p.filter=true/\qd8 p.log=true:=by
 unfold qjt qdl at h
 simp_all
def qs9{l:List GCall}(hn:(l.map (·.name)).Nodup){c:GCall}(hc:c ∈ l):qrs l c.name=some c:=qmU GCall.name hn hc
def qlE{a:Int}{g:List UInt8->List GTest×Int}{A:GCall->Int}:∀{l:List GCall},(∀c ∈ l,g c.name=([],A c))->(l.flatMap λc=>zh a (A c) [] [c.name])=qcT a g (l.map (·.name))
 | [],_=>rfl
 | c::l,h=>by
  have e:=qlE (a:=a) (A:=A) (l:=l) λx hx=>h x (List.mem_cons_of_mem _ hx)
  rw[List.flatMap_cons,e,jI (g:=g) (by simp_all),<- qgB];rfl
def qG4(p:Pol)(s:List UInt8):List GTest×Int:=([],qBV p s)
def qy6{p:Pol}{a:Int}(hm:qd8 p.filter=true):(qlB p a).2.1=qcT a (qG4 p) (p.filter.calls.map (·.name)):=by
 refine qlE λc hc=>?_
 have hf:=qs9 (qkd hm) hc;simp only[qG4,qBV,qCP,hf]
def qIO(p:Pol)(_:List UInt8):List GTest×Int:=([],if p.log.mode=2 then 2147418112 else 2147221504)
def qzA{p:Pol}{a:Int}:(qlX p a).2.1=qcT a (qIO p) (p.log.calls.map (·.name)):=qlE (A:=λ_=>if p.log.mode=2 then 2147418112 else 2147221504) λ_ _=>rfl
def qi8(p:Pol)(d:Int)(s:List UInt8):List GTest×Int:=(qAn p d s).2
def qy5{p:Pol}{a:Int}:(fmM p a).2.1=qcT a (qi8 p 3) [xO]:=jI λ_ _=>rfl
def nsL:List (List UInt8):=[xn,jT,ji,xN]
def qDP{p:Pol}{a:Int}:(nsM p a).2.1=qcT a (qi8 p 4) nsL:=by
 have h1:zh a 2147418112 (zU 0 327681 (qaU p.spaces)) [xn,jT]=qcT a (qi8 p 4) [xn,jT]:=jI λs hs=>by
  simp only[List.mem_cons,List.not_mem_nil,or_false]at hs;rcases hs with rfl|rfl<;>simp (decide:=true) [qi8,qAn,xn,jT,xN,ji]
 have h2:zh a 2147418112 (zU 1 327681 (qaU p.spaces)++zt 1 4294967295 327681 [0]) [ji]=qcT a (qi8 p 4) [ji]:=jI λs hs=>by
  simp only[List.mem_cons,List.not_mem_nil,or_false]at hs;subst hs;simp (decide:=true) [qi8,qAn,xN,ji,zt]
 have h3:zh a 327718 [] [xN]=qcT a (qi8 p 4) [xN]:=jI λs hs=>by
  simp only[List.mem_cons,List.not_mem_nil,or_false]at hs;subst hs;simp (decide:=true) [qi8,qAn]
 show _++_++_=_;rw[h1,h2,h3,<- qgB,<- qgB];rfl
def weL:List (List UInt8):=[qbU,xa,qU,qao]
def qFj{p:Pol}{a:Int}:(weM p a).2.1=qcT a (qi8 p 5) weL:=by
 have h1:zh a 2147418112 (zU 2 327681 [6]) [qbU]=qcT a (qi8 p 5) [qbU]:=jI λs hs=>by
  simp only[List.mem_cons,List.not_mem_nil,or_false]at hs;subst hs;rfl
 have h2:zh a 2147418112 (zU 2 327681 [4]) [xa,qU]=qcT a (qi8 p 5) [xa,qU]:=jI λs hs=>by
  simp only[List.mem_cons,List.not_mem_nil,or_false]at hs;rcases hs with rfl|rfl<;>rfl
 have h3:zh a 2147418112 (zU 2 327681 [32768]) [qao]=qcT a (qi8 p 5) [qao]:=jI λs hs=>by
  simp only[List.mem_cons,List.not_mem_nil,or_false]at hs;subst hs;rfl
 show _++_++_=_;rw[h1,h2,h3,<- qgB,<- qgB];rfl
def qEn{p:Pol}{a:Int}:(peM p a).2.1=qcT a (qi8 p 6) [zG]:=jI λ_ _=>rfl
def qEL{p:Pol}{a:Int}:(rtM p a).2.1=qcT a (qi8 p 7) [qdq]:=jI λ_ _=>rfl
def qzF:∀d F,qfp d=some F->qx7 F:=by
 intro d F h p a hp hmay h0 h6;obtain⟨hf,hl⟩:=qqP hmay
 have k:∀{g:List UInt8->List GTest×Int} {ns:List (List UInt8)} {rs:List GRule},rs=qcT a g ns->ns.Nodup->ns.length<=1000->rs.length<=100000/\(rs.map GRule.nr).Nodup:=by
  rintro g ns rs rfl hn hle;exact⟨by have:=qvG (a:=a) (g:=g) (ns:=ns);omega,qqI h0 h6 hn⟩
 unfold qfp at h;split at h
 .cases h;exact k (qy6 hf) (qkd hf) (by rw[List.length_map];exact hp.c)
 split at h
 .cases h;exact k qzA (qkd hl) (by rw[List.length_map];exact hp.l)
 split at h
 .cases h;exact k qy5 (by decide) (by decide)
 split at h
 .cases h;exact k qDP (by decide) (by decide)
 split at h
 .cases h;exact k qFj (by decide) (by decide)
 split at h
 .cases h;exact k qEn (by decide) (by decide)
 split at h
 .cases h;exact k qEL (by decide) (by decide)
 grind
end Go.Kc
end
section
namespace Go.Kc
variable {P:Program} {f:Nat}
end Go.Kc
end
section
namespace Go.Kc
open Go.Sort Go.Proofs Go.Shelf Go.RowKit
variable {P:Program} {f g:Nat}
def qx8(P:Program)(f g:Nat):Prop :=
 (∀(a:Option Addr) (cap:Nat) (w:World),Calls P f #[.slice a 0 cap,.func (.func g) #[] #[]] w λe w'=>e = .returned (.tuple #[])/\w'=w) /\
 ∀(n:Nat) (i0:Inhabited (Fin n)) (nr:Fin n->Int) (cs:Fin n->List Value),(∀i j,nr i=nr j->i=j)->(∀i,∃t u,cs i=[.int .u32 (nr i),t,u]/\t.oneCell'=true/\u.oneCell'=true)->
  ∀(blk off cap:Nat) (w:World),HoldsK cs 3 w blk off (List.finRange n).toArray->blk<w.heap.size->n<4611686018427387904->
   Calls P f #[.slice (some ⟨blk,off,none⟩) n cap,.func (.func g) #[] #[]] w λe w'=>e = .returned (.tuple #[])/\∃q os,w'=sortWorldK cs 3 w blk off q ((List.finRange n).mergeSort λx y=>decide (nr x<=nr y)).toArray os
def qxA(rs:List GRule)(hn:(rs.map GRule.nr).Nodup):je rs=((List.finRange rs.length).mergeSort λx y=>decide ((rs[x]).nr<=(rs[y]).nr)).map λi=>rs[i]:=by
 have e:(List.finRange rs.length).map (λi=>rs[i])=rs:=by
  apply List.ext_getElem
  .simp
  .intro i h1 h2;simp
 have p1:(((List.finRange rs.length).mergeSort λx y=>decide ((rs[x]).nr<=(rs[y]).nr)).map λi=>rs[i]).Perm rs:=by
  have:=(List.mergeSort_perm (List.finRange rs.length) λx y=>decide ((rs[x]).nr<=(rs[y]).nr)).map (λi=>rs[i])
  rw[e]at this;exact this
 refine qnr GRule.nr (qoo hn) ?_ λr=>by rw[qt4];exact p1.mem_iff.symm
 have h1:((List.finRange rs.length).mergeSort λx y=>decide ((rs[x]).nr<=(rs[y]).nr)).Pairwise (λx y=>decide ((rs[x]).nr<=(rs[y]).nr)=true):=List.pairwise_mergeSort (by grind) (by grind) _
 have h2:((((List.finRange rs.length).mergeSort λx y=>decide ((rs[x]).nr<=(rs[y]).nr)).map λi=>rs[i]).map GRule.nr).Nodup:=(p1.map GRule.nr).nodup_iff.2 hn
 have h3:=List.pairwise_map.1 (List.pairwise_map.1 h2);refine List.pairwise_map.2 ((h1.and h3).imp ?_)
 grind
def Wk.same{n:Nat}{t:Tr AV}{h:Hp}(hn:n<=h.sz):Wk n t h t h:=λZ B w tm ht r=>by grind[Kep.refl]
def qHV(hcod:qmP P f)(hK:qx8 P f g):qlp P f g:=by
 intro rs hl hn;refine⟨by simp[jl,bnd,qq],by simp,trivial,?_⟩
 intro Z B w args r ha;have hsl:(je rs).length=rs.length:=List.length_mergeSort _;generalize hA:args.toList=L at ha;cases ha with
 | cons _ _ _ _ a1 a2 =>
  rename_i v1 vs1;cases a2 with
  | cons _ _ _ _ b1 b2 =>
   rename_i v2 vs2;cases b2;have hargs:args = #[v1,v2]:=by grind
   obtain⟨a',c',h7,h8,rfl⟩:=b1.un_fn
   have ea:a' = #[]:=by
    apply Array.ext';generalize a'.toList=X at h7;cases h7;rfl
   have ec:c' = #[]:=by
    apply Array.ext';generalize c'.toList=X at h8;cases h8;rfl
   subst ea ec hargs
   have zero:∀(a:Option Addr) (cap:Nat),rs=[]->v1 = .slice a 0 cap->qnD P σ0 f #[v1,.func (.func g) #[] #[]] Z B (mkH 0 [.cells 3 true true (rR rs)]) w (qx9 [Blk.cells 3 true true (rR rs)].length (.tup []) [.cells 3 true true (rR (je rs))]):=by
    rintro a cap rfl rfl;refine .inl ⟨hcod,(hK.1 a cap w).mono ?_⟩;rintro e w' ⟨rfl,rfl⟩;have e0:je []=[]:=by simp_all
    rw[e0];refine⟨.tup [],.tuple #[],mkH 0 [.cells 3 true true (rR [])],Z,rfl,?_,.tup [] #[] .nil,r,Kept.refl _ _ _ _⟩;exact λ_=>Wk.same (zzL _)
   generalize hrl:rs.length=n at a1;cases a1 with
   | own0 _ ad hb=>simp_all
   | own _ _ cap L0 h0 h1 h2 =>
    by_cases hz:rs=[]
    .simp_all
    have hn0:0<rs.length:=by grind
    obtain⟨q1,c,ty,fz,q2,q3,q4,q5,q6⟩:=r.cells 0 L0 3 true true (rR rs) h0 (by rw[jh];rfl);have hRl:(rR rs).length=rs.length*3:=qhg;subst hrl
    let i0:Inhabited (Fin rs.length):=⟨⟨0,hn0⟩⟩
    let cs:Fin rs.length->List Value:=λi=>[c[L0.off+(i.val*3+0)]!,c[L0.off+(i.val*3+1)]!,c[L0.off+(i.val*3+2)]!]
    have hcell:∀(i:Fin rs.length) (k:Nat),k<3->∃a,(zw rs[i])[k]?=some a/\VR σ0 Z a (c[L0.off+(i.val*3+k)]!):=by
     intro i k hk;have hx:rs[i.val]?=some rs[i]:=by simp_all
     have hg:=qqU hx hk
     have ⟨a,ha⟩:∃a,(zw rs[i])[k]?=some a:=by
      have:k<(zw rs[i]).length:=hk;exact by simp_all
     grind
    have hcs:∀i,∃t u,cs i=[.int .u32 (rs[i]).nr,t,u]/\t.oneCell'=true/\u.oneCell'=true:=by
     intro i;obtain⟨x0,e0,k0⟩:=hcell i 0 (by decide);obtain⟨x1,e1,k1⟩:=hcell i 1 (by decide);obtain⟨x2,e2,k2⟩:=hcell i 2 (by decide);simp[zw]at e0 e1 e2;subst e0 e1 e2;have hσ:qae σ0:=λ_=>rfl
     refine⟨c[L0.off+(i.val*3+1)]!,c[L0.off+(i.val*3+2)]!,?_,qjW hσ k1 rfl,qjW hσ k2 rfl⟩;have:c[L0.off+(i.val*3+0)]! = .int .u32 (rs[i]).nr:=k0.un_i
     grind
    have hlen:∀i,(cs i).length=3:=λ_=>rfl
    have hfl:∀(d:Array (Fin rs.length)) (t:Nat),t<d.size*3->(flatK cs 3 d)[t]! = c[L0.off+((d[t / 3]!).val*3+t % 3)]!:=by
     intro d t ht;rw[get_flatK cs 3 d t ht];have:t % 3=0\/t % 3=1\/t % 3=2:=by omega
     rcases this with e|e|e<;>rw[e]<;>rfl
    have hsz:(List.finRange rs.length).toArray.size=rs.length:=by simp
    have hH:HoldsK cs 3 w L0.blk L0.off (List.finRange rs.length).toArray:=by
     intro j hj;have hj':j<rs.length*3:=by simpa[hsz]using hj
     have hcj:L0.off+j<c.size:=by omega
     constructor
     .show (match w.heap[L0.blk]? with|some (.cells c _ _)=>if(none:Option _).isSome then none else c[L0.off+j]? | _=>none)=_
      rw[q2];have e1:c[L0.off+j]?=some c[L0.off+j]!:=by rw[getElem!_pos c _ hcj];exact by grind
      show c[L0.off+j]?=_;rw[e1];have e2:=hfl (List.finRange rs.length).toArray j (by rw[hsz];exact hj')
      have e3:((List.finRange rs.length).toArray[j / 3]!).val=j / 3:=by
       rw[getElem!_pos _ _ (by rw[hsz];omega)];simp
      rw[e3,show j / 3*3+j % 3=j by omega]at e2
      grind
     .show (match w.heap[L0.blk]? with|some (.cells _ _ (lo,hi))=>decide (lo<=L0.off+j)&&decide (L0.off+j<hi)|_=>false)=false
      rw[q2];have:=q6 rfl (L0.off+j) (.inl (by omega))
      grind
    have hblk:L0.blk<w.heap.size:=by grind
    refine .inl ⟨hcod,(hK.2 rs.length i0 (λi=>(rs[i]).nr) cs ?_ hcs L0.blk L0.off cap w hH hblk (by omega)).mono ?_⟩
    .intro i j hij;have hx:(rs.map GRule.nr)[i.val]'(by simp)=(rs.map GRule.nr)[j.val]'(by simp):=by simpa using hij
     grind[List.getElem_inj]
    rintro e w' ⟨rfl,q,os,hw'⟩;have hsm:=qxA rs hn;generalize hD:(List.finRange rs.length).mergeSort (λx y=>decide ((rs[x]).nr<=(rs[y]).nr))=D at hw' hsm
    have hDl:D.length=rs.length:=by rw[<- hD,List.length_mergeSort];simp
    have hFs:(flatK cs 3 D.toArray).size=rs.length*3:=by rw[size_flatK];grind
    have hv:VRs σ0 Z (rR (je rs)) (flatK cs 3 D.toArray).toList:=by
     have el1:=qhg (l:=je rs);have el2:(flatK cs 3 D.toArray).toList.length=rs.length*3:=by rw[Array.length_toList];omega
     refine VRs.of_get (by omega) λt a ht=>?_
     have htl:t<rs.length*3:=by
      have:=(zzS.1 ht).1;omega
     have hj:t / 3<D.length:=by omega
     have hDa:D.toArray[t / 3]! = D[t / 3]:=by rw[getElem!_pos _ _ (by omega)];rfl
     refine⟨(flatK cs 3 D.toArray)[t]!,?_,?_⟩
     .rw[getElem!_pos (flatK cs 3 D.toArray) t (by rw[hFs];exact htl)];grind
     .rw[hfl D.toArray t (by simp[hDl];exact htl),hDa];obtain⟨a',k1,k2⟩:=hcell D[t / 3] (t % 3) (by omega);have hx:(je rs)[t / 3]?=some rs[D[t / 3]]:=by rw[hsm,List.getElem?_map,zzE hj];rfl
      have hg:=qqU hx (i:=t % 3) (by omega);rw[show t / 3*3+t % 3=t by omega,ht]at hg
      rw[k1]at hg
      grind
    have hspl:Spl c (L0.off+0) (flatK cs 3 D.toArray).toList (putCells id L0.off (flatK cs 3 D.toArray) c):=by
     refine⟨by simp[putCells],λj hj=>?_,λj v hj=>?_⟩
     .rw[Array.length_toList]at hj;unfold putCells;rw[Array.getElem?_mapIdx];cases c[j]? with
      | none=>rfl
      | some x =>
       simp only[Option.map_some];rw[if_neg (by omega)]
     .have hjl:j<(flatK cs 3 D.toArray).size:=by
       have:=(zzS.1 hj).1;omega
      have hjc:L0.off+j<c.size:=by omega
      unfold putCells;rw[Nat.add_zero,Array.getElem?_mapIdx,Array.getElem?_eq_getElem hjc];simp only[Option.map_some];rw[if_pos (by omega),Nat.add_sub_cancel_left,getElem!_pos (flatK cs 3 D.toArray) j hjl];rw[Array.getElem?_toList,Array.getElem?_eq_getElem hjl]at hj;exact hj
    have hheap:(putRowK cs 3 (Go.Sort.ahead w q) L0.blk L0.off D.toArray).heap=w.heap.setIfInBounds L0.blk (.cells (putCells id L0.off (flatK cs 3 D.toArray) c) ty fz):=by
     show w.heap.modify L0.blk (onCells _)=_;apply Array.ext_getElem?;intro k;rw[Array.getElem?_modify,Array.getElem?_setIfInBounds]
     by_cases hk:L0.blk=k
     .subst hk;rw[if_pos rfl,if_pos rfl,if_pos hblk,q2];rfl
     grind
    have el3:=qhg (l:=je rs);obtain⟨r2,k2⟩:=r.store (w':=putRowK cs 3 (Go.Sort.ahead w q) L0.blk L0.off D.toArray) h0 (by rw[jh];rfl) (zzL _) 0 (rR (je rs)) _ hv (by omega) q2 hspl hheap ⟨rfl,rfl⟩
    have hY:(rR rs).take 0++(rR (je rs)++(rR rs).drop (0+(rR (je rs)).length))=rR (je rs):=by
     rw[List.drop_of_length_le (by omega)];simp
    rw[hY]at r2 k2;have hh:(mkH 0 [.cells 3 true true (rR rs)]).put 0 (.cells 3 true true (rR (je rs)))=mkH 0 [.cells 3 true true (rR (je rs))]:=rfl;rw[hh]at r2 k2
    have hg:∀n,n<(putRowK cs 3 (Go.Sort.ahead w q) L0.blk L0.off D.toArray).heap.size->w'.heap[n]?=(putRowK cs 3 (Go.Sort.ahead w q) L0.blk L0.off D.toArray).heap[n]?:=by
     intro n hn;rw[hw'];exact Array.getElem?_append_left hn
    have hsz':(putRowK cs 3 (Go.Sort.ahead w q) L0.blk L0.off D.toArray).heap.size<=w'.heap.size:=by
     rw[hw']
     grind
    have r3:=r2.world hg hsz';refine⟨.tup [],.tuple #[],_,Z,rfl,λ_=>Wk.same (zzL _),.tup [] #[] .nil,r3,k2.trans ?_⟩
    have hio:w'.os=w.os/\w'.output=w.output:=by rw[hw'];exact⟨rfl,rfl⟩
    exact⟨λ_ _=>rfl,zzL _,rfl,λ_ _ _=>rfl,by grind[Rel.base],hsz',hio,λ_ _ h=>h,λ_ _ h=>.inl h,zzL _⟩
end Go.Kc
end
