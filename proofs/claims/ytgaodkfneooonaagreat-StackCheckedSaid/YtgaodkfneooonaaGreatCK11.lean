/- Walks, part 11. Conditions: with each theorem. -/
import Derived.Test.YtgaodkfneooonaaGreatCK10
set_option maxHeartbeats 4000000
set_option linter.defProp false
set_option linter.unusedSectionVars false
set_option linter.unusedSimpArgs false
set_option linter.unusedVariables false
set_option linter.unnecessarySimpa false
section
namespace Go.Kc
variable {P:Program} {f:Nat}
structure LI (kb n:Nat) (back:List Ins) (pl:List Nat) (s:Nat) (tr:Tr Blk) (bb bp:Nat) (far:Int):Prop where
 k:tr.get kb=some (.v [.own bb back.length,.sl bp 0 n n false,.j far])
 b:tr.get bb=some (.cells 4 true true (rP back))
 p:tr.get bp=some (.v (rNt pl))
 len:pl.length=n
 kb':kb≠bb
 kp:kb≠bp
 bp':bb≠bp
 ks:kb<s
 bs:bb<s
 ps:bp<s
theorem LI.keep{kb n bb bp s s':Nat}{back:List Ins}{pl:List Nat}{tr tr':Tr Blk}{far:Int}(h:LI kb n back pl s tr bb bp far)(hs:s<=s')(e:∀c,c=kb\/c=bb\/c=bp->tr'.get c=tr.get c):LI kb n back pl s' tr' bb bp far :=
 ⟨by grind[LI.k],by grind[LI.b],by grind[LI.p],h.len,h.kb',h.kp,h.bp',Nat.lt_of_lt_of_le h.ks hs,Nat.lt_of_lt_of_le h.bs hs,Nat.lt_of_lt_of_le h.ps hs⟩
def xy:IFn:=⟨[.tmp 4],sq [.r [.m 4 (.k 0)],.reg true [.n 5 0,.q 6 (.nilChk (.t 5)),.f 7 0 6,.d 8 7,.e 9 8,.n 10 0,.q 11 (.nilChk (.t 10)),.f 12 1 11,.d 13 12,.n 14 1,.i 15 1 13 14,.d 16 15,.b 17 .sub 9 16,.n 4 17],.ret]⟩
def qnV(hc:qc P f xy=true){kb n s fl bb bp:Nat}{back:List Ins}{pl:List Nat}{tr:Tr Blk}{far:Int}{k:AV->Hp->Prop}(h:LI kb n back pl s tr bb bp far){j q:Nat}(hj:pl[j]?=some q)(hq:q<=back.length)(hb:back.length<=1000000)
  (hk:k (.j ((back.length-q:Nat):Int)) ⟨s,fl,tr⟩):SC P f [.ptr kb 0,.j (j:Int)] ⟨s,fl,tr⟩ k:=by
 refine SC.mk hc (qk ?_);have hjl:j<n:=by rw[<- h.len];grind
 have hg:(rNt pl)[j]?=some (.j (q:Int)):=by rw[qr6,hj];rfl
 have e:IntKind.wrap .i64 ((back.length:Int)-q)=((back.length-q:Nat):Int):=by rw[qm (by omega) (by omega)];omega
 simp only[xy,vI,simprocAttr];simp +decide only[↓vS,vT,simprocAttr];refine zg ?_;simp +decide only[↓vS,vT,simprocAttr,h.k,h.p,hjl,hg,zzU,e];exact hk
def xM(a:Nat):IFn:=⟨[.tmp 2],sq [.r [.q 1 (.box (.t 0)),.m 2 (.c (.nilf))],.r [.q 3 (.mkF a [] [.t 1]),.n 2 3],.ret]⟩
def qGz{g:Nat}(hc:qc P f (xM g)=true)(l:List Ins):qa P f [.fz l.length (rP l)] (.fn g [] [.pf [.fz l.length (rP l)] 0]):=by
 refine qa.mk hc (by simp[qt,clo,qr]) ?_;simp only[xM,vI,simprocAttr];simp +decide only[↓vS,vT,simprocAttr];simp[vZ,vP,Tr.get_set,qJ (qr l)]
def jQ(a:Nat):IFn:=⟨[],sq [.r [.q 2 (.box (.t 0))],.r [.n 6 1,.l 7 a [.t 6]],.blk 0 (.rangeF 0 (.t 7) [8,9] (.r [.q 5 (.alloc [.h 0,.y 0,.y 0,.w 0]),.u (.store 4 (.t 5) (.t 9))]) (.blk 1 (.reg true [.d 10 2,.d 11 2,.q 12 (.nilChk (.t 11)),.f 13 0 12,.d 14 13,.v 15 4 5,.q 16 (.buildS 1 [.h 0,.y 0,.y 0,.w 0] [(0,4,(.t 15))]),.q 17 (.appD 4 8 (.t 14) (.t 16) [2]),.q 18 (.nilChk (.t 10)),.f 19 0 18,.u (.store 1 (.t 19) (.t 17))])))]⟩
def puT(s gi:Nat)(l:List Ins):List (Nat×AV):=[(2,.ptr s 0),(7,.fn gi [] [.pf [.fz l.length (rP l)] 0])]
def puA:ICode:=.reg false [⟨some 5,.op (.alloc [.h 0,.y 0,.y 0,.w 0]),none⟩,⟨none,.op (.store 4 (.t 5) (.t 9)),none⟩]
def puB:ICode:=.blk 1 (.reg true [.d 10 2,.d 11 2,.q 12 (.nilChk (.t 11)),.f 13 0 12,.d 14 13,.v 15 4 5,.q 16 (.buildS 1 [.h 0,.y 0,.y 0,.w 0] [(0,4,(.t 15))]),.q 17 (.appD 4 8 (.t 14) (.t 16) [2]),.q 18 (.nilChk (.t 10)),.f 19 0 18,.u (.store 1 (.t 19) (.t 17))])
def qw1{kb n s0 s gi bb bp lb:Nat}{back l:List Ins}{pl:List Nat}{r0:Loop}{tr:Tr Blk}{far:Int}{k:AV->Hp->Prop}(hr0:r0.state = .ready)(hp0:r0.pending=none)(hlo:LoopOk P r0 [8,9] puA puB)
  (h:LI kb n back pl s tr bb bp far) (g0:tr.get s0=some (.v [.ptr kb 0])) (gl:tr.get lb=some (.map (zz r0 (puT s0 gi l)))) (hlb:lb<s) (hs0:s0<s) (hn:kb≠lb/\bb≠lb/\bp≠lb/\s0≠lb/\s0≠kb/\s0≠bb) (i:Int) (x:Ins) (hb:back.length<=1000000)
  (hk:∀s' tr' bb',s<=s'->(∀c,c<s->c≠kb->c≠bb->tr'.get c=tr.get c)->s<=bb'->LI kb n (back++[x]) pl s' tr' bb' bp far->k (.b true) ⟨s',0,tr'⟩):SY P lb [.j i,.agg (qC x)] ⟨s,0,tr⟩ k:=by
 obtain⟨e1,e2,e3,e4,e5,e6⟩:=hn;have hks:=h.ks;have hbs:=h.bs;have hps:=h.ps;have hkb:=h.kb';have hkp:=h.kp;have hbp:=h.bp';refine SY.mk (r:=r0) (ts:=puT s0 gi l) (ps:=[8,9]) gl hr0 hlo (Nat.zero_le _) hlb rfl ?_;rw[show mkT (puT s0 gi l)=(Tr.leaf.set 7 (.fn gi [] [.pf [.fz l.length (rP l)] 0])).set 2 (.ptr s0 0)from rfl]
 refine qk ?_;simp only[qjw,puA,qC,vI,simprocAttr];simp +decide only[↓vS,vT,simprocAttr];have n1:¬lb=s:=by omega
 have n2:¬s0=s:=by omega
 have n3:¬kb=s:=by omega
 have n4:¬bb=s:=by omega
 have n5:¬s=lb:=by omega
 have n6:¬s=s+1:=by omega
 have n7:¬s0=s+1:=by omega
 have n8:¬kb=s+1:=by omega
 have n9:¬bb=s+1:=by omega
 have n10:¬s+1=bb:=by omega
 have n11:¬kb=s+1+1:=by omega
 have n12:¬s0=bb:=e6;have n13:¬s=bb:=by omega
 have n14:¬s0=s+1+1:=by omega
 have r1:back.length+1<=qf:=by simp only[qf];omega
 have r2:(back.length+1)*8<=qf:=by simp only[qf];omega
 refine⟨puT s0 gi l,by simp_all[Tr.get_set],?_⟩
 refine qk ?_;simp only[qx,puB,vI,simprocAttr];simp +decide only[↓vS,vT,simprocAttr];refine zg ?_;simp +decide only[↓vS,vT,simprocAttr,g0,h.k,h.b,e1,e2,e4,n1,n2,n3,n4,n5,n6,n7,n8,n9,n10,n11,n12,n13,n14,hkb,r1,r2,qbS,hbs,e5,e6];refine⟨Go.Kc.bsy r0,puT s0 gi l,?_,?_⟩
 .grind[Tr.get_set]
 rw[qct,qd0 hr0 hp0];simp only[qx];simp +decide only[↓vS,vT,simprocAttr];refine hk _ _ (s+1+1) (by omega) (λc q1 q2 q3=>?_) (by omega) ⟨?_,?_,?_,h.len,by omega,hkp,by omega,by omega,by omega,by omega⟩
 .grind[Tr.get_set]
 .simp_all[Tr.get_set]
 .simp only[Tr.get_set];rw[if_neg (by omega),if_neg (by omega)];simp[rP,qC]
 .simp only[Tr.get_set];grind[LI.p]
def qrJ{gB gi kb n s bb bp bx:Nat}{back l:List Ins}{pl:List Nat}{tr:Tr Blk}{far:Int}{k:AV->Hp->Prop}(hc:qc P f (jQ gB)=true)(hB:∀l:List Ins,qa P gB [.fz l.length (rP l)] (.fn gi [] [.pf [.fz l.length (rP l)] 0]))(hi:qc P gi qP=true)
  (h:LI kb n back pl s tr bb bp far) (hx:tr.get bx=some (.v (rP l))) (hn:bx≠kb/\bx≠bb/\bx≠bp) (hxs:bx<s) (hl:l.length<=10) (hb:back.length<=900000)
  (hk:∀s' tr' bb',s<=s'->(∀c,c<s->c≠kb->c≠bb->c≠bx->tr'.get c=tr.get c)->(bb'=bb\/s<=bb')->LI kb n (back++l.reverse) pl s' tr' bb' bp far->k (.tup []) ⟨s',0,tr'⟩):SC P f [.ptr kb 0,.sl bx 0 l.length l.length false] ⟨s,0,tr⟩ k:=by
 obtain⟨x1,x2,x3⟩:=hn;have hks:=h.ks;have hbs:=h.bs;have hps:=h.ps;refine SC.mk hc (qk ?_);simp only[jQ,vI,simprocAttr];simp +decide only[↓vS,vT,simprocAttr];refine(hB l).give [(bx,.v (rP l))] ?_ (by simp[clo,qt,qr]) ?_ ?_
 .grind[Tr.get_set]
 .refine qa1.2 ⟨Frz.cut 4 rfl (zzL _) ?_,qfG.2 trivial⟩;simp[trP,Tr.get_set,vP,qbS];rw[List.take_of_length_le (by rw[qbS];omega)];grind[Frzs.self,qr]
 simp only[qW,zp,qx];simp +decide only[↓vS,vT,simprocAttr];refine S.rangeFL (ts:=puT s gi l) (Nat.zero_le _) (by intro p hp;simp only[puT,List.mem_cons,List.not_mem_nil,or_false]at hp;rcases hp with rfl|rfl<;>simp[Tr.get_set]) ⟨rfl,rfl⟩ ?_;refine qhT.2 ⟨.fn gi [] [.pf [.fz l.length (rP l)] 0],by simp[Tr.get_set],?_⟩
 refine⟨qbC hi,λr0 hr0 hp0 hlo=>⟨r0,.inl ⟨rfl,hlo.real⟩,?_⟩⟩
 have hlo:LoopOk P r0 [8,9] puA puB:=hlo
 have old:∀c,c<s->c≠bx->((((tr.set s (.v [.ptr kb 0])).set bx .dead).set (s+1) (.map (zz r0 (puT s gi l))))).get c=tr.get c:=λc h1 h2=>by
  grind[Tr.get_set]
 refine qaa (c:=qC) hi jC (by omega) (λi h=>i<=l.length/\∃s' tr' bb',h=⟨s',0,tr'⟩/\s+2<=s'/\(∀c,c<s->c≠kb->c≠bb->c≠bx->tr'.get c=tr.get c)/\(bb'=bb\/s+2<=bb')/\LI kb n (back++(l.drop i).reverse) pl s' tr' bb' bp far/\tr'.get s=some (.v [.ptr kb 0])/\tr'.get (s+1)=some (.map (zz r0 (puT s gi l)))) ?_ ?_ ?_
 .rintro i x hh hx ⟨hil,s',tr',bb',rfl,q1,q2,q3,q4,q5,q6⟩ k hk;have hd:l.drop i=x::l.drop (i+1):=by rw[<- (zzS.1 hx).2,List.getElem_cons_drop]
  refine qw1 (s0:=s) (lb:=s+1) hr0 hp0 hlo q4 q5 q6 (by omega) (by omega) ⟨by omega,by omega,by omega,by omega,by omega,by omega⟩ _ x (by simp;omega) λs2 t2 b2 p1 p2 p3 p4=>hk _ ⟨by omega,s2,t2,b2,rfl,by omega,λc c1 c2 c3 c4=>?_,by omega,?_,?_,?_⟩
  .rw[p2 c (by omega) c2 (by omega)];exact q2 c c1 c2 c3 c4
  .rw[hd,List.reverse_cons,<- List.append_assoc];exact p4
  all_goals grind
 .refine⟨zzL _,s+1+1,_,bb,rfl,by omega,by simp_all,.inl rfl,?_,?_,?_⟩
  all_goals grind[LI.keep,Tr.get_set]
 .rintro hh ⟨_,s',tr',bb',rfl,q1,q2,q3,q4,q5,q6⟩;refine⟨r0,puT s gi l,q6,by rw[hr0];decide,?_⟩
  rw[hp0];simp only[qx];simp only[↓vS,vT,simprocAttr];refine hk _ _ bb' (by omega) (λc c1 c2 c3 c4=>?_) (by omega) ?_
  .rw[Tr.get_set,if_neg (by show¬c=s+1;omega)];exact q2 c c1 c2 c3 c4
  grind[LI.keep,Tr.get_set]
def qa3(n:Nat)(pl:List Nat)(x:Sy):List Ins :=
 if x.code=5 then [⟨5,0,0,(n-pl.getD x.th 0:Nat)⟩]else if qn x.code≠4 then [⟨x.code,0,0,x.k⟩]else
  if max (n-pl.getD x.th 0) (n-pl.getD x.el 0)<=255 then [⟨x.code,(n-pl.getD x.th 0:Nat),(n-pl.getD x.el 0:Nat),x.k⟩]else
   [⟨x.code,0,1,x.k⟩,⟨5,0,0,(n-pl.getD x.th 0+1:Nat)⟩,⟨5,0,0,(n-pl.getD x.el 0:Nat)⟩]
theorem qpC{n:Nat}{pl:List Nat}{x:Sy}:(qa3 n pl x).length<=3/\1<=(qa3 n pl x).length:=by
 unfold qa3;grind
def qbe(a b c:Nat):IFn:=⟨[],sq [.r [.q 3 (.box (.t 1))],.blk 0 (sq [.r [.f 53 0 3,.d 54 53,.q 55 (.bin .eql (.t 54) (.c (.h 5))),.n 52 55],.cond (.t 52) (.r [.n 56 0,.n 57 0,.f 58 2 3,.d 59 58,.l 60 a [.t 57,.t 59],.q 61 (.cvInt .u32 (.t 60)),.q 62 (.build [.h 0,.y 0,.y 0,.w 0] [(0,1,(.c (.h 5))),(3,1,(.t 61))]),.q 63 (.buildS 1 [.h 0,.y 0,.y 0,.w 0] [(0,4,(.t 62))]),.l 64 b [.t 56,.t 63]]) (sq [.r [.f 66 0 3,.d 67 66,.l 68 c [.t 67],.q 69 (.bin .neq (.t 68) (.c (.y 4))),.n 65 69],.cond (.t 65) (.r [.n 70 0,.f 71 0 3,.d 72 71,.f 73 1 3,.d 74 73,.q 75 (.build [.h 0,.y 0,.y 0,.w 0] [(0,1,(.t 72)),(3,1,(.t 74))]),.q 76 (.buildS 1 [.h 0,.y 0,.y 0,.w 0] [(0,4,(.t 75))]),.l 77 b [.t 70,.t 76]]) (sq [.reg true [.n 6 0,.f 7 2 3,.d 8 7,.l 9 a [.t 6,.t 8],.n 10 0,.f 11 3 3,.d 12 11,.l 13 a [.t 10,.t 12],.n 4 9,.n 5 13],sq [.r [.n 14 4,.n 15 5,.q 16 (.max (.t 14) (.t 15)),.w 17 .leq 16 255],.cond (.t 17) (sq [.r [.n 18 0,.f 19 0 3,.d 20 19,.n 21 4,.q 22 (.cvInt .u8 (.t 21)),.n 23 5,.q 24 (.cvInt .u8 (.t 23)),.f 25 1 3,.d 26 25,.q 27 (.build [.h 0,.y 0,.y 0,.w 0] [(0,1,(.t 20)),(1,1,(.t 22)),(2,1,(.t 24)),(3,1,(.t 26))]),.q 28 (.buildS 1 [.h 0,.y 0,.y 0,.w 0] [(0,4,(.t 27))]),.l 29 b [.t 18,.t 28]],.ret]) (.skip)],.r [.n 30 0,.q 31 (.nilChk (.t 30)),.f 32 2 31,.d 33 32,.a 34 33 1,.q 35 (.nilChk (.t 30)),.f 36 2 35,.u (.store 1 (.t 36) (.t 34))],.r [.n 37 0,.f 38 0 3,.d 39 38,.f 40 1 3,.d 41 40,.q 42 (.build [.h 0,.y 0,.y 0,.w 0] [(0,1,(.t 39)),(2,1,(.c (.y 1))),(3,1,(.t 41))]),.n 43 4,.q 44 (.cvInt .u32 (.t 43)),.q 45 (.bin .add (.t 44) (.c (.w 1))),.q 46 (.build [.h 0,.y 0,.y 0,.w 0] [(0,1,(.c (.h 5))),(3,1,(.t 45))]),.n 47 5,.q 48 (.cvInt .u32 (.t 47)),.q 49 (.build [.h 0,.y 0,.y 0,.w 0] [(0,1,(.c (.h 5))),(3,1,(.t 48))]),.q 50 (.buildS 3 [.h 0,.y 0,.y 0,.w 0] [(0,4,(.t 42)),(4,4,(.t 46)),(8,4,(.t 49))]),.l 51 b [.t 37,.t 50]]])])])]⟩
def qD0{gD gO gP gB gi kb n s bb bp:Nat}{back:List Ins}{pl:List Nat}{tr:Tr Blk}{far:Int}{k:AV->Hp->Prop}(hc:qc P f (qbe gD gP gO)=true)(hD:qc P gD xy=true)(hO:cOf P gO)(hP:qc P gP (jQ gB)=true)
  (hB:∀l:List Ins,qa P gB [.fz l.length (rP l)] (.fn gi [] [.pf [.fz l.length (rP l)] 0])) (hi:qc P gi qP=true)
  (h:LI kb n back pl s tr bb bp far) (x:Sy) (hb:back.length<=800000) (hj:∀j:Nat,(x.code=5\/qn x.code=4)/\j=x.th\/(qn x.code=4/\x.code≠5)/\j=x.el->∃q,pl[j]?=some q/\q<=back.length)
  (hk:∀s' tr' bb' far',s<=s'->(∀c,c<s->c≠kb->c≠bb->tr'.get c=tr.get c)->(bb'=bb\/s<=bb')->LI kb n (back++(qa3 back.length pl x).reverse) pl s' tr' bb' bp far'->k (.tup []) ⟨s',0,tr'⟩):SC P f [.ptr kb 0,.agg (cSy x)] ⟨s,0,tr⟩ k:=by
 have hks:=h.ks;have hbs:=h.bs;have hps:=h.ps;have hkb:=h.kb';have hkp:=h.kp;have hbp:=h.bp';have h1:∀(y:Blk),LI kb n back pl (s+1) (tr.set s y) bb bp far:=λy=>h.keep (by omega) (by grind[Tr.get_set])
 have h2:∀(y z:Blk),LI kb n back pl (s+1+1) ((tr.set s y).set (s+1) z) bb bp far:=λy z=>(h1 y).keep (by omega) (by grind[Tr.get_set])
 have n1:¬s=s+1:=by omega
 have put:∀(y z:Blk) (l:List Ins),z = .v (rP l)->l.length<=10->qa3 back.length pl x=l->∀k2:AV->Hp->Prop,(∀h,k (.tup []) h->k2 (.tup []) h)->SC P gP [.ptr kb 0,.sl (s+1) 0 l.length l.length false] ⟨s+1+1,0,(tr.set s y).set (s+1) z⟩ k2:=λy z l hz hl he k2 hk2=>by
  refine qrJ hP hB hi (h2 y z) (by rw[Tr.get_set,if_pos rfl,hz]) (by omega) (by omega) hl (by omega) λs' tr' bb' q1 q2 q3 q4=>hk2 _ (hk s' tr' bb' far (by omega) (λc c1 c2 c3=>?_) (by omega) (by rw[he];exact q4))
  rw[q2 c (by omega) c2 c3 (by omega)]
  grind[Tr.get_set]
 refine SC.mk hc (qk ?_);simp only[qbe,cSy,vI,simprocAttr]
 by_cases h5:x.code=5
 .obtain⟨q,hq,hql⟩:=hj x.th (by omega);have hqD:pl.getD x.th 0=q:=by rw[List.getD_eq_getElem?_getD,hq];rfl
  have he:qa3 back.length pl x=[⟨5,0,0,((back.length-q:Nat):Int)⟩]:=by unfold qa3;rw[if_pos h5,hqD]
  have hw:IntKind.wrap .u32 ((back.length-q:Nat):Int)=((back.length-q:Nat):Int):=by grind[qeE]
  simp +decide only[↓vS,vT,simprocAttr,eq_true h5];refine qnV hD (h1 _) hq hql (by omega) ?_;simp +decide only[↓vS,vT,simprocAttr,hw];exact put _ _ [⟨5,0,0,((back.length-q:Nat):Int)⟩] (by simp[rP,qC]) (by simp) he _ λh hv=>by simp +decide only[↓vS,vT,simprocAttr];exact hv
 .by_cases hc4:qn x.code=4
  .obtain⟨q,hq,hql⟩:=hj x.th (by omega);obtain⟨r,hr,hrl⟩:=hj x.el (by omega);have hqD:pl.getD x.th 0=q:=by rw[List.getD_eq_getElem?_getD,hq];rfl
   have hrD:pl.getD x.el 0=r:=by rw[List.getD_eq_getElem?_getD,hr];rfl
   simp +decide only[↓vS,vT,simprocAttr,h5];refine(hO x.code).sc ?_;simp +decide only[↓vS,vT,simprocAttr,hc4];refine zg ?_;simp +decide only[↓vS,vT,simprocAttr];refine⟨_,_,λk' hk'=>qnV hD (h1 _) hq hql (by omega) hk',?_⟩
   simp +decide only[↓vS,vT,simprocAttr];refine⟨_,_,λk' hk'=>qnV hD (h1 _) hr hrl (by omega) hk',?_⟩
   have he:qa3 back.length pl x=if max (back.length-q) (back.length-r)<=255 then [⟨x.code,((back.length-q:Nat):Int),((back.length-r:Nat):Int),x.k⟩]else [⟨x.code,0,1,x.k⟩,⟨5,0,0,((back.length-q+1:Nat):Int)⟩,⟨5,0,0,((back.length-r:Nat):Int)⟩]:=by
    unfold qa3;rw[if_neg h5,if_neg (by omega),hqD,hrD]
   obtain⟨a,ha⟩:∃a,a=back.length-q:=⟨_,rfl⟩;obtain⟨b,hb'⟩:∃b,b=back.length-r:=⟨_,rfl⟩;rw[<- ha,<- hb']at he ⊢;have hal:a<=800000:=by omega
   have hbl:b<=800000:=by omega
   simp +decide only[↓vS,vT,simprocAttr];have hmx:(if a<b then(b:Int)else a)=((max a b:Nat):Int):=by split<;>omega
   rw[hmx]
   by_cases hm:max a b<=255
   .have hm':((max a b:Nat):Int)<=255:=by omega
    rw[if_pos hm]at he;have w1:IntKind.wrap .u8 (a:Int)=a:=by grind[qxZ]
    have w2:IntKind.wrap .u8 (b:Int)=b:=by grind[qxZ]
    simp +decide only[↓vS,vT,simprocAttr,hm'];rw[w1,w2];exact put _ _ [⟨x.code,(a:Int),(b:Int),x.k⟩] (by simp[rP,qC]) (by simp) he _ λh hv=>by simp +decide only[↓vS,vT,simprocAttr];exact hv
   .have hm':¬((max a b:Nat):Int)<=255:=by omega
    rw[if_neg hm]at he;have w1:IntKind.wrap .u32 (a:Int)=a:=by grind[qeE]
    have w2:IntKind.wrap .u32 (b:Int)=b:=by grind[qeE]
    have w3:IntKind.wrap .u32 ((a:Int)+1)=((a+1:Nat):Int):=by rw[qeE (by omega) (by omega)];simp
    have n2:¬kb=s:=by omega
    have n3:¬s=kb:=by omega
    simp +decide only[↓vS,vT,simprocAttr,hm',w1,w2,w3,h.k,n2,n3,n1];refine qrJ hP hB hi (l:=[⟨x.code,0,1,x.k⟩,⟨5,0,0,((a+1:Nat):Int)⟩,⟨5,0,0,((b:Nat):Int)⟩]) (far:=IntKind.wrap .i64 (far+1)) (s:=s+1+1) (bb:=bb) (bp:=bp) (n:=n) (pl:=pl) (back:=back) ⟨?_,?_,?_,h.len,hkb,hkp,hbp,by omega,by omega,by omega⟩ ?_ (by omega) (by omega) (by simp) (by omega) λs' tr' bb' q1 q2 q3 q4=>?_
    .grind[Tr.get_set]
    .grind[Tr.get_set,LI.b]
    .grind[Tr.get_set,LI.p]
    .rw[Tr.get_set,if_pos rfl];simp[rP,qC]
    .simp +decide only[↓vS,vT,simprocAttr];refine hk s' tr' bb' _ (by omega) (λc c1 c2 c3=>?_) (by omega) (by rw[he];exact q4)
     rw[q2 c (by omega) c2 c3 (by omega)]
     grind[Tr.get_set]
  .have he:qa3 back.length pl x=[⟨x.code,0,0,x.k⟩]:=by unfold qa3;rw[if_neg h5,if_pos hc4]
   simp +decide only[↓vS,vT,simprocAttr,h5];refine(hO x.code).sc ?_;simp +decide only[↓vS,vT,simprocAttr,hc4];exact put _ _ [⟨x.code,0,0,x.k⟩] (by simp[rP,qC]) (by simp) he _ λh hv=>by simp +decide only[↓vS,vT,simprocAttr];exact hv
def zB(l:List Sy):Nat->List Ins×List Nat
 | 0=>([],List.replicate l.length 0)
 | m+1=>match l[l.length-(m+1)]? with
  | some x=>((zB l m).1++(qa3 (zB l m).1.length (zB l m).2 x).reverse,(zB l m).2.set (l.length-(m+1)) ((zB l m).1++(qa3 (zB l m).1.length (zB l m).2 x).reverse).length)
  | none=>zB l m
theorem qjq{l:List Sy}:∀m,(zB l m).2.length=l.length/\(∀q ∈ (zB l m).2,q<=(zB l m).1.length)/\(zB l m).1.length<=3*m
 | 0=>by
  refine⟨by simp[zB],λq hq=>?_,by simp[zB]⟩
  simp only[zB,List.mem_replicate]at hq;omega
 | m+1=>by
  obtain⟨h1,h2,h3⟩:=qjq (l:=l) m;unfold zB
  grind[qpC]
def jJ(l:List Sy):List Ins:=(zB l l.length).1.reverse
def qAg{l:List Nat}{j v:Nat}(hj:j<l.length):(rNt l).take j ++ .j (v:Int)::(rNt l).drop (j+1)=rNt (l.set j v):=by
 rw[List.set_eq_take_append_cons_drop,if_pos hj];simp[rNt,List.map_take,List.map_drop]
def qbI(a b c:Nat):ICode:=sq [.r [.d 33 4,.n 2 33,.m 3 .T],.ret]
def qdN(a b c:Nat):IFn:=⟨[.tmp 2,.tmp 3],sq [.r [.m 2 (.c (.nilp)),.m 3 .F],sq [.r [.n 7 0,.l 8 a [.t 7],.q 9 (.un .not (.t 8))],.cond (.t 9) (sq [.r [.m 2 (.c (.nilp)),.m 3 .F],.ret]) (.skip)],.r [.n 10 0,.e 11 10,.q 12 (.mkS 1 8 [.j 0] (.t 11) (.t 11)),.q 13 (.build [.nils,.nils,.j 0] [(1,1,(.t 12))]),.q 14 (.box (.t 13)),.q 4 (.alloc [.nilp]),.u (.store 1 (.t 4) (.t 14))],sq [.r [.n 15 0,.l 16 b [.t 15]],.blk 0 (.rangeF 0 (.t 16) [17,18] (.seq (.r [.n 5 17]) (.r [.q 6 (.alloc [.h 0,.w 0,.j 0,.j 0]),.u (.store 4 (.t 6) (.t 18))])) (.blk 1 (.seq (.r [.d 19 4,.v 20 4 6,.l 21 c [.t 19,.t 20]]) (.reg true [.d 22 4,.q 23 (.nilChk (.t 22)),.f 24 1 23,.d 25 24,.n 26 5,.d 27 4,.q 28 (.nilChk (.t 27)),.f 29 0 28,.d 30 29,.e 31 30,.i 32 1 25 26,.u (.store 1 (.t 32) (.t 31))]))))],.cut (qbI a b c)]⟩
def liT(gi:Nat)(l:List Sy):List (Nat×AV):=[(4,.ptr 2 0),(16,.fn gi [] [.pf [.fz l.length (rSy l)] 0])]
def liA:ICode:=sq [.reg false [⟨some 5,.op (.mov (.t 17)),none⟩],.reg false [⟨some 6,.op (.alloc [.h 0,.w 0,.j 0,.j 0]),none⟩,⟨none,.op (.store 4 (.t 6) (.t 18)),none⟩]]
def liB(g1:Nat):ICode:=.blk 1 (sq [.r [.d 19 4,.v 20 4 6,.l 21 g1 [.t 19,.t 20]],.reg true [.d 22 4,.q 23 (.nilChk (.t 22)),.f 24 1 23,.d 25 24,.n 26 5,.d 27 4,.q 28 (.nilChk (.t 27)),.f 29 0 28,.d 30 29,.e 31 30,.i 32 1 25 26,.u (.store 1 (.t 32) (.t 31))]])
def qyD(P:Program)(g:Nat):Prop:=∀(kb n s bb bp:Nat) (back:List Ins) (pl:List Nat) (tr:Tr Blk) (far:Int) (k:AV->Hp->Prop),LI kb n back pl s tr bb bp far->∀x:Sy,back.length<=800000->(∀j:Nat,(x.code=5\/qn x.code=4)/\j=x.th\/(qn x.code=4/\x.code≠5)/\j=x.el->∃q,pl[j]?=some q/\q<=back.length)->
 (∀s' tr' bb' far',s<=s'->(∀c,c<s->c≠kb->c≠bb->tr'.get c=tr.get c)->(bb'=bb\/s<=bb')->LI kb n (back++(qa3 back.length pl x).reverse) pl s' tr' bb' bp far'->k (.tup []) ⟨s',0,tr'⟩)->SC P g [.ptr kb 0,.agg (cSy x)] ⟨s,0,tr⟩ k
def qwf{gi g1 s bb n:Nat}{back:List Ins}{pl:List Nat}{l:List Sy}{r0:Loop}{tr:Tr Blk}{far:Int}{k:AV->Hp->Prop}(h1:qyD P g1)(hr0:r0.state = .ready)(hp0:r0.pending=none)(hlo:LoopOk P r0 [17,18] liA (liB g1))
  (h:LI 1 n back pl s tr bb 0 far) (g2:tr.get 2=some (.v [.ptr 1 0])) (g4:tr.get 4=some (.map (zz r0 (liT gi l)))) (hs:5<=s) (hb3:3<=bb) (hb4:bb≠4) (hb:back.length<=800000) (i:Nat) (hi:i<n) (x:Sy)
  (hj:∀j:Nat,(x.code=5\/qn x.code=4)/\j=x.th\/(qn x.code=4/\x.code≠5)/\j=x.el->∃q,pl[j]?=some q/\q<=back.length)
  (hk:∀s' tr' bb' far',5<=s'->LI 1 n (back++(qa3 back.length pl x).reverse) (pl.set i (back++(qa3 back.length pl x).reverse).length) s' tr' bb' 0 far'->tr'.get 2=some (.v [.ptr 1 0])->tr'.get 4=some (.map (zz r0 (liT gi l)))->3<=bb'->bb'≠4->k (.b true) ⟨s',0,tr'⟩) :
  SY P 4 [.j (i:Int),.agg (cSy x)] ⟨s,0,tr⟩ k:=by
 have hbs:=h.bs;refine SY.mk (r:=r0) (ts:=liT gi l) (ps:=[17,18]) g4 hr0 hlo (Nat.zero_le _) (by show 4<s;omega) rfl ?_;rw[show mkT (liT gi l)=(Tr.leaf.set 16 (.fn gi [] [.pf [.fz l.length (rSy l)] 0])).set 4 (.ptr 2 0)from rfl]
 refine qk ?_;simp only[qjw,liA,cSy,vI,simprocAttr];simp +decide only[↓vS,vT,simprocAttr];have n1:¬4=s:=by omega
 have n2:¬2=s:=by omega
 have n3:¬s=4:=by omega
 refine⟨liT gi l,by simp[Tr.get_set,n1,g4],?_⟩
 refine qk ?_;simp only[qx,liB,vI,simprocAttr];have e24:¬(2:Nat)=4:=by decide
 simp +decide only[↓vS,vT,simprocAttr,g2,e24,n2,n3]
 have old:∀c,c<s->c≠4->(((tr.set s (.v [.h 0,.w 0,.j 0,.j 0])).set s (.v [.h x.code,.w x.k,.j (x.th:Int),.j (x.el:Int)])).set 4 (.map (zz (Go.Kc.bsy r0) (liT gi l)))).get c=tr.get c:=λc h1 h2=>by
  simp only[Tr.get_set];repeat rw[if_neg (by omega)]
 refine h1 1 n (s+1) bb 0 back pl _ far _ (h.keep (by omega) (by grind)) x hb hj λs' tr' bb' far' q1 q2 q3 q4=>?_
 have g2':tr'.get 2=some (.v [.ptr 1 0]):=by rw[q2 2 (by omega) (by omega) (by omega),old 2 (by omega) (by omega)];exact g2
 have g4':tr'.get 4=some (.map (zz (Go.Kc.bsy r0) (liT gi l))):=by rw[q2 4 (by omega) (by omega) (by omega),Tr.get_set,if_pos rfl]
 obtain⟨B,hB⟩:∃B,B=back++(qa3 back.length pl x).reverse:=⟨_,rfl⟩;rw[<- hB]at q4 hk;have hset:=qAg (l:=pl) (j:=i) (v:=B.length) (by rw[q4.len];exact hi);have hpl:i+1<=(rNt pl).length:=by rw[qlc,q4.len];omega
 have hbs':=q4.bs;simp +decide only[↓vS,vT,simprocAttr];refine zg ?_;simp +decide only[↓vS,vT,simprocAttr,g2',q4.k,q4.p,hi,hpl,hset,zzU];refine⟨Go.Kc.bsy r0,liT gi l,by rw[Tr.get_set,if_neg (by decide)];exact g4',?_⟩
 rw[qct,qd0 hr0 hp0];simp only[qx];simp +decide only[↓vS,vT,simprocAttr];have hb':bb'≠4:=by omega
 refine hk s' _ bb' far' (by omega) ⟨?_,?_,?_,?_,by omega,by omega,by omega,by omega,by omega,by omega⟩ ?_ ?_ (by omega) hb'
 .rw[Tr.get_set,if_neg (by decide),Tr.get_set,if_neg (by decide)];exact q4.k
 .rw[Tr.get_set,if_neg hb',Tr.get_set,if_neg (by omega)];exact q4.b
 .rw[Tr.get_set,if_neg (by decide),Tr.get_set,if_pos rfl]
 all_goals grind[LI.len,Tr.get_set]
def qtw{n0 g1 g2 g3 s:Nat}{tr:Tr Blk}{t:Tr AV}{k:AV->Hp->Prop}(ht:t.get 4=some (.ptr 2 0))(h2:tr.get 2=some (.v [.ptr 1 0]))(hk:k (.tup [.ptr 1 0,.b true]) ⟨s,0,tr⟩) :
  S P n0 (qbI g1 g2 g3) (xk [.tmp 2,.tmp 3] k) t ⟨s,0,tr⟩:=by
 refine S.has [(4,.ptr 2 0)] (by grind[qh,ql]) (qk ?_);simp only[qbI,vI,simprocAttr];simp +decide only[↓vS,vT,simprocAttr,h2];exact hk
def qtx{gM gB g1 gi:Nat}(hc:qc P f (qdN gM gB g1)=true)(l:List Sy)(hm:qa P gM [.fz l.length (rSy l)] (.b true))(hB:∀l:List Sy,qa P gB [.fz l.length (rSy l)] (.fn gi [] [.pf [.fz l.length (rSy l)] 0]))(hi:qc P gi qH=true)
  (h1:qyD P g1) (hl:l.length<=200000) (hin:∀x ∈ l,∀j:Nat,(x.code=5\/qn x.code=4)/\j=x.th\/(qn x.code=4/\x.code≠5)/\j=x.el->j<l.length) {k:AV->Hp->Prop}
  (hk:∀s tr bb far,LI 1 l.length (zB l l.length).1 (zB l l.length).2 s tr bb 0 far->k (.tup [.ptr 1 0,.b true]) ⟨s,0,tr⟩):SC P f [.fz l.length (rSy l)] ⟨0,0,.leaf⟩ k:=by
 refine SC.mk hc (qk ?_);have r1:l.length<=qf:=by simp only[qf];omega
 have r2:8*l.length<=qf:=by simp only[qf];omega
 have hz:(List.replicate l.length [AV.j 0]).flatten=rNt (List.replicate l.length 0):=by simp[rNt]
 simp only[qdN,vI,simprocAttr];simp +decide only[↓vS,vT,simprocAttr];refine hm.sc ?_;simp +decide only[↓vS,vT,simprocAttr,r1,r2,hz];refine(hB l).sc ?_;simp +decide only[↓vS,vT,simprocAttr];refine S.weak (Wk.mk (liT gi l) [.v (rNt (List.replicate l.length 0)),.v [.own 3 0,.sl 0 0 l.length l.length false,.j 0],.v [.ptr 1 0],.cells 4 true true []] [0,1,2,99] ?_ ?_ ?_ rfl) ?_
 .simp[vw,liT,qJ qY,qe,qY]
 .simp[vw,qe,qX]
 .simp
 refine S.rangeF (by simp[jy]) (by simp[liT]) ⟨rfl,rfl⟩ ?_;refine qhT.2 ⟨.fn gi [] [.pf [.fz l.length (rSy l)] 0],by simp[liT,mkT,Tr.get_set],?_⟩
 refine⟨qbC hi,λr0 hr0 hp0 hlo=>?_⟩
 have hlo:LoopOk P r0 [17,18] liA (liB g1):=hlo;refine xp (c:=cSy) hi qec (by omega) (λi h=>i<=l.length/\∃s tr bb far,h=⟨s,0,tr⟩/\5<=s/\LI 1 l.length (zB l (l.length-i)).1 (zB l (l.length-i)).2 s tr bb 0 far/\3<=bb/\bb≠4/\tr.get 2=some (.v [.ptr 1 0])/\tr.get 4=some (.map (zz r0 (liT gi l)))) ?_ ?_ ?_
 .rintro i x h hx ⟨hil,s,tr,bb,far,rfl,q1,q2,q3,q4,q5,q6⟩ k' hk';have hi':i<l.length:=by omega
  obtain⟨o1,o2,o3⟩:=qjq (l:=l) (l.length-(i+1));have e:l.length-i=(l.length-(i+1))+1:=by omega
  have e2:l.length-(l.length-(i+1)+1)=i:=by omega
  have e3:zB l (l.length-i)=((zB l (l.length-(i+1))).1++(qa3 (zB l (l.length-(i+1))).1.length (zB l (l.length-(i+1))).2 x).reverse,(zB l (l.length-(i+1))).2.set i ((zB l (l.length-(i+1))).1++(qa3 (zB l (l.length-(i+1))).1.length (zB l (l.length-(i+1))).2 x).reverse).length):=by
   rw[e,zB,e2,hx]
  refine qwf h1 hr0 hp0 hlo q2 q5 q6 q1 q3 q4 (by omega) i hi' x (λj hj=>?_) (by grind)
  have hjl:=hin x (by grind) j hj;obtain⟨q,hq⟩:∃q,(zB l (l.length-(i+1))).2[j]?=some q:=by grind
  exact⟨q,hq,o2 q (by grind)⟩
 .refine⟨zzL _,5,_,3,0,rfl,zzL _,⟨?_,?_,?_,?_,by decide,by decide,by decide,by decide,by decide,by decide⟩,by decide,by decide,?_,?_⟩<;>simp[Tr.get_set,qlI,mkH,trL,zB,rP,Hp.push]
 .rintro h ⟨_,s,tr,bb,far,rfl,q1,q2,q3,q4,q5,q6⟩;rw[Nat.sub_zero]at q2;refine⟨r0,liT gi l,q6,by rw[hr0];decide,?_⟩
  rw[hp0];simp only[qx];simp only[↓vS,vT,simprocAttr];refine qtw (by simp[liT,mkT,Tr.get_set]) ?_ (hk _ _ bb far ?_)
  .show (tr.set 4 .dead).get 2=_;rw[Tr.get_set,if_neg (by decide)];exact q5
  .refine q2.keep (zzL _) λc hc=>?_
   have:c≠4:=by rcases hc with rfl|rfl|rfl<;>omega
   rw[Tr.get_set,if_neg (by exact this)]
def qfJ(a b:Nat):IFn:=⟨[.tmp 2,.tmp 3],sq [.r [.m 2 .N,.m 3 (.k 0)],.r [.n 7 0,.l 8 a [.t 7],.n 6 8,.x 9 6 0,.x 10 6 1,.n 4 9,.n 5 10],.blk 0 (sq [.r [.n 12 5,.q 13 (.un .not (.t 12)),.n 11 13],.cond (.t 11) (sq [.r [.m 2 .N,.m 3 (.k 250)],.ret]) (sq [.r [.n 15 4,.q 16 (.nilChk (.t 15)),.f 17 0 16,.d 18 17,.e 19 18,.w 20 .gtr 19 4096,.n 14 20],.cond (.t 14) (sq [.r [.m 2 .N,.m 3 (.k 270)],.ret]) (.skip)])]),.r [.n 21 4,.q 22 (.nilChk (.t 21)),.f 23 0 22,.d 24 23,.l 25 b [.t 24]],.r [.n 26 4,.q 27 (.nilChk (.t 26)),.f 28 0 27,.d 29 28,.n 2 29,.m 3 (.k 0)],.ret]⟩
def qiS(l:List Sy):AV:=if 4096<(jJ l).length then .tup [.fz 0 [],.j 270]else .tup [.fz (jJ l).length (rP (jJ l)),.j 0]
def qtv{g1 g2:Nat}(hc:qc P f (qfJ g1 g2)=true)(l:List Sy)(hl:l.length<=200000)
  (h1:∀k:AV->Hp->Prop,(∀s tr bb far,LI 1 l.length (zB l l.length).1 (zB l l.length).2 s tr bb 0 far->k (.tup [.ptr 1 0,.b true]) ⟨s,0,tr⟩)->SC P g1 [.fz l.length (rSy l)] ⟨0,0,.leaf⟩ k)
  (h2:∀(s b:Nat) (tr:Tr Blk) (p:List Ins),p.length<=1000000->∀k:AV->Hp->Prop,tr.get b=some (.cells 4 true true (rP p))->(∀tr',(∀c,c≠b->tr'.get c=tr.get c)->tr'.get b=some (.cells 4 true true (rP p.reverse))->k (.tup []) ⟨s,0,tr'⟩)->SC P g2 [.own b p.length] ⟨s,0,tr⟩ k) :
  qa P f [.fz l.length (rSy l)] (qiS l):=by
 have hlen:=(qjq (l:=l) l.length).2.2;refine qa.mk hc (by simp[qt,clo,qY]) ?_;simp only[qfJ,vI,simprocAttr];simp +decide only[↓vS,vT,simprocAttr];refine h1 _ λs tr bb far h=>?_
 have hll:(jJ l).length=(zB l l.length).1.length:=by simp[jJ]
 unfold qiS;rw[hll]
 by_cases hbig:4096<(zB l l.length).1.length
 .have hbig':(4096:Int)<((zB l l.length).1.length:Int):=by omega
  rw[if_pos hbig];simp +decide only[↓vS,vT,simprocAttr,h.k,hbig'];simp[vZ]
 .have hbig':¬(4096:Int)<((zB l l.length).1.length:Int):=by omega
  rw[if_neg hbig];simp +decide only[↓vS,vT,simprocAttr,h.k,hbig'];refine h2 s bb tr _ (by omega) _ h.b λtr' q1 q2=>?_
  have hk':=(q1 1 h.kb').trans h.k;simp +decide only[↓vS,vT,simprocAttr,hk'];simp[vZ,vP,q2,jJ];refine⟨λh=>?_,Frzs.self (qr _)⟩
  rw[h];rfl
def qA2(P:Program)(g:Nat):Prop:=∀l:List GTest,l.length<=100000->qa P g [.fz l.length (rT l)] (.fz l.length (rT l))
def qCx{g:Nat}(h:qbz P g 4 32):qA2 P g:=by
 intro l hl;refine(h l.length (rT l) qeY zX qxk (by simp only[qf];omega) (by simp only[qf];omega)).pure (by simp[qt,clo,zX]) ?_;refine .own 0 _ 4 true _ _ ?_ (λh0=>?_) (Frzs.self zX)
 .simp[qam,Hp.push,shb,H0,Tr.get_set,xj zX]
 .rw[List.eq_nil_of_length_eq_zero h0];rfl
def qlO(a:Nat):IFn:=⟨[.cell 2 3 true],sq [.r [.q 1 (.box (.t 0)),.q 2 (.alloc [.w 0,.nils,.w 0])],.r [.f 3 1 1,.d 4 3,.l 5 a [.t 4],.f 6 1 1,.u (.store 1 (.t 6) (.t 5))],.r [.v 7 3 1,.u (.store 3 (.t 2) (.t 7))],.ret]⟩
def qF4{g:Nat}(hc:qc P f (qlO g)=true)(hg:qA2 P g)(r:GRule)(hl:r.tests.length<=100000):qa P f [.agg (zw r)] (.agg (zw r)):=by
 refine qa.mk hc (by simp[qt,clo,zw,zX]) ?_;simp only[qlO,zw,vI,simprocAttr];simp +decide only[↓vS,vT,simprocAttr];refine(hg r.tests hl).sc ?_;simp +decide only[↓vS,vT,simprocAttr];simp[vZ,vP,Tr.get_set,qJ zX]
def qgO:IFn:=⟨[.tmp 2],sq [.r [.q 1 (.box (.t 0)),.m 2 .F],.r [.f 3 1 1,.d 4 3,.q 5 (.bin .eql (.t 4) (.c (.x 0))),.n 2 5],.ret]⟩
def qHt(hc:qc P f qgO=true)(t:GTest):qa P f [.agg (jD t)] (.b (decide (t.mask=0))):=by
 refine qa.mk hc rfl ?_;simp only[qgO,jD,vI,simprocAttr];simp +decide only[↓vS,vT,simprocAttr];simp[vZ]
def qhm(a:Int)(ts:List GTest):List GTest:=(ts.reverse.dropWhile λt=>decide (t.act=a)).reverse
def qq5{a:Int}{ts:List GTest}{t:GTest}:qhm a (ts++[t])=if t.act=a then qhm a ts else ts++[t]:=by
 unfold qhm;rw[List.reverse_append,List.reverse_singleton,List.singleton_append,List.dropWhile_cons]
 by_cases h:t.act=a<;>simp[h]
def qhN:List GTest->Int->List GTest×Int
 | [],a=>([],a)
 | t::ts,a=>if t.mask=0 then([],t.act)else(t::(qhN ts a).1,(qhN ts a).2)
def qaS(r:GRule):GRule:=⟨r.nr,qhm (qhN r.tests r.act).2 (qhN r.tests r.act).1,(qhN r.tests r.act).2⟩
def qu8:∀(ts:List GTest) (a:Int),(xI (λt=>decide (t.mask=0)) ts 0 = -1/\qhN ts a=(ts,a))\/∃(i:Nat) (t:GTest),xI (λt=>decide (t.mask=0)) ts 0=(i:Int)/\ts[i]?=some t/\qhN ts a=(ts.take i,t.act):=by
 have main:∀(ts:List GTest) (a:Int) (j:Nat),(xI (λt=>decide (t.mask=0)) ts j = -1/\qhN ts a=(ts,a))\/∃(i:Nat) (t:GTest),xI (λt=>decide (t.mask=0)) ts j=((j+i:Nat):Int)/\ts[i]?=some t/\qhN ts a=(ts.take i,t.act):=by
  intro ts
  induction ts with
  | nil=>intro a j;exact .inl ⟨rfl,rfl⟩
  | cons t ts ih =>
   intro a j
   by_cases h:t.mask=0
   .exact .inr ⟨0,t,by simp[xI,h],rfl,by simp[qhN,h]⟩
   .rcases ih a (j+1)with⟨e1,e2⟩|⟨i,x,e1,e2,e3⟩
    .exact .inl ⟨by simp[xI,h,e1],by simp[qhN,h,e2]⟩
    .exact .inr ⟨i+1,x,by simp[xI,h,e1];omega,by simpa using e2,by simp[qhN,h,e3]⟩
 grind
def qAy{h:Hp}{esz n c:Nat}{q:IntKind}{cs:List AV}{k:AV->Prop}(h2:c<=n)(h3:c*esz<=cs.length):slK esz none (some (.i q (c:Int))) none (.fz n cs) h k↔evA (.fz c (cs.take (c*esz))) k:=by
 simp only[slK,qrm,qkS];show(ifK (c<=n) _)↔_;simp only[ifK,h2,true_and,Option.isSome_none,Bool.false_and,Bool.false_eq_true,if_false];show(0*esz<=cs.length/\(c-0)*esz<=(cs.drop (0*esz)).length/\_)↔_;simp only[Nat.zero_mul,Nat.zero_le,Nat.sub_zero,List.drop_zero,h3,true_and];exact Iff.rfl
def qsf{l:List GTest}{k:Nat}:(rT l).take (k*4)=rT (l.take k):=qhx qds l k
def qcW(a b c:Nat):ICode:=sq [sq [.r [.f 25 1 1,.d 26 25,.e 27 26,.n 4 27],.blk 0 (.loop (sq [sq [.reg true [.n 28 4,.w 29 .gtr 28 0,.n 30 29,.h 31 1 1 30 true,.j 32 31 30 true,.y 33 4 30,.g 34 (.bin .sub (.t 33) (.k 1)) 30 true,.g 35 (.iAddrS 4 (.t 32) (.t 34)) 30 true,.h 36 3 35 30 true,.j 37 36 30 true,.h 38 2 1 30 true,.j 39 38 30 true,.g 40 (.bin .eql (.t 37) (.t 39)) 30 true,.p 41 30 40],.cond (.t 41) (.skip) (.exit 0)],.blk 1 (.r [.f 44 1 1,.d 45 44,.n 46 4,.w 47 .sub 46 1,.q 48 (.slcS 4 (.t 45) none (some (.t 47)) none),.f 49 1 1,.u (.store 1 (.t 49) (.t 48))]),.r [.n 42 4,.w 43 .sub 42 1,.n 4 43]]))],.r [.v 50 3 1,.u (.store 3 (.t 2) (.t 50))],.ret]
def qjk(a b c:Nat):IFn:=⟨[.cell 2 3 true],sq [.r [.q 1 (.box (.t 0)),.q 2 (.alloc [.w 0,.nils,.w 0])],.r [.v 5 3 1,.l 6 a [.t 5],.u (.store 3 (.t 1) (.t 6))],sq [.r [.f 7 1 1,.d 8 7,.l 9 b [.t 8,(.c (.fn c [] []))],.n 3 9],.r [.n 10 3,.w 11 .geq 10 0],.cond (.t 11) (sq [.r [.f 12 1 1,.d 13 12,.n 14 3,.i 15 4 13 14,.f 16 3 15,.d 17 16,.f 18 2 1,.u (.store 1 (.t 18) (.t 17))],.r [.f 19 1 1,.d 20 19,.n 21 3,.n 22 3,.q 23 (.slcS 4 (.t 20) none (some (.t 21)) (some (.t 22))),.f 24 1 1,.u (.store 1 (.t 24) (.t 23))]]) (.skip)],.cut (qcW a b c)]⟩
def qke{n0 g1 g2 g3 s:Nat}{tr:Tr Blk}{t:Tr AV}(nr a:Int)(ts:List GTest)(V:AV)(hV:V = .fz ts.length (rT ts)\/V = .e0/\ts=[])(hl:ts.length<=100000)(h0:tr.get 0=some (.v [.w nr,V,.w a]))(h1:∃x y z,tr.get 1=some (.v [x,y,z]))(ht:Has t [(1,.ptr 0 0),(2,.ptr 1 0)]) :
  S P n0 (qcW g1 g2 g3) (xk [.cell 2 3 true] λv' h'=>Frz h' v' (.agg (zw ⟨nr,qhm a ts,a⟩))) t ⟨s,0,tr⟩:=by
 refine S.has _ ht (qk ?_);simp only[qcW,vI,simprocAttr];have hlen:∀k:AV->Prop,k (.j (ts.length:Int))->True:=λ_ _=>trivial
 have loop:∀tt,Has tt [(1,.ptr 0 0),(2,.ptr 1 0),(4,.j (ts.length:Int))]->∀(x:ICode) (Q:X->Tr AV->Hp->Prop),True:=by simp_all
 rcases hV with rfl|⟨rfl,rfl⟩
 .simp +decide only[↓vS,vT,simprocAttr,h0]
  refine SL.loopP (α:=List GTest) (λu=>[(1,.ptr 0 0),(2,.ptr 1 0),(4,.j (u.length:Int))])
   (λu h=>u.length<=ts.length/\qhm a u=qhm a ts/\∃tr',h=⟨s,0,tr'⟩/\tr'.get 0=some (.v [.w nr,.fz u.length (rT u),.w a])/\∃x y z,tr'.get 1=some (.v [x,y,z])) (λu=>u.length) ?_ ts ?_ ?_
  .rintro u h1 ⟨hu,he,tr',rfl,g0,x,y,z,g1⟩ G ih;simp only[vI,simprocAttr];rcases List.eq_nil_or_concat u with rfl|⟨u0,t0,rfl⟩
   .have hz:¬(0:Int)<(([]:List GTest).length:Int):=by simp
    simp +decide only[↓vS,vT,simprocAttr];refine zg ?_;simp +decide only[↓vS,vT,simprocAttr,hz,g0,g1];have e0:qhm a ts=[]:=by rw[<- he];rfl
    simp[vZ,vP,Tr.get_set,zw,e0,rT]
   .rw[List.concat_eq_append]at hu he g0 ih ⊢;have hul:(u0++[t0]).length=u0.length+1:=by simp
    have hget:(u0++[t0])[u0.length]?=some t0:=by simp
    rw[hul]at hu g0 ⊢;have hz:(0:Int)<((u0.length+1:Nat):Int):=by omega
    have e1:IntKind.wrap .i64 (((u0.length+1:Nat):Int)-1)=(u0.length:Int):=by rw[qm (by omega) (by omega)];omega
    have hg3:(rT (u0++[t0]))[u0.length*4+3]?=some (.w t0.act):=qxj hget (by omega);have hlt:u0.length<u0.length+1:=by omega
    rw[qq5]at he;simp +decide only[↓vS,vT,simprocAttr];refine zg ?_
    by_cases ha:t0.act=a
    .rw[if_pos ha]at he;have k1:u0.length<=u0.length+1:=by omega
     have k2:u0.length*4<=(rT (u0++[t0])).length:=by rw[qeY,hul];omega
     have k3:(rT (u0++[t0])).take (u0.length*4)=rT u0:=by rw[qsf];simp
     simp +decide only[↓vS,vT,simprocAttr,hz,g0,e1,hlt,hg3,eq_true ha,↓qAy k1 k2,k3];refine ih u0 _ _ (by simp) (by simp[qh,ql,Tr.get_set]) (by grind[Tr.get_set])
    .rw[if_neg ha]at he;simp +decide only[↓vS,vT,simprocAttr,hz,g0,g1,e1,hlt,hg3,ha];simp[vZ,vP,Tr.get_set,zw,<- he,qJ zX]
  all_goals simp_all[qh,ql,Tr.get_set]
 .simp +decide only[↓vS,vT,simprocAttr,h0];refine SL.loopP (α:=Unit) (λu=>[(1,.ptr 0 0),(2,.ptr 1 0),(4,.j 0)]) (λu h=>h=⟨s,0,tr⟩) (λu=>0) ?_ () ?_ rfl
  .rintro u h2 rfl G ih;obtain⟨x,y,z,g1⟩:=h1;simp only[vI,simprocAttr];simp +decide only[↓vS,vT,simprocAttr];refine zg ?_;simp +decide only[↓vS,vT,simprocAttr,h0,g1];simp[vZ,vP,Tr.get_set,zw,qhm,rT]
  grind[qh,ql,Tr.get_set]
def qBs{g1 g2 g3:Nat}(hc:qc P f (qjk g1 g2 g3)=true)(h1:∀r:GRule,r.tests.length<=100000->qa P g1 [.agg (zw r)] (.agg (zw r)))(h2:qfC 4 P g2)(h3:∀t:GTest,qa P g3 [.agg (jD t)] (.b (decide (t.mask=0))))(r:GRule)(hl:r.tests.length<=100000) :
  qa P f [.agg (zw r)] (.agg (zw (qaS r))):=by
 have e1:=h1 r hl;have e2:=h2 jD (λt=>decide (t.mask=0)) g3 [] [] r.tests qds rfl rfl (by simp only[qf];omega) λt _=>by simpa using h3 t
 simp only[show r.tests.flatMap jD=rT r.tests from rfl]at e2
 refine qa.mk hc (by simp[qt,clo,zw,zX]) ?_;simp only[qjk,zw,vI,simprocAttr];simp only[zw]at e1;simp +decide only[↓vS,vT,simprocAttr];refine e1.sc ?_;simp +decide only[↓vS,vT,simprocAttr];refine e2.sc ?_;unfold qaS;rcases qu8 r.tests r.act with⟨q1,q2⟩|⟨i,t,q1,q2,q3⟩
 .rw[q1,q2];simp +decide only[↓vS,vT,simprocAttr];refine qke r.nr r.act r.tests _ (.inl rfl) hl ?_ ?_ ?_
  all_goals simp_all[Tr.get_set,qh,ql]
 .rw[q1,q3];have hi:i<r.tests.length:=by grind
  have n0:(0:Int)<=(i:Int):=by omega
  have g3':(rT r.tests)[i*4+3]?=some (.w t.act):=qxj q2 (by omega);have k2:i<=r.tests.length:=by omega
  have k3:i*4<=(rT r.tests).length:=by rw[qeY];omega
  have hlen:(r.tests.take i).length=i:=by simp_all
  rcases Nat.eq_zero_or_pos i with hz|hz
  .have es:∀(h:Hp) (k:AV->Prop),slK 4 none (some (.j (i:Int))) (some (.j (i:Int))) (.fz r.tests.length (rT r.tests)) h k↔evA .e0 k:=λh k=>by
    rw[hz];simp only[slK,qkV,qkS];show(ifK (0<=r.tests.length) (ifK (0<=0) _))↔_;simp only[ifK,Nat.zero_le,true_and,Option.isSome_some];exact Iff.rfl
   have htk:r.tests.take i=[]:=by rw[hz];rfl
   rw[htk];simp +decide only[↓vS,vT,simprocAttr,n0,hi,g3',↓es];refine qke r.nr t.act [] .e0 (by simp_all) (by simp) ?_ ?_ ?_
   all_goals simp_all[Tr.get_set,qh,ql]
  .simp +decide only[↓vS,vT,simprocAttr,n0,hi,g3',↓qsm hz k2 k3,qsf];refine qke r.nr t.act (r.tests.take i) _ (.inl (by rw[hlen])) (by omega) ?_ ?_ ?_
   all_goals simp_all[Tr.get_set,qh,ql]
def qev(d:Int)(r:GRule):Bool:=decide (0<r.tests.length)||decide (r.act≠d)
def qaR(x:GFil):GFil:=⟨x.arch,(x.rules.map qaS).filter (qev x.dflt),x.dflt⟩
noncomputable def qsC(x:GFil):AV:=if jY x=true then .tup [.agg (zr (qaR x)),.j 0]else .tup [.agg [.j 0,.fz 0 [],.w 0],.j 210]
def qfI(a b:Nat):IFn:=⟨[.cell 2 3 true,.tmp 3],sq [.r [.q 1 (.box (.t 0)),.q 2 (.alloc [.j 0,.nils,.w 0]),.m 3 (.k 0)],sq [.r [.v 7 3 1,.l 8 a [.t 7],.q 9 (.un .not (.t 8))],.cond (.t 9) (sq [.r [.q 10 (.build [.j 0,.nils,.w 0] []),.u (.store 3 (.t 2) (.t 10)),.m 3 (.k 210)],.ret]) (.skip)],.r [.f 11 0 1,.d 12 11,.f 13 2 1,.d 14 13,.q 15 (.build [.j 0,.nils,.w 0] [(0,1,(.t 12)),(2,1,(.t 14))]),.q 4 (.alloc [.j 0,.nils,.w 0]),.u (.store 3 (.t 4) (.t 15))],sq [.r [.f 16 1 1,.d 17 16,.e 18 17,.m 19 (.k 0)],.blk 0 (.loop (sq [.r [.s 20 19 18],.cond (.t 20) (.skip) (.exit 0),.blk 1 (sq [.r [.i 21 3 17 19,.v 22 3 21,.q 6 (.alloc [.w 0,.nils,.w 0]),.u (.store 3 (.t 6) (.t 22))],.r [.v 23 3 6,.l 24 b [.t 23],.u (.store 3 (.t 6) (.t 24))],.r [.f 25 1 6,.d 26 25,.e 27 26,.w 28 .gtr 27 0,.n 29 28,.h 30 2 6 29 false,.j 31 30 29 false,.h 32 2 1 29 false,.j 33 32 29 false,.g 34 (.bin .neq (.t 31) (.t 33)) 29 false,.o 35 29 34],.cond (.t 35) (.r [.f 36 1 4,.d 37 36,.v 38 3 6,.q 39 (.buildS 1 [.w 0,.nils,.w 0] [(0,3,(.t 38))]),.q 40 (.app 3 40 true (.t 37) (.t 39)),.f 41 1 4,.u (.store 1 (.t 41) (.t 40))]) (.skip)]),.r [.a 42 19 1,.n 19 42]]))],.r [.v 43 3 4,.u (.store 3 (.t 2) (.t 43)),.m 3 (.k 0)],.ret]⟩
def qoy{g1 g2:Nat}(hc:qc P f (qfI g1 g2)=true)(x:GFil)(h1:qa P g1 [.agg (zr x)] (.b (jY x)))(h2:∀r:GRule,r.tests.length<=100000->qa P g2 [.agg (zw r)] (.agg (zw (qaS r))))(hl:x.rules.length<=100000)(ht:∀r ∈ x.rules,r.tests.length<=100000) :
  qa P f [.agg (zr x)] (qsC x):=by
 refine qa.mk hc (by simp[qt,clo,zr,qq]) ?_;simp only[qfI,zr,vI,simprocAttr];simp only[zr]at h1;simp +decide only[↓vS,vT,simprocAttr];refine h1.sc ?_;unfold qsC;cases hK:jY x with
 | false =>
  simp +decide only[↓vS,vT,simprocAttr];simp[vZ,vP,Tr.get_set]
 | true =>
  simp +decide only[↓vS,vT,simprocAttr]
  refine SL.loopP (α:=Nat×Nat) (λi=>[(1,.ptr 0 0),(2,.ptr 1 0),(4,.ptr 2 0),(17,.fz x.rules.length (rR x.rules)),(18,.j (x.rules.length:Int)),(19,.j (i.1:Int))])
   (λi h=>i.1<=x.rules.length/\∃s tr,h=⟨s,0,tr⟩/\3<=s/\tr.get 0=some (.v [.j x.arch,.fz x.rules.length (rR x.rules),.w x.dflt])/\(∃a b c,tr.get 1=some (.v [a,b,c])) /\
    tr.get 2=some (.v [.j x.arch,qc2 (((x.rules.take i.1).map qaS).filter (qev x.dflt)).length i.2,.w x.dflt])/\((((x.rules.take i.1).map qaS).filter (qev x.dflt)).length≠0->tr.get i.2=some (.cells 3 true true (rR (((x.rules.take i.1).map qaS).filter (qev x.dflt))))/\3<=i.2/\i.2<s)) (λi=>x.rules.length-i.1) ?_ (0,0) ?_ ?_
  .rintro⟨i,bo⟩ h ⟨hi,s,tr,rfl,hs,t0,⟨a,b,c,t1⟩,t2,to⟩ G ih;simp only at hi t2 to;simp only[vI,simprocAttr];obtain⟨A,hA⟩:∃A,A=((x.rules.take i).map qaS).filter (qev x.dflt):=⟨_,rfl⟩;rw[<- hA]at t2 to
   have hAl:A.length<=i:=by
    rw[hA];grind
   by_cases hlt:i<x.rules.length
   .have hlt':(i:Int)<x.rules.length:=by omega
    obtain⟨r,hr⟩:∃r,x.rules[i]?=some r:=⟨_,zzE hlt⟩;have hel:=qsb hr;have h3:i*3+3<=(rR x.rules).length:=by rw[qhg];omega
    have hw1:IntKind.wrap .i64 ((i:Int)+1)=((i+1:Nat):Int):=by rw[qm (by omega) (by omega)];simp
    have hn:=h2 r (by grind)
    have hA2:((x.rules.take (i+1)).map qaS).filter (qev x.dflt)=A++if qev x.dflt (qaS r)=true then [qaS r]else []:=by
     rw[qbu hr,List.map_append,List.filter_append,<- hA]
     by_cases hk:qev x.dflt (qaS r)=true<;>simp[hk]
    obtain⟨q,hq⟩:∃q,q=qaS r:=⟨_,rfl⟩;rw[<- hq]at hn hA2;simp only[zw]at hn;have n0:¬0=s:=by omega
    have n1:¬1=s:=by omega
    have n2:¬2=s:=by omega
    have n3:¬s=s+1:=by omega
    have n4:¬2=s+1:=by omega
    have n5:¬2=s+1+1:=by omega
    have n6:¬s=2:=by omega
    simp +decide only[↓vS,vT,simprocAttr,hlt',hlt,h3,hel,zw,n0,n1,n2,n3];refine hn.sc ?_
    have e0:∀(tf:Tr Blk),(∀c,c<s->c≠2->c≠bo->tf.get c=tr.get c)->bo≠0/\bo≠1\/A.length=0->(A.length=0->∀c,c<s->c≠2->tf.get c=tr.get c)->tf.get 0=some (.v [.j x.arch,.fz x.rules.length (rR x.rules),.w x.dflt])/\∃a b c,tf.get 1=some (.v [a,b,c]):=λtf q1 q2 q3=>by
     grind
    by_cases hk:qev x.dflt q=true
    .rw[if_pos hk]at hA2;have app:∀k:Prop,(∀(u:IntKind),True)->k->k:=λ_ _ h=>h
     have hcond:(0:Int)<(q.tests.length:Int)\/¬(0:Int)<(q.tests.length:Int)/\¬q.act=x.dflt:=by
      simp only[qev,zzO,decide_eq_true_eq]at hk;omega
     by_cases hz:A.length=0
     .have hV:qc2 A.length bo = .nils:=by simp[qc2,hz]
      have hAn:A=[]:=by grind
      rw[hV]at t2
      have fin:∀tf tt,(∀c,c<s->c≠2->tf.get c=tr.get c)->tf.get 2=some (.v [.j x.arch,.own (s+1+1) 1,.w x.dflt])->tf.get (s+1+1)=some (.cells 3 true true [.w q.nr,.fz q.tests.length (rT q.tests),.w q.act])->Has tt [(1,.ptr 0 0),(2,.ptr 1 0),(4,.ptr 2 0),(17,.fz x.rules.length (rR x.rules)),(18,.j (x.rules.length:Int)),(19,.j ((i+1:Nat):Int))]->G tt ⟨s+1+1+1,0,tf⟩:=λtf tt q1 q2 q3 q4=>by
       refine ih (i+1,s+1+1) _ _ (by omega) q4 ⟨by omega,_,tf,rfl,by omega,by grind,by grind,?_,λ_=>⟨?_,by omega,by omega⟩⟩
       .simp only[hA2,hAn];rw[q2];rfl
       .simp only[hA2,hAn];rw[q3];simp[rR,zw]
      rcases hcond with hc1|⟨hc1,hc2⟩
      .simp +decide only[↓vS,vT,simprocAttr,hc1,t2,n0,n1,n2,n3,n4,n5,n6,hw1];refine fin _ _ (λc c1 c2=>?_) (by rw[Tr.get_set,if_pos rfl]) ?_ (by simp[qh,ql,Tr.get_set])
       .simp only[Tr.get_set];repeat rw[if_neg (by omega)]
       grind[Tr.get_set]
      .simp +decide only[↓vS,vT,simprocAttr,hc1,hc2,t0,t2,n0,n1,n2,n3,n4,n5,n6,hw1];refine fin _ _ (λc c1 c2=>?_) (by rw[Tr.get_set,if_pos rfl]) ?_ (by simp[qh,ql,Tr.get_set])
       .simp only[Tr.get_set];repeat rw[if_neg (by omega)]
       grind[Tr.get_set]
     .obtain⟨o1,o2,o3⟩:=to hz;have hV:qc2 A.length bo = .own bo A.length:=by simp[qc2,hz]
      rw[hV]at t2;have m1:¬bo=s:=by omega
      have m2:¬bo=s+1:=by omega
      have m3:¬s+1=bo:=by omega
      have m4:¬2=bo:=by omega
      have rr1:A.length+1<=qf:=by simp only[qf];omega
      have rr2:(A.length+1)*40<=qf:=by simp only[qf];omega
      have hrl:(rR A).length=A.length*3:=qhg
      have fin:∀tf tt,(∀c,c<s->c≠2->c≠bo->tf.get c=tr.get c)->tf.get 2=some (.v [.j x.arch,.own (s+1+1) (A.length+1),.w x.dflt])->tf.get (s+1+1)=some (.cells 3 true true (rR A++[.w q.nr,.fz q.tests.length (rT q.tests),.w q.act]))->Has tt [(1,.ptr 0 0),(2,.ptr 1 0),(4,.ptr 2 0),(17,.fz x.rules.length (rR x.rules)),(18,.j (x.rules.length:Int)),(19,.j ((i+1:Nat):Int))]->G tt ⟨s+1+1+1,0,tf⟩:=λtf tt q1 q2 q3 q4=>by
       refine ih (i+1,s+1+1) _ _ (by omega) q4 ⟨by omega,_,tf,rfl,by omega,by grind,by grind,?_,λ_=>⟨?_,by omega,by omega⟩⟩
       .simp only[hA2];rw[q2];simp[qc2]
       .simp only[hA2];rw[q3,<- qxc];simp[rR,zw]
      rcases hcond with hc1|⟨hc1,hc2⟩
      .simp +decide only[↓vS,vT,simprocAttr,hc1,t2,o1,m1,m2,m3,m4,rr1,rr2,hrl,n0,n1,n2,n3,n4,n5,n6,hw1];refine fin _ _ (λc c1 c2 c3=>?_) (by rw[Tr.get_set,if_pos rfl]) ?_ (by simp[qh,ql,Tr.get_set])
       .simp only[Tr.get_set];repeat rw[if_neg (by omega)]
       grind[Tr.get_set]
      .simp +decide only[↓vS,vT,simprocAttr,hc1,hc2,t0,t2,o1,m1,m2,m3,m4,rr1,rr2,hrl,n0,n1,n2,n3,n4,n5,n6,hw1];refine fin _ _ (λc c1 c2 c3=>?_) (by rw[Tr.get_set,if_pos rfl]) ?_ (by simp[qh,ql,Tr.get_set])
       .simp only[Tr.get_set];repeat rw[if_neg (by omega)]
       grind[Tr.get_set]
    .rw[if_neg hk,List.append_nil]at hA2;have hc1:¬(0:Int)<(q.tests.length:Int):=λh=>hk (by simp only[qev,zzO,decide_eq_true_eq];omega)
     have hc2:q.act=x.dflt:=by
      rcases Classical.em (q.act=x.dflt)with h|h
      .exact h
      .exact absurd (by simp[qev,h]) hk
     simp +decide only[↓vS,vT,simprocAttr,hc1,eq_true hc2,t0,n0,n1,n2,n3,hw1];refine ih (i+1,bo) _ _ (by omega) (by simp[qh,ql,Tr.get_set]) ⟨by omega,s+1,_,rfl,by omega,?_,⟨a,b,c,?_⟩,?_,λhz=>?_⟩
     .grind[Tr.get_set]
     .grind[Tr.get_set]
     .grind[Tr.get_set]
     .simp only[hA2]at hz ⊢;obtain⟨o1,o2,o3⟩:=to hz;refine⟨?_,o2,by omega⟩
      simp only[Tr.get_set];grind
   .obtain rfl:i=x.rules.length:=by omega
    have hlt':¬((x.rules.length:Int)<x.rules.length):=by omega
    rw[List.take_length]at hA;have hnF:(qaR x).rules=A:=hA.symm
    by_cases hz:A.length=0
    .have hV:qc2 A.length bo = .nils:=by simp[qc2,hz]
     have hAn:A=[]:=by grind
     rw[hV]at t2;simp +decide only[↓vS,vT,simprocAttr,hlt',t2,t1];simp only[zr,hnF,hAn];simp[vZ,vP,Tr.get_set,rR,qaR]
    .obtain⟨o1,o2,o3⟩:=to hz;have hV:qc2 A.length bo = .own bo A.length:=by simp[qc2,hz]
     have m1:¬bo=1:=by omega
     rw[hV]at t2;simp +decide only[↓vS,vT,simprocAttr,hlt',t2,t1];simp only[zr,hnF];have hA0:¬A=[]:=(by grind);simp[vZ,vP,Tr.get_set,o1,m1,qJ qq,hA0,qaR]
  .simp[qh,ql,Tr.get_set]
  .refine⟨Nat.zero_le _,_,_,rfl,by omega,?_,⟨.j 0,.nils,.w 0,?_⟩,?_,by simp_all⟩
   .simp[Tr.get_set]
   .simp[Tr.get_set]
   .simp[Tr.get_set,qc2]
def WkB(fl:List AV)(ar row prg:AV):Blk:=.v (fl++[ar,row,prg])
section
variable {b s:Nat} {tr:Tr Blk} {k:AV->Hp->Prop} {x:GFil} {ar row prg:AV}
def zW(a:Nat):IFn:=⟨[.tmp 2],sq [.r [.m 2 (.k 0)],.r [.n 4 0,.n 5 0,.q 6 (.nilChk (.t 5)),.f 7 0 6,.v 8 3 7,.l 9 a [.t 8],.n 3 9,.x 10 3 0,.x 11 3 1,.q 12 (.nilChk (.t 4)),.f 13 4 12,.u (.store 1 (.t 13) (.t 10)),.n 2 11],.r [.n 14 2,.n 2 14],.ret]⟩
def qmv{g:Nat}(hc:qc P f (zW g)=true)(fl:List AV)(hfl:fl.length=3)(h:tr.get b=some (WkB fl ar row prg))(r:AV)(e:Int)(hr:zj r=true/\qcR r=true/\cellsOf r=[r])(hg:qa P g [.agg fl] (.tup [r,.j e]))
  (hk:∀tr',(∀c,c≠b->tr'.get c=tr.get c)->tr'.get b=some (WkB fl ar r prg)->k (.j e) ⟨s,0,tr'⟩):SC P f [.ptr b 0] ⟨s,0,tr⟩ k:=by
 obtain⟨a1,a2,a3,rfl⟩:∃a1 a2 a3,fl=[a1,a2,a3]:=by
  match fl,hfl with
  | [a1,a2,a3],_=>exact by simp_all
 obtain⟨r1,r2,r3⟩:=hr;simp only[WkB,zzC,zzN]at h hk;refine SC.mk hc (qk ?_);simp only[zW,vI,simprocAttr];simp +decide only[↓vS,vT,simprocAttr,h];refine hg.sc ?_;simp +decide only[↓vS,vT,simprocAttr,h,r1,r2,r3]
 simp_all[Tr.get_set]
def z6(a:Nat):IFn:=⟨[.tmp 2],sq [.r [.m 2 (.k 0)],.r [.n 4 0,.n 5 0,.q 6 (.nilChk (.t 5)),.f 7 0 6,.v 8 3 7,.l 9 a [.t 8],.n 3 9,.x 10 3 0,.x 11 3 1,.q 12 (.nilChk (.t 4)),.f 13 0 12,.u (.store 3 (.t 13) (.t 10)),.n 2 11],.r [.n 14 2,.n 2 14],.ret]⟩
def qmw{g:Nat}(hc:qc P f (z6 g)=true)(fl:List AV)(hfl:fl.length=3)(h:tr.get b=some (WkB fl ar row prg))(fl2:List AV)(hf2:fl2.length=3)(e:Int)(hr:qF fl2=true)(hg:qa P g [.agg fl] (.tup [.agg fl2,.j e]))
  (hk:∀tr',(∀c,c≠b->tr'.get c=tr.get c)->tr'.get b=some (WkB fl2 ar row prg)->k (.j e) ⟨s,0,tr'⟩):SC P f [.ptr b 0] ⟨s,0,tr⟩ k:=by
 obtain⟨a1,a2,a3,rfl⟩:∃a1 a2 a3,fl=[a1,a2,a3]:=by
  match fl,hfl with
  | [a1,a2,a3],_=>exact by simp_all
 obtain⟨c1,c2,c3,rfl⟩:∃a1 a2 a3,fl2=[a1,a2,a3]:=by
  match fl2,hf2 with
  | [a1,a2,a3],_=>exact by simp_all
 simp only[WkB,zzC,zzN]at h hk;refine SC.mk hc (qk ?_);simp only[z6,vI,simprocAttr];simp +decide only[↓vS,vT,simprocAttr,h];refine hg.sc ?_;simp +decide only[↓vS,vT,simprocAttr,h,hr]
 simp_all[Tr.get_set]
def zM(a:Nat):IFn:=⟨[.tmp 2],sq [.r [.m 2 (.k 0)],.r [.n 4 0,.n 5 0,.q 6 (.nilChk (.t 5)),.f 7 3 6,.d 8 7,.l 9 a [.t 8],.n 3 9,.x 10 3 0,.x 11 3 1,.q 12 (.nilChk (.t 4)),.f 13 4 12,.u (.store 1 (.t 13) (.t 10)),.n 2 11],.r [.n 14 2,.n 2 14],.ret]⟩
def qhJ{g:Nat}(hc:qc P f (zM g)=true)(fl:List AV)(hfl:fl.length=3)(h:tr.get b=some (WkB fl ar row prg))(r:AV)(e:Int)(hr:zj r=true/\qcR r=true/\cellsOf r=[r])(hg:qa P g [ar] (.tup [r,.j e]))
  (hk:∀tr',(∀c,c≠b->tr'.get c=tr.get c)->tr'.get b=some (WkB fl ar r prg)->k (.j e) ⟨s,0,tr'⟩):SC P f [.ptr b 0] ⟨s,0,tr⟩ k:=by
 obtain⟨a1,a2,a3,rfl⟩:∃a1 a2 a3,fl=[a1,a2,a3]:=by
  match fl,hfl with
  | [a1,a2,a3],_=>exact by simp_all
 obtain⟨r1,r2,r3⟩:=hr;simp only[WkB,zzC,zzN]at h hk;refine SC.mk hc (qk ?_);simp only[zM,vI,simprocAttr];simp +decide only[↓vS,vT,simprocAttr,h];refine hg.sc ?_;simp +decide only[↓vS,vT,simprocAttr,h,r1,r2,r3]
 simp_all[Tr.get_set]
def zc(a:Nat):IFn:=⟨[.tmp 2],sq [.r [.m 2 (.k 0)],.r [.n 4 0,.n 5 0,.q 6 (.nilChk (.t 5)),.f 7 4 6,.d 8 7,.l 9 a [.t 8],.n 3 9,.x 10 3 0,.x 11 3 1,.q 12 (.nilChk (.t 4)),.f 13 4 12,.u (.store 1 (.t 13) (.t 10)),.n 2 11],.r [.n 14 2,.n 2 14],.ret]⟩
def qmu{g:Nat}(hc:qc P f (zc g)=true)(fl:List AV)(hfl:fl.length=3)(h:tr.get b=some (WkB fl ar row prg))(r:AV)(e:Int)(hr:zj r=true/\qcR r=true/\cellsOf r=[r])(hg:qa P g [row] (.tup [r,.j e]))
  (hk:∀tr',(∀c,c≠b->tr'.get c=tr.get c)->tr'.get b=some (WkB fl ar r prg)->k (.j e) ⟨s,0,tr'⟩):SC P f [.ptr b 0] ⟨s,0,tr⟩ k:=by
 obtain⟨a1,a2,a3,rfl⟩:∃a1 a2 a3,fl=[a1,a2,a3]:=by
  match fl,hfl with
  | [a1,a2,a3],_=>exact by simp_all
 obtain⟨r1,r2,r3⟩:=hr;simp only[WkB,zzC,zzN]at h hk;refine SC.mk hc (qk ?_);simp only[zc,vI,simprocAttr];simp +decide only[↓vS,vT,simprocAttr,h];refine hg.sc ?_;simp +decide only[↓vS,vT,simprocAttr,h,r1,r2,r3]
 simp_all[Tr.get_set]
def qN(a:Nat):IFn:=⟨[.tmp 2],sq [.r [.m 2 (.k 0)],.r [.n 4 0,.n 5 0,.q 6 (.nilChk (.t 5)),.f 7 4 6,.d 8 7,.l 9 a [.t 8],.n 3 9,.x 10 3 0,.x 11 3 1,.q 12 (.nilChk (.t 4)),.f 13 5 12,.u (.store 1 (.t 13) (.t 10)),.n 2 11],.r [.n 14 2,.n 2 14],.ret]⟩
def qfV{g:Nat}(hc:qc P f (qN g)=true)(fl:List AV)(hfl:fl.length=3)(h:tr.get b=some (WkB fl ar row prg))(r:AV)(e:Int)(hr:zj r=true/\qcR r=true/\cellsOf r=[r])(hg:qa P g [row] (.tup [r,.j e]))
  (hk:∀tr',(∀c,c≠b->tr'.get c=tr.get c)->tr'.get b=some (WkB fl ar row r)->k (.j e) ⟨s,0,tr'⟩):SC P f [.ptr b 0] ⟨s,0,tr⟩ k:=by
 obtain⟨a1,a2,a3,rfl⟩:∃a1 a2 a3,fl=[a1,a2,a3]:=by
  match fl,hfl with
  | [a1,a2,a3],_=>exact by simp_all
 obtain⟨r1,r2,r3⟩:=hr;simp only[WkB,zzC,zzN]at h hk;refine SC.mk hc (qk ?_);simp only[qN,vI,simprocAttr];simp +decide only[↓vS,vT,simprocAttr,h];refine hg.sc ?_;simp +decide only[↓vS,vT,simprocAttr,h,r1,r2,r3]
 simp_all[Tr.get_set]
def qO:IFn:=⟨[.tmp 4,.tmp 5],sq [.r [.m 4 .N,.m 5 (.k 0)],sq [.r [.n 9 1,.e 10 9,.m 11 (.k 0)],.blk 0 (.loop (sq [.r [.s 12 11 10],.cond (.t 12) (.skip) (.exit 0),.blk 1 (sq [.r [.i 13 1 9 11,.d 14 13,.n 7 14],.r [.n 15 7,⟨(some 16),.callV (.t 15) [],none⟩,.n 8 16],.r [.n 17 8,.w 18 .neq 17 0],.cond (.t 18) (sq [.r [.n 19 8,.m 4 .N,.n 5 19],.ret]) (.skip)]),.r [.a 20 11 1,.n 11 20]]))],.r [.n 21 0,.q 22 (.nilChk (.t 21)),.f 23 5 22,.d 24 23,.n 4 24,.m 5 (.k 0)],.ret]⟩
def qxY(hc:qc P f qO=true){bx e:Nat}{wf a:Bool}(gs:List Nat)(hx:tr.get bx=some (.cells e wf a (gs.map λg=>.fn g [.ptr b 0] [])))(hbx:bx≠b)(J:Nat->AV->Blk->Prop)(n:Nat)(hn:gs.length=n)(hn9:n<=9)
  (B0:Blk) (h0:tr.get b=some B0) (hJ0:J 0 (.j 0) B0)
  (step:∀(i:Nat) g B (s':Nat) (tr':Tr Blk) (k':AV->Hp->Prop),gs[i]?=some g->J i (.j 0) B->tr'.get b=some B->(∀(v:Int) B' tr2,(∀c,c≠b->tr2.get c=tr'.get c)->tr2.get b=some B'->J (i+1) (.j v) B'->k' (.j v) ⟨s',0,tr2⟩)->SC P g [.ptr b 0] ⟨s',0,tr'⟩ k')
  (hbad:∀(i:Nat) (v:Int) B tr2,(∀c,c≠b->tr2.get c=tr.get c)->v≠0->J i (.j v) B->k (.tup [.nils,.j v]) ⟨s,0,tr2⟩)
  (hok:∀B tr2,(∀c,c≠b->tr2.get c=tr.get c)->J n (.j 0) B->tr2.get b=some B->∃fl ar row prg,fl.length=3/\B=WkB fl ar row prg/\k (.tup [prg,.j 0]) ⟨s,0,tr2⟩) :
  SC P f [.ptr b 0,.sl bx 0 n n false] ⟨s,0,tr⟩ k:=by
 refine SC.mk hc (qk ?_);simp only[qO,vI,simprocAttr];simp +decide only[↓vS,vT,simprocAttr]
 refine SL.loopP (α:=Nat) (λi=>[(0,.ptr b 0),(9,.sl bx 0 n n false),(10,.j (n:Int)),(11,.j (i:Int))])
  (λi h=>i<=n/\∃tr' B,h=⟨s,0,tr'⟩/\(∀c,c≠b->tr'.get c=tr.get c)/\tr'.get bx=some (.cells e wf a (gs.map λg=>.fn g [.ptr b 0] []))/\tr'.get b=some B/\J i (.j 0) B) (λi=>n-i) ?_ 0 ?_ ?_
 .rintro i h ⟨hi,tr',B,rfl,gf,gx,gb,hj⟩ G ih;simp only[vI,simprocAttr]
  by_cases hlt:i<n
  .have hlt':(i:Int)<n:=by omega
   obtain⟨g,hg⟩:∃g,gs[i]?=some g:=⟨_,zzE (by omega)⟩;have hgm:(gs.map λg=>AV.fn g [.ptr b 0] [])[i]?=some (.fn g [.ptr b 0] []):=by simp[hg]
   have hw1:IntKind.wrap .i64 ((i:Int)+1)=((i+1:Nat):Int):=by rw[qm (by omega) (by omega)];simp
   simp +decide only[↓vS,vT,simprocAttr,hlt',hlt,gx,hgm,zzU];refine step i g B s tr' _ hg hj gb λv B' tr2 q1 q2 q3=>?_
   by_cases hv:v=0
   .subst hv;simp +decide only[↓vS,vT,simprocAttr,hw1];exact ih (i+1) _ _ (by omega) (by simp[qh,ql,Tr.get_set]) (by grind)
   .simp +decide only[↓vS,vT,simprocAttr,hv];exact by grind
  .obtain rfl:i=n:=by omega
   have hlt':¬((i:Int)<i):=by omega
   obtain⟨fl,ar,row,prg,hfl,hB,hk⟩:=hok B tr' gf hj gb
   obtain⟨a1,a2,a3,rfl⟩:∃a1 a2 a3,fl=[a1,a2,a3]:=by
    match fl,hfl with
    | [a1,a2,a3],_=>exact by grind
   rw[hB]at gb;simp only[WkB,zzC,zzN]at gb;simp +decide only[↓vS,vT,simprocAttr,hlt',gb];exact hk
 all_goals grind[qh,ql,Tr.get_set]
def qho(hc:qc P f qO=true){bx e:Nat}{wf a:Bool}(gs:List Nat)(hx:tr.get bx=some (.cells e wf a (gs.map λg=>.fn g [.ptr b 0] [])))(hbx:bx≠b)(Bs:Nat->Blk)(vs:Nat->Int)(n:Nat)(hn:gs.length=n)(hn9:n<=9)(h0:tr.get b=some (Bs 0))(hv0:vs 0=0)
  (step:∀(i:Nat) g (s':Nat) (tr':Tr Blk) (k':AV->Hp->Prop),gs[i]?=some g->(∀j,j<=i->vs j=0)->tr'.get b=some (Bs i)->(∀tr2,(∀c,c≠b->tr2.get c=tr'.get c)->tr2.get b=some (Bs (i+1))->k' (.j (vs (i+1))) ⟨s',0,tr2⟩)->SC P g [.ptr b 0] ⟨s',0,tr'⟩ k')
  (hbad:∀(i:Nat) tr2,(∀c,c≠b->tr2.get c=tr.get c)->vs i≠0->(∀j,j<i->vs j=0)->k (.tup [.nils,.j (vs i)]) ⟨s,0,tr2⟩)
  (hok:∀tr2,(∀c,c≠b->tr2.get c=tr.get c)->(∀j,j<=n->vs j=0)->tr2.get b=some (Bs n)->∃fl ar row prg,fl.length=3/\Bs n=WkB fl ar row prg/\k (.tup [prg,.j 0]) ⟨s,0,tr2⟩) :
  SC P f [.ptr b 0,.sl bx 0 n n false] ⟨s,0,tr⟩ k:=by
 refine qxY hc gs hx hbx (λi v B=>v = .j (vs i)/\B=Bs i/\∀j,j<i->vs j=0) n hn hn9 (Bs 0) h0 ⟨by rw[hv0],rfl,λj hj=>by omega⟩ ?_ ?_ ?_
 .rintro i g B s' tr' k' hg ⟨h1,rfl,h2⟩ hB hk';have hvi:vs i=0:=by grind
  refine step i g s' tr' k' hg (λj hj=>?_) hB λtr2 q1 q2=>hk' _ _ _ q1 q2 ⟨rfl,rfl,λj hj=>?_⟩
  .rcases Nat.lt_or_ge j i with h|h
   .exact h2 j h
   .rw[show j=i by omega];exact hvi
  .rcases Nat.lt_or_ge j i with h|h
   .exact h2 j h
   .rw[show j=i by omega];exact hvi
 all_goals grind
def xZ:IFn:=⟨[.tmp 8,.tmp 9],sq [.r [.m 8 .N,.m 9 (.k 0)],sq [.r [.n 10 3,.w 11 .neq 10 0,.n 12 11,.z 13 1 12,.g 14 (.bin .eql (.t 13) (.k 0)) 12 false,.z 15 14 12,.y 16 0 15,.g 17 (.len false (.t 16)) 15 true,.y 18 2 15,.g 19 (.len false (.t 18)) 15 true,.g 20 (.bin .lss (.t 17) (.t 19)) 15 true,.g 21 (.pick (.t 15) (.t 20) .F) 12 false,.o 22 12 21],.cond (.t 22) (sq [.r [.n 23 0,.n 24 1,.n 8 23,.n 9 24],.ret]) (.skip)],.r [.n 25 2,.n 26 3,.n 8 25,.n 9 26],.ret]⟩
def qiO(v:AV)(p:List Ins):Prop:=v = .fz p.length (rP p)\/v = .nils/\p=[]
def qd2(u v:List Ins×Int):List Ins×Int:=if v.2≠0\/(u.2=0/\u.1.length<v.1.length)then u else v
def qiO.clo{v:AV}{p:List Ins}(h:qiO v p):Go.Kc.clo v=true:=by
 rcases h with rfl|⟨rfl,_⟩
 .simp[Go.Kc.clo,qr]
 .rfl
def qjH(hc:qc P f xZ=true)(u v:List Ins×Int)(x y:AV)(hx:qiO x u.1)(hy:qiO y v.1) :
  ∃z,qiO z (qd2 u v).1/\qa P f [x,.j u.2,y,.j v.2] (.tup [z,.j (qd2 u v).2]):=by
 have key:∀(h:Bool),(decide (v.2≠0\/(u.2=0/\u.1.length<v.1.length)))=h->qa P f [x,.j u.2,y,.j v.2] (.tup [if h=true then x else y,.j (if h=true then u.2 else v.2)]):=by
  intro h hh;refine qa.mk hc (by simp[qt,Go.Kc.clo,hx.clo,hy.clo]) ?_;simp only[xZ,vI,simprocAttr]
  by_cases h1:v.2=0
  .by_cases h2:u.2=0
   .have e:h=decide (u.1.length<v.1.length):=by rw[<- hh];simp[h1,h2]
    rw[e];rcases hx with rfl|⟨rfl,hx⟩<;>rcases hy with rfl|⟨rfl,hy⟩
    .by_cases h3:u.1.length<v.1.length
     .simp +decide only[↓vS,vT,simprocAttr,h1,h2,Int.ofNat_lt,h3];simp[vZ,qJ (qr _)]
     .simp +decide only[↓vS,vT,simprocAttr,h1,h2,Int.ofNat_lt,h3];simp[vZ,qJ (qr _)]
    .have h3:¬u.1.length<v.1.length:=by rw[hy];simp
     have h3':¬(u.1.length:Int)<0:=by omega
     simp +decide only[↓vS,vT,simprocAttr,h1,h2,h3',h3];simp[vZ]
    .rw[hx]
     by_cases h3:0<v.1.length
     .have h3':(0:Int)<v.1.length:=by omega
      simp +decide only[↓vS,vT,simprocAttr,h1,h2,h3',h3];simp[vZ]
     .have h3':¬(0:Int)<v.1.length:=by omega
      simp +decide only[↓vS,vT,simprocAttr,h1,h2,h3',h3];simp[vZ,qJ (qr _)]
    .rw[hx,hy];simp +decide only[↓vS,vT,simprocAttr,h1,h2];simp[vZ]
   .have e:h=false:=by rw[<- hh];simp[h1,h2]
    rw[e];simp +decide only[↓vS,vT,simprocAttr,h1,h2];simp[vZ,h1,Frz.self hy.clo]
  .have e:h=true:=by rw[<- hh];simp[h1]
   rw[e];simp +decide only[↓vS,vT,simprocAttr,h1];simp[vZ,Frz.self hx.clo]
 unfold qd2
 grind
end
def zP(l:List Sy):List Ins×Int:=if 4096<(jJ l).length then([],270)else(jJ l,0)
def qkR{l:List Sy}:qiS l = .tup [.fz (zP l).1.length (rP (zP l).1),.j (zP l).2]:=by
 unfold qiS zP;split<;>rfl
def qdm(l:List Sy):List Sy:=qiB (qq3 (qhP l))
noncomputable def qfZ(x:GFil):List Ins×Int:=if jY x=true then zP (zN x)else([],210)
noncomputable def qgx(x:GFil):List Ins×Int:=if jY x=true then zP (qdm (zN (qaR x)))else([],210)
noncomputable def qdG(x:GFil)(o:Bool):List Ins×Int:=if o=true then qd2 (qfZ x) (qgx x)else qfZ x
structure CmpFn (P:Program) (gE gN gO gL:Nat) (x:GFil):Prop where
 em:qa P gE [.agg (zr x)] (qoF x)
 nm:qa P gN [.agg (zr x)] (qsC x)
 lk:jY x=true->qa P gL [.fz (zN x).length (rSy (zN x))] (qiS (zN x))
 em2:jY x=true->qa P gE [.agg (zr (qaR x))] (qoF (qaR x))
 ok2:jY x=true->jY (qaR x)=true
 op:jY x=true->qa P gO [.fz (zN (qaR x)).length (rSy (zN (qaR x)))] (.tup [.fz (qdm (zN (qaR x))).length (rSy (qdm (zN (qaR x)))),.j 0])
 lk2:jY x=true->qa P gL [.fz (qdm (zN (qaR x))).length (rSy (qdm (zN (qaR x))))] (qiS (qdm (zN (qaR x))))
section
variable {gE gN gO gL b s:Nat} {tr:Tr Blk} {k:AV->Hp->Prop} {x:GFil}
def qj4{n:Nat}{cs:List AV}:zj (.fz n cs)=true/\qcR (.fz n cs)=true/\cellsOf (.fz n cs)=[.fz n cs]:=⟨rfl,rfl,rfl⟩
def qAG{gd gwE gwL bx:Nat}{e:Nat}{wf a:Bool}(hc:qc P gd qO=true)(hE:qc P gwE (zW gE)=true)(hL:qc P gwL (qN gL)=true)(C:CmpFn P gE gN gO gL x)
  (hx:tr.get bx=some (.cells e wf a [.fn gwE [.ptr b 0] [],.fn gwL [.ptr b 0] []])) (hbx:bx≠b) (h0:tr.get b=some (WkB (zr x) .nils .nils .nils))
  (hk:∀v tr2,qiO v (qfZ x).1->(∀c,c≠b->tr2.get c=tr.get c)->k (.tup [v,.j (qfZ x).2]) ⟨s,0,tr2⟩):SC P gd [.ptr b 0,.sl bx 0 2 2 false] ⟨s,0,tr⟩ k:=by
 have hE':=C.em;cases hK:jY x with
 | false =>
  have e1:qfZ x=([],210):=by unfold qfZ;grind
  rw[e1]at hk;unfold qoF at hE';rw[hK,if_neg (by simp)]at hE';refine qho hc [gwE,gwL] (by simpa using hx) hbx (λi=>if i=0 then WkB (zr x) .nils .nils .nils else WkB (zr x) .nils (.fz 0 []) .nils) (λi=>if i=0 then 0 else 210) 2 rfl (by omega) h0 rfl ?_ ?_ ?_
  .intro i g s' tr' k' hg hj hB hk'
   have hi:i=0:=by
    simp_all
   subst hi;simp at hg;subst hg;exact qmv hE (zr x) rfl hB _ _ qj4 hE' hk'
  .intro i tr2 hf hv hj;have hi:i≠0:=by omega
   simp only[if_neg hi];exact hk _ _ (.inr ⟨rfl,rfl⟩) hf
  .intro tr2 _ hj _;have:=hj 1 (by omega);omega
 | true =>
  have hL':=C.lk hK;rw[qkR]at hL';have e1:qfZ x=zP (zN x):=by unfold qfZ;grind
  rw[e1]at hk;unfold qoF at hE';rw[hK,if_pos rfl]at hE'
  refine qho hc [gwE,gwL] (by simpa using hx) hbx (λi=>if i=0 then WkB (zr x) .nils .nils .nils else if i=1 then WkB (zr x) .nils (.fz (zN x).length (rSy (zN x))) .nils else WkB (zr x) .nils (.fz (zN x).length (rSy (zN x))) (.fz (zP (zN x)).1.length (rP (zP (zN x)).1)))
   (λi=>if i=0 then 0 else if i=1 then 0 else(zP (zN x)).2) 2 rfl (by omega) h0 rfl ?_ ?_ ?_
  .intro i g s' tr' k' hg hj hB hk';have hi:i<2:=by have:=(zzS.1 hg).1;omega
   have hi2:i=0\/i=1:=by omega
   rcases hi2 with rfl|rfl
   .simp at hg;subst hg;exact qmv hE (zr x) rfl hB _ _ qj4 hE' hk'
   .simp at hg;subst hg;exact qfV hL (zr x) rfl hB _ _ qj4 hL' hk'
  .intro i tr2 hf hv hj;have h0':i≠0:=by omega
   have h1':i≠1:=by omega
   simp only[if_neg h0',if_neg h1']at hv ⊢
   have e2:(zP (zN x)).1=[]:=by
    unfold zP at hv ⊢
    grind
   exact hk _ _ (.inr ⟨rfl,e2⟩) hf
  .intro tr2 hf hj hB;have hz:=hj 2 (by omega);simp at hz;refine⟨zr x,.nils,_,_,rfl,rfl,?_⟩;have:=hk (.fz (zP (zN x)).1.length (rP (zP (zN x)).1)) tr2 (.inl rfl) hf;rw[hz]at this;omega
def qAF{gd gwN gwE gwO gwL bx:Nat}{e:Nat}{wf a:Bool}(hc:qc P gd qO=true)(hN:qc P gwN (z6 gN)=true)(hE:qc P gwE (zW gE)=true)(hO:qc P gwO (zc gO)=true)(hL:qc P gwL (qN gL)=true)(C:CmpFn P gE gN gO gL x)
  (hx:tr.get bx=some (.cells e wf a [.fn gwN [.ptr b 0] [],.fn gwE [.ptr b 0] [],.fn gwO [.ptr b 0] [],.fn gwL [.ptr b 0] []])) (hbx:bx≠b) (h0:tr.get b=some (WkB (zr x) .nils .nils .nils))
  (hk:∀v tr2,qiO v (qgx x).1->(∀c,c≠b->tr2.get c=tr.get c)->k (.tup [v,.j (qgx x).2]) ⟨s,0,tr2⟩):SC P gd [.ptr b 0,.sl bx 0 4 4 false] ⟨s,0,tr⟩ k:=by
 have hN':=C.nm;cases hK:jY x with
 | false =>
  have e1:qgx x=([],210):=by unfold qgx;grind
  rw[e1]at hk;unfold qsC at hN';rw[hK,if_neg (by simp)]at hN';refine qho hc [gwN,gwE,gwO,gwL] (by simpa using hx) hbx (λi=>if i=0 then WkB (zr x) .nils .nils .nils else WkB [.j 0,.fz 0 [],.w 0] .nils .nils .nils) (λi=>if i=0 then 0 else 210) 4 rfl (by omega) h0 rfl ?_ ?_ ?_
  .intro i g s' tr' k' hg hj hB hk'
   have hi:i=0:=by
    simp_all
   subst hi;simp at hg;subst hg;exact qmw hN (zr x) rfl hB [.j 0,.fz 0 [],.w 0] rfl _ rfl hN' hk'
  .intro i tr2 hf hv hj;have hi:i≠0:=by omega
   simp only[if_neg hi];exact hk _ _ (.inr ⟨rfl,rfl⟩) hf
  .intro tr2 _ hj _;have:=hj 1 (by omega);omega
 | true =>
  obtain⟨y,hy⟩:∃y,y=qaR x:=⟨_,rfl⟩;obtain⟨m,hm⟩:∃m,m=qdm (zN y):=⟨_,rfl⟩;have hL':=C.lk2 hK;have hE':=C.em2 hK;have hO':=C.op hK;have hK2:=C.ok2 hK;have e1:qgx x=zP (qdm (zN (qaR x))):=by unfold qgx;grind
  rw[e1]at hk;unfold qsC at hN';rw[hK,if_pos rfl]at hN';rw[<- hy]at hL' hE' hO' hK2 hN' hk;unfold qoF at hE';rw[hK2,if_pos rfl]at hE';rw[<- hm]at hL' hO' hk;rw[qkR]at hL'
  refine qho hc [gwN,gwE,gwO,gwL] (by simpa using hx) hbx (λi=>if i=0 then WkB (zr x) .nils .nils .nils else if i=1 then WkB (zr y) .nils .nils .nils else if i=2 then WkB (zr y) .nils (.fz (zN y).length (rSy (zN y))) .nils else if i=3 then WkB (zr y) .nils (.fz m.length (rSy m)) .nils else WkB (zr y) .nils (.fz m.length (rSy m)) (.fz (zP m).1.length (rP (zP m).1)))
   (λi=>if i=0 then 0 else if i=1 then 0 else if i=2 then 0 else if i=3 then 0 else(zP m).2) 4 rfl (by omega) h0 rfl ?_ ?_ ?_
  .intro i g s' tr' k' hg hj hB hk';have hi:i<4:=by have:=(zzS.1 hg).1;omega
   have hi2:i=0\/i=1\/i=2\/i=3:=by omega
   rcases hi2 with rfl|rfl|rfl|rfl
   .simp at hg;subst hg;exact qmw hN (zr x) rfl hB (zr y) rfl _ rfl hN' hk'
   .simp at hg;subst hg;exact qmv hE (zr y) rfl hB _ _ qj4 hE' hk'
   .simp at hg;subst hg;exact qmu hO (zr y) rfl hB _ _ qj4 hO' hk'
   .simp at hg;subst hg;exact qfV hL (zr y) rfl hB _ _ qj4 hL' hk'
  .intro i tr2 hf hv hj;have h0':i≠0:=by omega
   have h1':i≠1:=by omega
   have h2':i≠2:=by omega
   have h3':i≠3:=by omega
   simp only[if_neg h0',if_neg h1',if_neg h2',if_neg h3']at hv ⊢
   have e2:(zP m).1=[]:=by
    unfold zP at hv ⊢
    grind
   exact hk _ _ (.inr ⟨rfl,e2⟩) hf
  .intro tr2 hf hj hB;have hz:=hj 4 (by omega);simp at hz;refine⟨zr y,.nils,_,_,rfl,rfl,?_⟩;have:=hk (.fz (zP m).1.length (rP (zP m).1)) tr2 (.inl rfl) hf;rw[hz]at this;omega
def qbd(a b c d e g:Nat):IFn:=⟨[.tmp 4,.tmp 5],sq [.r [.q 2 (.box (.t 0)),.m 4 .N,.m 5 (.k 0)],.reg true [.v 12 3 2,.q 13 (.build [.j 0,.nils,.w 0,.nils,.nils,.nils] [(0,3,(.t 12))]),.q 14 (.box (.t 13)),.v 15 3 2,.q 16 (.build [.j 0,.nils,.w 0,.nils,.nils,.nils] [(0,3,(.t 15))]),.q 17 (.box (.t 16)),.n 6 14,.n 7 17],.r [.n 19 6,.n 20 6,.q 21 (.mkF a [.t 20] []),.n 22 6,.q 23 (.mkF b [.t 22] []),.q 24 (.buildS 2 [.nilf] [(0,1,(.t 21)),(1,1,(.t 23))]),.l 25 c [.t 19,.t 24],.n 18 25,.x 26 18 0,.x 27 18 1,.n 8 26,.n 9 27],sq [.r [.n 28 1,.q 29 (.un .not (.t 28))],.cond (.t 29) (sq [.r [.n 30 8,.n 31 9,.n 4 30,.n 5 31],.ret]) (.skip)],.r [.n 33 7,.n 34 7,.q 35 (.mkF d [.t 34] []),.n 36 7,.q 37 (.mkF a [.t 36] []),.n 38 7,.q 39 (.mkF e [.t 38] []),.n 40 7,.q 41 (.mkF b [.t 40] []),.q 42 (.buildS 4 [.nilf] [(0,1,(.t 35)),(1,1,(.t 37)),(2,1,(.t 39)),(3,1,(.t 41))]),.l 43 c [.t 33,.t 42],.n 32 43,.x 44 32 0,.x 45 32 1,.n 10 44,.n 11 45],.r [.n 46 8,.n 47 9,.n 48 10,.n 49 11,.l 50 g [.t 46,.t 47,.t 48,.t 49],.x 51 50 0,.x 52 50 1,.n 4 51,.n 5 52],.ret]⟩
theorem qiO.frz{v:AV}{p:List Ins}{h:Hp}(hv:qiO v p):Frz h v (.fz p.length (rP p)):=by
 rcases hv with rfl|⟨rfl,rfl⟩
 .exact Frz.self (by simp[Go.Kc.clo,qr])
 .exact .nilz
def qnT{gd gwN gwE gwO gwL gs:Nat}(hc:qc P f (qbd gwE gwL gd gwN gwO gs)=true)(hd:qc P gd qO=true)(hN:qc P gwN (z6 gN)=true)(hE:qc P gwE (zW gE)=true)(hO:qc P gwO (zc gO)=true)(hL:qc P gwL (qN gL)=true)
  (hs:∀(u v:List Ins×Int) (x y:AV),qiO x u.1->qiO y v.1->∃z,qiO z (qd2 u v).1/\qa P gs [x,.j u.2,y,.j v.2] (.tup [z,.j (qd2 u v).2])) (C:CmpFn P gE gN gO gL x) (o:Bool) :
  qa P f [.agg (zr x),.b o] (.tup [.fz (qdG x o).1.length (rP (qdG x o).1),.j (qdG x o).2]):=by
 refine qa.mk hc (by simp[qt,Go.Kc.clo,zr,qq]) ?_;simp only[qbd,zr,vI,simprocAttr];simp +decide only[↓vS,vT,simprocAttr];refine zg ?_;simp +decide only[↓vS,vT,simprocAttr];refine qAG hd hE hL C (b:=1) (bx:=3) (by simp[Tr.get_set];exact⟨rfl,rfl,rfl⟩) (by decide) (by simp[Tr.get_set,WkB,zr]) λv tr2 hv hf=>?_
 cases o with
 | false =>
  simp +decide only[↓vS,vT,simprocAttr,qdG];simp[vZ];exact hv.frz
 | true =>
  simp +decide only[↓vS,vT,simprocAttr,qdG];refine qAF hd hN hE hO hL C (b:=2) (bx:=4) (by simp[Tr.get_set];exact⟨rfl,rfl,rfl⟩) (by decide) (by rw[Tr.get_set,if_neg (by decide),hf 2 (by decide)];simp[Tr.get_set,WkB,zr]) λw tr3 hw _=>?_
  obtain⟨z,hz1,hz2⟩:=hs (qfZ x) (qgx x) v w hv hw;simp +decide only[↓vS,vT,simprocAttr];refine hz2.sc ?_;simp +decide only[↓vS,vT,simprocAttr];simp[vZ];exact⟨hz1.frz,rfl⟩
end
end Go.Kc
end
section
namespace Go.Kc
def xG:List Sp->Int->Int->Prop
 | [],a,b=>a=b
 | s::l,a,b=>s.fr=a/\a<=s.to/\xG l (s.to+1) b
def xG.le:∀{l:List Sp} {a b:Int},xG l a b->a<=b
 | [],_,_,h=>by simp[xG]at h;omega
 | s::l,a,b,h=>by obtain⟨h1,h2,h3⟩:=h;have:=h3.le;omega
def xG.app:∀{l m:List Sp} {a b:Int},xG (l++m) a b↔∃c,xG l a c/\xG m c b
 | [],m,a,b=>by simp[xG]
 | s::l,m,a,b=>by
  simp only[zzC,xG];constructor
  .rintro⟨h1,h2,h3⟩;obtain⟨c,h4,h5⟩:=xG.app.1 h3
   grind
  .rintro⟨c,⟨h1,h2,h4⟩,h5⟩;exact⟨h1,h2,xG.app.2 ⟨c,h4,h5⟩⟩
def Cov(l:List Sp)(n:Int)(w:Nat):Prop:=∃s ∈ l,s.fr<=n/\n<=s.to/\s.way=w
def qsV{l:List Sp}{s:Sp}{a:Int}(h:xG l a s.fr)(hs:s.fr<=s.to):xG (jK l s) a (s.to+1)/\∀n w,Cov l n w\/(s.fr<=n/\n<=s.to/\s.way=w)->Cov (jK l s) n w:=by
 rcases List.eq_nil_or_concat l with rfl|⟨l0,z,rfl⟩
 .refine⟨?_,?_⟩
  .simp only[xG]at h;simp only[jK,List.getElem?_nil,zzN,xG]
   simp_all
  .rintro n w (⟨x,hx,_⟩|h)
   .cases hx
   .exact⟨s,by simp[jK],h⟩
 .rw[List.concat_eq_append]at h ⊢;have hz:(l0++[z])[(l0++[z]).length-1]?=some z:=by simp
  unfold jK;rw[hz];obtain⟨c,h1,h2⟩:=xG.app.1 h;simp only[xG]at h2;obtain⟨h2,h3,h4⟩:=h2;simp only
  by_cases hw:z.way=s.way
  .rw[if_pos hw];have e:(l0++[z]).set ((l0++[z]).length-1) ⟨z.fr,s.to,z.way⟩=l0++[⟨z.fr,s.to,z.way⟩]:=by simp
   rw[e];refine⟨xG.app.2 ⟨c,h1,h2,by grind,rfl⟩,?_⟩
   rintro n w (⟨x,hx,q1,q2,q3⟩|⟨q1,q2,q3⟩)
   .rcases List.mem_append.1 hx with hx|hx
    .exact⟨x,List.mem_append_left _ hx,q1,q2,q3⟩
    .rw[List.mem_singleton]at hx;subst hx;exact⟨_,List.mem_append_right _ (List.mem_singleton.2 rfl),q1,by grind,q3⟩
   .exact⟨_,List.mem_append_right _ (List.mem_singleton.2 rfl),by grind,q2,by simp_all⟩
  .rw[if_neg hw];refine⟨xG.app.2 ⟨s.fr,h,rfl,hs,rfl⟩,?_⟩;rintro n w (⟨x,hx,q⟩|q)
   .exact⟨x,List.mem_append_left _ hx,q⟩
   .exact⟨s,List.mem_append_right _ (List.mem_singleton.2 rfl),q⟩
def qlu:∀{m l:List Sp} {a b c:Int},xG l a b->xG m b c->xG (m.foldl jK l) a c/\∀n w,Cov l n w\/Cov m n w->Cov (m.foldl jK l) n w
 | [],l,a,b,c,h1,h2=>by
  simp only[xG]at h2;subst h2;refine⟨h1,?_⟩;rintro n w (h|⟨x,hx,_⟩)
  all_goals simp_all
 | s::m,l,a,b,c,h1,h2=>by
  obtain⟨h3,h4,h5⟩:=h2;obtain⟨p1,p2⟩:=qsV (s:=s) (by rw[h3];exact h1) (by omega);obtain⟨q1,q2⟩:=qlu p1 h5;refine⟨q1,?_⟩;rintro n w (h|⟨x,hx,hq⟩)
  .simp_all
  .rcases List.mem_cons.1 hx with rfl|hx
   .simp_all
   .exact q2 n w (.inr ⟨x,hx,hq⟩)
def Ups:List (Int×Nat)->Int->Prop
 | [],_=>True
 | x::l,a=>a<=x.1/\x.1<4294967296/\Ups l (x.1+1)
def qnf{o:Nat}:∀{l:List (Int×Nat)} {a:Int},Ups l a->0<=a->a<=4294967296->xG (pcs o l a) a 4294967296/\(∀x ∈ l,Cov (pcs o l a) x.1 x.2)/\∀n:Int,a<=n->n<4294967296->(∀x ∈ l,x.1≠n)->Cov (pcs o l a) n o
 | [],a,_,h0,h1=>by
  unfold pcs;refine⟨?_,by simp_all,λn h2 h3 _=>?_⟩
  .split
   .exact⟨rfl,by grind,by simp only[xG];omega⟩
   .simp only[xG];omega
  .rw[if_pos (by omega)];exact⟨_,List.mem_singleton.2 rfl,h2,by simp only;omega,rfl⟩
 | x::l,a,hu,h0,h1=>by
  obtain⟨u1,u2,u3⟩:=hu;obtain⟨c1,c2,c3⟩:=qnf (o:=o) u3 (by omega) (by omega);unfold pcs
  have app:∀(b:Bool),(b=true↔a<x.1)->xG ((if a<x.1 then [⟨a,x.1-1,o⟩]else [])++⟨x.1,x.1,x.2⟩::pcs o l (x.1+1)) a 4294967296:=λ_ _=>by
   by_cases h:a<x.1
   .rw[if_pos h];exact⟨rfl,by grind,by simp_all,by simp_all,c1⟩
   .rw[if_neg h];exact⟨by grind,by omega,c1⟩
  refine⟨app (decide (a<x.1)) (by simp),λy hy=>?_,λn h2 h3 h4=>?_⟩
  .rcases List.mem_cons.1 hy with rfl|hy
   .exact⟨_,List.mem_append_right _ (List.mem_cons_self ..),Int.le_refl _,Int.le_refl _,rfl⟩
   .obtain⟨s,hs,hq⟩:=c2 y hy;exact⟨s,List.mem_append_right _ (List.mem_cons_of_mem _ hs),hq⟩
  .have hx:=h4 x (by simp_all);rcases Int.lt_or_gt_of_ne hx with h|h
   .obtain⟨s,hs,hq⟩:=c3 n (by omega) h3 (by grind);exact⟨s,List.mem_append_right _ (List.mem_cons_of_mem _ hs),hq⟩
   .rw[if_pos (by omega)];exact⟨_,List.mem_append_left _ (List.mem_singleton.2 rfl),h2,by simp only;omega,rfl⟩
def qpS{o:Nat}{m:Nat}(ho:o<m):∀{l:List (Int×Nat)} {a:Int},(∀x ∈ l,x.2<m)->∀s ∈ pcs o l a,s.way<m
 | [],a,_,s,hs=>by
  unfold pcs at hs;simp_all
 | x::l,a,h,s,hs=>by
  unfold pcs at hs;rcases List.mem_append.1 hs with hs|hs
  .simp_all
  .rcases List.mem_cons.1 hs with rfl|hs
   .simp_all
   .exact qpS ho (by grind) s hs
def qrZ{o:Nat}:∀{l:List (Int×Nat)} {a:Int},(pcs o l a).length<=2*l.length+1
 | [],a=>by unfold pcs;split<;>simp
 | x::l,a=>by
  have:=qrZ (o:=o) (l:=l) (a:=x.1+1);unfold pcs;split<;>simp<;>omega
def qw3{m:Nat}{l:List Sp}{s:Sp}(h:∀x ∈ l,x.way<m)(hs:s.way<m):∀x ∈ jK l s,x.way<m:=by
 intro x hx;unfold jK at hx
 grind
def qmX{m:Nat}:∀{k l:List Sp},(∀x ∈ l,x.way<m)->(∀x ∈ k,x.way<m)->(∀x ∈ k.foldl jK l,x.way<m)/\(k.foldl jK l).length<=l.length+k.length
 | [],l,h,_=>⟨h,by simp⟩
 | s::k,l,h,hk=>by
  obtain⟨q1,q2⟩:=qmX (k:=k) (qw3 h (hk s (List.mem_cons_self ..))) (by simp_all);have:=qmm (l:=l) (s:=s);exact⟨q1,by simp only[List.foldl_cons,List.length_cons];omega⟩
def qmO:∀{l:List Sp} {a:Int},xG l a 4294967296->qkQ l a=true
 | [],a,h=>by simp[xG]at h;simp[qkQ,h]
 | s::l,a,h=>by
  obtain⟨h1,h2,h3⟩:=h;unfold qkQ;rw[if_neg (by omega)];exact qmO h3
def qjX:∀{l:List Sp} {a b:Int},xG l a b->0<=a->b<=4294967296->SpR l
 | [],_,_,_,_,_=>λs hs=>by cases hs
 | s::l,a,b,h,h0,hb=>by
  obtain⟨h1,h2,h3⟩:=h;have:=h3.le;intro x hx;rcases List.mem_cons.1 hx with rfl|hx
  .omega
  .exact qjX h3 (by omega) hb x hx
def qAO{m:Nat}(n:Nat):∀(l:List Sp) (a:Nat),l.length<=n->0<l.length->(∀s ∈ l,s.way<m)->∀nd ∈ xd l a,(nd.leaf=true->nd.way<m)/\(nd.leaf=false->a<nd.less/\a<nd.more/\nd.less<a+(xd l a).length/\nd.more<a+(xd l a).length)/\nd.less<a+(xd l a).length/\nd.more<a+(xd l a).length:=by
 induction n with
 | zero=>omega
 | succ n ih =>
  intro l a h1 h2 hw nd hnd;have hlen:=qdA (n+1) l a h1 h2;rw[xd]at hnd
  by_cases hk:l.length / 2=0
  .rw[dif_pos hk]at hnd;rw[List.mem_singleton]at hnd;subst hnd;cases l<;>grind
  .rw[dif_neg hk]at hnd
   have e0:(xd l a).length=1+(xd (l.take (l.length / 2)) (a+1)).length+(xd (l.drop (l.length / 2)) (a+1+(xd (l.take (l.length / 2)) (a+1)).length)).length:=by
    grind[xd.eq_1]
   have hl1:=qdA n (l.take (l.length / 2)) (a+1) (by grind) (by grind);have hl2:=qdA n (l.drop (l.length / 2)) (a+1+(xd (l.take (l.length / 2)) (a+1)).length) (by grind) (by grind);simp at hl1 hl2;rcases List.mem_cons.1 hnd with rfl|hnd
   .refine⟨λh=>by grind,λ_=>?_,?_,?_⟩<;>simp only<;>(try refine(by omega))<;>omega
   .rcases List.mem_append.1 hnd with hnd|hnd
    .obtain⟨q1,q2,q3,q4⟩:=ih (l.take (l.length / 2)) (a+1) (by simp;omega) (by simp;omega) (by grind) nd hnd
     grind
    .obtain⟨q1,q2,q3,q4⟩:=ih (l.drop (l.length / 2)) _ (by simp;omega) (by simp;omega) (by grind) nd hnd
     grind
def wdD(d:GData)(k:Int):Int:=(qad d).getD (k / 4).toNat 0
inductive Ev (R:List Sy) (d:GData):Nat->Int->Int->Prop where
 | ld (p:Nat) (a r:Int) (s:Sy) (h:R[p]?=some s) (hc:s.code=32) (hn:Ev R d (p+1) (wdD d s.k) r):Ev R d p a r
 | an (p:Nat) (a r:Int) (s:Sy) (h:R[p]?=some s) (hc:s.code=84) (hn:Ev R d (p+1) (qcO .u32 a s.k) r):Ev R d p a r
 | rt (p:Nat) (a:Int) (s:Sy) (h:R[p]?=some s) (hc:s.code=6):Ev R d p a s.k
 | ja (p:Nat) (a r:Int) (s:Sy) (h:R[p]?=some s) (hc:s.code=5) (hn:Ev R d s.th a r):Ev R d p a r
 | jc (p:Nat) (a r:Int) (s:Sy) (h:R[p]?=some s) (hc:qfX s.code) (hn:Ev R d (if qfg s.code a s.k=true then s.th else s.el) a r):Ev R d p a r
def qcv(l:List Sy)(p n:Nat):Prop:=∀(j:Nat) s,l[j]?=some s->qfo s (p+j) n
def qcv.app{l m:List Sy}{p n:Nat}(h1:qcv l p n)(h2:qcv m (p+l.length) n):qcv (l++m) p n:=by
 intro j s hj;rw[List.getElem?_append]at hj;split at hj
 .exact h1 j s hj
 .rename_i hlt;have:=h2 _ s hj;rw[show p+l.length+(j-l.length)=p+j by omega]at this;omega
theorem qcv.nil{p n:Nat}:qcv [] p n:=λj s h=>by grind
theorem qcv.cons{s:Sy}{l:List Sy}{p n:Nat}(h1:qfo s p n)(h2:qcv l (p+1) n):qcv (s::l) p n:=by
 intro j x hj;cases j with
 | zero=>simp_all
 | succ j=>have:=h2 j x (by simpa using hj);rw[show p+1+j=p+(j+1)by omega]at this;omega
def qxL(n:Nat):∀(l:List Sp) (a:Nat),l.length<=n->0<l.length->∀(i:Nat) nd,(xd l a)[i]?=some nd->nd.leaf=false->a+i<nd.less/\a+i<nd.more:=by
 induction n with
 | zero=>omega
 | succ n ih =>
  intro l a h1 h2 i nd hnd hl;rw[xd]at hnd
  by_cases hk:l.length / 2=0
  .rw[dif_pos hk]at hnd
   grind
  .rw[dif_neg hk]at hnd;have hl1:=qdA n (l.take (l.length / 2)) (a+1) (by grind) (by grind);cases i with
   | zero=>grind
   | succ i =>
    rw[List.getElem?_cons_succ,List.getElem?_append]at hnd;split at hnd
    .have:=ih (l.take (l.length / 2)) (a+1) (by grind) (by omega) i nd hnd hl;omega
    .rename_i hge;have:=ih (l.drop (l.length / 2)) _ (by grind) (by grind) _ nd hnd hl;omega
def qlj{T:List Nd}:∀{i:Nat} {nd:Nd},T[i]?=some nd->jo (T.take (i+1))=jo (T.take i)+if nd.leaf=true then 0 else 1:=by
 intro i nd h;unfold jo;rw[qbu h,List.countP_append];cases h2:nd.leaf<;>simp[h2]
def qli{T:List Nd}{i j:Nat}(h:i<=j):jo (T.take i)<=jo (T.take j):=by
 have:T.take i=(T.take j).take i:=by rw[List.take_take,Nat.min_eq_left h]
 rw[this];unfold jo
 grind[List.take_append_drop]
section
variable {R:List Sy} {d:GData} {p F:Nat} {r:Int}
def qyO{v m:Int}(hv:0<=v/\v<18446744073709551616)(h:qeH .u64 v m=0):qcO .u64 v m=v:=by
 obtain⟨a,rfl⟩:=Int.eq_ofNat_of_zero_le hv.1;have h1:IntKind.wrap .u64 (((BitVec.ofInt 64 (a:Int)) &&& ~~~ (BitVec.ofInt 64 m)).toNat:Int)=0:=h;have hlt:=((BitVec.ofInt 64 (a:Int)) &&& ~~~ (BitVec.ofInt 64 m)).isLt;rw[qeF (by omega) (by omega)]at h1;have h2:(BitVec.ofInt 64 (a:Int)) &&& ~~~ (BitVec.ofInt 64 m)=0#64:=BitVec.eq_of_toNat_eq (by simp_all)
 have bv:∀X Y:BitVec 64,X &&& ~~~ Y=0#64->X &&& Y=X:=λX Y h2=>by
  apply BitVec.eq_of_getLsbD_eq;intro i hi;have:=congrArg (λb=>b.getLsbD i) h2
  grind
 have h3:=bv _ _ h2;show IntKind.wrap .u64 (((BitVec.ofInt 64 (a:Int)) &&& (BitVec.ofInt 64 m)).toNat:Int)=_;rw[h3,BitVec.ofInt_natCast,BitVec.toNat_ofNat,Nat.mod_eq_of_lt (by omega),qeF (by omega) (by omega)]
structure TstG (t:GTest):Prop where
 ok:TstOk t
 sub:qcO .u64 t.val t.mask=t.val
theorem qpn{k m v:Int}{n:Nat}(hk:k % 4=0/\0<=k/\k<64)(h1:p+qef m<n)(h2:p+qef m<=F)(h3:F<n):qcv (qff k m v p F) p n:=by
 unfold qff qef at *;split
 .exact .nil
 .rename_i m0;rw[if_neg m0]at h1 h2;split
  .rename_i m1;rw[if_pos m1]at h1 h2;refine .cons (.inl (by simp_all)) (.cons (.inr (.inr (.inr ⟨.inl rfl,?_,?_,?_,?_⟩))) .nil)<;>simp only<;>omega
  .rename_i m1;rw[if_neg m1]at h1 h2;refine .cons (.inl (by simp_all)) (.cons (.inr (by simp_all)) (.cons (.inr (.inr (.inr ⟨.inl rfl,?_,?_,?_,?_⟩))) .nil))<;>simp only<;>omega
def qxG{t:GTest}{n:Nat}(ht:TstOk t)(h:p+qb3 t<n):qcv (qjM t p) p n:=by
 have h0:=ht.a0;have h6:=ht.a1;unfold qjM;have e:qb3 t=qef (loW t.mask)+qef (hiW t.mask)+1:=rfl;refine .app (.app (qpn (by omega) (by omega) (by omega) h) ?_) ?_
 .rw[qhz];grind[qpn]
 .exact .cons (.inr (by simp_all)) .nil
def qnw:∀{ts:List GTest} {a:Int} {p n:Nat},(∀t ∈ ts,TstOk t)->p+qc6 ts<n->qcv (qd5 ts a p) p n
 | [],_,_,_,_,_=>.cons (.inr (by simp_all)) .nil
 | t::ts,a,p,n,ht,h=>by
  unfold qc6 at h;unfold qd5;refine .app (qxG (by simp_all) (by omega)) ?_;rw[qhI]
  by_cases hm:t.mask=0
  .rw[if_pos hm];exact .nil
  .rw[if_neg hm]at h ⊢;exact qnw (by simp_all) (by omega)
theorem qnm:∀{rs:List GRule} {p n:Nat},(∀r ∈ rs,∀t ∈ r.tests,TstOk t)->p+zY rs<n->qcv (xF rs p) p n
 | [],_,_,_,_=>.nil
 | r::rs,p,n,ht,h=>by
  have e:zY (r::rs)=qp3 r+zY rs:=by simp[zY]
  unfold xF;refine .app (qnw (by simp_all) (by have:qc6 r.tests=qp3 r:=rfl;omega)) ?_;rw[qp2];exact qnm (by grind) (by omega)
end
structure FilG (x:GFil):Prop where
 a0:0<=x.arch
 a6:x.arch<6
 n:x.rules.length<=400
 t32:∀r ∈ x.rules,r.tests.length<=32
 ts:∀r ∈ x.rules,∀t ∈ r.tests,TstG t
 nr:∀r ∈ x.rules,0<=r.nr/\r.nr<4294967296
 up:∃o,o=(none:Option GRule)/\upR o x.rules=true
def qt9{t:GTest}(h:qb2 t=true)(hm:0<=t.mask/\t.mask<18446744073709551616)(hv:0<=t.val/\t.val<18446744073709551616):TstG t:=by
 have ha:=qnv h;simp only[qb2,zzB,decide_eq_true_eq]at h;exact⟨⟨ha.1,ha.2,hm.1,hm.2,hv.1,hv.2⟩,qyO hv h.1.2⟩
def FilG.of{x:GFil}(hK:jY x=true)(hx:FilR x):FilG x:=by
 simp only[jY,zzB,decide_eq_true_eq]at hK;obtain⟨⟨⟨⟨k1,k2⟩,k3⟩,k4⟩,k5⟩:=hK;have hr:=qj1 k5;refine⟨k1,k2,k3,λr h=>?_,λr h t ht=>?_,hx.nr,none,rfl,k5⟩
 .have:=hr r h;simp only[qb1,zzB,decide_eq_true_eq]at this;omega
 .have:=hr r h;simp only[qb1,zzB,List.all_eq_true]at this;have q:=hx.ts r h t ht
  simp_all[qt9]
def qnA:∀{rs:List GRule} {o:Option GRule} {k:Nat} {a:Int},upR o rs=true->(∀r ∈ rs,0<=r.nr/\r.nr<4294967296)->(match o with|none=>a=0|some b=>a=b.nr+1)->Ups (rs.mapIdx λi r=>(r.nr,i+k)) a
 | [],_,_,_,_,_,_=>by simp[Ups]
 | r::rs,o,k,a,h,hn,ha=>by
  simp only[upR,zzB]at h;obtain⟨⟨_,h1⟩,h2⟩:=h;rw[List.mapIdx_cons];have hr:=hn r (by simp_all);refine⟨?_,hr.2,?_⟩
  .grind
  .have:=qnA (o:=some r) (k:=k+1) (a:=r.nr+1) h2 (by simp_all) rfl
   grind
def FilG.ups{x:GFil}(h:FilG x):Ups (qR x.rules) 0:=by
 obtain⟨o,rfl,hu⟩:=h.up;exact qnA hu h.nr rfl
def qnz:∀{l:List (Int×Nat)} {a:Int},Ups l a->qxp l
 | [],_,_,i,x,y,h,_=>by grind
 | [x],_,_,i,y,z,h1,h2=>by grind
 | x::y::l,a,⟨h1,h2,h3⟩,i,u,v,hu,hv=>by
  cases i with
  | zero=>simp at hu hv;subst hu hv;have:=h3.1;omega
  | succ i=>exact qnz h3 i u v (by simp_all) (by simp_all)
section
variable {x:GFil}
def FilG.spans(h:FilG x):xG (xb (pcs 0 (qR x.rules) 0)) 0 4294967296/\(∀(i:Nat) r,x.rules[i]?=some r->Cov (xb (pcs 0 (qR x.rules) 0)) r.nr (i+1))/\(∀n:Int,0<=n->n<4294967296->(∀r ∈ x.rules,r.nr≠n)->Cov (xb (pcs 0 (qR x.rules) 0)) n 0) /\
  (∀s ∈ xb (pcs 0 (qR x.rules) 0),s.way<x.rules.length+1)/\(xb (pcs 0 (qR x.rules) 0)).length<=2*x.rules.length+1:=by
 obtain⟨c1,c2,c3⟩:=qnf (o:=0) h.ups (by omega) (by omega);obtain⟨f1,f2⟩:=qlu (l:=[]) (a:=0) rfl c1
 have hw:∀y ∈ qR x.rules,y.2<x.rules.length+1:=λy hy=>by
  grind[List.getElem?_of_mem,qdx]
 obtain⟨g1,g2⟩:=qmX (m:=x.rules.length+1) (k:=pcs 0 (qR x.rules) 0) (l:=[]) (by simp_all) (qpS (by omega) hw);have hl:=qrZ (o:=0) (l:=qR x.rules) (a:=0);refine⟨f1,λi r hr=>?_,λn h0 h1 hn=>?_,g1,?_⟩
 .have hm:(r.nr,i+1) ∈ qR x.rules:=zzM (i:=i) (by rw[qdx,hr];rfl);exact f2 _ _ (.inr (c2 _ hm))
 .refine f2 _ _ (.inr (c3 n h0 h1 λy hy=>?_))
  grind[List.getElem?_of_mem,qdx]
 .rw[qcl]at hl;simp only[List.length_nil]at g2;show(List.foldl jK [] (pcs 0 (qR x.rules) 0)).length<=_;omega
def FilG.pos(h:FilG x):0<(xb (pcs 0 (qR x.rules) 0)).length:=by
 obtain⟨c,_⟩:=h.spans;rcases Nat.eq_zero_or_pos (xb (pcs 0 (qR x.rules) 0)).length with h0|h0
 .rw[List.eq_nil_of_length_eq_zero h0]at c;simp[xG]at c
 omega
def FilG.tlen(h:FilG x):(zo x).length+1=2*(xb (pcs 0 (qR x.rules) 0)).length:=qdA _ _ 0 (zzL _) h.pos
def qmI(n:Nat):∀(l:List Sp) (a:Nat),l.length<=n->0<l.length->jo (xd l a)+1=l.length:=by
 induction n with
 | zero=>omega
 | succ n ih =>
  intro l a h1 h2;rw[xd]
  by_cases hk:l.length / 2=0
  .rw[dif_pos hk];simp[jo];omega
  .rw[dif_neg hk];have e1:=ih (l.take (l.length / 2)) (a+1) (by simp;omega) (by simp;omega);have e2:=ih (l.drop (l.length / 2)) (a+1+(xd (l.take (l.length / 2)) (a+1)).length) (by simp;omega) (by simp;omega);simp only[jo,List.countP_cons,List.countP_append]at e1 e2 ⊢
   grind
def FilG.dfl(h:FilG x):qbv x<=4+max 1 (2*x.rules.length)/\(zo x).length<=4*x.rules.length+1:=by
 have ha:=qmI _ (xb (pcs 0 (qR x.rules) 0)) 0 (zzL _) h.pos;have ht:=h.tlen;have hl:=h.spans.2.2.2.2;have ho:=qrW (a:=x.arch);have e:jo (zo x)+1=(xb (pcs 0 (qR x.rules) 0)).length:=ha
 have hj:jaN (zo x)+jo (zo x)<=max 1 (2*x.rules.length):=by
  have hj1:jaN (zo x)<=1:=by cases zo x with
   | nil=>simp[jaN]
   | cons n T=>simp only[jaN];split<;>omega
  have hj2:2<=(xb (pcs 0 (qR x.rules) 0)).length->jaN (zo x)=0:=λh2=>by
   unfold zo;rw[xd,dif_neg (by omega)];rfl
  omega
 unfold qbv;omega
def FilG.tne(h:FilG x):zo x≠[]:=λe=>by have:=h.tlen;rw[e]at this;grind
def FilG.nodes(h:FilG x):∀nd ∈ zo x,NdOk (x.rules.length+1) (zo x).length nd:=λnd hnd=>by
 obtain⟨q1,q2,q3,q4⟩:=qAO _ _ 0 (zzL _) h.pos h.spans.2.2.2.1 nd hnd;rw[Nat.zero_add]at q3 q4;exact⟨q1,q3,q4⟩
end
section
variable {x:GFil}
def qmt{j:Nat}:qbv x<=qaH x j/\qaH x j<=jR x:=by
 unfold qaH jR;have:=qkI (rs:=x.rules) (i:=j-1);split<;>omega
def qEk{a:Int}{F n:Nat}(h1:4<n)(h2:4<=F)(h3:F<n):qcv (qc3 a 0 F) 0 n:=by
 unfold qc3;refine .app (.cons (.inl (by simp_all)) (.cons (.inr (.inr (.inr ⟨.inl rfl,?_,?_,?_,?_⟩))) (.cons (.inl (by simp_all)) .nil))) ?_
 .simp_all
 .grind
 .grind
 .omega
 .show qcv _ (0+3) n;split
  .refine .cons (.inr (.inr (.inr ⟨.inr (.inr (.inr rfl)),?_,?_,?_,?_⟩))) .nil<;>simp only<;>omega
  .split
   .refine .cons (.inr (.inr (.inr ⟨.inr (.inr (.inr rfl)),?_,?_,?_,?_⟩))) .nil<;>simp only<;>omega
   .exact .nil
def quE{FW:Nat->Nat}{T:List Nd}{b n:Nat}(hF:∀j,b+jo T<=FW j/\FW j<n)(hfw:∀(i:Nat) nd,T[i]?=some nd->nd.leaf=false->i<nd.less/\i<nd.more/\nd.less<T.length/\nd.more<T.length)(hbn:b+jo T<n) :
  ∀(u:List Nd) (k:Nat),T.drop k=u->qcv (u.flatMap (qmC FW T b)) (b+jo (T.take k)) n
 | [],_,_=>.nil
 | nd::u,k,h=>by
  have hk:T[k]?=some nd:=by rw[<- List.head?_drop,h];rfl
  have hu:T.drop (k+1)=u:=by rw[<- List.tail_drop,h];rfl
  have ih:=quE hF hfw hbn u (k+1) hu;rw[qlj hk]at ih;rw[List.flatMap_cons];cases hl:nd.leaf with
  | true =>
   have e:qmC FW T b nd=[]:=by simp[qmC,hl]
   rw[hl]at ih;rw[e];simp_all
  | false =>
   have e:qmC FW T b nd=[⟨53,nd.at',plc FW T b nd.more,plc FW T b nd.less⟩]:=by simp[qmC,hl]
   rw[hl]at ih;simp only[Bool.false_eq_true,if_false]at ih ⊢;rw[e,List.singleton_append]
   have key:∀j,k<j->j<T.length->b+jo (T.take k)<plc FW T b j/\plc FW T b j<n:=λj h1 h2=>by
    have h3:jo (T.take (k+1))<=jo (T.take j):=qli h1
    have h4:jo (T.take j)<=jo T:=by
     have:=qli (T:=T) (i:=j) (j:=T.length) (by omega);rwa [List.take_length]at this
    rw[qlj hk,hl]at h3;simp only[Bool.false_eq_true,if_false]at h3;unfold plc;rw[zzE h2]
    grind
   obtain⟨f1,f2,f3,f4⟩:=hfw k nd hk hl;obtain⟨m1,m2⟩:=key nd.more f2 f4;obtain⟨l1,l2⟩:=key nd.less f1 f3;exact .cons (.inr (.inr (.inr ⟨.inr (.inr (.inl rfl)),m1,m2,l1,l2⟩))) (by rw[Nat.add_assoc];exact ih)
def FilG.fwd(h:FilG x):∀(i:Nat) nd,(zo x)[i]?=some nd->nd.leaf=false->i<nd.less/\i<nd.more/\nd.less<(zo x).length/\nd.more<(zo x).length:=λi nd hi hl=>by
 obtain⟨q1,q2⟩:=qxL _ _ 0 (zzL _) h.pos i nd hi hl;have:=h.nodes nd (by grind);exact⟨by omega,by omega,this.less,this.more⟩
def qvf(h:FilG x):qcv (zN x) 0 (jR x+1):=by
 have hd:qbv x=qdZ x.arch+(jaN (zo x)+jo (zo x)):=rfl;have hN:jR x=qbv x+1+zY x.rules:=rfl;have ho:3<=qdZ x.arch/\qdZ x.arch<=4:=by unfold qdZ;grind
 have hpos:0<jaN (zo x)+jo (zo x):=by
  have ha:=qmI _ (xb (pcs 0 (qR x.rules) 0)) 0 (zzL _) h.pos;have e:jo (zo x)+1=(xb (pcs 0 (qR x.rules) 0)).length:=ha
  by_cases h2:2<=(xb (pcs 0 (qR x.rules) 0)).length
  .omega
  .have hj:jaN (zo x)=1:=by unfold zo;rw[xd,dif_pos (by have:=h.pos;omega)];rfl
   omega
 have ht:∀r ∈ x.rules,∀t ∈ r.tests,TstOk t:=by grind[TstG.ok,FilG.ts]
 unfold zN;refine .app (.app (.app (.app (qEk (by omega) (by omega) (by omega)) ?_) ?_) ?_) ?_
 .rw[qcH,Nat.zero_add];unfold jM;refine .app ?_ ?_
  .cases hT:zo x with
   | nil=>exact .nil
   | cons nd T =>
    simp only[jaE];split
    .rename_i hl;rw[hT]at hd;simp only[jaN,if_pos hl]at hd;have:=(qmt (x:=x) (j:=nd.way)).1;have:=(qmt (x:=x) (j:=nd.way)).2;exact .cons (.inr (.inr (.inl ⟨rfl,rfl,rfl,by grind,by grind⟩))) .nil
    .exact .nil
  .rw[qrG];have:=quE (FW:=qaH x) (T:=zo x) (b:=qdZ x.arch+jaN (zo x)) (n:=jR x+1) (λj=>by have:=qmt (x:=x) (j:=j);omega) h.fwd (by omega) (zo x) 0 rfl
   unfold brE;simpa[jo]using this
 .refine .cons (.inr (by simp_all)) .nil
 .have e:0+(qc3 x.arch 0 (jR x)++jM (qaH x) (zo x) (qdZ x.arch)++[(⟨6,x.dflt,0,0⟩:Sy)]).length=qbv x+1:=by
   simp only[zzP,qcH,qcw,List.length_singleton];unfold qbv;omega
  rw[e]
  grind[qnm]
 .refine .cons (.inr (by simp_all)) .nil
def FilG.rN(h:FilG x):zY x.rules<=x.rules.length*225:=qkj h.t32
def qgy(h:FilG x):MayL (zN x):=by
 have hl:=qs2 (x:=x);have hd:=h.dfl.1;have hr:=h.rN;have hn:=h.n;have hN:jR x=qbv x+1+zY x.rules:=rfl;refine⟨by omega,by omega,⟨⟨6,2147418112,0,0⟩,?_,rfl⟩,λj s hj=>?_⟩
 .rw[hl]
  have e:jR x+1-1=(qc3 x.arch 0 (jR x)++jM (qaH x) (zo x) (qdZ x.arch)++[(⟨6,x.dflt,0,0⟩:Sy)]++xF x.rules (qbv x+1)).length:=by
   simp only[zzP,qcH,qcw,List.length_singleton,qcn];unfold jR qbv;omega
  rw[e];unfold zN;simp
 .have:=qvf h j s hj;rw[hl,Nat.zero_add]at *;omega
end
section
variable {R:List Sy} {d:GData} {r:Int}
end
def qdi{c:Int}(h:qfX c):qn c=4/\c≠5/\c≠6:=by
 rcases h with rfl|rfl|rfl|rfl<;>decide
def qhw:qn 32=1/\qn 84=3/\qn 6=5/\qn 5=4:=by decide
section
variable {l R:List Sy} {d:GData} {r:Int}
def qfo.ja{s:Sy}{j n:Nat}(h:qfo s j n)(h5:s.code=5):s.k=0/\s.el=0/\j<s.th/\s.th<n:=by
 rcases h with⟨q,_⟩|⟨q,_⟩|⟨_,q⟩|⟨q,_⟩
 all_goals simp_all[qdi]
def qfo.jc{s:Sy}{j n:Nat}(h:qfo s j n)(ha:qfX s.code):j<s.th/\s.th<n/\j<s.el/\s.el<n:=by
 have h5:=qdi ha;unfold qfX at ha;rcases h with⟨q,_⟩|⟨q,_⟩|⟨q,_⟩|⟨_,q⟩
 all_goals omega
def qfo.jmp{s:Sy}{j n:Nat}(h:qfo s j n)(hj:qbY s):s.code=5\/qfX s.code:=by
 unfold qbY at hj;obtain⟨c1,c2,c3,c4⟩:=qhw;rcases h with⟨q,_⟩|⟨q,_⟩|⟨q,_⟩|⟨q,_⟩
 all_goals grind
def qfo.ask{s:Sy}{j n:Nat}(h:qfo s j n)(hj:qcP s):qfX s.code:=(h.jmp hj.1).resolve_left hj.2
def MayL.in(h:MayL l):qmF l:=by
 intro x hx j hj;obtain⟨i,hi⟩:=List.getElem?_of_mem hx;have hm:=h.all i x hi;rcases hj with⟨q,rfl⟩|⟨q,rfl⟩
 .rcases hm.jmp q with q|q
  .exact (hm.ja q).2.2.2
  .exact (hm.jc q).2.1
 .exact (hm.jc (hm.ask q)).2.2.2
def MayL.on(h:MayL l):qAT l:=by
 intro j x hx h6 h4;have hj:=(zzS.1 hx).1
 grind[MayL.last]
def MayL.hin(h:MayL l):∀x ∈ l,∀j:Nat,(x.code=5\/qn x.code=4)/\j=x.th\/(qn x.code=4/\x.code≠5)/\j=x.el->j<l.length:=by
 intro x hx j hj;refine h.in x hx j ?_
 rcases hj with⟨q,e⟩|q
 .refine .inl ⟨?_,e⟩;rcases q with q|q
  .unfold qbY;rw[q];exact qhw.2.2.2
  .exact q
 .exact .inr q
theorem Ev.at5{p:Nat}{a:Int}{s:Sy}(h:Ev R d p a r)(hs:R[p]?=some s)(h5:s.code=5):Ev R d s.th a r:=by
 cases h with
 | ld _ _ _ x hx hc=>rw[hs]at hx;simp_all
 | an _ _ _ x hx hc=>rw[hs]at hx;simp_all
 | rt _ _ x hx hc=>rw[hs]at hx;simp_all
 | ja _ _ _ x hx hc hn=>rw[hs]at hx;simp_all
 | jc _ _ _ x hx hc=>rw[hs]at hx;simp_all[qdi]
theorem qfN{to:Nat->Nat}{s:Sy}(h:¬qbY s):qbw to s=s:=by
 unfold qbw;rw[if_neg h,if_neg (λq=>h q.1)]
def qn7{to:Nat->Nat}{s:Sy}(h:s.code=5):qbw to s=⟨s.code,s.k,to s.th,s.el⟩:=by
 have hj:qbY s:=by unfold qbY;rw[h];exact qhw.2.2.2
 unfold qbw;rw[if_pos hj,if_neg (λq=>q.2 h)]
def qn8{to:Nat->Nat}{s:Sy}(h:qfX s.code):qbw to s=⟨s.code,s.k,to s.th,to s.el⟩:=by
 have hj:=qdi h;unfold qbw;rw[if_pos (show qbY s from hj.1),if_pos (show qcP s from⟨hj.1,hj.2.1⟩)]
theorem qc1{s:Sy}(h:s.code=32\/s.code=84\/s.code=6):¬qbY s:=by
 unfold qbY;rcases h with h|h|h<;>rw[h]<;>decide
theorem qpN{to:Nat->Nat}{s:Sy}{j n:Nat}(h:qfo s j n)(ht:∀q,j<q->q<n->j<to q/\to q<n):qfo (qbw to s) j n:=by
 rcases h with q|q|⟨q,q1,q2,q3,q4⟩|⟨q,q1,q2,q3,q4⟩
 .rw[qfN (qc1 (.inl q.1))];exact .inl q
 .rw[qfN (qc1 (.inr q.1))];exact .inr (.inl q)
 .rw[qn7 q];obtain⟨t1,t2⟩:=ht _ q3 q4;exact .inr (by simp_all)
 .rw[qn8 q];obtain⟨t1,t2⟩:=ht _ q1 q2;obtain⟨t3,t4⟩:=ht _ q3 q4;exact .inr (by simp_all)
-- shared
theorem qER(h:MayL l){j:Nat}(hj:j<l.length):j<=qio l j/\qio l j<l.length:=by
 unfold qio;rw[zzE hj];simp only;split
 .rename_i h6;obtain⟨i,y,q1,q2,q3,_⟩:=qm6 (zzE hj) h6;rw[q1];exact⟨q2,(zzS.1 q3).1⟩
 omega
theorem qAw{j:Nat}:(qhP l)[j]?=(l[j]?).map (qbw (qio l)):=by unfold qhP;rw[List.getElem?_map]
theorem qon:(qhP l).length=l.length:=by unfold qhP;rw[List.length_map]
def qsk(h:MayL l):MayL (qhP l):=by
 refine⟨by rw[qon];exact h.pos,by rw[qon];exact h.big,?_,λj s hj=>?_⟩
 all_goals grind[MayL.last,qon,qAw,qfN,qc1,qpN,MayL.all,qER]
def qFb(h:MayL R){j:Nat}(hj:j<R.length):j<=jk R j/\jk R j<R.length:=by
 unfold jk;rw[zzE hj];simp only;split
 .rename_i h5;have:=(h.all j _ (by simp_all)).ja h5;omega
 omega
theorem qqf(h:MayL R){i:Nat}{x:Sy}(hx:R[i]?=some x):qfo (qbj R x) i R.length/\((x.code=6)->qbj R x=x):=by
 have hm:=qpN (h.all i x hx) (to:=jk R) λq q1 q2=>by have:=qFb h q2;omega
 refine⟨?_,λh6=>?_⟩
 .unfold qbj;split
  .rename_i q;have ha:=hm.ask q.1;have:=hm.jc ha;exact .inr (by simp_all)
  omega
 .have e:=qfN (to:=jk R) (qc1 (s:=x) (.inr (.inr h6)));unfold qbj;rw[e,if_neg (λq=>qc1 (.inr (.inr h6)) q.1.1)]
theorem qxJ(h:MayL R){i:Nat}{x:Sy}(hx:R[i]?=some x):MayL (R.set i (qbj R x)):=by
 have hi:=(zzS.1 hx).1;refine⟨by rw[List.length_set];exact h.pos,by rw[List.length_set];exact h.big,?_,λj s hj=>?_⟩
 .obtain⟨s,hs,h6⟩:=h.last;refine⟨s,?_,h6⟩;rw[List.length_set,List.getElem?_set]
  by_cases e:i=R.length-1
  .rw[<- e,hx]at hs;cases hs;rw[if_pos e,if_pos (by omega),(qqf h hx).2 h6]
  .rw[if_neg e];exact hs
 grind[qqf,MayL.all]
theorem qAL(h:MayL R){i:Nat}{x:Sy}(hx:R[i]?=some x):∀{p:Nat} {a:Int},Ev R d p a r->Ev (R.set i (qbj R x)) d p a r:=by
 have hi:=(zzS.1 hx).1;have g:∀{p:Nat} {s:Sy},R[p]?=some s->p≠i->(R.set i (qbj R x))[p]?=some s:=λhs hp=>by rw[List.getElem?_set,if_neg (Ne.symm hp)];exact hs
 have gi:(R.set i (qbj R x))[i]?=some (qbj R x):=by rw[List.getElem?_set,if_pos rfl,if_pos hi]
 have hop:∀{t:Nat} {a:Int},i<t->t<R.length->Ev (R.set i (qbj R x)) d t a r->Ev (R.set i (qbj R x)) d (jk R t) a r:=λ{t a} h1 h2 he=>by
  unfold jk;rw[zzE h2]
  grind[Ev.at5]
 have gn:¬qbY x->(R.set i (qbj R x))[i]?=some x:=λq=>by
  rw[gi];unfold qbj;rw[qfN q,if_neg (λz=>q z.1.1)]
 intro p a he
 induction he with
 | ld p a r s hs hc _ ih =>
  by_cases e:p=i
  .subst e;rw[hx]at hs;cases hs;exact .ld _ _ _ x (gn (qc1 (.inl hc))) hc (ih hop)
  .exact .ld _ _ _ s (g hs e) hc (ih hop)
 | an p a r s hs hc _ ih =>
  by_cases e:p=i
  .subst e;rw[hx]at hs;cases hs;exact .an _ _ _ x (gn (qc1 (.inr (.inl hc)))) hc (ih hop)
  .exact .an _ _ _ s (g hs e) hc (ih hop)
 | rt p a s hs hc =>
  by_cases e:p=i
  .subst e;rw[hx]at hs;cases hs;exact .rt _ _ x (gn (qc1 (.inr (.inr hc)))) hc
  .exact .rt _ _ s (g hs e) hc
 | ja p a r s hs hc _ ih =>
  by_cases e:p=i
  .subst e;rw[hx]at hs;cases hs;have hm:=(h.all _ _ hx).ja hc
   have e1:qbj R x=⟨x.code,x.k,jk R x.th,x.el⟩:=by
    unfold qbj;rw[qn7 hc,if_neg (λz=>z.1.2 hc)]
   have gi2:=gi.trans (congrArg some e1);exact .ja _ _ _ _ gi2 hc (by simp_all)
  .exact .ja _ _ _ s (g hs e) hc (ih hop)
 | jc p a r s hs hc _ ih =>
  by_cases e:p=i
  .subst e;rw[hx]at hs;cases hs;have hm:=(h.all _ _ hx).jc hc;have ih:=ih hop
   have he:Ev (R.set p (qbj R x)) d (if qfg x.code a x.k=true then jk R x.th else jk R x.el) a r:=by
    grind
   have e0:=qn8 (to:=jk R) hc
   by_cases eq:jk R x.th=jk R x.el
   .have e1:qbj R x=⟨5,0,jk R x.th,0⟩:=by
     unfold qbj;rw[e0];exact if_pos ⟨⟨(qdi hc).1,(qdi hc).2.1⟩,eq⟩
    rw[<- eq,ite_self]at he;exact .ja _ _ _ _ (gi.trans (congrArg some e1)) rfl he
   .have e1:qbj R x=⟨x.code,x.k,jk R x.th,jk R x.el⟩:=by
     unfold qbj;rw[e0];simp_all
    exact .jc _ _ _ _ (gi.trans (congrArg some e1)) hc he
  .exact .jc _ _ _ s (g hs e) hc (ih hop)
theorem qqg:∀{m j:Nat},j+m<l.length->(qfU l m)[j]?=l[j]?
 | 0,_,_=>rfl
 | m+1,j,h=>by
  unfold qfU;split
  .rw[List.getElem?_set,if_neg (by omega)];exact qqg (by omega)
  grind
def qsn(h:MayL l):∀m,m<=l.length->MayL (qfU l m)/\∀{p:Nat} {a:Int},Ev l d p a r->Ev (qfU l m) d p a r
 | 0,_=>⟨h,λe=>e⟩
 | m+1,hm=>by
  obtain⟨h1,h2⟩:=qsn h m (by omega);have hx:l[l.length-(m+1)]?=some l[l.length-(m+1)]:=by simp_all
  unfold qfU;rw[hx]
  grind[qqg,qxJ,qAL]
def qso(h:MayL l):MayL (qq3 l):=(qsn (d:=⟨0,0,0,0,0,0,0,0,0⟩) (r:=0) h _ (zzL _)).1
end
def Suc(x:Sy)(j t:Nat):Prop:=(x.code≠6/\¬qbY x/\t=j+1)\/(qbY x/\t=x.th)\/(qcP x/\t=x.el)
def qJq{A:List Bool}{i j:Nat}(h:A[j]?=some true):(A.set i true)[j]?=some true:=by
 rw[List.getElem?_set]
 grind
def qEQ{A:List Bool}{i:Nat}(h:i<A.length):(A.set i true)[i]?=some true:=by
 rw[List.getElem?_set,if_pos rfl,if_pos h]
def qxv{A:List Bool}{i j:Nat}(h:j≠i):(A.set i true)[j]?=A[j]?:=by
 rw[List.getElem?_set,if_neg (Ne.symm h)]
theorem qmH{A:List Bool}{j m:Nat}{x:Sy}(h:A[j]?=some true):(qe6 A m x)[j]?=some true:=by
 unfold qe6
 grind
def qum{A:List Bool}{j t:Nat}{x:Sy}(h:A[j]?=some true)(hs:Suc x j t)(ht:t<A.length):(qe6 A j x)[t]?=some true:=by
 have h6:x.code≠6:=by
  rcases hs with q|⟨q,_⟩|⟨q,_⟩
  .omega
  .grind[qc1]
  .intro e;exact qc1 (.inr (.inr e)) q.1
 unfold qe6;rw[if_neg (by simp_all)];rcases hs with⟨_,q,rfl⟩|⟨q,rfl⟩|⟨q,rfl⟩
 .rw[if_pos (show qn x.code≠4 from q)];simp_all
 .rw[if_neg (λz:qn x.code≠4=>z q)]
  grind
 .rw[if_neg (λz:qn x.code≠4=>z q.1),if_pos q]
  simp_all
section
variable {l:List Sy} {d:GData} {r:Int}
def qsA(h:MayL l){A:List Bool}{j m:Nat}{x:Sy}(hx:l[m]?=some x)(hj:j<=m):(qe6 A m x)[j]?=A[j]?:=by
 unfold qe6;split
 .rfl
 .split
  .grind
  .rename_i q;have hq:qbY x:=Decidable.not_not.1 q;have hm:=h.all m x hx
   have hth:m<x.th:=by
    rcases hm.jmp hq with z|z
    .exact (hm.ja z).2.2.1
    .exact (hm.jc z).1
   split
   .rename_i q2;have:=hm.jc (hm.ask q2);rw[qxv (by omega),qxv (by omega)]
   grind
def qq1(h:MayL l){j t:Nat}{x:Sy}(hx:l[j]?=some x)(hs:Suc x j t):j<t/\t<l.length:=by
 have hm:=h.all j x hx;rcases hs with⟨q1,q2,rfl⟩|⟨q,rfl⟩|⟨q,rfl⟩
 .exact⟨by omega,h.on j x hx q1 q2⟩
 .rcases hm.jmp q with z|z
  .exact (hm.ja z).2.2
  .exact⟨(hm.jc z).1,(hm.jc z).2.1⟩
 .exact (hm.jc (hm.ask q)).2.2
def qoE(h:MayL l):∀m,m<=l.length->∀(j t:Nat) x,j<m->l[j]?=some x->Suc x j t->(wo l m)[j]?=some true->(wo l m)[t]?=some true
 | 0,_,j,t,x,hj,_,_,_=>by omega
 | m+1,hm,j,t,x,hj,hx,hs,ha=>by
  have hy:l[m]?=some l[m]:=by simp_all
  unfold wo at ha ⊢;rw[hy]at ha ⊢;simp only at ha ⊢;rw[qsA h hy (by omega)]at ha;rcases Nat.lt_or_ge j m with q|q
  .exact qmH (qoE h m (by omega) j t x q hx hs ha)
  .have e:j=m:=by omega
   subst e;rw[hy]at hx;cases hx;exact qum ha hs (by rw[qbx];exact(qq1 h hy hs).2)
def qoD(h:MayL l){j t:Nat}{x:Sy}(hx:l[j]?=some x)(hs:Suc x j t)(ha:(zT l)[j]?=some true):(zT l)[t]?=some true :=
 qoE h _ (zzL _) j t x (by grind) hx hs ha
def qBX(h:0<l.length):(zT l)[0]?=some true:=by
 have:∀m,(wo l m)[0]?=some true:=by
  intro m
  induction m with
  | zero=>exact qEQ (by simp_all)
  | succ m ih =>
   unfold wo;grind[qmH]
 exact this _
def qu3{A:List Bool}{i j:Nat}(h:i<=j):xH A i<=xH A j:=by
 unfold xH;have e:A.take i=(A.take j).take i:=by rw[List.take_take,Nat.min_eq_left h]
 rw[e]
 grind[List.take_sublist]
def qlw{A:List Bool}{i j:Nat}(ha:A[i]?=some true)(h:i<j):xH A i<xH A j:=by
 have h1:=qjY ha;have h2:=qu3 (A:=A) (i:=i+1) (j:=j) h;rw[if_pos rfl]at h1;omega
def qle{α:Type}:∀{A:List Bool} {l:List α} {q:Nat} {x:α},(qd1 A l)[q]?=some x->∃p,A[p]?=some true/\l[p]?=some x/\xH A p=q
 | [],_,_,_,h=>by simp[qd1]at h
 | _::_,[],_,_,h=>by simp[qd1]at h
 | c::A,y::l,q,x,h=>by
  cases c with
  | false =>
   obtain⟨p,h1,h2,h3⟩:=qle (A:=A) (l:=l) (q:=q) (x:=x) (by simpa[qd1]using h);refine⟨p+1,by simpa using h1,by simpa using h2,?_⟩
   unfold xH at h3 ⊢;rw[List.take_succ_cons,List.countP_cons];simp_all
  | true =>
   cases q with
   | zero=>simp[qd1]at h;subst h;exact⟨0,rfl,rfl,by simp[xH]⟩
   | succ q =>
    obtain⟨p,h1,h2,h3⟩:=qle (A:=A) (l:=l) (q:=q) (x:=x) (by simpa[qd1]using h);refine⟨p+1,by simpa using h1,by simpa using h2,?_⟩
    unfold xH at h3 ⊢;rw[List.take_succ_cons,List.countP_cons];simp_all
def qsh{α:Type}:∀{A:List Bool} {l:List α},A.length=l.length->(qd1 A l).length=xH A A.length
 | [],[],_=>rfl
 | [],_::_,h=>by grind
 | _::_,[],h=>by grind
 | c::A,y::l,h=>by
  have:=qsh (A:=A) (l:=l) (by simp_all);unfold xH at this ⊢;rw[List.length_cons,List.take_succ_cons,List.countP_cons];cases c<;>simp[qd1,this]
def qk4:(qiB l).length=xH (zT l) l.length:=by
 unfold qiB;have hA:(zT l).length=l.length:=qbx;rw[qsh (by rw[List.length_map,hA]),hA]
def qDn:(qiB l).length<=l.length:=by rw[qk4];exact qnS
def qzy(h:MayL l):MayL (qiB l):=by
 have hA:(zT l).length=l.length:=qbx;have h0:=qBX h.pos;have hp:0<(qiB l).length:=by rw[qk4];exact Nat.lt_of_le_of_lt (Nat.zero_le _) (qlw h0 h.pos)
 have idx:∀{q:Nat} {s:Sy},(qiB l)[q]?=some s->∃p x,(zT l)[p]?=some true/\l[p]?=some x/\xH (zT l) p=q/\s=qbw (xH (zT l)) x:=λ{q s} hq=>by
  obtain⟨p,h1,h2,h3⟩:=qle hq;rw[List.getElem?_map]at h2
  grind
 refine⟨hp,Nat.le_trans qDn h.big,?_,λj s hj=>?_⟩
 .obtain⟨p,x,q1,q2,q3,q4⟩:=idx (zzE (i:=(qiB l).length-1) (by omega));refine⟨_,zzE (by omega),?_⟩;rw[q4];show x.code=6;apply Decidable.byContradiction;intro h6
  have hs:∃t,Suc x p t:=by
   by_cases hj:qbY x
   .exact⟨_,.inr (.inl ⟨hj,rfl⟩)⟩
   .exact⟨_,.inl ⟨h6,hj,rfl⟩⟩
  obtain⟨t,ht⟩:=hs;have t1:=qq1 h q2 ht;have t2:=qoD h q2 ht q1;have t3:=qlw q1 t1.1;have t4:=qlw t2 t1.2;rw[<- qk4]at t4;omega
 .obtain⟨p,x,q1,q2,q3,rfl⟩:=idx hj;have hm:=h.all p x q2
  have go:∀t,Suc x p t->j<xH (zT l) t/\xH (zT l) t<(qiB l).length:=λt ht=>by
   have t1:=qq1 h q2 ht;have t2:=qoD h q2 ht q1;rw[qk4,<- q3];exact⟨qlw q1 t1.1,qlw t2 t1.2⟩
  rcases hm with q|q|⟨q,z1,z2,z3,z4⟩|⟨q,z1,z2,z3,z4⟩
  .rw[qfN (qc1 (.inl q.1))];exact .inl q
  .rw[qfN (qc1 (.inr q.1))];exact .inr (.inl q)
  .have hjm:qbY x:=by unfold qbY;rw[q];exact qhw.2.2.2
   rw[qn7 q];obtain⟨t1,t2⟩:=go x.th (.inr (by simp_all));exact .inr (by simp_all)
  .have ha:=qdi q;rw[qn8 q];obtain⟨t1,t2⟩:=go x.th (.inr (.inl ⟨ha.1,rfl⟩));obtain⟨t3,t4⟩:=go x.el (.inr (.inr ⟨⟨ha.1,ha.2.1⟩,rfl⟩));exact .inr (by simp_all)
def qk5(h:MayL l):MayL (qdm l):=qzy (qso (qsk h))
end
section
variable {p:List Ins} {d:GData} {q:Nat} {a r k:Int}
end
section
variable {l:List Sy} {d:GData} {r:Int}
def bl(l:List Sy)(m:Nat):Nat:=(zB l m).1.length
def qjr{m:Nat}{x:Sy}(h:l[l.length-(m+1)]?=some x):zB l (m+1)=((zB l m).1++(qa3 (bl l m) (zB l m).2 x).reverse,(zB l m).2.set (l.length-(m+1)) (bl l (m+1))):=by
 have e:zB l (m+1)=((zB l m).1++(qa3 (zB l m).1.length (zB l m).2 x).reverse,(zB l m).2.set (l.length-(m+1)) ((zB l m).1++(qa3 (zB l m).1.length (zB l m).2 x).reverse).length):=by
  conv=>lhs;unfold zB
  rw[h]
 have e2:bl l (m+1)=((zB l m).1++(qa3 (zB l m).1.length (zB l m).2 x).reverse).length:=by unfold bl;rw[e]
 rw[e2];exact e
def quD{m m':Nat}(h:m<=m'):∃R,(zB l m').1=(zB l m).1++R:=by
 induction m' with
 | zero=>rw[Nat.le_zero.1 h];simp_all
 | succ m' ih =>
  rcases Nat.lt_or_ge m' m with q|q
  .rw[show m=m'+1 by omega];simp_all
  .obtain⟨R,hR⟩:=ih q;cases hx:l[l.length-(m'+1)]? with
   | none =>
    refine⟨R,?_⟩
    conv=>lhs;unfold zB
    rw[hx];exact hR
   | some x=>rw[qjr hx];simp_all
def qnI{m m':Nat}(h:m<=m'):bl l m<=bl l m':=by
 obtain⟨R,hR⟩:=quD (l:=l) h;unfold bl;rw[hR,zzP];omega
def qGE{m:Nat}(hm:m<=l.length){j:Nat}(h1:l.length-m<=j)(h2:j<l.length):(zB l m).2.getD j 0=bl l (l.length-j):=by
 induction m with
 | zero=>omega
 | succ m ih =>
  have hx:l[l.length-(m+1)]?=some l[l.length-(m+1)]:=by simp_all
  rw[qjr hx,List.getD_eq_getElem?_getD,List.getElem?_set]
  grind[qjq]
def plL(l:List Sy)(j:Nat):Nat:=bl l l.length-bl l (l.length-j)
def cdL(l:List Sy)(j:Nat)(x:Sy):List Ins:=qa3 (bl l (l.length-(j+1))) (zB l (l.length-(j+1))).2 x
def qpA:(jJ l).length=bl l l.length:=by unfold jJ bl;rw[List.length_reverse]
def qk3{j:Nat}{x:Sy}(hx:l[j]?=some x):bl l (l.length-j)=bl l (l.length-(j+1))+(cdL l j x).length/\∃A B,jJ l=A++cdL l j x++B/\A.length=plL l j/\B.length=bl l (l.length-(j+1)):=by
 have hj:=(zzS.1 hx).1;have hx2:l[l.length-(l.length-(j+1)+1)]?=some x:=by rw[show l.length-(l.length-(j+1)+1)=j by omega];exact hx
 have h:=qjr hx2;have hm:l.length-(j+1)+1=l.length-j:=by omega
 rw[hm]at h;have h1:(zB l (l.length-j)).1=(zB l (l.length-(j+1))).1++(cdL l j x).reverse:=by rw[h];rfl
 obtain⟨R,hR⟩:=quD (l:=l) (m:=l.length-j) (m':=l.length) (by omega);have hb:bl l (l.length-j)=bl l (l.length-(j+1))+(cdL l j x).length:=by unfold bl;rw[h1,zzP,List.length_reverse]
 refine⟨hb,R.reverse,(zB l (l.length-(j+1))).1.reverse,?_,?_,?_⟩
 .unfold jJ;rw[hR,h1];simp
 .unfold plL bl;rw[hR,zzP,List.length_reverse];omega
 .rw[List.length_reverse];rfl
def dsL(l:List Sy)(j t:Nat):Nat:=bl l (l.length-(j+1))-bl l (l.length-t)
def qo1{j t:Nat}(h1:j<t)(h2:t<l.length):bl l (l.length-(j+1))-(zB l (l.length-(j+1))).2.getD t 0=dsL l j t:=by
 rw[qGE (by omega) (by omega) h2];rfl
end
def wn(l:List Sy):Prop:=∀x ∈ l,0<=x.k/\x.k<=4294967295
section
variable {l:List Sy}
def qAx(h:wn l):wn (qhP l):=by
 intro x hx;unfold qhP at hx;obtain⟨y,hy,rfl⟩:=List.mem_map.1 hx;exact h y hy
def qot(h:wn l):∀m,wn (qfU l m)
 | 0=>h
 | m+1=>by
  unfold qfU;split
  .rename_i x hx;intro y hy;rcases List.mem_or_eq_of_mem_set hy with hy|rfl
   .exact qot h m y hy
   .have hk:=h x (by grind);unfold qbj;split
    .simp_all
    .exact hk
  .exact qot h m
def qrU(h:wn l):wn (qdm l):=by
 intro x hx;unfold qdm qiB at hx;obtain⟨q,hq⟩:=List.getElem?_of_mem hx;obtain⟨p,_,h2,_⟩:=qle hq;rw[List.getElem?_map]at h2;obtain⟨y,hy,rfl⟩:=Option.map_eq_some_iff.1 h2;exact qot (qAx h) _ y (zzM hy)
def qri(h:MayL l):∀{m:Nat},m<=l.length->∀{b:Nat} {i:Ins},(zB l m).1[b]?=some i->∃(j:Nat) (x:Sy) (e:Nat),l[j]?=some x/\(cdL l j x)[e]?=some i/\b+e+1=bl l (l.length-j)
 | 0,_,b,i,hb=>by simp[zB]at hb
 | m+1,hm,b,i,hb=>by
  have hx:l[l.length-(m+1)]?=some l[l.length-(m+1)]:=by simp_all
  have hs:=qjr hx;have hcd:cdL l (l.length-(m+1)) l[l.length-(m+1)]=qa3 (bl l m) (zB l m).2 l[l.length-(m+1)]:=by unfold cdL;rw[show l.length-(l.length-(m+1)+1)=m by omega]
  have h1:(zB l (m+1)).1=(zB l m).1++(cdL l (l.length-(m+1)) l[l.length-(m+1)]).reverse:=by rw[hs,hcd]
  rw[h1,List.getElem?_append]at hb;split at hb
  .exact qri h (by omega) hb
  .rename_i hlt;have hbl:(zB l m).1.length=bl l m:=rfl;rw[hbl]at hlt hb;have hc:=(qk3 hx).1;rw[show l.length-(l.length-(m+1))=m+1 by omega,show l.length-(l.length-(m+1)+1)=m by omega]at hc
   have hlen:=(zzS.1 hb).1;rw[List.length_reverse]at hlen;rw[List.getElem?_reverse hlen]at hb
   grind
def qwg(h:MayL l){k:Nat}{i:Ins}(hk:(jJ l)[k]?=some i):∃(j:Nat) (x:Sy) (e:Nat),l[j]?=some x/\(cdL l j x)[e]?=some i/\(jJ l).length-1-k+e+1=bl l (l.length-j):=by
 have hl:=(zzS.1 hk).1;have e:=hk;unfold jJ at e;rw[List.getElem?_reverse (by grind)]at e;obtain⟨j,x,e,h1,h2,h3⟩:=qri h (zzL _) e;refine⟨j,x,e,h1,h2,?_⟩;rw[qpA];exact h3
structure LkOk (i:Ins) (n:Nat):Prop where
 ok:InsOk i
 one:qea i n=0
 c:i.code≠96/\i.code≠97
def qnJ(h:MayL l){t:Nat}(ht:t<l.length):0<bl l (l.length-t):=by
 have hx:l[t]?=some l[t]:=by simp_all
 have h1:=(qk3 hx).1;have h2:=(qpC (n:=bl l (l.length-(t+1))) (pl:=(zB l (l.length-(t+1))).2) (x:=l[t])).2;have:(cdL l t l[t]).length=(qa3 (bl l (l.length-(t+1))) (zB l (l.length-(t+1))).2 l[t]).length:=rfl;omega
def qrI{c k:Int}{n:Nat}(hc:c=32/\k % 4=0/\k<64\/c=84\/c=6)(hk:0<=k/\k<=4294967295):LkOk ⟨c,0,0,k⟩ n:=by
 have hc2:c=32\/c=84\/c=6:=by rcases hc with h|h|h<;>simp[h]
 have b1:xE c=true:=by rcases hc2 with rfl|rfl|rfl<;>decide
 have b2:qn c≠2/\qn c≠4:=by rcases hc2 with rfl|rfl|rfl<;>decide
 refine⟨⟨by grind,by grind,Int.le_refl 0,by simp_all,Int.le_refl 0,by simp_all,hk.1,hk.2⟩,?_,by grind⟩
 have a1:qip ⟨c,0,0,k⟩=false:=by simp[qip,b1]
 have a2:qhM ⟨c,0,0,k⟩=false:=by
  rcases hc with⟨h1,h2,h3⟩|h|h
  .simp[qhM,h2,show¬64<=k from by omega]
  .simp[qhM,h]
  .simp[qhM,h]
 have a3:qiT ⟨c,0,0,k⟩=false:=by simp[qiT,b2.1,show c≠96 from by omega,show c≠97 from by omega]
 have a4:qiU ⟨c,0,0,k⟩=false:=by simp[qiU,show c≠52 from by omega]
 have a5:qiV ⟨c,0,0,k⟩=false:=by simp[qiV,show c≠100 from by omega,show c≠116 from by omega]
 have a6:qiW ⟨c,0,0,k⟩ n=false:=by simp[qiW,b2.2,show c≠5 from by omega]
 simp[qea,a1,a2,a3,a4,a5,a6]
theorem qwj{k n:Nat}(h:k<n)(hn:k<=1000000):LkOk ⟨5,0,0,(k:Int)⟩ n:=by
 refine⟨⟨by simp_all,by simp_all,Int.le_refl 0,by simp_all,Int.le_refl 0,by simp_all,by simp_all,by grind⟩,?_,by simp_all⟩
 have a1:qip ⟨5,0,0,k⟩=false:=by
  have:xE 5=true:=by decide
  simp[qip,this]
 have a2:qhM ⟨5,0,0,k⟩=false:=by simp[qhM]
 have a3:qiT ⟨5,0,0,k⟩=false:=by
  have:qn 5≠2:=by decide
  simp[qiT,this]
 have a4:qiU ⟨5,0,0,k⟩=false:=by simp[qiU]
 have a5:qiV ⟨5,0,0,k⟩=false:=by simp[qiV]
 have a6:qiW ⟨5,0,0,k⟩ n=false:=by simp[qiW];omega
 simp[qea,a1,a2,a3,a4,a5,a6]
theorem qBn{c k:Int}{jt jf n:Nat}(hc:qfX c)(hk:0<=k/\k<=4294967295)(h1:jt<=255)(h2:jf<=255)(h3:jt<n)(h4:jf<n):LkOk ⟨c,jt,jf,k⟩ n:=by
 have b1:xE c=true:=by rcases hc with rfl|rfl|rfl|rfl<;>decide
 have b2:qn c≠2:=by rw[(qdi hc).1];decide
 have b3:c≠32/\c≠96/\c≠97/\c≠52/\c≠100/\c≠116/\c≠5/\0<=c/\c<=65535:=by rcases hc with rfl|rfl|rfl|rfl<;>decide
 refine⟨⟨b3.2.2.2.2.2.2.2.1,b3.2.2.2.2.2.2.2.2,by simp_all,by grind,by simp_all,by grind,hk.1,hk.2⟩,?_,by simp_all⟩
 have a1:qip ⟨c,jt,jf,k⟩=false:=by simp[qip,b1]
 have a2:qhM ⟨c,jt,jf,k⟩=false:=by simp[qhM,b3.1]
 have a3:qiT ⟨c,jt,jf,k⟩=false:=by simp[qiT,b2,b3.2.1,b3.2.2.1]
 have a4:qiU ⟨c,jt,jf,k⟩=false:=by simp[qiU,b3.2.2.2.1]
 have a5:qiV ⟨c,jt,jf,k⟩=false:=by simp[qiV,b3.2.2.2.2.1,b3.2.2.2.2.2.1]
 have a6:qiW ⟨c,jt,jf,k⟩ n=false:=by
  have:¬(n:Int)<=hiM ⟨c,jt,jf,k⟩:=by unfold hiM;grind
  simp only[qiW,if_neg b3.2.2.2.2.2.2.1,this,decide_false,Bool.and_false]
 simp[qea,a1,a2,a3,a4,a5,a6]
def qn5(h:MayL l)(hr:wn l){k:Nat}{i:Ins}(hk:(jJ l)[k]?=some i):LkOk i ((jJ l).length-1-k):=by
 obtain⟨j,x,e,hx,he,hb⟩:=qwg h hk;have hm:=h.all j x hx;have hxr:=hr x (by grind);have hbl:=(qk3 hx).1;have hbig:bl l (l.length-j)<=3*l.length:=Nat.le_trans (qjq (l:=l) (l.length-j)).2.2 (by omega);have hbig2:=h.big
 have one:∀{y:Ins},cdL l j x=[y]->i=y/\(jJ l).length-1-k=bl l (l.length-(j+1)):=λ{y} hy=>by
  rw[hy]at he hbl
  grind
 rcases hm with⟨q,_,_,q1,q2,q3⟩|⟨q,_⟩|⟨q,_,_,q3,q4⟩|⟨q,q1,q2,q3,q4⟩
 .obtain⟨e1,_⟩:=one (y:=⟨x.code,0,0,x.k⟩) (by unfold cdL qa3;rw[q,if_neg (by decide),if_pos (by decide)])
  rw[e1];simp_all[qrI]
 .obtain⟨e1,_⟩:=one (y:=⟨x.code,0,0,x.k⟩) (by unfold cdL qa3;rcases q with q|q<;>rw[q,if_neg (by decide),if_pos (by decide)])
  rw[e1];simp_all[qrI]
 .obtain⟨e1,e2⟩:=one (y:=⟨5,0,0,(dsL l j x.th:Nat)⟩) (by unfold cdL qa3;rw[if_pos q,qo1 q3 q4]);have hp:=qnJ h q4;have hmn:=qnI (l:=l) (m:=l.length-x.th) (m':=l.length-(j+1)) (by omega);rw[e1,e2];unfold dsL
  grind[qwj]
 .have hp:=qnJ h q2;have hp2:=qnJ h q4;have hmn:=qnI (l:=l) (m:=l.length-x.th) (m':=l.length-(j+1)) (by omega);have hmn2:=qnI (l:=l) (m:=l.length-x.el) (m':=l.length-(j+1)) (by omega);have hkk:=qdi q;have d1:dsL l j x.th<bl l (l.length-(j+1)):=by unfold dsL;omega
  have d2:dsL l j x.el<bl l (l.length-(j+1)):=by unfold dsL;omega
  by_cases hf:max (dsL l j x.th) (dsL l j x.el)<=255
  .obtain⟨e1,e2⟩:=one (y:=⟨x.code,(dsL l j x.th:Nat),(dsL l j x.el:Nat),x.k⟩) (by
    unfold cdL qa3;rw[if_neg hkk.2.1,if_neg (λz=>z hkk.1),qo1 q1 q2,qo1 q3 q4,if_pos hf])
   rw[e1,e2];grind[qBn]
  .have e3:cdL l j x=[⟨x.code,0,1,x.k⟩,⟨5,0,0,(dsL l j x.th+1:Nat)⟩,⟨5,0,0,(dsL l j x.el:Nat)⟩]:=by
    unfold cdL qa3;rw[if_neg hkk.2.1,if_neg (λz=>z hkk.1),qo1 q1 q2,qo1 q3 q4,if_neg hf]
   rw[e3]at he hbl;simp only[List.length_cons,List.length_nil]at hbl
   match e,he,hb with
   | 0,he,hb =>
    grind[qBn]
   | 1,he,hb =>
    simp only[List.getElem?_cons_succ,List.getElem?_cons_zero,Option.some.injEq]at he;subst he;exact qwj (by omega) (by omega)
   | 2,he,hb =>
    grind[qwj]
   | e+3,he,hb=>grind
def qtu(h:MayL l):qgj (jJ l)=6:=by
 obtain⟨s,hs,h6⟩:=h.last;have hp:=h.pos;obtain⟨hb,A,B,h1,h2,h3⟩:=qk3 hs;have e:cdL l (l.length-1) s=[⟨6,0,0,s.k⟩]:=by unfold cdL qa3;rw[h6,if_neg (by decide),if_pos (by decide)]
 have hB:B=[]:=by
  apply List.eq_nil_of_length_eq_zero;rw[h3,show l.length-(l.length-1+1)=0 by omega];rfl
 rw[e,hB,List.append_nil]at h1;unfold qgj;rw[h1];simp
def qwh(h:MayL l):0<(jJ l).length:=by
 rw[qpA];have:=qnJ h h.pos;omega
def qtt(h:MayL l)(hr:wn l)(hl:(jJ l).length<=4096):PrgGood (jJ l) :=
 ⟨hl,by have:=qwh h;omega,λi hi=>by obtain⟨k,hk⟩:=List.getElem?_of_mem hi;exact(qn5 h hr hk).ok,λk i hk=>(qn5 h hr hk).one,by rw[qtu h];decide⟩
-- no cell is read
theorem qFh{i:Ins}(hi:i.code≠96/\i.code≠97){x:BitVec 16}{j:Nat}{L:List Nat}:qkm i x j L=L:=by
 unfold qkm;simp[rdM,hi.1,hi.2]
def qBH{n:Nat}:∀{p:List Ins} {j:Nat} {st:WSt},(∀i ∈ p,i.code≠96/\i.code≠97)->(wkM n j p st).1=st.1
 | [],_,_,_=>rfl
 | i::p,j,st,h=>by
  unfold wkM;rw[qBH (by simp_all)];unfold stM
  grind[qFh]
def qxS{rch:List Bool}{sur:List (BitVec 16)}:∀{p:List Ins} {j:Nat} {L:List Nat},(∀i ∈ p,i.code≠96/\i.code≠97)->qAR rch sur j p L=L
 | [],_,_,_=>rfl
 | i::p,j,L,h=>by
  unfold qAR;have hi:=h i (by simp_all);rw[qxS (by simp_all),if_neg (by simp[unC,rdC,hi.1,hi.2])]
def qoM{n:Nat}:∀{p:List Ins} {j:Nat},(∀(k:Nat) i,p[k]?=some i->qea i (n-1-(j+k))=0)->qgr n j p=none
 | [],_,_=>rfl
 | i::p,j,h=>by
  rw[qfA,if_pos (by simpa using h 0 i rfl)];exact qoM λk i hk=>by have:=h (k+1) i (by simpa using hk);rw[show j+1+k=j+(k+1)by omega];omega
def qrB{p:List Ins}(h:PrgGood p):atU p []=(0,0):=by
 unfold atU;rw[if_neg (by have:=h.ne;have:=h.len;omega),qoM (by grind[PrgGood.one])]
 simp[h.last]
def qwi(h:MayL l)(hr:wn l):qeb (jJ l)=[]/\qJx (jJ l)=[]:=by
 have hc:∀i ∈ jJ l,i.code≠96/\i.code≠97:=λi hi=>by obtain⟨k,hk⟩:=List.getElem?_of_mem hi;exact(qn5 h hr hk).c
 exact⟨qBH hc,qxS hc⟩
end
structure FilU (x:GFil):Prop where
 d:0<=x.dflt/\x.dflt<=4294967295
 r:∀r ∈ x.rules,0<=r.act/\r.act<=4294967295
 t:∀r ∈ x.rules,∀t ∈ r.tests,0<=t.act/\t.act<=4294967295
def wn.app{a b:List Sy}(h1:wn a)(h2:wn b):wn (a++b):=λx hx=>by
 rcases List.mem_append.1 hx with h|h
 .exact h1 x h
 .exact h2 x h
theorem wn.nil:wn []:=λx hx=>by cases hx
theorem wn.cons{s:Sy}{l:List Sy}(h1:0<=s.k/\s.k<=4294967295)(h2:wn l):wn (s::l):=λx hx=>by
 rcases List.mem_cons.1 hx with rfl|h
 .exact h1
 .exact h2 x h
def r0:(0:Int)<=0/\(0:Int)<=4294967295:=by omega
def qpo{a m v:Int}{p F:Nat}(ha:0<=a/\a<=4294967295)(hm:0<=m/\m<=4294967295)(hv:0<=v/\v<=4294967295):wn (qff a m v p F):=by
 unfold qff
 grind[wn.nil,wn.cons]
def qHm{x:Int}(h0:0<=x)(h1:x<18446744073709551616):(0<=loW x/\loW x<=4294967295)/\0<=hiW x/\hiW x<=4294967295:=by
 unfold loW hiW;omega
def qxH{t:GTest}{p:Nat}(ht:TstOk t)(ha:0<=t.act/\t.act<=4294967295):wn (qjM t p):=by
 have h1:=qHm ht.m0 ht.m1;have h2:=qHm ht.v0 ht.v1;have a0:=ht.a0;have a1:=ht.a1;exact((qpo (by omega) h1.1 h2.1).app (qpo (by omega) h1.2 h2.2)).app (.cons ha .nil)
def qny:∀{ts:List GTest} {a:Int} {p:Nat},(∀t ∈ ts,TstOk t/\0<=t.act/\t.act<=4294967295)->(0<=a/\a<=4294967295)->wn (qd5 ts a p)
 | [],a,p,_,ha=>.cons ha .nil
 | t::ts,a,p,h,ha=>by
  have ht:=h t (by simp_all);unfold qd5;refine(qxH ht.1 ht.2).app ?_;split
  .exact .nil
  .exact qny (by simp_all) ha
def qnn:∀{rs:List GRule} {p:Nat},(∀r ∈ rs,(0<=r.act/\r.act<=4294967295)/\∀t ∈ r.tests,TstOk t/\0<=t.act/\t.act<=4294967295)->wn (xF rs p)
 | [],_,_=>.nil
 | r::rs,p,h=>by
  have hr:=h r (by simp_all);unfold xF;exact(qny hr.2 hr.1).app (qnn (by grind))
def qAM{a:Int}(h0:0<=a)(h6:a<6):0<=qe2 a/\qe2 a<=4294967295:=by
 have:a=0\/a=1\/a=2\/a=3\/a=4\/a=5:=by omega
 rcases this with rfl|rfl|rfl|rfl|rfl|rfl<;>decide
def qz8{a:Int}{p F:Nat}(h0:0<=a)(h6:a<6):wn (qc3 a p F):=by
 unfold qc3;have hb:(0:Int)<=1073741824/\(1073741824:Int)<=4294967295:=by omega
 refine wn.app (.cons (by simp_all) (.cons (qAM h0 h6) (.cons r0 .nil))) ?_
 grind[wn.cons,wn.nil]
def qqv{FW:Nat->Nat}{T:List Nd}{p:Nat}(h:∀n ∈ T,0<=n.at'/\n.at'<=4294967295):wn (jM FW T p):=by
 unfold jM;refine wn.app ?_ ?_
 .cases T with
  | nil=>exact .nil
  | cons n T =>
   show wn (if n.leaf=true then [⟨5,0,FW n.way,0⟩]else [])
   split
   all_goals simp_all[wn.cons,wn.nil]
 .unfold brE;intro x hx;obtain⟨n,hn,hx⟩:=List.mem_flatMap.1 hx;unfold qmC at hx
  simp_all
def qAN(n:Nat):∀(l:List Sp) (a:Nat),l.length<=n->SpR l->∀nd ∈ xd l a,0<=nd.at'/\nd.at'<4294967296:=by
 induction n with
 | zero =>
  grind[xd.eq_1]
 | succ n ih =>
  intro l a h1 hr nd hnd;rw[xd]at hnd
  by_cases hk:l.length / 2=0
  .rw[dif_pos hk,List.mem_singleton]at hnd
   simp_all
  .rw[dif_neg hk]at hnd;rcases List.mem_cons.1 hnd with rfl|hnd
   .have hlt:l.length / 2<l.length:=by omega
    have:=hr _ (List.getElem_mem hlt)
    simp_all
   .rcases List.mem_append.1 hnd with hnd|hnd
    .exact ih (l.take (l.length / 2)) _ (by grind) (λs hs=>hr s (by grind)) nd hnd
    .exact ih (l.drop (l.length / 2)) _ (by grind) (λs hs=>hr s (by grind)) nd hnd
section
variable {x:GFil}
def qo7(h:FilG x)(hu:FilU x):wn (zN x):=by
 unfold zN;refine(((wn.app (qz8 h.a0 h.a6) (qqv λn hn=>?_)).app (.cons hu.d .nil)).app (qnn λr hr=>⟨hu.r r hr,λt ht=>⟨(h.ts r hr t ht).ok,hu.t r hr t ht⟩⟩)).app (.cons (by simp_all) .nil)
 have:=qAN _ _ 0 (zzL _) (qjX h.spans.1 (Int.le_refl 0) (Int.le_refl _)) n hn;omega
end
def qnU:∀{ts:List GTest} {a:Int},(qhN ts a).1.Sublist ts/\((qhN ts a).2=a\/∃t ∈ ts,(qhN ts a).2=t.act)
 | [],_=>⟨.slnil,.inl rfl⟩
 | t::ts,a=>by
  unfold qhN;split
  .simp_all
  .obtain⟨h1,h2⟩:=qnU (ts:=ts) (a:=a)
   grind
def qxM{a:Int}{ts:List GTest}:(qhm a ts).Sublist ts:=by
 unfold qhm;have:=List.dropWhile_sublist (λt:GTest=>decide (t.act=a)) (l:=ts.reverse)
 have:=this.reverse;rwa [List.reverse_reverse]at this
def qq7:∀{l:List GRule} {o:Option GRule},upR o l=true↔(∀r ∈ l,qb1 r=true)/\(∀b,o=some b->∀r ∈ l,b.nr<r.nr)/\l.Pairwise λa b=>a.nr<b.nr
 | [],o=>by simp[upR]
 | r::l,o=>by
  have ih:=qq7 (l:=l) (o:=some r);simp only[upR,zzB,ih,List.forall_mem_cons,List.pairwise_cons];constructor
  .grind
  .rintro⟨⟨h1,h3⟩,h2,h4,h5⟩;refine⟨⟨h1,?_⟩,h3,λb hb=>by cases hb;exact h4,h5⟩
   cases o with
   | none=>rfl
   | some b=>simpa using(h2 b rfl).1
section
variable {x:GFil}
def qdY{r:GRule}:(qaS r).tests.Sublist r.tests:=qxM.trans qnU.1
def qpO{r:GRule}:(qaS r).act=r.act\/∃t ∈ r.tests,(qaS r).act=t.act:=qnU.2
theorem qfq{r:GRule}(h:r ∈ (qaR x).rules):∃r0 ∈ x.rules,r=qaS r0:=by
 obtain⟨h1,_⟩:=List.mem_filter.1 h
 grind
theorem qqR{r:GRule}(h:qb1 r=true):qb1 (qaS r)=true:=by
 simp only[qb1,zzB,decide_eq_true_eq,List.all_eq_true]at h ⊢;obtain⟨⟨h1,h2⟩,h3⟩:=h;refine⟨⟨Nat.le_trans qdY.length_le h1,λt ht=>h2 t (qdY.subset ht)⟩,?_⟩
 rcases qpO (r:=r)with e|⟨t,ht,e⟩
 .rw[e];exact h3
 .rw[e];have:=h2 t ht;simp only[qb2,zzB]at this;simp_all
def qhA(h:jY x=true):jY (qaR x)=true:=by
 simp only[jY,zzB,decide_eq_true_eq]at h ⊢;obtain⟨⟨⟨⟨k1,k2⟩,k3⟩,k4⟩,k5⟩:=h;obtain⟨u1,_,u3⟩:=qq7.1 k5;refine⟨⟨⟨⟨k1,k2⟩,?_⟩,k4⟩,qq7.2 ⟨λr hr=>?_,by simp_all,?_⟩⟩
 .have:=List.length_filter_le (qev x.dflt) (x.rules.map qaS);rw[List.length_map]at this;exact Nat.le_trans this k3
 .grind[qfq,qqR]
 .exact ((List.pairwise_map (f:=qaS) (R:=λa b:GRule=>a.nr<b.nr)).2 u3).filter _
def qn9(h:FilR x):FilR (qaR x):=by
 refine⟨λr hr=>?_,λr hr t ht=>?_⟩
 .obtain⟨r0,h0,rfl⟩:=qfq hr;exact h.nr r0 h0
 .obtain⟨r0,h0,rfl⟩:=qfq hr;exact h.ts r0 h0 t (qdY.subset ht)
def qDO(h:FilU x):FilU (qaR x):=by
 refine⟨h.d,λr hr=>?_,λr hr t ht=>?_⟩
 .obtain⟨r0,h0,rfl⟩:=qfq hr;rcases qpO (r:=r0)with e|⟨t,ht,e⟩
  .rw[e];exact h.r r0 h0
  .rw[e];exact h.t r0 h0 t ht
 .obtain⟨r0,h0,rfl⟩:=qfq hr;exact h.t r0 h0 t (qdY.subset ht)
end
section
variable {x:GFil}
def qyP(hK:jY x=false)(o:Bool):qdG x o=([],210):=by
 unfold qdG qfZ qgx qd2;grind
end
end Go.Kc
end
section
namespace Go.Kc
variable {P:Program} {f:Nat}
def qjT(x:GFil):Prop:=x.rules.length<=100000/\∀r ∈ x.rules,r.tests.length<=100000
def qA1(P:Program)(g:Nat):Prop:=∀x,qjT x->qa P g [.agg (zr x)] (.b (jY x))
def quL(P:Program)(g:Nat):Prop:=∀x,FilR x->qjT x->qa P g [.agg (zr x)] (qoF x)
def qrp(P:Program)(g:Nat):Prop:=∀l,MayL l->qa P g [.fz l.length (rSy l)] (qiS l)
def qyE(P:Program)(g:Nat):Prop:=∀l,MayL l->qa P g [.fz l.length (rSy l)] (.tup [.fz (qdm l).length (rSy (qdm l)),.j 0])
def quN(P:Program)(g:Nat):Prop:=∀x,qjT x->qa P g [.agg (zr x)] (qsC x)
def qA4(P:Program)(g:Nat):Prop:=∀l:List (Int×Nat),l.length<=100000->(∀y ∈ l,0<=y.1/\y.1<4294967296)->qxp l->qa P g [.fz l.length (qaM l),.fz l.length (qbg l),.j 0] (.tup [.fz (xb (pcs 0 l 0)).length (rSp (xb (pcs 0 l 0))),.j 0])
def qA5(P:Program)(g:Nat):Prop:=∀l:List Sp,l.length<=400000->0<l.length->SpR l->qa P g [.fz l.length (rSp l)] (qrg l)
def qJt{g1 g2 g3 h1:Nat}(hc:qc P f (qiy g1 g2)=true)(hp:qc P g1 (qdR g3)=true)(hm:qc P g2 (qdQ h1)=true)(hm1:qc P h1 jG=true)(hp1:qc P g3 qci=true):qA4 P f:=λl hl hr hu =>
 qEW hc l 0 (qtW hp l 0) (qpM hm hm1 hp1 l 0 hl hr) hl hu
def qJw{g1 g2:Nat}(hc:qc P f (qeP g1 g2)=true)(h1:qc P g1 qeN=true)(h2:qc P g2 wi=true):qA5 P f:=λl hl h0 hr =>
 qua hc h2 l (qra h1 l (by omega) hr) hl h0
def qIG{g gl gp gj gh gr go gb gR gd gt gH gA gB gC gD gM gS gT:Nat}(hc:qc P f (qfH gM go gS gT gb gh gr gR gd)=true)(E:EFn P g gl gp gj gh gr go gb gR gd gt gH gA gB gC gD)(hM:qA1 P gM)(hS:qA4 P gS)(hT:qA5 P gT):quL P f:=λx hR hL =>
 qs3 hc E x hR (hM x hL) λhK=>by
  have hG:=FilG.of hK hR;have hd:=hG.dfl;have hn:=hG.n;have hs:=hG.spans;have hT:=hT (xb (pcs 0 (qR x.rules) 0)) (by have:=hs.2.2.2.2;omega) hG.pos (qjX hs.1 (Int.le_refl 0) (Int.le_refl _))
  unfold qrg at hT;rw[if_pos (qmO hs.1)]at hT;refine⟨by have:=hd.1;omega,by have:=hd.2;omega,hG.tne,hG.nodes,hS (qR x.rules) (by rw[qcl];omega) (λy hy=>?_) (qnz hG.ups),hT⟩
  obtain⟨i,hi⟩:=List.getElem?_of_mem hy;rw[qdx]at hi;obtain⟨r,hr,rfl⟩:=Option.map_eq_some_iff.1 hi;exact hR.nr r (by grind)
def qIR{g1 g2 gM gB gi go:Nat}(hc:qc P f (qfJ g1 g2)=true)(h1:qc P g1 (qdN gM gB go)=true)(h2:qc P g2 zO=true)(hM:∀l,MayL l->qa P gM [.fz l.length (rSy l)] (.b true))
  (hB1:∀l:List Sy,qa P gB [.fz l.length (rSy l)] (.fn gi [] [.pf [.fz l.length (rSy l)] 0])) (hi1:qc P gi qH=true) (ho:qyD P go):qrp P f:=λl hl =>
 qtv hc l (by have:=hl.big;omega) (λk hk=>qtx h1 l (hM l hl) hB1 hi1 ho (by have:=hl.big;omega) hl.hin hk) λs b tr p hp k hb hk=>qqY h2 p hp hb hk
def qJV{gD gO gP gB gi:Nat}(hc:qc P f (qbe gD gP gO)=true)(hD:qc P gD xy=true)(hO:cOf P gO)(hP:qc P gP (jQ gB)=true)
  (hB:∀l:List Ins,qa P gB [.fz l.length (rP l)] (.fn gi [] [.pf [.fz l.length (rP l)] 0])) (hi:qc P gi qP=true):qyD P f:=λkb n s bb bp back pl tr far k h x hb hj hk =>
 qD0 hc hD hO hP hB hi h x hb hj hk
def qJW{g1 g2 gM gs gt gl s1 s2 t1 t2 ti v1 v2 h1 h2 h3:Nat}(hc:qc P f (qix g1 g2)=true)(hp:qc P g1 (qeL gs gt gl)=true)(hd:qc P g2 (qgT gM)=true)(hM:∀l,MayL l->qa P gM [.fz l.length (rSy l)] (.b true))
  (hs:qc P gs (qeM s1 s2)=true) (hs1:qc P s1 qcX=true) (hm:qc P s2 (jq h1 h2 h3)=true) (c1:qbz P h1 4 24) (c2:cOf P h2) (c3:qgt P h3)
  (ht:qc P gt (qcY h1 t1 t2 s2 h3)=true) (ht1:qc P t1 qaj=true) (hB:∀l:List Sy,qa P t2 [.fz l.length (rSy l)] (.fn ti [] [.pf [.fz l.length (rSy l)] 0])) (hi:qc P ti qH=true)
  (hl:qc P gl (qeK v1 v2 s2)=true) (hv1:qc P v1 (qfK h2 h3)=true) (hv2:qc P v2 qa7=true):qyE P f:=λl h=>by
 have m1:=qsk h;have m2:=qso m1;have b0:=h.big;have b1:=m1.big;have b2:=m2.big
 exact qwU hc (qpR hp) l (qdm l) (qz6 hd l (qhP l) (qq3 (qhP l)) (qdm l) (hM l h) (qp8 hs hs1 hm c1 c2 c3 l (by omega) h.in)
  (qmE ht c1 ht1 hB hi hm c1 c2 c3 c3 (qhP l) (by omega) m1.in) (qpB hl hv2 hm c1 c2 c3 (qq3 (qhP l)) (qqo hv1 c2 c3 _ (by omega) m2.pos m2.in m2.on) (by omega) m2.in))
def qIU{g1 g2:Nat}(hc:qc P f (qfI g1 g2)=true)(hM:qA1 P g1)(h2:∀r:GRule,r.tests.length<=100000->qa P g2 [.agg (zw r)] (.agg (zw (qaS r)))):quN P f:=λx hL =>
 qoy hc x (hM x hL) h2 hL.1 hL.2
def qDN{x:GFil}(h:qjT x):qjT (qaR x):=by
 refine⟨?_,λr hr=>?_⟩
 .have:=List.length_filter_le (qev x.dflt) (x.rules.map qaS);rw[List.length_map]at this;exact Nat.le_trans this h.1
 .obtain⟨r0,h0,rfl⟩:=qfq hr;exact Nat.le_trans qdY.length_le (h.2 r0 h0)
theorem qGQ{gE gN gO gL:Nat}(hE:quL P gE)(hN:quN P gN)(hO:qyE P gO)(hL:qrp P gL){x:GFil}(hR:FilR x)(hl:qjT x):CmpFn P gE gN gO gL x where
 em:=hE x hR hl
 nm:=hN x hl
 lk:=λhK=>hL _ (qgy (FilG.of hK hR))
 em2:=λ_=>hE _ (qn9 hR) (qDN hl)
 ok2:=qhA
 op:=λhK=>hO _ (qgy (FilG.of (qhA hK) (qn9 hR)))
 lk2:=λhK=>hL _ (qk5 (qgy (FilG.of (qhA hK) (qn9 hR))))
def qmL(P:Program)(g:Nat):Prop:=∀x,FilR x->qjT x->∀o:Bool,qa P g [.agg (zr x),.b o] (.tup [.fz (qdG x o).1.length (rP (qdG x o).1),.j (qdG x o).2])
def qIE{gd gwN gwE gwO gwL gs gE gN gO gL:Nat}(hc:qc P f (qbd gwE gwL gd gwN gwO gs)=true)(hd:qc P gd qO=true)(hN:qc P gwN (z6 gN)=true)(hE:qc P gwE (zW gE)=true)(hO:qc P gwO (zc gO)=true)(hL:qc P gwL (qN gL)=true)
  (hs:qc P gs xZ=true) (c1:quL P gE) (c2:quN P gN) (c3:qyE P gO) (c4:qrp P gL):qmL P f:=λx hR hl o =>
 qnT hc hd hN hE hO hL (λu v x y hx hy=>qjH hs u v x y hx hy) (by grind[qGQ]) o

def SC.args{vs vs':List AV}{h:Hp}{k:AV->Hp->Prop}(hs:SC P f vs' h k)(ha:∀(Z:Ren) (a:List Value),VRs σ0 Z vs a->VRs σ0 Z vs' a):SC P f vs h k :=
 ⟨hs.1,λZ B w args r hv=>hs.2 Z B w args r (ha Z _ hv)⟩
section
variable {g1 g2 g3:Nat}
end
end Go.Kc
end
