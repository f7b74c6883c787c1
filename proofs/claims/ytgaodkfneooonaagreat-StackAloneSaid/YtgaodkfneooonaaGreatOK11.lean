/- Part 11 of the abstract machine and of the functions' walks. Conditions: with each theorem. -/
import Derived.Test.YtgaodkfneooonaaGreatOK10
set_option maxHeartbeats 4000000
set_option linter.defProp false
set_option linter.unusedSectionVars false
set_option linter.unusedSimpArgs false
set_option linter.unusedVariables false
set_option linter.unnecessarySimpa false
section
namespace Go.Kc
variable {P:Program} {f:Nat}
def zz(l:List Sy):Nat->List Ins×List Nat
 | 0=>([],List.replicate l.length 0)
 | m+1=>match l[l.length-(m+1)]? with
  | some x=>((zz l m).1++(jV (zz l m).1.length (zz l m).2 x).reverse,(zz l m).2.set (l.length-(m+1)) ((zz l m).1++(jV (zz l m).1.length (zz l m).2 x).reverse).length)
  | none=>zz l m
theorem qhv{l:List Sy}:∀m,(zz l m).2.length=l.length/\(∀q ∈ (zz l m).2,q<=(zz l m).1.length)/\(zz l m).1.length<=3*m
 | 0=>by
  refine⟨by simp[zz],λq hq=>?_,by simp[zz]⟩
  simp only[zz,List.mem_replicate]at hq;omega
 | m+1=>by
  obtain⟨h1,h2,h3⟩:=qhv (l:=l) m;unfold zz
  grind[qps]
def xO(l:List Sy):List Ins:=(zz l l.length).1.reverse
def qAg{l:List Nat}{j v:Nat}(hj:j<l.length):(rNt l).take j ++ .j (v:Int)::(rNt l).drop (j+1)=rNt (l.set j v):=by
 rw[List.set_eq_take_append_cons_drop,if_pos hj];simp[rNt,List.map_take,List.map_drop]
def qbH(a b c:Nat):ICode:=sq [.r [.d 33 4,.n 2 33,.m 3 .T],.ret]
def qdL(a b c:Nat):IFn:=⟨[.tmp 2,.tmp 3],sq [.r [.m 2 (.c (.nilp)),.m 3 .F],sq [.r [.n 7 0,.l 8 a [.t 7],.q 9 (.un .not (.t 8))],.cond (.t 9) (sq [.r [.m 2 (.c (.nilp)),.m 3 .F],.ret]) (.skip)],.r [.n 10 0,.e 11 10,.q 12 (.mkS 1 8 [.j 0] (.t 11) (.t 11)),.q 13 (.build [.nils,.nils,.j 0] [(1,1,(.t 12))]),.q 14 (.box (.t 13)),.q 4 (.alloc [.nilp]),.u (.store 1 (.t 4) (.t 14))],sq [.r [.n 15 0,.l 16 b [.t 15]],.blk 0 (.rangeF 0 (.t 16) [17,18] (.seq (.r [.n 5 17]) (.r [.q 6 (.alloc [.h 0,.w 0,.j 0,.j 0]),.u (.store 4 (.t 6) (.t 18))])) (.blk 1 (.seq (.r [.d 19 4,.v 20 4 6,.l 21 c [.t 19,.t 20]]) (.reg true [.d 22 4,.q 23 (.nilChk (.t 22)),.f 24 1 23,.d 25 24,.n 26 5,.d 27 4,.q 28 (.nilChk (.t 27)),.f 29 0 28,.d 30 29,.e 31 30,.i 32 1 25 26,.u (.store 1 (.t 32) (.t 31))]))))],.cut (qbH a b c)]⟩
def liT(gi:Nat)(l:List Sy):List (Nat×AV):=[(4,.ptr 2 0),(16,.fn gi [] [.pf [.fz l.length (rSy l)] 0])]
def liA:ICode:=sq [.reg false [⟨some 5,.op (.mov (.t 17)),none⟩],.reg false [⟨some 6,.op (.alloc [.h 0,.w 0,.j 0,.j 0]),none⟩,⟨none,.op (.store 4 (.t 6) (.t 18)),none⟩]]
def liB(g1:Nat):ICode:=.blk 1 (sq [.r [.d 19 4,.v 20 4 6,.l 21 g1 [.t 19,.t 20]],.reg true [.d 22 4,.q 23 (.nilChk (.t 22)),.f 24 1 23,.d 25 24,.n 26 5,.d 27 4,.q 28 (.nilChk (.t 27)),.f 29 0 28,.d 30 29,.e 31 30,.i 32 1 25 26,.u (.store 1 (.t 32) (.t 31))]])
def qyC(P:Program)(g:Nat):Prop:=∀(kb n s bb bp:Nat) (back:List Ins) (pl:List Nat) (tr:Tr Blk) (far:Int) (k:AV->Hp->Prop),LI kb n back pl s tr bb bp far->∀x:Sy,back.length<=800000->(∀j:Nat,(x.code=5\/qm x.code=4)/\j=x.th\/(qm x.code=4/\x.code≠5)/\j=x.el->∃q,pl[j]?=some q/\q<=back.length)->
 (∀s' tr' bb' far',s<=s'->(∀c,c<s->c≠kb->c≠bb->tr'.get c=tr.get c)->(bb'=bb\/s<=bb')->LI kb n (back++(jV back.length pl x).reverse) pl s' tr' bb' bp far'->k (.tup []) ⟨s',0,tr'⟩)->SC P g [.ptr kb 0,.agg (cSy x)] ⟨s,0,tr⟩ k
def qv8{gi g1 s bb n:Nat}{back:List Ins}{pl:List Nat}{l:List Sy}{r0:Loop}{tr:Tr Blk}{far:Int}{k:AV->Hp->Prop}(h1:qyC P g1)(hr0:r0.state = .ready)(hp0:r0.pending=none)(hlo:LoopOk P r0 [17,18] liA (liB g1))
  (h:LI 1 n back pl s tr bb 0 far) (g2:tr.get 2=some (.v [.ptr 1 0])) (g4:tr.get 4=some (.map (zJ r0 (liT gi l)))) (hs:5<=s) (hb3:3<=bb) (hb4:bb≠4) (hb:back.length<=800000) (i:Nat) (hi:i<n) (x:Sy)
  (hj:∀j:Nat,(x.code=5\/qm x.code=4)/\j=x.th\/(qm x.code=4/\x.code≠5)/\j=x.el->∃q,pl[j]?=some q/\q<=back.length)
  (hk:∀s' tr' bb' far',5<=s'->LI 1 n (back++(jV back.length pl x).reverse) (pl.set i (back++(jV back.length pl x).reverse).length) s' tr' bb' 0 far'->tr'.get 2=some (.v [.ptr 1 0])->tr'.get 4=some (.map (zJ r0 (liT gi l)))->3<=bb'->bb'≠4->k (.b true) ⟨s',0,tr'⟩) :
  SY P 4 [.j (i:Int),.agg (cSy x)] ⟨s,0,tr⟩ k:=by
 have hbs:=h.bs;refine SY.mk (r:=r0) (ts:=liT gi l) (ps:=[17,18]) g4 hr0 hlo (Nat.zero_le _) (by show 4<s;omega) rfl ?_;rw[show mkT (liT gi l)=(Tr.leaf.set 16 (.fn gi [] [.pf [.fz l.length (rSy l)] 0])).set 4 (.ptr 2 0)from rfl]
 refine qk ?_;simp only[qkB,liA,cSy,vI,simprocAttr];simp +decide only[↓vS,vT,simprocAttr];have n1:¬4=s:=by omega
 have n2:¬2=s:=by omega
 have n3:¬s=4:=by omega
 refine⟨liT gi l,by simp[Tr.get_set,n1,g4],?_⟩
 refine qk ?_;simp only[qB,liB,vI,simprocAttr];have e24:¬(2:Nat)=4:=by decide
 simp +decide only[↓vS,vT,simprocAttr,g2,e24,n2,n3]
 have old:∀c,c<s->c≠4->(((tr.set s (.v [.h 0,.w 0,.j 0,.j 0])).set s (.v [.h x.code,.w x.k,.j (x.th:Int),.j (x.el:Int)])).set 4 (.map (zJ (Go.Kc.bsy r0) (liT gi l)))).get c=tr.get c:=λc h1 h2=>by
  simp only[Tr.get_set];repeat rw[if_neg (by omega)]
 refine h1 1 n (s+1) bb 0 back pl _ far _ (h.keep (by omega) (by grind)) x hb hj λs' tr' bb' far' q1 q2 q3 q4=>?_
 have g2':tr'.get 2=some (.v [.ptr 1 0]):=by rw[q2 2 (by omega) (by omega) (by omega),old 2 (by omega) (by omega)];exact g2
 have g4':tr'.get 4=some (.map (zJ (Go.Kc.bsy r0) (liT gi l))):=by rw[q2 4 (by omega) (by omega) (by omega),Tr.get_set,if_pos rfl]
 obtain⟨B,hB⟩:∃B,B=back++(jV back.length pl x).reverse:=⟨_,rfl⟩;rw[<- hB]at q4 hk;have hset:=qAg (l:=pl) (j:=i) (v:=B.length) (by rw[q4.len];exact hi);have hpl:i+1<=(rNt pl).length:=by rw[qk4,q4.len];omega
 have hbs':=q4.bs;simp +decide only[↓vS,vT,simprocAttr];refine zB ?_;simp +decide only[↓vS,vT,simprocAttr,g2',q4.k,q4.p,hi,hpl,hset,zzU];refine⟨Go.Kc.bsy r0,liT gi l,by rw[Tr.get_set,if_neg (by decide)];exact g4',?_⟩
 rw[qey,qfX hr0 hp0];simp only[qB];simp +decide only[↓vS,vT,simprocAttr];have hb':bb'≠4:=by omega
 refine hk s' _ bb' far' (by omega) ⟨?_,?_,?_,?_,by omega,by omega,by omega,by omega,by omega,by omega⟩ ?_ ?_ (by omega) hb'
 .rw[Tr.get_set,if_neg (by decide),Tr.get_set,if_neg (by decide)];exact q4.k
 .rw[Tr.get_set,if_neg hb',Tr.get_set,if_neg (by omega)];exact q4.b
 .rw[Tr.get_set,if_neg (by decide),Tr.get_set,if_pos rfl]
 all_goals grind[LI.len,Tr.get_set]
def qtn{n0 g1 g2 g3 s:Nat}{tr:Tr Blk}{t:Tr AV}{k:AV->Hp->Prop}(ht:t.get 4=some (.ptr 2 0))(h2:tr.get 2=some (.v [.ptr 1 0]))(hk:k (.tup [.ptr 1 0,.b true]) ⟨s,0,tr⟩) :
  S P n0 (qbH g1 g2 g3) (xu [.tmp 2,.tmp 3] k) t ⟨s,0,tr⟩:=by
 refine S.has [(4,.ptr 2 0)] (by grind[qg,ql]) (qk ?_);simp only[qbH,vI,simprocAttr];simp +decide only[↓vS,vT,simprocAttr,h2];exact hk
def qto{gM gB g1 gi:Nat}(hc:qc P f (qdL gM gB g1)=true)(l:List Sy)(hm:qa P gM [.fz l.length (rSy l)] (.b true))(hB:∀l:List Sy,qa P gB [.fz l.length (rSy l)] (.fn gi [] [.pf [.fz l.length (rSy l)] 0]))(hi:qc P gi qE=true)
  (h1:qyC P g1) (hl:l.length<=200000) (hin:∀x ∈ l,∀j:Nat,(x.code=5\/qm x.code=4)/\j=x.th\/(qm x.code=4/\x.code≠5)/\j=x.el->j<l.length) {k:AV->Hp->Prop}
  (hk:∀s tr bb far,LI 1 l.length (zz l l.length).1 (zz l l.length).2 s tr bb 0 far->k (.tup [.ptr 1 0,.b true]) ⟨s,0,tr⟩):SC P f [.fz l.length (rSy l)] ⟨0,0,.leaf⟩ k:=by
 refine SC.mk hc (qk ?_);have r1:l.length<=qi:=by simp only[qi];omega
 have r2:8*l.length<=qi:=by simp only[qi];omega
 have hz:(List.replicate l.length [AV.j 0]).flatten=rNt (List.replicate l.length 0):=by simp[rNt]
 simp only[qdL,vI,simprocAttr];simp +decide only[↓vS,vT,simprocAttr];refine hm.sc ?_;simp +decide only[↓vS,vT,simprocAttr,r1,r2,hz];refine(hB l).sc ?_;simp +decide only[↓vS,vT,simprocAttr];refine S.weak (Wk.mk (liT gi l) [.v (rNt (List.replicate l.length 0)),.v [.own 3 0,.sl 0 0 l.length l.length false,.j 0],.v [.ptr 1 0],.cells 4 true true []] [0,1,2,99] ?_ ?_ ?_ rfl) ?_
 .simp[vw,liT,zi qZ,qe,qZ]
 .simp[vw,qe,qY]
 .simp
 refine S.rangeF (by simp[jD]) (by simp[liT]) ⟨rfl,rfl⟩ ?_;refine qkc.2 ⟨.fn gi [] [.pf [.fz l.length (rSy l)] 0],by simp[liT,mkT,Tr.get_set],?_⟩
 refine⟨qdD hi,λr0 hr0 hp0 hlo=>?_⟩
 have hlo:LoopOk P r0 [17,18] liA (liB g1):=hlo;refine xn (c:=cSy) hi qd8 (by omega) (λi h=>i<=l.length/\∃s tr bb far,h=⟨s,0,tr⟩/\5<=s/\LI 1 l.length (zz l (l.length-i)).1 (zz l (l.length-i)).2 s tr bb 0 far/\3<=bb/\bb≠4/\tr.get 2=some (.v [.ptr 1 0])/\tr.get 4=some (.map (zJ r0 (liT gi l)))) ?_ ?_ ?_
 .rintro i x h hx ⟨hil,s,tr,bb,far,rfl,q1,q2,q3,q4,q5,q6⟩ k' hk';have hi':i<l.length:=by omega
  obtain⟨o1,o2,o3⟩:=qhv (l:=l) (l.length-(i+1));have e:l.length-i=(l.length-(i+1))+1:=by omega
  have e2:l.length-(l.length-(i+1)+1)=i:=by omega
  have e3:zz l (l.length-i)=((zz l (l.length-(i+1))).1++(jV (zz l (l.length-(i+1))).1.length (zz l (l.length-(i+1))).2 x).reverse,(zz l (l.length-(i+1))).2.set i ((zz l (l.length-(i+1))).1++(jV (zz l (l.length-(i+1))).1.length (zz l (l.length-(i+1))).2 x).reverse).length):=by
   rw[e,zz,e2,hx]
  refine qv8 h1 hr0 hp0 hlo q2 q5 q6 q1 q3 q4 (by omega) i hi' x (λj hj=>?_) (by grind)
  have hjl:=hin x (by grind) j hj;obtain⟨q,hq⟩:∃q,(zz l (l.length-(i+1))).2[j]?=some q:=by grind
  exact⟨q,hq,o2 q (by grind)⟩
 .refine⟨zzL _,5,_,3,0,rfl,zzL _,⟨?_,?_,?_,?_,by decide,by decide,by decide,by decide,by decide,by decide⟩,by decide,by decide,?_,?_⟩<;>simp[Tr.get_set,qlA,mkH,trL,zz,rP,Hp.push]
 .rintro h ⟨_,s,tr,bb,far,rfl,q1,q2,q3,q4,q5,q6⟩;rw[Nat.sub_zero]at q2;refine⟨r0,liT gi l,q6,by rw[hr0];decide,?_⟩
  rw[hp0];simp only[qB];simp only[↓vS,vT,simprocAttr];refine qtn (by simp[liT,mkT,Tr.get_set]) ?_ (hk _ _ bb far ?_)
  .show (tr.set 4 .dead).get 2=_;rw[Tr.get_set,if_neg (by decide)];exact q5
  .refine q2.keep (zzL _) λc hc=>?_
   have:c≠4:=by rcases hc with rfl|rfl|rfl<;>omega
   rw[Tr.get_set,if_neg (by exact this)]
def qfO(a b:Nat):IFn:=⟨[.tmp 2,.tmp 3],sq [.r [.m 2 .N,.m 3 (.k 0)],.r [.n 7 0,.l 8 a [.t 7],.n 6 8,.x 9 6 0,.x 10 6 1,.n 4 9,.n 5 10],.blk 0 (sq [.r [.n 12 5,.q 13 (.un .not (.t 12)),.n 11 13],.cond (.t 11) (sq [.r [.m 2 .N,.m 3 (.k 250)],.ret]) (sq [.r [.n 15 4,.q 16 (.nilChk (.t 15)),.f 17 0 16,.d 18 17,.e 19 18,.w 20 .gtr 19 4096,.n 14 20],.cond (.t 14) (sq [.r [.m 2 .N,.m 3 (.k 270)],.ret]) (.skip)])]),.r [.n 21 4,.q 22 (.nilChk (.t 21)),.f 23 0 22,.d 24 23,.l 25 b [.t 24]],.r [.n 26 4,.q 27 (.nilChk (.t 26)),.f 28 0 27,.d 29 28,.n 2 29,.m 3 (.k 0)],.ret]⟩
def qiH(l:List Sy):AV:=if 4096<(xO l).length then .tup [.fz 0 [],.j 270]else .tup [.fz (xO l).length (rP (xO l)),.j 0]
def qtl{g1 g2:Nat}(hc:qc P f (qfO g1 g2)=true)(l:List Sy)(hl:l.length<=200000)
  (h1:∀k:AV->Hp->Prop,(∀s tr bb far,LI 1 l.length (zz l l.length).1 (zz l l.length).2 s tr bb 0 far->k (.tup [.ptr 1 0,.b true]) ⟨s,0,tr⟩)->SC P g1 [.fz l.length (rSy l)] ⟨0,0,.leaf⟩ k)
  (h2:∀(s b:Nat) (tr:Tr Blk) (p:List Ins),p.length<=1000000->∀k:AV->Hp->Prop,tr.get b=some (.cells 4 true true (rP p))->(∀tr',(∀c,c≠b->tr'.get c=tr.get c)->tr'.get b=some (.cells 4 true true (rP p.reverse))->k (.tup []) ⟨s,0,tr'⟩)->SC P g2 [.own b p.length] ⟨s,0,tr⟩ k) :
  qa P f [.fz l.length (rSy l)] (qiH l):=by
 have hlen:=(qhv (l:=l) l.length).2.2;refine qa.mk hc (by simp[qt,clo,qZ]) ?_;simp only[qfO,vI,simprocAttr];simp +decide only[↓vS,vT,simprocAttr];refine h1 _ λs tr bb far h=>?_
 have hll:(xO l).length=(zz l l.length).1.length:=by simp[xO]
 unfold qiH;rw[hll]
 by_cases hbig:4096<(zz l l.length).1.length
 .have hbig':(4096:Int)<((zz l l.length).1.length:Int):=by omega
  rw[if_pos hbig];simp +decide only[↓vS,vT,simprocAttr,h.k,hbig'];simp[vZ]
 .have hbig':¬(4096:Int)<((zz l l.length).1.length:Int):=by omega
  rw[if_neg hbig];simp +decide only[↓vS,vT,simprocAttr,h.k,hbig'];refine h2 s bb tr _ (by omega) _ h.b λtr' q1 q2=>?_
  have hk':=(q1 1 h.kb').trans h.k;simp +decide only[↓vS,vT,simprocAttr,hk'];simp[vZ,vP,q2,xO];refine⟨λh=>?_,Frzs.self (qw _)⟩
  rw[h];rfl
def qA2(P:Program)(g:Nat):Prop:=∀l:List GTest,l.length<=100000->qa P g [.fz l.length (rT l)] (.fz l.length (rT l))
def qCs{g:Nat}(h:qbx P g 4 32):qA2 P g:=by
 intro l hl;refine(h l.length (rT l) qeZ zX qxf (by simp only[qi];omega) (by simp only[qi];omega)).pure (by simp[qt,clo,zX]) ?_;refine .own 0 _ 4 true _ _ ?_ (λh0=>?_) (Frzs.self zX)
 .simp[qan,Hp.push,shb,H0,Tr.get_set,xt zX]
 .rw[List.eq_nil_of_length_eq_zero h0];rfl
def qlG(a:Nat):IFn:=⟨[.cell 2 3 true],sq [.r [.q 1 (.box (.t 0)),.q 2 (.alloc [.w 0,.nils,.w 0])],.r [.f 3 1 1,.d 4 3,.l 5 a [.t 4],.f 6 1 1,.u (.store 1 (.t 6) (.t 5))],.r [.v 7 3 1,.u (.store 3 (.t 2) (.t 7))],.ret]⟩
def qFS{g:Nat}(hc:qc P f (qlG g)=true)(hg:qA2 P g)(r:GRule)(hl:r.tests.length<=100000):qa P f [.agg (zu r)] (.agg (zu r)):=by
 refine qa.mk hc (by simp[qt,clo,zu,zX]) ?_;simp only[qlG,zu,vI,simprocAttr];simp +decide only[↓vS,vT,simprocAttr];refine(hg r.tests hl).sc ?_;simp +decide only[↓vS,vT,simprocAttr];simp[vZ,vP,Tr.get_set,zi zX]
def qgM:IFn:=⟨[.tmp 2],sq [.r [.q 1 (.box (.t 0)),.m 2 .F],.r [.f 3 1 1,.d 4 3,.q 5 (.bin .eql (.t 4) (.c (.x 0))),.n 2 5],.ret]⟩
def qHj(hc:qc P f qgM=true)(t:GTest):qa P f [.agg (jz t)] (.b (decide (t.mask=0))):=by
 refine qa.mk hc rfl ?_;simp only[qgM,jz,vI,simprocAttr];simp +decide only[↓vS,vT,simprocAttr];simp[vZ]
def qgm(a:Int)(ts:List GTest):List GTest:=(ts.reverse.dropWhile λt=>decide (t.act=a)).reverse
theorem qmf{a:Int}{ts:List GTest}{t:GTest}:qgm a (ts++[t])=if t.act=a then qgm a ts else ts++[t]:=by
 unfold qgm;rw[List.reverse_append,List.reverse_singleton,List.singleton_append,List.dropWhile_cons]
 by_cases h:t.act=a<;>simp[h]
def qfJ:List GTest->Int->List GTest×Int
 | [],a=>([],a)
 | t::ts,a=>if t.mask=0 then([],t.act)else(t::(qfJ ts a).1,(qfJ ts a).2)
def x7(r:GRule):GRule:=⟨r.nr,qgm (qfJ r.tests r.act).2 (qfJ r.tests r.act).1,(qfJ r.tests r.act).2⟩
def qu6:∀(ts:List GTest) (a:Int),(xq (λt=>decide (t.mask=0)) ts 0 = -1/\qfJ ts a=(ts,a))\/∃(i:Nat) (t:GTest),xq (λt=>decide (t.mask=0)) ts 0=(i:Int)/\ts[i]?=some t/\qfJ ts a=(ts.take i,t.act):=by
 have main:∀(ts:List GTest) (a:Int) (j:Nat),(xq (λt=>decide (t.mask=0)) ts j = -1/\qfJ ts a=(ts,a))\/∃(i:Nat) (t:GTest),xq (λt=>decide (t.mask=0)) ts j=((j+i:Nat):Int)/\ts[i]?=some t/\qfJ ts a=(ts.take i,t.act):=by
  intro ts
  induction ts with
  | nil=>intro a j;exact .inl ⟨rfl,rfl⟩
  | cons t ts ih =>
   intro a j
   by_cases h:t.mask=0
   .exact .inr ⟨0,t,by simp[xq,h],rfl,by simp[qfJ,h]⟩
   .rcases ih a (j+1)with⟨e1,e2⟩|⟨i,x,e1,e2,e3⟩
    .exact .inl ⟨by simp[xq,h,e1],by simp[qfJ,h,e2]⟩
    .exact .inr ⟨i+1,x,by simp[xq,h,e1];omega,by simpa using e2,by simp[qfJ,h,e3]⟩
 grind
def qAy{h:Hp}{esz n c:Nat}{q:IntKind}{cs:List AV}{k:AV->Prop}(h2:c<=n)(h3:c*esz<=cs.length):slK esz none (some (.i q (c:Int))) none (.fz n cs) h k↔evA (.fz c (cs.take (c*esz))) k:=by
 simp only[slK,qq7,qkJ];show(ifK (c<=n) _)↔_;simp only[ifK,h2,true_and,Option.isSome_none,Bool.false_and,Bool.false_eq_true,if_false];show(0*esz<=cs.length/\(c-0)*esz<=(cs.drop (0*esz)).length/\_)↔_;simp only[Nat.zero_mul,Nat.zero_le,Nat.sub_zero,List.drop_zero,h3,true_and];exact Iff.rfl
def qr4{l:List GTest}{k:Nat}:(rT l).take (k*4)=rT (l.take k):=qhs qdm l k
def qcV(a b c:Nat):ICode:=sq [sq [.r [.f 25 1 1,.d 26 25,.e 27 26,.n 4 27],.blk 0 (.loop (sq [sq [.reg true [.n 28 4,.w 29 .gtr 28 0,.n 30 29,.h 31 1 1 30 true,.j 32 31 30 true,.y 33 4 30,.g 34 (.bin .sub (.t 33) (.k 1)) 30 true,.g 35 (.iAddrS 4 (.t 32) (.t 34)) 30 true,.h 36 3 35 30 true,.j 37 36 30 true,.h 38 2 1 30 true,.j 39 38 30 true,.g 40 (.bin .eql (.t 37) (.t 39)) 30 true,.p 41 30 40],.cond (.t 41) (.skip) (.exit 0)],.blk 1 (.r [.f 44 1 1,.d 45 44,.n 46 4,.w 47 .sub 46 1,.q 48 (.slcS 4 (.t 45) none (some (.t 47)) none),.f 49 1 1,.u (.store 1 (.t 49) (.t 48))]),.r [.n 42 4,.w 43 .sub 42 1,.n 4 43]]))],.r [.v 50 3 1,.u (.store 3 (.t 2) (.t 50))],.ret]
def qi8(a b c:Nat):IFn:=⟨[.cell 2 3 true],sq [.r [.q 1 (.box (.t 0)),.q 2 (.alloc [.w 0,.nils,.w 0])],.r [.v 5 3 1,.l 6 a [.t 5],.u (.store 3 (.t 1) (.t 6))],sq [.r [.f 7 1 1,.d 8 7,.l 9 b [.t 8,(.c (.fn c [] []))],.n 3 9],.r [.n 10 3,.w 11 .geq 10 0],.cond (.t 11) (sq [.r [.f 12 1 1,.d 13 12,.n 14 3,.i 15 4 13 14,.f 16 3 15,.d 17 16,.f 18 2 1,.u (.store 1 (.t 18) (.t 17))],.r [.f 19 1 1,.d 20 19,.n 21 3,.n 22 3,.q 23 (.slcS 4 (.t 20) none (some (.t 21)) (some (.t 22))),.f 24 1 1,.u (.store 1 (.t 24) (.t 23))]]) (.skip)],.cut (qcV a b c)]⟩
def qj0{n0 g1 g2 g3 s:Nat}{tr:Tr Blk}{t:Tr AV}(nr a:Int)(ts:List GTest)(V:AV)(hV:V = .fz ts.length (rT ts)\/V = .e0/\ts=[])(hl:ts.length<=100000)(h0:tr.get 0=some (.v [.w nr,V,.w a]))(h1:∃x y z,tr.get 1=some (.v [x,y,z]))(ht:Has t [(1,.ptr 0 0),(2,.ptr 1 0)]) :
  S P n0 (qcV g1 g2 g3) (xu [.cell 2 3 true] λv' h'=>Frz h' v' (.agg (zu ⟨nr,qgm a ts,a⟩))) t ⟨s,0,tr⟩:=by
 refine S.has _ ht (qk ?_);simp only[qcV,vI,simprocAttr];have hlen:∀k:AV->Prop,k (.j (ts.length:Int))->True:=λ_ _=>trivial
 have loop:∀tt,Has tt [(1,.ptr 0 0),(2,.ptr 1 0),(4,.j (ts.length:Int))]->∀(x:ICode) (Q:X->Tr AV->Hp->Prop),True:=by simp_all
 rcases hV with rfl|⟨rfl,rfl⟩
 .simp +decide only[↓vS,vT,simprocAttr,h0]
  refine SL.loopP (α:=List GTest) (λu=>[(1,.ptr 0 0),(2,.ptr 1 0),(4,.j (u.length:Int))])
   (λu h=>u.length<=ts.length/\qgm a u=qgm a ts/\∃tr',h=⟨s,0,tr'⟩/\tr'.get 0=some (.v [.w nr,.fz u.length (rT u),.w a])/\∃x y z,tr'.get 1=some (.v [x,y,z])) (λu=>u.length) ?_ ts ?_ ?_
  .rintro u h1 ⟨hu,he,tr',rfl,g0,x,y,z,g1⟩ G ih;simp only[vI,simprocAttr];rcases List.eq_nil_or_concat u with rfl|⟨u0,t0,rfl⟩
   .have hz:¬(0:Int)<(([]:List GTest).length:Int):=by simp
    simp +decide only[↓vS,vT,simprocAttr];refine zB ?_;simp +decide only[↓vS,vT,simprocAttr,hz,g0,g1];have e0:qgm a ts=[]:=by rw[<- he];rfl
    simp[vZ,vP,Tr.get_set,zu,e0,rT]
   .rw[List.concat_eq_append]at hu he g0 ih ⊢;have hul:(u0++[t0]).length=u0.length+1:=by simp
    have hget:(u0++[t0])[u0.length]?=some t0:=by simp
    rw[hul]at hu g0 ⊢;have hz:(0:Int)<((u0.length+1:Nat):Int):=by omega
    have e1:IntKind.wrap .i64 (((u0.length+1:Nat):Int)-1)=(u0.length:Int):=by rw[qp (by omega) (by omega)];omega
    have hg3:(rT (u0++[t0]))[u0.length*4+3]?=some (.w t0.act):=qxe hget (by omega);have hlt:u0.length<u0.length+1:=by omega
    rw[qmf]at he;simp +decide only[↓vS,vT,simprocAttr];refine zB ?_
    by_cases ha:t0.act=a
    .rw[if_pos ha]at he;have k1:u0.length<=u0.length+1:=by omega
     have k2:u0.length*4<=(rT (u0++[t0])).length:=by rw[qeZ,hul];omega
     have k3:(rT (u0++[t0])).take (u0.length*4)=rT u0:=by rw[qr4];simp
     simp +decide only[↓vS,vT,simprocAttr,hz,g0,e1,hlt,hg3,eq_true ha,↓qAy k1 k2,k3];refine ih u0 _ _ (by simp) (by simp[qg,ql,Tr.get_set]) (by grind[Tr.get_set])
    .rw[if_neg ha]at he;simp +decide only[↓vS,vT,simprocAttr,hz,g0,g1,e1,hlt,hg3,ha];simp[vZ,vP,Tr.get_set,zu,<- he,zi zX]
  all_goals simp_all[qg,ql,Tr.get_set]
 .simp +decide only[↓vS,vT,simprocAttr,h0];refine SL.loopP (α:=Unit) (λu=>[(1,.ptr 0 0),(2,.ptr 1 0),(4,.j 0)]) (λu h=>h=⟨s,0,tr⟩) (λu=>0) ?_ () ?_ rfl
  .rintro u h2 rfl G ih;obtain⟨x,y,z,g1⟩:=h1;simp only[vI,simprocAttr];simp +decide only[↓vS,vT,simprocAttr];refine zB ?_;simp +decide only[↓vS,vT,simprocAttr,h0,g1];simp[vZ,vP,Tr.get_set,zu,qgm,rT]
  grind[qg,ql,Tr.get_set]
def qBp{g1 g2 g3:Nat}(hc:qc P f (qi8 g1 g2 g3)=true)(h1:∀r:GRule,r.tests.length<=100000->qa P g1 [.agg (zu r)] (.agg (zu r)))(h2:qfH 4 P g2)(h3:∀t:GTest,qa P g3 [.agg (jz t)] (.b (decide (t.mask=0))))(r:GRule)(hl:r.tests.length<=100000) :
  qa P f [.agg (zu r)] (.agg (zu (x7 r))):=by
 have e1:=h1 r hl;have e2:=h2 jz (λt=>decide (t.mask=0)) g3 [] [] r.tests qdm rfl rfl (by simp only[qi];omega) λt _=>by simpa using h3 t
 simp only[show r.tests.flatMap jz=rT r.tests from rfl]at e2
 refine qa.mk hc (by simp[qt,clo,zu,zX]) ?_;simp only[qi8,zu,vI,simprocAttr];simp only[zu]at e1;simp +decide only[↓vS,vT,simprocAttr];refine e1.sc ?_;simp +decide only[↓vS,vT,simprocAttr];refine e2.sc ?_;unfold x7;rcases qu6 r.tests r.act with⟨q1,q2⟩|⟨i,t,q1,q2,q3⟩
 .rw[q1,q2];simp +decide only[↓vS,vT,simprocAttr];refine qj0 r.nr r.act r.tests _ (.inl rfl) hl ?_ ?_ ?_
  all_goals simp_all[Tr.get_set,qg,ql]
 .rw[q1,q3];have hi:i<r.tests.length:=by grind
  have n0:(0:Int)<=(i:Int):=by omega
  have g3':(rT r.tests)[i*4+3]?=some (.w t.act):=qxe q2 (by omega);have k2:i<=r.tests.length:=by omega
  have k3:i*4<=(rT r.tests).length:=by rw[qeZ];omega
  have hlen:(r.tests.take i).length=i:=by simp_all
  rcases Nat.eq_zero_or_pos i with hz|hz
  .have es:∀(h:Hp) (k:AV->Prop),slK 4 none (some (.j (i:Int))) (some (.j (i:Int))) (.fz r.tests.length (rT r.tests)) h k↔evA .e0 k:=λh k=>by
    rw[hz];simp only[slK,qkM,qkJ];show(ifK (0<=r.tests.length) (ifK (0<=0) _))↔_;simp only[ifK,Nat.zero_le,true_and,Option.isSome_some];exact Iff.rfl
   have htk:r.tests.take i=[]:=by rw[hz];rfl
   rw[htk];simp +decide only[↓vS,vT,simprocAttr,n0,hi,g3',↓es];refine qj0 r.nr t.act [] .e0 (by simp_all) (by simp) ?_ ?_ ?_
   all_goals simp_all[Tr.get_set,qg,ql]
  .simp +decide only[↓vS,vT,simprocAttr,n0,hi,g3',↓qsd hz k2 k3,qr4];refine qj0 r.nr t.act (r.tests.take i) _ (.inl (by rw[hlen])) (by omega) ?_ ?_ ?_
   all_goals simp_all[Tr.get_set,qg,ql]
def qbO(d:Int)(r:GRule):Bool:=decide (0<r.tests.length)||decide (r.act≠d)
def jW(x:GFil):GFil:=⟨x.arch,(x.rules.map x7).filter (qbO x.dflt),x.dflt⟩
noncomputable def qsv(x:GFil):AV:=if jq x=true then .tup [.agg (zq (jW x)),.j 0]else .tup [.agg [.j 0,.fz 0 [],.w 0],.j 210]
def qfN(a b:Nat):IFn:=⟨[.cell 2 3 true,.tmp 3],sq [.r [.q 1 (.box (.t 0)),.q 2 (.alloc [.j 0,.nils,.w 0]),.m 3 (.k 0)],sq [.r [.v 7 3 1,.l 8 a [.t 7],.q 9 (.un .not (.t 8))],.cond (.t 9) (sq [.r [.q 10 (.build [.j 0,.nils,.w 0] []),.u (.store 3 (.t 2) (.t 10)),.m 3 (.k 210)],.ret]) (.skip)],.r [.f 11 0 1,.d 12 11,.f 13 2 1,.d 14 13,.q 15 (.build [.j 0,.nils,.w 0] [(0,1,(.t 12)),(2,1,(.t 14))]),.q 4 (.alloc [.j 0,.nils,.w 0]),.u (.store 3 (.t 4) (.t 15))],sq [.r [.f 16 1 1,.d 17 16,.e 18 17,.m 19 (.k 0)],.blk 0 (.loop (sq [.r [.s 20 19 18],.cond (.t 20) (.skip) (.exit 0),.blk 1 (sq [.r [.i 21 3 17 19,.v 22 3 21,.q 6 (.alloc [.w 0,.nils,.w 0]),.u (.store 3 (.t 6) (.t 22))],.r [.v 23 3 6,.l 24 b [.t 23],.u (.store 3 (.t 6) (.t 24))],.r [.f 25 1 6,.d 26 25,.e 27 26,.w 28 .gtr 27 0,.n 29 28,.h 30 2 6 29 false,.j 31 30 29 false,.h 32 2 1 29 false,.j 33 32 29 false,.g 34 (.bin .neq (.t 31) (.t 33)) 29 false,.o 35 29 34],.cond (.t 35) (.r [.f 36 1 4,.d 37 36,.v 38 3 6,.q 39 (.buildS 1 [.w 0,.nils,.w 0] [(0,3,(.t 38))]),.q 40 (.app 3 40 true (.t 37) (.t 39)),.f 41 1 4,.u (.store 1 (.t 41) (.t 40))]) (.skip)]),.r [.a 42 19 1,.n 19 42]]))],.r [.v 43 3 4,.u (.store 3 (.t 2) (.t 43)),.m 3 (.k 0)],.ret]⟩
def qou{g1 g2:Nat}(hc:qc P f (qfN g1 g2)=true)(x:GFil)(h1:qa P g1 [.agg (zq x)] (.b (jq x)))(h2:∀r:GRule,r.tests.length<=100000->qa P g2 [.agg (zu r)] (.agg (zu (x7 r))))(hl:x.rules.length<=100000)(ht:∀r ∈ x.rules,r.tests.length<=100000) :
  qa P f [.agg (zq x)] (qsv x):=by
 refine qa.mk hc (by simp[qt,clo,zq,qq]) ?_;simp only[qfN,zq,vI,simprocAttr];simp only[zq]at h1;simp +decide only[↓vS,vT,simprocAttr];refine h1.sc ?_;unfold qsv;cases hK:jq x with
 | false =>
  simp +decide only[↓vS,vT,simprocAttr];simp[vZ,vP,Tr.get_set]
 | true =>
  simp +decide only[↓vS,vT,simprocAttr]
  refine SL.loopP (α:=Nat×Nat) (λi=>[(1,.ptr 0 0),(2,.ptr 1 0),(4,.ptr 2 0),(17,.fz x.rules.length (rR x.rules)),(18,.j (x.rules.length:Int)),(19,.j (i.1:Int))])
   (λi h=>i.1<=x.rules.length/\∃s tr,h=⟨s,0,tr⟩/\3<=s/\tr.get 0=some (.v [.j x.arch,.fz x.rules.length (rR x.rules),.w x.dflt])/\(∃a b c,tr.get 1=some (.v [a,b,c])) /\
    tr.get 2=some (.v [.j x.arch,qc0 (((x.rules.take i.1).map x7).filter (qbO x.dflt)).length i.2,.w x.dflt])/\((((x.rules.take i.1).map x7).filter (qbO x.dflt)).length≠0->tr.get i.2=some (.cells 3 true true (rR (((x.rules.take i.1).map x7).filter (qbO x.dflt))))/\3<=i.2/\i.2<s)) (λi=>x.rules.length-i.1) ?_ (0,0) ?_ ?_
  .rintro⟨i,bo⟩ h ⟨hi,s,tr,rfl,hs,t0,⟨a,b,c,t1⟩,t2,to⟩ G ih;simp only at hi t2 to;simp only[vI,simprocAttr];obtain⟨A,hA⟩:∃A,A=((x.rules.take i).map x7).filter (qbO x.dflt):=⟨_,rfl⟩;rw[<- hA]at t2 to
   have hAl:A.length<=i:=by
    rw[hA];grind
   by_cases hlt:i<x.rules.length
   .have hlt':(i:Int)<x.rules.length:=by omega
    obtain⟨r,hr⟩:∃r,x.rules[i]?=some r:=⟨_,zzE hlt⟩;have hel:=qr0 hr;have h3:i*3+3<=(rR x.rules).length:=by rw[qhe];omega
    have hw1:IntKind.wrap .i64 ((i:Int)+1)=((i+1:Nat):Int):=by rw[qp (by omega) (by omega)];simp
    have hn:=h2 r (by grind)
    have hA2:((x.rules.take (i+1)).map x7).filter (qbO x.dflt)=A++if qbO x.dflt (x7 r)=true then [x7 r]else []:=by
     rw[qbt hr,List.map_append,List.filter_append,<- hA]
     by_cases hk:qbO x.dflt (x7 r)=true<;>simp[hk]
    obtain⟨q,hq⟩:∃q,q=x7 r:=⟨_,rfl⟩;rw[<- hq]at hn hA2;simp only[zu]at hn;have n0:¬0=s:=by omega
    have n1:¬1=s:=by omega
    have n2:¬2=s:=by omega
    have n3:¬s=s+1:=by omega
    have n4:¬2=s+1:=by omega
    have n5:¬2=s+1+1:=by omega
    have n6:¬s=2:=by omega
    simp +decide only[↓vS,vT,simprocAttr,hlt',hlt,h3,hel,zu,n0,n1,n2,n3];refine hn.sc ?_
    have e0:∀(tf:Tr Blk),(∀c,c<s->c≠2->c≠bo->tf.get c=tr.get c)->bo≠0/\bo≠1\/A.length=0->(A.length=0->∀c,c<s->c≠2->tf.get c=tr.get c)->tf.get 0=some (.v [.j x.arch,.fz x.rules.length (rR x.rules),.w x.dflt])/\∃a b c,tf.get 1=some (.v [a,b,c]):=λtf q1 q2 q3=>by
     grind
    by_cases hk:qbO x.dflt q=true
    .rw[if_pos hk]at hA2;have app:∀k:Prop,(∀(u:IntKind),True)->k->k:=λ_ _ h=>h
     have hcond:(0:Int)<(q.tests.length:Int)\/¬(0:Int)<(q.tests.length:Int)/\¬q.act=x.dflt:=by
      simp only[qbO,zzO,decide_eq_true_eq]at hk;omega
     by_cases hz:A.length=0
     .have hV:qc0 A.length bo = .nils:=by simp[qc0,hz]
      have hAn:A=[]:=by grind
      rw[hV]at t2
      have fin:∀tf tt,(∀c,c<s->c≠2->tf.get c=tr.get c)->tf.get 2=some (.v [.j x.arch,.own (s+1+1) 1,.w x.dflt])->tf.get (s+1+1)=some (.cells 3 true true [.w q.nr,.fz q.tests.length (rT q.tests),.w q.act])->Has tt [(1,.ptr 0 0),(2,.ptr 1 0),(4,.ptr 2 0),(17,.fz x.rules.length (rR x.rules)),(18,.j (x.rules.length:Int)),(19,.j ((i+1:Nat):Int))]->G tt ⟨s+1+1+1,0,tf⟩:=λtf tt q1 q2 q3 q4=>by
       refine ih (i+1,s+1+1) _ _ (by omega) q4 ⟨by omega,_,tf,rfl,by omega,by grind,by grind,?_,λ_=>⟨?_,by omega,by omega⟩⟩
       .simp only[hA2,hAn];rw[q2];rfl
       .simp only[hA2,hAn];rw[q3];simp[rR,zu]
      rcases hcond with hc1|⟨hc1,hc2⟩
      .simp +decide only[↓vS,vT,simprocAttr,hc1,t2,n0,n1,n2,n3,n4,n5,n6,hw1];refine fin _ _ (λc c1 c2=>?_) (by rw[Tr.get_set,if_pos rfl]) ?_ (by simp[qg,ql,Tr.get_set])
       .simp only[Tr.get_set];repeat rw[if_neg (by omega)]
       grind[Tr.get_set]
      .simp +decide only[↓vS,vT,simprocAttr,hc1,hc2,t0,t2,n0,n1,n2,n3,n4,n5,n6,hw1];refine fin _ _ (λc c1 c2=>?_) (by rw[Tr.get_set,if_pos rfl]) ?_ (by simp[qg,ql,Tr.get_set])
       .simp only[Tr.get_set];repeat rw[if_neg (by omega)]
       grind[Tr.get_set]
     .obtain⟨o1,o2,o3⟩:=to hz;have hV:qc0 A.length bo = .own bo A.length:=by simp[qc0,hz]
      rw[hV]at t2;have m1:¬bo=s:=by omega
      have m2:¬bo=s+1:=by omega
      have m3:¬s+1=bo:=by omega
      have m4:¬2=bo:=by omega
      have rr1:A.length+1<=qi:=by simp only[qi];omega
      have rr2:(A.length+1)*40<=qi:=by simp only[qi];omega
      have hrl:(rR A).length=A.length*3:=qhe
      have fin:∀tf tt,(∀c,c<s->c≠2->c≠bo->tf.get c=tr.get c)->tf.get 2=some (.v [.j x.arch,.own (s+1+1) (A.length+1),.w x.dflt])->tf.get (s+1+1)=some (.cells 3 true true (rR A++[.w q.nr,.fz q.tests.length (rT q.tests),.w q.act]))->Has tt [(1,.ptr 0 0),(2,.ptr 1 0),(4,.ptr 2 0),(17,.fz x.rules.length (rR x.rules)),(18,.j (x.rules.length:Int)),(19,.j ((i+1:Nat):Int))]->G tt ⟨s+1+1+1,0,tf⟩:=λtf tt q1 q2 q3 q4=>by
       refine ih (i+1,s+1+1) _ _ (by omega) q4 ⟨by omega,_,tf,rfl,by omega,by grind,by grind,?_,λ_=>⟨?_,by omega,by omega⟩⟩
       .simp only[hA2];rw[q2];simp[qc0]
       .simp only[hA2];rw[q3,<- qw7];simp[rR,zu]
      rcases hcond with hc1|⟨hc1,hc2⟩
      .simp +decide only[↓vS,vT,simprocAttr,hc1,t2,o1,m1,m2,m3,m4,rr1,rr2,hrl,n0,n1,n2,n3,n4,n5,n6,hw1];refine fin _ _ (λc c1 c2 c3=>?_) (by rw[Tr.get_set,if_pos rfl]) ?_ (by simp[qg,ql,Tr.get_set])
       .simp only[Tr.get_set];repeat rw[if_neg (by omega)]
       grind[Tr.get_set]
      .simp +decide only[↓vS,vT,simprocAttr,hc1,hc2,t0,t2,o1,m1,m2,m3,m4,rr1,rr2,hrl,n0,n1,n2,n3,n4,n5,n6,hw1];refine fin _ _ (λc c1 c2 c3=>?_) (by rw[Tr.get_set,if_pos rfl]) ?_ (by simp[qg,ql,Tr.get_set])
       .simp only[Tr.get_set];repeat rw[if_neg (by omega)]
       grind[Tr.get_set]
    .rw[if_neg hk,List.append_nil]at hA2;have hc1:¬(0:Int)<(q.tests.length:Int):=λh=>hk (by simp only[qbO,zzO,decide_eq_true_eq];omega)
     have hc2:q.act=x.dflt:=by
      rcases Classical.em (q.act=x.dflt)with h|h
      .exact h
      .exact absurd (by simp[qbO,h]) hk
     simp +decide only[↓vS,vT,simprocAttr,hc1,eq_true hc2,t0,n0,n1,n2,n3,hw1];refine ih (i+1,bo) _ _ (by omega) (by simp[qg,ql,Tr.get_set]) ⟨by omega,s+1,_,rfl,by omega,?_,⟨a,b,c,?_⟩,?_,λhz=>?_⟩
     .grind[Tr.get_set]
     .grind[Tr.get_set]
     .grind[Tr.get_set]
     .simp only[hA2]at hz ⊢;obtain⟨o1,o2,o3⟩:=to hz;refine⟨?_,o2,by omega⟩
      simp only[Tr.get_set];grind
   .obtain rfl:i=x.rules.length:=by omega
    have hlt':¬((x.rules.length:Int)<x.rules.length):=by omega
    rw[List.take_length]at hA;have hnF:(jW x).rules=A:=hA.symm
    by_cases hz:A.length=0
    .have hV:qc0 A.length bo = .nils:=by simp[qc0,hz]
     have hAn:A=[]:=by grind
     rw[hV]at t2;simp +decide only[↓vS,vT,simprocAttr,hlt',t2,t1];simp only[zq,hnF,hAn];simp[vZ,vP,Tr.get_set,rR,jW]
    .obtain⟨o1,o2,o3⟩:=to hz;have hV:qc0 A.length bo = .own bo A.length:=by simp[qc0,hz]
     have m1:¬bo=1:=by omega
     rw[hV]at t2;simp +decide only[↓vS,vT,simprocAttr,hlt',t2,t1];simp only[zq,hnF];have hA0:¬A=[]:=(by grind);simp[vZ,vP,Tr.get_set,o1,m1,zi qq,hA0,jW]
  .simp[qg,ql,Tr.get_set]
  .refine⟨Nat.zero_le _,_,_,rfl,by omega,?_,⟨.j 0,.nils,.w 0,?_⟩,?_,by simp_all⟩
   .simp[Tr.get_set]
   .simp[Tr.get_set]
   .simp[Tr.get_set,qc0]
def WkB(fl:List AV)(ar row prg:AV):Blk:=.v (fl++[ar,row,prg])
section
variable {b s:Nat} {tr:Tr Blk} {k:AV->Hp->Prop} {x:GFil} {ar row prg:AV}
def zV(a:Nat):IFn:=⟨[.tmp 2],sq [.r [.m 2 (.k 0)],.r [.n 4 0,.n 5 0,.q 6 (.nilChk (.t 5)),.f 7 0 6,.v 8 3 7,.l 9 a [.t 8],.n 3 9,.x 10 3 0,.x 11 3 1,.q 12 (.nilChk (.t 4)),.f 13 4 12,.u (.store 1 (.t 13) (.t 10)),.n 2 11],.r [.n 14 2,.n 2 14],.ret]⟩
def qmk{g:Nat}(hc:qc P f (zV g)=true)(fl:List AV)(hfl:fl.length=3)(h:tr.get b=some (WkB fl ar row prg))(r:AV)(e:Int)(hr:zd r=true/\qcQ r=true/\cellsOf r=[r])(hg:qa P g [.agg fl] (.tup [r,.j e]))
  (hk:∀tr',(∀c,c≠b->tr'.get c=tr.get c)->tr'.get b=some (WkB fl ar r prg)->k (.j e) ⟨s,0,tr'⟩):SC P f [.ptr b 0] ⟨s,0,tr⟩ k:=by
 obtain⟨a1,a2,a3,rfl⟩:∃a1 a2 a3,fl=[a1,a2,a3]:=by
  match fl,hfl with
  | [a1,a2,a3],_=>exact by simp_all
 obtain⟨r1,r2,r3⟩:=hr;simp only[WkB,zzC,zzN]at h hk;refine SC.mk hc (qk ?_);simp only[zV,vI,simprocAttr];simp +decide only[↓vS,vT,simprocAttr,h];refine hg.sc ?_;simp +decide only[↓vS,vT,simprocAttr,h,r1,r2,r3]
 simp_all[Tr.get_set]
def z6(a:Nat):IFn:=⟨[.tmp 2],sq [.r [.m 2 (.k 0)],.r [.n 4 0,.n 5 0,.q 6 (.nilChk (.t 5)),.f 7 0 6,.v 8 3 7,.l 9 a [.t 8],.n 3 9,.x 10 3 0,.x 11 3 1,.q 12 (.nilChk (.t 4)),.f 13 0 12,.u (.store 3 (.t 13) (.t 10)),.n 2 11],.r [.n 14 2,.n 2 14],.ret]⟩
def qml{g:Nat}(hc:qc P f (z6 g)=true)(fl:List AV)(hfl:fl.length=3)(h:tr.get b=some (WkB fl ar row prg))(fl2:List AV)(hf2:fl2.length=3)(e:Int)(hr:qD fl2=true)(hg:qa P g [.agg fl] (.tup [.agg fl2,.j e]))
  (hk:∀tr',(∀c,c≠b->tr'.get c=tr.get c)->tr'.get b=some (WkB fl2 ar row prg)->k (.j e) ⟨s,0,tr'⟩):SC P f [.ptr b 0] ⟨s,0,tr⟩ k:=by
 obtain⟨a1,a2,a3,rfl⟩:∃a1 a2 a3,fl=[a1,a2,a3]:=by
  match fl,hfl with
  | [a1,a2,a3],_=>exact by simp_all
 obtain⟨c1,c2,c3,rfl⟩:∃a1 a2 a3,fl2=[a1,a2,a3]:=by
  match fl2,hf2 with
  | [a1,a2,a3],_=>exact by simp_all
 simp only[WkB,zzC,zzN]at h hk;refine SC.mk hc (qk ?_);simp only[z6,vI,simprocAttr];simp +decide only[↓vS,vT,simprocAttr,h];refine hg.sc ?_;simp +decide only[↓vS,vT,simprocAttr,h,hr]
 simp_all[Tr.get_set]
def zQ(a:Nat):IFn:=⟨[.tmp 2],sq [.r [.m 2 (.k 0)],.r [.n 4 0,.n 5 0,.q 6 (.nilChk (.t 5)),.f 7 3 6,.d 8 7,.l 9 a [.t 8],.n 3 9,.x 10 3 0,.x 11 3 1,.q 12 (.nilChk (.t 4)),.f 13 4 12,.u (.store 1 (.t 13) (.t 10)),.n 2 11],.r [.n 14 2,.n 2 14],.ret]⟩
def qhE{g:Nat}(hc:qc P f (zQ g)=true)(fl:List AV)(hfl:fl.length=3)(h:tr.get b=some (WkB fl ar row prg))(r:AV)(e:Int)(hr:zd r=true/\qcQ r=true/\cellsOf r=[r])(hg:qa P g [ar] (.tup [r,.j e]))
  (hk:∀tr',(∀c,c≠b->tr'.get c=tr.get c)->tr'.get b=some (WkB fl ar r prg)->k (.j e) ⟨s,0,tr'⟩):SC P f [.ptr b 0] ⟨s,0,tr⟩ k:=by
 obtain⟨a1,a2,a3,rfl⟩:∃a1 a2 a3,fl=[a1,a2,a3]:=by
  match fl,hfl with
  | [a1,a2,a3],_=>exact by simp_all
 obtain⟨r1,r2,r3⟩:=hr;simp only[WkB,zzC,zzN]at h hk;refine SC.mk hc (qk ?_);simp only[zQ,vI,simprocAttr];simp +decide only[↓vS,vT,simprocAttr,h];refine hg.sc ?_;simp +decide only[↓vS,vT,simprocAttr,h,r1,r2,r3]
 simp_all[Tr.get_set]
def za(a:Nat):IFn:=⟨[.tmp 2],sq [.r [.m 2 (.k 0)],.r [.n 4 0,.n 5 0,.q 6 (.nilChk (.t 5)),.f 7 4 6,.d 8 7,.l 9 a [.t 8],.n 3 9,.x 10 3 0,.x 11 3 1,.q 12 (.nilChk (.t 4)),.f 13 4 12,.u (.store 1 (.t 13) (.t 10)),.n 2 11],.r [.n 14 2,.n 2 14],.ret]⟩
def qmj{g:Nat}(hc:qc P f (za g)=true)(fl:List AV)(hfl:fl.length=3)(h:tr.get b=some (WkB fl ar row prg))(r:AV)(e:Int)(hr:zd r=true/\qcQ r=true/\cellsOf r=[r])(hg:qa P g [row] (.tup [r,.j e]))
  (hk:∀tr',(∀c,c≠b->tr'.get c=tr.get c)->tr'.get b=some (WkB fl ar r prg)->k (.j e) ⟨s,0,tr'⟩):SC P f [.ptr b 0] ⟨s,0,tr⟩ k:=by
 obtain⟨a1,a2,a3,rfl⟩:∃a1 a2 a3,fl=[a1,a2,a3]:=by
  match fl,hfl with
  | [a1,a2,a3],_=>exact by simp_all
 obtain⟨r1,r2,r3⟩:=hr;simp only[WkB,zzC,zzN]at h hk;refine SC.mk hc (qk ?_);simp only[za,vI,simprocAttr];simp +decide only[↓vS,vT,simprocAttr,h];refine hg.sc ?_;simp +decide only[↓vS,vT,simprocAttr,h,r1,r2,r3]
 simp_all[Tr.get_set]
def qL(a:Nat):IFn:=⟨[.tmp 2],sq [.r [.m 2 (.k 0)],.r [.n 4 0,.n 5 0,.q 6 (.nilChk (.t 5)),.f 7 4 6,.d 8 7,.l 9 a [.t 8],.n 3 9,.x 10 3 0,.x 11 3 1,.q 12 (.nilChk (.t 4)),.f 13 5 12,.u (.store 1 (.t 13) (.t 10)),.n 2 11],.r [.n 14 2,.n 2 14],.ret]⟩
def qfZ{g:Nat}(hc:qc P f (qL g)=true)(fl:List AV)(hfl:fl.length=3)(h:tr.get b=some (WkB fl ar row prg))(r:AV)(e:Int)(hr:zd r=true/\qcQ r=true/\cellsOf r=[r])(hg:qa P g [row] (.tup [r,.j e]))
  (hk:∀tr',(∀c,c≠b->tr'.get c=tr.get c)->tr'.get b=some (WkB fl ar row r)->k (.j e) ⟨s,0,tr'⟩):SC P f [.ptr b 0] ⟨s,0,tr⟩ k:=by
 obtain⟨a1,a2,a3,rfl⟩:∃a1 a2 a3,fl=[a1,a2,a3]:=by
  match fl,hfl with
  | [a1,a2,a3],_=>exact by simp_all
 obtain⟨r1,r2,r3⟩:=hr;simp only[WkB,zzC,zzN]at h hk;refine SC.mk hc (qk ?_);simp only[qL,vI,simprocAttr];simp +decide only[↓vS,vT,simprocAttr,h];refine hg.sc ?_;simp +decide only[↓vS,vT,simprocAttr,h,r1,r2,r3]
 simp_all[Tr.get_set]
def qM:IFn:=⟨[.tmp 4,.tmp 5],sq [.r [.m 4 .N,.m 5 (.k 0)],sq [.r [.n 9 1,.e 10 9,.m 11 (.k 0)],.blk 0 (.loop (sq [.r [.s 12 11 10],.cond (.t 12) (.skip) (.exit 0),.blk 1 (sq [.r [.i 13 1 9 11,.d 14 13,.n 7 14],.r [.n 15 7,⟨(some 16),.callV (.t 15) [],none⟩,.n 8 16],.r [.n 17 8,.w 18 .neq 17 0],.cond (.t 18) (sq [.r [.n 19 8,.m 4 .N,.n 5 19],.ret]) (.skip)]),.r [.a 20 11 1,.n 11 20]]))],.r [.n 21 0,.q 22 (.nilChk (.t 21)),.f 23 5 22,.d 24 23,.n 4 24,.m 5 (.k 0)],.ret]⟩
def qxS(hc:qc P f qM=true){bx e:Nat}{wf a:Bool}(gs:List Nat)(hx:tr.get bx=some (.cells e wf a (gs.map λg=>.fn g [.ptr b 0] [])))(hbx:bx≠b)(J:Nat->AV->Blk->Prop)(n:Nat)(hn:gs.length=n)(hn9:n<=9)
  (B0:Blk) (h0:tr.get b=some B0) (hJ0:J 0 (.j 0) B0)
  (step:∀(i:Nat) g B (s':Nat) (tr':Tr Blk) (k':AV->Hp->Prop),gs[i]?=some g->J i (.j 0) B->tr'.get b=some B->(∀(v:Int) B' tr2,(∀c,c≠b->tr2.get c=tr'.get c)->tr2.get b=some B'->J (i+1) (.j v) B'->k' (.j v) ⟨s',0,tr2⟩)->SC P g [.ptr b 0] ⟨s',0,tr'⟩ k')
  (hbad:∀(i:Nat) (v:Int) B tr2,(∀c,c≠b->tr2.get c=tr.get c)->v≠0->J i (.j v) B->k (.tup [.nils,.j v]) ⟨s,0,tr2⟩)
  (hok:∀B tr2,(∀c,c≠b->tr2.get c=tr.get c)->J n (.j 0) B->tr2.get b=some B->∃fl ar row prg,fl.length=3/\B=WkB fl ar row prg/\k (.tup [prg,.j 0]) ⟨s,0,tr2⟩) :
  SC P f [.ptr b 0,.sl bx 0 n n false] ⟨s,0,tr⟩ k:=by
 refine SC.mk hc (qk ?_);simp only[qM,vI,simprocAttr];simp +decide only[↓vS,vT,simprocAttr]
 refine SL.loopP (α:=Nat) (λi=>[(0,.ptr b 0),(9,.sl bx 0 n n false),(10,.j (n:Int)),(11,.j (i:Int))])
  (λi h=>i<=n/\∃tr' B,h=⟨s,0,tr'⟩/\(∀c,c≠b->tr'.get c=tr.get c)/\tr'.get bx=some (.cells e wf a (gs.map λg=>.fn g [.ptr b 0] []))/\tr'.get b=some B/\J i (.j 0) B) (λi=>n-i) ?_ 0 ?_ ?_
 .rintro i h ⟨hi,tr',B,rfl,gf,gx,gb,hj⟩ G ih;simp only[vI,simprocAttr]
  by_cases hlt:i<n
  .have hlt':(i:Int)<n:=by omega
   obtain⟨g,hg⟩:∃g,gs[i]?=some g:=⟨_,zzE (by omega)⟩;have hgm:(gs.map λg=>AV.fn g [.ptr b 0] [])[i]?=some (.fn g [.ptr b 0] []):=by simp[hg]
   have hw1:IntKind.wrap .i64 ((i:Int)+1)=((i+1:Nat):Int):=by rw[qp (by omega) (by omega)];simp
   simp +decide only[↓vS,vT,simprocAttr,hlt',hlt,gx,hgm,zzU];refine step i g B s tr' _ hg hj gb λv B' tr2 q1 q2 q3=>?_
   by_cases hv:v=0
   .subst hv;simp +decide only[↓vS,vT,simprocAttr,hw1];exact ih (i+1) _ _ (by omega) (by simp[qg,ql,Tr.get_set]) (by grind)
   .simp +decide only[↓vS,vT,simprocAttr,hv];exact by grind
  .obtain rfl:i=n:=by omega
   have hlt':¬((i:Int)<i):=by omega
   obtain⟨fl,ar,row,prg,hfl,hB,hk⟩:=hok B tr' gf hj gb
   obtain⟨a1,a2,a3,rfl⟩:∃a1 a2 a3,fl=[a1,a2,a3]:=by
    match fl,hfl with
    | [a1,a2,a3],_=>exact by grind
   rw[hB]at gb;simp only[WkB,zzC,zzN]at gb;simp +decide only[↓vS,vT,simprocAttr,hlt',gb];exact hk
 all_goals grind[qg,ql,Tr.get_set]
def qhk(hc:qc P f qM=true){bx e:Nat}{wf a:Bool}(gs:List Nat)(hx:tr.get bx=some (.cells e wf a (gs.map λg=>.fn g [.ptr b 0] [])))(hbx:bx≠b)(Bs:Nat->Blk)(vs:Nat->Int)(n:Nat)(hn:gs.length=n)(hn9:n<=9)(h0:tr.get b=some (Bs 0))(hv0:vs 0=0)
  (step:∀(i:Nat) g (s':Nat) (tr':Tr Blk) (k':AV->Hp->Prop),gs[i]?=some g->(∀j,j<=i->vs j=0)->tr'.get b=some (Bs i)->(∀tr2,(∀c,c≠b->tr2.get c=tr'.get c)->tr2.get b=some (Bs (i+1))->k' (.j (vs (i+1))) ⟨s',0,tr2⟩)->SC P g [.ptr b 0] ⟨s',0,tr'⟩ k')
  (hbad:∀(i:Nat) tr2,(∀c,c≠b->tr2.get c=tr.get c)->vs i≠0->(∀j,j<i->vs j=0)->k (.tup [.nils,.j (vs i)]) ⟨s,0,tr2⟩)
  (hok:∀tr2,(∀c,c≠b->tr2.get c=tr.get c)->(∀j,j<=n->vs j=0)->tr2.get b=some (Bs n)->∃fl ar row prg,fl.length=3/\Bs n=WkB fl ar row prg/\k (.tup [prg,.j 0]) ⟨s,0,tr2⟩) :
  SC P f [.ptr b 0,.sl bx 0 n n false] ⟨s,0,tr⟩ k:=by
 refine qxS hc gs hx hbx (λi v B=>v = .j (vs i)/\B=Bs i/\∀j,j<i->vs j=0) n hn hn9 (Bs 0) h0 ⟨by rw[hv0],rfl,λj hj=>by omega⟩ ?_ ?_ ?_
 .rintro i g B s' tr' k' hg ⟨h1,rfl,h2⟩ hB hk';have hvi:vs i=0:=by grind
  refine step i g s' tr' k' hg (λj hj=>?_) hB λtr2 q1 q2=>hk' _ _ _ q1 q2 ⟨rfl,rfl,λj hj=>?_⟩
  .rcases Nat.lt_or_ge j i with h|h
   .exact h2 j h
   .rw[show j=i by omega];exact hvi
  .rcases Nat.lt_or_ge j i with h|h
   .exact h2 j h
   .rw[show j=i by omega];exact hvi
 all_goals grind
def xV:IFn:=⟨[.tmp 8,.tmp 9],sq [.r [.m 8 .N,.m 9 (.k 0)],sq [.r [.n 10 3,.w 11 .neq 10 0,.n 12 11,.z 13 1 12,.g 14 (.bin .eql (.t 13) (.k 0)) 12 false,.z 15 14 12,.y 16 0 15,.g 17 (.len false (.t 16)) 15 true,.y 18 2 15,.g 19 (.len false (.t 18)) 15 true,.g 20 (.bin .lss (.t 17) (.t 19)) 15 true,.g 21 (.pick (.t 15) (.t 20) .F) 12 false,.o 22 12 21],.cond (.t 22) (sq [.r [.n 23 0,.n 24 1,.n 8 23,.n 9 24],.ret]) (.skip)],.r [.n 25 2,.n 26 3,.n 8 25,.n 9 26],.ret]⟩
def qiE(v:AV)(p:List Ins):Prop:=v = .fz p.length (rP p)\/v = .nils/\p=[]
def qcl(u v:List Ins×Int):List Ins×Int:=if v.2≠0\/(u.2=0/\u.1.length<v.1.length)then u else v
def qiE.clo{v:AV}{p:List Ins}(h:qiE v p):Go.Kc.clo v=true:=by
 rcases h with rfl|⟨rfl,_⟩
 .simp[Go.Kc.clo,qw]
 .rfl
def qjv(hc:qc P f xV=true)(u v:List Ins×Int)(x y:AV)(hx:qiE x u.1)(hy:qiE y v.1) :
  ∃z,qiE z (qcl u v).1/\qa P f [x,.j u.2,y,.j v.2] (.tup [z,.j (qcl u v).2]):=by
 have key:∀(h:Bool),(decide (v.2≠0\/(u.2=0/\u.1.length<v.1.length)))=h->qa P f [x,.j u.2,y,.j v.2] (.tup [if h=true then x else y,.j (if h=true then u.2 else v.2)]):=by
  intro h hh;refine qa.mk hc (by simp[qt,Go.Kc.clo,hx.clo,hy.clo]) ?_;simp only[xV,vI,simprocAttr]
  by_cases h1:v.2=0
  .by_cases h2:u.2=0
   .have e:h=decide (u.1.length<v.1.length):=by rw[<- hh];simp[h1,h2]
    rw[e];rcases hx with rfl|⟨rfl,hx⟩<;>rcases hy with rfl|⟨rfl,hy⟩
    .by_cases h3:u.1.length<v.1.length
     .simp +decide only[↓vS,vT,simprocAttr,h1,h2,Int.ofNat_lt,h3];simp[vZ,zi (qw _)]
     .simp +decide only[↓vS,vT,simprocAttr,h1,h2,Int.ofNat_lt,h3];simp[vZ,zi (qw _)]
    .have h3:¬u.1.length<v.1.length:=by rw[hy];simp
     have h3':¬(u.1.length:Int)<0:=by omega
     simp +decide only[↓vS,vT,simprocAttr,h1,h2,h3',h3];simp[vZ]
    .rw[hx]
     by_cases h3:0<v.1.length
     .have h3':(0:Int)<v.1.length:=by omega
      simp +decide only[↓vS,vT,simprocAttr,h1,h2,h3',h3];simp[vZ]
     .have h3':¬(0:Int)<v.1.length:=by omega
      simp +decide only[↓vS,vT,simprocAttr,h1,h2,h3',h3];simp[vZ,zi (qw _)]
    .rw[hx,hy];simp +decide only[↓vS,vT,simprocAttr,h1,h2];simp[vZ]
   .have e:h=false:=by rw[<- hh];simp[h1,h2]
    rw[e];simp +decide only[↓vS,vT,simprocAttr,h1,h2];simp[vZ,h1,Frz.self hy.clo]
  .have e:h=true:=by rw[<- hh];simp[h1]
   rw[e];simp +decide only[↓vS,vT,simprocAttr,h1];simp[vZ,Frz.self hx.clo]
 unfold qcl
 grind
end
def zD(l:List Sy):List Ins×Int:=if 4096<(xO l).length then([],270)else(xO l,0)
def qkI{l:List Sy}:qiH l = .tup [.fz (zD l).1.length (rP (zD l).1),.j (zD l).2]:=by
 unfold qiH zD;split<;>rfl
def qbQ(l:List Sy):List Sy:=qg7 (qon (qfz l))
noncomputable def qeb(x:GFil):List Ins×Int:=if jq x=true then zD (zm x)else([],210)
noncomputable def qfe(x:GFil):List Ins×Int:=if jq x=true then zD (qbQ (zm (jW x)))else([],210)
noncomputable def qbZ(x:GFil)(o:Bool):List Ins×Int:=if o=true then qcl (qeb x) (qfe x)else qeb x
structure CmpFn (P:Program) (gE gN gO gL:Nat) (x:GFil):Prop where
 em:qa P gE [.agg (zq x)] (qoA x)
 nm:qa P gN [.agg (zq x)] (qsv x)
 lk:jq x=true->qa P gL [.fz (zm x).length (rSy (zm x))] (qiH (zm x))
 em2:jq x=true->qa P gE [.agg (zq (jW x))] (qoA (jW x))
 ok2:jq x=true->jq (jW x)=true
 op:jq x=true->qa P gO [.fz (zm (jW x)).length (rSy (zm (jW x)))] (.tup [.fz (qbQ (zm (jW x))).length (rSy (qbQ (zm (jW x)))),.j 0])
 lk2:jq x=true->qa P gL [.fz (qbQ (zm (jW x))).length (rSy (qbQ (zm (jW x))))] (qiH (qbQ (zm (jW x))))
section
variable {gE gN gO gL b s:Nat} {tr:Tr Blk} {k:AV->Hp->Prop} {x:GFil}
def qjQ{n:Nat}{cs:List AV}:zd (.fz n cs)=true/\qcQ (.fz n cs)=true/\cellsOf (.fz n cs)=[.fz n cs]:=⟨rfl,rfl,rfl⟩
def qAG{gd gwE gwL bx:Nat}{e:Nat}{wf a:Bool}(hc:qc P gd qM=true)(hE:qc P gwE (zV gE)=true)(hL:qc P gwL (qL gL)=true)(C:CmpFn P gE gN gO gL x)
  (hx:tr.get bx=some (.cells e wf a [.fn gwE [.ptr b 0] [],.fn gwL [.ptr b 0] []])) (hbx:bx≠b) (h0:tr.get b=some (WkB (zq x) .nils .nils .nils))
  (hk:∀v tr2,qiE v (qeb x).1->(∀c,c≠b->tr2.get c=tr.get c)->k (.tup [v,.j (qeb x).2]) ⟨s,0,tr2⟩):SC P gd [.ptr b 0,.sl bx 0 2 2 false] ⟨s,0,tr⟩ k:=by
 have hE':=C.em;cases hK:jq x with
 | false =>
  have e1:qeb x=([],210):=by unfold qeb;grind
  rw[e1]at hk;unfold qoA at hE';rw[hK,if_neg (by simp)]at hE';refine qhk hc [gwE,gwL] (by simpa using hx) hbx (λi=>if i=0 then WkB (zq x) .nils .nils .nils else WkB (zq x) .nils (.fz 0 []) .nils) (λi=>if i=0 then 0 else 210) 2 rfl (by omega) h0 rfl ?_ ?_ ?_
  .intro i g s' tr' k' hg hj hB hk'
   have hi:i=0:=by
    simp_all
   subst hi;simp at hg;subst hg;exact qmk hE (zq x) rfl hB _ _ qjQ hE' hk'
  .intro i tr2 hf hv hj;have hi:i≠0:=by omega
   simp only[if_neg hi];exact hk _ _ (.inr ⟨rfl,rfl⟩) hf
  .intro tr2 _ hj _;have:=hj 1 (by omega);omega
 | true =>
  have hL':=C.lk hK;rw[qkI]at hL';have e1:qeb x=zD (zm x):=by unfold qeb;grind
  rw[e1]at hk;unfold qoA at hE';rw[hK,if_pos rfl]at hE'
  refine qhk hc [gwE,gwL] (by simpa using hx) hbx (λi=>if i=0 then WkB (zq x) .nils .nils .nils else if i=1 then WkB (zq x) .nils (.fz (zm x).length (rSy (zm x))) .nils else WkB (zq x) .nils (.fz (zm x).length (rSy (zm x))) (.fz (zD (zm x)).1.length (rP (zD (zm x)).1)))
   (λi=>if i=0 then 0 else if i=1 then 0 else(zD (zm x)).2) 2 rfl (by omega) h0 rfl ?_ ?_ ?_
  .intro i g s' tr' k' hg hj hB hk';have hi:i<2:=by have:=(zzS.1 hg).1;omega
   have hi2:i=0\/i=1:=by omega
   rcases hi2 with rfl|rfl
   .simp at hg;subst hg;exact qmk hE (zq x) rfl hB _ _ qjQ hE' hk'
   .simp at hg;subst hg;exact qfZ hL (zq x) rfl hB _ _ qjQ hL' hk'
  .intro i tr2 hf hv hj;have h0':i≠0:=by omega
   have h1':i≠1:=by omega
   simp only[if_neg h0',if_neg h1']at hv ⊢
   have e2:(zD (zm x)).1=[]:=by
    unfold zD at hv ⊢
    grind
   exact hk _ _ (.inr ⟨rfl,e2⟩) hf
  .intro tr2 hf hj hB;have hz:=hj 2 (by omega);simp at hz;refine⟨zq x,.nils,_,_,rfl,rfl,?_⟩;have:=hk (.fz (zD (zm x)).1.length (rP (zD (zm x)).1)) tr2 (.inl rfl) hf;rw[hz]at this;omega
def qAF{gd gwN gwE gwO gwL bx:Nat}{e:Nat}{wf a:Bool}(hc:qc P gd qM=true)(hN:qc P gwN (z6 gN)=true)(hE:qc P gwE (zV gE)=true)(hO:qc P gwO (za gO)=true)(hL:qc P gwL (qL gL)=true)(C:CmpFn P gE gN gO gL x)
  (hx:tr.get bx=some (.cells e wf a [.fn gwN [.ptr b 0] [],.fn gwE [.ptr b 0] [],.fn gwO [.ptr b 0] [],.fn gwL [.ptr b 0] []])) (hbx:bx≠b) (h0:tr.get b=some (WkB (zq x) .nils .nils .nils))
  (hk:∀v tr2,qiE v (qfe x).1->(∀c,c≠b->tr2.get c=tr.get c)->k (.tup [v,.j (qfe x).2]) ⟨s,0,tr2⟩):SC P gd [.ptr b 0,.sl bx 0 4 4 false] ⟨s,0,tr⟩ k:=by
 have hN':=C.nm;cases hK:jq x with
 | false =>
  have e1:qfe x=([],210):=by unfold qfe;grind
  rw[e1]at hk;unfold qsv at hN';rw[hK,if_neg (by simp)]at hN';refine qhk hc [gwN,gwE,gwO,gwL] (by simpa using hx) hbx (λi=>if i=0 then WkB (zq x) .nils .nils .nils else WkB [.j 0,.fz 0 [],.w 0] .nils .nils .nils) (λi=>if i=0 then 0 else 210) 4 rfl (by omega) h0 rfl ?_ ?_ ?_
  .intro i g s' tr' k' hg hj hB hk'
   have hi:i=0:=by
    simp_all
   subst hi;simp at hg;subst hg;exact qml hN (zq x) rfl hB [.j 0,.fz 0 [],.w 0] rfl _ rfl hN' hk'
  .intro i tr2 hf hv hj;have hi:i≠0:=by omega
   simp only[if_neg hi];exact hk _ _ (.inr ⟨rfl,rfl⟩) hf
  .intro tr2 _ hj _;have:=hj 1 (by omega);omega
 | true =>
  obtain⟨y,hy⟩:∃y,y=jW x:=⟨_,rfl⟩;obtain⟨m,hm⟩:∃m,m=qbQ (zm y):=⟨_,rfl⟩;have hL':=C.lk2 hK;have hE':=C.em2 hK;have hO':=C.op hK;have hK2:=C.ok2 hK;have e1:qfe x=zD (qbQ (zm (jW x))):=by unfold qfe;grind
  rw[e1]at hk;unfold qsv at hN';rw[hK,if_pos rfl]at hN';rw[<- hy]at hL' hE' hO' hK2 hN' hk;unfold qoA at hE';rw[hK2,if_pos rfl]at hE';rw[<- hm]at hL' hO' hk;rw[qkI]at hL'
  refine qhk hc [gwN,gwE,gwO,gwL] (by simpa using hx) hbx (λi=>if i=0 then WkB (zq x) .nils .nils .nils else if i=1 then WkB (zq y) .nils .nils .nils else if i=2 then WkB (zq y) .nils (.fz (zm y).length (rSy (zm y))) .nils else if i=3 then WkB (zq y) .nils (.fz m.length (rSy m)) .nils else WkB (zq y) .nils (.fz m.length (rSy m)) (.fz (zD m).1.length (rP (zD m).1)))
   (λi=>if i=0 then 0 else if i=1 then 0 else if i=2 then 0 else if i=3 then 0 else(zD m).2) 4 rfl (by omega) h0 rfl ?_ ?_ ?_
  .intro i g s' tr' k' hg hj hB hk';have hi:i<4:=by have:=(zzS.1 hg).1;omega
   have hi2:i=0\/i=1\/i=2\/i=3:=by omega
   rcases hi2 with rfl|rfl|rfl|rfl
   .simp at hg;subst hg;exact qml hN (zq x) rfl hB (zq y) rfl _ rfl hN' hk'
   .simp at hg;subst hg;exact qmk hE (zq y) rfl hB _ _ qjQ hE' hk'
   .simp at hg;subst hg;exact qmj hO (zq y) rfl hB _ _ qjQ hO' hk'
   .simp at hg;subst hg;exact qfZ hL (zq y) rfl hB _ _ qjQ hL' hk'
  .intro i tr2 hf hv hj;have h0':i≠0:=by omega
   have h1':i≠1:=by omega
   have h2':i≠2:=by omega
   have h3':i≠3:=by omega
   simp only[if_neg h0',if_neg h1',if_neg h2',if_neg h3']at hv ⊢
   have e2:(zD m).1=[]:=by
    unfold zD at hv ⊢
    grind
   exact hk _ _ (.inr ⟨rfl,e2⟩) hf
  .intro tr2 hf hj hB;have hz:=hj 4 (by omega);simp at hz;refine⟨zq y,.nils,_,_,rfl,rfl,?_⟩;have:=hk (.fz (zD m).1.length (rP (zD m).1)) tr2 (.inl rfl) hf;rw[hz]at this;omega
def qa9(a b c d e g:Nat):IFn:=⟨[.tmp 4,.tmp 5],sq [.r [.q 2 (.box (.t 0)),.m 4 .N,.m 5 (.k 0)],.reg true [.v 12 3 2,.q 13 (.build [.j 0,.nils,.w 0,.nils,.nils,.nils] [(0,3,(.t 12))]),.q 14 (.box (.t 13)),.v 15 3 2,.q 16 (.build [.j 0,.nils,.w 0,.nils,.nils,.nils] [(0,3,(.t 15))]),.q 17 (.box (.t 16)),.n 6 14,.n 7 17],.r [.n 19 6,.n 20 6,.q 21 (.mkF a [.t 20] []),.n 22 6,.q 23 (.mkF b [.t 22] []),.q 24 (.buildS 2 [.nilf] [(0,1,(.t 21)),(1,1,(.t 23))]),.l 25 c [.t 19,.t 24],.n 18 25,.x 26 18 0,.x 27 18 1,.n 8 26,.n 9 27],sq [.r [.n 28 1,.q 29 (.un .not (.t 28))],.cond (.t 29) (sq [.r [.n 30 8,.n 31 9,.n 4 30,.n 5 31],.ret]) (.skip)],.r [.n 33 7,.n 34 7,.q 35 (.mkF d [.t 34] []),.n 36 7,.q 37 (.mkF a [.t 36] []),.n 38 7,.q 39 (.mkF e [.t 38] []),.n 40 7,.q 41 (.mkF b [.t 40] []),.q 42 (.buildS 4 [.nilf] [(0,1,(.t 35)),(1,1,(.t 37)),(2,1,(.t 39)),(3,1,(.t 41))]),.l 43 c [.t 33,.t 42],.n 32 43,.x 44 32 0,.x 45 32 1,.n 10 44,.n 11 45],.r [.n 46 8,.n 47 9,.n 48 10,.n 49 11,.l 50 g [.t 46,.t 47,.t 48,.t 49],.x 51 50 0,.x 52 50 1,.n 4 51,.n 5 52],.ret]⟩
theorem qiE.frz{v:AV}{p:List Ins}{h:Hp}(hv:qiE v p):Frz h v (.fz p.length (rP p)):=by
 rcases hv with rfl|⟨rfl,rfl⟩
 .exact Frz.self (by simp[Go.Kc.clo,qw])
 .exact .nilz
def qnQ{gd gwN gwE gwO gwL gs:Nat}(hc:qc P f (qa9 gwE gwL gd gwN gwO gs)=true)(hd:qc P gd qM=true)(hN:qc P gwN (z6 gN)=true)(hE:qc P gwE (zV gE)=true)(hO:qc P gwO (za gO)=true)(hL:qc P gwL (qL gL)=true)
  (hs:∀(u v:List Ins×Int) (x y:AV),qiE x u.1->qiE y v.1->∃z,qiE z (qcl u v).1/\qa P gs [x,.j u.2,y,.j v.2] (.tup [z,.j (qcl u v).2])) (C:CmpFn P gE gN gO gL x) (o:Bool) :
  qa P f [.agg (zq x),.b o] (.tup [.fz (qbZ x o).1.length (rP (qbZ x o).1),.j (qbZ x o).2]):=by
 refine qa.mk hc (by simp[qt,Go.Kc.clo,zq,qq]) ?_;simp only[qa9,zq,vI,simprocAttr];simp +decide only[↓vS,vT,simprocAttr];refine zB ?_;simp +decide only[↓vS,vT,simprocAttr];refine qAG hd hE hL C (b:=1) (bx:=3) (by simp[Tr.get_set];exact⟨rfl,rfl,rfl⟩) (by decide) (by simp[Tr.get_set,WkB,zq]) λv tr2 hv hf=>?_
 cases o with
 | false =>
  simp +decide only[↓vS,vT,simprocAttr,qbZ];simp[vZ];exact hv.frz
 | true =>
  simp +decide only[↓vS,vT,simprocAttr,qbZ];refine qAF hd hN hE hO hL C (b:=2) (bx:=4) (by simp[Tr.get_set];exact⟨rfl,rfl,rfl⟩) (by decide) (by rw[Tr.get_set,if_neg (by decide),hf 2 (by decide)];simp[Tr.get_set,WkB,zq]) λw tr3 hw _=>?_
  obtain⟨z,hz1,hz2⟩:=hs (qeb x) (qfe x) v w hv hw;simp +decide only[↓vS,vT,simprocAttr];refine hz2.sc ?_;simp +decide only[↓vS,vT,simprocAttr];simp[vZ];exact⟨hz1.frz,rfl⟩
end
end Go.Kc
end
section
namespace Go.Kc
def xk:List Sp->Int->Int->Prop
 | [],a,b=>a=b
 | s::l,a,b=>s.fr=a/\a<=s.to/\xk l (s.to+1) b
def xk.le:∀{l:List Sp} {a b:Int},xk l a b->a<=b
 | [],_,_,h=>by simp[xk]at h;omega
 | s::l,a,b,h=>by obtain⟨h1,h2,h3⟩:=h;have:=h3.le;omega
def xk.app:∀{l m:List Sp} {a b:Int},xk (l++m) a b↔∃c,xk l a c/\xk m c b
 | [],m,a,b=>by simp[xk]
 | s::l,m,a,b=>by
  simp only[zzC,xk];constructor
  .rintro⟨h1,h2,h3⟩;obtain⟨c,h4,h5⟩:=xk.app.1 h3
   grind
  .rintro⟨c,⟨h1,h2,h4⟩,h5⟩;exact⟨h1,h2,xk.app.2 ⟨c,h4,h5⟩⟩
def Cov(l:List Sp)(n:Int)(w:Nat):Prop:=∃s ∈ l,s.fr<=n/\n<=s.to/\s.way=w
def qsN{l:List Sp}{s:Sp}{a:Int}(h:xk l a s.fr)(hs:s.fr<=s.to):xk (jF l s) a (s.to+1)/\∀n w,Cov l n w\/(s.fr<=n/\n<=s.to/\s.way=w)->Cov (jF l s) n w:=by
 rcases List.eq_nil_or_concat l with rfl|⟨l0,z,rfl⟩
 .refine⟨?_,?_⟩
  .simp only[xk]at h;simp only[jF,List.getElem?_nil,zzN,xk]
   simp_all
  .rintro n w (⟨x,hx,_⟩|h)
   .cases hx
   .exact⟨s,by simp[jF],h⟩
 .rw[List.concat_eq_append]at h ⊢;have hz:(l0++[z])[(l0++[z]).length-1]?=some z:=by simp
  unfold jF;rw[hz];obtain⟨c,h1,h2⟩:=xk.app.1 h;simp only[xk]at h2;obtain⟨h2,h3,h4⟩:=h2;simp only
  by_cases hw:z.way=s.way
  .rw[if_pos hw];have e:(l0++[z]).set ((l0++[z]).length-1) ⟨z.fr,s.to,z.way⟩=l0++[⟨z.fr,s.to,z.way⟩]:=by simp
   rw[e];refine⟨xk.app.2 ⟨c,h1,h2,by grind,rfl⟩,?_⟩
   rintro n w (⟨x,hx,q1,q2,q3⟩|⟨q1,q2,q3⟩)
   .rcases List.mem_append.1 hx with hx|hx
    .exact⟨x,List.mem_append_left _ hx,q1,q2,q3⟩
    .rw[List.mem_singleton]at hx;subst hx;exact⟨_,List.mem_append_right _ (List.mem_singleton.2 rfl),q1,by grind,q3⟩
   .exact⟨_,List.mem_append_right _ (List.mem_singleton.2 rfl),by grind,q2,by simp_all⟩
  .rw[if_neg hw];refine⟨xk.app.2 ⟨s.fr,h,rfl,hs,rfl⟩,?_⟩;rintro n w (⟨x,hx,q⟩|q)
   .exact⟨x,List.mem_append_left _ hx,q⟩
   .exact⟨s,List.mem_append_right _ (List.mem_singleton.2 rfl),q⟩
def qll:∀{m l:List Sp} {a b c:Int},xk l a b->xk m b c->xk (m.foldl jF l) a c/\∀n w,Cov l n w\/Cov m n w->Cov (m.foldl jF l) n w
 | [],l,a,b,c,h1,h2=>by
  simp only[xk]at h2;subst h2;refine⟨h1,?_⟩;rintro n w (h|⟨x,hx,_⟩)
  all_goals simp_all
 | s::m,l,a,b,c,h1,h2=>by
  obtain⟨h3,h4,h5⟩:=h2;obtain⟨p1,p2⟩:=qsN (s:=s) (by rw[h3];exact h1) (by omega);obtain⟨q1,q2⟩:=qll p1 h5;refine⟨q1,?_⟩;rintro n w (h|⟨x,hx,hq⟩)
  .simp_all
  .rcases List.mem_cons.1 hx with rfl|hx
   .simp_all
   .exact q2 n w (.inr ⟨x,hx,hq⟩)
def Ups:List (Int×Nat)->Int->Prop
 | [],_=>True
 | x::l,a=>a<=x.1/\x.1<4294967296/\Ups l (x.1+1)
def qnb{o:Nat}:∀{l:List (Int×Nat)} {a:Int},Ups l a->0<=a->a<=4294967296->xk (pcs o l a) a 4294967296/\(∀x ∈ l,Cov (pcs o l a) x.1 x.2)/\∀n:Int,a<=n->n<4294967296->(∀x ∈ l,x.1≠n)->Cov (pcs o l a) n o
 | [],a,_,h0,h1=>by
  unfold pcs;refine⟨?_,by simp_all,λn h2 h3 _=>?_⟩
  .split
   .exact⟨rfl,by grind,by simp only[xk];omega⟩
   .simp only[xk];omega
  .rw[if_pos (by omega)];exact⟨_,List.mem_singleton.2 rfl,h2,by simp only;omega,rfl⟩
 | x::l,a,hu,h0,h1=>by
  obtain⟨u1,u2,u3⟩:=hu;obtain⟨c1,c2,c3⟩:=qnb (o:=o) u3 (by omega) (by omega);unfold pcs
  have app:∀(b:Bool),(b=true↔a<x.1)->xk ((if a<x.1 then [⟨a,x.1-1,o⟩]else [])++⟨x.1,x.1,x.2⟩::pcs o l (x.1+1)) a 4294967296:=λ_ _=>by
   by_cases h:a<x.1
   .rw[if_pos h];exact⟨rfl,by grind,by simp_all,by simp_all,c1⟩
   .rw[if_neg h];exact⟨by grind,by omega,c1⟩
  refine⟨app (decide (a<x.1)) (by simp),λy hy=>?_,λn h2 h3 h4=>?_⟩
  .rcases List.mem_cons.1 hy with rfl|hy
   .exact⟨_,List.mem_append_right _ (List.mem_cons_self ..),Int.le_refl _,Int.le_refl _,rfl⟩
   .obtain⟨s,hs,hq⟩:=c2 y hy;exact⟨s,List.mem_append_right _ (List.mem_cons_of_mem _ hs),hq⟩
  .have hx:=h4 x (by simp_all);rcases Int.lt_or_gt_of_ne hx with h|h
   .obtain⟨s,hs,hq⟩:=c3 n (by omega) h3 (by grind);exact⟨s,List.mem_append_right _ (List.mem_cons_of_mem _ hs),hq⟩
   .rw[if_pos (by omega)];exact⟨_,List.mem_append_left _ (List.mem_singleton.2 rfl),h2,by simp only;omega,rfl⟩
def qpJ{o:Nat}{m:Nat}(ho:o<m):∀{l:List (Int×Nat)} {a:Int},(∀x ∈ l,x.2<m)->∀s ∈ pcs o l a,s.way<m
 | [],a,_,s,hs=>by
  unfold pcs at hs;simp_all
 | x::l,a,h,s,hs=>by
  unfold pcs at hs;rcases List.mem_append.1 hs with hs|hs
  .simp_all
  .rcases List.mem_cons.1 hs with rfl|hs
   .simp_all
   .exact qpJ ho (by grind) s hs
def qrO{o:Nat}:∀{l:List (Int×Nat)} {a:Int},(pcs o l a).length<=2*l.length+1
 | [],a=>by unfold pcs;split<;>simp
 | x::l,a=>by
  have:=qrO (o:=o) (l:=l) (a:=x.1+1);unfold pcs;split<;>simp<;>omega
def qwZ{m:Nat}{l:List Sp}{s:Sp}(h:∀x ∈ l,x.way<m)(hs:s.way<m):∀x ∈ jF l s,x.way<m:=by
 intro x hx;unfold jF at hx
 grind
def qmT{m:Nat}:∀{k l:List Sp},(∀x ∈ l,x.way<m)->(∀x ∈ k,x.way<m)->(∀x ∈ k.foldl jF l,x.way<m)/\(k.foldl jF l).length<=l.length+k.length
 | [],l,h,_=>⟨h,by simp⟩
 | s::k,l,h,hk=>by
  obtain⟨q1,q2⟩:=qmT (k:=k) (qwZ h (hk s (List.mem_cons_self ..))) (by simp_all);have:=qmc (l:=l) (s:=s);exact⟨q1,by simp only[List.foldl_cons,List.length_cons];omega⟩
def qmK:∀{l:List Sp} {a:Int},xk l a 4294967296->qkF l a=true
 | [],a,h=>by simp[xk]at h;simp[qkF,h]
 | s::l,a,h=>by
  obtain⟨h1,h2,h3⟩:=h;unfold qkF;rw[if_neg (by omega)];exact qmK h3
def qjL:∀{l:List Sp} {a b:Int},xk l a b->0<=a->b<=4294967296->SpR l
 | [],_,_,_,_,_=>λs hs=>by cases hs
 | s::l,a,b,h,h0,hb=>by
  obtain⟨h1,h2,h3⟩:=h;have:=h3.le;intro x hx;rcases List.mem_cons.1 hx with rfl|hx
  .omega
  .exact qjL h3 (by omega) hb x hx
def qAP{m:Nat}(n:Nat):∀(l:List Sp) (a:Nat),l.length<=n->0<l.length->(∀s ∈ l,s.way<m)->∀nd ∈ zO l a,(nd.leaf=true->nd.way<m)/\(nd.leaf=false->a<nd.less/\a<nd.more/\nd.less<a+(zO l a).length/\nd.more<a+(zO l a).length)/\nd.less<a+(zO l a).length/\nd.more<a+(zO l a).length:=by
 induction n with
 | zero=>omega
 | succ n ih =>
  intro l a h1 h2 hw nd hnd;have hlen:=qdt (n+1) l a h1 h2;rw[zO]at hnd
  by_cases hk:l.length / 2=0
  .rw[dif_pos hk]at hnd;rw[List.mem_singleton]at hnd;subst hnd;cases l<;>grind
  .rw[dif_neg hk]at hnd
   have e0:(zO l a).length=1+(zO (l.take (l.length / 2)) (a+1)).length+(zO (l.drop (l.length / 2)) (a+1+(zO (l.take (l.length / 2)) (a+1)).length)).length:=by
    grind[zO.eq_1]
   have hl1:=qdt n (l.take (l.length / 2)) (a+1) (by grind) (by grind);have hl2:=qdt n (l.drop (l.length / 2)) (a+1+(zO (l.take (l.length / 2)) (a+1)).length) (by grind) (by grind);simp at hl1 hl2;rcases List.mem_cons.1 hnd with rfl|hnd
   .refine⟨λh=>by grind,λ_=>?_,?_,?_⟩<;>simp only<;>(try refine(by omega))<;>omega
   .rcases List.mem_append.1 hnd with hnd|hnd
    .obtain⟨q1,q2,q3,q4⟩:=ih (l.take (l.length / 2)) (a+1) (by simp;omega) (by simp;omega) (by grind) nd hnd
     grind
    .obtain⟨q1,q2,q3,q4⟩:=ih (l.drop (l.length / 2)) _ (by simp;omega) (by simp;omega) (by grind) nd hnd
     grind
def wdD(d:GData)(k:Int):Int:=(jw d).getD (k / 4).toNat 0
inductive Ev (R:List Sy) (d:GData):Nat->Int->Int->Prop where
 | ld (p:Nat) (a r:Int) (s:Sy) (h:R[p]?=some s) (hc:s.code=32) (hn:Ev R d (p+1) (wdD d s.k) r):Ev R d p a r
 | an (p:Nat) (a r:Int) (s:Sy) (h:R[p]?=some s) (hc:s.code=84) (hn:Ev R d (p+1) (xS .u32 a s.k) r):Ev R d p a r
 | rt (p:Nat) (a:Int) (s:Sy) (h:R[p]?=some s) (hc:s.code=6):Ev R d p a s.k
 | ja (p:Nat) (a r:Int) (s:Sy) (h:R[p]?=some s) (hc:s.code=5) (hn:Ev R d s.th a r):Ev R d p a r
 | jc (p:Nat) (a r:Int) (s:Sy) (h:R[p]?=some s) (hc:qd7 s.code) (hn:Ev R d (if qbD s.code a s.k=true then s.th else s.el) a r):Ev R d p a r
def AtL(R:List Sy)(p:Nat)(l:List Sy):Prop:=∀(j:Nat) s,l[j]?=some s->R[p+j]?=some s
theorem AtL.self{R:List Sy}:AtL R 0 R:=λj s h=>by rw[Nat.zero_add];exact h
def AtL.app{R:List Sy}{p:Nat}{l m:List Sy}(h:AtL R p (l++m)):AtL R p l/\AtL R (p+l.length) m:=by
 refine⟨λj s hj=>h j s (by rw[List.getElem?_append_left (by grind)];exact hj),λj s hj=>?_⟩
 have:=h (l.length+j) s (by rw[List.getElem?_append_right (by omega),Nat.add_sub_cancel_left];exact hj)
 rw[Nat.add_assoc];omega
def AtL.hd{R:List Sy}{p:Nat}{s:Sy}{l:List Sy}(h:AtL R p (s::l)):R[p]?=some s/\AtL R (p+1) l:=by
 refine⟨by simpa using h 0 s rfl,λj x hj=>?_⟩
 have:=h (j+1) x (by simpa using hj);rw[show p+1+j=p+(j+1)by omega];omega
def qcs(l:List Sy)(p n:Nat):Prop:=∀(j:Nat) s,l[j]?=some s->qfq s (p+j) n
def qcs.app{l m:List Sy}{p n:Nat}(h1:qcs l p n)(h2:qcs m (p+l.length) n):qcs (l++m) p n:=by
 intro j s hj;rw[List.getElem?_append]at hj;split at hj
 .exact h1 j s hj
 .rename_i hlt;have:=h2 _ s hj;rw[show p+l.length+(j-l.length)=p+j by omega]at this;omega
theorem qcs.nil{p n:Nat}:qcs [] p n:=λj s h=>by grind
theorem qcs.cons{s:Sy}{l:List Sy}{p n:Nat}(h1:qfq s p n)(h2:qcs l (p+1) n):qcs (s::l) p n:=by
 intro j x hj;cases j with
 | zero=>simp_all
 | succ j=>have:=h2 j x (by simpa using hj);rw[show p+1+j=p+(j+1)by omega]at this;omega
def qxE(n:Nat):∀(l:List Sp) (a:Nat),l.length<=n->0<l.length->∀(i:Nat) nd,(zO l a)[i]?=some nd->nd.leaf=false->a+i<nd.less/\a+i<nd.more:=by
 induction n with
 | zero=>omega
 | succ n ih =>
  intro l a h1 h2 i nd hnd hl;rw[zO]at hnd
  by_cases hk:l.length / 2=0
  .rw[dif_pos hk]at hnd
   grind
  .rw[dif_neg hk]at hnd;have hl1:=qdt n (l.take (l.length / 2)) (a+1) (by grind) (by grind);cases i with
   | zero=>grind
   | succ i =>
    rw[List.getElem?_cons_succ,List.getElem?_append]at hnd;split at hnd
    .have:=ih (l.take (l.length / 2)) (a+1) (by grind) (by omega) i nd hnd hl;omega
    .rename_i hge;have:=ih (l.drop (l.length / 2)) _ (by grind) (by grind) _ nd hnd hl;omega
def qAO{T:List Nd}{FW:Nat->Nat}{b:Nat}{n:Int}{Q:Nat->Prop}(hQ:∀(i:Nat) nd,T[i]?=some nd->nd.leaf=false->Q (if nd.at'<=n then plc FW T b nd.more else plc FW T b nd.less)->Q (plc FW T b i))(m:Nat) :
  ∀(l:List Sp) (a:Nat) (c e:Int),l.length<=m->0<l.length->xk l c e->(∀(j:Nat) nd,(zO l a)[j]?=some nd->T[a+j]?=some nd)->∀w,Cov l n w->Q (FW w)->Q (plc FW T b a):=by
 induction m with
 | zero=>omega
 | succ m ih =>
  intro l a c e h1 h2 hc hT w hw hq;rw[zO]at hT
  by_cases hk:l.length / 2=0
  .rw[dif_pos hk]at hT;obtain⟨s,rfl⟩:∃s,l=[s]:=List.length_eq_one_iff.1 (by omega);have h0:=hT 0 _ rfl;rw[Nat.add_zero]at h0;obtain⟨x,hx,_,_,rfl⟩:=hw;rw[List.mem_singleton]at hx;subst hx;unfold plc;rw[h0];simp_all
  .rw[dif_neg hk]at hT;have h0:=hT 0 _ rfl;rw[Nat.add_zero]at h0;obtain⟨z,hz⟩:∃z,l[l.length / 2]?=some z:=⟨_,zzE (by omega)⟩;have hzD:l.getD (l.length / 2) ⟨0,0,0⟩=z:=by rw[List.getD_eq_getElem?_getD,hz];rfl
   rw[hzD]at h0;have hsplit:l=l.take (l.length / 2)++l.drop (l.length / 2):=by simp_all
   rw[hsplit]at hc;obtain⟨q,hc1,hc2⟩:=xk.app.1 hc;have hd:l.drop (l.length / 2)=z::l.drop (l.length / 2+1):=by rw[<- (zzS.1 hz).2,List.getElem_cons_drop]
   have hq0:z.fr=q:=by rw[hd]at hc2;exact hc2.1
   -- what lies ahead ends below q;what lies behind begins at q
   have lo:∀{l:List Sp} {c e:Int},xk l c e->∀s ∈ l,c<=s.fr/\s.to<e:=by
    intro l
    induction l with
    | nil=>grind
    | cons y l ihl =>
     intro c e h s hs;obtain⟨p1,p2,p3⟩:=h;have:=p3.le;rcases List.mem_cons.1 hs with rfl|hs
     all_goals grind
   refine hQ a _ h0 rfl ?_;simp only;obtain⟨s,hs,s1,s2,s3⟩:=hw;rw[hsplit]at hs;rcases List.mem_append.1 hs with hs|hs
   .have:=lo hc1 s hs;rw[if_neg (by omega)];refine ih (l.take (l.length / 2)) (a+1) c q (by simp;omega) (by simp;omega) hc1 (λj nd hj=>?_) w ⟨s,hs,s1,s2,s3⟩ hq
    have:=hT (j+1) nd (by rw[List.getElem?_cons_succ,List.getElem?_append_left (by grind)];exact hj)
    rw[show a+1+j=a+(j+1)by omega];omega
   .have:=lo hc2 s hs;rw[if_pos (by omega)];refine ih (l.drop (l.length / 2)) _ q e (by simp;omega) (by simp;omega) hc2 (λj nd hj=>?_) w ⟨s,hs,s1,s2,s3⟩ hq
    have:=hT ((zO (l.take (l.length / 2)) (a+1)).length+j+1) nd (by rw[List.getElem?_cons_succ,List.getElem?_append_right (by omega),Nat.add_sub_cancel_left];exact hj)
    rw[show a+1+(zO (l.take (l.length / 2)) (a+1)).length+j=a+((zO (l.take (l.length / 2)) (a+1)).length+j+1)by omega];omega
def qld{T:List Nd}:∀{i:Nat} {nd:Nd},T[i]?=some nd->xm (T.take (i+1))=xm (T.take i)+if nd.leaf=true then 0 else 1:=by
 intro i nd h;unfold xm;rw[qbt h,List.countP_append];cases h2:nd.leaf<;>simp[h2]
def qlc{T:List Nd}{i j:Nat}(h:i<=j):xm (T.take i)<=xm (T.take j):=by
 have:T.take i=(T.take j).take i:=by rw[List.take_take,Nat.min_eq_left h]
 rw[this];unfold xm
 grind[List.take_append_drop]
def qyx{FW:Nat->Nat}{T:List Nd}{b i:Nat}{nd:Nd}(h:T[i]?=some nd)(hl:nd.leaf=false):(brE FW T b T)[xm (T.take i)]?=some ⟨53,nd.at',plc FW T b nd.more,plc FW T b nd.less⟩:=by
 have main:∀(u:List Nd) (i:Nat),u[i]?=some nd->(brE FW T b u)[xm (u.take i)]?=some ⟨53,nd.at',plc FW T b nd.more,plc FW T b nd.less⟩:=by
  intro u
  induction u with
  | nil=>intro i h;simp at h
  | cons y u ih =>
   intro i h;cases i with
   | zero=>simp at h;subst h;simp[brE,qjZ,hl,xm]
   | succ i =>
    have:=ih i (by simpa using h);simp only[brE,List.flatMap_cons,List.take_succ_cons,xm,List.countP_cons]at this ⊢;cases hy:y.leaf with
    | true=>simp[qjZ,hy];exact this
    | false=>simp[qjZ,hy];exact this
 simp_all
def qdx{a b:Nat}(ha:a<18446744073709551616)(hb:b<18446744073709551616):xS .u64 (a:Int) (b:Int)=((a &&& b:Nat):Int):=by
 have h:a &&& b<18446744073709551616:=Nat.and_lt_two_pow a (n:=64) hb;show IntKind.wrap .u64 (((BitVec.ofInt 64 (a:Int)) &&& (BitVec.ofInt 64 (b:Int))).toNat:Int)=_;rw[BitVec.ofInt_natCast,BitVec.ofInt_natCast,BitVec.toNat_and,BitVec.toNat_ofNat,BitVec.toNat_ofNat,Nat.mod_eq_of_lt ha,Nat.mod_eq_of_lt hb,qdl (by omega) (by omega)]
def qdw{a b:Nat}(ha:a<4294967296)(hb:b<4294967296):xS .u32 (a:Int) (b:Int)=((a &&& b:Nat):Int):=by
 have h:a &&& b<4294967296:=Nat.and_lt_two_pow a (n:=32) hb;show IntKind.wrap .u32 (((BitVec.ofInt 32 (a:Int)) &&& (BitVec.ofInt 32 (b:Int))).toNat:Int)=_;rw[BitVec.ofInt_natCast,BitVec.ofInt_natCast,BitVec.toNat_and,BitVec.toNat_ofNat,BitVec.toNat_ofNat,Nat.mod_eq_of_lt ha,Nat.mod_eq_of_lt hb,qdk (by omega) (by omega)]
def qqb{a b c:Nat}:a &&& b=c↔(a % 4294967296) &&& (b % 4294967296)=c % 4294967296/\(a / 4294967296) &&& (b / 4294967296)=c / 4294967296:=by
 have e1:(a % 4294967296) &&& (b % 4294967296)=(a &&& b) % 4294967296:=(Nat.and_mod_two_pow (n:=32)).symm;have e2:(a / 4294967296) &&& (b / 4294967296)=(a &&& b) / 4294967296:=(Nat.and_div_two_pow (n:=32)).symm;rw[e1,e2];omega
def qka{x m v:Int}(hx:0<=x/\x<18446744073709551616)(hm:0<=m/\m<18446744073709551616)(hv:0<=v/\v<18446744073709551616):xS .u64 x m=v↔xS .u32 (loW x) (loW m)=loW v/\xS .u32 (hiW x) (hiW m)=hiW v:=by
 obtain⟨a,rfl⟩:=Int.eq_ofNat_of_zero_le hx.1;obtain⟨b,rfl⟩:=Int.eq_ofNat_of_zero_le hm.1;obtain⟨c,rfl⟩:=Int.eq_ofNat_of_zero_le hv.1;have ha:a<18446744073709551616:=by omega
 have hb:b<18446744073709551616:=by omega
 rw[qdx ha hb];have e1:loW (a:Int)=((a % 4294967296:Nat):Int):=by unfold loW;omega
 have e2:loW (b:Int)=((b % 4294967296:Nat):Int):=by unfold loW;omega
 have e3:loW (c:Int)=((c % 4294967296:Nat):Int):=by unfold loW;omega
 have e4:hiW (a:Int)=((a / 4294967296:Nat):Int):=by unfold hiW;omega
 have e5:hiW (b:Int)=((b / 4294967296:Nat):Int):=by unfold hiW;omega
 have e6:hiW (c:Int)=((c / 4294967296:Nat):Int):=by unfold hiW;omega
 rw[e1,e2,e3,e4,e5,e6,qdw (by omega) (by omega),qdw (by omega) (by omega)];have:=qqb (a:=a) (b:=b) (c:=c)
 grind
def qst{x:Int}(hx:0<=x/\x<4294967296):xS .u32 x 4294967295=x:=by
 obtain⟨a,rfl⟩:=Int.eq_ofNat_of_zero_le hx.1;have:=qdw (a:=a) (b:=4294967295) (by omega) (by decide);rw[show((4294967295:Nat):Int)=4294967295 from rfl]at this
 have e:a &&& 4294967295=a:=by
  have:=Nat.and_two_pow_sub_one_eq_mod a 32;rw[show 2 ^ 32-1=4294967295 from rfl]at this
  rw[this];omega
 rw[this,e]
theorem qmE{x:Int}(hx:0<=x/\x<4294967296):xS .u32 x 0=0:=by
 obtain⟨a,rfl⟩:=Int.eq_ofNat_of_zero_le hx.1;have:=qdw (a:=a) (b:=0) (by omega) (by decide)
 simp_all
def EvA(R:List Sy)(d:GData)(p:Nat)(r:Int):Prop:=∀a,Ev R d p a r
section
variable {R:List Sy} {d:GData} {p F:Nat} {r:Int}
def qrr{k m v:Int}(h:AtL R p (qdJ k m v p F))(hw:0<=wdD d k/\wdD d k<4294967296)(hmv:m=0->v=0)(h1:xS .u32 (wdD d k) m=v->EvA R d (p+qb0 m) r)(h2:xS .u32 (wdD d k) m≠v->EvA R d F r):EvA R d p r:=by
 intro a;unfold qdJ qb0 at *
 by_cases m0:m=0
 .rw[if_pos m0]at h1;have:=h1 (by rw[m0,hmv m0];exact qmE hw);simpa using this a
 rw[if_neg m0]at h h1
 by_cases m1:m=4294967295
 .rw[if_pos m1]at h h1;obtain⟨g1,h⟩:=h.hd;obtain⟨g2,_⟩:=h.hd;refine .ld p a r _ g1 rfl (.jc _ _ r _ g2 (.inl rfl) ?_);rw[m1,qst hw]at h1 h2;simp only[qbD]
  by_cases e:wdD d k=v
  .rw[if_pos (by simp[e])];exact h1 e _
  .rw[if_neg (by simp[e])];exact h2 e _
 .rw[if_neg m1]at h h1;obtain⟨g1,h⟩:=h.hd;obtain⟨g2,h⟩:=h.hd;obtain⟨g3,_⟩:=h.hd;refine .ld p a r _ g1 rfl (.an _ _ r _ g2 rfl (.jc _ _ r _ g3 (.inl rfl) ?_));simp only[qbD]
  by_cases e:xS .u32 (wdD d k) m=v
  .rw[if_pos (by simp[e])];exact h1 e _
  .rw[if_neg (by simp[e])];exact h2 e _
def qmm{d:GData}(hd:DatOk d)(j:Nat):0<=(jw d).getD j 0/\(jw d).getD j 0<4294967296:=by
 have:=qiY (l:=jw d) (λc hc=>qmn hd hc) j
 exact⟨this.1,by have:=this.2;omega⟩
def qE7{d:GData}{k:Int}(h0:0<=k)(h6:k<6):wdD d (16+8*k)=loW (qnC d k)/\wdD d (16+8*k+4)=hiW (qnC d k):=by
 have:k=0\/k=1\/k=2\/k=3\/k=4\/k=5:=by omega
 rcases this with rfl|rfl|rfl|rfl|rfl|rfl<;>exact⟨rfl,rfl⟩
def qnD{d:GData}(hd:DatOk d){k:Int}(h0:0<=k)(h6:k<6):0<=qnC d k/\qnC d k<18446744073709551616:=by
 have:k=0\/k=1\/k=2\/k=3\/k=4\/k=5:=by omega
 have hm:qnC d k ∈ qmB d:=by rcases this with rfl|rfl|rfl|rfl|rfl|rfl<;>simp[qnC,qmB]
 exact hd.wid _ hm
def qyN{v m:Int}(hv:0<=v/\v<18446744073709551616)(h:qeH .u64 v m=0):xS .u64 v m=v:=by
 obtain⟨a,rfl⟩:=Int.eq_ofNat_of_zero_le hv.1;have h1:IntKind.wrap .u64 (((BitVec.ofInt 64 (a:Int)) &&& ~~~ (BitVec.ofInt 64 m)).toNat:Int)=0:=h;have hlt:=((BitVec.ofInt 64 (a:Int)) &&& ~~~ (BitVec.ofInt 64 m)).isLt;rw[qdl (by omega) (by omega)]at h1;have h2:(BitVec.ofInt 64 (a:Int)) &&& ~~~ (BitVec.ofInt 64 m)=0#64:=BitVec.eq_of_toNat_eq (by simp_all)
 have bv:∀X Y:BitVec 64,X &&& ~~~ Y=0#64->X &&& Y=X:=λX Y h2=>by
  apply BitVec.eq_of_getLsbD_eq;intro i hi;have:=congrArg (λb=>b.getLsbD i) h2
  grind
 have h3:=bv _ _ h2;show IntKind.wrap .u64 (((BitVec.ofInt 64 (a:Int)) &&& (BitVec.ofInt 64 m)).toNat:Int)=_;rw[h3,BitVec.ofInt_natCast,BitVec.toNat_ofNat,Nat.mod_eq_of_lt (by omega),qdl (by omega) (by omega)]
structure TstG (t:GTest):Prop where
 ok:TstOk t
 sub:xS .u64 t.val t.mask=t.val
def TstG.lo{t:GTest}(h:TstG t):(loW t.mask=0->loW t.val=0)/\(hiW t.mask=0->hiW t.val=0):=by
 obtain⟨h1,h2⟩:=(qka ⟨h.ok.v0,h.ok.v1⟩ ⟨h.ok.m0,h.ok.m1⟩ ⟨h.ok.v0,h.ok.v1⟩).1 h.sub;have e1:0<=loW t.val/\loW t.val<4294967296:=by unfold loW;omega
 have e2:0<=hiW t.val/\hiW t.val<4294967296:=by have:=h.ok.v0;have:=h.ok.v1;unfold hiW;omega
 grind[qmE]
def qAJ{t:GTest}(ht:TstG t)(hd:DatOk d)(h:AtL R p (qif t p))(h1:qb8 t d=true->r=t.act)(h2:qb8 t d=false->EvA R d (p+qbV t) r):EvA R d p r:=by
 obtain⟨g1,g2⟩:=h.app;obtain⟨g1,g3⟩:=g1.app;rw[qb7]at g3;rw[zzP,qb7,qb7]at g2;obtain⟨w1,w2⟩:=qE7 (d:=d) ht.ok.a0 ht.ok.a1
 have hh:qb8 t d=decide (xS .u64 (qnC d t.arg) t.mask=t.val):=by
  unfold qb8;simp[ht.ok.a0,ht.ok.a1]
 have hsp:=qka (qnD hd ht.ok.a0 ht.ok.a1) ⟨ht.ok.m0,ht.ok.m1⟩ ⟨ht.ok.v0,ht.ok.v1⟩;refine qrr g1 (qmm hd _) ht.lo.1 (λc1=>?_) (λc1=>h2 ?_)
 .refine qrr g3 (qmm hd _) ht.lo.2 (λc2=>?_) (λc2=>h2 ?_)
  .intro a;obtain⟨g4,_⟩:=g2.hd
   have hc:qb8 t d=true:=by
    rw[hh,decide_eq_true_eq,hsp];rw[w1]at c1;rw[w2]at c2;exact⟨c1,c2⟩
   have:=Ev.rt (d:=d) (p+qb0 (loW t.mask)+qb0 (hiW t.mask)) a _ (by rw[Nat.add_assoc];exact g4) rfl;rw[h1 hc];exact this
  .rw[hh,decide_eq_false_iff_not,hsp];rw[w2]at c2;exact λq=>c2 q.2
 simp_all
def qp2(hd:DatOk d):∀{ts:List GTest} {a:Int} {p:Nat},(∀t ∈ ts,TstG t)->AtL R p (qcn ts a p)->EvA R d p (fnd (λt=>qb8 t d) a ts)
 | [],a,p,_,h=>λb=>by
  rw[qkT];exact Ev.rt p b _ h.hd.1 rfl
 | t::ts,a,p,ht,h=>by
  rw[qdH];have h1:=ht t (by simp_all);unfold qcn at h;obtain⟨g1,g2⟩:=h.app;rw[qfA]at g2;refine qAJ h1 hd g1 (by simp_all) λhc=>?_
  by_cases hm:t.mask=0
  .exfalso
   have hv:t.val=0:=by
    have:=h1.sub;rw[hm]at this;obtain⟨a,e⟩:=Int.eq_ofNat_of_zero_le h1.ok.v0;have:=qdx (a:=a) (b:=0) (by have:=h1.ok.v1;omega) (by decide)
    rw[<- e]at this;simp at this;omega
   have hx:=qnD hd h1.ok.a0 h1.ok.a1;obtain⟨a,e⟩:=Int.eq_ofNat_of_zero_le hx.1;have:=qdx (a:=a) (b:=0) (by omega) (by decide);rw[<- e]at this;unfold qb8 at hc
   simp_all[TstOk.a0,TstG.ok,TstOk.a1]
  .rw[if_neg hm]at g2;rw[if_neg (by grind)];exact qp2 hd (by simp_all) g2
theorem qpf{k m v:Int}{n:Nat}(hk:k % 4=0/\0<=k/\k<64)(h1:p+qb0 m<n)(h2:p+qb0 m<=F)(h3:F<n):qcs (qdJ k m v p F) p n:=by
 unfold qdJ qb0 at *;split
 .exact .nil
 .rename_i m0;rw[if_neg m0]at h1 h2;split
  .rename_i m1;rw[if_pos m1]at h1 h2;refine .cons (.inl (by simp_all)) (.cons (.inr (.inr (.inr ⟨.inl rfl,?_,?_,?_,?_⟩))) .nil)<;>simp only<;>omega
  .rename_i m1;rw[if_neg m1]at h1 h2;refine .cons (.inl (by simp_all)) (.cons (.inr (by simp_all)) (.cons (.inr (.inr (.inr ⟨.inl rfl,?_,?_,?_,?_⟩))) .nil))<;>simp only<;>omega
def qxz{t:GTest}{n:Nat}(ht:TstOk t)(h:p+qbV t<n):qcs (qif t p) p n:=by
 have h0:=ht.a0;have h6:=ht.a1;unfold qif;have e:qbV t=qb0 (loW t.mask)+qb0 (hiW t.mask)+1:=rfl;refine .app (.app (qpf (by omega) (by omega) (by omega) h) ?_) ?_
 .rw[qb7];grind[qpf]
 .exact .cons (.inr (by simp_all)) .nil
def qnr:∀{ts:List GTest} {a:Int} {p n:Nat},(∀t ∈ ts,TstOk t)->p+qc3 ts<n->qcs (qcn ts a p) p n
 | [],_,_,_,_,_=>.cons (.inr (by simp_all)) .nil
 | t::ts,a,p,n,ht,h=>by
  unfold qc3 at h;unfold qcn;refine .app (qxz (by simp_all) (by omega)) ?_;rw[qfA]
  by_cases hm:t.mask=0
  .rw[if_pos hm];exact .nil
  .rw[if_neg hm]at h ⊢;exact qnr (by simp_all) (by omega)
theorem qni:∀{rs:List GRule} {p n:Nat},(∀r ∈ rs,∀t ∈ r.tests,TstOk t)->p+zw rs<n->qcs (xa rs p) p n
 | [],_,_,_,_=>.nil
 | r::rs,p,n,ht,h=>by
  have e:zw (r::rs)=qoi r+zw rs:=by simp[zw]
  unfold xa;refine .app (qnr (by simp_all) (by have:qc3 r.tests=qoi r:=rfl;omega)) ?_;rw[qmb];exact qni (by grind) (by omega)
end
structure FilG (x:GFil):Prop where
 a0:0<=x.arch
 a6:x.arch<6
 n:x.rules.length<=400
 t32:∀r ∈ x.rules,r.tests.length<=32
 ts:∀r ∈ x.rules,∀t ∈ r.tests,TstG t
 nr:∀r ∈ x.rules,0<=r.nr/\r.nr<4294967296
 up:∃o,o=(none:Option GRule)/\upR o x.rules=true
def qt1{t:GTest}(h:qb3 t=true)(hm:0<=t.mask/\t.mask<18446744073709551616)(hv:0<=t.val/\t.val<18446744073709551616):TstG t:=by
 have ha:=qnq h;simp only[qb3,zzB,decide_eq_true_eq]at h;exact⟨⟨ha.1,ha.2,hm.1,hm.2,hv.1,hv.2⟩,qyN hv h.1.2⟩
def FilG.of{x:GFil}(hK:jq x=true)(hx:FilR x):FilG x:=by
 simp only[jq,zzB,decide_eq_true_eq]at hK;obtain⟨⟨⟨⟨k1,k2⟩,k3⟩,k4⟩,k5⟩:=hK;have hr:=qjN k5;refine⟨k1,k2,k3,λr h=>?_,λr h t ht=>?_,hx.nr,none,rfl,k5⟩
 .have:=hr r h;simp only[qb2,zzB,decide_eq_true_eq]at this;omega
 .have:=hr r h;simp only[qb2,zzB,List.all_eq_true]at this;have q:=hx.ts r h t ht
  simp_all[qt1]
def qnu:∀{rs:List GRule} {o:Option GRule} {k:Nat} {a:Int},upR o rs=true->(∀r ∈ rs,0<=r.nr/\r.nr<4294967296)->(match o with|none=>a=0|some b=>a=b.nr+1)->Ups (rs.mapIdx λi r=>(r.nr,i+k)) a
 | [],_,_,_,_,_,_=>by simp[Ups]
 | r::rs,o,k,a,h,hn,ha=>by
  simp only[upR,zzB]at h;obtain⟨⟨_,h1⟩,h2⟩:=h;rw[List.mapIdx_cons];have hr:=hn r (by simp_all);refine⟨?_,hr.2,?_⟩
  .grind
  .have:=qnu (o:=some r) (k:=k+1) (a:=r.nr+1) h2 (by simp_all) rfl
   grind
def FilG.ups{x:GFil}(h:FilG x):Ups (qO x.rules) 0:=by
 obtain⟨o,rfl,hu⟩:=h.up;exact qnu hu h.nr rfl
def qnt:∀{l:List (Int×Nat)} {a:Int},Ups l a->qxj l
 | [],_,_,i,x,y,h,_=>by grind
 | [x],_,_,i,y,z,h1,h2=>by grind
 | x::y::l,a,⟨h1,h2,h3⟩,i,u,v,hu,hv=>by
  cases i with
  | zero=>simp at hu hv;subst hu hv;have:=h3.1;omega
  | succ i=>exact qnt h3 i u v (by simp_all) (by simp_all)
section
variable {x:GFil}
def FilG.spans(h:FilG x):xk (zW (pcs 0 (qO x.rules) 0)) 0 4294967296/\(∀(i:Nat) r,x.rules[i]?=some r->Cov (zW (pcs 0 (qO x.rules) 0)) r.nr (i+1))/\(∀n:Int,0<=n->n<4294967296->(∀r ∈ x.rules,r.nr≠n)->Cov (zW (pcs 0 (qO x.rules) 0)) n 0) /\
  (∀s ∈ zW (pcs 0 (qO x.rules) 0),s.way<x.rules.length+1)/\(zW (pcs 0 (qO x.rules) 0)).length<=2*x.rules.length+1:=by
 obtain⟨c1,c2,c3⟩:=qnb (o:=0) h.ups (by omega) (by omega);obtain⟨f1,f2⟩:=qll (l:=[]) (a:=0) rfl c1
 have hw:∀y ∈ qO x.rules,y.2<x.rules.length+1:=λy hy=>by
  grind[List.getElem?_of_mem,qdq]
 obtain⟨g1,g2⟩:=qmT (m:=x.rules.length+1) (k:=pcs 0 (qO x.rules) 0) (l:=[]) (by simp_all) (qpJ (by omega) hw);have hl:=qrO (o:=0) (l:=qO x.rules) (a:=0);refine⟨f1,λi r hr=>?_,λn h0 h1 hn=>?_,g1,?_⟩
 .have hm:(r.nr,i+1) ∈ qO x.rules:=zzM (i:=i) (by rw[qdq,hr];rfl);exact f2 _ _ (.inr (c2 _ hm))
 .refine f2 _ _ (.inr (c3 n h0 h1 λy hy=>?_))
  grind[List.getElem?_of_mem,qdq]
 .rw[qck]at hl;simp only[List.length_nil]at g2;show(List.foldl jF [] (pcs 0 (qO x.rules) 0)).length<=_;omega
def FilG.pos(h:FilG x):0<(zW (pcs 0 (qO x.rules) 0)).length:=by
 obtain⟨c,_⟩:=h.spans;rcases Nat.eq_zero_or_pos (zW (pcs 0 (qO x.rules) 0)).length with h0|h0
 .rw[List.eq_nil_of_length_eq_zero h0]at c;simp[xk]at c
 omega
def FilG.tlen(h:FilG x):(qQ x).length+1=2*(zW (pcs 0 (qO x.rules) 0)).length:=qdt _ _ 0 (zzL _) h.pos
def qmF(n:Nat):∀(l:List Sp) (a:Nat),l.length<=n->0<l.length->xm (zO l a)+1=l.length:=by
 induction n with
 | zero=>omega
 | succ n ih =>
  intro l a h1 h2;rw[zO]
  by_cases hk:l.length / 2=0
  .rw[dif_pos hk];simp[xm];omega
  .rw[dif_neg hk];have e1:=ih (l.take (l.length / 2)) (a+1) (by simp;omega) (by simp;omega);have e2:=ih (l.drop (l.length / 2)) (a+1+(zO (l.take (l.length / 2)) (a+1)).length) (by simp;omega) (by simp;omega);simp only[xm,List.countP_cons,List.countP_append]at e1 e2 ⊢
   grind
def FilG.dfl(h:FilG x):jP x<=4+max 1 (2*x.rules.length)/\(qQ x).length<=4*x.rules.length+1:=by
 have ha:=qmF _ (zW (pcs 0 (qO x.rules) 0)) 0 (zzL _) h.pos;have ht:=h.tlen;have hl:=h.spans.2.2.2.2;have ho:=qrM (a:=x.arch);have e:xm (qQ x)+1=(zW (pcs 0 (qO x.rules) 0)).length:=ha
 have hj:jaN (qQ x)+xm (qQ x)<=max 1 (2*x.rules.length):=by
  have hj1:jaN (qQ x)<=1:=by cases qQ x with
   | nil=>simp[jaN]
   | cons n T=>simp only[jaN];split<;>omega
  have hj2:2<=(zW (pcs 0 (qO x.rules) 0)).length->jaN (qQ x)=0:=λh2=>by
   unfold qQ;rw[zO,dif_neg (by omega)];rfl
  omega
 unfold jP;omega
def FilG.tne(h:FilG x):qQ x≠[]:=λe=>by have:=h.tlen;rw[e]at this;grind
def FilG.nodes(h:FilG x):∀nd ∈ qQ x,NdOk (x.rules.length+1) (qQ x).length nd:=λnd hnd=>by
 obtain⟨q1,q2,q3,q4⟩:=qAP _ _ 0 (zzL _) h.pos h.spans.2.2.2.1 nd hnd;rw[Nat.zero_add]at q3 q4;exact⟨q1,q3,q4⟩
end
section
variable {x:GFil}
def qmi{j:Nat}:jP x<=jg x j/\jg x j<=x8 x:=by
 unfold jg x8;have:=qkw (rs:=x.rules) (i:=j-1);split<;>omega
def qEb{a:Int}{F n:Nat}(h1:4<n)(h2:4<=F)(h3:F<n):qcs (qbe a 0 F) 0 n:=by
 unfold qbe;refine .app (.cons (.inl (by simp_all)) (.cons (.inr (.inr (.inr ⟨.inl rfl,?_,?_,?_,?_⟩))) (.cons (.inl (by simp_all)) .nil))) ?_
 .simp_all
 .grind
 .grind
 .omega
 .show qcs _ (0+3) n;split
  .refine .cons (.inr (.inr (.inr ⟨.inr (.inr (.inr rfl)),?_,?_,?_,?_⟩))) .nil<;>simp only<;>omega
  .split
   .refine .cons (.inr (.inr (.inr ⟨.inr (.inr (.inr rfl)),?_,?_,?_,?_⟩))) .nil<;>simp only<;>omega
   .exact .nil
def quB{FW:Nat->Nat}{T:List Nd}{b n:Nat}(hF:∀j,b+xm T<=FW j/\FW j<n)(hfw:∀(i:Nat) nd,T[i]?=some nd->nd.leaf=false->i<nd.less/\i<nd.more/\nd.less<T.length/\nd.more<T.length)(hbn:b+xm T<n) :
  ∀(u:List Nd) (k:Nat),T.drop k=u->qcs (u.flatMap (qjZ FW T b)) (b+xm (T.take k)) n
 | [],_,_=>.nil
 | nd::u,k,h=>by
  have hk:T[k]?=some nd:=by rw[<- List.head?_drop,h];rfl
  have hu:T.drop (k+1)=u:=by rw[<- List.tail_drop,h];rfl
  have ih:=quB hF hfw hbn u (k+1) hu;rw[qld hk]at ih;rw[List.flatMap_cons];cases hl:nd.leaf with
  | true =>
   have e:qjZ FW T b nd=[]:=by simp[qjZ,hl]
   rw[hl]at ih;rw[e];simp_all
  | false =>
   have e:qjZ FW T b nd=[⟨53,nd.at',plc FW T b nd.more,plc FW T b nd.less⟩]:=by simp[qjZ,hl]
   rw[hl]at ih;simp only[Bool.false_eq_true,if_false]at ih ⊢;rw[e,List.singleton_append]
   have key:∀j,k<j->j<T.length->b+xm (T.take k)<plc FW T b j/\plc FW T b j<n:=λj h1 h2=>by
    have h3:xm (T.take (k+1))<=xm (T.take j):=qlc h1
    have h4:xm (T.take j)<=xm T:=by
     have:=qlc (T:=T) (i:=j) (j:=T.length) (by omega);rwa [List.take_length]at this
    rw[qld hk,hl]at h3;simp only[Bool.false_eq_true,if_false]at h3;unfold plc;rw[zzE h2]
    grind
   obtain⟨f1,f2,f3,f4⟩:=hfw k nd hk hl;obtain⟨m1,m2⟩:=key nd.more f2 f4;obtain⟨l1,l2⟩:=key nd.less f1 f3;exact .cons (.inr (.inr (.inr ⟨.inr (.inr (.inl rfl)),m1,m2,l1,l2⟩))) (by rw[Nat.add_assoc];exact ih)
def FilG.fwd(h:FilG x):∀(i:Nat) nd,(qQ x)[i]?=some nd->nd.leaf=false->i<nd.less/\i<nd.more/\nd.less<(qQ x).length/\nd.more<(qQ x).length:=λi nd hi hl=>by
 obtain⟨q1,q2⟩:=qxE _ _ 0 (zzL _) h.pos i nd hi hl;have:=h.nodes nd (by grind);exact⟨by omega,by omega,this.less,this.more⟩
def qvd(h:FilG x):qcs (zm x) 0 (x8 x+1):=by
 have hd:jP x=jL x.arch+(jaN (qQ x)+xm (qQ x)):=rfl;have hN:x8 x=jP x+1+zw x.rules:=rfl;have ho:3<=jL x.arch/\jL x.arch<=4:=by unfold jL;grind
 have hpos:0<jaN (qQ x)+xm (qQ x):=by
  have ha:=qmF _ (zW (pcs 0 (qO x.rules) 0)) 0 (zzL _) h.pos;have e:xm (qQ x)+1=(zW (pcs 0 (qO x.rules) 0)).length:=ha
  by_cases h2:2<=(zW (pcs 0 (qO x.rules) 0)).length
  .omega
  .have hj:jaN (qQ x)=1:=by unfold qQ;rw[zO,dif_pos (by have:=h.pos;omega)];rfl
   omega
 have ht:∀r ∈ x.rules,∀t ∈ r.tests,TstOk t:=by grind[TstG.ok,FilG.ts]
 unfold zm;refine .app (.app (.app (.app (qEb (by omega) (by omega) (by omega)) ?_) ?_) ?_) ?_
 .rw[qaB,Nat.zero_add];unfold xv;refine .app ?_ ?_
  .cases hT:qQ x with
   | nil=>exact .nil
   | cons nd T =>
    simp only[jaE];split
    .rename_i hl;rw[hT]at hd;simp only[jaN,if_pos hl]at hd;have:=(qmi (x:=x) (j:=nd.way)).1;have:=(qmi (x:=x) (j:=nd.way)).2;exact .cons (.inr (.inr (.inl ⟨rfl,rfl,rfl,by grind,by grind⟩))) .nil
    .exact .nil
  .rw[qnY];have:=quB (FW:=jg x) (T:=qQ x) (b:=jL x.arch+jaN (qQ x)) (n:=x8 x+1) (λj=>by have:=qmi (x:=x) (j:=j);omega) h.fwd (by omega) (qQ x) 0 rfl
   unfold brE;simpa[xm]using this
 .refine .cons (.inr (by simp_all)) .nil
 .have e:0+(qbe x.arch 0 (x8 x)++xv (jg x) (qQ x) (jL x.arch)++[(⟨6,x.dflt,0,0⟩:Sy)]).length=jP x+1:=by
   simp only[zzP,qaB,qat,List.length_singleton];unfold jP;omega
  rw[e]
  grind[qni]
 .refine .cons (.inr (by simp_all)) .nil
def FilG.rN(h:FilG x):zw x.rules<=x.rules.length*225:=qj5 h.t32
def qdE(h:FilG x):MayL (zm x):=by
 have hl:=qmP (x:=x);have hd:=h.dfl.1;have hr:=h.rN;have hn:=h.n;have hN:x8 x=jP x+1+zw x.rules:=rfl;refine⟨by omega,by omega,⟨⟨6,2147418112,0,0⟩,?_,rfl⟩,λj s hj=>?_⟩
 .rw[hl]
  have e:x8 x+1-1=(qbe x.arch 0 (x8 x)++xv (jg x) (qQ x) (jL x.arch)++[(⟨6,x.dflt,0,0⟩:Sy)]++xa x.rules (jP x+1)).length:=by
   simp only[zzP,qaB,qat,List.length_singleton,qbh];unfold x8 jP;omega
  rw[e];unfold zm;simp
 .have:=qvd h j s hj;rw[hl,Nat.zero_add]at *;omega
end
def qrv(a:Int)(d:GData):Prop:=d.arch=qdj a/\(a=0->xS .u32 d.nr 1073741824=0)/\(a=2->xS .u32 d.nr 1073741824≠0)
def qwS{a:Int}(h0:0<=a)(h6:a<6)(d:GData):((ofM d.arch d.nr).2=false\/(ofM d.arch d.nr).1≠a)↔¬qrv a d:=by
 unfold qrv ofM;generalize d.arch=t;generalize xS .u32 d.nr 1073741824=z;have ha:a=0\/a=1\/a=2\/a=3\/a=4\/a=5:=by omega
 have e:∀c:Int,xq (λx:List UInt8×Int=>decide (x.2=t)) zH 0=c↔(if t=3221225534 then 0 else if t=1073741827 then 1 else if t=1073741864 then 3 else if t=3221225655 then 4 else if t=3221225715 then 5 else -1)=c:=by
  intro c
  have:xq (λx:List UInt8×Int=>decide (x.2=t)) zH 0=(if t=3221225534 then 0 else if t=1073741827 then 1 else if t=1073741864 then 3 else if t=3221225655 then 4 else if t=3221225715 then 5 else -1):=by
   simp only[zH,xq,decide_eq_true_eq]
   grind
  rw[this]
 have e0:=(e _).2 rfl;rw[e0];rcases ha with rfl|rfl|rfl|rfl|rfl|rfl
 all_goals
  simp only[qdj,zH]
  by_cases h1:t=3221225534
  .by_cases hz:z=0<;>simp[h1,hz]
  by_cases h2:t=1073741827
  .simp[h2]
  by_cases h3:t=1073741864
  .simp[h3]
  by_cases h4:t=3221225655
  .simp[h4]
  by_cases h5:t=3221225715
  .simp[h5]
  simp[h1,h2,h3,h4,h5]
section
variable {R:List Sy} {d:GData} {r:Int}
def qEa{a:Int}{N:Nat}(h0:0<=a)(h6:a<6)(hd:DatOk d)(h:AtL R 0 (qbe a 0 N))(h1:qrv a d->Ev R d (jL a) d.nr r)(h2:¬qrv a d->EvA R d N r):EvA R d 0 r:=by
 intro b;unfold qbe at h;obtain⟨g,h3⟩:=h.app;obtain⟨g1,g⟩:=g.hd;obtain⟨g2,g⟩:=g.hd;obtain⟨g3,_⟩:=g.hd;have w4:wdD d 4=d.arch:=rfl;have w0:wdD d 0=d.nr:=rfl;refine .ld 0 b r _ g1 rfl (.jc _ _ r _ g2 (.inl rfl) ?_);simp only[qbD,w4]
 by_cases ht:d.arch=qdj a
 .rw[if_pos (by grind)];refine .ld _ _ r _ g3 rfl ?_;simp only[w0];have h3:AtL R 3 _:=h3
  have hz:∀z:Int,(0<xS .u32 d.nr 1073741824)↔xS .u32 d.nr 1073741824≠0:=λ_=>by
   obtain⟨n,e⟩:=Int.eq_ofNat_of_zero_le hd.nr0;have hn:=hd.nr1;have:=qdw (a:=n) (b:=1073741824) (by omega) (by decide);rw[<- e]at this;rw[show((1073741824:Nat):Int)=1073741824 from rfl]at this
   rw[this];omega
  by_cases a0:a=0
  .rw[if_pos a0]at h3;have hoN:jL a=4:=by simp[jL,a0]
   rw[hoN]at h1;refine .jc _ _ r _ h3.hd.1 (.inr (.inr (.inr rfl))) ?_;simp only[qbD]
   by_cases hb:xS .u32 d.nr 1073741824=0
   .have e:¬(0:Int)<xS .u32 d.nr 1073741824:=by omega
    rw[if_neg (by grind)];exact h1 ⟨ht,λ_=>hb,λh=>by omega⟩
   .have e:=(hz 0).2 hb;rw[if_pos (by simp[e])];exact h2 (λq=>hb (q.2.1 a0)) _
  .rw[if_neg a0]at h3
   by_cases a2:a=2
   .rw[if_pos a2]at h3;have hoN:jL a=4:=by simp[jL,a2]
    rw[hoN]at h1;refine .jc _ _ r _ h3.hd.1 (.inr (.inr (.inr rfl))) ?_;simp only[qbD]
    by_cases hb:xS .u32 d.nr 1073741824=0
    .rw[if_neg (by grind)];exact h2 (λq=>q.2.2 a2 hb) _
    .have e:=(hz 0).2 hb;rw[if_pos (by simp[e])];exact h1 ⟨ht,λh=>absurd h a0,λ_=>hb⟩
   .have hoN:jL a=3:=by simp[jL,a0,a2]
    rw[hoN]at h1;exact h1 ⟨ht,λh=>absurd h a0,λh=>absurd h a2⟩
 .rw[if_neg (by grind)];exact h2 (λq=>ht q.1) _
def qnh:∀{rs:List GRule} {p:Nat} {i:Nat} {q:GRule},AtL R p (xa rs p)->rs[i]?=some q->AtL R (p+zw (rs.take i)) (qtS q (p+zw (rs.take i)))
 | [],_,_,_,_,h=>by grind
 | y::rs,p,i,q,h,hi=>by
  unfold xa at h;obtain⟨g1,g2⟩:=h.app;rw[qmb]at g2;cases i with
  | zero=>simp at hi;subst hi;simpa[zw]using g1
  | succ i =>
   have:=qnh g2 (by simpa using hi);simpa[zw,Nat.add_assoc]using this
def qlp{x:GFil}:qmx x d=if(ofM d.arch d.nr).2=false\/(ofM d.arch d.nr).1≠x.arch then 2147418112 else match x.rules.find? (λr=>decide (r.nr=d.nr))with|none=>x.dflt|some r=>fnd (λt=>qb8 t d) r.act r.tests:=by
 unfold qmx fnd;rfl
def qrg{x:GFil}(h:FilG x)(hd:DatOk d):EvA (zm x) d 0 (qmx x d):=by
 have hR:=AtL.self (R:=zm x);have hR0:AtL (zm x) 0 (zm x):=hR;unfold zm at hR;obtain⟨hR,hA5⟩:=hR.app;obtain⟨hR,hA4⟩:=hR.app;obtain⟨hR,hA3⟩:=hR.app;obtain⟨hA1,hA2⟩:=hR.app;rw[show(qbe x.arch 0 (x8 x)++xv (jg x) (qQ x) (jL x.arch)++[(⟨6,x.dflt,0,0⟩:Sy)]++xa x.rules (jP x+1)++[(⟨6,2147418112,0,0⟩:Sy)])=zm x from rfl]at hA1 hA2 hA3 hA4 hA5
 have e3:0+(qbe x.arch 0 (x8 x)++xv (jg x) (qQ x) (jL x.arch)).length=jP x:=by simp only[zzP,qaB,qat];unfold jP;omega
 have e4:0+(qbe x.arch 0 (x8 x)++xv (jg x) (qQ x) (jL x.arch)++[(⟨6,x.dflt,0,0⟩:Sy)]).length=jP x+1:=by grind
 have e5:0+(qbe x.arch 0 (x8 x)++xv (jg x) (qQ x) (jL x.arch)++[(⟨6,x.dflt,0,0⟩:Sy)]++xa x.rules (jP x+1)).length=x8 x:=by simp only[zzP,qaB,qat,List.length_singleton,qbh];unfold x8 jP;omega
 rw[qaB,Nat.zero_add]at hA2;rw[e3]at hA3;rw[e4]at hA4;rw[e5]at hA5;rw[qlp];refine qEa h.a0 h.a6 hd hA1 (λhown=>?_) (λhown=>?_)
 .rw[if_neg (λq=>(qwS h.a0 h.a6 d).1 q hown)]
  obtain⟨c1,c2,c3,_,_⟩:=h.spans
  -- the code of a way
  have way:∀w,Cov (zW (pcs 0 (qO x.rules) 0)) d.nr w->Ev (zm x) d (jg x w) d.nr (match x.rules.find? (λr=>decide (r.nr=d.nr))with|none=>x.dflt|some r=>fnd (λt=>qb8 t d) r.act r.tests)->Ev (zm x) d (jL x.arch) d.nr (match x.rules.find? (λr=>decide (r.nr=d.nr))with|none=>x.dflt|some r=>fnd (λt=>qb8 t d) r.act r.tests):=by
   intro w hw he;unfold xv at hA2;obtain⟨j1,j2⟩:=hA2.app
   have ht:=qAO (T:=qQ x) (FW:=jg x) (b:=jL x.arch+jaN (qQ x)) (n:=d.nr) (Q:=λi=>Ev (zm x) d i d.nr (match x.rules.find? (λr=>decide (r.nr=d.nr))with|none=>x.dflt|some r=>fnd (λt=>qb8 t d) r.act r.tests)) (λi nd hi hl hq=>by
    have hp:plc (jg x) (qQ x) (jL x.arch+jaN (qQ x)) i=jL x.arch+jaN (qQ x)+xm ((qQ x).take i):=by unfold plc;rw[hi];simp[hl]
    have hg:=j2 _ _ (qyx (FW:=jg x) (b:=jL x.arch+(jaE (jg x) (qQ x)).length) hi hl);rw[qnY]at hg;rw[hp];refine .jc _ _ _ _ hg (.inr (.inr (.inl rfl))) ?_;simp only[qbD]
    simp_all) _ (zW (pcs 0 (qO x.rules) 0)) 0 0 4294967296 (zzL _) h.pos c1 (λj nd hj=>by rw[Nat.zero_add];exact hj) w hw he
   cases hT:qQ x with
   | nil=>simp_all[FilG.tne]
   | cons nd T =>
    rw[hT]at ht j1;cases hl:nd.leaf with
    | true =>
     simp only[jaE,if_pos hl]at j1;refine .ja _ _ _ _ j1.hd.1 rfl ?_;simp only[plc,List.getElem?_cons_zero,if_pos hl]at ht;exact ht
    | false =>
     simp only[plc,List.getElem?_cons_zero,hl,Bool.false_eq_true,if_false,jaN,List.take_zero,xm,List.countP_nil,Nat.add_zero]at ht;exact ht
  cases hf:x.rules.find? (λr=>decide (r.nr=d.nr))with
  | none =>
   rw[hf]at way
   have hnone:∀q ∈ x.rules,q.nr≠d.nr:=λq hq he=>by
    have:=List.find?_eq_none.1 hf q hq;simp_all
   refine way 0 (by grind[DatOk.nr0,DatOk.nr1]) ?_;exact Ev.rt (jP x) d.nr _ hA3.hd.1 rfl
  | some q =>
   rw[hf]at way;have hqm:=List.mem_of_find?_eq_some hf;have hqn:q.nr=d.nr:=by have:=List.find?_some hf;simp_all
   obtain⟨i,hi⟩:=List.getElem?_of_mem hqm;have hc:=c2 i q hi;rw[hqn]at hc;refine way (i+1) hc ?_;have ha:=qnh hA4 hi;have hw:jg x (i+1)=jP x+1+zw (x.rules.take i):=by simp[jg]
   rw[hw];exact qp2 hd (h.ts q hqm) ha _
 .rw[if_pos ((qwS h.a0 h.a6 d).2 hown)];intro a;exact Ev.rt (x8 x) a _ hA5.hd.1 rfl
end
def qaf{c:Int}(h:qd7 c):qm c=4/\c≠5/\c≠6:=by
 rcases h with rfl|rfl|rfl|rfl<;>decide
def qfc:qm 32=1/\qm 84=3/\qm 6=5/\qm 5=4:=by decide
section
variable {l R:List Sy} {d:GData} {r:Int}
def qfq.ja{s:Sy}{j n:Nat}(h:qfq s j n)(h5:s.code=5):s.k=0/\s.el=0/\j<s.th/\s.th<n:=by
 rcases h with⟨q,_⟩|⟨q,_⟩|⟨_,q⟩|⟨q,_⟩
 all_goals simp_all[qaf]
def qfq.jc{s:Sy}{j n:Nat}(h:qfq s j n)(ha:qd7 s.code):j<s.th/\s.th<n/\j<s.el/\s.el<n:=by
 have h5:=qaf ha;unfold qd7 at ha;rcases h with⟨q,_⟩|⟨q,_⟩|⟨q,_⟩|⟨_,q⟩
 all_goals omega
def qfq.jmp{s:Sy}{j n:Nat}(h:qfq s j n)(hj:qbu s):s.code=5\/qd7 s.code:=by
 unfold qbu at hj;obtain⟨c1,c2,c3,c4⟩:=qfc;rcases h with⟨q,_⟩|⟨q,_⟩|⟨q,_⟩|⟨q,_⟩
 all_goals grind
def qfq.ask{s:Sy}{j n:Nat}(h:qfq s j n)(hj:qcO s):qd7 s.code:=(h.jmp hj.1).resolve_left hj.2
def MayL.in(h:MayL l):qmC l:=by
 intro x hx j hj;obtain⟨i,hi⟩:=List.getElem?_of_mem hx;have hm:=h.all i x hi;rcases hj with⟨q,rfl⟩|⟨q,rfl⟩
 .rcases hm.jmp q with q|q
  .exact (hm.ja q).2.2.2
  .exact (hm.jc q).2.1
 .exact (hm.jc (hm.ask q)).2.2.2
def MayL.on(h:MayL l):qAU l:=by
 intro j x hx h6 h4;have hj:=(zzS.1 hx).1
 grind[MayL.last]
def MayL.hin(h:MayL l):∀x ∈ l,∀j:Nat,(x.code=5\/qm x.code=4)/\j=x.th\/(qm x.code=4/\x.code≠5)/\j=x.el->j<l.length:=by
 intro x hx j hj;refine h.in x hx j ?_
 rcases hj with⟨q,e⟩|q
 .refine .inl ⟨?_,e⟩;rcases q with q|q
  .unfold qbu;rw[q];exact qfc.2.2.2
  .exact q
 .exact .inr q
def Ev.at6{p:Nat}{a:Int}{s:Sy}(h:Ev R d p a r)(hs:R[p]?=some s)(h6:s.code=6):r=s.k:=by
 cases h with
 | ld _ _ _ x hx hc=>rw[hs]at hx;simp_all
 | an _ _ _ x hx hc=>rw[hs]at hx;simp_all
 | rt _ _ x hx hc=>rw[hs]at hx;simp_all
 | ja _ _ _ x hx hc=>rw[hs]at hx;simp_all
 | jc _ _ _ x hx hc=>rw[hs]at hx;simp_all[qaf]
theorem Ev.at5{p:Nat}{a:Int}{s:Sy}(h:Ev R d p a r)(hs:R[p]?=some s)(h5:s.code=5):Ev R d s.th a r:=by
 cases h with
 | ld _ _ _ x hx hc=>rw[hs]at hx;simp_all
 | an _ _ _ x hx hc=>rw[hs]at hx;simp_all
 | rt _ _ x hx hc=>rw[hs]at hx;simp_all
 | ja _ _ _ x hx hc hn=>rw[hs]at hx;simp_all
 | jc _ _ _ x hx hc=>rw[hs]at hx;simp_all[qaf]
theorem jK{to:Nat->Nat}{s:Sy}(h:¬qbu s):qbd to s=s:=by
 unfold qbd;rw[if_neg h,if_neg (λq=>h q.1)]
def qjg{to:Nat->Nat}{s:Sy}(h:s.code=5):qbd to s=⟨s.code,s.k,to s.th,s.el⟩:=by
 have hj:qbu s:=by unfold qbu;rw[h];exact qfc.2.2.2
 unfold qbd;rw[if_pos hj,if_neg (λq=>q.2 h)]
def qjh{to:Nat->Nat}{s:Sy}(h:qd7 s.code):qbd to s=⟨s.code,s.k,to s.th,to s.el⟩:=by
 have hj:=qaf h;unfold qbd;rw[if_pos (show qbu s from hj.1),if_pos (show qcO s from⟨hj.1,hj.2.1⟩)]
theorem jk{s:Sy}(h:s.code=32\/s.code=84\/s.code=6):¬qbu s:=by
 unfold qbu;rcases h with h|h|h<;>rw[h]<;>decide
theorem qpE{to:Nat->Nat}{s:Sy}{j n:Nat}(h:qfq s j n)(ht:∀q,j<q->q<n->j<to q/\to q<n):qfq (qbd to s) j n:=by
 rcases h with q|q|⟨q,q1,q2,q3,q4⟩|⟨q,q1,q2,q3,q4⟩
 .rw[jK (jk (.inl q.1))];exact .inl q
 .rw[jK (jk (.inr q.1))];exact .inr (.inl q)
 .rw[qjg q];obtain⟨t1,t2⟩:=ht _ q3 q4;exact .inr (by simp_all)
 .rw[qjh q];obtain⟨t1,t2⟩:=ht _ q1 q2;obtain⟨t3,t4⟩:=ht _ q3 q4;exact .inr (by simp_all)
-- shared
theorem qEF(h:MayL l){j:Nat}(hj:j<l.length):j<=qdZ l j/\qdZ l j<l.length:=by
 unfold qdZ;rw[zzE hj];simp only;split
 .rename_i h6;obtain⟨i,y,q1,q2,q3,_⟩:=qjT (zzE hj) h6;rw[q1];exact⟨q2,(zzS.1 q3).1⟩
 omega
theorem qeB{j:Nat}:(qfz l)[j]?=(l[j]?).map (qbd (qdZ l)):=by unfold qfz;rw[List.getElem?_map]
theorem qk7:(qfz l).length=l.length:=by unfold qfz;rw[List.length_map]
def qjw(h:MayL l):MayL (qfz l):=by
 refine⟨by rw[qk7];exact h.pos,by rw[qk7];exact h.big,?_,λj s hj=>?_⟩
 all_goals grind[MayL.last,qk7,qeB,jK,jk,qpE,MayL.all,qEF]
theorem qsb(h:MayL l){j:Nat}{a:Int}(hj:j<l.length)(he:Ev (qfz l) d j a r):Ev (qfz l) d (qdZ l j) a r:=by
 unfold qdZ;rw[zzE hj];simp only;split
 .rename_i h6;obtain⟨i,y,q1,q2,q3,q4,q5⟩:=qjT (zzE hj) h6;rw[q1];have hg:(qfz l)[j]?=some l[j]:=by rw[qeB,zzE hj];simp[jK (jk (.inr (.inr h6)))]
  have hr:=he.at6 hg h6;rw[hr,<- q5];exact Ev.rt i a y (by rw[qeB,q3];simp[jK (jk (.inr (.inr q4)))]) q4
 omega
def qEE(h:MayL l):∀{p:Nat} {a:Int},Ev l d p a r->Ev (qfz l) d p a r:=by
 intro p a he
 induction he with
 | ld p a r s hs hc _ ih=>exact .ld p a r s (by rw[qeB,hs];simp_all[jK,jk]) hc ih
 | an p a r s hs hc _ ih=>exact .an p a r s (by rw[qeB,hs];simp_all[jK,jk]) hc ih
 | rt p a s hs hc=>exact .rt p a s (by rw[qeB,hs];simp_all[jK,jk]) hc
 | ja p a r s hs hc _ ih =>
  have hm:=(h.all p s hs).ja hc;exact .ja p a r ⟨s.code,s.k,qdZ l s.th,s.el⟩ (by rw[qeB,hs,<- qjg hc];rfl) hc (qsb h hm.2.2.2 ih)
 | jc p a r s hs hc _ ih =>
  have hm:=(h.all p s hs).jc hc;refine .jc p a r ⟨s.code,s.k,qdZ l s.th,qdZ l s.el⟩ (by rw[qeB,hs,<- qjh hc];rfl) hc ?_
  grind[qsb]
-- threaded
def qEZ(h:MayL R){j:Nat}(hj:j<R.length):j<=jh R j/\jh R j<R.length:=by
 unfold jh;rw[zzE hj];simp only;split
 .rename_i h5;have:=(h.all j _ (by simp_all)).ja h5;omega
 omega
theorem qp3(h:MayL R){i:Nat}{x:Sy}(hx:R[i]?=some x):qfq (qbj R x) i R.length/\((x.code=6)->qbj R x=x):=by
 have hm:=qpE (h.all i x hx) (to:=jh R) λq q1 q2=>by have:=qEZ h q2;omega
 refine⟨?_,λh6=>?_⟩
 .unfold qbj;split
  .rename_i q;have ha:=hm.ask q.1;have:=hm.jc ha;exact .inr (by simp_all)
  omega
 .have e:=jK (to:=jh R) (jk (s:=x) (.inr (.inr h6)));unfold qbj;rw[e,if_neg (λq=>jk (.inr (.inr h6)) q.1.1)]
theorem qxC(h:MayL R){i:Nat}{x:Sy}(hx:R[i]?=some x):MayL (R.set i (qbj R x)):=by
 have hi:=(zzS.1 hx).1;refine⟨by rw[List.length_set];exact h.pos,by rw[List.length_set];exact h.big,?_,λj s hj=>?_⟩
 .obtain⟨s,hs,h6⟩:=h.last;refine⟨s,?_,h6⟩;rw[List.length_set,List.getElem?_set]
  by_cases e:i=R.length-1
  .rw[<- e,hx]at hs;cases hs;rw[if_pos e,if_pos (by omega),(qp3 h hx).2 h6]
  .rw[if_neg e];exact hs
 grind[qp3,MayL.all]
theorem qAK(h:MayL R){i:Nat}{x:Sy}(hx:R[i]?=some x):∀{p:Nat} {a:Int},Ev R d p a r->Ev (R.set i (qbj R x)) d p a r:=by
 have hi:=(zzS.1 hx).1;have g:∀{p:Nat} {s:Sy},R[p]?=some s->p≠i->(R.set i (qbj R x))[p]?=some s:=λhs hp=>by rw[List.getElem?_set,if_neg (Ne.symm hp)];exact hs
 have gi:(R.set i (qbj R x))[i]?=some (qbj R x):=by rw[List.getElem?_set,if_pos rfl,if_pos hi]
 have hop:∀{t:Nat} {a:Int},i<t->t<R.length->Ev (R.set i (qbj R x)) d t a r->Ev (R.set i (qbj R x)) d (jh R t) a r:=λ{t a} h1 h2 he=>by
  unfold jh;rw[zzE h2]
  grind[Ev.at5]
 have gn:¬qbu x->(R.set i (qbj R x))[i]?=some x:=λq=>by
  rw[gi];unfold qbj;rw[jK q,if_neg (λz=>q z.1.1)]
 intro p a he
 induction he with
 | ld p a r s hs hc _ ih =>
  by_cases e:p=i
  .subst e;rw[hx]at hs;cases hs;exact .ld _ _ _ x (gn (jk (.inl hc))) hc (ih hop)
  .exact .ld _ _ _ s (g hs e) hc (ih hop)
 | an p a r s hs hc _ ih =>
  by_cases e:p=i
  .subst e;rw[hx]at hs;cases hs;exact .an _ _ _ x (gn (jk (.inr (.inl hc)))) hc (ih hop)
  .exact .an _ _ _ s (g hs e) hc (ih hop)
 | rt p a s hs hc =>
  by_cases e:p=i
  .subst e;rw[hx]at hs;cases hs;exact .rt _ _ x (gn (jk (.inr (.inr hc)))) hc
  .exact .rt _ _ s (g hs e) hc
 | ja p a r s hs hc _ ih =>
  by_cases e:p=i
  .subst e;rw[hx]at hs;cases hs;have hm:=(h.all _ _ hx).ja hc
   have e1:qbj R x=⟨x.code,x.k,jh R x.th,x.el⟩:=by
    unfold qbj;rw[qjg hc,if_neg (λz=>z.1.2 hc)]
   have gi2:=gi.trans (congrArg some e1);exact .ja _ _ _ _ gi2 hc (by simp_all)
  .exact .ja _ _ _ s (g hs e) hc (ih hop)
 | jc p a r s hs hc _ ih =>
  by_cases e:p=i
  .subst e;rw[hx]at hs;cases hs;have hm:=(h.all _ _ hx).jc hc;have ih:=ih hop
   have he:Ev (R.set p (qbj R x)) d (if qbD x.code a x.k=true then jh R x.th else jh R x.el) a r:=by
    grind
   have e0:=qjh (to:=jh R) hc
   by_cases eq:jh R x.th=jh R x.el
   .have e1:qbj R x=⟨5,0,jh R x.th,0⟩:=by
     unfold qbj;rw[e0];exact if_pos ⟨⟨(qaf hc).1,(qaf hc).2.1⟩,eq⟩
    rw[<- eq,ite_self]at he;exact .ja _ _ _ _ (gi.trans (congrArg some e1)) rfl he
   .have e1:qbj R x=⟨x.code,x.k,jh R x.th,jh R x.el⟩:=by
     unfold qbj;rw[e0];simp_all
    exact .jc _ _ _ _ (gi.trans (congrArg some e1)) hc he
  .exact .jc _ _ _ s (g hs e) hc (ih hop)
theorem qp4:∀{m j:Nat},j+m<l.length->(qfY l m)[j]?=l[j]?
 | 0,_,_=>rfl
 | m+1,j,h=>by
  unfold qfY;split
  .rw[List.getElem?_set,if_neg (by omega)];exact qp4 (by omega)
  grind
def qoo(h:MayL l):∀m,m<=l.length->MayL (qfY l m)/\∀{p:Nat} {a:Int},Ev l d p a r->Ev (qfY l m) d p a r
 | 0,_=>⟨h,λe=>e⟩
 | m+1,hm=>by
  obtain⟨h1,h2⟩:=qoo h m (by omega);have hx:l[l.length-(m+1)]?=some l[l.length-(m+1)]:=by simp_all
  unfold qfY;rw[hx]
  grind[qp4,qxC,qAK]
def qk9(h:MayL l):MayL (qon l):=(qoo (d:=⟨0,0,0,0,0,0,0,0,0⟩) (r:=0) h _ (zzL _)).1
def qEY(h:MayL l){p:Nat}{a:Int}:Ev l d p a r->Ev (qon l) d p a r:=(qoo h _ (zzL _)).2
theorem qAL:(qon l).length=l.length:=qfB
end
def Suc(x:Sy)(j t:Nat):Prop:=(x.code≠6/\¬qbu x/\t=j+1)\/(qbu x/\t=x.th)\/(qcO x/\t=x.el)
def qJe{A:List Bool}{i j:Nat}(h:A[j]?=some true):(A.set i true)[j]?=some true:=by
 rw[List.getElem?_set]
 grind
def qED{A:List Bool}{i:Nat}(h:i<A.length):(A.set i true)[i]?=some true:=by
 rw[List.getElem?_set,if_pos rfl,if_pos h]
def qxo{A:List Bool}{i j:Nat}(h:j≠i):(A.set i true)[j]?=A[j]?:=by
 rw[List.getElem?_set,if_neg (Ne.symm h)]
theorem qmD{A:List Bool}{j m:Nat}{x:Sy}(h:A[j]?=some true):(qe7 A m x)[j]?=some true:=by
 unfold qe7
 grind
def qug{A:List Bool}{j t:Nat}{x:Sy}(h:A[j]?=some true)(hs:Suc x j t)(ht:t<A.length):(qe7 A j x)[t]?=some true:=by
 have h6:x.code≠6:=by
  rcases hs with q|⟨q,_⟩|⟨q,_⟩
  .omega
  .grind[jk]
  .intro e;exact jk (.inr (.inr e)) q.1
 unfold qe7;rw[if_neg (by simp_all)];rcases hs with⟨_,q,rfl⟩|⟨q,rfl⟩|⟨q,rfl⟩
 .rw[if_pos (show qm x.code≠4 from q)];simp_all
 .rw[if_neg (λz:qm x.code≠4=>z q)]
  grind
 .rw[if_neg (λz:qm x.code≠4=>z q.1),if_pos q]
  simp_all
section
variable {l:List Sy} {d:GData} {r:Int}
def qss(h:MayL l){A:List Bool}{j m:Nat}{x:Sy}(hx:l[m]?=some x)(hj:j<=m):(qe7 A m x)[j]?=A[j]?:=by
 unfold qe7;split
 .rfl
 .split
  .grind
  .rename_i q;have hq:qbu x:=Decidable.not_not.1 q;have hm:=h.all m x hx
   have hth:m<x.th:=by
    rcases hm.jmp hq with z|z
    .exact (hm.ja z).2.2.1
    .exact (hm.jc z).1
   split
   .rename_i q2;have:=hm.jc (hm.ask q2);rw[qxo (by omega),qxo (by omega)]
   grind
def qqR(h:MayL l){j t:Nat}{x:Sy}(hx:l[j]?=some x)(hs:Suc x j t):j<t/\t<l.length:=by
 have hm:=h.all j x hx;rcases hs with⟨q1,q2,rfl⟩|⟨q,rfl⟩|⟨q,rfl⟩
 .exact⟨by omega,h.on j x hx q1 q2⟩
 .rcases hm.jmp q with z|z
  .exact (hm.ja z).2.2
  .exact⟨(hm.jc z).1,(hm.jc z).2.1⟩
 .exact (hm.jc (hm.ask q)).2.2
def qoz(h:MayL l):∀m,m<=l.length->∀(j t:Nat) x,j<m->l[j]?=some x->Suc x j t->(jY l m)[j]?=some true->(jY l m)[t]?=some true
 | 0,_,j,t,x,hj,_,_,_=>by omega
 | m+1,hm,j,t,x,hj,hx,hs,ha=>by
  have hy:l[m]?=some l[m]:=by simp_all
  unfold jY at ha ⊢;rw[hy]at ha ⊢;simp only at ha ⊢;rw[qss h hy (by omega)]at ha;rcases Nat.lt_or_ge j m with q|q
  .exact qmD (qoz h m (by omega) j t x q hx hs ha)
  .have e:j=m:=by omega
   subst e;rw[hy]at hx;cases hx;exact qug ha hs (by rw[qbv];exact(qqR h hy hs).2)
def qdv(h:MayL l){j t:Nat}{x:Sy}(hx:l[j]?=some x)(hs:Suc x j t)(ha:(zM l)[j]?=some true):(zM l)[t]?=some true :=
 qoz h _ (zzL _) j t x (by grind) hx hs ha
def quh(h:0<l.length):(zM l)[0]?=some true:=by
 have:∀m,(jY l m)[0]?=some true:=by
  intro m
  induction m with
  | zero=>exact qED (by simp_all)
  | succ m ih =>
   unfold jY;grind[qmD]
 exact this _
def qu1{A:List Bool}{i j:Nat}(h:i<=j):xd A i<=xd A j:=by
 unfold xd;have e:A.take i=(A.take j).take i:=by rw[List.take_take,Nat.min_eq_left h]
 rw[e]
 grind[List.take_sublist]
def qln{A:List Bool}{i j:Nat}(ha:A[i]?=some true)(h:i<j):xd A i<xd A j:=by
 have h1:=qfd ha;have h2:=qu1 (A:=A) (i:=i+1) (j:=j) h;rw[if_pos rfl]at h1;omega
def qr6{α:Type}:∀{A:List Bool} {l:List α} {p:Nat} {x:α},A[p]?=some true->l[p]?=some x->(qcJ A l)[xd A p]?=some x
 | [],_,_,_,h,_=>by grind
 | _::_,[],_,_,_,h=>by grind
 | c::A,y::l,0,x,h1,h2=>by
  simp at h1 h2;subst h1 h2;simp[qcJ,xd]
 | c::A,y::l,p+1,x,h1,h2=>by
  have:=qr6 (A:=A) (l:=l) (p:=p) (x:=x) (by simp_all) (by simp_all);unfold xd at this ⊢;rw[List.take_succ_cons,List.countP_cons];cases c<;>simpa[qcJ]using this
def qk6{α:Type}:∀{A:List Bool} {l:List α} {q:Nat} {x:α},(qcJ A l)[q]?=some x->∃p,A[p]?=some true/\l[p]?=some x/\xd A p=q
 | [],_,_,_,h=>by simp[qcJ]at h
 | _::_,[],_,_,h=>by simp[qcJ]at h
 | c::A,y::l,q,x,h=>by
  cases c with
  | false =>
   obtain⟨p,h1,h2,h3⟩:=qk6 (A:=A) (l:=l) (q:=q) (x:=x) (by simpa[qcJ]using h);refine⟨p+1,by simpa using h1,by simpa using h2,?_⟩
   unfold xd at h3 ⊢;rw[List.take_succ_cons,List.countP_cons];simp_all
  | true =>
   cases q with
   | zero=>simp[qcJ]at h;subst h;exact⟨0,rfl,rfl,by simp[xd]⟩
   | succ q =>
    obtain⟨p,h1,h2,h3⟩:=qk6 (A:=A) (l:=l) (q:=q) (x:=x) (by simpa[qcJ]using h);refine⟨p+1,by simpa using h1,by simpa using h2,?_⟩
    unfold xd at h3 ⊢;rw[List.take_succ_cons,List.countP_cons];simp_all
def qr7{α:Type}:∀{A:List Bool} {l:List α},A.length=l.length->(qcJ A l).length=xd A A.length
 | [],[],_=>rfl
 | [],_::_,h=>by grind
 | _::_,[],h=>by grind
 | c::A,y::l,h=>by
  have:=qr7 (A:=A) (l:=l) (by simp_all);unfold xd at this ⊢;rw[List.length_cons,List.take_succ_cons,List.countP_cons];cases c<;>simp[qcJ,this]
def qkW:(qg7 l).length=xd (zM l) l.length:=by
 unfold qg7;have hA:(zM l).length=l.length:=qbv;rw[qr7 (by rw[List.length_map,hA]),hA]
theorem qwc:(qg7 l).length<=l.length:=by rw[qkW];exact qnP
def qjd{p:Nat}{x:Sy}(ha:(zM l)[p]?=some true)(hx:l[p]?=some x):(qg7 l)[xd (zM l) p]?=some (qbd (xd (zM l)) x) :=
 qr6 ha (by rw[List.getElem?_map,hx];rfl)
def qzx(h:MayL l):MayL (qg7 l):=by
 have hA:(zM l).length=l.length:=qbv;have h0:=quh h.pos;have hp:0<(qg7 l).length:=by rw[qkW];exact Nat.lt_of_le_of_lt (Nat.zero_le _) (qln h0 h.pos)
 have idx:∀{q:Nat} {s:Sy},(qg7 l)[q]?=some s->∃p x,(zM l)[p]?=some true/\l[p]?=some x/\xd (zM l) p=q/\s=qbd (xd (zM l)) x:=λ{q s} hq=>by
  obtain⟨p,h1,h2,h3⟩:=qk6 hq;rw[List.getElem?_map]at h2
  grind
 refine⟨hp,Nat.le_trans qwc h.big,?_,λj s hj=>?_⟩
 .obtain⟨p,x,q1,q2,q3,q4⟩:=idx (zzE (i:=(qg7 l).length-1) (by omega));refine⟨_,zzE (by omega),?_⟩;rw[q4];show x.code=6;apply Decidable.byContradiction;intro h6
  have hs:∃t,Suc x p t:=by
   by_cases hj:qbu x
   .exact⟨_,.inr (.inl ⟨hj,rfl⟩)⟩
   .exact⟨_,.inl ⟨h6,hj,rfl⟩⟩
  obtain⟨t,ht⟩:=hs;have t1:=qqR h q2 ht;have t2:=qdv h q2 ht q1;have t3:=qln q1 t1.1;have t4:=qln t2 t1.2;rw[<- qkW]at t4;omega
 .obtain⟨p,x,q1,q2,q3,rfl⟩:=idx hj;have hm:=h.all p x q2
  have go:∀t,Suc x p t->j<xd (zM l) t/\xd (zM l) t<(qg7 l).length:=λt ht=>by
   have t1:=qqR h q2 ht;have t2:=qdv h q2 ht q1;rw[qkW,<- q3];exact⟨qln q1 t1.1,qln t2 t1.2⟩
  rcases hm with q|q|⟨q,z1,z2,z3,z4⟩|⟨q,z1,z2,z3,z4⟩
  .rw[jK (jk (.inl q.1))];exact .inl q
  .rw[jK (jk (.inr q.1))];exact .inr (.inl q)
  .have hjm:qbu x:=by unfold qbu;rw[q];exact qfc.2.2.2
   rw[qjg q];obtain⟨t1,t2⟩:=go x.th (.inr (by simp_all));exact .inr (by simp_all)
  .have ha:=qaf q;rw[qjh q];obtain⟨t1,t2⟩:=go x.th (.inr (.inl ⟨ha.1,rfl⟩));obtain⟨t3,t4⟩:=go x.el (.inr (.inr ⟨⟨ha.1,ha.2.1⟩,rfl⟩));exact .inr (by simp_all)
def qDg(h:MayL l):∀{p:Nat} {a:Int},Ev l d p a r->(zM l)[p]?=some true->Ev (qg7 l) d (xd (zM l) p) a r:=by
 intro p a he
 induction he with
 | ld p a r s hs hc _ ih =>
  intro ha;have hn:=qdv h hs (t:=p+1) (.inl ⟨by omega,jk (.inl hc),rfl⟩) ha
  have e:=qfd ha;rw[if_pos rfl]at e;have ih:=ih hn;rw[e]at ih;have hg:=qjd ha hs;rw[jK (jk (.inl hc))]at hg;exact .ld _ _ _ s hg hc ih
 | an p a r s hs hc _ ih =>
  intro ha;have hn:=qdv h hs (t:=p+1) (.inl ⟨by omega,jk (.inr (.inl hc)),rfl⟩) ha
  have e:=qfd ha;rw[if_pos rfl]at e;have ih:=ih hn;rw[e]at ih;have hg:=qjd ha hs;rw[jK (jk (.inr (.inl hc)))]at hg;exact .an _ _ _ s hg hc ih
 | rt p a s hs hc =>
  intro ha;have hg:=qjd ha hs;rw[jK (jk (.inr (.inr hc)))]at hg;exact .rt _ _ s hg hc
 | ja p a r s hs hc _ ih =>
  intro ha;have hjm:qbu s:=by unfold qbu;rw[hc];exact qfc.2.2.2
  have hg:=qjd ha hs;rw[qjg hc]at hg;exact .ja _ _ _ _ hg hc (ih (qdv h hs (.inr (by simp_all)) ha))
 | jc p a r s hs hc _ ih =>
  intro ha;have hk:=qaf hc;have h1:=qdv h hs (t:=s.th) (.inr (.inl ⟨hk.1,rfl⟩)) ha;have h2:=qdv h hs (t:=s.el) (.inr (.inr ⟨⟨hk.1,hk.2.1⟩,rfl⟩)) ha;have hg:=qjd ha hs;rw[qjh hc]at hg;refine .jc _ _ _ _ hg hc ?_
  grind
theorem qhy(h:MayL l):MayL (qbQ l):=qzx (qk9 (qjw h))
theorem qrL:(qbQ l).length<=l.length:=by
 unfold qbQ;grind[qwc,qAL,qk7]
theorem qwQ(h:MayL l){a:Int}(he:Ev l d 0 a r):Ev (qbQ l) d 0 a r:=by
 have h1:=qEY (qjw h) (qEE h he);have h2:=qDg (qk9 (qjw h)) h1 (quh (qk9 (qjw h)).pos);unfold qbQ;simpa[xd]using h2
end
def Go1(p:List Ins)(d:GData)(at':Nat)(a r:Int):Prop:=∀(n:Nat) (m:Mac) (bh:Int) (L:List Nat),m.a=a->m.over=false->p.length<at'+n->(qkE p d n m at' bh L).1=r/\(qkE p d n m at' bh L).2.2.2=0
section
variable {p:List Ins} {d:GData} {q:Nat} {a r k:Int}
def qoG{i:Ins}(h:p[q]?=some i):q<p.length:=by grind
def qkU{i:Ins}(h:p[q]?=some i){m:Mac}{n:Nat}{bh:Int}{L:List Nat}(he:(doR m i d).2.2=0)(ho:(doR m i d).1.over=false) :
  qkE p d (n+1) m q bh L=qkE p d n (doR m i d).1 (q+1+(doR m i d).2.1.toNat) (if qm i.code=4 then 42 else 46) (L++[q]):=by
 rw[qhD,h];simp_all
def qGW(h:p[q]?=some ⟨32,0,0,k⟩)(hk:k % 4=0/\0<=k/\k<64)(hn:Go1 p d (q+1) (wdD d k) r):Go1 p d q a r:=by
 intro n m bh L ha ho hl;have hq:=qoG h;obtain⟨n,rfl⟩:∃n',n=n'+1:=⟨n-1,by omega⟩
 have e:doR m ⟨32,0,0,k⟩ d=({ m with a:=wdD d k },0,0):=by
  have e1:zY 32=true:=by decide
  have e2:qm 32=1:=by decide
  simp only[doR,e1,e2,qet,qg4];simp[hk.1,show¬64<=k from by omega,wdD]
 rw[qkU h (by rw[e]) (by rw[e];exact ho),e];exact hn n _ _ _ rfl ho (by omega)
def qGV(h:p[q]?=some ⟨84,0,0,k⟩)(hn:Go1 p d (q+1) (xS .u32 a k) r):Go1 p d q a r:=by
 intro n m bh L ha ho hl;have hq:=qoG h;obtain⟨n,rfl⟩:∃n',n=n'+1:=⟨n-1,by omega⟩
 have e:doR m ⟨84,0,0,k⟩ d=({ m with a:=xS .u32 a k },0,0):=by
  have e1:zY 84=true:=by decide
  have e2:qm 84=3:=by decide
  have e3:qaH 84=false:=by decide
  simp only[doR,e1,e2,nuM,qV,qdf,e3];simp[opM,ha]
 rw[qkU h (by rw[e]) (by rw[e];exact ho),e];exact hn n _ _ _ rfl ho (by omega)
def qGX(h:p[q]?=some ⟨6,0,0,k⟩):Go1 p d q a k:=by
 intro n m bh L ha ho hl;have hq:=qoG h;obtain⟨n,rfl⟩:∃n',n=n'+1:=⟨n-1,by omega⟩
 have e:doR m ⟨6,0,0,k⟩ d=({ m with over:=true,told:=k },0,0):=by
  have e1:zY 6=true:=by decide
  have e2:qm 6=5:=by decide
  simp only[doR,e1,e2,qse];simp
 rw[qhD,h];simp[e]
def qvE(h:p[q]?=some ⟨5,0,0,k⟩)(hn:Go1 p d (q+1+k.toNat) a r):Go1 p d q a r:=by
 intro n m bh L ha ho hl;have hq:=qoG h;obtain⟨n,rfl⟩:∃n',n=n'+1:=⟨n-1,by omega⟩
 have e:doR m ⟨5,0,0,k⟩ d=(m,k,0):=by
  have e1:zY 5=true:=by decide
  have e2:qm 5=4:=by decide
  simp only[doR,e1,e2,qid];simp
 rw[qkU h (by rw[e]) (by rw[e];exact ho),e];exact hn n _ _ _ ha ho (by omega)
def qBe{c jt jf:Int}(hc:qd7 c)(h:p[q]?=some ⟨c,jt,jf,k⟩)(hn:Go1 p d (q+1+(if qbD c a k=true then jt else jf).toNat) a r):Go1 p d q a r:=by
 intro n m bh L ha ho hl;have hq:=qoG h;obtain⟨n,rfl⟩:∃n',n=n'+1:=⟨n-1,by omega⟩
 have e:doR m ⟨c,jt,jf,k⟩ d=(m,if qbD c a k=true then jt else jf,0):=by
  have e1:zY c=true:=by rcases hc with rfl|rfl|rfl|rfl<;>decide
  have e2:=(qaf hc).1;have e3:qaH c=false:=by rcases hc with rfl|rfl|rfl|rfl<;>decide
  have e4:=(qaf hc).2.1;simp only[doR,e1,e2,qid,e4,qV,qdf,e3,ha];simp
 rw[qkU h (by rw[e]) (by rw[e];exact ho),e];exact hn n _ _ _ ha ho (by omega)
end
section
variable {l:List Sy} {d:GData} {r:Int}
def bl(l:List Sy)(m:Nat):Nat:=(zz l m).1.length
def qje{m:Nat}{x:Sy}(h:l[l.length-(m+1)]?=some x):zz l (m+1)=((zz l m).1++(jV (bl l m) (zz l m).2 x).reverse,(zz l m).2.set (l.length-(m+1)) (bl l (m+1))):=by
 have e:zz l (m+1)=((zz l m).1++(jV (zz l m).1.length (zz l m).2 x).reverse,(zz l m).2.set (l.length-(m+1)) ((zz l m).1++(jV (zz l m).1.length (zz l m).2 x).reverse).length):=by
  conv=>lhs;unfold zz
  rw[h]
 have e2:bl l (m+1)=((zz l m).1++(jV (zz l m).1.length (zz l m).2 x).reverse).length:=by unfold bl;rw[e]
 rw[e2];exact e
def quy{m m':Nat}(h:m<=m'):∃R,(zz l m').1=(zz l m).1++R:=by
 induction m' with
 | zero=>rw[Nat.le_zero.1 h];simp_all
 | succ m' ih =>
  rcases Nat.lt_or_ge m' m with q|q
  .rw[show m=m'+1 by omega];simp_all
  .obtain⟨R,hR⟩:=ih q;cases hx:l[l.length-(m'+1)]? with
   | none =>
    refine⟨R,?_⟩
    conv=>lhs;unfold zz
    rw[hx];exact hR
   | some x=>rw[qje hx];simp_all
def qiM{m m':Nat}(h:m<=m'):bl l m<=bl l m':=by
 obtain⟨R,hR⟩:=quy (l:=l) h;unfold bl;rw[hR,zzP];omega
def qGs{m:Nat}(hm:m<=l.length){j:Nat}(h1:l.length-m<=j)(h2:j<l.length):(zz l m).2.getD j 0=bl l (l.length-j):=by
 induction m with
 | zero=>omega
 | succ m ih =>
  have hx:l[l.length-(m+1)]?=some l[l.length-(m+1)]:=by simp_all
  rw[qje hx,List.getD_eq_getElem?_getD,List.getElem?_set]
  grind[qhv]
def plL(l:List Sy)(j:Nat):Nat:=bl l l.length-bl l (l.length-j)
def cdL(l:List Sy)(j:Nat)(x:Sy):List Ins:=jV (bl l (l.length-(j+1))) (zz l (l.length-(j+1))).2 x
def qlN:(xO l).length=bl l l.length:=by unfold xO bl;rw[List.length_reverse]
def qhu{j:Nat}{x:Sy}(hx:l[j]?=some x):bl l (l.length-j)=bl l (l.length-(j+1))+(cdL l j x).length/\∃A B,xO l=A++cdL l j x++B/\A.length=plL l j/\B.length=bl l (l.length-(j+1)):=by
 have hj:=(zzS.1 hx).1;have hx2:l[l.length-(l.length-(j+1)+1)]?=some x:=by rw[show l.length-(l.length-(j+1)+1)=j by omega];exact hx
 have h:=qje hx2;have hm:l.length-(j+1)+1=l.length-j:=by omega
 rw[hm]at h;have h1:(zz l (l.length-j)).1=(zz l (l.length-(j+1))).1++(cdL l j x).reverse:=by rw[h];rfl
 obtain⟨R,hR⟩:=quy (l:=l) (m:=l.length-j) (m':=l.length) (by omega);have hb:bl l (l.length-j)=bl l (l.length-(j+1))+(cdL l j x).length:=by unfold bl;rw[h1,zzP,List.length_reverse]
 refine⟨hb,R.reverse,(zz l (l.length-(j+1))).1.reverse,?_,?_,?_⟩
 .unfold xO;rw[hR,h1];simp
 .unfold plL bl;rw[hR,zzP,List.length_reverse];omega
 .rw[List.length_reverse];rfl
def qcF{j:Nat}{x:Sy}(hx:l[j]?=some x){i:Nat}{y:Ins}(hy:(cdL l j x)[i]?=some y):(xO l)[plL l j+i]?=some y:=by
 obtain⟨_,A,B,h1,h2,_⟩:=qhu hx;rw[h1,<- h2,List.append_assoc,List.getElem?_append_right (by omega),Nat.add_sub_cancel_left,List.getElem?_append_left (by grind)];exact hy
def dsL(l:List Sy)(j t:Nat):Nat:=bl l (l.length-(j+1))-bl l (l.length-t)
def qhO{j t:Nat}(h1:j<t)(h2:t<l.length):bl l (l.length-(j+1))-(zz l (l.length-(j+1))).2.getD t 0=dsL l j t:=by
 rw[qGs (by omega) (by omega) h2];rfl
def qjm{j:Nat}{x:Sy}(hx:l[j]?=some x){t:Nat}(h1:j<t):plL l j+(cdL l j x).length+dsL l j t=plL l t:=by
 have hb:=(qhu hx).1;have b1:=qiM (l:=l) (m:=l.length-j) (m':=l.length) (by omega);have b2:=qiM (l:=l) (m:=l.length-t) (m':=l.length-(j+1)) (by omega);unfold plL dsL;omega
def qGI{j:Nat}:dsL l j (j+1)=0:=by unfold dsL;omega
def qzw(h:MayL l):∀{j:Nat} {a:Int},Ev l d j a r->Go1 (xO l) d (plL l j) a r:=by
 intro j a he
 induction he with
 | ld j a r x hx hc _ ih =>
  have hm:=h.all j x hx
  have hk:x.k % 4=0/\0<=x.k/\x.k<64:=by
   rcases hm with q|⟨q,_⟩|⟨q,_⟩|⟨q,_⟩
   .omega
   .omega
   .omega
   .unfold qd7 at q;omega
  have e:cdL l j x=[⟨32,0,0,x.k⟩]:=by unfold cdL jV;rw[hc,if_neg (by decide),if_pos (by decide)]
  have hn:=qjm hx (t:=j+1) (by omega);rw[qGI,e]at hn;simp only[List.length_singleton,Nat.add_zero]at hn;exact qGW (qcF hx (i:=0) (by rw[e];rfl)) hk (by rw[Nat.add_zero,hn];exact ih)
 | an j a r x hx hc _ ih =>
  have e:cdL l j x=[⟨84,0,0,x.k⟩]:=by unfold cdL jV;rw[hc,if_neg (by decide),if_pos (by decide)]
  have hn:=qjm hx (t:=j+1) (by omega);rw[qGI,e]at hn;simp only[List.length_singleton,Nat.add_zero]at hn;exact qGV (qcF hx (i:=0) (by rw[e];rfl)) (by rw[Nat.add_zero,hn];exact ih)
 | rt j a x hx hc =>
  have e:cdL l j x=[⟨6,0,0,x.k⟩]:=by unfold cdL jV;rw[hc,if_neg (by decide),if_pos (by decide)]
  exact qGX (qcF hx (i:=0) (by rw[e];rfl))
 | ja j a r x hx hc _ ih =>
  have hm:=(h.all j x hx).ja hc;have e:cdL l j x=[⟨5,0,0,(dsL l j x.th:Nat)⟩]:=by unfold cdL jV;rw[if_pos hc,qhO hm.2.2.1 hm.2.2.2]
  have hn:=qjm hx hm.2.2.1;rw[e]at hn;simp only[List.length_singleton]at hn;exact qvE (qcF hx (i:=0) (by rw[e];rfl)) (by rw[Nat.add_zero,Int.toNat_natCast,hn];exact ih)
 | jc j a r x hx hc _ ih =>
  have hm:=(h.all j x hx).jc hc;have hk:=qaf hc;have n1:=qjm hx hm.1;have n2:=qjm hx hm.2.2.1
  by_cases hf:max (dsL l j x.th) (dsL l j x.el)<=255
  .have e:cdL l j x=[⟨x.code,(dsL l j x.th:Nat),(dsL l j x.el:Nat),x.k⟩]:=by
    unfold cdL jV;rw[if_neg hk.2.1,if_neg (λq=>q hk.1),qhO hm.1 hm.2.1,qhO hm.2.2.1 hm.2.2.2,if_pos hf]
   rw[e]at n1 n2;simp only[List.length_singleton]at n1 n2;refine qBe hc (qcF hx (i:=0) (by rw[e];rfl)) ?_
   grind
  .have e:cdL l j x=[⟨x.code,0,1,x.k⟩,⟨5,0,0,(dsL l j x.th+1:Nat)⟩,⟨5,0,0,(dsL l j x.el:Nat)⟩]:=by
    unfold cdL jV;rw[if_neg hk.2.1,if_neg (λq=>q hk.1),qhO hm.1 hm.2.1,qhO hm.2.2.1 hm.2.2.2,if_neg hf]
   rw[e]at n1 n2;simp only[List.length_cons,List.length_nil]at n1 n2;refine qBe hc (qcF hx (i:=0) (by rw[e];rfl)) ?_
   by_cases q:qbD x.code a x.k=true
   .rw[if_pos q]at ih ⊢;refine qvE (k:=((dsL l j x.th+1:Nat):Int)) (qcF hx (i:=1) (y:=⟨5,0,0,(dsL l j x.th+1:Nat)⟩) (by rw[e];rfl)) ?_;rw[Int.toNat_natCast];have e2:plL l j+0+1+(0:Int).toNat+1+(dsL l j x.th+1)=plL l x.th:=by omega
    rw[e2];exact ih
   .rw[if_neg q]at ih ⊢;refine qvE (k:=((dsL l j x.el:Nat):Int)) (qcF hx (i:=2) (y:=⟨5,0,0,(dsL l j x.el:Nat)⟩) (by rw[e];rfl)) ?_;rw[Int.toNat_natCast];have e2:plL l j+0+1+(1:Int).toNat+1+dsL l j x.el=plL l x.el:=by omega
    rw[e2];exact ih
def qtm(h:MayL l)(he:Ev l d 0 0 r):(qgs (xO l) d).1=r/\(qgs (xO l) d).2.2.2=0:=by
 have:=qzw h he;have e:plL l 0=0:=by unfold plL;rw[Nat.sub_zero];omega
 rw[e]at this;exact this _ _ _ _ rfl rfl (by omega)
end
def jN(l:List Sy):Prop:=∀x ∈ l,0<=x.k/\x.k<=4294967295
section
variable {l:List Sy}
def qAx(h:jN l):jN (qfz l):=by
 intro x hx;unfold qfz at hx;obtain⟨y,hy,rfl⟩:=List.mem_map.1 hx;exact h y hy
def qop(h:jN l):∀m,jN (qfY l m)
 | 0=>h
 | m+1=>by
  unfold qfY;split
  .rename_i x hx;intro y hy;rcases List.mem_or_eq_of_mem_set hy with hy|rfl
   .exact qop h m y hy
   .have hk:=h x (by grind);unfold qbj;split
    .simp_all
    .exact hk
  .exact qop h m
theorem qkX(h:jN l):jN (qbQ l):=by
 intro x hx;unfold qbQ qg7 at hx;obtain⟨q,hq⟩:=List.getElem?_of_mem hx;obtain⟨p,_,h2,_⟩:=qk6 hq;rw[List.getElem?_map]at h2;obtain⟨y,hy,rfl⟩:=Option.map_eq_some_iff.1 h2;exact qop (qAx h) _ y (zzM hy)
def qq4(h:MayL l):∀{m:Nat},m<=l.length->∀{b:Nat} {i:Ins},(zz l m).1[b]?=some i->∃(j:Nat) (x:Sy) (e:Nat),l[j]?=some x/\(cdL l j x)[e]?=some i/\b+e+1=bl l (l.length-j)
 | 0,_,b,i,hb=>by simp[zz]at hb
 | m+1,hm,b,i,hb=>by
  have hx:l[l.length-(m+1)]?=some l[l.length-(m+1)]:=by simp_all
  have hs:=qje hx;have hcd:cdL l (l.length-(m+1)) l[l.length-(m+1)]=jV (bl l m) (zz l m).2 l[l.length-(m+1)]:=by unfold cdL;rw[show l.length-(l.length-(m+1)+1)=m by omega]
  have h1:(zz l (m+1)).1=(zz l m).1++(cdL l (l.length-(m+1)) l[l.length-(m+1)]).reverse:=by rw[hs,hcd]
  rw[h1,List.getElem?_append]at hb;split at hb
  .exact qq4 h (by omega) hb
  .rename_i hlt;have hbl:(zz l m).1.length=bl l m:=rfl;rw[hbl]at hlt hb;have hc:=(qhu hx).1;rw[show l.length-(l.length-(m+1))=m+1 by omega,show l.length-(l.length-(m+1)+1)=m by omega]at hc
   have hlen:=(zzS.1 hb).1;rw[List.length_reverse]at hlen;rw[List.getElem?_reverse hlen]at hb
   grind
def qv9(h:MayL l){k:Nat}{i:Ins}(hk:(xO l)[k]?=some i):∃(j:Nat) (x:Sy) (e:Nat),l[j]?=some x/\(cdL l j x)[e]?=some i/\(xO l).length-1-k+e+1=bl l (l.length-j):=by
 have hl:=(zzS.1 hk).1;have e:=hk;unfold xO at e;rw[List.getElem?_reverse (by grind)]at e;obtain⟨j,x,e,h1,h2,h3⟩:=qq4 h (zzL _) e;refine⟨j,x,e,h1,h2,?_⟩;rw[qlN];exact h3
structure LkOk (i:Ins) (n:Nat):Prop where
 ok:InsOk i
 one:qd4 i n=0
 c:i.code≠96/\i.code≠97
def qnF(h:MayL l){t:Nat}(ht:t<l.length):0<bl l (l.length-t):=by
 have hx:l[t]?=some l[t]:=by simp_all
 have h1:=(qhu hx).1;have h2:=(qps (n:=bl l (l.length-(t+1))) (pl:=(zz l (l.length-(t+1))).2) (x:=l[t])).2;have:(cdL l t l[t]).length=(jV (bl l (l.length-(t+1))) (zz l (l.length-(t+1))).2 l[t]).length:=rfl;omega
def qrz{c k:Int}{n:Nat}(hc:c=32/\k % 4=0/\k<64\/c=84\/c=6)(hk:0<=k/\k<=4294967295):LkOk ⟨c,0,0,k⟩ n:=by
 have hc2:c=32\/c=84\/c=6:=by rcases hc with h|h|h<;>simp[h]
 have b1:zY c=true:=by rcases hc2 with rfl|rfl|rfl<;>decide
 have b2:qm c≠2/\qm c≠4:=by rcases hc2 with rfl|rfl|rfl<;>decide
 refine⟨⟨by grind,by grind,Int.le_refl 0,by simp_all,Int.le_refl 0,by simp_all,hk.1,hk.2⟩,?_,by grind⟩
 have a1:qih ⟨c,0,0,k⟩=false:=by simp[qih,b1]
 have a2:qhH ⟨c,0,0,k⟩=false:=by
  rcases hc with⟨h1,h2,h3⟩|h|h
  .simp[qhH,h2,show¬64<=k from by omega]
  .simp[qhH,h]
  .simp[qhH,h]
 have a3:qiI ⟨c,0,0,k⟩=false:=by simp[qiI,b2.1,show c≠96 from by omega,show c≠97 from by omega]
 have a4:qiJ ⟨c,0,0,k⟩=false:=by simp[qiJ,show c≠52 from by omega]
 have a5:qiK ⟨c,0,0,k⟩=false:=by simp[qiK,show c≠100 from by omega,show c≠116 from by omega]
 have a6:qiL ⟨c,0,0,k⟩ n=false:=by simp[qiL,b2.2,show c≠5 from by omega]
 simp[qd4,a1,a2,a3,a4,a5,a6]
theorem qwd{k n:Nat}(h:k<n)(hn:k<=1000000):LkOk ⟨5,0,0,(k:Int)⟩ n:=by
 refine⟨⟨by simp_all,by simp_all,Int.le_refl 0,by simp_all,Int.le_refl 0,by simp_all,by simp_all,by grind⟩,?_,by simp_all⟩
 have a1:qih ⟨5,0,0,k⟩=false:=by
  have:zY 5=true:=by decide
  simp[qih,this]
 have a2:qhH ⟨5,0,0,k⟩=false:=by simp[qhH]
 have a3:qiI ⟨5,0,0,k⟩=false:=by
  have:qm 5≠2:=by decide
  simp[qiI,this]
 have a4:qiJ ⟨5,0,0,k⟩=false:=by simp[qiJ]
 have a5:qiK ⟨5,0,0,k⟩=false:=by simp[qiK]
 have a6:qiL ⟨5,0,0,k⟩ n=false:=by simp[qiL];omega
 simp[qd4,a1,a2,a3,a4,a5,a6]
theorem qBk{c k:Int}{jt jf n:Nat}(hc:qd7 c)(hk:0<=k/\k<=4294967295)(h1:jt<=255)(h2:jf<=255)(h3:jt<n)(h4:jf<n):LkOk ⟨c,jt,jf,k⟩ n:=by
 have b1:zY c=true:=by rcases hc with rfl|rfl|rfl|rfl<;>decide
 have b2:qm c≠2:=by rw[(qaf hc).1];decide
 have b3:c≠32/\c≠96/\c≠97/\c≠52/\c≠100/\c≠116/\c≠5/\0<=c/\c<=65535:=by rcases hc with rfl|rfl|rfl|rfl<;>decide
 refine⟨⟨b3.2.2.2.2.2.2.2.1,b3.2.2.2.2.2.2.2.2,by simp_all,by grind,by simp_all,by grind,hk.1,hk.2⟩,?_,by simp_all⟩
 have a1:qih ⟨c,jt,jf,k⟩=false:=by simp[qih,b1]
 have a2:qhH ⟨c,jt,jf,k⟩=false:=by simp[qhH,b3.1]
 have a3:qiI ⟨c,jt,jf,k⟩=false:=by simp[qiI,b2,b3.2.1,b3.2.2.1]
 have a4:qiJ ⟨c,jt,jf,k⟩=false:=by simp[qiJ,b3.2.2.2.1]
 have a5:qiK ⟨c,jt,jf,k⟩=false:=by simp[qiK,b3.2.2.2.2.1,b3.2.2.2.2.2.1]
 have a6:qiL ⟨c,jt,jf,k⟩ n=false:=by
  have:¬(n:Int)<=hiM ⟨c,jt,jf,k⟩:=by unfold hiM;grind
  simp only[qiL,if_neg b3.2.2.2.2.2.2.1,this,decide_false,Bool.and_false]
 simp[qd4,a1,a2,a3,a4,a5,a6]
def qn5(h:MayL l)(hr:jN l){k:Nat}{i:Ins}(hk:(xO l)[k]?=some i):LkOk i ((xO l).length-1-k):=by
 obtain⟨j,x,e,hx,he,hb⟩:=qv9 h hk;have hm:=h.all j x hx;have hxr:=hr x (by grind);have hbl:=(qhu hx).1;have hbig:bl l (l.length-j)<=3*l.length:=Nat.le_trans (qhv (l:=l) (l.length-j)).2.2 (by omega);have hbig2:=h.big
 have one:∀{y:Ins},cdL l j x=[y]->i=y/\(xO l).length-1-k=bl l (l.length-(j+1)):=λ{y} hy=>by
  rw[hy]at he hbl
  grind
 rcases hm with⟨q,_,_,q1,q2,q3⟩|⟨q,_⟩|⟨q,_,_,q3,q4⟩|⟨q,q1,q2,q3,q4⟩
 .obtain⟨e1,_⟩:=one (y:=⟨x.code,0,0,x.k⟩) (by unfold cdL jV;rw[q,if_neg (by decide),if_pos (by decide)])
  rw[e1];simp_all[qrz]
 .obtain⟨e1,_⟩:=one (y:=⟨x.code,0,0,x.k⟩) (by unfold cdL jV;rcases q with q|q<;>rw[q,if_neg (by decide),if_pos (by decide)])
  rw[e1];simp_all[qrz]
 .obtain⟨e1,e2⟩:=one (y:=⟨5,0,0,(dsL l j x.th:Nat)⟩) (by unfold cdL jV;rw[if_pos q,qhO q3 q4]);have hp:=qnF h q4;have hmn:=qiM (l:=l) (m:=l.length-x.th) (m':=l.length-(j+1)) (by omega);rw[e1,e2];unfold dsL
  grind[qwd]
 .have hp:=qnF h q2;have hp2:=qnF h q4;have hmn:=qiM (l:=l) (m:=l.length-x.th) (m':=l.length-(j+1)) (by omega);have hmn2:=qiM (l:=l) (m:=l.length-x.el) (m':=l.length-(j+1)) (by omega);have hkk:=qaf q;have d1:dsL l j x.th<bl l (l.length-(j+1)):=by unfold dsL;omega
  have d2:dsL l j x.el<bl l (l.length-(j+1)):=by unfold dsL;omega
  by_cases hf:max (dsL l j x.th) (dsL l j x.el)<=255
  .obtain⟨e1,e2⟩:=one (y:=⟨x.code,(dsL l j x.th:Nat),(dsL l j x.el:Nat),x.k⟩) (by
    unfold cdL jV;rw[if_neg hkk.2.1,if_neg (λz=>z hkk.1),qhO q1 q2,qhO q3 q4,if_pos hf])
   rw[e1,e2];grind[qBk]
  .have e3:cdL l j x=[⟨x.code,0,1,x.k⟩,⟨5,0,0,(dsL l j x.th+1:Nat)⟩,⟨5,0,0,(dsL l j x.el:Nat)⟩]:=by
    unfold cdL jV;rw[if_neg hkk.2.1,if_neg (λz=>z hkk.1),qhO q1 q2,qhO q3 q4,if_neg hf]
   rw[e3]at he hbl;simp only[List.length_cons,List.length_nil]at hbl
   match e,he,hb with
   | 0,he,hb =>
    grind[qBk]
   | 1,he,hb =>
    simp only[List.getElem?_cons_succ,List.getElem?_cons_zero,Option.some.injEq]at he;subst he;exact qwd (by omega) (by omega)
   | 2,he,hb =>
    grind[qwd]
   | e+3,he,hb=>grind
def qtk(h:MayL l):qgk (xO l)=6:=by
 obtain⟨s,hs,h6⟩:=h.last;have hp:=h.pos;obtain⟨hb,A,B,h1,h2,h3⟩:=qhu hs;have e:cdL l (l.length-1) s=[⟨6,0,0,s.k⟩]:=by unfold cdL jV;rw[h6,if_neg (by decide),if_pos (by decide)]
 have hB:B=[]:=by
  apply List.eq_nil_of_length_eq_zero;rw[h3,show l.length-(l.length-1+1)=0 by omega];rfl
 rw[e,hB,List.append_nil]at h1;unfold qgk;rw[h1];simp
def qwb(h:MayL l):0<(xO l).length:=by
 rw[qlN];have:=qnF h h.pos;omega
def qwa:(xO l).length<=3*l.length:=by rw[qlN];exact(qhv (l:=l) l.length).2.2
def qm3(h:MayL l)(hr:jN l)(hl:(xO l).length<=4096):PrgGood (xO l) :=
 ⟨hl,by have:=qwb h;omega,λi hi=>by obtain⟨k,hk⟩:=List.getElem?_of_mem hi;exact(qn5 h hr hk).ok,λk i hk=>(qn5 h hr hk).one,by rw[qtk h];decide⟩
-- no cell is read
theorem qE5{i:Ins}(hi:i.code≠96/\i.code≠97){x:BitVec 16}{j:Nat}{L:List Nat}:qj9 i x j L=L:=by
 unfold qj9;simp[rdM,hi.1,hi.2]
def qBE{n:Nat}:∀{p:List Ins} {j:Nat} {st:WSt},(∀i ∈ p,i.code≠96/\i.code≠97)->(wkM n j p st).1=st.1
 | [],_,_,_=>rfl
 | i::p,j,st,h=>by
  unfold wkM;rw[qBE (by simp_all)];unfold stM
  grind[qE5]
def qxM{rch:List Bool}{sur:List (BitVec 16)}:∀{p:List Ins} {j:Nat} {L:List Nat},(∀i ∈ p,i.code≠96/\i.code≠97)->qAS rch sur j p L=L
 | [],_,_,_=>rfl
 | i::p,j,L,h=>by
  unfold qAS;have hi:=h i (by simp_all);rw[qxM (by simp_all),if_neg (by simp[unC,rdC,hi.1,hi.2])]
def qoI{n:Nat}:∀{p:List Ins} {j:Nat},(∀(k:Nat) i,p[k]?=some i->qd4 i (n-1-(j+k))=0)->qgw n j p=none
 | [],_,_=>rfl
 | i::p,j,h=>by
  rw[qfE,if_pos (by simpa using h 0 i rfl)];exact qoI λk i hk=>by have:=h (k+1) i (by simpa using hk);rw[show j+1+k=j+(k+1)by omega];omega
def qrq{p:List Ins}(h:PrgGood p):atU p []=(0,0):=by
 unfold atU;rw[if_neg (by have:=h.ne;have:=h.len;omega),qoI (by grind[PrgGood.one])]
 simp[h.last]
def qpq(h:MayL l)(hr:jN l):qd5 (xO l)=[]/\qHS (xO l)=[]:=by
 have hc:∀i ∈ xO l,i.code≠96/\i.code≠97:=λi hi=>by obtain⟨k,hk⟩:=List.getElem?_of_mem hi;exact(qn5 h hr hk).c
 exact⟨qBE hc,qxM hc⟩
end
structure FilU (x:GFil):Prop where
 d:0<=x.dflt/\x.dflt<=4294967295
 r:∀r ∈ x.rules,0<=r.act/\r.act<=4294967295
 t:∀r ∈ x.rules,∀t ∈ r.tests,0<=t.act/\t.act<=4294967295
def jN.app{a b:List Sy}(h1:jN a)(h2:jN b):jN (a++b):=λx hx=>by
 rcases List.mem_append.1 hx with h|h
 .exact h1 x h
 .exact h2 x h
theorem jN.nil:jN []:=λx hx=>by cases hx
theorem jN.cons{s:Sy}{l:List Sy}(h1:0<=s.k/\s.k<=4294967295)(h2:jN l):jN (s::l):=λx hx=>by
 rcases List.mem_cons.1 hx with rfl|h
 .exact h1
 .exact h2 x h
def r0:(0:Int)<=0/\(0:Int)<=4294967295:=by omega
def qpg{a m v:Int}{p F:Nat}(ha:0<=a/\a<=4294967295)(hm:0<=m/\m<=4294967295)(hv:0<=v/\v<=4294967295):jN (qdJ a m v p F):=by
 unfold qdJ
 grind[jN.nil,jN.cons]
def qHc{x:Int}(h0:0<=x)(h1:x<18446744073709551616):(0<=loW x/\loW x<=4294967295)/\0<=hiW x/\hiW x<=4294967295:=by
 unfold loW hiW;omega
def qxA{t:GTest}{p:Nat}(ht:TstOk t)(ha:0<=t.act/\t.act<=4294967295):jN (qif t p):=by
 have h1:=qHc ht.m0 ht.m1;have h2:=qHc ht.v0 ht.v1;have a0:=ht.a0;have a1:=ht.a1;exact((qpg (by omega) h1.1 h2.1).app (qpg (by omega) h1.2 h2.2)).app (.cons ha .nil)
def qns:∀{ts:List GTest} {a:Int} {p:Nat},(∀t ∈ ts,TstOk t/\0<=t.act/\t.act<=4294967295)->(0<=a/\a<=4294967295)->jN (qcn ts a p)
 | [],a,p,_,ha=>.cons ha .nil
 | t::ts,a,p,h,ha=>by
  have ht:=h t (by simp_all);unfold qcn;refine(qxA ht.1 ht.2).app ?_;split
  .exact .nil
  .exact qns (by simp_all) ha
def qnj:∀{rs:List GRule} {p:Nat},(∀r ∈ rs,(0<=r.act/\r.act<=4294967295)/\∀t ∈ r.tests,TstOk t/\0<=t.act/\t.act<=4294967295)->jN (xa rs p)
 | [],_,_=>.nil
 | r::rs,p,h=>by
  have hr:=h r (by simp_all);unfold xa;exact(qns hr.2 hr.1).app (qnj (by grind))
def qAM{a:Int}(h0:0<=a)(h6:a<6):0<=qdj a/\qdj a<=4294967295:=by
 have:a=0\/a=1\/a=2\/a=3\/a=4\/a=5:=by omega
 rcases this with rfl|rfl|rfl|rfl|rfl|rfl<;>decide
def qz8{a:Int}{p F:Nat}(h0:0<=a)(h6:a<6):jN (qbe a p F):=by
 unfold qbe;have hb:(0:Int)<=1073741824/\(1073741824:Int)<=4294967295:=by omega
 refine jN.app (.cons (by simp_all) (.cons (qAM h0 h6) (.cons r0 .nil))) ?_
 grind[jN.cons,jN.nil]
def qqh{FW:Nat->Nat}{T:List Nd}{p:Nat}(h:∀n ∈ T,0<=n.at'/\n.at'<=4294967295):jN (xv FW T p):=by
 unfold xv;refine jN.app ?_ ?_
 .cases T with
  | nil=>exact .nil
  | cons n T =>
   show jN (if n.leaf=true then [⟨5,0,FW n.way,0⟩]else [])
   split
   all_goals simp_all[jN.cons,jN.nil]
 .unfold brE;intro x hx;obtain⟨n,hn,hx⟩:=List.mem_flatMap.1 hx;unfold qjZ at hx
  simp_all
def qAN(n:Nat):∀(l:List Sp) (a:Nat),l.length<=n->SpR l->∀nd ∈ zO l a,0<=nd.at'/\nd.at'<4294967296:=by
 induction n with
 | zero =>
  grind[zO.eq_1]
 | succ n ih =>
  intro l a h1 hr nd hnd;rw[zO]at hnd
  by_cases hk:l.length / 2=0
  .rw[dif_pos hk,List.mem_singleton]at hnd
   simp_all
  .rw[dif_neg hk]at hnd;rcases List.mem_cons.1 hnd with rfl|hnd
   .have hlt:l.length / 2<l.length:=by omega
    have:=hr _ (List.getElem_mem hlt)
    simp_all
   .rcases List.mem_append.1 hnd with hnd|hnd
    .exact ih (l.take (l.length / 2)) _ (by grind) (λs hs=>hr s (by grind)) nd hnd
    .exact ih (l.drop (l.length / 2)) _ (by grind) (λs hs=>hr s (by grind)) nd hnd
section
variable {x:GFil}
def qiR(h:FilG x)(hu:FilU x):jN (zm x):=by
 unfold zm;refine(((jN.app (qz8 h.a0 h.a6) (qqh λn hn=>?_)).app (.cons hu.d .nil)).app (qnj λr hr=>⟨hu.r r hr,λt ht=>⟨(h.ts r hr t ht).ok,hu.t r hr t ht⟩⟩)).app (.cons (by simp_all) .nil)
 have:=qAN _ _ 0 (zzL _) (qjL h.spans.1 (Int.le_refl 0) (Int.le_refl _)) n hn;omega
def szF(x:GFil):Nat:=10+(x.rules.map λr=>3+7*r.tests.length).sum
def qtT{rs:List GRule}:zw rs+2*rs.length<=(rs.map λr=>3+7*r.tests.length).sum:=by
 induction rs with
 | nil=>simp[zw]
 | cons r rs ih =>
  have:=qj8 (ts:=r.tests);simp[zw,qoi]at ih ⊢;omega
def qrh(h:FilG x):(zm x).length<=szF x:=by
 have h1:=h.dfl.1;have h2:=qtT (rs:=x.rules);rw[qmP];unfold x8 szF;omega
end
end Go.Kc
end
