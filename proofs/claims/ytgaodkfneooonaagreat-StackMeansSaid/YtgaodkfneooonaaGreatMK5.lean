/- Part 5 of the proof. No condition. -/
import Derived.Test.YtgaodkfneooonaaGreatMK4
set_option maxHeartbeats 4000000
set_option maxRecDepth 1000000
set_option linter.defProp false
set_option linter.unusedSectionVars false
set_option linter.unusedSimpArgs false
set_option linter.unusedVariables false
set_option linter.unnecessarySimpa false
namespace Go.Kc
section
variable {P:Program}{f:Nat}
def loW(x:Int):Int:=x % 4294967296
def hiW(x:Int):Int:=x / 4294967296
def qgT(d:GData):List Int:=[d.ip,d.a0,d.a1,d.a2,d.a3,d.a4,d.a5]
def jz(d:GData):List Int:=d.nr::d.arch::(qgT d).flatMap λx=>[loW x,hiW x]
structure DatOk (d:GData):Prop where
 nr0:0<=d.nr
 nr1:d.nr<=4294967295
 ar0:0<=d.arch
 ar1:d.arch<=4294967295
 wid:∀x ∈ qgT d,0<=x/\x<18446744073709551616
def qhg:IFn:=irJ 264 []
def qDQ(hc:Ck P f qhg)(x:Int)(h0:0<=x)(h1:x<18446744073709551616):qc P f [.x x] (.tup [.w (loW x),.w (hiW x)]):=by
 refine Al ?_;have e1:IntKind.wrap .u32 x=loW x:=rfl
 have e2:IntKind.wrap .u32 (qsF .u64 x 32)=hiW x:=by
  have:qsF .u64 x 32=x / 4294967296:=by
   show x.fdiv (2 ^ 32)=_;rw[Int.fdiv_eq_ediv_of_nonneg _ Af];rfl
  rw[this];show(x / 4294967296) % 4294967296=x / 4294967296;exact Ab
 simp only[qhg,vI,simprocAttr];refine Sa (zzA e1 e2) ?_;simp[vZ]
def qvW{q:IntKind}{l:List Int}:vm (rI q l)=true:=by
 unfold rI;induction l with
 | nil=>rfl
 | cons a l ih=>exact ih
def qj9:IFn:=irJ 309 []
def qK0(hc:Ck P f qj9)(x:Int)(l:List Int)(hl:l.length=6):qjE P f [.x x,.fz l.length (rI .u64 l)] (.own 0 (1+l.length)) [.cells 1 true true (rI .u64 (x::l))]:=by
 refine qjE.mk hc rfl (by simp[qqM,qvW]) ?_;have hr1:1+l.length<=qe:=by rw[hl];exact Af
 have hr2:(1+l.length)*8<=qe:=by rw[hl];exact Af
 have hll:(rI .u64 l).length=l.length:=xv;simp only[qj9,vI,simprocAttr];have hne:¬1+l.length<=1:=Ab
 have htk:List.take l.length (rI .u64 l)=rI .u64 l:=Ag
 simp +decide only[↓vS,vT,simprocAttr,hne,hr1,hr2,hll,htk,zzU];intro _;refine⟨[1],?_⟩;simp[vw,qtP,qa,qd]
def qf2(d:GData)(j:Nat):List Int:=(jz d).take (2+2*j)++List.replicate (14-2*j) 0
def qu2(d:GData){j:Nat}(h:j<=7):(qf2 d j).length=16:=by
 have:(jz d).length=16:=rfl;unfold qf2;rw[zzP,zzm,List.length_replicate,this];exact Ab
def qsi(d:GData){j:Nat}{x:Int}(h:(qgT d)[j]?=some x):((qf2 d j).set (2+2*j) (loW x)).set (3+2*j) (hiW x)=qf2 d (j+1):=by
 have hj:j<7:=(zzS.1 h).1;have:j=0\/j=1\/j=2\/j=3\/j=4\/j=5\/j=6:=Ab
 rcases this with rfl|rfl|rfl|rfl|rfl|rfl|rfl<;>(cases h;rfl)
def qAV(P:Program)(g:Nat):Prop:=∀x:Int,0<=x->x<18446744073709551616->qc P g [.x x] (.tup [.w (loW x),.w (hiW x)])
def qLC(P:Program)(g:Nat):Prop:=∀(x:Int) (l:List Int),l.length=6->qjE P g [.x x,.fz l.length (rI .u64 l)] (.own 0 (1+l.length)) [.cells 1 true true (rI .u64 (x::l))]
def qiV(a b:Nat):IFn:=irJ 280 [309,a,264,b]
def qH9{g1 g2:Nat}(hc:Ck P f (qiV g1 g2))(h1:qLC P g1)(h2:qAV P g2)(d:GData)(hd:DatOk d):qc P f [.agg (qq d)] (.agg (rI .u32 (jz d))):=by
 refine Al ?_;simp only[qiV,qq,vI,simprocAttr];refine Aa ?_;refine qX ?_;refine Aa ?_;refine(h1 d.ip [d.a0,d.a1,d.a2,d.a3,d.a4,d.a5] rfl).pc (vs:=[.x d.ip,.sl 0 3 6 6 false]) ?_ ?_
 .refine .cons _ _ _ _ (.i _ _) (.cons _ _ _ _ (Frz.cut 1 rfl (zzL _) ?_) .nil);simp[vP,zz4,vZ,rI]
 simp only[vJ,simprocAttr,xw qd];refine Aa ?_
 refine SL.loop (α:=Nat) (λj=>[(2,.ptr 0 0),(3,.ptr 1 0),(15,.own 2 7),(16,.j 7),(17,.j (j:Int))]) (λj=>[.v [.w 0,.w 0,.w 0,.w 0,.w 0,.w 0,.w 0,.w 0,.w 0,.w 0,.w 0,.w 0,.w 0,.w 0,.w 0,.w 0],.v (rI .u32 (qf2 d j)),.cells 1 true true (rI .u64 (qgT d))])
  (λj=>j<=7) (λj=>7-j) 0 [1,2,3] ?_ ?_ ?_ rfl ?_ ?_
 .simp[vw]
 .simp[vw,qf2,jz,qgT,rI]
 .simp
 .exact Ab
 rintro j hj G ih;refine Ak ?_
 by_cases hlt:j<7
 .have hlt':(j:Int)<7:=Ab
  obtain⟨x,hx⟩:∃x,(qgT d)[j]?=some x:=⟨_,zzE (show j<(qgT d).length from hlt)⟩
  have hxr:=hd.wid x Ag;have hl:=qu2 d hj;have hnx:=qsi d hx;have w1:IntKind.wrap .i64 (2*(j:Int))=((2*j:Nat):Int):=by rw[qC Ab Ab];exact Ab
  have w2:IntKind.wrap .i64 (2+((2*j:Nat):Int))=((2+2*j:Nat):Int):=by rw[qC Ab Ab];exact Ab
  have w3:IntKind.wrap .i64 (3+((2*j:Nat):Int))=((3+2*j:Nat):Int):=by rw[qC Ab Ab];exact Ab
  have w4:=wS j;simp +decide only[↓vS,vT,simprocAttr,hlt',hlt,zzU,xl,hx,zza,w1,w2,w3];refine(h2 x hxr.1 hxr.2).sc ?_;have hA:2+2*j<(qf2 d j).length:=Ab
  have hB:3+2*j<((qf2 d j).set (2+2*j) (loW x)).length:=Ag
  have s1:=qns (k:=.u32) hA (loW x);have s2:=qns (k:=.u32) hB (hiW x);rw[hnx]at s2;have k1:2+2*j<16:=Ab
  have k2:3+2*j<16:=Ab
  have k3:2+2*j+1<=(rI .u32 (qf2 d j)).length:=by rw[xv];exact Ab
  have k4:3+2*j+1<=(rI .u32 ((qf2 d j).set (2+2*j) (loW x))).length:=by rw[xv];exact Ab
  simp +decide only[↓vS,vT,simprocAttr,k1,k2,k3,k4,s1,s2,zzU,w4];refine ih (j+1) hlt Ab _ _ (Wk.mk _ _ [0,1,2] ?_ ?_ ?_ rfl)
  .simp[vw]
  .simp[vw,qa,qd]
  .simp
 .obtain rfl:j=7:=Ab
  have h16:16<=(rI .u32 (qf2 d 7)).length:=zzL 16;have ht:List.take 16 (List.drop 0 (rI .u32 (qf2 d 7)))=rI .u32 (jz d):=rfl;have hlen:(rI .u32 (jz d)).length=16:=rfl;have hfd:qf2 d 7=jz d:=rfl;have ht2:List.take 16 (rI .u32 (jz d))=rI .u32 (jz d):=rfl;rw[hfd];refine Sa (zzA h16 (zzA ht2 (zzA hlen @qEc))) ?_;simp[vZ,vP,zz4,qP qd]
def qkN(d:GData)(k:Int):AV:=if k % 4≠0\/64<=k then .tup [.w 0,.j 41]else .tup [.w ((jz d).getD (k / 4).toNat 0),.j 0]
def qj8(a:Nat):IFn:=irJ 230 [280,a]
def qJG{g:Nat}(hc:Ck P f (qj8 g))(hg:∀d,DatOk d->qc P g [.agg (qq d)] (.agg (rI .u32 (jz d))))(d:GData)(hd:DatOk d)(k:Int)(h0:0<=k)(h1:k<=4294967295):qc P f [.agg (qq d),.w k] (qkN d k):=by
 refine Al ?_;have h40:(4:Int)≠0:=Af
 have ht:k.tmod 4=k % 4:=Ag
 have hq:k.tdiv 4=k / 4:=Ag
 have hg:=hg d hd;unfold qkN;simp only[qj8,qq,vI,simprocAttr]at hg ⊢
 by_cases hm:k % 4=0
 .by_cases hb:64<=k
  .rw[if_pos (.inr hb)];refine Eh ?_;simp[vZ]
  .rw[if_neg Ab];have hn:(k / 4).toNat<16:=Ab
   obtain⟨x,hx⟩:∃x,(jz d)[(k / 4).toNat]?=some x:=⟨_,zzE hn⟩;rw[zzs,hx];have hk:k / 4=(((k / 4).toNat:Nat):Int):=Ab
   have hw:IntKind.wrap .u32 (k / 4)=(((k / 4).toNat:Nat):Int):=by
    show(k / 4) % 4294967296=_;exact Ab
   refine Eh ?_;refine hg.sc ?_;generalize jz d=W at hx;simp +decide only[↓vS,vT,simprocAttr,↓zk h40,hq,hw,hn,zzU,xl,hx,zza];simp[vZ]
 .exact Fu
def jI:Nat->Int->List Int
 | 0,_=>[]
 | n+1,x=>x % 256::jI n (x / 256)
theorem jg:∀(n:Nat) (x:Int),(jI n x).length=n
 | 0,_=>rfl
 | n+1,x=>by show(jI n (x / 256)).length+1=n+1;rw[jg]
def qtL:∀(n:Nat) (x:Int),qbo (jI n x)
 | 0,_=>λ_ h=>by cases h
 | n+1,x=>λy hy=>by
  rcases zzc.1 hy with rfl|hy
  .exact Ab
  .exact qtL n _ y hy
def qyr{w:Int}(h0:0<=w)(h1:w<=4294967295):leM (jI 4 w)=w:=by
 simp only[jI,leM];exact Ab
def qHc{x:Int}(h0:0<=x)(h1:x<18446744073709551616):jI 8 x=jI 4 (loW x)++jI 4 (hiW x):=by
 simp only[jI,loW,hiW,zzC,zzN,List.cons.injEq,and_true];refine Ag<;>omega
def qgt(d:GData):List Int:=(jz d).flatMap (jI 4)
def qux{d:GData}(hd:DatOk d):qgt d=jI 4 d.nr++jI 4 d.arch++(qgT d).flatMap (jI 8):=by
 have h:∀l:List Int,(∀x ∈ l,0<=x/\x<18446744073709551616)->(l.flatMap λx=>[loW x,hiW x]).flatMap (jI 4)=l.flatMap (jI 8):=by
  intro l
  induction l with
  | nil=>exact Ae
  | cons x l ih =>
   simp_all[qHc]
 unfold qgt jz;simp only[zzv];rw[h _ hd.wid,zzi]
def qqN{l:List Int}{j:Nat}{x:Int}(h:l[j]?=some x):qcx (l.flatMap (jI 4)) (4*j) 4=jI 4 x:=by
 unfold qcx
 induction l generalizing j with
 | nil=>cases h
 | cons a l ih =>
  cases j with
  | zero =>
   grind[jg]
  | succ j =>
   rw[zzv,List.drop_append,jg,zzk (by rw[jg];exact Ab),zzN,show 4*(j+1)-4=4*j from Ab]
   exact Ae
def qmF(d:GData):(qgt d).length=64:=rfl
def qoM:∀(n:Nat) (x:Int),jI (n+1) x=jI n x++[x / 256 ^ n % 256]
 | 0,x=>by simp[jI]
 | n+1,x=>by
  show x % 256::jI (n+1) (x / 256)=x % 256::(jI n (x / 256)++_);rw[qoM n,Int.ediv_ediv_of_nonneg Af,show(256:Int)*256 ^ n=256 ^ (n+1)from by rw[Int.pow_succ];exact Ab]
def qiI(n j:Nat)(x:Int):List Int:=jI j x++List.replicate (n-j) 0
def qqI{n j:Nat}{x:Int}(h:j<=n):(qiI n j x).length=n:=by unfold qiI;rw[zzP,jg,List.length_replicate];exact Ab
def qu0{n j:Nat}{x:Int}(h:j<n):(qiI n j x).set j (x / 256 ^ j % 256)=qiI n (j+1) x:=by
 unfold qiI;rw[List.set_append_right _ _ (by rw[jg];exact Ab),jg,Nat.sub_self,qoM,show n-j=(n-(j+1))+1 from Ab,List.replicate_succ,zzi]
 rfl
def qHl(n:Nat):(List.replicate n [AV.y 0]).flatten=rB (qiI n 0 0):=by
 unfold qiI;simp only[jI,zzN,Nat.sub_zero]
 exact Az
def qcB:IFn:=irJ 308 []
def qMf(hc:Ck P f qcB)(x:Int)(h0:0<=x)(h1:x<18446744073709551616)(n:Nat)(hn:n<=8):Own P f [.x x,.j n] (.sl 0 0 n n false) [.v (rB (jI n x))]:=by
 refine Own.mk hc rfl ?_;have hr1:n<=qe:=by simp only[qe];exact Ab
 have hr3:1*n<=qe:=Ab
 simp only[qcB,vI,simprocAttr];refine Sa (zzA hr1 (zzA hr3 @qHl)) ?_;have h256:(256:Int)≠0:=Af
 refine SL.loop (α:=Nat) (λj=>[(0,.x (x / 256 ^ j)),(1,.j (n:Int)),(5,.sl 0 0 n n false),(6,.j (j:Int))]) (λj=>[.v (rB (qiI n j x))]) (λj=>j<=n) (λj=>n-j) 0 [0] ?_ ?_ ?_ rfl ?_ ?_
 .simp[vw]
 .simp[vw,qa,wG,qiI,jI]
 .simp
 .exact Ab
 rintro j hj G ih;refine Ak ?_
 by_cases hlt:j<n
 .have y0:0<=x / 256 ^ j:=Int.ediv_nonneg h0 Ag;have y1:x / 256 ^ j<18446744073709551616:=Int.lt_of_le_of_lt (Int.ediv_le_self _ h0) h1;have hyn:x / 256 ^ j / 256=x / 256 ^ (j+1):=by rw[Int.ediv_ediv_of_nonneg Ag,Int.pow_succ]
  have hst:=qns (k:=.u8) (L:=qiI n j x) (j:=j) (by rw[qqI hj];exact Ab) (x / 256 ^ j % 256);rw[qu0 hlt]at hst;have hle:j+1<=(rB (qiI n j x)).length:=by rw[qnq,qqI hj];exact Ab
  have ih2:=ih (j+1) hlt Ab;rw[<- hyn]at ih2;generalize x / 256 ^ j=y at y0 y1 hst ih2;have hst:(rB (qiI n j x)).take j++(AV.y (y % 256)::(rB (qiI n j x)).drop (j+1))=rB (qiI n (j+1) x):=hst;have hm:y.tmod 256=y % 256:=Ag
  have hd:y.tdiv 256=y / 256:=Ag
  have hw8:IntKind.wrap .u8 (y % 256)=y % 256:=by show(y % 256) % 256=_;exact Ab
  have hwd:IntKind.wrap .u64 (y / 256)=y / 256:=by show(y / 256) % 18446744073709551616=_;exact Ab
  have w1:=wS j;simp +decide only[↓vS,vT,simprocAttr,hlt,↓zW h256,↓zk h256,hm,hd,hw8,hwd,zzU,hle,hst,w1];refine ih2 _ _ (Wk.mk _ _ [0] ?_ ?_ ?_ rfl)
  .simp[vw]
  .simp[vw,qa,wG]
  .simp
 .obtain rfl:j=n:=Ab
  refine Sa hlt ?_;have hf:qiI j j x=jI j x:=by unfold qiI;rw[Nat.sub_self];exact Ae
  rw[hf];intro _;refine⟨[0],?_⟩;simp[vw,qa,wG]
def qE5(P:Program)(g:Nat):Prop:=∀x:Int,0<=x->x<18446744073709551616->∀n:Nat,n<=8->Own P g [.x x,.j n] (.sl 0 0 n n false) [.v (rB (jI n x))]
def qbQ(a:Nat):IFn:=irJ 278 [308,a]
def qLq{g:Nat}(hc:Ck P f (qbQ g))(hg:qE5 P g)(d:GData)(hd:DatOk d):qc P f [.agg (qq d)] (.fz 64 (rB (qgt d))):=by
 refine Al ?_;have q1:=hd.nr0;have q2:=hd.nr1;have q3:=hd.ar0;have q4:=hd.ar1;have w1:IntKind.wrap .u64 d.nr=d.nr:=by show d.nr % 18446744073709551616=_;exact Ab
 have w2:IntKind.wrap .u64 d.arch=d.arch:=by show d.arch % 18446744073709551616=_;exact Ab
 have hip:=hd.wid d.ip (by simp[qgT]);have tk:∀n x,List.take n (rB (jI n x))=rB (jI n x):=λn x=>zzt (by rw[qnq,jg];exact Ab)
 simp only[qbQ,qq,vI,simprocAttr];refine Sa w1 ?_;refine(hg d.nr q1 Ab 4 Ab).sc ?_;simp only[vJ,simprocAttr,xw (wG _)];refine Sa w2 ?_;refine(hg d.arch q3 Ab 4 Ab).sc ?_;simp only[vJ,simprocAttr,xw (wG _)];refine Sa (zzA @qnq (zzA @jg tk)) ?_;have rBo:∀a:List Int,qQ (rB a)=true:=λa=>qEc
 have rBa:∀a b:List Int,rB a++rB b=rB (a++b):=λa b=>qlh
 refine(hg d.ip hip.1 hip.2 8 Ab).sc ?_;simp only[vJ,simprocAttr,xw (wG _),rBa];have hl8:(jI 4 d.nr++jI 4 d.arch).length=8:=by rw[zzP,jg,jg]
 simp +decide only[↓vS,vT,simprocAttr,qnq,jg,hl8,rBa,tk,rBo,zzU]
 refine SL.loop (α:=Nat) (λj=>[(1,.ptr 0 0),(3,.own 1 (16+8*j)),(4,.j (j:Int))]) (λj=>[.v (qq d),.cells 1 true true (rB (jI 4 d.nr++jI 4 d.arch++jI 8 d.ip++((qgT d).drop 1 |>.take j).flatMap (jI 8)))])
  (λj=>j<=6) (λj=>6-j) 0 [0,5] ?_ ?_ ?_ rfl ?_ ?_
 .simp[vw]
 .simp[vw,qq,qa,wG]
 .simp
 .exact Ab
 rintro j hj G ih;refine Ak ?_
 by_cases hlt:j<6
 .have hlt':(j:Int)<6:=Ab
  obtain⟨x,hx,hc3⟩:∃x,((qgT d).drop 1)[j]?=some x/\(qq d)[3+j]?=some (.x x):=by
   have:j=0\/j=1\/j=2\/j=3\/j=4\/j=5:=Ab
   rcases this with rfl|rfl|rfl|rfl|rfl|rfl<;>exact⟨_,rfl,rfl⟩
  have hxr:=hd.wid x Ag;have htk:((qgT d).drop 1).take (j+1)=((qgT d).drop 1).take j++[x]:=by rw[zz2,hx];rfl
  have w4:=wS j;have ih2:=ih (j+1) hlt Ab;rw[htk,List.flatMap_append,<- zzi]at ih2
  have hfl:∀l:List Int,(l.flatMap (jI 8)).length=8*l.length:=by
   intro l
   induction l<;>grind[jg]
  have hll:(((qgT d).drop 1).take j).length=j:=by rw[zzm];exact Ag
  obtain⟨A,hA⟩:∃A,A=jI 4 d.nr++jI 4 d.arch++jI 8 d.ip++(((qgT d).drop 1).take j).flatMap (jI 8):=⟨_,rfl⟩;have hAl:A.length=16+8*j:=by rw[hA,zzP,zzP,zzP,jg,jg,jg,hfl,hll]
  rw[<- hA]at ih2 ⊢;have hone:List.flatMap (jI 8) [x]=jI 8 x:=by simp
  rw[hone]at ih2;have hr1:16+8*j+8<=qe:=by simp only[qe];exact Ab
  have hr2:(16+8*j+8)*1<=qe:=Ab
  have hcc:qt (qq d)=true:=rfl;generalize hC:qq d=C at hc3 hcc ih2 ⊢;simp +decide only[↓vS,vT,simprocAttr,hlt',hlt,zzU,hc3];refine(hg x hxr.1 hxr.2 8 Ab).sc ?_;simp only[vJ,simprocAttr,xw (wG _)];simp +decide only[↓vS,vT,simprocAttr,qnq,jg,hAl,rBa,tk,rBo,zzU,hr1,hr2,w4];refine ih2 _ _ (Wk.mk _ _ [0,3] ?_ ?_ ?_ rfl)
  .simp[vw];exact Ab
  .simp[vw,qa,wG,hcc]
  .simp
 .obtain rfl:j=6:=Ab
  have hb:qgt d=jI 4 d.nr++jI 4 d.arch++jI 8 d.ip++((qgT d).drop 1 |>.take 6).flatMap (jI 8):=by
   rw[qux hd];simp[qgT]
  rw[hb];refine Aa ?_;simp[vZ,vP,zz4,qP (wG _)]
def qcg(a b:Nat):IFn:=irJ 225 [278,a,277,b]
def qMt{g1 g2:Nat}(hc:Ck P f (qcg g1 g2))(h1:∀d,DatOk d->qc P g1 [.agg (qq d)] (.fz 64 (rB (qgt d))))(h2:qJt P g2)(d:GData)(hd:DatOk d)(k:Int)(h0:0<=k)(hk1:k<=4294967295):qc P f [.agg (qq d),.w k] (qkN d k):=by
 refine Al ?_;have h40:(4:Int)≠0:=Af
 have ht:k.tmod 4=k % 4:=Ag
 have hg:=h1 d hd;unfold qkN;simp only[qcg,qq,vI,simprocAttr]at hg ⊢
 by_cases hm:k % 4=0
 .by_cases hb:60<k
  .rw[if_pos (.inr Ab)];refine Eh ?_;simp[vZ]
  .rw[if_neg Ab];obtain⟨j,hj⟩:∃j:Nat,k=((4*j:Nat):Int):=⟨(k / 4).toNat,Ab⟩
   have hn:j<16:=Ab
   obtain⟨x,hx⟩:∃x,(jz d)[j]?=some x:=⟨_,zzE hn⟩;have hjk:(k / 4).toNat=j:=Ab
   rw[hjk,zzs,hx]
   have hxr:0<=x/\x<=4294967295:=by
    have hm:=zzM hx;unfold jz at hm;rcases zzc.1 hm with rfl|hm
    .exact⟨hd.nr0,hd.nr1⟩
    rcases zzc.1 hm with rfl|hm
    .exact⟨hd.ar0,hd.ar1⟩
    obtain⟨y,hy,hm⟩:=List.mem_flatMap.1 hm;have:=hd.wid y hy;simp only[zzc,List.not_mem_nil,or_false]at hm;rcases hm with rfl|rfl
    .unfold loW;exact Ab
    .unfold hiW;exact Ab
   have hbo:qbo (qgt d):=λy hy=>by
    obtain⟨z,_,hz⟩:=List.mem_flatMap.1 hy;exact qtL 4 z y hz
   have hget:=h2 (qgt d) hbo (by rw[qmF];exact Af) (4*j) Ab 4 Af;unfold qBC at hget;rw[qmF,if_pos Ab,show qcx (qgt d) (4*j) 4=jI 4 x from qqN hx,qyr hxr.1 hxr.2]at hget
   have hw:IntKind.wrap .i64 k=((4*j:Nat):Int):=by rw[qC Ab Ab];exact hj
   have hwx:IntKind.wrap .u32 x=x:=by show x % 4294967296=_;exact Ab
   refine Eh ?_;refine hg.sc ?_;refine Sa hw ?_;refine hget.sc ?_;refine Sa hwx ?_;simp[vZ]
 .exact Fu
def qES(c:Int):Bool:=!decide (xA .u16 c 8=0)
def zO(c:Int):Bool:=(decide (ql c=3)||decide (ql c=4))&&qES c
def qyn(s:List UInt8):Bool:=decide (((s.getD (s.length-1) 0).toNat:Int)=120)
def qEg:∀x ∈ vf,x.2.1≠[]/\(x.2.2=3\/x.2.2=4->qyn x.2.1=qES x.1):=Af
def qiX(a:Nat):IFn:=irJ 281 [170,a]
def qHW{g:Nat}(hc:Ck P f (qiX g))(hg:∀n,qc P g [.h n] (.tup [.agg (xj (qM n)),.b (zI n)]))(c:Int):qc P f [.h c] (.b (zO c)):=by
 refine Al ?_
 have hcl:(xj (qM c)).length=3/\(xj (qM c))[2]?=some (.y (ql c))/\qQ (xj (qM c))=true:=by
  unfold ql;cases qM c<;>exact⟨rfl,rfl,rfl⟩
 have hk:zI c=false->ql c=0:=by unfold zI ql;cases qM c<;>simp
 have hgc:=hg c;generalize xj (qM c)=E at hcl hgc;obtain⟨he1,he2,he3⟩:=hcl;unfold zO qES;simp only[qiX,vI,simprocAttr];refine Aa ?_;refine hgc.sc ?_;cases hkn:zI c with
 | false =>
  have h0:=hk hkn;refine Sa (zzA he1 he3) ?_;simp[vZ,h0]
 | true =>
  by_cases h3:ql c=3
  .refine Sa (zzA he1 (zzA he2 (zzA he3 h3))) ?_;simp[vZ,h3]
  by_cases h4:ql c=4
  .refine Sa (zzA he1 (zzA he2 (zzA he3 (zzA h3 h4)))) ?_;simp[vZ,h4]
  .refine Sa (zzA he1 (zzA he2 (zzA he3 (zzA h3 h4)))) ?_;simp[vZ,h3,h4]
def qbP(a:Nat):IFn:=irJ 226 [82,a]
def qLs{g:Nat}(hc:Ck P f (qbP g))(hg:qlu P g)(c:Int):qc P f [.h c] (.b (zO c)):=by
 refine Al ?_;have hgc:=hg c;unfold zO;simp only[qbP,vI,simprocAttr];refine Aa ?_;refine hgc.sc ?_;cases hcm:qM c with
 | none =>
  have h0:ql c=0:=F5
  rw[h0];exact Df
 | some x =>
  obtain⟨hxm,hxc⟩:=wY hcm;have hcl:ql c=x.2.2:=F5
  obtain⟨hne,hlx⟩:=qEg x hxm;rw[hcl,<- hxc];have hpos:0<x.2.1.length:=List.length_pos_iff.2 hne
  have hlen:x.2.1.length<=1000:=by
   have:∀y ∈ vf,y.2.1.length<=1000:=Af
   exact this x hxm
  have hw:IntKind.wrap .i64 ((x.2.1.length:Int)-1)=((x.2.1.length-1:Nat):Int):=by rw[qC Ab Ab];exact Ab
  obtain⟨b,hb⟩:∃b,x.2.1[x.2.1.length-1]?=some b:=⟨_,zzE Ab⟩;have hlast:qyn x.2.1=decide ((b.toNat:Int)=120):=by unfold qyn;rw[zzs,hb];rfl
  rw[hlast]at hlx;have hidx:x.2.1.length-1<x.2.1.length:=Ab
  obtain⟨xc,xs,xk⟩:=x;simp only at hlx hw hb hidx hpos ⊢
  by_cases h3:xk=3
  .rw[<- hlx (.inl h3)];simp +decide only[↓vS,vT,simprocAttr,xj,wR,h3,hw,hidx,hb];simp[vZ,h3]
  by_cases h4:xk=4
  .rw[<- hlx (.inr h4)];simp +decide only[↓vS,vT,simprocAttr,xj,wR,h3,h4,hw,hidx,hb];simp[vZ,h3,h4]
  .simp +decide only[↓vS,vT,simprocAttr,xj,wR,h3,h4];simp[vZ,h3,h4]
def qaV(left:Bool):Nat->Int->Int
 | 0,a=>a
 | n+1,a=>qaV left n (if left=true then a*2 % 4294967296 else a / 2)
def qaR:IFn:=irJ 227 []
def qIC(hc:Ck P f qaR)(a:Int)(h0:0<=a)(h1:a<=4294967295)(left:Bool)(n:Nat)(hn:n<=31):qc P f [.w a,.b left,.w n] (.w (qaV left n a)):=by
 refine Al ?_;have h2:(2:Int)≠0:=Af
 simp only[qaR,vI,simprocAttr];refine Aa ?_;refine SL.loop (α:=Nat×Int) (λs=>[(0,.w s.2),(1,.b left),(2,.w (s.1:Int))]) (λ_=>[]) (λs=>s.1<=31/\0<=s.2/\s.2<=4294967295/\qaV left s.1 s.2=qaV left n a) (λs=>s.1) (n,a) [] ?_ ?_ ?_ rfl ?_ ?_
 .simp[vw]
 .trivial
 .simp
 .exact⟨hn,h0,h1,rfl⟩
 rintro⟨k,b⟩ ⟨hk,b0,b1,hI⟩ G ih;simp only at hk b0 b1 hI;refine Ak ?_
 by_cases hz:k=0
 .subst hz;have hI:b=qaV left n a:=hI;refine Aa ?_;simp[vZ,hI]
 .obtain⟨k,rfl⟩:∃k',k=k'+1:=⟨k-1,Ab⟩
  have hpos:(0:Int)<((k+1:Nat):Int):=Ab
  have hw:IntKind.wrap .u32 (((k+1:Nat):Int)-1)=(k:Int):=by show(((k+1:Nat):Int)-1) % 4294967296=_;exact Ab
  have hmul:IntKind.wrap .u32 (b*2)=b*2 % 4294967296:=rfl;have hd:b.tdiv 2=b / 2:=Int.tdiv_eq_ediv_of_nonneg b0;have hwd:IntKind.wrap .u32 (b / 2)=b / 2:=by show(b / 2) % 4294967296=_;exact Ab
  have hI2:qaV left k (if left=true then b*2 % 4294967296 else b / 2)=qaV left n a:=hI
  cases left with
  | true =>
   rw[if_pos rfl]at hI2;refine Sa (zzA hpos (zzA hmul hw)) ?_;refine ih (k,b*2 % 4294967296) ⟨by simp only;exact Ab,by simp only;exact Ab,by simp only;exact Ab,hI2⟩ (by simp only;exact Ab) _ _ (Wk.mk _ _ [] ?_ ?_ ?_ rfl)
   .simp[vw]
   .trivial
   .simp
  | false =>
   rw[if_neg (by simp)]at hI2;simp +decide only[↓vS,vT,simprocAttr,hpos,↓zk h2,hd,hwd,hw];refine ih (k,b / 2) ⟨by simp only;exact Ab,by simp only;exact Ab,by simp only;exact Ab,hI2⟩ (by simp only;exact Ab) _ _ (Wk.mk _ _ [] ?_ ?_ ?_ rfl)
   .simp[vw]
   .trivial
   .simp
def qm7:∀(n:Nat) (a:Int),0<=a->a<=4294967295->qaV true n a=a*2 ^ n % 4294967296
 | 0,a,h0,h1=>by show a=a*1 % 4294967296;exact Ab
 | n+1,a,h0,h1=>by
  show qaV true n (a*2 % 4294967296)=_;rw[qm7 n _ Ab Ab,Int.pow_succ,Int.mul_emod,Int.emod_emod,<- Int.mul_emod,Int.mul_assoc,Int.mul_comm 2]
def qlH:∀(n:Nat) (a:Int),0<=a->qaV false n a=a / 2 ^ n
 | 0,a,_=>by show a=a / 1;exact Ab
 | n+1,a,h0=>by
  show qaV false n (a / 2)=_;rw[qlH n _ Ab,Int.ediv_ediv_of_nonneg Af,Int.pow_succ,Int.mul_comm]
structure Mac where
 a:Int
 x:Int
 told:Int
 cl:List Int
 over:Bool
def u32(x:Int):Prop:=0<=x/\x<=4294967295
structure MacOk (m:Mac):Prop where
 a:u32 m.a
 x:u32 m.x
 told:u32 m.told
 len:m.cl.length=16
 cl:∀c ∈ m.cl,u32 c
def xS(m:Mac):List AV:=.w m.a :: .w m.x :: .w m.told::(rI .u32 m.cl++[.b m.over])
def qhw{m:Mac}(h:m.cl.length=16):(xS m).length=20:=by
 show(rI .u32 m.cl++[AV.b m.over]).length+3=20;rw[zzP,xv,h];rfl
def qp{m:Mac}:qt (xS m)=true:=by
 show qt (rI .u32 m.cl++[AV.b m.over])=true;rw[xO,qd];rfl
def quy{m:Mac}{k:Nat}{c:Int}(h:m.cl[k]?=some c):(xS m)[3+k]?=some (.w c):=by
 rw[show 3+k=k+3 from Ab]
 show(rI .u32 m.cl++[AV.b m.over])[k]?=_;rw[zzj (by rw[xv];exact(zzS.1 h).1),xl,h];rfl
def quz{m:Mac}(h:m.cl.length=16):(xS m)[19]?=some (.b m.over):=by
 show(rI .u32 m.cl++[AV.b m.over])[16]?=_;rw[zzr (by rw[xv,h];exact zzL _),xv,h];rfl
def quA{m:Mac}{k:Nat}(h:k<m.cl.length)(v:Int):List.take (3+k) (xS m)++(AV.w v::List.drop (3+k+1) (xS m))=xS { m with cl:=m.cl.set k v }:=by
 have e:List.take k (rI .u32 m.cl++[AV.b m.over])++(AV.w v::List.drop (k+1) (rI .u32 m.cl++[AV.b m.over]))=rI .u32 (m.cl.set k v)++[AV.b m.over]:=by
  rw[List.take_append_of_le_length (by rw[xv];exact Ab),List.drop_append_of_le_length (by rw[xv];exact Ab),<- qns h v,zzi];rfl
 rw[show 3+k=k+3 from Ab]
 show AV.w m.a::AV.w m.x::AV.w m.told::(List.take k (rI .u32 m.cl++[AV.b m.over])++(AV.w v::List.drop (k+1) (rI .u32 m.cl++[AV.b m.over])))=_;exact Fb
def qgE(i:Ins):Bool:=decide (i.code=96)||decide (i.code=97)||decide (i.code=2)||decide (i.code=3)
def qcp(m:Mac)(i:Ins)(d:GData):Mac×Int :=
 if qgE i=true/\15<i.k then(m,43)
 else if i.code=32 then(if i.k % 4≠0\/64<=i.k then(m,41)else({ m with a:=(jz d).getD (i.k / 4).toNat 0 },0))
 else if i.code=128 then({ m with a:=64 },0)
 else if i.code=129 then({ m with x:=64 },0)
 else if i.code=0 then({ m with a:=i.k },0)
 else if i.code=1 then({ m with x:=i.k },0)
 else if i.code=96 then({ m with a:=m.cl.getD i.k.toNat 0 },0)
 else if i.code=97 then({ m with x:=m.cl.getD i.k.toNat 0 },0)
 else if i.code=2 then({ m with cl:=m.cl.set i.k.toNat m.a },0)
 else if i.code=3 then({ m with cl:=m.cl.set i.k.toNat m.x },0)
 else if i.code=7 then({ m with x:=m.a },0)
 else if i.code=135 then({ m with a:=m.x },0)
 else(m,0)
def qr8(P:Program)(g:Nat):Prop:=∀d,DatOk d->∀k:Int,0<=k->k<=4294967295->qc P g [.agg (qq d),.w k] (qkN d k)
def vc(a:Nat):IFn:=irJ 166 [225,a]
def qLZ{g:Nat}(hc:Ck P f (vc g))(hg:qr8 P g)(m:Mac)(hm:MacOk m)(i:Ins)(hi:InsOk i)(d:GData)(hd:DatOk d) :
  Upd P f [.ptr 0 0,.agg (qD i),.agg (qq d)] [.v (xS m)] (.j (qcp m i d).2) [.v (xS (qcp m i d).1)]:=by
 refine Upd.mk hc (by simp[jF,bnd,qD,qq]) (by simp) ?_;have hl:=qhw hm.len;have hcc:=qp (m:=m);have k0:=hi.k0;have hw:=hg d hd i.k hi.k0 hi.k1;unfold qkN at hw;unfold qcp qgE;simp only[qq]at hw;have g0:(xS m)[0]?=some (.w m.a):=rfl;have g1:(xS m)[1]?=some (.w m.x):=rfl;have s0:∀v:Int,AV.w v::List.drop 1 (xS m)=xS { m with a:=v }:=λ_=>rfl
 have s1:∀v:Int,List.take 1 (xS m)++(AV.w v::List.drop 2 (xS m))=xS { m with x:=v }:=λ_=>rfl
 simp only[vc,qD,qq,vI,simprocAttr];have x1:(xS m)[1]?=some (.w m.x):=rfl
 by_cases c128:i.code=128
 .refine Sa (zzA c128 (zzA hl s0)) ?_;intro _;refine⟨[0],?_⟩;simp[vw,qa,qp,c128]
 by_cases c129:i.code=129
 .refine Sa (zzA c129 (zzA hl s1)) ?_;intro _;refine⟨[0],?_⟩;simp[vw,qa,qp,c129]
 by_cases c0:i.code=0
 .refine Sa (zzA c0 (zzA hl s0)) ?_;intro _;refine⟨[0],?_⟩;simp[vw,qa,qp,c0]
 by_cases c1:i.code=1
 .refine Sa (zzA c1 (zzA hl s1)) ?_;intro _;refine⟨[0],?_⟩;simp[vw,qa,qp,c1]
 by_cases c7:i.code=7
 .refine Sa (zzA c7 (zzA hl (zzA s1 g0))) ?_;intro _;refine⟨[0],?_⟩;simp[vw,qa,qp,c7]
 by_cases c135:i.code=135
 .refine Sa (zzA c135 (zzA hl (zzA s0 g1))) ?_;intro _;refine⟨[0],?_⟩;simp[vw,qa,qp,c135]
 by_cases c32:i.code=32
 .by_cases hb:i.k % 4≠0\/64<=i.k
  .rw[if_pos hb]at hw;refine Sa (zzA c32 hl) ?_;refine hw.sc ?_;refine Aa ?_;intro _;refine⟨[0],?_⟩;simp only[c32,if_pos hb];simp[vw,qa,qp]
  .rw[if_neg hb]at hw;refine Sa (zzA c32 hl) ?_;refine hw.sc ?_;refine Sa (zzA hl s0) ?_;intro _;refine⟨[0],?_⟩;simp only[c32,if_neg hb];simp[vw,qa,qp]
 by_cases hcell:i.code=96\/i.code=97\/i.code=2\/i.code=3
 .by_cases hb:15<i.k
  .rcases hcell with e|e|e|e<;>(
    simp +decide only[↓vS,vT,simprocAttr,e,hb,hl];intro _;refine⟨[0],?_⟩;simp[vw,qa,qp,e,hb])
  .have hkl:i.k.toNat<m.cl.length:=by rw[hm.len];exact Ab
   have hk16:i.k.toNat<16:=Ab
   obtain⟨c,hcx⟩:∃c,m.cl[i.k.toNat]?=some c:=⟨_,zzE hkl⟩;obtain⟨n,hn⟩:∃n:Nat,i.k=(n:Int):=⟨i.k.toNat,Ab⟩
   have htn:i.k.toNat=n:=Ab
   rw[htn]at hkl hcx hk16;have gc:=quy (m:=m) hcx;have sc:=λv=>quA (m:=m) hkl v
   have hle:3+n+1<=20:=Ab
   have hb':¬(15:Int)<(n:Int):=Ab
   rcases hcell with e|e|e|e
   .refine E1 ?_;simp +decide only[↓vS,vT,simprocAttr,hl,s0,hk16,gc,zzU];intro _;exact D6
   .refine E1 ?_;simp +decide only[↓vS,vT,simprocAttr,hl,s1,hk16,gc,zzU];intro _;exact D6
   .refine E1 ?_;simp +decide only[↓vS,vT,simprocAttr,hl,g0,hk16,sc,hle,zzU];intro _;exact D6
   .refine E1 ?_;simp +decide only[↓vS,vT,simprocAttr,hl,g1,hk16,sc,hle,zzU];intro _;exact D6
 .have c96:¬i.code=96:=λh=>hcell (.inl h)
  have c97:¬i.code=97:=λh=>hcell (.inr (.inl h))
  have c2:¬i.code=2:=λh=>hcell (.inr (.inr (.inl h)))
  have c3:¬i.code=3:=λh=>hcell (.inr (.inr (.inr h)))
  simp +decide only[↓vS,vT,simprocAttr,c128,c129,c0,c1,c7,c135,c32,c96,c97,c2,c3];intro _;refine⟨[0],?_⟩;simp[vw,qa,qp,c128,c129,c0,c1,c7,c135,c32,c96,c97,c2,c3]
def opM(c a b:Int):Int :=
 if c=4 then IntKind.wrap .u32 (a+b)else if c=20 then IntKind.wrap .u32 (a-b)else if c=36 then IntKind.wrap .u32 (a*b)
 else if c=68 then orI .u32 a b else if c=84 then xA .u32 a b else if c=164 then qHX .u32 a b else IntKind.wrap .u32 (0-a)
def zP(m:Mac)(i:Ins):Int:=if zO i.code=true then m.x else i.k
def qB(c:Int):Int:=if zO c=true then c-8 else c
def nuM(m:Mac)(i:Ins):Mac×Int :=
 if qB i.code=52 then(if 0<zP m i then({ m with a:=m.a / zP m i },0)else if zO i.code=true then({ m with over:=true },0)else(m,44))
 else if qB i.code=100\/qB i.code=116 then(if zO i.code=false/\31<zP m i then(m,45)else({ m with a:=qaV (decide (qB i.code=100)) (zP m i % 32).toNat m.a },0))
 else({ m with a:=opM (qB i.code) m.a (zP m i) },0)
def c3L:List Int:=[4,12,20,28,36,44,52,60,68,76,84,92,100,108,116,124,164,172,132]
theorem qsI:∀x ∈ vf,x.2.2=3->c3L.contains x.1=true:=Af
def qoc{m:Mac}(h:m.cl.length=16)(v:Bool):List.take 19 (xS m)++(AV.b v::List.drop 20 (xS m))=xS { m with over:=v }:=by
 have e:List.take 16 (rI .u32 m.cl++[AV.b m.over])++(AV.b v::List.drop 17 (rI .u32 m.cl++[AV.b m.over]))=rI .u32 m.cl++[AV.b v]:=by
  rw[List.take_append_of_le_length (by rw[xv,h];exact Ab),zzt (by rw[xv,h];exact Ab),zzk (by rw[zzP,xv,h];exact Ae)]
 show AV.w m.a::AV.w m.x::AV.w m.told::(List.take 16 (rI .u32 m.cl++[AV.b m.over])++(AV.b v::List.drop 17 (rI .u32 m.cl++[AV.b m.over])))=_;exact Fb
def qLB(P:Program)(g:Nat):Prop:=∀a:Int,0<=a->a<=4294967295->∀(left:Bool) (n:Nat),n<=31->qc P g [.w a,.b left,.w n] (.w (qaV left n a))
def cWX(P:Program)(g:Nat):Prop:=∀c:Int,qc P g [.h c] (.b (zO c))
def wF(a b c:Nat):IFn:=irJ 167 [82,a,226,b,227,c]
def qKn{g1 g2 g3:Nat}(hc:Ck P f (wF g1 g2 g3))(h1:qlu P g1)(h2:cWX P g2)(h3:qLB P g3)(m:Mac)(hm:MacOk m)(i:Ins)(hi:InsOk i)(hcls:ql i.code=3) :
  Upd P f [.ptr 0 0,.agg (qD i)] [.v (xS m)] (.j (nuM m i).2) [.v (xS (nuM m i).1)]:=by
 refine Cq ?_;have hl:=qhw hm.len;have k0:=hi.k0;have a0:=hm.a.1;have a1:=hm.a.2;have x0:=hm.x.1;have h32:(32:Int)≠0:=Af
 have g0:(xS m)[0]?=some (.w m.a):=rfl;have g1:(xS m)[1]?=some (.w m.x):=rfl;have s0:∀v:Int,AV.w v::List.drop 1 (xS m)=xS { m with a:=v }:=λ_=>rfl
 have so:=λv=>qoc hm.len v
 have hw1:=h1 i.code;have hw2:=h2 i.code
 have hmem:c3L.contains i.code=true:=Gr
 simp only[c3L,List.contains_iff_mem,zzc,List.not_mem_nil,or_false]at hmem;simp only[wF,qD,vI,simprocAttr];refine Aa ?_;refine hw1.sc ?_;rcases hmem with e|e|e|e|e|e|e|e|e|e|e|e|e|e|e|e|e|e|e
 .have hE:xj (qM i.code)=[.h 4,.s [97,100,100],.y 3]:=by rw[e,(Af:qM 4=some (4,[97,100,100],3))];rfl
  have hX:zO i.code=false:=by rw[e];exact Af
  have hB:zP m i=i.k:=Av
  have hb:qB i.code=4:=Ar
  have hN:=hB;unfold nuM;rw[hX]at hw2;rw[hE,hb,hB,hX];rw[e]at hw2 ⊢;refine Aa ?_;exact Ah
 .have hE:xj (qM i.code)=[.h 12,.s [97,100,100,120],.y 3]:=by rw[e,(Af:qM 12=some (12,[97,100,100,120],3))];rfl
  have hX:zO i.code=true:=by rw[e];exact Af
  have hB:zP m i=m.x:=Av
  have hb:qB i.code=4:=Ar
  have hN:=hB;unfold nuM;rw[hX]at hw2;rw[hE,hb,hB,hX];rw[e]at hw2 ⊢;refine Aa ?_;exact Ah
 .have hE:xj (qM i.code)=[.h 20,.s [115,117,98],.y 3]:=by rw[e,(Af:qM 20=some (20,[115,117,98],3))];rfl
  have hX:zO i.code=false:=by rw[e];exact Af
  have hB:zP m i=i.k:=Av
  have hb:qB i.code=20:=Ar
  have hN:=hB;unfold nuM;rw[hX]at hw2;rw[hE,hb,hB,hX];rw[e]at hw2 ⊢;refine Aa ?_;exact Ah
 .have hE:xj (qM i.code)=[.h 28,.s [115,117,98,120],.y 3]:=by rw[e,(Af:qM 28=some (28,[115,117,98,120],3))];rfl
  have hX:zO i.code=true:=by rw[e];exact Af
  have hB:zP m i=m.x:=Av
  have hb:qB i.code=20:=Ar
  have hN:=hB;unfold nuM;rw[hX]at hw2;rw[hE,hb,hB,hX];rw[e]at hw2 ⊢;refine Aa ?_;exact Ah
 .have hE:xj (qM i.code)=[.h 36,.s [109,117,108],.y 3]:=by rw[e,(Af:qM 36=some (36,[109,117,108],3))];rfl
  have hX:zO i.code=false:=by rw[e];exact Af
  have hB:zP m i=i.k:=Av
  have hb:qB i.code=36:=Ar
  have hN:=hB;unfold nuM;rw[hX]at hw2;rw[hE,hb,hB,hX];rw[e]at hw2 ⊢;refine Aa ?_;exact Ah
 .have hE:xj (qM i.code)=[.h 44,.s [109,117,108,120],.y 3]:=by rw[e,(Af:qM 44=some (44,[109,117,108,120],3))];rfl
  have hX:zO i.code=true:=by rw[e];exact Af
  have hB:zP m i=m.x:=Av
  have hb:qB i.code=36:=Ar
  have hN:=hB;unfold nuM;rw[hX]at hw2;rw[hE,hb,hB,hX];rw[e]at hw2 ⊢;refine Aa ?_;exact Ah
 .have hE:xj (qM i.code)=[.h 52,.s [100,105,118],.y 3]:=by rw[e,(Af:qM 52=some (52,[100,105,118],3))];rfl
  have hX:zO i.code=false:=by rw[e];exact Af
  have hB:zP m i=i.k:=Av
  have hb:qB i.code=52:=Ar
  have hN:=hB;unfold nuM;rw[hX]at hw2;rw[hE,hb,hB,hX];rw[e]at hw2 ⊢;refine Aa ?_;refine hw2.sc ?_
  by_cases hp:0<i.k
  .have hq:m.a.tdiv (i.k)=m.a / (i.k):=Ag
   have hne:i.k≠0:=Ab
   have hle:m.a / (i.k)<=m.a:=Int.ediv_le_self _ a0;have hge:0<=m.a / (i.k):=Int.ediv_nonneg a0 Ab;have hwq:IntKind.wrap .u32 (m.a / (i.k))=m.a / (i.k):=by show(m.a / (i.k)) % 4294967296=_;exact Ab
   simp +decide only[↓vS,vT,simprocAttr,hl,g0,g1,hp,↓zk hne,hq,hwq,s0];intro _;exact Br
  .refine Sa (zzA hl (zzA g1 (zzA hp so))) ?_;intro _;exact Br
 .have hE:xj (qM i.code)=[.h 60,.s [100,105,118,120],.y 3]:=by rw[e,(Af:qM 60=some (60,[100,105,118,120],3))];rfl
  have hX:zO i.code=true:=by rw[e];exact Af
  have hB:zP m i=m.x:=Av
  have hb:qB i.code=52:=Ar
  have hN:=hB;unfold nuM;rw[hX]at hw2;rw[hE,hb,hB,hX];rw[e]at hw2 ⊢;refine Aa ?_;refine hw2.sc ?_
  by_cases hp:0<m.x
  .have hq:m.a.tdiv (m.x)=m.a / (m.x):=Ag
   have hne:m.x≠0:=Ab
   have hle:m.a / (m.x)<=m.a:=Int.ediv_le_self _ a0;have hge:0<=m.a / (m.x):=Int.ediv_nonneg a0 Ab;have hwq:IntKind.wrap .u32 (m.a / (m.x))=m.a / (m.x):=by show(m.a / (m.x)) % 4294967296=_;exact Ab
   simp +decide only[↓vS,vT,simprocAttr,hl,g0,g1,hp,↓zk hne,hq,hwq,s0];intro _;exact Br
  .refine Sa (zzA hl (zzA g1 (zzA hp so))) ?_;intro _;exact Br
 .have hE:xj (qM i.code)=[.h 68,.s [111,114],.y 3]:=by rw[e,(Af:qM 68=some (68,[111,114],3))];rfl
  have hX:zO i.code=false:=by rw[e];exact Af
  have hB:zP m i=i.k:=Av
  have hb:qB i.code=68:=Ar
  have hN:=hB;unfold nuM;rw[hX]at hw2;rw[hE,hb,hB,hX];rw[e]at hw2 ⊢;refine Aa ?_;exact Ah
 .have hE:xj (qM i.code)=[.h 76,.s [111,114,120],.y 3]:=by rw[e,(Af:qM 76=some (76,[111,114,120],3))];rfl
  have hX:zO i.code=true:=by rw[e];exact Af
  have hB:zP m i=m.x:=Av
  have hb:qB i.code=68:=Ar
  have hN:=hB;unfold nuM;rw[hX]at hw2;rw[hE,hb,hB,hX];rw[e]at hw2 ⊢;refine Aa ?_;exact Ah
 .have hE:xj (qM i.code)=[.h 84,.s [97,110,100],.y 3]:=by rw[e,(Af:qM 84=some (84,[97,110,100],3))];rfl
  have hX:zO i.code=false:=by rw[e];exact Af
  have hB:zP m i=i.k:=Av
  have hb:qB i.code=84:=Ar
  have hN:=hB;unfold nuM;rw[hX]at hw2;rw[hE,hb,hB,hX];rw[e]at hw2 ⊢;refine Aa ?_;exact Ah
 .have hE:xj (qM i.code)=[.h 92,.s [97,110,100,120],.y 3]:=by rw[e,(Af:qM 92=some (92,[97,110,100,120],3))];rfl
  have hX:zO i.code=true:=by rw[e];exact Af
  have hB:zP m i=m.x:=Av
  have hb:qB i.code=84:=Ar
  have hN:=hB;unfold nuM;rw[hX]at hw2;rw[hE,hb,hB,hX];rw[e]at hw2 ⊢;refine Aa ?_;exact Ah
 .have hE:xj (qM i.code)=[.h 100,.s [108,115,104],.y 3]:=by rw[e,(Af:qM 100=some (100,[108,115,104],3))];rfl
  have hX:zO i.code=false:=by rw[e];exact Af
  have hB:zP m i=i.k:=Av
  have hb:qB i.code=100:=Ar
  have hN:=hB;unfold nuM;rw[hX]at hw2;rw[hE,hb,hB,hX];rw[e]at hw2 ⊢;refine Aa ?_;refine hw2.sc ?_
  by_cases hp:31<i.k
  .refine Sa (zzA hl hp) ?_;intro _;exact Br
  .have hr:(i.k).tmod 32=(((i.k) % 32).toNat:Int):=by rw[Int.tmod_eq_emod_of_nonneg k0];exact Ab
   have hsh:=h3 m.a a0 a1 true ((i.k) % 32).toNat Ab;refine Hh ?_;intro _;exact Br
 .have hE:xj (qM i.code)=[.h 108,.s [108,115,104,120],.y 3]:=by rw[e,(Af:qM 108=some (108,[108,115,104,120],3))];rfl
  have hX:zO i.code=true:=by rw[e];exact Af
  have hB:zP m i=m.x:=Av
  have hb:qB i.code=100:=Ar
  have hN:=hB;unfold nuM;rw[hX]at hw2;rw[hE,hb,hB,hX];rw[e]at hw2 ⊢;refine Aa ?_;refine hw2.sc ?_;have hr:(m.x).tmod 32=(((m.x) % 32).toNat:Int):=by rw[Int.tmod_eq_emod_of_nonneg x0];exact Ab
  have hsh:=h3 m.a a0 a1 true ((m.x) % 32).toNat Ab;exact C4
 .have hE:xj (qM i.code)=[.h 116,.s [114,115,104],.y 3]:=by rw[e,(Af:qM 116=some (116,[114,115,104],3))];rfl
  have hX:zO i.code=false:=by rw[e];exact Af
  have hB:zP m i=i.k:=Av
  have hb:qB i.code=116:=Ar
  have hN:=hB;unfold nuM;rw[hX]at hw2;rw[hE,hb,hB,hX];rw[e]at hw2 ⊢;refine Aa ?_;refine hw2.sc ?_
  by_cases hp:31<i.k
  .refine Sa (zzA hl hp) ?_;intro _;exact Br
  .have hr:(i.k).tmod 32=(((i.k) % 32).toNat:Int):=by rw[Int.tmod_eq_emod_of_nonneg k0];exact Ab
   have hsh:=h3 m.a a0 a1 false ((i.k) % 32).toNat Ab;refine Hh ?_;intro _;exact Br
 .have hE:xj (qM i.code)=[.h 124,.s [114,115,104,120],.y 3]:=by rw[e,(Af:qM 124=some (124,[114,115,104,120],3))];rfl
  have hX:zO i.code=true:=by rw[e];exact Af
  have hB:zP m i=m.x:=Av
  have hb:qB i.code=116:=Ar
  have hN:=hB;unfold nuM;rw[hX]at hw2;rw[hE,hb,hB,hX];rw[e]at hw2 ⊢;refine Aa ?_;refine hw2.sc ?_;have hr:(m.x).tmod 32=(((m.x) % 32).toNat:Int):=by rw[Int.tmod_eq_emod_of_nonneg x0];exact Ab
  have hsh:=h3 m.a a0 a1 false ((m.x) % 32).toNat Ab;exact C4
 .have hE:xj (qM i.code)=[.h 164,.s [120,111,114],.y 3]:=by rw[e,(Af:qM 164=some (164,[120,111,114],3))];rfl
  have hX:zO i.code=false:=by rw[e];exact Af
  have hB:zP m i=i.k:=Av
  have hb:qB i.code=164:=Ar
  have hN:=hB;unfold nuM;rw[hX]at hw2;rw[hE,hb,hB,hX];rw[e]at hw2 ⊢;refine Aa ?_;exact Ah
 .have hE:xj (qM i.code)=[.h 172,.s [120,111,114,120],.y 3]:=by rw[e,(Af:qM 172=some (172,[120,111,114,120],3))];rfl
  have hX:zO i.code=true:=by rw[e];exact Af
  have hB:zP m i=m.x:=Av
  have hb:qB i.code=164:=Ar
  have hN:=hB;unfold nuM;rw[hX]at hw2;rw[hE,hb,hB,hX];rw[e]at hw2 ⊢;refine Aa ?_;exact Ah
 .have hE:xj (qM i.code)=[.h 132,.s [110,101,103],.y 3]:=by rw[e,(Af:qM 132=some (132,[110,101,103],3))];rfl
  have hX:zO i.code=false:=by rw[e];exact Af
  have hB:zP m i=i.k:=Av
  have hb:qB i.code=132:=Ar
  have hN:=hB;unfold nuM;rw[hX]at hw2;rw[hE,hb,hB,hX];rw[e]at hw2 ⊢;refine Aa ?_;exact Ah
def ww(c a b:Int):Bool:=if c=21 then decide (a=b)else if c=37 then decide (b<a)else if c=53 then decide (b<=a)else decide (0<xA .u32 a b)
def qga(m:Mac)(i:Ins):Int:=if i.code=5 then i.k else if ww (qB i.code) m.a (zP m i)=true then i.jt else i.jf
def c4L:List Int:=[21,29,37,45,53,61,69,77,5]
theorem qz0:∀x ∈ vf,x.2.2=4->c4L.contains x.1=true:=Af
def vb(a:Nat):IFn:=irJ 168 [226,a]
def qLT{g2:Nat}(hc:Ck P f (vb g2))(h2:cWX P g2)(m:Mac)(hm:MacOk m)(i:Ins)(hi:InsOk i)(hcls:ql i.code=4) :
  Upd P f [.ptr 0 0,.agg (qD i)] [.v (xS m)] (.j (qga m i)) [.v (xS m)]:=by
 refine Cq ?_;have hl:=qhw hm.len;have h16:(16:Int)≠0:=Af
 have g0:(xS m)[0]?=some (.w m.a):=rfl;have g1:(xS m)[1]?=some (.w m.x):=rfl;have wk:IntKind.wrap .i64 i.k=i.k:=by have:=hi.k0;have:=hi.k1;exact B6
 have wt:IntKind.wrap .i64 i.jt=i.jt:=by have:=hi.t0;have:=hi.t1;exact B6
 have wf:IntKind.wrap .i64 i.jf=i.jf:=by have:=hi.f0;have:=hi.f1;exact B6
 have hw2:=h2 i.code
 have hmem:c4L.contains i.code=true:=by
  unfold ql at hcls;cases hcm:qM i.code with
  | none=>rw[hcm]at hcls;cases hcls
  | some x =>
   rw[hcm]at hcls;obtain⟨q1,q2⟩:=wY hcm;rw[<- q2];exact qz0 x q1 hcls
 simp only[c4L,List.contains_iff_mem,zzc,List.not_mem_nil,or_false]at hmem;unfold qga;simp only[vb,qD,vI,simprocAttr]
 by_cases c5:i.code=5
 .refine Sa (zzA c5 wk) ?_;intro _;exact F6
 rcases hmem with e|e|e|e|e|e|e|e|e
 .have hX:zO i.code=false:=by rw[e];exact Af
  have hB:zP m i=i.k:=Av
  have hb:qB i.code=21:=Ar
  have hq:Int.tdiv 21 16=1:=Af
  have hwq:IntKind.wrap .u16 1=1:=Af
  rw[hX]at hw2;rw[hb,hB];rw[e]at hw2 ⊢;refine Aa ?_;refine hw2.sc ?_
  by_cases hp:m.a=i.k
  .exact An
  .exact Ao
 .have hX:zO i.code=true:=by rw[e];exact Af
  have hB:zP m i=m.x:=Av
  have hb:qB i.code=21:=Ar
  have hq:Int.tdiv 29 16=1:=Af
  have hwq:IntKind.wrap .u16 1=1:=Af
  rw[hX]at hw2;rw[hb,hB];rw[e]at hw2 ⊢;refine Aa ?_;refine hw2.sc ?_
  by_cases hp:m.a=m.x
  .exact An
  .exact Ao
 .have hX:zO i.code=false:=by rw[e];exact Af
  have hB:zP m i=i.k:=Av
  have hb:qB i.code=37:=Ar
  have hq:Int.tdiv 37 16=2:=Af
  have hwq:IntKind.wrap .u16 2=2:=Af
  rw[hX]at hw2;rw[hb,hB];rw[e]at hw2 ⊢;refine Aa ?_;refine hw2.sc ?_
  by_cases hp:i.k<m.a
  .exact An
  .exact Ao
 .have hX:zO i.code=true:=by rw[e];exact Af
  have hB:zP m i=m.x:=Av
  have hb:qB i.code=37:=Ar
  have hq:Int.tdiv 45 16=2:=Af
  have hwq:IntKind.wrap .u16 2=2:=Af
  rw[hX]at hw2;rw[hb,hB];rw[e]at hw2 ⊢;refine Aa ?_;refine hw2.sc ?_
  by_cases hp:m.x<m.a
  .exact An
  .exact Ao
 .have hX:zO i.code=false:=by rw[e];exact Af
  have hB:zP m i=i.k:=Av
  have hb:qB i.code=53:=Ar
  have hq:Int.tdiv 53 16=3:=Af
  have hwq:IntKind.wrap .u16 3=3:=Af
  rw[hX]at hw2;rw[hb,hB];rw[e]at hw2 ⊢;refine Aa ?_;refine hw2.sc ?_
  by_cases hp:i.k<=m.a
  .exact An
  .exact Ao
 .have hX:zO i.code=true:=by rw[e];exact Af
  have hB:zP m i=m.x:=Av
  have hb:qB i.code=53:=Ar
  have hq:Int.tdiv 61 16=3:=Af
  have hwq:IntKind.wrap .u16 3=3:=Af
  rw[hX]at hw2;rw[hb,hB];rw[e]at hw2 ⊢;refine Aa ?_;refine hw2.sc ?_
  by_cases hp:m.x<=m.a
  .exact An
  .exact Ao
 .have hX:zO i.code=false:=by rw[e];exact Af
  have hB:zP m i=i.k:=Av
  have hb:qB i.code=69:=Ar
  have hq:Int.tdiv 69 16=4:=Af
  have hwq:IntKind.wrap .u16 4=4:=Af
  rw[hX]at hw2;rw[hb,hB];rw[e]at hw2 ⊢;refine Aa ?_;refine hw2.sc ?_
  by_cases hp:0<xA .u32 m.a (i.k)
  .exact An
  .exact Ao
 .have hX:zO i.code=true:=by rw[e];exact Af
  have hB:zP m i=m.x:=Av
  have hb:qB i.code=69:=Ar
  have hq:Int.tdiv 77 16=4:=Af
  have hwq:IntKind.wrap .u16 4=4:=Af
  rw[hX]at hw2;rw[hb,hB];rw[e]at hw2 ⊢;refine Aa ?_;refine hw2.sc ?_
  by_cases hp:0<xA .u32 m.a (m.x)
  .exact An
  .exact Ao
 exact Ab
def qbO(a:Nat):IFn:=irJ 165 [82,a]
def qLh{g:Nat}(hc:Ck P f (qbO g))(hg:qlu P g)(c:Int):qc P f [.h c] (.b (zI c)):=by
 refine Al ?_;have hgc:=hg c;simp only[qbO,vI,simprocAttr];refine Aa ?_;refine hgc.sc ?_;cases hcm:qM c with
 | none =>
  have h0:zI c=false:=by unfold zI;rw[hcm];rfl
  rw[h0];exact Df
 | some x =>
  obtain⟨hxm,_⟩:=wY hcm;have h0:zI c=true:=by unfold zI;rw[hcm];rfl
  have hne:=(qEg x hxm).1;rw[h0];simp +decide only[↓vS,vT,simprocAttr,xj,wR,hne];simp[vZ]
def qo0(m:Mac)(i:Ins):Mac:={ m with over:=true,told:=if i.code=22 then m.a else i.k }
def doR(m:Mac)(i:Ins)(d:GData):Mac×Int×Int :=
 if zI i.code=false then(m,0,40)
 else if ql i.code=1\/ql i.code=2\/ql i.code=6 then((qcp m i d).1,0,(qcp m i d).2)
 else if ql i.code=3 then((nuM m i).1,0,(nuM m i).2)
 else if ql i.code=4 then(m,qga m i,0)
 else(qo0 m i,0,0)
def qE3(P:Program)(g:Nat):Prop:=∀(m:Mac),MacOk m->∀(i:Ins),InsOk i->∀d:GData,DatOk d->Upd P g [.ptr 0 0,.agg (qD i),.agg (qq d)] [.v (xS m)] (.j (qcp m i d).2) [.v (xS (qcp m i d).1)]
def qJu(P:Program)(g:Nat):Prop:=∀(m:Mac),MacOk m->∀(i:Ins),InsOk i->ql i.code=3->Upd P g [.ptr 0 0,.agg (qD i)] [.v (xS m)] (.j (nuM m i).2) [.v (xS (nuM m i).1)]
def qE0(P:Program)(g:Nat):Prop:=∀(m:Mac),MacOk m->∀(i:Ins),InsOk i->ql i.code=4->Upd P g [.ptr 0 0,.agg (qD i)] [.v (xS m)] (.j (qga m i)) [.v (xS m)]
def v6(a b c d e:Nat):IFn:=irJ 103 [165,a,82,b,166,c,167,d,168,e]
def qMZ{g1 g2 g3 g4 g5:Nat}(hc:Ck P f (v6 g1 g2 g3 g4 g5))(h1:∀c,qc P g1 [.h c] (.b (zI c)))(h2:qlu P g2)(h3:qE3 P g3)(h4:qJu P g4)(h5:qE0 P g5)
  (m:Mac) (hm:MacOk m) (i:Ins) (hi:InsOk i) (d:GData) (hd:DatOk d) :
  Upd P f [.ptr 0 0,.agg (qD i),.agg (qq d)] [.v (xS m)] (.tup [.j (doR m i d).2.1,.j (doR m i d).2.2]) [.v (xS (doR m i d).1)]:=by
 refine Upd.mk hc (by simp[jF,bnd,qD,qq]) (by simp) ?_;have hl:=qhw hm.len;have g0:(xS m)[0]?=some (.w m.a):=rfl
 have hcl:(xj (qM i.code)).length=3/\(xj (qM i.code))[2]?=some (.y (ql i.code))/\qt (xj (qM i.code))=true:=Ch
 have hgc:=h2 i.code;have hk:=h1 i.code;have hld:=h3 m hm i hi d hd;generalize xj (qM i.code)=E at hcl hgc;obtain⟨he1,he2,he3⟩:=hcl;unfold doR;simp only[v6,vI,simprocAttr]
 by_cases hkn:zI i.code=false
 .rw[if_pos hkn];rw[hkn]at hk;simp only[qD,qq];refine Aa ?_;refine hk.sc ?_;refine Aa ?_;intro _;exact F6
 rw[if_neg hkn];have hkn:zI i.code=true:=Ae
 rw[hkn]at hk;simp only[qD,qq]at hld ⊢;refine Aa ?_;refine hk.sc ?_;refine Aa ?_;refine hgc.sc ?_
 by_cases hA:ql i.code=1\/ql i.code=2\/ql i.code=6
 .rw[if_pos hA]
  rcases hA with hA|hA|hA<;>(
   simp +decide only[↓vS,vT,simprocAttr,he2,hA];refine hld.sc (vs:=[.ptr 0 0,.agg [.h i.code,.y i.jt,.y i.jf,.w i.k],.agg [.w d.nr,.w d.arch,.x d.ip,.x d.a0,.x d.a1,.x d.a2,.x d.a3,.x d.a4,.x d.a5]]) [0] (Lent.of Af ?_) ?_
   .simp[vL,vw,qy qp,qi qp]
   simp only[vK,simprocAttr,qi qp];simp +decide only[↓vS,vT,simprocAttr];intro _;refine⟨[0],?_⟩;simp[vw,qa,qp])
 rw[if_neg hA];have n1:¬ql i.code=1:=Ab
 have n2:¬ql i.code=2:=Ab
 have n6:¬ql i.code=6:=Ab
 by_cases c3:ql i.code=3
 .rw[if_pos c3];have hnu:=h4 m hm i hi c3;simp only[qD]at hnu;refine Sa (zzA he2 c3) ?_;refine hnu.sc (vs:=[.ptr 0 0,.agg [.h i.code,.y i.jt,.y i.jf,.w i.k]]) [0] (Lent.of Af ?_) ?_
  .simp[vL,vw,qy qp,qi qp]
  simp only[vK,simprocAttr,qi qp];refine Aa ?_;intro _;exact F6
 rw[if_neg c3]
 by_cases c4:ql i.code=4
 .rw[if_pos c4];have hju:=h5 m hm i hi c4;simp only[qD]at hju;refine Sa (zzA he2 c4) ?_;refine hju.sc (vs:=[.ptr 0 0,.agg [.h i.code,.y i.jt,.y i.jf,.w i.k]]) [0] (Lent.of Af ?_) ?_
  .simp[vL,vw,qy qp,qi qp]
  simp only[vK,simprocAttr,qi qp];refine Aa ?_;intro _;exact F6
 rw[if_neg c4];have so:List.take 19 (xS m)++(AV.b true::List.drop 20 (xS m))=xS { m with over:=true }:=qoc hm.len true;obtain⟨m2,hm2⟩:∃m2,m2={ m with over:=true }:=⟨_,rfl⟩;rw[<- hm2]at so;have hl2:(xS m2).length=20:=Ag
 have s2:∀v:Int,List.take 2 (xS m2)++(AV.w v::List.drop 3 (xS m2))=xS { m2 with told:=v }:=λ_=>rfl
 obtain⟨m3,hm3⟩:∃m3,m3={ m2 with told:=i.k }:=⟨_,rfl⟩;have s2k:=s2 i.k;rw[<- hm3]at s2k;have hl3:(xS m3).length=20:=Ag
 have g03:(xS m3)[0]?=some (.w m.a):=by rw[hm3,hm2];rfl
 have s3:∀v:Int,List.take 2 (xS m3)++(AV.w v::List.drop 3 (xS m3))=xS { m3 with told:=v }:=λ_=>rfl
 by_cases c22:i.code=22
 .simp +decide only[↓vS,vT,simprocAttr,he2,n1,n2,n6,c3,c4,hl,so,hl2,s2k,c22,hl3,g03,s3];intro _;refine⟨[0],?_⟩;simp[vw,qa,qp,qo0,c22,hm3,hm2]
 .simp +decide only[↓vS,vT,simprocAttr,he2,n1,n2,n6,c3,c4,hl,so,hl2,s2k,c22];intro _;refine⟨[0],?_⟩;simp[vw,qa,qp,qo0,c22,hm3,hm2]
theorem qdE(x:Int):u32 (IntKind.wrap .u32 x):=by show 0<=x % 4294967296/\x % 4294967296<=4294967295;exact Ab
def qq9(left:Bool):∀(n:Nat) (a:Int),u32 a->u32 (qaV left n a)
 | 0,_,h=>h
 | n+1,a,h=>by
  refine qq9 left n _ ?_;unfold u32 at h ⊢;exact Ga
def qnR{d:GData}(hd:DatOk d){x:Int}(hm:x ∈ jz d):u32 x:=by
 unfold jz at hm;rcases zzc.1 hm with rfl|hm
 .exact⟨hd.nr0,hd.nr1⟩
 rcases zzc.1 hm with rfl|hm
 .exact⟨hd.ar0,hd.ar1⟩
 obtain⟨y,hy,hm⟩:=List.mem_flatMap.1 hm;have:=hd.wid y hy;simp only[zzc,List.not_mem_nil,or_false]at hm;unfold u32;rcases hm with rfl|rfl
 .unfold loW;exact Ab
 .unfold hiW;exact Ab
def qjZ{l:List Int}(h:∀c ∈ l,u32 c)(j:Nat):u32 (l.getD j 0):=by
 rw[zzs];cases hx:l[j]? with
 | none=>exact⟨Int.le_refl _,Af⟩
 | some x=>exact Ag
def qyB{m:Mac}(hm:MacOk m){i:Ins}(hi:InsOk i){d:GData}(hd:DatOk d):MacOk (qcp m i d).1:=by
 have hk:u32 i.k:=⟨hi.k0,hi.k1⟩;have h64:u32 64:=⟨Af,Af⟩
 unfold qcp
 by_cases c1:qgE i=true/\15<i.k
 .rw[if_pos c1];exact hm
 rw[if_neg c1]
 by_cases c2:i.code=32
 .rw[if_pos c2]
  by_cases c3:i.k % 4≠0\/64<=i.k
  .rw[if_pos c3];exact hm
  .rw[if_neg c3];exact⟨qjZ (λc hc=>qnR hd hc) _,hm.x,hm.told,hm.len,hm.cl⟩
 rw[if_neg c2]
 by_cases d1:i.code=128
 .rw[if_pos d1];exact⟨h64,hm.x,hm.told,hm.len,hm.cl⟩
 rw[if_neg d1]
 by_cases d2:i.code=129
 .rw[if_pos d2];exact⟨hm.a,h64,hm.told,hm.len,hm.cl⟩
 rw[if_neg d2]
 by_cases d3:i.code=0
 .rw[if_pos d3];exact⟨hk,hm.x,hm.told,hm.len,hm.cl⟩
 rw[if_neg d3]
 by_cases d4:i.code=1
 .rw[if_pos d4];exact⟨hm.a,hk,hm.told,hm.len,hm.cl⟩
 rw[if_neg d4]
 by_cases d5:i.code=96
 .rw[if_pos d5];exact⟨qjZ hm.cl _,hm.x,hm.told,hm.len,hm.cl⟩
 rw[if_neg d5]
 by_cases d6:i.code=97
 .rw[if_pos d6];exact⟨hm.a,qjZ hm.cl _,hm.told,hm.len,hm.cl⟩
 rw[if_neg d6]
 by_cases d7:i.code=2
 .rw[if_pos d7];exact⟨hm.a,hm.x,hm.told,by simpa using hm.len,by grind[MacOk.cl,MacOk.a]⟩
 rw[if_neg d7]
 by_cases d8:i.code=3
 .rw[if_pos d8];exact⟨hm.a,hm.x,hm.told,by simpa using hm.len,by grind[MacOk.cl,MacOk.x]⟩
 rw[if_neg d8]
 by_cases d9:i.code=7
 .rw[if_pos d9];exact⟨hm.a,hm.a,hm.told,hm.len,hm.cl⟩
 rw[if_neg d9]
 by_cases d10:i.code=135
 .rw[if_pos d10];exact⟨hm.x,hm.x,hm.told,hm.len,hm.cl⟩
 rw[if_neg d10];exact hm
def qGN(c a b:Int):u32 (opM c a b):=by
 unfold opM;split
 .exact qdE _
 split
 .exact qdE _
 split
 .exact qdE _
 split
 .exact qdE _
 split
 .exact qdE _
 split
 .exact qdE _
 grind[qdE]
def qGA{m:Mac}(hm:MacOk m)(i:Ins):MacOk (nuM m i).1:=by
 unfold nuM;split
 .split
  .rename_i hb;have h1:m.a / zP m i<=m.a:=Int.ediv_le_self _ hm.a.1;have h2:0<=m.a / zP m i:=Int.ediv_nonneg hm.a.1 Ab;have h3:=hm.a.2;exact⟨⟨h2,by show m.a / zP m i<=4294967295;exact Ab⟩,hm.x,hm.told,hm.len,hm.cl⟩
  split
  .exact⟨hm.a,hm.x,hm.told,hm.len,hm.cl⟩
  exact Ab
 split
 .split
  .exact hm
  .exact⟨qq9 _ _ _ hm.a,hm.x,hm.told,hm.len,hm.cl⟩
 .exact⟨qGN _ _ _,hm.x,hm.told,hm.len,hm.cl⟩
def qyj{m:Mac}{i:Ins}(hi:InsOk i):u32 (qga m i):=by
 have:=hi.t0;have:=hi.t1;have:=hi.f0;have:=hi.f1;have:=hi.k0;have:=hi.k1
 unfold qga u32;exact Ab
def qsf{m:Mac}(hm:MacOk m){i:Ins}(hi:InsOk i){d:GData}(hd:DatOk d):MacOk (doR m i d).1/\u32 (doR m i d).2.1:=by
 have h0:u32 0:=⟨Af,Af⟩
 unfold doR;split
 .exact Ae
 split
 .simp_all[qyB]
 split
 .simp_all[qGA]
 split
 .simp_all[qyj]
 .refine⟨⟨hm.a,hm.x,?_,hm.len,hm.cl⟩,h0⟩;show u32 (if i.code=22 then m.a else i.k)
  split
  .exact hm.a
  .exact⟨hi.k0,hi.k1⟩
def qgR(p:List Ins)(d:GData):Nat->Mac->Nat->Int->List Nat->Int×Nat×List Nat×Int
 | 0,_,_,_,l=>(0,0,l,0)
 | n+1,m,at',bh,l=>match p[at']? with
  | none=>(0,l.length,l,bh)
  | some i=>if(doR m i d).2.2≠0 then(0,l.length,l++[at'],(doR m i d).2.2)
   else if(doR m i d).1.over=true then((doR m i d).1.told,l.length+1,l++[at'],0)
   else qgR p d n (doR m i d).1 (at'+1+(doR m i d).2.1.toNat) (if ql i.code=4 then 42 else 46) (l++[at'])
def ql1:Mac:=⟨0,0,0,List.replicate 16 0,false⟩
def qC0(p:List Ins)(d:GData):AV:=.tup [.w (qgR p d (p.length+1) ql1 0 46 []).1,.j ((qgR p d (p.length+1) ql1 0 46 []).2.1:Nat),.fz (qgR p d (p.length+1) ql1 0 46 []).2.2.1.length (rNt (qgR p d (p.length+1) ql1 0 46 []).2.2.1),.j (qgR p d (p.length+1) ql1 0 46 []).2.2.2]
def qLy(P:Program)(g:Nat):Prop:=∀m:Mac,MacOk m->∀i:Ins,InsOk i->∀d:GData,DatOk d->Upd P g [.ptr 0 0,.agg (qD i),.agg (qq d)] [.v (xS m)] (.tup [.j (doR m i d).2.1,.j (doR m i d).2.2]) [.v (xS (doR m i d).1)]
def qcC(a b:Nat):IFn:=irJ 53 [103,a,82,b] [] [] ⟨[103],false,[]⟩
def qkU{d:GData}:List.take 9 (List.drop 0 (qq d))=qq d:=rfl
def qod{d:GData}:9<=(qq d).length:=zzL 9
def wo{d:GData}:qt (qq d)=true:=rfl
theorem qpE:MacOk ql1:=⟨⟨Af,Af⟩,⟨Af,Af⟩,⟨Af,Af⟩,rfl,λc hc=>by
 have:=List.eq_of_mem_replicate hc;subst this;exact⟨Af,Af⟩⟩
def qgm{p:List Ins}{d:GData}{n:Nat}{m:Mac}{at':Nat}{bh:Int}{l:List Nat}:qgR p d (n+1) m at' bh l=match p[at']? with
  | none=>(0,l.length,l,bh)
  | some i=>if(doR m i d).2.2≠0 then(0,l.length,l++[at'],(doR m i d).2.2)
   else if(doR m i d).1.over=true then((doR m i d).1.told,l.length+1,l++[at'],0)
   else qgR p d n (doR m i d).1 (at'+1+(doR m i d).2.1.toNat) (if ql i.code=4 then 42 else 46) (l++[at']):=rfl
def qMV{g1 g2:Nat}(hc:Ck P f (qcC g1 g2))(h1:qLy P g1)(h2:qlu P g2)(p:List Ins)(hp:p.length<=4096)(hi:∀i ∈ p,InsOk i)(d:GData)(hd:DatOk d) :
  qc P f [.fz p.length (rP p),.agg (qq d)] (qC0 p d):=by
 refine qc.mk hc Iq ?_;unfold qC0;simp only[qcC,vI,simprocAttr];refine Aa ?_
 refine SL.loop (α:=Nat×Mac×Nat×Int×List Nat) (λs=>[(0,.fz p.length (rP p)),(3,.ptr 0 0),(8,.ptr 1 0),(9,.own 2 s.2.2.2.2.length),(10,.j (s.2.2.1:Int)),(11,.j s.2.2.2.1)]) (λs=>[.v (qq d),.v (xS s.2.1),.cells 1 true true (rNt s.2.2.2.2)])
  (λs=>1<=s.1/\p.length+1<=s.1+s.2.2.1/\MacOk s.2.1/\s.2.2.1<=5000000000/\s.2.2.2.2.length<=s.2.2.1/\s.2.2.2.2.length<=p.length/\qgR p d s.1 s.2.1 s.2.2.1 s.2.2.2.1 s.2.2.2.2=qgR p d (p.length+1) ql1 0 46 []) (λs=>s.1) (p.length+1,ql1,0,46,[]) [0,1,99] ?_ ?_ ?_ rfl ?_ ?_
 .exact Iv
 .simp[vw,qa,wo];exact⟨NVs.refl wo,NVs.refl (vs:=xS ql1) qp⟩
 .simp
 .grind[qpE]
 rintro⟨n,m,a,bh,l⟩ ⟨hn1,hn2,hm,ha,hla,hlp,hI⟩ G ih;simp only at hn1 hn2 hm ha hla hlp hI;obtain⟨n,rfl⟩:∃n',n=n'+1:=⟨n-1,Ab⟩
 rw[qgm]at hI;refine Ak ?_
 by_cases hlt:a<p.length
 .obtain⟨i,hpi⟩:∃i,p[a]?=some i:=⟨_,zzE hlt⟩;have hii:=hi i Ag;rw[hpi]at hI;simp only at hI;have hel:=qS (f:=qD) (m:=4) xf hpi;rw[show p.flatMap qD=rP p from rfl]at hel
  have h4:a*4+4<=(rP p).length:=by rw[qdS];exact Ab
  have g0:=zq (f:=qD) (m:=4) xf hpi (i:=0) Ab;rw[show p.flatMap qD=rP p from rfl]at g0
  simp only[qD,Nat.add_zero,zzn]at g0;have hge:¬(p.length:Int)<=(a:Int):=Ab
  have hok:=qsf hm hii hd;have hdo:=h1 m hm i hii d hd
  have hcl:(xj (qM i.code)).length=3/\(xj (qM i.code))[2]?=some (.y (ql i.code))/\qt (xj (qM i.code))=true:=Ch
  have hgc:=h2 i.code;generalize xj (qM i.code)=E at hcl hgc;obtain⟨he1,he2,he3⟩:=hcl;generalize doR m i d=r at hI hok hdo;obtain⟨m2,k,e⟩:=r;simp only at hI hok hdo;obtain⟨hm2,hk⟩:=hok;have hl20:=qhw hm2.len;have ho:=quz hm2.len;have ht:(xS m2)[2]?=some (.w m2.told):=rfl;have hr1:l.length+1<=qe:=by simp only[qe];exact Ab
  have hr2:(l.length+1)*8<=qe:=by simp only[qe];exact Ab
  have hap:rNt l++[.j (a:Int)]=rNt (l++[a]):=Ip
  have hll:(rNt l).length=l.length:=qiB;refine Sa (zzA hge hlt) ?_;refine qX ?_;simp +decide only[↓vS,vT,simprocAttr,hlt,hel,h4,qkU,qod];refine hdo.pc (vs:=[.ptr 0 0,.agg (qD i),.agg (qq d)]) [1] (Lent.of Af ?_) ?_
  .simp[vL,vw,qy qp,qi qp,qy wo,qi wo,qD]
  simp only[vK,simprocAttr,qi qp];have w1:IntKind.wrap .i64 (((l.length+1:Nat):Int)-1)=(l.length:Int):=by rw[qC Ab Ab];exact Ab
  have w2:=wS a;have hk0:=hk.1;have hk1:=hk.2;have w3:IntKind.wrap .i64 (((a+1:Nat):Int)+k)=((a+1+k.toNat:Nat):Int):=by rw[qC Ab Ab];exact Ab
  have hla1:(l++[a]).length=l.length+1:=by simp
  by_cases he:e=0
  .rw[if_neg Ab]at hI;cases hov:m2.over with
   | true =>
    rw[hov]at ho;rw[if_pos hov]at hI;rw[<- hI];simp +decide only[↓vS,vT,simprocAttr,hr1,hr2,hll,hap,he,hl20,ho,ht,zzU];simp[vZ,vP,zz4,qP qF,hla1]
   | false =>
    rw[hov]at ho;rw[if_neg (by rw[hov];simp)]at hI
    by_cases c4:ql i.code=4
    .rw[if_pos c4]at hI;refine Ew ?_;refine ih (n,m2,a+1+k.toNat,42,l++[a]) ⟨Ab,Ag,hm2,Ag,Ag,Ag,hI⟩ Ab _ _ (Wk.mk _ _ [0,1,4] ?_ ?_ ?_ rfl)
     .exact Iv
     .simp[vw,qa,qF,qp];exact NVs.refl wo
     .simp
    .rw[if_neg c4]at hI;refine Ew ?_;refine ih (n,m2,a+1+k.toNat,46,l++[a]) ⟨Ab,Ag,hm2,Ag,Ag,Ag,hI⟩ Ab _ _ (Wk.mk _ _ [0,1,4] ?_ ?_ ?_ rfl)
     .exact Iv
     .simp[vw,qa,qF,qp];exact NVs.refl wo
     .simp
  .rw[if_pos he]at hI;rw[<- hI];simp +decide only[↓vS,vT,simprocAttr,hr1,hr2,hll,hap,he,w1,zzU];simp[vZ,vP,zz4,qP qF,hla1]
 .have hge:p.length<=a:=Ab
  have hno:p[a]?=none:=Ag
  rw[hno]at hI;simp only at hI;rw[<- hI];have hge':(p.length:Int)<=(a:Int):=Ab
  refine Sa hge' ?_;exact Gx
def qi2:IFn:=irJ 310 []
def qMM(hc:Ck P f qi2)(a b:Int):qc P f [.w a,.w b] (.w (opM 4 a b)):=by
 refine Al ?_;simp only[qi2,vI,simprocAttr];refine Aa ?_;simp[vZ,opM]
def qi3:IFn:=irJ 311 []
def qMN(hc:Ck P f qi3)(a b:Int):qc P f [.w a,.w b] (.w (opM 20 a b)):=by
 refine Al ?_;simp only[qi3,vI,simprocAttr];refine Aa ?_;simp[vZ,opM]
def qi4:IFn:=irJ 312 []
def qMO(hc:Ck P f qi4)(a b:Int):qc P f [.w a,.w b] (.w (opM 36 a b)):=by
 refine Al ?_;simp only[qi4,vI,simprocAttr];refine Aa ?_;simp[vZ,opM]
def qi6:IFn:=irJ 314 []
def qMQ(hc:Ck P f qi6)(a b:Int):qc P f [.w a,.w b] (.w (opM 68 a b)):=by
 refine Al ?_;simp only[qi6,vI,simprocAttr];refine Aa ?_;simp[vZ,opM]
def qi7:IFn:=irJ 315 []
def qMR(hc:Ck P f qi7)(a b:Int):qc P f [.w a,.w b] (.w (opM 84 a b)):=by
 refine Al ?_;simp only[qi7,vI,simprocAttr];refine Aa ?_;simp[vZ,opM]
def qja:IFn:=irJ 318 []
def qMU(hc:Ck P f qja)(a b:Int):qc P f [.w a,.w b] (.w (opM 164 a b)):=by
 refine Al ?_;simp only[qja,vI,simprocAttr];refine Aa ?_;simp[vZ,opM]
def qhZ:IFn:=irJ 319 []
def qL9(hc:Ck P f qhZ)(a b:Int):qc P f [.w a,.w b] (.w (opM 132 a b)):=by
 refine Al ?_;simp only[qhZ,vI,simprocAttr];refine Aa ?_;simp[vZ,opM]
def qi5:IFn:=irJ 313 []
def qMP(hc:Ck P f qi5)(a b:Int)(a0:0<=a)(a1:a<=4294967295)(b0:0<b):qc P f [.w a,.w b] (.w (a / b)):=by
 refine Al ?_;have h1:¬b<1:=Ab
 have hne:b≠0:=Ab
 have hq:a.tdiv b=a / b:=Ag
 have hle:a / b<=a:=Int.ediv_le_self _ a0;have hge:0<=a / b:=Int.ediv_nonneg a0 Ab;have hwq:IntKind.wrap .u32 (a / b)=a / b:=by show(a / b) % 4294967296=_;exact Ab
 simp only[qi5,vI,simprocAttr];simp +decide only[↓vS,vT,simprocAttr,h1,↓zk hne,hq,hwq];simp[vZ]
def qi8:IFn:=irJ 316 []
def qMS(hc:Ck P f qi8)(a b:Int)(a0:0<=a)(a1:a<=4294967295)(b0:0<=b):qc P f [.w a,.w b] (.w (qaV true (b % 32).toNat a)):=by
 refine Al ?_;have h32:(32:Int)≠0:=Af
 have hr:b.tmod 32=b % 32:=Ag
 have hp:0<=b % 32:=Ab
 have hm:min (b % 32).toNat 32=(b % 32).toNat:=Ab
 have hsh:qpY .u32 a (b % 32)=qaV true (b % 32).toNat a:=by
  rw[qm7 (b % 32).toNat a a0 a1];unfold qpY;rw[show IntKind.bits .u32=32 from rfl,hm]
  rfl
 simp only[qi8,vI,simprocAttr];exact Ht
def qi9:IFn:=irJ 317 []
def qMT(hc:Ck P f qi9)(a b:Int)(a0:0<=a)(a1:a<=4294967295)(b0:0<=b):qc P f [.w a,.w b] (.w (qaV false (b % 32).toNat a)):=by
 refine Al ?_;have h32:(32:Int)≠0:=Af
 have hr:b.tmod 32=b % 32:=Ag
 have hp:0<=b % 32:=Ab
 have hm:min (b % 32).toNat 32=(b % 32).toNat:=Ab
 have hsh:qsF .u32 a (b % 32)=qaV false (b % 32).toNat a:=by
  rw[qlH (b % 32).toNat a a0];unfold qsF;rw[show IntKind.bits .u32=32 from rfl,hm]
  exact Ag
 simp only[qi9,vI,simprocAttr];exact Ht
def qh0:IFn:=irJ 320 []
def qMa(hc:Ck P f qh0)(a b:Int):qc P f [.w a,.w b] (.b (ww 21 a b)):=by
 refine Al ?_;simp only[qh0,vI,simprocAttr];refine Aa ?_;simp[vZ,ww]
def qh1:IFn:=irJ 321 []
def qMb(hc:Ck P f qh1)(a b:Int):qc P f [.w a,.w b] (.b (ww 37 a b)):=by
 refine Al ?_;simp only[qh1,vI,simprocAttr];refine Aa ?_;simp[vZ,ww]
def qh2:IFn:=irJ 322 []
def qMc(hc:Ck P f qh2)(a b:Int):qc P f [.w a,.w b] (.b (ww 53 a b)):=by
 refine Al ?_;simp only[qh2,vI,simprocAttr];refine Aa ?_;simp[vZ,ww]
def qsR(a b:Int):0<=xA .u32 a b:=(qdE _).1
def qh3:IFn:=irJ 323 []
def qMd(hc:Ck P f qh3)(a b:Int):qc P f [.w a,.w b] (.b (ww 69 a b)):=by
 refine Al ?_;have h:=qsR a b;simp only[qh3,vI,simprocAttr];refine Aa ?_;simp[vZ,ww]
 exact Ag
def fnO:Option Nat->AV
 | none=>.nilf
 | some g=>.fn g [] []
def qaW(x:Int×Option Nat×Option Nat):List AV:=[.h x.1,fnO x.2.1,fnO x.2.2]
def qoP(x:Int×Option Nat×Option Nat):(qaW x).length=3:=rfl
def qHa(g1 g2 g3 g4 g5 g6 g7 g8 g9 g10 g11 g12 g13 g14:Nat):List (Int×Option Nat×Option Nat):=[(4,some g1,none),(20,some g2,none),(36,some g3,none),(52,some g4,none),(68,some g5,none),(84,some g6,none),(100,some g7,none),(116,some g8,none),(164,some g9,none),(132,some g10,none),(21,none,some g11),(37,none,some g12),(53,none,some g13),(69,none,some g14)]
def qlF(a b c d e g h i j k l m n o:Nat):IFn:=irJ 282 [310,a,311,b,312,c,313,d,314,e,315,g,316,h,317,i,318,j,319,k,320,l,321,m,322,n,323,o]
def qG7{g1 g2 g3 g4 g5 g6 g7 g8 g9 g10 g11 g12 g13 g14:Nat}(hc:Ck P f (qlF g1 g2 g3 g4 g5 g6 g7 g8 g9 g10 g11 g12 g13 g14)):qc P f [] (.agg ((qHa g1 g2 g3 g4 g5 g6 g7 g8 g9 g10 g11 g12 g13 g14).flatMap qaW)):=by
 refine Al ?_;simp only[qlF,vI,simprocAttr];refine Aa ?_;simp[vZ,vP,zz4,qHa,qaW,fnO]
def qmE(c:Int):Int:=if zO c=true then qdh .u16 c 8 else c
def qme(o:Option Nat):clo (fnO o)=true:=by cases o<;>rfl
def qhY(a b:Nat):ICode:=icJ 232 [281,a,282,b] 7
def qq7(a b:Nat):IFn:=irJ 232 [281,a,282,b] [7] [qhY a b]
def qDv{g1 g2:Nat}(ws:List (Int×Option Nat×Option Nat))(hw:ws.length=14)(h2:qc P g2 [] (.agg (ws.flatMap qaW)))(b:Int)(r:Int×Option Nat×Option Nat)(hr:(ws.find? λx=>decide (x.1=b))=some r)
  {t':Tr AV}{h':Hp}(hwk:Wk 0 t' h' (mkT [(0,.h b),(2,.ptr 0 0)]) (mkH 0 [.v [.h 0,.nilf,.nilf]])) :
  S P 0 (qhY g1 g2) (zQ [.cell 2 3 true] λv' h'=>Frz h' v' (.agg (qaW r))) t' h':=by
 refine S.weak hwk (qh ?_);have hlen:(ws.flatMap qaW).length=42:=by rw[qY qoP,hw]
 have hcl:qt (ws.flatMap qaW)=true:=jk (λx=>by simp[qaW,qt,clo,qme])
 simp only[qhY,vI,simprocAttr];refine Aa ?_;refine h2.sc ?_;refine Aa ?_;refine SL.loop (α:=Nat) (λj=>[(0,.h b),(2,.ptr 0 0),(9,.agg (ws.flatMap qaW)),(10,.j (j:Int))]) (λ_=>[.v [.h 0,.nilf,.nilf]]) (λj=>j<=14/\((ws.drop j).find? λx=>decide (x.1=b))=some r) (λj=>14-j) 0 [0] ?_ ?_ ?_ rfl ?_ ?_
 .simp[vw,qa,hcl]
 .simp[vw]
 .simp
 .exact Ae
 rintro j ⟨hj,hI⟩ G ih;refine Ak ?_
 by_cases hlt:j<14
 .have hlt':(j:Int)<14:=Ab
  have hjl:j<ws.length:=Ab
  have hx:ws[j]?=some ws[j]:=Ae
  have hw1:=wS j;have hel:=qS (f:=qaW) (m:=3) qoP hx;have hb:j*3+3<=(ws.flatMap qaW).length:=Ab
  rw[zzf hjl,List.find?_cons]at hI;generalize hc0:ws[j]=x at hel hI;simp only[qaW]at hel;generalize hT:ws.flatMap qaW=T at hel hb hlen hcl;have hf1:=qme x.2.1;have hf2:=qme x.2.2;have hok:qQ [AV.h x.1,fnO x.2.1,fnO x.2.2]=true:=by obtain⟨_,o1,o2⟩:=x;cases o1<;>cases o2<;>rfl
  by_cases hxb:x.1=b
  .have hd:decide (x.1=b)=true:=Ae
   rw[hd]at hI;obtain rfl:x=r:=Ae
   have hok':zM (fnO x.2.1)=true/\zM (fnO x.2.2)=true:=by obtain⟨_,o1,o2⟩:=x;cases o1<;>cases o2<;>exact⟨rfl,rfl⟩
   simp +decide only[↓vS,vT,simprocAttr,hlt',hlt,hel,hb,hok,hok'.1,hok'.2,hxb];have fz:∀(h:Hp) (o:Option Nat),Frz h (fnO o) (fnO o):=λh o=>Frz.self (qme o)
   simp[vZ,qaW,hxb,fz]
  .have hd:decide (x.1=b)=false:=Ae
   rw[hd]at hI;simp +decide only[↓vS,vT,simprocAttr,hlt',hlt,hel,hb,hok,hxb,hw1];refine ih (j+1) ⟨hlt,hI⟩ Ab _ _ (Wk.mk _ _ [0] ?_ ?_ ?_ rfl)
   .simp[vw,qa,hcl,hT]
   .simp[vw]
   .simp
 .obtain rfl:j=14:=Ab
  have hd:ws.drop 14=[]:=Ae
  rw[hd]at hI;cases hI
def qK7{g1 g2:Nat}(hc:Ck P f (qq7 g1 g2))(h1:cWX P g1)(ws:List (Int×Option Nat×Option Nat))(hw:ws.length=14)(h2:qc P g2 [] (.agg (ws.flatMap qaW)))(c:Int)(r:Int×Option Nat×Option Nat)(hr:(ws.find? λx=>decide (x.1=qmE c))=some r) :
  qc P f [.h c] (.agg (qaW r)):=by
 refine Al ?_;have hX:=h1 c;unfold qmE at hr;simp only[qq7,vI,simprocAttr];cases hx:zO c with
 | true =>
  rw[hx]at hX hr;rw[if_pos rfl]at hr;refine Aa ?_;refine hX.sc ?_;refine Aa ?_;refine qDv ws hw h2 (qdh .u16 c 8) r hr (Wk.mk _ _ [0] ?_ ?_ ?_ rfl)
  .simp[vw]
  .simp[vw]
  .simp
 | false =>
  rw[hx]at hX hr;rw[if_neg (by simp)]at hr;refine Aa ?_;refine hX.sc ?_;refine Aa ?_;refine qDv ws hw h2 c r hr (Wk.mk _ _ [0] ?_ ?_ ?_ rfl)
  .simp[vw]
  .simp[vw]
  .simp
def cVm(m:Mac)(d:GData):List AV:=.w m.a :: .w m.x::(rI .u32 m.cl++(qq d++[.w m.told,.b m.over]))
def qmb{m:Mac}{d:GData}(h:m.cl.length=16):(cVm m d).length=29:=by
 show(rI .u32 m.cl++(qq d++[AV.w m.told,AV.b m.over])).length+2=29;rw[zzP,xv,h];rfl
def qz{m:Mac}{d:GData}:qt (cVm m d)=true:=by
 show qt (rI .u32 m.cl++(qq d++[AV.w m.told,AV.b m.over]))=true;rw[xO,qd];rfl
def qdw(a:Nat):IFn:=irJ 231 [281,a]
def qEd{g:Nat}(hc:Ck P f (qdw g))(hg:cWX P g)(m:Mac)(d:GData)(hl:m.cl.length=16)(i:Ins):Rd P f [.ptr 0 0,.agg (qD i)] [.v (cVm m d)] (.w (zP m i)):=by
 refine Rd.mk hc (by simp[jF,bnd,qD]) rfl ?_;have hX:=hg i.code;have g1:(cVm m d)[1]?=some (.w m.x):=rfl;unfold zP;simp only[qdw,qD,vI,simprocAttr];cases hx:zO i.code with
 | true =>
  rw[hx]at hX;refine Aa ?_;refine hX.sc ?_;simp +decide only[↓vS,vT,simprocAttr,g1]
 | false =>
  rw[hx]at hX;refine Aa ?_;refine hX.sc ?_;simp +decide only[↓vS,vT,simprocAttr]
def qJy(P:Program)(g:Nat):Prop:=∀(m:Mac) (d:GData),m.cl.length=16->∀i:Ins,Rd P g [.ptr 0 0,.agg (qD i)] [.v (cVm m d)] (.w (zP m i))
def qJn(P:Program)(g:Nat):Prop:=∀c:Int,c4L.contains c=true->c≠5->∃(b:Int) (o:Option Nat) (k:Nat),qc P g [.h c] (.agg (qaW (b,o,some k)))/\∀x y:Int,qc P k [.w x,.w y] (.b (ww (qB c) x y))
def qeG(a b:Nat):IFn:=irJ 174 [232,a,231,b]
def qMp{g1 g2:Nat}(hc:Ck P f (qeG g1 g2))(h1:qJn P g1)(h2:qJy P g2)(m:Mac)(d:GData)(hl:m.cl.length=16)(i:Ins)(hi:InsOk i)(hcls:ql i.code=4) :
  Upd P f [.ptr 0 0,.agg (qD i)] [.v (cVm m d)] (.j (qga m i)) [.v (cVm m d)]:=by
 refine Cq ?_;have g0:(cVm m d)[0]?=some (.w m.a):=rfl;have wk:IntKind.wrap .i64 i.k=i.k:=by have:=hi.k0;have:=hi.k1;exact B6
 have wt:IntKind.wrap .i64 i.jt=i.jt:=by have:=hi.t0;have:=hi.t1;exact B6
 have wf:IntKind.wrap .i64 i.jf=i.jf:=by have:=hi.f0;have:=hi.f1;exact B6
 have hmem:c4L.contains i.code=true:=by
  unfold ql at hcls;cases hcm:qM i.code<;>grind[wY,qz0]
 have hsec:=h2 m d hl i;unfold qga;simp only[qeG,qD,vI,simprocAttr]at hsec ⊢
 by_cases c5:i.code=5
 .refine Sa (zzA c5 wk) ?_;intro _;exact Ci
 obtain⟨b,o,k,hby,hho⟩:=h1 i.code hmem c5;simp only[qaW]at hby;rw[if_neg c5];refine Sa c5 ?_;refine qX ?_;refine Aa ?_;refine hby.pc ?_;simp +decide only[↓vS,vT,simprocAttr,fnO,g0];refine hsec.pc (vs:=[.ptr 0 0,.agg [.h i.code,.y i.jt,.y i.jf,.w i.k]]) [0] (Lent.of Af ?_) ?_
 .exact C5
 refine Aa ?_;refine(hho m.a (zP m i)).pc ?_;simp only[Hp.up,Hp.down];cases hh:ww (qB i.code) m.a (zP m i)with
 | true =>
  refine Sa wt ?_;intro _;exact Ci
 | false =>
  refine Sa wf ?_;intro _;exact Ci
def qqv{m:Mac}{d:GData}(h:m.cl.length=16)(v:Bool):List.take 28 (cVm m d)++(AV.b v::List.drop 29 (cVm m d))=cVm { m with over:=v } d:=by
 have e:List.take 26 (rI .u32 m.cl++(qq d++[AV.w m.told,AV.b m.over]))++(AV.b v::List.drop 27 (rI .u32 m.cl++(qq d++[AV.w m.told,AV.b m.over])))=rI .u32 m.cl++(qq d++[AV.w m.told,AV.b v]):=by
  have hl:(rI .u32 m.cl).length=16:=by rw[xv,h]
  rw[List.take_append,hl,zzt (by rw[hl];exact Af),zzk (by rw[zzP,hl];exact zzL 27),zzi];rfl
 show AV.w m.a::AV.w m.x::(List.take 26 (rI .u32 m.cl++(qq d++[AV.w m.told,AV.b m.over]))++(AV.b v::List.drop 27 (rI .u32 m.cl++(qq d++[AV.w m.told,AV.b m.over]))))=_;exact Fb
def qCO(c a b:Int):Int:=if c=52 then a / b else if c=100\/c=116 then qaV (decide (c=100)) (b % 32).toNat a else opM c a b
def qJo(P:Program)(g:Nat):Prop:=∀c:Int,c3L.contains c=true->∃(b:Int) (k:Nat) (o:Option Nat),qc P g [.h c] (.agg (qaW (b,some k,o)))/\∀x y:Int,u32 x->u32 y->(qB c=52->0<y)->qc P k [.w x,.w y] (.w (qCO (qB c) x y))
def qsV:∀c:Int,c3L.contains c=true->(qB c=52↔c=52\/c=60)/\(qB c=100↔c=100\/c=108)/\(qB c=116↔c=116\/c=124)/\(zO c=true↔c≠132/\8<=c % 16):=by
 intro c h;have key:∀c ∈ c3L,(qB c=52↔c=52\/c=60)/\(qB c=100↔c=100\/c=108)/\(qB c=116↔c=116\/c=124)/\(zO c=true↔c≠132/\8<=c % 16):=Af
 exact Ae
def qdv(a b c:Nat):IFn:=irJ 173 [231,a,111,b,232,c]
def qKY{g1 g2 g3:Nat}(hc:Ck P f (qdv g1 g2 g3))(h1:qJy P g1)(h3:qJo P g3)(m:Mac)(hm:MacOk m)(d:GData)(i:Ins)(hi:InsOk i)(hcls:ql i.code=3)(hz:(nuM m i).2=0) :
  Upd P f [.ptr 0 0,.agg (qD i)] [.v (cVm m d)] (.tup []) [.v (cVm (nuM m i).1 d)]:=by
 refine Cq ?_;have hl:=qmb (d:=d) hm.len;have g0:(cVm m d)[0]?=some (.w m.a):=rfl;have s0:∀v:Int,AV.w v::List.drop 1 (cVm m d)=cVm { m with a:=v } d:=λ_=>rfl
 have so:=qqv (d:=d) hm.len true
 have hmem:c3L.contains i.code=true:=Gr
 obtain⟨e52,e100,e116,eX⟩:=qsV i.code hmem
 have hB:u32 (zP m i):=by
  unfold zP;split
  .exact hm.x
  .exact⟨hi.k0,hi.k1⟩
 obtain⟨b,k,o,hby,hres⟩:=h3 i.code hmem;have hsec:=h1 m d hm.len i;have hr:=hres m.a (zP m i) hm.a hB;have hb0:=hB.1;unfold nuM at hz ⊢;simp only[qaW]at hby;simp only[qdv,qD,vI,simprocAttr]at hsec ⊢;generalize zP m i=y at hz hsec hr hb0 ⊢;refine Aa ?_;refine hsec.sc (vs:=[.ptr 0 0,.agg [.h i.code,.y i.jt,.y i.jf,.w i.k]]) [0] (Lent.of Af ?_) ?_
 .exact C5
 by_cases c60:i.code=60/\y=0
 .have b52:=e52.2 (.inr c60.1);have hX:zO i.code=true:=Ae
  rw[if_pos b52,if_neg Ab,if_pos hX];refine Sa (zzA c60.1 (zzA c60.2 (zzA hl so))) ?_;intro _;exact Ci
 have h52:i.code=52->y≠0:=Ag
 have h60:i.code=60->y≠0:=Ab
 have hsh:(i.code=100\/i.code=116)->y<=31:=λhs=>by
  have hX:zO i.code=false:=by
   cases h:zO i.code with
   | false=>rfl
   | true =>
    have:=(eX.1 h).2;rcases hs with hs|hs<;>(rw[hs]at this;omega)
  have hb:qB i.code=100\/qB i.code=116:=Ag
  have hn:¬qB i.code=52:=by rcases hb with hb|hb<;>(rw[hb];decide)
  rw[if_neg hn,if_pos hb]at hz
  exact Ag
 have hnu:(if qB i.code=52 then(if 0<y then(({ m with a:=m.a / y }:Mac),(0:Int))else if zO i.code=true then({ m with over:=true },0)else(m,44))else if qB i.code=100\/qB i.code=116 then(if zO i.code=false/\31<y then(m,45)else({ m with a:=qaV (decide (qB i.code=100)) (y % 32).toNat m.a },0))else({ m with a:=opM (qB i.code) m.a y },0)).1={ m with a:=qCO (qB i.code) m.a y }:=by
  unfold qCO
  exact Ag
 rw[hnu]
 have hr:=hr λb52=>Ag
 generalize qCO (qB i.code) m.a y=R at hr ⊢;clear hz hnu hres
 by_cases d52:i.code=52
 .have hy0:=h52 d52;refine Sa (zzA d52 hy0) ?_;refine qX ?_;refine Aa ?_;exact Aq
 by_cases d60:i.code=60
 .have hy0:=h60 d60;refine Sa (zzA d60 hy0) ?_;refine qX ?_;refine Aa ?_;exact Aq
 by_cases d100:i.code=100
 .have hy1:=hsh (.inl d100);have hy0:¬31<y:=Ab
  refine Sa (zzA d100 hy0) ?_;refine qX ?_;refine Aa ?_;exact Aq
 by_cases d116:i.code=116
 .have hy1:=hsh (.inr d116);have hy0:¬31<y:=Ab
  refine Sa (zzA d116 hy0) ?_;refine qX ?_;refine Aa ?_;exact Aq
 refine Sa (zzA d52 (zzA d60 (zzA d100 d116))) ?_;refine qX ?_;refine Aa ?_;exact Aq
structure Prs (P:Program) (g:Nat->Nat):Prop where
 p1:∀a b:Int,qc P (g 1) [.w a,.w b] (.w (opM 4 a b))
 p2:∀a b:Int,qc P (g 2) [.w a,.w b] (.w (opM 20 a b))
 p3:∀a b:Int,qc P (g 3) [.w a,.w b] (.w (opM 36 a b))
 p4:∀a b:Int,0<=a->a<=4294967295->0<b->qc P (g 4) [.w a,.w b] (.w (a / b))
 p5:∀a b:Int,qc P (g 5) [.w a,.w b] (.w (opM 68 a b))
 p6:∀a b:Int,qc P (g 6) [.w a,.w b] (.w (opM 84 a b))
 p7:∀a b:Int,0<=a->a<=4294967295->0<=b->qc P (g 7) [.w a,.w b] (.w (qaV true (b % 32).toNat a))
 p8:∀a b:Int,0<=a->a<=4294967295->0<=b->qc P (g 8) [.w a,.w b] (.w (qaV false (b % 32).toNat a))
 p9:∀a b:Int,qc P (g 9) [.w a,.w b] (.w (opM 164 a b))
 p10:∀a b:Int,qc P (g 10) [.w a,.w b] (.w (opM 132 a b))
 p11:∀a b:Int,qc P (g 11) [.w a,.w b] (.b (ww 21 a b))
 p12:∀a b:Int,qc P (g 12) [.w a,.w b] (.b (ww 37 a b))
 p13:∀a b:Int,qc P (g 13) [.w a,.w b] (.b (ww 53 a b))
 p14:∀a b:Int,qc P (g 14) [.w a,.w b] (.b (ww 69 a b))
def qKD(g:Nat->Nat):List (Int×Option Nat×Option Nat):=qHa (g 1) (g 2) (g 3) (g 4) (g 5) (g 6) (g 7) (g 8) (g 9) (g 10) (g 11) (g 12) (g 13) (g 14)
def qqn:∀c:Int,c3L.contains c=true\/(c4L.contains c=true/\c≠5)->qmE c=qB c:=by
 have k3:∀c ∈ c3L,qmE c=qB c:=Af
 have k4:∀c ∈ c4L,c≠5->qmE c=qB c:=Af
 exact Ag
def qEN:∀c:Int,c3L.contains c=true->qB c=4\/qB c=20\/qB c=36\/qB c=52\/qB c=68\/qB c=84\/qB c=100\/qB c=116\/qB c=164\/qB c=132:=by
 have k:∀c ∈ c3L,qB c=4\/qB c=20\/qB c=36\/qB c=52\/qB c=68\/qB c=84\/qB c=100\/qB c=116\/qB c=164\/qB c=132:=Af
 exact Ae
def qEO:∀c:Int,c4L.contains c=true->c≠5->qB c=21\/qB c=37\/qB c=53\/qB c=69:=by
 have k:∀c ∈ c4L,c≠5->qB c=21\/qB c=37\/qB c=53\/qB c=69:=Af
 exact Ae
def byN{g:Nat->Nat}(hp:Prs P g)(hb:∀(c:Int) (r:Int×Option Nat×Option Nat),((qKD g).find? λx=>decide (x.1=qmE c))=some r->qc P f [.h c] (.agg (qaW r))):qJo P f:=by
 intro c hc;have hbv:=qqn c (.inl hc);have hb:=hb c;rw[hbv]at hb;have n1:∀{x y:Int},u32 x->u32 y->0<=x/\x<=4294967295/\0<=y:=λh h'=>⟨h.1,h.2,h'.1⟩
 rcases qEN c hc with e|e|e|e|e|e|e|e|e|e<;>rw[e]at hb ⊢
 .exact⟨4,g 1,none,hb _ rfl,λx y _ _ _=>hp.p1 x y⟩
 .exact⟨20,g 2,none,hb _ rfl,λx y _ _ _=>hp.p2 x y⟩
 .exact⟨36,g 3,none,hb _ rfl,λx y _ _ _=>hp.p3 x y⟩
 .exact⟨52,g 4,none,hb _ rfl,λx y hx _ h0=>hp.p4 x y hx.1 hx.2 (h0 rfl)⟩
 .exact⟨68,g 5,none,hb _ rfl,λx y _ _ _=>hp.p5 x y⟩
 .exact⟨84,g 6,none,hb _ rfl,λx y _ _ _=>hp.p6 x y⟩
 .exact⟨100,g 7,none,hb _ rfl,λx y hx hy _=>hp.p7 x y hx.1 hx.2 hy.1⟩
 .exact⟨116,g 8,none,hb _ rfl,λx y hx hy _=>hp.p8 x y hx.1 hx.2 hy.1⟩
 .exact⟨164,g 9,none,hb _ rfl,λx y _ _ _=>hp.p9 x y⟩
 .exact⟨132,g 10,none,hb _ rfl,λx y _ _ _=>hp.p10 x y⟩
def byJ{g:Nat->Nat}(hp:Prs P g)(hb:∀(c:Int) (r:Int×Option Nat×Option Nat),((qKD g).find? λx=>decide (x.1=qmE c))=some r->qc P f [.h c] (.agg (qaW r))):qJn P f:=by
 intro c hc c5;have hbv:=qqn c (.inr ⟨hc,c5⟩);have hb:=hb c;rw[hbv]at hb;rcases qEO c hc c5 with e|e|e|e<;>rw[e]at hb ⊢
 .exact⟨21,none,g 11,hb _ rfl,hp.p11⟩
 .exact⟨37,none,g 12,hb _ rfl,hp.p12⟩
 .exact⟨53,none,g 13,hb _ rfl,hp.p13⟩
 .exact⟨69,none,g 14,hb _ rfl,hp.p14⟩
def qqu{m:Mac}{d:GData}{k:Nat}{c:Int}(h:m.cl[k]?=some c):(cVm m d)[2+k]?=some (.w c):=by
 rw[show 2+k=k+2 from Ab]
 show(rI .u32 m.cl++(qq d++[AV.w m.told,AV.b m.over]))[k]?=_;rw[zzj (by rw[xv];exact Ag),xl,h];rfl
def qw4{m:Mac}{d:GData}(h:m.cl.length=16):List.take 9 (List.drop 18 (cVm m d))=qq d:=by
 show List.take 9 (List.drop 16 (rI .u32 m.cl++(qq d++[AV.w m.told,AV.b m.over])))=_;have hl:(rI .u32 m.cl).length=16:=by rw[xv,h]
 rw[List.drop_append,hl,zzk (by rw[hl];exact Ab)];rfl
def qeF(a:Nat):IFn:=irJ 172 [111,a]
def qMo{g:Nat}(hc:Ck P f (qeF g))(m:Mac)(d:GData)(n:Nat)(hn:n<16):Upd P f [.ptr 0 0,.w (n:Int)] [.v (cVm m d)] (.ptr 0 (2+n)) [.v (cVm m d)]:=by
 refine Upd.mk hc (by simp[jF,bnd]) (by simp) ?_;have hn':¬(16:Int)<=(n:Int):=Ab
 simp only[qeF,vI,simprocAttr];simp +decide only[↓vS,vT,simprocAttr,hn',hn,zzU];intro _;exact Ci
def qwV(P:Program)(g:Nat):Prop:=∀(m:Mac) (d:GData) (n:Nat),n<16->Upd P g [.ptr 0 0,.w (n:Int)] [.v (cVm m d)] (.ptr 0 (2+n)) [.v (cVm m d)]
def c1L:List Int:=[32,128,0,96,129,1,97]
theorem qHH:∀x ∈ vf,x.2.2=1->c1L.contains x.1=true:=Af
def qeH(a b c:Nat):IFn:=irJ 171 [230,a,111,b,172,c]
def qMq{g1 g2 g3:Nat}(hc:Ck P f (qeH g1 g2 g3))(h1:qr8 P g1)(h3:qwV P g3)(m:Mac)(hm:MacOk m)(d:GData)(hd:DatOk d)(i:Ins)(hi:InsOk i)(hcls:ql i.code=1)(hz:(qcp m i d).2=0) :
  Upd P f [.ptr 0 0,.agg (qD i)] [.v (cVm m d)] (.tup []) [.v (cVm (qcp m i d).1 d)]:=by
 refine Cq ?_;have hl:=qmb (d:=d) hm.len;have g0:(cVm m d)[0]?=some (.w m.a):=rfl;have s0:∀v:Int,AV.w v::List.drop 1 (cVm m d)=cVm { m with a:=v } d:=λ_=>rfl
 have s1:∀v:Int,List.take 1 (cVm m d)++(AV.w v::List.drop 2 (cVm m d))=cVm { m with x:=v } d:=λ_=>rfl
 have hdt:=qw4 (d:=d) hm.len
 have hmem:c1L.contains i.code=true:=by
  unfold ql at hcls;cases hcm:qM i.code<;>grind[wY,qHH]
 simp only[c1L,List.contains_iff_mem,zzc,List.not_mem_nil,or_false]at hmem;have hw:=h1 d hd i.k hi.k0 hi.k1;unfold qkN at hw;unfold qcp qgE at hz ⊢;have k0:=hi.k0;simp only[qeH,qD,vI,simprocAttr];rcases hmem with e|e|e|e|e|e|e
 .by_cases hb:i.k % 4≠0\/64<=i.k
  .exact Ae
  .rw[if_neg hb]at hw;refine Sa e ?_;refine qX ?_;refine Sa (zzA hl hdt) ?_;refine hw.pc ?_;refine Sa (zzA hl s0) ?_;intro _;refine⟨[0],?_⟩;simp only[e,if_neg hb];simp[vw,qa,qz]
 .refine Sa (zzA e (zzA hl s0)) ?_;intro _;exact Dk
 .refine Sa (zzA e (zzA hl s0)) ?_;intro _;exact Dk
 rotate_left
 .refine Sa (zzA e (zzA hl s1)) ?_;intro _;exact Dk
 .refine Sa (zzA e (zzA hl s1)) ?_;intro _;exact Dk
 .have hb:¬15<i.k:=Ag
  obtain⟨n,hn⟩:∃n:Nat,i.k=(n:Int):=⟨i.k.toNat,Ab⟩
  have hk16:n<16:=Ab
  obtain⟨c,hcx⟩:∃c,m.cl[n]?=some c:=⟨_,zzE (by rw[hm.len];exact Ab)⟩;have gc:=qqu (m:=m) (d:=d) hcx;have htn:i.k.toNat=n:=Ab
  refine Sa (zzA e hn) ?_;refine(h3 m d n hk16).sc (vs:=[.ptr 0 0,.w (n:Int)]) [0] (Lent.of Af ?_) ?_
  .exact C5
  refine D4 ?_;refine Sa (zzA gc (zzA hl s1)) ?_;intro _;refine⟨[0],?_⟩;have hb':¬(15:Int)<(n:Int):=Ab
  simp[vw,qa,qz,e,hn,hb',hcx]
 .have hb:¬15<i.k:=Ag
  obtain⟨n,hn⟩:∃n:Nat,i.k=(n:Int):=⟨i.k.toNat,Ab⟩
  have hk16:n<16:=Ab
  obtain⟨c,hcx⟩:∃c,m.cl[n]?=some c:=⟨_,zzE (by rw[hm.len];exact Ab)⟩;have gc:=qqu (m:=m) (d:=d) hcx;have htn:i.k.toNat=n:=Ab
  refine Sa (zzA e hn) ?_;refine(h3 m d n hk16).sc (vs:=[.ptr 0 0,.w (n:Int)]) [0] (Lent.of Af ?_) ?_
  .exact C5
  refine D4 ?_;refine Sa (zzA gc (zzA hl s0)) ?_;intro _;refine⟨[0],?_⟩;have hb':¬(15:Int)<(n:Int):=Ab
  simp[vw,qa,qz,e,hn,hb',hcx]
def qw6{m:Mac}{d:GData}{k:Nat}(h:k<m.cl.length)(v:Int):List.take (2+k) (cVm m d)++(AV.w v::List.drop (2+k+1) (cVm m d))=cVm { m with cl:=m.cl.set k v } d:=by
 obtain⟨R,hR⟩:∃R,R=qq d++[AV.w m.told,AV.b m.over]:=⟨_,rfl⟩
 have e:List.take k (rI .u32 m.cl++R)++(AV.w v::List.drop (k+1) (rI .u32 m.cl++R))=rI .u32 (m.cl.set k v)++R:=by
  rw[List.take_append_of_le_length (by rw[xv];exact Ab),List.drop_append_of_le_length (by rw[xv];exact Ab),<- qns h v,zzi];rfl
 rw[show 2+k=k+2 from Ab]
 subst hR;show AV.w m.a::AV.w m.x::(List.take k (rI .u32 m.cl++(qq d++[AV.w m.told,AV.b m.over]))++(AV.w v::List.drop (k+1) (rI .u32 m.cl++(qq d++[AV.w m.told,AV.b m.over]))))=_;exact Fb
def qqw{m:Mac}{d:GData}(h:m.cl.length=16)(v:Int):List.take 27 (cVm m d)++(AV.w v::List.drop 28 (cVm m d))=cVm { m with told:=v } d:=by
 have e:List.take 25 (rI .u32 m.cl++(qq d++[AV.w m.told,AV.b m.over]))++(AV.w v::List.drop 26 (rI .u32 m.cl++(qq d++[AV.w m.told,AV.b m.over])))=rI .u32 m.cl++(qq d++[AV.w v,AV.b m.over]):=by
  have hl:(rI .u32 m.cl).length=16:=by rw[xv,h]
  rw[List.take_append,hl,zzt (by rw[hl];exact Af),List.drop_append,hl,zzk (by rw[hl];exact Af),zzi];rfl
 show AV.w m.a::AV.w m.x::(List.take 25 (rI .u32 m.cl++(qq d++[AV.w m.told,AV.b m.over]))++(AV.w v::List.drop 26 (rI .u32 m.cl++(qq d++[AV.w m.told,AV.b m.over]))))=_;exact Fb
def qDg:∀x ∈ vf,(x.2.2=2->x.1=2\/x.1=3)/\(x.2.2=5->x.1=6\/x.1=22)/\(x.2.2=6->x.1=7\/x.1=135)/\1<=x.2.2/\x.2.2<=6:=Af
def qE4(P:Program)(g:Nat):Prop:=∀(m:Mac),MacOk m->∀d:GData,DatOk d->∀i:Ins,InsOk i->ql i.code=1->(qcp m i d).2=0->Upd P g [.ptr 0 0,.agg (qD i)] [.v (cVm m d)] (.tup []) [.v (cVm (qcp m i d).1 d)]
def qJv(P:Program)(g:Nat):Prop:=∀(m:Mac),MacOk m->∀(d:GData) (i:Ins),InsOk i->ql i.code=3->(nuM m i).2=0->Upd P g [.ptr 0 0,.agg (qD i)] [.v (cVm m d)] (.tup []) [.v (cVm (nuM m i).1 d)]
def qE1(P:Program)(g:Nat):Prop:=∀(m:Mac) (d:GData),m.cl.length=16->∀i:Ins,InsOk i->ql i.code=4->Upd P g [.ptr 0 0,.agg (qD i)] [.v (cVm m d)] (.j (qga m i)) [.v (cVm m d)]
def qf9(a b c d e g:Nat):IFn:=irJ 113 [112,a,171,b,172,c,173,d,174,e,111,g]
def qM3{g1 g2 g3 g4 g5 g6:Nat}(hc:Ck P f (qf9 g1 g2 g3 g4 g5 g6))(h1:cOf P g1)(h2:qE4 P g2)(h3:qwV P g3)(h4:qJv P g4)(h5:qE1 P g5)(m:Mac)(hm:MacOk m)(d:GData)(hd:DatOk d)(i:Ins)(hi:InsOk i)(hz:(doR m i d).2.2=0) :
  Upd P f [.ptr 0 0,.agg (qD i)] [.v (cVm m d)] (.j (doR m i d).2.1) [.v (cVm (doR m i d).1 d)]:=by
 refine Cq ?_;have hl:=qmb (d:=d) hm.len;have g0:(cVm m d)[0]?=some (.w m.a):=rfl;have g1':(cVm m d)[1]?=some (.w m.x):=rfl;have s0:∀v:Int,AV.w v::List.drop 1 (cVm m d)=cVm { m with a:=v } d:=λ_=>rfl
 have s1:∀v:Int,List.take 1 (cVm m d)++(AV.w v::List.drop 2 (cVm m d))=cVm { m with x:=v } d:=λ_=>rfl
 have hof:=h1 i.code;unfold doR at hz ⊢;have hkn:¬zI i.code=false:=Ag
 rw[if_neg hkn]at hz ⊢
 obtain⟨x,hcm⟩:∃x,qM i.code=some x:=by
  unfold zI at hkn;cases h:qM i.code<;>simp_all
 obtain⟨hxm,hxc⟩:=wY hcm;have hcl:ql i.code=x.2.2:=F5
 obtain⟨t2,t5,t6,t1a,t1b⟩:=qDg x hxm;rw[<- hcl,hxc]at t2 t5 t6;rw[<- hcl]at t1a t1b;have hcase:ql i.code=1\/ql i.code=2\/ql i.code=3\/ql i.code=4\/ql i.code=5\/ql i.code=6:=Ab
 simp only[qf9,qD,vI,simprocAttr];rcases hcase with c|c|c|c|c|c
 .rw[if_pos (.inl c)]at hz ⊢;have hu:=h2 m hm d hd i hi c hz;simp only[qD]at hu;refine Aa ?_;refine hof.sc ?_;refine Sa c ?_;refine hu.sc (vs:=[.ptr 0 0,.agg [.h i.code,.y i.jt,.y i.jf,.w i.k]]) [0] (Lent.of Af ?_) ?_
  .exact C5
  refine D4 ?_;refine Aa ?_;intro _;exact Ci
 .rw[if_pos (.inr (.inl c))]at hz ⊢;unfold qcp qgE at hz ⊢
  have hb:¬15<i.k:=Ag
  have k0:=hi.k0;obtain⟨n,hn⟩:∃n:Nat,i.k=(n:Int):=⟨i.k.toNat,Ab⟩
  have hk16:n<16:=Ab
  have sc:=λv=>qw6 (m:=m) (d:=d) (k:=n) (by rw[hm.len];exact Ab) v
  have hle:2+n+1<=29:=Ab
  have hb':¬(15:Int)<(n:Int):=Ab
  rcases t2 c with e|e
  .refine Aa ?_;refine hof.sc ?_;simp +decide only[↓vS,vT,simprocAttr,c,e,hn,hl,g0,g1'];refine(h3 m d n hk16).sc (vs:=[.ptr 0 0,.w (n:Int)]) [0] (Lent.of Af ?_) ?_
   .exact C5
   refine D4 ?_;exact Fv
  .refine Aa ?_;refine hof.sc ?_;simp +decide only[↓vS,vT,simprocAttr,c,e,hn,hl,g0,g1'];refine(h3 m d n hk16).sc (vs:=[.ptr 0 0,.w (n:Int)]) [0] (Lent.of Af ?_) ?_
   .exact C5
   refine D4 ?_;exact Fv
 .rw[if_neg Ab,if_pos c]at hz ⊢;have hu:=h4 m hm d i hi c hz;simp only[qD]at hu;refine Aa ?_;refine hof.sc ?_;refine Sa c ?_;refine hu.sc (vs:=[.ptr 0 0,.agg [.h i.code,.y i.jt,.y i.jf,.w i.k]]) [0] (Lent.of Af ?_) ?_
  .exact C5
  refine D4 ?_;refine Aa ?_;intro _;exact Ci
 .rw[if_neg Ab,if_neg Ab,if_pos c];have hu:=h5 m d hm.len i hi c;simp only[qD]at hu;refine Aa ?_;refine hof.sc ?_;refine Sa c ?_;refine hu.sc (vs:=[.ptr 0 0,.agg [.h i.code,.y i.jt,.y i.jf,.w i.k]]) [0] (Lent.of Af ?_) ?_
  .exact C5
  refine D4 ?_;refine Aa ?_;intro _;exact Ci
 .rw[if_neg Ab,if_neg Ab,if_neg Ab];have tt:=λv=>qqw (d:=d) hm.len v
  obtain⟨m1,hm1⟩:∃m1,m1={ m with told:=i.k }:=⟨_,rfl⟩;have tk:=tt i.k;rw[<- hm1]at tk;have hl1:(cVm m1 d).length=29:=Ag
  have to:List.take 28 (cVm m1 d)++(AV.b true::List.drop 29 (cVm m1 d))=cVm { m1 with over:=true } d:=qqv (by rw[hm1];exact hm.len) true;obtain⟨m2,hm2⟩:∃m2,m2={ m1 with over:=true }:=⟨_,rfl⟩;rw[<- hm2]at to;have hl2:(cVm m2 d).length=29:=Ag
  have g02:(cVm m2 d)[0]?=some (.w m.a):=by rw[hm2,hm1];rfl
  have t3:List.take 27 (cVm m2 d)++(AV.w m.a::List.drop 28 (cVm m2 d))=cVm { m2 with told:=m.a } d:=qqw (by rw[hm2,hm1];exact hm.len) m.a;rcases t5 c with e|e
  .refine Aa ?_;refine hof.sc ?_;simp +decide only[↓vS,vT,simprocAttr,c,e,hl,tk,hl1,to];intro _;refine⟨[0],?_⟩;simp[vw,qa,qz,qo0,e,hm2,hm1]
  .refine Aa ?_;refine hof.sc ?_;simp +decide only[↓vS,vT,simprocAttr,c,e,hl,tk,hl1,to,hl2,g02,t3];intro _;refine⟨[0],?_⟩;simp[vw,qa,qz,qo0,e,hm2,hm1]
 .rw[if_pos (.inr (.inr c))]at hz ⊢;unfold qcp qgE at hz ⊢;rcases t6 c with e|e
  .refine Aa ?_;refine hof.sc ?_;refine Sa (zzA c (zzA e (zzA hl (zzA g0 s1)))) ?_;intro _;exact Dk
  .refine Aa ?_;refine hof.sc ?_;refine Sa (zzA c (zzA e (zzA hl (zzA g1' s0)))) ?_;intro _;exact Dk
end
section
def qmC{n:Nat}:∀{L:List Ins}{j:Nat},qeX n j L=none->∀(k:Nat) (i:Ins),L[k]?=some i->qc3 i (n-1-(j+k))=0
 | [],_,_,_,_,h=>by cases h
 | a::L,j,hb,k,i,h=>by
  rw[qeo]at hb
  by_cases h0:qc3 a (n-1-j)=0
  .rw[if_pos h0]at hb;cases k with
   | zero=>cases h;exact h0
   | succ k =>
    have:=qmC hb k i Gw;rw[show j+(k+1)=j+1+k from Ab];exact this
  exact Ae
theorem qmD{n:Nat}:∀{L:List Ins}{j:Nat}{x:Nat×Int},qeX n j L=some x->x.2≠0
 | [],_,_,h=>by cases h
 | a::L,j,x,h=>by
  rw[qeo]at h
  by_cases h0:qc3 a (n-1-j)=0
  .rw[if_pos h0]at h;exact qmD h
  exact Ag
def qwB{p:List Ins}{u:List Nat}(h:(atU p u).2=0):p.length≠0/\p.length<=4096/\(∀(k:Nat) (i:Ins),p[k]?=some i->qc3 i (p.length-1-k)=0)/\ql (qfg p)=5/\u=[]:=by
 unfold atU at h
 by_cases hb:p.length=0\/4096<p.length
 .rw[if_pos hb]at h;cases h
 rw[if_neg hb]at h;cases hba:qeX p.length 0 p with
 | some x =>
  rw[hba]at h
  grind[qmD]
 | none =>
  rw[hba]at h;have h:(if ql (qfg p)=5 then(match u with | []=>((0,0):Nat×Int)|a::_=>(a,61))else(p.length-1,46)).2=0:=h
  by_cases h5:ql (qfg p)=5
  .rw[if_pos h5]at h;refine⟨Ab,Ab,λk i hk=>?_,h5,?_⟩
   .have:=qmC hba k i hk;rwa [Nat.zero_add]at this
   .cases u with
    | nil=>rfl
    | cons a u=>cases h
  exact Ae
def qtE{i:Ins}{n:Nat}(h:qc3 i n=0):qgr i=false/\vx i=false/\qaX i=false/\qaY i=false/\qaZ i=false/\qa0 i n=false:=by
 unfold qc3 at h;revert h;cases qgr i<;>cases vx i<;>cases qaX i<;>cases qaY i<;>cases qaZ i<;>cases qa0 i n<;>simp
def quT{m:Mac}{i:Ins}(hi:InsOk i){d:GData}{n:Nat}(h:qc3 i n=0):(doR m i d).2.2=0:=by
 obtain⟨b1,b2,b3,b4,b5,_⟩:=qtE h;have hkn:¬zI i.code=false:=by unfold qgr at b1;simpa using b1
 unfold doR;rw[if_neg hkn]
 by_cases hA:ql i.code=1\/ql i.code=2\/ql i.code=6
 .rw[if_pos hA];show(qcp m i d).2=0;unfold qcp
  have hc:¬(qgE i=true/\15<i.k):=by
   rintro⟨h1,h2⟩;unfold qgE at h1;have h16:16<=i.k:=Ab
   unfold qaX at b3;have h2c:=qFb (c:=i.code);simp only[zzO,zzb]at h1
   have:(decide (i.code=96)||decide (i.code=97)||decide (ql i.code=2))=true:=by
    simp only[zzO,zzb];rw[h2c];rcases h1 with((h1|h1)|h1)|h1
    .exact .inl (.inl h1)
    .exact .inl (.inr h1)
    .exact .inr (.inl h1)
    .exact .inr (.inr h1)
   rw[this,Bool.true_and]at b3;simp[h16]at b3
  rw[if_neg hc]
  by_cases c32:i.code=32
  .rw[if_pos c32]
   have:¬(i.k % 4≠0\/64<=i.k):=by
    intro h';unfold vx at b2;rw[c32]at b2;rcases h' with h'|h'<;>simp[h']at b2
   rw[if_neg this]
  rw[if_neg c32]
  repeat' (first|rfl|(split))
 rw[if_neg hA]
 by_cases c3:ql i.code=3
 .rw[if_pos c3];show(nuM m i).2=0
  have hmem:c3L.contains i.code=true:=by
   have c3':=c3;unfold ql at c3';cases hcm:qM i.code with
   | none=>rw[hcm]at c3';cases c3'
   | some x =>
    rw[hcm]at c3';obtain⟨q1,q2⟩:=wY hcm;rw[<- q2];exact qsI x q1 c3'
  obtain⟨e52,e100,e116,eX⟩:=qsV i.code hmem;unfold nuM
  by_cases b52:qB i.code=52
  .rw[if_pos b52]
   by_cases hy:0<zP m i
   .rw[if_pos hy]
   .rw[if_neg hy]
    by_cases hX:zO i.code=true
    .rw[if_pos hX]
    .exfalso
     have hc:i.code=52:=by
      rcases e52.1 b52 with h'|h'
      .exact h'
      .exact Ae
     unfold qaY at b4;unfold zP at hy;rw[if_neg hX]at hy;have:i.k=0:=by have:=hi.k0;exact Ab
     simp[hc,this]at b4
  .rw[if_neg b52]
   by_cases bs:qB i.code=100\/qB i.code=116
   .rw[if_pos bs]
    by_cases hq:zO i.code=false/\31<zP m i
    .exfalso
     obtain⟨hX,h31⟩:=hq
     have hc:i.code=100\/i.code=116:=by
      rcases bs with bs|bs
      .rcases e100.1 bs with h'|h'
       .exact .inl h'
       .have:zO i.code=true:=Ae
        rw[hX]at this;cases this
      .rcases e116.1 bs with h'|h'
       .exact .inr h'
       .have:zO i.code=true:=Ae
        rw[hX]at this;cases this
     unfold zP at h31;rw[hX,if_neg (by simp)]at h31;unfold qaZ at b5;rcases hc with hc|hc<;>simp[hc]at b5<;>omega
    .rw[if_neg hq]
   .rw[if_neg bs]
 rw[if_neg c3]
 exact Ag
def qFr{p:List Ins}(hok:∀i ∈ p,InsOk i)(hall:∀(k:Nat) (i:Ins),p[k]?=some i->qc3 i (p.length-1-k)=0)(hlast:ql (qfg p)=5){k:Nat}{i:Ins}(h:p[k]?=some i)(m:Mac)(d:GData) :
  (doR m i d).1.over=true\/k+1+(doR m i d).2.1.toNat<p.length:=by
 have hk:k<p.length:=Ag
 have hi:=hok i Ag;obtain⟨b1,_,_,_,_,b6⟩:=qtE (hall k i h);have hkn:¬zI i.code=false:=by unfold qgr at b1;exact Ae
 have notlast:ql i.code≠5->k+1<p.length:=by
  intro hc
  by_cases e:k=p.length-1
  .exfalso
   apply hc;have:qfg p=i.code:=by unfold qfg;rw[zzs,<- e,h];rfl
   rw[<- this];exact Ab
  .exact Ab
 unfold doR;rw[if_neg hkn]
 by_cases hA:ql i.code=1\/ql i.code=2\/ql i.code=6
 .rw[if_pos hA]
  exact Ag
 rw[if_neg hA]
 by_cases c3:ql i.code=3
 .rw[if_pos c3]
  exact Ae
 rw[if_neg c3]
 by_cases c4:ql i.code=4
 .rw[if_pos c4];right;show k+1+(qga m i).toNat<p.length;unfold qa0 at b6;unfold qga
  by_cases c5:i.code=5
  .rw[if_pos c5]at b6 ⊢;have hk0:=hi.k0;have:¬((p.length-1-k:Nat):Int)<=i.k:=Ae
   exact Ab
  .rw[if_neg c5]at b6 ⊢;rw[c4]at b6;have hh:¬((p.length-1-k:Nat):Int)<=hiM i:=Ae
   have h1:=hi.t0;have h2:=hi.f0;unfold hiM at hh;split at hh<;>split<;>omega
 rw[if_neg c4];left;rfl
end
section
variable {P:Program}{f:Nat}
def qLz(P:Program)(g:Nat):Prop:=∀(m:Mac),MacOk m->∀d:GData,DatOk d->∀i:Ins,InsOk i->(doR m i d).2.2=0->Upd P g [.ptr 0 0,.agg (qD i)] [.v (cVm m d)] (.j (doR m i d).2.1) [.v (cVm (doR m i d).1 d)]
structure PrgGood (p:List Ins):Prop where
 len:p.length<=4096
 ne:p.length≠0
 ins:∀i ∈ p,InsOk i
 one:∀(k:Nat) (i:Ins),p[k]?=some i->qc3 i (p.length-1-k)=0
 last:ql (qfg p)=5
def qfO(p:List Ins)(d:GData):Int×Nat×List Nat×Int:=qgR p d (p.length+1) ql1 0 46 []
def qAa:u32 0:=⟨Af,Af⟩
def qoU{p:List Ins}(hok:∀i ∈ p,InsOk i){d:GData}(hd:DatOk d):∀(n:Nat) (m:Mac) (a:Nat) (bh:Int) (l:List Nat),MacOk m->u32 (qgR p d n m a bh l).1
 | 0,_,_,_,_,_=>qAa
 | n+1,m,a,bh,l,hm=>by
  rw[qgm];cases hp:p[a]? with
  | none=>exact qAa
  | some i =>
   simp only;have h2:=(qsf hm (hok i (zzM hp)) hd).1;split
   .exact qAa
   .split
    .exact h2.told
    .exact qoU hok hd n _ _ _ _ h2
theorem qoT{p:List Ins}(hok:∀i ∈ p,InsOk i){d:GData}(hd:DatOk d):u32 (qfO p d).1:=qoU hok hd _ _ _ _ _ qpE
def Own.mkD{f fd:Nat}{i:IFn}{vs:List AV}{v:AV}{bs:List Blk}(hc:qpo P f fd i=true)(hcl:qt vs=true)(hV:VDf P 0 fd i.body (zQ i.res (qwh v bs)) (qb0 vs 0 .leaf) H0):Own P f vs v bs:=Own.of_SC hcl (SC.mkD hc hV)
def qw5{m:Mac}{d:GData}(h:m.cl.length=16):(cVm m d)[28]?=some (.b m.over):=by
 show(rI .u32 m.cl++(qq d++[AV.w m.told,AV.b m.over]))[26]?=_;rw[zzr (by rw[xv,h];exact Af),xv,h];rfl
def qw7{m:Mac}{d:GData}(h:m.cl.length=16):(cVm m d)[27]?=some (.w m.told):=by
 show(rI .u32 m.cl++(qq d++[AV.w m.told,AV.b m.over]))[25]?=_;rw[zzr (by rw[xv,h];exact Af),xv,h];rfl
def qow(a b c d:Nat):IFn:=irJ 62 [110,a,111,b,112,c,113,d]
def qIR{fd g1 g2 g3:Nat}(hc:qpo P f fd (qow fd g1 g2 g3)=true)(h2:cOf P g2)(h3:qLz P g3)(p:List Ins)(hp:PrgGood p)(d:GData)(hd:DatOk d) :
  ∃n:Int,Own P f [.fz p.length (rP p),.agg (qq d)] (.tup [.w (qfO p d).1,.j n,.own 0 (qfO p d).2.2.1.length,.j 0]) [.cells 1 true true (rNt (qfO p d).2.2.1)]:=by
 obtain⟨R,hR⟩:∃R,R=qfO p d:=⟨_,rfl⟩;rw[<- hR];refine⟨(R.2.2.1.length:Int),Own.mkD hc Iq ?_⟩;have hpl:=hp.len;have hne:=hp.ne;have e0:List.take 18 ([.w 0,.w 0,.w 0,.w 0,.w 0,.w 0,.w 0,.w 0,.w 0,.w 0,.w 0,.w 0,.w 0,.w 0,.w 0,.w 0,.w 0,.w 0,.w 0,.w 0,.x 0,.x 0,.x 0,.x 0,.x 0,.x 0,.x 0,.w 0,.b false]:List AV)++(qq d++List.drop 27 [.w 0,.w 0,.w 0,.w 0,.w 0,.w 0,.w 0,.w 0,.w 0,.w 0,.w 0,.w 0,.w 0,.w 0,.w 0,.w 0,.w 0,.w 0,.w 0,.w 0,.x 0,.x 0,.x 0,.x 0,.x 0,.x 0,.x 0,.w 0,.b false])=cVm ql1 d:=rfl;have cd9:List.take 9 (qq d)=qq d:=rfl;have l9:(qq d).length=9:=rfl;simp only[qow,VDf,vI,simprocAttr];simp +decide only[↓vS,vT,simprocAttr,qkU,qod,l9,cd9,e0];refine⟨⟨14,[.ptr 1 0,.ptr 2 0],rfl,Be⟩,?_⟩
 refine Aa ?_
 refine SL.loop (α:=Nat×Mac×Nat×Int×List Nat) (λs=>[(0,.fz p.length (rP p)),(4,.ptr 0 0),(5,.j (s.2.2.2.2.length:Int)),(6,.own 3 s.2.2.2.2.length),(7,.ptr 1 0),(8,.ptr 2 0),(9,.j s.2.2.2.1),(10,.j (s.2.2.1:Int))])
  (λs=>[.v [.w 0],.v [.j 0],.v (cVm s.2.1 d),.cells 1 true true (rNt s.2.2.2.2)])
  (λs=>MacOk s.2.1/\s.2.2.1<=5000000000/\((s.2.1.over=false/\s.2.2.1<p.length/\p.length+1<=s.1+s.2.2.1/\s.2.2.2.2.length<=s.2.2.1/\qgR p d s.1 s.2.1 s.2.2.1 s.2.2.2.1 s.2.2.2.2=R)\/(s.2.1.over=true/\s.2.2.2.2.length<=5000/\R=(s.2.1.told,s.2.2.2.2.length,s.2.2.2.2,0)))) (λs=>s.1) (p.length+1,ql1,0,46,[]) [1,2,3,99] ?_ ?_ ?_ rfl ?_ ?_
 .exact Iv
 .simp[vw,qa,qz]
  simp_all[NVs.refl,qz]
 .simp
 .exact⟨qpE,zzu _,.inl ⟨rfl,Ag,zzL _,zzu _,by rw[hR];rfl⟩⟩
 rintro⟨n,m,a,bh,l⟩ ⟨hm,ha,hI⟩ G ih;simp only at hm ha hI;have hl29:=qmb (d:=d) hm.len;have go:(cVm m d)[28]?=some (.b m.over):=qw5 hm.len;have gt:(cVm m d)[27]?=some (.w m.told):=qw7 hm.len;refine Ak ?_;rcases hI with⟨hov,hlt,hna,hla,hI⟩|⟨hov,hla,hI⟩
 .obtain⟨n,rfl⟩:∃n',n=n'+1:=⟨n-1,Ab⟩
  rw[qgm]at hI;obtain⟨i,hpi⟩:∃i,p[a]?=some i:=⟨_,zzE hlt⟩;have hii:=hp.ins i Ag;rw[hpi]at hI;simp only at hI;have hz:=quT (m:=m) (d:=d) hii (hp.one a i hpi);rw[if_neg Ab]at hI;have hin:=qFr hp.ins hp.one hp.last hpi m d;have hel:=qS (f:=qD) (m:=4) xf hpi;rw[show p.flatMap qD=rP p from rfl]at hel
  have h4:a*4+4<=(rP p).length:=by rw[qdS];exact Ab
  have g0:=zq (f:=qD) (m:=4) xf hpi (i:=0) Ab;rw[show p.flatMap qD=rP p from rfl]at g0
  simp only[qD,Nat.add_zero,zzn]at g0;have hge:¬(p.length:Int)<=(a:Int):=Ab
  obtain⟨hm2,hk0,hk1⟩:=qsf hm hii hd;have hdo:=h3 m hm d hd i hii hz;have hgc:=h2 i.code;generalize doR m i d=r at hI hin hm2 hk0 hk1 hdo;obtain⟨m2,k,e⟩:=r;simp only at hI hin hm2 hk0 hk1 hdo;have hr1:l.length+1<=qe:=by simp only[qe];exact Ab
  have hr2:(l.length+1)*8<=qe:=by simp only[qe];exact Ab
  have hap:rNt l++[.j (a:Int)]=rNt (l++[a]):=Ip
  have hll:(rNt l).length=l.length:=qiB;have hla1:(l++[a]).length=l.length+1:=by simp
  have w1:IntKind.wrap .i64 (1+k)=1+k:=B6
  have w2:IntKind.wrap .i64 ((a:Int)+(1+k))=((a+1+k.toNat:Nat):Int):=by rw[qC Ab Ab];exact Ab
  have w3:IntKind.wrap .i64 ((l.length:Int)+1)=((l.length+1:Nat):Int):=by rw[qC Ab Ab];exact Ab
  have fin:∀b2:Int,(m2.over=false->qgR p d n m2 (a+1+k.toNat) b2 (l++[a])=R)->MacOk m2/\a+1+k.toNat<=5000000000/\((m2.over=false/\a+1+k.toNat<p.length/\p.length+1<=n+(a+1+k.toNat)/\(l++[a]).length<=a+1+k.toNat/\qgR p d n m2 (a+1+k.toNat) b2 (l++[a])=R)\/(m2.over=true/\(l++[a]).length<=5000/\R=(m2.told,(l++[a]).length,l++[a],0))):=Ag
  rw[hov]at go;simp only[qD]at hdo hel;simp +decide only[↓vS,vT,simprocAttr,go,hge,hlt,hr1,hr2,hll,hap,zzU,g0];refine hgc.sc ?_
  by_cases c4:ql i.code=4
  .rw[if_pos c4]at hI;have fin2:=fin 42 (λho=>by rw[ho]at hI;exact Ag)
   refine Sa (zzA c4 (zzA hlt (zzA hel h4))) ?_;refine hdo.sc (vs:=[.ptr 0 0,.agg [.h i.code,.y i.jt,.y i.jf,.w i.k]]) [2] (Lent.of Af ?_) ?_
   .exact C5
   refine D4 ?_;refine Sa (zzA w1 (zzA w2 w3)) ?_;refine ih (n,m2,a+1+k.toNat,42,l++[a]) fin2 Ab _ _ (Wk.mk _ _ [0,1,2,5] ?_ ?_ ?_ rfl)
   .exact Iv
   .simp[vw,qa,qF,qz]
   .simp
  .rw[if_neg c4]at hI;have fin2:=fin 46 (λho=>by rw[ho]at hI;exact Ag)
   refine Sa (zzA c4 (zzA hlt (zzA hel h4))) ?_;refine hdo.sc (vs:=[.ptr 0 0,.agg [.h i.code,.y i.jt,.y i.jf,.w i.k]]) [2] (Lent.of Af ?_) ?_
   .exact C5
   refine D4 ?_;refine Sa (zzA w1 (zzA w2 w3)) ?_;refine ih (n,m2,a+1+k.toNat,46,l++[a]) fin2 Ab _ _ (Wk.mk _ _ [0,1,2,5] ?_ ?_ ?_ rfl)
   .exact Iv
   .simp[vw,qa,qF,qz]
   .simp
 .rw[hov]at go;rw[hI];simp +decide only[↓vS,vT,simprocAttr,go,gt];intro _;refine⟨[3],?_⟩;exact Hm
def qov(a:Nat):IFn:=irJ 24 [62,a]
def qMW{g:Nat}(hc:Ck P f (qov g))(hg:∀p,PrgGood p->∀d,DatOk d->∃n:Int,Own P g [.fz p.length (rP p),.agg (qq d)] (.tup [.w (qfO p d).1,.j n,.own 0 (qfO p d).2.2.1.length,.j 0]) [.cells 1 true true (rNt (qfO p d).2.2.1)])(p:List Ins)(hp:PrgGood p)(d:GData)(hd:DatOk d) :
  ∃n:Int,qc P f [.fz p.length (rP p),.agg (qq d)] (.tup [.w (qfO p d).1,.j n,.j 0]):=by
 obtain⟨n,hn⟩:=hg p hp d hd;refine⟨n,qc.mk hc Iq ?_⟩;simp only[qov,vI,simprocAttr];refine Sa (zzA @qkU @qod) ?_;refine hn.sc ?_;simp only[vJ,simprocAttr,xw qF];refine Aa ?_;simp[vZ]
def qLS(x:BitVec 32):x &&& ~~~ 65535#32=(x >>> 16) <<< 16:=by
 apply BitVec.eq_of_getLsbD_eq;intro i hi;have h:∀i,i<32->(65535#32).getLsbD i=decide (i<16):=Af
 rw[BitVec.getLsbD_and,BitVec.getLsbD_not,h i hi,BitVec.getLsbD_shiftLeft,BitVec.getLsbD_ushiftRight]
 exact Ag
def qtF{a:Int}(h0:0<=a)(h1:a<=4294967295):qdh .u32 a 65535=a / 65536*65536:=by
 obtain⟨n,rfl⟩:∃n:Nat,a=n:=⟨a.toNat,Ab⟩
 have e:(BitVec.ofInt 32 (n:Int))=BitVec.ofNat 32 n:=by simp
 unfold qdh;show IntKind.wrap .u32 (((BitVec.ofInt 32 (n:Int)) &&& ~~~ (65535#32)).toNat:Int)=_;rw[e,qLS];have hn:n<2 ^ 32:=Ab
 have:((BitVec.ofNat 32 n >>> 16) <<< 16).toNat=n / 65536*65536:=by
  rw[BitVec.toNat_shiftLeft,BitVec.toNat_ushiftRight,BitVec.toNat_ofNat,Nat.mod_eq_of_lt hn,Nat.shiftLeft_eq,Nat.shiftRight_eq_div_pow];exact Ab
 rw[this];show((n / 65536*65536:Nat):Int) % 4294967296=_;exact Ab
def qnC(x:Int):Int:=if 32768<=x / 65536 then x / 65536-65536 else x / 65536
def qgc(a b:Int):Bool:=decide (qnC a<qnC b)
def vy:List Int->Int
 | []=>2147418112
 | x::l=>if qgc x (vy l)=true then x else vy l
theorem qoi{x:Int}{l:List Int}:vy (x::l)=if qgc x (vy l)=true then x else vy l:=rfl
def qmM:∀{l:List Int},(∀x ∈ l,u32 x)->u32 (vy l)
 | [],_=>⟨Af,Af⟩
 | x::l,h=>by
  rw[qoi];split
  .exact Ae
  .exact qmM λy hy=>h y Ag
def qo6{a:Int}(h0:0<=a)(h1:a<=4294967295):IntKind.wrap .i32 (a / 65536*65536)=qnC a*65536:=by
 unfold qnC;simp only[IntKind.wrap,IntKind.bits,IntKind.signed,Bool.true_and,zzb,show(2:Int) ^ 32=4294967296 from rfl,show(2:Int) ^ (32-1)=2147483648 from rfl]
 exact Ab
def qhE(a:Nat):IFn:=irJ 40 [87,a]
def qK3{g:Nat}(hc:Ck P f (qhE g))(hg:∀n,qc P g [.w n] (.w (qdh .u32 n 65535)))(a b:Int)(ha:u32 a)(hb:u32 b):qc P f [.w a,.w b] (.b (qgc a b)):=by
 refine Al ?_;have w1:=qo6 ha.1 ha.2;have w2:=qo6 hb.1 hb.2;rw[<- qtF ha.1 ha.2]at w1;rw[<- qtF hb.1 hb.2]at w2;have hlt:(qnC a*65536<qnC b*65536)=(qnC a<qnC b):=Ae
 unfold qgc;simp only[qhE,vI,simprocAttr];refine Aa ?_;refine(hg a).sc ?_;refine Aa ?_;refine(hg b).sc ?_;refine Sa (zzA w1 (zzA w2 hlt)) ?_;simp[vZ]
def qDy(P:Program)(g:Nat):Prop:=∀a b:Int,u32 a->u32 b->qc P g [.w a,.w b] (.b (qgc a b))
def qgY(a:Nat):IFn:=irJ 199 [40,a]
def qJa{g:Nat}(hc:Ck P f (qgY g))(hg:qDy P g)(a b:Int)(ha:u32 a)(hb:u32 b):qc P f [.fz 2 (rI .u32 [a,b])] (.w (if qgc b a=true then b else a)):=by
 refine Bb ?_;have hl:=hg b a hb ha;have e0:(rI .u32 [a,b])[0]?=some (.w a):=rfl;have e1:(rI .u32 [b])[0]?=some (.w b):=rfl;simp only[qgY,vI,simprocAttr];refine Sa (zzA e0 (zzA @qHi @qtP)) ?_;refine SL.loop (α:=Nat) (λj=>[(3,.w (if j=0 then a else if qgc b a=true then b else a)),(10,.fz 1 [.w b]),(11,.j 1),(12,.j (j:Int))]) (λ_=>[]) (λj=>j<=1) (λj=>1-j) 0 [] ?_ ?_ ?_ rfl ?_ ?_
 .simp[vw]
 .trivial
 .simp
 .exact Ab
 rintro j hj G ih;refine Ak ?_
 by_cases h0:j=0
 .subst h0;have ih2:=ih 1 Af Af;refine Aa ?_;refine hl.sc ?_;cases hls:qgc b a with
  | true =>
   rw[hls]at ih2;refine Aa ?_;exact Fq
  | false =>
   rw[hls]at ih2;refine Aa ?_;exact Fq
 .obtain rfl:j=1:=Ab
  refine Aa ?_;simp[vZ]
def qbc:IFn:=irJ 204 []
def qKK(hc:Ck P f qbc)(a:Int)(ha:u32 a):qc P f [.w a] (.j (qnC a)):=by
 refine Al ?_;have h0:(65536:Int)≠0:=Af
 have hq:a.tdiv 65536=a / 65536:=Int.tdiv_eq_ediv_of_nonneg ha.1;have a0:=ha.1;have a1:=ha.2;have w0:IntKind.wrap .u32 (a / 65536)=a / 65536:=by show(a / 65536) % 4294967296=_;exact Ab
 have w1:IntKind.wrap .i64 (a / 65536)=a / 65536:=qC Ab Ab;have w2:IntKind.wrap .i64 (a / 65536-65536)=a / 65536-65536:=qC Ab Ab;unfold qnC;simp only[qbc,vI,simprocAttr]
 by_cases h:32768<=a / 65536
 .rw[if_pos h];simp +decide only[↓vS,vT,simprocAttr,↓zk h0,hq,w0,w1,h,w2];simp[vZ]
 .rw[if_neg h];simp +decide only[↓vS,vT,simprocAttr,↓zk h0,hq,w0,w1,h];simp[vZ]
def qcl(a:Nat):IFn:=irJ 140 [204,a]
def qLW{g:Nat}(hc:Ck P f (qcl g))(hg:∀a,u32 a->qc P g [.w a] (.j (qnC a)))(a b:Int)(ha:u32 a)(hb:u32 b):qc P f [.w a,.w b] (.b (qgc a b)):=by
 refine Al ?_;unfold qgc;simp only[qcl,vI,simprocAttr];refine Aa ?_;refine(hg a ha).sc ?_;refine Aa ?_;refine(hg b hb).sc ?_;refine Aa ?_;simp[vZ]
def qEb{k:IntKind}{l:List Int}{j:Nat}{x:Int}(h:l[j]?=some x):(rI k l)[j]?=some (.i k x):=by rw[xl,h];rfl
def qoj{l:List Int}{j:Nat}{x:Int}(h:l[j]?=some x):vy (l.drop j)=if qgc x (vy (l.drop (j+1)))=true then x else vy (l.drop (j+1)):=by
 grind[List.drop_eq_getElem_cons,qoi]
def qaU(a:Nat):IFn:=irJ 80 [140,a]
def qH5{g:Nat}(hc:Ck P f (qaU g))(hg:qDy P g)(l:List Int)(hl:∀x ∈ l,u32 x)(hn:l.length<=100000):qc P f [.fz l.length (rI .u32 l)] (.w (vy l)):=by
 refine Bb ?_;simp only[qaU,vI,simprocAttr];have w0:IntKind.wrap .i64 ((l.length:Int)-1)=(l.length:Int)-1:=qC Ab Ab;refine Sa w0 ?_;refine SL.loop (α:=Nat) (λj=>[(0,.fz l.length (rI .u32 l)),(3,.w (vy (l.drop j))),(4,.j ((j:Int)-1))]) (λ_=>[]) (λj=>j<=l.length) (λj=>j) l.length [] ?_ ?_ ?_ rfl ?_ ?_
 .simp[vw,qd];rfl
 .trivial
 .simp
 .exact zzL _
 rintro j hj G ih;refine Ak ?_;cases j with
 | zero =>
  have e:((0:Nat):Int)-1 = -1:=rfl;rw[e];refine Aa ?_;exact Fg
 | succ k =>
  have e:((k+1:Nat):Int)-1=(k:Int):=Ab
  have hk:k<l.length:=Ab
  obtain⟨x,hx⟩:∃x,l[k]?=some x:=⟨_,zzE hk⟩;have gx:=qEb (k:=.u32) hx;have hxu:=hl x (zzM hx);have hcu:u32 (vy (l.drop (k+1))):=qmM λy hy=>hl y (List.mem_of_mem_drop hy)
  have hcd:=qoj hx;have hle:=hg x (vy (l.drop (k+1))) hxu hcu;have w2:IntKind.wrap .i64 ((k:Int)-1)=(k:Int)-1:=qC Ab Ab;have ih2:=ih k (Nat.le_of_lt hk) Ab;rw[hcd]at ih2;rw[e];generalize vy (l.drop (k+1))=c at hle ih2 ⊢;have k0:(0:Int)<=(k:Int):=Ab
  simp +decide only[↓vS,vT,simprocAttr,k0,hk,gx,zzU];refine hle.sc ?_;cases hls:qgc x c with
  | true =>
   rw[hls,if_pos rfl]at ih2;simp +decide only[↓vS,vT,simprocAttr,hk,gx,w2,zzU];exact Fw
  | false =>
   rw[hls,if_neg (by simp)]at ih2;refine Sa w2 ?_;exact Fw
instance:DecidableEq Ins:=λa b=>decidable_of_iff (a.code=b.code/\a.jt=b.jt/\a.jf=b.jf/\a.k=b.k) ⟨λh=>by cases a;cases b;simp only at h;obtain⟨rfl,rfl,rfl,rfl⟩:=h;rfl,λh=>by subst h;exact⟨rfl,rfl,rfl,rfl⟩⟩
instance:DecidableEq Prg:=λa b=>decidable_of_iff (a.dir=b.dir/\a.arch=b.arch/\a.ins=b.ins) ⟨λh=>by cases a;cases b;simp only at h;obtain⟨rfl,rfl,rfl⟩:=h;rfl,λh=>by subst h;exact⟨rfl,rfl,rfl⟩⟩
structure PrgIn (x:Prg):Prop where
 len:x.ins.length<=9223372036854775807
 ins:∀i ∈ x.ins,InsOk i
theorem qsr{x:Prg}(hx:∀i ∈ x.ins,InsOk i)(h:qd2 x=true):PrgGood x.ins:=by
 unfold qd2 at h;simp only[zzB,zzb]at h;obtain⟨h1,h2,h3,h4,_⟩:=qwB h.1;exact⟨h2,h1,hx,h3,h4⟩
def qlP{l:List Prg}(hx:∀x ∈ l,∀i ∈ x.ins,InsOk i)(h:qfH l=true):l.length<=48/\∀x ∈ l,PrgGood x.ins:=by
 unfold qfH at h
 grind[qsr]
def qem(l:List Prg)(d:GData):List Int:=l.map λx=>(qfO x.ins d).1
def evS(l:List Prg)(d:GData):Int:=vy (qem l d)
def qjJ(l:List Prg)(d:GData):(qem l d).length=l.length:=by simp[qem]
def qn6{l:List Prg}{d:GData}{j:Nat}{x:Prg}(h:l[j]?=some x):qem (l.take (j+1)) d=qem (l.take j) d++[(qfO x.ins d).1]:=by
 rw[zz2,h];simp[qem]
def qJx(P:Program)(g:Nat):Prop:=∀p,PrgGood p->∀d,DatOk d->∃n:Int,qc P g [.fz p.length (rP p),.agg (qq d)] (.tup [.w (qfO p d).1,.j n,.j 0])
def qDA(P:Program)(g:Nat):Prop:=∀l:List Prg,l.length<=100->(∀x ∈ l,PrgIn x)->qc P g [.fz l.length (rPr l)] (.b (qfH l))
def qnX(P:Program)(g:Nat):Prop:=∀l:List Int,(∀x ∈ l,u32 x)->l.length<=100000->qc P g [.fz l.length (rI .u32 l)] (.w (vy l))
def qfe(a:Nat):IFn:=irJ 73 [134,a]
def qAl{g:Nat}(hc:Ck P f (qfe g))(hg:qnX P g):qnX P f:=by
 intro l hl hn;refine Bb ?_;simp only[qfe,vI,simprocAttr];refine Aa ?_;refine(hg l hl hn).sc ?_;refine Aa ?_;simp[vZ]
def qc0(a b c:Nat):ICode:=icJ 37 [43,a,24,b,73,c] 31
def qfy(a b c:Nat):IFn:=irJ 37 [43,a,24,b,73,c] [31] [qc0 a b c]
def qBo{g1 g2 g3:Nat}(hg:qnX P g3)(A:List Int)(hA:∀x ∈ A,u32 x)(hn:A.length<=100){t':Tr AV}{h':Hp}(hw:Wk 0 t' h' (mkT [(6,.own 0 A.length)]) (mkH 0 [.cells 1 true true (rI .u32 A)])) :
  S P 0 (qc0 g1 g2 g3) (zQ [.tmp 4,.tmp 5] λv' h'=>Frz h' v' (.tup [.w (vy A),.j 0])) t' h':=by
 refine Ay ?_;simp only[qc0,vI,simprocAttr];refine Aa ?_;refine(hg A hA Ab).give [(0,.cells 1 true true (rI .u32 A))] Be rfl ?_ ?_
 .exact F7
 refine El ?_;refine Aa ?_;simp[vZ]
def qIG{g1 g2 g3:Nat}(hc:Ck P f (qfy g1 g2 g3))(h1:qDA P g1)(h2:qJx P g2)(h3:qnX P g3)(l:List Prg)(hl:l.length<=100)(hx:∀x ∈ l,PrgIn x)(d:GData)(hd:DatOk d) :
  qc P f [.fz l.length (rPr l),.agg (qq d)] (if qfH l=true then .tup [.w (evS l d),.j 0]else .tup [.w 0,.j 290]):=by
 refine qc.mk hc (by simp[qt,clo,jh,wo]) ?_;have hmay:=h1 l hl hx
 by_cases hm:qfH l=true
 .rw[if_pos hm];rw[hm]at hmay;obtain⟨h48,hgood⟩:=qlP (by grind[PrgIn.ins]) hm
  have hu:∀x ∈ qem l d,u32 x:=λx hxm=>F8
  simp only[qfy,vI,simprocAttr];refine Aa ?_;refine hmay.sc ?_;refine Aa ?_;refine SL.loop (α:=Nat) (λj=>[(3,.ptr 0 0),(6,.own 1 (qem (l.take j) d).length),(15,.fz l.length (rPr l)),(16,.j l.length),(17,.j (j:Int))]) (λj=>[.v (qq d),.cells 1 true true (rI .u32 (qem (l.take j) d))]) (λj=>j<=l.length) (λj=>l.length-j) 0 [0,99] ?_ ?_ ?_ rfl ?_ ?_
  .simp[vw,jh,qem]
  .simp[vw,qa,wo,qem,rI];exact NVs.refl wo
  .simp
  .exact Ab
  rintro j hj G ih;refine Ak ?_
  by_cases hlt:j<l.length
  .obtain⟨x,hpx⟩:∃x,l[j]?=some x:=⟨_,zzE hlt⟩;have hxm:=zzM hpx;have ex:=qS (f:=cPr) (m:=3) qeY hpx;rw[show l.flatMap cPr=rPr l from rfl]at ex
   simp only[cPr]at ex;have bx:j*3+3<=(rPr l).length:=by rw[qpP];exact Ab
   have hw1:=wS j;obtain⟨n,hrun⟩:=h2 x.ins (hgood x hxm) d hd;have ih2:=ih (j+1) hlt Ab;have hal:(qem (l.take j) d).length<=100:=by rw[qjJ,zzm];exact Ab
   rw[qn6 hpx]at ih2;generalize qem (l.take j) d=A at ih2 hal ⊢;have hr1:A.length+1<=qe:=by simp only[qe];exact Ab
   have hr2:(A.length+1)*4<=qe:=by simp only[qe];exact Ab
   have hap:rI .u32 A++[.w (qfO x.ins d).1]=rI .u32 (A++[(qfO x.ins d).1]):=Io
   have hll:(rI .u32 A).length=A.length:=xv;simp +decide only[↓vS,vT,simprocAttr,hlt,ex,bx,qkU,qod];refine hrun.sc ?_;simp +decide only[↓vS,vT,simprocAttr,hr1,hr2,hap,hll,zzU,hw1];refine ih2 _ _ (Wk.mk _ _ [0,4] ?_ ?_ ?_ rfl)
   .simp[vw,jh]
   .simp[vw,qa,qd];exact NVs.refl wo
   .simp
  .obtain rfl:j=l.length:=Ab
   simp +decide only[↓vS,vT,simprocAttr,hlt,zz0];refine qBo h3 (qem l d) hu (by rw[qjJ];exact hl) (Wk.mk _ _ [1] ?_ ?_ ?_ rfl)
   .simp[vw]
   .simp[vw,qa,qd]
   .simp
 .have hf:qfH l=false:=Ae
  rw[if_neg hm];rw[hf]at hmay;simp only[qfy,vI,simprocAttr];refine Aa ?_;refine hmay.sc ?_;refine Aa ?_;simp[vZ]
def wz(a b:Nat):ICode:=icJ 38 [53,a,80,b] 15
def qcn(a b:Nat):IFn:=irJ 38 [53,a,80,b] [15] [wz a b]
def quY{g1 g2:Nat}(hg:qnX P g2)(A:List Int)(hA:∀x ∈ A,u32 x)(hn:A.length<=100){t':Tr AV}{h':Hp}(hw:Wk 0 t' h' (mkT [(5,.own 0 A.length)]) (mkH 0 [.cells 1 true true (rI .u32 A)])) :
  S P 0 (wz g1 g2) (zQ [.tmp 4] λv' h'=>Frz h' v' (.w (vy A))) t' h':=by
 refine Ay ?_;simp only[wz,vI,simprocAttr];refine Aa ?_;refine(hg A hA Ab).give [(0,.cells 1 true true (rI .u32 A))] Be rfl ?_ ?_
 .exact F7
 refine El ?_;refine Aa ?_;simp[vZ]
def qLM{g1 g2:Nat}(hc:Ck P f (qcn g1 g2))(h1:∀p:List Ins,p.length<=4096->(∀i ∈ p,InsOk i)->∀d,DatOk d->qc P g1 [.fz p.length (rP p),.agg (qq d)] (qC0 p d))(h2:qnX P g2)(l:List Prg)(hl:l.length<=48)(hx:∀x ∈ l,PrgGood x.ins)(d:GData)(hd:DatOk d) :
  qc P f [.fz l.length (rPr l),.agg (qq d)] (.w (evS l d)):=by
 refine qc.mk hc (by simp[qt,clo,jh,wo]) ?_
 have hu:∀x ∈ qem l d,u32 x:=λx hxm=>F8
 simp only[qcn,vI,simprocAttr];refine Aa ?_;refine SL.loop (α:=Nat) (λj=>[(0,.fz l.length (rPr l)),(3,.ptr 0 0),(5,.own 1 (qem (l.take j) d).length),(6,.j (j:Int))]) (λj=>[.v (qq d),.cells 1 true true (rI .u32 (qem (l.take j) d))]) (λj=>j<=l.length) (λj=>l.length-j) 0 [0,99] ?_ ?_ ?_ rfl ?_ ?_
 .simp[vw,jh,qem]
 .simp[vw,qa,wo,qem,rI];exact NVs.refl wo
 .simp
 .exact Ab
 rintro j hj G ih;refine Ak ?_
 by_cases hlt:j<l.length
 .obtain⟨x,hpx⟩:∃x,l[j]?=some x:=⟨_,zzE hlt⟩;have hxm:=zzM hpx;have g2:=zq (f:=cPr) (m:=3) qeY hpx (i:=2) Ab;rw[show l.flatMap cPr=rPr l from rfl]at g2
  simp only[cPr,Nat.add_zero,zzn,List.getElem?_cons_succ]at g2;have hw1:=wS j;have hrun:=h1 x.ins (hx x hxm).len (hx x hxm).ins d hd;obtain⟨n,L,e,hR⟩:∃(n:Int) (L:AV) (e:AV),qC0 x.ins d = .tup [.w (qfO x.ins d).1,.j n,L,e]:=⟨_,_,_,rfl⟩;rw[hR]at hrun;have ih2:=ih (j+1) hlt Ab;have hal:(qem (l.take j) d).length<=48:=by rw[qjJ,zzm];exact Ab
  rw[qn6 hpx]at ih2;generalize qem (l.take j) d=A at ih2 hal ⊢;have hr1:A.length+1<=qe:=by simp only[qe];exact Ab
  have hr2:(A.length+1)*4<=qe:=by simp only[qe];exact Ab
  have hap:rI .u32 A++[.w (qfO x.ins d).1]=rI .u32 (A++[(qfO x.ins d).1]):=Io
  have hll:(rI .u32 A).length=A.length:=xv;refine Sa hlt ?_;refine qX ?_;refine Sa (zzA hlt (zzA g2 (zzA @qkU @qod))) ?_;refine hrun.pc ?_;simp +decide only[↓vS,vT,simprocAttr,hr1,hr2,hap,hll,zzU,hw1];refine ih2 _ _ (Wk.mk _ _ [0,3] ?_ ?_ ?_ rfl)
  .simp[vw,jh]
  .simp[vw,qa,qd];exact NVs.refl wo
  .simp
 .obtain rfl:j=l.length:=Ab
  simp +decide only[↓vS,vT,simprocAttr,hlt,zz0];refine quY h2 (qem l d) hu (by rw[qjJ];exact Ab) (Wk.mk _ _ [1] ?_ ?_ ?_ rfl)
  .simp[vw]
  .simp[vw,qa,qd]
  .simp
def qJl(P:Program)(g:Nat):Prop:=∀p:List Ins,(∀i ∈ p,InsOk i)->∃n:Int,qc P g [.fz p.length (rP p)] (.tup [.j n,.j (atU p (qdU p)).2])
def qAA{p:List Ins}(u:List Nat)(h:4096<p.length):atU p u=(0,60):=by unfold atU;rw[if_pos (.inr h)]
def qDE{g1 g2 g3:Nat}(hc:Ck P f (qe5 g1 g2 g3))(h:cAt P f):qJl P f:=by
 intro p hi
 by_cases hb:p.length<=5000
 .exact⟨_,h p hi hb⟩
 .have hb4:4096<p.length:=Ab
  rw[qAA _ hb4];refine⟨0,qc.mk hc (by simp[qt,clo,qo]) ?_⟩;have hz':¬(p.length:Int)<1:=Ab
  have hb':(4096:Int)<p.length:=Ab
  simp only[qe5,vI,simprocAttr];exact Ij
def qH2{g:Nat}(hc:Ck P f (qhK g))(hg:qJl P g)(p:List Ins)(hi:∀i ∈ p,InsOk i):qc P f [.fz p.length (rP p)] (.j (atU p (qdU p)).2):=by
 refine Ce ?_;simp only[qhK,vI,simprocAttr];refine Aa ?_;obtain⟨n,hn⟩:=hg p hi;refine hn.sc ?_;refine Aa ?_;simp[vZ]
def qGi{g:Nat}(hc:Ck P f (qhf g))(hg:∀p:List Ins,(∀i ∈ p,InsOk i)->qc P g [.fz p.length (rP p)] (.j (atU p (qdU p)).2))(x:Prg)(hx:PrgIn x):qc P f [.agg (cPr x)] (.b (qd2 x)):=by
 refine qc.mk hc (by simp[qt,clo,cPr,qo]) ?_;have h:=hg x.ins hx.ins;unfold qd2;generalize(atU x.ins (qdU x.ins)).2=e at h;simp only[qhf,cPr,vI,simprocAttr]
 by_cases h0:x.dir=0
 .rw[if_pos h0]
  by_cases h6:x.arch=6
  .refine Sa (zzA h0 h6) ?_;refine h.sc ?_;refine Aa ?_;simp[vZ,h6]
  .refine Sa (zzA h0 h6) ?_;simp[vZ,h6]
 rw[if_neg h0]
 by_cases h1:x.dir<0
 .have h1':¬0<=x.dir:=Ab
  refine Sa (zzA h0 h1) ?_;simp[vZ,h1']
 have h1':0<=x.dir:=Ab
 by_cases h2:8<=x.dir
 .have h2':¬x.dir<8:=Ab
  refine Sa (zzA h0 (zzA h1 h2)) ?_;simp[vZ,h2']
 have h2':x.dir<8:=Ab
 by_cases h3:x.arch<0
 .have h3':¬0<=x.arch:=Ab
  refine Sa (zzA h0 (zzA h1 (zzA h2 h3))) ?_;simp[vZ,h3']
 have h3':0<=x.arch:=Ab
 by_cases h4:6<=x.arch
 .have h4':¬x.arch<6:=Ab
  refine Sa (zzA h0 (zzA h1 (zzA h2 (zzA h3 h4)))) ?_;simp[vZ,h4']
 have h4':x.arch<6:=Ab
 refine Sa (zzA h0 (zzA h1 (zzA h2 (zzA h3 h4)))) ?_;refine h.sc ?_;refine Aa ?_;simp[vZ,h1',h2',h3',h4']
def qKg{g:Nat}(hc:Ck P f (qhW g))(hg:∀x,PrgIn x->qc P g [.agg (cPr x)] (.b (qd2 x)))(x:Prg)(hx:PrgIn x):qc P f [.agg (cPr x)] (.b (!qd2 x)):=by
 refine qc.mk hc (by simp[qt,clo,cPr,qo]) ?_;have h:=hg x hx;simp only[cPr]at h;simp only[qhW,cPr,vI,simprocAttr];refine Aa ?_;refine h.sc ?_;refine Aa ?_;simp[vZ]
def qDd{g1 g2:Nat}(hc:Ck P f (qke g1 g2))(h1:∀(l:List Prg) (k:Nat) (p:Prg->Bool),(∀c ∈ l,qc P k [.agg (cPr c)] (.b (p c)))->l.length<=qe->qc P g1 [.fz l.length (rPr l),.fn k [] []] (.b (l.any p)))
  (h2:∀x,PrgIn x->qc P g2 [.agg (cPr x)] (.b (!qd2 x))):qDA P f:=by
 intro l hl hx;refine qc.mk hc Ji ?_;have h:=h1 l g2 (λx=>!qd2 x) (λc hc=>h2 c (hx c hc)) (by simp only[qe];exact Ab)
 have ha:(!l.any λx=>!qd2 x)=l.all qd2:=by rw[List.not_any_eq_all_not];simp
 unfold qfH;simp only[qke,vI,simprocAttr]
 by_cases h48:l.length<=48
 .have h48':(l.length:Int)<=48:=Ab
  refine Sa h48' ?_;refine h.sc ?_;refine Aa ?_;simp only[ha];simp[vZ,h48]
 .have h48':¬(l.length:Int)<=48:=Ab
  refine Sa h48' ?_;simp[vZ,h48]
def wE(a:Nat):IFn:=irJ 198 [257,a]
def qJh{g:Nat}(hc:Ck P f (wE g))(l:List Int):qc P f [.fz l.length (rI .u32 l)] (.fn g [] [.pf [.fz l.length (rI .u32 l)] 0]):=by
 refine Bb ?_;simp only[wE,vI,simprocAttr];refine Aa ?_;simp[vZ,vP,zz4,qd]
def jT:IFn:=irJ 257 []
def qav(a b:Nat):ICode:=icJ 134 [198,a,199,b] 15
def qe2(a b:Nat):IFn:=irJ 134 [198,a,199,b] [15] [qav a b]
def cbT(g:Nat)(l:List Int):List (Nat×AV):=[(3,.ptr 0 0),(7,.fn g [] [.pf [.fz l.length (rI .u32 l)] 0])]
def qse{g1 g2:Nat}(x:Int){t':Tr AV}{h':Hp}(hw:Wk 0 t' h' (mkT [(3,.ptr 0 0)]) (mkH 0 [.v [.w x]])) :
  S P 0 (qav g1 g2) (zQ [.tmp 2] λv' h'=>Frz h' v' (.w x)) t' h':=by
 refine Ay ?_;simp only[qav,vI,simprocAttr];refine Aa ?_;simp[vZ]
def qEC{g1 g2 g3:Nat}(hc:Ck P f (qe2 g1 g2))(h1:∀l:List Int,qc P g1 [.fz l.length (rI .u32 l)] (.fn g3 [] [.pf [.fz l.length (rI .u32 l)] 0]))(hc3:Ck P g3 jT)
  (h2:∀a b:Int,u32 a->u32 b->qc P g2 [.fz 2 (rI .u32 [a,b])] (.w (if qgc b a=true then b else a))):qnX P f:=by
 intro l hl hn;refine Bb ?_;simp only[qe2,vI,simprocAttr];refine Aa ?_;refine(h1 l).sc ?_;refine Aa ?_;refine S.weak (Wk.mk (cbT g3 l) [.v [.w 2147418112]] [0] ?_ ?_ ?_ rfl) ?_
 .simp[vw,cbT,qd]
 .simp[vw]
 .simp
 refine S.rangeF Ir (by simp[cbT]) ⟨rfl,rfl⟩ ?_;refine qjR.2 ⟨.fn g3 [] [.pf [.fz l.length (rI .u32 l)] 0],by simp[cbT,mkT,zz4],?_⟩
 refine⟨qdi hc3,λr0 hr0 hp0 hlo=>SC.mk hc3 ?_⟩
 have hid:=qeM hr0 hp0;show S P 2 _ _ (qb0 [.yl 1,.pf [.fz l.length (rI .u32 l)] 0] 0 .leaf) ⟨2,0,(Tr.leaf.set 0 (.v [.w 2147418112])).set 1 (.map (zV r0 (cbT g3 l)))⟩;refine qh ?_;have w0:IntKind.wrap .i64 ((l.length:Int)-1)=(l.length:Int)-1:=B6
 simp only[jT,vI,simprocAttr];refine Sa w0 ?_;refine SL.loopn (α:=Nat) (λj=>[(0,.yl 1),(1,.pf [.fz l.length (rI .u32 l)] 0),(3,.j ((j:Int)-1))]) (λj=>[.v [.w (vy (l.drop j))],.map (zV r0 (cbT g3 l))]) (λj=>j<=l.length) (λj=>j) l.length [0,1] ?_ ?_ ?_ rfl ?_ ?_ ?_ ?_
 .exact Jc
 .simp[vw,cbT,qd,vy,qb5,qcv,qaI,wg]
 .simp
 .simp
 .intro x hx;have:x=0\/x=1:=Ab
  exact B8
 .exact Ab
 rintro j hj G ih;refine Ak ?_;cases j with
 | succ k =>
  have e:((k+1:Nat):Int)-1=(k:Int):=Ab
  have hk:k<l.length:=Ab
  obtain⟨x,hx⟩:∃x,l[k]?=some x:=⟨_,zzE hk⟩;have gx:=qEb (k:=.u32) hx;have hxu:=hl x Ag;have hcu:u32 (vy (l.drop (k+1))):=qmM Ag;have hcd:=qoj hx;have w2:IntKind.wrap .i64 ((k:Int)-1)=(k:Int)-1:=B6
  have ih2:=ih k (Nat.le_of_lt hk) Ab;rw[hcd]at ih2;rw[e];generalize vy (l.drop (k+1))=c at hcu ih2 ⊢;have hle:=h2 c x hcu hxu;have k0:(0:Int)<=(k:Int):=Ab
  simp +decide only[↓vS,vT,simprocAttr,k0,hk,gx,zzU];change SY P 1 [.j (k:Int),.w x] _ _;refine SY.mk (r:=r0) (ts:=cbT g3 l) (ps:=[8,9]) Be hr0 hlo (zzu _) Ae rfl ?_;rw[show mkT (cbT g3 l)=(Tr.leaf.set 7 (.fn g3 [] [.pf [.fz l.length (rI .u32 l)] 0])).set 3 (.ptr 0 0)from rfl]
  refine qh ?_;simp only[qlg,vI,simprocAttr];refine Ac ?_;refine⟨cbT g3 l,Be,?_⟩
  refine qh ?_;simp only[qI,vI,simprocAttr];refine Aa ?_;refine hle.give [(2,.v [.w c,.w x])] Be rfl ?_ ?_
  .refine .cons _ _ _ _ (Frz.cut 1 rfl (zzL _) ?_) .nil;simp[vw,trP,rI]
  refine El ?_;refine Aa ?_;refine⟨bsy r0,cbT g3 l,Be,?_⟩
  rw[qc9,hid];simp only[qI];refine Sa w2 ?_;refine ih2 _ _ (Wk.mkn _ _ [0,1] ?_ ?_ ?_ rfl ?_ ?_)
  .exact Jc
  .simp[vw,cbT,qd,qb5,qcv,qaI,wg]
  .simp
  .simp
  .intro x hx;have:x=0\/x=1:=Ab
   exact B8
 | zero =>
  clear ih;have e:((0:Nat):Int)-1 = -1:=rfl;rw[e];refine Aa ?_;refine⟨r0,cbT g3 l,Be,by rw[hr0];exact Af,?_⟩
  rw[hp0];simp only[qI];refine Ac ?_;refine qse (vy l) (Wk.mk _ _ [0] ?_ ?_ ?_ rfl)
  .simp[vw,cbT,mkT]
  .simp[vw]
  .simp
end
section
variable {P:Program}{n:Nat}
def Has(t:Tr AV)(l:List (Nat×AV)):Prop:=∀p ∈ l,t.get p.1=some p.2
theorem qn{t:Tr AV}:Has t []↔True:=iff_true_intro λp hp=>by cases hp
theorem qj{t:Tr AV}{p:Nat×AV}{l:List (Nat×AV)}:Has t (p::l)↔t.get p.1=some p.2/\Has t l:=by simp[Has]
def Has.tr{t:Tr AV}{l:List (Nat×AV)}(h:Has t l){Z:Ren}{tm:Array Value}(ht:TR σ0 Z t tm):TR σ0 Z (mkT l) tm:=λj v hj=>ht j v (h (j,v) (qfi hj))
def S.has{x:ICode}{Q:X->Tr AV->Hp->Prop}{t:Tr AV}{h:Hp}(l:List (Nat×AV))(hl:Has t l)(hs:S P n x Q (mkT l) h):S P n x Q t h :=
 λnt cx hc hn ro hro Z B w a ht hsz r=>hs nt cx hc hn ro hro Z B w a (hl.tr ht) hsz r
def SL.has{x:ICode}{Q:X->Tr AV->Hp->Prop}{t:Tr AV}{h:Hp}(l:List (Nat×AV))(hl:Has t l)(hs:SL P n x Q (mkT l) h):SL P n x Q t h :=
 λnt cx hc hn ro hro Z B w a ht hsz r=>hs nt cx hc hn ro hro Z B w a (hl.tr ht) hsz r
def SL.loopP{α:Type}{x:ICode}{Q:X->Tr AV->Hp->Prop}(T:α->List (Nat×AV))(I:α->Hp->Prop)(μ:α->Nat)
  (step:∀a h,I a h->∀G:Tr AV->Hp->Prop,(∀a' t' h',μ a'<μ a->Has t' (T a')->I a' h'->G t' h')->V P n x (λe t h=>onX e (G t h) (λid=>Q (.exit id) t h) (Q .ret t h)) (mkT (T a)) h)
  (a0:α) {t:Tr AV}{h:Hp}(ht:Has t (T a0)) (h0:I a0 h):SL P n x Q t h:=by
 have main:∀m a t h,μ a<=m->Has t (T a)->I a h->SL P n x Q t h:=by
  intro m
  induction m with
  | zero =>
   intro a t h hm ht hi;refine SL.has _ ht (qbj (step a h hi _ ?_));intro a' t' h' hlt _ _;exact Ab
  | succ m ih =>
   intro a t h hm ht hi;refine SL.has _ ht (qbj (step a h hi _ ?_));intro a' t' h' hlt ht' hi';exact ih a' t' h' Ab ht' hi'
 exact main _ a0 t h (zzL _) ht h0
end
section
variable {P:Program}{f:Nat}
structure Sy where
 code:Int
 k:Int
 th:Nat
 el:Nat
def cSy(s:Sy):List AV:=[.h s.code,.w s.k,.j (s.th:Int),.j (s.el:Int)]
def rSy(l:List Sy):List AV:=l.flatMap cSy
def qan{l:List Sy}:(rSy l).length=l.length*4:=by
 induction l with
 | nil=>rfl
 | cons s l ih=>simp only[rSy,zzv,zzP,zze]at ih ⊢;rw[ih];simp[cSy];exact Ab
def qtV{l m:List Sy}:rSy l++rSy m=rSy (l++m):=by simp[rSy]
def qCM{s:Sy}:cSy s=rSy [s]:=by simp[rSy]
def Sy.raw(s:Sy):Sy:=⟨s.code,s.k,0,0⟩
def zu:IFn:=irJ 216 []
def qHf(hc:Ck P f zu){w s fl bx bl m e:Nat}{tr:Tr Blk}{x:AV}{a:Bool}{ys:List AV}(y:Sy){k:AV->Hp->Prop}
  (hw:tr.get w=some (.v [.own bl m,x])) (hl:tr.get bl=some (.cells 4 true true ys)) (hy:ys.length=m*4) (hx:tr.get bx=some (.cells e true a (cSy y))) (hm:m<=1000000)
  (hwl:w≠bl) (hws:w<s) (hfw:fl<=w) (hfl:fl<=bl) (hxok:qdJ x=true/\zM x=true) (hk:k (.tup []) ⟨s+1,fl,((tr.set bl .dead).set s (.cells 4 true true (ys++cSy y))).set w (.v [.own s (m+1),x])⟩) :
  SC P f [.ptr w 0,.sl bx 0 1 1 false] ⟨s,fl,tr⟩ k:=by
 refine Bg ?_;have hr1:m+1<=qe:=by simp only[qe];exact Ab
 have hr2:(m+1)*24<=qe:=by simp only[qe];exact Ab
 have hws':¬w=s:=Ab
 simp only[zu,vI,simprocAttr];simp +decide only[↓vS,vT,simprocAttr,hw,hl,hy,hx,cSy,hr1,hr2,hwl,hws',hfw,hfl];exact hk
def jB:IFn:=irJ 156 []
def qBH(hc:Ck P f jB){w s fl bl m b:Nat}{tr:Tr Blk}{x:AV}{old:AV}{k:AV->Hp->Prop}
  (hw:tr.get w=some (.v [.own bl m,x])) (hb:tr.get b=some (.v [old]))
  (hfb:fl<=b) (hk:k (.tup []) ⟨s,fl,tr.set b (.v [.j (m:Int)])⟩) :
  SC P f [.ptr w 0,.ptr b 0] ⟨s,fl,tr⟩ k:=by
 refine Bg ?_;simp only[jB,vI,simprocAttr];refine Sa (zzA hw (zzA hb hfb)) ?_;exact hk
inductive Kd where
 | no|fr|w|l|t|box
 | lab (F:Nat) (p:Bool)
def kdS(U:Nat->Kd)(b:Nat)(x:Kd):Nat->Kd:=λc=>if c=b then x else U c
theorem qU{U:Nat->Kd}{b:Nat}{x:Kd}:kdS U b x b=x:=if_pos rfl
theorem qk{U:Nat->Kd}{b c:Nat}{x:Kd}(h:c≠b):kdS U b x c=U c:=if_neg h
def Bx(U:Nat->Kd)(tr:Tr Blk)(b:Nat)(v:AV):Prop:=U b = .box/\tr.get b=some (.v [v])
def JOk(g w:Nat)(U:Nat->Kd)(tr:Tr Blk)(RV:List Sy)(j:Nat)(c:AV):Prop :=
 ∃b5 b6 b8 b9 b10 X p o y,c = .fn g [] [.ptr b8 0,.ptr b5 0,.ptr b10 0,.ptr b6 0,.ptr b9 0]/\RV[j]?=some y/\Bx U tr b5 (.ptr w 0)/\Bx U tr b6 (.h y.code)/\Bx U tr b8 (.ptr X 0)/\Bx U tr b9 o/\Bx U tr b10 (.j (j:Int)) /\
  U X = .lab y.th p/\((y.code=5/\o = .nilp/\y.el=0)\/(y.code≠5/\∃Y p',o = .ptr Y 0/\U Y = .lab y.el p'))
def qhp(g w:Nat)(U:Nat->Kd)(tr:Tr Blk)(RV:List Sy):List Nat->List AV->Prop
 | [],[]=>True
 | j::js,c::cs=>JOk g w U tr RV j c/\qhp g w U tr RV js cs
 | _,_=>False
structure WI (g w:Nat) (U:Nat->Kd) (s:Nat) (tr:Tr Blk) (RV:List Sy) (N:List Nat):Prop where
 dom:∀b,U b≠.no->b<s
 rows:∃bl bt cs js,U w = .w/\U bl = .l/\U bt = .t/\tr.get w=some (.v [.own bl RV.length,.own bt cs.length])/\tr.get bl=some (.cells 4 true true (rSy (RV.map Sy.raw)))/\tr.get bt=some (.cells 1 true true cs) /\
  qhp g w U tr RV js cs/\cs.length+N.length<=RV.length/\∀(j:Nat) y,RV[j]?=some y->j ∉ js->j ∉ N->y.raw=y
 lab:∀b F p,U b = .lab F p->∃x:Int,tr.get b=some (.v [.j x])/\(p=true->x=F)
structure Stp (L:List Nat) (U:Nat->Kd) (s:Nat) (tr:Tr Blk) (U':Nat->Kd) (s':Nat) (tr':Tr Blk):Prop where
 le:s<=s'
 fr:∀b,U b = .fr->U' b = .fr/\tr'.get b=tr.get b
 box:∀b,U b = .box->U' b = .box/\tr'.get b=tr.get b
 lab:∀b F p,U b = .lab F p->U' b = .lab F p
 nw:∀b F,U' b = .lab F false->U b = .lab F false\/b ∈ L
theorem Stp.refl{U:Nat->Kd}{s:Nat}{tr:Tr Blk}:Stp [] U s tr U s tr:=⟨zzL _,Ae,Ae,λ_ _ _ h=>h,λ_ _ h=>.inl h⟩
theorem Stp.trans{L M:List Nat}{U U1 U2:Nat->Kd}{s s1 s2:Nat}{tr t1 t2:Tr Blk}(a:Stp L U s tr U1 s1 t1)(b:Stp M U1 s1 t1 U2 s2 t2):Stp (L++M) U s tr U2 s2 t2 :=
 ⟨zzg a.le b.le,λx h=>⟨(b.fr x (a.fr x h).1).1,(b.fr x (a.fr x h).1).2.trans (a.fr x h).2⟩,λx h=>⟨(b.box x (a.box x h).1).1,(b.box x (a.box x h).1).2.trans (a.box x h).2⟩,λx F p h=>b.lab x F p (a.lab x F p h),
  λx F h=>by
   grind[Stp.nw]⟩
theorem JOk.mono{g w:Nat}{U U':Nat->Kd}{tr tr':Tr Blk}{RV RV':List Sy}{j:Nat}{c:AV}(h:JOk g w U tr RV j c)(hb:∀b,U b = .box->U' b = .box/\tr'.get b=tr.get b)(hl:∀b F p,U b = .lab F p->∃p',U' b = .lab F p')
  (hr:∀(j:Nat) y,RV[j]?=some y->RV'[j]?=some y):JOk g w U' tr' RV' j c:=by
 obtain⟨b5,b6,b8,b9,b10,X,p,o,y,h0,h1,h2,h3,h4,h5,h6,h7,h8⟩:=h;have bx:∀b v,Bx U tr b v->Bx U' tr' b v:=λb v q=>⟨(hb b q.1).1,(hb b q.1).2.trans q.2⟩
 obtain⟨p1,h7'⟩:=hl X _ p h7;refine⟨b5,b6,b8,b9,b10,X,p1,o,y,h0,hr _ _ h1,bx _ _ h2,bx _ _ h3,bx _ _ h4,bx _ _ h5,bx _ _ h6,h7',?_⟩;rcases h8 with h8|⟨h8,Y,p',h9,h10⟩
 .exact .inl h8
 .obtain⟨p2,h10'⟩:=hl Y _ p' h10;exact .inr ⟨h8,Y,p2,h9,h10'⟩
theorem qhp.mono{g w:Nat}{U U':Nat->Kd}{tr tr':Tr Blk}{RV RV':List Sy}(hb:∀b,U b = .box->U' b = .box/\tr'.get b=tr.get b)(hl:∀b F p,U b = .lab F p->∃p',U' b = .lab F p')
  (hr:∀(j:Nat) y,RV[j]?=some y->RV'[j]?=some y):∀{js:List Nat}{cs:List AV},qhp g w U tr RV js cs->qhp g w U' tr' RV' js cs
 | [],[],_=>trivial
 | _::_,_::_,h=>⟨h.1.mono hb hl hr,qhp.mono hb hl hr h.2⟩
 | [],_::_,h=>h.elim
 | _::_,[],h=>h.elim
def qhp.app{g w:Nat}{U:Nat->Kd}{tr:Tr Blk}{RV:List Sy}{j:Nat}{c:AV}(hj:JOk g w U tr RV j c):∀{js:List Nat}{cs:List AV},qhp g w U tr RV js cs->qhp g w U tr RV (js++[j]) (cs++[c])
 | [],[],_=>⟨hj,trivial⟩
 | _::_,_::_,h=>⟨h.1,qhp.app hj h.2⟩
 | [],_::_,h=>h.elim
 | _::_,[],h=>h.elim
section
variable {g w s:Nat}{U:Nat->Kd}{tr:Tr Blk}{RV:List Sy}{N:List Nat}
def WI.fresh(h:WI g w U s tr RV N):U s = .no:=by
 cases hk:U s with
 | no=>rfl
 | _=>exact absurd (h.dom s (by rw[hk];simp)) (Nat.lt_irrefl _)
def WI.new(h:WI g w U s tr RV N)(kd:Kd)(x:Blk)(hk:kd = .no\/kd = .fr\/kd = .box\/∃F,kd = .lab F false/\x = .v [.j 0]):WI g w (kdS U s kd) (s+1) (tr.set s x) RV N:=by
 have hs:=h.fresh;have ne:∀{b},U b≠.no->b≠s:=Ag
 obtain⟨bl,bt,cs,js,r1,r2,r3,r4,r5,r6,r7,r8,r9⟩:=h.rows;refine⟨λb hb=>?_,⟨bl,bt,cs,js,?_,?_,?_,?_,?_,?_,r7.mono ?_ ?_ λ_ _ q=>q,r8,r9⟩,λb F p hb=>?_⟩
 .by_cases e:b=s
  .exact Ab
  .rw[qk e]at hb;have:=h.dom b hb;exact Ab
 .rw[qk Ae];exact r1
 .rw[qk Ae];exact r2
 .rw[qk Ae];exact r3
 .rw[zz4,if_neg Ae];exact r4
 .rw[zz4,if_neg Ae];exact r5
 .rw[zz4,if_neg Ae];exact r6
 .simp_all[qk,zz4]
 .simp_all[qk]
 .by_cases e:b=s
  .simp_all[qU,zz4]
  .rw[qk e]at hb;rw[zz4,if_neg e];exact h.lab b F p hb
def WI.stpLab(h:WI g w U s tr RV N)(kd:Kd)(x:Blk):Stp [s] U s tr (kdS U s kd) (s+1) (tr.set s x):=by
 have hs:=h.fresh;have ne:∀{b},U b≠.no->b≠s:=Ag
 refine⟨Ab,λb hb=>?_,λb hb=>?_,λb F p hb=>?_,λb F hb=>?_⟩
 all_goals grind[qk,Tr.get_set]
def WI.stpNew(h:WI g w U s tr RV N)(kd:Kd)(x:Blk)(hk:∀F,kd≠.lab F false):Stp [] U s tr (kdS U s kd) (s+1) (tr.set s x):=by
 refine { h.stpLab kd x with nw:=λb F hb=>?_ }
 grind[qU,qk]
def WI.chg(h:WI g w U s tr RV N){b:Nat}(kd:Kd)(x:Blk)(hb:U b = .fr\/U b = .no)(hbs:b<s)(hk:kd = .no\/kd = .fr\/kd = .box):WI g w (kdS U b kd) s (tr.set b x) RV N:=by
 have ne:∀{c},U c≠.no->U c≠.fr->c≠b:=λh1 h2 e=>Ae
 obtain⟨bl,bt,cs,js,r1,r2,r3,r4,r5,r6,r7,r8,r9⟩:=h.rows;refine⟨λc hc=>?_,⟨bl,bt,cs,js,?_,?_,?_,?_,?_,?_,r7.mono ?_ ?_ λ_ _ q=>q,r8,r9⟩,λc F p hc=>?_⟩
 .by_cases e:c=b
  .exact Ab
  .rw[qk e]at hc;exact h.dom c hc
 .rw[qk Ae];exact r1
 .rw[qk Ae];exact r2
 .rw[qk Ae];exact r3
 .rw[zz4,if_neg Ae];exact r4
 .rw[zz4,if_neg Ae];exact r5
 .rw[zz4,if_neg Ae];exact r6
 .simp_all[qk,zz4]
 .simp_all[qk]
 .by_cases e:c=b
  .simp_all[qU]
  .rw[qk e]at hc;rw[zz4,if_neg e];exact h.lab c F p hc
def qEa{bx e:Nat}{a:Bool}(hc:Ck P f zu)(h:WI g w U s tr RV N)(y:Sy)(hx:tr.get bx=some (.cells e true a (cSy y.raw)))(hm:RV.length<=1000000) :
  ∃U' s' tr',Stp [] U s tr U' s' tr'/\WI g w U' s' tr' (RV++[y]) (RV.length::N)/\∀k:AV->Hp->Prop,k (.tup []) ⟨s',0,tr'⟩->SC P f [.ptr w 0,.sl bx 0 1 1 false] ⟨s,0,tr⟩ k:=by
 obtain⟨bl,bt,cs,js,r1,r2,r3,r4,r5,r6,r7,r8,r9⟩:=h.rows;have hs:=h.fresh;have ne:∀{b c},U b≠U c->b≠c:=Ag
 have ns:∀{b},U b≠.no->b≠s:=Ae
 have wl:w≠bl:=Ae
 have tl:bt≠bl:=Ae
 have tw:bt≠w:=Ae
 have sw:s≠w:=Ae
 have sl:s≠bl:=Ae
 have st:bt≠s:=Ae
 have ge:∀b,U b≠.w->U b≠.l->U b≠.no->(((tr.set bl .dead).set s (.cells 4 true true (rSy (RV.map Sy.raw)++cSy y.raw))).set w (.v [.own s (RV.length+1),.own bt cs.length])).get b=tr.get b:=λb h1 h2 h3=>by
  rw[zz4,if_neg Ae,zz4,if_neg (ns h3),zz4,if_neg Ae]
 have gk:∀b,U b≠.l->U b≠.no->kdS (kdS U bl .no) s .l b=U b:=λb h1 h2=>by
  rw[qk (ns h2),qk Ae]
 refine⟨kdS (kdS U bl .no) s .l,s+1,((tr.set bl .dead).set s (.cells 4 true true (rSy (RV.map Sy.raw)++cSy y.raw))).set w (.v [.own s (RV.length+1),.own bt cs.length]),⟨Ab,λb hb=>?_,λb hb=>?_,λb F p hb=>?_,λb F hb=>.inl (by
  grind[qU,qk])⟩,⟨λb hb=>?_,⟨s,bt,cs,js,?_,?_,?_,?_,?_,?_,r7.mono ?_ ?_ ?_,?_,?_⟩,λb F p hb=>?_⟩,
  λk hk=>qHf hc y.raw r4 r5 (by rw[qan,zzz]) hx hm wl (h.dom w Fx) (zzu _) (zzu _) ⟨rfl,rfl⟩ hk⟩
 .exact Ae
 .exact Ae
 .rw[gk b Ef Ef];exact hb
 .by_cases e:b=s
  .exact Ab
  .rw[qk e]at hb
   by_cases e2:b=bl
   .rw[e2,qU]at hb;exact Ae
   .rw[qk e2]at hb;have:=h.dom b hb;exact Ab
 .rw[gk w Fx Fx];exact r1
 .rw[qU]
 .rw[gk bt G4 G4];exact r3
 .rw[zz4,if_pos rfl];simp
 .rw[zz4,if_neg sw,zz4,if_pos rfl];rw[qCM,qtV];simp
 .rw[ge bt G4 G4 G4];exact r6
 .exact Ae
 .exact Ae
 .exact Ag
 .exact Ag
 .exact Ag
 .by_cases e:b=s
  .rw[e,qU]at hb;cases hb
  .rw[qk e]at hb
   by_cases e2:b=bl
   .rw[e2,qU]at hb;cases hb
   .rw[qk e2]at hb;obtain⟨x,q1,q2⟩:=h.lab b F p hb
    exact Ae
def qzr{k:AV->Hp->Prop}{bx e:Nat}{a:Bool}(hc:Ck P f zu)(h:WI g w U s tr RV N)(y:Sy)(hx:tr.get bx=some (.cells e true a (cSy y.raw)))(hm:RV.length<=1000000)
  (hk:∀U' s' tr',Stp [] U s tr U' s' tr'->WI g w U' s' tr' (RV++[y]) (RV.length::N)->k (.tup []) ⟨s',0,tr'⟩):SC P f [.ptr w 0,.sl bx 0 1 1 false] ⟨s,0,tr⟩ k:=by
 obtain⟨U',s',tr',q1,q2,q3⟩:=qEa hc h y hx hm;exact q3 k Ag
def WI.drop{n:Nat}(h:WI g w U s tr RV (n::N))(hn:∀y,RV[n]?=some y->y.raw=y):WI g w U s tr RV N:=by
 obtain⟨bl,bt,cs,js,r1,r2,r3,r4,r5,r6,r7,r8,r9⟩:=h.rows;refine⟨h.dom,⟨bl,bt,cs,js,r1,r2,r3,r4,r5,r6,r7,by simp at r8;exact Ab,λj y hy hj hN=>?_⟩,h.lab⟩
 by_cases e:j=n
 .subst e;exact hn y hy
 .exact r9 j y hy hj λq=>by rcases zzc.1 q with q|q<;>contradiction
def WI.add{n bl bt m:Nat}{c:AV}{cs:List AV}(h:WI g w U s tr RV (n::N))(hj:JOk g w U tr RV n c)(hw:tr.get w=some (.v [.own bl RV.length,.own bt m]))(ht:tr.get bt=some (.cells 1 true true cs)) :
  WI g w (kdS (kdS U bt .no) s .t) (s+1) (((tr.set bt .dead).set s (.cells 1 true true (cs++[c]))).set w (.v [.own bl RV.length,.own s (m+1)])) RV N /\
  Stp [] U s tr (kdS (kdS U bt .no) s .t) (s+1) (((tr.set bt .dead).set s (.cells 1 true true (cs++[c]))).set w (.v [.own bl RV.length,.own s (m+1)])):=by
 obtain⟨bl',bt',cs',js,r1,r2,r3,r4,r5,r6,r7,r8,r9⟩:=h.rows;rw[hw]at r4;cases r4;rw[ht]at r6;cases r6;have hs:=h.fresh;have ne:∀{b c},U b≠U c->b≠c:=Ag
 have ns:∀{b},U b≠.no->b≠s:=Ae
 have sw:s≠w:=Ae
 have sb:s≠bt:=Ae
 have ge:∀b,U b≠.w->U b≠.t->U b≠.no->(((tr.set bt .dead).set s (.cells 1 true true (cs++[c]))).set w (.v [.own bl RV.length,.own s (cs.length+1)])).get b=tr.get b:=λb h1 h2 h3=>by
  rw[zz4,if_neg Ae,zz4,if_neg (ns h3),zz4,if_neg Ae]
 have gk:∀b,U b≠.t->U b≠.no->kdS (kdS U bt .no) s .t b=U b:=λb h1 h2=>by
  rw[qk (ns h2),qk Ae]
 have hB:∀b,U b = .box->kdS (kdS U bt .no) s .t b = .box/\(((tr.set bt .dead).set s (.cells 1 true true (cs++[c]))).set w (.v [.own bl RV.length,.own s (cs.length+1)])).get b=tr.get b:=λb hb =>
  Ae
 have hL:∀b F p,U b = .lab F p->kdS (kdS U bt .no) s .t b = .lab F p:=Ae
 refine⟨⟨λb hb=>?_,⟨bl,s,cs++[c],js++[n],?_,?_,?_,?_,?_,?_,?_,?_,?_⟩,λb F p hb=>?_⟩,⟨Ab,λb hb=>?_,hB,hL,λb F hb=>.inl (by
  by_cases e:b=s
  .rw[e,qU]at hb;cases hb
  .rw[qk e]at hb
   by_cases e2:b=bt
   .rw[e2,qU]at hb;cases hb
   .rw[qk e2]at hb;exact hb)⟩⟩
 .by_cases e:b=s
  .exact Ab
  .rw[qk e]at hb
   by_cases e2:b=bt
   .rw[e2,qU]at hb;exact absurd rfl hb
   .rw[qk e2]at hb;have:=h.dom b hb;exact Ab
 .rw[gk w Fx Fx];exact r1
 .rw[gk bl G5 G5];exact r2
 .rw[qU]
 .rw[zz4,if_pos rfl];simp
 .rw[ge bl G5 G5 G5];exact r5
 .rw[zz4,if_neg sw,zz4,if_pos rfl]
 .exact qhp.app (hj.mono hB Ae λ_ _ q=>q) (r7.mono hB Ae λ_ _ q=>q)
 .simp at r8 ⊢;exact Ab
 .intro j y hy hj hN;exact Ag
 .by_cases e:b=s
  .rw[e,qU]at hb;cases hb
  .rw[qk e]at hb
   by_cases e2:b=bt
   .rw[e2,qU]at hb;cases hb
   .rw[qk e2]at hb;obtain⟨x,q1,q2⟩:=h.lab b F p hb;exact Ae
 exact Ae
end
section
variable {g w s gp:Nat}{U:Nat->Kd}{tr:Tr Blk}{RV:List Sy}{N:List Nat}{k:AV->Hp->Prop}
def WI.dropS{y:Sy}(h:WI g w U s tr (RV++[y]) (RV.length::N))(hy:y.raw=y):WI g w U s tr (RV++[y]) N:=h.drop λz hz=>Ae
def wV(a:Nat):IFn:=irJ 177 [216,a]
def qne(hc:Ck P f (wV gp))(hp:Ck P gp zu)(h:WI g w U s tr RV N)(a:Int)(hm:RV.length<=1000000)
  (hk:∀U' s' tr',Stp [] U s tr U' s' tr'->WI g w U' s' tr' (RV++[⟨32,a,0,0⟩]) N->k (.tup []) ⟨s',0,tr'⟩):SC P f [.ptr w 0,.w a] ⟨s,0,tr⟩ k:=by
 refine Bg ?_;simp only[wV,vI,simprocAttr];refine Aa ?_;refine qzr hp (h.new .no _ (.inl rfl)) ⟨32,a,0,0⟩ Eu hm ?_;intro U' s' tr' st hw;refine Aa ?_;exact Hy
def qbu(a:Nat):IFn:=irJ 157 [216,a]
def qoO(hc:Ck P f (qbu gp))(hp:Ck P gp zu)(h:WI g w U s tr RV N)(a:Int)(hm:RV.length<=1000000)
  (hk:∀U' s' tr',Stp [] U s tr U' s' tr'->WI g w U' s' tr' (RV++[⟨6,a,0,0⟩]) N->k (.tup []) ⟨s',0,tr'⟩):SC P f [.ptr w 0,.w a] ⟨s,0,tr⟩ k:=by
 refine Bg ?_;simp only[qbu,vI,simprocAttr];refine Aa ?_;refine qzr hp (h.new .no _ (.inl rfl)) ⟨6,a,0,0⟩ Eu hm ?_;intro U' s' tr' st hw;refine Aa ?_;exact Hy
def qa2(hc:Ck P f jB)(h:WI g w U s tr RV N){b:Nat}{p:Bool}(hb:U b = .lab RV.length p)
  (hk:∀tr',(∀c,U c = .fr->tr'.get c=tr.get c)->(∀c,U c = .box->tr'.get c=tr.get c)->WI g w (kdS U b (.lab RV.length true)) s tr' RV N->k (.tup []) ⟨s,0,tr'⟩):SC P f [.ptr w 0,.ptr b 0] ⟨s,0,tr⟩ k:=by
 obtain⟨bl,bt,cs,js,r1,r2,r3,r4,r5,r6,r7,r8,r9⟩:=h.rows;obtain⟨x,q1,q2⟩:=h.lab _ _ _ hb;have ne:∀{b c},U b≠U c->b≠c:=Ag
 have nb:∀{c},(∀F p,U c≠.lab F p)->c≠b:=Ag
 refine qBH hc r4 q1 (zzu _) (hk _ (λc hc=>?_) (λc hc=>?_) ⟨λc hc=>?_,⟨bl,bt,cs,js,?_,?_,?_,?_,?_,?_,r7.mono ?_ ?_ λ_ _ q=>q,r8,r9⟩,λc F p hc=>?_⟩)
 .rw[zz4,if_neg Ae]
 .rw[zz4,if_neg Ae]
 .by_cases e:c=b
  .rw[e];exact h.dom b Ef
  .rw[qk e]at hc;exact h.dom c hc
 .rw[qk Ae];exact r1
 .rw[qk Ae];exact r2
 .rw[qk Ae];exact r3
 .rw[zz4,if_neg Ae];exact r4
 .rw[zz4,if_neg Ae];exact r5
 .rw[zz4,if_neg Ae];exact r6
 .simp_all[qk,zz4]
 .grind[qU,qk]
 .by_cases e:c=b
  .rw[e,qU]at hc;exact Gf
  .rw[qk e]at hc;rw[zz4,if_neg e];exact h.lab c F p hc
def jC(a b:Nat):IFn:=irJ 179 [216,a,234,b]
def qyk(hc:Ck P f (jC gp g))(hp:Ck P gp zu)(h:WI g w U s tr RV N)(y:Sy){X:Nat}{p:Bool}{o:AV}(hX:U X = .lab y.th p)
  (ho:(y.code=5/\o = .nilp/\y.el=0)\/(y.code≠5/\∃Y p',o = .ptr Y 0/\U Y = .lab y.el p')) (hm:RV.length<=1000000) :
  ∃U' s' tr',Stp [] U s tr U' s' tr'/\WI g w U' s' tr' (RV++[y]) N/\∀k:AV->Hp->Prop,k (.tup []) ⟨s',0,tr'⟩->SC P f [.ptr w 0,.h y.code,.w y.k,.ptr X 0,o] ⟨s,0,tr⟩ k:=by
 obtain⟨bl,bt,cs,js,r1,r2,r3,r4,r5,r6,r7,r8,r9⟩:=h.rows;have hs:=h.fresh;have ws:w<s:=h.dom w Fx
 have hod:qdJ o=true/\cellsOf o=[o]/\zM o=true:=by
  rcases ho with⟨_,rfl,_⟩|⟨_,Y,_,rfl,_⟩<;>exact⟨rfl,rfl,rfl⟩
 obtain⟨o1,o2,o3⟩:=hod;have w0:¬w=s:=Ab
 have w1:¬w=s+1:=Ab
 have w2:¬w=s+1+1:=Ab
 have w3:¬w=s+1+1+1:=Ab
 have w4:¬w=s+1+1+1+1:=Ab
 have s1:¬s=s+1:=Ab
 have s2:¬s=s+1+1:=Ab
 have s3:¬s=s+1+1+1:=Ab
 have s4:¬s=s+1+1+1+1:=Ab
 have s0:¬s=s+1+1+1+1+1:=Ab
 have s5:¬s+1=s+1+1:=Ab
 have s6:¬s+1=s+1+1+1:=Ab
 have s7:¬s+1=s+1+1+1+1:=Ab
 have h1:=h.new .box (.v [.ptr w 0]) Ae;have h2:=h1.new .box (.v [.h y.code]) Ae;have h3:=h2.new .box (.v [.ptr X 0]) Ae;have h4:=h3.new .box (.v [o]) Ae;have h5:=h4.new .no (.v [.j 0]) (.inl rfl);have h6:=h5.chg (b:=s+1+1+1+1) .box (.v [.j (RV.length:Int)]) (.inr qU) Ab (.inr (.inr rfl));have h7:=h6.new .no (.v [.h y.code,.w y.k,.j 0,.j 0]) (.inl rfl);obtain⟨U',s',tr',st',hw,hput⟩:=qEa hp h7 y Eu hm;have d0:∀{b},b<s'->¬b=s':=λh e=>Ab
 obtain⟨bl',bt',cs',js',q1,q2,q3,q4,q5,q6,q7,q8,q9⟩:=hw.rows;have ne:∀{b c},U' b≠U' c->b≠c:=Ag
 have nn:∀a:Nat,¬s=s+a+1:=λa h=>Ab
 have ke:∀c:Nat,c<5->kdS (kdS (kdS (kdS (kdS (kdS (kdS U s .box) (s+1) .box) (s+1+1) .box) (s+1+1+1) .box) (s+1+1+1+1) .no) (s+1+1+1+1) .box) (s+1+1+1+1+1) .no (s+c) = .box:=by
  intro c hc;simp only[kdS];have:c=0\/c=1\/c=2\/c=3\/c=4:=Ab
  rcases this with rfl|rfl|rfl|rfl|rfl<;>simp[s0,s1,s2,s3,s4]
 have b0:=st'.box (s+0) (ke 0 Ab);have b1:=st'.box (s+1) (ke 1 Ab);have b2:=st'.box (s+2) (ke 2 Ab);have b3:=st'.box (s+3) (ke 3 Ab);have b4:=st'.box (s+4) (ke 4 Ab);have g0:tr'.get s=some (.v [.ptr w 0]):=by rw[show s=s+0 from rfl,b0.2];simp[zz4,s0,s1,s2,s3,s4]
 have g1:tr'.get (s+1)=some (.v [.h y.code]):=by rw[b1.2];exact Be
 have g2:tr'.get (s+2)=some (.v [.ptr X 0]):=by rw[b2.2];exact Be
 have g3:tr'.get (s+3)=some (.v [o]):=by rw[b3.2];exact Be
 have g4:tr'.get (s+4)=some (.v [.j (RV.length:Int)]):=by rw[b4.2];exact Be
 have ws':w<s':=hw.dom w (by rw[q1];simp);have bs':bt'<s':=hw.dom bt' (by rw[q3];simp);have le':s+6<=s':=st'.le;have l0:¬s=s':=Ab
 have l1:¬w=s':=Ab
 have l2:¬bt'=s':=Ab
 have l3:¬w=s'+1:=Ab
 have l4:¬w=bt':=Ag
 have l5:¬s=s'+1:=Ab
 have l6:¬s=bt':=Ag
 have hr1:cs'.length+1<=qe:=by simp only[qe];exact Ag
 have hr2:(cs'.length+1)*8<=qe:=by simp only[qe];exact Ag
 have hw1:=hw.new .no (.v [.fn g [] [.ptr (s+1+1) 0,.ptr s 0,.ptr (s+1+1+1+1) 0,.ptr (s+1) 0,.ptr (s+1+1+1) 0]]) (.inl rfl)
 have bx:∀c v,c<5->U' (s+c) = .box->tr'.get (s+c)=some (.v [v])->Bx (kdS U' s' .no) (tr'.set s' (.v [.fn g [] [.ptr (s+1+1) 0,.ptr s 0,.ptr (s+1+1+1+1) 0,.ptr (s+1) 0,.ptr (s+1+1+1) 0]])) (s+c) v:=λc v hc e1 e2=>by
  have:s+c≠s':=Ab
  exact⟨by rw[qk this];exact e1,by rw[zz4,if_neg this];exact e2⟩
 have lk:∀b F p,U b = .lab F p->kdS U' s' .no b = .lab F p:=λb F p hb=>by
  have hbs:b<s:=h.dom b Ef;rw[qk Ab];refine st'.lab b F p ?_;simp only[kdS];rw[if_neg Ab,if_neg Ab,if_neg Ab,if_neg Ab,if_neg Ab,if_neg Ab,if_neg Ab];exact hb
 have hj:JOk g w (kdS U' s' .no) (tr'.set s' (.v [.fn g [] [.ptr (s+1+1) 0,.ptr s 0,.ptr (s+1+1+1+1) 0,.ptr (s+1) 0,.ptr (s+1+1+1) 0]])) (RV++[y]) RV.length (.fn g [] [.ptr (s+1+1) 0,.ptr s 0,.ptr (s+1+1+1+1) 0,.ptr (s+1) 0,.ptr (s+1+1+1) 0]):=by
  refine⟨s+0,s+1,s+2,s+3,s+4,X,p,o,y,rfl,by simp,bx 0 _ Ab b0.1 g0,Ag,Ag,Ag,Ag,lk _ _ _ hX,?_⟩
  rcases ho with ho|⟨h1,Y,p',h2,h3⟩
  all_goals grind
 obtain⟨e1,e2⟩:=hw1.add hj (by rw[zz4,if_neg l1];exact q4) (by rw[zz4,if_neg l2];exact q6);refine⟨_,_,_,?_,e1,λk hk=>?_⟩
 rotate_left
 .refine Bg ?_;simp only[jC,vI,simprocAttr];simp +decide only[↓vS,vT,simprocAttr,o1,o2,o3,r4,w0,w1,w2,w3,w4,s1,s2,s3,s4,s5,s6,s7];refine hput _ ?_;refine Aa ?_;refine qX ?_;simp +decide only[↓vS,vT,simprocAttr,g0,q4,q6,l0,l1,l2,l3,l4,l5,l6,ws',bs',hr1,hr2,zzU];exact hk
 refine Stp.trans (L:=[]) ?_ (st'.trans ((hw.stpNew .no _ (by simp)).trans e2));refine⟨Ab,λb hb=>?_,λb hb=>?_,λb F p hb=>?_,λb F hb=>.inl ?_⟩
 rotate_left 3
 .exact Fk
 all_goals have hbs:b<s:=h.dom b Ef
 .simp only[kdS,zz4]
  iterate 7 rw[if_neg Ab]
  iterate 7 rw[if_neg Ab]
  exact Ag
 .simp only[kdS,zz4]
  iterate 7 rw[if_neg Ab]
  iterate 7 rw[if_neg Ab]
  exact Ag
 .simp only[kdS]
  iterate 7 rw[if_neg Ab]
  exact hb
def qfD(hc:Ck P f (jC gp g))(hp:Ck P gp zu)(h:WI g w U s tr RV N)(y:Sy){X:Nat}{p:Bool}{o:AV}(hX:U X = .lab y.th p)
  (ho:(y.code=5/\o = .nilp/\y.el=0)\/(y.code≠5/\∃Y p',o = .ptr Y 0/\U Y = .lab y.el p')) (hm:RV.length<=1000000)
  (hk:∀U' s' tr',Stp [] U s tr U' s' tr'->WI g w U' s' tr' (RV++[y]) N->k (.tup []) ⟨s',0,tr'⟩):SC P f [.ptr w 0,.h y.code,.w y.k,.ptr X 0,o] ⟨s,0,tr⟩ k:=by
 obtain⟨U',s',tr',q1,q2,q3⟩:=qyk hc hp h y hX ho hm;exact q3 k Ag
end
def qhB{α:Type}{f:α->List AV}{m:Nat}(h:∀x,(f x).length=m){xs:List α}{j:Nat}{x x':α}{i:Nat}{v:AV}(hx:xs[j]?=some x)(hi:i<m)(hf:f x'=(f x).take i++([v]++(f x).drop (i+1))) :
  (xs.flatMap f).take (j*m+i)++([v]++(xs.flatMap f).drop (j*m+i+1))=(xs.set j x').flatMap f:=by
 obtain⟨hj,hx⟩:=zzS.1 hx;have e:xs=xs.take j++x::xs.drop (j+1):=by rw[<- hx,List.getElem_cons_drop,List.take_append_drop]
 have hl:(xs.take j).length=j:=by rw[zzm];exact Ab
 have hA:((xs.take j).flatMap f).length=j*m:=by rw[qY h,hl]
 have e1:xs.flatMap f=(xs.take j).flatMap f++(f x++(xs.drop (j+1)).flatMap f):=Ag
 have e2:(xs.set j x').flatMap f=(xs.take j).flatMap f++(f x'++(xs.drop (j+1)).flatMap f):=by
  rw[List.set_eq_take_append_cons_drop,if_pos hj];simp
 rw[e1,e2,hf,<- hA,List.take_length_add_append,show((xs.take j).flatMap f).length+i+1=((xs.take j).flatMap f).length+(i+1)from rfl,List.drop_length_add_append]
 rw[List.take_append_of_le_length (by rw[h];exact Ab),List.drop_append_of_le_length (by rw[h];exact Ab)];simp
def qeZ(s:Sy):(cSy s).length=4:=rfl
def zg:IFn:=irJ 234 []
def qyi(hc:Ck P f zg){s w bl j b5 b6 b8 b9 b10 X F:Nat}{L:List Sy}{z:Sy}{x o:AV}{c:Int}{e:Nat}{tr:Tr Blk}{k:AV->Hp->Prop}
  (hw:tr.get w=some (.v [.own bl L.length,x])) (hl:tr.get bl=some (.cells 4 true true (rSy L))) (hz:L[j]?=some z)
  (g5:tr.get b5=some (.v [.ptr w 0])) (g6:tr.get b6=some (.v [.h c])) (g8:tr.get b8=some (.v [.ptr X 0])) (g9:tr.get b9=some (.v [o])) (g10:tr.get b10=some (.v [.j (j:Int)]))
  (gX:tr.get X=some (.v [.j (F:Int)])) (hn:w≠bl/\b5≠bl/\b6≠bl/\b8≠bl/\b9≠bl/\b10≠bl/\X≠bl) (hd:bl<s)
  (ho:(c=5/\e=z.el)\/(c≠5/\∃Y,o = .ptr Y 0/\Y≠bl/\tr.get Y=some (.v [.j (e:Int)])))
  (hk:∀tr',(∀b,tr'.get b=if b=bl then some (.cells 4 true true (rSy (L.set j ⟨z.code,z.k,F,e⟩)))else tr.get b)->k (.tup []) ⟨s,0,tr'⟩) :
  SC P f [.ptr b8 0,.ptr b5 0,.ptr b10 0,.ptr b6 0,.ptr b9 0] ⟨s,0,tr⟩ k:=by
 obtain⟨n1,n2,n3,n4,n5,n6,n7⟩:=hn;have hj:j<L.length:=Ag
 have hj4:j*4+2+1<=(rSy L).length:=by rw[qan];exact Ab
 have h1:(rSy L).take (j*4+2) ++ .j (F:Int)::(rSy L).drop (j*4+2+1)=rSy (L.set j ⟨z.code,z.k,F,z.el⟩):=qhB qeZ hz Ab rfl;have hz2:(L.set j ⟨z.code,z.k,F,z.el⟩)[j]?=some ⟨z.code,z.k,F,z.el⟩:=Ag
 have h2:(rSy (L.set j ⟨z.code,z.k,F,z.el⟩)).take (j*4+3) ++ .j (e:Int)::(rSy (L.set j ⟨z.code,z.k,F,z.el⟩)).drop (j*4+3+1)=rSy (L.set j ⟨z.code,z.k,F,e⟩):=by
  have:=qhB (x':=⟨z.code,z.k,F,e⟩) (v:=.j (e:Int)) (i:=3) qeZ hz2 Ab rfl;rw[List.set_set]at this;exact this
 have hj5:j*4+3+1<=(rSy (L.set j ⟨z.code,z.k,F,z.el⟩)).length:=by rw[qan,List.length_set];exact Ab
 refine Bg ?_;simp only[zg,vI,simprocAttr];refine qX ?_;simp +decide only[↓vS,vT,simprocAttr,g5,hw,g10,g8,gX,hl,n1,n2,n3,n4,n5,n6,n7,hj,hd,hj4,h1];rcases ho with⟨rfl,rfl⟩|⟨hc5,Y,rfl,nY,gY⟩
 .refine Sa g6 ?_
  exact Gf
 .refine Sa (zzA g6 hc5) ?_;refine qX ?_;have n1':¬w=bl:=n1;simp +decide only[↓vS,vT,simprocAttr,g5,hw,g10,g9,gY,hl,n1,n2,n3,n4,n5,n6,n7,nY,hj,hd,hj5,List.length_set,h2]
  exact Gf
def zB:IFn:=irJ 159 []
def qgi(js:List Nat)(RV:List Sy):List Sy:=RV.mapIdx λj y=>if j ∈ js then y else y.raw
theorem qvR{RV:List Sy}:qgi [] RV=RV.map Sy.raw:=by
 apply List.ext_getElem?;intro i;simp[qgi]
theorem qoG{js:List Nat}{RV:List Sy}:(qgi js RV).length=RV.length:=by simp[qgi]
theorem qle{js:List Nat}{RV:List Sy}{j:Nat}:(qgi js RV)[j]?=(RV[j]?).map λy=>if j ∈ js then y else y.raw:=by simp[qgi]
def qsv{js:List Nat}{RV:List Sy}{j:Nat}{y:Sy}(hy:RV[j]?=some y):(qgi js RV).set j y=qgi (js++[j]) RV:=by
 have hj:j<RV.length:=Ag
 apply List.ext_getElem?
 grind[qoG,qle]
def qvQ{js:List Nat}{RV:List Sy}(h:∀(j:Nat) y,RV[j]?=some y->j ∉ js->y.raw=y):qgi js RV=RV:=by
 apply List.ext_getElem?
 grind[qle]
theorem qhp.get{g w:Nat}{U:Nat->Kd}{tr:Tr Blk}{RV:List Sy}:∀{js:List Nat}{cs:List AV},qhp g w U tr RV js cs->∀{i:Nat}{c:AV},cs[i]?=some c->∃j,js[i]?=some j/\JOk g w U tr RV j c
 | [],[],_,_,_,h=>Ag
 | j::js,c::cs,h,0,_,hi=>by simp at hi;subst hi;exact⟨j,rfl,h.1⟩
 | j::js,c::cs,h,i+1,_,hi=>by simpa using qhp.get h.2 Ae
 | [],_::_,h,_,_,_=>h.elim
 | _::_,[],h,_,_,_=>h.elim
theorem qhp.len{g w:Nat}{U:Nat->Kd}{tr:Tr Blk}{RV:List Sy}:∀{js:List Nat}{cs:List AV},qhp g w U tr RV js cs->js.length=cs.length
 | [],[],_=>rfl
 | _::_,_::_,h=>by simp[qhp.len h.2]
 | [],_::_,h=>h.elim
 | _::_,[],h=>h.elim
def qxr{g w s:Nat}{U:Nat->Kd}{tr:Tr Blk}{RV:List Sy}{k:AV->Hp->Prop}(hc:Ck P f zB)(hg:Ck P g zg)(h:WI g w U s tr RV [])(hp:∀b F p,U b = .lab F p->p=true)(hm:RV.length<=1000000)
  (hk:∀tr' b,tr'.get b=some (.cells 4 true true (rSy RV))->b<s->k (.own b RV.length) ⟨s,0,tr'⟩):SC P f [.ptr w 0] ⟨s,0,tr⟩ k:=by
 obtain⟨bl,bt,cs,js,r1,r2,r3,r4,r5,r6,r7,r8,r9⟩:=h.rows;have ne:∀{b c},U b≠U c->b≠c:=Ag
 have hjl:=r7.len;refine Bg ?_;simp only[zB,vI,simprocAttr];refine Sa r4 ?_;have wl:w≠bl:=Ae
 have tl:bt≠bl:=Ae
 refine SL.loopP (α:=Nat) (λi=>[(0,.ptr w 0),(2,.nils),(8,.own bt cs.length),(9,.j (cs.length:Int)),(10,.j (i:Int))])
  (λi h=>i<=cs.length/\∃tr',h=⟨s,0,tr'⟩/\∀b,tr'.get b=if b=bl then some (.cells 4 true true (rSy (qgi (js.take i) RV)))else tr.get b) (λi=>cs.length-i) ?_ 0 ?_ ?_
 .rintro i h1 ⟨hi,tr',rfl,hget⟩ G ih;refine Ak ?_;have g4:tr'.get w=some (.v [.own bl RV.length,.own bt cs.length]):=by rw[hget,if_neg wl];exact r4
  have g5:tr'.get bl=some (.cells 4 true true (rSy (qgi (js.take i) RV))):=by rw[hget,if_pos rfl]
  have g6:tr'.get bt=some (.cells 1 true true cs):=by rw[hget,if_neg tl];exact r6
  by_cases hlt:i<cs.length
  .obtain⟨j,hj,b5,b6,b8,b9,b10,X,p,o,y,h0,h1,h2,h3,h4,h5,h6,h7,h8⟩:=r7.get (zzE hlt);have hci:cs[i]?=some (.fn g [] [.ptr b8 0,.ptr b5 0,.ptr b10 0,.ptr b6 0,.ptr b9 0]):=by rw[zzE hlt,h0]
   have nb:∀{b v},Bx U tr b v->b≠bl/\tr'.get b=some (.v [v]):=λ{b v} q=>by
    have e:b≠bl:=ne (by rw[q.1,r2];simp);exact⟨e,by rw[hget,if_neg e];exact q.2⟩
   have nl:∀{b F p},U b = .lab F p->b≠bl/\tr'.get b=some (.v [.j (F:Int)]):=λ{b F p} q=>by
    have e:b≠bl:=Ag
    obtain⟨x,q1,q2⟩:=h.lab b F p q;exact Ag
   have hlt':(i:Int)<cs.length:=Ab
   have hw1:=wS i;simp +decide only[↓vS,vT,simprocAttr,hlt',hlt,g6,hci,zzU];have hz:(qgi (js.take i) RV)[j]?=some (if j ∈ js.take i then y else y.raw):=by rw[qle,h1];rfl
   refine qyi (F:=y.th) (e:=y.el) (c:=y.code) (L:=qgi (js.take i) RV) hg (by rw[qoG];exact g4) g5 hz (nb h2).2 (nb h3).2 (nb h4).2 (nb h5).2 (nb h6).2 (nl h7).2 Ag (by grind[WI.dom]) ?_ ?_
   .rcases h8 with⟨h8,rfl,h9⟩|⟨h8,Y,p',rfl,h9⟩
    .exact .inl ⟨h8,by split<;>simp[h9,Sy.raw]⟩
    .exact Ag
   .intro tr2 hget2;have ec:∀b:Bool,(⟨(if j ∈ js.take i then y else y.raw).code,(if j ∈ js.take i then y else y.raw).k,y.th,y.el⟩:Sy)=y:=λ_=>by split<;>rfl
    rw[ec true,qsv h1]at hget2;refine Sa hw1 ?_;refine ih (i+1) _ _ Ab ?_ ⟨Ab,tr2,rfl,λb=>?_⟩
    .exact Am
    .rw[hget2,hget];have:js.take (i+1)=js.take i++[j]:=by rw[zz2,hj];rfl
     rw[this];split<;>rfl
  .obtain rfl:i=cs.length:=Ab
   have hlt':¬((cs.length:Int)<cs.length):=Ab
   refine Sa (zzA hlt' g4) ?_;rw[show js.take cs.length=js from by rw[<- hjl,zz0]]at g5
   rw[qvQ Ag]at g5;exact by grind[WI.dom]
 .exact Am
 grind[qvR]
theorem Stp.kd{L L':List Nat}{U U1:Nat->Kd}{s s1:Nat}{tr t1 t2:Tr Blk}(a:Stp L U s tr U1 s1 t1)(hd:∀b,U b≠.no->b<s){b F':Nat}(hb:s<=b)(hf:∀c,U1 c = .fr->t2.get c=t1.get c)(hx:∀c,U1 c = .box->t2.get c=t1.get c)(hL:∀c ∈ L,c=b\/c ∈ L'):Stp L' U s tr (kdS U1 b (.lab F' true)) s1 t2:=by
 have ne:∀{c},U c≠.no->c≠b:=Ag
 refine⟨a.le,λc hc=>?_,λc hc=>?_,λc F p hc=>?_,λc F hc=>?_⟩
 .rw[qk Ae];exact by grind[Stp.fr]
 .rw[qk Ae];exact by grind[Stp.box]
 .rw[qk Ae];exact a.lab c F p hc
 grind[qU,qk,Stp.nw]
def qex(a mask v:Int)(p F:Nat):List Sy :=
 if mask=0 then []else if mask=4294967295 then [⟨32,a,0,0⟩,⟨21,v,p+2,F⟩]else [⟨32,a,0,0⟩,⟨84,mask,0,0⟩,⟨21,v,p+3,F⟩]
def qcy(mask:Int):Nat:=if mask=0 then 0 else if mask=4294967295 then 2 else 3
theorem qcR{a m v:Int}{p F:Nat}:(qex a m v p F).length=qcy m:=by
 unfold qex qcy;exact Ag
section
variable {g w s gl gp gj gh:Nat}{U:Nat->Kd}{tr:Tr Blk}{RV:List Sy}{N:List Nat}{k:AV->Hp->Prop}
def jA(a b c d:Nat):IFn:=irJ 265 [177,a,216,b,179,c,156,d]
def qx4(hc:Ck P f (jA gl gp gj gh))(h1:Ck P gl (wV gp))(h2:Ck P gp zu)(h3:Ck P gj (jC gp g))(h4:Ck P gh jB)
  (h:WI g w U s tr RV N) (a m v:Int) {X F:Nat}{p:Bool}(hX:U X = .lab F p) (hm:RV.length+3<=1000000)
  (hk:∀U' s' tr',Stp [] U s tr U' s' tr'->WI g w U' s' tr' (RV++qex a m v RV.length F) N->k (.tup []) ⟨s',0,tr'⟩):SC P f [.ptr w 0,.w a,.w m,.w v,.ptr X 0] ⟨s,0,tr⟩ k:=by
 refine Bg ?_;simp only[jA,vI,simprocAttr];unfold qex at hk
 by_cases m0:m=0
 .rw[if_pos m0]at hk;refine Sa m0 ?_
  grind[Stp.refl]
 rw[if_neg m0]at hk;refine Sa m0 ?_;refine qne h1 h2 h a Ab λU1 s1 t1 st1 w1=>?_
 by_cases m1:m=4294967295
 .rw[if_pos m1]at hk;refine Sa m1 ?_;have w2:=w1.new (.lab (RV.length+2) false) _ (.inr (.inr (.inr ⟨_,rfl,rfl⟩)));have st2:=st1.trans (w1.stpLab (.lab (RV.length+2) false) (.v [.j 0]));refine qfD h3 h2 w2 ⟨21,v,RV.length+2,F⟩ qU (.inr ⟨(Af:(21:Int)≠5),X,p,rfl,st2.lab X F p hX⟩) Ag λU3 s3 t3 st3 w3=>?_
  refine Aa ?_
  have hb:U3 s1 = .lab (RV++[(⟨32,a,0,0⟩:Sy)]++[(⟨21,v,RV.length+2,F⟩:Sy)]).length false:=by
   rw[st3.lab s1 _ _ qU];simp
  refine qa2 h4 w3 hb λt4 q1 q2 w4=>?_
  refine Aa ?_;rw[zzi]at w4;exact hk _ _ _ (((st2.trans st3)).kd h.dom st1.le q1 q2 (by simp)) w4
 .rw[if_neg m1]at hk;refine Sa m1 ?_;refine qzr h2 (w1.new .no _ (.inl rfl)) ⟨84,m,0,0⟩ Eu Ag λU2 s2 t2 st2 w2=>?_
  have w2:=w2.dropS rfl;have st2:=st1.trans ((w1.stpNew _ _ (by simp)).trans st2);refine Aa ?_;have w3:=w2.new (.lab (RV.length+3) false) _ (.inr (.inr (.inr ⟨_,rfl,rfl⟩)));have st3:=st2.trans (w2.stpLab (.lab (RV.length+3) false) (.v [.j 0]));refine qfD h3 h2 w3 ⟨21,v,RV.length+3,F⟩ qU (.inr ⟨(Af:(21:Int)≠5),X,p,rfl,st3.lab X F p hX⟩) Ag λU4 s4 t4 st4 w4=>?_
  refine Aa ?_
  have hb:U4 s2 = .lab (RV++[(⟨32,a,0,0⟩:Sy)]++[(⟨84,m,0,0⟩:Sy)]++[(⟨21,v,RV.length+3,F⟩:Sy)]).length false:=by
   rw[st4.lab s2 _ _ qU];simp
  refine qa2 h4 w4 hb λt5 q1 q2 w5=>?_
  refine Aa ?_;rw[zzi,zzi]at w5;exact hk _ _ _ ((st3.trans st4).kd h.dom st2.le q1 q2 (by simp)) w5
end
def qiU:IFn:=irJ 304 []
def qG8(hc:Ck P f qiU)(a b:Int)(h0:0<=a)(h6:a<6)(hb0:0<=b)(hb:b<=4):qc P f [.j a,.j b] (.tup [.w (16+8*a+b),.b true]):=by
 refine Al ?_;have n1:¬a<0:=Ab
 have n2:¬5<a:=Ab
 have e1:IntKind.wrap .i64 (8*a)=8*a:=B6
 have e2:IntKind.wrap .i64 (16+8*a)=16+8*a:=B6
 have e3:IntKind.wrap .i64 (16+8*a+b)=16+8*a+b:=B6
 have e4:IntKind.wrap .u32 (16+8*a+b)=16+8*a+b:=Fn
 simp only[qiU,vI,simprocAttr];simp +decide only[↓vS,vT,simprocAttr,n1,n2,e1,e2,e3,e4];simp[vZ]
def qlB(a:Nat):IFn:=irJ 262 [304,a]
def qIq{g:Nat}(hc:Ck P f (qlB g))(hg:∀a b:Int,0<=a->a<6->0<=b->b<=4->qc P g [.j a,.j b] (.tup [.w (16+8*a+b),.b true]))(a:Int)(h0:0<=a)(h6:a<6):qc P f [.j a] (.tup [.w (16+8*a),.b true]):=by
 refine Al ?_;simp only[qlB,vI,simprocAttr];refine Aa ?_;refine(hg a 0 h0 h6 Ab Ab).sc ?_;refine Aa ?_;simp[vZ]
def qj7(a:Nat):IFn:=irJ 263 [304,a]
def qFQ{g:Nat}(hc:Ck P f (qj7 g))(hg:∀a b:Int,0<=a->a<6->0<=b->b<=4->qc P g [.j a,.j b] (.tup [.w (16+8*a+b),.b true]))(a:Int)(h0:0<=a)(h6:a<6):qc P f [.j a] (.tup [.w (16+8*a+4),.b true]):=by
 refine Al ?_;simp only[qj7,vI,simprocAttr];refine Aa ?_;refine(hg a 4 h0 h6 Ab Ab).sc ?_;refine Aa ?_;simp[vZ]
def qcu(t:GTest):Nat:=qcy (loW t.mask)+qcy (hiW t.mask)+1
def qjc(t:GTest)(p:Nat):List Sy :=
 qex (16+8*t.arg) (loW t.mask) (loW t.val) p (p+qcu t)++qex (16+8*t.arg+4) (hiW t.mask) (hiW t.val) (p+qcy (loW t.mask)) (p+qcu t)++[⟨6,t.act,0,0⟩]
theorem qgo{t:GTest}{p:Nat}:(qjc t p).length=qcu t:=by simp[qjc,qcu,qcR];exact Ab
def qj0{m:Int}:qcy m<=3:=by unfold qcy;exact Ag
theorem qrO{t:GTest}:qcu t<=7:=by have:=qj0 (m:=loW t.mask);have:=qj0 (m:=hiW t.mask);unfold qcu;exact Ab
structure TstOk (t:GTest):Prop where
 a0:0<=t.arg
 a1:t.arg<6
 m0:0<=t.mask
 m1:t.mask<18446744073709551616
 v0:0<=t.val
 v1:t.val<18446744073709551616
def quB(P:Program)(f:Nat)(b:Int):Prop:=∀a:Int,0<=a->a<6->qc P f [.j a] (.tup [.w (16+8*a+b),.b true])
structure WFn (P:Program) (g gl gp gj gh gr:Nat):Prop where
 ld:Ck P gl (wV gp)
 put:Ck P gp zu
 jmp:Ck P gj (jC gp g)
 here:Ck P gh jB
 ret:Ck P gr (qbu gp)
section
variable {g w s gl gp gj gh gr g1 g2 g3 g4 g5:Nat}{U:Nat->Kd}{tr:Tr Blk}{RV:List Sy}{N:List Nat}{k:AV->Hp->Prop}
def wW(a b c d e g:Nat):IFn:=irJ 217 [262,a,263,b,264,c,265,d,157,e,156,g]
def qHJ(hc:Ck P f (wW g1 g2 g3 g4 gr gh))(W:WFn P g gl gp gj gh gr)(c1:quB P g1 0)(c2:quB P g2 4)(c3:qAV P g3)(c4:Ck P g4 (jA gl gp gj gh))
  (h:WI g w U s tr RV N) (t:GTest) (ht:TstOk t) (hm:RV.length+7<=1000000)
  (hk:∀U' s' tr',Stp [] U s tr U' s' tr'->WI g w U' s' tr' (RV++qjc t RV.length) N->k (.tup []) ⟨s',0,tr'⟩):SC P f [.ptr w 0,.agg (xg t)] ⟨s,0,tr⟩ k:=by
 refine Bg ?_;simp only[wW,xg,vI,simprocAttr];refine Aa ?_;have s1:¬s=s+1:=Ab
 have w1:=h.new .fr (.v [.j t.arg,.x t.mask,.x t.val,.w t.act]) (.inr (.inl rfl));have w2:=w1.new (.lab (RV.length+qcu t) false) _ (.inr (.inr (.inr ⟨_,rfl,rfl⟩)));have st2:=(h.stpNew .fr (.v [.j t.arg,.x t.mask,.x t.val,.w t.act]) (by simp)).trans (w1.stpLab (.lab (RV.length+qcu t) false) (.v [.j 0]));have hX:=qU (U:=kdS U s .fr) (b:=s+1) (x:=.lab (RV.length+qcu t) false);have hf:kdS (kdS U s .fr) (s+1) (.lab (RV.length+qcu t) false) s = .fr:=by rw[qk Ab,qU]
 simp only[s1,↓vS,vT,simprocAttr];refine(c1 t.arg ht.a0 ht.a1).sc ?_;refine Sb s1 ?_;refine(c2 t.arg ht.a0 ht.a1).sc ?_;refine Sb s1 ?_;refine(c3 t.mask ht.m0 ht.m1).sc ?_;refine Sb s1 ?_;refine(c3 t.val ht.v0 ht.v1).sc ?_;refine Sb s1 ?_;refine qx4 c4 W.ld W.put W.jmp W.here w2 _ _ _ hX Ab λU3 s3 t3 st3 w3=>?_
 refine Ac ?_;have l3:(RV++qex (16+8*t.arg+0) (loW t.mask) (loW t.val) RV.length (RV.length+qcu t)).length=RV.length+qcy (loW t.mask):=by rw[zzP,qcR]
 have n1:=qj0 (m:=loW t.mask);have n2:=qj0 (m:=hiW t.mask);refine qx4 c4 W.ld W.put W.jmp W.here w3 _ _ _ (st3.lab _ _ _ hX) (by rw[l3];exact Ab) λU4 s4 t4 st4 w4=>?_
 rw[l3]at w4
 have g4:t4.get s=some (.v [.j t.arg,.x t.mask,.x t.val,.w t.act]):=by
  rw[((st3.trans st4).fr s hf).2,zz4,if_neg Ab,zz4,if_pos rfl]
 refine Sb g4 ?_;refine qoO W.ret W.put w4 t.act (by grind[qcR]) λU5 s5 t5 st5 w5=>?_
 refine Ac ?_
 have e5:RV++qex (16+8*t.arg+0) (loW t.mask) (loW t.val) RV.length (RV.length+qcu t)++qex (16+8*t.arg+4) (hiW t.mask) (hiW t.val) (RV.length+qcy (loW t.mask)) (RV.length+qcu t)++[⟨6,t.act,0,0⟩]=RV++qjc t RV.length:=by
  simp[qjc]
 rw[e5]at w5;refine qa2 W.here w5 (p:=false) (by rw[zzP,qgo];exact((st3.trans st4).trans st5).lab _ _ _ hX) λt6 q1 q2 w6=>?_
 refine Ac ?_;exact hk _ _ _ ((((st2.trans st3).trans st4).trans st5).kd h.dom Ab q1 q2 (by simp)) w6
end
def qc6:List GTest->Int->Nat->List Sy
 | [],a,_=>[⟨6,a,0,0⟩]
 | t::ts,a,p=>qjc t p++if t.mask=0 then []else qc6 ts a (p+qcu t)
def qv1(r:GRule)(p:Nat):List Sy:=qc6 r.tests r.act p
section
variable {g w s gl gp gj gh gr g1 g2 g3 g4 g5:Nat}{U:Nat->Kd}{tr:Tr Blk}{RV:List Sy}{N:List Nat}{k:AV->Hp->Prop}
def qa3(a b:Nat):IFn:=irJ 158 [217,a,157,b]
def qHo(hc:Ck P f (qa3 g5 gr))(W:WFn P g gl gp gj gh gr)(h5:Ck P g5 (wW g1 g2 g3 g4 gr gh))(c1:quB P g1 0)(c2:quB P g2 4)(c3:qAV P g3)(c4:Ck P g4 (jA gl gp gj gh))
  (h:WI g w U s tr RV N) (r:GRule) (ht:∀t ∈ r.tests,TstOk t) (hm:RV.length+r.tests.length*7+1<=1000000)
  (hk:∀U' s' tr',Stp [] U s tr U' s' tr'->WI g w U' s' tr' (RV++qv1 r RV.length) N->k (.tup []) ⟨s',0,tr'⟩):SC P f [.ptr w 0,.agg (zn r)] ⟨s,0,tr⟩ k:=by
 refine Bg ?_;simp only[qa3,zn,vI,simprocAttr];refine Aa ?_;have w1:=h.new .fr (.v [.w r.nr,.fz r.tests.length (rT r.tests),.w r.act]) (.inr (.inl rfl));have st1:=h.stpNew .fr (.v [.w r.nr,.fz r.tests.length (rT r.tests),.w r.act]) (by simp)
 refine SL.loopP (α:=Nat) (λi=>[(0,.ptr w 0),(3,.ptr s 0),(7,.fz r.tests.length (rT r.tests)),(8,.j (r.tests.length:Int)),(9,.j (i:Int))])
  (λi h=>i<=r.tests.length/\∃U' s' tr' RV',h=⟨s',0,tr'⟩/\Stp [] (kdS U s .fr) (s+1) (tr.set s (.v [.w r.nr,.fz r.tests.length (rT r.tests),.w r.act])) U' s' tr'/\WI g w U' s' tr' RV' N /\
   RV'++qc6 (r.tests.drop i) r.act RV'.length=RV++qv1 r RV.length/\RV'.length<=RV.length+i*7) (λi=>r.tests.length-i) ?_ 0 ?_ ?_
 .rintro i h1 ⟨hi,U',s',tr',RV',rfl,st,w',he,hl⟩ G ih;refine Ak ?_
  have gs:tr'.get s=some (.v [.w r.nr,.fz r.tests.length (rT r.tests),.w r.act]):=by
   rw[(st.fr s qU).2,zz4,if_pos rfl]
  by_cases hlt:i<r.tests.length
  .have hlt':(i:Int)<r.tests.length:=Ab
   obtain⟨t,hti⟩:∃t,r.tests[i]?=some t:=⟨_,zzE hlt⟩;have hel:=qpS hti;have h4:i*4+4<=(rT r.tests).length:=by rw[qae];exact Ab
   have hd:r.tests.drop i=t::r.tests.drop (i+1):=by rw[<- (zzS.1 hti).2,List.getElem_cons_drop]
   rw[hd]at he;have hw1:=wS i;simp +decide only[↓vS,vT,simprocAttr,hlt',hlt,h4,hel,xg];have wa:=w'.new .fr (.v [.j 0,.x 0,.x 0,.w 0]) (.inr (.inl rfl));have wb:=wa.chg (b:=s') .fr (.v (xg t)) (.inl qU) Ab (.inr (.inl rfl));refine qHJ h5 W c1 c2 c3 c4 wb t Ag Ab λU2 s2 t2 st2 w2=>?_
   have fb:=st2.fr s' qU
   have gb:t2.get s'=some (.v [.j t.arg,.x t.mask,.x t.val,.w t.act]):=by
    rw[fb.2,zz4,if_pos rfl];rfl
   have ss:s<s':=by have:=st.le;exact Ab
   have st3:Stp [] U' s' tr' U2 s2 t2:=by
    refine Stp.trans (L:=[]) ?_ st2;refine⟨Ab,λb hb=>?_,λb hb=>?_,λb F p hb=>?_,λb F hb=>.inl ?_⟩
    rotate_left 3
    .exact Fk
    all_goals have hbs:b<s':=w'.dom b Ef
    all_goals grind[qk,Tr.get_set]
   refine Sa gb ?_;unfold qc6 at he
   by_cases hm0:t.mask=0
   .rw[if_pos hm0,List.append_nil]at he;refine Sa hm0 ?_;rw[he]at w2;exact hk _ _ _ (st1.trans (st.trans st3)) w2
   .rw[if_neg hm0]at he;refine Sa (zzA hm0 hw1) ?_;refine ih (i+1) _ _ Ab ?_ ⟨Ab,U2,s2,t2,_,rfl,st.trans st3,w2,?_,?_⟩
    .exact Am
    all_goals grind[qgo,qrO]
  .obtain rfl:i=r.tests.length:=Ab
   have hlt':¬((r.tests.length:Int)<r.tests.length):=Ab
   rw[List.drop_length]at he;refine Sa (zzA hlt' gs) ?_;refine qoO W.ret W.put w' r.act Ab λU2 s2 t2 st2 w2=>?_
   refine Aa ?_;unfold qc6 at he;rw[he]at w2;exact hk _ _ _ (st1.trans (st.trans st2)) w2
 .exact Am
 .exact⟨zzu _,_,_,_,RV,rfl,.refl,w1,rfl,by simp⟩
end
def vq(a:Int):Nat:=if a=0 then 4 else if a=2 then 4 else 3
def qbB(a:Int)(p F:Nat):List Sy :=
 [⟨32,4,0,0⟩,⟨21,qeb a,p+2,F⟩,⟨32,0,0,0⟩]++if a=0 then [⟨69,1073741824,F,p+4⟩]else if a=2 then [⟨69,1073741824,p+4,F⟩]else []
theorem qaC{a:Int}{p F:Nat}:(qbB a p F).length=vq a:=by unfold qbB vq;exact Ag
def qtI{a:Int}:vq a<=4:=by unfold vq;exact Ag
def qr7(P:Program)(f:Nat):Prop:=∀a:Int,0<=a->a<6->qc P f [.j a] (.tup [.w (qeb a),.j 0])
section
variable {g w s gl gp gj gh gr g1 g2 g3 g4 g5:Nat}{U:Nat->Kd}{tr:Tr Blk}{RV:List Sy}{N:List Nat}{k:AV->Hp->Prop}
def qbt(a b c d:Nat):IFn:=irJ 152 [178,a,177,b,179,c,156,d]
def qKB(hc:Ck P f (qbt g1 gl gj gh))(W:WFn P g gl gp gj gh gr)(c1:qr7 P g1)
  (h:WI g w U s tr RV N) (a:Int) (h0:0<=a) (h6:a<6) {X F:Nat}{p:Bool}(hX:U X = .lab F p) (hm:RV.length+4<=1000000)
  (hk:∀U' s' tr',Stp [] U s tr U' s' tr'->WI g w U' s' tr' (RV++qbB a RV.length F) N->k (.tup []) ⟨s',0,tr'⟩):SC P f [.ptr w 0,.j a,.ptr X 0] ⟨s,0,tr⟩ k:=by
 refine Bg ?_;simp only[qbt,vI,simprocAttr];refine Aa ?_;have w1:=h.new (.lab (RV.length+2) false) _ (.inr (.inr (.inr ⟨_,rfl,rfl⟩)));have w2:=w1.new (.lab (RV.length+vq a) false) _ (.inr (.inr (.inr ⟨_,rfl,rfl⟩)));have st2:=(h.stpLab (.lab (RV.length+2) false) (.v [.j 0])).trans (w1.stpLab (.lab (RV.length+vq a) false) (.v [.j 0]));have hon:kdS (kdS U s (.lab (RV.length+2) false)) (s+1) (.lab (RV.length+vq a) false) s = .lab (RV.length+2) false:=by rw[qk Ab,qU]
 have hbit:=qU (U:=kdS U s (.lab (RV.length+2) false)) (b:=s+1) (x:=.lab (RV.length+vq a) false);have hX2:=st2.lab X F p hX;have hXs:X<s:=h.dom X (by rw[hX];simp);refine(c1 a h0 h6).sc ?_;refine Ac ?_;refine qne W.ld W.put w2 4 Ab λU3 s3 t3 st3 w3=>?_
 refine Ac ?_;refine qfD W.jmp W.put w3 ⟨21,qeb a,RV.length+2,F⟩ (st3.lab _ _ _ hon) (.inr ⟨(Af:(21:Int)≠5),X,p,rfl,st3.lab _ _ _ hX2⟩) Ag λU4 s4 t4 st4 w4=>?_
 refine Ac ?_;have st34:=st3.trans st4;refine qa2 W.here w4 (p:=false) (b:=s) (by rw[st34.lab _ _ _ hon];simp) λt5 q1 q2 w5=>?_
 refine Ac ?_;have st5:=(st2.trans st34).kd h.dom (zzL s) (F':=(RV++[(⟨32,4,0,0⟩:Sy)]++[(⟨21,qeb a,RV.length+2,F⟩:Sy)]).length) (L':=[s+1]) q1 q2 (by simp);refine qne W.ld W.put w5 0 Ag λU6 s6 t6 st6 w6=>?_
 refine Ac ?_;have hX6:U6 X = .lab F p:=(st5.trans st6).lab _ _ _ hX;have hb6:U6 (s+1) = .lab (RV.length+vq a) false:=st6.lab _ _ _ (by rw[qk Ab];exact st34.lab _ _ _ hbit)
 have st56:=st5.trans st6
 by_cases a0:a=0
 .subst a0;refine Aa ?_;refine qfD W.jmp W.put w6 ⟨69,1073741824,F,RV.length+4⟩ hX6 (.inr ⟨(Af:(69:Int)≠5),s+1,false,rfl,hb6⟩) Ag λU7 s7 t7 st7 w7=>?_
  refine Ac ?_;refine qa2 W.here w7 (p:=false) Jy λt8 q1 q2 w8=>?_
  refine Ac ?_;have e:RV++[⟨32,4,0,0⟩]++[⟨21,qeb 0,RV.length+2,F⟩]++[⟨32,0,0,0⟩]++[⟨69,1073741824,F,RV.length+4⟩]=RV++qbB 0 RV.length F:=by simp[qbB]
  rw[e]at w8;exact hk _ _ _ ((st56.trans st7).kd h.dom Ab q1 q2 (by simp)) w8
 .by_cases a2:a=2
  .subst a2;refine Aa ?_;refine qfD W.jmp W.put w6 ⟨69,1073741824,RV.length+4,F⟩ hb6 Ae Ag λU7 s7 t7 st7 w7=>?_
   refine Ac ?_;refine qa2 W.here w7 (p:=false) Jy λt8 q1 q2 w8=>?_
   refine Ac ?_;have e:RV++[⟨32,4,0,0⟩]++[⟨21,qeb 2,RV.length+2,F⟩]++[⟨32,0,0,0⟩]++[⟨69,1073741824,RV.length+4,F⟩]=RV++qbB 2 RV.length F:=by simp[qbB]
   rw[e]at w8;exact hk _ _ _ ((st56.trans st7).kd h.dom Ab q1 q2 (by simp)) w8
  .refine Sa (zzA a0 a2) ?_;refine qa2 W.here w6 (p:=false) (by rw[hb6];simp[vq,a0,a2]) λt8 q1 q2 w8=>?_
   refine Ac ?_;have e:RV++[⟨32,4,0,0⟩]++[⟨21,qeb a,RV.length+2,F⟩]++[⟨32,0,0,0⟩]=RV++qbB a RV.length F:=by simp[qbB,a0,a2]
   rw[e]at w8
   grind[Stp.kd,WI.dom]
end
structure Nd where
 leaf:Bool
 way:Nat
 at':Int
 less:Nat
 more:Nat
def cNd(n:Nd):List AV:=[.b n.leaf,.j (n.way:Int),.w n.at',.j (n.less:Int),.j (n.more:Int)]
def ql9(n:Nd):(cNd n).length=5:=rfl
def rNd(l:List Nd):List AV:=l.flatMap cNd
def qmn{l:List Nd}:(rNd l).length=l.length*5:=qY ql9 l
def x7(T:List Nd):Nat:=T.countP λn=>!n.leaf
def plc(FW:Nat->Nat)(T:List Nd)(b i:Nat):Nat:=match T[i]? with|some n=>if n.leaf=true then FW n.way else b+x7 (T.take i)|none=>0
def qlb(FW:Nat->Nat)(T:List Nd)(b:Nat)(n:Nd):List Sy:=if n.leaf=true then []else [⟨53,n.at',plc FW T b n.more,plc FW T b n.less⟩]
def brE(FW:Nat->Nat)(T:List Nd)(b:Nat)(l:List Nd):List Sy:=l.flatMap (qlb FW T b)
def qsZ{FW:Nat->Nat}{T:List Nd}{b:Nat}{l:List Nd}:(brE FW T b l).length=x7 l:=by
 induction l with
 | nil=>rfl
 | cons n l ih =>
  simp only[brE,zzv,zzP,x7,List.countP_cons]at ih ⊢;rw[ih];unfold qlb;cases n.leaf<;>simp;exact Ab
def jaE(FW:Nat->Nat):List Nd->List Sy
 | n::_=>if n.leaf=true then [⟨5,0,FW n.way,0⟩]else []
 | []=>[]
def jj(FW:Nat->Nat)(T:List Nd)(p:Nat):List Sy:=jaE FW T++brE FW T (p+(jaE FW T).length) T
structure NdOk (m n:Nat) (x:Nd):Prop where
 way:x.leaf=true->x.way<m
 less:x.less<n
 more:x.more<n
def rPt(l:List Nat):List AV:=l.map λb=>.ptr b 0
def qgM{l:List Nat}{j:Nat}:(rPt l)[j]?=(l[j]?).map λb=>.ptr b 0:=by simp[rPt]
theorem qiC{l:List Nat}:(rPt l).length=l.length:=by simp[rPt]
section
variable {g w s gl gp gj gh gr g1 g2 g3 g4 g5:Nat}{U:Nat->Kd}{tr:Tr Blk}{RV:List Sy}{N:List Nat}{k:AV->Hp->Prop}
def WI.congr{t2:Tr Blk}(h:WI g w U s tr RV N)(e:∀b,t2.get b=tr.get b):WI g w U s t2 RV N:=by
 obtain⟨bl,bt,cs,js,r1,r2,r3,r4,r5,r6,r7,r8,r9⟩:=h.rows;exact⟨h.dom,⟨bl,bt,cs,js,r1,r2,r3,(e w).trans r4,(e bl).trans r5,(e bt).trans r6,r7.mono Ae Ae (λ_ _ q=>q),r8,r9⟩,λb F p hb=>by rw[e b];exact h.lab b F p hb⟩
def Stp.congr{L:List Nat}{U1:Nat->Kd}{s1:Nat}{t1 t2:Tr Blk}(h:Stp L U s tr U1 s1 t1)(e:∀b,t2.get b=t1.get b):Stp L U s tr U1 s1 t2 :=
 ⟨h.le,by grind[Stp.fr],by grind[Stp.box],h.lab,h.nw⟩
def qqV{t:Tr Blk}{b:Nat}{x y:Blk}(c:Nat):((t.set b x).set b y).get c=(t.set b y).get c:=Gf
def WI.var(h:WI g w U s tr RV N)(x y:Blk):WI g w (kdS U s .fr) (s+1) ((tr.set s x).set s y) RV N/\Stp [] U s tr (kdS U s .fr) (s+1) ((tr.set s x).set s y) :=
 ⟨(h.new .fr y (.inr (.inl rfl))).congr qqV,(h.stpNew .fr y (by simp)).congr qqV⟩
theorem Stp.nil{L:List Nat}{U1:Nat->Kd}{s1:Nat}{t1:Tr Blk}(h:Stp L U s tr U1 s1 t1)(hL:∀c,c ∉ L):Stp [] U s tr U1 s1 t1 :=
 { h with nw:=λb F hb=>(h.nw b F hb).imp id Ae }
def qbW{α:Type}{l:List α}{j:Nat}{x:α}(h:l[j]?=some x):l.take (j+1)=l.take j++[x]:=by rw[zz2,h];rfl
def qrv{T:List Nd}{j:Nat}{x:Nd}(h:T[j]?=some x):((rNd T).drop (j*5)).take 5=cNd x:=qS ql9 h
def qCE{T:List Nd}{j:Nat}{x:Nd}(h:T[j]?=some x){i:Nat}(hi:i<5):(rNd T)[j*5+i]?=(cNd x)[i]?:=zq ql9 h hi
def wL(a b:Nat):ICode:=icJ 155 [179,a,156,b] 15 [] [] ⟨[179],false,[]⟩
def wK(a b:Nat):ICode:=icJ 155 [179,a,156,b] 7 [3] [wL a b] ⟨[179],false,[]⟩
def qab(a b:Nat):IFn:=irJ 155 [179,a,156,b] [7] [wK a b] ⟨[179],false,[]⟩
def qoa{n0 m s1 bp:Nat}{t1:Tr Blk}{U1:Nat->Kd}{L:List Nat}(W:WFn P g gl gp gj gh gr)(T:List Nd)(hok:∀x ∈ T,NdOk m T.length x)(FW:Nat->Nat)(pl:List Nat)(hpl:pl.length=T.length)
  (h:WI g w U1 s1 t1 RV N) (st:Stp L U s tr U1 s1 t1) (hd:∀b,U b≠.no->b<s) (hkl:∀(j:Nat) c,pl[j]?=some c->∃p,U1 c = .lab (plc FW T RV.length j) p)
  (hL:∀c ∈ L,∃(j:Nat) (nd:Nd),T[j]?=some nd/\nd.leaf=false/\pl[j]?=some c) (hnew:∀(j:Nat) c nd,T[j]?=some nd->nd.leaf=false->pl[j]?=some c->s<=c) (hbp:U1 bp = .fr) (gbp:t1.get bp=some (.v (rPt pl)))
  (hm:RV.length+T.length<=1000000) {t:Tr AV}(ht:Has t [(0,.ptr w 0),(1,.fz T.length (rNd T)),(6,.sl bp 0 T.length T.length false)])
  (hk:∀U' s' tr',Stp [] U s tr U' s' tr'->WI g w U' s' tr' (RV++brE FW T RV.length T) N->k (.tup []) ⟨s',0,tr'⟩):S P n0 (wL gj gh) (zQ [] k) t ⟨s1,0,t1⟩:=by
 refine Ff ?_;simp only[wL,vI,simprocAttr];refine Aa ?_
 refine SL.loopP (α:=Nat) (λi=>[(0,.ptr w 0),(6,.sl bp 0 T.length T.length false),(46,.fz T.length (rNd T)),(47,.j (T.length:Int)),(48,.j (i:Int))])
  (λi h=>i<=T.length/\∃L' U' s' tr',h=⟨s',0,tr'⟩/\Stp L' U s tr U' s' tr'/\WI g w U' s' tr' (RV++brE FW T RV.length (T.take i)) N/\(∀(j:Nat) c,pl[j]?=some c->∃p,U' c = .lab (plc FW T RV.length j) p) /\
   (∀c ∈ L',∃(j:Nat) (nd:Nd),i<=j/\T[j]?=some nd/\nd.leaf=false/\pl[j]?=some c)/\U' bp = .fr/\tr'.get bp=some (.v (rPt pl))) (λi=>T.length-i) ?_ 0 ?_ ?_
 .rintro i h1 ⟨hi,L',U',s',tr',rfl,st',w',hkl',hL',hbp',gbp'⟩ G ih;refine Ak ?_
  by_cases hlt:i<T.length
  .have hlt':(i:Int)<T.length:=Ab
   obtain⟨nd,hnd⟩:∃t,T[i]?=some t:=⟨_,zzE hlt⟩;obtain⟨c,hc⟩:∃t,pl[i]?=some t:=⟨_,zzE Ab⟩;have hel:=qrv hnd;have h5:i*5+5<=(rNd T).length:=by rw[qmn];exact Ab
   have hw1:=wS i;have hbs:bp<s':=w'.dom bp (by rw[hbp'];simp);have hbs':¬bp=s':=Ab
   obtain⟨wv,sv⟩:=w'.var (.v [.b false,.j 0,.w 0,.j 0,.j 0]) (.v (cNd nd));have hbpv:=sv.fr bp hbp';have hklv:∀(j:Nat) c,pl[j]?=some c->∃p,kdS U' s' .fr c = .lab (plc FW T RV.length j) p:=λj c hj=>let ⟨p,q⟩:=hkl' j c hj;⟨p,sv.lab c _ p q⟩
   have hok':=hok nd Ag;have hge:(rPt pl)[i]?=some (.ptr c 0):=by rw[qgM,hc];rfl
   have hts:=qbW hnd;cases hl:nd.leaf with
   | true =>
    simp +decide only[↓vS,vT,simprocAttr,hlt',hlt,h5,hel,cNd,hl,hw1];refine ih (i+1) _ _ Ab ?_ ⟨Ab,L',kdS U' s' .fr,s'+1,_,rfl,?_,?_,hklv,?_,hbpv.1,?_⟩
    .exact Am
    .have:=st'.trans sv;simp only[cNd,hl,List.append_nil]at this;exact Ab
    .rw[hts];have:brE FW T RV.length (T.take i++[nd])=brE FW T RV.length (T.take i):=by simp[brE,qlb,hl]
     rw[this];simp only[cNd,hl]at wv;exact wv
    .exact Ag
    .have:=hbpv.2.trans gbp';simp only[cNd,hl]at this;exact Ab
   | false =>
    simp only[cNd,hl]at wv sv
    have hpi:plc FW T RV.length i=(RV++brE FW T RV.length (T.take i)).length:=by
     rw[zzP,qsZ];simp[plc,hnd,hl]
    obtain⟨pc,hpc⟩:=hklv i c hc;rw[hpi]at hpc;simp +decide only[↓vS,vT,simprocAttr,hlt',hlt,h5,hel,cNd,hl,hw1,hbs',gbp',hge,zzU];refine qa2 W.here wv hpc λt4 q1 q2 w4=>?_
    have hsv:kdS U' s' .fr s' = .fr:=qU;have g4:=q1 s' hsv;rw[zz4,if_pos rfl]at g4;have g5:=(q1 bp hbpv.1).trans (sv.fr bp hbp').2;rw[gbp']at g5;obtain⟨cm,hcm⟩:∃t,pl[nd.more]?=some t:=⟨_,zzE (by rw[hpl];exact hok'.more)⟩;obtain⟨cl,hcl⟩:∃t,pl[nd.less]?=some t:=⟨_,zzE (by rw[hpl];exact hok'.less)⟩;have gm:(rPt pl)[nd.more]?=some (.ptr cm 0):=by rw[qgM,hcm];rfl
    have gl':(rPt pl)[nd.less]?=some (.ptr cl 0):=by rw[qgM,hcl];rfl
    have hcs:s<=c:=Ag
    -- the labels are zy before,but this one has its place
    have hkl4:∀(j:Nat) c',pl[j]?=some c'->∃p,kdS (kdS U' s' .fr) c (.lab (RV++brE FW T RV.length (T.take i)).length true) c' = .lab (plc FW T RV.length j) p:=λj c' hj=>by
     obtain⟨p,hp⟩:=hklv j c' hj
     by_cases e:c'=c
     .exact Fy
     grind[qk]
    have hbpc:bp≠c:=λe=>by rw[<- e,hbpv.1]at hpc;exact Ag
    have st4:Stp (L'.filter λx=>decide (x≠c)) U s tr (kdS (kdS U' s' .fr) c (.lab (RV++brE FW T RV.length (T.take i)).length true)) (s'+1) t4 :=
     (st'.trans sv).kd hd hcs q1 q2 λx hx=>Ag
    obtain⟨pm,hpm⟩:=hkl4 _ _ hcm;obtain⟨pq,hpq⟩:=hkl4 _ _ hcl
    obtain⟨U5,s5,t5,st5,w5,hj5⟩:=qyk W.jmp W.put w4 ⟨53,nd.at',plc FW T RV.length nd.more,plc FW T RV.length nd.less⟩ hpm (.inr ⟨(Af:(53:Int)≠5),cl,pq,rfl,hpq⟩) (by
     rw[<- hpi];have:x7 (T.take i)<=T.length:=zzg List.countP_le_length (by rw[zzm];exact Ab);simp only[plc,hnd,hl];exact Ag)
    have hmT:nd.more<T.length:=hok'.more;have hlT:nd.less<T.length:=hok'.less;have hb4:=st5.fr bp (by rw[qk hbpc];exact Ag);simp +decide only[↓vS,vT,simprocAttr];refine qX ?_;simp +decide only[↓vS,vT,simprocAttr,g4,g5,gm,gl',hmT,hlT,zzU];refine⟨.tup [],_,hj5,?_⟩;simp +decide only[↓vS,vT,simprocAttr,hw1];refine ih (i+1) _ _ Ab ?_ ⟨Ab,_,U5,s5,t5,rfl,st4.trans st5,?_,λj c' hj=>?_,?_,hb4.1,hb4.2.trans g5⟩
    .simp[qj,qn,zz4]
    .rw[hts];have:brE FW T RV.length (T.take i++[nd])=brE FW T RV.length (T.take i)++[⟨53,nd.at',plc FW T RV.length nd.more,plc FW T RV.length nd.less⟩]:=by simp[brE,qlb,hl]
     rw[this,<- zzi];exact w5
    .obtain⟨p,hp⟩:=hkl4 j c' hj;exact⟨p,st5.lab _ _ _ hp⟩
    .intro c' hc';rw[List.append_nil,List.mem_filter,zzb]at hc';obtain⟨j,nd',q1,q2,q3,q4⟩:=hL' c' hc'.1
     grind
  .obtain rfl:i=T.length:=Ab
   have hlt':¬((T.length:Int)<T.length):=Ab
   simp +decide only[↓vS,vT,simprocAttr,hlt'];rw[zz0]at w'
   grind[Stp.nil]
 .simp[qj,qn,zz4]
 .refine⟨zzu _,L,U1,s1,t1,rfl,st,?_,hkl,λc hc=>?_,hbp,gbp⟩
  .simpa[brE]using h
  simp_all
def Stp.mod{L:List Nat}{U1:Nat->Kd}{s1:Nat}{t1:Tr Blk}(h:Stp L U s tr U1 s1 t1)(hd:∀b,U b≠.no->b<s){b:Nat}(hb:s<=b)(x:Blk):Stp L U s tr (kdS U1 b .fr) s1 (t1.set b x):=by
 have ne:∀{c},U c≠.no->c≠b:=Ag
 refine⟨h.le,λc hc=>?_,λc hc=>?_,λc F p hc=>?_,λc F hc=>?_⟩
 .exact G6
 .exact Gy
 .rw[qk Ae];exact h.lab c F p hc
 grind[qU,qk,Stp.nw]
def quv{n0 m s1 bp:Nat}{t1:Tr Blk}{U1:Nat->Kd}{L:List Nat}(W:WFn P g gl gp gj gh gr)(T:List Nd)(hT:T≠[])(hok:∀x ∈ T,NdOk m T.length x)(FW:Nat->Nat)(pl:List Nat)(hpl:pl.length=T.length)
  (h:WI g w U1 s1 t1 RV N) (st:Stp L U s tr U1 s1 t1) (hd:∀b,U b≠.no->b<s) (hkl:∀(j:Nat) c,pl[j]?=some c->∃p,U1 c = .lab (plc FW T (RV.length+(jaE FW T).length) j) p)
  (hL:∀c ∈ L,∃(j:Nat) (nd:Nd),T[j]?=some nd/\nd.leaf=false/\pl[j]?=some c) (hnew:∀(j:Nat) c nd,T[j]?=some nd->nd.leaf=false->pl[j]?=some c->s<=c) (hbp:U1 bp = .fr) (gbp:t1.get bp=some (.v (rPt pl)))
  (hm:RV.length+T.length+1<=1000000) {t:Tr AV}(ht:Has t [(0,.ptr w 0),(1,.fz T.length (rNd T)),(6,.sl bp 0 T.length T.length false)])
  (hk:∀U' s' tr',Stp [] U s tr U' s' tr'->WI g w U' s' tr' (RV++jj FW T RV.length) N->k (.tup []) ⟨s',0,tr'⟩):S P n0 (wK gj gh) (zQ [] k) t ⟨s1,0,t1⟩:=by
 refine Ff ?_;have hn0:0<T.length:=Ag
 obtain⟨x0,hx0⟩:∃x,T[0]?=some x:=⟨_,zzE hn0⟩;obtain⟨c0,hc0⟩:∃c,pl[0]?=some c:=⟨_,zzE Ab⟩
 have g0:(rNd T)[0]?=some (.b x0.leaf):=by
  have:=qCE hx0 (i:=0) Ab;rw[Nat.zero_mul]at this;exact this
 have ge0:(rPt pl)[0]?=some (.ptr c0 0):=by rw[qgM,hc0];rfl
 have hja:jaE FW T=if x0.leaf=true then [⟨5,0,FW x0.way,0⟩]else []:=by
  cases T with
  | nil=>exact Ae
  | cons a l=>simp at hx0;subst hx0;rfl
 simp only[wK,vI,simprocAttr];refine Sa (zzA g0 hn0) ?_;cases hl0:x0.leaf with
 | true =>
  rw[hl0,if_pos rfl]at hja;refine Sa (zzA gbp (zzA ge0 (zzA hn0 hl0))) ?_;obtain⟨p,hp⟩:=hkl 0 c0 hc0;have hp':U1 c0 = .lab (FW x0.way) p:=by rw[hp];simp[plc,hx0,hl0]
  refine qfD W.jmp W.put h ⟨5,0,FW x0.way,0⟩ hp' Ae Ab λU2 s2 t2 st2 w2=>?_
  refine Aa ?_;rw[<- hja]at w2;have hb2:=st2.fr bp hbp;refine qoa W T hok FW pl hpl w2 (st.trans st2) hd (λj c hj=>?_) (by rw[List.append_nil];exact hL) hnew hb2.1 (hb2.2.trans gbp) (by rw[zzP,hja];exact Ag) ?_ λU' s' tr' q1 q2=>hk U' s' tr' q1 ?_
  .obtain⟨p,hp⟩:=hkl j c hj;rw[zzP];exact⟨p,st2.lab _ _ _ hp⟩
  .exact Am
  .rw[zzP,zzi]at q2;exact q2
 | false =>
  rw[hl0,if_neg (by simp)]at hja;refine Sa (zzA gbp (zzA ge0 (zzA hn0 hl0))) ?_;rw[hja]at hkl;refine qoa W T hok FW pl hpl h st hd hkl hL hnew hbp gbp Ab ?_ λU' s' tr' q1 q2=>hk U' s' tr' q1 ?_
  .exact Am
  .unfold jj;rw[hja];exact q2
def qCJ{pl:List Nat}{n c:Nat}(h:pl.length<n):(rPt pl++List.replicate (n-pl.length) AV.nilp).take pl.length ++ .ptr c 0::(rPt pl++List.replicate (n-pl.length) AV.nilp).drop (pl.length+1)=rPt (pl++[c])++List.replicate (n-(pl++[c]).length) AV.nilp:=by
 rw[List.take_left' qiC,show pl.length+1=(rPt pl).length+1 by rw[qiC],List.drop_length_add_append,List.drop_replicate]
 simp[rPt];exact Ab
def qzA{pl:List Nat}{n a c:Nat}:(rPt (pl++[a])++List.replicate (n-(pl++[a]).length) AV.nilp).take pl.length ++ .ptr c 0::(rPt (pl++[a])++List.replicate (n-(pl++[a]).length) AV.nilp).drop (pl.length+1)=rPt (pl++[c])++List.replicate (n-(pl++[c]).length) AV.nilp:=by
 have e:rPt (pl++[a])++List.replicate (n-(pl++[a]).length) AV.nilp=rPt pl++(.ptr a 0::List.replicate (n-(pl++[a]).length) AV.nilp):=by simp[rPt]
 rw[e,List.take_left' qiC,show pl.length+1=(rPt pl).length+1 by rw[qiC],List.drop_length_add_append]
 simp[rPt]
def qwP{e bw:Nat}{wf a:Bool}(hc:Ck P f (qab gj gh))(W:WFn P g gl gp gj gh gr)(T:List Nd)(hT:T≠[])(xs:List Nat)(hok:∀x ∈ T,NdOk xs.length T.length x)(FW:Nat->Nat)(V:AV)(hV:V = .sl bw 0 xs.length xs.length false\/V = .own bw xs.length)
  (h:WI g w U s tr RV N) (hbw:U bw = .fr) (gbw:tr.get bw=some (.cells e wf a (rPt xs))) (hx:∀(j:Nat) c,xs[j]?=some c->∃p,U c = .lab (FW j) p) (hm:RV.length+T.length+1<=1000000)
  (hk:∀U' s' tr',Stp [] U s tr U' s' tr'->WI g w U' s' tr' (RV++jj FW T RV.length) N->k (.tup []) ⟨s',0,tr'⟩):SC P f [.ptr w 0,.fz T.length (rNd T),V] ⟨s,0,tr⟩ k:=by
 refine Bg ?_;simp only[qab,vI,simprocAttr];have hr1:T.length<=qe:=by simp only[qe];exact Ab
 have hr2:8*T.length<=qe:=by simp only[qe];exact Ab
 refine Sa (zzA hr1 hr2) ?_
 refine SL.loopP (α:=Nat) (λi=>[(0,.ptr w 0),(1,.fz T.length (rNd T)),(2,V),(6,.sl s 0 T.length T.length false),(14,.fz T.length (rNd T)),(15,.j (T.length:Int)),(16,.j (i:Int))])
  (λi h=>i<=T.length/\∃pl L' U' s' tr',pl.length=i/\h=⟨s',0,tr'⟩/\Stp L' U s tr U' s' tr'/\WI g w U' s' tr' RV N/\s<s'/\(∀(j:Nat) c,pl[j]?=some c->∃p,U' c = .lab (plc FW T (RV.length+(jaE FW T).length) j) p) /\
   (∀c ∈ L',∃(j:Nat) (nd:Nd),T[j]?=some nd/\nd.leaf=false/\pl[j]?=some c)/\(∀(j:Nat) c nd,T[j]?=some nd->nd.leaf=false->pl[j]?=some c->s<=c)/\U' s = .fr/\tr'.get s=some (.v (rPt pl++List.replicate (T.length-pl.length) .nilp))) (λi=>T.length-i) ?_ 0 ?_ ?_
 .rintro i h1 ⟨hi,pl,L',U',s',tr',hpl,rfl,st',w',hss,hkl',hL',hnew',hbp',gbp'⟩ G ih;refine Ak ?_
  by_cases hlt:i<T.length
  .have hlt':(i:Int)<T.length:=Ab
   obtain⟨nd,hnd⟩:∃t,T[i]?=some t:=⟨_,zzE hlt⟩;have hel:=qrv hnd;have h5:i*5+5<=(rNd T).length:=by rw[qmn];exact Ab
   have hw1:=wS i;have hok':=hok nd Ag;have n1:¬s=s':=Ab
   have n2:¬s=s'+1:=Ab
   have n3:¬s'=s'+1:=Ab
   have n4:¬s'=s:=Ab
   have n5:¬s'+1=s:=Ab
   have hll:i+1<=(rPt pl++List.replicate (T.length-pl.length) AV.nilp).length:=by grind[qiC]
   have hp1:=qCJ (n:=T.length) (c:=s'+1) (pl:=pl) Ab;rw[hpl]at hp1 hll gbp';obtain⟨wv,sv⟩:=w'.var (.v [.b false,.j 0,.w 0,.j 0,.j 0]) (.v (cNd nd));cases hl:nd.leaf with
   | false =>
    simp only[cNd,hl]at wv sv;simp +decide only[↓vS,vT,simprocAttr,hlt',hlt,h5,hel,cNd,hl,hw1,n1,n2,n3,n4,n5,gbp',zzU,hll,hp1];have wl:=wv.new (.lab (plc FW T (RV.length+(jaE FW T).length) i) false) _ (.inr (.inr (.inr ⟨_,rfl,rfl⟩)));have sl:=wv.stpLab (.lab (plc FW T (RV.length+(jaE FW T).length) i) false) (.v [.j 0]);have hfs:kdS (kdS U' s' .fr) (s'+1) (.lab (plc FW T (RV.length+(jaE FW T).length) i) false) s = .fr:=by rw[qk Ab,qk Ab];exact hbp'
    refine ih (i+1) _ _ Ab ?_ ⟨Ab,pl++[s'+1],_,_,s'+1+1,_,by simp[hpl],rfl,((st'.trans sv).trans sl).mod h.dom (zzL s) _,wl.chg .fr _ (.inl hfs) Ab (.inr (.inl rfl)),Ab,λj c hj=>?_,λc hc=>?_,λj c nd' h1 h2 h3=>?_,qU,Bu⟩
    .exact Am
    .rw[List.getElem?_append]at hj;split at hj
     .obtain⟨p,hp⟩:=hkl' j c hj;have:c<s':=w'.dom c (by rw[hp];simp);have hcs:c≠s:=λe=>by rw[e,hbp']at hp;cases hp
      exact⟨p,by rw[qk hcs,qk Ab,qk Ab];exact hp⟩
     .have hj0:j-pl.length=0:=Dz
      rw[hj0]at hj;simp at hj;subst hj;obtain rfl:j=i:=Ab
      exact⟨false,by rw[qk n5,qU]⟩
    .simp only[List.append_nil,zzd,zz1]at hc;rcases hc with hc|hc
     .obtain⟨j,nd',q1,q2,q3⟩:=hL' c hc;exact⟨j,nd',q1,q2,by rw[zzj (zzS.1 q3).1];exact q3⟩
     .exact⟨i,nd,hnd,hl,by rw[hc,<- hpl];simp⟩
    exact Ag
   | true =>
    have hwl:=hok'.way hl;obtain⟨c0,hc0⟩:∃t,xs[nd.way]?=some t:=⟨_,zzE hwl⟩;have gc0:(rPt xs)[nd.way]?=some (.ptr c0 0):=by rw[qgM,hc0];rfl
    obtain⟨p0,hp0⟩:=hx nd.way c0 hc0;have hbs:bw<s:=h.dom bw (by rw[hbw];simp);have gb':=(st'.fr bw hbw).2.trans gbw;have m1:¬bw=s:=Ab
    have m2:¬bw=s':=Ab
    have m3:¬bw=s'+1:=Ab
    have hp2:=qzA (n:=T.length) (pl:=pl) (a:=s'+1) (c:=c0);have hll2:i+1<=(rPt (pl++[s'+1])++List.replicate (T.length-(pl++[s'+1]).length) AV.nilp).length:=Ag
    rw[hpl]at hp2;have wl:=wv.new .fr (.v [.j 0]) (.inr (.inl rfl));have sl:=wv.stpNew .fr (.v [.j 0]) (by simp);have hfs:kdS (kdS U' s' .fr) (s'+1) .fr s = .fr:=by rw[qk Ab,qk Ab];exact Ab
    have wc:=wl.chg .fr (.v (rPt (pl++[s'+1])++List.replicate (T.length-(pl++[s'+1]).length) .nilp)) (.inl hfs) Ab (.inr (.inl rfl));have wd:=wc.chg (b:=s) .fr (.v (rPt (pl++[c0])++List.replicate (T.length-(pl++[c0]).length) .nilp)) (.inl qU) Ab (.inr (.inl rfl));have sd:=((((st'.trans sv).trans sl).mod h.dom (zzL s) (.v (rPt (pl++[s'+1])++List.replicate (T.length-(pl++[s'+1]).length) .nilp)))).mod h.dom (zzL s) (.v (rPt (pl++[c0])++List.replicate (T.length-(pl++[c0]).length) .nilp));simp only[cNd,hl]at wd sd
    have fin:∀tf,(∀b,tf.get b=((((((tr'.set s' (.v [.b false,.j 0,.w 0,.j 0,.j 0])).set s' (.v [.b true,.j (nd.way:Int),.w nd.at',.j (nd.less:Int),.j (nd.more:Int)])).set (s'+1) (.v [.j 0])).set s
      (.v (rPt (pl++[s'+1])++List.replicate (T.length-(pl++[s'+1]).length) .nilp))).set s (.v (rPt (pl++[c0])++List.replicate (T.length-(pl++[c0]).length) .nilp))).get b))->
      ∀tt,Has tt [(0,.ptr w 0),(1,.fz T.length (rNd T)),(2,V),(6,.sl s 0 T.length T.length false),(14,.fz T.length (rNd T)),(15,.j (T.length:Int)),(16,.j ((i+1:Nat):Int))]->G tt ⟨s'+1+1,0,tf⟩:=by
     intro tf hf tt ht;refine ih (i+1) _ _ Ab ht ⟨Ab,pl++[c0],_,_,s'+1+1,_,Ag,rfl,sd.congr hf,wd.congr hf,Ab,λj c hj=>?_,λc hc=>?_,λj c nd' h1 h2 h3=>?_,qU,by rw[hf,zz4,if_pos rfl]⟩
     .rw[List.getElem?_append]at hj;split at hj
      .obtain⟨p,hp⟩:=hkl' j c hj;have:c<s':=w'.dom c (by rw[hp];simp);have hcs:c≠s:=λe=>by rw[e,hbp']at hp;cases hp
       exact⟨p,by rw[qk hcs,qk hcs,qk Ab,qk Ab];exact hp⟩
      .have hj0:j-pl.length=0:=by
        have:=(zzS.1 hj).1
        exact Ag
       rw[hj0]at hj;simp at hj;subst hj;obtain rfl:j=i:=Ab
       have h1:=st'.lab _ _ _ hp0;have:c0<s:=h.dom c0 (by rw[hp0];simp);exact⟨p0,by rw[qk Ab,qk Ab,qk Ab,qk Ab,h1];simp[plc,hnd,hl]⟩
     .simp only[List.append_nil]at hc;obtain⟨j,nd',q1,q2,q3⟩:=hL' c hc
      exact Ag
     .rw[List.getElem?_append]at h3;split at h3
      .exact Ag
      .have hj0:j-pl.length=0:=by
        have:=(zzS.1 h3).1;simp at this;exact this
       exact Ag
    rcases hV with rfl|rfl
    .refine Fl ?_;exact fin _ (λb=>rfl) _ Am
    .refine Fl ?_;exact fin _ (λb=>rfl) _ Am
  .obtain rfl:i=T.length:=Ab
   have hlt':¬((T.length:Int)<T.length):=Ab
   refine Sa hlt' ?_;rw[hpl,Nat.sub_self]at gbp';refine quv W T hT hok FW pl hpl w' st' h.dom hkl' hL' hnew' hbp' (by rw[gbp'];simp) hm ?_ hk;exact Am
 .exact Am
 .refine⟨zzu _,[],[],kdS U s .fr,s+1,_,rfl,rfl,h.stpNew .fr _ (by simp),h.new .fr _ (.inr (.inl rfl)),Ab,λj c hj=>Ag,λc hc=>(by cases hc),λj c nd h1 h2 h3=>Ag,qU,?_⟩
  rw[zz4,if_pos rfl];simp[rPt]
end
structure Sp where
 fr:Int
 to:Int
 way:Nat
def cSp(s:Sp):List AV:=[.w s.fr,.w s.to,.j (s.way:Int)]
def qio(s:Sp):(cSp s).length=3:=rfl
def rSp(l:List Sp):List AV:=l.flatMap cSp
def qgN{l:List Sp}:(rSp l).length=l.length*3:=qY qio l
def qCK{l m:List Sp}:rSp l++rSp m=rSp (l++m):=by simp[rSp]
def qCL{s:Sp}:cSp s=rSp [s]:=by simp[rSp]
def qtU{T:List Sp}{j:Nat}{x:Sp}(h:T[j]?=some x){i:Nat}(hi:i<3):(rSp T)[j*3+i]?=(cSp x)[i]?:=zq qio h hi
def qzC{T:List Sp}{j:Nat}{x:Sp}(h:T[j]?=some x):((rSp T).drop (j*3)).take 3=cSp x:=qS qio h
def qgk{l:List Sp}:qt (rSp l)=true:=jk λ_=>rfl
def vi(l:List Sp)(s:Sp):List Sp:=match l[l.length-1]? with|some z=>if z.way=s.way then l.set (l.length-1) ⟨z.fr,s.to,z.way⟩else l++[s]|none=>l++[s]
def xD(l:List Sp):List Sp:=l.foldl vi []
def qnD{l:List Sp}{s:Sp}:(vi l s).length<=l.length+1:=by
 unfold vi;exact Ag
def va:IFn:=irJ 260 []
def qzt(hc:Ck P f va){s bo br:Nat}{tr:Tr Blk}{l:List Sp}(x:Sp){k:AV->Hp->Prop}(ho:tr.get bo=some (.v [.own br l.length]))(hr:tr.get br=some (.cells 3 true true (rSp l)))(hbr:bo≠br)(hos:bo<s)(hrs:br<s)(hm:l.length<=1000000)
  (hk:∀s' tr' br',s<=s'->(∀b,b<s->b≠bo->b≠br->tr'.get b=tr.get b)->tr'.get bo=some (.v [.own br' (vi l x).length])->tr'.get br'=some (.cells 3 true true (rSp (vi l x)))->(br'=br\/s<=br')->br'<s'->k (.tup []) ⟨s',0,tr'⟩) :
  SC P f [.agg (cSp x),.ptr bo 0] ⟨s,0,tr⟩ k:=by
 refine Bg ?_;have n1:¬bo=s:=Ab
 have n2:¬br=s:=Ab
 have n3:¬bo=br:=hbr;have n4:¬s=br:=Ab
 have n5:¬s+1=br:=Ab
 have n6:¬br=s+1:=Ab
 have n7:¬bo=s+1:=Ab
 have n8:¬bo=s+1+1:=Ab
 have n9:¬s=bo:=Ab
 have n10:¬s=s+1:=Ab
 have n11:¬s+1=s+1+1:=Ab
 have r1:l.length+1<=qe:=by simp only[qe];exact Ab
 have r2:(l.length+1)*16<=qe:=by simp only[qe];exact Ab
 have app:∀tf:Tr Blk,(∀b,b<s->b≠bo->b≠br->tf.get b=tr.get b)->tf.get bo=some (.v [.own (s+1+1) (l.length+1)])->tf.get (s+1+1)=some (.cells 3 true true (rSp l++cSp x))->vi l x=l++[x]->k (.tup []) ⟨s+1+1+1,0,tf⟩:=λtf h1 h2 h3 h4 =>
  hk _ _ (s+1+1) Ab h1 (by rw[h2,h4];simp) (by rw[h3,h4,qCL,qCK]) (.inr Ab) Ab
 simp only[va,cSp,vI,simprocAttr];simp +decide only[↓vS,vT,simprocAttr,ho,hr,n1,n2,n3,n9];refine qX ?_;rcases Nat.eq_zero_or_pos l.length with h0|h0
 .have h0':¬(0:Int)<(l.length:Int):=Ab
  simp +decide only[↓vS,vT,simprocAttr,h0',ho,hr,n1,n2,n3,n4,n5,n6,n7,n8,n9,n10,n11,r1,r2,qgN];refine app _ ?_ ?_ ?_ ?_
  .exact A5
  .exact Be
  .simp only[zz4];rw[if_neg Ab];simp[cSp]
  .have:l=[]:=Ag
   subst this;rfl
 .have h0':(0:Int)<(l.length:Int):=Ab
  obtain⟨z,hz⟩:∃z,l[l.length-1]?=some z:=⟨_,zzE Ab⟩;have e1:IntKind.wrap .i64 ((l.length:Int)-1)=((l.length-1:Nat):Int):=by rw[qC Ab Ab];exact Ab
  have hlt:l.length-1<l.length:=Ab
  have hw:=qtU hz (i:=2) Ab;have hw':(rSp l)[(l.length-1)*3+2]?=some (.j (z.way:Int)):=hw
  by_cases hwy:z.way=x.way
  .have hwy':(z.way:Int)=x.way:=Ab
   have hset:=qhB (f:=cSp) (x':=⟨z.fr,x.to,z.way⟩) (v:=.w x.to) (i:=1) qio hz Ab rfl;rw[show l.flatMap cSp=rSp l from rfl,List.singleton_append]at hset
   have h3:(l.length-1)*3+1+1<=(rSp l).length:=by rw[qgN];exact Ab
   simp +decide only[↓vS,vT,simprocAttr,h0',ho,hr,n1,n2,n3,n4,n5,n6,n7,n8,n9,n10,n11,e1,hlt,hw',hwy',h3,hset];have hp:vi l x=l.set (l.length-1) ⟨z.fr,x.to,z.way⟩:=by unfold vi;rw[hz];exact Ag
   refine hk _ _ br Ab ?_ ?_ ?_ (.inl rfl) Ab
   .exact A5
   .rw[zz4,if_neg hbr,zz4,if_neg n1,ho,hp];simp
   .rw[zz4,if_pos rfl,hp];rfl
  .have hwy':¬(z.way:Int)=x.way:=Ab
   simp +decide only[↓vS,vT,simprocAttr,h0',ho,hr,n1,n2,n3,n4,n5,n6,n7,n8,n9,n10,n11,e1,hlt,hw',hwy',r1,r2,qgN];refine app _ ?_ ?_ ?_ ?_
   .exact A5
   .exact Be
   .simp only[zz4];rw[if_neg Ab];simp[cSp]
   .unfold vi;rw[hz];exact Ag
def qaO(l:List (Int×Nat)):List AV:=l.map λx=>.w x.1
def qbC(l:List (Int×Nat)):List AV:=l.map λx=>.j (x.2:Int)
theorem qkv{l:List (Int×Nat)}:(qaO l).length=l.length:=by simp[qaO]
theorem qkw{l:List (Int×Nat)}:(qbC l).length=l.length:=by simp[qbC]
def qeh{l:List (Int×Nat)}:qt (qaO l)=true:=qdg λ_=>rfl
def qei{l:List (Int×Nat)}:qt (qbC l)=true:=qdg λ_=>rfl
def qku{l:List (Int×Nat)}{j:Nat}:(qaO l)[j]?=(l[j]?).map λx=>.w x.1:=by simp[qaO]
def qrz{l:List (Int×Nat)}{j:Nat}:(qbC l)[j]?=(l[j]?).map λx=>.j (x.2:Int):=by simp[qbC]
def pcs(o:Nat):List (Int×Nat)->Int->List Sp
 | [],nx=>if nx<4294967296 then [⟨nx,4294967295,o⟩]else []
 | x::l,nx=>(if nx<x.1 then [⟨nx,x.1-1,o⟩]else [])++⟨x.1,x.1,x.2⟩::pcs o l (x.1+1)
def qeD(a:Nat):IFn:=irJ 213 [261,a]
def qvS{g:Nat}(hc:Ck P f (qeD g))(l:List (Int×Nat))(o:Nat):qc P f [.fz l.length (qaO l),.fz l.length (qbC l),.j (o:Int)] (.fn g [] [.pf [.fz l.length (qaO l)] 0,.pf [.j (o:Int)] 0,.pf [.fz l.length (qbC l)] 0]):=by
 refine qc.mk hc H8 ?_;simp only[qeD,vI,simprocAttr];refine Aa ?_;simp[vZ,vP,zz4,qP qeh,qP qei]
def spT(g3:Nat)(l:List (Int×Nat))(o:Nat):List (Nat×AV):=[(3,.ptr 0 0),(4,.ptr 1 0),(7,.fn g3 [] [.pf [.fz l.length (qaO l)] 0,.pf [.j (o:Int)] 0,.pf [.fz l.length (qbC l)] 0])]
def spA:ICode:=.reg false [⟨some 5,.op (.alloc [.w 0,.w 0,.j 0]),none⟩,⟨none,.op (.store 3 (.t 5) (.t 8)),none⟩]
def spB:ICode:=.blk 1 (.reg false [⟨some 9,.op (.load1 (.t 4)),none⟩,⟨some 10,.op (.loadN 3 (.t 5)),none⟩,⟨some 11,.callV (.t 9) [.t 10],none⟩])
def SpI(g1:Nat)(r0:Loop)(ts:List (Nat×AV))(out:List Sp)(s:Nat)(tr:Tr Blk):Prop :=
 ∃br,4<=s/\tr.get 0=some (.v [.own br out.length])/\tr.get br=some (.cells 3 true true (rSp out))/\(br=2\/4<=br)/\br<s/\tr.get 1=some (.v [.fn g1 [] [.ptr 0 0]])/\tr.get 3=some (.map (zV r0 ts))
def qnE{g1 g3 s:Nat}{r0:Loop}{l:List (Int×Nat)}{o:Nat}{out:List Sp}{tr:Tr Blk}{k:AV->Hp->Prop}(hc1:Ck P g1 va)(hr0:r0.state = .ready)(hp0:r0.pending=none)(hlo:LoopOk P r0 [8] spA spB)
  (hI:SpI g1 r0 (spT g3 l o) out s tr) (x:Sp) (hm:out.length<=1000000) (hk:∀s' tr',SpI g1 r0 (spT g3 l o) (vi out x) s' tr'->k (.b true) ⟨s',0,tr'⟩):SY P 3 [.agg (cSp x)] ⟨s,0,tr⟩ k:=by
 obtain⟨br,h4,h0,hb,hbr,hbs,h1,h3⟩:=hI;refine SY.mk (r:=r0) (ts:=spT g3 l o) (ps:=[8]) h3 hr0 hlo (zzu _) (by show 3<s;exact Ab) rfl ?_;rw[show mkT (spT g3 l o)=((Tr.leaf.set 7 (.fn g3 [] [.pf [.fz l.length (qaO l)] 0,.pf [.j (o:Int)] 0,.pf [.fz l.length (qbC l)] 0])).set 4 (.ptr 1 0)).set 3 (.ptr 0 0)from rfl]
 refine qh ?_;simp only[qlg,spA,cSp,vI,simprocAttr];refine Aa ?_;have n3:¬3=s:=Ab
 have n1:¬1=s:=Ab
 have n13:¬1=3:=Ab
 have n03:¬0=3:=Ab
 have ns3:¬s=3:=Ab
 refine⟨spT g3 l o,by simp[zz4,n3,h3],?_⟩
 refine qh ?_;simp only[qI,spB,vI,simprocAttr];refine Sa (zzA h1 (zzA n1 (zzA n13 ns3))) ?_
 have gb:∀b,b<s->b≠3->(((tr.set s (.v [.w 0,.w 0,.j 0])).set s (.v [.w x.fr,.w x.to,.j (x.way:Int)])).set 3 (.map (zV (Go.Kc.bsy r0) (spT g3 l o)))).get b=tr.get b:=λb h1 h2=>by
  simp only[zz4];repeat rw[if_neg Ab]
 refine qzt hc1 x ((gb 0 Ab Ab).trans h0) Ag Ab Ab Ab hm λs' tr' br' q1 q2 q3 q4 q5 q6=>?_
 refine Aa ?_;have g3':tr'.get 3=some (.map (zV (Go.Kc.bsy r0) (spT g3 l o))):=by rw[q2 3 Ab Ab Ab,zz4,if_pos rfl]
 refine⟨Go.Kc.bsy r0,spT g3 l o,g3',?_⟩;rw[qc9,qeM hr0 hp0];simp only[qI];refine Aa ?_;refine hk _ _ ⟨br',Ab,?_,?_,Ab,q6,?_,?_⟩
 all_goals grind[Tr.get_set]
def qcZ:IFn:=irJ 261 []
def qcf(a:Nat):ICode:=icJ 212 [260,a] 31
def qeC(a:Nat):IFn:=irJ 212 [260,a] [31] [qcf a]
def qoD{n0 g1 br n:Nat}{s:Nat}{tr:Tr Blk}{t:Tr AV}{out:List Sp}(ht:t.get 3=some (.ptr 0 0))(h0:tr.get 0=some (.v [.own br out.length]))(hb:tr.get br=some (.cells 3 true true (rSp out)))(hn:n=out.length) :
  S P n0 (qcf g1) (zQ [.tmp 2] λv' h'=>Frz h' v' (.fz n (rSp out))) t ⟨s,0,tr⟩:=by
 refine S.has [(3,.ptr 0 0)] (by grind[qj,qn]) (qh ?_);simp only[qcf,vI,simprocAttr];refine Sb h0 ?_;simp[vZ,vP,zz4,hb,hn,qP qgk];intro h;rw[h];rfl
def qro{g1 g3:Nat}(hc:Ck P f (qeC g1))(hc1:Ck P g1 va)(hc3:Ck P g3 qcZ)(l:List (Int×Nat))(o:Nat)(hl:l.length<=100000)(hr:∀x ∈ l,0<=x.1/\x.1<4294967296) :
  qc P f [.fn g3 [] [.pf [.fz l.length (qaO l)] 0,.pf [.j (o:Int)] 0,.pf [.fz l.length (qbC l)] 0]] (.fz (xD (pcs o l 0)).length (rSp (xD (pcs o l 0)))):=by
 refine qc.mk hc H8 ?_;simp only[qeC,vI,simprocAttr];refine Aa ?_;refine S.weak (Wk.mk (spT g3 l o) [.v [.own 2 0],.v [.fn g1 [] [.ptr 0 0]],.cells 3 true true []] [0,1,99] ?_ ?_ ?_ rfl) ?_
 .simp[vw,spT,qeh,qei,qa]
 .simp[vw]
 .simp
 refine S.rangeF Ir (by simp[spT]) ⟨rfl,rfl⟩ ?_;refine qjR.2 ⟨.fn g3 [] [.pf [.fz l.length (qaO l)] 0,.pf [.j (o:Int)] 0,.pf [.fz l.length (qbC l)] 0],by simp[spT,mkT,zz4],?_⟩
 refine⟨qdi hc3,λr0 hr0 hp0 hlo=>SC.mk hc3 ?_⟩
 have hlo:LoopOk P r0 [8] spA spB:=hlo;show S P 4 _ _ (qb0 [.yl 3,.pf [.fz l.length (qaO l)] 0,.pf [.j (o:Int)] 0,.pf [.fz l.length (qbC l)] 0] 0 .leaf) ⟨4,0,(((Tr.leaf.set 0 (.v [.own 2 0])).set 1 (.v [.fn g1 [] [.ptr 0 0]])).set 2 (.cells 3 true true [])).set 3 (.map (zV r0 (spT g3 l o)))⟩;refine qh ?_;simp only[qcZ,vI,simprocAttr];refine Aa ?_
 refine SL.loopP (α:=Nat×Int) (λi=>[(0,.yl 3),(1,.pf [.fz l.length (qaO l)] 0),(2,.pf [.j (o:Int)] 0),(3,.pf [.fz l.length (qbC l)] 0),(5,.x i.2),(8,.fz l.length (qaO l)),(9,.j (l.length:Int)),(10,.j (i.1:Int))])
  (λi h=>i.1<=l.length/\0<=i.2/\i.2<=4294967296/\∃s tr out,h=⟨s,0,tr⟩/\SpI g1 r0 (spT g3 l o) out s tr/\(pcs o (l.drop i.1) i.2).foldl vi out=xD (pcs o l 0)/\out.length<=2*i.1) (λi=>l.length-i.1) ?_ (0,0) ?_ ?_
 .rintro⟨i,nx⟩ h1 ⟨hi,hx0,hx1,s,tr,out,rfl,hI,hE,hol⟩ G ih;simp only at hi hx0 hx1 hI hE hol;refine Ak ?_
  by_cases hlt:i<l.length
  .have hlt':(i:Int)<l.length:=Ab
   obtain⟨x,hx⟩:∃x,l[i]?=some x:=⟨_,zzE hlt⟩;have hd:l.drop i=x::l.drop (i+1):=Dg
   obtain⟨x0,x1⟩:=hr x Ag;have g1':(qaO l)[i]?=some (.w x.1):=by rw[qku,hx];rfl
   have g2':(qbC l)[i]?=some (.j (x.2:Int)):=by rw[qrz,hx];rfl
   have hw1:=wS i;have hw2:IntKind.wrap .u64 x.1=x.1:=Eq
   have hw3:IntKind.wrap .u64 (x.1+1)=x.1+1:=Eq
   rw[hd,pcs,List.foldl_append,List.foldl_cons]at hE
   -- the second yield
   have two:∀(s:Nat) (tr:Tr Blk) (out:List Sp),SpI g1 r0 (spT g3 l o) out s tr->out.length<=2*i+1->(pcs o (l.drop (i+1)) (x.1+1)).foldl vi (vi out ⟨x.1,x.1,x.2⟩)=xD (pcs o l 0)->∀k:AV->Hp->Prop,
     (∀s' tr' out',SpI g1 r0 (spT g3 l o) out' s' tr'->out'.length<=2*(i+1)->(pcs o (l.drop (i+1)) (x.1+1)).foldl vi out'=xD (pcs o l 0)->k (.b true) ⟨s',0,tr'⟩)->SY P 3 [.agg (cSp ⟨x.1,x.1,x.2⟩)] ⟨s,0,tr⟩ k:=λs tr out h1 h2 h3 k hk =>
    qnE hc1 hr0 hp0 hlo h1 _ Ab λs' tr' h4=>hk s' tr' _ h4 (by have:=qnD (l:=out) (s:=⟨x.1,x.1,x.2⟩);exact Ab) h3
   by_cases hn:nx<x.1
   .have hw4:IntKind.wrap .u32 nx=nx:=Fn
    have hw5:IntKind.wrap .u32 (x.1-1)=x.1-1:=Fn
    rw[if_pos hn,List.foldl_cons,List.foldl_nil]at hE;simp +decide only[↓vS,vT,simprocAttr,hlt',hlt,g1',hw2,hn,hw4,hw5,zzU];refine qnE (x:=⟨nx,x.1-1,o⟩) hc1 hr0 hp0 hlo hI Ab λs2 tr2 h2=>?_
    simp +decide only[↓vS,vT,simprocAttr,g2',hlt,zzU];refine two _ _ _ h2 (by have:=qnD (l:=out) (s:=⟨nx,x.1-1,o⟩);exact Ab) hE _ λs3 tr3 out3 h3 h4 h5=>?_
    refine Sa (zzA hw1 (zzA hw2 hw3)) ?_;refine ih (i+1,x.1+1) _ _ Ab ?_ ⟨Ab,Ab,Ab,s3,tr3,out3,rfl,h3,h5,h4⟩
    exact Am
   .rw[if_neg hn,List.foldl_nil]at hE;simp +decide only[↓vS,vT,simprocAttr,hlt',hlt,g1',g2',hw2,hn,zzU];refine two _ _ _ hI Ab hE _ λs3 tr3 out3 h3 h4 h5=>?_
    refine Sa (zzA hw1 (zzA hw2 hw3)) ?_;refine ih (i+1,x.1+1) _ _ Ab ?_ ⟨Ab,Ab,Ab,s3,tr3,out3,rfl,h3,h5,h4⟩
    exact Am
  .obtain rfl:i=l.length:=Ab
   have hlt':¬((l.length:Int)<l.length):=Ab
   rw[List.drop_length,pcs]at hE
   by_cases hn:nx<4294967296
   .have hw4:IntKind.wrap .u32 nx=nx:=Fn
    rw[if_pos hn,List.foldl_cons,List.foldl_nil]at hE;refine Sa (zzA hlt' (zzA hn hw4)) ?_;refine qnE (x:=⟨nx,4294967295,o⟩) hc1 hr0 hp0 hlo hI Ab λs2 tr2 h2=>?_
    refine Aa ?_;obtain⟨br,q4,q0,qb,qbr,qbs,q1,q3⟩:=h2;refine⟨r0,spT g3 l o,q3,by rw[hr0];exact Af,?_⟩
    rw[hp0];simp only[qI];refine Ac ?_;exact Fd
   .rw[if_neg hn,List.foldl_nil]at hE;refine Sa (zzA hlt' hn) ?_;obtain⟨br,q4,q0,qb,qbr,qbs,q1,q3⟩:=hI;refine⟨r0,spT g3 l o,q3,by rw[hr0];exact Af,?_⟩
    rw[hp0];simp only[qI];refine Ac ?_;exact Fd
 .exact Am
 .refine⟨zzu _,by simp,by simp,4,_,[],rfl,⟨2,Ab,?_,?_,.inl rfl,Ab,?_,?_⟩,rfl,by simp⟩<;>simp[zz4,rSp]
def qjm(a b:Nat):IFn:=irJ 153 [213,a,212,b]
def qzL(l:List (Int×Nat)):Prop:=∀(i:Nat) a b,l[i]?=some a->l[i+1]?=some b->a.1<b.1
def qHA{g1 g2 g3:Nat}(hc:Ck P f (qjm g1 g2))(l:List (Int×Nat))(o:Nat)(h1:qc P g1 [.fz l.length (qaO l),.fz l.length (qbC l),.j (o:Int)] (.fn g3 [] [.pf [.fz l.length (qaO l)] 0,.pf [.j (o:Int)] 0,.pf [.fz l.length (qbC l)] 0]))
  (h2:qc P g2 [.fn g3 [] [.pf [.fz l.length (qaO l)] 0,.pf [.j (o:Int)] 0,.pf [.fz l.length (qbC l)] 0]] (.fz (xD (pcs o l 0)).length (rSp (xD (pcs o l 0))))) (hl:l.length<=100000) (hr:qzL l) :
  qc P f [.fz l.length (qaO l),.fz l.length (qbC l),.j (o:Int)] (.tup [.fz (xD (pcs o l 0)).length (rSp (xD (pcs o l 0))),.j 0]):=by
 refine qc.mk hc H8 ?_;simp only[qjm,vI,simprocAttr];have hne:¬¬(l.length:Int)=l.length:=λh=>h rfl
 refine Aa ?_;refine SL.loopP (α:=Nat) (λi=>[(0,.fz l.length (qaO l)),(1,.fz l.length (qbC l)),(2,.j (o:Int)),(15,.j (l.length:Int)),(16,.j (i:Int))]) (λi h=>i<=l.length/\h.fl=0) (λi=>l.length-i) ?_ 0 ?_ ?_
 .rintro i ⟨s,fl,tr⟩ ⟨hi,rfl⟩ G ih;refine Ak ?_
  by_cases hlt:i<l.length
  .have hlt':(i:Int)<l.length:=Ab
   have hw1:=wS i;refine Sa hlt' ?_;refine qX ?_;rcases Nat.eq_zero_or_pos i with h0|h0
   .have h0':¬(0:Int)<(i:Int):=Ab
    refine Sa (zzA h0' hw1) ?_;exact ih (i+1) _ _ Ab Am ⟨Ab,rfl⟩
   .have h0':(0:Int)<(i:Int):=Ab
    obtain⟨a,ha⟩:∃x,l[i-1]?=some x:=⟨_,zzE Ab⟩;obtain⟨b,hb⟩:∃x,l[i]?=some x:=⟨_,zzE hlt⟩;have hab:=hr (i-1) a b ha (by rw[Nat.sub_add_cancel h0];exact hb);have e1:IntKind.wrap .i64 ((i:Int)-1)=((i-1:Nat):Int):=by rw[qC Ab Ab];exact Ab
    have g1:(qaO l)[i-1]?=some (.w a.1):=by rw[qku,ha];rfl
    have g2:(qaO l)[i]?=some (.w b.1):=by rw[qku,hb];rfl
    have hlt2:i-1<l.length:=Ab
    have hle:¬b.1<=a.1:=Ab
    simp +decide only[↓vS,vT,simprocAttr,h0',hw1,e1,g1,g2,hlt,hlt2,hle,zzU];exact ih (i+1) _ _ Ab Am ⟨Ab,rfl⟩
  .obtain rfl:i=l.length:=Ab
   have hlt':¬((l.length:Int)<l.length):=Ab
   refine Sa hlt' ?_;refine h1.sc ?_;refine Aa ?_;refine h2.sc ?_;refine Aa ?_;simp[vZ,qP qgk]
 all_goals simp_all[qj,qn,zz4]
def ql4:List Sp->Int->Bool
 | [],nx=>decide (nx=4294967296)
 | s::l,nx=>if s.fr≠nx\/s.to<s.fr then false else ql4 l (s.to+1)
def SpR(l:List Sp):Prop:=∀s ∈ l,0<=s.fr/\s.fr<4294967296/\0<=s.to/\s.to<4294967296
def qfx:IFn:=irJ 214 []
def qsO(hc:Ck P f qfx)(l:List Sp)(hl:l.length<=1000000)(hr:SpR l):qc P f [.fz l.length (rSp l)] (.b (ql4 l 0)):=by
 refine qc.mk hc I9 ?_;simp only[qfx,vI,simprocAttr];refine Aa ?_;refine SL.loopP (α:=Nat×Int) (λi=>[(3,.x i.2),(6,.fz l.length (rSp l)),(7,.j (l.length:Int)),(8,.j (i.1:Int))]) (λi h=>i.1<=l.length/\h.fl=0/\ql4 (l.drop i.1) i.2=ql4 l 0) (λi=>l.length-i.1) ?_ (0,0) ?_ ?_
 .rintro⟨i,nx⟩ ⟨s,fl,tr⟩ ⟨hi,rfl,hE⟩ G ih;simp only at hi hE;refine Ak ?_
  by_cases hlt:i<l.length
  .have hlt':(i:Int)<l.length:=Ab
   obtain⟨x,hx⟩:∃x,l[i]?=some x:=⟨_,zzE hlt⟩;have hd:l.drop i=x::l.drop (i+1):=Dg
   obtain⟨x0,x1,x2,x3⟩:=hr x Ag;have hel:=qzC hx;have h3:i*3+3<=(rSp l).length:=by rw[qgN];exact Ab
   have hw1:=wS i;have hw2:IntKind.wrap .u64 x.fr=x.fr:=Eq
   have hw3:IntKind.wrap .u64 x.to=x.to:=Eq
   have hw4:IntKind.wrap .u64 (x.to+1)=x.to+1:=Eq
   rw[hd,ql4]at hE
   by_cases c1:x.fr=nx
   .subst c1
    by_cases c2:x.to<x.fr
    .rw[if_pos (.inr c2)]at hE;simp +decide only[↓vS,vT,simprocAttr,hlt',hlt,h3,hel,cSp,hw2,c2,<- hE];simp[vZ]
    .rw[if_neg (by simp[c2])]at hE;simp +decide only[↓vS,vT,simprocAttr,hlt',hlt,h3,hel,cSp,hw2,hw3,hw4,c2,hw1];exact ih (i+1,x.to+1) _ _ (by simp only;exact Ab) Am Ag
   .rw[if_pos (.inl c1)]at hE;simp +decide only[↓vS,vT,simprocAttr,hlt',hlt,h3,hel,cSp,hw2,c1,<- hE];simp[vZ]
  .obtain rfl:i=l.length:=Ab
   have hlt':¬((l.length:Int)<l.length):=Ab
   rw[List.drop_length,ql4]at hE;refine Sa (zzA hlt' hE) ?_;simp[vZ]
 all_goals grind[qj,qn,Tr.get_set]
def xn(l:List Sp)(at':Nat):List Nd :=
 if _h:l.length / 2=0 then [⟨true,(l.headD ⟨0,0,0⟩).way,0,0,0⟩]else
  ⟨false,0,(l.getD (l.length / 2) ⟨0,0,0⟩).fr,at'+1,at'+1+(xn (l.take (l.length / 2)) (at'+1)).length⟩::(xn (l.take (l.length / 2)) (at'+1)++xn (l.drop (l.length / 2)) (at'+1+(xn (l.take (l.length / 2)) (at'+1)).length))
termination_by l.length
decreasing_by all_goals grind
def qej(n:Nat):∀(l:List Sp) (a:Nat),l.length<=n->0<l.length->(xn l a).length+1=2*l.length:=by
 induction n<;>grind[xn.eq_1]
def qzD{l:List Sp}{k:Nat}:(rSp l).take (k*3)=rSp (l.take k):=qir qio l k
def qzB{l:List Sp}{k:Nat}:(rSp l).drop (k*3)=rSp (l.drop k):=qf3 qio l k
def qtQ{l m:List Nd}:rNd l++rNd m=rNd (l++m):=by simp[rNd]
def qzz{l:List Nd}:qt (rNd l)=true:=jk λ_=>rfl
def vN:IFn:=irJ 215 [] [] [] ⟨[],true,[]⟩
def qt6{h:Hp}{esz n c:Nat}{q2 q3:IntKind}{cs:List AV}{k:AV->Prop}(h1:0<c)(h2:c<=n)(h3:c*esz<=cs.length):slK esz none (some (.i q2 (c:Int))) (some (.i q3 (c:Int))) (.fz n cs) h k↔evA (.fz c (cs.take (c*esz))) k:=by
 have hne:Nat.beq c 0=false:=by
  grind[Nat.eq_of_beq_eq_true]
 simp only[slK,ql8,ql6];show(ifK (c<=n) (ifK (c<=c) _))↔_;simp only[ifK,h2,zzL,true_and,Option.isSome_some,hne,Bool.true_and,Bool.false_eq_true,if_false];refine Fa ?_;exact Bt
def qCF{l:List Nd}{j:Nat}{x:Nd}(m:Nat)(h:l[j]?=some x):(rNd l).take (j*5+4) ++ .j (m:Int)::(rNd l).drop (j*5+4+1)=rNd (l.set j ⟨x.leaf,x.way,x.at',x.less,m⟩) :=
 qhB (f:=cNd) (x':=⟨x.leaf,x.way,x.at',x.less,m⟩) (v:=.j (m:Int)) (i:=4) ql9 h Ab rfl
noncomputable def qkR(tr:Tr Blk)(s bt b1:Nat)(T:List Nd)(x:Nd):Tr Blk:=(((tr.set s (.v (cNd x))).set bt .dead).set (s+1) (.cells 5 true true (rNd T++cNd x))).set b1 (.v [.own (s+1) (T.length+1)])
def qFO{g:Nat}(hc:Ck P g vN):∀(n:Nat) (l:List Sp),l.length<=n->0<l.length->∀(s:Nat) (tr:Tr Blk) (b1 b2 bt:Nat) (T:List Nd),tr.get b1=some (.v [.own bt T.length])->tr.get bt=some (.cells 5 true true (rNd T))->
  tr.get b2=some (.v [.fn g [] [.ptr b1 0,.ptr b2 0]])->b1≠bt->b2≠bt->b1≠b2->b1<s->b2<s->bt<s->T.length+2*l.length<=1000000->
  ∃s' tr' bt',s<=s'/\(∀b,b<s->b≠b1->b≠bt->tr'.get b=tr.get b)/\tr'.get b1=some (.v [.own bt' (T++xn l T.length).length])/\tr'.get bt'=some (.cells 5 true true (rNd (T++xn l T.length)))/\(bt'=bt\/s<=bt')/\bt'<s' /\
   ∀k:AV->Hp->Prop,k (.tup []) ⟨s',0,tr'⟩->SC P g [.fz l.length (rSp l),.ptr b1 0,.ptr b2 0] ⟨s,0,tr⟩ k:=by
 intro n
 induction n with
 | zero=>exact Ab
 | succ n ih =>
  intro l hn h0 s tr b1 b2 bt T g1 gt g2 n1 n2 n3 l1 l2 l3 hm
  have e2:((l.length:Nat):Int).tdiv 2=((l.length / 2:Nat):Int):=by
   rw[Int.tdiv_eq_ediv_of_nonneg Ab];exact Ab
  have ew:IntKind.wrap .i64 ((l.length / 2:Nat):Int)=((l.length / 2:Nat):Int):=B6
  have h20:(2:Int)≠0:=Af
  have r1:T.length+1<=qe:=by simp only[qe];exact Ab
  have r2:(T.length+1)*40<=qe:=by simp only[qe];exact Ab
  have m1:¬b1=s:=Ab
  have m2:¬b2=s:=Ab
  have m3:¬bt=s:=Ab
  have m4:¬s=bt:=Ab
  have m5:¬b1=bt:=n1;have m6:¬b1=s+1:=Ab
  have hTl:(rNd T).length=T.length*5:=qmn
  by_cases hk:l.length / 2=0
  .have hl1:l.length=1:=Ab
   obtain⟨x,rfl⟩:∃x,l=[x]:=List.length_eq_one_iff.1 hl1;have hT:xn [x] T.length=[⟨true,x.way,0,0,0⟩]:=by rw[xn];simp
   rw[hT];refine⟨s+1+1,qkR tr s bt b1 T ⟨true,x.way,0,0,0⟩,s+1,Ab,?_,?_,?_,.inr Ab,Ab,λk hk=>?_⟩
   .intro b q1 q2 q3;simp only[qkR,zz4];repeat rw[if_neg Ab]
   .rw[qkR,zz4,if_pos rfl];simp
   .rw[qkR,zz4,if_neg Ab,zz4,if_pos rfl,<- qtQ];rfl
   .refine Bg ?_;simp only[vN,vI,simprocAttr];simp +decide only[↓vS,vT,simprocAttr,↓zk h20,e2,ew];refine qX ?_;simp +decide only[↓vS,vT,simprocAttr,rSp,cSp,zzv,List.flatMap_nil,g1,gt,m1,m2,m3,m4,m5,m6,r1,r2,hTl];exact hk
  .have hk0:¬(((l.length / 2:Nat)):Int)=0:=Ab
   obtain⟨x,hx⟩:∃x,l[l.length / 2]?=some x:=⟨_,zzE Ab⟩;have hxD:l.getD (l.length / 2) ⟨0,0,0⟩=x:=by rw[zzs,hx];rfl
   have gx:=qtU hx (i:=0) Ab;have gx':(rSp l)[l.length / 2*3]?=some (.w x.fr):=gx;have hlk:l.length / 2<l.length:=Ab
   have hw1:IntKind.wrap .i64 ((T.length:Int)+1)=((T.length+1:Nat):Int):=by rw[qC Ab Ab];simp
   obtain⟨nd,hnd⟩:∃nd:Nd,nd=⟨false,0,x.fr,T.length+1,0⟩:=⟨_,rfl⟩;have a1:(qkR tr s bt b1 T nd).get b1=some (.v [.own (s+1) (T++[nd]).length]):=by rw[qkR,zz4,if_pos rfl];simp
   have at1:(qkR tr s bt b1 T nd).get (s+1)=some (.cells 5 true true (rNd (T++[nd]))):=by rw[qkR,zz4,if_neg Ab,zz4,if_pos rfl,<- qtQ];simp[rNd]
   have ae:∀b,b<s->b≠b1->b≠bt->(qkR tr s bt b1 T nd).get b=tr.get b:=λb q1 q2 q3=>by
    simp only[qkR,zz4];repeat rw[if_neg Ab]
   obtain⟨s2,tr2,bt2,q1,q2,q3,q4,q5,q6,q7⟩:=ih (l.take (l.length / 2)) (by simp;exact Ab) (by simp;exact Ab) (s+1+1) (qkR tr s bt b1 T nd) b1 b2 (s+1) (T++[nd]) a1 at1 ((ae b2 l2 (Ne.symm n3) n2).trans g2) Ab Ab n3 Ab Ab Ab (by simp;exact Ab);have hlt:(l.take (l.length / 2)).length=l.length / 2:=by simp;exact Ab
   rw[show(T++[nd]).length=T.length+1 by simp]at q3 q4
   have htl:=qej l.length (l.take (l.length / 2)) (T.length+1) Ab Ab;rw[hlt]at q7 htl;obtain⟨L,hL⟩:∃L,L=xn (l.take (l.length / 2)) (T.length+1):=⟨_,rfl⟩;rw[<- hL]at q3 q4 htl;have hget:(T++[nd]++L)[T.length]?=some nd:=by simp
   have hT3:(T++[nd]++L).set T.length ⟨nd.leaf,nd.way,nd.at',nd.less,(T++[nd]++L).length⟩=T++[⟨false,0,x.fr,T.length+1,T.length+1+L.length⟩]++L:=by
    rw[hnd];simp[List.set_append];exact Ab
   have hset:=qCF (T++[nd]++L).length hget;rw[hT3]at hset;have hl3:T.length*5+4+1<=(rNd (T++[nd]++L)).length:=by rw[qmn];simp;exact Ab
   have hn5:b1≠bt2:=Ab
   have hn6:b2≠bt2:=Ab
   obtain⟨T3,hT3e⟩:∃T3:List Nd,T3=T++[⟨false,0,x.fr,T.length+1,T.length+1+L.length⟩]++L:=⟨_,rfl⟩;have hT3l:T3.length=(T++[nd]++L).length:=by rw[hT3e];simp
   have b2g:=(q2 b2 Ab (Ne.symm n3) Ab).trans ((ae b2 l2 (Ne.symm n3) n2).trans g2)
   obtain⟨s4,tr4,bt4,p1,p2,p3,p4,p5,p6,p7⟩:=ih (l.drop (l.length / 2)) (by simp;exact Ab) (by simp;exact Ab) s2 (tr2.set bt2 (.cells 5 true true (rNd T3))) b1 b2 bt2 T3 (by rw[zz4,if_neg hn5,q3,hT3l]) Bu
    (by rw[zz4,if_neg hn6];exact Ab) hn5 hn6 n3 Ab Ab Ab (by rw[hT3l];simp;exact Ab)
   have hld:(l.drop (l.length / 2)).length=l.length-l.length / 2:=by simp
   rw[hld]at p7
   have hfin:T++xn l T.length=T3++xn (l.drop (l.length / 2)) T3.length:=by
    have e3:T3.length=T.length+1+L.length:=by rw[hT3l];simp;exact Ab
    conv=>lhs;rw[xn,dif_neg hk]
    rw[hxD,<- hL,e3,hT3e];simp
   refine⟨s4,tr4,bt4,Ab,?_,?_,?_,Ab,p6,λk hkk=>?_⟩
   .intro b e1 e2 e3;rw[p2 b Ab e2 Ab,zz4,if_neg Ab,q2 b Ab e2 Ab];exact ae b e1 e2 e3
   .rw[hfin];exact p3
   .rw[hfin];exact p4
   .have v1:(qkR tr s bt b1 T nd).get b2=some (.v [.fn g [] [.ptr b1 0,.ptr b2 0]]):=(ae b2 l2 (Ne.symm n3) n2).trans g2;have k1:0<l.length / 2:=Ab
    have k2:l.length / 2<=l.length:=Ab
    have k3:l.length / 2*3<=(rSp l).length:=by rw[qgN];exact Ab
    have k4:l.length / 2<l.length:=hlk;have k5:l.length<=l.length:=zzL _;have k6:l.length*3<=(rSp l).length:=by rw[qgN];exact Ab
    have hsl1:(rSp l).take (l.length / 2*3)=rSp (l.take (l.length / 2)):=qzD
    have hsl2:((rSp l).drop (l.length / 2*3)).take ((l.length-l.length / 2)*3)=rSp (l.drop (l.length / 2)):=by
     rw[qzB,zzt (by rw[qgN,hld];exact Ab)]
    refine Bg ?_;simp only[vN,vI,simprocAttr];simp +decide only[↓vS,vT,simprocAttr,↓zk h20,e2,ew,hk0,g1];refine qX ?_;simp +decide only[↓vS,vT,simprocAttr,g1,gt,gx',hlk,hw1,m1,m2,m3,m4,m5,m6,r1,r2,hTl];refine qX ?_;rw[hnd]at q7;simp only[qkR,cNd]at q7;have m7:¬b2=b1:=Ne.symm n3;have m8:¬b2=s+1:=Ab
    have m9:¬b2=bt:=n2;simp +decide only[↓vS,vT,simprocAttr,m7,m8,m9,m2,g2,↓qt6 k1 k2 k3,hsl1];refine⟨.tup [],_,q7,?_⟩;obtain⟨A,hA⟩:∃A,A=T++[nd]++L:=⟨_,rfl⟩;have k7:T.length<A.length:=by rw[hA];simp
    rw[<- hA]at q3 q4 hl3 hset;rw[<- hT3e]at hset;have k8:¬b1=bt2:=hn5;have k9:¬b2=bt2:=hn6;simp +decide only[↓vS,vT,simprocAttr,q3,q4,k7,k8,hl3,hset];refine qX ?_;simp +decide only[↓vS,vT,simprocAttr,k9,b2g,↓qHv k4 k5 k6,hsl2];exact⟨.tup [],_,p7,hkk⟩
def qf8(a b:Nat):ICode:=icJ 154 [214,a,215,b] 63
def qfz(a b:Nat):IFn:=irJ 154 [214,a,215,b] [63] [qf8 a b]
def qsS(l:List Sp):AV:=if ql4 l 0=true then .tup [.fz (xn l 0).length (rNd (xn l 0)),.j 0]else .tup [.fz 0 [],.j 240]
def qwe{g1 g2:Nat}(hc:Ck P f (qfz g1 g2))(h2:Ck P g2 vN)(l:List Sp)(h1:qc P g1 [.fz l.length (rSp l)] (.b (ql4 l 0)))(hl:l.length<=400000)(h0:0<l.length):qc P f [.fz l.length (rSp l)] (qsS l):=by
 refine qc.mk hc I9 ?_;simp only[qfz,vI,simprocAttr];refine Aa ?_;refine h1.sc ?_;unfold qsS;cases hw:ql4 l 0 with
 | false =>
  refine Aa ?_;simp[vZ]
 | true =>
  refine Aa ?_;refine S.weak (Wk.mk [(0,.fz l.length (rSp l)),(4,.ptr 0 0),(5,.ptr 1 0)] [.v [.own 2 0],.v [.fn g2 [] [.ptr 0 0,.ptr 1 0]],.cells 5 true true []] [0,1,99] ?_ ?_ ?_ rfl) (qh ?_)
  .simp[vw,qgk]
  .simp[vw]
  .simp
  simp only[qf8,vI,simprocAttr];refine Aa ?_
  obtain⟨s',tr',bt',q1,q2,q3,q4,q5,q6,q7⟩:=qFO h2 l.length l (zzL _) h0 3 (((Tr.leaf.set 0 (.v [.own 2 0])).set 1 (.v [.fn g2 [] [.ptr 0 0,.ptr 1 0]])).set 2 (.cells 5 true true [])) 0 1 2 []
   Be (by simp[zz4,rNd]) Be Af Af Af Af Af Af Ag
  refine q7 _ ?_;refine Sa q3 ?_;simp[vZ,vP,q4,qP qzz];intro h;rw[h];rfl
end
end Go.Kc
