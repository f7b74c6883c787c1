/- Walks, part 8. Conditions: with each theorem. -/
import Derived.Test.YtgaodkfneooonaaGreatCK7
set_option maxHeartbeats 4000000
set_option linter.defProp false
set_option linter.unusedSectionVars false
set_option linter.unusedSimpArgs false
set_option linter.unusedVariables false
set_option linter.unnecessarySimpa false
section
namespace Go.Kc
variable {P:Program} {f:Nat}
def qvl:AV:=.tup [.fz 0 [],.j 290]
def qA0(P:Program)(g:Nat):Prop:=∀b:List Int,xX b->∀m:Nat,b.length=8*m->b.length<=32768->qa P g [.fz b.length (rB b)] (.tup [.fz m (rP (qkM b m)),.j 0])
def qGI{g:Nat}(h:∀b:List Int,xX b->b.length<=1000000->qa P g [.fz b.length (rB b)] (if b.length % 8≠0 then .tup [.fz 0 [],.j 20]else if 32768<b.length then .tup [.fz 0 [],.j 3]else .tup [.fz (b.length / 8) (rP (qvV b)),.j 0])):qA0 P g:=by
 intro b hb m hm hl;have:=h b hb (by omega);rw[if_neg (by omega),if_neg (by omega)]at this;have e:b.length / 8=m:=by omega
 unfold qvV at this;rw[e]at this;exact this
def qbO(a b c:Nat):IFn:=⟨[.tmp 2,.tmp 3],sq [.r [.m 2 .N,.m 3 (.k 0)],.r [.m 4 .N],.blk 0 (.loop (sq [sq [.r [.n 10 0,.e 11 10,.w 12 .gtr 11 0],.cond (.t 12) (.skip) (.exit 0)],.blk 1 (sq [.r [.n 14 0,.l 15 a [.t 14,.k 2],.n 13 15,.x 16 13 0,.x 17 13 1,.n 5 16,.n 6 17],.r [.n 18 5,.q 19 (.cvInt .i64 (.t 18)),.q 20 (.bin .mul (.k 8) (.t 19)),.q 21 (.bin .add (.k 4) (.t 20)),.n 7 21],sq [.r [.n 22 6,.q 23 (.un .not (.t 22)),.n 24 23,.z 25 7 24,.z 26 0 24,.g 27 (.len false (.t 26)) 24 false,.g 28 (.bin .gtr (.t 25) (.t 27)) 24 false,.o 29 24 28,.n 30 29,.z 31 4 30,.g 32 (.len false (.t 31)) 30 false,.g 33 (.bin .geq (.t 32) (.k 48)) 30 false,.o 34 30 33],.cond (.t 34) (sq [.r [.m 2 .N,.m 3 (.k 290)],.ret]) (.skip)],.r [.n 36 0,.n 37 7,.q 38 (.slcS 1 (.t 36) (some (.k 4)) (some (.t 37)) none),.l 39 b [.t 38],.n 35 39,.x 40 35 0,.x 41 35 1,.n 8 40,.n 9 41],sq [.r [.n 42 9,.w 43 .neq 42 0],.cond (.t 43) (sq [.r [.m 2 .N,.m 3 (.k 290)],.ret]) (.skip)],.reg true [.n 44 4,.n 45 0,.q 46 (.iAddrS 1 (.t 45) (.k 0)),.d 47 46,.q 48 (.cvInt .i64 (.t 47)),.n 49 0,.q 50 (.iAddrS 1 (.t 49) (.k 1)),.d 51 50,.q 52 (.cvInt .i64 (.t 51)),.n 53 8,.q 54 (.build [.j 0,.j 0,.nils] [(0,1,(.t 48)),(1,1,(.t 52)),(2,1,(.t 53))]),.q 55 (.buildS 1 [.j 0,.j 0,.nils] [(0,3,(.t 54))]),.q 56 (.app 3 40 true (.t 44) (.t 55)),.n 4 56],.r [.n 57 0,.n 58 7,.q 59 (.slcS 1 (.t 57) (some (.t 58)) none none),.n 0 59]])])),sq [.r [.n 60 4,.l 61 c [.t 60],.q 62 (.un .not (.t 61))],.cond (.t 62) (sq [.r [.m 2 .N,.m 3 (.k 290)],.ret]) (.skip)],.r [.n 63 4,.n 2 63,.m 3 (.k 0)],.ret]⟩


def loW(x:Int):Int:=x % 4294967296
def hiW(x:Int):Int:=x / 4294967296
def qqj(d:GData):List Int:=[d.ip,d.a0,d.a1,d.a2,d.a3,d.a4,d.a5]
def qad(d:GData):List Int:=d.nr::d.arch::(qqj d).flatMap λx=>[loW x,hiW x]
structure DatOk (d:GData):Prop where
 nr0:0<=d.nr
 nr1:d.nr<=4294967295
 ar0:0<=d.arch
 ar1:d.arch<=4294967295
 wid:∀x ∈ qqj d,0<=x/\x<18446744073709551616
def qgi:IFn:=⟨[.tmp 2,.tmp 3],sq [.r [.m 2 (.c (.w 0)),.m 3 (.c (.w 0))],.r [.n 4 0,.q 5 (.cvInt .u32 (.t 4)),.n 6 0,.q 7 (.bin .shr (.t 6) (.c (.x 32))),.q 8 (.cvInt .u32 (.t 7)),.n 2 5,.n 3 8],.ret]⟩
def qBg(hc:qc P f qgi=true)(x:Int)(h0:0<=x)(h1:x<18446744073709551616):qa P f [.x x] (.tup [.w (loW x),.w (hiW x)]):=by
 refine qa.mk hc rfl ?_;have e1:IntKind.wrap .u32 x=loW x:=rfl
 have e2:IntKind.wrap .u32 (qml .u64 x 32)=hiW x:=by
  have:qml .u64 x 32=x / 4294967296:=by
   show x.fdiv (2 ^ 32)=_;rw[Int.fdiv_eq_ediv_of_nonneg _ (by decide)];rfl
  rw[this];show(x / 4294967296) % 4294967296=x / 4294967296;omega
 simp only[qgi,vI,simprocAttr];simp +decide only[↓vS,vT,simprocAttr,e1,e2];simp[vZ]
def qtX{q:IntKind}{l:List Int}:jP (rI q l)=true:=by
 unfold rI;induction l with
 | nil=>rfl
 | cons a l ih=>exact ih
def qjf:IFn:=⟨[.tmp 4],sq [.r [.m 4 .N],.r [.n 5 0,.q 6 (.buildS 1 [.x 0] [(0,1,(.t 5))]),.n 7 1,.q 8 (.app 1 8 true (.t 6) (.t 7)),.n 4 8],.ret]⟩
def qH6(hc:qc P f qjf=true)(x:Int)(l:List Int)(hl:l.length=6):qiN P f [.x x,.fz l.length (rI .u64 l)] (.own 0 (1+l.length)) [.cells 1 true true (rI .u64 (x::l))]:=by
 refine qiN.mk hc rfl (by simp[qpd,qtX]) ?_;have hr1:1+l.length<=qf:=by rw[hl];decide
 have hr2:(1+l.length)*8<=qf:=by rw[hl];decide
 have hll:(rI .u64 l).length=l.length:=jS;simp only[qjf,vI,simprocAttr];have hne:¬1+l.length<=1:=by omega
 have htk:List.take l.length (rI .u64 l)=rI .u64 l:=by grind
 simp +decide only[↓vS,vT,simprocAttr,hne,hr1,hr2,hll,htk,zzU];intro _;refine⟨[1],?_⟩;simp[vw,qr3,qe,qi]
def qfd(d:GData)(j:Nat):List Int:=(qad d).take (2+2*j)++List.replicate (14-2*j) 0
def qs7(d:GData){j:Nat}(h:j<=7):(qfd d j).length=16:=by
 have:(qad d).length=16:=rfl;unfold qfd;rw[zzP,List.length_take,List.length_replicate,this];omega
def qqF(d:GData){j:Nat}{x:Int}(h:(qqj d)[j]?=some x):((qfd d j).set (2+2*j) (loW x)).set (3+2*j) (hiW x)=qfd d (j+1):=by
 have hj:j<7:=(zzS.1 h).1;have:j=0\/j=1\/j=2\/j=3\/j=4\/j=5\/j=6:=by omega
 rcases this with rfl|rfl|rfl|rfl|rfl|rfl|rfl<;>(cases h;rfl)
def qyB(P:Program)(g:Nat):Prop:=∀x:Int,0<=x->x<18446744073709551616->qa P g [.x x] (.tup [.w (loW x),.w (hiW x)])
def qIB(P:Program)(g:Nat):Prop:=∀(x:Int) (l:List Int),l.length=6->qiN P g [.x x,.fz l.length (rI .u64 l)] (.own 0 (1+l.length)) [.cells 1 true true (rI .u64 (x::l))]
def qh1(a b:Nat):IFn:=⟨[.cell 2 16 true],sq [.r [.q 1 (.box (.t 0)),.q 2 (.alloc [.w 0,.w 0,.w 0,.w 0,.w 0,.w 0,.w 0,.w 0,.w 0,.w 0,.w 0,.w 0,.w 0,.w 0,.w 0,.w 0])],.r [.f 6 0 1,.d 7 6,.f 8 1 1,.d 9 8,.q 10 (.build [.w 0,.w 0,.w 0,.w 0,.w 0,.w 0,.w 0,.w 0,.w 0,.w 0,.w 0,.w 0,.w 0,.w 0,.w 0,.w 0] [(0,1,(.t 7)),(1,1,(.t 9))]),.q 3 (.alloc [.w 0,.w 0,.w 0,.w 0,.w 0,.w 0,.w 0,.w 0,.w 0,.w 0,.w 0,.w 0,.w 0,.w 0,.w 0,.w 0]),.u (.store 16 (.t 3) (.t 10))],sq [.reg true [.f 11 2 1,.d 12 11,.f 13 3 1,.q 14 (.slcA 6 1 (.t 13) none none none),.l 15 a [.t 12,.t 14],.e 16 15,.m 17 (.k 0)],.blk 0 (.loop (sq [.r [.s 18 17 16],.cond (.t 18) (.skip) (.exit 0),.blk 1 (sq [.r [.n 19 17,.i 20 1 15 17,.d 21 20,.n 4 19,.n 5 21],.r [.n 23 4,.q 24 (.bin .mul (.k 2) (.t 23)),.q 25 (.bin .add (.k 2) (.t 24)),.n 26 4,.q 27 (.bin .mul (.k 2) (.t 26)),.q 28 (.bin .add (.k 3) (.t 27)),.n 29 5,.l 30 b [.t 29],.n 22 30,.x 31 22 0,.x 32 22 1,.q 33 (.iAddrA 16 1 (.t 3) (.t 25)),.u (.store 1 (.t 33) (.t 31)),.q 34 (.iAddrA 16 1 (.t 3) (.t 28)),.u (.store 1 (.t 34) (.t 32))]]),.r [.a 35 17 1,.n 17 35]]))],.r [.v 36 16 3,.u (.store 16 (.t 2) (.t 36))],.ret]⟩
def qFv{g1 g2:Nat}(hc:qc P f (qh1 g1 g2)=true)(h1:qIB P g1)(h2:qyB P g2)(d:GData)(hd:DatOk d):qa P f [.agg (zJ d)] (.agg (rI .u32 (qad d))):=by
 refine qa.mk hc rfl ?_;simp only[qh1,zJ,vI,simprocAttr];simp +decide only[↓vS,vT,simprocAttr];refine zg ?_;simp +decide only[↓vS,vT,simprocAttr];refine(h1 d.ip [d.a0,d.a1,d.a2,d.a3,d.a4,d.a5] rfl).pc (vs:=[.x d.ip,.sl 0 3 6 6 false]) ?_ ?_
 .refine .cons _ _ _ _ (.i _ _) (.cons _ _ _ _ (Frz.cut 1 rfl (zzL _) ?_) .nil);simp[vP,Tr.get_set,vZ,rI]
 simp only[vJ,simprocAttr,xj qi];simp +decide only[↓vS,vT,simprocAttr]
 refine SL.loop (α:=Nat) (λj=>[(2,.ptr 0 0),(3,.ptr 1 0),(15,.own 2 7),(16,.j 7),(17,.j (j:Int))]) (λj=>[.v [.w 0,.w 0,.w 0,.w 0,.w 0,.w 0,.w 0,.w 0,.w 0,.w 0,.w 0,.w 0,.w 0,.w 0,.w 0,.w 0],.v (rI .u32 (qfd d j)),.cells 1 true true (rI .u64 (qqj d))])
  (λj=>j<=7) (λj=>7-j) 0 [1,2,3] ?_ ?_ ?_ rfl ?_ ?_
 .simp[vw]
 .simp[vw,qfd,qad,qqj,rI]
 .simp
 .omega
 rintro j hj G ih;simp only[vI,simprocAttr]
 by_cases hlt:j<7
 .have hlt':(j:Int)<7:=by omega
  obtain⟨x,hx⟩:∃x,(qqj d)[j]?=some x:=⟨_,zzE (show j<(qqj d).length from hlt)⟩
  have hxr:=hd.wid x (by grind);have hl:=qs7 d hj;have hnx:=qqF d hx;have w1:IntKind.wrap .i64 (2*(j:Int))=((2*j:Nat):Int):=by rw[qm (by omega) (by omega)];omega
  have w2:IntKind.wrap .i64 (2+((2*j:Nat):Int))=((2+2*j:Nat):Int):=by rw[qm (by omega) (by omega)];omega
  have w3:IntKind.wrap .i64 (3+((2*j:Nat):Int))=((3+2*j:Nat):Int):=by rw[qm (by omega) (by omega)];omega
  have w4:IntKind.wrap .i64 ((j:Int)+1)=((j+1:Nat):Int):=by rw[qm (by omega) (by omega)];omega
  simp +decide only[↓vS,vT,simprocAttr,hlt',hlt,zzU,qaZ,hx,Option.map_some,w1,w2,w3];refine(h2 x hxr.1 hxr.2).sc ?_;have hA:2+2*j<(qfd d j).length:=by omega
  have hB:3+2*j<((qfd d j).set (2+2*j) (loW x)).length:=by grind
  have s1:=qmb (k:=.u32) hA (loW x);have s2:=qmb (k:=.u32) hB (hiW x);rw[hnx]at s2;have k1:2+2*j<16:=by omega
  have k2:3+2*j<16:=by omega
  have k3:2+2*j+1<=(rI .u32 (qfd d j)).length:=by rw[jS];omega
  have k4:3+2*j+1<=(rI .u32 ((qfd d j).set (2+2*j) (loW x))).length:=by rw[jS];omega
  simp +decide only[↓vS,vT,simprocAttr,k1,k2,k3,k4,s1,s2,zzU,w4];refine ih (j+1) hlt (by omega) _ _ (Wk.mk _ _ [0,1,2] ?_ ?_ ?_ rfl)
  .simp[vw]
  .simp[vw,qe,qi]
  .simp
 .obtain rfl:j=7:=by omega
  have h16:16<=(rI .u32 (qfd d 7)).length:=zzL 16;have ht:List.take 16 (List.drop 0 (rI .u32 (qfd d 7)))=rI .u32 (qad d):=rfl;have hlen:(rI .u32 (qad d)).length=16:=rfl;have hfd:qfd d 7=qad d:=rfl;have ht2:List.take 16 (rI .u32 (qad d))=rI .u32 (qad d):=rfl;rw[hfd];simp +decide only[↓vS,vT,simprocAttr,h16,ht2,hlen,qBy];simp[vZ,vP,Tr.get_set,qJ qi]
def qnB(d:GData)(k:Int):AV:=if k % 4≠0\/64<=k then .tup [.w 0,.j 41]else .tup [.w ((qad d).getD (k / 4).toNat 0),.j 0]
def qje(a:Nat):IFn:=⟨[.tmp 4,.tmp 5],sq [.r [.q 2 (.box (.t 0)),.m 4 (.c (.w 0)),.m 5 (.k 0)],sq [.r [.n 6 1,.q 7 (.bin .rem (.t 6) (.c (.w 4))),.q 8 (.bin .neq (.t 7) (.c (.w 0))),.n 9 8,.z 10 1 9,.g 11 (.bin .geq (.t 10) (.c (.w 64))) 9 false,.o 12 9 11],.cond (.t 12) (sq [.r [.m 4 (.c (.w 0)),.m 5 (.k 41)],.ret]) (.skip)],.r [.v 13 9 2,.l 14 a [.t 13],.n 15 1,.q 16 (.bin .quo (.t 15) (.c (.w 4))),.q 17 (.idxA 16 1 false (.t 14) (.t 16)),.n 4 17,.m 5 (.k 0)],.ret]⟩
def qGU{g:Nat}(hc:qc P f (qje g)=true)(hg:∀d,DatOk d->qa P g [.agg (zJ d)] (.agg (rI .u32 (qad d))))(d:GData)(hd:DatOk d)(k:Int)(h0:0<=k)(h1:k<=4294967295):qa P f [.agg (zJ d),.w k] (qnB d k):=by
 refine qa.mk hc rfl ?_;have h40:(4:Int)≠0:=by decide
 have ht:k.tmod 4=k % 4:=by grind
 have hq:k.tdiv 4=k / 4:=by grind
 have hg:=hg d hd;unfold qnB;simp only[qje,zJ,vI,simprocAttr]at hg ⊢
 by_cases hm:k % 4=0
 .by_cases hb:64<=k
  .rw[if_pos (.inr hb)];simp +decide only[↓vS,vT,simprocAttr,↓qcq h40,ht,hm,hb];simp[vZ]
  .rw[if_neg (by omega)];have hn:(k / 4).toNat<16:=by omega
   obtain⟨x,hx⟩:∃x,(qad d)[(k / 4).toNat]?=some x:=⟨_,zzE hn⟩;rw[List.getD_eq_getElem?_getD,hx];have hk:k / 4=(((k / 4).toNat:Nat):Int):=by omega
   have hw:IntKind.wrap .u32 (k / 4)=(((k / 4).toNat:Nat):Int):=by
    show(k / 4) % 4294967296=_;omega
   simp +decide only[↓vS,vT,simprocAttr,↓qcq h40,ht,hm,hb];refine hg.sc ?_;generalize qad d=W at hx;simp +decide only[↓vS,vT,simprocAttr,↓qkT h40,hq,hw,hn,zzU,qaZ,hx,Option.map_some];simp[vZ]
 .rw[if_pos (.inl hm)];simp +decide only[↓vS,vT,simprocAttr,↓qcq h40,ht,hm];simp[vZ]
def xw:Nat->Int->List Int
 | 0,_=>[]
 | n+1,x=>x % 256::xw n (x / 256)
def qaB:∀(n:Nat) (x:Int),(xw n x).length=n
 | 0,_=>rfl
 | n+1,x=>by show(xw n (x / 256)).length+1=n+1;rw[qaB]
def qk7:∀(n:Nat) (x:Int),xX (xw n x)
 | 0,_=>λ_ h=>by cases h
 | n+1,x=>λy hy=>by
  rcases List.mem_cons.1 hy with rfl|hy
  .omega
  .exact qk7 n _ y hy
def qwc{w:Int}(h0:0<=w)(h1:w<=4294967295):leM (xw 4 w)=w:=by
 simp only[xw,leM];omega
def qni:∀(n:Nat) (x:Int),xw (n+1) x=xw n x++[x / 256 ^ n % 256]
 | 0,x=>by simp[xw]
 | n+1,x=>by
  show x % 256::xw (n+1) (x / 256)=x % 256::(xw n (x / 256)++_);rw[qni n,Int.ediv_ediv_of_nonneg (by decide),show(256:Int)*256 ^ n=256 ^ (n+1)from by rw[Int.pow_succ];exact Int.mul_comm _ _]
def qcS(n j:Nat)(x:Int):List Int:=xw j x++List.replicate (n-j) 0
def qi3{n j:Nat}{x:Int}(h:j<=n):(qcS n j x).length=n:=by unfold qcS;rw[zzP,qaB,List.length_replicate];omega
def qmT{n j:Nat}{x:Int}(h:j<n):(qcS n j x).set j (x / 256 ^ j % 256)=qcS n (j+1) x:=by
 unfold qcS;rw[List.set_append_right _ _ (by rw[qaB];exact zzL _),qaB,Nat.sub_self,qni,show n-j=(n-(j+1))+1 from by omega,List.replicate_succ,List.append_assoc]
 rfl

def qGC(c:Int):Bool:=!decide (qcO .u16 c 8=0)
def qa6(c:Int):Bool:=(decide (qn c=3)||decide (qn c=4))&&qGC c
def qh5(a:Nat):IFn:=⟨[.tmp 2],sq [.r [.m 2 .F],.r [.n 6 0,.l 7 a [.t 6],.n 5 7,.x 8 5 0,.x 9 5 1,.q 3 (.alloc [.h 0,.s [],.y 0]),.u (.store 3 (.t 3) (.t 8)),.n 4 9],.r [.n 10 4,.n 11 10,.h 12 2 3 11 true,.j 13 12 11 true,.g 14 (.bin .eql (.t 13) (.c (.y 3))) 11 true,.y 15 14 11,.h 16 2 3 15 false,.j 17 16 15 false,.g 18 (.bin .eql (.t 17) (.c (.y 4))) 15 false,.g 19 (.pick (.t 15) .T (.t 18)) 11 true,.p 20 11 19,.n 21 20,.y 22 0 21,.g 23 (.bin .and (.t 22) (.c (.h 8))) 21 true,.g 24 (.bin .neq (.t 23) (.c (.h 0))) 21 true,.p 25 21 24,.n 2 25],.ret]⟩
def qFk{g:Nat}(hc:qc P f (qh5 g)=true)(hg:∀n,qa P g [.h n] (.tup [.agg (qfc (qag n)),.b (xE n)]))(c:Int):qa P f [.h c] (.b (qa6 c)):=by
 refine qa.mk hc rfl ?_
 have hcl:(qfc (qag c)).length=3/\(qfc (qag c))[2]?=some (.y (qn c))/\qF (qfc (qag c))=true:=by
  unfold qn;cases qag c<;>exact⟨rfl,rfl,rfl⟩
 have hk:xE c=false->qn c=0:=by unfold xE qn;cases qag c<;>simp
 have hgc:=hg c;generalize qfc (qag c)=E at hcl hgc;obtain⟨he1,he2,he3⟩:=hcl;unfold qa6 qGC;simp only[qh5,vI,simprocAttr];simp +decide only[↓vS,vT,simprocAttr];refine hgc.sc ?_;cases hkn:xE c with
 | false =>
  have h0:=hk hkn;simp +decide only[↓vS,vT,simprocAttr,he1,he3];simp[vZ,h0]
 | true =>
  by_cases h3:qn c=3
  .simp +decide only[↓vS,vT,simprocAttr,he1,he2,he3,h3];simp[vZ,h3]
  by_cases h4:qn c=4
  .simp +decide only[↓vS,vT,simprocAttr,he1,he2,he3,h3,h4];simp[vZ,h4]
  .simp +decide only[↓vS,vT,simprocAttr,he1,he2,he3,h3,h4];simp[vZ,h3,h4]
def qdW(left:Bool):Nat->Int->Int
 | 0,a=>a
 | n+1,a=>qdW left n (if left=true then a*2 % 4294967296 else a / 2)
def qlR:∀(n:Nat) (a:Int),0<=a->a<=4294967295->qdW true n a=a*2 ^ n % 4294967296
 | 0,a,h0,h1=>by show a=a*1 % 4294967296;omega
 | n+1,a,h0,h1=>by
  show qdW true n (a*2 % 4294967296)=_;rw[qlR n _ (by omega) (by omega),Int.pow_succ,Int.mul_emod,Int.emod_emod,<- Int.mul_emod,Int.mul_assoc,Int.mul_comm 2]
def qkw:∀(n:Nat) (a:Int),0<=a->qdW false n a=a / 2 ^ n
 | 0,a,_=>by show a=a / 1;omega
 | n+1,a,h0=>by
  show qdW false n (a / 2)=_;rw[qkw n _ (by omega),Int.ediv_ediv_of_nonneg (by decide),Int.pow_succ,Int.mul_comm]
structure Mac where
 a:Int
 x:Int
 told:Int
 cl:List Int
 over:Bool
def u32(x:Int):Prop:=0<=x/\x<=4294967295
structure MacOk (m:Mac):Prop where
 a:u32 m.a
 x:u32 m.x
 told:u32 m.told
 len:m.cl.length=16
 cl:∀c ∈ m.cl,u32 c
def qiz(i:Ins):Bool:=decide (i.code=96)||decide (i.code=97)||decide (i.code=2)||decide (i.code=3)
def qfn(m:Mac)(i:Ins)(d:GData):Mac×Int :=
 if qiz i=true/\15<i.k then(m,43)
 else if i.code=32 then(if i.k % 4≠0\/64<=i.k then(m,41)else({ m with a:=(qad d).getD (i.k / 4).toNat 0 },0))
 else if i.code=128 then({ m with a:=64 },0)
 else if i.code=129 then({ m with x:=64 },0)
 else if i.code=0 then({ m with a:=i.k },0)
 else if i.code=1 then({ m with x:=i.k },0)
 else if i.code=96 then({ m with a:=m.cl.getD i.k.toNat 0 },0)
 else if i.code=97 then({ m with x:=m.cl.getD i.k.toNat 0 },0)
 else if i.code=2 then({ m with cl:=m.cl.set i.k.toNat m.a },0)
 else if i.code=3 then({ m with cl:=m.cl.set i.k.toNat m.x },0)
 else if i.code=7 then({ m with x:=m.a },0)
 else if i.code=135 then({ m with a:=m.x },0)
 else(m,0)
def quS(P:Program)(g:Nat):Prop:=∀d,DatOk d->∀k:Int,0<=k->k<=4294967295->qa P g [.agg (zJ d),.w k] (qnB d k)
def opM(c a b:Int):Int :=
 if c=4 then IntKind.wrap .u32 (a+b)else if c=20 then IntKind.wrap .u32 (a-b)else if c=36 then IntKind.wrap .u32 (a*b)
 else if c=68 then orI .u32 a b else if c=84 then qcO .u32 a b else if c=164 then qFl .u32 a b else IntKind.wrap .u32 (0-a)
def qd9(m:Mac)(i:Ins):Int:=if qa6 i.code=true then m.x else i.k
def za(c:Int):Int:=if qa6 c=true then c-8 else c
def nuM(m:Mac)(i:Ins):Mac×Int :=
 if za i.code=52 then(if 0<qd9 m i then({ m with a:=m.a / qd9 m i },0)else if qa6 i.code=true then({ m with over:=true },0)else(m,44))
 else if za i.code=100\/za i.code=116 then(if qa6 i.code=false/\31<qd9 m i then(m,45)else({ m with a:=qdW (decide (za i.code=100)) (qd9 m i % 32).toNat m.a },0))
 else({ m with a:=opM (za i.code) m.a (qd9 m i) },0)
def c3L:List Int:=[4,12,20,28,36,44,52,60,68,76,84,92,100,108,116,124,164,172,132]
theorem qxE:∀x ∈ qaO,x.2.2=3->c3L.contains x.1=true:=by decide
def cWX(P:Program)(g:Nat):Prop:=∀c:Int,qa P g [.h c] (.b (qa6 c))
def qfg(c a b:Int):Bool:=if c=21 then decide (a=b)else if c=37 then decide (b<a)else if c=53 then decide (b<=a)else decide (0<qcO .u32 a b)
def qkx(m:Mac)(i:Ins):Int:=if i.code=5 then i.k else if qfg (za i.code) m.a (qd9 m i)=true then i.jt else i.jf
def c4L:List Int:=[21,29,37,45,53,61,69,77,5]
theorem qE6:∀x ∈ qaO,x.2.2=4->c4L.contains x.1=true:=by decide
def qxF(m:Mac)(i:Ins):Mac:={ m with over:=true,told:=if i.code=22 then m.a else i.k }
def doR(m:Mac)(i:Ins)(d:GData):Mac×Int×Int :=
 if xE i.code=false then(m,0,40)
 else if qn i.code=1\/qn i.code=2\/qn i.code=6 then((qfn m i d).1,0,(qfn m i d).2)
 else if qn i.code=3 then((nuM m i).1,0,(nuM m i).2)
 else if qn i.code=4 then(m,qkx m i,0)
 else(qxF m i,0,0)
theorem qcM(x:Int):u32 (IntKind.wrap .u32 x):=by show 0<=x % 4294967296/\x % 4294967296<=4294967295;omega
def qpw(left:Bool):∀(n:Nat) (a:Int),u32 a->u32 (qdW left n a)
 | 0,_,h=>h
 | n+1,a,h=>by
  refine qpw left n _ ?_;unfold u32 at h ⊢;split<;>omega
def qrb{d:GData}(hd:DatOk d){x:Int}(hm:x ∈ qad d):u32 x:=by
 unfold qad at hm;rcases List.mem_cons.1 hm with rfl|hm
 .exact⟨hd.nr0,hd.nr1⟩
 rcases List.mem_cons.1 hm with rfl|hm
 .exact⟨hd.ar0,hd.ar1⟩
 obtain⟨y,hy,hm⟩:=List.mem_flatMap.1 hm;have:=hd.wid y hy;simp only[List.mem_cons,List.not_mem_nil,or_false]at hm;unfold u32;rcases hm with rfl|rfl
 .unfold loW;omega
 .unfold hiW;omega
def qlH{l:List Int}(h:∀c ∈ l,u32 c)(j:Nat):u32 (l.getD j 0):=by
 rw[List.getD_eq_getElem?_getD];cases hx:l[j]? with
 | none=>exact⟨Int.le_refl _,by decide⟩
 | some x=>grind
def qwl{m:Mac}(hm:MacOk m){i:Ins}(hi:InsOk i){d:GData}(hd:DatOk d):MacOk (qfn m i d).1:=by
 have hk:u32 i.k:=⟨hi.k0,hi.k1⟩;have h64:u32 64:=⟨by decide,by decide⟩
 unfold qfn
 by_cases c1:qiz i=true/\15<i.k
 .rw[if_pos c1];exact hm
 rw[if_neg c1]
 by_cases c2:i.code=32
 .rw[if_pos c2]
  by_cases c3:i.k % 4≠0\/64<=i.k
  .rw[if_pos c3];exact hm
  .rw[if_neg c3];exact⟨qlH (λc hc=>qrb hd hc) _,hm.x,hm.told,hm.len,hm.cl⟩
 rw[if_neg c2]
 by_cases d1:i.code=128
 .rw[if_pos d1];exact⟨h64,hm.x,hm.told,hm.len,hm.cl⟩
 rw[if_neg d1]
 by_cases d2:i.code=129
 .rw[if_pos d2];exact⟨hm.a,h64,hm.told,hm.len,hm.cl⟩
 rw[if_neg d2]
 by_cases d3:i.code=0
 .rw[if_pos d3];exact⟨hk,hm.x,hm.told,hm.len,hm.cl⟩
 rw[if_neg d3]
 by_cases d4:i.code=1
 .rw[if_pos d4];exact⟨hm.a,hk,hm.told,hm.len,hm.cl⟩
 rw[if_neg d4]
 by_cases d5:i.code=96
 .rw[if_pos d5];exact⟨qlH hm.cl _,hm.x,hm.told,hm.len,hm.cl⟩
 rw[if_neg d5]
 by_cases d6:i.code=97
 .rw[if_pos d6];exact⟨hm.a,qlH hm.cl _,hm.told,hm.len,hm.cl⟩
 rw[if_neg d6]
 by_cases d7:i.code=2
 .rw[if_pos d7];exact⟨hm.a,hm.x,hm.told,by simpa using hm.len,by grind[MacOk.cl,MacOk.a]⟩
 rw[if_neg d7]
 by_cases d8:i.code=3
 .rw[if_pos d8];exact⟨hm.a,hm.x,hm.told,by simpa using hm.len,by grind[MacOk.cl,MacOk.x]⟩
 rw[if_neg d8]
 by_cases d9:i.code=7
 .rw[if_pos d9];exact⟨hm.a,hm.a,hm.told,hm.len,hm.cl⟩
 rw[if_neg d9]
 by_cases d10:i.code=135
 .rw[if_pos d10];exact⟨hm.x,hm.x,hm.told,hm.len,hm.cl⟩
 rw[if_neg d10];exact hm
def qD1(c a b:Int):u32 (opM c a b):=by
 unfold opM;split
 .exact qcM _
 split
 .exact qcM _
 split
 .exact qcM _
 split
 .exact qcM _
 split
 .exact qcM _
 split
 .exact qcM _
 grind[qcM]
def qDQ{m:Mac}(hm:MacOk m)(i:Ins):MacOk (nuM m i).1:=by
 unfold nuM;split
 .split
  .rename_i hb;have h1:m.a / qd9 m i<=m.a:=Int.ediv_le_self _ hm.a.1;have h2:0<=m.a / qd9 m i:=Int.ediv_nonneg hm.a.1 (by omega);have h3:=hm.a.2;exact⟨⟨h2,by show m.a / qd9 m i<=4294967295;omega⟩,hm.x,hm.told,hm.len,hm.cl⟩
  split
  .exact⟨hm.a,hm.x,hm.told,hm.len,hm.cl⟩
  omega
 split
 .split
  .exact hm
  .exact⟨qpw _ _ _ hm.a,hm.x,hm.told,hm.len,hm.cl⟩
 .exact⟨qD1 _ _ _,hm.x,hm.told,hm.len,hm.cl⟩
def qv6{m:Mac}{i:Ins}(hi:InsOk i):u32 (qkx m i):=by
 have:=hi.t0;have:=hi.t1;have:=hi.f0;have:=hi.f1;have:=hi.k0;have:=hi.k1
 unfold qkx u32;omega
def qvb{m:Mac}(hm:MacOk m){i:Ins}(hi:InsOk i){d:GData}(hd:DatOk d):MacOk (doR m i d).1/\u32 (doR m i d).2.1:=by
 have h0:u32 0:=⟨by decide,by decide⟩
 unfold doR;split
 .simp_all
 split
 .simp_all[qwl]
 split
 .simp_all[qDQ]
 split
 .simp_all[qv6]
 .refine⟨⟨hm.a,hm.x,?_,hm.len,hm.cl⟩,h0⟩;show u32 (if i.code=22 then m.a else i.k)
  split
  .exact hm.a
  .exact⟨hi.k0,hi.k1⟩
def qp4(p:List Ins)(d:GData):Nat->Mac->Nat->Int->List Nat->Int×Nat×List Nat×Int
 | 0,_,_,_,l=>(0,0,l,0)
 | n+1,m,at',bh,l=>match p[at']? with
  | none=>(0,l.length,l,bh)
  | some i=>if(doR m i d).2.2≠0 then(0,l.length,l++[at'],(doR m i d).2.2)
   else if(doR m i d).1.over=true then((doR m i d).1.told,l.length+1,l++[at'],0)
   else qp4 p d n (doR m i d).1 (at'+1+(doR m i d).2.1.toNat) (if qn i.code=4 then 42 else 46) (l++[at'])
def qzB:Mac:=⟨0,0,0,List.replicate 16 0,false⟩
def qqA{d:GData}:List.take 9 (List.drop 0 (zJ d))=zJ d:=rfl
def quT{d:GData}:9<=(zJ d).length:=zzL 9
def qht{d:GData}:qt (zJ d)=true:=rfl
def qrL:MacOk qzB:=⟨⟨by decide,by decide⟩,⟨by decide,by decide⟩,⟨by decide,by decide⟩,rfl,λc hc=>by
 have:=List.eq_of_mem_replicate hc;subst this;exact⟨by decide,by decide⟩⟩
def qno{p:List Ins}{d:GData}{n:Nat}{m:Mac}{at':Nat}{bh:Int}{l:List Nat}:qp4 p d (n+1) m at' bh l=match p[at']? with
  | none=>(0,l.length,l,bh)
  | some i=>if(doR m i d).2.2≠0 then(0,l.length,l++[at'],(doR m i d).2.2)
   else if(doR m i d).1.over=true then((doR m i d).1.told,l.length+1,l++[at'],0)
   else qp4 p d n (doR m i d).1 (at'+1+(doR m i d).2.1.toNat) (if qn i.code=4 then 42 else 46) (l++[at']):=rfl
def qic:IFn:=⟨[.tmp 4],sq [.r [.m 4 (.c (.w 0))],.r [.n 5 0,.n 6 1,.b 7 .add 5 6,.n 4 7],.ret]⟩
def qJX(hc:qc P f qic=true)(a b:Int):qa P f [.w a,.w b] (.w (opM 4 a b)):=by
 refine qa.mk hc rfl ?_;simp only[qic,vI,simprocAttr];simp +decide only[↓vS,vT,simprocAttr];simp[vZ,opM]
def qid:IFn:=⟨[.tmp 4],sq [.r [.m 4 (.c (.w 0))],.r [.n 5 0,.n 6 1,.b 7 .sub 5 6,.n 4 7],.ret]⟩
def qJY(hc:qc P f qid=true)(a b:Int):qa P f [.w a,.w b] (.w (opM 20 a b)):=by
 refine qa.mk hc rfl ?_;simp only[qid,vI,simprocAttr];simp +decide only[↓vS,vT,simprocAttr];simp[vZ,opM]
def qie:IFn:=⟨[.tmp 4],sq [.r [.m 4 (.c (.w 0))],.r [.n 5 0,.n 6 1,.b 7 .mul 5 6,.n 4 7],.ret]⟩
def qJZ(hc:qc P f qie=true)(a b:Int):qa P f [.w a,.w b] (.w (opM 36 a b)):=by
 refine qa.mk hc rfl ?_;simp only[qie,vI,simprocAttr];simp +decide only[↓vS,vT,simprocAttr];simp[vZ,opM]
def qig:IFn:=⟨[.tmp 4],sq [.r [.m 4 (.c (.w 0))],.r [.n 5 0,.n 6 1,.b 7 .or 5 6,.n 4 7],.ret]⟩
def qJ1(hc:qc P f qig=true)(a b:Int):qa P f [.w a,.w b] (.w (opM 68 a b)):=by
 refine qa.mk hc rfl ?_;simp only[qig,vI,simprocAttr];simp +decide only[↓vS,vT,simprocAttr];simp[vZ,opM]
def qih:IFn:=⟨[.tmp 4],sq [.r [.m 4 (.c (.w 0))],.r [.n 5 0,.n 6 1,.b 7 .and 5 6,.n 4 7],.ret]⟩
def qJ2(hc:qc P f qih=true)(a b:Int):qa P f [.w a,.w b] (.w (opM 84 a b)):=by
 refine qa.mk hc rfl ?_;simp only[qih,vI,simprocAttr];simp +decide only[↓vS,vT,simprocAttr];simp[vZ,opM]
def qik:IFn:=⟨[.tmp 4],sq [.r [.m 4 (.c (.w 0))],.r [.n 5 0,.n 6 1,.b 7 .xor 5 6,.n 4 7],.ret]⟩
def qJ5(hc:qc P f qik=true)(a b:Int):qa P f [.w a,.w b] (.w (opM 164 a b)):=by
 refine qa.mk hc rfl ?_;simp only[qik,vI,simprocAttr];simp +decide only[↓vS,vT,simprocAttr];simp[vZ,opM]
def qgZ:IFn:=⟨[.tmp 4],sq [.r [.m 4 (.c (.w 0))],.r [.n 5 0,.q 6 (.un .neg (.t 5)),.n 4 6],.ret]⟩
def qI1(hc:qc P f qgZ=true)(a b:Int):qa P f [.w a,.w b] (.w (opM 132 a b)):=by
 refine qa.mk hc rfl ?_;simp only[qgZ,vI,simprocAttr];simp +decide only[↓vS,vT,simprocAttr];simp[vZ,opM]
def qif:IFn:=⟨[.tmp 4],sq [.r [.m 4 (.c (.w 0))],.r [.n 5 0,.n 6 1,.q 7 (.max (.t 6) (.c (.w 1))),.b 8 .quo 5 7,.n 4 8],.ret]⟩
def qJ0(hc:qc P f qif=true)(a b:Int)(a0:0<=a)(a1:a<=4294967295)(b0:0<b):qa P f [.w a,.w b] (.w (a / b)):=by
 refine qa.mk hc rfl ?_;have h1:¬b<1:=by omega
 have hne:b≠0:=by omega
 have hq:a.tdiv b=a / b:=by grind
 have hle:a / b<=a:=Int.ediv_le_self _ a0;have hge:0<=a / b:=Int.ediv_nonneg a0 (by omega);have hwq:IntKind.wrap .u32 (a / b)=a / b:=by show(a / b) % 4294967296=_;omega
 simp only[qif,vI,simprocAttr];simp +decide only[↓vS,vT,simprocAttr,h1,↓qkT hne,hq,hwq];simp[vZ]
def qii:IFn:=⟨[.tmp 4],sq [.r [.m 4 (.c (.w 0))],.r [.n 5 0,.n 6 1,.q 7 (.bin .rem (.t 6) (.c (.w 32))),.b 8 .shl 5 7,.n 4 8],.ret]⟩
def qJ3(hc:qc P f qii=true)(a b:Int)(a0:0<=a)(a1:a<=4294967295)(b0:0<=b):qa P f [.w a,.w b] (.w (qdW true (b % 32).toNat a)):=by
 refine qa.mk hc rfl ?_;have h32:(32:Int)≠0:=by decide
 have hr:b.tmod 32=b % 32:=by grind
 have hp:0<=b % 32:=by omega
 have hm:min (b % 32).toNat 32=(b % 32).toNat:=by omega
 have hsh:qqa .u32 a (b % 32)=qdW true (b % 32).toNat a:=by
  rw[qlR (b % 32).toNat a a0 a1];unfold qqa;rw[show IntKind.bits .u32=32 from rfl,hm]
  rfl
 simp only[qii,vI,simprocAttr];simp +decide only[↓vS,vT,simprocAttr,↓qcq h32,hr,hp,hsh];simp[vZ]
def qij:IFn:=⟨[.tmp 4],sq [.r [.m 4 (.c (.w 0))],.r [.n 5 0,.n 6 1,.q 7 (.bin .rem (.t 6) (.c (.w 32))),.b 8 .shr 5 7,.n 4 8],.ret]⟩
def qJ4(hc:qc P f qij=true)(a b:Int)(a0:0<=a)(a1:a<=4294967295)(b0:0<=b):qa P f [.w a,.w b] (.w (qdW false (b % 32).toNat a)):=by
 refine qa.mk hc rfl ?_;have h32:(32:Int)≠0:=by decide
 have hr:b.tmod 32=b % 32:=by grind
 have hp:0<=b % 32:=by omega
 have hm:min (b % 32).toNat 32=(b % 32).toNat:=by omega
 have hsh:qml .u32 a (b % 32)=qdW false (b % 32).toNat a:=by
  rw[qkw (b % 32).toNat a a0];unfold qml;rw[show IntKind.bits .u32=32 from rfl,hm]
  grind
 simp only[qij,vI,simprocAttr];simp +decide only[↓vS,vT,simprocAttr,↓qcq h32,hr,hp,hsh];simp[vZ]
def qg0:IFn:=⟨[.tmp 4],sq [.r [.m 4 .F],.r [.n 5 0,.n 6 1,.b 7 .eql 5 6,.n 4 7],.ret]⟩
def qI2(hc:qc P f qg0=true)(a b:Int):qa P f [.w a,.w b] (.b (qfg 21 a b)):=by
 refine qa.mk hc rfl ?_;simp only[qg0,vI,simprocAttr];simp +decide only[↓vS,vT,simprocAttr];simp[vZ,qfg]
def qg1:IFn:=⟨[.tmp 4],sq [.r [.m 4 .F],.r [.n 5 0,.n 6 1,.b 7 .gtr 5 6,.n 4 7],.ret]⟩
def qI3(hc:qc P f qg1=true)(a b:Int):qa P f [.w a,.w b] (.b (qfg 37 a b)):=by
 refine qa.mk hc rfl ?_;simp only[qg1,vI,simprocAttr];simp +decide only[↓vS,vT,simprocAttr];simp[vZ,qfg]
def qg2:IFn:=⟨[.tmp 4],sq [.r [.m 4 .F],.r [.n 5 0,.n 6 1,.b 7 .geq 5 6,.n 4 7],.ret]⟩
def qI4(hc:qc P f qg2=true)(a b:Int):qa P f [.w a,.w b] (.b (qfg 53 a b)):=by
 refine qa.mk hc rfl ?_;simp only[qg2,vI,simprocAttr];simp +decide only[↓vS,vT,simprocAttr];simp[vZ,qfg]
def qrf(a b:Int):0<=qcO .u32 a b:=(qcM _).1
def qg3:IFn:=⟨[.tmp 4],sq [.r [.m 4 .F],.r [.n 5 0,.n 6 1,.b 7 .and 5 6,.q 8 (.bin .neq (.t 7) (.c (.w 0))),.n 4 8],.ret]⟩
def qI5(hc:qc P f qg3=true)(a b:Int):qa P f [.w a,.w b] (.b (qfg 69 a b)):=by
 refine qa.mk hc rfl ?_;have h:=qrf a b;simp only[qg3,vI,simprocAttr];simp +decide only[↓vS,vT,simprocAttr];simp[vZ,qfg]
 grind
def fnO:Option Nat->AV
 | none=>.nilf
 | some g=>.fn g [] []
def qaT(x:Int×Option Nat×Option Nat):List AV:=[.h x.1,fnO x.2.1,fnO x.2.2]
def qnl(x:Int×Option Nat×Option Nat):(qaT x).length=3:=rfl
def qEp(g1 g2 g3 g4 g5 g6 g7 g8 g9 g10 g11 g12 g13 g14:Nat):List (Int×Option Nat×Option Nat):=[(4,some g1,none),(20,some g2,none),(36,some g3,none),(52,some g4,none),(68,some g5,none),(84,some g6,none),(100,some g7,none),(116,some g8,none),(164,some g9,none),(132,some g10,none),(21,none,some g11),(37,none,some g12),(53,none,some g13),(69,none,some g14)]
def qku(a b c d e g h i j k l m n o:Nat):IFn:=⟨[.cell 0 42 true],sq [.r [.q 0 (.alloc [.h 0,.nilf,.nilf,.h 0,.nilf,.nilf,.h 0,.nilf,.nilf,.h 0,.nilf,.nilf,.h 0,.nilf,.nilf,.h 0,.nilf,.nilf,.h 0,.nilf,.nilf,.h 0,.nilf,.nilf,.h 0,.nilf,.nilf,.h 0,.nilf,.nilf,.h 0,.nilf,.nilf,.h 0,.nilf,.nilf,.h 0,.nilf,.nilf,.h 0,.nilf,.nilf])],.r [.q 1 (.build [.h 0,.nilf,.nilf] [(0,1,(.c (.h 4))),(1,1,(.c (.fn a [] [])))]),.q 2 (.build [.h 0,.nilf,.nilf] [(0,1,(.c (.h 20))),(1,1,(.c (.fn b [] [])))]),.q 3 (.build [.h 0,.nilf,.nilf] [(0,1,(.c (.h 36))),(1,1,(.c (.fn c [] [])))]),.q 4 (.build [.h 0,.nilf,.nilf] [(0,1,(.c (.h 52))),(1,1,(.c (.fn d [] [])))]),.q 5 (.build [.h 0,.nilf,.nilf] [(0,1,(.c (.h 68))),(1,1,(.c (.fn e [] [])))]),.q 6 (.build [.h 0,.nilf,.nilf] [(0,1,(.c (.h 84))),(1,1,(.c (.fn g [] [])))]),.q 7 (.build [.h 0,.nilf,.nilf] [(0,1,(.c (.h 100))),(1,1,(.c (.fn h [] [])))]),.q 8 (.build [.h 0,.nilf,.nilf] [(0,1,(.c (.h 116))),(1,1,(.c (.fn i [] [])))]),.q 9 (.build [.h 0,.nilf,.nilf] [(0,1,(.c (.h 164))),(1,1,(.c (.fn j [] [])))]),.q 10 (.build [.h 0,.nilf,.nilf] [(0,1,(.c (.h 132))),(1,1,(.c (.fn k [] [])))]),.q 11 (.build [.h 0,.nilf,.nilf] [(0,1,(.c (.h 21))),(2,1,(.c (.fn l [] [])))]),.q 12 (.build [.h 0,.nilf,.nilf] [(0,1,(.c (.h 37))),(2,1,(.c (.fn m [] [])))]),.q 13 (.build [.h 0,.nilf,.nilf] [(0,1,(.c (.h 53))),(2,1,(.c (.fn n [] [])))]),.q 14 (.build [.h 0,.nilf,.nilf] [(0,1,(.c (.h 69))),(2,1,(.c (.fn o [] [])))]),.q 15 (.build [.h 0,.nilf,.nilf,.h 0,.nilf,.nilf,.h 0,.nilf,.nilf,.h 0,.nilf,.nilf,.h 0,.nilf,.nilf,.h 0,.nilf,.nilf,.h 0,.nilf,.nilf,.h 0,.nilf,.nilf,.h 0,.nilf,.nilf,.h 0,.nilf,.nilf,.h 0,.nilf,.nilf,.h 0,.nilf,.nilf,.h 0,.nilf,.nilf,.h 0,.nilf,.nilf] [(0,3,(.t 1)),(3,3,(.t 2)),(6,3,(.t 3)),(9,3,(.t 4)),(12,3,(.t 5)),(15,3,(.t 6)),(18,3,(.t 7)),(21,3,(.t 8)),(24,3,(.t 9)),(27,3,(.t 10)),(30,3,(.t 11)),(33,3,(.t 12)),(36,3,(.t 13)),(39,3,(.t 14))]),.u (.store 42 (.t 0) (.t 15))],.ret]⟩
set_option maxRecDepth 8000 in
def qEm{g1 g2 g3 g4 g5 g6 g7 g8 g9 g10 g11 g12 g13 g14:Nat}(hc:qc P f (qku g1 g2 g3 g4 g5 g6 g7 g8 g9 g10 g11 g12 g13 g14)=true):qa P f [] (.agg ((qEp g1 g2 g3 g4 g5 g6 g7 g8 g9 g10 g11 g12 g13 g14).flatMap qaT)):=by
 refine qa.mk hc rfl ?_;simp only[qku,vI,simprocAttr];simp +decide only[↓vS,vT,simprocAttr];simp[vZ,vP,Tr.get_set,qEp,qaT,fnO]
def qln(c:Int):Int:=if qa6 c=true then qeH .u16 c 8 else c
def qk1(o:Option Nat):clo (fnO o)=true:=by cases o<;>rfl
def qgY(a b:Nat):ICode:=sq [sq [.r [.l 9 b [],.m 10 (.k 0)],.blk 0 (.loop (sq [.r [.w 11 .lss 10 14],.cond (.t 11) (.skip) (.exit 0),.blk 1 (sq [.r [.q 12 (.idxA 14 3 true (.t 9) (.t 10)),.q 4 (.alloc [.h 0,.nilf,.nilf]),.u (.store 3 (.t 4) (.t 12))],.r [.f 13 0 4,.d 14 13,.n 15 0,.b 16 .eql 14 15],.cond (.t 16) (sq [.r [.v 17 3 4,.u (.store 3 (.t 2) (.t 17))],.ret]) (.skip)]),.r [.a 18 10 1,.n 10 18]]))],.r [.q 19 (.build [.h 0,.nilf,.nilf] []),.u (.store 3 (.t 2) (.t 19))],.ret]
def qpu(a b:Nat):IFn:=⟨[.cell 2 3 true],sq [.r [.q 2 (.alloc [.h 0,.nilf,.nilf])],sq [.r [.n 5 0,.l 6 a [.t 5]],.cond (.t 6) (.r [.n 7 0,.q 8 (.bin .andNot (.t 7) (.c (.h 8))),.n 0 8]) (.skip)],.cut (qgY a b)]⟩
def qAX{g1 g2:Nat}(ws:List (Int×Option Nat×Option Nat))(hw:ws.length=14)(h2:qa P g2 [] (.agg (ws.flatMap qaT)))(b:Int)(r:Int×Option Nat×Option Nat)(hr:(ws.find? λx=>decide (x.1=b))=some r)
  {t':Tr AV} {h':Hp} (hwk:Wk 0 t' h' (mkT [(0,.h b),(2,.ptr 0 0)]) (mkH 0 [.v [.h 0,.nilf,.nilf]])) :
  S P 0 (qgY g1 g2) (xk [.cell 2 3 true] λv' h'=>Frz h' v' (.agg (qaT r))) t' h':=by
 refine S.weak hwk (qk ?_);have hlen:(ws.flatMap qaT).length=42:=by rw[qV qnl,hw]
 have hcl:qt (ws.flatMap qaT)=true:=xT (λx=>by simp[qaT,qt,clo,qk1])
 simp only[qgY,vI,simprocAttr];simp +decide only[↓vS,vT,simprocAttr];refine h2.sc ?_;simp +decide only[↓vS,vT,simprocAttr];refine SL.loop (α:=Nat) (λj=>[(0,.h b),(2,.ptr 0 0),(9,.agg (ws.flatMap qaT)),(10,.j (j:Int))]) (λ_=>[.v [.h 0,.nilf,.nilf]]) (λj=>j<=14/\((ws.drop j).find? λx=>decide (x.1=b))=some r) (λj=>14-j) 0 [0] ?_ ?_ ?_ rfl ?_ ?_
 .simp[vw,qe,hcl]
 .simp[vw]
 .simp
 .simp_all
 rintro j ⟨hj,hI⟩ G ih;simp only[vI,simprocAttr]
 by_cases hlt:j<14
 .have hlt':(j:Int)<14:=by omega
  have hjl:j<ws.length:=by omega
  have hx:ws[j]?=some ws[j]:=by simp_all
  have hw1:IntKind.wrap .i64 ((j:Int)+1)=((j+1:Nat):Int):=by rw[qm (by omega) (by omega)];omega
  have hel:=qG (f:=qaT) (m:=3) qnl hx;have hb:j*3+3<=(ws.flatMap qaT).length:=by omega
  rw[List.drop_eq_getElem_cons hjl,List.find?_cons]at hI;generalize hc0:ws[j]=x at hel hI;simp only[qaT]at hel;generalize hT:ws.flatMap qaT=T at hel hb hlen hcl;have hf1:=qk1 x.2.1;have hf2:=qk1 x.2.2;have hok:qF [AV.h x.1,fnO x.2.1,fnO x.2.2]=true:=by obtain⟨_,o1,o2⟩:=x;cases o1<;>cases o2<;>rfl
  by_cases hxb:x.1=b
  .have hd:decide (x.1=b)=true:=by simp_all
   rw[hd]at hI;obtain rfl:x=r:=by simp_all
   have hok':zj (fnO x.2.1)=true/\zj (fnO x.2.2)=true:=by obtain⟨_,o1,o2⟩:=x;cases o1<;>cases o2<;>exact⟨rfl,rfl⟩
   simp +decide only[↓vS,vT,simprocAttr,hlt',hlt,hel,hb,hok,hok'.1,hok'.2,hxb];have fz:∀(h:Hp) (o:Option Nat),Frz h (fnO o) (fnO o):=λh o=>Frz.self (qk1 o)
   simp[vZ,qaT,hxb,fz]
  .have hd:decide (x.1=b)=false:=by simp_all
   rw[hd]at hI;simp +decide only[↓vS,vT,simprocAttr,hlt',hlt,hel,hb,hok,hxb,hw1];refine ih (j+1) ⟨hlt,hI⟩ (by omega) _ _ (Wk.mk _ _ [0] ?_ ?_ ?_ rfl)
   .simp[vw,qe,hcl,hT]
   .simp[vw]
   .simp
 .obtain rfl:j=14:=by omega
  have hd:ws.drop 14=[]:=by simp_all
  rw[hd]at hI;cases hI
def qIe{g1 g2:Nat}(hc:qc P f (qpu g1 g2)=true)(h1:cWX P g1)(ws:List (Int×Option Nat×Option Nat))(hw:ws.length=14)(h2:qa P g2 [] (.agg (ws.flatMap qaT)))(c:Int)(r:Int×Option Nat×Option Nat)(hr:(ws.find? λx=>decide (x.1=qln c))=some r) :
  qa P f [.h c] (.agg (qaT r)):=by
 refine qa.mk hc rfl ?_;have hX:=h1 c;unfold qln at hr;simp only[qpu,vI,simprocAttr];cases hx:qa6 c with
 | true =>
  rw[hx]at hX hr;rw[if_pos rfl]at hr;simp +decide only[↓vS,vT,simprocAttr];refine hX.sc ?_;simp +decide only[↓vS,vT,simprocAttr];refine qAX ws hw h2 (qeH .u16 c 8) r hr (Wk.mk _ _ [0] ?_ ?_ ?_ rfl)
  .simp[vw]
  .simp[vw]
  .simp
 | false =>
  rw[hx]at hX hr;rw[if_neg (by simp)]at hr;simp +decide only[↓vS,vT,simprocAttr];refine hX.sc ?_;simp +decide only[↓vS,vT,simprocAttr];refine qAX ws hw h2 c r hr (Wk.mk _ _ [0] ?_ ?_ ?_ rfl)
  .simp[vw]
  .simp[vw]
  .simp
def cVm(m:Mac)(d:GData):List AV:=.w m.a :: .w m.x::(rI .u32 m.cl++(zJ d++[.w m.told,.b m.over]))
def qkX{m:Mac}{d:GData}(h:m.cl.length=16):(cVm m d).length=29:=by
 show(rI .u32 m.cl++(zJ d++[AV.w m.told,AV.b m.over])).length+2=29;rw[zzP,jS,h];rfl
def qu{m:Mac}{d:GData}:qt (cVm m d)=true:=by
 show qt (rI .u32 m.cl++(zJ d++[AV.w m.told,AV.b m.over]))=true;rw[xR,qi];rfl
def qcE(a:Nat):IFn:=⟨[.tmp 4],sq [.r [.q 3 (.box (.t 1)),.m 4 (.c (.w 0))],sq [.r [.f 5 0 3,.d 6 5,.l 7 a [.t 6]],.cond (.t 7) (sq [.r [.n 8 0,.q 9 (.nilChk (.t 8)),.f 10 1 9,.d 11 10,.n 4 11],.ret]) (.skip)],.r [.f 12 3 3,.d 13 12,.n 4 13],.ret]⟩
def qBz{g:Nat}(hc:qc P f (qcE g)=true)(hg:cWX P g)(m:Mac)(d:GData)(hl:m.cl.length=16)(i:Ins):Rd P f [.ptr 0 0,.agg (qC i)] [.v (cVm m d)] (.w (qd9 m i)):=by
 refine Rd.mk hc (by simp[jl,bnd,qC]) rfl ?_;have hX:=hg i.code;have g1:(cVm m d)[1]?=some (.w m.x):=rfl;unfold qd9;simp only[qcE,qC,vI,simprocAttr];cases hx:qa6 i.code with
 | true =>
  rw[hx]at hX;simp +decide only[↓vS,vT,simprocAttr];refine hX.sc ?_;simp +decide only[↓vS,vT,simprocAttr,g1]
 | false =>
  rw[hx]at hX;simp +decide only[↓vS,vT,simprocAttr];refine hX.sc ?_;simp +decide only[↓vS,vT,simprocAttr]
def qGN(P:Program)(g:Nat):Prop:=∀(m:Mac) (d:GData),m.cl.length=16->∀i:Ins,Rd P g [.ptr 0 0,.agg (qC i)] [.v (cVm m d)] (.w (qd9 m i))
def qGG(P:Program)(g:Nat):Prop:=∀c:Int,c4L.contains c=true->c≠5->∃(b:Int) (o:Option Nat) (k:Nat),qa P g [.h c] (.agg (qaT (b,o,some k)))/\∀x y:Int,qa P k [.w x,.w y] (.b (qfg (za c) x y))
def qdU(a b:Nat):IFn:=⟨[.tmp 4],sq [.r [.q 3 (.box (.t 1)),.m 4 (.k 0)],.blk 0 (sq [.r [.f 6 0 3,.d 7 6,.q 8 (.bin .eql (.t 7) (.c (.h 5))),.n 5 8],.cond (.t 5) (sq [.r [.f 9 3 3,.d 10 9,.q 11 (.cvInt .i64 (.t 10)),.n 4 11],.ret]) (sq [.reg true [.f 13 0 3,.d 14 13,.l 15 a [.t 14],.q 16 (.fld 2 none (.t 15)),.n 17 0,.q 18 (.nilChk (.t 17)),.f 19 0 18,.d 20 19,.n 21 0,.v 22 4 3,.l 23 b [.t 21,.t 22],⟨(some 24),.callV (.t 16) [.t 20,.t 23],none⟩,.n 12 24],.cond (.t 12) (sq [.r [.f 25 1 3,.d 26 25,.q 27 (.cvInt .i64 (.t 26)),.n 4 27],.ret]) (.skip)])]),.r [.f 28 2 3,.d 29 28,.q 30 (.cvInt .i64 (.t 29)),.n 4 30],.ret]⟩
def qJz{g1 g2:Nat}(hc:qc P f (qdU g1 g2)=true)(h1:qGG P g1)(h2:qGN P g2)(m:Mac)(d:GData)(hl:m.cl.length=16)(i:Ins)(hi:InsOk i)(hcls:qn i.code=4) :
  Upd P f [.ptr 0 0,.agg (qC i)] [.v (cVm m d)] (.j (qkx m i)) [.v (cVm m d)]:=by
 refine Upd.mk hc (by simp[jl,bnd,qC]) (by simp) ?_;have g0:(cVm m d)[0]?=some (.w m.a):=rfl;have wk:IntKind.wrap .i64 i.k=i.k:=by have:=hi.k0;have:=hi.k1;grind[qm]
 have wt:IntKind.wrap .i64 i.jt=i.jt:=by have:=hi.t0;have:=hi.t1;grind[qm]
 have wf:IntKind.wrap .i64 i.jf=i.jf:=by have:=hi.f0;have:=hi.f1;grind[qm]
 have hmem:c4L.contains i.code=true:=by
  unfold qn at hcls;cases hcm:qag i.code<;>grind[qdu,qE6]
 have hsec:=h2 m d hl i;unfold qkx;simp only[qdU,qC,vI,simprocAttr]at hsec ⊢
 by_cases c5:i.code=5
 .simp +decide only[↓vS,vT,simprocAttr,c5,wk];intro _;refine⟨[0],?_⟩;simp[vw,qe,qu]
 obtain⟨b,o,k,hby,hho⟩:=h1 i.code hmem c5;simp only[qaT]at hby;rw[if_neg c5];simp +decide only[↓vS,vT,simprocAttr,c5];refine zg ?_;simp +decide only[↓vS,vT,simprocAttr];refine hby.pc ?_;simp +decide only[↓vS,vT,simprocAttr,fnO,g0];refine hsec.pc (vs:=[.ptr 0 0,.agg [.h i.code,.y i.jt,.y i.jf,.w i.k]]) [0] (Lent.of (by decide) ?_) ?_
 .simp[vL,vw,qv qu,qg qu]
 simp +decide only[↓vS,vT,simprocAttr];refine(hho m.a (qd9 m i)).pc ?_;simp only[Hp.up,Hp.down];cases hh:qfg (za i.code) m.a (qd9 m i)with
 | true =>
  simp +decide only[↓vS,vT,simprocAttr,wt];intro _;refine⟨[0],?_⟩;simp[vw,qe,qu]
 | false =>
  simp +decide only[↓vS,vT,simprocAttr,wf];intro _;refine⟨[0],?_⟩;simp[vw,qe,qu]
def qoX{m:Mac}{d:GData}(h:m.cl.length=16)(v:Bool):List.take 28 (cVm m d)++(AV.b v::List.drop 29 (cVm m d))=cVm { m with over:=v } d:=by
 have e:List.take 26 (rI .u32 m.cl++(zJ d++[AV.w m.told,AV.b m.over]))++(AV.b v::List.drop 27 (rI .u32 m.cl++(zJ d++[AV.w m.told,AV.b m.over])))=rI .u32 m.cl++(zJ d++[AV.w m.told,AV.b v]):=by
  have hl:(rI .u32 m.cl).length=16:=by rw[jS,h]
  rw[List.take_append,hl,List.take_of_length_le (by rw[hl];decide),List.drop_eq_nil_of_le (by rw[zzP,hl];exact zzL 27),List.append_assoc];rfl
 show AV.w m.a::AV.w m.x::(List.take 26 (rI .u32 m.cl++(zJ d++[AV.w m.told,AV.b m.over]))++(AV.b v::List.drop 27 (rI .u32 m.cl++(zJ d++[AV.w m.told,AV.b m.over]))))=_;rw[e];rfl
def qAo(c a b:Int):Int:=if c=52 then a / b else if c=100\/c=116 then qdW (decide (c=100)) (b % 32).toNat a else opM c a b
def qGH(P:Program)(g:Nat):Prop:=∀c:Int,c3L.contains c=true->∃(b:Int) (k:Nat) (o:Option Nat),qa P g [.h c] (.agg (qaT (b,some k,o)))/\∀x y:Int,u32 x->u32 y->(za c=52->0<y)->qa P k [.w x,.w y] (.w (qAo (za c) x y))
def qrj:∀c:Int,c3L.contains c=true->(za c=52↔c=52\/c=60)/\(za c=100↔c=100\/c=108)/\(za c=116↔c=116\/c=124)/\(qa6 c=true↔c≠132/\8<=c % 16):=by
 intro c h;have key:∀c ∈ c3L,(za c=52↔c=52\/c=60)/\(za c=100↔c=100\/c=108)/\(za c=116↔c=116\/c=124)/\(qa6 c=true↔c≠132/\8<=c % 16):=by decide
 simp_all
def qcD(a b c:Nat):IFn:=⟨[],sq [.r [.q 3 (.box (.t 1))],.r [.n 5 0,.v 6 4 3,.l 7 a [.t 5,.t 6],.n 4 7],.blk 0 (sq [.r [.f 22 0 3,.d 23 22,.q 24 (.bin .eql (.t 23) (.c (.h 52))),.n 25 24,.y 26 4 25,.g 27 (.bin .eql (.t 26) (.c (.w 0))) 25 true,.p 28 25 27,.n 21 28],.cond (.t 21) (.r [.l 29 b [.k 44]]) (sq [.r [.f 31 0 3,.d 32 31,.q 33 (.bin .eql (.t 32) (.c (.h 60))),.n 34 33,.y 35 4 34,.g 36 (.bin .eql (.t 35) (.c (.w 0))) 34 true,.p 37 34 36,.n 30 37],.cond (.t 30) (.r [.n 38 0,.q 39 (.nilChk (.t 38)),.f 40 28 39,.u (.store 1 (.t 40) .T)]) (sq [.r [.f 42 0 3,.d 43 42,.q 44 (.bin .eql (.t 43) (.c (.h 100))),.n 45 44,.h 46 0 3 45 false,.j 47 46 45 false,.g 48 (.bin .eql (.t 47) (.c (.h 116))) 45 false,.o 49 45 48,.n 50 49,.y 51 4 50,.g 52 (.bin .gtr (.t 51) (.c (.w 31))) 50 true,.p 53 50 52,.n 41 53],.cond (.t 41) (.r [.l 54 b [.k 45]]) (.reg true [.n 8 0,.f 9 0 3,.d 10 9,.l 11 c [.t 10],.q 12 (.fld 1 none (.t 11)),.n 13 0,.q 14 (.nilChk (.t 13)),.f 15 0 14,.d 16 15,.n 17 4,⟨(some 18),.callV (.t 12) [.t 16,.t 17],none⟩,.q 19 (.nilChk (.t 8)),.f 20 0 19,.u (.store 1 (.t 20) (.t 18))])])])])]⟩
def qH4{g1 g2 g3:Nat}(hc:qc P f (qcD g1 g2 g3)=true)(h1:qGN P g1)(h3:qGH P g3)(m:Mac)(hm:MacOk m)(d:GData)(i:Ins)(hi:InsOk i)(hcls:qn i.code=3)(hz:(nuM m i).2=0) :
  Upd P f [.ptr 0 0,.agg (qC i)] [.v (cVm m d)] (.tup []) [.v (cVm (nuM m i).1 d)]:=by
 refine Upd.mk hc (by simp[jl,bnd,qC]) (by simp) ?_;have hl:=qkX (d:=d) hm.len;have g0:(cVm m d)[0]?=some (.w m.a):=rfl;have s0:∀v:Int,AV.w v::List.drop 1 (cVm m d)=cVm { m with a:=v } d:=λ_=>rfl
 have so:=qoX (d:=d) hm.len true
 have hmem:c3L.contains i.code=true:=by
  unfold qn at hcls;cases hcm:qag i.code<;>grind[qdu,qxE]
 obtain⟨e52,e100,e116,eX⟩:=qrj i.code hmem
 have hB:u32 (qd9 m i):=by
  unfold qd9;split
  .exact hm.x
  .exact⟨hi.k0,hi.k1⟩
 obtain⟨b,k,o,hby,hres⟩:=h3 i.code hmem;have hsec:=h1 m d hm.len i;have hr:=hres m.a (qd9 m i) hm.a hB;have hb0:=hB.1;unfold nuM at hz ⊢;simp only[qaT]at hby;simp only[qcD,qC,vI,simprocAttr]at hsec ⊢;generalize qd9 m i=y at hz hsec hr hb0 ⊢;simp +decide only[↓vS,vT,simprocAttr];refine hsec.sc (vs:=[.ptr 0 0,.agg [.h i.code,.y i.jt,.y i.jf,.w i.k]]) [0] (Lent.of (by decide) ?_) ?_
 .simp[vL,vw,qv qu,qg qu]
 by_cases c60:i.code=60/\y=0
 .have b52:=e52.2 (.inr c60.1);have hX:qa6 i.code=true:=by simp_all
  rw[if_pos b52,if_neg (by omega),if_pos hX];simp +decide only[↓vS,vT,simprocAttr,c60.1,c60.2,hl,so];intro _;refine⟨[0],?_⟩;simp[vw,qe,qu]
 have h52:i.code=52->y≠0:=by grind
 have h60:i.code=60->y≠0:=by omega
 have hsh:(i.code=100\/i.code=116)->y<=31:=λhs=>by
  have hX:qa6 i.code=false:=by
   cases h:qa6 i.code with
   | false=>rfl
   | true =>
    have:=(eX.1 h).2;rcases hs with hs|hs<;>(rw[hs]at this;omega)
  have hb:za i.code=100\/za i.code=116:=by grind
  have hn:¬za i.code=52:=by rcases hb with hb|hb<;>(rw[hb];decide)
  rw[if_neg hn,if_pos hb]at hz
  grind
 have hnu:(if za i.code=52 then(if 0<y then(({ m with a:=m.a / y }:Mac),(0:Int))else if qa6 i.code=true then({ m with over:=true },0)else(m,44))else if za i.code=100\/za i.code=116 then(if qa6 i.code=false/\31<y then(m,45)else({ m with a:=qdW (decide (za i.code=100)) (y % 32).toNat m.a },0))else({ m with a:=opM (za i.code) m.a y },0)).1={ m with a:=qAo (za i.code) m.a y }:=by
  unfold qAo
  grind
 rw[hnu]
 have hr:=hr λb52=>by
  grind
 generalize qAo (za i.code) m.a y=R at hr ⊢;clear hz hnu hres
 by_cases d52:i.code=52
 .have hy0:=h52 d52;simp +decide only[↓vS,vT,simprocAttr,d52,hy0];refine zg ?_;simp +decide only[↓vS,vT,simprocAttr];refine hby.pc ?_;simp +decide only[↓vS,vT,simprocAttr,fnO,g0];refine hr.pc ?_;simp only[Hp.up,Hp.down];simp +decide only[↓vS,vT,simprocAttr,hl,s0];intro _;refine⟨[0],?_⟩;simp[vw,qe,qu]
 by_cases d60:i.code=60
 .have hy0:=h60 d60;simp +decide only[↓vS,vT,simprocAttr,d60,hy0];refine zg ?_;simp +decide only[↓vS,vT,simprocAttr];refine hby.pc ?_;simp +decide only[↓vS,vT,simprocAttr,fnO,g0];refine hr.pc ?_;simp only[Hp.up,Hp.down];simp +decide only[↓vS,vT,simprocAttr,hl,s0];intro _;refine⟨[0],?_⟩;simp[vw,qe,qu]
 by_cases d100:i.code=100
 .have hy1:=hsh (.inl d100);have hy0:¬31<y:=by omega
  simp +decide only[↓vS,vT,simprocAttr,d100,hy0];refine zg ?_;simp +decide only[↓vS,vT,simprocAttr];refine hby.pc ?_;simp +decide only[↓vS,vT,simprocAttr,fnO,g0];refine hr.pc ?_;simp only[Hp.up,Hp.down];simp +decide only[↓vS,vT,simprocAttr,hl,s0];intro _;refine⟨[0],?_⟩;simp[vw,qe,qu]
 by_cases d116:i.code=116
 .have hy1:=hsh (.inr d116);have hy0:¬31<y:=by omega
  simp +decide only[↓vS,vT,simprocAttr,d116,hy0];refine zg ?_;simp +decide only[↓vS,vT,simprocAttr];refine hby.pc ?_;simp +decide only[↓vS,vT,simprocAttr,fnO,g0];refine hr.pc ?_;simp only[Hp.up,Hp.down];simp +decide only[↓vS,vT,simprocAttr,hl,s0];intro _;refine⟨[0],?_⟩;simp[vw,qe,qu]
 simp +decide only[↓vS,vT,simprocAttr,d52,d60,d100,d116];refine zg ?_;simp +decide only[↓vS,vT,simprocAttr];refine hby.pc ?_;simp +decide only[↓vS,vT,simprocAttr,fnO,g0];refine hr.pc ?_;simp only[Hp.up,Hp.down];simp +decide only[↓vS,vT,simprocAttr,hl,s0];intro _;refine⟨[0],?_⟩;simp[vw,qe,qu]
structure Prs (P:Program) (g:Nat->Nat):Prop where
 p1:∀a b:Int,qa P (g 1) [.w a,.w b] (.w (opM 4 a b))
 p2:∀a b:Int,qa P (g 2) [.w a,.w b] (.w (opM 20 a b))
 p3:∀a b:Int,qa P (g 3) [.w a,.w b] (.w (opM 36 a b))
 p4:∀a b:Int,0<=a->a<=4294967295->0<b->qa P (g 4) [.w a,.w b] (.w (a / b))
 p5:∀a b:Int,qa P (g 5) [.w a,.w b] (.w (opM 68 a b))
 p6:∀a b:Int,qa P (g 6) [.w a,.w b] (.w (opM 84 a b))
 p7:∀a b:Int,0<=a->a<=4294967295->0<=b->qa P (g 7) [.w a,.w b] (.w (qdW true (b % 32).toNat a))
 p8:∀a b:Int,0<=a->a<=4294967295->0<=b->qa P (g 8) [.w a,.w b] (.w (qdW false (b % 32).toNat a))
 p9:∀a b:Int,qa P (g 9) [.w a,.w b] (.w (opM 164 a b))
 p10:∀a b:Int,qa P (g 10) [.w a,.w b] (.w (opM 132 a b))
 p11:∀a b:Int,qa P (g 11) [.w a,.w b] (.b (qfg 21 a b))
 p12:∀a b:Int,qa P (g 12) [.w a,.w b] (.b (qfg 37 a b))
 p13:∀a b:Int,qa P (g 13) [.w a,.w b] (.b (qfg 53 a b))
 p14:∀a b:Int,qa P (g 14) [.w a,.w b] (.b (qfg 69 a b))
def qHL(g:Nat->Nat):List (Int×Option Nat×Option Nat):=qEp (g 1) (g 2) (g 3) (g 4) (g 5) (g 6) (g 7) (g 8) (g 9) (g 10) (g 11) (g 12) (g 13) (g 14)
def qoO:∀c:Int,c3L.contains c=true\/(c4L.contains c=true/\c≠5)->qln c=za c:=by
 have k3:∀c ∈ c3L,qln c=za c:=by decide
 have k4:∀c ∈ c4L,c≠5->qln c=za c:=by decide
 grind
def qB9:∀c:Int,c3L.contains c=true->za c=4\/za c=20\/za c=36\/za c=52\/za c=68\/za c=84\/za c=100\/za c=116\/za c=164\/za c=132:=by
 have k:∀c ∈ c3L,za c=4\/za c=20\/za c=36\/za c=52\/za c=68\/za c=84\/za c=100\/za c=116\/za c=164\/za c=132:=by decide
 simp_all
def qCa:∀c:Int,c4L.contains c=true->c≠5->za c=21\/za c=37\/za c=53\/za c=69:=by
 have k:∀c ∈ c4L,c≠5->za c=21\/za c=37\/za c=53\/za c=69:=by decide
 simp_all
def byN{g:Nat->Nat}(hp:Prs P g)(hb:∀(c:Int) (r:Int×Option Nat×Option Nat),((qHL g).find? λx=>decide (x.1=qln c))=some r->qa P f [.h c] (.agg (qaT r))):qGH P f:=by
 intro c hc;have hbv:=qoO c (.inl hc);have hb:=hb c;rw[hbv]at hb;have n1:∀{x y:Int},u32 x->u32 y->0<=x/\x<=4294967295/\0<=y:=λh h'=>⟨h.1,h.2,h'.1⟩
 rcases qB9 c hc with e|e|e|e|e|e|e|e|e|e<;>rw[e]at hb ⊢
 .exact⟨4,g 1,none,hb _ rfl,λx y _ _ _=>hp.p1 x y⟩
 .exact⟨20,g 2,none,hb _ rfl,λx y _ _ _=>hp.p2 x y⟩
 .exact⟨36,g 3,none,hb _ rfl,λx y _ _ _=>hp.p3 x y⟩
 .exact⟨52,g 4,none,hb _ rfl,λx y hx _ h0=>hp.p4 x y hx.1 hx.2 (h0 rfl)⟩
 .exact⟨68,g 5,none,hb _ rfl,λx y _ _ _=>hp.p5 x y⟩
 .exact⟨84,g 6,none,hb _ rfl,λx y _ _ _=>hp.p6 x y⟩
 .exact⟨100,g 7,none,hb _ rfl,λx y hx hy _=>hp.p7 x y hx.1 hx.2 hy.1⟩
 .exact⟨116,g 8,none,hb _ rfl,λx y hx hy _=>hp.p8 x y hx.1 hx.2 hy.1⟩
 .exact⟨164,g 9,none,hb _ rfl,λx y _ _ _=>hp.p9 x y⟩
 .exact⟨132,g 10,none,hb _ rfl,λx y _ _ _=>hp.p10 x y⟩
def byJ{g:Nat->Nat}(hp:Prs P g)(hb:∀(c:Int) (r:Int×Option Nat×Option Nat),((qHL g).find? λx=>decide (x.1=qln c))=some r->qa P f [.h c] (.agg (qaT r))):qGG P f:=by
 intro c hc c5;have hbv:=qoO c (.inr ⟨hc,c5⟩);have hb:=hb c;rw[hbv]at hb;rcases qCa c hc c5 with e|e|e|e<;>rw[e]at hb ⊢
 .exact⟨21,none,g 11,hb _ rfl,hp.p11⟩
 .exact⟨37,none,g 12,hb _ rfl,hp.p12⟩
 .exact⟨53,none,g 13,hb _ rfl,hp.p13⟩
 .exact⟨69,none,g 14,hb _ rfl,hp.p14⟩
def qoW{m:Mac}{d:GData}{k:Nat}{c:Int}(h:m.cl[k]?=some c):(cVm m d)[2+k]?=some (.w c):=by
 rw[show 2+k=k+2 from by omega]
 show(rI .u32 m.cl++(zJ d++[AV.w m.told,AV.b m.over]))[k]?=_;rw[List.getElem?_append_left (by rw[jS];grind),qaZ,h];rfl
def quO{m:Mac}{d:GData}(h:m.cl.length=16):List.take 9 (List.drop 18 (cVm m d))=zJ d:=by
 show List.take 9 (List.drop 16 (rI .u32 m.cl++(zJ d++[AV.w m.told,AV.b m.over])))=_;have hl:(rI .u32 m.cl).length=16:=by rw[jS,h]
 rw[List.drop_append,hl,List.drop_eq_nil_of_le (by rw[hl];omega)];rfl
def qdT(a:Nat):IFn:=⟨[.tmp 4],sq [.r [.m 4 (.c (.nilp))],sq [.r [.n 5 1,.q 6 (.bin .geq (.t 5) (.c (.w 16)))],.cond (.t 6) (.r [.l 7 a [.k 43]]) (.skip)],.r [.n 8 0,.n 9 1,.q 10 (.nilChk (.t 8)),.f 11 2 10,.q 12 (.iAddrA 16 1 (.t 11) (.t 9)),.n 4 12],.ret]⟩
def qJy{g:Nat}(hc:qc P f (qdT g)=true)(m:Mac)(d:GData)(n:Nat)(hn:n<16):Upd P f [.ptr 0 0,.w (n:Int)] [.v (cVm m d)] (.ptr 0 (2+n)) [.v (cVm m d)]:=by
 refine Upd.mk hc (by simp[jl,bnd]) (by simp) ?_;have hn':¬(16:Int)<=(n:Int):=by omega
 simp only[qdT,vI,simprocAttr];simp +decide only[↓vS,vT,simprocAttr,hn',hn,zzU];intro _;refine⟨[0],?_⟩;simp[vw,qe,qu]
def quJ(P:Program)(g:Nat):Prop:=∀(m:Mac) (d:GData) (n:Nat),n<16->Upd P g [.ptr 0 0,.w (n:Int)] [.v (cVm m d)] (.ptr 0 (2+n)) [.v (cVm m d)]
def c1L:List Int:=[32,128,0,96,129,1,97]
theorem qE5:∀x ∈ qaO,x.2.2=1->c1L.contains x.1=true:=by decide
def qdV(a b c:Nat):IFn:=⟨[],sq [.r [.q 3 (.box (.t 1))],.r [.f 6 0 3,.d 7 6],.blk 0 (sq [.r [.q 9 (.bin .eql (.t 7) (.c (.h 32))),.n 8 9],.cond (.t 8) (sq [.reg true [.n 11 0,.q 12 (.nilChk (.t 11)),.f 13 18 12,.v 14 9 13,.f 15 3 3,.d 16 15,.l 17 a [.t 14,.t 16],.n 10 17,.x 18 10 0,.x 19 10 1,.n 4 18,.n 5 19],sq [.r [.n 20 5,.w 21 .neq 20 0],.cond (.t 21) (.r [.n 22 5,.l 23 b [.t 22]]) (.skip)],.r [.n 24 0,.n 25 4,.q 26 (.nilChk (.t 24)),.f 27 0 26,.u (.store 1 (.t 27) (.t 25))]]) (sq [.r [.q 29 (.bin .eql (.t 7) (.c (.h 128))),.n 28 29],.cond (.t 28) (.r [.n 30 0,.q 31 (.nilChk (.t 30)),.f 32 0 31,.u (.store 1 (.t 32) (.c (.w 64)))]) (sq [.r [.q 34 (.bin .eql (.t 7) (.c (.h 129))),.n 33 34],.cond (.t 33) (.r [.n 35 0,.q 36 (.nilChk (.t 35)),.f 37 1 36,.u (.store 1 (.t 37) (.c (.w 64)))]) (sq [.r [.q 39 (.bin .eql (.t 7) (.c (.h 0))),.n 38 39],.cond (.t 38) (.r [.n 40 0,.f 41 3 3,.d 42 41,.q 43 (.nilChk (.t 40)),.f 44 0 43,.u (.store 1 (.t 44) (.t 42))]) (sq [.r [.q 46 (.bin .eql (.t 7) (.c (.h 1))),.n 45 46],.cond (.t 45) (.r [.n 47 0,.f 48 3 3,.d 49 48,.q 50 (.nilChk (.t 47)),.f 51 1 50,.u (.store 1 (.t 51) (.t 49))]) (sq [.r [.q 53 (.bin .eql (.t 7) (.c (.h 96))),.n 52 53],.cond (.t 52) (.r [.n 54 0,.n 55 0,.f 56 3 3,.d 57 56,.l 58 c [.t 55,.t 57],.q 59 (.nilChk (.t 58)),.d 60 59,.q 61 (.nilChk (.t 54)),.f 62 0 61,.u (.store 1 (.t 62) (.t 60))]) (sq [.r [.q 64 (.bin .eql (.t 7) (.c (.h 97))),.n 63 64],.cond (.t 63) (.r [.n 65 0,.n 66 0,.f 67 3 3,.d 68 67,.l 69 c [.t 66,.t 68],.q 70 (.nilChk (.t 69)),.d 71 70,.q 72 (.nilChk (.t 65)),.f 73 1 72,.u (.store 1 (.t 73) (.t 71))]) (.skip)])])])])])])])]⟩
def qJA{g1 g2 g3:Nat}(hc:qc P f (qdV g1 g2 g3)=true)(h1:quS P g1)(h3:quJ P g3)(m:Mac)(hm:MacOk m)(d:GData)(hd:DatOk d)(i:Ins)(hi:InsOk i)(hcls:qn i.code=1)(hz:(qfn m i d).2=0) :
  Upd P f [.ptr 0 0,.agg (qC i)] [.v (cVm m d)] (.tup []) [.v (cVm (qfn m i d).1 d)]:=by
 refine Upd.mk hc (by simp[jl,bnd,qC]) (by simp) ?_;have hl:=qkX (d:=d) hm.len;have g0:(cVm m d)[0]?=some (.w m.a):=rfl;have s0:∀v:Int,AV.w v::List.drop 1 (cVm m d)=cVm { m with a:=v } d:=λ_=>rfl
 have s1:∀v:Int,List.take 1 (cVm m d)++(AV.w v::List.drop 2 (cVm m d))=cVm { m with x:=v } d:=λ_=>rfl
 have hdt:=quO (d:=d) hm.len
 have hmem:c1L.contains i.code=true:=by
  unfold qn at hcls;cases hcm:qag i.code<;>grind[qdu,qE5]
 simp only[c1L,List.contains_iff_mem,List.mem_cons,List.not_mem_nil,or_false]at hmem;have hw:=h1 d hd i.k hi.k0 hi.k1;unfold qnB at hw;unfold qfn qiz at hz ⊢;have k0:=hi.k0;simp only[qdV,qC,vI,simprocAttr];rcases hmem with e|e|e|e|e|e|e
 .by_cases hb:i.k % 4≠0\/64<=i.k
  .simp_all
  .rw[if_neg hb]at hw;simp +decide only[↓vS,vT,simprocAttr,e];refine zg ?_;simp +decide only[↓vS,vT,simprocAttr,hl,hdt];refine hw.pc ?_;simp +decide only[↓vS,vT,simprocAttr,hl,s0];intro _;refine⟨[0],?_⟩;simp only[e,if_neg hb];simp[vw,qe,qu]
 .simp +decide only[↓vS,vT,simprocAttr,e,hl,s0];intro _;refine⟨[0],?_⟩;simp[vw,qe,qu,e]
 .simp +decide only[↓vS,vT,simprocAttr,e,hl,s0];intro _;refine⟨[0],?_⟩;simp[vw,qe,qu,e]
 rotate_left
 .simp +decide only[↓vS,vT,simprocAttr,e,hl,s1];intro _;refine⟨[0],?_⟩;simp[vw,qe,qu,e]
 .simp +decide only[↓vS,vT,simprocAttr,e,hl,s1];intro _;refine⟨[0],?_⟩;simp[vw,qe,qu,e]
 .have hb:¬15<i.k:=by
   grind
  obtain⟨n,hn⟩:∃n:Nat,i.k=(n:Int):=⟨i.k.toNat,by omega⟩
  have hk16:n<16:=by omega
  obtain⟨c,hcx⟩:∃c,m.cl[n]?=some c:=⟨_,zzE (by rw[hm.len];omega)⟩;have gc:=qoW (m:=m) (d:=d) hcx;have htn:i.k.toNat=n:=by omega
  simp +decide only[↓vS,vT,simprocAttr,e,hn];refine(h3 m d n hk16).sc (vs:=[.ptr 0 0,.w (n:Int)]) [0] (Lent.of (by decide) ?_) ?_
  .simp[vL,vw,qv qu,qg qu]
  simp only[vK,simprocAttr,qg qu];simp +decide only[↓vS,vT,simprocAttr,gc,hl,s1];intro _;refine⟨[0],?_⟩;have hb':¬(15:Int)<(n:Int):=by omega
  simp[vw,qe,qu,e,hn,hb',hcx]
 .have hb:¬15<i.k:=by
   grind
  obtain⟨n,hn⟩:∃n:Nat,i.k=(n:Int):=⟨i.k.toNat,by omega⟩
  have hk16:n<16:=by omega
  obtain⟨c,hcx⟩:∃c,m.cl[n]?=some c:=⟨_,zzE (by rw[hm.len];omega)⟩;have gc:=qoW (m:=m) (d:=d) hcx;have htn:i.k.toNat=n:=by omega
  simp +decide only[↓vS,vT,simprocAttr,e,hn];refine(h3 m d n hk16).sc (vs:=[.ptr 0 0,.w (n:Int)]) [0] (Lent.of (by decide) ?_) ?_
  .simp[vL,vw,qv qu,qg qu]
  simp only[vK,simprocAttr,qg qu];simp +decide only[↓vS,vT,simprocAttr,gc,hl,s0];intro _;refine⟨[0],?_⟩;have hb':¬(15:Int)<(n:Int):=by omega
  simp[vw,qe,qu,e,hn,hb',hcx]
def quQ{m:Mac}{d:GData}{k:Nat}(h:k<m.cl.length)(v:Int):List.take (2+k) (cVm m d)++(AV.w v::List.drop (2+k+1) (cVm m d))=cVm { m with cl:=m.cl.set k v } d:=by
 obtain⟨R,hR⟩:∃R,R=zJ d++[AV.w m.told,AV.b m.over]:=⟨_,rfl⟩
 have e:List.take k (rI .u32 m.cl++R)++(AV.w v::List.drop (k+1) (rI .u32 m.cl++R))=rI .u32 (m.cl.set k v)++R:=by
  rw[List.take_append_of_le_length (by rw[jS];omega),List.drop_append_of_le_length (by rw[jS];omega),<- qmb h v,List.append_assoc];rfl
 rw[show 2+k=k+2 from by omega]
 subst hR;show AV.w m.a::AV.w m.x::(List.take k (rI .u32 m.cl++(zJ d++[AV.w m.told,AV.b m.over]))++(AV.w v::List.drop (k+1) (rI .u32 m.cl++(zJ d++[AV.w m.told,AV.b m.over]))))=_;rw[e];rfl
def qoY{m:Mac}{d:GData}(h:m.cl.length=16)(v:Int):List.take 27 (cVm m d)++(AV.w v::List.drop 28 (cVm m d))=cVm { m with told:=v } d:=by
 have e:List.take 25 (rI .u32 m.cl++(zJ d++[AV.w m.told,AV.b m.over]))++(AV.w v::List.drop 26 (rI .u32 m.cl++(zJ d++[AV.w m.told,AV.b m.over])))=rI .u32 m.cl++(zJ d++[AV.w v,AV.b m.over]):=by
  have hl:(rI .u32 m.cl).length=16:=by rw[jS,h]
  rw[List.take_append,hl,List.take_of_length_le (by rw[hl];decide),List.drop_append,hl,List.drop_eq_nil_of_le (by rw[hl];decide),List.append_assoc];rfl
 show AV.w m.a::AV.w m.x::(List.take 25 (rI .u32 m.cl++(zJ d++[AV.w m.told,AV.b m.over]))++(AV.w v::List.drop 26 (rI .u32 m.cl++(zJ d++[AV.w m.told,AV.b m.over]))))=_;rw[e];rfl
def qAJ:∀x ∈ qaO,(x.2.2=2->x.1=2\/x.1=3)/\(x.2.2=5->x.1=6\/x.1=22)/\(x.2.2=6->x.1=7\/x.1=135)/\1<=x.2.2/\x.2.2<=6:=by decide
def qCo(P:Program)(g:Nat):Prop:=∀(m:Mac),MacOk m->∀d:GData,DatOk d->∀i:Ins,InsOk i->qn i.code=1->(qfn m i d).2=0->Upd P g [.ptr 0 0,.agg (qC i)] [.v (cVm m d)] (.tup []) [.v (cVm (qfn m i d).1 d)]
def qGK(P:Program)(g:Nat):Prop:=∀(m:Mac),MacOk m->∀(d:GData) (i:Ins),InsOk i->qn i.code=3->(nuM m i).2=0->Upd P g [.ptr 0 0,.agg (qC i)] [.v (cVm m d)] (.tup []) [.v (cVm (nuM m i).1 d)]
def qCm(P:Program)(g:Nat):Prop:=∀(m:Mac) (d:GData),m.cl.length=16->∀i:Ins,InsOk i->qn i.code=4->Upd P g [.ptr 0 0,.agg (qC i)] [.v (cVm m d)] (.j (qkx m i)) [.v (cVm m d)]
def qfl(a b c d e g:Nat):IFn:=⟨[.tmp 4],sq [.r [.q 3 (.box (.t 1)),.m 4 (.k 0)],sq [.r [.f 6 0 3,.d 7 6,.l 8 a [.t 7]],.blk 0 (sq [.r [.q 11 (.bin .eql (.t 8) (.c (.y 1))),.n 10 11],.cond (.t 10) (.r [.n 12 0,.v 13 4 3,.l 14 b [.t 12,.t 13]]) (sq [.r [.q 16 (.bin .eql (.t 8) (.c (.y 2))),.n 15 16],.cond (.t 15) (sq [.r [.n 17 0,.q 18 (.nilChk (.t 17)),.f 19 0 18,.d 20 19,.n 5 20],sq [.r [.f 21 0 3,.d 22 21,.q 23 (.bin .eql (.t 22) (.c (.h 3)))],.cond (.t 23) (.r [.n 24 0,.q 25 (.nilChk (.t 24)),.f 26 1 25,.d 27 26,.n 5 27]) (.skip)],.r [.n 28 0,.f 29 3 3,.d 30 29,.l 31 c [.t 28,.t 30],.n 32 5,.q 33 (.nilChk (.t 31)),.u (.store 1 (.t 33) (.t 32))]]) (sq [.r [.q 35 (.bin .eql (.t 8) (.c (.y 3))),.n 34 35],.cond (.t 34) (.r [.n 36 0,.v 37 4 3,.l 38 d [.t 36,.t 37]]) (sq [.r [.q 40 (.bin .eql (.t 8) (.c (.y 4))),.n 39 40],.cond (.t 39) (sq [.r [.n 41 0,.v 42 4 3,.l 43 e [.t 41,.t 42],.n 4 43],.ret]) (sq [.r [.q 45 (.bin .eql (.t 8) (.c (.y 5))),.n 44 45],.cond (.t 44) (sq [.r [.n 46 0,.n 47 0,.f 48 3 3,.d 49 48,.q 50 (.nilChk (.t 46)),.f 51 27 50,.u (.store 1 (.t 51) (.t 49)),.q 52 (.nilChk (.t 47)),.f 53 28 52,.u (.store 1 (.t 53) .T)],.r [.f 54 0 3,.d 55 54,.q 56 (.bin .eql (.t 55) (.c (.h 22)))],.cond (.t 56) (.r [.n 57 0,.n 58 0,.q 59 (.nilChk (.t 58)),.f 60 0 59,.d 61 60,.q 62 (.nilChk (.t 57)),.f 63 27 62,.u (.store 1 (.t 63) (.t 61))]) (.skip)]) (sq [.r [.q 65 (.bin .eql (.t 8) (.c (.y 6))),.n 64 65],.cond (.t 64) (sq [.r [.f 66 0 3,.d 67 66,.q 68 (.bin .eql (.t 67) (.c (.h 7)))],.cond (.t 68) (.r [.n 69 0,.n 70 0,.q 71 (.nilChk (.t 70)),.f 72 0 71,.d 73 72,.q 74 (.nilChk (.t 69)),.f 75 1 74,.u (.store 1 (.t 75) (.t 73))]) (.r [.n 76 0,.n 77 0,.q 78 (.nilChk (.t 77)),.f 79 1 78,.d 80 79,.q 81 (.nilChk (.t 76)),.f 82 0 81,.u (.store 1 (.t 82) (.t 80))])]) (.r [.l 9 g [.k 40]])])])])])])])],.r [.m 4 (.k 0)],.ret]⟩
def qJ9{g1 g2 g3 g4 g5 g6:Nat}(hc:qc P f (qfl g1 g2 g3 g4 g5 g6)=true)(h1:cOf P g1)(h2:qCo P g2)(h3:quJ P g3)(h4:qGK P g4)(h5:qCm P g5)(m:Mac)(hm:MacOk m)(d:GData)(hd:DatOk d)(i:Ins)(hi:InsOk i)(hz:(doR m i d).2.2=0) :
  Upd P f [.ptr 0 0,.agg (qC i)] [.v (cVm m d)] (.j (doR m i d).2.1) [.v (cVm (doR m i d).1 d)]:=by
 refine Upd.mk hc (by simp[jl,bnd,qC]) (by simp) ?_;have hl:=qkX (d:=d) hm.len;have g0:(cVm m d)[0]?=some (.w m.a):=rfl;have g1':(cVm m d)[1]?=some (.w m.x):=rfl;have s0:∀v:Int,AV.w v::List.drop 1 (cVm m d)=cVm { m with a:=v } d:=λ_=>rfl
 have s1:∀v:Int,List.take 1 (cVm m d)++(AV.w v::List.drop 2 (cVm m d))=cVm { m with x:=v } d:=λ_=>rfl
 have hof:=h1 i.code;unfold doR at hz ⊢;have hkn:¬xE i.code=false:=by grind
 rw[if_neg hkn]at hz ⊢
 obtain⟨x,hcm⟩:∃x,qag i.code=some x:=by
  unfold xE at hkn;cases h:qag i.code<;>simp_all
 obtain⟨hxm,hxc⟩:=qdu hcm;have hcl:qn i.code=x.2.2:=by unfold qn;rw[hcm];rfl
 obtain⟨t2,t5,t6,t1a,t1b⟩:=qAJ x hxm;rw[<- hcl,hxc]at t2 t5 t6;rw[<- hcl]at t1a t1b;have hcase:qn i.code=1\/qn i.code=2\/qn i.code=3\/qn i.code=4\/qn i.code=5\/qn i.code=6:=by omega
 simp only[qfl,qC,vI,simprocAttr];rcases hcase with c|c|c|c|c|c
 .rw[if_pos (.inl c)]at hz ⊢;have hu:=h2 m hm d hd i hi c hz;simp only[qC]at hu;simp +decide only[↓vS,vT,simprocAttr];refine hof.sc ?_;simp +decide only[↓vS,vT,simprocAttr,c];refine hu.sc (vs:=[.ptr 0 0,.agg [.h i.code,.y i.jt,.y i.jf,.w i.k]]) [0] (Lent.of (by decide) ?_) ?_
  .simp[vL,vw,qv qu,qg qu]
  simp only[vK,simprocAttr,qg qu];simp +decide only[↓vS,vT,simprocAttr];intro _;refine⟨[0],?_⟩;simp[vw,qe,qu]
 .rw[if_pos (.inr (.inl c))]at hz ⊢;unfold qfn qiz at hz ⊢
  have hb:¬15<i.k:=by
   grind
  have k0:=hi.k0;obtain⟨n,hn⟩:∃n:Nat,i.k=(n:Int):=⟨i.k.toNat,by omega⟩
  have hk16:n<16:=by omega
  have sc:=λv=>quQ (m:=m) (d:=d) (k:=n) (by rw[hm.len];omega) v
  have hle:2+n+1<=29:=by omega
  have hb':¬(15:Int)<(n:Int):=by omega
  rcases t2 c with e|e
  .simp +decide only[↓vS,vT,simprocAttr];refine hof.sc ?_;simp +decide only[↓vS,vT,simprocAttr,c,e,hn,hl,g0,g1'];refine(h3 m d n hk16).sc (vs:=[.ptr 0 0,.w (n:Int)]) [0] (Lent.of (by decide) ?_) ?_
   .simp[vL,vw,qv qu,qg qu]
   simp only[vK,simprocAttr,qg qu];simp +decide only[↓vS,vT,simprocAttr,hl,sc,hle];intro _;refine⟨[0],?_⟩;simp[vw,qe,qu,e,hn,hb']
  .simp +decide only[↓vS,vT,simprocAttr];refine hof.sc ?_;simp +decide only[↓vS,vT,simprocAttr,c,e,hn,hl,g0,g1'];refine(h3 m d n hk16).sc (vs:=[.ptr 0 0,.w (n:Int)]) [0] (Lent.of (by decide) ?_) ?_
   .simp[vL,vw,qv qu,qg qu]
   simp only[vK,simprocAttr,qg qu];simp +decide only[↓vS,vT,simprocAttr,hl,sc,hle];intro _;refine⟨[0],?_⟩;simp[vw,qe,qu,e,hn,hb']
 .rw[if_neg (by omega),if_pos c]at hz ⊢;have hu:=h4 m hm d i hi c hz;simp only[qC]at hu;simp +decide only[↓vS,vT,simprocAttr];refine hof.sc ?_;simp +decide only[↓vS,vT,simprocAttr,c];refine hu.sc (vs:=[.ptr 0 0,.agg [.h i.code,.y i.jt,.y i.jf,.w i.k]]) [0] (Lent.of (by decide) ?_) ?_
  .simp[vL,vw,qv qu,qg qu]
  simp only[vK,simprocAttr,qg qu];simp +decide only[↓vS,vT,simprocAttr];intro _;refine⟨[0],?_⟩;simp[vw,qe,qu]
 .rw[if_neg (by omega),if_neg (by omega),if_pos c];have hu:=h5 m d hm.len i hi c;simp only[qC]at hu;simp +decide only[↓vS,vT,simprocAttr];refine hof.sc ?_;simp +decide only[↓vS,vT,simprocAttr,c];refine hu.sc (vs:=[.ptr 0 0,.agg [.h i.code,.y i.jt,.y i.jf,.w i.k]]) [0] (Lent.of (by decide) ?_) ?_
  .simp[vL,vw,qv qu,qg qu]
  simp only[vK,simprocAttr,qg qu];simp +decide only[↓vS,vT,simprocAttr];intro _;refine⟨[0],?_⟩;simp[vw,qe,qu]
 .rw[if_neg (by omega),if_neg (by omega),if_neg (by omega)];have tt:=λv=>qoY (d:=d) hm.len v
  obtain⟨m1,hm1⟩:∃m1,m1={ m with told:=i.k }:=⟨_,rfl⟩;have tk:=tt i.k;rw[<- hm1]at tk;have hl1:(cVm m1 d).length=29:=by grind
  have to:List.take 28 (cVm m1 d)++(AV.b true::List.drop 29 (cVm m1 d))=cVm { m1 with over:=true } d:=qoX (by rw[hm1];exact hm.len) true;obtain⟨m2,hm2⟩:∃m2,m2={ m1 with over:=true }:=⟨_,rfl⟩;rw[<- hm2]at to;have hl2:(cVm m2 d).length=29:=by grind
  have g02:(cVm m2 d)[0]?=some (.w m.a):=by rw[hm2,hm1];rfl
  have t3:List.take 27 (cVm m2 d)++(AV.w m.a::List.drop 28 (cVm m2 d))=cVm { m2 with told:=m.a } d:=qoY (by rw[hm2,hm1];exact hm.len) m.a;rcases t5 c with e|e
  .simp +decide only[↓vS,vT,simprocAttr];refine hof.sc ?_;simp +decide only[↓vS,vT,simprocAttr,c,e,hl,tk,hl1,to];intro _;refine⟨[0],?_⟩;simp[vw,qe,qu,qxF,e,hm2,hm1]
  .simp +decide only[↓vS,vT,simprocAttr];refine hof.sc ?_;simp +decide only[↓vS,vT,simprocAttr,c,e,hl,tk,hl1,to,hl2,g02,t3];intro _;refine⟨[0],?_⟩;simp[vw,qe,qu,qxF,e,hm2,hm1]
 .rw[if_pos (.inr (.inr c))]at hz ⊢;unfold qfn qiz at hz ⊢;rcases t6 c with e|e
  .simp +decide only[↓vS,vT,simprocAttr];refine hof.sc ?_;simp +decide only[↓vS,vT,simprocAttr,c,e,hl,g0,s1];intro _;refine⟨[0],?_⟩;simp[vw,qe,qu,e]
  .simp +decide only[↓vS,vT,simprocAttr];refine hof.sc ?_;simp +decide only[↓vS,vT,simprocAttr,c,e,hl,g1',s0];intro _;refine⟨[0],?_⟩;simp[vw,qe,qu,e]
end Go.Kc
end
section
namespace Go.Kc
def qll{n:Nat}:∀{L:List Ins} {j:Nat},qgr n j L=none->∀(k:Nat) (i:Ins),L[k]?=some i->qea i (n-1-(j+k))=0
 | [],_,_,_,_,h=>by cases h
 | a::L,j,hb,k,i,h=>by
  rw[qfA]at hb
  by_cases h0:qea a (n-1-j)=0
  .rw[if_pos h0]at hb;cases k with
   | zero=>cases h;exact h0
   | succ k =>
    have:=qll hb k i (by simpa using h);rw[show j+(k+1)=j+1+k from by omega];exact this
  simp_all
theorem qlm{n:Nat}:∀{L:List Ins} {j:Nat} {x:Nat×Int},qgr n j L=some x->x.2≠0
 | [],_,_,h=>by cases h
 | a::L,j,x,h=>by
  rw[qfA]at h
  by_cases h0:qea a (n-1-j)=0
  .rw[if_pos h0]at h;exact qlm h
  grind
def qB7{p:List Ins}{u:List Nat}(h:(atU p u).2=0):p.length≠0/\p.length<=4096/\(∀(k:Nat) (i:Ins),p[k]?=some i->qea i (p.length-1-k)=0)/\qn (qgj p)=5/\u=[]:=by
 unfold atU at h
 by_cases hb:p.length=0\/4096<p.length
 .rw[if_pos hb]at h;cases h
 rw[if_neg hb]at h;cases hba:qgr p.length 0 p with
 | some x =>
  rw[hba]at h
  grind[qlm]
 | none =>
  rw[hba]at h;have h:(if qn (qgj p)=5 then(match u with | []=>((0,0):Nat×Int)|a::_=>(a,61))else(p.length-1,46)).2=0:=h
  by_cases h5:qn (qgj p)=5
  .rw[if_pos h5]at h;refine⟨by omega,by omega,λk i hk=>?_,h5,?_⟩
   .have:=qll hba k i hk;rwa [Nat.zero_add]at this
   .cases u with
    | nil=>rfl
    | cons a u=>cases h
  simp_all
def qrS{i:Ins}{n:Nat}(h:qea i n=0):qip i=false/\qhM i=false/\qiT i=false/\qiU i=false/\qiV i=false/\qiW i n=false:=by
 unfold qea at h;revert h;cases qip i<;>cases qhM i<;>cases qiT i<;>cases qiU i<;>cases qiV i<;>cases qiW i n<;>simp
def qsZ{m:Mac}{i:Ins}(hi:InsOk i){d:GData}{n:Nat}(h:qea i n=0):(doR m i d).2.2=0:=by
 obtain⟨b1,b2,b3,b4,b5,_⟩:=qrS h;have hkn:¬xE i.code=false:=by unfold qip at b1;simpa using b1
 unfold doR;rw[if_neg hkn]
 by_cases hA:qn i.code=1\/qn i.code=2\/qn i.code=6
 .rw[if_pos hA];show(qfn m i d).2=0;unfold qfn
  have hc:¬(qiz i=true/\15<i.k):=by
   rintro⟨h1,h2⟩;unfold qiz at h1;have h16:16<=i.k:=by omega
   unfold qiT at b3;have h2c:=qCv (c:=i.code);simp only[zzO,decide_eq_true_eq]at h1
   have:(decide (i.code=96)||decide (i.code=97)||decide (qn i.code=2))=true:=by
    simp only[zzO,decide_eq_true_eq];rw[h2c];rcases h1 with((h1|h1)|h1)|h1
    .exact .inl (.inl h1)
    .exact .inl (.inr h1)
    .exact .inr (.inl h1)
    .exact .inr (.inr h1)
   rw[this,Bool.true_and]at b3;simp[h16]at b3
  rw[if_neg hc]
  by_cases c32:i.code=32
  .rw[if_pos c32]
   have:¬(i.k % 4≠0\/64<=i.k):=by
    intro h';unfold qhM at b2;rw[c32]at b2;rcases h' with h'|h'<;>simp[h']at b2
   rw[if_neg this]
  rw[if_neg c32]
  repeat' (first|rfl|(split))
 rw[if_neg hA]
 by_cases c3:qn i.code=3
 .rw[if_pos c3];show(nuM m i).2=0
  have hmem:c3L.contains i.code=true:=by
   have c3':=c3;unfold qn at c3';cases hcm:qag i.code with
   | none=>rw[hcm]at c3';cases c3'
   | some x =>
    rw[hcm]at c3';obtain⟨q1,q2⟩:=qdu hcm;rw[<- q2];exact qxE x q1 c3'
  obtain⟨e52,e100,e116,eX⟩:=qrj i.code hmem;unfold nuM
  by_cases b52:za i.code=52
  .rw[if_pos b52]
   by_cases hy:0<qd9 m i
   .rw[if_pos hy]
   .rw[if_neg hy]
    by_cases hX:qa6 i.code=true
    .rw[if_pos hX]
    .exfalso
     have hc:i.code=52:=by
      rcases e52.1 b52 with h'|h'
      .exact h'
      .exact by simp_all
     unfold qiU at b4;unfold qd9 at hy;rw[if_neg hX]at hy;have:i.k=0:=by have:=hi.k0;omega
     simp[hc,this]at b4
  .rw[if_neg b52]
   by_cases bs:za i.code=100\/za i.code=116
   .rw[if_pos bs]
    by_cases hq:qa6 i.code=false/\31<qd9 m i
    .exfalso
     obtain⟨hX,h31⟩:=hq
     have hc:i.code=100\/i.code=116:=by
      rcases bs with bs|bs
      .rcases e100.1 bs with h'|h'
       .exact .inl h'
       .have:qa6 i.code=true:=by simp_all
        rw[hX]at this;cases this
      .rcases e116.1 bs with h'|h'
       .exact .inr h'
       .have:qa6 i.code=true:=by simp_all
        rw[hX]at this;cases this
     unfold qd9 at h31;rw[hX,if_neg (by simp)]at h31;unfold qiV at b5;rcases hc with hc|hc<;>simp[hc]at b5<;>omega
    .rw[if_neg hq]
   .rw[if_neg bs]
 rw[if_neg c3]
 grind
def qCH{p:List Ins}(hok:∀i ∈ p,InsOk i)(hall:∀(k:Nat) (i:Ins),p[k]?=some i->qea i (p.length-1-k)=0)(hlast:qn (qgj p)=5){k:Nat}{i:Ins}(h:p[k]?=some i)(m:Mac)(d:GData) :
  (doR m i d).1.over=true\/k+1+(doR m i d).2.1.toNat<p.length:=by
 have hk:k<p.length:=by grind
 have hi:=hok i (by grind);obtain⟨b1,_,_,_,_,b6⟩:=qrS (hall k i h);have hkn:¬xE i.code=false:=by unfold qip at b1;simp_all
 have notlast:qn i.code≠5->k+1<p.length:=by
  intro hc
  by_cases e:k=p.length-1
  .exfalso
   apply hc;have:qgj p=i.code:=by unfold qgj;rw[List.getD_eq_getElem?_getD,<- e,h];rfl
   rw[<- this];omega
  .omega
 unfold doR;rw[if_neg hkn]
 by_cases hA:qn i.code=1\/qn i.code=2\/qn i.code=6
 .rw[if_pos hA]
  grind
 rw[if_neg hA]
 by_cases c3:qn i.code=3
 .rw[if_pos c3]
  simp_all
 rw[if_neg c3]
 by_cases c4:qn i.code=4
 .rw[if_pos c4];right;show k+1+(qkx m i).toNat<p.length;unfold qiW at b6;unfold qkx
  by_cases c5:i.code=5
  .rw[if_pos c5]at b6 ⊢;have hk0:=hi.k0;have:¬((p.length-1-k:Nat):Int)<=i.k:=by simp_all
   omega
  .rw[if_neg c5]at b6 ⊢;rw[c4]at b6;have hh:¬((p.length-1-k:Nat):Int)<=hiM i:=by simp_all
   have h1:=hi.t0;have h2:=hi.f0;unfold hiM at hh;split at hh<;>split<;>omega
 rw[if_neg c4];left;rfl
end Go.Kc
end
section
namespace Go.Kc
variable {P:Program} {f:Nat}
def qIA(P:Program)(g:Nat):Prop:=∀(m:Mac),MacOk m->∀d:GData,DatOk d->∀i:Ins,InsOk i->(doR m i d).2.2=0->Upd P g [.ptr 0 0,.agg (qC i)] [.v (cVm m d)] (.j (doR m i d).2.1) [.v (cVm (doR m i d).1 d)]
structure PrgGood (p:List Ins):Prop where
 len:p.length<=4096
 ne:p.length≠0
 ins:∀i ∈ p,InsOk i
 one:∀(k:Nat) (i:Ins),p[k]?=some i->qea i (p.length-1-k)=0
 last:qn (qgj p)=5
def qjF(p:List Ins)(d:GData):Int×Nat×List Nat×Int:=qp4 p d (p.length+1) qzB 0 46 []
def qxO:u32 0:=⟨by decide,by decide⟩
def qnp{p:List Ins}(hok:∀i ∈ p,InsOk i){d:GData}(hd:DatOk d):∀(n:Nat) (m:Mac) (a:Nat) (bh:Int) (l:List Nat),MacOk m->u32 (qp4 p d n m a bh l).1
 | 0,_,_,_,_,_=>qxO
 | n+1,m,a,bh,l,hm=>by
  rw[qno];cases hp:p[a]? with
  | none=>exact qxO
  | some i =>
   simp only;have h2:=(qvb hm (hok i (zzM hp)) hd).1;split
   .exact qxO
   .split
    .exact h2.told
    .exact qnp hok hd n _ _ _ _ h2
theorem qt1{p:List Ins}(hok:∀i ∈ p,InsOk i){d:GData}(hd:DatOk d):u32 (qjF p d).1:=qnp hok hd _ _ _ _ _ qrL
def Own.mkD{f fd:Nat}{i:IFn}{vs:List AV}{v:AV}{bs:List Blk}(hc:qnR P f fd i=true)(hcl:qt vs=true)(hV:VDf P 0 fd i.body (xk i.res (qud v bs)) (qbl vs 0 .leaf) H0):Own P f vs v bs:=Own.of_SC hcl (SC.mkD hc hV)
def quP{m:Mac}{d:GData}(h:m.cl.length=16):(cVm m d)[28]?=some (.b m.over):=by
 show(rI .u32 m.cl++(zJ d++[AV.w m.told,AV.b m.over]))[26]?=_;rw[List.getElem?_append_right (by rw[jS,h];decide),jS,h];rfl
def quR{m:Mac}{d:GData}(h:m.cl.length=16):(cVm m d)[27]?=some (.w m.told):=by
 show(rI .u32 m.cl++(zJ d++[AV.w m.told,AV.b m.over]))[25]?=_;rw[List.getElem?_append_right (by rw[jS,h];decide),jS,h];rfl
def qm4(a b c d:Nat):IFn:=⟨[.cell 4 1 false,.tmp 5,.tmp 6,.cell 7 1 false],sq [.r [.q 3 (.box (.t 1)),.q 4 (.alloc [.w 0]),.m 5 (.k 0),.m 6 .N,.q 7 (.alloc [.j 0])],.r [.v 11 9 3,.q 12 (.build [.w 0,.w 0,.w 0,.w 0,.w 0,.w 0,.w 0,.w 0,.w 0,.w 0,.w 0,.w 0,.w 0,.w 0,.w 0,.w 0,.w 0,.w 0,.w 0,.w 0,.x 0,.x 0,.x 0,.x 0,.x 0,.x 0,.x 0,.w 0,.b false] [(18,9,(.t 11))]),.q 13 (.box (.t 12)),.n 8 13],.r [.q 14 (.mkF a [] [.t 4,.t 7]),.u (.no)],.r [.m 9 (.k 46)],sq [.r [.m 10 (.k 0)],.blk 0 (.loop (sq [sq [.r [.n 15 8,.q 16 (.nilChk (.t 15)),.f 17 28 16,.d 18 17,.q 19 (.un .not (.t 18))],.cond (.t 19) (.skip) (.exit 0)],.blk 1 (sq [sq [.r [.n 22 10,.n 23 0,.e 24 23,.b 25 .geq 22 24],.cond (.t 25) (.r [.n 26 9,.l 27 b [.t 26]]) (.skip)],.r [.n 28 6,.n 29 10,.q 30 (.buildS 1 [.j 0] [(0,1,(.t 29))]),.q 31 (.app 1 8 true (.t 28) (.t 30)),.n 6 31],.r [.m 9 (.k 46)],sq [.r [.n 32 0,.n 33 10,.i 34 4 32 33,.f 35 0 34,.d 36 35,.l 37 c [.t 36],.q 38 (.bin .eql (.t 37) (.c (.y 4)))],.cond (.t 38) (.r [.m 9 (.k 42)]) (.skip)],.r [.n 39 10,.n 40 8,.n 41 0,.n 42 10,.i 43 4 41 42,.v 44 4 43,.l 45 d [.t 40,.t 44],.q 46 (.bin .add (.k 1) (.t 45)),.b 47 .add 39 46,.n 10 47]]),.r [.n 20 5,.a 21 20 1,.n 5 21]]))],.r [.n 48 8,.q 49 (.nilChk (.t 48)),.f 50 27 49,.d 51 50,.n 52 5,.n 53 6,.u (.store 1 (.t 4) (.t 51)),.n 5 52,.n 6 53,.u (.store 1 (.t 7) (.k 0))],.ret]⟩
def qGb{fd g1 g2 g3:Nat}(hc:qnR P f fd (qm4 fd g1 g2 g3)=true)(h2:cOf P g2)(h3:qIA P g3)(p:List Ins)(hp:PrgGood p)(d:GData)(hd:DatOk d) :
  ∃n:Int,Own P f [.fz p.length (rP p),.agg (zJ d)] (.tup [.w (qjF p d).1,.j n,.own 0 (qjF p d).2.2.1.length,.j 0]) [.cells 1 true true (rNt (qjF p d).2.2.1)]:=by
 obtain⟨R,hR⟩:∃R,R=qjF p d:=⟨_,rfl⟩;rw[<- hR];refine⟨(R.2.2.1.length:Int),Own.mkD hc (by simp[qt,clo,qr,qht]) ?_⟩;have hpl:=hp.len;have hne:=hp.ne;have e0:List.take 18 ([.w 0,.w 0,.w 0,.w 0,.w 0,.w 0,.w 0,.w 0,.w 0,.w 0,.w 0,.w 0,.w 0,.w 0,.w 0,.w 0,.w 0,.w 0,.w 0,.w 0,.x 0,.x 0,.x 0,.x 0,.x 0,.x 0,.x 0,.w 0,.b false]:List AV)++(zJ d++List.drop 27 [.w 0,.w 0,.w 0,.w 0,.w 0,.w 0,.w 0,.w 0,.w 0,.w 0,.w 0,.w 0,.w 0,.w 0,.w 0,.w 0,.w 0,.w 0,.w 0,.w 0,.x 0,.x 0,.x 0,.x 0,.x 0,.x 0,.x 0,.w 0,.b false])=cVm qzB d:=rfl;have cd9:List.take 9 (zJ d)=zJ d:=rfl;have l9:(zJ d).length=9:=rfl;simp only[qm4,VDf,vI,simprocAttr];simp +decide only[↓vS,vT,simprocAttr,qqA,quT,l9,cd9,e0];refine⟨⟨14,[.ptr 1 0,.ptr 2 0],rfl,by simp[Tr.get_set]⟩,?_⟩
 simp +decide only[↓vS,vT,simprocAttr]
 refine SL.loop (α:=Nat×Mac×Nat×Int×List Nat) (λs=>[(0,.fz p.length (rP p)),(4,.ptr 0 0),(5,.j (s.2.2.2.2.length:Int)),(6,.own 3 s.2.2.2.2.length),(7,.ptr 1 0),(8,.ptr 2 0),(9,.j s.2.2.2.1),(10,.j (s.2.2.1:Int))])
  (λs=>[.v [.w 0],.v [.j 0],.v (cVm s.2.1 d),.cells 1 true true (rNt s.2.2.2.2)])
  (λs=>MacOk s.2.1/\s.2.2.1<=5000000000/\((s.2.1.over=false/\s.2.2.1<p.length/\p.length+1<=s.1+s.2.2.1/\s.2.2.2.2.length<=s.2.2.1/\qp4 p d s.1 s.2.1 s.2.2.1 s.2.2.2.1 s.2.2.2.2=R)\/(s.2.1.over=true/\s.2.2.2.2.length<=5000/\R=(s.2.1.told,s.2.2.2.2.length,s.2.2.2.2,0)))) (λs=>s.1) (p.length+1,qzB,0,46,[]) [1,2,3,99] ?_ ?_ ?_ rfl ?_ ?_
 .simp[vw,qr]
 .simp[vw,qe,qu]
  simp_all[NVs.refl,qu]
 .simp
 .exact⟨qrL,Nat.zero_le _,.inl ⟨rfl,by grind,zzL _,Nat.zero_le _,by rw[hR];rfl⟩⟩
 rintro⟨n,m,a,bh,l⟩ ⟨hm,ha,hI⟩ G ih;simp only at hm ha hI;have hl29:=qkX (d:=d) hm.len;have go:(cVm m d)[28]?=some (.b m.over):=quP hm.len;have gt:(cVm m d)[27]?=some (.w m.told):=quR hm.len;simp only[vI,simprocAttr];rcases hI with⟨hov,hlt,hna,hla,hI⟩|⟨hov,hla,hI⟩
 .obtain⟨n,rfl⟩:∃n',n=n'+1:=⟨n-1,by omega⟩
  rw[qno]at hI;obtain⟨i,hpi⟩:∃i,p[a]?=some i:=⟨_,zzE hlt⟩;have hii:=hp.ins i (by grind);rw[hpi]at hI;simp only at hI;have hz:=qsZ (m:=m) (d:=d) hii (hp.one a i hpi);rw[if_neg (by omega)]at hI;have hin:=qCH hp.ins hp.one hp.last hpi m d;have hel:=qG (f:=qC) (m:=4) jC hpi;rw[show p.flatMap qC=rP p from rfl]at hel
  have h4:a*4+4<=(rP p).length:=by rw[qbS];omega
  have g0:=qbE (f:=qC) (m:=4) jC hpi (i:=0) (by omega);rw[show p.flatMap qC=rP p from rfl]at g0
  simp only[qC,Nat.add_zero,List.getElem?_cons_zero]at g0;have hge:¬(p.length:Int)<=(a:Int):=by omega
  obtain⟨hm2,hk0,hk1⟩:=qvb hm hii hd;have hdo:=h3 m hm d hd i hii hz;have hgc:=h2 i.code;generalize doR m i d=r at hI hin hm2 hk0 hk1 hdo;obtain⟨m2,k,e⟩:=r;simp only at hI hin hm2 hk0 hk1 hdo;have hr1:l.length+1<=qf:=by simp only[qf];omega
  have hr2:(l.length+1)*8<=qf:=by simp only[qf];omega
  have hap:rNt l++[.j (a:Int)]=rNt (l++[a]):=by rw[<- qr5];rfl
  have hll:(rNt l).length=l.length:=qlc;have hla1:(l++[a]).length=l.length+1:=by simp
  have w1:IntKind.wrap .i64 (1+k)=1+k:=by grind[qm]
  have w2:IntKind.wrap .i64 ((a:Int)+(1+k))=((a+1+k.toNat:Nat):Int):=by rw[qm (by omega) (by omega)];omega
  have w3:IntKind.wrap .i64 ((l.length:Int)+1)=((l.length+1:Nat):Int):=by rw[qm (by omega) (by omega)];omega
  have fin:∀b2:Int,(m2.over=false->qp4 p d n m2 (a+1+k.toNat) b2 (l++[a])=R)->MacOk m2/\a+1+k.toNat<=5000000000/\((m2.over=false/\a+1+k.toNat<p.length/\p.length+1<=n+(a+1+k.toNat)/\(l++[a]).length<=a+1+k.toNat/\qp4 p d n m2 (a+1+k.toNat) b2 (l++[a])=R)\/(m2.over=true/\(l++[a]).length<=5000/\R=(m2.told,(l++[a]).length,l++[a],0))):=by
   grind
  rw[hov]at go;simp only[qC]at hdo hel;simp +decide only[↓vS,vT,simprocAttr,go,hge,hlt,hr1,hr2,hll,hap,zzU,g0];refine hgc.sc ?_
  by_cases c4:qn i.code=4
  .rw[if_pos c4]at hI;have fin2:=fin 42 (λho=>by rw[ho]at hI;grind)
   simp +decide only[↓vS,vT,simprocAttr,c4,hlt,hel,h4];refine hdo.sc (vs:=[.ptr 0 0,.agg [.h i.code,.y i.jt,.y i.jf,.w i.k]]) [2] (Lent.of (by decide) ?_) ?_
   .simp[vL,vw,qv qu,qg qu]
   simp only[vK,simprocAttr,qg qu];simp +decide only[↓vS,vT,simprocAttr,w1,w2,w3];refine ih (n,m2,a+1+k.toNat,42,l++[a]) fin2 (by omega) _ _ (Wk.mk _ _ [0,1,2,5] ?_ ?_ ?_ rfl)
   .simp[vw,qr]
   .simp[vw,qe,qX,qu]
   .simp
  .rw[if_neg c4]at hI;have fin2:=fin 46 (λho=>by rw[ho]at hI;grind)
   simp +decide only[↓vS,vT,simprocAttr,c4,hlt,hel,h4];refine hdo.sc (vs:=[.ptr 0 0,.agg [.h i.code,.y i.jt,.y i.jf,.w i.k]]) [2] (Lent.of (by decide) ?_) ?_
   .simp[vL,vw,qv qu,qg qu]
   simp only[vK,simprocAttr,qg qu];simp +decide only[↓vS,vT,simprocAttr,w1,w2,w3];refine ih (n,m2,a+1+k.toNat,46,l++[a]) fin2 (by omega) _ _ (Wk.mk _ _ [0,1,2,5] ?_ ?_ ?_ rfl)
   .simp[vw,qr]
   .simp[vw,qe,qX,qu]
   .simp
 .rw[hov]at go;rw[hI];simp +decide only[↓vS,vT,simprocAttr,go,gt];intro _;refine⟨[3],?_⟩;simp[vw,qe,qX]
def qm3(a:Nat):IFn:=⟨[.tmp 4,.tmp 5,.tmp 6],sq [.r [.q 3 (.box (.t 1)),.m 4 (.c (.w 0)),.m 5 (.k 0),.m 6 (.k 0)],.r [.n 8 0,.v 9 9 3,.l 10 a [.t 8,.t 9],.n 7 10,.x 11 7 0,.x 12 7 1,.x 13 7 2,.x 14 7 3,.n 4 11,.n 5 12,.n 6 14],.r [.n 15 4,.n 16 5,.n 17 6,.n 4 15,.n 5 16,.n 6 17],.ret]⟩
def qJ6{g:Nat}(hc:qc P f (qm3 g)=true)(hg:∀p,PrgGood p->∀d,DatOk d->∃n:Int,Own P g [.fz p.length (rP p),.agg (zJ d)] (.tup [.w (qjF p d).1,.j n,.own 0 (qjF p d).2.2.1.length,.j 0]) [.cells 1 true true (rNt (qjF p d).2.2.1)])(p:List Ins)(hp:PrgGood p)(d:GData)(hd:DatOk d) :
  ∃n:Int,qa P f [.fz p.length (rP p),.agg (zJ d)] (.tup [.w (qjF p d).1,.j n,.j 0]):=by
 obtain⟨n,hn⟩:=hg p hp d hd;refine⟨n,qa.mk hc (by simp[qt,clo,qr,qht]) ?_⟩;simp only[qm3,vI,simprocAttr];simp +decide only[↓vS,vT,simprocAttr,qqA,quT];refine hn.sc ?_;simp only[vJ,simprocAttr,xj qX];simp +decide only[↓vS,vT,simprocAttr];simp[vZ]
def qIQ(x:BitVec 32):x &&& ~~~ 65535#32=(x >>> 16) <<< 16:=by
 apply BitVec.eq_of_getLsbD_eq;intro i hi;have h:∀i,i<32->(65535#32).getLsbD i=decide (i<16):=by decide
 rw[BitVec.getLsbD_and,BitVec.getLsbD_not,h i hi,BitVec.getLsbD_shiftLeft,BitVec.getLsbD_ushiftRight]
 grind
def qrT{a:Int}(h0:0<=a)(h1:a<=4294967295):qeH .u32 a 65535=a / 65536*65536:=by
 obtain⟨n,rfl⟩:∃n:Nat,a=n:=⟨a.toNat,by omega⟩
 have e:(BitVec.ofInt 32 (n:Int))=BitVec.ofNat 32 n:=by simp
 unfold qeH;show IntKind.wrap .u32 (((BitVec.ofInt 32 (n:Int)) &&& ~~~ (65535#32)).toNat:Int)=_;rw[e,qIQ];have hn:n<2 ^ 32:=by omega
 have:((BitVec.ofNat 32 n >>> 16) <<< 16).toNat=n / 65536*65536:=by
  rw[BitVec.toNat_shiftLeft,BitVec.toNat_ushiftRight,BitVec.toNat_ofNat,Nat.mod_eq_of_lt hn,Nat.shiftLeft_eq,Nat.shiftRight_eq_div_pow];omega
 rw[this];show((n / 65536*65536:Nat):Int) % 4294967296=_;omega
def qp7(x:Int):Int:=if 32768<=x / 65536 then x / 65536-65536 else x / 65536
def qil(a b:Int):Bool:=decide (qp7 a<qp7 b)
def qgv:List Int->Int
 | []=>2147418112
 | x::l=>if qil x (qgv l)=true then x else qgv l
theorem qmQ{x:Int}{l:List Int}:qgv (x::l)=if qil x (qgv l)=true then x else qgv l:=rfl
def qo4:∀{l:List Int},(∀x ∈ l,u32 x)->u32 (qgv l)
 | [],_=>⟨by decide,by decide⟩
 | x::l,h=>by
  rw[qmQ];split
  .simp_all
  .exact qo4 λy hy=>h y (by grind)
def qnC{a:Int}(h0:0<=a)(h1:a<=4294967295):IntKind.wrap .i32 (a / 65536*65536)=qp7 a*65536:=by
 unfold qp7;simp only[IntKind.wrap,IntKind.bits,IntKind.signed,Bool.true_and,decide_eq_true_eq,show(2:Int) ^ 32=4294967296 from rfl,show(2:Int) ^ (32-1)=2147483648 from rfl]
 omega
def qgC(a:Nat):IFn:=⟨[.tmp 4],sq [.r [.m 4 .F],.r [.n 5 0,.l 6 a [.t 5],.q 7 (.cvInt .i32 (.t 6)),.n 8 1,.l 9 a [.t 8],.q 10 (.cvInt .i32 (.t 9)),.s 11 7 10,.n 4 11],.ret]⟩
def qH9{g:Nat}(hc:qc P f (qgC g)=true)(hg:∀n,qa P g [.w n] (.w (qeH .u32 n 65535)))(a b:Int)(ha:u32 a)(hb:u32 b):qa P f [.w a,.w b] (.b (qil a b)):=by
 refine qa.mk hc rfl ?_;have w1:=qnC ha.1 ha.2;have w2:=qnC hb.1 hb.2;rw[<- qrT ha.1 ha.2]at w1;rw[<- qrT hb.1 hb.2]at w2;have hlt:(qp7 a*65536<qp7 b*65536)=(qp7 a<qp7 b):=by simp_all
 unfold qil;simp only[qgC,vI,simprocAttr];simp +decide only[↓vS,vT,simprocAttr];refine(hg a).sc ?_;simp +decide only[↓vS,vT,simprocAttr];refine(hg b).sc ?_;simp +decide only[↓vS,vT,simprocAttr,w1,w2,hlt];simp[vZ]
def qGJ(P:Program)(g:Nat):Prop:=∀a b:Int,u32 a->u32 b->qa P g [.w a,.w b] (.b (qil a b))
def qf1(a:Nat):IFn:=⟨[.tmp 2],sq [.r [.m 2 (.c (.w 0))],.r [.n 6 0,.q 7 (.iAddrS 1 (.t 6) (.k 0)),.d 8 7,.n 3 8],sq [.r [.n 9 0,.q 10 (.slcS 1 (.t 9) (some (.k 1)) none none),.e 11 10,.m 12 (.k 0)],.blk 0 (.loop (sq [.r [.s 13 12 11],.cond (.t 13) (.skip) (.exit 0),.blk 1 (sq [.r [.i 14 1 10 12,.d 15 14,.n 5 15],.r [.n 16 5,.n 17 3,.l 18 a [.t 16,.t 17]],.cond (.t 18) (.r [.n 19 5,.n 3 19]) (.skip)]),.r [.a 20 12 1,.n 12 20]]))],.r [.n 21 3,.n 2 21],.ret]⟩
def qGv{g:Nat}(hc:qc P f (qf1 g)=true)(hg:qGJ P g)(a b:Int)(ha:u32 a)(hb:u32 b):qa P f [.fz 2 (rI .u32 [a,b])] (.w (if qil b a=true then b else a)):=by
 refine qa.mk hc (by simp[qt,clo,qi]) ?_;have hl:=hg b a hb ha;have e0:(rI .u32 [a,b])[0]?=some (.w a):=rfl;have e1:(rI .u32 [b])[0]?=some (.w b):=rfl;simp only[qf1,vI,simprocAttr];simp +decide only[↓vS,vT,simprocAttr,e0,qEz,qr3];refine SL.loop (α:=Nat) (λj=>[(3,.w (if j=0 then a else if qil b a=true then b else a)),(10,.fz 1 [.w b]),(11,.j 1),(12,.j (j:Int))]) (λ_=>[]) (λj=>j<=1) (λj=>1-j) 0 [] ?_ ?_ ?_ rfl ?_ ?_
 .simp[vw]
 .trivial
 .simp
 .omega
 rintro j hj G ih;simp only[vI,simprocAttr]
 by_cases h0:j=0
 .subst h0;have ih2:=ih 1 (by decide) (by decide);simp +decide only[↓vS,vT,simprocAttr];refine hl.sc ?_;cases hls:qil b a with
  | true =>
   rw[hls]at ih2;simp +decide only[↓vS,vT,simprocAttr];refine ih2 _ _ (Wk.mk _ _ [] ?_ ?_ ?_ rfl)
   .simp[vw];rfl
   .trivial
   .simp
  | false =>
   rw[hls]at ih2;simp +decide only[↓vS,vT,simprocAttr];refine ih2 _ _ (Wk.mk _ _ [] ?_ ?_ ?_ rfl)
   .simp[vw];rfl
   .trivial
   .simp
 .obtain rfl:j=1:=by omega
  simp +decide only[↓vS,vT,simprocAttr];simp[vZ]
def qHP{k:IntKind}{l:List Int}{j:Nat}{x:Int}(h:l[j]?=some x):(rI k l)[j]?=some (.i k x):=by rw[qaZ,h];rfl
def qsX{l:List Int}{j:Nat}{x:Int}(h:l[j]?=some x):qgv (l.drop j)=if qil x (qgv (l.drop (j+1)))=true then x else qgv (l.drop (j+1)):=by
 grind[List.drop_eq_getElem_cons,qmQ]
instance:DecidableEq Ins:=λa b=>decidable_of_iff (a.code=b.code/\a.jt=b.jt/\a.jf=b.jf/\a.k=b.k) ⟨λh=>by cases a;cases b;simp only at h;obtain⟨rfl,rfl,rfl,rfl⟩:=h;rfl,λh=>by subst h;exact⟨rfl,rfl,rfl,rfl⟩⟩
instance:DecidableEq Prg:=λa b=>decidable_of_iff (a.dir=b.dir/\a.arch=b.arch/\a.ins=b.ins) ⟨λh=>by cases a;cases b;simp only at h;obtain⟨rfl,rfl,rfl⟩:=h;rfl,λh=>by subst h;exact⟨rfl,rfl,rfl⟩⟩
structure PrgIn (x:Prg):Prop where
 len:x.ins.length<=9223372036854775807
 ins:∀i ∈ x.ins,InsOk i
def qCj(P:Program)(g:Nat):Prop:=∀l m:List Ins,l.length<=9223372036854775807->qa P g [.fz l.length (rP l),.fz m.length (rP m)] (.b (decide (l=m)))
def jj:IFn:=⟨[.tmp 4],sq [.r [.m 4 .F],sq [.r [.n 6 0,.e 7 6,.n 8 1,.e 9 8,.b 10 .neq 7 9],.cond (.t 10) (sq [.r [.m 4 .F],.ret]) (.skip)],sq [.r [.n 11 0,.e 12 11,.m 13 (.k 0)],.blk 0 (.loop (sq [.r [.s 14 13 12],.cond (.t 14) (.skip) (.exit 0),.blk 1 (sq [.r [.n 15 13,.n 5 15],.reg true [.n 16 0,.n 17 5,.i 18 4 16 17,.v 19 4 18,.n 20 1,.n 21 5,.i 22 4 20 21,.v 23 4 22,.q 24 (.eqA true [.i,.i,.i,.i] (.t 19) (.t 23))],.cond (.t 24) (sq [.r [.m 4 .F],.ret]) (.skip)]),.r [.a 25 13 1,.n 13 25]]))],.r [.m 4 .T],.ret]⟩
def qIL(hc:qc P f jj=true)(l m:List Ins)(hl:l.length<=9223372036854775807):qa P f [.fz l.length (rP l),.fz m.length (rP m)] (.b (decide (l=m))):=by
 refine qa.mk hc (by simp[qt,clo,qr]) ?_;simp only[jj,vI,simprocAttr]
 by_cases hlen:l.length=m.length
 .have hli:(l.length:Int)=m.length:=by omega
  simp +decide only[↓vS,vT,simprocAttr,hli];refine SL.loop (α:=Nat) (λj=>[(0,.fz l.length (rP l)),(1,.fz m.length (rP m)),(12,.j l.length),(13,.j (j:Int))]) (λ_=>[]) (λj=>j<=l.length/\l.take j=m.take j) (λj=>l.length-j) 0 [] ?_ ?_ ?_ rfl ?_ ?_
  .simp[vw,qr,hli]
  .trivial
  .simp
  .simp_all
  rintro j ⟨hj,hI⟩ G ih;simp only[vI,simprocAttr]
  by_cases hlt:j<l.length
  .have hlm:j<m.length:=by omega
   have hx:l[j]?=some l[j]:=by simp_all
   have hy:m[j]?=some m[j]:=by simp_all
   have hw:IntKind.wrap .i64 ((j:Int)+1)=((j+1:Nat):Int):=by rw[qm (by omega) (by omega)];omega
   have ex:=qG (f:=qC) (m:=4) jC hx;have ey:=qG (f:=qC) (m:=4) jC hy;rw[show l.flatMap qC=rP l from rfl]at ex
   rw[show m.flatMap qC=rP m from rfl]at ey
   have bx:j*4+4<=(rP l).length:=by rw[qbS];omega
   have bY:j*4+4<=(rP m).length:=by rw[qbS];omega
   have hst:=λe=>qnu hx hy hI e
   have hne:l[j]≠m[j]->l≠m:=by grind
   generalize l[j]=a at ex hst hne;generalize m[j]=b at ey hst hne;obtain⟨a1,a2,a3,a4⟩:=a;obtain⟨b1,b2,b3,b4⟩:=b;simp only[qC]at ex ey
   by_cases e1:a1=b1
   rotate_left
   .have hn:=hne (by simp_all);simp +decide only[↓vS,vT,simprocAttr,hlt,hlm];refine zg ?_;simp +decide only[↓vS,vT,simprocAttr,hlt,hlm,ex,ey,bx,bY,e1,beq_self_eq_true];simp[vZ,hn]
   by_cases e2:a2=b2
   rotate_left
   .have hn:=hne (by simp_all);simp +decide only[↓vS,vT,simprocAttr,hlt,hlm];refine zg ?_;simp +decide only[↓vS,vT,simprocAttr,hlt,hlm,ex,ey,bx,bY,e1,e2,beq_self_eq_true];simp[vZ,hn]
   by_cases e3:a3=b3
   rotate_left
   .have hn:=hne (by simp_all);simp +decide only[↓vS,vT,simprocAttr,hlt,hlm];refine zg ?_;simp +decide only[↓vS,vT,simprocAttr,hlt,hlm,ex,ey,bx,bY,e1,e2,e3,beq_self_eq_true];simp[vZ,hn]
   by_cases e4:a4=b4
   rotate_left
   .have hn:=hne (by simp_all);simp +decide only[↓vS,vT,simprocAttr,hlt,hlm];refine zg ?_;simp +decide only[↓vS,vT,simprocAttr,hlt,hlm,ex,ey,bx,bY,e1,e2,e3,e4,beq_self_eq_true];simp[vZ,hn]
   simp +decide only[↓vS,vT,simprocAttr,hlt,hlm];refine zg ?_;simp +decide only[↓vS,vT,simprocAttr,hlt,hlm,ex,ey,bx,bY,e1,e2,e3,e4,beq_self_eq_true,hw];refine ih (j+1) (by grind) (by omega) _ _ (Wk.mk _ _ [] ?_ ?_ ?_ rfl)
   .simp[vw,qr]
   .trivial
   .simp
  .have he:l=m:=by
    rw[List.take_of_length_le (by omega),List.take_of_length_le (by omega)]at hI;exact hI
   simp +decide only[↓vS,vT,simprocAttr,hlt];simp[vZ,he]
 .have hli:¬(l.length:Int)=m.length:=by omega
  have hne:l≠m:=by grind
  simp +decide only[↓vS,vT,simprocAttr,hli];simp[vZ,hne]
def qjg(a:Nat):IFn:=⟨[.tmp 4],sq [.r [.m 4 .F],.r [.n 5 0,.n 6 1,.l 7 a [.t 5,.t 6],.n 4 7],.ret]⟩
def qG7{g:Nat}(hc:qc P f (qjg g)=true)(hg:qCj P g):qCj P f:=by
 intro l m hl;refine qa.mk hc (by simp[qt,clo,qr]) ?_;simp only[qjg,vI,simprocAttr];simp +decide only[↓vS,vT,simprocAttr];refine(hg l m hl).sc ?_;simp +decide only[↓vS,vT,simprocAttr];simp[vZ]
def qib(a:Nat):IFn:=⟨[.tmp 4],sq [.r [.q 2 (.box (.t 0)),.q 3 (.box (.t 1)),.m 4 .F],.r [.f 5 0 2,.d 6 5,.f 7 0 3,.d 8 7,.b 9 .eql 6 8,.n 10 9,.h 11 1 2 10 true,.j 12 11 10 true,.h 13 1 3 10 true,.j 14 13 10 true,.g 15 (.bin .eql (.t 12) (.t 14)) 10 true,.p 16 10 15,.n 17 16,.h 18 2 2 17 true,.j 19 18 17 true,.h 20 2 3 17 true,.j 21 20 17 true,⟨(some 22),.callF a [.t 19,.t 21],(some (17,true))⟩,.p 23 17 22,.n 4 23],.ret]⟩
def qE4{g:Nat}(hc:qc P f (qib g)=true)(hg:qCj P g)(x y:Prg)(hx:PrgIn x):qa P f [.agg (cPr x),.agg (cPr y)] (.b (decide (x=y))):=by
 refine qa.mk hc (by simp[qt,clo,cPr,qr]) ?_;have hl:=hx.len;simp only[qib,cPr,vI,simprocAttr];have hgg:=hg x.ins y.ins (by omega);obtain⟨a1,a2,a3⟩:=x;obtain⟨b1,b2,b3⟩:=y;simp only at hgg hl ⊢
 by_cases e1:a1=b1
 rotate_left
 .have hn:Prg.mk a1 a2 a3≠Prg.mk b1 b2 b3:=by simp_all
  simp +decide only[↓vS,vT,simprocAttr,e1];simp[vZ,e1]
 by_cases e2:a2=b2
 rotate_left
 .have hn:Prg.mk a1 a2 a3≠Prg.mk b1 b2 b3:=by simp_all
  simp +decide only[↓vS,vT,simprocAttr,e1,e2];simp[vZ,e2]
 have he:(Prg.mk a1 a2 a3=Prg.mk b1 b2 b3)=(a3=b3):=by simp_all
 simp +decide only[↓vS,vT,simprocAttr,e1,e2];refine hgg.sc ?_;simp +decide only[↓vS,vT,simprocAttr]
 by_cases e3:a3=b3
 .simp[vZ,e1,e2,e3]
 .have hn:Prg.mk a1 a2 a3≠Prg.mk b1 b2 b3:=by simp_all
  simp[vZ,e3]
def zu:IFn:=⟨[.tmp 6],sq [.r [.m 6 .F],sq [.r [.n 10 0,.e 11 10,.n 12 1,.e 13 12,.b 14 .neq 11 13],.cond (.t 14) (sq [.r [.m 6 .F],.ret]) (.skip)],sq [.r [.n 15 0,.e 16 15,.m 17 (.k 0)],.blk 0 (.loop (sq [.r [.s 18 17 16],.cond (.t 18) (.skip) (.exit 0),.blk 1 (sq [.r [.n 19 17,.i 20 3 15 17,.v 21 3 20,.q 8 (.alloc [.j 0,.j 0,.nils]),.n 7 19,.u (.store 3 (.t 8) (.t 21))],.r [.n 22 1,.n 23 7,.i 24 3 22 23,.v 25 3 24,.q 9 (.alloc [.j 0,.j 0,.nils]),.u (.store 3 (.t 9) (.t 25))],.r [.n 26 2,.v 27 3 8,.v 28 3 9,⟨(some 29),.callV (.t 26) [.t 27,.t 28],none⟩,.q 30 (.un .not (.t 29))],.cond (.t 30) (sq [.r [.m 6 .F],.ret]) (.skip)]),.r [.a 31 17 1,.n 17 31]]))],.r [.m 6 .T],.ret]⟩
def qIh(hc:qc P f zu=true)(k:Nat)(hk:∀x y:Prg,PrgIn x->qa P k [.agg (cPr x),.agg (cPr y)] (.b (decide (x=y))))(l m:List Prg)(hl:l.length<=10000)(hx:∀x ∈ l,PrgIn x):qa P f [.fz l.length (rPr l),.fz m.length (rPr m),.fn k [] []] (.b (decide (l=m))):=by
 refine qa.mk hc (by simp[qt,clo,xi]) ?_;simp only[zu,vI,simprocAttr]
 by_cases hlen:l.length=m.length
 .have hli:(l.length:Int)=m.length:=by omega
  simp +decide only[↓vS,vT,simprocAttr,hli];refine SL.loop (α:=Nat) (λj=>[(1,.fz m.length (rPr m)),(2,.fn k [] []),(15,.fz l.length (rPr l)),(16,.j l.length),(17,.j (j:Int))]) (λ_=>[]) (λj=>j<=l.length/\l.take j=m.take j) (λj=>l.length-j) 0 [] ?_ ?_ ?_ rfl ?_ ?_
  .simp[vw,xi,hli]
  .trivial
  .simp
  .simp_all
  rintro j ⟨hj,hI⟩ G ih;simp only[vI,simprocAttr]
  by_cases hlt:j<l.length
  .have hlm:j<m.length:=by omega
   have hpx:l[j]?=some l[j]:=by simp_all
   have hpy:m[j]?=some m[j]:=by simp_all
   have hxl:=(hx _ (List.getElem_mem hlt)).len;have hw:IntKind.wrap .i64 ((j:Int)+1)=((j+1:Nat):Int):=by rw[qm (by omega) (by omega)];omega
   have ex:=qG (f:=cPr) (m:=3) qfD hpx;have ey:=qG (f:=cPr) (m:=3) qfD hpy;rw[show l.flatMap cPr=rPr l from rfl]at ex
   rw[show m.flatMap cPr=rPr m from rfl]at ey
   have bx:j*3+3<=(rPr l).length:=by rw[qhF];omega
   have bY:j*3+3<=(rPr m).length:=by rw[qhF];omega
   have hst:=λe=>qnu hpx hpy hI e
   have hne:l[j]≠m[j]->l≠m:=by grind
   have hxo:=hx _ (List.getElem_mem hlt);generalize l[j]=x at ex hst hne hxl hxo;generalize m[j]=y at ey hst hne;have hkk:=hk x y hxo;simp only[cPr]at ex ey hkk;simp +decide only[↓vS,vT,simprocAttr,hlt,hlm,ex,ey,bx,bY];refine hkk.sc ?_
   by_cases e:x=y
   .simp +decide only[↓vS,vT,simprocAttr,e,hw];refine ih (j+1) (by grind) (by omega) _ _ (Wk.mk _ _ [] ?_ ?_ ?_ rfl)
    .simp[vw,xi]
    .trivial
    .simp
   .have hn:=hne e;simp +decide only[↓vS,vT,simprocAttr,e];simp[vZ,hn]
  .have he:l=m:=by
    rw[List.take_of_length_le (by omega),List.take_of_length_le (by omega)]at hI;exact hI
   simp +decide only[↓vS,vT,simprocAttr,hlt];simp[vZ,he]
 .have hli:¬(l.length:Int)=m.length:=by omega
  have hne:l≠m:=by grind
  simp +decide only[↓vS,vT,simprocAttr,hli];simp[vZ,hne]
def qA3(P:Program)(g:Nat):Prop:=∀l m:List Prg,l.length<=10000->(∀x ∈ l,PrgIn x)->qa P g [.fz l.length (rPr l),.fz m.length (rPr m)] (.b (decide (l=m)))
def qia(a b:Nat):IFn:=⟨[.tmp 4],sq [.r [.m 4 .F],.r [.n 5 0,.n 6 1,.l 7 a [.t 5,.t 6,(.c (.fn b [] []))],.n 4 7],.ret]⟩
def qF2{g1 g2:Nat}(hc:qc P f (qia g1 g2)=true)(h1:∀l m:List Prg,l.length<=10000->(∀x ∈ l,PrgIn x)->qa P g1 [.fz l.length (rPr l),.fz m.length (rPr m),.fn g2 [] []] (.b (decide (l=m)))):qA3 P f:=by
 intro l m hl hx;refine qa.mk hc (by simp[qt,clo,xi]) ?_;simp only[qia,vI,simprocAttr];simp +decide only[↓vS,vT,simprocAttr];refine(h1 l m hl hx).sc ?_;simp +decide only[↓vS,vT,simprocAttr];simp[vZ]
def qJr{x:Int}{j:Nat}(hj:j<2):IntKind.wrap .u8 (qml .u16 x ((8*j:Nat):Int))=x / 256 ^ j % 256:=by
 have e:qml .u16 x ((8*j:Nat):Int)=x / 256 ^ j:=by
  unfold qml
  have hm:min ((8*j:Nat):Int).toNat (IntKind.bits .u16)=8*j:=by
   have:IntKind.bits .u16=16:=rfl;rw[this];omega
  rw[hm,Int.fdiv_eq_ediv_of_nonneg _ (by grind),Int.pow_mul];rfl
 rw[e];rfl
def qdf:IFn:=⟨[.tmp 4],sq [.r [.m 4 .N],.r [.n 7 1,.q 8 (.mkS 1 1 [.y 0] (.t 7) (.t 7)),.n 5 8],sq [.r [.n 9 5,.e 10 9,.m 11 (.k 0)],.blk 0 (.loop (sq [.r [.s 12 11 10],.cond (.t 12) (.skip) (.exit 0),.blk 1 (sq [.r [.n 13 11,.n 6 13],.r [.n 14 5,.n 15 6,.n 16 0,.n 17 6,.q 18 (.bin .mul (.k 8) (.t 17)),.b 19 .shr 16 18,.q 20 (.cvInt .u8 (.t 19)),.i 21 1 14 15,.u (.store 1 (.t 21) (.t 20))]]),.r [.a 22 11 1,.n 11 22]]))],.r [.n 23 5,.n 4 23],.ret]⟩
def qJH(hc:qc P f qdf=true)(x:Int):qa P f [.h x,.j 2] (.fz 2 (rB (xw 2 x))):=by
 refine qa.mk hc rfl ?_;have hr1:2<=qf:=by simp only[qf];omega
 have hrep:(List.replicate 2 [AV.y 0]).flatten=rB (qcS 2 0 x):=rfl;simp only[qdf,vI,simprocAttr];simp +decide only[↓vS,vT,simprocAttr,hr1,hrep];refine SL.loop (α:=Nat) (λj=>[(0,.h x),(5,.sl 0 0 2 2 false),(10,.j 2),(11,.j (j:Int))]) (λj=>[.v (rB (qcS 2 j x))]) (λj=>j<=2) (λj=>2-j) 0 [0] ?_ ?_ ?_ rfl ?_ ?_
 .simp[vw]
 .simp[vw,qe,qZ];exact NVs.refl (vs:=rB (qcS 2 0 x)) (qZ _)
 .simp
 .exact Nat.zero_le _
 rintro j hj G ih;simp only[vI,simprocAttr]
 by_cases hlt:j<2
 .have hlt':(j:Int)<2:=by omega
  have hst:=qmb (k:=.u8) (L:=qcS 2 j x) (j:=j) (by rw[qi3 hj];exact hlt) (x / 256 ^ j % 256);rw[qmT hlt]at hst;have hst:(rB (qcS 2 j x)).take j++(AV.y (x / 256 ^ j % 256)::(rB (qcS 2 j x)).drop (j+1))=rB (qcS 2 (j+1) x):=hst;have hle:j+1<=(rB (qcS 2 j x)).length:=by rw[qc4,qi3 hj];exact hlt
  have hw8:IntKind.wrap .i64 (8*(j:Int))=((8*j:Nat):Int):=by rw[qm (by omega) (by omega)];omega
  have hge:(0:Int)<=((8*j:Nat):Int):=by omega
  have hsh:=qJr (x:=x) hlt;have w1:IntKind.wrap .i64 ((j:Int)+1)=((j+1:Nat):Int):=by rw[qm (by omega) (by omega)];omega
  simp +decide only[↓vS,vT,simprocAttr,hlt,hlt',hw8,hge,hsh,zzU,hle,hst,w1];refine ih (j+1) hlt (by omega) _ _ (Wk.mk _ _ [0] ?_ ?_ ?_ rfl)
  .simp[vw]
  .simp[vw,qe,qZ]
  .simp
 .obtain rfl:j=2:=by omega
  have hf:qcS 2 2 x=xw 2 x:=by unfold qcS;rw[Nat.sub_self];exact List.append_nil _
  rw[hf];simp +decide only[↓vS,vT,simprocAttr];refine Frz.cut 1 rfl (zzL _) ?_;have hl:(rB (xw 2 x)).length=2:=by rw[qc4,qaB]
  have ht:(rB (xw 2 x)).take 2=rB (xw 2 x):=List.take_of_length_le (by rw[hl];exact zzL _);simp[vZ,vP,Tr.get_set,qJ (qZ _),ht,hl]
def qg6(a:Nat):IFn:=⟨[.tmp 2],sq [.r [.m 2 .N],.r [.n 3 0,.l 4 a [.t 3,.k 2],.n 2 4],.ret]⟩
def qJD{g:Nat}(hc:qc P f (qg6 g)=true)(hg:∀x:Int,qa P g [.h x,.j 2] (.fz 2 (rB (xw 2 x))))(x:Int):qa P f [.h x] (.fz 2 (rB (xw 2 x))):=by
 refine qa.mk hc rfl ?_;simp only[qg6,vI,simprocAttr];simp +decide only[↓vS,vT,simprocAttr];refine(hg x).sc ?_;simp +decide only[↓vS,vT,simprocAttr];simp[vZ]
def qJs{x:Int}{j:Nat}(hj:j<4):IntKind.wrap .u8 (qml .u32 x ((8*j:Nat):Int))=x / 256 ^ j % 256:=by
 have e:qml .u32 x ((8*j:Nat):Int)=x / 256 ^ j:=by
  unfold qml
  have hm:min ((8*j:Nat):Int).toNat (IntKind.bits .u32)=8*j:=by
   have:IntKind.bits .u32=32:=rfl;rw[this];omega
  rw[hm,Int.fdiv_eq_ediv_of_nonneg _ (by grind),Int.pow_mul];rfl
 rw[e];rfl
def qdg:IFn:=⟨[.tmp 4],sq [.r [.m 4 .N],.r [.n 7 1,.q 8 (.mkS 1 1 [.y 0] (.t 7) (.t 7)),.n 5 8],sq [.r [.n 9 5,.e 10 9,.m 11 (.k 0)],.blk 0 (.loop (sq [.r [.s 12 11 10],.cond (.t 12) (.skip) (.exit 0),.blk 1 (sq [.r [.n 13 11,.n 6 13],.r [.n 14 5,.n 15 6,.n 16 0,.n 17 6,.q 18 (.bin .mul (.k 8) (.t 17)),.b 19 .shr 16 18,.q 20 (.cvInt .u8 (.t 19)),.i 21 1 14 15,.u (.store 1 (.t 21) (.t 20))]]),.r [.a 22 11 1,.n 11 22]]))],.r [.n 23 5,.n 4 23],.ret]⟩
def qJI(hc:qc P f qdg=true)(x:Int):qa P f [.w x,.j 4] (.fz 4 (rB (xw 4 x))):=by
 refine qa.mk hc rfl ?_;have hr1:4<=qf:=by simp only[qf];omega
 have hrep:(List.replicate 4 [AV.y 0]).flatten=rB (qcS 4 0 x):=rfl;simp only[qdg,vI,simprocAttr];simp +decide only[↓vS,vT,simprocAttr,hr1,hrep];refine SL.loop (α:=Nat) (λj=>[(0,.w x),(5,.sl 0 0 4 4 false),(10,.j 4),(11,.j (j:Int))]) (λj=>[.v (rB (qcS 4 j x))]) (λj=>j<=4) (λj=>4-j) 0 [0] ?_ ?_ ?_ rfl ?_ ?_
 .simp[vw]
 .simp[vw,qe,qZ];exact NVs.refl (vs:=rB (qcS 4 0 x)) (qZ _)
 .simp
 .exact Nat.zero_le _
 rintro j hj G ih;simp only[vI,simprocAttr]
 by_cases hlt:j<4
 .have hlt':(j:Int)<4:=by omega
  have hst:=qmb (k:=.u8) (L:=qcS 4 j x) (j:=j) (by rw[qi3 hj];exact hlt) (x / 256 ^ j % 256);rw[qmT hlt]at hst;have hst:(rB (qcS 4 j x)).take j++(AV.y (x / 256 ^ j % 256)::(rB (qcS 4 j x)).drop (j+1))=rB (qcS 4 (j+1) x):=hst;have hle:j+1<=(rB (qcS 4 j x)).length:=by rw[qc4,qi3 hj];exact hlt
  have hw8:IntKind.wrap .i64 (8*(j:Int))=((8*j:Nat):Int):=by rw[qm (by omega) (by omega)];omega
  have hge:(0:Int)<=((8*j:Nat):Int):=by omega
  have hsh:=qJs (x:=x) hlt;have w1:IntKind.wrap .i64 ((j:Int)+1)=((j+1:Nat):Int):=by rw[qm (by omega) (by omega)];omega
  simp +decide only[↓vS,vT,simprocAttr,hlt,hlt',hw8,hge,hsh,zzU,hle,hst,w1];refine ih (j+1) hlt (by omega) _ _ (Wk.mk _ _ [0] ?_ ?_ ?_ rfl)
  .simp[vw]
  .simp[vw,qe,qZ]
  .simp
 .obtain rfl:j=4:=by omega
  have hf:qcS 4 4 x=xw 4 x:=by unfold qcS;rw[Nat.sub_self];exact List.append_nil _
  rw[hf];simp +decide only[↓vS,vT,simprocAttr];refine Frz.cut 1 rfl (zzL _) ?_;have hl:(rB (xw 4 x)).length=4:=by rw[qc4,qaB]
  have ht:(rB (xw 4 x)).take 4=rB (xw 4 x):=List.take_of_length_le (by rw[hl];exact zzL _);simp[vZ,vP,Tr.get_set,qJ (qZ _),ht,hl]
def qg7(a:Nat):IFn:=⟨[.tmp 2],sq [.r [.m 2 .N],.r [.n 3 0,.l 4 a [.t 3,.k 4],.n 2 4],.ret]⟩
def qJE{g:Nat}(hc:qc P f (qg7 g)=true)(hg:∀x:Int,qa P g [.w x,.j 4] (.fz 4 (rB (xw 4 x))))(x:Int):qa P f [.w x] (.fz 4 (rB (xw 4 x))):=by
 refine qa.mk hc rfl ?_;simp only[qg7,vI,simprocAttr];simp +decide only[↓vS,vT,simprocAttr];refine(hg x).sc ?_;simp +decide only[↓vS,vT,simprocAttr];simp[vZ]
def qAZ(P:Program)(g:Nat):Prop:=∀n:Nat,1<=n->n<=10000000->Own P g [.nils,.j (n:Int)] (.sl 0 0 0 n true) [.cells 1 true true (rB (List.replicate n 0))]
def qa2:IFn:=⟨[.tmp 4],sq [.r [.m 4 .N],sq [.r [.n 5 1,.w 6 .lss 5 0],.cond (.t 6) (.r [.q 7 (.no),.u (.no)]) (.skip)],sq [.r [.n 8 1,.n 9 0,.q 10 (.cap (.t 9)),.n 11 0,.e 12 11,.b 13 .sub 10 12,.b 14 .sub 8 13,.n 1 14],.r [.n 15 1,.w 16 .gtr 15 0],.cond (.t 16) (.r [.n 17 0,.n 18 0,.q 19 (.cap (.t 18)),.q 20 (.slcS 1 (.t 17) none (some (.t 19)) none),.n 21 1,.q 22 (.appZ 1 1 [.y 0] (.t 20) (.t 21)),.n 23 0,.e 24 23,.q 25 (.slcS 1 (.t 22) none (some (.t 24)) none),.n 0 25]) (.skip)],.r [.n 26 0,.n 4 26],.ret]⟩
def qG6(hc:qc P f qa2=true):qAZ P f:=by
 intro n h0 h1;refine Own.mk hc rfl ?_;have hn:¬(n:Int)<0:=by omega
 have hw:IntKind.wrap .i64 ((n:Int)-0)=(n:Int):=by rw[qm (by omega) (by omega)];omega
 have hp:(0:Int)<(n:Int):=by omega
 have hw0:IntKind.wrap .i64 0=0:=rfl;have hp0:(0:Int)<=(n:Int):=by omega
 have htn:((n:Int)).toNat=n:=by omega
 have hr1:n<=qf:=by simp only[qf];omega
 have hn0:¬n=0:=by omega
 have hrep:(List.replicate n [AV.y 0]).flatten=rB (List.replicate n 0):=by
  simp[rB,rI,List.flatten_replicate_singleton]
 simp only[qa2,vI,simprocAttr];simp +decide only[↓vS,vT,simprocAttr,hn,hw0,hw,hp,hp0,htn,h0,hr1,hn0,hrep,zzU];intro _;refine⟨[0],?_⟩;simp[vw,qe,qZ]
def rL(L:List (List Int)):List AV:=L.map λb=>.fz b.length (rB b)
def qEB(L:List (List Int)):(rL L).length=L.length:=by simp[rL]
def qcs(L:List (List Int)):qt (rL L)=true:=qbB λb=>by simp[clo,qZ]
def qw9{L:List (List Int)}{j:Nat}{b:List Int}(h:L[j]?=some b):(rL L)[j]?=some (.fz b.length (rB b)):=by simp[rL,h]
def qEA(L M:List (List Int)):rL L++rL M=rL (L++M):=by simp[rL]
def qmV{L:List (List Int)}{j:Nat}{b:List Int}(h:L[j]?=some b):(L.take (j+1)).flatten=(L.take j).flatten++b:=by
 rw[List.take_add_one,h];simp
def qrv{L:List (List Int)}(j:Nat):(L.take j).flatten.length<=L.flatten.length:=by
 have:L.flatten=(L.take j).flatten++(L.drop j).flatten:=by rw[<- List.flatten_append,List.take_append_drop]
 rw[this,zzP];omega
def qEv(a b:List Int):rB a++rB b=rB (a++b):=qof
def qHO(a:List Int):qF (rB a)=true:=qBy
def qEu{a:List Int}{n:Nat}(h:a.length=n):(rB a).take n=rB a:=List.take_of_length_le (by rw[qc4,h];omega)
def xu(a:Nat):ICode:=sq [sq [.r [.n 25 0,.e 26 25,.m 27 (.k 0)],.blk 2 (.loop (sq [.r [.s 28 27 26],.cond (.t 28) (.skip) (.exit 2),.blk 3 (sq [.r [.i 29 1 25 27,.d 30 29,.n 8 30],.r [.n 31 6,.n 32 8,.q 33 (.app 1 1 true (.t 31) (.t 32)),.n 6 33]]),.r [.a 34 27 1,.n 27 34]]))],.r [.n 35 6,.n 2 35],.ret]
def qav(a:Nat):IFn:=⟨[.tmp 2],sq [.r [.m 2 .N],.r [.m 3 (.k 0)],sq [.r [.n 9 0,.e 10 9,.m 11 (.k 0)],.blk 0 (.loop (sq [.r [.s 12 11 10],.cond (.t 12) (.skip) (.exit 0),.blk 1 (sq [.r [.i 13 1 9 11,.d 14 13,.n 5 14],.r [.n 15 3,.n 16 5,.e 17 16,.b 18 .add 15 17,.n 3 18],.r [.n 19 3,.w 20 .lss 19 0],.cond (.t 20) (.r [.q 21 (.no),.u (.no)]) (.skip)]),.r [.a 22 11 1,.n 11 22]]))],.r [.n 23 3,.l 24 a [.N,.t 23],.n 6 24],.cut (xu a)]⟩
def qu5(g n:Nat)(L:List (List Int))(hn:1<=n)(h2:L.flatten.length<=10000000)(h3:L.length<=10000000){t':Tr AV}{h':Hp}(hw:Wk 0 t' h' (mkT [(0,.fz L.length (rL L)),(6,.sl 0 0 0 n true)]) (mkH 0 [.cells 1 true true (rB (List.replicate n 0))])) :
  S P 0 (xu g) (xk [.tmp 2] λv' h'=>Frz h' v' (.fz L.flatten.length (rB L.flatten))) t' h':=by
 refine S.weak hw (S.weak (Wk.trunc 6 0 n 1 (cs:=rB (List.replicate n 0)) (by simp[mkT,Tr.get_set]) rfl (by rw[qc4];simp) hn (Nat.zero_le _)) (qk ?_));simp only[xu,List.set_cons_zero,vI,simprocAttr];simp +decide only[↓vS,vT,simprocAttr];refine SL.loop (α:=Nat) (λj=>[(6,.own 0 (L.take j).flatten.length),(25,.fz L.length (rL L)),(26,.j L.length),(27,.j (j:Int))]) (λj=>[.cells 1 true true (rB (L.take j).flatten)]) (λj=>j<=L.length) (λj=>L.length-j) 0 [0] ?_ ?_ ?_ rfl ?_ ?_
 .simp[vw,qcs]
 .simp[vw,qe,rB,rI]
 .simp
 .exact Nat.zero_le _
 rintro j hj G ih;simp only[vI,simprocAttr]
 by_cases hlt:j<L.length
 .obtain⟨b,hb⟩:∃b,L[j]?=some b:=⟨_,zzE hlt⟩;have gb:=qw9 hb;have hw1:IntKind.wrap .i64 ((j:Int)+1)=((j+1:Nat):Int):=by rw[qm (by omega) (by omega)];omega
  have ih2:=ih (j+1) hlt (by omega);have hle:=qrv (L:=L) (j+1);rw[qmV hb]at ih2 hle;rw[zzP]at hle;generalize(L.take j).flatten=A at ih2 hle ⊢;have hr1:A.length+b.length<=qf:=by simp only[qf];omega
  have htk:=qEu (a:=b) rfl;simp +decide only[↓vS,vT,simprocAttr,hlt,gb,hr1,zzU,htk,qc4,qEv,qHO,hw1];refine ih2 _ _ (Wk.mk _ _ [1] ?_ ?_ ?_ rfl)
  .simp[vw,qcs]
  .simp[vw,qe,qZ]
  .simp
 .obtain rfl:j=L.length:=by omega
  simp +decide only[↓vS,vT,simprocAttr,hlt,List.take_length];simp[vZ,vP,Tr.get_set,qJ (qZ _)];intro h0;have:L.flatten=[]:=List.eq_nil_of_length_eq_zero (by simpa using h0);rw[this];rfl
def qlo(P:Program)(g:Nat):Prop:=∀L:List (List Int),1<=L.flatten.length->L.flatten.length<=10000000->L.length<=10000000->qa P g [.fz L.length (rL L)] (.fz L.flatten.length (rB L.flatten))
def qA9{g:Nat}(hc:qc P f (qav g)=true)(hg:qAZ P g):qlo P f:=by
 intro L h1 h2 h3;refine qa.mk hc (by simp[qt,clo,qcs]) ?_;simp only[qav,vI,simprocAttr];simp +decide only[↓vS,vT,simprocAttr];refine SL.loop (α:=Nat) (λj=>[(0,.fz L.length (rL L)),(3,.j ((L.take j).flatten.length:Int)),(9,.fz L.length (rL L)),(10,.j L.length),(11,.j (j:Int))]) (λ_=>[]) (λj=>j<=L.length) (λj=>L.length-j) 0 [] ?_ ?_ ?_ rfl ?_ ?_
 .simp[vw,qcs]
 .trivial
 .simp
 .omega
 rintro j hj G ih;simp only[vI,simprocAttr]
 by_cases hlt:j<L.length
 .obtain⟨b,hb⟩:∃b,L[j]?=some b:=⟨_,zzE hlt⟩;have gb:=qw9 hb;have hw1:IntKind.wrap .i64 ((j:Int)+1)=((j+1:Nat):Int):=by rw[qm (by omega) (by omega)];omega
  have ih2:=ih (j+1) hlt (by omega);have hle:=qrv (L:=L) (j+1);rw[qmV hb]at ih2 hle;rw[zzP]at ih2 hle;generalize(L.take j).flatten.length=A at ih2 hle ⊢;have hw2:IntKind.wrap .i64 ((A:Int)+(b.length:Int))=((A+b.length:Nat):Int):=by rw[qm (by omega) (by omega)];omega
  have hneg:¬((A+b.length:Nat):Int)<0:=by omega
  simp +decide only[↓vS,vT,simprocAttr,hlt,gb,hw1,hw2,hneg,zzU];refine ih2 _ _ (Wk.mk _ _ [] ?_ ?_ ?_ rfl)
  .simp[vw,qcs]
  .trivial
  .simp
 .obtain rfl:j=L.length:=by omega
  simp +decide only[↓vS,vT,simprocAttr,hlt,List.take_length];refine(hg L.flatten.length h1 h2).sc ?_;simp only[vJ,simprocAttr,xj (qZ _)];simp +decide only[↓vS,vT,simprocAttr];refine qu5 g L.flatten.length L h1 h2 h3 (Wk.mk _ _ [0] ?_ ?_ ?_ rfl)
  .simp[vw,qcs]
  .simp[vw,qe,qZ]
  .simp
def qjm(a:Nat):IFn:=⟨[.tmp 2],sq [.r [.m 2 .N],.r [.n 3 0,.l 4 a [.t 3],.n 2 4],.ret]⟩
def qKa{g:Nat}(hc:qc P f (qjm g)=true)(hg:qlo P g):qlo P f:=by
 intro L h1 h2 h3;refine qa.mk hc (by simp[qt,clo,qcs]) ?_;simp only[qjm,vI,simprocAttr];simp +decide only[↓vS,vT,simprocAttr];refine(hg L h1 h2 h3).sc ?_;simp +decide only[↓vS,vT,simprocAttr];simp[vZ]
def qdH(i:Ins):List Int:=xw 2 i.code++([i.jt,i.jf]++xw 4 i.k)
def qdI(i:Ins):(qdH i).length=8:=rfl
def qgM(a b c:Nat):IFn:=⟨[.tmp 2],sq [.r [.q 1 (.box (.t 0)),.m 2 .N],.reg true [.f 3 0 1,.d 4 3,.l 5 a [.t 4],.f 6 1 1,.d 7 6,.f 8 2 1,.d 9 8,.q 10 (.buildS 2 [.y 0] [(0,1,(.t 7)),(1,1,(.t 9))]),.f 11 3 1,.d 12 11,.l 13 b [.t 12],.q 14 (.buildS 3 [.nils] [(0,1,(.t 5)),(1,1,(.t 10)),(2,1,(.t 13))]),⟨(some 15),.callW c [.t 14],none⟩,.n 2 15],.ret]⟩
def qBi{g1 g2 g3:Nat}(hc:qc P f (qgM g1 g2 g3)=true)(h1:∀x:Int,qa P g1 [.h x] (.fz 2 (rB (xw 2 x))))(h2:∀x:Int,qa P g2 [.w x] (.fz 4 (rB (xw 4 x))))(h3:qlo P g3)(i:Ins):qa P f [.agg (qC i)] (.fz 8 (rB (qdH i))):=by
 refine qa.mk hc rfl ?_;have hfl:([xw 2 i.code,[i.jt,i.jf],xw 4 i.k]:List (List Int)).flatten=qdH i:=by simp[qdH]
 have hcat:=h3 [xw 2 i.code,[i.jt,i.jf],xw 4 i.k] (by rw[hfl,qdI];decide) (by rw[hfl,qdI];decide) (by simp);rw[hfl,qdI]at hcat;simp only[qgM,qC,vI,simprocAttr];simp +decide only[↓vS,vT,simprocAttr];refine zg ?_;simp +decide only[↓vS,vT,simprocAttr];refine(h1 i.code).pc ?_;simp +decide only[↓vS,vT,simprocAttr];refine(h2 i.k).pc ?_;simp +decide only[↓vS,vT,simprocAttr];refine PC.give (vs':=[.fz 3 (rL [xw 2 i.code,[i.jt,i.jf],xw 4 i.k])]) [(2,.v [.fz 2 (rB (xw 2 i.code)),.sl 1 0 2 2 false,.fz 4 (rB (xw 4 i.k))]),(1,.v [.y i.jt,.y i.jf])] ?_ ?_ ?_
 .simp_all[Tr.get_set]
 .refine .fz _ _ _ _ (.cut 1 rfl (zzL _) ?_) .nil;simp[vw,trP,rL,qaB];refine Frz.cut 1 rfl (zzL _) ?_;simp[vw,trP,rB,rI]
 simp only[qW,zp,qx];refine hcat.pc ?_;simp +decide only[↓vS,vT,simprocAttr];simp[vZ]
def qb7(p:List Ins):List Int:=p.flatMap qdH
def qdJ:∀p:List Ins,(qb7 p).length=p.length*8
 | []=>rfl
 | i::p=>by
  have h:=qdJ p;have h2:qb7 (i::p)=qdH i++qb7 p:=rfl;rw[h2,zzP,qdI,h,List.length_cons];omega
def qjZ(p:List Ins):(p.map qdH).flatten=qb7 p:=by simp[qb7,List.flatMap_def]
def qji(a:Nat):IFn:=⟨[.tmp 2],sq [.r [.q 1 (.box (.t 0)),.m 2 (.c (.nilf))],.r [.q 3 (.mkF a [] [.t 1]),.n 2 3],.ret]⟩
def qIg{g:Nat}(hc:qc P f (qji g)=true)(p:List Ins):qa P f [.fz p.length (rP p)] (.fn g [] [.pf [.fz p.length (rP p)] 0]):=by
 refine qa.mk hc (by simp[qt,clo,qr]) ?_;simp only[qji,vI,simprocAttr];simp +decide only[↓vS,vT,simprocAttr];simp[vZ,vP,Tr.get_set,qr]
 done
def qgN(a:Nat):IFn:=⟨[],sq [.r [.d 5 1,.e 6 5,.m 7 (.k 0)],.blk 0 (.loop (sq [.r [.s 8 7 6],.cond (.t 8) (.skip) (.exit 0),.blk 1 (sq [.r [.i 9 4 5 7,.v 10 4 9,.q 4 (.alloc [.h 0,.y 0,.y 0,.w 0]),.u (.store 4 (.t 4) (.t 10))],.r [.n 11 0,.v 12 4 4,.l 13 a [.t 12],⟨(some 14),.callV (.t 11) [.t 13],none⟩,.q 15 (.un .not (.t 14))],.cond (.t 15) (.ret) (.skip)]),.r [.a 16 7 1,.n 7 16]]))]⟩
def qcf(a b:Nat):ICode:=sq [.r [.d 16 4,.l 17 b [.t 16],.n 2 17,.m 3 (.k 0)],.ret]
def qh4(a b:Nat):IFn:=⟨[.tmp 2,.tmp 3],sq [.r [.m 2 .N,.m 3 (.k 0)],sq [.r [.n 6 0,.e 7 6,.w 8 .gtr 7 4096],.cond (.t 8) (sq [.r [.m 2 .N,.m 3 (.k 3)],.ret]) (.skip)],.r [.q 4 (.alloc [.nils])],sq [.r [.n 9 0,.l 10 a [.t 9]],.blk 0 (.rangeF 0 (.t 10) [11] (.r [.n 5 11]) (.blk 1 (.r [.d 12 4,.n 13 5,.q 14 (.buildS 1 [.nils] [(0,1,(.t 13))]),.q 15 (.app 1 24 true (.t 12) (.t 14)),.u (.store 1 (.t 4) (.t 15))])))],.cut (qcf a b)]⟩
def prT(g:Nat)(p:List Ins):List (Nat×AV):=[(4,.ptr 0 0),(10,.fn g [] [.pf [.fz p.length (rP p)] 0])]
def qwZ{g1 g2:Nat}(hg:qlo P g2)(p:List Ins)(h1:1<=p.length)(h2:p.length<=4096){t':Tr AV}{h':Hp}(hw:Wk 0 t' h' (mkT [(4,.ptr 0 0)]) (mkH 0 [.v [.own 1 p.length],.cells 1 true true (rL (p.map qdH))])) :
  S P 0 (qcf g1 g2) (xk [.tmp 2,.tmp 3] λv' h'=>Frz h' v' (.tup [.fz (qb7 p).length (rB (qb7 p)),.j 0])) t' h':=by
 refine S.weak hw (qk ?_);have hl:=qdJ p;have hcat:=hg (p.map qdH) (by rw[qjZ,hl];omega) (by rw[qjZ,hl];omega) (by rw[List.length_map];omega);rw[qjZ,List.length_map]at hcat;simp only[qcf,vI,simprocAttr];simp +decide only[↓vS,vT,simprocAttr];refine hcat.give [(1,.cells 1 true true (rL (p.map qdH)))] (by simp[Tr.get_set]) rfl ?_ ?_
 .simp[vZ,vP,Tr.get_set,qJ (qcs _),trP]
  grind
 simp only[qW,zp,qx];simp +decide only[↓vS,vT,simprocAttr];simp[vZ]
def qGL(P:Program)(g:Nat):Prop:=∀p:List Ins,1<=p.length->p.length<=4096->qa P g [.fz p.length (rP p)] (.tup [.fz (qb7 p).length (rB (qb7 p)),.j 0])
def qC8{g1 g2 g3 g4:Nat}(hc:qc P f (qh4 g1 g2)=true)(h1:∀p:List Ins,qa P g1 [.fz p.length (rP p)] (.fn g3 [] [.pf [.fz p.length (rP p)] 0]))(hc3:qc P g3 (qgN g4)=true)(h2:qlo P g2)
  (h4:∀i:Ins,qa P g4 [.agg (qC i)] (.fz 8 (rB (qdH i)))):qGL P f:=by
 intro p hp1 hp2;refine qa.mk hc (by simp[qt,clo,qr]) ?_;have hbig:¬(4096:Int)<p.length:=by omega
 simp only[qh4,vI,simprocAttr];simp +decide only[↓vS,vT,simprocAttr,hbig];refine(h1 p).sc ?_;simp +decide only[↓vS,vT,simprocAttr];refine S.weak (Wk.mk (prT g3 p) [.v [.nils]] [0] ?_ ?_ ?_ rfl) ?_
 .simp[vw,prT,qr]
 .simp[vw]
 .simp
 refine S.rangeF (by simp[jy]) (by simp[prT]) ⟨rfl,rfl⟩ ?_;refine qhT.2 ⟨.fn g3 [] [.pf [.fz p.length (rP p)] 0],by simp[prT,mkT,Tr.get_set],?_⟩
 refine⟨qbC hc3,λr0 hr0 hp0 hlo=>SC.mk hc3 ?_⟩
 have hid:=qd0 hr0 hp0;show S P 2 _ _ (qbl [.yl 1,.pf [.fz p.length (rP p)] 0] 0 .leaf) ⟨2,0,(Tr.leaf.set 0 (.v [.nils])).set 1 (.map (zz r0 (prT g3 p)))⟩;refine qk ?_;simp only[qgN,vI,simprocAttr];simp only[↓vS,vT,simprocAttr];refine SL.loopn (α:=Nat) (λj=>[(0,.yl 1),(1,.pf [.fz p.length (rP p)] 0),(5,.fz p.length (rP p)),(6,.j (p.length:Int)),(7,.j (j:Int))]) (λj=>[.v [.own 2 j],.map (zz r0 (prT g3 p)),.cells 1 true true (rL ((p.take j).map qdH))]) (λj=>j<=p.length) (λj=>p.length-j) 0 [0,1,99] ?_ ?_ ?_ rfl ?_ ?_ ?_ ?_
 .simp[vw,qr]
 .simp[vw,prT,qr,rL,jO,jV,jg,zS]
 .simp
 .simp
 .intro x hx;have:x=0\/x=1:=by omega
  rcases this with rfl|rfl<;>rfl
 .omega
 rintro j hj G ih;simp only[vI,simprocAttr]
 by_cases hlt:j<p.length
 .have hlt':(j:Int)<p.length:=by omega
  obtain⟨i,hpi⟩:∃i,p[j]?=some i:=⟨_,zzE hlt⟩;have hel:=qG (f:=qC) (m:=4) jC hpi;rw[show p.flatMap qC=rP p from rfl]at hel
  have h4':j*4+4<=(rP p).length:=by rw[qbS];omega
  have hw1:IntKind.wrap .i64 ((j:Int)+1)=((j+1:Nat):Int):=by rw[qm (by omega) (by omega)];omega
  have henc:=h4 i;have hnx:(p.take (j+1)).map qdH=(p.take j).map qdH++[qdH i]:=by rw[List.take_add_one,hpi];simp
  have ih2:=ih (j+1);rw[hnx]at ih2;have hAl:((p.take j).map qdH).length=j:=by rw[List.length_map,List.length_take];omega
  generalize(p.take j).map qdH=A at ih2 hAl ⊢;have e8:=qdI i;generalize qdH i=E at henc e8 ih2;have hr1:j+1<=qf:=by simp only[qf];omega
  have hr2:(j+1)*24<=qf:=by simp only[qf];omega
  have hlr:(rL A).length=j:=by rw[qEB,hAl]
  have hap:rL A++[.fz 8 (rB E)]=rL (A++[E]):=by rw[<- qEA];simp[rL,e8]
  simp only[qC]at hel henc;simp +decide only[↓vS,vT,simprocAttr,hlt,hlt',hel,h4'];refine henc.sc ?_;simp +decide only[↓vS,vT,simprocAttr];change SY P 1 [.fz 8 (rB E)] _ _;refine SY.mk (r:=r0) (ts:=prT g3 p) (ps:=[11]) (by simp[Tr.get_set]) hr0 hlo (Nat.zero_le _) (by simp_all) rfl ?_;rw[show mkT (prT g3 p)=(Tr.leaf.set 10 (.fn g3 [] [.pf [.fz p.length (rP p)] 0])).set 4 (.ptr 0 0)from rfl]
  refine qk ?_;simp only[qjw,vI,simprocAttr];simp only[↓vS,vT,simprocAttr];refine⟨prT g3 p,by simp[Tr.get_set],?_⟩
  refine qk ?_;simp only[qx,vI,simprocAttr];simp +decide only[↓vS,vT,simprocAttr,hr1,hr2,hlr,hap,zzU];refine⟨bsy r0,prT g3 p,by simp[Tr.get_set],?_⟩
  rw[qct,hid];simp only[qx];simp +decide only[↓vS,vT,simprocAttr,hw1];refine ih2 (by omega) (by omega) _ _ (Wk.mkn _ _ [0,1,5] ?_ ?_ ?_ rfl ?_ ?_)
  .simp[vw,qr]
  .simp[vw,prT,qr,jO,jV,jg,zS,qe,qcs]
  .simp
  .simp
  .intro x hx;have:x=0\/x=1:=by omega
   rcases this with rfl|rfl<;>rfl
 .clear ih;obtain rfl:j=p.length:=by omega
  simp +decide only[↓vS,vT,simprocAttr,hlt];refine⟨r0,prT g3 p,by simp[Tr.get_set],by rw[hr0];decide,?_⟩
  rw[hp0];simp only[qx];simp only[↓vS,vT,simprocAttr];refine qwZ h2 p hp1 hp2 (Wk.mk _ _ [0,2] ?_ ?_ ?_ rfl)
  .simp[vw,prT,mkT]
  .simp[vw,qe,qcs]
  .simp
def qjJ(x:Prg):List Int:=[IntKind.wrap .u8 x.dir,IntKind.wrap .u8 x.arch]++(xw 2 x.ins.length++qb7 x.ins)
def jU(l:List Prg):List Int:=l.flatMap qjJ
def qjK(x:Prg):(qjJ x).length=4+x.ins.length*8:=by
 unfold qjJ;rw[zzP,zzP,qaB,qdJ];grind
def qt5{l:List Prg}{j:Nat}{x:Prg}(h:l[j]?=some x):jU (l.take (j+1))=jU (l.take j)++qjJ x:=by
 rw[List.take_add_one,h];simp[jU]
def qop:∀{l:List Prg},(∀x ∈ l,x.ins.length<=4096)->(jU l).length<=40000*l.length
 | [],_=>Nat.zero_le _
 | x::l,h=>by
  have h1:=qop (l:=l) λy hy=>h y (by grind)
  have h2:=h x (by simp);have h3:jU (x::l)=qjJ x++jU l:=rfl;rw[h3,zzP,qjK,List.length_cons];omega
theorem qqQ{x:Prg}(hx:∀i ∈ x.ins,InsOk i)(h:qdX x=true):PrgGood x.ins:=by
 unfold qdX at h;simp only[zzB,decide_eq_true_eq]at h;obtain⟨h1,h2,h3,h4,_⟩:=qB7 h.1;exact⟨h2,h1,hx,h3,h4⟩
def qkE{l:List Prg}(hx:∀x ∈ l,∀i ∈ x.ins,InsOk i)(h:qaz l=true):l.length<=48/\∀x ∈ l,PrgGood x.ins:=by
 unfold qaz at h
 grind[qqQ]
def qiR(l:List Prg)(d:GData):List Int:=l.map λx=>(qjF x.ins d).1
def evS(l:List Prg)(d:GData):Int:=qgv (qiR l d)
def qoG(l:List Prg)(d:GData):(qiR l d).length=l.length:=by simp[qiR]
def qsB{l:List Prg}{d:GData}{j:Nat}{x:Prg}(h:l[j]?=some x):qiR (l.take (j+1)) d=qiR (l.take j) d++[(qjF x.ins d).1]:=by
 rw[List.take_add_one,h];simp[qiR]
def qGM(P:Program)(g:Nat):Prop:=∀p,PrgGood p->∀d,DatOk d->∃n:Int,qa P g [.fz p.length (rP p),.agg (zJ d)] (.tup [.w (qjF p d).1,.j n,.j 0])
def qoV(P:Program)(g:Nat):Prop:=∀l:List Prg,l.length<=100->(∀x ∈ l,PrgIn x)->qa P g [.fz l.length (rPr l)] (.b (qaz l))
def quK(P:Program)(g:Nat):Prop:=∀l:List Int,(∀x ∈ l,u32 x)->l.length<=100000->qa P g [.fz l.length (rI .u32 l)] (.w (qgv l))
def qes(a:Nat):IFn:=⟨[.tmp 2],sq [.r [.m 2 (.c (.w 0))],.r [.n 3 0,.l 4 a [.t 3],.n 2 4],.ret]⟩
def qx1{g:Nat}(hc:qc P f (qes g)=true)(hg:quK P g):quK P f:=by
 intro l hl hn;refine qa.mk hc (by simp[qt,clo,qi]) ?_;simp only[qes,vI,simprocAttr];simp +decide only[↓vS,vT,simprocAttr];refine(hg l hl hn).sc ?_;simp +decide only[↓vS,vT,simprocAttr];simp[vZ]
def qcj(a b c:Nat):ICode:=sq [.r [.n 34 6,.l 35 c [.t 34],.n 4 35,.m 5 (.k 0)],.ret]
def qeO(a b c:Nat):IFn:=⟨[.tmp 4,.tmp 5],sq [.r [.q 3 (.box (.t 1)),.m 4 (.c (.w 0)),.m 5 (.k 0)],sq [.r [.n 12 0,.l 13 a [.t 12],.q 14 (.un .not (.t 13))],.cond (.t 14) (sq [.r [.m 4 (.c (.w 0)),.m 5 (.k 290)],.ret]) (.skip)],.r [.m 6 .N],sq [.r [.n 15 0,.e 16 15,.m 17 (.k 0)],.blk 0 (.loop (sq [.r [.s 18 17 16],.cond (.t 18) (.skip) (.exit 0),.blk 1 (sq [.r [.i 19 3 15 17,.v 20 3 19,.q 8 (.alloc [.j 0,.j 0,.nils]),.u (.store 3 (.t 8) (.t 20))],.r [.f 22 2 8,.d 23 22,.v 24 9 3,.l 25 b [.t 23,.t 24],.n 21 25,.x 26 21 0,.x 27 21 1,.x 28 21 2,.n 9 26,.n 10 27,.n 11 28],.r [.n 29 6,.n 30 9,.q 31 (.buildS 1 [.w 0] [(0,1,(.t 30))]),.q 32 (.app 1 4 true (.t 29) (.t 31)),.n 6 32]]),.r [.a 33 17 1,.n 17 33]]))],.cut (qcj a b c)]⟩
def qy4{g1 g2 g3:Nat}(hg:quK P g3)(A:List Int)(hA:∀x ∈ A,u32 x)(hn:A.length<=100){t':Tr AV}{h':Hp}(hw:Wk 0 t' h' (mkT [(6,.own 0 A.length)]) (mkH 0 [.cells 1 true true (rI .u32 A)])) :
  S P 0 (qcj g1 g2 g3) (xk [.tmp 4,.tmp 5] λv' h'=>Frz h' v' (.tup [.w (qgv A),.j 0])) t' h':=by
 refine S.weak hw (qk ?_);simp only[qcj,vI,simprocAttr];simp +decide only[↓vS,vT,simprocAttr];refine(hg A hA (by omega)).give [(0,.cells 1 true true (rI .u32 A))] (by simp[Tr.get_set]) rfl ?_ ?_
 .simp[vZ,vP,Tr.get_set,qJ qi,trP];intro h0;rw[h0];rfl
 simp only[qW,zp,qx];simp +decide only[↓vS,vT,simprocAttr];simp[vZ]
def qF1{g1 g2 g3:Nat}(hc:qc P f (qeO g1 g2 g3)=true)(h1:qoV P g1)(h2:qGM P g2)(h3:quK P g3)(l:List Prg)(hl:l.length<=100)(hx:∀x ∈ l,PrgIn x)(d:GData)(hd:DatOk d) :
  qa P f [.fz l.length (rPr l),.agg (zJ d)] (if qaz l=true then .tup [.w (evS l d),.j 0]else .tup [.w 0,.j 290]):=by
 refine qa.mk hc (by simp[qt,clo,xi,qht]) ?_;have hmay:=h1 l hl hx
 by_cases hm:qaz l=true
 .rw[if_pos hm];rw[hm]at hmay;obtain⟨h48,hgood⟩:=qkE (by grind[PrgIn.ins]) hm
  have hu:∀x ∈ qiR l d,u32 x:=λx hxm=>by
   obtain⟨y,hy,rfl⟩:=List.mem_map.1 hxm
   grind[qt1,PrgGood.ins]
  simp only[qeO,vI,simprocAttr];simp +decide only[↓vS,vT,simprocAttr];refine hmay.sc ?_;simp +decide only[↓vS,vT,simprocAttr];refine SL.loop (α:=Nat) (λj=>[(3,.ptr 0 0),(6,.own 1 (qiR (l.take j) d).length),(15,.fz l.length (rPr l)),(16,.j l.length),(17,.j (j:Int))]) (λj=>[.v (zJ d),.cells 1 true true (rI .u32 (qiR (l.take j) d))]) (λj=>j<=l.length) (λj=>l.length-j) 0 [0,99] ?_ ?_ ?_ rfl ?_ ?_
  .simp[vw,xi,qiR]
  .simp[vw,qe,qht,qiR,rI];exact NVs.refl qht
  .simp
  .omega
  rintro j hj G ih;simp only[vI,simprocAttr]
  by_cases hlt:j<l.length
  .obtain⟨x,hpx⟩:∃x,l[j]?=some x:=⟨_,zzE hlt⟩;have hxm:=zzM hpx;have ex:=qG (f:=cPr) (m:=3) qfD hpx;rw[show l.flatMap cPr=rPr l from rfl]at ex
   simp only[cPr]at ex;have bx:j*3+3<=(rPr l).length:=by rw[qhF];omega
   have hw1:IntKind.wrap .i64 ((j:Int)+1)=((j+1:Nat):Int):=by rw[qm (by omega) (by omega)];omega
   obtain⟨n,hrun⟩:=h2 x.ins (hgood x hxm) d hd;have ih2:=ih (j+1) hlt (by omega);have hal:(qiR (l.take j) d).length<=100:=by rw[qoG,List.length_take];omega
   rw[qsB hpx]at ih2;generalize qiR (l.take j) d=A at ih2 hal ⊢;have hr1:A.length+1<=qf:=by simp only[qf];omega
   have hr2:(A.length+1)*4<=qf:=by simp only[qf];omega
   have hap:rI .u32 A++[.w (qjF x.ins d).1]=rI .u32 (A++[(qjF x.ins d).1]):=by rw[<- qof];rfl
   have hll:(rI .u32 A).length=A.length:=jS;simp +decide only[↓vS,vT,simprocAttr,hlt,ex,bx,qqA,quT];refine hrun.sc ?_;simp +decide only[↓vS,vT,simprocAttr,hr1,hr2,hap,hll,zzU,hw1];refine ih2 _ _ (Wk.mk _ _ [0,4] ?_ ?_ ?_ rfl)
   .simp[vw,xi]
   .simp[vw,qe,qi];exact NVs.refl qht
   .simp
  .obtain rfl:j=l.length:=by omega
   simp +decide only[↓vS,vT,simprocAttr,hlt,List.take_length];refine qy4 h3 (qiR l d) hu (by rw[qoG];exact hl) (Wk.mk _ _ [1] ?_ ?_ ?_ rfl)
   .simp[vw]
   .simp[vw,qe,qi]
   .simp
 .have hf:qaz l=false:=by simp_all
  rw[if_neg hm];rw[hf]at hmay;simp only[qeO,vI,simprocAttr];simp +decide only[↓vS,vT,simprocAttr];refine hmay.sc ?_;simp +decide only[↓vS,vT,simprocAttr];simp[vZ]
def qdS(a b c d:Nat):IFn:=⟨[.tmp 2,.tmp 3],sq [.r [.m 2 .N,.m 3 (.k 0)],sq [.r [.n 9 0,.l 10 a [.t 9],.q 11 (.un .not (.t 10))],.cond (.t 11) (sq [.r [.m 2 .N,.m 3 (.k 290)],.ret]) (.skip)],.r [.m 4 .N],sq [.r [.n 12 0,.e 13 12,.m 14 (.k 0)],.blk 0 (.loop (sq [.r [.s 15 14 13],.cond (.t 15) (.skip) (.exit 0),.blk 1 (sq [.r [.i 16 3 12 14,.v 17 3 16,.q 6 (.alloc [.j 0,.j 0,.nils]),.u (.store 3 (.t 6) (.t 17))],.r [.f 19 2 6,.d 20 19,.l 21 b [.t 20],.n 18 21,.x 22 18 0,.x 23 18 1,.n 7 22,.n 8 23],.reg true [.n 24 4,.f 25 0 6,.d 26 25,.q 27 (.cvInt .u8 (.t 26)),.f 28 1 6,.d 29 28,.q 30 (.cvInt .u8 (.t 29)),.q 31 (.buildS 2 [.y 0] [(0,1,(.t 27)),(1,1,(.t 30))]),.f 32 2 6,.d 33 32,.e 34 33,.q 35 (.cvInt .u16 (.t 34)),.l 36 c [.t 35],.n 37 7,.q 38 (.buildS 4 [.nils] [(0,1,(.t 24)),(1,1,(.t 31)),(2,1,(.t 36)),(3,1,(.t 37))]),⟨(some 39),.callW d [.t 38],none⟩,.n 4 39]]),.r [.a 40 14 1,.n 14 40]]))],.r [.n 41 4,.n 2 41,.m 3 (.k 0)],.ret]⟩
def qE3{g1 g2 g3 g4:Nat}(hc:qc P f (qdS g1 g2 g3 g4)=true)(h1:qoV P g1)(h2:qGL P g2)(h3:∀x:Int,qa P g3 [.h x] (.fz 2 (rB (xw 2 x))))(h4:qlo P g4)(l:List Prg)(hl:l.length<=100)(hx:∀x ∈ l,PrgIn x) :
  qa P f [.fz l.length (rPr l)] (if qaz l=true then .tup [.fz (jU l).length (rB (jU l)),.j 0]else .tup [.fz 0 [],.j 290]):=by
 refine qa.mk hc (by simp[qt,clo,xi]) ?_;have hmay:=h1 l hl hx
 by_cases hm:qaz l=true
 .rw[if_pos hm];rw[hm]at hmay;obtain⟨h48,hgood⟩:=qkE (by grind[PrgIn.ins]) hm;simp only[qdS,vI,simprocAttr];simp +decide only[↓vS,vT,simprocAttr];refine hmay.sc ?_;simp +decide only[↓vS,vT,simprocAttr];refine SL.loop (α:=Nat) (λj=>[(4,.fz (jU (l.take j)).length (rB (jU (l.take j)))),(12,.fz l.length (rPr l)),(13,.j l.length),(14,.j (j:Int))]) (λ_=>[]) (λj=>j<=l.length) (λj=>l.length-j) 0 [] ?_ ?_ ?_ rfl ?_ ?_
  .simp[vw,xi,jU,rB,rI]
  .trivial
  .simp
  .omega
  rintro j hj G ih;simp only[vI,simprocAttr]
  by_cases hlt:j<l.length
  .obtain⟨x,hpx⟩:∃x,l[j]?=some x:=⟨_,zzE hlt⟩;have hxm:=zzM hpx;have hgx:=hgood x hxm;have ex:=qG (f:=cPr) (m:=3) qfD hpx;rw[show l.flatMap cPr=rPr l from rfl]at ex
   simp only[cPr]at ex;have bx:j*3+3<=(rPr l).length:=by rw[qhF];omega
   have hw1:IntKind.wrap .i64 ((j:Int)+1)=((j+1:Nat):Int):=by rw[qm (by omega) (by omega)];omega
   have hxl:=hgx.len;have hw2:IntKind.wrap .u16 (x.ins.length:Int)=(x.ins.length:Int):=by show(x.ins.length:Int) % 65536=_;omega
   have hpr:=h2 x.ins (by have:=hgx.ne;omega) hxl
   have hall:(jU (l.take j)).length<=2000000:=by
    have h3:=qop (l:=l.take j) (by grind[PrgGood.len]);have:(l.take j).length<=48:=by rw[List.length_take];omega
    omega
   have ih2:=ih (j+1) hlt (by omega);rw[qt5 hpx]at ih2;have hfl:∀A:List Int,([A,[IntKind.wrap .u8 x.dir,IntKind.wrap .u8 x.arch],xw 2 x.ins.length,qb7 x.ins]:List (List Int)).flatten=A++qjJ x:=λA=>by simp[qjJ]
   have hsl:=qjK x;generalize jU (l.take j)=A at ih2 hall ⊢;have hcat:=h4 [A,[IntKind.wrap .u8 x.dir,IntKind.wrap .u8 x.arch],xw 2 x.ins.length,qb7 x.ins] (by rw[hfl,zzP];omega) (by rw[hfl,zzP];omega) (by simp);rw[hfl]at hcat;simp +decide only[↓vS,vT,simprocAttr,hlt,ex,bx];refine hpr.sc ?_;simp +decide only[↓vS,vT,simprocAttr];refine zg ?_;simp +decide only[↓vS,vT,simprocAttr,hw2];refine(h3 x.ins.length).pc ?_;simp +decide only[↓vS,vT,simprocAttr];refine PC.give (vs':=[.fz 4 (rL [A,[IntKind.wrap .u8 x.dir,IntKind.wrap .u8 x.arch],xw 2 x.ins.length,qb7 x.ins])]) [(2,.v [.fz A.length (rB A),.sl 1 0 2 2 false,.fz 2 (rB (xw 2 x.ins.length)),.fz (qb7 x.ins).length (rB (qb7 x.ins))]),(1,.v [.y (IntKind.wrap .u8 x.dir),.y (IntKind.wrap .u8 x.arch)])] ?_ ?_ ?_
   .simp_all[Tr.get_set]
   .refine .fz _ _ _ _ (.cut 1 rfl (zzL _) ?_) .nil;simp[vw,trP,rL,qaB];refine Frz.cut 1 rfl (zzL _) ?_;simp[vw,trP,rB,rI]
   simp only[qW,zp,qx];refine hcat.pc ?_;simp +decide only[↓vS,vT,simprocAttr,hw1];refine ih2 _ _ (Wk.mk _ _ [] ?_ ?_ ?_ rfl)
   .simp[vw,xi,qZ]
   .trivial
   .simp
  .obtain rfl:j=l.length:=by omega
   simp +decide only[↓vS,vT,simprocAttr,hlt,List.take_length];simp[vZ,vP,Tr.get_set,qJ (qZ _)]
 .have hf:qaz l=false:=by simp_all
  rw[if_neg hm];rw[hf]at hmay;simp only[qdS,vI,simprocAttr];simp +decide only[↓vS,vT,simprocAttr];refine hmay.sc ?_;simp +decide only[↓vS,vT,simprocAttr];simp[vZ]
end Go.Kc
end
