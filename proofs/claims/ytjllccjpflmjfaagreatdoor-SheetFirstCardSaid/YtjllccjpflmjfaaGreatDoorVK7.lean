/- Part 7 of the proof. No condition. -/
import Derived.Test.YtjllccjpflmjfaaGreatDoorVK6
import Derived.KernelRfl
set_option maxHeartbeats 4000000
set_option maxRecDepth 1000000
set_option linter.defProp false
set_option linter.unusedSectionVars false
set_option linter.unusedSimpArgs false
set_option linter.unusedVariables false
set_option linter.unnecessarySimpa false
namespace Go.Kc
section
variable [Cur]
def qnl{is:Int->Bool}:∀{l:List Int}{o:Option Int},zL is o l=true->∀n ∈ l,is n=true
 | [],_,_,n,hn=>by cases hn
 | x::l,o,h,n,hn=>by
  simp only[zL,zzB]at h;rcases zzc.1 hn with rfl|hn
  .exact h.1.1
  .exact qnl h.2 n hn
def qwx{p:Pol}(hm:qae p=true)(h0:0<p.arches.length):qnL p.arches=false:=by
 have h:zL (λa=>decide (0<=a)&&decide (a<6)) none p.arches=true:=by
  rw[qty]at hm;simp only[zzB]at hm;exact hm.1
 unfold qnL;rw[Bool.or_eq_false_iff];refine⟨by simpa using(λe=>by rw[e]at h0;simp at h0:¬p.arches=[]),?_⟩
 rw[List.any_eq_false];intro x hx;have:=qnl h x hx;simp only[zzB,zzb]at this;simp;exact Ac
variable {p:Pol}{a0:Asg}
def qmq(hp:PolOk p)(hR:PolR p)(hg:zJ p a0=false)(hm:qae p=true)(o:Bool):∀q ∈ zm p,(qek p o q).2=0:=by
 intro q hq
 have hf:p.fams.length<=20:=by
  simp only[zJ,qa0,Bool.or_eq_false_iff,decide_eq_false_iff_not]at hg;exact Ac
 rcases qhK hq with⟨rfl,h0⟩|⟨d,a,x,hx,rfl⟩
 .have e:qek p o (0,6,qnJ)=gdC p.arches o:=if_pos rfl;rw[e];exact(qD5 (qwx hm h0) o).1
 .obtain⟨f1,f2,f3,d0,_⟩:=qos hp hR hx;have e:qek p o (d,a,x)=qdk x o:=if_neg d0;rw[e];have hs:=qGm hg hx;exact((qxi (qtt hp hR hf hx).2.1 f1 f3 o).resolve_left λh=>Ac).1
def qfg(hp:PolOk p)(hR:PolR p)(hg:zJ p a0=false)(hm:qae p=true)(o:Bool):xR p o=((zm p).map (toP p o),0):=by
 unfold xR;rw[if_pos hm,if_pos (qmq hp hR hg hm o)]
def qhZ(hm:qae p=false)(o:Bool):xR p o=([],2):=by
 unfold xR;rw[hm];rfl
def qns(hp:PolOk p)(hR:PolR p)(hg:zJ p a0=false)(a:Int)(o o':Bool):shM p a o=shM p a o':=by
 unfold shM;split
 .rename_i ha;cases hm:qae p with
  | false=>rw[qhZ hm,qhZ hm]
  | true =>
   rw[qfg hp hR hg hm o,qfg hp hR hg hm o',if_pos rfl,if_pos rfl]
   have e:shL ((zm p).map (toP p o)) a=shL ((zm p).map (toP p o')) a:=by
    unfold shL;refine List.map_congr_left λc hc=>?_
    have hd:=qjK ha.1 ha.2 (qo4 ha.1 ha.2 c hc);unfold shR;rw[qr3 hp hR (qmq hp hR hg hm o) hd,qr3 hp hR (qmq hp hR hg hm o') hd]
   simp only;rw[e]
 .rfl
end
section
variable [Cur]
variable {P:Program}{f:Nat}
def qA8(P:Program)(g:Nat):Prop:=∀p,PolOk p->PolR p->∀a o,qa P g [.agg (qr p),.j a,.b o] (.tup [.fz (shM p a o).1.length (rS ((shM p a o).1.map xW)),.j (shM p a o).2])
def jT(a b c d:Nat):IFn:=irJ 4 [6,a,7,b,8,c,12,d]
def qv1{g1 g2 g3 g4:Nat}(hc:Ck P f (jT g1 g2 g3 g4))(h1:∀p a,qa P g1 [.agg (qr p),.agg (qjJ a)] (.b (zJ p a)))(h2:qa P g2 [] (.b true))(h3:qA8 P g3)
  (h4:∀a b:List (List UInt8),a.length<=1000->b.length<=1000->qa P g4 [.fz a.length (rS a),.fz b.length (rS b)] (.b (decide (a=b)))) (p:Pol) (hR:PolR p) (a:Int):qa P f [.agg (qr p),.j a] (.b true):=by
 refine C8 ?_;have p1:=h1 p qi0;simp only[jT,vI,simprocAttr];cases hG:zJ p qi0 with
 | true =>
  rw[hG]at p1;simp only[qr,qjJ,qi0]at p1;refine Aw ?_;refine Ab ?_;refine h2.sc ?_;refine Ab ?_;simp[vZ]
 | false =>
  rw[hG]at p1;have hp:=(qmL hG).2.2.1;have e:=qns hp hR hG a false true;have p3:=h3 p hp hR a true;have p3':=h3 p hp hR a false;rw[e]at p3';have hl:=qmd p a true;generalize hL:(shM p a true).1.map xW=L at *;have hn:(shM p a true).1.length=L.length:=by rw[<- hL,zzz]
  rw[hn]at p3 p3' hl;have p4:=h4 L L Ac Ac;generalize(shM p a true).2=e2 at *;simp only[qr,qjJ,qi0]at p1 p3 p3';refine Aw ?_;refine Ab ?_;refine p3.sc ?_;refine Ab ?_;refine p3'.sc ?_;refine Ab ?_;refine p4.sc ?_;refine Sa decide_true ?_;refine h2.sc ?_;refine Ab ?_;simp[vZ]
end
section
variable [Cur]
def qFA{x:GFil}(hK:jr x=true)(d:GData):knA (qlG x d)=true:=by
 have h1:knA 2147418112=true:=Af
 simp only[jr,zzB]at hK;have hr:=qh4 hK.2;unfold qlG;split
 .exact h1
 .split
  .exact hK.1.2
  .rename_i r hr';have hm:=hr r (List.mem_of_find?_eq_some hr');simp only[qaZ,zzB]at hm;split
   .rename_i t ht;have:=zzy.1 hm.1.2 t (List.mem_of_find?_eq_some ht);simp only[wM,zzB]at this;exact this.2
   .exact hm.2
def qxh:∀{l:List Int},(∀x ∈ l,knA x=true)->knA (qfY l)=true
 | [],_=>Af
 | x::l,h=>by
  rw[qkN];split
  .exact h x (by simp)
  .exact qxh λy hy=>h y (by simp[hy])
def qJW(l:List Int)(d:GData):knA (gdM l d)=true:=by
 unfold gdM;split<;>decide
variable {p:Pol}{a0:Asg}
def qFB(hp:PolOk p)(hR:PolR p)(hg:zJ p a0=false)(d:GData):∀q ∈ zm p,knA (quQ p d q)=true:=by
 intro q hq
 have hf:p.fams.length<=20:=by
  simp only[zJ,qa0,Bool.or_eq_false_iff,decide_eq_false_iff_not]at hg;exact Ac
 unfold quQ;split
 .exact qJW _ _
 .rename_i h0;rcases qhK hq with⟨rfl,_⟩|⟨e,a,x,hx,rfl⟩
  .exact absurd rfl h0
  .exact qFA (qtt hp hR hf hx).2.1 d
def qDF{n:Int}(h:knA n=true):qgj n≠[]:=by
 have h':qnQ n≠[]:=by simpa[knA,qnQ]using h
 unfold qgj;split
 .simp[h']
 .exact h'
def qDj(hp:PolOk p)(hR:PolR p)(hg:zJ p a0=false)(a:Int)(o:Bool):∀c ∈ (shM p a o).1,qgj c.act≠[]:=by
 unfold shM;split
 .rename_i ha;cases hm:qae p with
  | false=>rw[qhZ hm];simp
  | true =>
   rw[qfg hp hR hg hm o,if_pos rfl];intro c hc;obtain⟨c0,hc0,rfl⟩:=zzl.1 hc;have hd:=qjK ha.1 ha.2 (qo4 ha.1 ha.2 c0 hc0);refine qDF ?_;show knA (evS ((zm p).map (toP p o)) _)=true;rw[qr3 hp hR (qmq hp hR hg hm o) hd];refine qxh λy hy=>?_
   obtain⟨q,hq,rfl⟩:=zzl.1 hy;exact qFB hp hR hg _ q hq
 .simp
end
section
variable [Cur]
variable {P:Program}{f:Nat}
def qp8(a:Int):List GCall:=if 0<=a/\a<6 then zC a else []
def qt5{p:Pol}{a0:Asg}(hp:PolOk p)(hR:PolR p)(hg:zJ p a0=false){a:Int}(ha:0<=a/\a<6)(hm:qae p=true)(o:Bool) :
  (shM p a o).2=0/\(shM p a o).1.map (·.name)=(zC a).map (·.name):=by
 unfold shM;rw[if_pos ha,qfg hp hR hg hm o,if_pos rfl];exact⟨rfl,by simp[shL,shR]⟩
def wD(a b c d e g:Nat):IFn:=irJ 3 [6,a,7,b,8,c,9,d,10,e,11,g]
def qyl{g1 g2 g3 g4 g5 g6:Nat}(hc:Ck P f (wD g1 g2 g3 g4 g5 g6))(h1:∀p a,qa P g1 [.agg (qr p),.agg (qjJ a)] (.b (zJ p a)))(h2:qa P g2 [] (.b true))(h3:qA8 P g3)
  (h4:∀p,PolOk p->PolR p->∀a,qa P g4 [.agg (qr p),.j a] (.tup [.j (qbF 2147418112 (shM p a false).1),.j (qbF 2147221504 (shM p a false).1),.j (qgP (shM p a false).1)]))
  (h5:∀a,qa P g5 [.j a] (.fz (qp8 a).length (rC (qp8 a)))) (h6:∀p,PolOk p->PolR p->qa P g6 [.agg (qr p)] (.b (qae p))) (p:Pol) (hR:PolR p) (a:Int):qa P f [.agg (qr p),.j a] (.b true):=by
 refine C8 ?_;have p1:=h1 p qi0;simp only[wD,vI,simprocAttr];cases hG:zJ p qi0 with
 | true =>
  rw[hG]at p1;simp only[qr,qjJ,qi0]at p1;refine Aw ?_;refine Ab ?_;refine h2.sc ?_;refine Ab ?_;simp[vZ]
 | false =>
  rw[hG]at p1;have hp:=(qmL hG).2.2.1;have p3:=h3 p hp hR a true;have p4:=h4 p hp hR a;have p5:=h5 a;have p6:=h6 p hp hR;rw[qns hp hR hG a false true]at p4;have hcn:=qjO (shM p a true).1;have hl:=qmd p a true
  by_cases ha:0<=a/\a<6
  .have e2:qp8 a=zC a:=if_pos ha;have h40:=qfd a;have h0:=qwf ha.1 ha.2;rw[e2]at p5;cases hm:qae p with
   | false =>
    have e1:shM p a true=([],2):=by unfold shM;rw[if_pos ha,qhZ hm];rfl
    rw[e1]at p3 p4;rw[hm]at p6;have n0:¬((zC a).length:Int)=0:=Ac
    simp only[qr,qjJ,qi0]at p1 p3 p4 p6;refine Aw ?_;refine Ab ?_;refine p3.sc ?_;refine Ab ?_;refine p4.sc ?_;refine Ab ?_;refine p5.sc ?_;refine Sa n0 ?_;refine p6.sc ?_;refine Hz ?_;refine Ab ?_;simp[vZ]
   | true =>
    obtain⟨f1,f2⟩:=qt5 hp hR hG ha hm true;have f3:=qDj hp hR hG a true;rw[f1]at p3;rw[hm]at p6;have n0:¬((zC a).length:Int)=0:=Ac
    have fl:(shM p a true).1.length=(zC a).length:=by simpa using congrArg List.length f2
    have nn:=qk1 ha.1 ha.2;generalize(shM p a true).1=L at *;generalize zC a=N at *;generalize qbF 2147418112 L=x at *;generalize qbF 2147221504 L=y at *;generalize qgP L=z at *;have w1:IntKind.wrap .i64 ((x:Int)+y)=(x:Int)+y:=qE Ac Ac;have w2:IntKind.wrap .i64 ((x:Int)+y+z)=(L.length:Int):=by rw[qE Ac Ac];exact Ac
    have q1:¬(x:Int)<0:=Ac
    have q2:¬(y:Int)<0:=Ac
    have q3:¬(z:Int)<0:=Ac
    simp only[qr,qjJ,qi0]at p1 p3 p4 p6;refine Aw ?_;refine Ab ?_;refine p3.sc ?_;refine Ab ?_;refine p4.sc ?_;refine Ab ?_;refine p5.sc ?_;refine Sa n0 ?_;refine p6.sc ?_;rw[fl]at w2 ⊢;refine Sa (zzA w1 (zzA w2 (zzA q1 (zzA q2 q3)))) ?_;refine SL.loop (α:=Nat) (λj=>[(5,.fz N.length (rS (L.map xW))),(10,.fz N.length (rC N)),(11,.j (j:Int))]) (λ_=>[]) (λj=>j<=N.length) (λj=>N.length-j) 0 [] ?_ ?_ ?_ rfl ?_ ?_
    .simp[vw,ql,xz]
    .trivial
    .simp
    .exact zzu _
    rintro j hj G ih;refine Am ?_
    by_cases hlt:j<N.length
    .obtain⟨c,hpc⟩:∃c,N[j]?=some c:=⟨_,zzE hlt⟩;obtain⟨d,hpd⟩:∃d,L[j]?=some d:=⟨_,zzE Ac⟩
     have hnm:d.name=c.name:=by
      have:=congrArg (λl=>l[j]?) f2
      simpa[hpc,hpd]using this
     have hT:=f3 d (zzM hpd);have hcn2:=nn c (zzM hpc);have ec:=qI (f:=jI) (m:=2) (λ_=>rfl) hpc
     rw[show N.flatMap jI=rC N from rfl]at ec
     simp only[jI]at ec
     have e0:(rC N)[j*2]?=some (.s c.name):=by
      have:=congrArg (λl=>l[0]?) ec
      simpa[List.getElem?_take,zzp]using this
     have bc:j*2+2<=(rC N).length:=by rw[qhM];exact Ac
     have ex:(rS (L.map xW))[j]?=some (.s (d.name++[58,32]++qgj d.act)):=by simp[rS,hpd,xW]
     rw[hnm]at ex;have hw1:=wS j;have hh:(c.name++[58,32]).length<=9223372036854775807:=by simp;exact Ac
     have ht0:0<(qgj d.act).length:=List.length_pos_iff.2 hT;have hq:(c.name++[58,32]++qgj d.act).take (c.name++[58,32]).length=c.name++[58,32]:=List.take_left;have htl:=qrR d.act;have hle:¬((c.name++[58,32]++qgj d.act).length:Int)<=((c.name++[58,32]).length:Int):=by simp only[zzP,zze,List.length_nil];exact Ac
     have hle2:(c.name++[58,32]).length<=(c.name++[58,32]++qgj d.act).length:=by simp only[zzP,zze,List.length_nil];exact Ac
     have ih2:=ih (j+1) hlt Ac;have hb:c.name.length+2<=9223372036854775807:=Ac
     generalize hH:c.name++[58,32]=H at *;generalize H++qgj d.act=W at *;simp +decide only[↓vS,vT,simprocAttr,hlt,e0,bc,hH,ex,hb,hh,hle,hle2,hq,hw1,zzU,zze,List.length_nil,List.drop_zero];refine ih2 _ _ (Wk.mk _ _ [] ?_ ?_ ?_ rfl)
     .simp[vw,ql,xz]
     .trivial
     .simp
    .obtain rfl:j=N.length:=Ac
     refine Sa hlt ?_;refine h2.sc ?_;refine Ab ?_;simp[vZ]
  .have e1:shM p a true=([],80):=if_neg ha;have e2:qp8 a=[]:=if_neg ha;rw[e1]at p3 p4;rw[e2]at p5;simp only[qr,qjJ,qi0]at p1 p3 p4 p6;refine Aw ?_;refine Ab ?_;refine p3.sc ?_;refine Ab ?_;refine p4.sc ?_;refine Ab ?_;refine p5.sc ?_;refine Hz ?_;refine Ab ?_;simp[vZ]
end
section
variable [Cur]
def qjz:List UInt8:=[97,108,108,111,119]
def qoz:∀(l:List (List UInt8×Int)) (m v:Int),(∀x ∈ l,x.1=qjz->x.2=v)->jU m l=qjz->m=v
 | [],_,_,_,h=>by simp[jU,qjz]at h
 | x::l,m,v,hl,h=>by
  unfold jU at h;split at h
  .rename_i e;have:=hl x (by simp) h;exact Ad
  .exact qoz l m v (λy hy=>hl y (by simp[hy])) h
def qyI{n:Int}(h:qnQ n=qjz):qaN .u32 n 65535=2147418112:=qoz _ _ _ Af h
def qAb{n:Int}(hn:u32 n)(h:qgj n=qjz):n=2147418112:=by
 have h1:qnQ n=qjz/\qin n=0:=by
  unfold qgj at h;split at h
  .exfalso
   have:(32:UInt8) ∈ qjz:=by rw[<- h];simp
   revert this;exact Af
  .rename_i c;refine⟨h,?_⟩;rw[h]at c;simp only[not_and,not_or]at c;exact Classical.not_not.1 (c Af).1
 have h2:=qyI h1.1;have h3:=h1.2;unfold qin at h3;unfold qaN at h2
 have w:∀b:BitVec 32,IntKind.wrap .u32 (b.toNat:Int)=(b.toNat:Int):=λb=>by
  have:=b.isLt;refine Cb ?_;exact Ac
 obtain⟨n0,n1⟩:=hn
 have key:∀b:BitVec 32,IntKind.wrap .u32 ((b &&& BitVec.ofInt 32 65535).toNat:Int)=0->IntKind.wrap .u32 ((b &&& ~~~ BitVec.ofInt 32 65535).toNat:Int)=2147418112->(b.toNat:Int)=2147418112:=λb e3 e2=>by
  rw[w]at e3 e2;have e3':b &&& BitVec.ofInt 32 65535=0#32:=BitVec.eq_of_toNat_eq (by simpa using e3);have e2':b &&& ~~~ BitVec.ofInt 32 65535=2147418112#32:=BitVec.eq_of_toNat_eq (by have:=Int.ofNat.inj e2;exact D0)
  have e:b=(b &&& BitVec.ofInt 32 65535) ||| (b &&& ~~~ BitVec.ofInt 32 65535):=by
   rw[<- BitVec.and_or_distrib_left,show BitVec.ofInt 32 65535 ||| ~~~ BitVec.ofInt 32 65535=BitVec.allOnes 32 from Af,BitVec.and_allOnes]
  rw[e,e3',e2'];rfl
 have hk:=key (BitVec.ofInt 32 n) h3 h2
 have hb:((BitVec.ofInt 32 n).toNat:Int)=n:=by
  rw[BitVec.toNat_ofInt];exact Ac
 exact Ac
def qjr:qgj 2147418112=qjz:=Af
def qp7{α:Type}(f g:α->List UInt8):∀(l:List α) (pre:List (List UInt8)),(((l.map g).zipIdx pre.length).filter λp=>decide ((pre++l.map f)[p.2]?≠some p.1)).length=(l.filter λc=>decide (f c≠g c)).length
 | [],_=>rfl
 | c::l,pre=>by
  have ih:=qp7 f g l (pre++[f c]);simp only[zzP,zze,List.length_nil,zzi,zzC,zzN,Nat.zero_add]at ih;simp only[zz3,List.zipIdx_cons,List.filter_cons]
  by_cases h:f c=g c
  .simp[h]at ih ⊢;exact ih
  .simp[h]at ih ⊢;exact ih
def qAA{α:Type}(f g:α->List UInt8)(l:List α):(agM (l.map f) (l.map g)).length=(l.filter λc=>decide (f c≠g c)).length:=by
 unfold agM;rw[zzz];exact qp7 f g l []
def qnb:Pol:={ qCQ with deny:=2147483648 }
def qzh(d a:Int):qcX qnb d a=none:=by
 unfold qcX;split
 .unfold qbq
  repeat' split
  all_goals first
   | rfl
   | (simp only[Option.bind_some];exact if_neg (by simp[qjR,qkg,fmM,nsM,weM,peM,rtM,qnb,qCQ]))
 .rfl
def qsp:zm qnb=[]:=by
 refine List.eq_nil_iff_forall_not_mem.2 λq hq=>?_
 rcases qhK hq with⟨_,h⟩|⟨d,a,x,hx,_⟩
 .exact absurd h Af
 .rw[qzh]at hx;cases hx
def qzi:qae qnb=true:=by
 simp[qty,zL,qnb,qCQ,qgp,qiW,qbT,qGr,qGs,qGt,qdf];exact⟨by simp[qbi],Af⟩
def qtL{a:Int}(ha:0<=a/\a<6)(o:Bool):shM qnb a o=((zC a).map λc=>⟨c.name,2147418112⟩,0):=by
 have hb:xR qnb o=([],0):=by
  unfold xR;rw[if_pos qzi,qsp];simp
 unfold shM;rw[if_pos ha,hb,if_pos rfl];rfl
end
section
variable [Cur]
variable {P:Program}{f:Nat}
def qKM{p:Pol}{a0:Asg}(hp:PolOk p)(hR:PolR p)(hg:zJ p a0=false){a:Int}(ha:0<=a/\a<6)(hm:qae p=true)(o:Bool):∀c ∈ (shM p a o).1,u32 c.act:=by
 unfold shM;rw[if_pos ha,qfg hp hR hg hm o,if_pos rfl];intro c hc;obtain⟨c0,hc0,rfl⟩:=zzl.1 hc;have hd:=qjK ha.1 ha.2 (qo4 ha.1 ha.2 c0 hc0);refine qmy λx hx=>?_
 obtain⟨y,hy,rfl⟩:=zzl.1 hx;exact qoN (qwH hp hR (qmq hp hR hg hm o) y hy).2 hd
def frs(N:List GCall):List (List UInt8):=(N.map λc=>(⟨c.name,2147418112⟩:GCall)).map xW
def qtb(N:List GCall):(frs N).length=N.length:=by simp[frs]
def qu3{N L:List GCall}(hn:L.map (·.name)=N.map (·.name))(hu:∀c ∈ L,u32 c.act):(agM (frs N) (L.map xW)).length=qbF 2147221504 L+qgP L:=by
 have e:frs N=L.map λc=>xW ⟨c.name,2147418112⟩:=by
  have h:∀M:List GCall,frs M=(M.map (·.name)).map λn=>xW ⟨n,2147418112⟩:=λM=>by simp[frs]
  rw[h,<- hn];simp
 rw[e,qAA];have h1:=qjO L
 have h2:(L.filter λc=>decide (xW ⟨c.name,2147418112⟩≠xW c))=L.filter λc=>!decide (c.act=2147418112):=by
  refine List.filter_congr λc hc=>?_
  have:xW ⟨c.name,2147418112⟩=xW c↔c.act=2147418112:=by
   unfold xW;simp only[List.append_cancel_left_eq,qjr];exact⟨λh=>qAb (hu c hc) h.symm,λh=>by rw[h,qjr]⟩
  simp[this]
 rw[h2]
 have h3:∀M:List GCall,(M.filter λc=>decide (c.act=2147418112)).length+(M.filter λc=>!decide (c.act=2147418112)).length=M.length:=λM=>by
  induction M with
  | nil=>rfl
  | cons c M ih=>by_cases h:c.act=2147418112<;>simp[h]<;>omega
 have h3:=h3 L;unfold qbF at h1 ⊢;exact Ac
def wE(a b c d e g h i:Nat):IFn:=irJ 5 [6,a,11,b,7,c,13,d,8,e,10,g,9,h,14,i]
def qym{g1 g2 g3 g4 g5 g6 g7 g8:Nat}(hc:Ck P f (wE g1 g2 g3 g4 g5 g6 g7 g8))(h1:∀p a,qa P g1 [.agg (qr p),.agg (qjJ a)] (.b (zJ p a)))(h2:∀p,PolOk p->PolR p->qa P g2 [.agg (qr p)] (.b (qae p)))(h3:qa P g3 [] (.b true))
  (h4:qa P g4 [] (.agg (qr qnb))) (h5:qA8 P g5) (h6:qwO P g6)
  (h7:∀p,PolOk p->PolR p->∀a,qa P g7 [.agg (qr p),.j a] (.tup [.j (qbF 2147418112 (shM p a false).1),.j (qbF 2147221504 (shM p a false).1),.j (qgP (shM p a false).1)]))
  (h8:∀old now:List (List UInt8),old.length<=100000->now.length<=100000->Own P g8 [.fz old.length (rS old),.fz now.length (rS now)] (.own 0 (agM old now).length) [.cells 1 true true (rS (agM old now))])
  (p:Pol) (hR:PolR p) (a:Int):qa P f [.agg (qr p),.j a] (.b true):=by
 refine C8 ?_;have p1:=h1 p qi0;simp only[wE,vI,simprocAttr];cases hG:zJ p qi0 with
 | true =>
  rw[hG]at p1;simp only[qr,qjJ,qi0]at p1;refine Aw ?_;refine Ab ?_;refine h3.sc ?_;refine Ab ?_;simp[vZ]
 | false =>
  rw[hG]at p1;have hp:=(qmL hG).2.2.1;have p2:=h2 p hp hR;cases hm:qae p with
  | false =>
   rw[hm]at p2;simp only[qr,qjJ,qi0]at p1 p2;refine Aw ?_;refine Ab ?_;refine p2.sc ?_;refine Ab ?_;refine h3.sc ?_;refine Ab ?_;simp[vZ]
  | true =>
   rw[hm]at p2;obtain⟨k,hk,hk6⟩:=qC8 a 6 Af Af;have ha:0<=(k:Int)/\(k:Int)<6:=⟨Ac,hk6⟩
   have p4:=h4;have h6z:(6:Int)≠0:=Af
   have p5:=h5 qnb ⟨Af,Af,Af,Af⟩ ⟨Af,Af,Af,(λ_ h=>nomatch h),(λ_ h=>nomatch h)⟩ (k:Int) true
   rw[qtL ha]at p5;have p5':=h5 p hp hR (k:Int) true;have p6:=h6 (k:Int) ha.1 ha.2;have p7:=h7 p hp hR (k:Int);rw[qns hp hR hG (k:Int) false true]at p7;obtain⟨f1,f2⟩:=qt5 hp hR hG ha hm true;have f3:=qu3 f2 (qKM hp hR hG ha hm true);have h40:=qfd (k:Int);rw[f1]at p5';have fl:(shM p k true).1.length=(zC k).length:=by simpa using congrArg List.length f2
   have hcn:=qjO (shM p k true).1;have p8:=h8 (frs (zC k)) ((shM p k true).1.map xW) (by rw[qtb];exact Ac) (by rw[zzz];exact Ac);rw[f3,qtb,zzz,fl]at p8;rw[show((zC (k:Int)).map λc=>(⟨c.name,2147418112⟩:GCall)).map xW=frs (zC k)from rfl,zzz]at p5
   rw[fl]at p5';have hcr:qu (rS (agM (frs (zC k)) ((shM p k true).1.map xW)))=true:=xz;generalize agM (frs (zC k)) ((shM p k true).1.map xW)=AG at *;generalize(shM p k true).1=L at *;have hN:∀(j:Nat) (c:GCall),(zC (k:Int))[j]?=some c->(rS (frs (zC k)))[j]?=some (.s (c.name++[58,32]++qjz)):=λj c h=>by simp[rS,frs,h,xW,qjr]
   have nn:=qk1 ha.1 ha.2;have hrs:qu (rS (frs (zC k)))=true:=xz;generalize rS (frs (zC k))=F at *;generalize zC (k:Int)=N at *;generalize qbF 2147418112 L=x at *;generalize qbF 2147221504 L=y at *;generalize qgP L=z at *;have w1:IntKind.wrap .i64 ((y:Int)+z)=((y+z:Nat):Int):=by rw[qE Ac Ac];exact Ac
   simp only[qr,qjJ,qi0]at p1 p2 p4 p5 p5' p7;refine Aw ?_;refine Ab ?_;refine p2.sc ?_;simp +decide only[↓vS,vT,simprocAttr,↓qen h6z,hk];refine p4.sc ?_;refine Ab ?_;refine p5.sc ?_;refine Ab ?_;refine p5'.sc ?_;refine Ab ?_;refine p6.sc ?_;refine Ab ?_;refine SL.loop (α:=Nat) (λj=>[(1,.j (k:Int)),(2,.ptr 0 0),(5,.fz N.length F),(7,.fz N.length (rS (L.map xW))),(9,.j (j:Int))]) (λ_=>[.v (qr p)]) (λj=>j<=N.length) (λj=>N.length-j) 0 [0] ?_ ?_ ?_ rfl ?_ ?_
   .simp[vw,hrs,xz]
   .simp[vw,qr,qd,qg,ql]
   .simp
   .exact zzu _
   rintro j hj G ih;refine Am ?_
   by_cases hlt:j<N.length
   .obtain⟨c,hpc⟩:∃c,N[j]?=some c:=⟨_,zzE hlt⟩;have ex:=hN j c hpc;have hcn2:=nn c (zzM hpc);have hw1:=wS j;have ih2:=ih (j+1) hlt Ac;have hl:(c.name++[58,32]++qjz).length=c.name.length+7:=by simp[qjz]
    have hdr:(c.name++[58,32]++qjz).drop c.name.length=[58,32,97,108,108,111,119]:=by simp[qjz]
    generalize c.name++[58,32]++qjz=W at *;have q1:¬(W.length:Int)<7:=Ac
    have q2:IntKind.wrap .i64 ((W.length:Int)-7)=(c.name.length:Int):=by rw[qE Ac Ac];exact Ac
    have q3:c.name.length<=W.length:=Ac
    simp +decide only[↓vS,vT,simprocAttr,hlt,ex,q1,q2,q3,zz0,hdr,hw1,zzU];refine zB ?_;simp +decide only[↓vS,vT,simprocAttr,hlt,ex,q1,q2,q3,zz0,hdr,hw1,zzU];refine ih2 _ _ (Wk.mk _ _ [0] ?_ ?_ ?_ rfl)
    .simp[vw,hrs,xz]
    .simp[vw,qr,qd,qg,ql]
    .simp
   .obtain rfl:j=N.length:=Ac
    simp +decide only[↓vS,vT,simprocAttr,hlt,qr];refine p7.sc ?_;refine Ab ?_;refine p8.sc ?_;simp only[vJ,simprocAttr,xt hcr];refine Sa w1 ?_;refine h3.sc ?_;refine Ab ?_;simp[vZ]
def qKT{g:Nat}(hc:Ck P f (qcA g))(a:Int)(h:¬(0<=a/\a<6)):qa P f [.j a] (.tup [.w 0,.j 80]):=by
 refine Al ?_;simp only[qcA,vI,simprocAttr]
 by_cases n1:a<0
 .refine Sa n1 ?_;simp[vZ]
 .have n2:6<=a:=Ac
  refine Sa (zzA n1 n2) ?_;simp[vZ]
end
section
variable [Cur]
variable {P:Program}{g:Nat}
def qA3(P:Program)(g:Nat):Prop:=∀p,PolOk p->PolR p->∀a,qa P g [.agg (qr p),.j a] (.tup [.j (qbF 2147418112 (shM p a false).1),.j (qbF 2147221504 (shM p a false).1),.j (qgP (shM p a false).1)])
def qxf(h:qA3 P g){a:Int}(ha:0<=a/\a<6){n:Nat}(hn:((zC a).length==n&&decide (qbF 2147418112 ((zC a).map λc=>⟨c.name,2147418112⟩)=n))=true):qa P g [.agg (qlC .nils false),.j a] (.tup [.j n,.j 0,.j 0]):=by
 have:=qkm (l:=[]) (.inr ⟨rfl,rfl⟩) (h (p29 [] false) (qk4 (zzu _)) qoB a);have e:shM (p29 [] false) a false=_:=qtL ha false;simp only[zzB,beq_iff_eq,zzb]at hn;have h2:=qjO (shM (p29 [] false) a false).1;rw[e]at this h2;simp only[zzz]at h2;have e1:qbF 2147221504 ((zC a).map λc=>(⟨c.name,2147418112⟩:GCall))=0:=Ac
 have e2:qgP ((zC a).map λc=>(⟨c.name,2147418112⟩:GCall))=0:=Ac
 rw[hn.2,e1,e2]at this;exact this
def qMp(h:qA3 P g):qa P g [.agg (qlC .nils false),.j 6] (.tup [.j 0,.j 0,.j 0]):=by
 have:=qkm (l:=[]) (.inr ⟨rfl,rfl⟩) (h (p29 [] false) (qk4 (zzu _)) qoB 6);rw[show shM (p29 [] false) 6 false=([],80)from if_neg Af]at this
 exact this
def qMn(h:qA3 P g):qa P g [.agg (qlC .nils false),.j 0] (.tup [.j 40,.j 0,.j 0]):=qxf h ⟨Af,Af⟩ (n:=40) Aa
def qMo(h:qA3 P g):qa P g [.agg (qlC .nils false),.j 2] (.tup [.j 37,.j 0,.j 0]):=qxf h ⟨Af,Af⟩ (n:=37) Aa
def qLK(a:Int):AV:=.fz (zC a).length (rS (frs (zC a)))
def qL8:shM (p29 [] true) 1 true=((zC 1).map λc=>⟨c.name,2147418112⟩,0):=Aa
def qMK(h:qA8 P g):qa P g [.agg (qlC .nils true),.j 1,.b true] (.tup [qLK 1,.j 0]):=by
 have:=qkm (l:=[]) (.inr ⟨rfl,rfl⟩) (h (p29 [] true) (qk4 (zzu _)) qoB 1 true);rw[qL8]at this;simp only[zzz]at this;exact this
def qMH(h:qA2 P g){v:AV}(hv:AV.fz (xR (p29 [] true) true).1.length (rPr (xR (p29 [] true) true).1)=v):qa P g [.agg (qlC .nils true),.b true] (.tup [v,.j 0]):=by
 have:=qkm (l:=[]) (.inr ⟨rfl,rfl⟩) (h (p29 [] true) (qk4 (zzu _)) qoB (λd a x h=>⟨(qos (qk4 (zzu _)) qoB h).1,(qos (qk4 (zzu _)) qoB h).2.1⟩) true)
 rw[hv,show(xR (p29 [] true) true).2=0 from by rw[(qAC (ok2 true)).2]]at this
 exact this
end
section
variable [Cur]
variable {P:Program}{f:Nat}
def qMJ(hc:Ck P f qhr):qa P f [] (.agg (qr qnb)):=by
 refine Al ?_;simp only[qhr,vI,simprocAttr];refine Ab ?_;simp[vZ,qr,qnb,qCQ,rI,rC]
def qj0(a b c d:Nat):IFn:=irJ 10 [20,a,21,b,22,c,23,d]
def qLr{g1 g2 g3 g4:Nat}(hc:Ck P f (qj0 g1 g2 g3 g4))(h1:qa P g1 [] (.agg (qD.flatMap jS)))
  (h2:∀(x:List UInt8×List Int) (a:Int),qa P g2 [.agg (jS x),.j a] (match qds x a with|some n=>.tup [.w n,.b true]|none=>.tup [.w 0,.b false])) (h3:qa P g3 [.nils,.fn g4 [] []] (.tup [])) (a:Int) (h:¬(0<=a/\a<6)):qa P f [.j a] (.fz 0 []):=by
 have hL:qD.length=40:=rfl;have hR:(qD.flatMap jS).length=280:=Aa
 have hcl:qu (qD.flatMap jS)=true:=Aa
 have hn:∀x,qds x a=none:=λx=>by unfold qds;rw[if_pos Ac]
 refine Al ?_;simp only[qj0,vI,simprocAttr];refine Ab ?_;refine h1.sc ?_;refine Ab ?_;refine SL.loop (α:=Nat) (λj=>[(0,.j a),(3,.nils),(8,.agg (qD.flatMap jS)),(9,.j (j:Int))]) (λ_=>[]) (λj=>j<=40) (λj=>40-j) 0 [] ?_ ?_ ?_ rfl ?_ ?_
 .simp[vw,qd,hcl]
 .trivial
 .simp
 .exact zzu _
 rintro j hj G ih;refine Am ?_
 by_cases hlt:j<40
 .obtain⟨x,hx⟩:∃x,qD[j]?=some x:=⟨_,zzE Ac⟩;have ec:=qI (f:=jS) (m:=7) (λ_=>rfl) hx
  have p2:=h2 x a;rw[hn x]at p2;have hln:j*7+7<=(qD.flatMap jS).length:=by rw[hR];exact Ac
  have hw1:=wS j;have hlt':(j:Int)<40:=Ac
  have ih2:=ih (j+1) hlt Ac;generalize qD.flatMap jS=R at *;simp only[jS]at ec p2;refine Sa (zzA hlt (zzA hlt' (zzA ec hln))) ?_;refine p2.sc ?_;refine Sa hw1 ?_;refine ih2 _ _ (Wk.mk _ _ [] ?_ ?_ ?_ rfl)
  .simp[vw,qd,hcl]
  .trivial
  .simp
 .obtain rfl:j=40:=Ac
  refine Ab ?_;refine h3.sc ?_;refine Ab ?_;simp[vZ]
def qMm{g:Nat}(h1:qwO P g)(h2:∀a:Int,¬(0<=a/\a<6)->qa P g [.j a] (.fz 0 []))(a:Int):qa P g [.j a] (.fz (qp8 a).length (rC (qp8 a))):=by
 by_cases h:0<=a/\a<6
 .rw[show qp8 a=zC a from if_pos h];exact h1 a h.1 h.2
 .rw[show qp8 a=[]from if_neg h];exact h2 a h
end
end Go.Kc
