/- Part 8 of the abstract machine and of the functions' walks. Conditions: with each theorem. -/
import Derived.Test.YtgaodkfneooonaaGreatOK7
set_option maxHeartbeats 4000000
set_option linter.defProp false
set_option linter.unusedSectionVars false
set_option linter.unusedSimpArgs false
set_option linter.unusedVariables false
set_option linter.unnecessarySimpa false
section
namespace Go.Kc
variable {P:Program} {f:Nat}
def opM(c a b:Int):Int :=
 if c=4 then IntKind.wrap .u32 (a+b)else if c=20 then IntKind.wrap .u32 (a-b)else if c=36 then IntKind.wrap .u32 (a*b)
 else if c=68 then orI .u32 a b else if c=84 then xS .u32 a b else if c=164 then qFb .u32 a b else IntKind.wrap .u32 (0-a)
def qdf(m:Mac)(i:Ins):Int:=if qaH i.code=true then m.x else i.k
def qV(c:Int):Int:=if qaH c=true then c-8 else c
def nuM(m:Mac)(i:Ins):Mac×Int :=
 if qV i.code=52 then(if 0<qdf m i then({ m with a:=m.a / qdf m i },0)else if qaH i.code=true then({ m with over:=true },0)else(m,44))
 else if qV i.code=100\/qV i.code=116 then(if qaH i.code=false/\31<qdf m i then(m,45)else({ m with a:=qdT (decide (qV i.code=100)) (qdf m i % 32).toNat m.a },0))
 else({ m with a:=opM (qV i.code) m.a (qdf m i) },0)
def c3L:List Int:=[4,12,20,28,36,44,52,60,68,76,84,92,100,108,116,124,164,172,132]
theorem qxz:∀x ∈ qaO,x.2.2=3->c3L.contains x.1=true:=by decide
def cWX(P:Program)(g:Nat):Prop:=∀c:Int,qa P g [.h c] (.b (qaH c))
def qbD(c a b:Int):Bool:=if c=21 then decide (a=b)else if c=37 then decide (b<a)else if c=53 then decide (b<=a)else decide (0<xS .u32 a b)
def qid(m:Mac)(i:Ins):Int:=if i.code=5 then i.k else if qbD (qV i.code) m.a (qdf m i)=true then i.jt else i.jf
def c4L:List Int:=[21,29,37,45,53,61,69,77,5]
theorem qEU:∀x ∈ qaO,x.2.2=4->c4L.contains x.1=true:=by decide
def qsf(m:Mac)(i:Ins):Mac:={ m with over:=true,told:=if i.code=22 then m.a else i.k }
def doR(m:Mac)(i:Ins)(d:GData):Mac×Int×Int :=
 if zY i.code=false then(m,0,40)
 else if qm i.code=1\/qm i.code=2\/qm i.code=6 then((qet m i d).1,0,(qet m i d).2)
 else if qm i.code=3 then((nuM m i).1,0,(nuM m i).2)
 else if qm i.code=4 then(m,qid m i,0)
 else(qsf m i,0,0)
theorem qcM(x:Int):u32 (IntKind.wrap .u32 x):=by show 0<=x % 4294967296/\x % 4294967296<=4294967295;omega
def qpm(left:Bool):∀(n:Nat) (a:Int),u32 a->u32 (qdT left n a)
 | 0,_,h=>h
 | n+1,a,h=>by
  refine qpm left n _ ?_;unfold u32 at h ⊢;split<;>omega
def qmn{d:GData}(hd:DatOk d){x:Int}(hm:x ∈ jw d):u32 x:=by
 unfold jw at hm;rcases List.mem_cons.1 hm with rfl|hm
 .exact⟨hd.nr0,hd.nr1⟩
 rcases List.mem_cons.1 hm with rfl|hm
 .exact⟨hd.ar0,hd.ar1⟩
 obtain⟨y,hy,hm⟩:=List.mem_flatMap.1 hm;have:=hd.wid y hy;simp only[List.mem_cons,List.not_mem_nil,or_false]at hm;unfold u32;rcases hm with rfl|rfl
 .unfold loW;omega
 .unfold hiW;omega
def qiY{l:List Int}(h:∀c ∈ l,u32 c)(j:Nat):u32 (l.getD j 0):=by
 rw[List.getD_eq_getElem?_getD];cases hx:l[j]? with
 | none=>exact⟨Int.le_refl _,by decide⟩
 | some x=>grind
def qwg{m:Mac}(hm:MacOk m){i:Ins}(hi:InsOk i){d:GData}(hd:DatOk d):MacOk (qet m i d).1:=by
 have hk:u32 i.k:=⟨hi.k0,hi.k1⟩;have h64:u32 64:=⟨by decide,by decide⟩
 unfold qet
 by_cases c1:qg4 i=true/\15<i.k
 .rw[if_pos c1];exact hm
 rw[if_neg c1]
 by_cases c2:i.code=32
 .rw[if_pos c2]
  by_cases c3:i.k % 4≠0\/64<=i.k
  .rw[if_pos c3];exact hm
  .rw[if_neg c3];exact⟨qiY (λc hc=>qmn hd hc) _,hm.x,hm.told,hm.len,hm.cl⟩
 rw[if_neg c2]
 by_cases d1:i.code=128
 .rw[if_pos d1];exact⟨h64,hm.x,hm.told,hm.len,hm.cl⟩
 rw[if_neg d1]
 by_cases d2:i.code=129
 .rw[if_pos d2];exact⟨hm.a,h64,hm.told,hm.len,hm.cl⟩
 rw[if_neg d2]
 by_cases d3:i.code=0
 .rw[if_pos d3];exact⟨hk,hm.x,hm.told,hm.len,hm.cl⟩
 rw[if_neg d3]
 by_cases d4:i.code=1
 .rw[if_pos d4];exact⟨hm.a,hk,hm.told,hm.len,hm.cl⟩
 rw[if_neg d4]
 by_cases d5:i.code=96
 .rw[if_pos d5];exact⟨qiY hm.cl _,hm.x,hm.told,hm.len,hm.cl⟩
 rw[if_neg d5]
 by_cases d6:i.code=97
 .rw[if_pos d6];exact⟨hm.a,qiY hm.cl _,hm.told,hm.len,hm.cl⟩
 rw[if_neg d6]
 by_cases d7:i.code=2
 .rw[if_pos d7];exact⟨hm.a,hm.x,hm.told,by simpa using hm.len,by grind[MacOk.cl,MacOk.a]⟩
 rw[if_neg d7]
 by_cases d8:i.code=3
 .rw[if_pos d8];exact⟨hm.a,hm.x,hm.told,by simpa using hm.len,by grind[MacOk.cl,MacOk.x]⟩
 rw[if_neg d8]
 by_cases d9:i.code=7
 .rw[if_pos d9];exact⟨hm.a,hm.a,hm.told,hm.len,hm.cl⟩
 rw[if_neg d9]
 by_cases d10:i.code=135
 .rw[if_pos d10];exact⟨hm.x,hm.x,hm.told,hm.len,hm.cl⟩
 rw[if_neg d10];exact hm
def qDU(c a b:Int):u32 (opM c a b):=by
 unfold opM;split
 .exact qcM _
 split
 .exact qcM _
 split
 .exact qcM _
 split
 .exact qcM _
 split
 .exact qcM _
 split
 .exact qcM _
 grind[qcM]
def qDJ{m:Mac}(hm:MacOk m)(i:Ins):MacOk (nuM m i).1:=by
 unfold nuM;split
 .split
  .rename_i hb;have h1:m.a / qdf m i<=m.a:=Int.ediv_le_self _ hm.a.1;have h2:0<=m.a / qdf m i:=Int.ediv_nonneg hm.a.1 (by omega);have h3:=hm.a.2;exact⟨⟨h2,by show m.a / qdf m i<=4294967295;omega⟩,hm.x,hm.told,hm.len,hm.cl⟩
  split
  .exact⟨hm.a,hm.x,hm.told,hm.len,hm.cl⟩
  omega
 split
 .split
  .exact hm
  .exact⟨qpm _ _ _ hm.a,hm.x,hm.told,hm.len,hm.cl⟩
 .exact⟨qDU _ _ _,hm.x,hm.told,hm.len,hm.cl⟩
def qv2{m:Mac}{i:Ins}(hi:InsOk i):u32 (qid m i):=by
 have:=hi.t0;have:=hi.t1;have:=hi.f0;have:=hi.f1;have:=hi.k0;have:=hi.k1
 unfold qid u32;omega
def qva{m:Mac}(hm:MacOk m){i:Ins}(hi:InsOk i){d:GData}(hd:DatOk d):MacOk (doR m i d).1/\u32 (doR m i d).2.1:=by
 have h0:u32 0:=⟨by decide,by decide⟩
 unfold doR;split
 .simp_all
 split
 .simp_all[qwg]
 split
 .simp_all[qDJ]
 split
 .simp_all[qv2]
 .refine⟨⟨hm.a,hm.x,?_,hm.len,hm.cl⟩,h0⟩;show u32 (if i.code=22 then m.a else i.k)
  split
  .exact hm.a
  .exact⟨hi.k0,hi.k1⟩
def qkE(p:List Ins)(d:GData):Nat->Mac->Nat->Int->List Nat->Int×Nat×List Nat×Int
 | 0,_,_,_,l=>(0,0,l,0)
 | n+1,m,at',bh,l=>match p[at']? with
  | none=>(0,l.length,l,bh)
  | some i=>if(doR m i d).2.2≠0 then(0,l.length,l++[at'],(doR m i d).2.2)
   else if(doR m i d).1.over=true then((doR m i d).1.told,l.length+1,l++[at'],0)
   else qkE p d n (doR m i d).1 (at'+1+(doR m i d).2.1.toNat) (if qm i.code=4 then 42 else 46) (l++[at'])
def qzB:Mac:=⟨0,0,0,List.replicate 16 0,false⟩
def qqm{d:GData}:List.take 9 (List.drop 0 (zt d))=zt d:=rfl
def quS{d:GData}:9<=(zt d).length:=zzL 9
def qea{d:GData}:qt (zt d)=true:=rfl
def qrD:MacOk qzB:=⟨⟨by decide,by decide⟩,⟨by decide,by decide⟩,⟨by decide,by decide⟩,rfl,λc hc=>by
 have:=List.eq_of_mem_replicate hc;subst this;exact⟨by decide,by decide⟩⟩
def qhD{p:List Ins}{d:GData}{n:Nat}{m:Mac}{at':Nat}{bh:Int}{l:List Nat}:qkE p d (n+1) m at' bh l=match p[at']? with
  | none=>(0,l.length,l,bh)
  | some i=>if(doR m i d).2.2≠0 then(0,l.length,l++[at'],(doR m i d).2.2)
   else if(doR m i d).1.over=true then((doR m i d).1.told,l.length+1,l++[at'],0)
   else qkE p d n (doR m i d).1 (at'+1+(doR m i d).2.1.toNat) (if qm i.code=4 then 42 else 46) (l++[at']):=rfl
def qh4:IFn:=⟨[.tmp 4],sq [.r [.m 4 (.c (.w 0))],.r [.n 5 0,.n 6 1,.b 7 .add 5 6,.n 4 7],.ret]⟩
def qJD(hc:qc P f qh4=true)(a b:Int):qa P f [.w a,.w b] (.w (opM 4 a b)):=by
 refine qa.mk hc rfl ?_;simp only[qh4,vI,simprocAttr];simp +decide only[↓vS,vT,simprocAttr];simp[vZ,opM]
def qh5:IFn:=⟨[.tmp 4],sq [.r [.m 4 (.c (.w 0))],.r [.n 5 0,.n 6 1,.b 7 .sub 5 6,.n 4 7],.ret]⟩
def qJE(hc:qc P f qh5=true)(a b:Int):qa P f [.w a,.w b] (.w (opM 20 a b)):=by
 refine qa.mk hc rfl ?_;simp only[qh5,vI,simprocAttr];simp +decide only[↓vS,vT,simprocAttr];simp[vZ,opM]
def qh6:IFn:=⟨[.tmp 4],sq [.r [.m 4 (.c (.w 0))],.r [.n 5 0,.n 6 1,.b 7 .mul 5 6,.n 4 7],.ret]⟩
def qJF(hc:qc P f qh6=true)(a b:Int):qa P f [.w a,.w b] (.w (opM 36 a b)):=by
 refine qa.mk hc rfl ?_;simp only[qh6,vI,simprocAttr];simp +decide only[↓vS,vT,simprocAttr];simp[vZ,opM]
def qh8:IFn:=⟨[.tmp 4],sq [.r [.m 4 (.c (.w 0))],.r [.n 5 0,.n 6 1,.b 7 .or 5 6,.n 4 7],.ret]⟩
def qJH(hc:qc P f qh8=true)(a b:Int):qa P f [.w a,.w b] (.w (opM 68 a b)):=by
 refine qa.mk hc rfl ?_;simp only[qh8,vI,simprocAttr];simp +decide only[↓vS,vT,simprocAttr];simp[vZ,opM]
def qh9:IFn:=⟨[.tmp 4],sq [.r [.m 4 (.c (.w 0))],.r [.n 5 0,.n 6 1,.b 7 .and 5 6,.n 4 7],.ret]⟩
def qJI(hc:qc P f qh9=true)(a b:Int):qa P f [.w a,.w b] (.w (opM 84 a b)):=by
 refine qa.mk hc rfl ?_;simp only[qh9,vI,simprocAttr];simp +decide only[↓vS,vT,simprocAttr];simp[vZ,opM]
def qic:IFn:=⟨[.tmp 4],sq [.r [.m 4 (.c (.w 0))],.r [.n 5 0,.n 6 1,.b 7 .xor 5 6,.n 4 7],.ret]⟩
def qJL(hc:qc P f qic=true)(a b:Int):qa P f [.w a,.w b] (.w (opM 164 a b)):=by
 refine qa.mk hc rfl ?_;simp only[qic,vI,simprocAttr];simp +decide only[↓vS,vT,simprocAttr];simp[vZ,opM]
def qgY:IFn:=⟨[.tmp 4],sq [.r [.m 4 (.c (.w 0))],.r [.n 5 0,.q 6 (.un .neg (.t 5)),.n 4 6],.ret]⟩
def qIQ(hc:qc P f qgY=true)(a b:Int):qa P f [.w a,.w b] (.w (opM 132 a b)):=by
 refine qa.mk hc rfl ?_;simp only[qgY,vI,simprocAttr];simp +decide only[↓vS,vT,simprocAttr];simp[vZ,opM]
def qh7:IFn:=⟨[.tmp 4],sq [.r [.m 4 (.c (.w 0))],.r [.n 5 0,.n 6 1,.q 7 (.max (.t 6) (.c (.w 1))),.b 8 .quo 5 7,.n 4 8],.ret]⟩
def qJG(hc:qc P f qh7=true)(a b:Int)(a0:0<=a)(a1:a<=4294967295)(b0:0<b):qa P f [.w a,.w b] (.w (a / b)):=by
 refine qa.mk hc rfl ?_;have h1:¬b<1:=by omega
 have hne:b≠0:=by omega
 have hq:a.tdiv b=a / b:=by grind
 have hle:a / b<=a:=Int.ediv_le_self _ a0;have hge:0<=a / b:=Int.ediv_nonneg a0 (by omega);have hwq:IntKind.wrap .u32 (a / b)=a / b:=by show(a / b) % 4294967296=_;omega
 simp only[qh7,vI,simprocAttr];simp +decide only[↓vS,vT,simprocAttr,h1,↓qkK hne,hq,hwq];simp[vZ]
def qia:IFn:=⟨[.tmp 4],sq [.r [.m 4 (.c (.w 0))],.r [.n 5 0,.n 6 1,.q 7 (.bin .rem (.t 6) (.c (.w 32))),.b 8 .shl 5 7,.n 4 8],.ret]⟩
def qJJ(hc:qc P f qia=true)(a b:Int)(a0:0<=a)(a1:a<=4294967295)(b0:0<=b):qa P f [.w a,.w b] (.w (qdT true (b % 32).toNat a)):=by
 refine qa.mk hc rfl ?_;have h32:(32:Int)≠0:=by decide
 have hr:b.tmod 32=b % 32:=by grind
 have hp:0<=b % 32:=by omega
 have hm:min (b % 32).toNat 32=(b % 32).toNat:=by omega
 have hsh:qpX .u32 a (b % 32)=qdT true (b % 32).toNat a:=by
  rw[qlJ (b % 32).toNat a a0 a1];unfold qpX;rw[show IntKind.bits .u32=32 from rfl,hm]
  rfl
 simp only[qia,vI,simprocAttr];simp +decide only[↓vS,vT,simprocAttr,↓qfG h32,hr,hp,hsh];simp[vZ]
def qib:IFn:=⟨[.tmp 4],sq [.r [.m 4 (.c (.w 0))],.r [.n 5 0,.n 6 1,.q 7 (.bin .rem (.t 6) (.c (.w 32))),.b 8 .shr 5 7,.n 4 8],.ret]⟩
def qJK(hc:qc P f qib=true)(a b:Int)(a0:0<=a)(a1:a<=4294967295)(b0:0<=b):qa P f [.w a,.w b] (.w (qdT false (b % 32).toNat a)):=by
 refine qa.mk hc rfl ?_;have h32:(32:Int)≠0:=by decide
 have hr:b.tmod 32=b % 32:=by grind
 have hp:0<=b % 32:=by omega
 have hm:min (b % 32).toNat 32=(b % 32).toNat:=by omega
 have hsh:qxt .u32 a (b % 32)=qdT false (b % 32).toNat a:=by
  rw[qkl (b % 32).toNat a a0];unfold qxt;rw[show IntKind.bits .u32=32 from rfl,hm]
  grind
 simp only[qib,vI,simprocAttr];simp +decide only[↓vS,vT,simprocAttr,↓qfG h32,hr,hp,hsh];simp[vZ]
def qgZ:IFn:=⟨[.tmp 4],sq [.r [.m 4 .F],.r [.n 5 0,.n 6 1,.b 7 .eql 5 6,.n 4 7],.ret]⟩
def qIR(hc:qc P f qgZ=true)(a b:Int):qa P f [.w a,.w b] (.b (qbD 21 a b)):=by
 refine qa.mk hc rfl ?_;simp only[qgZ,vI,simprocAttr];simp +decide only[↓vS,vT,simprocAttr];simp[vZ,qbD]
def qg0:IFn:=⟨[.tmp 4],sq [.r [.m 4 .F],.r [.n 5 0,.n 6 1,.b 7 .gtr 5 6,.n 4 7],.ret]⟩
def qIS(hc:qc P f qg0=true)(a b:Int):qa P f [.w a,.w b] (.b (qbD 37 a b)):=by
 refine qa.mk hc rfl ?_;simp only[qg0,vI,simprocAttr];simp +decide only[↓vS,vT,simprocAttr];simp[vZ,qbD]
def qg1:IFn:=⟨[.tmp 4],sq [.r [.m 4 .F],.r [.n 5 0,.n 6 1,.b 7 .geq 5 6,.n 4 7],.ret]⟩
def qIT(hc:qc P f qg1=true)(a b:Int):qa P f [.w a,.w b] (.b (qbD 53 a b)):=by
 refine qa.mk hc rfl ?_;simp only[qg1,vI,simprocAttr];simp +decide only[↓vS,vT,simprocAttr];simp[vZ,qbD]
def qq2(a b:Int):0<=xS .u32 a b:=(qcM _).1
def qg2:IFn:=⟨[.tmp 4],sq [.r [.m 4 .F],.r [.n 5 0,.n 6 1,.b 7 .and 5 6,.q 8 (.bin .neq (.t 7) (.c (.w 0))),.n 4 8],.ret]⟩
def qIU(hc:qc P f qg2=true)(a b:Int):qa P f [.w a,.w b] (.b (qbD 69 a b)):=by
 refine qa.mk hc rfl ?_;have h:=qq2 a b;simp only[qg2,vI,simprocAttr];simp +decide only[↓vS,vT,simprocAttr];simp[vZ,qbD]
 grind
def fnO:Option Nat->AV
 | none=>.nilf
 | some g=>.fn g [] []
def qaQ(x:Int×Option Nat×Option Nat):List AV:=[.h x.1,fnO x.2.1,fnO x.2.2]
def qng(x:Int×Option Nat×Option Nat):(qaQ x).length=3:=rfl
def qEg(g1 g2 g3 g4 g5 g6 g7 g8 g9 g10 g11 g12 g13 g14:Nat):List (Int×Option Nat×Option Nat):=[(4,some g1,none),(20,some g2,none),(36,some g3,none),(52,some g4,none),(68,some g5,none),(84,some g6,none),(100,some g7,none),(116,some g8,none),(164,some g9,none),(132,some g10,none),(21,none,some g11),(37,none,some g12),(53,none,some g13),(69,none,some g14)]
def qkj(a b c d e g h i j k l m n o:Nat):IFn:=⟨[.cell 0 42 true],sq [.r [.q 0 (.alloc [.h 0,.nilf,.nilf,.h 0,.nilf,.nilf,.h 0,.nilf,.nilf,.h 0,.nilf,.nilf,.h 0,.nilf,.nilf,.h 0,.nilf,.nilf,.h 0,.nilf,.nilf,.h 0,.nilf,.nilf,.h 0,.nilf,.nilf,.h 0,.nilf,.nilf,.h 0,.nilf,.nilf,.h 0,.nilf,.nilf,.h 0,.nilf,.nilf,.h 0,.nilf,.nilf])],.r [.q 1 (.build [.h 0,.nilf,.nilf] [(0,1,(.c (.h 4))),(1,1,(.c (.fn a [] [])))]),.q 2 (.build [.h 0,.nilf,.nilf] [(0,1,(.c (.h 20))),(1,1,(.c (.fn b [] [])))]),.q 3 (.build [.h 0,.nilf,.nilf] [(0,1,(.c (.h 36))),(1,1,(.c (.fn c [] [])))]),.q 4 (.build [.h 0,.nilf,.nilf] [(0,1,(.c (.h 52))),(1,1,(.c (.fn d [] [])))]),.q 5 (.build [.h 0,.nilf,.nilf] [(0,1,(.c (.h 68))),(1,1,(.c (.fn e [] [])))]),.q 6 (.build [.h 0,.nilf,.nilf] [(0,1,(.c (.h 84))),(1,1,(.c (.fn g [] [])))]),.q 7 (.build [.h 0,.nilf,.nilf] [(0,1,(.c (.h 100))),(1,1,(.c (.fn h [] [])))]),.q 8 (.build [.h 0,.nilf,.nilf] [(0,1,(.c (.h 116))),(1,1,(.c (.fn i [] [])))]),.q 9 (.build [.h 0,.nilf,.nilf] [(0,1,(.c (.h 164))),(1,1,(.c (.fn j [] [])))]),.q 10 (.build [.h 0,.nilf,.nilf] [(0,1,(.c (.h 132))),(1,1,(.c (.fn k [] [])))]),.q 11 (.build [.h 0,.nilf,.nilf] [(0,1,(.c (.h 21))),(2,1,(.c (.fn l [] [])))]),.q 12 (.build [.h 0,.nilf,.nilf] [(0,1,(.c (.h 37))),(2,1,(.c (.fn m [] [])))]),.q 13 (.build [.h 0,.nilf,.nilf] [(0,1,(.c (.h 53))),(2,1,(.c (.fn n [] [])))]),.q 14 (.build [.h 0,.nilf,.nilf] [(0,1,(.c (.h 69))),(2,1,(.c (.fn o [] [])))]),.q 15 (.build [.h 0,.nilf,.nilf,.h 0,.nilf,.nilf,.h 0,.nilf,.nilf,.h 0,.nilf,.nilf,.h 0,.nilf,.nilf,.h 0,.nilf,.nilf,.h 0,.nilf,.nilf,.h 0,.nilf,.nilf,.h 0,.nilf,.nilf,.h 0,.nilf,.nilf,.h 0,.nilf,.nilf,.h 0,.nilf,.nilf,.h 0,.nilf,.nilf,.h 0,.nilf,.nilf] [(0,3,(.t 1)),(3,3,(.t 2)),(6,3,(.t 3)),(9,3,(.t 4)),(12,3,(.t 5)),(15,3,(.t 6)),(18,3,(.t 7)),(21,3,(.t 8)),(24,3,(.t 9)),(27,3,(.t 10)),(30,3,(.t 11)),(33,3,(.t 12)),(36,3,(.t 13)),(39,3,(.t 14))]),.u (.store 42 (.t 0) (.t 15))],.ret]⟩
set_option maxRecDepth 8000 in
def qEd{g1 g2 g3 g4 g5 g6 g7 g8 g9 g10 g11 g12 g13 g14:Nat}(hc:qc P f (qkj g1 g2 g3 g4 g5 g6 g7 g8 g9 g10 g11 g12 g13 g14)=true):qa P f [] (.agg ((qEg g1 g2 g3 g4 g5 g6 g7 g8 g9 g10 g11 g12 g13 g14).flatMap qaQ)):=by
 refine qa.mk hc rfl ?_;simp only[qkj,vI,simprocAttr];simp +decide only[↓vS,vT,simprocAttr];simp[vZ,vP,Tr.get_set,qEg,qaQ,fnO]
def qlh(c:Int):Int:=if qaH c=true then qeH .u16 c 8 else c
def qkS(o:Option Nat):clo (fnO o)=true:=by cases o<;>rfl
def qgX(a b:Nat):ICode:=sq [sq [.r [.l 9 b [],.m 10 (.k 0)],.blk 0 (.loop (sq [.r [.w 11 .lss 10 14],.cond (.t 11) (.skip) (.exit 0),.blk 1 (sq [.r [.q 12 (.idxA 14 3 true (.t 9) (.t 10)),.q 4 (.alloc [.h 0,.nilf,.nilf]),.u (.store 3 (.t 4) (.t 12))],.r [.f 13 0 4,.d 14 13,.n 15 0,.b 16 .eql 14 15],.cond (.t 16) (sq [.r [.v 17 3 4,.u (.store 3 (.t 2) (.t 17))],.ret]) (.skip)]),.r [.a 18 10 1,.n 10 18]]))],.r [.q 19 (.build [.h 0,.nilf,.nilf] []),.u (.store 3 (.t 2) (.t 19))],.ret]
def qpk(a b:Nat):IFn:=⟨[.cell 2 3 true],sq [.r [.q 2 (.alloc [.h 0,.nilf,.nilf])],sq [.r [.n 5 0,.l 6 a [.t 5]],.cond (.t 6) (.r [.n 7 0,.q 8 (.bin .andNot (.t 7) (.c (.h 8))),.n 0 8]) (.skip)],.cut (qgX a b)]⟩
def qAZ{g1 g2:Nat}(ws:List (Int×Option Nat×Option Nat))(hw:ws.length=14)(h2:qa P g2 [] (.agg (ws.flatMap qaQ)))(b:Int)(r:Int×Option Nat×Option Nat)(hr:(ws.find? λx=>decide (x.1=b))=some r)
  {t':Tr AV} {h':Hp} (hwk:Wk 0 t' h' (mkT [(0,.h b),(2,.ptr 0 0)]) (mkH 0 [.v [.h 0,.nilf,.nilf]])) :
  S P 0 (qgX g1 g2) (xu [.cell 2 3 true] λv' h'=>Frz h' v' (.agg (qaQ r))) t' h':=by
 refine S.weak hwk (qk ?_);have hlen:(ws.flatMap qaQ).length=42:=by rw[qW qng,hw]
 have hcl:qt (ws.flatMap qaQ)=true:=xP (λx=>by simp[qaQ,qt,clo,qkS])
 simp only[qgX,vI,simprocAttr];simp +decide only[↓vS,vT,simprocAttr];refine h2.sc ?_;simp +decide only[↓vS,vT,simprocAttr];refine SL.loop (α:=Nat) (λj=>[(0,.h b),(2,.ptr 0 0),(9,.agg (ws.flatMap qaQ)),(10,.j (j:Int))]) (λ_=>[.v [.h 0,.nilf,.nilf]]) (λj=>j<=14/\((ws.drop j).find? λx=>decide (x.1=b))=some r) (λj=>14-j) 0 [0] ?_ ?_ ?_ rfl ?_ ?_
 .simp[vw,qe,hcl]
 .simp[vw]
 .simp
 .simp_all
 rintro j ⟨hj,hI⟩ G ih;simp only[vI,simprocAttr]
 by_cases hlt:j<14
 .have hlt':(j:Int)<14:=by omega
  have hjl:j<ws.length:=by omega
  have hx:ws[j]?=some ws[j]:=by simp_all
  have hw1:IntKind.wrap .i64 ((j:Int)+1)=((j+1:Nat):Int):=by rw[qp (by omega) (by omega)];omega
  have hel:=qS (f:=qaQ) (m:=3) qng hx;have hb:j*3+3<=(ws.flatMap qaQ).length:=by omega
  rw[List.drop_eq_getElem_cons hjl,List.find?_cons]at hI;generalize hc0:ws[j]=x at hel hI;simp only[qaQ]at hel;generalize hT:ws.flatMap qaQ=T at hel hb hlen hcl;have hf1:=qkS x.2.1;have hf2:=qkS x.2.2;have hok:qD [AV.h x.1,fnO x.2.1,fnO x.2.2]=true:=by obtain⟨_,o1,o2⟩:=x;cases o1<;>cases o2<;>rfl
  by_cases hxb:x.1=b
  .have hd:decide (x.1=b)=true:=by simp_all
   rw[hd]at hI;obtain rfl:x=r:=by simp_all
   have hok':ze (fnO x.2.1)=true/\ze (fnO x.2.2)=true:=by obtain⟨_,o1,o2⟩:=x;cases o1<;>cases o2<;>exact⟨rfl,rfl⟩
   simp +decide only[↓vS,vT,simprocAttr,hlt',hlt,hel,hb,hok,hok'.1,hok'.2,hxb];have fz:∀(h:Hp) (o:Option Nat),Frz h (fnO o) (fnO o):=λh o=>Frz.self (qkS o)
   simp[vZ,qaQ,hxb,fz]
  .have hd:decide (x.1=b)=false:=by simp_all
   rw[hd]at hI;simp +decide only[↓vS,vT,simprocAttr,hlt',hlt,hel,hb,hok,hxb,hw1];refine ih (j+1) ⟨hlt,hI⟩ (by omega) _ _ (Wk.mk _ _ [0] ?_ ?_ ?_ rfl)
   .simp[vw,qe,hcl,hT]
   .simp[vw]
   .simp
 .obtain rfl:j=14:=by omega
  have hd:ws.drop 14=[]:=by simp_all
  rw[hd]at hI;cases hI
def qH5{g1 g2:Nat}(hc:qc P f (qpk g1 g2)=true)(h1:cWX P g1)(ws:List (Int×Option Nat×Option Nat))(hw:ws.length=14)(h2:qa P g2 [] (.agg (ws.flatMap qaQ)))(c:Int)(r:Int×Option Nat×Option Nat)(hr:(ws.find? λx=>decide (x.1=qlh c))=some r) :
  qa P f [.h c] (.agg (qaQ r)):=by
 refine qa.mk hc rfl ?_;have hX:=h1 c;unfold qlh at hr;simp only[qpk,vI,simprocAttr];cases hx:qaH c with
 | true =>
  rw[hx]at hX hr;rw[if_pos rfl]at hr;simp +decide only[↓vS,vT,simprocAttr];refine hX.sc ?_;simp +decide only[↓vS,vT,simprocAttr];refine qAZ ws hw h2 (qeH .u16 c 8) r hr (Wk.mk _ _ [0] ?_ ?_ ?_ rfl)
  .simp[vw]
  .simp[vw]
  .simp
 | false =>
  rw[hx]at hX hr;rw[if_neg (by simp)]at hr;simp +decide only[↓vS,vT,simprocAttr];refine hX.sc ?_;simp +decide only[↓vS,vT,simprocAttr];refine qAZ ws hw h2 c r hr (Wk.mk _ _ [0] ?_ ?_ ?_ rfl)
  .simp[vw]
  .simp[vw]
  .simp
def cVm(m:Mac)(d:GData):List AV:=.w m.a :: .w m.x::(rI .u32 m.cl++(zt d++[.w m.told,.b m.over]))
def qkO{m:Mac}{d:GData}(h:m.cl.length=16):(cVm m d).length=29:=by
 show(rI .u32 m.cl++(zt d++[AV.w m.told,AV.b m.over])).length+2=29;rw[zzP,qad,h];rfl
def qr{m:Mac}{d:GData}:qt (cVm m d)=true:=by
 show qt (rI .u32 m.cl++(zt d++[AV.w m.told,AV.b m.over]))=true;rw[xN,qh];rfl
def qcD(a:Nat):IFn:=⟨[.tmp 4],sq [.r [.q 3 (.box (.t 1)),.m 4 (.c (.w 0))],sq [.r [.f 5 0 3,.d 6 5,.l 7 a [.t 6]],.cond (.t 7) (sq [.r [.n 8 0,.q 9 (.nilChk (.t 8)),.f 10 1 9,.d 11 10,.n 4 11],.ret]) (.skip)],.r [.f 12 3 3,.d 13 12,.n 4 13],.ret]⟩
def qBx{g:Nat}(hc:qc P f (qcD g)=true)(hg:cWX P g)(m:Mac)(d:GData)(hl:m.cl.length=16)(i:Ins):Rd P f [.ptr 0 0,.agg (qI i)] [.v (cVm m d)] (.w (qdf m i)):=by
 refine Rd.mk hc (by simp[ji,bnd,qI]) rfl ?_;have hX:=hg i.code;have g1:(cVm m d)[1]?=some (.w m.x):=rfl;unfold qdf;simp only[qcD,qI,vI,simprocAttr];cases hx:qaH i.code with
 | true =>
  rw[hx]at hX;simp +decide only[↓vS,vT,simprocAttr];refine hX.sc ?_;simp +decide only[↓vS,vT,simprocAttr,g1]
 | false =>
  rw[hx]at hX;simp +decide only[↓vS,vT,simprocAttr];refine hX.sc ?_;simp +decide only[↓vS,vT,simprocAttr]
def qGB(P:Program)(g:Nat):Prop:=∀(m:Mac) (d:GData),m.cl.length=16->∀i:Ins,Rd P g [.ptr 0 0,.agg (qI i)] [.v (cVm m d)] (.w (qdf m i))
def qGv(P:Program)(g:Nat):Prop:=∀c:Int,c4L.contains c=true->c≠5->∃(b:Int) (o:Option Nat) (k:Nat),qa P g [.h c] (.agg (qaQ (b,o,some k)))/\∀x y:Int,qa P k [.w x,.w y] (.b (qbD (qV c) x y))
def qdR(a b:Nat):IFn:=⟨[.tmp 4],sq [.r [.q 3 (.box (.t 1)),.m 4 (.k 0)],.blk 0 (sq [.r [.f 6 0 3,.d 7 6,.q 8 (.bin .eql (.t 7) (.c (.h 5))),.n 5 8],.cond (.t 5) (sq [.r [.f 9 3 3,.d 10 9,.q 11 (.cvInt .i64 (.t 10)),.n 4 11],.ret]) (sq [.reg true [.f 13 0 3,.d 14 13,.l 15 a [.t 14],.q 16 (.fld 2 none (.t 15)),.n 17 0,.q 18 (.nilChk (.t 17)),.f 19 0 18,.d 20 19,.n 21 0,.v 22 4 3,.l 23 b [.t 21,.t 22],⟨(some 24),.callV (.t 16) [.t 20,.t 23],none⟩,.n 12 24],.cond (.t 12) (sq [.r [.f 25 1 3,.d 26 25,.q 27 (.cvInt .i64 (.t 26)),.n 4 27],.ret]) (.skip)])]),.r [.f 28 2 3,.d 29 28,.q 30 (.cvInt .i64 (.t 29)),.n 4 30],.ret]⟩
def qJl{g1 g2:Nat}(hc:qc P f (qdR g1 g2)=true)(h1:qGv P g1)(h2:qGB P g2)(m:Mac)(d:GData)(hl:m.cl.length=16)(i:Ins)(hi:InsOk i)(hcls:qm i.code=4) :
  Upd P f [.ptr 0 0,.agg (qI i)] [.v (cVm m d)] (.j (qid m i)) [.v (cVm m d)]:=by
 refine Upd.mk hc (by simp[ji,bnd,qI]) (by simp) ?_;have g0:(cVm m d)[0]?=some (.w m.a):=rfl;have wk:IntKind.wrap .i64 i.k=i.k:=by have:=hi.k0;have:=hi.k1;grind[qp]
 have wt:IntKind.wrap .i64 i.jt=i.jt:=by have:=hi.t0;have:=hi.t1;grind[qp]
 have wf:IntKind.wrap .i64 i.jf=i.jf:=by have:=hi.f0;have:=hi.f1;grind[qp]
 have hmem:c4L.contains i.code=true:=by
  unfold qm at hcls;cases hcm:qag i.code<;>grind[qdn,qEU]
 have hsec:=h2 m d hl i;unfold qid;simp only[qdR,qI,vI,simprocAttr]at hsec ⊢
 by_cases c5:i.code=5
 .simp +decide only[↓vS,vT,simprocAttr,c5,wk];intro _;refine⟨[0],?_⟩;simp[vw,qe,qr]
 obtain⟨b,o,k,hby,hho⟩:=h1 i.code hmem c5;simp only[qaQ]at hby;rw[if_neg c5];simp +decide only[↓vS,vT,simprocAttr,c5];refine zB ?_;simp +decide only[↓vS,vT,simprocAttr];refine hby.pc ?_;simp +decide only[↓vS,vT,simprocAttr,fnO,g0];refine hsec.pc (vs:=[.ptr 0 0,.agg [.h i.code,.y i.jt,.y i.jf,.w i.k]]) [0] (Lent.of (by decide) ?_) ?_
 .simp[vL,vw,qu qr,qf qr]
 simp +decide only[↓vS,vT,simprocAttr];refine(hho m.a (qdf m i)).pc ?_;simp only[Hp.up,Hp.down];cases hh:qbD (qV i.code) m.a (qdf m i)with
 | true =>
  simp +decide only[↓vS,vT,simprocAttr,wt];intro _;refine⟨[0],?_⟩;simp[vw,qe,qr]
 | false =>
  simp +decide only[↓vS,vT,simprocAttr,wf];intro _;refine⟨[0],?_⟩;simp[vw,qe,qr]
def qoR{m:Mac}{d:GData}(h:m.cl.length=16)(v:Bool):List.take 28 (cVm m d)++(AV.b v::List.drop 29 (cVm m d))=cVm { m with over:=v } d:=by
 have e:List.take 26 (rI .u32 m.cl++(zt d++[AV.w m.told,AV.b m.over]))++(AV.b v::List.drop 27 (rI .u32 m.cl++(zt d++[AV.w m.told,AV.b m.over])))=rI .u32 m.cl++(zt d++[AV.w m.told,AV.b v]):=by
  have hl:(rI .u32 m.cl).length=16:=by rw[qad,h]
  rw[List.take_append,hl,List.take_of_length_le (by rw[hl];decide),List.drop_eq_nil_of_le (by rw[zzP,hl];exact zzL 27),List.append_assoc];rfl
 show AV.w m.a::AV.w m.x::(List.take 26 (rI .u32 m.cl++(zt d++[AV.w m.told,AV.b m.over]))++(AV.b v::List.drop 27 (rI .u32 m.cl++(zt d++[AV.w m.told,AV.b m.over]))))=_;rw[e];rfl
def qAq(c a b:Int):Int:=if c=52 then a / b else if c=100\/c=116 then qdT (decide (c=100)) (b % 32).toNat a else opM c a b
def qGw(P:Program)(g:Nat):Prop:=∀c:Int,c3L.contains c=true->∃(b:Int) (k:Nat) (o:Option Nat),qa P g [.h c] (.agg (qaQ (b,some k,o)))/\∀x y:Int,u32 x->u32 y->(qV c=52->0<y)->qa P k [.w x,.w y] (.w (qAq (qV c) x y))
def qq6:∀c:Int,c3L.contains c=true->(qV c=52↔c=52\/c=60)/\(qV c=100↔c=100\/c=108)/\(qV c=116↔c=116\/c=124)/\(qaH c=true↔c≠132/\8<=c % 16):=by
 intro c h;have key:∀c ∈ c3L,(qV c=52↔c=52\/c=60)/\(qV c=100↔c=100\/c=108)/\(qV c=116↔c=116\/c=124)/\(qaH c=true↔c≠132/\8<=c % 16):=by decide
 simp_all
def qcC(a b c:Nat):IFn:=⟨[],sq [.r [.q 3 (.box (.t 1))],.r [.n 5 0,.v 6 4 3,.l 7 a [.t 5,.t 6],.n 4 7],.blk 0 (sq [.r [.f 22 0 3,.d 23 22,.q 24 (.bin .eql (.t 23) (.c (.h 52))),.n 25 24,.y 26 4 25,.g 27 (.bin .eql (.t 26) (.c (.w 0))) 25 true,.p 28 25 27,.n 21 28],.cond (.t 21) (.r [.l 29 b [.k 44]]) (sq [.r [.f 31 0 3,.d 32 31,.q 33 (.bin .eql (.t 32) (.c (.h 60))),.n 34 33,.y 35 4 34,.g 36 (.bin .eql (.t 35) (.c (.w 0))) 34 true,.p 37 34 36,.n 30 37],.cond (.t 30) (.r [.n 38 0,.q 39 (.nilChk (.t 38)),.f 40 28 39,.u (.store 1 (.t 40) .T)]) (sq [.r [.f 42 0 3,.d 43 42,.q 44 (.bin .eql (.t 43) (.c (.h 100))),.n 45 44,.h 46 0 3 45 false,.j 47 46 45 false,.g 48 (.bin .eql (.t 47) (.c (.h 116))) 45 false,.o 49 45 48,.n 50 49,.y 51 4 50,.g 52 (.bin .gtr (.t 51) (.c (.w 31))) 50 true,.p 53 50 52,.n 41 53],.cond (.t 41) (.r [.l 54 b [.k 45]]) (.reg true [.n 8 0,.f 9 0 3,.d 10 9,.l 11 c [.t 10],.q 12 (.fld 1 none (.t 11)),.n 13 0,.q 14 (.nilChk (.t 13)),.f 15 0 14,.d 16 15,.n 17 4,⟨(some 18),.callV (.t 12) [.t 16,.t 17],none⟩,.q 19 (.nilChk (.t 8)),.f 20 0 19,.u (.store 1 (.t 20) (.t 18))])])])])]⟩
def qHV{g1 g2 g3:Nat}(hc:qc P f (qcC g1 g2 g3)=true)(h1:qGB P g1)(h3:qGw P g3)(m:Mac)(hm:MacOk m)(d:GData)(i:Ins)(hi:InsOk i)(hcls:qm i.code=3)(hz:(nuM m i).2=0) :
  Upd P f [.ptr 0 0,.agg (qI i)] [.v (cVm m d)] (.tup []) [.v (cVm (nuM m i).1 d)]:=by
 refine Upd.mk hc (by simp[ji,bnd,qI]) (by simp) ?_;have hl:=qkO (d:=d) hm.len;have g0:(cVm m d)[0]?=some (.w m.a):=rfl;have s0:∀v:Int,AV.w v::List.drop 1 (cVm m d)=cVm { m with a:=v } d:=λ_=>rfl
 have so:=qoR (d:=d) hm.len true
 have hmem:c3L.contains i.code=true:=by
  unfold qm at hcls;cases hcm:qag i.code<;>grind[qdn,qxz]
 obtain⟨e52,e100,e116,eX⟩:=qq6 i.code hmem
 have hB:u32 (qdf m i):=by
  unfold qdf;split
  .exact hm.x
  .exact⟨hi.k0,hi.k1⟩
 obtain⟨b,k,o,hby,hres⟩:=h3 i.code hmem;have hsec:=h1 m d hm.len i;have hr:=hres m.a (qdf m i) hm.a hB;have hb0:=hB.1;unfold nuM at hz ⊢;simp only[qaQ]at hby;simp only[qcC,qI,vI,simprocAttr]at hsec ⊢;generalize qdf m i=y at hz hsec hr hb0 ⊢;simp +decide only[↓vS,vT,simprocAttr];refine hsec.sc (vs:=[.ptr 0 0,.agg [.h i.code,.y i.jt,.y i.jf,.w i.k]]) [0] (Lent.of (by decide) ?_) ?_
 .simp[vL,vw,qu qr,qf qr]
 by_cases c60:i.code=60/\y=0
 .have b52:=e52.2 (.inr c60.1);have hX:qaH i.code=true:=by simp_all
  rw[if_pos b52,if_neg (by omega),if_pos hX];simp +decide only[↓vS,vT,simprocAttr,c60.1,c60.2,hl,so];intro _;refine⟨[0],?_⟩;simp[vw,qe,qr]
 have h52:i.code=52->y≠0:=by grind
 have h60:i.code=60->y≠0:=by omega
 have hsh:(i.code=100\/i.code=116)->y<=31:=λhs=>by
  have hX:qaH i.code=false:=by
   cases h:qaH i.code with
   | false=>rfl
   | true =>
    have:=(eX.1 h).2;rcases hs with hs|hs<;>(rw[hs]at this;omega)
  have hb:qV i.code=100\/qV i.code=116:=by grind
  have hn:¬qV i.code=52:=by rcases hb with hb|hb<;>(rw[hb];decide)
  rw[if_neg hn,if_pos hb]at hz
  grind
 have hnu:(if qV i.code=52 then(if 0<y then(({ m with a:=m.a / y }:Mac),(0:Int))else if qaH i.code=true then({ m with over:=true },0)else(m,44))else if qV i.code=100\/qV i.code=116 then(if qaH i.code=false/\31<y then(m,45)else({ m with a:=qdT (decide (qV i.code=100)) (y % 32).toNat m.a },0))else({ m with a:=opM (qV i.code) m.a y },0)).1={ m with a:=qAq (qV i.code) m.a y }:=by
  unfold qAq
  grind
 rw[hnu]
 have hr:=hr λb52=>by
  grind
 generalize qAq (qV i.code) m.a y=R at hr ⊢;clear hz hnu hres
 by_cases d52:i.code=52
 .have hy0:=h52 d52;simp +decide only[↓vS,vT,simprocAttr,d52,hy0];refine zB ?_;simp +decide only[↓vS,vT,simprocAttr];refine hby.pc ?_;simp +decide only[↓vS,vT,simprocAttr,fnO,g0];refine hr.pc ?_;simp only[Hp.up,Hp.down];simp +decide only[↓vS,vT,simprocAttr,hl,s0];intro _;refine⟨[0],?_⟩;simp[vw,qe,qr]
 by_cases d60:i.code=60
 .have hy0:=h60 d60;simp +decide only[↓vS,vT,simprocAttr,d60,hy0];refine zB ?_;simp +decide only[↓vS,vT,simprocAttr];refine hby.pc ?_;simp +decide only[↓vS,vT,simprocAttr,fnO,g0];refine hr.pc ?_;simp only[Hp.up,Hp.down];simp +decide only[↓vS,vT,simprocAttr,hl,s0];intro _;refine⟨[0],?_⟩;simp[vw,qe,qr]
 by_cases d100:i.code=100
 .have hy1:=hsh (.inl d100);have hy0:¬31<y:=by omega
  simp +decide only[↓vS,vT,simprocAttr,d100,hy0];refine zB ?_;simp +decide only[↓vS,vT,simprocAttr];refine hby.pc ?_;simp +decide only[↓vS,vT,simprocAttr,fnO,g0];refine hr.pc ?_;simp only[Hp.up,Hp.down];simp +decide only[↓vS,vT,simprocAttr,hl,s0];intro _;refine⟨[0],?_⟩;simp[vw,qe,qr]
 by_cases d116:i.code=116
 .have hy1:=hsh (.inr d116);have hy0:¬31<y:=by omega
  simp +decide only[↓vS,vT,simprocAttr,d116,hy0];refine zB ?_;simp +decide only[↓vS,vT,simprocAttr];refine hby.pc ?_;simp +decide only[↓vS,vT,simprocAttr,fnO,g0];refine hr.pc ?_;simp only[Hp.up,Hp.down];simp +decide only[↓vS,vT,simprocAttr,hl,s0];intro _;refine⟨[0],?_⟩;simp[vw,qe,qr]
 simp +decide only[↓vS,vT,simprocAttr,d52,d60,d100,d116];refine zB ?_;simp +decide only[↓vS,vT,simprocAttr];refine hby.pc ?_;simp +decide only[↓vS,vT,simprocAttr,fnO,g0];refine hr.pc ?_;simp only[Hp.up,Hp.down];simp +decide only[↓vS,vT,simprocAttr,hl,s0];intro _;refine⟨[0],?_⟩;simp[vw,qe,qr]
structure Prs (P:Program) (g:Nat->Nat):Prop where
 p1:∀a b:Int,qa P (g 1) [.w a,.w b] (.w (opM 4 a b))
 p2:∀a b:Int,qa P (g 2) [.w a,.w b] (.w (opM 20 a b))
 p3:∀a b:Int,qa P (g 3) [.w a,.w b] (.w (opM 36 a b))
 p4:∀a b:Int,0<=a->a<=4294967295->0<b->qa P (g 4) [.w a,.w b] (.w (a / b))
 p5:∀a b:Int,qa P (g 5) [.w a,.w b] (.w (opM 68 a b))
 p6:∀a b:Int,qa P (g 6) [.w a,.w b] (.w (opM 84 a b))
 p7:∀a b:Int,0<=a->a<=4294967295->0<=b->qa P (g 7) [.w a,.w b] (.w (qdT true (b % 32).toNat a))
 p8:∀a b:Int,0<=a->a<=4294967295->0<=b->qa P (g 8) [.w a,.w b] (.w (qdT false (b % 32).toNat a))
 p9:∀a b:Int,qa P (g 9) [.w a,.w b] (.w (opM 164 a b))
 p10:∀a b:Int,qa P (g 10) [.w a,.w b] (.w (opM 132 a b))
 p11:∀a b:Int,qa P (g 11) [.w a,.w b] (.b (qbD 21 a b))
 p12:∀a b:Int,qa P (g 12) [.w a,.w b] (.b (qbD 37 a b))
 p13:∀a b:Int,qa P (g 13) [.w a,.w b] (.b (qbD 53 a b))
 p14:∀a b:Int,qa P (g 14) [.w a,.w b] (.b (qbD 69 a b))
def qHB(g:Nat->Nat):List (Int×Option Nat×Option Nat):=qEg (g 1) (g 2) (g 3) (g 4) (g 5) (g 6) (g 7) (g 8) (g 9) (g 10) (g 11) (g 12) (g 13) (g 14)
def qoJ:∀c:Int,c3L.contains c=true\/(c4L.contains c=true/\c≠5)->qlh c=qV c:=by
 have k3:∀c ∈ c3L,qlh c=qV c:=by decide
 have k4:∀c ∈ c4L,c≠5->qlh c=qV c:=by decide
 grind
def qB6:∀c:Int,c3L.contains c=true->qV c=4\/qV c=20\/qV c=36\/qV c=52\/qV c=68\/qV c=84\/qV c=100\/qV c=116\/qV c=164\/qV c=132:=by
 have k:∀c ∈ c3L,qV c=4\/qV c=20\/qV c=36\/qV c=52\/qV c=68\/qV c=84\/qV c=100\/qV c=116\/qV c=164\/qV c=132:=by decide
 simp_all
def qB7:∀c:Int,c4L.contains c=true->c≠5->qV c=21\/qV c=37\/qV c=53\/qV c=69:=by
 have k:∀c ∈ c4L,c≠5->qV c=21\/qV c=37\/qV c=53\/qV c=69:=by decide
 simp_all
def byN{g:Nat->Nat}(hp:Prs P g)(hb:∀(c:Int) (r:Int×Option Nat×Option Nat),((qHB g).find? λx=>decide (x.1=qlh c))=some r->qa P f [.h c] (.agg (qaQ r))):qGw P f:=by
 intro c hc;have hbv:=qoJ c (.inl hc);have hb:=hb c;rw[hbv]at hb;have n1:∀{x y:Int},u32 x->u32 y->0<=x/\x<=4294967295/\0<=y:=λh h'=>⟨h.1,h.2,h'.1⟩
 rcases qB6 c hc with e|e|e|e|e|e|e|e|e|e<;>rw[e]at hb ⊢
 .exact⟨4,g 1,none,hb _ rfl,λx y _ _ _=>hp.p1 x y⟩
 .exact⟨20,g 2,none,hb _ rfl,λx y _ _ _=>hp.p2 x y⟩
 .exact⟨36,g 3,none,hb _ rfl,λx y _ _ _=>hp.p3 x y⟩
 .exact⟨52,g 4,none,hb _ rfl,λx y hx _ h0=>hp.p4 x y hx.1 hx.2 (h0 rfl)⟩
 .exact⟨68,g 5,none,hb _ rfl,λx y _ _ _=>hp.p5 x y⟩
 .exact⟨84,g 6,none,hb _ rfl,λx y _ _ _=>hp.p6 x y⟩
 .exact⟨100,g 7,none,hb _ rfl,λx y hx hy _=>hp.p7 x y hx.1 hx.2 hy.1⟩
 .exact⟨116,g 8,none,hb _ rfl,λx y hx hy _=>hp.p8 x y hx.1 hx.2 hy.1⟩
 .exact⟨164,g 9,none,hb _ rfl,λx y _ _ _=>hp.p9 x y⟩
 .exact⟨132,g 10,none,hb _ rfl,λx y _ _ _=>hp.p10 x y⟩
def byJ{g:Nat->Nat}(hp:Prs P g)(hb:∀(c:Int) (r:Int×Option Nat×Option Nat),((qHB g).find? λx=>decide (x.1=qlh c))=some r->qa P f [.h c] (.agg (qaQ r))):qGv P f:=by
 intro c hc c5;have hbv:=qoJ c (.inr ⟨hc,c5⟩);have hb:=hb c;rw[hbv]at hb;rcases qB7 c hc c5 with e|e|e|e<;>rw[e]at hb ⊢
 .exact⟨21,none,g 11,hb _ rfl,hp.p11⟩
 .exact⟨37,none,g 12,hb _ rfl,hp.p12⟩
 .exact⟨53,none,g 13,hb _ rfl,hp.p13⟩
 .exact⟨69,none,g 14,hb _ rfl,hp.p14⟩
def qoQ{m:Mac}{d:GData}{k:Nat}{c:Int}(h:m.cl[k]?=some c):(cVm m d)[2+k]?=some (.w c):=by
 rw[show 2+k=k+2 from by omega]
 show(rI .u32 m.cl++(zt d++[AV.w m.told,AV.b m.over]))[k]?=_;rw[List.getElem?_append_left (by rw[qad];grind),qaW,h];rfl
def quN{m:Mac}{d:GData}(h:m.cl.length=16):List.take 9 (List.drop 18 (cVm m d))=zt d:=by
 show List.take 9 (List.drop 16 (rI .u32 m.cl++(zt d++[AV.w m.told,AV.b m.over])))=_;have hl:(rI .u32 m.cl).length=16:=by rw[qad,h]
 rw[List.drop_append,hl,List.drop_eq_nil_of_le (by rw[hl];omega)];rfl
def qdQ(a:Nat):IFn:=⟨[.tmp 4],sq [.r [.m 4 (.c (.nilp))],sq [.r [.n 5 1,.q 6 (.bin .geq (.t 5) (.c (.w 16)))],.cond (.t 6) (.r [.l 7 a [.k 43]]) (.skip)],.r [.n 8 0,.n 9 1,.q 10 (.nilChk (.t 8)),.f 11 2 10,.q 12 (.iAddrA 16 1 (.t 11) (.t 9)),.n 4 12],.ret]⟩
def qJk{g:Nat}(hc:qc P f (qdQ g)=true)(m:Mac)(d:GData)(n:Nat)(hn:n<16):Upd P f [.ptr 0 0,.w (n:Int)] [.v (cVm m d)] (.ptr 0 (2+n)) [.v (cVm m d)]:=by
 refine Upd.mk hc (by simp[ji,bnd]) (by simp) ?_;have hn':¬(16:Int)<=(n:Int):=by omega
 simp only[qdQ,vI,simprocAttr];simp +decide only[↓vS,vT,simprocAttr,hn',hn,zzU];intro _;refine⟨[0],?_⟩;simp[vw,qe,qr]
def quI(P:Program)(g:Nat):Prop:=∀(m:Mac) (d:GData) (n:Nat),n<16->Upd P g [.ptr 0 0,.w (n:Int)] [.v (cVm m d)] (.ptr 0 (2+n)) [.v (cVm m d)]
def c1L:List Int:=[32,128,0,96,129,1,97]
theorem qET:∀x ∈ qaO,x.2.2=1->c1L.contains x.1=true:=by decide
def qdS(a b c:Nat):IFn:=⟨[],sq [.r [.q 3 (.box (.t 1))],.r [.f 6 0 3,.d 7 6],.blk 0 (sq [.r [.q 9 (.bin .eql (.t 7) (.c (.h 32))),.n 8 9],.cond (.t 8) (sq [.reg true [.n 11 0,.q 12 (.nilChk (.t 11)),.f 13 18 12,.v 14 9 13,.f 15 3 3,.d 16 15,.l 17 a [.t 14,.t 16],.n 10 17,.x 18 10 0,.x 19 10 1,.n 4 18,.n 5 19],sq [.r [.n 20 5,.w 21 .neq 20 0],.cond (.t 21) (.r [.n 22 5,.l 23 b [.t 22]]) (.skip)],.r [.n 24 0,.n 25 4,.q 26 (.nilChk (.t 24)),.f 27 0 26,.u (.store 1 (.t 27) (.t 25))]]) (sq [.r [.q 29 (.bin .eql (.t 7) (.c (.h 128))),.n 28 29],.cond (.t 28) (.r [.n 30 0,.q 31 (.nilChk (.t 30)),.f 32 0 31,.u (.store 1 (.t 32) (.c (.w 64)))]) (sq [.r [.q 34 (.bin .eql (.t 7) (.c (.h 129))),.n 33 34],.cond (.t 33) (.r [.n 35 0,.q 36 (.nilChk (.t 35)),.f 37 1 36,.u (.store 1 (.t 37) (.c (.w 64)))]) (sq [.r [.q 39 (.bin .eql (.t 7) (.c (.h 0))),.n 38 39],.cond (.t 38) (.r [.n 40 0,.f 41 3 3,.d 42 41,.q 43 (.nilChk (.t 40)),.f 44 0 43,.u (.store 1 (.t 44) (.t 42))]) (sq [.r [.q 46 (.bin .eql (.t 7) (.c (.h 1))),.n 45 46],.cond (.t 45) (.r [.n 47 0,.f 48 3 3,.d 49 48,.q 50 (.nilChk (.t 47)),.f 51 1 50,.u (.store 1 (.t 51) (.t 49))]) (sq [.r [.q 53 (.bin .eql (.t 7) (.c (.h 96))),.n 52 53],.cond (.t 52) (.r [.n 54 0,.n 55 0,.f 56 3 3,.d 57 56,.l 58 c [.t 55,.t 57],.q 59 (.nilChk (.t 58)),.d 60 59,.q 61 (.nilChk (.t 54)),.f 62 0 61,.u (.store 1 (.t 62) (.t 60))]) (sq [.r [.q 64 (.bin .eql (.t 7) (.c (.h 97))),.n 63 64],.cond (.t 63) (.r [.n 65 0,.n 66 0,.f 67 3 3,.d 68 67,.l 69 c [.t 66,.t 68],.q 70 (.nilChk (.t 69)),.d 71 70,.q 72 (.nilChk (.t 65)),.f 73 1 72,.u (.store 1 (.t 73) (.t 71))]) (.skip)])])])])])])])]⟩
def qJm{g1 g2 g3:Nat}(hc:qc P f (qdS g1 g2 g3)=true)(h1:quR P g1)(h3:quI P g3)(m:Mac)(hm:MacOk m)(d:GData)(hd:DatOk d)(i:Ins)(hi:InsOk i)(hcls:qm i.code=1)(hz:(qet m i d).2=0) :
  Upd P f [.ptr 0 0,.agg (qI i)] [.v (cVm m d)] (.tup []) [.v (cVm (qet m i d).1 d)]:=by
 refine Upd.mk hc (by simp[ji,bnd,qI]) (by simp) ?_;have hl:=qkO (d:=d) hm.len;have g0:(cVm m d)[0]?=some (.w m.a):=rfl;have s0:∀v:Int,AV.w v::List.drop 1 (cVm m d)=cVm { m with a:=v } d:=λ_=>rfl
 have s1:∀v:Int,List.take 1 (cVm m d)++(AV.w v::List.drop 2 (cVm m d))=cVm { m with x:=v } d:=λ_=>rfl
 have hdt:=quN (d:=d) hm.len
 have hmem:c1L.contains i.code=true:=by
  unfold qm at hcls;cases hcm:qag i.code<;>grind[qdn,qET]
 simp only[c1L,List.contains_iff_mem,List.mem_cons,List.not_mem_nil,or_false]at hmem;have hw:=h1 d hd i.k hi.k0 hi.k1;unfold qnv at hw;unfold qet qg4 at hz ⊢;have k0:=hi.k0;simp only[qdS,qI,vI,simprocAttr];rcases hmem with e|e|e|e|e|e|e
 .by_cases hb:i.k % 4≠0\/64<=i.k
  .simp_all
  .rw[if_neg hb]at hw;simp +decide only[↓vS,vT,simprocAttr,e];refine zB ?_;simp +decide only[↓vS,vT,simprocAttr,hl,hdt];refine hw.pc ?_;simp +decide only[↓vS,vT,simprocAttr,hl,s0];intro _;refine⟨[0],?_⟩;simp only[e,if_neg hb];simp[vw,qe,qr]
 .simp +decide only[↓vS,vT,simprocAttr,e,hl,s0];intro _;refine⟨[0],?_⟩;simp[vw,qe,qr,e]
 .simp +decide only[↓vS,vT,simprocAttr,e,hl,s0];intro _;refine⟨[0],?_⟩;simp[vw,qe,qr,e]
 rotate_left
 .simp +decide only[↓vS,vT,simprocAttr,e,hl,s1];intro _;refine⟨[0],?_⟩;simp[vw,qe,qr,e]
 .simp +decide only[↓vS,vT,simprocAttr,e,hl,s1];intro _;refine⟨[0],?_⟩;simp[vw,qe,qr,e]
 .have hb:¬15<i.k:=by
   grind
  obtain⟨n,hn⟩:∃n:Nat,i.k=(n:Int):=⟨i.k.toNat,by omega⟩
  have hk16:n<16:=by omega
  obtain⟨c,hcx⟩:∃c,m.cl[n]?=some c:=⟨_,zzE (by rw[hm.len];omega)⟩;have gc:=qoQ (m:=m) (d:=d) hcx;have htn:i.k.toNat=n:=by omega
  simp +decide only[↓vS,vT,simprocAttr,e,hn];refine(h3 m d n hk16).sc (vs:=[.ptr 0 0,.w (n:Int)]) [0] (Lent.of (by decide) ?_) ?_
  .simp[vL,vw,qu qr,qf qr]
  simp only[vK,simprocAttr,qf qr];simp +decide only[↓vS,vT,simprocAttr,gc,hl,s1];intro _;refine⟨[0],?_⟩;have hb':¬(15:Int)<(n:Int):=by omega
  simp[vw,qe,qr,e,hn,hb',hcx]
 .have hb:¬15<i.k:=by
   grind
  obtain⟨n,hn⟩:∃n:Nat,i.k=(n:Int):=⟨i.k.toNat,by omega⟩
  have hk16:n<16:=by omega
  obtain⟨c,hcx⟩:∃c,m.cl[n]?=some c:=⟨_,zzE (by rw[hm.len];omega)⟩;have gc:=qoQ (m:=m) (d:=d) hcx;have htn:i.k.toNat=n:=by omega
  simp +decide only[↓vS,vT,simprocAttr,e,hn];refine(h3 m d n hk16).sc (vs:=[.ptr 0 0,.w (n:Int)]) [0] (Lent.of (by decide) ?_) ?_
  .simp[vL,vw,qu qr,qf qr]
  simp only[vK,simprocAttr,qf qr];simp +decide only[↓vS,vT,simprocAttr,gc,hl,s0];intro _;refine⟨[0],?_⟩;have hb':¬(15:Int)<(n:Int):=by omega
  simp[vw,qe,qr,e,hn,hb',hcx]
def quP{m:Mac}{d:GData}{k:Nat}(h:k<m.cl.length)(v:Int):List.take (2+k) (cVm m d)++(AV.w v::List.drop (2+k+1) (cVm m d))=cVm { m with cl:=m.cl.set k v } d:=by
 obtain⟨R,hR⟩:∃R,R=zt d++[AV.w m.told,AV.b m.over]:=⟨_,rfl⟩
 have e:List.take k (rI .u32 m.cl++R)++(AV.w v::List.drop (k+1) (rI .u32 m.cl++R))=rI .u32 (m.cl.set k v)++R:=by
  rw[List.take_append_of_le_length (by rw[qad];omega),List.drop_append_of_le_length (by rw[qad];omega),<- qqJ h v,List.append_assoc];rfl
 rw[show 2+k=k+2 from by omega]
 subst hR;show AV.w m.a::AV.w m.x::(List.take k (rI .u32 m.cl++(zt d++[AV.w m.told,AV.b m.over]))++(AV.w v::List.drop (k+1) (rI .u32 m.cl++(zt d++[AV.w m.told,AV.b m.over]))))=_;rw[e];rfl
def qoS{m:Mac}{d:GData}(h:m.cl.length=16)(v:Int):List.take 27 (cVm m d)++(AV.w v::List.drop 28 (cVm m d))=cVm { m with told:=v } d:=by
 have e:List.take 25 (rI .u32 m.cl++(zt d++[AV.w m.told,AV.b m.over]))++(AV.w v::List.drop 26 (rI .u32 m.cl++(zt d++[AV.w m.told,AV.b m.over])))=rI .u32 m.cl++(zt d++[AV.w v,AV.b m.over]):=by
  have hl:(rI .u32 m.cl).length=16:=by rw[qad,h]
  rw[List.take_append,hl,List.take_of_length_le (by rw[hl];decide),List.drop_append,hl,List.drop_eq_nil_of_le (by rw[hl];decide),List.append_assoc];rfl
 show AV.w m.a::AV.w m.x::(List.take 25 (rI .u32 m.cl++(zt d++[AV.w m.told,AV.b m.over]))++(AV.w v::List.drop 26 (rI .u32 m.cl++(zt d++[AV.w m.told,AV.b m.over]))))=_;rw[e];rfl
def qAJ:∀x ∈ qaO,(x.2.2=2->x.1=2\/x.1=3)/\(x.2.2=5->x.1=6\/x.1=22)/\(x.2.2=6->x.1=7\/x.1=135)/\1<=x.2.2/\x.2.2<=6:=by decide
def qCl(P:Program)(g:Nat):Prop:=∀(m:Mac),MacOk m->∀d:GData,DatOk d->∀i:Ins,InsOk i->qm i.code=1->(qet m i d).2=0->Upd P g [.ptr 0 0,.agg (qI i)] [.v (cVm m d)] (.tup []) [.v (cVm (qet m i d).1 d)]
def qGy(P:Program)(g:Nat):Prop:=∀(m:Mac),MacOk m->∀(d:GData) (i:Ins),InsOk i->qm i.code=3->(nuM m i).2=0->Upd P g [.ptr 0 0,.agg (qI i)] [.v (cVm m d)] (.tup []) [.v (cVm (nuM m i).1 d)]
def qCj(P:Program)(g:Nat):Prop:=∀(m:Mac) (d:GData),m.cl.length=16->∀i:Ins,InsOk i->qm i.code=4->Upd P g [.ptr 0 0,.agg (qI i)] [.v (cVm m d)] (.j (qid m i)) [.v (cVm m d)]
def qfm(a b c d e g:Nat):IFn:=⟨[.tmp 4],sq [.r [.q 3 (.box (.t 1)),.m 4 (.k 0)],sq [.r [.f 6 0 3,.d 7 6,.l 8 a [.t 7]],.blk 0 (sq [.r [.q 11 (.bin .eql (.t 8) (.c (.y 1))),.n 10 11],.cond (.t 10) (.r [.n 12 0,.v 13 4 3,.l 14 b [.t 12,.t 13]]) (sq [.r [.q 16 (.bin .eql (.t 8) (.c (.y 2))),.n 15 16],.cond (.t 15) (sq [.r [.n 17 0,.q 18 (.nilChk (.t 17)),.f 19 0 18,.d 20 19,.n 5 20],sq [.r [.f 21 0 3,.d 22 21,.q 23 (.bin .eql (.t 22) (.c (.h 3)))],.cond (.t 23) (.r [.n 24 0,.q 25 (.nilChk (.t 24)),.f 26 1 25,.d 27 26,.n 5 27]) (.skip)],.r [.n 28 0,.f 29 3 3,.d 30 29,.l 31 c [.t 28,.t 30],.n 32 5,.q 33 (.nilChk (.t 31)),.u (.store 1 (.t 33) (.t 32))]]) (sq [.r [.q 35 (.bin .eql (.t 8) (.c (.y 3))),.n 34 35],.cond (.t 34) (.r [.n 36 0,.v 37 4 3,.l 38 d [.t 36,.t 37]]) (sq [.r [.q 40 (.bin .eql (.t 8) (.c (.y 4))),.n 39 40],.cond (.t 39) (sq [.r [.n 41 0,.v 42 4 3,.l 43 e [.t 41,.t 42],.n 4 43],.ret]) (sq [.r [.q 45 (.bin .eql (.t 8) (.c (.y 5))),.n 44 45],.cond (.t 44) (sq [.r [.n 46 0,.n 47 0,.f 48 3 3,.d 49 48,.q 50 (.nilChk (.t 46)),.f 51 27 50,.u (.store 1 (.t 51) (.t 49)),.q 52 (.nilChk (.t 47)),.f 53 28 52,.u (.store 1 (.t 53) .T)],.r [.f 54 0 3,.d 55 54,.q 56 (.bin .eql (.t 55) (.c (.h 22)))],.cond (.t 56) (.r [.n 57 0,.n 58 0,.q 59 (.nilChk (.t 58)),.f 60 0 59,.d 61 60,.q 62 (.nilChk (.t 57)),.f 63 27 62,.u (.store 1 (.t 63) (.t 61))]) (.skip)]) (sq [.r [.q 65 (.bin .eql (.t 8) (.c (.y 6))),.n 64 65],.cond (.t 64) (sq [.r [.f 66 0 3,.d 67 66,.q 68 (.bin .eql (.t 67) (.c (.h 7)))],.cond (.t 68) (.r [.n 69 0,.n 70 0,.q 71 (.nilChk (.t 70)),.f 72 0 71,.d 73 72,.q 74 (.nilChk (.t 69)),.f 75 1 74,.u (.store 1 (.t 75) (.t 73))]) (.r [.n 76 0,.n 77 0,.q 78 (.nilChk (.t 77)),.f 79 1 78,.d 80 79,.q 81 (.nilChk (.t 76)),.f 82 0 81,.u (.store 1 (.t 82) (.t 80))])]) (.r [.l 9 g [.k 40]])])])])])])])],.r [.m 4 (.k 0)],.ret]⟩
def qJO{g1 g2 g3 g4 g5 g6:Nat}(hc:qc P f (qfm g1 g2 g3 g4 g5 g6)=true)(h1:cOf P g1)(h2:qCl P g2)(h3:quI P g3)(h4:qGy P g4)(h5:qCj P g5)(m:Mac)(hm:MacOk m)(d:GData)(hd:DatOk d)(i:Ins)(hi:InsOk i)(hz:(doR m i d).2.2=0) :
  Upd P f [.ptr 0 0,.agg (qI i)] [.v (cVm m d)] (.j (doR m i d).2.1) [.v (cVm (doR m i d).1 d)]:=by
 refine Upd.mk hc (by simp[ji,bnd,qI]) (by simp) ?_;have hl:=qkO (d:=d) hm.len;have g0:(cVm m d)[0]?=some (.w m.a):=rfl;have g1':(cVm m d)[1]?=some (.w m.x):=rfl;have s0:∀v:Int,AV.w v::List.drop 1 (cVm m d)=cVm { m with a:=v } d:=λ_=>rfl
 have s1:∀v:Int,List.take 1 (cVm m d)++(AV.w v::List.drop 2 (cVm m d))=cVm { m with x:=v } d:=λ_=>rfl
 have hof:=h1 i.code;unfold doR at hz ⊢;have hkn:¬zY i.code=false:=by grind
 rw[if_neg hkn]at hz ⊢
 obtain⟨x,hcm⟩:∃x,qag i.code=some x:=by
  unfold zY at hkn;cases h:qag i.code<;>simp_all
 obtain⟨hxm,hxc⟩:=qdn hcm;have hcl:qm i.code=x.2.2:=by unfold qm;rw[hcm];rfl
 obtain⟨t2,t5,t6,t1a,t1b⟩:=qAJ x hxm;rw[<- hcl,hxc]at t2 t5 t6;rw[<- hcl]at t1a t1b;have hcase:qm i.code=1\/qm i.code=2\/qm i.code=3\/qm i.code=4\/qm i.code=5\/qm i.code=6:=by omega
 simp only[qfm,qI,vI,simprocAttr];rcases hcase with c|c|c|c|c|c
 .rw[if_pos (.inl c)]at hz ⊢;have hu:=h2 m hm d hd i hi c hz;simp only[qI]at hu;simp +decide only[↓vS,vT,simprocAttr];refine hof.sc ?_;simp +decide only[↓vS,vT,simprocAttr,c];refine hu.sc (vs:=[.ptr 0 0,.agg [.h i.code,.y i.jt,.y i.jf,.w i.k]]) [0] (Lent.of (by decide) ?_) ?_
  .simp[vL,vw,qu qr,qf qr]
  simp only[vK,simprocAttr,qf qr];simp +decide only[↓vS,vT,simprocAttr];intro _;refine⟨[0],?_⟩;simp[vw,qe,qr]
 .rw[if_pos (.inr (.inl c))]at hz ⊢;unfold qet qg4 at hz ⊢
  have hb:¬15<i.k:=by
   grind
  have k0:=hi.k0;obtain⟨n,hn⟩:∃n:Nat,i.k=(n:Int):=⟨i.k.toNat,by omega⟩
  have hk16:n<16:=by omega
  have sc:=λv=>quP (m:=m) (d:=d) (k:=n) (by rw[hm.len];omega) v
  have hle:2+n+1<=29:=by omega
  have hb':¬(15:Int)<(n:Int):=by omega
  rcases t2 c with e|e
  .simp +decide only[↓vS,vT,simprocAttr];refine hof.sc ?_;simp +decide only[↓vS,vT,simprocAttr,c,e,hn,hl,g0,g1'];refine(h3 m d n hk16).sc (vs:=[.ptr 0 0,.w (n:Int)]) [0] (Lent.of (by decide) ?_) ?_
   .simp[vL,vw,qu qr,qf qr]
   simp only[vK,simprocAttr,qf qr];simp +decide only[↓vS,vT,simprocAttr,hl,sc,hle];intro _;refine⟨[0],?_⟩;simp[vw,qe,qr,e,hn,hb']
  .simp +decide only[↓vS,vT,simprocAttr];refine hof.sc ?_;simp +decide only[↓vS,vT,simprocAttr,c,e,hn,hl,g0,g1'];refine(h3 m d n hk16).sc (vs:=[.ptr 0 0,.w (n:Int)]) [0] (Lent.of (by decide) ?_) ?_
   .simp[vL,vw,qu qr,qf qr]
   simp only[vK,simprocAttr,qf qr];simp +decide only[↓vS,vT,simprocAttr,hl,sc,hle];intro _;refine⟨[0],?_⟩;simp[vw,qe,qr,e,hn,hb']
 .rw[if_neg (by omega),if_pos c]at hz ⊢;have hu:=h4 m hm d i hi c hz;simp only[qI]at hu;simp +decide only[↓vS,vT,simprocAttr];refine hof.sc ?_;simp +decide only[↓vS,vT,simprocAttr,c];refine hu.sc (vs:=[.ptr 0 0,.agg [.h i.code,.y i.jt,.y i.jf,.w i.k]]) [0] (Lent.of (by decide) ?_) ?_
  .simp[vL,vw,qu qr,qf qr]
  simp only[vK,simprocAttr,qf qr];simp +decide only[↓vS,vT,simprocAttr];intro _;refine⟨[0],?_⟩;simp[vw,qe,qr]
 .rw[if_neg (by omega),if_neg (by omega),if_pos c];have hu:=h5 m d hm.len i hi c;simp only[qI]at hu;simp +decide only[↓vS,vT,simprocAttr];refine hof.sc ?_;simp +decide only[↓vS,vT,simprocAttr,c];refine hu.sc (vs:=[.ptr 0 0,.agg [.h i.code,.y i.jt,.y i.jf,.w i.k]]) [0] (Lent.of (by decide) ?_) ?_
  .simp[vL,vw,qu qr,qf qr]
  simp only[vK,simprocAttr,qf qr];simp +decide only[↓vS,vT,simprocAttr];intro _;refine⟨[0],?_⟩;simp[vw,qe,qr]
 .rw[if_neg (by omega),if_neg (by omega),if_neg (by omega)];have tt:=λv=>qoS (d:=d) hm.len v
  obtain⟨m1,hm1⟩:∃m1,m1={ m with told:=i.k }:=⟨_,rfl⟩;have tk:=tt i.k;rw[<- hm1]at tk;have hl1:(cVm m1 d).length=29:=by grind
  have to:List.take 28 (cVm m1 d)++(AV.b true::List.drop 29 (cVm m1 d))=cVm { m1 with over:=true } d:=qoR (by rw[hm1];exact hm.len) true;obtain⟨m2,hm2⟩:∃m2,m2={ m1 with over:=true }:=⟨_,rfl⟩;rw[<- hm2]at to;have hl2:(cVm m2 d).length=29:=by grind
  have g02:(cVm m2 d)[0]?=some (.w m.a):=by rw[hm2,hm1];rfl
  have t3:List.take 27 (cVm m2 d)++(AV.w m.a::List.drop 28 (cVm m2 d))=cVm { m2 with told:=m.a } d:=qoS (by rw[hm2,hm1];exact hm.len) m.a;rcases t5 c with e|e
  .simp +decide only[↓vS,vT,simprocAttr];refine hof.sc ?_;simp +decide only[↓vS,vT,simprocAttr,c,e,hl,tk,hl1,to];intro _;refine⟨[0],?_⟩;simp[vw,qe,qr,qsf,e,hm2,hm1]
  .simp +decide only[↓vS,vT,simprocAttr];refine hof.sc ?_;simp +decide only[↓vS,vT,simprocAttr,c,e,hl,tk,hl1,to,hl2,g02,t3];intro _;refine⟨[0],?_⟩;simp[vw,qe,qr,qsf,e,hm2,hm1]
 .rw[if_pos (.inr (.inr c))]at hz ⊢;unfold qet qg4 at hz ⊢;rcases t6 c with e|e
  .simp +decide only[↓vS,vT,simprocAttr];refine hof.sc ?_;simp +decide only[↓vS,vT,simprocAttr,c,e,hl,g0,s1];intro _;refine⟨[0],?_⟩;simp[vw,qe,qr,e]
  .simp +decide only[↓vS,vT,simprocAttr];refine hof.sc ?_;simp +decide only[↓vS,vT,simprocAttr,c,e,hl,g1',s0];intro _;refine⟨[0],?_⟩;simp[vw,qe,qr,e]
end Go.Kc
end
section
namespace Go.Kc
def qlf{n:Nat}:∀{L:List Ins} {j:Nat},qgw n j L=none->∀(k:Nat) (i:Ins),L[k]?=some i->qd4 i (n-1-(j+k))=0
 | [],_,_,_,_,h=>by cases h
 | a::L,j,hb,k,i,h=>by
  rw[qfE]at hb
  by_cases h0:qd4 a (n-1-j)=0
  .rw[if_pos h0]at hb;cases k with
   | zero=>cases h;exact h0
   | succ k =>
    have:=qlf hb k i (by simpa using h);rw[show j+(k+1)=j+1+k from by omega];exact this
  simp_all
theorem qlg{n:Nat}:∀{L:List Ins} {j:Nat} {x:Nat×Int},qgw n j L=some x->x.2≠0
 | [],_,_,h=>by cases h
 | a::L,j,x,h=>by
  rw[qfE]at h
  by_cases h0:qd4 a (n-1-j)=0
  .rw[if_pos h0]at h;exact qlg h
  grind
def qB4{p:List Ins}{u:List Nat}(h:(atU p u).2=0):p.length≠0/\p.length<=4096/\(∀(k:Nat) (i:Ins),p[k]?=some i->qd4 i (p.length-1-k)=0)/\qm (qgk p)=5/\u=[]:=by
 unfold atU at h
 by_cases hb:p.length=0\/4096<p.length
 .rw[if_pos hb]at h;cases h
 rw[if_neg hb]at h;cases hba:qgw p.length 0 p with
 | some x =>
  rw[hba]at h
  grind[qlg]
 | none =>
  rw[hba]at h;have h:(if qm (qgk p)=5 then(match u with | []=>((0,0):Nat×Int)|a::_=>(a,61))else(p.length-1,46)).2=0:=h
  by_cases h5:qm (qgk p)=5
  .rw[if_pos h5]at h;refine⟨by omega,by omega,λk i hk=>?_,h5,?_⟩
   .have:=qlf hba k i hk;rwa [Nat.zero_add]at this
   .cases u with
    | nil=>rfl
    | cons a u=>cases h
  simp_all
def qrK{i:Ins}{n:Nat}(h:qd4 i n=0):qih i=false/\qhH i=false/\qiI i=false/\qiJ i=false/\qiK i=false/\qiL i n=false:=by
 unfold qd4 at h;revert h;cases qih i<;>cases qhH i<;>cases qiI i<;>cases qiJ i<;>cases qiK i<;>cases qiL i n<;>simp
def qsT{m:Mac}{i:Ins}(hi:InsOk i){d:GData}{n:Nat}(h:qd4 i n=0):(doR m i d).2.2=0:=by
 obtain⟨b1,b2,b3,b4,b5,_⟩:=qrK h;have hkn:¬zY i.code=false:=by unfold qih at b1;simpa using b1
 unfold doR;rw[if_neg hkn]
 by_cases hA:qm i.code=1\/qm i.code=2\/qm i.code=6
 .rw[if_pos hA];show(qet m i d).2=0;unfold qet
  have hc:¬(qg4 i=true/\15<i.k):=by
   rintro⟨h1,h2⟩;unfold qg4 at h1;have h16:16<=i.k:=by omega
   unfold qiI at b3;have h2c:=qCr (c:=i.code);simp only[zzO,decide_eq_true_eq]at h1
   have:(decide (i.code=96)||decide (i.code=97)||decide (qm i.code=2))=true:=by
    simp only[zzO,decide_eq_true_eq];rw[h2c];rcases h1 with((h1|h1)|h1)|h1
    .exact .inl (.inl h1)
    .exact .inl (.inr h1)
    .exact .inr (.inl h1)
    .exact .inr (.inr h1)
   rw[this,Bool.true_and]at b3;simp[h16]at b3
  rw[if_neg hc]
  by_cases c32:i.code=32
  .rw[if_pos c32]
   have:¬(i.k % 4≠0\/64<=i.k):=by
    intro h';unfold qhH at b2;rw[c32]at b2;rcases h' with h'|h'<;>simp[h']at b2
   rw[if_neg this]
  rw[if_neg c32]
  repeat' (first|rfl|(split))
 rw[if_neg hA]
 by_cases c3:qm i.code=3
 .rw[if_pos c3];show(nuM m i).2=0
  have hmem:c3L.contains i.code=true:=by
   have c3':=c3;unfold qm at c3';cases hcm:qag i.code with
   | none=>rw[hcm]at c3';cases c3'
   | some x =>
    rw[hcm]at c3';obtain⟨q1,q2⟩:=qdn hcm;rw[<- q2];exact qxz x q1 c3'
  obtain⟨e52,e100,e116,eX⟩:=qq6 i.code hmem;unfold nuM
  by_cases b52:qV i.code=52
  .rw[if_pos b52]
   by_cases hy:0<qdf m i
   .rw[if_pos hy]
   .rw[if_neg hy]
    by_cases hX:qaH i.code=true
    .rw[if_pos hX]
    .exfalso
     have hc:i.code=52:=by
      rcases e52.1 b52 with h'|h'
      .exact h'
      .exact by simp_all
     unfold qiJ at b4;unfold qdf at hy;rw[if_neg hX]at hy;have:i.k=0:=by have:=hi.k0;omega
     simp[hc,this]at b4
  .rw[if_neg b52]
   by_cases bs:qV i.code=100\/qV i.code=116
   .rw[if_pos bs]
    by_cases hq:qaH i.code=false/\31<qdf m i
    .exfalso
     obtain⟨hX,h31⟩:=hq
     have hc:i.code=100\/i.code=116:=by
      rcases bs with bs|bs
      .rcases e100.1 bs with h'|h'
       .exact .inl h'
       .have:qaH i.code=true:=by simp_all
        rw[hX]at this;cases this
      .rcases e116.1 bs with h'|h'
       .exact .inr h'
       .have:qaH i.code=true:=by simp_all
        rw[hX]at this;cases this
     unfold qdf at h31;rw[hX,if_neg (by simp)]at h31;unfold qiK at b5;rcases hc with hc|hc<;>simp[hc]at b5<;>omega
    .rw[if_neg hq]
   .rw[if_neg bs]
 rw[if_neg c3]
 grind
def qCF{p:List Ins}(hok:∀i ∈ p,InsOk i)(hall:∀(k:Nat) (i:Ins),p[k]?=some i->qd4 i (p.length-1-k)=0)(hlast:qm (qgk p)=5){k:Nat}{i:Ins}(h:p[k]?=some i)(m:Mac)(d:GData) :
  (doR m i d).1.over=true\/k+1+(doR m i d).2.1.toNat<p.length:=by
 have hk:k<p.length:=by grind
 have hi:=hok i (by grind);obtain⟨b1,_,_,_,_,b6⟩:=qrK (hall k i h);have hkn:¬zY i.code=false:=by unfold qih at b1;simp_all
 have notlast:qm i.code≠5->k+1<p.length:=by
  intro hc
  by_cases e:k=p.length-1
  .exfalso
   apply hc;have:qgk p=i.code:=by unfold qgk;rw[List.getD_eq_getElem?_getD,<- e,h];rfl
   rw[<- this];omega
  .omega
 unfold doR;rw[if_neg hkn]
 by_cases hA:qm i.code=1\/qm i.code=2\/qm i.code=6
 .rw[if_pos hA]
  grind
 rw[if_neg hA]
 by_cases c3:qm i.code=3
 .rw[if_pos c3]
  simp_all
 rw[if_neg c3]
 by_cases c4:qm i.code=4
 .rw[if_pos c4];right;show k+1+(qid m i).toNat<p.length;unfold qiL at b6;unfold qid
  by_cases c5:i.code=5
  .rw[if_pos c5]at b6 ⊢;have hk0:=hi.k0;have:¬((p.length-1-k:Nat):Int)<=i.k:=by simp_all
   omega
  .rw[if_neg c5]at b6 ⊢;rw[c4]at b6;have hh:¬((p.length-1-k:Nat):Int)<=hiM i:=by simp_all
   have h1:=hi.t0;have h2:=hi.f0;unfold hiM at hh;split at hh<;>split<;>omega
 rw[if_neg c4];left;rfl
end Go.Kc
end
section
namespace Go.Kc
variable {P:Program} {f:Nat}
def qIq(P:Program)(g:Nat):Prop:=∀(m:Mac),MacOk m->∀d:GData,DatOk d->∀i:Ins,InsOk i->(doR m i d).2.2=0->Upd P g [.ptr 0 0,.agg (qI i)] [.v (cVm m d)] (.j (doR m i d).2.1) [.v (cVm (doR m i d).1 d)]
structure PrgGood (p:List Ins):Prop where
 len:p.length<=4096
 ne:p.length≠0
 ins:∀i ∈ p,InsOk i
 one:∀(k:Nat) (i:Ins),p[k]?=some i->qd4 i (p.length-1-k)=0
 last:qm (qgk p)=5
def qgs(p:List Ins)(d:GData):Int×Nat×List Nat×Int:=qkE p d (p.length+1) qzB 0 46 []
def qxJ:u32 0:=⟨by decide,by decide⟩
def qnl{p:List Ins}(hok:∀i ∈ p,InsOk i){d:GData}(hd:DatOk d):∀(n:Nat) (m:Mac) (a:Nat) (bh:Int) (l:List Nat),MacOk m->u32 (qkE p d n m a bh l).1
 | 0,_,_,_,_,_=>qxJ
 | n+1,m,a,bh,l,hm=>by
  rw[qhD];cases hp:p[a]? with
  | none=>exact qxJ
  | some i =>
   simp only;have h2:=(qva hm (hok i (zzM hp)) hd).1;split
   .exact qxJ
   .split
    .exact h2.told
    .exact qnl hok hd n _ _ _ _ h2
theorem qnk{p:List Ins}(hok:∀i ∈ p,InsOk i){d:GData}(hd:DatOk d):u32 (qgs p d).1:=qnl hok hd _ _ _ _ _ qrD
def Own.mkD{f fd:Nat}{i:IFn}{vs:List AV}{v:AV}{bs:List Blk}(hc:qnO P f fd i=true)(hcl:qt vs=true)(hV:VDf P 0 fd i.body (xu i.res (qt7 v bs)) (qbY vs 0 .leaf) H0):Own P f vs v bs:=Own.of_SC hcl (SC.mkD hc hV)
def quO{m:Mac}{d:GData}(h:m.cl.length=16):(cVm m d)[28]?=some (.b m.over):=by
 show(rI .u32 m.cl++(zt d++[AV.w m.told,AV.b m.over]))[26]?=_;rw[List.getElem?_append_right (by rw[qad,h];decide),qad,h];rfl
def quQ{m:Mac}{d:GData}(h:m.cl.length=16):(cVm m d)[27]?=some (.w m.told):=by
 show(rI .u32 m.cl++(zt d++[AV.w m.told,AV.b m.over]))[25]?=_;rw[List.getElem?_append_right (by rw[qad,h];decide),qad,h];rfl
def qm0(a b c d:Nat):IFn:=⟨[.cell 4 1 false,.tmp 5,.tmp 6,.cell 7 1 false],sq [.r [.q 3 (.box (.t 1)),.q 4 (.alloc [.w 0]),.m 5 (.k 0),.m 6 .N,.q 7 (.alloc [.j 0])],.r [.v 11 9 3,.q 12 (.build [.w 0,.w 0,.w 0,.w 0,.w 0,.w 0,.w 0,.w 0,.w 0,.w 0,.w 0,.w 0,.w 0,.w 0,.w 0,.w 0,.w 0,.w 0,.w 0,.w 0,.x 0,.x 0,.x 0,.x 0,.x 0,.x 0,.x 0,.w 0,.b false] [(18,9,(.t 11))]),.q 13 (.box (.t 12)),.n 8 13],.r [.q 14 (.mkF a [] [.t 4,.t 7]),.u (.no)],.r [.m 9 (.k 46)],sq [.r [.m 10 (.k 0)],.blk 0 (.loop (sq [sq [.r [.n 15 8,.q 16 (.nilChk (.t 15)),.f 17 28 16,.d 18 17,.q 19 (.un .not (.t 18))],.cond (.t 19) (.skip) (.exit 0)],.blk 1 (sq [sq [.r [.n 22 10,.n 23 0,.e 24 23,.b 25 .geq 22 24],.cond (.t 25) (.r [.n 26 9,.l 27 b [.t 26]]) (.skip)],.r [.n 28 6,.n 29 10,.q 30 (.buildS 1 [.j 0] [(0,1,(.t 29))]),.q 31 (.app 1 8 true (.t 28) (.t 30)),.n 6 31],.r [.m 9 (.k 46)],sq [.r [.n 32 0,.n 33 10,.i 34 4 32 33,.f 35 0 34,.d 36 35,.l 37 c [.t 36],.q 38 (.bin .eql (.t 37) (.c (.y 4)))],.cond (.t 38) (.r [.m 9 (.k 42)]) (.skip)],.r [.n 39 10,.n 40 8,.n 41 0,.n 42 10,.i 43 4 41 42,.v 44 4 43,.l 45 d [.t 40,.t 44],.q 46 (.bin .add (.k 1) (.t 45)),.b 47 .add 39 46,.n 10 47]]),.r [.n 20 5,.a 21 20 1,.n 5 21]]))],.r [.n 48 8,.q 49 (.nilChk (.t 48)),.f 50 27 49,.d 51 50,.n 52 5,.n 53 6,.u (.store 1 (.t 4) (.t 51)),.n 5 52,.n 6 53,.u (.store 1 (.t 7) (.k 0))],.ret]⟩
def qF0{fd g1 g2 g3:Nat}(hc:qnO P f fd (qm0 fd g1 g2 g3)=true)(h2:cOf P g2)(h3:qIq P g3)(p:List Ins)(hp:PrgGood p)(d:GData)(hd:DatOk d) :
  ∃n:Int,Own P f [.fz p.length (rP p),.agg (zt d)] (.tup [.w (qgs p d).1,.j n,.own 0 (qgs p d).2.2.1.length,.j 0]) [.cells 1 true true (rNt (qgs p d).2.2.1)]:=by
 obtain⟨R,hR⟩:∃R,R=qgs p d:=⟨_,rfl⟩;rw[<- hR];refine⟨(R.2.2.1.length:Int),Own.mkD hc (by simp[qt,clo,qw,qea]) ?_⟩;have hpl:=hp.len;have hne:=hp.ne;have e0:List.take 18 ([.w 0,.w 0,.w 0,.w 0,.w 0,.w 0,.w 0,.w 0,.w 0,.w 0,.w 0,.w 0,.w 0,.w 0,.w 0,.w 0,.w 0,.w 0,.w 0,.w 0,.x 0,.x 0,.x 0,.x 0,.x 0,.x 0,.x 0,.w 0,.b false]:List AV)++(zt d++List.drop 27 [.w 0,.w 0,.w 0,.w 0,.w 0,.w 0,.w 0,.w 0,.w 0,.w 0,.w 0,.w 0,.w 0,.w 0,.w 0,.w 0,.w 0,.w 0,.w 0,.w 0,.x 0,.x 0,.x 0,.x 0,.x 0,.x 0,.x 0,.w 0,.b false])=cVm qzB d:=rfl;have cd9:List.take 9 (zt d)=zt d:=rfl;have l9:(zt d).length=9:=rfl;simp only[qm0,VDf,vI,simprocAttr];simp +decide only[↓vS,vT,simprocAttr,qqm,quS,l9,cd9,e0];refine⟨⟨14,[.ptr 1 0,.ptr 2 0],rfl,by simp[Tr.get_set]⟩,?_⟩
 simp +decide only[↓vS,vT,simprocAttr]
 refine SL.loop (α:=Nat×Mac×Nat×Int×List Nat) (λs=>[(0,.fz p.length (rP p)),(4,.ptr 0 0),(5,.j (s.2.2.2.2.length:Int)),(6,.own 3 s.2.2.2.2.length),(7,.ptr 1 0),(8,.ptr 2 0),(9,.j s.2.2.2.1),(10,.j (s.2.2.1:Int))])
  (λs=>[.v [.w 0],.v [.j 0],.v (cVm s.2.1 d),.cells 1 true true (rNt s.2.2.2.2)])
  (λs=>MacOk s.2.1/\s.2.2.1<=5000000000/\((s.2.1.over=false/\s.2.2.1<p.length/\p.length+1<=s.1+s.2.2.1/\s.2.2.2.2.length<=s.2.2.1/\qkE p d s.1 s.2.1 s.2.2.1 s.2.2.2.1 s.2.2.2.2=R)\/(s.2.1.over=true/\s.2.2.2.2.length<=5000/\R=(s.2.1.told,s.2.2.2.2.length,s.2.2.2.2,0)))) (λs=>s.1) (p.length+1,qzB,0,46,[]) [1,2,3,99] ?_ ?_ ?_ rfl ?_ ?_
 .simp[vw,qw]
 .simp[vw,qe,qr]
  simp_all[NVs.refl,qr]
 .simp
 .exact⟨qrD,Nat.zero_le _,.inl ⟨rfl,by grind,zzL _,Nat.zero_le _,by rw[hR];rfl⟩⟩
 rintro⟨n,m,a,bh,l⟩ ⟨hm,ha,hI⟩ G ih;simp only at hm ha hI;have hl29:=qkO (d:=d) hm.len;have go:(cVm m d)[28]?=some (.b m.over):=quO hm.len;have gt:(cVm m d)[27]?=some (.w m.told):=quQ hm.len;simp only[vI,simprocAttr];rcases hI with⟨hov,hlt,hna,hla,hI⟩|⟨hov,hla,hI⟩
 .obtain⟨n,rfl⟩:∃n',n=n'+1:=⟨n-1,by omega⟩
  rw[qhD]at hI;obtain⟨i,hpi⟩:∃i,p[a]?=some i:=⟨_,zzE hlt⟩;have hii:=hp.ins i (by grind);rw[hpi]at hI;simp only at hI;have hz:=qsT (m:=m) (d:=d) hii (hp.one a i hpi);rw[if_neg (by omega)]at hI;have hin:=qCF hp.ins hp.one hp.last hpi m d;have hel:=qS (f:=qI) (m:=4) qaX hpi;rw[show p.flatMap qI=rP p from rfl]at hel
  have h4:a*4+4<=(rP p).length:=by rw[qeY];omega
  have g0:=qcz (f:=qI) (m:=4) qaX hpi (i:=0) (by omega);rw[show p.flatMap qI=rP p from rfl]at g0
  simp only[qI,Nat.add_zero,List.getElem?_cons_zero]at g0;have hge:¬(p.length:Int)<=(a:Int):=by omega
  obtain⟨hm2,hk0,hk1⟩:=qva hm hii hd;have hdo:=h3 m hm d hd i hii hz;have hgc:=h2 i.code;generalize doR m i d=r at hI hin hm2 hk0 hk1 hdo;obtain⟨m2,k,e⟩:=r;simp only at hI hin hm2 hk0 hk1 hdo;have hr1:l.length+1<=qi:=by simp only[qi];omega
  have hr2:(l.length+1)*8<=qi:=by simp only[qi];omega
  have hap:rNt l++[.j (a:Int)]=rNt (l++[a]):=by rw[<- qrV];rfl
  have hll:(rNt l).length=l.length:=qk4;have hla1:(l++[a]).length=l.length+1:=by simp
  have w1:IntKind.wrap .i64 (1+k)=1+k:=by grind[qp]
  have w2:IntKind.wrap .i64 ((a:Int)+(1+k))=((a+1+k.toNat:Nat):Int):=by rw[qp (by omega) (by omega)];omega
  have w3:IntKind.wrap .i64 ((l.length:Int)+1)=((l.length+1:Nat):Int):=by rw[qp (by omega) (by omega)];omega
  have fin:∀b2:Int,(m2.over=false->qkE p d n m2 (a+1+k.toNat) b2 (l++[a])=R)->MacOk m2/\a+1+k.toNat<=5000000000/\((m2.over=false/\a+1+k.toNat<p.length/\p.length+1<=n+(a+1+k.toNat)/\(l++[a]).length<=a+1+k.toNat/\qkE p d n m2 (a+1+k.toNat) b2 (l++[a])=R)\/(m2.over=true/\(l++[a]).length<=5000/\R=(m2.told,(l++[a]).length,l++[a],0))):=by
   grind
  rw[hov]at go;simp only[qI]at hdo hel;simp +decide only[↓vS,vT,simprocAttr,go,hge,hlt,hr1,hr2,hll,hap,zzU,g0];refine hgc.sc ?_
  by_cases c4:qm i.code=4
  .rw[if_pos c4]at hI;have fin2:=fin 42 (λho=>by rw[ho]at hI;grind)
   simp +decide only[↓vS,vT,simprocAttr,c4,hlt,hel,h4];refine hdo.sc (vs:=[.ptr 0 0,.agg [.h i.code,.y i.jt,.y i.jf,.w i.k]]) [2] (Lent.of (by decide) ?_) ?_
   .simp[vL,vw,qu qr,qf qr]
   simp only[vK,simprocAttr,qf qr];simp +decide only[↓vS,vT,simprocAttr,w1,w2,w3];refine ih (n,m2,a+1+k.toNat,42,l++[a]) fin2 (by omega) _ _ (Wk.mk _ _ [0,1,2,5] ?_ ?_ ?_ rfl)
   .simp[vw,qw]
   .simp[vw,qe,qY,qr]
   .simp
  .rw[if_neg c4]at hI;have fin2:=fin 46 (λho=>by rw[ho]at hI;grind)
   simp +decide only[↓vS,vT,simprocAttr,c4,hlt,hel,h4];refine hdo.sc (vs:=[.ptr 0 0,.agg [.h i.code,.y i.jt,.y i.jf,.w i.k]]) [2] (Lent.of (by decide) ?_) ?_
   .simp[vL,vw,qu qr,qf qr]
   simp only[vK,simprocAttr,qf qr];simp +decide only[↓vS,vT,simprocAttr,w1,w2,w3];refine ih (n,m2,a+1+k.toNat,46,l++[a]) fin2 (by omega) _ _ (Wk.mk _ _ [0,1,2,5] ?_ ?_ ?_ rfl)
   .simp[vw,qw]
   .simp[vw,qe,qY,qr]
   .simp
 .rw[hov]at go;rw[hI];simp +decide only[↓vS,vT,simprocAttr,go,gt];intro _;refine⟨[3],?_⟩;simp[vw,qe,qY]
def qmZ(a:Nat):IFn:=⟨[.tmp 4,.tmp 5,.tmp 6],sq [.r [.q 3 (.box (.t 1)),.m 4 (.c (.w 0)),.m 5 (.k 0),.m 6 (.k 0)],.r [.n 8 0,.v 9 9 3,.l 10 a [.t 8,.t 9],.n 7 10,.x 11 7 0,.x 12 7 1,.x 13 7 2,.x 14 7 3,.n 4 11,.n 5 12,.n 6 14],.r [.n 15 4,.n 16 5,.n 17 6,.n 4 15,.n 5 16,.n 6 17],.ret]⟩
def qJM{g:Nat}(hc:qc P f (qmZ g)=true)(hg:∀p,PrgGood p->∀d,DatOk d->∃n:Int,Own P g [.fz p.length (rP p),.agg (zt d)] (.tup [.w (qgs p d).1,.j n,.own 0 (qgs p d).2.2.1.length,.j 0]) [.cells 1 true true (rNt (qgs p d).2.2.1)])(p:List Ins)(hp:PrgGood p)(d:GData)(hd:DatOk d) :
  ∃n:Int,qa P f [.fz p.length (rP p),.agg (zt d)] (.tup [.w (qgs p d).1,.j n,.j 0]):=by
 obtain⟨n,hn⟩:=hg p hp d hd;refine⟨n,qa.mk hc (by simp[qt,clo,qw,qea]) ?_⟩;simp only[qmZ,vI,simprocAttr];simp +decide only[↓vS,vT,simprocAttr,qqm,quS];refine hn.sc ?_;simp only[vJ,simprocAttr,xt qY];simp +decide only[↓vS,vT,simprocAttr];simp[vZ]
def qIE(x:BitVec 32):x &&& ~~~ 65535#32=(x >>> 16) <<< 16:=by
 apply BitVec.eq_of_getLsbD_eq;intro i hi;have h:∀i,i<32->(65535#32).getLsbD i=decide (i<16):=by decide
 rw[BitVec.getLsbD_and,BitVec.getLsbD_not,h i hi,BitVec.getLsbD_shiftLeft,BitVec.getLsbD_ushiftRight]
 grind
def qrL{a:Int}(h0:0<=a)(h1:a<=4294967295):qeH .u32 a 65535=a / 65536*65536:=by
 obtain⟨n,rfl⟩:∃n:Nat,a=n:=⟨a.toNat,by omega⟩
 have e:(BitVec.ofInt 32 (n:Int))=BitVec.ofNat 32 n:=by simp
 unfold qeH;show IntKind.wrap .u32 (((BitVec.ofInt 32 (n:Int)) &&& ~~~ (65535#32)).toNat:Int)=_;rw[e,qIE];have hn:n<2 ^ 32:=by omega
 have:((BitVec.ofNat 32 n >>> 16) <<< 16).toNat=n / 65536*65536:=by
  rw[BitVec.toNat_shiftLeft,BitVec.toNat_ushiftRight,BitVec.toNat_ofNat,Nat.mod_eq_of_lt hn,Nat.shiftLeft_eq,Nat.shiftRight_eq_div_pow];omega
 rw[this];show((n / 65536*65536:Nat):Int) % 4294967296=_;omega
def qhL(x:Int):Int:=if 32768<=x / 65536 then x / 65536-65536 else x / 65536
def qes(a b:Int):Bool:=decide (qhL a<qhL b)
def qbz:List Int->Int
 | []=>2147418112
 | x::l=>if qes x (qbz l)=true then x else qbz l
theorem qhr{x:Int}{l:List Int}:qbz (x::l)=if qes x (qbz l)=true then x else qbz l:=rfl
def qlo:∀{l:List Int},(∀x ∈ l,u32 x)->u32 (qbz l)
 | [],_=>⟨by decide,by decide⟩
 | x::l,h=>by
  rw[qhr];split
  .simp_all
  .exact qlo λy hy=>h y (by grind)
def qnw{a:Int}(h0:0<=a)(h1:a<=4294967295):IntKind.wrap .i32 (a / 65536*65536)=qhL a*65536:=by
 unfold qhL;simp only[IntKind.wrap,IntKind.bits,IntKind.signed,Bool.true_and,decide_eq_true_eq,show(2:Int) ^ 32=4294967296 from rfl,show(2:Int) ^ (32-1)=2147483648 from rfl]
 omega
def qgD(a:Nat):IFn:=⟨[.tmp 4],sq [.r [.m 4 .F],.r [.n 5 0,.l 6 a [.t 5],.q 7 (.cvInt .i32 (.t 6)),.n 8 1,.l 9 a [.t 8],.q 10 (.cvInt .i32 (.t 9)),.s 11 7 10,.n 4 11],.ret]⟩
def qH0{g:Nat}(hc:qc P f (qgD g)=true)(hg:∀n,qa P g [.w n] (.w (qeH .u32 n 65535)))(a b:Int)(ha:u32 a)(hb:u32 b):qa P f [.w a,.w b] (.b (qes a b)):=by
 refine qa.mk hc rfl ?_;have w1:=qnw ha.1 ha.2;have w2:=qnw hb.1 hb.2;rw[<- qrL ha.1 ha.2]at w1;rw[<- qrL hb.1 hb.2]at w2;have hlt:(qhL a*65536<qhL b*65536)=(qhL a<qhL b):=by simp_all
 unfold qes;simp only[qgD,vI,simprocAttr];simp +decide only[↓vS,vT,simprocAttr];refine(hg a).sc ?_;simp +decide only[↓vS,vT,simprocAttr];refine(hg b).sc ?_;simp +decide only[↓vS,vT,simprocAttr,w1,w2,hlt];simp[vZ]
def qGx(P:Program)(g:Nat):Prop:=∀a b:Int,u32 a->u32 b->qa P g [.w a,.w b] (.b (qes a b))
def qf2(a:Nat):IFn:=⟨[.tmp 2],sq [.r [.m 2 (.c (.w 0))],.r [.n 6 0,.q 7 (.iAddrS 1 (.t 6) (.k 0)),.d 8 7,.n 3 8],sq [.r [.n 9 0,.q 10 (.slcS 1 (.t 9) (some (.k 1)) none none),.e 11 10,.m 12 (.k 0)],.blk 0 (.loop (sq [.r [.s 13 12 11],.cond (.t 13) (.skip) (.exit 0),.blk 1 (sq [.r [.i 14 1 10 12,.d 15 14,.n 5 15],.r [.n 16 5,.n 17 3,.l 18 a [.t 16,.t 17]],.cond (.t 18) (.r [.n 19 5,.n 3 19]) (.skip)]),.r [.a 20 12 1,.n 12 20]]))],.r [.n 21 3,.n 2 21],.ret]⟩
def qGk{g:Nat}(hc:qc P f (qf2 g)=true)(hg:qGx P g)(a b:Int)(ha:u32 a)(hb:u32 b):qa P f [.fz 2 (rI .u32 [a,b])] (.w (if qes b a=true then b else a)):=by
 refine qa.mk hc (by simp[qt,clo,qh]) ?_;have hl:=hg b a hb ha;have e0:(rI .u32 [a,b])[0]?=some (.w a):=rfl;have e1:(rI .u32 [b])[0]?=some (.w b):=rfl;simp only[qf2,vI,simprocAttr];simp +decide only[↓vS,vT,simprocAttr,e0,qEr,qrT];refine SL.loop (α:=Nat) (λj=>[(3,.w (if j=0 then a else if qes b a=true then b else a)),(10,.fz 1 [.w b]),(11,.j 1),(12,.j (j:Int))]) (λ_=>[]) (λj=>j<=1) (λj=>1-j) 0 [] ?_ ?_ ?_ rfl ?_ ?_
 .simp[vw]
 .trivial
 .simp
 .omega
 rintro j hj G ih;simp only[vI,simprocAttr]
 by_cases h0:j=0
 .subst h0;have ih2:=ih 1 (by decide) (by decide);simp +decide only[↓vS,vT,simprocAttr];refine hl.sc ?_;cases hls:qes b a with
  | true =>
   rw[hls]at ih2;simp +decide only[↓vS,vT,simprocAttr];refine ih2 _ _ (Wk.mk _ _ [] ?_ ?_ ?_ rfl)
   .simp[vw];rfl
   .trivial
   .simp
  | false =>
   rw[hls]at ih2;simp +decide only[↓vS,vT,simprocAttr];refine ih2 _ _ (Wk.mk _ _ [] ?_ ?_ ?_ rfl)
   .simp[vw];rfl
   .trivial
   .simp
 .obtain rfl:j=1:=by omega
  simp +decide only[↓vS,vT,simprocAttr];simp[vZ]
def qHE{k:IntKind}{l:List Int}{j:Nat}{x:Int}(h:l[j]?=some x):(rI k l)[j]?=some (.i k x):=by rw[qaW,h];rfl
def qsQ{l:List Int}{j:Nat}{x:Int}(h:l[j]?=some x):qbz (l.drop j)=if qes x (qbz (l.drop (j+1)))=true then x else qbz (l.drop (j+1)):=by
 grind[List.drop_eq_getElem_cons,qhr]
instance:DecidableEq Ins:=λa b=>decidable_of_iff (a.code=b.code/\a.jt=b.jt/\a.jf=b.jf/\a.k=b.k) ⟨λh=>by cases a;cases b;simp only at h;obtain⟨rfl,rfl,rfl,rfl⟩:=h;rfl,λh=>by subst h;exact⟨rfl,rfl,rfl,rfl⟩⟩
instance:DecidableEq Prg:=λa b=>decidable_of_iff (a.dir=b.dir/\a.arch=b.arch/\a.ins=b.ins) ⟨λh=>by cases a;cases b;simp only at h;obtain⟨rfl,rfl,rfl⟩:=h;rfl,λh=>by subst h;exact⟨rfl,rfl,rfl⟩⟩
structure PrgIn (x:Prg):Prop where
 len:x.ins.length<=9223372036854775807
 ins:∀i ∈ x.ins,InsOk i
def qGA(P:Program)(g:Nat):Prop:=∀l m:List Prg,l.length<=10000->(∀x ∈ l,PrgIn x)->qa P g [.fz l.length (rPr l),.fz m.length (rPr m)] (.b (decide (l=m)))
def qh3(a b:Nat):IFn:=⟨[.tmp 4],sq [.r [.m 4 .F],.r [.n 5 0,.n 6 1,.l 7 a [.t 5,.t 6,(.c (.fn b [] []))],.n 4 7],.ret]⟩
def stackSame{g1 g2:Nat}(hc:qc P f (qh3 g1 g2)=true)(h1:∀l m:List Prg,l.length<=10000->(∀x ∈ l,PrgIn x)->qa P g1 [.fz l.length (rPr l),.fz m.length (rPr m),.fn g2 [] []] (.b (decide (l=m)))):qGA P f:=by
 intro l m hl hx;refine qa.mk hc (by simp[qt,clo,qdX]) ?_;simp only[qh3,vI,simprocAttr];simp +decide only[↓vS,vT,simprocAttr];refine(h1 l m hl hx).sc ?_;simp +decide only[↓vS,vT,simprocAttr];simp[vZ]



theorem qqE{x:Prg}(hx:∀i ∈ x.ins,InsOk i)(h:qdU x=true):PrgGood x.ins:=by
 unfold qdU at h;simp only[zzB,decide_eq_true_eq]at h;obtain⟨h1,h2,h3,h4,_⟩:=qB4 h.1;exact⟨h2,h1,hx,h3,h4⟩
def qpC{l:List Prg}(hx:∀x ∈ l,∀i ∈ x.ins,InsOk i)(h:qcZ l=true):l.length<=48/\∀x ∈ l,PrgGood x.ins:=by
 unfold qcZ at h
 grind[qqE]
def qig(l:List Prg)(d:GData):List Int:=l.map λx=>(qgs x.ins d).1
def evS(l:List Prg)(d:GData):Int:=qbz (qig l d)
def qoB(l:List Prg)(d:GData):(qig l d).length=l.length:=by simp[qig]
def qsv{l:List Prg}{d:GData}{j:Nat}{x:Prg}(h:l[j]?=some x):qig (l.take (j+1)) d=qig (l.take j) d++[(qgs x.ins d).1]:=by
 rw[List.take_add_one,h];simp[qig]
def qGz(P:Program)(g:Nat):Prop:=∀p,PrgGood p->∀d,DatOk d->∃n:Int,qa P g [.fz p.length (rP p),.agg (zt d)] (.tup [.w (qgs p d).1,.j n,.j 0])
def qA2(P:Program)(g:Nat):Prop:=∀l:List Prg,l.length<=100->(∀x ∈ l,PrgIn x)->qa P g [.fz l.length (rPr l)] (.b (qcZ l))
def quJ(P:Program)(g:Nat):Prop:=∀l:List Int,(∀x ∈ l,u32 x)->l.length<=100000->qa P g [.fz l.length (rI .u32 l)] (.w (qbz l))
def qep(a:Nat):IFn:=⟨[.tmp 2],sq [.r [.m 2 (.c (.w 0))],.r [.n 3 0,.l 4 a [.t 3],.n 2 4],.ret]⟩
def qxW{g:Nat}(hc:qc P f (qep g)=true)(hg:quJ P g):quJ P f:=by
 intro l hl hn;refine qa.mk hc (by simp[qt,clo,qh]) ?_;simp only[qep,vI,simprocAttr];simp +decide only[↓vS,vT,simprocAttr];refine(hg l hl hn).sc ?_;simp +decide only[↓vS,vT,simprocAttr];simp[vZ]
def qch(a b c:Nat):ICode:=sq [.r [.n 34 6,.l 35 c [.t 34],.n 4 35,.m 5 (.k 0)],.ret]
def qeO(a b c:Nat):IFn:=⟨[.tmp 4,.tmp 5],sq [.r [.q 3 (.box (.t 1)),.m 4 (.c (.w 0)),.m 5 (.k 0)],sq [.r [.n 12 0,.l 13 a [.t 12],.q 14 (.un .not (.t 13))],.cond (.t 14) (sq [.r [.m 4 (.c (.w 0)),.m 5 (.k 290)],.ret]) (.skip)],.r [.m 6 .N],sq [.r [.n 15 0,.e 16 15,.m 17 (.k 0)],.blk 0 (.loop (sq [.r [.s 18 17 16],.cond (.t 18) (.skip) (.exit 0),.blk 1 (sq [.r [.i 19 3 15 17,.v 20 3 19,.q 8 (.alloc [.j 0,.j 0,.nils]),.u (.store 3 (.t 8) (.t 20))],.r [.f 22 2 8,.d 23 22,.v 24 9 3,.l 25 b [.t 23,.t 24],.n 21 25,.x 26 21 0,.x 27 21 1,.x 28 21 2,.n 9 26,.n 10 27,.n 11 28],.r [.n 29 6,.n 30 9,.q 31 (.buildS 1 [.w 0] [(0,1,(.t 30))]),.q 32 (.app 1 4 true (.t 29) (.t 31)),.n 6 32]]),.r [.a 33 17 1,.n 17 33]]))],.cut (qch a b c)]⟩
def qy3{g1 g2 g3:Nat}(hg:quJ P g3)(A:List Int)(hA:∀x ∈ A,u32 x)(hn:A.length<=100){t':Tr AV}{h':Hp}(hw:Wk 0 t' h' (mkT [(6,.own 0 A.length)]) (mkH 0 [.cells 1 true true (rI .u32 A)])) :
  S P 0 (qch g1 g2 g3) (xu [.tmp 4,.tmp 5] λv' h'=>Frz h' v' (.tup [.w (qbz A),.j 0])) t' h':=by
 refine S.weak hw (qk ?_);simp only[qch,vI,simprocAttr];simp +decide only[↓vS,vT,simprocAttr];refine(hg A hA (by omega)).give [(0,.cells 1 true true (rI .u32 A))] (by simp[Tr.get_set]) rfl ?_ ?_
 .simp[vZ,vP,Tr.get_set,zj qh,trP];intro h0;rw[h0];rfl
 simp only[zk,zC,qB];simp +decide only[↓vS,vT,simprocAttr];simp[vZ]
def qFQ{g1 g2 g3:Nat}(hc:qc P f (qeO g1 g2 g3)=true)(h1:qA2 P g1)(h2:qGz P g2)(h3:quJ P g3)(l:List Prg)(hl:l.length<=100)(hx:∀x ∈ l,PrgIn x)(d:GData)(hd:DatOk d) :
  qa P f [.fz l.length (rPr l),.agg (zt d)] (if qcZ l=true then .tup [.w (evS l d),.j 0]else .tup [.w 0,.j 290]):=by
 refine qa.mk hc (by simp[qt,clo,qdX,qea]) ?_;have hmay:=h1 l hl hx
 by_cases hm:qcZ l=true
 .rw[if_pos hm];rw[hm]at hmay;obtain⟨h48,hgood⟩:=qpC (by grind[PrgIn.ins]) hm
  have hu:∀x ∈ qig l d,u32 x:=λx hxm=>by
   obtain⟨y,hy,rfl⟩:=List.mem_map.1 hxm
   grind[qnk,PrgGood.ins]
  simp only[qeO,vI,simprocAttr];simp +decide only[↓vS,vT,simprocAttr];refine hmay.sc ?_;simp +decide only[↓vS,vT,simprocAttr];refine SL.loop (α:=Nat) (λj=>[(3,.ptr 0 0),(6,.own 1 (qig (l.take j) d).length),(15,.fz l.length (rPr l)),(16,.j l.length),(17,.j (j:Int))]) (λj=>[.v (zt d),.cells 1 true true (rI .u32 (qig (l.take j) d))]) (λj=>j<=l.length) (λj=>l.length-j) 0 [0,99] ?_ ?_ ?_ rfl ?_ ?_
  .simp[vw,qdX,qig]
  .simp[vw,qe,qea,qig,rI];exact NVs.refl qea
  .simp
  .omega
  rintro j hj G ih;simp only[vI,simprocAttr]
  by_cases hlt:j<l.length
  .obtain⟨x,hpx⟩:∃x,l[j]?=some x:=⟨_,zzE hlt⟩;have hxm:=zzM hpx;have ex:=qS (f:=cPr) (m:=3) qnI hpx;rw[show l.flatMap cPr=rPr l from rfl]at ex
   simp only[cPr]at ex;have bx:j*3+3<=(rPr l).length:=by rw[qr0];omega
   have hw1:IntKind.wrap .i64 ((j:Int)+1)=((j+1:Nat):Int):=by rw[qp (by omega) (by omega)];omega
   obtain⟨n,hrun⟩:=h2 x.ins (hgood x hxm) d hd;have ih2:=ih (j+1) hlt (by omega);have hal:(qig (l.take j) d).length<=100:=by rw[qoB,List.length_take];omega
   rw[qsv hpx]at ih2;generalize qig (l.take j) d=A at ih2 hal ⊢;have hr1:A.length+1<=qi:=by simp only[qi];omega
   have hr2:(A.length+1)*4<=qi:=by simp only[qi];omega
   have hap:rI .u32 A++[.w (qgs x.ins d).1]=rI .u32 (A++[(qgs x.ins d).1]):=by rw[<- qqI];rfl
   have hll:(rI .u32 A).length=A.length:=qad;simp +decide only[↓vS,vT,simprocAttr,hlt,ex,bx,qqm,quS];refine hrun.sc ?_;simp +decide only[↓vS,vT,simprocAttr,hr1,hr2,hap,hll,zzU,hw1];refine ih2 _ _ (Wk.mk _ _ [0,4] ?_ ?_ ?_ rfl)
   .simp[vw,qdX]
   .simp[vw,qe,qh];exact NVs.refl qea
   .simp
  .obtain rfl:j=l.length:=by omega
   simp +decide only[↓vS,vT,simprocAttr,hlt,List.take_length];refine qy3 h3 (qig l d) hu (by rw[qoB];exact hl) (Wk.mk _ _ [1] ?_ ?_ ?_ rfl)
   .simp[vw]
   .simp[vw,qe,qh]
   .simp
 .have hf:qcZ l=false:=by simp_all
  rw[if_neg hm];rw[hf]at hmay;simp only[qeO,vI,simprocAttr];simp +decide only[↓vS,vT,simprocAttr];refine hmay.sc ?_;simp +decide only[↓vS,vT,simprocAttr];simp[vZ]
def qGu(P:Program)(g:Nat):Prop:=∀p:List Ins,(∀i ∈ p,InsOk i)->∃n:Int,qa P g [.fz p.length (rP p)] (.tup [.j n,.j (atU p (qd5 p)).2])
def qye{p:List Ins}(u:List Nat)(h:4096<p.length):atU p u=(0,60):=by unfold atU;rw[if_pos (.inr h)]
def qA6{g1 g2 g3:Nat}(hc:qc P f (qeg g1 g2 g3)=true)(h:cAt P f):qGu P f:=by
 intro p hi
 by_cases hb:p.length<=5000
 .exact⟨_,h p hi hb⟩
 .have hb4:4096<p.length:=by omega
  rw[qye _ hb4];refine⟨0,qa.mk hc (by simp[qt,clo,qw]) ?_⟩;have hz':¬(p.length:Int)<1:=by omega
  have hb':(4096:Int)<p.length:=by omega
  simp only[qeg,vI,simprocAttr];simp +decide only[↓vS,vT,simprocAttr,hz',hb'];simp[vZ]
def qFf{g:Nat}(hc:qc P f (qgJ g)=true)(hg:qGu P g)(p:List Ins)(hi:∀i ∈ p,InsOk i):qa P f [.fz p.length (rP p)] (.j (atU p (qd5 p)).2):=by
 refine qa.mk hc (by simp[qt,clo,qw]) ?_;simp only[qgJ,vI,simprocAttr];simp +decide only[↓vS,vT,simprocAttr];obtain⟨n,hn⟩:=hg p hi;refine hn.sc ?_;simp +decide only[↓vS,vT,simprocAttr];simp[vZ]
def qDq{g:Nat}(hc:qc P f (qgi g)=true)(hg:∀p:List Ins,(∀i ∈ p,InsOk i)->qa P g [.fz p.length (rP p)] (.j (atU p (qd5 p)).2))(x:Prg)(hx:PrgIn x):qa P f [.agg (cPr x)] (.b (qdU x)):=by
 refine qa.mk hc (by simp[qt,clo,cPr,qw]) ?_;have h:=hg x.ins hx.ins;unfold qdU;generalize(atU x.ins (qd5 x.ins)).2=e at h;simp only[qgi,cPr,vI,simprocAttr]
 by_cases h0:x.dir=0
 .rw[if_pos h0]
  by_cases h6:x.arch=6
  .simp +decide only[↓vS,vT,simprocAttr,h0,h6];refine h.sc ?_;simp +decide only[↓vS,vT,simprocAttr];simp[vZ,h6]
  .simp +decide only[↓vS,vT,simprocAttr,h0,h6];simp[vZ,h6]
 rw[if_neg h0]
 by_cases h1:x.dir<0
 .have h1':¬0<=x.dir:=by omega
  simp +decide only[↓vS,vT,simprocAttr,h0,h1];simp[vZ,h1']
 have h1':0<=x.dir:=by omega
 by_cases h2:8<=x.dir
 .have h2':¬x.dir<8:=by omega
  simp +decide only[↓vS,vT,simprocAttr,h0,h1,h2];simp[vZ,h2']
 have h2':x.dir<8:=by omega
 by_cases h3:x.arch<0
 .have h3':¬0<=x.arch:=by omega
  simp +decide only[↓vS,vT,simprocAttr,h0,h1,h2,h3];simp[vZ,h3']
 have h3':0<=x.arch:=by omega
 by_cases h4:6<=x.arch
 .have h4':¬x.arch<6:=by omega
  simp +decide only[↓vS,vT,simprocAttr,h0,h1,h2,h3,h4];simp[vZ,h4']
 have h4':x.arch<6:=by omega
 simp +decide only[↓vS,vT,simprocAttr,h0,h1,h2,h3,h4];refine h.sc ?_;simp +decide only[↓vS,vT,simprocAttr];simp[vZ,h1',h2',h3',h4']
def qHf{g:Nat}(hc:qc P f (qgU g)=true)(hg:∀x,PrgIn x->qa P g [.agg (cPr x)] (.b (qdU x)))(x:Prg)(hx:PrgIn x):qa P f [.agg (cPr x)] (.b (!qdU x)):=by
 refine qa.mk hc (by simp[qt,clo,cPr,qw]) ?_;have h:=hg x hx;simp only[cPr]at h;simp only[qgU,cPr,vI,simprocAttr];simp +decide only[↓vS,vT,simprocAttr];refine h.sc ?_;simp +decide only[↓vS,vT,simprocAttr];simp[vZ]
def qAF{g1 g2:Nat}(hc:qc P f (qi9 g1 g2)=true)(h1:∀(l:List Prg) (k:Nat) (p:Prg->Bool),(∀c ∈ l,qa P k [.agg (cPr c)] (.b (p c)))->l.length<=qi->qa P g1 [.fz l.length (rPr l),.fn k [] []] (.b (l.any p)))
  (h2:∀x,PrgIn x->qa P g2 [.agg (cPr x)] (.b (!qdU x))):qA2 P f:=by
 intro l hl hx;refine qa.mk hc (by simp[qt,clo,qdX]) ?_;have h:=h1 l g2 (λx=>!qdU x) (λc hc=>h2 c (hx c hc)) (by simp only[qi];omega)
 have ha:(!l.any λx=>!qdU x)=l.all qdU:=by rw[List.not_any_eq_all_not];simp
 unfold qcZ;simp only[qi9,vI,simprocAttr]
 by_cases h48:l.length<=48
 .have h48':(l.length:Int)<=48:=by omega
  simp +decide only[↓vS,vT,simprocAttr,h48'];refine h.sc ?_;simp +decide only[↓vS,vT,simprocAttr];simp only[ha];simp[vZ,h48]
 .have h48':¬(l.length:Int)<=48:=by omega
  simp +decide only[↓vS,vT,simprocAttr,h48'];simp[vZ,h48]

def jn(a:Nat):IFn:=⟨[.tmp 2],sq [.r [.q 1 (.box (.t 0)),.m 2 (.c (.nilf))],.r [.q 3 (.mkF a [] [.t 1]),.n 2 3],.ret]⟩
def qGq{g:Nat}(hc:qc P f (jn g)=true)(l:List Int):qa P f [.fz l.length (rI .u32 l)] (.fn g [] [.pf [.fz l.length (rI .u32 l)] 0]):=by
 refine qa.mk hc (by simp[qt,clo,qh]) ?_;simp only[jn,vI,simprocAttr];simp +decide only[↓vS,vT,simprocAttr];simp[vZ,vP,Tr.get_set,qh]
def xZ:IFn:=⟨[],sq [.r [.d 4 1,.e 5 4,.w 6 .sub 5 1,.n 3 6],.blk 0 (.loop (sq [sq [.r [.n 7 3,.w 8 .geq 7 0],.cond (.t 8) (.skip) (.exit 0)],.blk 1 (sq [.r [.n 11 0,.n 12 3,.d 13 1,.n 14 3,.i 15 1 13 14,.d 16 15,⟨(some 17),.callV (.t 11) [.t 12,.t 16],none⟩,.q 18 (.un .not (.t 17))],.cond (.t 18) (.ret) (.skip)]),.r [.n 9 3,.w 10 .sub 9 1,.n 3 10]]))]⟩
def qaw(a b:Nat):ICode:=sq [.r [.d 14 3,.n 2 14],.ret]
def qed(a b:Nat):IFn:=⟨[.tmp 2],sq [.r [.m 2 (.c (.w 0))],.r [.q 3 (.alloc [.w 0]),.u (.store 1 (.t 3) (.c (.w 2147418112)))],sq [.r [.n 6 0,.l 7 a [.t 6]],.blk 0 (.rangeF 0 (.t 7) [8,9] (.r [.n 5 9]) (.blk 1 (.r [.d 10 3,.n 11 5,.q 12 (.buildS 2 [.w 0] [(0,1,(.t 10)),(1,1,(.t 11))]),.l 13 b [.t 12],.u (.store 1 (.t 3) (.t 13))])))],.cut (qaw a b)]⟩
def cbT(g:Nat)(l:List Int):List (Nat×AV):=[(3,.ptr 0 0),(7,.fn g [] [.pf [.fz l.length (rI .u32 l)] 0])]
def qqr{g1 g2:Nat}(x:Int){t':Tr AV}{h':Hp}(hw:Wk 0 t' h' (mkT [(3,.ptr 0 0)]) (mkH 0 [.v [.w x]])) :
  S P 0 (qaw g1 g2) (xu [.tmp 2] λv' h'=>Frz h' v' (.w x)) t' h':=by
 refine S.weak hw (qk ?_);simp only[qaw,vI,simprocAttr];simp +decide only[↓vS,vT,simprocAttr];simp[vZ]
def qBU{g1 g2 g3:Nat}(hc:qc P f (qed g1 g2)=true)(h1:∀l:List Int,qa P g1 [.fz l.length (rI .u32 l)] (.fn g3 [] [.pf [.fz l.length (rI .u32 l)] 0]))(hc3:qc P g3 xZ=true)
  (h2:∀a b:Int,u32 a->u32 b->qa P g2 [.fz 2 (rI .u32 [a,b])] (.w (if qes b a=true then b else a))):quJ P f:=by
 intro l hl hn;refine qa.mk hc (by simp[qt,clo,qh]) ?_;simp only[qed,vI,simprocAttr];simp +decide only[↓vS,vT,simprocAttr];refine(h1 l).sc ?_;simp +decide only[↓vS,vT,simprocAttr];refine S.weak (Wk.mk (cbT g3 l) [.v [.w 2147418112]] [0] ?_ ?_ ?_ rfl) ?_
 .simp[vw,cbT,qh]
 .simp[vw]
 .simp
 refine S.rangeF (by simp[jD]) (by simp[cbT]) ⟨rfl,rfl⟩ ?_;refine qkc.2 ⟨.fn g3 [] [.pf [.fz l.length (rI .u32 l)] 0],by simp[cbT,mkT,Tr.get_set],?_⟩
 refine⟨qdD hc3,λr0 hr0 hp0 hlo=>SC.mk hc3 ?_⟩
 have hid:=qfX hr0 hp0;show S P 2 _ _ (qbY [.yl 1,.pf [.fz l.length (rI .u32 l)] 0] 0 .leaf) ⟨2,0,(Tr.leaf.set 0 (.v [.w 2147418112])).set 1 (.map (zJ r0 (cbT g3 l)))⟩;refine qk ?_;have w0:IntKind.wrap .i64 ((l.length:Int)-1)=(l.length:Int)-1:=by grind[qp]
 simp only[xZ,vI,simprocAttr];simp +decide only[↓vS,vT,simprocAttr,w0];refine SL.loopn (α:=Nat) (λj=>[(0,.yl 1),(1,.pf [.fz l.length (rI .u32 l)] 0),(3,.j ((j:Int)-1))]) (λj=>[.v [.w (qbz (l.drop j))],.map (zJ r0 (cbT g3 l))]) (λj=>j<=l.length) (λj=>j) l.length [0,1] ?_ ?_ ?_ rfl ?_ ?_ ?_ ?_
 .simp[vw,qh]
 .simp[vw,cbT,qh,qbz,qbB,qbW,qaG,x5]
 .simp
 .simp
 .intro x hx;have:x=0\/x=1:=by omega
  rcases this with rfl|rfl<;>rfl
 .omega
 rintro j hj G ih;simp only[vI,simprocAttr];cases j with
 | succ k =>
  have e:((k+1:Nat):Int)-1=(k:Int):=by omega
  have hk:k<l.length:=by omega
  obtain⟨x,hx⟩:∃x,l[k]?=some x:=⟨_,zzE hk⟩;have gx:=qHE (k:=.u32) hx;have hxu:=hl x (by grind);have hcu:u32 (qbz (l.drop (k+1))):=qlo (by grind);have hcd:=qsQ hx;have w2:IntKind.wrap .i64 ((k:Int)-1)=(k:Int)-1:=by grind[qp]
  have ih2:=ih k (Nat.le_of_lt hk) (by omega);rw[hcd]at ih2;rw[e];generalize qbz (l.drop (k+1))=c at hcu ih2 ⊢;have hle:=h2 c x hcu hxu;have k0:(0:Int)<=(k:Int):=by omega
  simp +decide only[↓vS,vT,simprocAttr,k0,hk,gx,zzU];change SY P 1 [.j (k:Int),.w x] _ _;refine SY.mk (r:=r0) (ts:=cbT g3 l) (ps:=[8,9]) (by simp[Tr.get_set]) hr0 hlo (Nat.zero_le _) (by simp_all) rfl ?_;rw[show mkT (cbT g3 l)=(Tr.leaf.set 7 (.fn g3 [] [.pf [.fz l.length (rI .u32 l)] 0])).set 3 (.ptr 0 0)from rfl]
  refine qk ?_;simp only[qkB,vI,simprocAttr];simp only[↓vS,vT,simprocAttr];refine⟨cbT g3 l,by simp[Tr.get_set],?_⟩
  refine qk ?_;simp only[qB,vI,simprocAttr];simp +decide only[↓vS,vT,simprocAttr];refine hle.give [(2,.v [.w c,.w x])] (by simp[Tr.get_set]) rfl ?_ ?_
  .refine .cons _ _ _ _ (Frz.cut 1 rfl (zzL _) ?_) .nil;simp[vw,trP,rI]
  simp only[zk,zC,qB];simp +decide only[↓vS,vT,simprocAttr];refine⟨bsy r0,cbT g3 l,by simp[Tr.get_set],?_⟩
  rw[qey,hid];simp only[qB];simp +decide only[↓vS,vT,simprocAttr,w2];refine ih2 _ _ (Wk.mkn _ _ [0,1] ?_ ?_ ?_ rfl ?_ ?_)
  .simp[vw,qh]
  .simp[vw,cbT,qh,qbB,qbW,qaG,x5]
  .simp
  .simp
  .intro x hx;have:x=0\/x=1:=by omega
   rcases this with rfl|rfl<;>rfl
 | zero =>
  clear ih;have e:((0:Nat):Int)-1 = -1:=rfl;rw[e];simp +decide only[↓vS,vT,simprocAttr];refine⟨r0,cbT g3 l,by simp[Tr.get_set],by rw[hr0];decide,?_⟩
  rw[hp0];simp only[qB];simp only[↓vS,vT,simprocAttr];refine qqr (qbz l) (Wk.mk _ _ [0] ?_ ?_ ?_ rfl)
  .simp[vw,cbT,mkT]
  .simp[vw]
  .simp
end Go.Kc
end
section
namespace Go.Kc
end Go.Kc
end
section
namespace Go.Kc
variable {P:Program} {f:Nat}
end Go.Kc
end
section
namespace Go.Kc
variable {P:Program} {f:Nat}

def xI(ar:AV)(pe:Bool):List AV:=[ar,.y 0,.nils,.w 2147483648,.y 0,.nils,.nils,.y 0,.x 0,.b false,.b pe,.b false,.b false]
def qbA(t n:Int)(x:Int):AV:=.agg [.w n,.w t,.x 0,.x x,.x 0,.x 0,.x 0,.x 0,.x 0]
def qnJ(P:Program)(g:Nat):Prop :=
 qa P g [.agg (xI .nils false),.j 0,qbA 3221225534 1 1,.w 2147418112] (.b true) /\
 qa P g [.agg (xI (.fz 1 [.j 0]) false),.j 1,qbA 1073741827 1 1,.w 2147483648] (.b true) /\
 qa P g [.agg (xI (.fz 1 [.j 0]) false),.j 1,qbA 3221225534 1 1,.w 2147418112] (.b true) /\
 qa P g [.agg (xI .nils true),.j 6,qbA 3221225534 135 1,.w 327681] (.b true) /\
 qa P g [.agg (xI .nils true),.j 6,qbA 3221225534 135 0,.w 2147418112] (.b true)
def x4(a b c d:Nat):ICode:=sq [.r [.l 21 a [],.u (.store 13 (.t 1) (.t 21))],.r [.f 22 10 1,.u (.store 1 (.t 22) .T)],.r [.q 24 (.buildS 1 [.y 0] [(0,1,(.c (.y 1)))]),.l 25 d [.t 24],.n 23 25,.x 26 23 0,.x 27 23 1,.n 2 26,.n 3 27],.reg true [.v 28 13 1,.l 29 b [(.c (.w 3221225534)),(.c (.w 135)),(.c (.x 1))],.l 30 c [.t 28,.k 6,.t 29,(.c (.w 327681))],.n 31 30,.g 32 (.loadN 13 (.t 1)) 31 true,⟨(some 33),.callF b [(.c (.w 3221225534)),(.c (.w 135)),(.c (.x 0))],(some (31,true))⟩,⟨(some 34),.callF c [.t 32,.k 6,.t 33,(.c (.w 2147418112))],(some (31,true))⟩,.p 35 31 34,.n 36 35,.y 37 3 36,.g 38 (.bin .eql (.t 37) (.k 290)) 36 true,.p 39 36 38,.n 0 39],.ret]
def qaz(a b c d:Nat):ICode:=sq [.r [.q 9 (.buildS 1 [.j 0] [(0,1,(.k 0))]),.f 10 0 1,.u (.store 1 (.t 10) (.t 9))],sq [.reg true [.v 11 13 1,.l 12 b [(.c (.w 1073741827)),(.c (.w 1)),(.c (.x 1))],.l 13 c [.t 11,.k 1,.t 12,(.c (.w 2147483648))],.q 14 (.un .not (.t 13)),.n 15 14,.g 16 (.loadN 13 (.t 1)) 15 false,⟨(some 17),.callF b [(.c (.w 3221225534)),(.c (.w 1)),(.c (.x 1))],(some (15,false))⟩,⟨(some 18),.callF c [.t 16,.k 1,.t 17,(.c (.w 2147418112))],(some (15,false))⟩,.g 19 (.un .not (.t 18)) 15 false,.o 20 15 19],.cond (.t 20) (sq [.r [.m 0 .F],.ret]) (.skip)],.cut (x4 a b c d)]
def qbp(a b c d:Nat):IFn:=⟨[.tmp 0],sq [.r [.m 0 .F],.r [.l 4 a [],.q 1 (.alloc [.nils,.y 0,.nils,.w 0,.y 0,.nils,.nils,.y 0,.x 0,.b false,.b false,.b false,.b false]),.u (.store 13 (.t 1) (.t 4))],sq [.reg true [.v 5 13 1,.l 6 b [(.c (.w 3221225534)),(.c (.w 1)),(.c (.x 1))],.l 7 c [.t 5,.k 0,.t 6,(.c (.w 2147418112))],.q 8 (.un .not (.t 7))],.cond (.t 8) (sq [.r [.m 0 .F],.ret]) (.skip)],.cut (qaz a b c d)]⟩
def qqg{g1 g2 g3 g4:Nat}(h1:qa P g1 [] (.agg (xI .nils false)))(h2:∀t n x:Int,qa P g2 [.w t,.w n,.x x] (qbA t n x))(h3:qnJ P g3)(h4:qa P g4 [.fz 1 [.y 1]] qvj)
  {x:AV} {t':Tr AV} {h':Hp} (hw:Wk 0 t' h' (mkT [(1,.ptr 0 0)]) (mkH 0 [.v (xI x false)])) :
  S P 0 (x4 g1 g2 g3 g4) (xu [.tmp 0] λv' h'=>Frz h' v' (.b true)) t' h':=by
 refine S.weak hw (qk ?_);simp only[x4,vI,simprocAttr];simp +decide only[↓vS,vT,simprocAttr];refine h1.sc ?_;simp +decide only[↓vS,vT,simprocAttr,xI];refine h4.give [(1,.v [.y 1])] (by simp[Tr.get_set]) rfl ?_ ?_
 .refine .cons _ _ _ _ (.sl _ _ _ _ _ 0 _ [.y 1] 1 _ (by simp[trP,Tr.get_set];rfl) (zzL _) (by decide) (by decide) (.cons _ _ _ _ (.i _ _) .nil)) .nil
 simp only[zk,zC,qB,qvj];simp +decide only[↓vS,vT,simprocAttr];refine zB ?_;simp +decide only[↓vS,vT,simprocAttr];refine(h2 _ _ _).pc ?_;simp +decide only[↓vS,vT,simprocAttr];refine h3.2.2.2.1.pc ?_;simp only[Hp.up,Hp.down];simp +decide only[↓vS,vT,simprocAttr];refine(h2 _ _ _).pc ?_;simp +decide only[↓vS,vT,simprocAttr];refine h3.2.2.2.2.pc ?_;simp only[Hp.up,Hp.down];simp +decide only[↓vS,vT,simprocAttr];simp[vZ]
def qrn{h:Hp}{b:Nat}(hb:h.tr.get b=some (.v [.j 0]))(n:Nat)(d w:AV)(hd:Frz h d d)(hw:Frz h w w):Frzs h [.agg (xI (.sl b 0 1 1 false) false),.j n,d,w] [.agg (xI (.fz 1 [.j 0]) false),.j n,d,w]:=by
 refine .cons _ _ _ _ (.agg _ _ (.cons _ _ _ _ (.sl _ _ _ _ _ 0 _ [.j 0] 1 _ hb (zzL _) (by decide) (by decide) (.cons _ _ _ _ (.i _ _) .nil)) ?_)) (.cons _ _ _ _ (.i _ _) (.cons _ _ _ _ hd (.cons _ _ _ _ hw .nil)));exact .cons _ _ _ _ (.i _ _) (.cons _ _ _ _ .nils (.cons _ _ _ _ (.i _ _) (.cons _ _ _ _ (.i _ _) (.cons _ _ _ _ .nils (.cons _ _ _ _ .nils (.cons _ _ _ _ (.i _ _) (.cons _ _ _ _ (.i _ _) (.cons _ _ _ _ (.b _) (.cons _ _ _ _ (.b _) (.cons _ _ _ _ (.b _) (.cons _ _ _ _ (.b _) .nil)))))))))))
def qrm{h:Hp}{t n x:Int}:Frz h (qbA t n x) (qbA t n x) :=
 .agg _ _ (.cons _ _ _ _ (.i _ _) (.cons _ _ _ _ (.i _ _) (.cons _ _ _ _ (.i _ _) (.cons _ _ _ _ (.i _ _) (.cons _ _ _ _ (.i _ _) (.cons _ _ _ _ (.i _ _) (.cons _ _ _ _ (.i _ _) (.cons _ _ _ _ (.i _ _) (.cons _ _ _ _ (.i _ _) .nil)))))))))
def qH4{g1 g2 g3 g4:Nat}(hc:qc P f (qbp g1 g2 g3 g4)=true)(h1:qa P g1 [] (.agg (xI .nils false)))(h2:∀t n x:Int,qa P g2 [.w t,.w n,.x x] (qbA t n x))(h3:qnJ P g3)(h4:qa P g4 [.fz 1 [.y 1]] qvj):qa P f [] (.b true):=by
 refine qa.mk hc rfl ?_;have k1:=h3.1;have k2:=h3.2.1;have k3:=h3.2.2.1;simp only[qbp,vI,simprocAttr];simp +decide only[↓vS,vT,simprocAttr];refine h1.sc ?_;simp +decide only[↓vS,vT,simprocAttr,xI];refine zB ?_;simp +decide only[↓vS,vT,simprocAttr];refine(h2 _ _ _).pc ?_;simp +decide only[↓vS,vT,simprocAttr];refine k1.pc ?_;simp only[Hp.up,Hp.down];simp +decide only[↓vS,vT,simprocAttr];refine qk ?_;simp only[qaz,vI,simprocAttr];simp +decide only[↓vS,vT,simprocAttr];refine zB ?_;simp +decide only[↓vS,vT,simprocAttr];refine(h2 _ _ _).pc ?_;simp +decide only[↓vS,vT,simprocAttr];refine k2.lendp (qrn (b:=1) (by simp[Tr.get_set]) 1 _ _ qrm (.i _ _)) rfl ?_;simp only[Hp.up,Hp.down];simp +decide only[↓vS,vT,simprocAttr];refine(h2 _ _ _).pc ?_;simp +decide only[↓vS,vT,simprocAttr];refine k3.lendp (qrn (b:=1) (by simp[Tr.get_set]) 1 _ _ qrm (.i _ _)) rfl ?_;simp only[Hp.up,Hp.down];simp +decide only[↓vS,vT,simprocAttr];refine qqg h1 h2 h3 h4 (x:=.undef) (Wk.mk _ _ [0] ?_ ?_ ?_ rfl)
 .simp[vw,xI]
 .simp[vw,xI,qe]
 .simp
def qbN:IFn:=⟨[.cell 6 9 true],sq [.r [.q 6 (.alloc [.w 0,.w 0,.x 0,.x 0,.x 0,.x 0,.x 0,.x 0,.x 0])],.r [.n 8 1,.n 9 0,.q 10 (.build [.w 0,.w 0,.x 0,.x 0,.x 0,.x 0,.x 0,.x 0,.x 0] [(0,1,(.t 8)),(1,1,(.t 9))]),.q 7 (.alloc [.w 0,.w 0,.x 0,.x 0,.x 0,.x 0,.x 0,.x 0,.x 0]),.u (.store 9 (.t 7) (.t 10))],.r [.n 11 2,.f 12 3 7,.q 13 (.iAddrA 6 1 (.t 12) (.k 0)),.u (.store 1 (.t 13) (.t 11))],.r [.v 14 9 7,.u (.store 9 (.t 6) (.t 14))],.ret]⟩
def qIs(hc:qc P f qbN=true)(t n x:Int):qa P f [.w t,.w n,.x x] (qbA t n x):=by
 refine qa.mk hc rfl ?_;simp only[qbN,vI,simprocAttr];simp +decide only[↓vS,vT,simprocAttr];simp[vZ,qbA]
def qgS:IFn:=⟨[.cell 0 13 true],sq [.r [.q 0 (.alloc [.nils,.y 0,.nils,.w 0,.y 0,.nils,.nils,.y 0,.x 0,.b false,.b false,.b false,.b false])],.r [.q 1 (.build [.nils,.y 0,.nils,.w 0,.y 0,.nils,.nils,.y 0,.x 0,.b false,.b false,.b false,.b false] [(3,1,(.c (.w 2147483648)))]),.u (.store 13 (.t 0) (.t 1))],.ret]⟩
def qJA(hc:qc P f qgS=true):qa P f [] (.agg (xI .nils false)):=by
 refine qa.mk hc rfl ?_;simp only[qgS,vI,simprocAttr];simp +decide only[↓vS,vT,simprocAttr];simp[vZ,xI]
def xB(a b:Nat):IFn:=⟨[.tmp 8],sq [.r [.q 4 (.box (.t 0)),.q 6 (.box (.t 2)),.m 8 .F],sq [.r [.m 9 (.k 0)],.blk 0 (.loop (sq [sq [.r [.n 14 9,.w 15 .lss 14 2],.cond (.t 15) (.skip) (.exit 0)],.blk 1 (sq [.r [.v 19 13 4,.n 20 9,.w 21 .eql 20 1,.l 22 a [.t 19,.t 21],.n 18 22,.x 23 18 0,.x 24 18 1,.n 10 23,.n 11 24],.r [.n 26 10,.v 27 9 6,.l 28 b [.t 26,.t 27],.n 25 28,.x 29 25 0,.x 30 25 1,.n 12 29,.n 13 30],.r [.n 31 11,.w 32 .neq 31 0,.n 33 32,.z 34 13 33,.g 35 (.bin .neq (.t 34) (.k 0)) 33 false,.o 36 33 35,.n 37 36,.z 38 10 37,.g 39 (.len false (.t 38)) 37 false,.z 40 1 37,.g 41 (.bin .neq (.t 39) (.t 40)) 37 false,.o 42 37 41,.n 43 42,.z 44 12 43,.z 45 3 43,.g 46 (.bin .neq (.t 44) (.t 45)) 43 false,.o 47 43 46],.cond (.t 47) (sq [.r [.m 8 .F],.ret]) (.skip)]),.r [.n 16 9,.a 17 16 1,.n 9 17]]))],.r [.m 8 .T],.ret]⟩
def qsg{g1 g2:Nat}(hc:qc P f (xB g1 g2)=true)(ar:AV)(ha:clo ar=true)(hs:ze ar=true)(pe:Bool)(t m x:Int)(n:Nat)(w:Int)(cs:Bool->List AV)(hn:n<=100)
  (hB:∀b:Bool,qa P g1 [.agg (xI ar pe),.b b] (.tup [.fz n (cs b),.j 0])) (hE:∀b:Bool,qa P g2 [.fz n (cs b),qbA t m x] (.tup [.w w,.j 0])) :
  qa P f [.agg (xI ar pe),.j (n:Int),qbA t m x,.w w] (.b true):=by
 refine qa.mk hc (by simp[qt,clo,xI,qbA,ha]) ?_;have hB0:=hB false;have hB1:=hB true;have hE0:=hE false;have hE1:=hE true;simp only[xB,vI,simprocAttr];simp +decide only[↓vS,vT,simprocAttr,xI,qbA];refine SL.loop (α:=Nat) (λj=>[(1,.j (n:Int)),(3,.w w),(4,.ptr 0 0),(6,.ptr 1 0),(9,.j (j:Int))]) (λ_=>[.v (xI ar pe),.v [.w m,.w t,.x 0,.x x,.x 0,.x 0,.x 0,.x 0,.x 0]]) (λj=>j<=2) (λj=>2-j) 0 [0,1] ?_ ?_ ?_ rfl ?_ ?_
 .simp[vw]
 .simp[vw,qe];exact(NVs.refl (vs:=xI ar pe) (by simp[qt,clo,xI,ha]))
 .simp
 .omega
 rintro j hj G ih;simp only[vI,simprocAttr]
 by_cases hlt:j<2
 .have ih2:=ih (j+1) hlt (by omega);have hj2:j=0\/j=1:=by omega
  have hlen:¬((n:Int)≠n):=λh=>h rfl
  have w1:IntKind.wrap .i64 1=1:=by decide
  have w2:IntKind.wrap .i64 2=2:=by decide
  rcases hj2 with rfl|rfl
  .simp +decide only[↓vS,vT,simprocAttr,xI,qbA]at hB0 hE0 ih2 ⊢;refine hB0.sc ?_;simp +decide only[↓vS,vT,simprocAttr];refine hE0.sc ?_;simp +decide only[↓vS,vT,simprocAttr,w1];refine ih2 _ _ (Wk.mk _ _ [0,1] ?_ ?_ ?_ rfl)
   .simp[vw]
   .simp[vw,qe];exact(NVs.refl (vs:=xI ar pe) (by simp[qt,clo,xI,ha]))
   .simp
  .simp +decide only[↓vS,vT,simprocAttr,xI,qbA]at hB1 hE1 ih2 ⊢;refine hB1.sc ?_;simp +decide only[↓vS,vT,simprocAttr];refine hE1.sc ?_;simp +decide only[↓vS,vT,simprocAttr,w2];refine ih2 _ _ (Wk.mk _ _ [0,1] ?_ ?_ ?_ rfl)
   .simp[vw]
   .simp[vw,qe];exact(NVs.refl (vs:=xI ar pe) (by simp[qt,clo,xI,ha]))
   .simp
 .obtain rfl:j=2:=by omega
  simp +decide only[↓vS,vT,simprocAttr];simp[vZ]
end Go.Kc
end
section
namespace Go.Kc
variable {P:Program} {n:Nat}
def Has(t:Tr AV)(l:List (Nat×AV)):Prop:=∀p ∈ l,t.get p.1=some p.2
theorem ql{t:Tr AV}:Has t []↔True:=iff_true_intro λp hp=>by cases hp
theorem qg{t:Tr AV}{p:Nat×AV}{l:List (Nat×AV)}:Has t (p::l)↔t.get p.1=some p.2/\Has t l:=by simp[Has]
def Has.tr{t:Tr AV}{l:List (Nat×AV)}(h:Has t l){ρ:Ren}{tm:Array Value}(ht:TR σ0 ρ t tm):TR σ0 ρ (mkT l) tm:=λj v hj=>ht j v (h (j,v) (qew hj))
def S.has{x:ICode}{Q:X->Tr AV->Hp->Prop}{t:Tr AV}{h:Hp}(l:List (Nat×AV))(hl:Has t l)(hs:S P n x Q (mkT l) h):S P n x Q t h :=
 λnt cx hc hn ro hro ρ B w a ht hsz r=>hs nt cx hc hn ro hro ρ B w a (hl.tr ht) hsz r
def SL.has{x:ICode}{Q:X->Tr AV->Hp->Prop}{t:Tr AV}{h:Hp}(l:List (Nat×AV))(hl:Has t l)(hs:SL P n x Q (mkT l) h):SL P n x Q t h :=
 λnt cx hc hn ro hro ρ B w a ht hsz r=>hs nt cx hc hn ro hro ρ B w a (hl.tr ht) hsz r
def SL.loopP{α:Type}{x:ICode}{Q:X->Tr AV->Hp->Prop}(T:α->List (Nat×AV))(I:α->Hp->Prop)(μ:α->Nat)
  (step:∀a h,I a h->∀G:Tr AV->Hp->Prop,(∀a' t' h',μ a'<μ a->Has t' (T a')->I a' h'->G t' h')->V P n x (λe t h=>onX e (G t h) (λid=>Q (.exit id) t h) (Q .ret t h)) (mkT (T a)) h)
  (a0:α) {t:Tr AV} {h:Hp} (ht:Has t (T a0)) (h0:I a0 h):SL P n x Q t h:=by
 have main:∀m a t h,μ a<=m->Has t (T a)->I a h->SL P n x Q t h:=by
  intro m
  induction m with
  | zero =>
   intro a t h hm ht hi;refine SL.has _ ht (qco (step a h hi _ ?_));intro a' t' h' hlt _ _;omega
  | succ m ih =>
   intro a t h hm ht hi;refine SL.has _ ht (qco (step a h hi _ ?_));intro a' t' h' hlt ht' hi';exact ih a' t' h' (by omega) ht' hi'
 exact main _ a0 t h (zzL _) ht h0
end Go.Kc
end
section
namespace Go.Kc
variable {P:Program} {f:Nat}
structure Sy where
 code:Int
 k:Int
 th:Nat
 el:Nat
def cSy(s:Sy):List AV:=[.h s.code,.w s.k,.j (s.th:Int),.j (s.el:Int)]
def rSy(l:List Sy):List AV:=l.flatMap cSy
def qao{l:List Sy}:(rSy l).length=l.length*4:=by
 induction l with
 | nil=>rfl
 | cons s l ih=>simp only[rSy,List.flatMap_cons,zzP,List.length_cons]at ih ⊢;rw[ih];simp[cSy];omega
def qr3{l m:List Sy}:rSy l++rSy m=rSy (l++m):=by simp[rSy]
def qAm{s:Sy}:cSy s=rSy [s]:=by simp[rSy]
def Sy.raw(s:Sy):Sy:=⟨s.code,s.k,0,0⟩
def zb:IFn:=⟨[],.r [.n 4 0,.n 5 0,.q 6 (.nilChk (.t 5)),.f 7 0 6,.d 8 7,.n 9 1,.q 10 (.app 4 24 true (.t 8) (.t 9)),.q 11 (.nilChk (.t 4)),.f 12 0 11,.u (.store 1 (.t 12) (.t 10))]⟩
def qEm(hc:qc P f zb=true){w s fl bx bl m e:Nat}{tr:Tr Blk}{x:AV}{a:Bool}{ys:List AV}(y:Sy){k:AV->Hp->Prop}
  (hw:tr.get w=some (.v [.own bl m,x])) (hl:tr.get bl=some (.cells 4 true true ys)) (hy:ys.length=m*4) (hx:tr.get bx=some (.cells e true a (cSy y))) (hm:m<=1000000)
  (hwl:w≠bl) (hws:w<s) (hfw:fl<=w) (hfl:fl<=bl) (hxok:qcQ x=true/\ze x=true) (hk:k (.tup []) ⟨s+1,fl,((tr.set bl .dead).set s (.cells 4 true true (ys++cSy y))).set w (.v [.own s (m+1),x])⟩) :
  SC P f [.ptr w 0,.sl bx 0 1 1 false] ⟨s,fl,tr⟩ k:=by
 refine SC.mk hc (qk ?_);have hr1:m+1<=qi:=by simp only[qi];omega
 have hr2:(m+1)*24<=qi:=by simp only[qi];omega
 have hws':¬w=s:=by omega
 simp only[zb,vI,simprocAttr];simp +decide only[↓vS,vT,simprocAttr,hw,hl,hy,hx,cSy,hr1,hr2,hwl,hws',hfw,hfl];exact hk
def xF:IFn:=⟨[],.r [.n 4 1,.n 5 0,.q 6 (.nilChk (.t 5)),.f 7 0 6,.d 8 7,.e 9 8,.q 10 (.nilChk (.t 4)),.f 11 0 10,.u (.store 1 (.t 11) (.t 9))]⟩
def qzi(hc:qc P f xF=true){w s fl bl m b:Nat}{tr:Tr Blk}{x:AV}{old:AV}{k:AV->Hp->Prop}
  (hw:tr.get w=some (.v [.own bl m,x])) (hb:tr.get b=some (.v [old]))
  (hfb:fl<=b) (hk:k (.tup []) ⟨s,fl,tr.set b (.v [.j (m:Int)])⟩) :
  SC P f [.ptr w 0,.ptr b 0] ⟨s,fl,tr⟩ k:=by
 refine SC.mk hc (qk ?_);simp only[xF,vI,simprocAttr];simp +decide only[↓vS,vT,simprocAttr,hw,hb,hfb];exact hk
inductive Kd where
 | no|fr|w|l|t|box
 | lab (F:Nat) (p:Bool)
def kdS(κ:Nat->Kd)(b:Nat)(x:Kd):Nat->Kd:=λc=>if c=b then x else κ c
theorem qF{κ:Nat->Kd}{b:Nat}{x:Kd}:kdS κ b x b=x:=if_pos rfl
theorem qj{κ:Nat->Kd}{b c:Nat}{x:Kd}(h:c≠b):kdS κ b x c=κ c:=if_neg h
def Bx(κ:Nat->Kd)(tr:Tr Blk)(b:Nat)(v:AV):Prop:=κ b = .box/\tr.get b=some (.v [v])
def JOk(g w:Nat)(κ:Nat->Kd)(tr:Tr Blk)(RV:List Sy)(j:Nat)(c:AV):Prop :=
 ∃b5 b6 b8 b9 b10 X p o y,c = .fn g [] [.ptr b8 0,.ptr b5 0,.ptr b10 0,.ptr b6 0,.ptr b9 0]/\RV[j]?=some y/\Bx κ tr b5 (.ptr w 0)/\Bx κ tr b6 (.h y.code)/\Bx κ tr b8 (.ptr X 0)/\Bx κ tr b9 o/\Bx κ tr b10 (.j (j:Int)) /\
  κ X = .lab y.th p/\((y.code=5/\o = .nilp/\y.el=0)\/(y.code≠5/\∃Y p',o = .ptr Y 0/\κ Y = .lab y.el p'))
def qgu(g w:Nat)(κ:Nat->Kd)(tr:Tr Blk)(RV:List Sy):List Nat->List AV->Prop
 | [],[]=>True
 | j::js,c::cs=>JOk g w κ tr RV j c/\qgu g w κ tr RV js cs
 | _,_=>False
structure WI (g w:Nat) (κ:Nat->Kd) (s:Nat) (tr:Tr Blk) (RV:List Sy) (N:List Nat):Prop where
 dom:∀b,κ b≠.no->b<s
 rows:∃bl bt cs js,κ w = .w/\κ bl = .l/\κ bt = .t/\tr.get w=some (.v [.own bl RV.length,.own bt cs.length])/\tr.get bl=some (.cells 4 true true (rSy (RV.map Sy.raw)))/\tr.get bt=some (.cells 1 true true cs) /\
  qgu g w κ tr RV js cs/\cs.length+N.length<=RV.length/\∀(j:Nat) y,RV[j]?=some y->j ∉ js->j ∉ N->y.raw=y
 lab:∀b F p,κ b = .lab F p->∃x:Int,tr.get b=some (.v [.j x])/\(p=true->x=F)
structure Stp (L:List Nat) (κ:Nat->Kd) (s:Nat) (tr:Tr Blk) (κ':Nat->Kd) (s':Nat) (tr':Tr Blk):Prop where
 le:s<=s'
 fr:∀b,κ b = .fr->κ' b = .fr/\tr'.get b=tr.get b
 box:∀b,κ b = .box->κ' b = .box/\tr'.get b=tr.get b
 lab:∀b F p,κ b = .lab F p->κ' b = .lab F p
 nw:∀b F,κ' b = .lab F false->κ b = .lab F false\/b ∈ L
theorem Stp.refl{κ:Nat->Kd}{s:Nat}{tr:Tr Blk}:Stp [] κ s tr κ s tr:=⟨zzL _,by simp_all,(by simp_all),λ_ _ _ h=>h,λ_ _ h=>.inl h⟩
theorem Stp.trans{L M:List Nat}{κ κ1 κ2:Nat->Kd}{s s1 s2:Nat}{tr t1 t2:Tr Blk}(a:Stp L κ s tr κ1 s1 t1)(b:Stp M κ1 s1 t1 κ2 s2 t2):Stp (L++M) κ s tr κ2 s2 t2 :=
 ⟨Nat.le_trans a.le b.le,λx h=>⟨(b.fr x (a.fr x h).1).1,(b.fr x (a.fr x h).1).2.trans (a.fr x h).2⟩,λx h=>⟨(b.box x (a.box x h).1).1,(b.box x (a.box x h).1).2.trans (a.box x h).2⟩,λx F p h=>b.lab x F p (a.lab x F p h),
  λx F h=>by
   grind[Stp.nw]⟩
theorem JOk.mono{g w:Nat}{κ κ':Nat->Kd}{tr tr':Tr Blk}{RV RV':List Sy}{j:Nat}{c:AV}(h:JOk g w κ tr RV j c)(hb:∀b,κ b = .box->κ' b = .box/\tr'.get b=tr.get b)(hl:∀b F p,κ b = .lab F p->∃p',κ' b = .lab F p')
  (hr:∀(j:Nat) y,RV[j]?=some y->RV'[j]?=some y):JOk g w κ' tr' RV' j c:=by
 obtain⟨b5,b6,b8,b9,b10,X,p,o,y,h0,h1,h2,h3,h4,h5,h6,h7,h8⟩:=h;have bx:∀b v,Bx κ tr b v->Bx κ' tr' b v:=λb v q=>⟨(hb b q.1).1,(hb b q.1).2.trans q.2⟩
 obtain⟨p1,h7'⟩:=hl X _ p h7;refine⟨b5,b6,b8,b9,b10,X,p1,o,y,h0,hr _ _ h1,bx _ _ h2,bx _ _ h3,bx _ _ h4,bx _ _ h5,bx _ _ h6,h7',?_⟩;rcases h8 with h8|⟨h8,Y,p',h9,h10⟩
 .exact .inl h8
 .obtain⟨p2,h10'⟩:=hl Y _ p' h10;exact .inr ⟨h8,Y,p2,h9,h10'⟩
theorem qgu.mono{g w:Nat}{κ κ':Nat->Kd}{tr tr':Tr Blk}{RV RV':List Sy}(hb:∀b,κ b = .box->κ' b = .box/\tr'.get b=tr.get b)(hl:∀b F p,κ b = .lab F p->∃p',κ' b = .lab F p')
  (hr:∀(j:Nat) y,RV[j]?=some y->RV'[j]?=some y):∀{js:List Nat} {cs:List AV},qgu g w κ tr RV js cs->qgu g w κ' tr' RV' js cs
 | [],[],_=>trivial
 | _::_,_::_,h=>⟨h.1.mono hb hl hr,qgu.mono hb hl hr h.2⟩
 | [],_::_,h=>h.elim
 | _::_,[],h=>h.elim
def qgu.app{g w:Nat}{κ:Nat->Kd}{tr:Tr Blk}{RV:List Sy}{j:Nat}{c:AV}(hj:JOk g w κ tr RV j c):∀{js:List Nat} {cs:List AV},qgu g w κ tr RV js cs->qgu g w κ tr RV (js++[j]) (cs++[c])
 | [],[],_=>⟨hj,trivial⟩
 | _::_,_::_,h=>⟨h.1,qgu.app hj h.2⟩
 | [],_::_,h=>h.elim
 | _::_,[],h=>h.elim
section
variable {g w s:Nat} {κ:Nat->Kd} {tr:Tr Blk} {RV:List Sy} {N:List Nat}
def WI.fresh(h:WI g w κ s tr RV N):κ s = .no:=by
 cases hk:κ s with
 | no=>rfl
 | _=>exact absurd (h.dom s (by rw[hk];simp)) (Nat.lt_irrefl _)
def WI.new(h:WI g w κ s tr RV N)(kd:Kd)(x:Blk)(hk:kd = .no\/kd = .fr\/kd = .box\/∃F,kd = .lab F false/\x = .v [.j 0]):WI g w (kdS κ s kd) (s+1) (tr.set s x) RV N:=by
 have hs:=h.fresh;have ne:∀{b},κ b≠.no->b≠s:=by grind
 obtain⟨bl,bt,cs,js,r1,r2,r3,r4,r5,r6,r7,r8,r9⟩:=h.rows;refine⟨λb hb=>?_,⟨bl,bt,cs,js,?_,?_,?_,?_,?_,?_,r7.mono ?_ ?_ λ_ _ q=>q,r8,r9⟩,λb F p hb=>?_⟩
 .by_cases e:b=s
  .omega
  .rw[qj e]at hb;have:=h.dom b hb;omega
 .rw[qj (by simp_all)];exact r1
 .rw[qj (by simp_all)];exact r2
 .rw[qj (by simp_all)];exact r3
 .rw[Tr.get_set,if_neg (by simp_all)];exact r4
 .rw[Tr.get_set,if_neg (by simp_all)];exact r5
 .rw[Tr.get_set,if_neg (by simp_all)];exact r6
 .simp_all[qj,Tr.get_set]
 .simp_all[qj]
 .by_cases e:b=s
  .simp_all[qF,Tr.get_set]
  .rw[qj e]at hb;rw[Tr.get_set,if_neg e];exact h.lab b F p hb
def WI.stpLab(h:WI g w κ s tr RV N)(kd:Kd)(x:Blk):Stp [s] κ s tr (kdS κ s kd) (s+1) (tr.set s x):=by
 have hs:=h.fresh;have ne:∀{b},κ b≠.no->b≠s:=by grind
 refine⟨by omega,λb hb=>?_,λb hb=>?_,λb F p hb=>?_,λb F hb=>?_⟩
 all_goals grind[qj,Tr.get_set]
def WI.stpNew(h:WI g w κ s tr RV N)(kd:Kd)(x:Blk)(hk:∀F,kd≠.lab F false):Stp [] κ s tr (kdS κ s kd) (s+1) (tr.set s x):=by
 refine { h.stpLab kd x with nw:=λb F hb=>?_ }
 grind[qF,qj]
def WI.chg(h:WI g w κ s tr RV N){b:Nat}(kd:Kd)(x:Blk)(hb:κ b = .fr\/κ b = .no)(hbs:b<s)(hk:kd = .no\/kd = .fr\/kd = .box):WI g w (kdS κ b kd) s (tr.set b x) RV N:=by
 have ne:∀{c},κ c≠.no->κ c≠.fr->c≠b:=λh1 h2 e=>by simp_all
 obtain⟨bl,bt,cs,js,r1,r2,r3,r4,r5,r6,r7,r8,r9⟩:=h.rows;refine⟨λc hc=>?_,⟨bl,bt,cs,js,?_,?_,?_,?_,?_,?_,r7.mono ?_ ?_ λ_ _ q=>q,r8,r9⟩,λc F p hc=>?_⟩
 .by_cases e:c=b
  .omega
  .rw[qj e]at hc;exact h.dom c hc
 .rw[qj (by simp_all)];exact r1
 .rw[qj (by simp_all)];exact r2
 .rw[qj (by simp_all)];exact r3
 .rw[Tr.get_set,if_neg (by simp_all)];exact r4
 .rw[Tr.get_set,if_neg (by simp_all)];exact r5
 .rw[Tr.get_set,if_neg (by simp_all)];exact r6
 .simp_all[qj,Tr.get_set]
 .simp_all[qj]
 .by_cases e:c=b
  .simp_all[qF]
  .rw[qj e]at hc;rw[Tr.get_set,if_neg e];exact h.lab c F p hc
def qBw{bx e:Nat}{a:Bool}(hc:qc P f zb=true)(h:WI g w κ s tr RV N)(y:Sy)(hx:tr.get bx=some (.cells e true a (cSy y.raw)))(hm:RV.length<=1000000) :
  ∃κ' s' tr',Stp [] κ s tr κ' s' tr'/\WI g w κ' s' tr' (RV++[y]) (RV.length::N)/\∀k:AV->Hp->Prop,k (.tup []) ⟨s',0,tr'⟩->SC P f [.ptr w 0,.sl bx 0 1 1 false] ⟨s,0,tr⟩ k:=by
 obtain⟨bl,bt,cs,js,r1,r2,r3,r4,r5,r6,r7,r8,r9⟩:=h.rows;have hs:=h.fresh;have ne:∀{b c},κ b≠κ c->b≠c:=by grind
 have ns:∀{b},κ b≠.no->b≠s:=by simp_all
 have wl:w≠bl:=by simp_all
 have tl:bt≠bl:=by simp_all
 have tw:bt≠w:=by simp_all
 have sw:s≠w:=by simp_all
 have sl:s≠bl:=by simp_all
 have st:bt≠s:=by simp_all
 have ge:∀b,κ b≠.w->κ b≠.l->κ b≠.no->(((tr.set bl .dead).set s (.cells 4 true true (rSy (RV.map Sy.raw)++cSy y.raw))).set w (.v [.own s (RV.length+1),.own bt cs.length])).get b=tr.get b:=λb h1 h2 h3=>by
  rw[Tr.get_set,if_neg (by simp_all),Tr.get_set,if_neg (ns h3),Tr.get_set,if_neg (by simp_all)]
 have gk:∀b,κ b≠.l->κ b≠.no->kdS (kdS κ bl .no) s .l b=κ b:=λb h1 h2=>by
  rw[qj (ns h2),qj (by simp_all)]
 refine⟨kdS (kdS κ bl .no) s .l,s+1,((tr.set bl .dead).set s (.cells 4 true true (rSy (RV.map Sy.raw)++cSy y.raw))).set w (.v [.own s (RV.length+1),.own bt cs.length]),⟨by omega,λb hb=>?_,λb hb=>?_,λb F p hb=>?_,λb F hb=>.inl (by
  grind[qF,qj])⟩,⟨λb hb=>?_,⟨s,bt,cs,js,?_,?_,?_,?_,?_,?_,r7.mono ?_ ?_ ?_,?_,?_⟩,λb F p hb=>?_⟩,
  λk hk=>qEm hc y.raw r4 r5 (by rw[qao,List.length_map]) hx hm wl (h.dom w (by rw[r1];simp)) (Nat.zero_le _) (Nat.zero_le _) ⟨rfl,rfl⟩ hk⟩
 .simp_all
 .simp_all
 .rw[gk b (by rw[hb];simp) (by rw[hb];simp)];exact hb
 .by_cases e:b=s
  .omega
  .rw[qj e]at hb
   by_cases e2:b=bl
   .rw[e2,qF]at hb;simp_all
   .rw[qj e2]at hb;have:=h.dom b hb;omega
 .rw[gk w (by rw[r1];simp) (by rw[r1];simp)];exact r1
 .rw[qF]
 .rw[gk bt (by rw[r3];simp) (by rw[r3];simp)];exact r3
 .rw[Tr.get_set,if_pos rfl];simp
 .rw[Tr.get_set,if_neg sw,Tr.get_set,if_pos rfl];rw[qAm,qr3];simp
 .rw[ge bt (by rw[r3];simp) (by rw[r3];simp) (by rw[r3];simp)];exact r6
 .simp_all
 .simp_all
 .grind
 .grind
 .grind
 .by_cases e:b=s
  .rw[e,qF]at hb;cases hb
  .rw[qj e]at hb
   by_cases e2:b=bl
   .rw[e2,qF]at hb;cases hb
   .rw[qj e2]at hb;obtain⟨x,q1,q2⟩:=h.lab b F p hb
    simp_all
def qwZ{k:AV->Hp->Prop}{bx e:Nat}{a:Bool}(hc:qc P f zb=true)(h:WI g w κ s tr RV N)(y:Sy)(hx:tr.get bx=some (.cells e true a (cSy y.raw)))(hm:RV.length<=1000000)
  (hk:∀κ' s' tr',Stp [] κ s tr κ' s' tr'->WI g w κ' s' tr' (RV++[y]) (RV.length::N)->k (.tup []) ⟨s',0,tr'⟩):SC P f [.ptr w 0,.sl bx 0 1 1 false] ⟨s,0,tr⟩ k:=by
 obtain⟨κ',s',tr',q1,q2,q3⟩:=qBw hc h y hx hm;exact q3 k (by grind)
def WI.drop{n:Nat}(h:WI g w κ s tr RV (n::N))(hn:∀y,RV[n]?=some y->y.raw=y):WI g w κ s tr RV N:=by
 obtain⟨bl,bt,cs,js,r1,r2,r3,r4,r5,r6,r7,r8,r9⟩:=h.rows;refine⟨h.dom,⟨bl,bt,cs,js,r1,r2,r3,r4,r5,r6,r7,by simp at r8;omega,λj y hy hj hN=>?_⟩,h.lab⟩
 by_cases e:j=n
 .subst e;exact hn y hy
 .exact r9 j y hy hj λq=>by rcases List.mem_cons.1 q with q|q<;>contradiction
def WI.add{n bl bt m:Nat}{c:AV}{cs:List AV}(h:WI g w κ s tr RV (n::N))(hj:JOk g w κ tr RV n c)(hw:tr.get w=some (.v [.own bl RV.length,.own bt m]))(ht:tr.get bt=some (.cells 1 true true cs)) :
  WI g w (kdS (kdS κ bt .no) s .t) (s+1) (((tr.set bt .dead).set s (.cells 1 true true (cs++[c]))).set w (.v [.own bl RV.length,.own s (m+1)])) RV N /\
  Stp [] κ s tr (kdS (kdS κ bt .no) s .t) (s+1) (((tr.set bt .dead).set s (.cells 1 true true (cs++[c]))).set w (.v [.own bl RV.length,.own s (m+1)])):=by
 obtain⟨bl',bt',cs',js,r1,r2,r3,r4,r5,r6,r7,r8,r9⟩:=h.rows;rw[hw]at r4;cases r4;rw[ht]at r6;cases r6;have hs:=h.fresh;have ne:∀{b c},κ b≠κ c->b≠c:=by grind
 have ns:∀{b},κ b≠.no->b≠s:=by simp_all
 have sw:s≠w:=by simp_all
 have sb:s≠bt:=by simp_all
 have ge:∀b,κ b≠.w->κ b≠.t->κ b≠.no->(((tr.set bt .dead).set s (.cells 1 true true (cs++[c]))).set w (.v [.own bl RV.length,.own s (cs.length+1)])).get b=tr.get b:=λb h1 h2 h3=>by
  rw[Tr.get_set,if_neg (by simp_all),Tr.get_set,if_neg (ns h3),Tr.get_set,if_neg (by simp_all)]
 have gk:∀b,κ b≠.t->κ b≠.no->kdS (kdS κ bt .no) s .t b=κ b:=λb h1 h2=>by
  rw[qj (ns h2),qj (by simp_all)]
 have hB:∀b,κ b = .box->kdS (kdS κ bt .no) s .t b = .box/\(((tr.set bt .dead).set s (.cells 1 true true (cs++[c]))).set w (.v [.own bl RV.length,.own s (cs.length+1)])).get b=tr.get b:=λb hb =>
  by simp_all
 have hL:∀b F p,κ b = .lab F p->kdS (kdS κ bt .no) s .t b = .lab F p:=by simp_all
 refine⟨⟨λb hb=>?_,⟨bl,s,cs++[c],js++[n],?_,?_,?_,?_,?_,?_,?_,?_,?_⟩,λb F p hb=>?_⟩,⟨by omega,λb hb=>?_,hB,hL,λb F hb=>.inl (by
  by_cases e:b=s
  .rw[e,qF]at hb;cases hb
  .rw[qj e]at hb
   by_cases e2:b=bt
   .rw[e2,qF]at hb;cases hb
   .rw[qj e2]at hb;exact hb)⟩⟩
 .by_cases e:b=s
  .omega
  .rw[qj e]at hb
   by_cases e2:b=bt
   .rw[e2,qF]at hb;exact absurd rfl hb
   .rw[qj e2]at hb;have:=h.dom b hb;omega
 .rw[gk w (by rw[r1];simp) (by rw[r1];simp)];exact r1
 .rw[gk bl (by rw[r2];simp) (by rw[r2];simp)];exact r2
 .rw[qF]
 .rw[Tr.get_set,if_pos rfl];simp
 .rw[ge bl (by rw[r2];simp) (by rw[r2];simp) (by rw[r2];simp)];exact r5
 .rw[Tr.get_set,if_neg sw,Tr.get_set,if_pos rfl]
 .exact qgu.app (hj.mono hB (by simp_all) λ_ _ q=>q) (r7.mono hB (by simp_all) λ_ _ q=>q)
 .simp at r8 ⊢;omega
 .intro j y hy hj hN;exact by grind
 .by_cases e:b=s
  .rw[e,qF]at hb;cases hb
  .rw[qj e]at hb
   by_cases e2:b=bt
   .rw[e2,qF]at hb;cases hb
   .rw[qj e2]at hb;obtain⟨x,q1,q2⟩:=h.lab b F p hb;exact by simp_all
 simp_all
end
section
variable {g w s gp:Nat} {κ:Nat->Kd} {tr:Tr Blk} {RV:List Sy} {N:List Nat} {k:AV->Hp->Prop}
def WI.dropS{y:Sy}(h:WI g w κ s tr (RV++[y]) (RV.length::N))(hy:y.raw=y):WI g w κ s tr (RV++[y]) N:=h.drop λz hz=>by
 simp_all
def jx(a:Nat):IFn:=⟨[],.r [.n 4 0,.n 5 1,.q 6 (.build [.h 0,.w 0,.j 0,.j 0] [(0,1,(.c (.h 32))),(1,1,(.t 5))]),.q 7 (.buildS 1 [.h 0,.w 0,.j 0,.j 0] [(0,4,(.t 6))]),.l 8 a [.t 4,.t 7]]⟩
def qlO(hc:qc P f (jx gp)=true)(hp:qc P gp zb=true)(h:WI g w κ s tr RV N)(a:Int)(hm:RV.length<=1000000)
  (hk:∀κ' s' tr',Stp [] κ s tr κ' s' tr'->WI g w κ' s' tr' (RV++[⟨32,a,0,0⟩]) N->k (.tup []) ⟨s',0,tr'⟩):SC P f [.ptr w 0,.w a] ⟨s,0,tr⟩ k:=by
 refine SC.mk hc (qk ?_);simp only[jx,vI,simprocAttr];simp +decide only[↓vS,vT,simprocAttr];refine qwZ hp (h.new .no _ (.inl rfl)) ⟨32,a,0,0⟩ (by rw[Tr.get_set,if_pos rfl];rfl) hm ?_;intro κ' s' tr' st hw;simp +decide only[↓vS,vT,simprocAttr];exact hk _ _ _ ((h.stpNew .no _ (by simp)).trans st) (hw.dropS rfl)
def qa8(a:Nat):IFn:=⟨[],.r [.n 4 0,.n 5 1,.q 6 (.build [.h 0,.w 0,.j 0,.j 0] [(0,1,(.c (.h 6))),(1,1,(.t 5))]),.q 7 (.buildS 1 [.h 0,.w 0,.j 0,.j 0] [(0,4,(.t 6))]),.l 8 a [.t 4,.t 7]]⟩
def qnf(hc:qc P f (qa8 gp)=true)(hp:qc P gp zb=true)(h:WI g w κ s tr RV N)(a:Int)(hm:RV.length<=1000000)
  (hk:∀κ' s' tr',Stp [] κ s tr κ' s' tr'->WI g w κ' s' tr' (RV++[⟨6,a,0,0⟩]) N->k (.tup []) ⟨s',0,tr'⟩):SC P f [.ptr w 0,.w a] ⟨s,0,tr⟩ k:=by
 refine SC.mk hc (qk ?_);simp only[qa8,vI,simprocAttr];simp +decide only[↓vS,vT,simprocAttr];refine qwZ hp (h.new .no _ (.inl rfl)) ⟨6,a,0,0⟩ (by rw[Tr.get_set,if_pos rfl];rfl) hm ?_;intro κ' s' tr' st hw;simp +decide only[↓vS,vT,simprocAttr];exact hk _ _ _ ((h.stpNew .no _ (by simp)).trans st) (hw.dropS rfl)
def qaT(hc:qc P f xF=true)(h:WI g w κ s tr RV N){b:Nat}{p:Bool}(hb:κ b = .lab RV.length p)
  (hk:∀tr',(∀c,κ c = .fr->tr'.get c=tr.get c)->(∀c,κ c = .box->tr'.get c=tr.get c)->WI g w (kdS κ b (.lab RV.length true)) s tr' RV N->k (.tup []) ⟨s,0,tr'⟩):SC P f [.ptr w 0,.ptr b 0] ⟨s,0,tr⟩ k:=by
 obtain⟨bl,bt,cs,js,r1,r2,r3,r4,r5,r6,r7,r8,r9⟩:=h.rows;obtain⟨x,q1,q2⟩:=h.lab _ _ _ hb;have ne:∀{b c},κ b≠κ c->b≠c:=by grind
 have nb:∀{c},(∀F p,κ c≠.lab F p)->c≠b:=by grind
 refine qzi hc r4 q1 (Nat.zero_le _) (hk _ (λc hc=>?_) (λc hc=>?_) ⟨λc hc=>?_,⟨bl,bt,cs,js,?_,?_,?_,?_,?_,?_,r7.mono ?_ ?_ λ_ _ q=>q,r8,r9⟩,λc F p hc=>?_⟩)
 .rw[Tr.get_set,if_neg (by simp_all)]
 .rw[Tr.get_set,if_neg (by simp_all)]
 .by_cases e:c=b
  .rw[e];exact h.dom b (by rw[hb];simp)
  .rw[qj e]at hc;exact h.dom c hc
 .rw[qj (by simp_all)];exact r1
 .rw[qj (by simp_all)];exact r2
 .rw[qj (by simp_all)];exact r3
 .rw[Tr.get_set,if_neg (by simp_all)];exact r4
 .rw[Tr.get_set,if_neg (by simp_all)];exact r5
 .rw[Tr.get_set,if_neg (by simp_all)];exact r6
 .simp_all[qj,Tr.get_set]
 .grind[qF,qj]
 .by_cases e:c=b
  .rw[e,qF]at hc;simp_all[Tr.get_set]
  .rw[qj e]at hc;rw[Tr.get_set,if_neg e];exact h.lab c F p hc
def xG(a b:Nat):IFn:=⟨[],sq [.r [.q 5 (.box (.t 0)),.q 6 (.box (.t 1)),.q 8 (.box (.t 3)),.q 9 (.box (.t 4))],.r [.d 11 5,.q 12 (.nilChk (.t 11)),.f 13 0 12,.d 14 13,.e 15 14,.q 10 (.alloc [.j 0]),.u (.store 1 (.t 10) (.t 15))],.r [.d 16 5,.d 17 6,.n 18 2,.q 19 (.build [.h 0,.w 0,.j 0,.j 0] [(0,1,(.t 17)),(1,1,(.t 18))]),.q 20 (.buildS 1 [.h 0,.w 0,.j 0,.j 0] [(0,4,(.t 19))]),.l 21 a [.t 16,.t 20]],.reg true [.d 22 5,.d 23 5,.q 24 (.nilChk (.t 23)),.f 25 1 24,.d 26 25,.q 27 (.mkF b [] [.t 8,.t 5,.t 10,.t 6,.t 9]),.q 28 (.buildS 1 [.nilf] [(0,1,(.t 27))]),.q 29 (.appD 1 8 (.t 26) (.t 28) [5]),.q 30 (.nilChk (.t 22)),.f 31 1 30,.u (.store 1 (.t 31) (.t 29))]]⟩
def qv3(hc:qc P f (xG gp g)=true)(hp:qc P gp zb=true)(h:WI g w κ s tr RV N)(y:Sy){X:Nat}{p:Bool}{o:AV}(hX:κ X = .lab y.th p)
  (ho:(y.code=5/\o = .nilp/\y.el=0)\/(y.code≠5/\∃Y p',o = .ptr Y 0/\κ Y = .lab y.el p')) (hm:RV.length<=1000000) :
  ∃κ' s' tr',Stp [] κ s tr κ' s' tr'/\WI g w κ' s' tr' (RV++[y]) N/\∀k:AV->Hp->Prop,k (.tup []) ⟨s',0,tr'⟩->SC P f [.ptr w 0,.h y.code,.w y.k,.ptr X 0,o] ⟨s,0,tr⟩ k:=by
 obtain⟨bl,bt,cs,js,r1,r2,r3,r4,r5,r6,r7,r8,r9⟩:=h.rows;have hs:=h.fresh;have ws:w<s:=h.dom w (by rw[r1];simp)
 have hod:qcQ o=true/\cellsOf o=[o]/\ze o=true:=by
  rcases ho with⟨_,rfl,_⟩|⟨_,Y,_,rfl,_⟩<;>exact⟨rfl,rfl,rfl⟩
 obtain⟨o1,o2,o3⟩:=hod;have w0:¬w=s:=by omega
 have w1:¬w=s+1:=by omega
 have w2:¬w=s+1+1:=by omega
 have w3:¬w=s+1+1+1:=by omega
 have w4:¬w=s+1+1+1+1:=by omega
 have s1:¬s=s+1:=by omega
 have s2:¬s=s+1+1:=by omega
 have s3:¬s=s+1+1+1:=by omega
 have s4:¬s=s+1+1+1+1:=by omega
 have s0:¬s=s+1+1+1+1+1:=by omega
 have s5:¬s+1=s+1+1:=by omega
 have s6:¬s+1=s+1+1+1:=by omega
 have s7:¬s+1=s+1+1+1+1:=by omega
 have h1:=h.new .box (.v [.ptr w 0]) (by simp_all);have h2:=h1.new .box (.v [.h y.code]) (by simp_all);have h3:=h2.new .box (.v [.ptr X 0]) (by simp_all);have h4:=h3.new .box (.v [o]) (by simp_all);have h5:=h4.new .no (.v [.j 0]) (.inl rfl);have h6:=h5.chg (b:=s+1+1+1+1) .box (.v [.j (RV.length:Int)]) (.inr qF) (by omega) (.inr (.inr rfl));have h7:=h6.new .no (.v [.h y.code,.w y.k,.j 0,.j 0]) (.inl rfl);obtain⟨κ',s',tr',st',hw,hput⟩:=qBw hp h7 y (by rw[Tr.get_set,if_pos rfl];rfl) hm;have d0:∀{b},b<s'->¬b=s':=λh e=>by omega
 obtain⟨bl',bt',cs',js',q1,q2,q3,q4,q5,q6,q7,q8,q9⟩:=hw.rows;have ne:∀{b c},κ' b≠κ' c->b≠c:=by grind
 have nn:∀a:Nat,¬s=s+a+1:=λa h=>by omega
 have ke:∀c:Nat,c<5->kdS (kdS (kdS (kdS (kdS (kdS (kdS κ s .box) (s+1) .box) (s+1+1) .box) (s+1+1+1) .box) (s+1+1+1+1) .no) (s+1+1+1+1) .box) (s+1+1+1+1+1) .no (s+c) = .box:=by
  intro c hc;simp only[kdS];have:c=0\/c=1\/c=2\/c=3\/c=4:=by omega
  rcases this with rfl|rfl|rfl|rfl|rfl<;>simp[s0,s1,s2,s3,s4]
 have b0:=st'.box (s+0) (ke 0 (by omega));have b1:=st'.box (s+1) (ke 1 (by omega));have b2:=st'.box (s+2) (ke 2 (by omega));have b3:=st'.box (s+3) (ke 3 (by omega));have b4:=st'.box (s+4) (ke 4 (by omega));have g0:tr'.get s=some (.v [.ptr w 0]):=by rw[show s=s+0 from rfl,b0.2];simp[Tr.get_set,s0,s1,s2,s3,s4]
 have g1:tr'.get (s+1)=some (.v [.h y.code]):=by rw[b1.2];simp[Tr.get_set]
 have g2:tr'.get (s+2)=some (.v [.ptr X 0]):=by rw[b2.2];simp[Tr.get_set]
 have g3:tr'.get (s+3)=some (.v [o]):=by rw[b3.2];simp[Tr.get_set]
 have g4:tr'.get (s+4)=some (.v [.j (RV.length:Int)]):=by rw[b4.2];simp[Tr.get_set]
 have ws':w<s':=hw.dom w (by rw[q1];simp);have bs':bt'<s':=hw.dom bt' (by rw[q3];simp);have le':s+6<=s':=st'.le;have l0:¬s=s':=by omega
 have l1:¬w=s':=by omega
 have l2:¬bt'=s':=by omega
 have l3:¬w=s'+1:=by omega
 have l4:¬w=bt':=by grind
 have l5:¬s=s'+1:=by omega
 have l6:¬s=bt':=by grind
 have hr1:cs'.length+1<=qi:=by simp only[qi];grind
 have hr2:(cs'.length+1)*8<=qi:=by simp only[qi];grind
 have hw1:=hw.new .no (.v [.fn g [] [.ptr (s+1+1) 0,.ptr s 0,.ptr (s+1+1+1+1) 0,.ptr (s+1) 0,.ptr (s+1+1+1) 0]]) (.inl rfl)
 have bx:∀c v,c<5->κ' (s+c) = .box->tr'.get (s+c)=some (.v [v])->Bx (kdS κ' s' .no) (tr'.set s' (.v [.fn g [] [.ptr (s+1+1) 0,.ptr s 0,.ptr (s+1+1+1+1) 0,.ptr (s+1) 0,.ptr (s+1+1+1) 0]])) (s+c) v:=λc v hc e1 e2=>by
  have:s+c≠s':=by omega
  exact⟨by rw[qj this];exact e1,by rw[Tr.get_set,if_neg this];exact e2⟩
 have lk:∀b F p,κ b = .lab F p->kdS κ' s' .no b = .lab F p:=λb F p hb=>by
  have hbs:b<s:=h.dom b (by rw[hb];simp);rw[qj (by omega)];refine st'.lab b F p ?_;simp only[kdS];rw[if_neg (by omega),if_neg (by omega),if_neg (by omega),if_neg (by omega),if_neg (by omega),if_neg (by omega),if_neg (by omega)];exact hb
 have hj:JOk g w (kdS κ' s' .no) (tr'.set s' (.v [.fn g [] [.ptr (s+1+1) 0,.ptr s 0,.ptr (s+1+1+1+1) 0,.ptr (s+1) 0,.ptr (s+1+1+1) 0]])) (RV++[y]) RV.length (.fn g [] [.ptr (s+1+1) 0,.ptr s 0,.ptr (s+1+1+1+1) 0,.ptr (s+1) 0,.ptr (s+1+1+1) 0]):=by
  refine⟨s+0,s+1,s+2,s+3,s+4,X,p,o,y,rfl,by simp,bx 0 _ (by omega) b0.1 g0,by grind,by grind,by grind,by grind,lk _ _ _ hX,?_⟩
  rcases ho with ho|⟨h1,Y,p',h2,h3⟩
  all_goals grind
 obtain⟨e1,e2⟩:=hw1.add hj (by rw[Tr.get_set,if_neg l1];exact q4) (by rw[Tr.get_set,if_neg l2];exact q6);refine⟨_,_,_,?_,e1,λk hk=>?_⟩
 rotate_left
 .refine SC.mk hc (qk ?_);simp only[xG,vI,simprocAttr];simp +decide only[↓vS,vT,simprocAttr,o1,o2,o3,r4,w0,w1,w2,w3,w4,s1,s2,s3,s4,s5,s6,s7];refine hput _ ?_;simp +decide only[↓vS,vT,simprocAttr];refine zB ?_;simp +decide only[↓vS,vT,simprocAttr,g0,q4,q6,l0,l1,l2,l3,l4,l5,l6,ws',bs',hr1,hr2,zzU];exact hk
 refine Stp.trans (L:=[]) ?_ (st'.trans ((hw.stpNew .no _ (by simp)).trans e2));refine⟨by omega,λb hb=>?_,λb hb=>?_,λb F p hb=>?_,λb F hb=>.inl ?_⟩
 rotate_left 3
 .simp only[kdS]at hb
  repeat' split at hb
  all_goals first|(cases hb;done)|exact hb
 all_goals have hbs:b<s:=h.dom b (by rw[hb];simp)
 .simp only[kdS,Tr.get_set]
  iterate 7 rw[if_neg (by omega)]
  iterate 7 rw[if_neg (by omega)]
  grind
 .simp only[kdS,Tr.get_set]
  iterate 7 rw[if_neg (by omega)]
  iterate 7 rw[if_neg (by omega)]
  grind
 .simp only[kdS]
  iterate 7 rw[if_neg (by omega)]
  exact hb
def qeS(hc:qc P f (xG gp g)=true)(hp:qc P gp zb=true)(h:WI g w κ s tr RV N)(y:Sy){X:Nat}{p:Bool}{o:AV}(hX:κ X = .lab y.th p)
  (ho:(y.code=5/\o = .nilp/\y.el=0)\/(y.code≠5/\∃Y p',o = .ptr Y 0/\κ Y = .lab y.el p')) (hm:RV.length<=1000000)
  (hk:∀κ' s' tr',Stp [] κ s tr κ' s' tr'->WI g w κ' s' tr' (RV++[y]) N->k (.tup []) ⟨s',0,tr'⟩):SC P f [.ptr w 0,.h y.code,.w y.k,.ptr X 0,o] ⟨s,0,tr⟩ k:=by
 obtain⟨κ',s',tr',q1,q2,q3⟩:=qv3 hc hp h y hX ho hm;exact q3 k (by grind)
end
end Go.Kc
end
