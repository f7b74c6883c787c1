/- Part 7 of the abstract machine and of the functions' walks. Conditions: with each theorem. -/
import Derived.Test.YtgaodkfneooonaaGreatBK6
import Derived.Lib.ItoaLen
set_option maxHeartbeats 4000000
set_option linter.unusedSectionVars false
set_option linter.unusedSimpArgs false
set_option linter.unusedVariables false
set_option linter.unnecessarySimpa false
section
namespace Go.Kc
variable {P:Program} {f:Nat}
structure GData where
 nr:Int
 arch:Int
 ip:Int
 a0:Int
 a1:Int
 a2:Int
 a3:Int
 a4:Int
 a5:Int
def qw(d:GData):List AV:=[.i .u32 d.nr,.i .u32 d.arch,.i .u64 d.ip,.i .u64 d.a0,.i .u64 d.a1,.i .u64 d.a2,.i .u64 d.a3,.i .u64 d.a4,.i .u64 d.a5]
def qkw(d:GData)(k:Int):Int:=if k=0 then d.a0 else if k=1 then d.a1 else if k=2 then d.a2 else if k=3 then d.a3 else if k=4 then d.a4 else d.a5
def qnM(p:GRule->Bool)(l:List GRule):AV:=match l.find? p with|some r=>.tup [.agg (qM r),.b true]|none=>.tup [.agg [.i .u32 0,.nils,.i .u32 0],.b false]
def qb3(a:Nat):IFn:=⟨[.cell 4 3 true,.tmp 5],.seq (.r [.q 4 (.alloc [.i .u32 0,.nils,.i .u32 0]),.m 5 .F]) (.seq (.seq (.r [.n 8 0,.n 9 1,.l 10 a [.t 8,.t 9],.n 6 10]) (.seq (.r [.n 11 6,.w 12 .geq 11 0]) (.cond (.t 12) (.seq (.r [.n 13 0,.n 14 6,.i 15 3 13 14,.v 16 3 15,.u (.store 3 (.t 4) (.t 16)),.m 5 .T]) (.ret)) (.skip)))) (.seq (.r [.q 7 (.alloc [.i .u32 0,.nils,.i .u32 0])]) (.seq (.r [.v 17 3 7,.u (.store 3 (.t 4) (.t 17)),.m 5 .F]) (.ret))))⟩
theorem qzc{g:Nat}(hc:qc P f (qb3 g)=true)(h2:qgH 3 P g)(l:List GRule)(k:Nat)(a c:List AV)(p:GRule->Bool)(ha:qu a=true)(hcc:qu c=true)(hk:∀t ∈ l,qd P k (a++([.agg (qM t)]++c)) (.b (p t)))(hl:l.length<=100000):qd P f [.fz l.length (rR l),.fn k a c] (qnM p l):=by
 refine qd.mk hc (by simp[qu,clo,zS,ha,hcc]) ?_;simp only[qb3,vI,simprocAttr];simp only[↓vS,vT,simprocAttr];refine (h2 qM p k a c l qaA ha hcc (by simp only[qg];omega) hk).sc ?_;rcases qic p l 0 with⟨e1,e2⟩|⟨i,x,e1,e2,e3,e4,e5⟩
 ·rw[e1];simp only[↓vS,vT,simprocAttr];simp[vZ,qnM,e2]
 ·have hi:i<l.length:=(zzS.1 e2).1;have hn:(0:Int)<=(i:Int):=by omega
  have he:=qjj e2;have hb:=qnn hi;rw[e1,Nat.zero_add];simp only[↓vS,vT,simprocAttr,hn,hi,he,hb,qM];simp[vZ,qnM,e4,qM,zp jv]
def qhr:IFn:=⟨[.tmp 3],.seq (.r [.q 2 (.box (.t 0)),.m 3 .F]) (.seq (.r [.f 4 1 2,.d 5 4,.d 6 1,.b 7 .eql 5 6,.n 3 7]) (.ret))⟩
theorem qFu(hc:qc P f qhr=true)(t:Int)(x:List UInt8×Int):qd P f [.agg (qg2 .u32 x),.pf [.i .u32 t] 0] (.b (decide (x.2=t))):=by
 refine qd.mk hc (by simp[qu,clo,qg2]) ?_;simp only[qhr,qg2,vI,simprocAttr];simp only[↓vS,vT,simprocAttr,vZ]
def ofM(t n:Int):Int×Bool :=
 if xy (fun x=>decide (x.2=t)) qZ 0<0 then (0,false)
 else if xy (fun x=>decide (x.2=t)) qZ 0=0∧xT .u32 n 1073741824≠0 then (2,true)
 else (xy (fun x=>decide (x.2=t)) qZ 0,true)
def qjI(a b:Nat):IFn:=⟨[.tmp 4,.tmp 5],.seq (.r [.q 2 (.box (.t 0)),.m 4 (.k 0),.m 5 .F]) (.seq (.r [.q 7 (.mkF a [] [.t 2]),.l 8 b [.t 7],.n 6 8]) (.seq (.blk 0 (.seq (.r [.n 10 6,.w 11 .lss 10 0,.n 9 11]) (.cond (.t 9) (.seq (.r [.m 4 (.k 0),.m 5 .F]) (.ret)) (.seq (.r [.n 13 6,.w 14 .eql 13 0,.n 15 14,.y 16 1 15,.g 17 (.bin .and (.t 16) (.c (.i .u32 1073741824))) 15 true,.g 18 (.bin .neq (.t 17) (.c (.i .u32 0))) 15 true,.p 19 15 18,.n 12 19]) (.cond (.t 12) (.seq (.r [.m 4 (.k 2),.m 5 .T]) (.ret)) (.skip)))))) (.seq (.r [.n 20 6,.n 4 20,.m 5 .T]) (.ret))))⟩
theorem qD1{g1 g2:Nat}(hc:qc P f (qjI g1 g2)=true)(h1:∀t x,qd P g1 [.agg (qg2 .u32 x),.pf [.i .u32 t] 0] (.b (decide (x.2=t))))(h2:qkJ P g2)(t n:Int):qd P f [.i .u32 t,.i .u32 n] (.tup [.i .i64 (ofM t n).1,.b (ofM t n).2]):=by
 refine qd.mk hc (by simp[qu,clo]) ?_;simp only[qjI,vI,simprocAttr];simp only[↓vS,vT,simprocAttr];refine (h2 (fun x=>decide (x.2=t)) g1 [] [.pf [.i .u32 t] 0] rfl rfl (fun x _=>h1 t x)).lend (vs':=[.fn g1 [] [.pf [.i .u32 t] 0]]) ?_ rfl ?_
 ·simp[vZ,vP,Tr.get_set]
 unfold ofM;generalize xy (fun x:List UInt8×Int=>decide (x.2=t)) qZ 0=i
 by_cases h0:i<0
 ·simp only[↓vS,vT,simprocAttr,h0,if_true];simp[vZ]
 by_cases h1':i=0
 ·by_cases h2':xT .u32 n 1073741824=0
  ·simp +decide only[↓vS,vT,simprocAttr,h0,h1',h2'];simp[vZ]
  ·simp +decide only[↓vS,vT,simprocAttr,h0,h1',h2'];simp[vZ,h2']
 ·simp +decide only[↓vS,vT,simprocAttr,h0,h1'];simp[vZ]
def qcB(a:Int):Int:=(qZ.getD a.toNat ([],0)).2
def qgg(a:Nat):IFn:=⟨[.tmp 2,.tmp 3],.seq (.r [.m 2 (.c (.i .u32 0)),.m 3 (.k 0)]) (.seq (.seq (.r [.n 4 0,.w 5 .lss 4 0,.n 6 5,.z 7 0 6,.g 8 (.bin .geq (.t 7) (.k 6)) 6 false,.o 9 6 8]) (.cond (.t 9) (.seq (.r [.m 2 (.c (.i .u32 0)),.m 3 (.k 80)]) (.ret)) (.skip))) (.seq (.r [.l 10 a [],.n 11 0,.q 12 (.idxA 6 2 true (.t 10) (.t 11)),.q 13 (.fld 1 none (.t 12)),.n 2 13,.m 3 (.k 0)]) (.ret)))⟩
theorem qBa{g:Nat}(hc:qc P f (qgg g)=true)(hg:qd P g [] (.agg (qZ.flatMap (qg2 .u32))))(a:Int)(h0:0<=a)(h6:a<6):qd P f [.i .i64 a] (.tup [.i .u32 (qcB a),.i .i64 0]):=by
 refine qd.mk hc rfl ?_;simp only[qgg,vI,simprocAttr];have n1:¬a<0:=by omega
 have n2:¬6<=a:=by omega
 simp only[↓vS,vT,simprocAttr,n1,n2];refine hg.sc ?_;have h3:a=0∨a=1∨a=2∨a=3∨a=4∨a=5:=by omega
 rcases h3 with rfl|rfl|rfl|rfl|rfl|rfl <;>
 ·simp only[↓vS,vT,simprocAttr,qZ,qg2,List.flatMap_cons,List.flatMap_nil];simp[vZ,qcB,qZ]
def xq(t:GTest)(d:GData):Bool:=decide (0<=t.arg)&&decide (t.arg<6)&&decide (xT .u64 (qkw d t.arg) t.mask=t.val)
def qiB:IFn:=⟨[.tmp 4],.seq (.r [.q 2 (.box (.t 0)),.q 3 (.box (.t 1)),.m 4 .F]) (.seq (.reg true [.f 5 0 2,.d 6 5,.w 7 .geq 6 0,.n 8 7,.h 9 0 2 8 true,.j 10 9 8 true,.g 11 (.bin .lss (.t 10) (.k 6)) 8 true,.p 12 8 11,.n 13 12,.h 14 0 2 13 true,.j 15 14 13 true,.h 16 3 3 13 true,.g 17 (.iAddrA 6 1 (.t 16) (.t 15)) 13 true,.j 18 17 13 true,.h 19 1 2 13 true,.j 20 19 13 true,.g 21 (.bin .and (.t 18) (.t 20)) 13 true,.h 22 2 2 13 true,.j 23 22 13 true,.g 24 (.bin .eql (.t 21) (.t 23)) 13 true,.p 25 13 24,.n 4 25]) (.ret))⟩
theorem qzp(hc:qc P f qiB=true)(t:GTest)(d:GData):qd P f [.agg (zQ t),.agg (qw d)] (.b (xq t d)):=by
 refine qd.mk hc rfl ?_;simp only[qiB,zQ,qw,vI,simprocAttr]
 by_cases h0:0<=t.arg
 ·by_cases h6:t.arg<6
  ·have h3:t.arg=0∨t.arg=1∨t.arg=2∨t.arg=3∨t.arg=4∨t.arg=5:=by omega
   rcases h3 with e|e|e|e|e|e <;>
   ·simp +decide only[↓vS,vT,simprocAttr,e];refine zD ?_;simp +decide only[↓vS,vT,simprocAttr,e];simp[vZ,xq,qkw,e]
  ·simp only[↓vS,vT,simprocAttr,h0,h6];refine zD ?_;simp only[↓vS,vT,simprocAttr,h0,h6];simp[vZ,xq,h6]
 ·simp only[↓vS,vT,simprocAttr,h0];refine zD ?_;simp only[↓vS,vT,simprocAttr,h0];simp[vZ,xq,h0]
def qft:IFn:=⟨[.tmp 3],.seq (.r [.q 2 (.box (.t 0)),.m 3 .F]) (.seq (.r [.f 4 0 2,.d 5 4,.f 6 0 1,.d 7 6,.b 8 .eql 5 7,.n 3 8]) (.ret))⟩
theorem qCI(hc:qc P f qft=true)(d:GData)(r:GRule):qd P f [.agg (qM r),.pf (qw d) 0] (.b (decide (r.nr=d.nr))):=by
 refine qd.mk hc (by simp[qu,clo,qM,qw]) ?_;simp only[qft,qM,qw,vI,simprocAttr];simp only[↓vS,vT,simprocAttr,vZ]
def qfu(a:Nat):IFn:=⟨[.tmp 3],.seq (.r [.q 2 (.box (.t 0)),.m 3 .F]) (.seq (.r [.v 4 4 2,.v 5 9 1,.l 6 a [.t 4,.t 5],.n 3 6]) (.ret))⟩
theorem qCJ{g:Nat}(hc:qc P f (qfu g)=true)(hg:∀t d,qd P g [.agg (zQ t),.agg (qw d)] (.b (xq t d)))(d:GData)(t:GTest):qd P f [.agg (zQ t),.pf (qw d) 0] (.b (xq t d)):=by
 refine qd.mk hc (by simp[qu,clo,zQ,qw]) ?_;have:=hg t d;simp only[qfu,zQ,qw,vI,simprocAttr] at this ⊢;simp +decide only[↓vS,vT,simprocAttr];refine this.sc ?_;simp only[↓vS,vT,simprocAttr,vZ]
def qfj(x:GFil)(d:GData):Int :=
 if (ofM d.arch d.nr).2=false∨(ofM d.arch d.nr).1≠x.arch then 2147418112
 else match x.rules.find? (fun r=>decide (r.nr=d.nr)) with
  | none=>x.dflt
  | some r=>match r.tests.find? (fun t=>xq t d) with
   | some t=>t.act
   | none=>r.act
def qcj(a b c d e:Nat):ICode:=.seq (.r [.f 28 1 2,.d 29 28,.q 30 (.mkF b [] [.t 3]),.l 31 c [.t 29,.t 30],.n 27 31,.x 32 27 0,.x 33 27 1,.q 7 (.alloc [.i .u32 0,.nils,.i .u32 0]),.u (.store 3 (.t 7) (.t 32)),.n 8 33]) (.seq (.seq (.r [.n 34 8,.q 35 (.un .not (.t 34))]) (.cond (.t 35) (.seq (.r [.f 36 2 2,.d 37 36,.n 4 37]) (.ret)) (.skip))) (.seq (.seq (.r [.f 39 1 7,.d 40 39,.q 41 (.mkF d [] [.t 3]),.l 42 e [.t 40,.t 41],.n 38 42,.x 43 38 0,.x 44 38 1,.q 9 (.alloc [.i .i64 0,.i .u64 0,.i .u64 0,.i .u32 0]),.u (.store 4 (.t 9) (.t 43)),.n 10 44]) (.seq (.r [.n 45 10]) (.cond (.t 45) (.seq (.r [.f 46 3 9,.d 47 46,.n 4 47]) (.ret)) (.skip)))) (.seq (.r [.f 48 2 7,.d 49 48,.n 4 49]) (.ret))))
def qhA(a b c d e:Nat):IFn:=⟨[.tmp 4],.seq (.r [.q 2 (.box (.t 0)),.q 3 (.box (.t 1)),.m 4 (.c (.i .u32 0))]) (.seq (.seq (.r [.f 12 1 3,.d 13 12,.f 14 0 3,.d 15 14,.l 16 a [.t 13,.t 15],.n 11 16,.x 17 11 0,.x 18 11 1,.n 5 17,.n 6 18]) (.seq (.r [.n 19 6,.q 20 (.un .not (.t 19)),.n 21 20,.z 22 5 21,.h 23 0 2 21 false,.j 24 23 21 false,.g 25 (.bin .neq (.t 22) (.t 24)) 21 false,.o 26 21 25]) (.cond (.t 26) (.seq (.r [.m 4 (.c (.i .u32 2147418112))]) (.ret)) (.skip)))) (.cut (qcj a b c d e)))⟩
section
variable {g1 g2 g3 g4 g5:Nat}
theorem qp0(h2:∀d r,qd P g2 [.agg (qM r),.pf (qw d) 0] (.b (decide (r.nr=d.nr))))
  (h3:∀(l:List GRule) (k:Nat) (a c:List AV) (p:GRule->Bool),qu a=true->qu c=true->(∀t ∈ l,qd P k (a++([.agg (qM t)]++c)) (.b (p t)))->l.length<=100000->qd P g3 [.fz l.length (rR l),.fn k a c] (qnM p l))
  (h4:∀d t,qd P g4 [.agg (zQ t),.pf (qw d) 0] (.b (xq t d)))
  (h5:∀(l:List GTest) (k:Nat) (a c:List AV) (p:GTest->Bool),qu a=true->qu c=true->(∀t ∈ l,qd P k (a++([.agg (zQ t)]++c)) (.b (p t)))->l.length<=100000->qd P g5 [.fz l.length (rT l),.fn k a c] (qln p l))
  (x:GFil) (d:GData) (hr:x.rules.length<=100000) (ht:∀r ∈ x.rules,r.tests.length<=100000) {t':Tr AV} {h':Hp} (hw:Wk 0 t' h' (mkT [(2,.ptr 0 0),(3,.pf (qw d) 0)]) (mkH 0 [.cells 0 true false (qS x)])) :
  S P 0 (qcj g1 g2 g3 g4 g5) (qac [.tmp 4] fun v' h'=>Frz h' v' (.i .u32 (match x.rules.find? (fun r=>decide (r.nr=d.nr)) with
   | none=>x.dflt
   | some r=>match r.tests.find? (fun t=>xq t d) with
    | some t=>t.act
    | none=>r.act))) t' h':=by
 refine S.weak hw (qj ?_);have hcd:qu [AV.pf (qw d) 0]=true:=by simp[qu,clo,qw]
 have a3:=h3 x.rules g2 [] [.pf (qw d) 0] (fun r=>decide (r.nr=d.nr)) rfl hcd (fun r _=>h2 d r) hr
 simp only[qcj,qS,vI,simprocAttr];simp only[↓vS,vT,simprocAttr];refine a3.sc ?_;cases hf:x.rules.find? (fun r=>decide (r.nr=d.nr)) with
 | none =>
  simp +decide only[↓vS,vT,simprocAttr,qnM,hf];simp[vZ]
 | some r =>
  have hm:r ∈ x.rules:=List.mem_of_find?_eq_some hf;have a5:=h5 r.tests g4 [] [.pf (qw d) 0] (fun t=>xq t d) rfl hcd (fun t _=>h4 d t) (ht r hm)
  simp +decide only[↓vS,vT,simprocAttr,qnM,hf,qM];refine a5.sc ?_;cases hg:r.tests.find? (fun t=>xq t d) with
  | none =>
   simp +decide only[↓vS,vT,simprocAttr,qln,hg];simp[vZ,hg]
  | some t =>
   simp +decide only[↓vS,vT,simprocAttr,qln,hg,zQ];simp[vZ,hg]
theorem qxE(hc:qc P f (qhA g1 g2 g3 g4 g5)=true)(h1:∀t n,qd P g1 [.i .u32 t,.i .u32 n] (.tup [.i .i64 (ofM t n).1,.b (ofM t n).2]))
  (h2:∀d r,qd P g2 [.agg (qM r),.pf (qw d) 0] (.b (decide (r.nr=d.nr))))
  (h3:∀(l:List GRule) (k:Nat) (a c:List AV) (p:GRule->Bool),qu a=true->qu c=true->(∀t ∈ l,qd P k (a++([.agg (qM t)]++c)) (.b (p t)))->l.length<=100000->qd P g3 [.fz l.length (rR l),.fn k a c] (qnM p l))
  (h4:∀d t,qd P g4 [.agg (zQ t),.pf (qw d) 0] (.b (xq t d)))
  (h5:∀(l:List GTest) (k:Nat) (a c:List AV) (p:GTest->Bool),qu a=true->qu c=true->(∀t ∈ l,qd P k (a++([.agg (zQ t)]++c)) (.b (p t)))->l.length<=100000->qd P g5 [.fz l.length (rT l),.fn k a c] (qln p l))
  (x:GFil) (d:GData) (hr:x.rules.length<=100000) (ht:∀r ∈ x.rules,r.tests.length<=100000):qd P f [.agg (qS x),.agg (qw d)] (.i .u32 (qfj x d)):=by
 refine qd.mk hc rfl ?_;simp only[qhA,qS,qw,vI,simprocAttr];simp only[↓vS,vT,simprocAttr];refine (h1 d.arch d.nr).sc ?_;unfold qfj;cases ho:(ofM d.arch d.nr).2 with
 | false =>
  simp +decide only[↓vS,vT,simprocAttr,ho];simp[vZ]
 | true =>
  by_cases ha:(ofM d.arch d.nr).1=x.arch
  ·simp +decide only[↓vS,vT,simprocAttr,ho,ha];rw[if_neg (by simp[ha])];refine S.weak (Wk.mk [(2,.ptr 0 0),(3,.ptr 1 0)] [.cells 0 true false (qS x),.cells 0 true false (qw d)] [0,1] ?_ ?_ ?_ rfl) ?_
   ·simp[vw]
   ·simp[vw,qS,qw,qh,zS]
    try exact ha
   ·simp
   refine S.weak (Wk.freeze 1 1 0 rfl (by simp[qu,clo,qw]) (Nat.zero_le _) (by simp)) ?_;refine qp0 h2 h3 h4 h5 x d hr ht (Wk.mk _ _ [0] ?_ ?_ ?_ rfl)
   ·simp[vw,mkT,fzv,qcw,qw]
   ·simp[vw,mkH,trL,fzB,qcw,fzv,qS,qh,zS]
   ·simp[mkH]
  ·simp +decide only[↓vS,vT,simprocAttr,ho,ha];simp[vZ,ha]
end
section
variable {g1 g2:Nat}
end
end Go.Kc
end
section
namespace Go.Kc
def fnd(q:GTest->Bool)(y:Int)(l:List GTest):Int:=match l.find? q with|some t=>t.act|none=>y
theorem qi8(q:GTest->Bool)(y:Int):fnd q y []=y:=rfl
theorem qcZ(q:GTest->Bool)(y:Int)(t:GTest)(l:List GTest):fnd q y (t::l)=if q t=true then t.act else fnd q y l:=by
 unfold fnd;rw[List.find?_cons];cases q t<;>rfl
def idxS:List Nat:=[25,27,30,17,29,7,28,26]
end Go.Kc
end
section
namespace Go.Kc
variable {P:Program} {f:Nat}

section
variable {e1 e2 g3 g4 g5 g6 g7:Nat}
end
section
variable {g1 g2 g3 g4 g5 g6 g7 g8 g9 g10 g11 g12:Nat}
end



end Go.Kc
end
section
namespace Go.Kc
variable {P:Program} {f g1 g2:Nat}

end Go.Kc
end
section
namespace Go.Kc
variable {P:Program} {f:Nat}
section
variable {g1 g2 g3 g4 g5 g6 g7 g8 g9:Nat}
end
end Go.Kc
end
section
namespace Go.Kc
section
variable {P:Program} {f g1 g2 g3 g4 g5 g6 g7 g8 g9:Nat}
end
section
variable {P:Program} {f g1 g2 g3 g4 g5 g6 g7 g8 g9:Nat}
end
end Go.Kc
end
section
namespace Go.Kc
variable {P:Program} {f:Nat}
def qcp(x:Int×List UInt8×Int):List AV:=[.i .u16 x.1,.s x.2.1,.i .u8 x.2.2]
theorem qnr(x:Int×List UInt8×Int):(qcp x).length=3:=rfl
def qaF:List (Int×List UInt8×Int):=[(32,[108,100,97,98,115],1),(128,[108,100,108,101,110],1),(0,[108,100,105],1),(96,[108,100,109],1),(129,[108,100,120,108,101,110],1),(1,[108,100,120,105],1),(97,[108,100,120,109],1),(2,[115,116],2),(3,[115,116,120],2),(4,[97,100,100],3),(20,[115,117,98],3),(36,[109,117,108],3),(52,[100,105,118],3),(68,[111,114],3),(84,[97,110,100],3),(100,[108,115,104],3),(116,[114,115,104],3),(164,[120,111,114],3),(12,[97,100,100,120],3),(28,[115,117,98,120],3),(44,[109,117,108,120],3),(60,[100,105,118,120],3),(76,[111,114,120],3),(92,[97,110,100,120],3),(108,[108,115,104,120],3),(124,[114,115,104,120],3),(172,[120,111,114,120],3),(132,[110,101,103],3),(5,[106,97],4),(21,[106,101,113],4),(37,[106,103,116],4),(53,[106,103,101],4),(69,[106,115,101,116],4),(29,[106,101,113,120],4),(45,[106,103,116,120],4),(61,[106,103,101,120],4),(77,[106,115,101,116,120],4),(6,[114,101,116],5),(22,[114,101,116,97],5),(7,[116,97,120],6),(135,[116,120,97],6)]
def zE:List AV:=[.i .u16 0,.s [],.i .u8 0]
def qah(c:Int):Option (Int×List UInt8×Int):=qaF.find? fun x=>decide (x.1=c)
def qd7:Option (Int×List UInt8×Int)->List AV
 | some x=>qcp x
 | none=>zE
def ql(c:Int):Int:=(qah c).elim 0 fun x=>x.2.2
def zN(c:Int):Bool:=(qah c).isSome
def qeY:IFn:=⟨[.cell 0 123 true],.seq (.r [.q 0 (.alloc [.i .u16 0,.s [],.i .u8 0,.i .u16 0,.s [],.i .u8 0,.i .u16 0,.s [],.i .u8 0,.i .u16 0,.s [],.i .u8 0,.i .u16 0,.s [],.i .u8 0,.i .u16 0,.s [],.i .u8 0,.i .u16 0,.s [],.i .u8 0,.i .u16 0,.s [],.i .u8 0,.i .u16 0,.s [],.i .u8 0,.i .u16 0,.s [],.i .u8 0,.i .u16 0,.s [],.i .u8 0,.i .u16 0,.s [],.i .u8 0,.i .u16 0,.s [],.i .u8 0,.i .u16 0,.s [],.i .u8 0,.i .u16 0,.s [],.i .u8 0,.i .u16 0,.s [],.i .u8 0,.i .u16 0,.s [],.i .u8 0,.i .u16 0,.s [],.i .u8 0,.i .u16 0,.s [],.i .u8 0,.i .u16 0,.s [],.i .u8 0,.i .u16 0,.s [],.i .u8 0,.i .u16 0,.s [],.i .u8 0,.i .u16 0,.s [],.i .u8 0,.i .u16 0,.s [],.i .u8 0,.i .u16 0,.s [],.i .u8 0,.i .u16 0,.s [],.i .u8 0,.i .u16 0,.s [],.i .u8 0,.i .u16 0,.s [],.i .u8 0,.i .u16 0,.s [],.i .u8 0,.i .u16 0,.s [],.i .u8 0,.i .u16 0,.s [],.i .u8 0,.i .u16 0,.s [],.i .u8 0,.i .u16 0,.s [],.i .u8 0,.i .u16 0,.s [],.i .u8 0,.i .u16 0,.s [],.i .u8 0,.i .u16 0,.s [],.i .u8 0,.i .u16 0,.s [],.i .u8 0,.i .u16 0,.s [],.i .u8 0,.i .u16 0,.s [],.i .u8 0,.i .u16 0,.s [],.i .u8 0,.i .u16 0,.s [],.i .u8 0])]) (.seq (.r [.q 1 (.build [.i .u16 0,.s [],.i .u8 0] [(0,1,(.c (.i .u16 32))),(1,1,(.c (.s [108,100,97,98,115]))),(2,1,(.c (.i .u8 1)))]),.q 2 (.build [.i .u16 0,.s [],.i .u8 0] [(0,1,(.c (.i .u16 128))),(1,1,(.c (.s [108,100,108,101,110]))),(2,1,(.c (.i .u8 1)))]),.q 3 (.build [.i .u16 0,.s [],.i .u8 0] [(0,1,(.c (.i .u16 0))),(1,1,(.c (.s [108,100,105]))),(2,1,(.c (.i .u8 1)))]),.q 4 (.build [.i .u16 0,.s [],.i .u8 0] [(0,1,(.c (.i .u16 96))),(1,1,(.c (.s [108,100,109]))),(2,1,(.c (.i .u8 1)))]),.q 5 (.build [.i .u16 0,.s [],.i .u8 0] [(0,1,(.c (.i .u16 129))),(1,1,(.c (.s [108,100,120,108,101,110]))),(2,1,(.c (.i .u8 1)))]),.q 6 (.build [.i .u16 0,.s [],.i .u8 0] [(0,1,(.c (.i .u16 1))),(1,1,(.c (.s [108,100,120,105]))),(2,1,(.c (.i .u8 1)))]),.q 7 (.build [.i .u16 0,.s [],.i .u8 0] [(0,1,(.c (.i .u16 97))),(1,1,(.c (.s [108,100,120,109]))),(2,1,(.c (.i .u8 1)))]),.q 8 (.build [.i .u16 0,.s [],.i .u8 0] [(0,1,(.c (.i .u16 2))),(1,1,(.c (.s [115,116]))),(2,1,(.c (.i .u8 2)))]),.q 9 (.build [.i .u16 0,.s [],.i .u8 0] [(0,1,(.c (.i .u16 3))),(1,1,(.c (.s [115,116,120]))),(2,1,(.c (.i .u8 2)))]),.q 10 (.build [.i .u16 0,.s [],.i .u8 0] [(0,1,(.c (.i .u16 4))),(1,1,(.c (.s [97,100,100]))),(2,1,(.c (.i .u8 3)))]),.q 11 (.build [.i .u16 0,.s [],.i .u8 0] [(0,1,(.c (.i .u16 20))),(1,1,(.c (.s [115,117,98]))),(2,1,(.c (.i .u8 3)))]),.q 12 (.build [.i .u16 0,.s [],.i .u8 0] [(0,1,(.c (.i .u16 36))),(1,1,(.c (.s [109,117,108]))),(2,1,(.c (.i .u8 3)))]),.q 13 (.build [.i .u16 0,.s [],.i .u8 0] [(0,1,(.c (.i .u16 52))),(1,1,(.c (.s [100,105,118]))),(2,1,(.c (.i .u8 3)))]),.q 14 (.build [.i .u16 0,.s [],.i .u8 0] [(0,1,(.c (.i .u16 68))),(1,1,(.c (.s [111,114]))),(2,1,(.c (.i .u8 3)))]),.q 15 (.build [.i .u16 0,.s [],.i .u8 0] [(0,1,(.c (.i .u16 84))),(1,1,(.c (.s [97,110,100]))),(2,1,(.c (.i .u8 3)))]),.q 16 (.build [.i .u16 0,.s [],.i .u8 0] [(0,1,(.c (.i .u16 100))),(1,1,(.c (.s [108,115,104]))),(2,1,(.c (.i .u8 3)))]),.q 17 (.build [.i .u16 0,.s [],.i .u8 0] [(0,1,(.c (.i .u16 116))),(1,1,(.c (.s [114,115,104]))),(2,1,(.c (.i .u8 3)))]),.q 18 (.build [.i .u16 0,.s [],.i .u8 0] [(0,1,(.c (.i .u16 164))),(1,1,(.c (.s [120,111,114]))),(2,1,(.c (.i .u8 3)))]),.q 19 (.build [.i .u16 0,.s [],.i .u8 0] [(0,1,(.c (.i .u16 12))),(1,1,(.c (.s [97,100,100,120]))),(2,1,(.c (.i .u8 3)))]),.q 20 (.build [.i .u16 0,.s [],.i .u8 0] [(0,1,(.c (.i .u16 28))),(1,1,(.c (.s [115,117,98,120]))),(2,1,(.c (.i .u8 3)))]),.q 21 (.build [.i .u16 0,.s [],.i .u8 0] [(0,1,(.c (.i .u16 44))),(1,1,(.c (.s [109,117,108,120]))),(2,1,(.c (.i .u8 3)))]),.q 22 (.build [.i .u16 0,.s [],.i .u8 0] [(0,1,(.c (.i .u16 60))),(1,1,(.c (.s [100,105,118,120]))),(2,1,(.c (.i .u8 3)))]),.q 23 (.build [.i .u16 0,.s [],.i .u8 0] [(0,1,(.c (.i .u16 76))),(1,1,(.c (.s [111,114,120]))),(2,1,(.c (.i .u8 3)))]),.q 24 (.build [.i .u16 0,.s [],.i .u8 0] [(0,1,(.c (.i .u16 92))),(1,1,(.c (.s [97,110,100,120]))),(2,1,(.c (.i .u8 3)))]),.q 25 (.build [.i .u16 0,.s [],.i .u8 0] [(0,1,(.c (.i .u16 108))),(1,1,(.c (.s [108,115,104,120]))),(2,1,(.c (.i .u8 3)))]),.q 26 (.build [.i .u16 0,.s [],.i .u8 0] [(0,1,(.c (.i .u16 124))),(1,1,(.c (.s [114,115,104,120]))),(2,1,(.c (.i .u8 3)))]),.q 27 (.build [.i .u16 0,.s [],.i .u8 0] [(0,1,(.c (.i .u16 172))),(1,1,(.c (.s [120,111,114,120]))),(2,1,(.c (.i .u8 3)))]),.q 28 (.build [.i .u16 0,.s [],.i .u8 0] [(0,1,(.c (.i .u16 132))),(1,1,(.c (.s [110,101,103]))),(2,1,(.c (.i .u8 3)))]),.q 29 (.build [.i .u16 0,.s [],.i .u8 0] [(0,1,(.c (.i .u16 5))),(1,1,(.c (.s [106,97]))),(2,1,(.c (.i .u8 4)))]),.q 30 (.build [.i .u16 0,.s [],.i .u8 0] [(0,1,(.c (.i .u16 21))),(1,1,(.c (.s [106,101,113]))),(2,1,(.c (.i .u8 4)))]),.q 31 (.build [.i .u16 0,.s [],.i .u8 0] [(0,1,(.c (.i .u16 37))),(1,1,(.c (.s [106,103,116]))),(2,1,(.c (.i .u8 4)))]),.q 32 (.build [.i .u16 0,.s [],.i .u8 0] [(0,1,(.c (.i .u16 53))),(1,1,(.c (.s [106,103,101]))),(2,1,(.c (.i .u8 4)))]),.q 33 (.build [.i .u16 0,.s [],.i .u8 0] [(0,1,(.c (.i .u16 69))),(1,1,(.c (.s [106,115,101,116]))),(2,1,(.c (.i .u8 4)))]),.q 34 (.build [.i .u16 0,.s [],.i .u8 0] [(0,1,(.c (.i .u16 29))),(1,1,(.c (.s [106,101,113,120]))),(2,1,(.c (.i .u8 4)))]),.q 35 (.build [.i .u16 0,.s [],.i .u8 0] [(0,1,(.c (.i .u16 45))),(1,1,(.c (.s [106,103,116,120]))),(2,1,(.c (.i .u8 4)))]),.q 36 (.build [.i .u16 0,.s [],.i .u8 0] [(0,1,(.c (.i .u16 61))),(1,1,(.c (.s [106,103,101,120]))),(2,1,(.c (.i .u8 4)))]),.q 37 (.build [.i .u16 0,.s [],.i .u8 0] [(0,1,(.c (.i .u16 77))),(1,1,(.c (.s [106,115,101,116,120]))),(2,1,(.c (.i .u8 4)))]),.q 38 (.build [.i .u16 0,.s [],.i .u8 0] [(0,1,(.c (.i .u16 6))),(1,1,(.c (.s [114,101,116]))),(2,1,(.c (.i .u8 5)))]),.q 39 (.build [.i .u16 0,.s [],.i .u8 0] [(0,1,(.c (.i .u16 22))),(1,1,(.c (.s [114,101,116,97]))),(2,1,(.c (.i .u8 5)))]),.q 40 (.build [.i .u16 0,.s [],.i .u8 0] [(0,1,(.c (.i .u16 7))),(1,1,(.c (.s [116,97,120]))),(2,1,(.c (.i .u8 6)))]),.q 41 (.build [.i .u16 0,.s [],.i .u8 0] [(0,1,(.c (.i .u16 135))),(1,1,(.c (.s [116,120,97]))),(2,1,(.c (.i .u8 6)))]),.q 42 (.build [.i .u16 0,.s [],.i .u8 0,.i .u16 0,.s [],.i .u8 0,.i .u16 0,.s [],.i .u8 0,.i .u16 0,.s [],.i .u8 0,.i .u16 0,.s [],.i .u8 0,.i .u16 0,.s [],.i .u8 0,.i .u16 0,.s [],.i .u8 0,.i .u16 0,.s [],.i .u8 0,.i .u16 0,.s [],.i .u8 0,.i .u16 0,.s [],.i .u8 0,.i .u16 0,.s [],.i .u8 0,.i .u16 0,.s [],.i .u8 0,.i .u16 0,.s [],.i .u8 0,.i .u16 0,.s [],.i .u8 0,.i .u16 0,.s [],.i .u8 0,.i .u16 0,.s [],.i .u8 0,.i .u16 0,.s [],.i .u8 0,.i .u16 0,.s [],.i .u8 0,.i .u16 0,.s [],.i .u8 0,.i .u16 0,.s [],.i .u8 0,.i .u16 0,.s [],.i .u8 0,.i .u16 0,.s [],.i .u8 0,.i .u16 0,.s [],.i .u8 0,.i .u16 0,.s [],.i .u8 0,.i .u16 0,.s [],.i .u8 0,.i .u16 0,.s [],.i .u8 0,.i .u16 0,.s [],.i .u8 0,.i .u16 0,.s [],.i .u8 0,.i .u16 0,.s [],.i .u8 0,.i .u16 0,.s [],.i .u8 0,.i .u16 0,.s [],.i .u8 0,.i .u16 0,.s [],.i .u8 0,.i .u16 0,.s [],.i .u8 0,.i .u16 0,.s [],.i .u8 0,.i .u16 0,.s [],.i .u8 0,.i .u16 0,.s [],.i .u8 0,.i .u16 0,.s [],.i .u8 0,.i .u16 0,.s [],.i .u8 0,.i .u16 0,.s [],.i .u8 0,.i .u16 0,.s [],.i .u8 0,.i .u16 0,.s [],.i .u8 0] [(0,3,(.t 1)),(3,3,(.t 2)),(6,3,(.t 3)),(9,3,(.t 4)),(12,3,(.t 5)),(15,3,(.t 6)),(18,3,(.t 7)),(21,3,(.t 8)),(24,3,(.t 9)),(27,3,(.t 10)),(30,3,(.t 11)),(33,3,(.t 12)),(36,3,(.t 13)),(39,3,(.t 14)),(42,3,(.t 15)),(45,3,(.t 16)),(48,3,(.t 17)),(51,3,(.t 18)),(54,3,(.t 19)),(57,3,(.t 20)),(60,3,(.t 21)),(63,3,(.t 22)),(66,3,(.t 23)),(69,3,(.t 24)),(72,3,(.t 25)),(75,3,(.t 26)),(78,3,(.t 27)),(81,3,(.t 28)),(84,3,(.t 29)),(87,3,(.t 30)),(90,3,(.t 31)),(93,3,(.t 32)),(96,3,(.t 33)),(99,3,(.t 34)),(102,3,(.t 35)),(105,3,(.t 36)),(108,3,(.t 37)),(111,3,(.t 38)),(114,3,(.t 39)),(117,3,(.t 40)),(120,3,(.t 41))]),.u (.store 123 (.t 0) (.t 42))]) (.ret))⟩
set_option maxRecDepth 20000 in
theorem qxG(hc:qc P f qeY=true):qd P f [] (.agg (qaF.flatMap qcp)):=by
 refine qd.mk hc rfl ?_;simp only[qeY,vI,simprocAttr];simp only[↓vS,vT,simprocAttr,qaF,qcp,List.flatMap_cons,List.flatMap_nil,vZ]
def qhz(a:Nat):IFn:=⟨[.cell 2 3 true,.tmp 3],.seq (.r [.q 2 (.alloc [.i .u16 0,.s [],.i .u8 0]),.m 3 .F]) (.seq (.seq (.r [.l 6 a [],.m 7 (.k 0)]) (.blk 0 (.loop (.seq (.r [.w 8 .lss 7 41]) (.seq (.cond (.t 8) (.skip) (.exit 0)) (.seq (.blk 1 (.seq (.r [.q 9 (.idxA 41 3 true (.t 6) (.t 7)),.q 5 (.alloc [.i .u16 0,.s [],.i .u8 0]),.u (.store 3 (.t 5) (.t 9))]) (.seq (.r [.n 10 0,.v 11 3 5,⟨(some 12),.callV (.t 10) [.t 11],none⟩]) (.cond (.t 12) (.seq (.r [.v 13 3 5,.u (.store 3 (.t 2) (.t 13)),.m 3 .T]) (.ret)) (.skip))))) (.r [.a 14 7 1,.n 7 14]))))))) (.seq (.r [.q 15 (.build [.i .u16 0,.s [],.i .u8 0] []),.u (.store 3 (.t 2) (.t 15)),.m 3 .F]) (.ret)))⟩
theorem qBF{e:Nat}(hc:qc P f (qhz e)=true)(he:qd P e [] (.agg (qaF.flatMap qcp))){g:Nat}{a c:List AV}(ha:qu a=true)(hcc:qu c=true)(p:Int×List UInt8×Int->Bool)(hp:∀x ∈ qaF,qd P g (a++([.agg (qcp x)]++c)) (.b (p x))) :
  qd P f [.fn g a c] (.tup [.agg (qd7 (qaF.find? p)),.b (qaF.find? p).isSome]):=by
 refine qd.mk hc (by simp[qu,clo,ha,hcc]) ?_;simp only[qhz,vI,simprocAttr];simp only[↓vS,vT,simprocAttr];refine he.sc ?_;simp only[↓vS,vT,simprocAttr];have hlen:(qaF.flatMap qcp).length=123:=by rw[zl (m:=3) qnr];rfl
 have hTc:qu (qaF.flatMap qcp)=true:=rfl;refine SL.loop (α:=Nat) (fun j=>[(0,.fn g a c),(2,.ptr 0 0),(6,.agg (qaF.flatMap qcp)),(7,.i .i64 j)]) (fun _=>[.cells 0 true false zE]) (fun j=>j<=41∧qaF.find? p=(qaF.drop j).find? p) (fun j=>41-j) 0 [0] ?_ ?_ ?_ rfl ?_ ?_
 ·generalize qaF.flatMap qcp=T at hTc;simp[vw,qh,hTc,ha,hcc]
 ·simp[vw,zE]
 ·simp
 ·exact⟨Nat.zero_le _,rfl⟩
 rintro j ⟨hj,hI⟩ G ih;simp only[vI,simprocAttr]
 by_cases hlt:j<41
 ·have hlt':(j:Int)<41:=by omega
  have hjl:j<qaF.length:=hlt;have hx:qaF[j]?=some qaF[j]:=zzE hjl;have hw:IntKind.wrap .i64 ((j:Int)+1)=((j+1:Nat):Int):=by rw[qq (by omega) (by omega)];omega
  have hel:=zj (f:=qcp) (m:=3) qnr hx;have hb:j*3+3<=(qaF.flatMap qcp).length:=by omega
  have hpx:=hp _ (List.getElem_mem hjl);rw[List.drop_eq_getElem_cons hjl,List.find?_cons] at hI;generalize hc0:qaF[j]=x at hel hI hpx;generalize hT:qaF.flatMap qcp=T at hel hb hlen hTc;simp only[qcp] at hpx;simp only[↓vS,vT,simprocAttr,hlt',hlt,hel,hb,qcp,zE];refine hpx.sc ?_;cases hs:p x with
  | true =>
   rw[hs] at hI;simp +decide only[↓vS,vT,simprocAttr];rw[hI];simp[vZ,qd7,qcp]
  | false =>
   rw[hs] at hI;simp +decide only[↓vS,vT,simprocAttr,hw];refine ih (j+1) ⟨hlt,hI⟩ (by omega) _ _ (Wk.mk _ _ [0] ?_ ?_ ?_ rfl)
   ·rw[hT];simp[vw,qh,hTc,ha,hcc]
   ·simp[vw,zE]
   ·simp
 ·have hj':j=41:=by omega
  subst hj';have hlt':¬(((41:Nat):Int)<41):=by decide
  have hI':qaF.find? p=none:=hI;clear ih;generalize qaF.flatMap qcp=T;simp +decide only[↓vS,vT,simprocAttr,hlt',zE];rw[hI'];simp[vZ,qd7,zE]
def qhy:IFn:=⟨[.tmp 3],.seq (.r [.q 2 (.box (.t 0)),.m 3 .F]) (.seq (.r [.f 4 0 2,.d 5 4,.d 6 1,.b 7 .eql 5 6,.n 3 7]) (.ret))⟩
theorem qCX(hc:qc P f qhy=true)(x:Int×List UInt8×Int)(n:Int):qd P f [.agg (qcp x),.pf [.i .u16 n] 0] (.b (decide (x.1=n))):=by
 refine qd.mk hc (by simp[qu,clo,qcp]) ?_;simp only[qhy,qcp,vI,simprocAttr];simp only[↓vS,vT,simprocAttr,vZ]
def qjK(a b:Nat):IFn:=⟨[.cell 2 3 true,.tmp 3],.seq (.r [.q 1 (.box (.t 0)),.q 2 (.alloc [.i .u16 0,.s [],.i .u8 0]),.m 3 .F]) (.seq (.r [.q 4 (.mkF a [] [.t 1]),.l 5 b [.t 4],.x 6 5 0,.x 7 5 1,.u (.store 3 (.t 2) (.t 6)),.n 3 7]) (.ret))⟩
theorem qDY{g1 g2:Nat}(hc:qc P f (qjK g1 g2)=true)(h1:∀x n,qd P g1 [.agg (qcp x),.pf [.i .u16 n] 0] (.b (decide (x.1=n))))(h2:∀(g:Nat) (a c:List AV),qu a=true->qu c=true->∀p:Int×List UInt8×Int->Bool,(∀x ∈ qaF,qd P g (a++([.agg (qcp x)]++c)) (.b (p x)))->qd P g2 [.fn g a c] (.tup [.agg (qd7 (qaF.find? p)),.b (qaF.find? p).isSome]))(n:Int) :
  qd P f [.i .u16 n] (.tup [.agg (qd7 (qah n)),.b (zN n)]):=by
 refine qd.mk hc rfl ?_;have h:=h2 g1 [] [.pf [.i .u16 n] 0] rfl rfl (fun x=>decide (x.1=n)) (fun x _=>h1 x n)
 unfold zN qah;have hce:qu (qd7 (qaF.find? fun x=>decide (x.1=n)))=true∧(qd7 (qaF.find? fun x=>decide (x.1=n))).length=3:=by cases qaF.find? fun x=>decide (x.1=n)<;>exact⟨rfl,rfl⟩
 generalize (qaF.find? fun x=>decide (x.1=n))=o at h hce ⊢
 simp only[qjK,vI,simprocAttr];simp only[↓vS,vT,simprocAttr];refine (h.lend (vs':=[.fn g1 [] [.pf [.i .u16 n] 0]]) ?_ ?_ ?_)
 ·simp[vZ,vP,Tr.get_set]
 ·cases o<;>rfl
 cases o with
 | none =>
  simp +decide only[↓vS,vT,simprocAttr,qd7,zE];simp[vZ]
 | some x =>
  simp +decide only[↓vS,vT,simprocAttr,qd7,qcp];simp[vZ]
def qjJ(a:Nat):IFn:=⟨[.tmp 2],.seq (.r [.m 2 (.c (.i .u8 0))]) (.seq (.r [.n 6 0,.l 7 a [.t 6],.n 5 7,.x 8 5 0,.x 9 5 1,.q 3 (.alloc [.i .u16 0,.s [],.i .u8 0]),.u (.store 3 (.t 3) (.t 8)),.n 4 9]) (.seq (.r [.f 10 2 3,.d 11 10,.n 2 11]) (.ret)))⟩
theorem qDX{g:Nat}(hc:qc P f (qjJ g)=true)(hg:∀n,qd P g [.i .u16 n] (.tup [.agg (qd7 (qah n)),.b (zN n)]))(n:Int):qd P f [.i .u16 n] (.i .u8 (ql n)):=by
 refine qd.mk hc rfl ?_;have h:=hg n;unfold zN at h;simp only[qjJ,vI,simprocAttr];simp only[↓vS,vT,simprocAttr];refine h.sc ?_;cases hcn:qah n with
 | none =>
  simp +decide only[↓vS,vT,simprocAttr,qd7,zE];simp[vZ,ql,zN,hcn]
 | some x =>
  simp +decide only[↓vS,vT,simprocAttr,qd7,qcp];simp[vZ,ql,zN,hcn]
def qgn(a:Nat):IFn:=⟨[.tmp 2],.seq (.r [.m 2 .F]) (.seq (.r [.n 6 0,.l 7 a [.t 6],.n 5 7,.x 8 5 0,.x 9 5 1,.q 3 (.alloc [.i .u16 0,.s [],.i .u8 0]),.u (.store 3 (.t 3) (.t 8)),.n 4 9]) (.seq (.r [.n 10 4,.n 2 10]) (.ret)))⟩
theorem qzq{g:Nat}(hc:qc P f (qgn g)=true)(hg:∀n,qd P g [.i .u16 n] (.tup [.agg (qd7 (qah n)),.b (zN n)]))(n:Int):qd P f [.i .u16 n] (.b (zN n)):=by
 refine qd.mk hc rfl ?_;have h:=hg n;unfold zN at h;simp only[qgn,vI,simprocAttr];simp only[↓vS,vT,simprocAttr];refine h.sc ?_;cases hcn:qah n with
 | none =>
  simp +decide only[↓vS,vT,simprocAttr,qd7,zE];simp[vZ,ql,zN,hcn]
 | some x =>
  simp +decide only[↓vS,vT,simprocAttr,qd7,qcp];simp[vZ,ql,zN,hcn]
end Go.Kc
end
section
namespace Go.Kc
variable {P:Program} {f:Nat}
structure Ins where
 code:Int
 jt:Int
 jf:Int
 k:Int
def qD(i:Ins):List AV:=[.i .u16 i.code,.i .u8 i.jt,.i .u8 i.jf,.i .u32 i.k]
theorem qaN(i:Ins):(qD i).length=4:=rfl
def rP(p:List Ins):List AV:=p.flatMap qD
theorem qdS(p:List Ins):(rP p).length=p.length*4:=zl qaN p
theorem qx(p:List Ins):qu (rP p)=true:=x9 (fun _=>rfl)
theorem qAU{h:Hp}{esz n a c:Nat}{q q2 q3:IntKind}{cs:List AV}{k:AV->Prop}(h1:a<c)(h2:c<=n)(h3:c*esz<=cs.length):slK esz (some (.i q (a:Int))) (some (.i q2 (c:Int))) (some (.i q3 (c:Int))) (.fz n cs) h k↔evA (.fz (c-a) ((cs.drop (a*esz)).take ((c-a)*esz))) k:=by
 have hne:Nat.beq c a=false:=by
  cases hb:Nat.beq c a with
  | false=>rfl
  | true=>have:=Nat.eq_of_beq_eq_true hb;omega
 have e1:a*esz<=cs.length:=Nat.le_trans (Nat.mul_le_mul_right _ (by omega)) h3
 have e2:(c-a)*esz<=(cs.drop (a*esz)).length:=by
  rw[List.length_drop,Nat.sub_mul];omega
 have hac:a<=c:=by omega
 simp only[slK,qi2,qox];show (ifK (c<=n) (ifK (c<=c) (ifK (a<=c) _)))↔_;simp only[ifK,h2,hac,Nat.le_refl,true_and,Option.isSome_some,hne,Bool.true_and,Bool.false_eq_true,if_false];show (a*esz<=cs.length∧(c-a)*esz<=(cs.drop (a*esz)).length∧_)↔_;simp only[e1,e2,true_and];exact Iff.rfl
theorem qmY{sz fl:Nat}{tr:Tr Blk}{x:Blk}:Hp.push ⟨sz,fl,tr⟩ x=⟨sz+1,fl,tr.set sz x⟩:=rfl
theorem qil{r:Loop}(h:r.state = .ready)(h2:r.pending=none):rdy r=r:=by cases r;simp_all [rdy]
theorem qoq(x:BitVec 16):IntKind.wrap .u16 (x.toNat:Int)=(x.toNat:Int):=by
 have:=x.isLt;show ((x.toNat:Int)) % 65536=_;omega
theorem qf3(x:BitVec 16):BitVec.ofInt 16 (x.toNat:Int)=x:=by simp
theorem qEA(x y:BitVec 16):orI .u16 (x.toNat:Int) (y.toNat:Int)=((x ||| y).toNat:Int):=by
 show IntKind.wrap .u16 ((BitVec.ofInt 16 (x.toNat:Int) ||| BitVec.ofInt 16 (y.toNat:Int)).toNat:Int)=_
 rw[qf3,qf3,qoq]
theorem qxp(x y:BitVec 16):xT .u16 (x.toNat:Int) (y.toNat:Int)=((x &&& y).toNat:Int):=by
 show IntKind.wrap .u16 ((BitVec.ofInt 16 (x.toNat:Int) &&& BitVec.ofInt 16 (y.toNat:Int)).toNat:Int)=_;rw[qf3,qf3,qoq]
theorem qxA(x y:BitVec 16):qff .u16 (x.toNat:Int) (y.toNat:Int)=((x &&& ~~~ y).toNat:Int):=by
 show IntKind.wrap .u16 ((BitVec.ofInt 16 (x.toNat:Int) &&& ~~~ (BitVec.ofInt 16 (y.toNat:Int))).toNat:Int)=_;rw[qf3,qf3,qoq]
def cell(k:Int):BitVec 16:=1#16 <<< k.toNat
theorem que{k:Int}(h0:0<=k)(h:k<16):quf .u16 1 k=((cell k).toNat:Int):=by
 have key:∀n:Fin 16,quf .u16 1 (n.val:Int)=((cell (n.val:Int)).toNat:Int):=by decide
 have:=key ⟨k.toNat,by omega⟩
 simpa[Int.toNat_of_nonneg h0] using this
structure InsOk (i:Ins):Prop where
 c0:0<=i.code
 c1:i.code<=65535
 t0:0<=i.jt
 t1:i.jt<=255
 f0:0<=i.jf
 f1:i.jf<=255
 k0:0<=i.k
 k1:i.k<=4294967295
def cOf(P:Program)(g:Nat):Prop:=∀n,qd P g [.i .u16 n] (.i .u8 (ql n))
def wrM(i:Ins):BitVec 16:=if ql i.code=2∧i.k<16 then cell i.k else 0#16
def rdM(i:Ins):BitVec 16:=if (i.code=96∨i.code=97)∧i.k<16 then cell i.k else 0#16
def qeU(a:Nat):IFn:=⟨[.tmp 2],.seq (.r [.q 1 (.box (.t 0)),.m 2 (.c (.i .u16 0))]) (.seq (.seq (.r [.f 3 0 1,.d 4 3,.l 5 a [.t 4],.q 6 (.bin .neq (.t 5) (.c (.i .u8 2))),.n 7 6,.h 8 3 1 7 false,.j 9 8 7 false,.g 10 (.bin .geq (.t 9) (.c (.i .u32 16))) 7 false,.o 11 7 10]) (.cond (.t 11) (.seq (.r [.m 2 (.c (.i .u16 0))]) (.ret)) (.skip))) (.seq (.r [.f 12 3 1,.d 13 12,.q 14 (.bin .shl (.c (.i .u16 1)) (.t 13)),.n 2 14]) (.ret)))⟩
theorem qx7{g:Nat}(hc:qc P f (qeU g)=true)(hg:cOf P g)(i:Ins)(hi:InsOk i):qd P f [.agg (qD i)] (.i .u16 ((wrM i).toNat:Int)):=by
 refine qd.mk hc (by rfl) ?_;have h0:=hi.k0;unfold wrM;simp only[qeU,qD,vI,simprocAttr];simp +decide only[↓vS,vT,simprocAttr];refine (hg _).sc ?_
 by_cases h2:ql i.code=2
 ·by_cases hk:i.k<16
  ·have hk':¬16<=i.k:=by omega
   rw[if_pos ⟨h2,hk⟩];simp +decide only[↓vS,vT,simprocAttr,h2,hk,hk',h0,que h0 hk];simp[vZ]
  ·have hk':16<=i.k:=by omega
   rw[if_neg (fun h=>hk h.2)]
   simp +decide only[↓vS,vT,simprocAttr,h2,hk,hk'];simp[vZ]
 ·rw[if_neg (fun h=>h2 h.1)]
  simp +decide only[↓vS,vT,simprocAttr,h2];simp[vZ]
def qfq:IFn:=⟨[.tmp 2],.seq (.r [.q 1 (.box (.t 0)),.m 2 (.c (.i .u16 0))]) (.seq (.seq (.r [.f 3 0 1,.d 4 3,.q 5 (.bin .neq (.t 4) (.c (.i .u16 96))),.n 6 5,.h 7 0 1 6 true,.j 8 7 6 true,.g 9 (.bin .neq (.t 8) (.c (.i .u16 97))) 6 true,.p 10 6 9,.n 11 10,.h 12 3 1 11 false,.j 13 12 11 false,.g 14 (.bin .geq (.t 13) (.c (.i .u32 16))) 11 false,.o 15 11 14]) (.cond (.t 15) (.seq (.r [.m 2 (.c (.i .u16 0))]) (.ret)) (.skip))) (.seq (.r [.f 16 3 1,.d 17 16,.q 18 (.bin .shl (.c (.i .u16 1)) (.t 17)),.n 2 18]) (.ret)))⟩
theorem qAJ(hc:qc P f qfq=true)(i:Ins)(hi:InsOk i):qd P f [.agg (qD i)] (.i .u16 ((rdM i).toNat:Int)):=by
 refine qd.mk hc (by rfl) ?_;have h0:=hi.k0;unfold rdM;simp only[qfq,qD,vI,simprocAttr]
 by_cases hk:i.k<16
 ·have hk':¬16<=i.k:=by omega
  by_cases h1:i.code=96
  ·rw[if_pos ⟨.inl h1,hk⟩];simp +decide only[↓vS,vT,simprocAttr,h1,hk',h0,que h0 hk];simp[vZ]
  ·by_cases h2:i.code=97
   ·rw[if_pos ⟨.inr h2,hk⟩];simp +decide only[↓vS,vT,simprocAttr,h2,hk',h0,que h0 hk];simp[vZ]
   ·rw[if_neg (fun h=>h.1.elim h1 h2)]
    simp +decide only[↓vS,vT,simprocAttr,h1,h2];simp[vZ]
 ·have hk':16<=i.k:=by omega
  rw[if_neg (fun h=>hk h.2)]
  by_cases h1:i.code=96
  ·simp +decide only[↓vS,vT,simprocAttr,h1,hk'];simp[vZ]
  ·by_cases h2:i.code=97
   ·simp +decide only[↓vS,vT,simprocAttr,h2,hk'];simp[vZ]
   ·simp +decide only[↓vS,vT,simprocAttr,h1,h2];simp[vZ]
def rW(s:List (BitVec 16)):List AV:=s.map fun x=>.i .u16 (x.toNat:Int)
def rTt(r:List Bool):List AV:=r.map .b
theorem qAH{s:List (BitVec 16)}:(rW s).length=s.length:=by simp[rW]
theorem qwS{s:List Bool}:(rTt s).length=s.length:=by simp[rTt]
theorem zA{s:List (BitVec 16)}:qu (rW s)=true:=qcX fun _=>rfl
theorem zf{s:List Bool}:qu (rTt s)=true:=qcX fun _=>rfl
theorem qlZ{s:List (BitVec 16)}{j:Nat}:(rW s)[j]?=(s[j]?).map fun x=>.i .u16 (x.toNat:Int):=by simp[rW]
theorem qjk{s:List Bool}{j:Nat}:(rTt s)[j]?=(s[j]?).map .b:=by simp[rTt]
theorem qoY{α:Type}{F:α->AV}{L:List α}{j:Nat}(h:j<L.length)(x:α):(L.map F).take j++(F x::(L.map F).drop (j+1))=(L.set j x).map F:=by
 rw[← List.map_take,← List.map_drop,← List.map_cons,← List.map_append,List.set_eq_take_append_cons_drop,if_pos h]
theorem qAI{s:List (BitVec 16)}{j:Nat}(h:j<s.length)(x:BitVec 16):(rW s).take j++(.i .u16 (x.toNat:Int)::(rW s).drop (j+1))=rW (s.set j x):=qoY h x
theorem qwT{s:List Bool}{j:Nat}(h:j<s.length)(x:Bool):(rTt s).take j++(.b x::(rTt s).drop (j+1))=rTt (s.set j x):=qoY h x
def qbC(s:List (BitVec 16))(r:List Bool)(j:Nat)(x:BitVec 16):List (BitVec 16):=s.set j (if r.getD j false=true then s.getD j 0 &&& x else x)
def qfh(nv:List AV)(s:List (BitVec 16))(r:List Bool):List Blk:=[.cells 0 true false (rW s),.cells 0 true false (rTt r),.cells 0 true false [.sl 0 0 s.length s.length false],.cells 0 true false [.sl 1 0 s.length s.length false]]
def qeT:IFn:=⟨[],.seq (.seq (.r [.d 6 2,.n 7 0,.i 8 1 6 7,.d 9 8,.q 10 (.un .not (.t 9))]) (.cond (.t 10) (.r [.d 11 3,.n 12 0,.i 13 1 11 12,.u (.store 1 (.t 13) (.c (.i .u16 65535)))]) (.skip))) (.seq (.r [.d 14 2,.n 15 0,.i 16 1 14 15,.u (.store 1 (.t 16) .T)]) (.r [.d 17 3,.n 18 0,.i 19 1 17 18,.d 20 19,.n 21 1,.b 22 .and 20 21,.i 23 1 17 18,.u (.store 1 (.t 23) (.t 22))]))⟩
theorem qCE(hc:qc P f qeT=true)(s:List (BitVec 16))(r:List Bool)(hr:r.length=s.length)(j:Nat)(hj:j<s.length)(x:BitVec 16) :
  Upd P f [.i .i64 j,.i .u16 (x.toNat:Int),.ptr 3 0,.ptr 2 0] (qfh [] s r) (.tup []) (qfh [] (qbC s r j x) (r.set j true)):=by
 refine Upd.mk hc (by simp[qam,bnd,qfh]) (by simp[qfh]) ?_;have hjr:j<r.length:=by omega
 obtain⟨y,hy⟩:∃y,s[j]?=some y:=⟨_,zzE hj⟩;obtain⟨b,hb⟩:∃b,r[j]?=some b:=⟨_,zzE hjr⟩;have hl1:j+1<=(rTt r).length:=by rw[qwS];omega
 have hl2:∀s':List (BitVec 16),s'.length=s.length->j+1<=(rW s').length:=fun s' h=>by rw[qAH];omega
 have hb1:∀y:Bool,List.take j (rTt r)++(AV.b y::List.drop (j+1) (rTt r))=rTt (r.set j y):=fun y=>qwT hjr y
 have hb2:∀(s':List (BitVec 16)) (y:BitVec 16),s'.length=s.length->List.take j (rW s')++(AV.i .u16 (y.toNat:Int)::List.drop (j+1) (rW s'))=rW (s'.set j y):=fun s' y h=>qAI (by omega) y
 have hc0:=hl2 s rfl;have hc1:=hb2 s (y &&& x) rfl;have hd0:=hl2 (s.set j 65535#16) (by simp);have hd1:=hb2 s 65535#16 rfl;have hd2:=hb2 (s.set j 65535#16) x (by simp);rw[show (((65535#16).toNat:Nat):Int)=65535 from rfl] at hd1
 have hy2:(s.set j 65535#16)[j]?=some 65535#16:=by rw[List.getElem?_set_self (by omega)]
 have hand:xT .u16 65535 (x.toNat:Int)=(x.toNat:Int):=by
  rw[show (65535:Int)=((65535#16).toNat:Int) from rfl,qxp,show (65535#16:BitVec 16)=BitVec.allOnes 16 from rfl,BitVec.allOnes_and]
 have ht3:(65535#16).toNat=65535:=rfl;simp only[qeT,qfh,qbC,List.getD_eq_getElem?_getD,hy,hb,Option.getD_some,vI,simprocAttr];cases b with
 | true =>
  simp +decide only[↓vS,vT,simprocAttr,Nat.mul_one,qlZ,qjk,hy,hb,Option.map_some,hl1,hb1,hc0,hc1,qxp,hj];intro _;refine⟨[0,1,2,3],?_⟩;simp[vw,qh,zA,zf];decide
 | false =>
  simp +decide only[↓vS,vT,simprocAttr,Nat.mul_one,qlZ,qjk,hy,hb,Option.map_some,hl1,hb1,hc0,hd0,hd1,hy2,hand,hd2,hj];intro _;refine⟨[0,1,2,3],?_⟩;simp[vw,qh,zA,zf];decide
def rNt(l:List Nat):List AV:=l.map fun n:Nat=>.i .i64 (n:Int)
theorem qji{l:List Nat}:(rNt l).length=l.length:=by simp[rNt]
theorem qT{l:List Nat}:qu (rNt l)=true:=qcX fun _=>rfl
theorem qpb{l:List Nat}{j:Nat}:(rNt l)[j]?=(l[j]?).map fun n:Nat=>.i .i64 (n:Int):=by simp[rNt]
theorem qpa{l m:List Nat}:rNt l++rNt m=rNt (l++m):=by simp[rNt]
def qis(i:Ins)(x:BitVec 16)(at':Nat)(l:List Nat):List Nat:=if rdM i &&& ~~~ x=0#16 then l else l++[at']
def qdl(a:Nat):IFn:=⟨[],.seq (.r [.d 6 2,.n 7 0,.i 8 4 6 7,.v 9 4 8,.l 10 a [.t 9],.n 11 1,.b 12 .andNot 10 11,.q 13 (.bin .neq (.t 12) (.c (.i .u16 0)))]) (.cond (.t 13) (.r [.d 14 3,.n 15 0,.q 16 (.buildS 1 [.i .i64 0] [(0,1,(.t 15))]),.q 17 (.app 1 8 true (.t 14) (.t 16)),.u (.store 1 (.t 3) (.t 17))]) (.skip))⟩
theorem qB1{g:Nat}(hc:qc P f (qdl g)=true)(hg:∀i,InsOk i->qd P g [.agg (qD i)] (.i .u16 ((rdM i).toNat:Int)))(p:List Ins)(hp:p.length<=4096)(l:List Nat)(hl:l.length<=4096)(j:Nat)(i:Ins)(hj:p[j]?=some i)(hi:InsOk i)(x:BitVec 16) :
  Upd P f [.i .i64 j,.i .u16 (x.toNat:Int),.ptr 0 0,.ptr 1 0] [.cells 0 true false [.fz p.length (rP p)],.cells 0 true false [.own 2 l.length],.cells 1 true true (rNt l)] (.tup [])
   [.cells 0 true false [.fz p.length (rP p)],.cells 0 true false [.own 3 (qis i x j l).length],.dead,.cells 1 true true (rNt (qis i x j l))]:=by
 refine Upd.mkd hc (by simp[qam,bnd,zP (qx p)]) (by simp) ?_
 have hjl:j<p.length:=(zzS.1 hj).1;have hel:=zj (f:=qD) (m:=4) qaN hj;rw[show p.flatMap qD=rP p from rfl] at hel
 have h4:j*4+4<=(rP p).length:=by rw[qdS];omega
 have hr1:l.length+1<=qg:=by simp only[qg];omega
 have hr2:(l.length+1)*8<=qg:=by simp only[qg];omega
 have hap:rNt l++[.i .i64 (j:Int)]=rNt (l++[j]):=by rw[← qpa];rfl
 have hll:(rNt l).length=l.length:=qji;simp only[qdl,vI,simprocAttr];simp +decide only[↓vS,vT,simprocAttr,hjl,hel,h4];refine (hg i hi).sc ?_;unfold qis
 by_cases h0:rdM i &&& ~~~ x=0#16
 ·have h0':(((rdM i &&& ~~~ x).toNat:Nat):Int)=0:=by rw[h0];rfl
  rw[if_pos h0];simp +decide only[↓vS,vT,simprocAttr,qxA,h0'];intro _;refine⟨[0,1,2,2],?_⟩;simp[vw,qh,qx,qT,qaL,rl];intro b hb;have:b=0∨b=1∨b=2:=by omega
  rcases this with rfl|rfl|rfl<;>simp
 ·have h0':¬(((rdM i &&& ~~~ x).toNat:Nat):Int)=0:=fun h=>h0 (by
   have:(rdM i &&& ~~~ x).toNat=0:=by omega
   exact BitVec.eq_of_toNat_eq this)
  rw[if_neg h0];simp +decide only[↓vS,vT,simprocAttr,qxA,h0',Nat.mul_one,hr1,hr2,hll,hap];intro _;refine⟨[0,1,2,4],?_⟩;simp[vw,qh,qx,qT,qaL,rl];intro b hb;have:b=0∨b=1∨b=2:=by omega
  rcases this with rfl|rfl|rfl<;>simp
def qC:IFn:=⟨[.tmp 2],.seq (.r [.m 2 .N]) (.seq (.seq (.r [.n 6 0,.e 7 6,.w 8 .lss 7 2]) (.cond (.t 8) (.seq (.r [.n 9 0,.n 2 9]) (.ret)) (.skip))) (.seq (.seq (.r [.m 3 (.k 1)]) (.blk 0 (.loop (.seq (.seq (.r [.n 10 3,.n 11 0,.e 12 11,.s 13 10 12]) (.cond (.t 13) (.skip) (.exit 0))) (.seq (.blk 1 (.seq (.reg true [.n 16 0,.n 17 3,.i 18 1 16 17,.d 19 18,.n 20 0,.n 21 3,.w 22 .sub 21 1,.i 23 1 20 22,.d 24 23,.b 25 .eql 19 24]) (.cond (.t 25) (.seq (.r [.n 26 0,.n 27 3,.q 28 (.slcS 1 (.t 26) (some (.t 27)) none none),.n 4 28]) (.seq (.seq (.r [.m 5 (.k 1)]) (.blk 2 (.loop (.seq (.seq (.r [.n 29 5,.n 30 4,.e 31 30,.s 32 29 31]) (.cond (.t 32) (.skip) (.exit 2))) (.seq (.blk 3 (.seq (.reg true [.n 35 4,.n 36 5,.i 37 1 35 36,.d 38 37,.n 39 4,.n 40 5,.w 41 .sub 40 1,.i 42 1 39 41,.d 43 42,.b 44 .neq 38 43]) (.cond (.t 44) (.seq (.r [.n 45 0,.n 46 3,.n 47 4,.n 48 5,.i 49 1 47 48,.d 50 49,.i 51 1 45 46,.u (.store 1 (.t 51) (.t 50))]) (.r [.n 52 3,.a 53 52 1,.n 3 53])) (.skip)))) (.r [.n 33 5,.a 34 33 1,.n 5 34])))))) (.seq (.r [.n 54 0,.n 55 3,.q 56 (.slcS 1 (.t 54) (some (.t 55)) none none),.u (.clear [.i .i64 0] (.t 56))]) (.seq (.r [.n 57 0,.n 58 3,.q 59 (.slcS 1 (.t 57) none (some (.t 58)) none),.n 2 59]) (.ret))))) (.skip)))) (.r [.n 14 3,.a 15 14 1,.n 3 15])))))) (.seq (.r [.n 60 0,.n 2 60]) (.ret))))⟩
theorem qrX(hc:qc P f qC=true):qd P f [.nils] .nils:=by
 refine qd.mk hc rfl ?_;simp only[qC,vI,simprocAttr];simp +decide only[↓vS,vT,simprocAttr];simp[vZ]
theorem qmD(hc:qc P f qC=true)(x:Int):Upd P f [.sl 0 0 1 1 false] [.cells 0 true false [.i .i64 x]] (.sl 0 0 1 1 false) [.cells 0 true false [.i .i64 x]]:=by
 refine Upd.mk hc (by simp[qam,bnd]) (by simp) ?_;simp only[qC,vI,simprocAttr];simp +decide only[↓vS,vT,simprocAttr];intro _;refine⟨[0],?_⟩;simp[vw,qh]
theorem qmE(hc:qc P f qC=true)(x y:Int):Upd P f [.sl 0 0 2 2 false] [.cells 0 true false [.i .i64 x,.i .i64 y]] (.sl 0 0 (if x=y then 1 else 2) 2 false) [.cells 0 true false [.i .i64 x,.i .i64 (if x=y then 0 else y)]]:=by
 refine Upd.mk hc (by simp[qam,bnd]) (by simp) ?_;simp only[qC,vI,simprocAttr];simp +decide only[↓vS,vT,simprocAttr];refine SL.loopn (α:=Nat) (fun k=>[(0,.sl 0 0 2 2 false),(3,.i .i64 (k:Int))]) (fun _=>[.cells 0 true false [.i .i64 x,.i .i64 y]]) (fun k=>k=1∨k=2∧x≠y) (fun k=>2-k) 1 [0] ?_ ?_ ?_ rfl ?_ ?_ ?_ ?_
 ·simp[vw]
 ·simp[vw]
 ·simp
 ·simp
 ·intro b hb;obtain rfl:b=0:=by omega
  rfl
 ·exact .inl rfl
 rintro k hk G ih;have hw0:IntKind.wrap .i64 0=0:=rfl;have hw1:IntKind.wrap .i64 1=1:=rfl;have hw2:IntKind.wrap .i64 2=2:=rfl;simp only[vI,simprocAttr];rcases hk with rfl|⟨rfl,hne⟩
 ·by_cases h:x=y
  ·subst h;simp +decide only[↓vS,vT,simprocAttr];refine zD ?_;simp +decide only[↓vS,vT,simprocAttr,hw0];refine SL.loopn (α:=Unit) (fun _=>[(0,.sl 0 0 2 2 false),(3,.i .i64 1),(4,.sl 0 1 1 1 false),(5,.i .i64 1)]) (fun _=>[.cells 0 true false [.i .i64 x,.i .i64 x]]) (fun _=>True) (fun _=>0) () [0] ?_ ?_ ?_ rfl ?_ ?_ ?_ ?_
   ·simp[vw]
   ·simp[vw]
   ·simp
   ·simp
   ·intro b hb;obtain rfl:b=0:=by omega
    rfl
   ·trivial
   rintro _ _ G2 _;simp only[vI,simprocAttr];simp +decide only[↓vS,vT,simprocAttr];intro _;refine⟨[0],?_⟩;simp[vw,qh]
  ·have h':¬y=x:=fun e=>h e.symm
   simp +decide only[↓vS,vT,simprocAttr];refine zD ?_;simp +decide only[↓vS,vT,simprocAttr,h',hw0,hw1,hw2];refine ih 2 (.inr ⟨rfl,h⟩) (by decide) _ _ (Wk.mkn _ _ [0] ?_ ?_ ?_ rfl ?_ ?_)
   ·simp[vw]
   ·simp[vw]
   ·simp
   ·simp
   ·intro b hb;obtain rfl:b=0:=by omega
    rfl
 ·simp +decide only[↓vS,vT,simprocAttr,hne,if_false];intro _;refine⟨[0],?_⟩;simp[vw,qh,hne]
def loM(i:Ins):Int:=if i.jf<i.jt then i.jf else i.jt
def hiM(i:Ins):Int:=if i.jt<i.jf then i.jf else i.jt
def qbE(i:Ins)(at':Nat):List Nat :=
 if ql i.code=0∨ql i.code=5 then []
 else if ql i.code=4 then (if i.code=5 then [at'+1+i.k.toNat] else if loM i=hiM i then [at'+1+(loM i).toNat] else [at'+1+(loM i).toNat,at'+1+(hiM i).toNat])
 else [at'+1]
def goM(n:Nat)(x:BitVec 16):List Nat->List (BitVec 16)×List Bool->List (BitVec 16)×List Bool
 | [],st=>st
 | m::L,st=>if m<n then goM n x L (qbC st.1 st.2 m x,st.2.set m true) else st
theorem qsu{n:Nat}{x:BitVec 16}{m:Nat}{L:List Nat}{st:List (BitVec 16)×List Bool}:goM n x (m::L) st=if m<n then goM n x L (qbC st.1 st.2 m x,st.2.set m true) else st:=rfl
theorem qoO{n:Nat}{x:BitVec 16}:∀(L:List Nat) (st:List (BitVec 16)×List Bool),(goM n x L st).1.length=st.1.length∧(goM n x L st).2.length=st.2.length
 | [],_=>⟨rfl,rfl⟩
 | m::L,st=>by
  unfold goM;split
  ·have:=qoO (n:=n) (x:=x) L (qbC st.1 st.2 m x,st.2.set m true);simpa[qbC] using this
  ·exact⟨rfl,rfl⟩
def wkB(p:List Ins)(gc:Nat)(l:List Nat)(st:List (BitVec 16)×List Bool):List Blk:=[.cells 0 true false [.fz p.length (rP p)],.cells 0 true false [.own 2 l.length],.cells 1 true true (rNt l),.cells 0 true false (rW st.1),.cells 0 true false (rTt st.2),.cells 0 true false [.sl 3 0 st.1.length st.1.length false],.cells 0 true false [.sl 4 0 st.1.length st.1.length false],.cells 0 true false [.fn gc [] [.ptr 6 0,.ptr 5 0]]]
def wI(p:List Ins)(gc:Nat)(l:List Nat)(st:List (BitVec 16)×List Bool)(j:Nat)(i:Ins):List Blk:=wkB p gc l st++[.cells 0 true false [.i .i64 (j:Int)],.cells 0 true false (qD i)]
def qdW(gv:Nat):AV:=.fn gv [] [.ptr 0 0,.ptr 1 0]
def qh1(gw:Nat)(p:List Ins)(j:Nat)(i:Ins):AV:=.fn gw [] [.pf (qD i) 0,.pf [.i .i64 (j:Int)] 0,.pf [.i .i64 (p.length:Int)] 0]
def wT(gv:Nat)(p:List Ins)(j:Nat):List (Nat×AV):=[(0,.fz p.length (rP p)),(1,qdW gv),(4,.ptr 5 0),(5,.ptr 6 0),(6,.ptr 7 0),(20,.fz p.length (rP p)),(21,.i .i64 (p.length:Int)),(22,.i .i64 (j:Int))]
def wTr(gv gw:Nat)(p:List Ins)(j:Nat)(i:Ins):List (Nat×AV):=wT gv p j++[(7,.ptr 8 0),(8,.ptr 9 0),(47,qh1 gw p j i)]
def zX(a b:Nat):ICode:=.blk 1 (.loop (.seq (.r [.s 52 51 50]) (.seq (.cond (.t 52) (.skip) (.exit 1)) (.seq (.blk 2 (.seq (.r [.i 53 1 49 51,.d 54 53,.n 7 54]) (.seq (.r [.n 55 7,.d 56 3,.b 57 .geq 55 56,.n 58 57,.z 59 0 58,.z 60 7 58,⟨(some 61),.callV (.t 59) [.t 60],(some (58,false))⟩,.g 62 (.un .not (.t 61)) 58 false,.o 63 58 62]) (.cond (.t 63) (.ret) (.skip))))) (.r [.a 64 51 1,.n 51 64])))))
def jw(a b:Nat):IFn:=⟨[],.seq (.r [.m 5 .N]) (.seq (.seq (.r [.f 8 0 1,.d 9 8,.l 10 a [.t 9]]) (.blk 0 (.seq (.seq (.r [.q 15 (.bin .eql (.t 10) (.c (.i .u8 0))),.n 14 15]) (.cond (.t 14) (.skip) (.r [.q 16 (.bin .eql (.t 10) (.c (.i .u8 5))),.n 14 16]))) (.cond (.t 14) (.skip) (.seq (.r [.q 18 (.bin .eql (.t 10) (.c (.i .u8 4))),.n 17 18]) (.cond (.t 17) (.seq (.r [.d 19 2,.a 20 19 1,.f 21 1 1,.d 22 21,.f 23 2 1,.d 24 23,.q 25 (.min (.t 22) (.t 24)),.q 26 (.cvInt .i64 (.t 25)),.b 27 .add 20 26,.d 28 2,.a 29 28 1,.f 30 1 1,.d 31 30,.f 32 2 1,.d 33 32,.q 34 (.max (.t 31) (.t 33)),.q 35 (.cvInt .i64 (.t 34)),.b 36 .add 29 35,.q 37 (.buildS 2 [.i .i64 0] [(0,1,(.t 27)),(1,1,(.t 36))]),.n 5 37]) (.seq (.r [.f 38 0 1,.d 39 38,.q 40 (.bin .eql (.t 39) (.c (.i .u16 5)))]) (.cond (.t 40) (.r [.d 41 2,.a 42 41 1,.f 43 3 1,.d 44 43,.q 45 (.cvInt .i64 (.t 44)),.b 46 .add 42 45,.q 47 (.buildS 1 [.i .i64 0] [(0,1,(.t 46))]),.n 5 47]) (.skip)))) (.r [.d 11 2,.a 12 11 1,.q 13 (.buildS 1 [.i .i64 0] [(0,1,(.t 12))]),.n 5 13]))))))) (.seq (.r [.n 48 5,.l 49 b [.t 48],.e 50 49,.m 51 (.k 0)]) (.cut (zX a b))))⟩
def qbq(a b c:Nat):ICode:=.r [.a 59 22 1,.n 22 59]
def qbp(a b c:Nat):ICode:=.seq (.r [.v 43 4 8,.d 44 7,.n 45 0,.e 46 45,.l 47 b [.t 43,.t 44,.t 46]]) (.blk 2 (.rangeF 0 (.t 47) [48] (.r [.n 9 48]) (.blk 3 (.reg true [.d 49 6,.n 50 9,.d 51 4,.d 52 7,.i 53 1 51 52,.d 54 53,.v 55 4 8,.l 56 c [.t 55],.b 57 .or 54 56,⟨(some 58),.callVW (.t 49) [.t 50,.t 57],none⟩]))))
def qbo(a b c:Nat):ICode:=.seq (.seq (.r [.d 31 5,.d 32 7,.i 33 1 31 32,.d 34 33,.q 35 (.un .not (.t 34))]) (.cond (.t 35) (.exit 1) (.skip))) (.seq (.reg true [.n 36 1,.d 37 7,.d 38 4,.d 39 7,.i 40 1 38 39,.d 41 40,⟨(some 42),.callVW (.t 36) [.t 37,.t 41],none⟩]) (.cut (qbp a b c)))
def qgi(a b c:Nat):IFn:=⟨[],.seq (.seq (.r [.n 10 0,.e 11 10,.w 12 .gtr 11 4096]) (.cond (.t 12) (.ret) (.skip))) (.seq (.reg true [.n 13 0,.e 14 13,.q 15 (.mkS 1 2 [.i .u16 0] (.t 14) (.t 14)),.n 16 0,.e 17 16,.q 18 (.mkS 1 1 [.b false] (.t 17) (.t 17)),.q 4 (.alloc [.nils]),.q 5 (.alloc [.nils]),.u (.storeD 1 (.t 4) (.t 15) []),.u (.store 1 (.t 5) (.t 18))]) (.seq (.r [.q 19 (.mkF a [] [.t 5,.t 4]),.q 6 (.alloc [.nilf]),.u (.store 1 (.t 6) (.t 19))]) (.seq (.r [.n 20 0,.e 21 20,.m 22 (.k 0)]) (.blk 0 (.loop (.seq (.r [.s 23 22 21]) (.seq (.cond (.t 23) (.skip) (.exit 0)) (.seq (.blk 1 (.seq (.r [.n 24 22,.i 25 4 20 22,.v 26 4 25,.q 7 (.alloc [.i .i64 0]),.q 8 (.alloc [.i .u16 0,.i .u8 0,.i .u8 0,.i .u32 0]),.u (.store 1 (.t 7) (.t 24)),.u (.store 4 (.t 8) (.t 26))]) (.seq (.seq (.r [.d 27 7,.w 28 .eql 27 0]) (.cond (.t 28) (.r [.d 29 6,⟨(some 30),.callVW (.t 29) [.k 0,(.c (.i .u16 0))],none⟩]) (.skip))) (.cut (qbo a b c))))) (.cut (qbq a b c))))))))))⟩
def aW:ICode:=.r [.n 9 48]
def bW(fw:Nat):ICode:=.blk 3 (.reg true [.d 49 6,.n 50 9,.d 51 4,.d 52 7,.i 53 1 51 52,.d 54 53,.v 55 4 8,.l 56 fw [.t 55],.b 57 .or 54 56,⟨(some 58),.callVW (.t 49) [.t 50,.t 57],none⟩])
structure RecOk (P:Program) (r0:Loop) (ps:List Nat) (ai bi:ICode):Prop where
 st:r0.state = .ready
 pd:r0.pending=none
 ok:LoopOk P r0 ps ai bi
theorem qrR{i:Ins}:List.take 4 (List.drop 0 (qD i))=qD i:=rfl
theorem qxz{i:Ins}:4<=(qD i).length:=Nat.le_refl 4
def qoA(P:Program)(gc:Nat):Prop:=∀(s:List (BitVec 16)) (r:List Bool),r.length=s.length->∀j:Nat,j<s.length->∀x:BitVec 16,
  Upd P gc [.i .i64 j,.i .u16 (x.toNat:Int),.ptr 3 0,.ptr 2 0] (qfh [] s r) (.tup []) (qfh [] (qbC s r j x) (r.set j true))
def cWr(P:Program)(g:Nat):Prop:=∀i,InsOk i->qd P g [.agg (qD i)] (.i .u16 ((wrM i).toNat:Int))
theorem qjn{g1 g2 g3 gc gv gw:Nat}(hcome:qoA P gc)(hwr:cWr P g3)(p:List Ins)(hp:p.length<=4096)(i:Ins)(hi:InsOk i)(j:Nat)(l:List Nat)
  (r0:Loop) (hr:RecOk P r0 [48] aW (bW g3)) (L:List Nat) (ex:List AV) (hex:qu ex=true) (cp:Nat) (hcp:L.length<=cp) (hL:∀n ∈ L,j<n) (hL4:L.length<=4)
  (x:BitVec 16) (s0:List (BitVec 16)×List Bool) (hs1:s0.1.length=p.length) (hs2:s0.2.length=p.length) (hx:s0.1[j]?=some x) (Qf:AV->Hp->Prop)
  (hQ:Qf (.tup []) (mkH 0 (wI p gc l (goM p.length (x ||| wrM i) L s0) j i++[.map (zn r0 (wTr gv gw p j i)),.cells 0 true false (rNt L++ex)])))
  {t':Tr AV} {h':Hp} (hw:Wk 11 t' h' (mkT [(0,.yl 10),(3,.pf [.i .i64 (p.length:Int)] 0),(49,.sl 11 0 L.length cp false),(50,.i .i64 (L.length:Int)),(51,.i .i64 0)]) (mkH 0 (wI p gc l s0 j i++[.map (zn r0 (wTr gv gw p j i)),.cells 0 true false (rNt L++ex)]))) :
  S P 11 (zX g1 g2) (qac [] Qf) t' h':=by
 refine S.weak hw (qj ?_);have hid:=qil hr.st hr.pd;simp only[zX,wI,wkB,List.cons_append,List.nil_append,vI,simprocAttr];simp +decide only[↓vS,vT,simprocAttr]
 refine SL.loopn (α:=Nat×(List (BitVec 16)×List Bool)) (fun a=>[(0,.yl 10),(3,.pf [.i .i64 (p.length:Int)] 0),(49,.sl 11 0 L.length cp false),(50,.i .i64 (L.length:Int)),(51,.i .i64 (a.1:Int))])
  (fun a=>wI p gc l a.2 j i++[.map (zn r0 (wTr gv gw p j i)),.cells 0 true false (rNt L++ex)])
  (fun a=>a.1<=L.length∧a.2.1.length=p.length∧a.2.2.length=p.length∧a.2.1[j]?=some x∧goM p.length (x ||| wrM i) (L.drop a.1) a.2=goM p.length (x ||| wrM i) L s0) (fun a=>L.length-a.1) (0,s0) [0,1,2,3,4,5,6,7,8,9,10,11] ?_ ?_ ?_ rfl ?_ ?_ ?_ ?_
 ·simp[vw,wI,wkB]
 ·simp[vw,wI,wkB,wTr,wT,qdW,qh1,qx,qT,zA,zf,qh,hex,qD,qcv,qcC,qbA,jq,xr]
 ·simp
 ·simp[wI,wkB]
 ·intro b hb;have:b=0∨b=1∨b=2∨b=3∨b=4∨b=5∨b=6∨b=7∨b=8∨b=9∨b=10:=by omega
  rcases this with rfl|rfl|rfl|rfl|rfl|rfl|rfl|rfl|rfl|rfl|rfl<;>rfl
 ·exact⟨Nat.zero_le _,hs1,hs2,hx,rfl⟩
 rintro⟨q,s,r⟩ ⟨hq,hl1,hl2,hxq,hgo⟩ G ih;simp only at hq hl1 hl2 hxq hgo;simp only[wI,wkB,List.cons_append,List.nil_append,vI,simprocAttr]
 by_cases hlt:q<L.length
 ·obtain⟨n,hn⟩:∃n,L[q]?=some n:=⟨_,zzE hlt⟩;have hjn:=hL n (zzM hn);have hgn:(rNt L++ex)[q]?=some (.i .i64 (n:Int)):=by rw[List.getElem?_append_left (by rw[qji];exact hlt),qpb,hn];rfl
  have hqc:q<cp:=by omega
  simp +decide only[↓vS,vT,simprocAttr,hlt,Nat.mul_one,hgn]
  have hdr:L.drop q=n::L.drop (q+1):=by
   obtain⟨hh,he⟩:=zzS.1 hn;rw[List.drop_eq_getElem_cons hh,he]
  rw[hdr,qsu] at hgo
  by_cases hnl:n<p.length
  ·have hnl':¬(p.length:Int)<=(n:Int):=by omega
   rw[if_pos hnl] at hgo;have hw1:IntKind.wrap .i64 ((q:Int)+1)=((q+1:Nat):Int):=by rw[qq (by omega) (by omega)];omega
   have hjs:j<p.length:=hl1 ▸ (zzS.1 hxq).1;have hcm:=hcome s r (by omega) n (by omega) (x ||| wrM i)
   have hln:(qbC s r n (x ||| wrM i)).length=p.length:=by simp[qbC,hl1]
   have hxn:(qbC s r n (x ||| wrM i))[j]?=some x:=by unfold qbC;rw[List.getElem?_set_ne (by omega)];exact hxq
   have hln2:(r.set n true).length=p.length:=by simp[hl2]
   have ih2:=ih (q+1,qbC s r n (x ||| wrM i),r.set n true) ⟨hlt,hln,hln2,hxn,hgo⟩ (by simp only;omega)
   simp +decide only[↓vS,vT,simprocAttr,hnl'];refine SY.mk (r:=r0) (ts:=wTr gv gw p j i) (ps:=[48]) (ai:=aW) (bi:=bW g3) (by simp[Tr.get_set]) hr.st hr.ok (Nat.zero_le _) (by show 10<12;decide) rfl ?_;rw[show mkT (wTr gv gw p j i)=mkT [(0,.fz p.length (rP p)),(1,qdW gv),(4,.ptr 5 0),(5,.ptr 6 0),(6,.ptr 7 0),(20,.fz p.length (rP p)),(21,.i .i64 (p.length:Int)),(22,.i .i64 (j:Int)),(7,.ptr 8 0),(8,.ptr 9 0),(47,qh1 gw p j i)] from rfl]
   refine qj ?_;simp only[aW,qkz,vI,simprocAttr];simp only[↓vS,vT,simprocAttr];refine⟨wTr gv gw p j i,by simp[Tr.get_set],?_⟩
   refine qj ?_;simp only[z7,bW,vI,simprocAttr];simp +decide only[↓vS,vT,simprocAttr];refine zD ?_;simp +decide only[↓vS,vT,simprocAttr,hl1,hjs,Nat.mul_one,qlZ,hxq,Option.map_some,qrR,qxz];refine (hwr i hi).pc ?_;simp +decide only[↓vS,vT,simprocAttr,qEA];refine hcm.pc (vs:=[.i .i64 n,.i .u16 ((x ||| wrM i).toNat:Int),.ptr 3 0,.ptr 2 0]) [3,4,5,6] (Lent.of (by decide) ?_) ?_
   ·simp[vL,vw,qfh,zP zA,qN zA,zP zf,qN zf,hl1]
   simp only[vK,simprocAttr,qfh,qN zA,qN zf];simp +decide only[↓vS,vT,simprocAttr];refine⟨bsy r0,wTr gv gw p j i,by simp[Tr.get_set],?_⟩
   rw[qhQ,hid];simp only[z7];simp +decide only[↓vS,vT,simprocAttr,hw1,hnl'];refine ih2 _ _ (Wk.mkn _ _ [0,1,2,3,4,5,6,7,8,9,10,11] ?_ ?_ ?_ rfl ?_ ?_)
   ·simp[vw,wI,wkB]
   ·simp[vw,wI,wkB,wTr,wT,qdW,qh1,qx,qT,zA,zf,qh,hex,qD,qcv,qcC,qbA,jq,xr]
   ·simp
   ·simp[wI,wkB]
   ·intro b hb;have:b=0∨b=1∨b=2∨b=3∨b=4∨b=5∨b=6∨b=7∨b=8∨b=9∨b=10:=by omega
    rcases this with rfl|rfl|rfl|rfl|rfl|rfl|rfl|rfl|rfl|rfl|rfl<;>rfl
  ·have hnl':(p.length:Int)<=(n:Int):=by omega
   rw[if_neg hnl] at hgo;simp +decide only[↓vS,vT,simprocAttr,hnl'];rw[← hgo] at hQ;exact hQ
 ·obtain rfl:q=L.length:=by omega
  simp +decide only[↓vS,vT,simprocAttr,hlt];rw[List.drop_length] at hgo;rw[← hgo] at hQ;exact hQ
def qgj(a:Nat):IFn:=⟨[.tmp 6],.seq (.r [.q 3 (.box (.t 0)),.q 4 (.box (.t 1)),.q 5 (.box (.t 2)),.m 6 (.c (.nilf))]) (.seq (.r [.q 7 (.mkF a [] [.t 3,.t 4,.t 5]),.n 6 7]) (.ret))⟩
theorem qD5{g:Nat}(hc:qc P f (qgj g)=true)(i:Ins)(j n:Nat):qd P f [.agg (qD i),.i .i64 (j:Int),.i .i64 (n:Int)] (.fn g [] [.pf (qD i) 0,.pf [.i .i64 (j:Int)] 0,.pf [.i .i64 (n:Int)] 0]):=by
 refine qd.mk hc rfl ?_;simp only[qgj,vI,simprocAttr];simp +decide only[↓vS,vT,simprocAttr];simp[vZ,vP,Tr.get_set,qD]
theorem qlW{x:Nat}:rNt [x]=[.i .i64 (x:Int)]:=rfl
theorem qlX{x y:Nat}:rNt [x,y]=[.i .i64 (x:Int),.i .i64 (y:Int)]:=rfl
theorem quB{g1 g2:Nat}(g3 gv gw gc:Nat)(p:List Ins)(i:Ins)(j:Nat)(l:List Nat)(r0:Loop)(s0:List (BitVec 16)×List Bool)(Qf:AV->Hp->Prop)
  (hQ:Qf (.tup []) (mkH 0 (wI p gc l s0 j i++[.map (zn r0 (wTr gv gw p j i))])))
  {t':Tr AV} {h':Hp} (hw:Wk 11 t' h' (mkT [(50,.i .i64 0),(51,.i .i64 0)]) (mkH 0 (wI p gc l s0 j i++[.map (zn r0 (wTr gv gw p j i))]))) :
  S P 11 (zX g1 g2) (qac [] Qf) t' h':=by
 refine S.weak hw (qj ?_);simp only[zX,wI,wkB,List.cons_append,List.nil_append,vI,simprocAttr];simp +decide only[↓vS,vT,simprocAttr];refine SL.loopn (α:=Unit) (fun _=>[(50,.i .i64 0),(51,.i .i64 0)]) (fun _=>wI p gc l s0 j i++[.map (zn r0 (wTr gv gw p j i))]) (fun _=>True) (fun _=>0) () [0,1,2,3,4,5,6,7,8,9,10] ?_ ?_ ?_ rfl ?_ ?_ ?_ ?_
 ·simp[vw,wI,wkB]
 ·simp[vw,wI,wkB,wTr,wT,qdW,qh1,qx,qT,zA,zf,qh,qD,qcv,qcC,qbA,jq,xr]
 ·simp
 ·simp[wI,wkB]
 ·intro b hb;have:b=0∨b=1∨b=2∨b=3∨b=4∨b=5∨b=6∨b=7∨b=8∨b=9∨b=10:=by omega
  rcases this with rfl|rfl|rfl|rfl|rfl|rfl|rfl|rfl|rfl|rfl|rfl<;>rfl
 ·trivial
 rintro _ _ G _;simp only[wI,wkB,List.cons_append,List.nil_append,vI,simprocAttr];simp +decide only[↓vS,vT,simprocAttr];exact hQ
theorem quA{g1 g2 g3 g4 gc gv gw:Nat}(hcw:qc P gw (jw g1 g2)=true)(hof:cOf P g1)(hcc:qc P g2 qC=true)(hcome:qoA P gc)(hwr:cWr P g3)
  (hwy:∀i (j n:Nat),qd P g4 [.agg (qD i),.i .i64 (j:Int),.i .i64 (n:Int)] (.fn gw [] [.pf (qD i) 0,.pf [.i .i64 (j:Int)] 0,.pf [.i .i64 (n:Int)] 0]))
  (p:List Ins) (hp:p.length<=4096) (i:Ins) (hi:InsOk i) (j:Nat) (hj:j<p.length) (l:List Nat)
  (x:BitVec 16) (s0:List (BitVec 16)×List Bool) (hs1:s0.1.length=p.length) (hs2:s0.2.length=p.length) (hx:s0.1[j]?=some x) (Q:X->Tr AV->Hp->Prop)
  (hQ:∀t'' h'',Wk 2 t'' h'' (mkT (wT gv p j)) (mkH 0 (wkB p gc l (goM p.length (x ||| wrM i) (qbE i j) s0)))->Q .normal t'' h'')
  {t':Tr AV} {h':Hp} (hw:Wk 2 t' h' (mkT (wT gv p j++[(7,.ptr 8 0),(8,.ptr 9 0)])) (mkH 0 (wI p gc l s0 j i))) :
  S P 2 (qbp gc g4 g3) Q t' h':=by
 refine S.weak hw (qj ?_);simp only[qbp,wT,wI,wkB,List.cons_append,List.nil_append,vI,simprocAttr];simp +decide only[↓vS,vT,simprocAttr,qrR,qxz];refine (hwy i j p.length).sc ?_;simp +decide only[↓vS,vT,simprocAttr];refine S.weak (Wk.mkn (wTr gv gw p j i) (wI p gc l s0 j i) [0,1,2,3,4,5,6,7,8,9] ?_ ?_ ?_ rfl ?_ ?_) ?_
 ·simp[vw,wTr,wT,qdW,qh1,qx,wI,wkB,qD]
 ·simp[vw,wI,wkB,qx,qT,zA,zf,qh,qD]
 ·simp
 ·simp[wI,wkB]
 ·intro b hb;have:b=0∨b=1:=by omega
  rcases this with rfl|rfl<;>rfl
 refine S.rangeF (by simp[qaL,wI,wkB]) (by simp[wTr,wT]) ⟨rfl,rfl⟩ ?_;refine qkN.2 ⟨qh1 gw p j i,by simp[wTr,wT,mkT,Tr.get_set],?_⟩
 refine⟨qfg hcw,fun r0 hr0 hp0 hlo=>SC.mk hcw ?_⟩
 have hrec:RecOk P r0 [48] aW (bW g3):=⟨hr0,hp0,hlo⟩;have hid:=qil hr0 hp0;obtain⟨Qf,hQf⟩:∃Qf:AV->Hp->Prop,Qf=qvv (mkH 0 (wI p gc l s0 j i)).sz (fun e t h=>onX e (Q .normal t h) (fun i=>if i=2 then Q .normal t h else Q (.exit i) t h) (Q .ret t h)) (mkT (wTr gv gw p j i)):=⟨_,rfl⟩
 have hfin0:Qf (.tup []) (mkH 0 (wI p gc l (goM p.length (x ||| wrM i) (qbE i j) s0) j i++[.map (zn r0 (wTr gv gw p j i))])):=by
  skip
  rw[hQf];refine⟨r0,wTr gv gw p j i,by rw[xI];rfl,by rw[hr0];decide,?_⟩
  rw[hp0];simp only[wI,wkB,wTr,wT,List.cons_append,List.nil_append,vI,simprocAttr,z7];simp only[qgY];refine hQ _ _ (Wk.mkn _ _ [0,1,2,3,4,5,6,7] ?_ ?_ ?_ rfl ?_ ?_)
  ·simp[vw,wT,qdW,qh1,qx,wkB,qD]
  ·simp[vw,wkB,qx,qT,zA,zf,qh,qD]
  ·simp
  ·simp[wkB]
  ·intro b hb;have:b=0∨b=1:=by omega
   rcases this with rfl|rfl<;>rfl
 have hfin1:∀cs:List AV,Qf (.tup []) (mkH 0 (wI p gc l (goM p.length (x ||| wrM i) (qbE i j) s0) j i++[.map (zn r0 (wTr gv gw p j i)),.cells 0 true false cs])):=by
  intro cs;rw[hQf];refine⟨r0,wTr gv gw p j i,by rw[xI];rfl,by rw[hr0];decide,?_⟩
  rw[hp0];simp only[wI,wkB,wTr,wT,List.cons_append,List.nil_append,vI,simprocAttr,z7];simp only[qgY];refine hQ _ _ (Wk.mkn _ _ [0,1,2,3,4,5,6,7] ?_ ?_ ?_ rfl ?_ ?_)
  ·simp[vw,wT,qdW,qh1,qx,wkB,qD]
  ·simp[vw,wkB,qx,qT,zA,zf,qh,qD]
  ·simp
  ·simp[wkB]
  ·intro b hb;have:b=0∨b=1:=by omega
   rcases this with rfl|rfl<;>rfl
 rw[← hQf];show S P 11 (jw g1 g2).body (qac [] Qf) (qcr [.yl 10,.pf (qD i) 0,.pf [.i .i64 (j:Int)] 0,.pf [.i .i64 (p.length:Int)] 0] 0 .leaf) (mkH 0 (wI p gc l s0 j i++[.map (zn r0 (wTr gv gw p j i))]));refine qj ?_;simp only[jw,wI,wkB,qD,List.cons_append,List.nil_append,vI,simprocAttr];simp +decide only[↓vS,vT,simprocAttr];refine (hof i.code).sc ?_;simp +decide only[↓vS,vT,simprocAttr];have hj1:IntKind.wrap .i64 ((j:Int)+1)=((j+1:Nat):Int):=by rw[qq (by omega) (by omega)];omega
 have hjj:∀a:Int,0<=a->a<=4294967295->IntKind.wrap .i64 (IntKind.wrap .i64 ((j:Int)+1)+IntKind.wrap .i64 a)=((j+1+a.toNat:Nat):Int):=by
  intro a h1 h2;rw[hj1,qq (x:=a) (by omega) (by omega),qq (by omega) (by omega)];omega
 have hk:=hjj i.k hi.k0 hi.k1;have hlo0:0<=loM i∧loM i<=255:=by have:=hi.t0;have:=hi.t1;have:=hi.f0;have:=hi.f1;unfold loM;split<;>omega
 have hhi0:0<=hiM i∧hiM i<=255:=by have:=hi.t0;have:=hi.t1;have:=hi.f0;have:=hi.f1;unfold hiM;split<;>omega
 have hlo:=hjj (loM i) hlo0.1 (by omega);have hhi:=hjj (hiM i) hhi0.1 (by omega)
 by_cases hA:ql i.code=0∨ql i.code=5
 ·have hwl:qbE i j=[]:=by unfold qbE;rw[if_pos hA]
  have h4:¬ql i.code=4:=by omega
  rw[hwl] at hfin0;have fin0:∀{t':Tr AV} {h':Hp},Wk 11 t' h' (mkT [(50,.i .i64 0),(51,.i .i64 0)]) (mkH 0 (wI p gc l s0 j i++[.map (zn r0 (wTr gv gw p j i))]))->S P 11 (zX g1 g2) (qac [] Qf) t' h':=fun hw=>quB g3 gv gw gc p i j l r0 s0 Qf hfin0 hw
  rcases hA with hA|hA<;>(
   simp +decide only[↓vS,vT,simprocAttr,hA];refine (qrX hcc).sc ?_;simp +decide only[↓vS,vT,simprocAttr];refine fin0 (Wk.mkn _ _ [0,1,2,3,4,5,6,7,8,9,10] ?_ ?_ ?_ rfl ?_ ?_)
   ·simp[vw,wI,wkB]
   ·simp[vw,wI,wkB,wTr,wT,qdW,qh1,qx,qT,zA,zf,qh,qD,qcv,qcC,qbA,jq,xr]
   ·simp
   ·simp[wI,wkB]
   ·intro b hb;have:b=0∨b=1∨b=2∨b=3∨b=4∨b=5∨b=6∨b=7∨b=8∨b=9∨b=10:=by omega
    rcases this with rfl|rfl|rfl|rfl|rfl|rfl|rfl|rfl|rfl|rfl|rfl<;>rfl)
 by_cases h4:ql i.code=4
 ·have h0:¬ql i.code=0:=fun h=>hA (.inl h)
  have h5:¬ql i.code=5:=fun h=>hA (.inr h)
  simp +decide only[↓vS,vT,simprocAttr,h4,hj1]
  by_cases hja:i.code=5
  ·have hwl:qbE i j=[j+1+i.k.toNat]:=by unfold qbE;rw[if_neg hA,if_pos h4,if_pos hja]
   rw[if_pos hja];simp only[hk];refine (qmD hcc ((j+1+i.k.toNat:Nat):Int)).sc (vs:=[.sl 0 0 1 1 false]) [12] (Lent.of (by decide) ?_) ?_
   ·simp[vL,vw]
   simp only[vK,simprocAttr];simp +decide only[↓vS,vT,simprocAttr];refine qjn (gv:=gv) (gw:=gw) (gc:=gc) hcome hwr p hp i hi j l r0 hrec [j+1+i.k.toNat] [] rfl 1 (by simp) (by simp;try omega) (by simp) x s0 hs1 hs2 hx Qf (by rw[← hwl];exact hfin1 _) (Wk.mkn _ _ [0,1,2,3,4,5,6,7,8,9,10,12] ?_ ?_ ?_ rfl ?_ ?_)
   ·simp[vw,wI,wkB]
   ·simp[vw,wI,wkB,wTr,wT,qdW,qh1,qx,qT,zA,zf,qh,qD,qcv,qcC,qbA,jq,xr,qlW,qlX]
   ·simp
   ·simp[wI,wkB]
   ·intro b hb;have:b=0∨b=1∨b=2∨b=3∨b=4∨b=5∨b=6∨b=7∨b=8∨b=9∨b=10:=by omega
    rcases this with rfl|rfl|rfl|rfl|rfl|rfl|rfl|rfl|rfl|rfl|rfl<;>rfl
  ·rw[if_neg hja];simp only[show (if i.jf<i.jt then i.jf else i.jt)=loM i from rfl,show (if i.jt<i.jf then i.jf else i.jt)=hiM i from rfl,hlo,hhi]
   by_cases hlh:loM i=hiM i
   ·have hwl:qbE i j=[j+1+(loM i).toNat]:=by unfold qbE;rw[if_neg hA,if_pos h4,if_neg hja,if_pos hlh]
    refine (qmE hcc ((j+1+(loM i).toNat:Nat):Int) ((j+1+(hiM i).toNat:Nat):Int)).sc (vs:=[.sl 0 0 2 2 false]) [11] (Lent.of (by decide) ?_) ?_
    ·simp[vL,vw]
    rw[hlh,if_pos rfl,if_pos rfl];rw[hlh] at hwl;simp only[vK,simprocAttr];simp +decide only[↓vS,vT,simprocAttr];refine qjn (gv:=gv) (gw:=gw) (gc:=gc) hcome hwr p hp i hi j l r0 hrec [j+1+(hiM i).toNat] [.i .i64 0] rfl 2 (by simp) (by simp;try omega) (by simp) x s0 hs1 hs2 hx Qf (by rw[← hwl];exact hfin1 _) (Wk.mkn _ _ [0,1,2,3,4,5,6,7,8,9,10,11] ?_ ?_ ?_ rfl ?_ ?_)
    ·simp[vw,wI,wkB]
    ·simp[vw,wI,wkB,wTr,wT,qdW,qh1,qx,qT,zA,zf,qh,qD,qcv,qcC,qbA,jq,xr,qlW,qlX]
    ·simp
    ·simp[wI,wkB]
    ·intro b hb;have:b=0∨b=1∨b=2∨b=3∨b=4∨b=5∨b=6∨b=7∨b=8∨b=9∨b=10:=by omega
     rcases this with rfl|rfl|rfl|rfl|rfl|rfl|rfl|rfl|rfl|rfl|rfl<;>rfl
   ·have hwl:qbE i j=[j+1+(loM i).toNat,j+1+(hiM i).toNat]:=by unfold qbE;rw[if_neg hA,if_pos h4,if_neg hja,if_neg hlh]
    refine (qmE hcc ((j+1+(loM i).toNat:Nat):Int) ((j+1+(hiM i).toNat:Nat):Int)).sc (vs:=[.sl 0 0 2 2 false]) [11] (Lent.of (by decide) ?_) ?_
    ·simp[vL,vw]
    rw[if_neg (by omega),if_neg (by omega)];simp only[vK,simprocAttr];simp +decide only[↓vS,vT,simprocAttr];refine qjn (gv:=gv) (gw:=gw) (gc:=gc) hcome hwr p hp i hi j l r0 hrec [j+1+(loM i).toNat,j+1+(hiM i).toNat] [] rfl 2 (by simp) (by simp;try omega) (by simp) x s0 hs1 hs2 hx Qf (by rw[← hwl];exact hfin1 _) (Wk.mkn _ _ [0,1,2,3,4,5,6,7,8,9,10,11] ?_ ?_ ?_ rfl ?_ ?_)
    ·simp[vw,wI,wkB]
    ·simp[vw,wI,wkB,wTr,wT,qdW,qh1,qx,qT,zA,zf,qh,qD,qcv,qcC,qbA,jq,xr,qlW,qlX]
    ·simp
    ·simp[wI,wkB]
    ·intro b hb;have:b=0∨b=1∨b=2∨b=3∨b=4∨b=5∨b=6∨b=7∨b=8∨b=9∨b=10:=by omega
     rcases this with rfl|rfl|rfl|rfl|rfl|rfl|rfl|rfl|rfl|rfl|rfl<;>rfl
 ·have h0:¬ql i.code=0:=fun h=>hA (.inl h)
  have h5:¬ql i.code=5:=fun h=>hA (.inr h)
  have hwl:qbE i j=[j+1]:=by unfold qbE;rw[if_neg hA,if_neg h4]
  simp +decide only[↓vS,vT,simprocAttr,h0,h4,h5,hj1];simp only[hj1];refine (qmD hcc ((j+1:Nat):Int)).sc (vs:=[.sl 0 0 1 1 false]) [11] (Lent.of (by decide) ?_) ?_
  ·simp[vL,vw]
  simp only[vK,simprocAttr];simp +decide only[↓vS,vT,simprocAttr];refine qjn (gv:=gv) (gw:=gw) (gc:=gc) hcome hwr p hp i hi j l r0 hrec [j+1] [] rfl 1 (by simp) (by simp;try omega) (by simp) x s0 hs1 hs2 hx Qf (by rw[← hwl];exact hfin1 _) (Wk.mkn _ _ [0,1,2,3,4,5,6,7,8,9,10,11] ?_ ?_ ?_ rfl ?_ ?_)
  ·simp[vw,wI,wkB]
  ·simp[vw,wI,wkB,wTr,wT,qdW,qh1,qx,qT,zA,zf,qh,qD,qcv,qcC,qbA,jq,xr,qlW,qlX]
  ·simp
  ·simp[wI,wkB]
  ·intro b hb;have:b=0∨b=1∨b=2∨b=3∨b=4∨b=5∨b=6∨b=7∨b=8∨b=9∨b=10:=by omega
   rcases this with rfl|rfl|rfl|rfl|rfl|rfl|rfl|rfl|rfl|rfl|rfl<;>rfl
abbrev WSt:=List Nat×(List (BitVec 16)×List Bool)
def qcb(j:Nat)(st:List (BitVec 16)×List Bool):List (BitVec 16)×List Bool:=if j=0 then (qbC st.1 st.2 0 0#16,st.2.set 0 true) else st
def stM(n j:Nat)(i:Ins)(st:WSt):WSt :=
 if (qcb j st.2).2.getD j false=true then (qis i ((qcb j st.2).1.getD j 0#16) j st.1,goM n ((qcb j st.2).1.getD j 0#16 ||| wrM i) (qbE i j) (qcb j st.2)) else (st.1,qcb j st.2)
def wkM(n:Nat):Nat->List Ins->WSt->WSt
 | _,[],st=>st
 | j,i::L,st=>wkM n (j+1) L (stM n j i st)
def qer(p:List Ins):List Nat:=(wkM p.length 0 p ([],(List.replicate p.length 0#16,List.replicate p.length false))).1
theorem qui{j:Nat}{st:List (BitVec 16)×List Bool}:(qcb j st).1.length=st.1.length∧(qcb j st).2.length=st.2.length:=by
 unfold qcb;split<;>simp[qbC]
theorem quz{i:Ins}{x:BitVec 16}{j:Nat}{l:List Nat}:(qis i x j l).length<=l.length+1:=by
 unfold qis;split<;>simp
def qCB(P:Program)(gv:Nat):Prop:=∀p:List Ins,p.length<=4096->∀l:List Nat,l.length<=4096->∀(j:Nat) (i:Ins),p[j]?=some i->InsOk i->∀x:BitVec 16,
  Upd P gv [.i .i64 j,.i .u16 (x.toNat:Int),.ptr 0 0,.ptr 1 0] [.cells 0 true false [.fz p.length (rP p)],.cells 0 true false [.own 2 l.length],.cells 1 true true (rNt l)] (.tup [])
   [.cells 0 true false [.fz p.length (rP p)],.cells 0 true false [.own 3 (qis i x j l).length],.dead,.cells 1 true true (rNt (qis i x j l))]
theorem qnF{g1 g2 g3 g4 gc gv gw:Nat}(hcw:qc P gw (jw g1 g2)=true)(hof:cOf P g1)(hcc:qc P g2 qC=true)(hcome:qoA P gc)(hwr:cWr P g3)(hvis:qCB P gv)
  (hwy:∀i (j n:Nat),qd P g4 [.agg (qD i),.i .i64 (j:Int),.i .i64 (n:Int)] (.fn gw [] [.pf (qD i) 0,.pf [.i .i64 (j:Int)] 0,.pf [.i .i64 (n:Int)] 0]))
  (p:List Ins) (hp:p.length<=4096) (i:Ins) (hi:InsOk i) (j:Nat) (hpi:p[j]?=some i) (l:List Nat) (hl:l.length<=4096)
  (s:List (BitVec 16)) (r:List Bool) (hs1:s.length=p.length) (hs2:r.length=p.length) (Q:X->Tr AV->Hp->Prop)
  (hQ:∀e t'' h'',(e = .normal∨e = .exit 1)->Wk 2 t'' h'' (mkT (wT gv p j)) (mkH 0 (if r.getD j false=true then wkB p gc (qis i (s.getD j 0#16) j l) (goM p.length (s.getD j 0#16 ||| wrM i) (qbE i j) (s,r)) else wkB p gc l (s,r)))->Q e t'' h'')
  {t':Tr AV} {h':Hp} (hw:Wk 2 t' h' (mkT (wT gv p j++[(7,.ptr 8 0),(8,.ptr 9 0)])) (mkH 0 (wI p gc l (s,r) j i))) :
  S P 2 (qbo gc g4 g3) Q t' h':=by
 refine S.weak hw (qj ?_);have hlt:j<p.length:=(zzS.1 hpi).1;obtain⟨x,hx⟩:∃x,s[j]?=some x:=⟨_,zzE (by omega)⟩;obtain⟨b,hb⟩:∃b,r[j]?=some b:=⟨_,zzE (by omega)⟩;simp only[List.getD_eq_getElem?_getD,hx,hb,Option.getD_some] at hQ;simp only[qbo,wT,wI,wkB,List.cons_append,List.nil_append,vI,simprocAttr];cases b with
 | false =>
  rw[if_neg (by simp)] at hQ;simp +decide only[↓vS,vT,simprocAttr,hs1,hlt,Nat.mul_one,qjk,hb,Option.map_some];refine hQ _ _ _ (.inr rfl) (Wk.mkn _ _ [0,1,2,3,4,5,6,7] ?_ ?_ ?_ rfl ?_ ?_)
  ·simp[vw,wT,qdW,qx,wkB]
  ·simp[vw,wkB,qx,qT,zA,zf,qh,hs1]
  ·simp
  ·simp[wkB]
  ·intro b hb;have:b=0∨b=1:=by omega
   rcases this with rfl|rfl<;>rfl
 | true =>
  rw[if_pos rfl] at hQ;simp +decide only[↓vS,vT,simprocAttr,hs1,hlt,Nat.mul_one,qjk,hb,Option.map_some];refine zD ?_;simp +decide only[↓vS,vT,simprocAttr,hs1,hlt,Nat.mul_one,qlZ,hx,Option.map_some,qdW];refine (hvis p hp l hl j i hpi hi x).pc (vs:=[.i .i64 j,.i .u16 (x.toNat:Int),.ptr 0 0,.ptr 1 0]) [0,1,2] (Lent.of (by decide) ?_) ?_
  ·simp[vL,vw,zP (qx p),qN (qx p),zP qT,qN qT]
  simp only[vK,simprocAttr,qN (qx p),qN qT];simp +decide only[↓vS,vT,simprocAttr];refine quA hcw hof hcc hcome hwr hwy p hp i hi j hlt (qis i x j l) x (s,r) hs1 hs2 hx Q (fun t'' h'' hw=>hQ _ _ _ (.inl rfl) hw) (Wk.mkn _ _ [0,1,10,3,4,5,6,7,8,9] ?_ ?_ ?_ rfl ?_ ?_)
  ·simp[vw,wT,qdW,qx,wI,wkB]
  ·simp[vw,wI,wkB,qx,qT,zA,zf,qh,hs1,qD]
  ·simp
  ·simp[wI,wkB]
  ·intro b hb;have:b=0∨b=1:=by omega
   rcases this with rfl|rfl<;>rfl
def qeS(a b:Nat):IFn:=⟨[.tmp 2],.seq (.r [.q 1 (.box (.t 0)),.m 2 .N]) (.seq (.r [.q 3 (.alloc [.nils])]) (.seq (.r [.d 4 1,.q 5 (.mkF a [] [.t 1,.t 3]),.l 6 b [.t 4,.t 5]]) (.seq (.r [.d 7 3,.n 2 7]) (.ret))))⟩
theorem qx0{g0 g1 g2 g3 g4 gc gv gw:Nat}(hc:qc P f (qeS gv g0)=true)(hck:qc P g0 (qgi gc g4 g3)=true)
  (hcw:qc P gw (jw g1 g2)=true) (hof:cOf P g1) (hcc:qc P g2 qC=true) (hcome:qoA P gc) (hwr:cWr P g3) (hvis:qCB P gv)
  (hwy:∀i (j n:Nat),qd P g4 [.agg (qD i),.i .i64 (j:Int),.i .i64 (n:Int)] (.fn gw [] [.pf (qD i) 0,.pf [.i .i64 (j:Int)] 0,.pf [.i .i64 (n:Int)] 0]))
  (p:List Ins) (hp:p.length<=4096) (hi:∀i ∈ p,InsOk i):qd P f [.fz p.length (rP p)] (.fz (qer p).length (rNt (qer p))):=by
 refine qd.mk hc (by simp[qu,clo,qx]) ?_;simp only[qeS,vI,simprocAttr];simp +decide only[↓vS,vT,simprocAttr];refine SC.mk hck (qj ?_);have hp':¬4096<(p.length:Int):=by omega
 have hr1:p.length<=qg:=by simp only[qg];omega
 have hr2:2*p.length<=qg:=by simp only[qg];omega
 have hr3:1*p.length<=qg:=by simp only[qg];omega
 have hf1:(List.replicate p.length [AV.i .u16 0]).flatten=rW (List.replicate p.length 0#16):=by
  generalize p.length=n
  induction n with
  | zero=>rfl
  | succ n ih=>rw[List.replicate_succ,List.replicate_succ,List.flatten_cons,ih];rfl
 have hf2:(List.replicate p.length [AV.b false]).flatten=rTt (List.replicate p.length false):=by
  generalize p.length=n
  induction n with
  | zero=>rfl
  | succ n ih=>rw[List.replicate_succ,List.replicate_succ,List.flatten_cons,ih];rfl
 simp only[qgi,vI,simprocAttr];simp +decide only[↓vS,vT,simprocAttr,hp'];refine zD ?_;simp +decide only[↓vS,vT,simprocAttr,hr1,hr2,hr3,hf1,hf2]
 refine SL.loopn (α:=Nat×WSt) (fun a=>wT gv p a.1) (fun a=>wkB p gc a.2.1 a.2.2)
  (fun a=>a.1<=p.length∧a.2.1.length<=a.1∧a.2.2.1.length=p.length∧a.2.2.2.length=p.length∧wkM p.length a.1 (p.drop a.1) a.2=wkM p.length 0 p ([],(List.replicate p.length 0#16,List.replicate p.length false))) (fun a=>p.length-a.1) (0,([],(List.replicate p.length 0#16,List.replicate p.length false))) [0,1,99,2,3,4,5,6] ?_ ?_ ?_ rfl ?_ ?_ ?_ ?_
 ·simp[vw,wT,qdW,qx,wkB]
 ·simp[vw,wkB,qx,qT,zA,zf,qh]
 ·simp
 ·simp[wkB]
 ·intro b hb;have:b=0∨b=1:=by omega
  rcases this with rfl|rfl<;>rfl
 ·exact⟨Nat.zero_le _,Nat.le_refl _,by simp,by simp,rfl⟩
 rintro⟨j,l,s,r⟩ ⟨hj,hl,hs1,hs2,hgo⟩ G ih;simp only at hj hl hs1 hs2 hgo;simp only[wT,wkB,List.cons_append,List.nil_append,vI,simprocAttr]
 by_cases hlt:j<p.length
 ·obtain⟨i,hpi⟩:∃i,p[j]?=some i:=⟨_,zzE hlt⟩;have hii:=hi i (zzM hpi);have hel:=zj (f:=qD) (m:=4) qaN hpi;rw[show p.flatMap qD=rP p from rfl] at hel
  have h4:j*4+4<=(rP p).length:=by rw[qdS];omega
  have hdr:p.drop j=i::p.drop (j+1):=by
   obtain⟨hh,he⟩:=zzS.1 hpi;rw[List.drop_eq_getElem_cons hh,he]
  rw[hdr] at hgo;have hw1:IntKind.wrap .i64 ((j:Int)+1)=((j+1:Nat):Int):=by rw[qq (by omega) (by omega)];omega
  simp only[qD] at hel;have ih2:=ih (j+1,stM p.length j i (l,s,r));have hst:wkM p.length j (i::p.drop (j+1)) (l,s,r)=wkM p.length (j+1) (p.drop (j+1)) (stM p.length j i (l,s,r)):=rfl;rw[hst] at hgo;have hlen0:=qui (j:=j) (st:=(s,r))
  have hI:j+1<=p.length∧(stM p.length j i (l,s,r)).1.length<=j+1∧(stM p.length j i (l,s,r)).2.1.length=p.length∧(stM p.length j i (l,s,r)).2.2.length=p.length:=by
   refine⟨hlt,?_⟩;unfold stM;split
   ·have:=quz (i:=i) (x:=(qcb j (s,r)).1.getD j 0#16) (j:=j) (l:=l);have h2:=qoO (n:=p.length) (x:=(qcb j (s,r)).1.getD j 0#16 ||| wrM i) (qbE i j) (qcb j (s,r))
    simp only at hlen0 ⊢;exact⟨by omega,by omega,by omega⟩
   ·simp only at hlen0 ⊢;exact⟨by omega,by omega,by omega⟩
  have ih3:=ih2 ⟨hI.1,hI.2.1,hI.2.2.1,hI.2.2.2,hgo⟩ (by simp only;omega)
  have hstM:(wkB p gc (stM p.length j i (l,s,r)).1 (stM p.length j i (l,s,r)).2)=if (qcb j (s,r)).2.getD j false=true then wkB p gc (qis i ((qcb j (s,r)).1.getD j 0#16) j l) (goM p.length ((qcb j (s,r)).1.getD j 0#16 ||| wrM i) (qbE i j) ((qcb j (s,r)).1,(qcb j (s,r)).2)) else wkB p gc l ((qcb j (s,r)).1,(qcb j (s,r)).2):=by
   unfold stM;split<;>rfl
  clear hgo hst ih2
  by_cases hj0:j=0
  ·have hj0':decide ((j:Int)=0)=true:=by rw[hj0];rfl
   have hcm:=hcome s r (by omega) 0 (by omega) 0#16;have he1:(qcb j (s,r)).1=qbC s r 0 0#16:=by unfold qcb;rw[if_pos hj0]
   have he2:(qcb j (s,r)).2=r.set 0 true:=by unfold qcb;rw[if_pos hj0]
   simp only[he1,he2] at hstM;have hs1':(qbC s r 0 0#16).length=p.length:=by simp[qbC,hs1]
   simp +decide only[↓vS,vT,simprocAttr,hlt,hel,h4,hj0'];refine hcm.sc (vs:=[.i .i64 0,.i .u16 0,.ptr 3 0,.ptr 2 0]) [3,4,5,6] (Lent.of (by decide) ?_) ?_
   ·simp[vL,vw,qfh,zP zA,qN zA,zP zf,qN zf]
   simp only[vK,simprocAttr,qfh,qN zA,qN zf];simp +decide only[↓vS,vT,simprocAttr];refine qnF hcw hof hcc hcome hwr hvis hwy p hp i hii j hpi l (by omega) (qbC s r 0 0#16) (r.set 0 true) hs1' (by simp[hs2]) _ ?_ (Wk.mkn _ _ [0,1,2,3,4,5,6,7,8,9] ?_ ?_ ?_ rfl ?_ ?_)
   ·rintro e t'' h'' (rfl|rfl) hw2<;>(
     simp +decide only[↓vS,vT,simprocAttr];rw[← hstM] at hw2;refine S.weak hw2 (qj ?_);generalize (stM p.length j i (l,s,r))=st2 at ih3 hI;obtain⟨l2,s2,r2⟩:=st2;simp only at ih3 hI;simp only[qbq,wT,wkB,List.cons_append,List.nil_append,vI,simprocAttr];simp +decide only[↓vS,vT,simprocAttr,hw1];refine ih3 _ _ (Wk.mkn _ _ [0,1,2,3,4,5,6,7] ?_ ?_ ?_ rfl ?_ ?_)
     ·simp[vw,wT,qdW,qx,wkB]
     ·simp[vw,wkB,qx,qT,zA,zf,qh]
     ·simp
     ·simp[wkB]
     ·intro b hb;have:b=0∨b=1:=by omega
      rcases this with rfl|rfl<;>rfl)
   ·simp[vw,wT,qdW,qx,wI,wkB]
   ·simp[vw,wI,wkB,qx,qT,zA,zf,qh,qD,hs1,hs1']
   ·simp
   ·simp[wI,wkB]
   ·intro b hb;have:b=0∨b=1:=by omega
    rcases this with rfl|rfl<;>rfl
  ·have hj0':decide ((j:Int)=0)=false:=by simp;omega
   have he1:(qcb j (s,r)).1=s:=by unfold qcb;rw[if_neg hj0]
   have he2:(qcb j (s,r)).2=r:=by unfold qcb;rw[if_neg hj0]
   simp only[he1,he2] at hstM;have hs1':=hs1;simp +decide only[↓vS,vT,simprocAttr,hlt,hel,h4,hj0'];refine qnF hcw hof hcc hcome hwr hvis hwy p hp i hii j hpi l (by omega) s r hs1 hs2 _ ?_ (Wk.mkn _ _ [0,1,2,3,4,5,6,7,8,9] ?_ ?_ ?_ rfl ?_ ?_)
   ·rintro e t'' h'' (rfl|rfl) hw2<;>(
     simp +decide only[↓vS,vT,simprocAttr];rw[← hstM] at hw2;refine S.weak hw2 (qj ?_);generalize (stM p.length j i (l,s,r))=st2 at ih3 hI;obtain⟨l2,s2,r2⟩:=st2;simp only at ih3 hI;simp only[qbq,wT,wkB,List.cons_append,List.nil_append,vI,simprocAttr];simp +decide only[↓vS,vT,simprocAttr,hw1];refine ih3 _ _ (Wk.mkn _ _ [0,1,2,3,4,5,6,7] ?_ ?_ ?_ rfl ?_ ?_)
     ·simp[vw,wT,qdW,qx,wkB]
     ·simp[vw,wkB,qx,qT,zA,zf,qh]
     ·simp
     ·simp[wkB]
     ·intro b hb;have:b=0∨b=1:=by omega
      rcases this with rfl|rfl<;>rfl)
   ·simp[vw,wT,qdW,qx,wI,wkB]
   ·simp[vw,wI,wkB,qx,qT,zA,zf,qh,qD,hs1,hs1']
   ·simp
   ·simp[wI,wkB]
   ·intro b hb;have:b=0∨b=1:=by omega
    rcases this with rfl|rfl<;>rfl
 ·obtain rfl:j=p.length:=by omega
  have hu:qer p=l:=by unfold qer;rw[← hgo,List.drop_length];rfl
  simp +decide only[↓vS,vT,simprocAttr,hlt];rw[hu];simp[vZ,vP,Tr.get_set,zp qT];intro h0;rw[h0];rfl
def qyJ(P:Program)(g:Nat):Prop:=∀n,qd P g [.i .u16 n] (.b (zN n))
def qgF(i:Ins):Bool:=!zN i.code
def qf9(i:Ins):Bool:=decide (i.code=32)&&(decide (i.k % 4≠0)||decide (64<=i.k))
def qhc(i:Ins):Bool:=(decide (i.code=96)||decide (i.code=97)||decide (ql i.code=2))&&decide (16<=i.k)
def qhd(i:Ins):Bool:=decide (i.code=52)&&decide (i.k=0)
def qhe(i:Ins):Bool:=(decide (i.code=100)||decide (i.code=116))&&decide (31<i.k)
def qhf(i:Ins)(n:Nat):Bool:=if i.code=5 then decide ((n:Int)<=i.k) else decide (ql i.code=4)&&decide ((n:Int)<=hiM i)
def qdn(a:Nat):IFn:=⟨[.tmp 4],.seq (.r [.q 2 (.box (.t 0)),.m 4 .F]) (.seq (.r [.f 5 0 2,.d 6 5,.l 7 a [.t 6],.q 8 (.un .not (.t 7)),.n 4 8]) (.ret))⟩
theorem qE7{g:Nat}(hc:qc P f (qdn g)=true)(hg:qyJ P g)(i:Ins)(n:Nat):qd P f [.agg (qD i),.i .i64 n] (.b (qgF i)):=by
 refine qd.mk hc rfl ?_;simp only[qdn,qD,vI,simprocAttr];simp +decide only[↓vS,vT,simprocAttr];refine (hg _).sc ?_;simp +decide only[↓vS,vT,simprocAttr];simp[vZ,qgF]
def qdo:IFn:=⟨[.tmp 4],.seq (.r [.q 2 (.box (.t 0)),.m 4 .F]) (.seq (.r [.f 5 0 2,.d 6 5,.q 7 (.bin .eql (.t 6) (.c (.i .u16 32))),.n 8 7,.h 9 3 2 8 true,.j 10 9 8 true,.g 11 (.bin .rem (.t 10) (.c (.i .u32 4))) 8 true,.g 12 (.bin .neq (.t 11) (.c (.i .u32 0))) 8 true,.y 13 12 8,.h 14 3 2 13 false,.j 15 14 13 false,.g 16 (.bin .geq (.t 15) (.c (.i .u32 64))) 13 false,.g 17 (.pick (.t 13) .T (.t 16)) 8 true,.p 18 8 17,.n 4 18]) (.ret))⟩
theorem qE8(hc:qc P f qdo=true)(i:Ins)(hi:InsOk i)(n:Nat):qd P f [.agg (qD i),.i .i64 n] (.b (qf9 i)):=by
 refine qd.mk hc rfl ?_;have h40:(4:Int)≠0:=by decide
 have h0:=hi.k0;have ht:i.k.tmod 4=i.k % 4:=Int.tmod_eq_emod_of_nonneg h0;unfold qf9;simp only[qdo,qD,vI,simprocAttr]
 by_cases h1:i.code=32
 ·by_cases h2:i.k % 4=0
  ·simp +decide only[↓vS,vT,simprocAttr,h1,↓qbT h40,ht,h2];simp[vZ]
  ·simp +decide only[↓vS,vT,simprocAttr,h1,↓qbT h40,ht,h2];simp[vZ,h2]
 ·simp +decide only[↓vS,vT,simprocAttr,h1];simp[vZ]
def qdp(a:Nat):IFn:=⟨[.tmp 4],.seq (.r [.q 2 (.box (.t 0)),.m 4 .F]) (.seq (.r [.f 6 0 2,.d 7 6,.q 8 (.bin .eql (.t 7) (.c (.i .u16 96))),.n 9 8,.h 10 0 2 9 false,.j 11 10 9 false,.g 12 (.bin .eql (.t 11) (.c (.i .u16 97))) 9 false,.o 13 9 12,.n 14 13,.h 15 0 2 14 false,.j 16 15 14 false,⟨(some 17),.callF a [.t 16],(some (14,false))⟩,.g 18 (.bin .eql (.t 17) (.c (.i .u8 2))) 14 false,.o 19 14 18,.n 5 19]) (.seq (.r [.n 20 5,.n 21 20,.h 22 3 2 21 true,.j 23 22 21 true,.g 24 (.bin .geq (.t 23) (.c (.i .u32 16))) 21 true,.p 25 21 24,.n 4 25]) (.ret)))⟩
theorem qE9{g:Nat}(hc:qc P f (qdp g)=true)(hg:cOf P g)(i:Ins)(n:Nat):qd P f [.agg (qD i),.i .i64 n] (.b (qhc i)):=by
 refine qd.mk hc rfl ?_;unfold qhc;simp only[qdp,qD,vI,simprocAttr]
 by_cases h1:i.code=96
 ·simp +decide only[↓vS,vT,simprocAttr,h1];simp[vZ]
 by_cases h2:i.code=97
 ·simp +decide only[↓vS,vT,simprocAttr,h1,h2];simp[vZ]
 simp +decide only[↓vS,vT,simprocAttr,h1,h2];refine (hg _).sc ?_
 by_cases h3:ql i.code=2
 ·simp +decide only[↓vS,vT,simprocAttr,h3];simp[vZ]
 ·simp +decide only[↓vS,vT,simprocAttr,h3];simp[vZ,h1,h2]
def qdq:IFn:=⟨[.tmp 4],.seq (.r [.q 2 (.box (.t 0)),.m 4 .F]) (.seq (.r [.f 5 0 2,.d 6 5,.q 7 (.bin .eql (.t 6) (.c (.i .u16 52))),.n 8 7,.h 9 3 2 8 true,.j 10 9 8 true,.g 11 (.bin .eql (.t 10) (.c (.i .u32 0))) 8 true,.p 12 8 11,.n 4 12]) (.ret))⟩
theorem qFa(hc:qc P f qdq=true)(i:Ins)(n:Nat):qd P f [.agg (qD i),.i .i64 n] (.b (qhd i)):=by
 refine qd.mk hc rfl ?_;unfold qhd;simp only[qdq,qD,vI,simprocAttr]
 by_cases h1:i.code=52
 ·simp +decide only[↓vS,vT,simprocAttr,h1];simp[vZ]
 ·simp +decide only[↓vS,vT,simprocAttr,h1];simp[vZ]
def qdr:IFn:=⟨[.tmp 4],.seq (.r [.q 2 (.box (.t 0)),.m 4 .F]) (.seq (.r [.f 5 0 2,.d 6 5,.q 7 (.bin .eql (.t 6) (.c (.i .u16 100))),.n 8 7,.h 9 0 2 8 false,.j 10 9 8 false,.g 11 (.bin .eql (.t 10) (.c (.i .u16 116))) 8 false,.o 12 8 11,.n 13 12,.h 14 3 2 13 true,.j 15 14 13 true,.g 16 (.bin .gtr (.t 15) (.c (.i .u32 31))) 13 true,.p 17 13 16,.n 4 17]) (.ret))⟩
theorem qFb(hc:qc P f qdr=true)(i:Ins)(n:Nat):qd P f [.agg (qD i),.i .i64 n] (.b (qhe i)):=by
 refine qd.mk hc rfl ?_;unfold qhe;simp only[qdr,qD,vI,simprocAttr]
 by_cases h1:i.code=100
 ·simp +decide only[↓vS,vT,simprocAttr,h1];simp[vZ]
 by_cases h2:i.code=116
 ·simp +decide only[↓vS,vT,simprocAttr,h1,h2];simp[vZ]
 simp +decide only[↓vS,vT,simprocAttr,h1,h2];simp[vZ]
def qds(a:Nat):IFn:=⟨[.tmp 4],.seq (.r [.q 2 (.box (.t 0)),.m 4 .F]) (.seq (.seq (.r [.f 5 0 2,.d 6 5,.q 7 (.bin .eql (.t 6) (.c (.i .u16 5)))]) (.cond (.t 7) (.seq (.r [.f 8 3 2,.d 9 8,.q 10 (.cvInt .i64 (.t 9)),.n 11 1,.b 12 .geq 10 11,.n 4 12]) (.ret)) (.skip))) (.seq (.r [.f 13 0 2,.d 14 13,.l 15 a [.t 14],.q 16 (.bin .eql (.t 15) (.c (.i .u8 4))),.n 17 16,.h 18 1 2 17 true,.j 19 18 17 true,.h 20 2 2 17 true,.j 21 20 17 true,.g 22 (.max (.t 19) (.t 21)) 17 true,.g 23 (.cvInt .i64 (.t 22)) 17 true,.y 24 1 17,.g 25 (.bin .geq (.t 23) (.t 24)) 17 true,.p 26 17 25,.n 4 26]) (.ret)))⟩
theorem qFc{g:Nat}(hc:qc P f (qds g)=true)(hg:cOf P g)(i:Ins)(hi:InsOk i)(n:Nat):qd P f [.agg (qD i),.i .i64 n] (.b (qhf i n)):=by
 refine qd.mk hc rfl ?_;have hk:IntKind.wrap .i64 i.k=i.k:=by have:=hi.k0;have:=hi.k1;exact qq (by omega) (by omega)
 have hh:IntKind.wrap .i64 (hiM i)=hiM i:=by
  have:=hi.t0;have:=hi.t1;have:=hi.f0;have:=hi.f1
  refine qq ?_ ?_<;>(unfold hiM;split<;>omega)
 unfold qhf;simp only[qds,qD,vI,simprocAttr]
 by_cases h1:i.code=5
 ·rw[if_pos h1];simp +decide only[↓vS,vT,simprocAttr,h1,hk];simp[vZ]
 rw[if_neg h1];simp +decide only[↓vS,vT,simprocAttr,h1];refine (hg _).sc ?_
 by_cases h2:ql i.code=4
 ·simp +decide only[↓vS,vT,simprocAttr,h2];simp only[show (if i.jt<i.jf then i.jf else i.jt)=hiM i from rfl,hh]
  simp[vZ]
 ·simp +decide only[↓vS,vT,simprocAttr,h2];simp[vZ]
def qj9(x:Int×Nat×Bool):List AV:=[.i .i64 x.1,.fn x.2.1 [] []]
theorem qns(x:Int×Nat×Bool):(qj9 x).length=2:=rfl
def wsM(g1 g2 g3 g4 g5 g6:Nat)(i:Ins)(n:Nat):List (Int×Nat×Bool):=[(40,g1,qgF i),(41,g2,qf9 i),(43,g3,qhc i),(44,g4,qhd i),(45,g5,qhe i),(42,g6,qhf i n)]
def qe6(i:Ins)(n:Nat):Int:=if qgF i=true then 40 else if qf9 i=true then 41 else if qhc i=true then 43 else if qhd i=true then 44 else if qhe i=true then 45 else if qhf i n=true then 42 else 0
def qeV(a b c d e g:Nat):IFn:=⟨[.cell 0 12 true],.seq (.r [.q 0 (.alloc [.i .i64 0,.nilf,.i .i64 0,.nilf,.i .i64 0,.nilf,.i .i64 0,.nilf,.i .i64 0,.nilf,.i .i64 0,.nilf])]) (.seq (.r [.q 1 (.build [.i .i64 0,.nilf] [(0,1,(.k 40)),(1,1,(.c (.fn a [] [])))]),.q 2 (.build [.i .i64 0,.nilf] [(0,1,(.k 41)),(1,1,(.c (.fn b [] [])))]),.q 3 (.build [.i .i64 0,.nilf] [(0,1,(.k 43)),(1,1,(.c (.fn c [] [])))]),.q 4 (.build [.i .i64 0,.nilf] [(0,1,(.k 44)),(1,1,(.c (.fn d [] [])))]),.q 5 (.build [.i .i64 0,.nilf] [(0,1,(.k 45)),(1,1,(.c (.fn e [] [])))]),.q 6 (.build [.i .i64 0,.nilf] [(0,1,(.k 42)),(1,1,(.c (.fn g [] [])))]),.q 7 (.build [.i .i64 0,.nilf,.i .i64 0,.nilf,.i .i64 0,.nilf,.i .i64 0,.nilf,.i .i64 0,.nilf,.i .i64 0,.nilf] [(0,2,(.t 1)),(2,2,(.t 2)),(4,2,(.t 3)),(6,2,(.t 4)),(8,2,(.t 5)),(10,2,(.t 6))]),.u (.store 12 (.t 0) (.t 7))]) (.ret))⟩
theorem qx8{g1 g2 g3 g4 g5 g6:Nat}(hc:qc P f (qeV g1 g2 g3 g4 g5 g6)=true)(i:Ins)(n:Nat):qd P f [] (.agg ((wsM g1 g2 g3 g4 g5 g6 i n).flatMap qj9)):=by
 refine qd.mk hc rfl ?_;simp only[qeV,vI,simprocAttr];simp +decide only[↓vS,vT,simprocAttr];simp[vZ,vP,Tr.get_set,wsM,qj9]
def qht(a:Nat):IFn:=⟨[.tmp 4],.seq (.r [.q 2 (.box (.t 0)),.m 4 (.k 0)]) (.seq (.seq (.r [.l 7 a [],.m 8 (.k 0)]) (.blk 0 (.loop (.seq (.r [.w 9 .lss 8 6]) (.seq (.cond (.t 9) (.skip) (.exit 0)) (.seq (.blk 1 (.seq (.r [.q 10 (.idxA 6 2 true (.t 7) (.t 8)),.q 6 (.alloc [.i .i64 0,.nilf]),.u (.store 2 (.t 6) (.t 10))]) (.seq (.r [.f 11 1 6,.d 12 11,.v 13 4 2,.n 14 1,.q 15 (.max (.t 14) (.k 0)),⟨(some 16),.callV (.t 12) [.t 13,.t 15],none⟩]) (.cond (.t 16) (.seq (.r [.f 17 0 6,.d 18 17,.n 4 18]) (.ret)) (.skip))))) (.r [.a 19 8 1,.n 8 19]))))))) (.seq (.r [.m 4 (.k 0)]) (.ret)))⟩
theorem qDp{g0:Nat}(hc:qc P f (qht g0)=true)(i:Ins)(n:Nat)(ws:List (Int×Nat×Bool))(hw6:ws.length=6)(h0:qd P g0 [] (.agg (ws.flatMap qj9)))(hw:∀x ∈ ws,qd P x.2.1 [.agg (qD i),.i .i64 n] (.b x.2.2)) :
  qd P f [.agg (qD i),.i .i64 n] (.i .i64 ((ws.find? fun x=>x.2.2).elim 0 fun x=>x.1)):=by
 refine qd.mk hc rfl ?_;have hn0:¬(n:Int)<0:=by omega
 have hlen:(ws.flatMap qj9).length=12:=by rw[zl qns,hw6]
 have hcl:qu (ws.flatMap qj9)=true:=x9 (fun _=>rfl)
 simp only[qht,qD,vI,simprocAttr];simp +decide only[↓vS,vT,simprocAttr];refine h0.sc ?_;simp +decide only[↓vS,vT,simprocAttr];refine SL.loop (α:=Nat) (fun j=>[(1,.i .i64 (n:Int)),(2,.ptr 0 0),(7,.agg (ws.flatMap qj9)),(8,.i .i64 (j:Int))]) (fun _=>[.cells 0 true false (qD i)]) (fun j=>j<=6∧(ws.drop j).find? (fun x=>x.2.2)=ws.find? (fun x=>x.2.2)) (fun j=>6-j) 0 [0] ?_ ?_ ?_ rfl ?_ ?_
 ·simp[vw,qh,hcl]
 ·simp[vw,qD]
 ·simp
 ·exact⟨Nat.zero_le _,rfl⟩
 rintro j ⟨hj,hI⟩ G ih;simp only[vI,simprocAttr,qD]
 by_cases hlt:j<6
 ·have hlt':(j:Int)<6:=by omega
  have hjl:j<ws.length:=by omega
  have hx:ws[j]?=some ws[j]:=zzE hjl;have hw1:IntKind.wrap .i64 ((j:Int)+1)=((j+1:Nat):Int):=by rw[qq (by omega) (by omega)];omega
  have hel:=zj (f:=qj9) (m:=2) qns hx;have hb:j*2+2<=(ws.flatMap qj9).length:=by omega
  have hpx:=hw _ (List.getElem_mem hjl);rw[List.drop_eq_getElem_cons hjl,List.find?_cons] at hI;generalize hc0:ws[j]=x at hel hI hpx;simp only[qj9] at hel;generalize hT:ws.flatMap qj9=T at hel hb hlen hcl;simp +decide only[↓vS,vT,simprocAttr,hlt',hlt,hel,hb,hn0];refine hpx.sc ?_;cases hs:x.2.2 with
  | true =>
   rw[hs] at hI;simp +decide only[↓vS,vT,simprocAttr];rw[← hI];simp[vZ]
  | false =>
   rw[hs] at hI;simp +decide only[↓vS,vT,simprocAttr,hw1];refine ih (j+1) ⟨hlt,hI⟩ (by omega) _ _ (Wk.mk _ _ [0] ?_ ?_ ?_ rfl)
   ·simp[vw,qh,hcl,hT]
   ·simp[vw,qD]
   ·simp
 ·obtain rfl:j=6:=by omega
  have hd:ws.drop 6=[]:=List.drop_eq_nil_of_le (by omega);rw[hd] at hI;rw[← hI];simp +decide only[↓vS,vT,simprocAttr];simp[vZ]
theorem qD2{g1 g2 g3 g4 g5 g6:Nat}{i:Ins}{n:Nat}:(((wsM g1 g2 g3 g4 g5 g6 i n).find? fun x=>x.2.2).elim 0 fun x=>x.1)=qe6 i n:=by
 unfold wsM qe6;cases qgF i<;>cases qf9 i<;>cases qhc i<;>cases qhd i<;>cases qhe i<;>cases qhf i n<;>rfl
def qiu(n:Nat):Nat->List Ins->Option (Nat×Int)
 | _,[]=>none
 | j,i::L=>if qe6 i (n-1-j)=0 then qiu n (j+1) L else some (j,qe6 i (n-1-j))
theorem qjr{n j:Nat}{i:Ins}{L:List Ins}:qiu n j (i::L)=if qe6 i (n-1-j)=0 then qiu n (j+1) L else some (j,qe6 i (n-1-j)):=rfl
def qhD(p:List Ins):Int:=(p.getD (p.length-1) ⟨0,0,0,0⟩).code
def atU(p:List Ins)(u:List Nat):Nat×Int :=
 if p.length=0∨4096<p.length then (0,60) else (qiu p.length 0 p).elim (if ql (qhD p)=5 then (match u with | []=>(0,0)|a::_=>(a,61)) else (p.length-1,46)) id
def cAt(P:Program)(f:Nat):Prop:=∀p:List Ins,(∀i ∈ p,InsOk i)->p.length<=5000->qd P f [.fz p.length (rP p)] (.tup [.i .i64 ((atU p (qer p)).1:Int),.i .i64 (atU p (qer p)).2])
def qdm(a b c:Nat):IFn:=⟨[.tmp 2,.tmp 3],.seq (.r [.m 2 (.k 0),.m 3 (.k 0)]) (.seq (.seq (.r [.n 10 0,.e 11 10,.w 12 .lss 11 1,.n 13 12,.z 14 0 13,.g 15 (.len false (.t 14)) 13 false,.g 16 (.bin .gtr (.t 15) (.k 4096)) 13 false,.o 17 13 16]) (.cond (.t 17) (.seq (.r [.m 2 (.k 0),.m 3 (.k 60)]) (.ret)) (.skip))) (.seq (.r [.n 18 0,.e 19 18,.w 20 .sub 19 1,.n 4 20]) (.seq (.seq (.r [.n 21 0,.e 22 21,.m 23 (.k 0)]) (.blk 0 (.loop (.seq (.r [.s 24 23 22]) (.seq (.cond (.t 24) (.skip) (.exit 0)) (.seq (.blk 1 (.seq (.r [.n 25 23,.i 26 4 21 23,.v 27 4 26,.q 6 (.alloc [.i .u16 0,.i .u8 0,.i .u8 0,.i .u32 0]),.n 5 25,.u (.store 4 (.t 6) (.t 27))]) (.seq (.r [.v 28 4 6,.n 29 4,.n 30 5,.b 31 .sub 29 30,.l 32 a [.t 28,.t 31],.n 7 32]) (.seq (.r [.n 33 7,.w 34 .neq 33 0]) (.cond (.t 34) (.seq (.r [.n 35 5,.n 36 7,.n 2 35,.n 3 36]) (.ret)) (.skip)))))) (.r [.a 37 23 1,.n 23 37]))))))) (.seq (.seq (.r [.n 38 0,.n 39 4,.i 40 4 38 39,.f 41 0 40,.d 42 41,.l 43 b [.t 42],.q 44 (.bin .neq (.t 43) (.c (.i .u8 5)))]) (.cond (.t 44) (.seq (.r [.n 45 4,.n 2 45,.m 3 (.k 46)]) (.ret)) (.skip))) (.seq (.seq (.r [.n 46 0,.l 47 c [.t 46],.e 48 47,.m 49 (.k 0)]) (.blk 2 (.loop (.seq (.r [.s 50 49 48]) (.seq (.cond (.t 50) (.skip) (.exit 2)) (.seq (.blk 3 (.seq (.r [.i 51 1 47 49,.d 52 51,.n 9 52]) (.seq (.r [.n 53 9,.n 2 53,.m 3 (.k 61)]) (.ret)))) (.r [.a 54 49 1,.n 49 54]))))))) (.seq (.r [.m 2 (.k 0),.m 3 (.k 0)]) (.ret)))))))⟩
theorem qvj{g1 g2 g3:Nat}(hc:qc P f (qdm g1 g2 g3)=true)(h1:∀i,InsOk i->∀n:Nat,qd P g1 [.agg (qD i),.i .i64 (n:Int)] (.i .i64 (qe6 i n)))(h2:cOf P g2)
  (h3:∀p:List Ins,p.length<=4096->(∀i ∈ p,InsOk i)->qd P g3 [.fz p.length (rP p)] (.fz (qer p).length (rNt (qer p)))):cAt P f:=by
 intro p hi hp;refine qd.mk hc (by simp[qu,clo,qx]) ?_;unfold atU;simp only[qdm,vI,simprocAttr]
 by_cases hz:p.length=0
 ·have hz':(p.length:Int)<1:=by omega
  rw[if_pos (.inl hz)];simp +decide only[↓vS,vT,simprocAttr,hz'];simp[vZ]
 have hz':¬(p.length:Int)<1:=by omega
 by_cases hb:4096<p.length
 ·have hb':(4096:Int)<p.length:=by omega
  rw[if_pos (.inr hb)];simp +decide only[↓vS,vT,simprocAttr,hz',hb'];simp[vZ]
 have hb':¬(4096:Int)<p.length:=by omega
 rw[if_neg (by omega)];have hl1:IntKind.wrap .i64 ((p.length:Int)-1)=((p.length-1:Nat):Int):=by rw[qq (by omega) (by omega)];omega
 simp +decide only[↓vS,vT,simprocAttr,hz',hb',hl1];refine SL.loop (α:=Nat) (fun j=>[(0,.fz p.length (rP p)),(4,.i .i64 ((p.length-1:Nat):Int)),(21,.fz p.length (rP p)),(22,.i .i64 (p.length:Int)),(23,.i .i64 (j:Int))]) (fun _=>[]) (fun j=>j<=p.length∧qiu p.length j (p.drop j)=qiu p.length 0 p) (fun j=>p.length-j) 0 [] ?_ ?_ ?_ rfl ?_ ?_
 ·simp[vw,qx]
 ·trivial
 ·simp
 ·exact⟨Nat.zero_le _,rfl⟩
 rintro j ⟨hj,hI⟩ G ih;simp only[vI,simprocAttr]
 by_cases hlt:j<p.length
 ·obtain⟨i,hpi⟩:∃i,p[j]?=some i:=⟨_,zzE hlt⟩;have hii:=hi i (zzM hpi);have hel:=zj (f:=qD) (m:=4) qaN hpi;rw[show p.flatMap qD=rP p from rfl] at hel
  simp only[qD] at hel;have h4:j*4+4<=(rP p).length:=by rw[qdS];omega
  have hdr:p.drop j=i::p.drop (j+1):=by
   obtain⟨hh,he⟩:=zzS.1 hpi;rw[List.drop_eq_getElem_cons hh,he]
  rw[hdr,qjr] at hI;have hw1:IntKind.wrap .i64 ((j:Int)+1)=((j+1:Nat):Int):=by rw[qq (by omega) (by omega)];omega
  have hw2:IntKind.wrap .i64 (((p.length-1:Nat):Int)-(j:Int))=((p.length-1-j:Nat):Int):=by rw[qq (by omega) (by omega)];omega
  have hone:=h1 i hii (p.length-1-j);simp only[qD] at hone;simp +decide only[↓vS,vT,simprocAttr,hlt,hel,h4,hw2];refine hone.sc ?_
  by_cases h0:qe6 i (p.length-1-j)=0
  ·rw[if_pos h0] at hI;simp +decide only[↓vS,vT,simprocAttr,h0,hw1];refine ih (j+1) ⟨hlt,hI⟩ (by omega) _ _ (Wk.mk _ _ [] ?_ ?_ ?_ rfl)
   ·simp[vw,qx]
   ·trivial
   ·simp
  ·rw[if_neg h0] at hI;simp +decide only[↓vS,vT,simprocAttr,h0];rw[← hI];simp[vZ]
 ·obtain rfl:j=p.length:=by omega
  have hd:p.drop p.length=[]:=List.drop_eq_nil_of_le (by omega);rw[hd] at hI;simp only[qiu] at hI;rw[← hI];obtain⟨i,hpi⟩:∃i,p[p.length-1]?=some i:=⟨_,zzE (by omega)⟩;have hlc:qhD p=i.code:=by unfold qhD;rw[List.getD_eq_getElem?_getD,hpi];rfl
  have hg:=qb2 (f:=qD) (m:=4) qaN hpi (i:=0) (by omega);rw[show p.flatMap qD=rP p from rfl] at hg
  simp only[qD,Nat.add_zero,List.getElem?_cons_zero] at hg;have hlt2:p.length-1<p.length:=by omega
  simp +decide only[↓vS,vT,simprocAttr,hlt,hlt2,hg];refine (h2 _).sc ?_
  by_cases h5:ql i.code=5
  ·simp +decide only[↓vS,vT,simprocAttr,h5];refine (h3 p (by omega) hi).sc ?_;simp +decide only[↓vS,vT,simprocAttr];refine SL.loop (α:=Unit) (fun _=>[(47,.fz (qer p).length (rNt (qer p))),(48,.i .i64 ((qer p).length:Int)),(49,.i .i64 0)]) (fun _=>[]) (fun _=>True) (fun _=>0) () [] ?_ ?_ ?_ rfl ?_ ?_
   ·simp[vw,qT]
   ·trivial
   ·simp
   ·trivial
   rintro _ _ G2 _;simp only[vI,simprocAttr];rw[hlc];cases hu:qer p with
   | nil =>
    simp +decide only[↓vS,vT,simprocAttr,List.length_nil];simp[vZ,h5]
   | cons a u =>
    have hgt2:0<(a::u).length:=by simp
    have hga:(rNt (a::u))[0]?=some (.i .i64 (a:Int)):=rfl;generalize (a::u).length=m at hgt2 ⊢;generalize rNt (a::u)=T at hga ⊢;have hgt:(0:Int)<(m:Int):=by omega
    simp +decide only[↓vS,vT,simprocAttr,hgt,hgt2,Nat.mul_one,hga];simp[vZ,h5]
  ·simp +decide only[↓vS,vT,simprocAttr,h5];rw[hlc];simp[vZ,h5]
def qfr(a:Nat):IFn:=⟨[.tmp 2],.seq (.r [.m 2 (.k 0)]) (.seq (.r [.n 6 0,.l 7 a [.t 6],.n 5 7,.x 8 5 0,.x 9 5 1,.n 3 8,.n 4 9]) (.seq (.r [.n 10 4,.n 2 10]) (.ret)))⟩
def qDo(n:Nat)(i:Ins)(j:Nat):List Nat:=(qbE i j).takeWhile fun m=>decide (m<n)
def mkL(L:List Nat)(r:List Bool):List Bool:=L.foldl (fun r m=>r.set m true) r
def qDy(n:Nat):Nat->List Ins->List Bool->List Bool
 | _,[],r=>r
 | j,i::L,r=>qDy n (j+1) L (if r.getD j false=true then mkL (qDo n i j) r else r)
def st0(n:Nat):List Bool:=(List.replicate n false).set 0 true
def wrC(i:Ins)(c:Nat):Bool:=(decide (i.code=2)||decide (i.code=3))&&decide (i.k=(c:Int))
def stS(n c j:Nat)(i:Ins)(st:List Bool×List (BitVec 16)):List Bool×List (BitVec 16) :=
 if st.1.getD j false=false then (st.1,st.2.set j (st.2.getD j 0#16 ||| cell c)) else if wrC i c=true then st else (mkL (qDo n i j) st.1,st.2)
def qDD(n c:Nat):Nat->List Ins->List Bool×List (BitVec 16)->List Bool×List (BitVec 16)
 | _,[],st=>st
 | j,i::L,st=>qDD n c (j+1) L (stS n c j i st)
def qDE(p:List Ins):Nat->List (BitVec 16)->List (BitVec 16)
 | 0,out=>out
 | k+1,out=>qDE p k (qDD p.length (16-(k+1)) 0 p (st0 p.length,out)).2
def qE2(p:List Ins):List (BitVec 16):=qDE p 16 (List.replicate p.length 0#16)
def rdC(i:Ins):Bool:=(decide (i.code=96)||decide (i.code=97))&&decide (i.k<16)
def unC(rch:List Bool)(sur:List (BitVec 16))(j:Nat)(i:Ins):Bool:=rch.getD j false&&rdC i && !(sur.getD j 0#16).getLsbD i.k.toNat
def qxm(rch:List Bool)(sur:List (BitVec 16)):Nat->List Ins->List Nat->List Nat
 | _,[],l=>l
 | j,i::L,l=>qxm rch sur (j+1) L (if unC rch sur j i=true then l++[j] else l)
def qDK(p:List Ins):List Nat:=qxm (qDy p.length 0 p (st0 p.length)) (qE2 p) 0 p []
theorem qcG{c:Int}{x:Int×List UInt8×Int}(h:qah c=some x):x ∈ qaF∧x.1=c:=by
 unfold qah at h;have h1:=List.mem_of_find?_eq_some h;have h2:=List.find?_some h;exact⟨h1,by simpa using h2⟩

end Go.Kc
end
section
namespace Go.Kc
theorem qom:∀x ∈ qaF,x.2.2=2->x.1=2∨x.1=3:=by decide
theorem qyQ{c:Int}:ql c=2↔c=2∨c=3:=by
 constructor
 ·intro h;unfold ql at h;cases hc:qah c with
  | none=>rw[hc] at h;cases h
  | some x =>
   rw[hc] at h;obtain⟨h1,h2⟩:=qcG hc;rw[← h2];exact qom x h1 h
 ·rintro (rfl|rfl)<;>decide
section
variable (p:List Ins)
end
end Go.Kc
end
section
namespace Go.Kc
variable {P:Program} {f:Nat}
structure Prg where
 dir:Int
 arch:Int
 ins:List Ins




def loW(x:Int):Int:=x % 4294967296
def hiW(x:Int):Int:=x / 4294967296
def qkC(d:GData):List Int:=[d.ip,d.a0,d.a1,d.a2,d.a3,d.a4,d.a5]
def xX(d:GData):List Int:=d.nr::d.arch::(qkC d).flatMap fun x=>[loW x,hiW x]
structure DatOk (d:GData):Prop where
 nr0:0<=d.nr
 nr1:d.nr<=4294967295
 ar0:0<=d.arch
 ar1:d.arch<=4294967295
 wid:∀x ∈ qkC d,0<=x∧x<18446744073709551616
def qe0:IFn:=⟨[.tmp 2,.tmp 3],.seq (.r [.m 2 (.c (.i .u32 0)),.m 3 (.c (.i .u32 0))]) (.seq (.r [.n 4 0,.q 5 (.cvInt .u32 (.t 4)),.n 6 0,.q 7 (.bin .shr (.t 6) (.c (.i .u64 32))),.q 8 (.cvInt .u32 (.t 7)),.n 2 5,.n 3 8]) (.ret))⟩
theorem qxK(hc:qc P f qe0=true)(x:Int)(h0:0<=x)(h1:x<18446744073709551616):qd P f [.i .u64 x] (.tup [.i .u32 (loW x),.i .u32 (hiW x)]):=by
 refine qd.mk hc rfl ?_;have e1:IntKind.wrap .u32 x=loW x:=rfl
 have e2:IntKind.wrap .u32 (qug .u64 x 32)=hiW x:=by
  have:qug .u64 x 32=x / 4294967296:=by
   show x.fdiv (2 ^ 32)=_;rw[Int.fdiv_eq_ediv_of_nonneg _ (by decide)];rfl
  rw[this];show (x / 4294967296) % 4294967296=x / 4294967296;omega
 simp only[qe0,vI,simprocAttr];simp +decide only[↓vS,vT,simprocAttr,e1,e2];simp[vZ]
theorem qqP{q:IntKind}{l:List Int}:jo (rI q l)=true:=by
 unfold rI;induction l with
 | nil=>rfl
 | cons a l ih=>exact ih
def qhx:IFn:=⟨[.tmp 4],.seq (.r [.m 4 .N]) (.seq (.r [.n 5 0,.q 6 (.buildS 1 [.i .u64 0] [(0,1,(.t 5))]),.n 7 1,.q 8 (.app 1 8 true (.t 6) (.t 7)),.n 4 8]) (.ret))⟩
theorem qDO(hc:qc P f qhx=true)(x:Int)(l:List Int)(hl:l.length=6):qg6 P f [.i .u64 x,.fz l.length (rI .u64 l)] (.own 0 (1+l.length)) [.cells 1 true true (rI .u64 (x::l))]:=by
 refine qg6.mk hc rfl (by simp[qmK,qqP]) ?_;have hr1:1+l.length<=qg:=by rw[hl];decide
 have hr2:(1+l.length)*8<=qg:=by rw[hl];decide
 have hll:(rI .u64 l).length=l.length:=qaM;simp only[qhx,vI,simprocAttr];have hne:¬1+l.length<=1:=by omega
 have htk:List.take l.length (rI .u64 l)=rI .u64 l:=List.take_of_length_le (by rw[qaM];omega);simp +decide only[↓vS,vT,simprocAttr,hne,hr1,hr2,hll,htk,Nat.mul_one];intro _;refine⟨[1],?_⟩;simp[vw,qwK,qh,x5]
def qd8(d:GData)(j:Nat):List Int:=(xX d).take (2+2*j)++List.replicate (14-2*j) 0
theorem qp7(d:GData){j:Nat}(h:j<=7):(qd8 d j).length=16:=by
 have:(xX d).length=16:=rfl;unfold qd8;rw[List.length_append,List.length_take,List.length_replicate,this];omega
theorem qn1(d:GData){j:Nat}{x:Int}(h:(qkC d)[j]?=some x):((qd8 d j).set (2+2*j) (loW x)).set (3+2*j) (hiW x)=qd8 d (j+1):=by
 have hj:j<7:=(zzS.1 h).1;have:j=0∨j=1∨j=2∨j=3∨j=4∨j=5∨j=6:=by omega
 rcases this with rfl|rfl|rfl|rfl|rfl|rfl|rfl<;>(cases h;rfl)
def qu9(P:Program)(g:Nat):Prop:=∀x:Int,0<=x->x<18446744073709551616->qd P g [.i .u64 x] (.tup [.i .u32 (loW x),.i .u32 (hiW x)])
def qEf(P:Program)(g:Nat):Prop:=∀(x:Int) (l:List Int),l.length=6->qg6 P g [.i .u64 x,.fz l.length (rI .u64 l)] (.own 0 (1+l.length)) [.cells 1 true true (rI .u64 (x::l))]
def qgm(a b:Nat):IFn:=⟨[.cell 2 16 true],.seq (.r [.q 1 (.box (.t 0)),.q 2 (.alloc [.i .u32 0,.i .u32 0,.i .u32 0,.i .u32 0,.i .u32 0,.i .u32 0,.i .u32 0,.i .u32 0,.i .u32 0,.i .u32 0,.i .u32 0,.i .u32 0,.i .u32 0,.i .u32 0,.i .u32 0,.i .u32 0])]) (.seq (.r [.f 6 0 1,.d 7 6,.f 8 1 1,.d 9 8,.q 10 (.build [.i .u32 0,.i .u32 0,.i .u32 0,.i .u32 0,.i .u32 0,.i .u32 0,.i .u32 0,.i .u32 0,.i .u32 0,.i .u32 0,.i .u32 0,.i .u32 0,.i .u32 0,.i .u32 0,.i .u32 0,.i .u32 0] [(0,1,(.t 7)),(1,1,(.t 9))]),.q 3 (.alloc [.i .u32 0,.i .u32 0,.i .u32 0,.i .u32 0,.i .u32 0,.i .u32 0,.i .u32 0,.i .u32 0,.i .u32 0,.i .u32 0,.i .u32 0,.i .u32 0,.i .u32 0,.i .u32 0,.i .u32 0,.i .u32 0]),.u (.store 16 (.t 3) (.t 10))]) (.seq (.seq (.reg true [.f 11 2 1,.d 12 11,.f 13 3 1,.q 14 (.slcA 6 1 (.t 13) none none none),.l 15 a [.t 12,.t 14],.e 16 15,.m 17 (.k 0)]) (.blk 0 (.loop (.seq (.r [.s 18 17 16]) (.seq (.cond (.t 18) (.skip) (.exit 0)) (.seq (.blk 1 (.seq (.r [.n 19 17,.i 20 1 15 17,.d 21 20,.n 4 19,.n 5 21]) (.r [.n 23 4,.q 24 (.bin .mul (.k 2) (.t 23)),.q 25 (.bin .add (.k 2) (.t 24)),.n 26 4,.q 27 (.bin .mul (.k 2) (.t 26)),.q 28 (.bin .add (.k 3) (.t 27)),.n 29 5,.l 30 b [.t 29],.n 22 30,.x 31 22 0,.x 32 22 1,.q 33 (.iAddrA 16 1 (.t 3) (.t 25)),.u (.store 1 (.t 33) (.t 31)),.q 34 (.iAddrA 16 1 (.t 3) (.t 28)),.u (.store 1 (.t 34) (.t 32))]))) (.r [.a 35 17 1,.n 17 35]))))))) (.seq (.r [.v 36 16 3,.u (.store 16 (.t 2) (.t 36))]) (.ret))))⟩
theorem qBu{g1 g2:Nat}(hc:qc P f (qgm g1 g2)=true)(h1:qEf P g1)(h2:qu9 P g2)(d:GData)(hd:DatOk d):qd P f [.agg (qw d)] (.agg (rI .u32 (xX d))):=by
 refine qd.mk hc rfl ?_;simp only[qgm,qw,vI,simprocAttr];simp +decide only[↓vS,vT,simprocAttr];refine zD ?_;simp +decide only[↓vS,vT,simprocAttr];refine (h1 d.ip [d.a0,d.a1,d.a2,d.a3,d.a4,d.a5] rfl).pc (vs:=[.i .u64 d.ip,.sl 0 3 6 6 false]) ?_ ?_
 ·refine .cons _ _ _ _ (.i _ _) (.cons _ _ _ _ (Frz.cut 1 rfl (Nat.le_refl _) ?_) .nil);simp[vP,Tr.get_set,vZ,rI]
 simp only[vJ,simprocAttr,jh x5];simp +decide only[↓vS,vT,simprocAttr]
 refine SL.loop (α:=Nat) (fun j=>[(2,.ptr 0 0),(3,.ptr 1 0),(15,.own 2 7),(16,.i .i64 7),(17,.i .i64 (j:Int))]) (fun j=>[.cells 0 true false [.i .u32 0,.i .u32 0,.i .u32 0,.i .u32 0,.i .u32 0,.i .u32 0,.i .u32 0,.i .u32 0,.i .u32 0,.i .u32 0,.i .u32 0,.i .u32 0,.i .u32 0,.i .u32 0,.i .u32 0,.i .u32 0],.cells 0 true false (rI .u32 (qd8 d j)),.cells 1 true true (rI .u64 (qkC d))])
  (fun j=>j<=7) (fun j=>7-j) 0 [1,2,3] ?_ ?_ ?_ rfl ?_ ?_
 ·simp[vw]
 ·simp[vw,qd8,xX,qkC,rI]
 ·simp
 ·exact Nat.zero_le _
 rintro j hj G ih;simp only[vI,simprocAttr]
 by_cases hlt:j<7
 ·have hlt':(j:Int)<7:=by omega
  obtain⟨x,hx⟩:∃x,(qkC d)[j]?=some x:=⟨_,zzE (show j<(qkC d).length from hlt)⟩
  have hxr:=hd.wid x (zzM hx);have hl:=qp7 d hj;have hnx:=qn1 d hx;have w1:IntKind.wrap .i64 (2*(j:Int))=((2*j:Nat):Int):=by rw[qq (by omega) (by omega)];omega
  have w2:IntKind.wrap .i64 (2+((2*j:Nat):Int))=((2+2*j:Nat):Int):=by rw[qq (by omega) (by omega)];omega
  have w3:IntKind.wrap .i64 (3+((2*j:Nat):Int))=((3+2*j:Nat):Int):=by rw[qq (by omega) (by omega)];omega
  have w4:IntKind.wrap .i64 ((j:Int)+1)=((j+1:Nat):Int):=by rw[qq (by omega) (by omega)];omega
  simp +decide only[↓vS,vT,simprocAttr,hlt',hlt,Nat.mul_one,qlV,hx,Option.map_some,w1,w2,w3];refine (h2 x hxr.1 hxr.2).sc ?_;have hA:2+2*j<(qd8 d j).length:=by omega
  have hB:3+2*j<((qd8 d j).set (2+2*j) (loW x)).length:=by simp;omega
  have s1:=qoe (k:=.u32) hA (loW x);have s2:=qoe (k:=.u32) hB (hiW x);rw[hnx] at s2;have k1:2+2*j<16:=by omega
  have k2:3+2*j<16:=by omega
  have k3:2+2*j+1<=(rI .u32 (qd8 d j)).length:=by rw[qaM];omega
  have k4:3+2*j+1<=(rI .u32 ((qd8 d j).set (2+2*j) (loW x))).length:=by rw[qaM];omega
  simp +decide only[↓vS,vT,simprocAttr,k1,k2,k3,k4,s1,s2,Nat.mul_one,w4];refine ih (j+1) hlt (by omega) _ _ (Wk.mk _ _ [0,1,2] ?_ ?_ ?_ rfl)
  ·simp[vw]
  ·simp[vw,qh,x5]
  ·simp
 ·obtain rfl:j=7:=by omega
  have h16:16<=(rI .u32 (qd8 d 7)).length:=Nat.le_refl 16;have ht:List.take 16 (List.drop 0 (rI .u32 (qd8 d 7)))=rI .u32 (xX d):=rfl;have hlen:(rI .u32 (xX d)).length=16:=rfl;have hfd:qd8 d 7=xX d:=rfl;have ht2:List.take 16 (rI .u32 (xX d))=rI .u32 (xX d):=rfl;rw[hfd];simp +decide only[↓vS,vT,simprocAttr,h16,ht2,hlen,qDw];simp[vZ,vP,Tr.get_set,zp x5]
def qlk(d:GData)(k:Int):AV:=if k % 4≠0∨64<=k then .tup [.i .u32 0,.i .i64 41] else .tup [.i .u32 ((xX d).getD (k / 4).toNat 0),.i .i64 0]
def qhw(a:Nat):IFn:=⟨[.tmp 4,.tmp 5],.seq (.r [.q 2 (.box (.t 0)),.m 4 (.c (.i .u32 0)),.m 5 (.k 0)]) (.seq (.seq (.r [.n 6 1,.q 7 (.bin .rem (.t 6) (.c (.i .u32 4))),.q 8 (.bin .neq (.t 7) (.c (.i .u32 0))),.n 9 8,.z 10 1 9,.g 11 (.bin .geq (.t 10) (.c (.i .u32 64))) 9 false,.o 12 9 11]) (.cond (.t 12) (.seq (.r [.m 4 (.c (.i .u32 0)),.m 5 (.k 41)]) (.ret)) (.skip))) (.seq (.r [.v 13 9 2,.l 14 a [.t 13],.n 15 1,.q 16 (.bin .quo (.t 15) (.c (.i .u32 4))),.q 17 (.idxA 16 1 false (.t 14) (.t 16)),.n 4 17,.m 5 (.k 0)]) (.ret)))⟩
theorem qCH{g:Nat}(hc:qc P f (qhw g)=true)(hg:∀d,DatOk d->qd P g [.agg (qw d)] (.agg (rI .u32 (xX d))))(d:GData)(hd:DatOk d)(k:Int)(h0:0<=k)(h1:k<=4294967295):qd P f [.agg (qw d),.i .u32 k] (qlk d k):=by
 refine qd.mk hc rfl ?_;have h40:(4:Int)≠0:=by decide
 have ht:k.tmod 4=k % 4:=Int.tmod_eq_emod_of_nonneg h0;have hq:k.tdiv 4=k / 4:=Int.tdiv_eq_ediv_of_nonneg h0;have hg:=hg d hd;unfold qlk;simp only[qhw,qw,vI,simprocAttr] at hg ⊢
 by_cases hm:k % 4=0
 ·by_cases hb:64<=k
  ·rw[if_pos (.inr hb)];simp +decide only[↓vS,vT,simprocAttr,↓qbT h40,ht,hm,hb];simp[vZ]
  ·rw[if_neg (by omega)];have hn:(k / 4).toNat<16:=by omega
   obtain⟨x,hx⟩:∃x,(xX d)[(k / 4).toNat]?=some x:=⟨_,zzE hn⟩;rw[List.getD_eq_getElem?_getD,hx];have hk:k / 4=(((k / 4).toNat:Nat):Int):=by omega
   have hw:IntKind.wrap .u32 (k / 4)=(((k / 4).toNat:Nat):Int):=by
    show (k / 4) % 4294967296=_;omega
   simp +decide only[↓vS,vT,simprocAttr,↓qbT h40,ht,hm,hb];refine hg.sc ?_;generalize xX d=W at hx;simp +decide only[↓vS,vT,simprocAttr,↓qi0 h40,hq,hw,hn,Nat.mul_one,qlV,hx,Option.map_some];simp[vZ]
 ·rw[if_pos (.inl hm)];simp +decide only[↓vS,vT,simprocAttr,↓qbT h40,ht,hm];simp[vZ]


def qCq(c:Int):Bool:=!decide (xT .u16 c 8=0)
def jk(c:Int):Bool:=(decide (ql c=3)||decide (ql c=4))&&qCq c
def qgo(a:Nat):IFn:=⟨[.tmp 2],.seq (.r [.m 2 .F]) (.seq (.r [.n 6 0,.l 7 a [.t 6],.n 5 7,.x 8 5 0,.x 9 5 1,.q 3 (.alloc [.i .u16 0,.s [],.i .u8 0]),.u (.store 3 (.t 3) (.t 8)),.n 4 9]) (.seq (.r [.n 10 4,.n 11 10,.h 12 2 3 11 true,.j 13 12 11 true,.g 14 (.bin .eql (.t 13) (.c (.i .u8 3))) 11 true,.y 15 14 11,.h 16 2 3 15 false,.j 17 16 15 false,.g 18 (.bin .eql (.t 17) (.c (.i .u8 4))) 15 false,.g 19 (.pick (.t 15) .T (.t 18)) 11 true,.p 20 11 19,.n 21 20,.y 22 0 21,.g 23 (.bin .and (.t 22) (.c (.i .u16 8))) 21 true,.g 24 (.bin .neq (.t 23) (.c (.i .u16 0))) 21 true,.p 25 21 24,.n 2 25]) (.ret)))⟩
theorem qBi{g:Nat}(hc:qc P f (qgo g)=true)(hg:∀n,qd P g [.i .u16 n] (.tup [.agg (qd7 (qah n)),.b (zN n)]))(c:Int):qd P f [.i .u16 c] (.b (jk c)):=by
 refine qd.mk hc rfl ?_
 have hcl:(qd7 (qah c)).length=3∧(qd7 (qah c))[2]?=some (.i .u8 (ql c))∧qE (qd7 (qah c))=true:=by
  unfold ql;cases qah c<;>exact⟨rfl,rfl,rfl⟩
 have hk:zN c=false->ql c=0:=by unfold zN ql;cases qah c<;>simp
 have hgc:=hg c;generalize qd7 (qah c)=E at hcl hgc;obtain⟨he1,he2,he3⟩:=hcl;unfold jk qCq;simp only[qgo,vI,simprocAttr];simp +decide only[↓vS,vT,simprocAttr];refine hgc.sc ?_;cases hkn:zN c with
 | false =>
  have h0:=hk hkn;simp +decide only[↓vS,vT,simprocAttr,he1,he3];simp[vZ,h0]
 | true =>
  by_cases h3:ql c=3
  ·simp +decide only[↓vS,vT,simprocAttr,he1,he2,he3,h3];simp[vZ,h3]
  by_cases h4:ql c=4
  ·simp +decide only[↓vS,vT,simprocAttr,he1,he2,he3,h3,h4];simp[vZ,h4]
  ·simp +decide only[↓vS,vT,simprocAttr,he1,he2,he3,h3,h4];simp[vZ,h3,h4]
def qc7(left:Bool):Nat->Int->Int
 | 0,a=>a
 | n+1,a=>qc7 left n (if left=true then a*2 % 4294967296 else a / 2)
theorem qjN:∀(n:Nat) (a:Int),0<=a->a<=4294967295->qc7 true n a=a*2 ^ n % 4294967296
 | 0,a,h0,h1=>by show a=a*1 % 4294967296;omega
 | n+1,a,h0,h1=>by
  show qc7 true n (a*2 % 4294967296)=_;rw[qjN n _ (by omega) (by omega),Int.pow_succ,Int.mul_emod,Int.emod_emod,← Int.mul_emod,Int.mul_assoc,Int.mul_comm 2]
theorem qiF:∀(n:Nat) (a:Int),0<=a->qc7 false n a=a / 2 ^ n
 | 0,a,_=>by show a=a / 1;omega
 | n+1,a,h0=>by
  show qc7 false n (a / 2)=_;rw[qiF n _ (by omega),Int.ediv_ediv_of_nonneg (by decide),Int.pow_succ,Int.mul_comm]
structure Mac where
 a:Int
 x:Int
 told:Int
 cl:List Int
 over:Bool
def u32(x:Int):Prop:=0<=x∧x<=4294967295
structure MacOk (m:Mac):Prop where
 a:u32 m.a
 x:u32 m.x
 told:u32 m.told
 len:m.cl.length=16
 cl:∀c ∈ m.cl,u32 c
def qfD(i:Ins):Bool:=decide (i.code=96)||decide (i.code=97)||decide (i.code=2)||decide (i.code=3)
def qdt(m:Mac)(i:Ins)(d:GData):Mac×Int :=
 if qfD i=true∧15<i.k then (m,43)
 else if i.code=32 then (if i.k % 4≠0∨64<=i.k then (m,41) else ({ m with a:=(xX d).getD (i.k / 4).toNat 0 },0))
 else if i.code=128 then ({ m with a:=64 },0)
 else if i.code=129 then ({ m with x:=64 },0)
 else if i.code=0 then ({ m with a:=i.k },0)
 else if i.code=1 then ({ m with x:=i.k },0)
 else if i.code=96 then ({ m with a:=m.cl.getD i.k.toNat 0 },0)
 else if i.code=97 then ({ m with x:=m.cl.getD i.k.toNat 0 },0)
 else if i.code=2 then ({ m with cl:=m.cl.set i.k.toNat m.a },0)
 else if i.code=3 then ({ m with cl:=m.cl.set i.k.toNat m.x },0)
 else if i.code=7 then ({ m with x:=m.a },0)
 else if i.code=135 then ({ m with a:=m.x },0)
 else (m,0)
def qrJ(P:Program)(g:Nat):Prop:=∀d,DatOk d->∀k:Int,0<=k->k<=4294967295->qd P g [.agg (qw d),.i .u32 k] (qlk d k)
def opM(c a b:Int):Int :=
 if c=4 then IntKind.wrap .u32 (a+b) else if c=20 then IntKind.wrap .u32 (a-b) else if c=36 then IntKind.wrap .u32 (a*b)
 else if c=68 then orI .u32 a b else if c=84 then xT .u32 a b else if c=164 then qBj .u32 a b else IntKind.wrap .u32 (0-a)
def qcx(m:Mac)(i:Ins):Int:=if jk i.code=true then m.x else i.k
def qP(c:Int):Int:=if jk c=true then c-8 else c
def nuM(m:Mac)(i:Ins):Mac×Int :=
 if qP i.code=52 then (if 0<qcx m i then ({ m with a:=m.a / qcx m i },0) else if jk i.code=true then ({ m with over:=true },0) else (m,44))
 else if qP i.code=100∨qP i.code=116 then (if jk i.code=false∧31<qcx m i then (m,45) else ({ m with a:=qc7 (decide (qP i.code=100)) (qcx m i % 32).toNat m.a },0))
 else ({ m with a:=opM (qP i.code) m.a (qcx m i) },0)
def c3L:List Int:=[4,12,20,28,36,44,52,60,68,76,84,92,100,108,116,124,164,172,132]
theorem qul:∀x ∈ qaF,x.2.2=3->c3L.contains x.1=true:=by decide
def cWX(P:Program)(g:Nat):Prop:=∀c:Int,qd P g [.i .u16 c] (.b (jk c))
def qbi(c a b:Int):Bool:=if c=21 then decide (a=b) else if c=37 then decide (b<a) else if c=53 then decide (b<=a) else decide (0<xT .u32 a b)
def qgA(m:Mac)(i:Ins):Int:=if i.code=5 then i.k else if qbi (qP i.code) m.a (qcx m i)=true then i.jt else i.jf
def c4L:List Int:=[21,29,37,45,53,61,69,77,5]
theorem qA5:∀x ∈ qaF,x.2.2=4->c4L.contains x.1=true:=by decide
def qpq(m:Mac)(i:Ins):Mac:={ m with over:=true,told:=if i.code=22 then m.a else i.k }
def doR(m:Mac)(i:Ins)(d:GData):Mac×Int×Int :=
 if zN i.code=false then (m,0,40)
 else if ql i.code=1∨ql i.code=2∨ql i.code=6 then ((qdt m i d).1,0,(qdt m i d).2)
 else if ql i.code=3 then ((nuM m i).1,0,(nuM m i).2)
 else if ql i.code=4 then (m,qgA m i,0)
 else (qpq m i,0,0)
theorem qcc(x:Int):u32 (IntKind.wrap .u32 x):=by show 0<=x % 4294967296∧x % 4294967296<=4294967295;omega
theorem qm5(left:Bool):∀(n:Nat) (a:Int),u32 a->u32 (qc7 left n a)
 | 0,_,h=>h
 | n+1,a,h=>by
  refine qm5 left n _ ?_;unfold u32 at h ⊢;split<;>omega
theorem qku{d:GData}(hd:DatOk d){x:Int}(hm:x ∈ xX d):u32 x:=by
 unfold xX at hm;rcases List.mem_cons.1 hm with rfl|hm
 ·exact⟨hd.nr0,hd.nr1⟩
 rcases List.mem_cons.1 hm with rfl|hm
 ·exact⟨hd.ar0,hd.ar1⟩
 obtain⟨y,hy,hm⟩:=List.mem_flatMap.1 hm;have:=hd.wid y hy;simp only[List.mem_cons,List.not_mem_nil,or_false] at hm;unfold u32;rcases hm with rfl|rfl
 ·unfold loW;omega
 ·unfold hiW;omega
theorem qho{l:List Int}(h:∀c ∈ l,u32 c)(j:Nat):u32 (l.getD j 0):=by
 rw[List.getD_eq_getElem?_getD];cases hx:l[j]? with
 | none=>exact⟨Int.le_refl _,by decide⟩
 | some x=>exact h x (zzM hx)
theorem qs7{m:Mac}(hm:MacOk m){i:Ins}(hi:InsOk i){d:GData}(hd:DatOk d):MacOk (qdt m i d).1:=by
 have hk:u32 i.k:=⟨hi.k0,hi.k1⟩;have h64:u32 64:=⟨by decide,by decide⟩
 unfold qdt
 by_cases c1:qfD i=true∧15<i.k
 ·rw[if_pos c1];exact hm
 rw[if_neg c1]
 by_cases c2:i.code=32
 ·rw[if_pos c2]
  by_cases c3:i.k % 4≠0∨64<=i.k
  ·rw[if_pos c3];exact hm
  ·rw[if_neg c3];exact⟨qho (fun c hc=>qku hd hc) _,hm.x,hm.told,hm.len,hm.cl⟩
 rw[if_neg c2]
 by_cases d1:i.code=128
 ·rw[if_pos d1];exact⟨h64,hm.x,hm.told,hm.len,hm.cl⟩
 rw[if_neg d1]
 by_cases d2:i.code=129
 ·rw[if_pos d2];exact⟨hm.a,h64,hm.told,hm.len,hm.cl⟩
 rw[if_neg d2]
 by_cases d3:i.code=0
 ·rw[if_pos d3];exact⟨hk,hm.x,hm.told,hm.len,hm.cl⟩
 rw[if_neg d3]
 by_cases d4:i.code=1
 ·rw[if_pos d4];exact⟨hm.a,hk,hm.told,hm.len,hm.cl⟩
 rw[if_neg d4]
 by_cases d5:i.code=96
 ·rw[if_pos d5];exact⟨qho hm.cl _,hm.x,hm.told,hm.len,hm.cl⟩
 rw[if_neg d5]
 by_cases d6:i.code=97
 ·rw[if_pos d6];exact⟨hm.a,qho hm.cl _,hm.told,hm.len,hm.cl⟩
 rw[if_neg d6]
 by_cases d7:i.code=2
 ·rw[if_pos d7];exact⟨hm.a,hm.x,hm.told,by simpa using hm.len,fun c hc=>(List.mem_or_eq_of_mem_set hc).elim (hm.cl c) (fun e=>e ▸ hm.a)⟩
 rw[if_neg d7]
 by_cases d8:i.code=3
 ·rw[if_pos d8];exact⟨hm.a,hm.x,hm.told,by simpa using hm.len,fun c hc=>(List.mem_or_eq_of_mem_set hc).elim (hm.cl c) (fun e=>e ▸ hm.x)⟩
 rw[if_neg d8]
 by_cases d9:i.code=7
 ·rw[if_pos d9];exact⟨hm.a,hm.a,hm.told,hm.len,hm.cl⟩
 rw[if_neg d9]
 by_cases d10:i.code=135
 ·rw[if_pos d10];exact⟨hm.x,hm.x,hm.told,hm.len,hm.cl⟩
 rw[if_neg d10];exact hm
theorem qAa(c a b:Int):u32 (opM c a b):=by
 unfold opM;split
 ·exact qcc _
 split
 ·exact qcc _
 split
 ·exact qcc _
 split
 ·exact qcc _
 split
 ·exact qcc _
 split
 ·exact qcc _
 ·exact qcc _
theorem qzZ{m:Mac}(hm:MacOk m)(i:Ins):MacOk (nuM m i).1:=by
 unfold nuM;split
 ·split
  ·rename_i hb;have h1:m.a / qcx m i<=m.a:=Int.ediv_le_self _ hm.a.1;have h2:0<=m.a / qcx m i:=Int.ediv_nonneg hm.a.1 (by omega);have h3:=hm.a.2;exact⟨⟨h2,by show m.a / qcx m i<=4294967295;omega⟩,hm.x,hm.told,hm.len,hm.cl⟩
  split
  ·exact⟨hm.a,hm.x,hm.told,hm.len,hm.cl⟩
  ·exact hm
 split
 ·split
  ·exact hm
  ·exact⟨qm5 _ _ _ hm.a,hm.x,hm.told,hm.len,hm.cl⟩
 ·exact⟨qAa _ _ _,hm.x,hm.told,hm.len,hm.cl⟩
theorem qsQ{m:Mac}{i:Ins}(hi:InsOk i):u32 (qgA m i):=by
 have:=hi.t0;have:=hi.t1;have:=hi.f0;have:=hi.f1;have:=hi.k0;have:=hi.k1
 unfold qgA u32;split
 ·omega
 split<;>omega
theorem qy2{m:Mac}(hm:MacOk m){i:Ins}(hi:InsOk i){d:GData}(hd:DatOk d):MacOk (doR m i d).1∧u32 (doR m i d).2.1:=by
 have h0:u32 0:=⟨by decide,by decide⟩
 unfold doR;split
 ·exact⟨hm,h0⟩
 split
 ·exact⟨qs7 hm hi hd,h0⟩
 split
 ·exact⟨qzZ hm i,h0⟩
 split
 ·exact⟨hm,qsQ hi⟩
 ·refine⟨⟨hm.a,hm.x,?_,hm.len,hm.cl⟩,h0⟩;show u32 (if i.code=22 then m.a else i.k)
  split
  ·exact hm.a
  ·exact⟨hi.k0,hi.k1⟩
def qkc(p:List Ins)(d:GData):Nat->Mac->Nat->Int->List Nat->Int×Nat×List Nat×Int
 | 0,_,_,_,l=>(0,0,l,0)
 | n+1,m,at',bh,l=>match p[at']? with
  | none=>(0,l.length,l,bh)
  | some i=>if (doR m i d).2.2≠0 then (0,l.length,l++[at'],(doR m i d).2.2)
   else if (doR m i d).1.over=true then ((doR m i d).1.told,l.length+1,l++[at'],0)
   else qkc p d n (doR m i d).1 (at'+1+(doR m i d).2.1.toNat) (if ql i.code=4 then 42 else 46) (l++[at'])
def qta:Mac:=⟨0,0,0,List.replicate 16 0,false⟩
theorem qrK{d:GData}:List.take 9 (List.drop 0 (qw d))=qw d:=rfl
theorem qxx{d:GData}:9<=(qw d).length:=Nat.le_refl 9
theorem qls{d:GData}:qu (qw d)=true:=rfl
theorem qv9:MacOk qta:=⟨⟨by decide,by decide⟩,⟨by decide,by decide⟩,⟨by decide,by decide⟩,rfl,fun c hc=>by
 have:=List.eq_of_mem_replicate hc;subst this;exact⟨by decide,by decide⟩⟩
theorem qio{p:List Ins}{d:GData}{n:Nat}{m:Mac}{at':Nat}{bh:Int}{l:List Nat}:qkc p d (n+1) m at' bh l=match p[at']? with
  | none=>(0,l.length,l,bh)
  | some i=>if (doR m i d).2.2≠0 then (0,l.length,l++[at'],(doR m i d).2.2)
   else if (doR m i d).1.over=true then ((doR m i d).1.told,l.length+1,l++[at'],0)
   else qkc p d n (doR m i d).1 (at'+1+(doR m i d).2.1.toNat) (if ql i.code=4 then 42 else 46) (l++[at']):=rfl
def qgr:IFn:=⟨[.tmp 4],.seq (.r [.m 4 (.c (.i .u32 0))]) (.seq (.r [.n 5 0,.n 6 1,.b 7 .add 5 6,.n 4 7]) (.ret))⟩
theorem qFh(hc:qc P f qgr=true)(a b:Int):qd P f [.i .u32 a,.i .u32 b] (.i .u32 (opM 4 a b)):=by
 refine qd.mk hc rfl ?_;simp only[qgr,vI,simprocAttr];simp +decide only[↓vS,vT,simprocAttr];simp[vZ,opM]
def qgs:IFn:=⟨[.tmp 4],.seq (.r [.m 4 (.c (.i .u32 0))]) (.seq (.r [.n 5 0,.n 6 1,.b 7 .sub 5 6,.n 4 7]) (.ret))⟩
theorem qFi(hc:qc P f qgs=true)(a b:Int):qd P f [.i .u32 a,.i .u32 b] (.i .u32 (opM 20 a b)):=by
 refine qd.mk hc rfl ?_;simp only[qgs,vI,simprocAttr];simp +decide only[↓vS,vT,simprocAttr];simp[vZ,opM]
def qgt:IFn:=⟨[.tmp 4],.seq (.r [.m 4 (.c (.i .u32 0))]) (.seq (.r [.n 5 0,.n 6 1,.b 7 .mul 5 6,.n 4 7]) (.ret))⟩
theorem qFj(hc:qc P f qgt=true)(a b:Int):qd P f [.i .u32 a,.i .u32 b] (.i .u32 (opM 36 a b)):=by
 refine qd.mk hc rfl ?_;simp only[qgt,vI,simprocAttr];simp +decide only[↓vS,vT,simprocAttr];simp[vZ,opM]
def qgv:IFn:=⟨[.tmp 4],.seq (.r [.m 4 (.c (.i .u32 0))]) (.seq (.r [.n 5 0,.n 6 1,.b 7 .or 5 6,.n 4 7]) (.ret))⟩
theorem qFl(hc:qc P f qgv=true)(a b:Int):qd P f [.i .u32 a,.i .u32 b] (.i .u32 (opM 68 a b)):=by
 refine qd.mk hc rfl ?_;simp only[qgv,vI,simprocAttr];simp +decide only[↓vS,vT,simprocAttr];simp[vZ,opM]
def qgw:IFn:=⟨[.tmp 4],.seq (.r [.m 4 (.c (.i .u32 0))]) (.seq (.r [.n 5 0,.n 6 1,.b 7 .and 5 6,.n 4 7]) (.ret))⟩
theorem qFm(hc:qc P f qgw=true)(a b:Int):qd P f [.i .u32 a,.i .u32 b] (.i .u32 (opM 84 a b)):=by
 refine qd.mk hc rfl ?_;simp only[qgw,vI,simprocAttr];simp +decide only[↓vS,vT,simprocAttr];simp[vZ,opM]
def qgz:IFn:=⟨[.tmp 4],.seq (.r [.m 4 (.c (.i .u32 0))]) (.seq (.r [.n 5 0,.n 6 1,.b 7 .xor 5 6,.n 4 7]) (.ret))⟩
theorem qFp(hc:qc P f qgz=true)(a b:Int):qd P f [.i .u32 a,.i .u32 b] (.i .u32 (opM 164 a b)):=by
 refine qd.mk hc rfl ?_;simp only[qgz,vI,simprocAttr];simp +decide only[↓vS,vT,simprocAttr];simp[vZ,opM]
def qfy:IFn:=⟨[.tmp 4],.seq (.r [.m 4 (.c (.i .u32 0))]) (.seq (.r [.n 5 0,.q 6 (.un .neg (.t 5)),.n 4 6]) (.ret))⟩
theorem qEB(hc:qc P f qfy=true)(a b:Int):qd P f [.i .u32 a,.i .u32 b] (.i .u32 (opM 132 a b)):=by
 refine qd.mk hc rfl ?_;simp only[qfy,vI,simprocAttr];simp +decide only[↓vS,vT,simprocAttr];simp[vZ,opM]
def qgu:IFn:=⟨[.tmp 4],.seq (.r [.m 4 (.c (.i .u32 0))]) (.seq (.r [.n 5 0,.n 6 1,.q 7 (.max (.t 6) (.c (.i .u32 1))),.b 8 .quo 5 7,.n 4 8]) (.ret))⟩
theorem qFk(hc:qc P f qgu=true)(a b:Int)(a0:0<=a)(a1:a<=4294967295)(b0:0<b):qd P f [.i .u32 a,.i .u32 b] (.i .u32 (a / b)):=by
 refine qd.mk hc rfl ?_;have h1:¬b<1:=by omega
 have hne:b≠0:=by omega
 have hq:a.tdiv b=a / b:=Int.tdiv_eq_ediv_of_nonneg a0;have hle:a / b<=a:=Int.ediv_le_self _ a0;have hge:0<=a / b:=Int.ediv_nonneg a0 (by omega);have hwq:IntKind.wrap .u32 (a / b)=a / b:=by show (a / b) % 4294967296=_;omega
 simp only[qgu,vI,simprocAttr];simp +decide only[↓vS,vT,simprocAttr,h1,↓qi0 hne,hq,hwq];simp[vZ]
def qgx:IFn:=⟨[.tmp 4],.seq (.r [.m 4 (.c (.i .u32 0))]) (.seq (.r [.n 5 0,.n 6 1,.q 7 (.bin .rem (.t 6) (.c (.i .u32 32))),.b 8 .shl 5 7,.n 4 8]) (.ret))⟩
theorem qFn(hc:qc P f qgx=true)(a b:Int)(a0:0<=a)(a1:a<=4294967295)(b0:0<=b):qd P f [.i .u32 a,.i .u32 b] (.i .u32 (qc7 true (b % 32).toNat a)):=by
 refine qd.mk hc rfl ?_;have h32:(32:Int)≠0:=by decide
 have hr:b.tmod 32=b % 32:=Int.tmod_eq_emod_of_nonneg b0;have hp:0<=b % 32:=by omega
 have hm:min (b % 32).toNat 32=(b % 32).toNat:=by omega
 have hsh:quf .u32 a (b % 32)=qc7 true (b % 32).toNat a:=by
  rw[qjN (b % 32).toNat a a0 a1];unfold quf;rw[show IntKind.bits .u32=32 from rfl,hm]
  rfl
 simp only[qgx,vI,simprocAttr];simp +decide only[↓vS,vT,simprocAttr,↓qbT h32,hr,hp,hsh];simp[vZ]
def qgy:IFn:=⟨[.tmp 4],.seq (.r [.m 4 (.c (.i .u32 0))]) (.seq (.r [.n 5 0,.n 6 1,.q 7 (.bin .rem (.t 6) (.c (.i .u32 32))),.b 8 .shr 5 7,.n 4 8]) (.ret))⟩
theorem qFo(hc:qc P f qgy=true)(a b:Int)(a0:0<=a)(a1:a<=4294967295)(b0:0<=b):qd P f [.i .u32 a,.i .u32 b] (.i .u32 (qc7 false (b % 32).toNat a)):=by
 refine qd.mk hc rfl ?_;have h32:(32:Int)≠0:=by decide
 have hr:b.tmod 32=b % 32:=Int.tmod_eq_emod_of_nonneg b0;have hp:0<=b % 32:=by omega
 have hm:min (b % 32).toNat 32=(b % 32).toNat:=by omega
 have hsh:qug .u32 a (b % 32)=qc7 false (b % 32).toNat a:=by
  rw[qiF (b % 32).toNat a a0];unfold qug;rw[show IntKind.bits .u32=32 from rfl,hm]
  exact Int.fdiv_eq_ediv_of_nonneg _ (Int.le_of_lt (Int.pow_pos (by decide)))
 simp only[qgy,vI,simprocAttr];simp +decide only[↓vS,vT,simprocAttr,↓qbT h32,hr,hp,hsh];simp[vZ]
def qfz:IFn:=⟨[.tmp 4],.seq (.r [.m 4 .F]) (.seq (.r [.n 5 0,.n 6 1,.b 7 .eql 5 6,.n 4 7]) (.ret))⟩
theorem qEC(hc:qc P f qfz=true)(a b:Int):qd P f [.i .u32 a,.i .u32 b] (.b (qbi 21 a b)):=by
 refine qd.mk hc rfl ?_;simp only[qfz,vI,simprocAttr];simp +decide only[↓vS,vT,simprocAttr];simp[vZ,qbi]
def qfA:IFn:=⟨[.tmp 4],.seq (.r [.m 4 .F]) (.seq (.r [.n 5 0,.n 6 1,.b 7 .gtr 5 6,.n 4 7]) (.ret))⟩
theorem qED(hc:qc P f qfA=true)(a b:Int):qd P f [.i .u32 a,.i .u32 b] (.b (qbi 37 a b)):=by
 refine qd.mk hc rfl ?_;simp only[qfA,vI,simprocAttr];simp +decide only[↓vS,vT,simprocAttr];simp[vZ,qbi]
def qfB:IFn:=⟨[.tmp 4],.seq (.r [.m 4 .F]) (.seq (.r [.n 5 0,.n 6 1,.b 7 .geq 5 6,.n 4 7]) (.ret))⟩
theorem qEE(hc:qc P f qfB=true)(a b:Int):qd P f [.i .u32 a,.i .u32 b] (.b (qbi 53 a b)):=by
 refine qd.mk hc rfl ?_;simp only[qfB,vI,simprocAttr];simp +decide only[↓vS,vT,simprocAttr];simp[vZ,qbi]
theorem qot(a b:Int):0<=xT .u32 a b:=(qcc _).1
def qfC:IFn:=⟨[.tmp 4],.seq (.r [.m 4 .F]) (.seq (.r [.n 5 0,.n 6 1,.b 7 .and 5 6,.q 8 (.bin .neq (.t 7) (.c (.i .u32 0))),.n 4 8]) (.ret))⟩
theorem qEF(hc:qc P f qfC=true)(a b:Int):qd P f [.i .u32 a,.i .u32 b] (.b (qbi 69 a b)):=by
 refine qd.mk hc rfl ?_;have h:=qot a b;simp only[qfC,vI,simprocAttr];simp +decide only[↓vS,vT,simprocAttr];simp[vZ,qbi]
 by_cases h0:0<xT .u32 a b
 ·have h1:¬xT .u32 a b=0:=by omega
  simp[h0,h1]
 ·have h1:xT .u32 a b=0:=by omega
  simp[h1]
def fnO:Option Nat->AV
 | none=>.nilf
 | some g=>.fn g [] []
def qaH(x:Int×Option Nat×Option Nat):List AV:=[.i .u16 x.1,fnO x.2.1,fnO x.2.2]
theorem qk8(x:Int×Option Nat×Option Nat):(qaH x).length=3:=rfl
def qAA(g1 g2 g3 g4 g5 g6 g7 g8 g9 g10 g11 g12 g13 g14:Nat):List (Int×Option Nat×Option Nat):=[(4,some g1,none),(20,some g2,none),(36,some g3,none),(52,some g4,none),(68,some g5,none),(84,some g6,none),(100,some g7,none),(116,some g8,none),(164,some g9,none),(132,some g10,none),(21,none,some g11),(37,none,some g12),(53,none,some g13),(69,none,some g14)]
def qiD(a b c d e g h i j k l m n o:Nat):IFn:=⟨[.cell 0 42 true],.seq (.r [.q 0 (.alloc [.i .u16 0,.nilf,.nilf,.i .u16 0,.nilf,.nilf,.i .u16 0,.nilf,.nilf,.i .u16 0,.nilf,.nilf,.i .u16 0,.nilf,.nilf,.i .u16 0,.nilf,.nilf,.i .u16 0,.nilf,.nilf,.i .u16 0,.nilf,.nilf,.i .u16 0,.nilf,.nilf,.i .u16 0,.nilf,.nilf,.i .u16 0,.nilf,.nilf,.i .u16 0,.nilf,.nilf,.i .u16 0,.nilf,.nilf,.i .u16 0,.nilf,.nilf])]) (.seq (.r [.q 1 (.build [.i .u16 0,.nilf,.nilf] [(0,1,(.c (.i .u16 4))),(1,1,(.c (.fn a [] [])))]),.q 2 (.build [.i .u16 0,.nilf,.nilf] [(0,1,(.c (.i .u16 20))),(1,1,(.c (.fn b [] [])))]),.q 3 (.build [.i .u16 0,.nilf,.nilf] [(0,1,(.c (.i .u16 36))),(1,1,(.c (.fn c [] [])))]),.q 4 (.build [.i .u16 0,.nilf,.nilf] [(0,1,(.c (.i .u16 52))),(1,1,(.c (.fn d [] [])))]),.q 5 (.build [.i .u16 0,.nilf,.nilf] [(0,1,(.c (.i .u16 68))),(1,1,(.c (.fn e [] [])))]),.q 6 (.build [.i .u16 0,.nilf,.nilf] [(0,1,(.c (.i .u16 84))),(1,1,(.c (.fn g [] [])))]),.q 7 (.build [.i .u16 0,.nilf,.nilf] [(0,1,(.c (.i .u16 100))),(1,1,(.c (.fn h [] [])))]),.q 8 (.build [.i .u16 0,.nilf,.nilf] [(0,1,(.c (.i .u16 116))),(1,1,(.c (.fn i [] [])))]),.q 9 (.build [.i .u16 0,.nilf,.nilf] [(0,1,(.c (.i .u16 164))),(1,1,(.c (.fn j [] [])))]),.q 10 (.build [.i .u16 0,.nilf,.nilf] [(0,1,(.c (.i .u16 132))),(1,1,(.c (.fn k [] [])))]),.q 11 (.build [.i .u16 0,.nilf,.nilf] [(0,1,(.c (.i .u16 21))),(2,1,(.c (.fn l [] [])))]),.q 12 (.build [.i .u16 0,.nilf,.nilf] [(0,1,(.c (.i .u16 37))),(2,1,(.c (.fn m [] [])))]),.q 13 (.build [.i .u16 0,.nilf,.nilf] [(0,1,(.c (.i .u16 53))),(2,1,(.c (.fn n [] [])))]),.q 14 (.build [.i .u16 0,.nilf,.nilf] [(0,1,(.c (.i .u16 69))),(2,1,(.c (.fn o [] [])))]),.q 15 (.build [.i .u16 0,.nilf,.nilf,.i .u16 0,.nilf,.nilf,.i .u16 0,.nilf,.nilf,.i .u16 0,.nilf,.nilf,.i .u16 0,.nilf,.nilf,.i .u16 0,.nilf,.nilf,.i .u16 0,.nilf,.nilf,.i .u16 0,.nilf,.nilf,.i .u16 0,.nilf,.nilf,.i .u16 0,.nilf,.nilf,.i .u16 0,.nilf,.nilf,.i .u16 0,.nilf,.nilf,.i .u16 0,.nilf,.nilf,.i .u16 0,.nilf,.nilf] [(0,3,(.t 1)),(3,3,(.t 2)),(6,3,(.t 3)),(9,3,(.t 4)),(12,3,(.t 5)),(15,3,(.t 6)),(18,3,(.t 7)),(21,3,(.t 8)),(24,3,(.t 9)),(27,3,(.t 10)),(30,3,(.t 11)),(33,3,(.t 12)),(36,3,(.t 13)),(39,3,(.t 14))]),.u (.store 42 (.t 0) (.t 15))]) (.ret))⟩
set_option maxRecDepth 8000 in
theorem qAy{g1 g2 g3 g4 g5 g6 g7 g8 g9 g10 g11 g12 g13 g14:Nat}(hc:qc P f (qiD g1 g2 g3 g4 g5 g6 g7 g8 g9 g10 g11 g12 g13 g14)=true):qd P f [] (.agg ((qAA g1 g2 g3 g4 g5 g6 g7 g8 g9 g10 g11 g12 g13 g14).flatMap qaH)):=by
 refine qd.mk hc rfl ?_;simp only[qiD,vI,simprocAttr];simp +decide only[↓vS,vT,simprocAttr];simp[vZ,vP,Tr.get_set,qAA,qaH,fnO]
def qjs(c:Int):Int:=if jk c=true then qff .u16 c 8 else c
theorem qi7(o:Option Nat):clo (fnO o)=true:=by cases o<;>rfl
def qfx(a b:Nat):ICode:=.seq (.seq (.r [.l 9 b [],.m 10 (.k 0)]) (.blk 0 (.loop (.seq (.r [.w 11 .lss 10 14]) (.seq (.cond (.t 11) (.skip) (.exit 0)) (.seq (.blk 1 (.seq (.r [.q 12 (.idxA 14 3 true (.t 9) (.t 10)),.q 4 (.alloc [.i .u16 0,.nilf,.nilf]),.u (.store 3 (.t 4) (.t 12))]) (.seq (.r [.f 13 0 4,.d 14 13,.n 15 0,.b 16 .eql 14 15]) (.cond (.t 16) (.seq (.r [.v 17 3 4,.u (.store 3 (.t 2) (.t 17))]) (.ret)) (.skip))))) (.r [.a 18 10 1,.n 10 18]))))))) (.seq (.r [.q 19 (.build [.i .u16 0,.nilf,.nilf] []),.u (.store 3 (.t 2) (.t 19))]) (.ret))
def qm3(a b:Nat):IFn:=⟨[.cell 2 3 true],.seq (.r [.q 2 (.alloc [.i .u16 0,.nilf,.nilf])]) (.seq (.seq (.r [.n 5 0,.l 6 a [.t 5]]) (.cond (.t 6) (.r [.n 7 0,.q 8 (.bin .andNot (.t 7) (.c (.i .u16 8))),.n 0 8]) (.skip))) (.cut (qfx a b)))⟩
theorem qxr{g1 g2:Nat}(ws:List (Int×Option Nat×Option Nat))(hw:ws.length=14)(h2:qd P g2 [] (.agg (ws.flatMap qaH)))(b:Int)(r:Int×Option Nat×Option Nat)(hr:(ws.find? fun x=>decide (x.1=b))=some r)
  {t':Tr AV} {h':Hp} (hwk:Wk 0 t' h' (mkT [(0,.i .u16 b),(2,.ptr 0 0)]) (mkH 0 [.cells 0 true false [.i .u16 0,.nilf,.nilf]])) :
  S P 0 (qfx g1 g2) (qac [.cell 2 3 true] fun v' h'=>Frz h' v' (.agg (qaH r))) t' h':=by
 refine S.weak hwk (qj ?_);have hlen:(ws.flatMap qaH).length=42:=by rw[zl qk8,hw]
 have hcl:qu (ws.flatMap qaH)=true:=x9 (fun x=>by simp[qaH,qu,clo,qi7])
 simp only[qfx,vI,simprocAttr];simp +decide only[↓vS,vT,simprocAttr];refine h2.sc ?_;simp +decide only[↓vS,vT,simprocAttr];refine SL.loop (α:=Nat) (fun j=>[(0,.i .u16 b),(2,.ptr 0 0),(9,.agg (ws.flatMap qaH)),(10,.i .i64 (j:Int))]) (fun _=>[.cells 0 true false [.i .u16 0,.nilf,.nilf]]) (fun j=>j<=14∧((ws.drop j).find? fun x=>decide (x.1=b))=some r) (fun j=>14-j) 0 [0] ?_ ?_ ?_ rfl ?_ ?_
 ·simp[vw,qh,hcl]
 ·simp[vw]
 ·simp
 ·exact⟨Nat.zero_le _,hr⟩
 rintro j ⟨hj,hI⟩ G ih;simp only[vI,simprocAttr]
 by_cases hlt:j<14
 ·have hlt':(j:Int)<14:=by omega
  have hjl:j<ws.length:=by omega
  have hx:ws[j]?=some ws[j]:=zzE hjl;have hw1:IntKind.wrap .i64 ((j:Int)+1)=((j+1:Nat):Int):=by rw[qq (by omega) (by omega)];omega
  have hel:=zj (f:=qaH) (m:=3) qk8 hx;have hb:j*3+3<=(ws.flatMap qaH).length:=by omega
  rw[List.drop_eq_getElem_cons hjl,List.find?_cons] at hI;generalize hc0:ws[j]=x at hel hI;simp only[qaH] at hel;generalize hT:ws.flatMap qaH=T at hel hb hlen hcl;have hf1:=qi7 x.2.1;have hf2:=qi7 x.2.2;have hok:qE [AV.i .u16 x.1,fnO x.2.1,fnO x.2.2]=true:=by obtain⟨_,o1,o2⟩:=x;cases o1<;>cases o2<;>rfl
  by_cases hxb:x.1=b
  ·have hd:decide (x.1=b)=true:=by simpa using hxb
   rw[hd] at hI;obtain rfl:x=r:=by simpa using hI
   have hok':zg (fnO x.2.1)=true∧zg (fnO x.2.2)=true:=by obtain⟨_,o1,o2⟩:=x;cases o1<;>cases o2<;>exact⟨rfl,rfl⟩
   simp +decide only[↓vS,vT,simprocAttr,hlt',hlt,hel,hb,hok,hok'.1,hok'.2,hxb];have fz:∀(h:Hp) (o:Option Nat),Frz h (fnO o) (fnO o):=fun h o=>Frz.self (qi7 o)
   simp[vZ,qaH,hxb,fz]
  ·have hd:decide (x.1=b)=false:=by simpa using hxb
   rw[hd] at hI;simp +decide only[↓vS,vT,simprocAttr,hlt',hlt,hel,hb,hok,hxb,hw1];refine ih (j+1) ⟨hlt,hI⟩ (by omega) _ _ (Wk.mk _ _ [0] ?_ ?_ ?_ rfl)
   ·simp[vw,qh,hcl,hT]
   ·simp[vw]
   ·simp
 ·obtain rfl:j=14:=by omega
  have hd:ws.drop 14=[]:=List.drop_eq_nil_of_le (by omega);rw[hd] at hI;cases hI
theorem qDV{g1 g2:Nat}(hc:qc P f (qm3 g1 g2)=true)(h1:cWX P g1)(ws:List (Int×Option Nat×Option Nat))(hw:ws.length=14)(h2:qd P g2 [] (.agg (ws.flatMap qaH)))(c:Int)(r:Int×Option Nat×Option Nat)(hr:(ws.find? fun x=>decide (x.1=qjs c))=some r) :
  qd P f [.i .u16 c] (.agg (qaH r)):=by
 refine qd.mk hc rfl ?_;have hX:=h1 c;unfold qjs at hr;simp only[qm3,vI,simprocAttr];cases hx:jk c with
 | true =>
  rw[hx] at hX hr;rw[if_pos rfl] at hr;simp +decide only[↓vS,vT,simprocAttr];refine hX.sc ?_;simp +decide only[↓vS,vT,simprocAttr];refine qxr ws hw h2 (qff .u16 c 8) r hr (Wk.mk _ _ [0] ?_ ?_ ?_ rfl)
  ·simp[vw]
  ·simp[vw]
  ·simp
 | false =>
  rw[hx] at hX hr;rw[if_neg (by simp)] at hr;simp +decide only[↓vS,vT,simprocAttr];refine hX.sc ?_;simp +decide only[↓vS,vT,simprocAttr];refine qxr ws hw h2 c r hr (Wk.mk _ _ [0] ?_ ?_ ?_ rfl)
  ·simp[vw]
  ·simp[vw]
  ·simp
end Go.Kc
end
