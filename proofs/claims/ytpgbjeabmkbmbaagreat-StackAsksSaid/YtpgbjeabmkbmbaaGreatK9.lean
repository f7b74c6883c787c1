/- Part 9 of the abstract machine and of the functions' walks. Conditions: with each theorem. -/
import Derived.Test.YtpgbjeabmkbmbaaGreatK8
set_option linter.unusedSimpArgs false
set_option linter.unusedVariables false
set_option linter.unnecessarySimpa false
section
/- The document's machine: numbers. Condition: the functions' texts are these. -/
namespace Go.Kc
variable {P:Program} {f:Nat}
def opM(c a b:Int):Int :=
 if c=4 then IntKind.wrap .u32 (a+b) else if c=20 then IntKind.wrap .u32 (a-b) else if c=36 then IntKind.wrap .u32 (a*b)
 else if c=68 then orI .u32 a b else if c=84 then y8 .u32 a b else if c=164 then qpI .u32 a b else IntKind.wrap .u32 (0-a)
def qZ(m:Mac)(i:Ins):Int:=if qT i.code=true then m.x else i.k
def ql(c:Int):Int:=if qT c=true then c-8 else c
def nuM(m:Mac)(i:Ins):Mac×Int :=
 if ql i.code=52 then (if 0<qZ m i then ({ m with a:=m.a / qZ m i },0) else if qT i.code=true then ({ m with over:=true },0) else (m,44))
 else if ql i.code=100∨ql i.code=116 then (if qT i.code=false∧31<qZ m i then (m,45) else ({ m with a:=jw (decide (ql i.code=100)) (qZ m i % 32).toNat m.a },0))
 else ({ m with a:=opM (ql i.code) m.a (qZ m i) },0)
def c3L:List Int:=[4,12,20,28,36,44,52,60,68,76,84,92,100,108,116,124,164,172,132]
theorem qet:∀x ∈ xF,x.2.2=3->c3L.contains x.1=true:=by decide
theorem qbz{m:Mac}(h:m.cl.length=16)(v:Bool):List.take 19 (zu m)++(AV.b v::List.drop 20 (zu m))=zu { m with over:=v }:=by
 have e:List.take 16 (rI .u32 m.cl++[AV.b m.over])++(AV.b v::List.drop 17 (rI .u32 m.cl++[AV.b m.over]))=rI .u32 m.cl++[AV.b v]:=by
  rw[List.take_append_of_le_length (by rw[zB,h];exact Nat.le_refl _),List.take_of_length_le (by rw[zB,h];exact Nat.le_refl _),List.drop_eq_nil_of_le (by rw[List.length_append,zB,h];exact Nat.le_refl _)]
 show AV.i .u32 m.a::AV.i .u32 m.x::AV.i .u32 m.told::(List.take 16 (rI .u32 m.cl++[AV.b m.over])++(AV.b v::List.drop 17 (rI .u32 m.cl++[AV.b m.over])))=_;rw[e];rfl
def qsI(P:Program)(g:Nat):Prop:=∀a:Int,0<=a->a<=4294967295->∀(left:Bool) (n:Nat),n<=31->qc P g [.i .u32 a,.b left,.i .u32 n] (.i .u32 (jw left n a))
def cWX(P:Program)(g:Nat):Prop:=∀c:Int,qc P g [.i .u16 c] (.b (qT c))
def xn(a b c:Nat):IFn:=⟨[.tmp 4],.seq (.r [.q 3 (.box (.t 1)),.m 4 (.k 0)]) (.seq (.r [.f 8 0 3,.d 9 8,.l 10 a [.t 9],.q 11 (.fld 1 none (.t 10)),.n 5 11]) (.seq (.r [.f 12 3 3,.d 13 12,.n 6 13]) (.seq (.r [.f 14 0 3,.d 15 14,.l 16 b [.t 15],.n 7 16]) (.seq (.seq (.r [.n 17 7]) (.cond (.t 17) (.seq (.r [.n 18 0,.q 19 (.nilChk (.t 18)),.f 20 1 19,.d 21 20,.n 6 21]) (.r [.n 22 5,.n 23 5,.q 24 (.len true (.t 23)),.w 25 .sub 24 1,.q 26 (.slcStr (.t 22) none (some (.t 25))),.n 5 26])) (.skip))) (.seq (.seq (.r [.n 27 5]) (.blk 0 (.seq (.r [.q 29 (.bin .eql (.t 27) (.c (.s [97,100,100]))),.n 28 29]) (.cond (.t 28) (.r [.n 30 0,.n 31 0,.q 32 (.nilChk (.t 31)),.f 33 0 32,.d 34 33,.n 35 6,.b 36 .add 34 35,.q 37 (.nilChk (.t 30)),.f 38 0 37,.u (.store 1 (.t 38) (.t 36))]) (.seq (.r [.q 40 (.bin .eql (.t 27) (.c (.s [115,117,98]))),.n 39 40]) (.cond (.t 39) (.r [.n 41 0,.n 42 0,.q 43 (.nilChk (.t 42)),.f 44 0 43,.d 45 44,.n 46 6,.b 47 .sub 45 46,.q 48 (.nilChk (.t 41)),.f 49 0 48,.u (.store 1 (.t 49) (.t 47))]) (.seq (.r [.q 51 (.bin .eql (.t 27) (.c (.s [109,117,108]))),.n 50 51]) (.cond (.t 50) (.r [.n 52 0,.n 53 0,.q 54 (.nilChk (.t 53)),.f 55 0 54,.d 56 55,.n 57 6,.b 58 .mul 56 57,.q 59 (.nilChk (.t 52)),.f 60 0 59,.u (.store 1 (.t 60) (.t 58))]) (.seq (.r [.q 62 (.bin .eql (.t 27) (.c (.s [111,114]))),.n 61 62]) (.cond (.t 61) (.r [.n 63 0,.n 64 0,.q 65 (.nilChk (.t 64)),.f 66 0 65,.d 67 66,.n 68 6,.b 69 .or 67 68,.q 70 (.nilChk (.t 63)),.f 71 0 70,.u (.store 1 (.t 71) (.t 69))]) (.seq (.r [.q 73 (.bin .eql (.t 27) (.c (.s [97,110,100]))),.n 72 73]) (.cond (.t 72) (.r [.n 74 0,.n 75 0,.q 76 (.nilChk (.t 75)),.f 77 0 76,.d 78 77,.n 79 6,.b 80 .and 78 79,.q 81 (.nilChk (.t 74)),.f 82 0 81,.u (.store 1 (.t 82) (.t 80))]) (.seq (.r [.q 84 (.bin .eql (.t 27) (.c (.s [120,111,114]))),.n 83 84]) (.cond (.t 83) (.r [.n 85 0,.n 86 0,.q 87 (.nilChk (.t 86)),.f 88 0 87,.d 89 88,.n 90 6,.b 91 .xor 89 90,.q 92 (.nilChk (.t 85)),.f 93 0 92,.u (.store 1 (.t 93) (.t 91))]) (.seq (.r [.q 95 (.bin .eql (.t 27) (.c (.s [110,101,103]))),.n 94 95]) (.cond (.t 94) (.r [.n 96 0,.n 97 0,.q 98 (.nilChk (.t 97)),.f 99 0 98,.d 100 99,.q 101 (.bin .sub (.c (.i .u32 0)) (.t 100)),.q 102 (.nilChk (.t 96)),.f 103 0 102,.u (.store 1 (.t 103) (.t 101))]) (.seq (.r [.q 105 (.bin .eql (.t 27) (.c (.s [100,105,118]))),.n 104 105]) (.cond (.t 104) (.seq (.r [.n 106 6,.q 107 (.bin .gtr (.t 106) (.c (.i .u32 0)))]) (.cond (.t 107) (.r [.n 108 0,.n 109 0,.q 110 (.nilChk (.t 109)),.f 111 0 110,.d 112 111,.n 113 6,.b 114 .quo 112 113,.q 115 (.nilChk (.t 108)),.f 116 0 115,.u (.store 1 (.t 116) (.t 114))]) (.seq (.r [.n 117 7]) (.cond (.t 117) (.r [.n 118 0,.q 119 (.nilChk (.t 118)),.f 120 19 119,.u (.store 1 (.t 120) .T)]) (.seq (.r [.m 4 (.k 44)]) (.ret)))))) (.seq (.seq (.r [.q 122 (.bin .eql (.t 27) (.c (.s [108,115,104]))),.n 121 122]) (.cond (.t 121) (.skip) (.r [.q 123 (.bin .eql (.t 27) (.c (.s [114,115,104]))),.n 121 123]))) (.cond (.t 121) (.seq (.seq (.r [.n 124 7,.q 125 (.un .not (.t 124)),.n 126 125,.y 127 6 126,.g 128 (.bin .gtr (.t 127) (.c (.i .u32 31))) 126 true,.p 129 126 128]) (.cond (.t 129) (.seq (.r [.m 4 (.k 45)]) (.ret)) (.skip))) (.r [.n 130 0,.n 131 0,.q 132 (.nilChk (.t 131)),.f 133 0 132,.d 134 133,.n 135 5,.q 136 (.bin .eql (.t 135) (.c (.s [108,115,104]))),.n 137 6,.q 138 (.bin .rem (.t 137) (.c (.i .u32 32))),.l 139 c [.t 134,.t 136,.t 138],.q 140 (.nilChk (.t 130)),.f 141 0 140,.u (.store 1 (.t 141) (.t 139))])) (.skip))))))))))))))))))))) (.seq (.r [.m 4 (.k 0)]) (.ret)))))))⟩
set_option maxRecDepth 8000 in
set_option maxHeartbeats 8000000 in
theorem qrG{g1 g2 g3:Nat}(hc:qi P f (xn g1 g2 g3)=true)(h1:Je P g1)(h2:cWX P g2)(h3:qsI P g3)(m:Mac)(hm:MacOk m)(i:Ins)(hi:InsOk i)(hcls:qg i.code=3) :
  Upd P f [.ptr 0 0,.agg (qn i)] [.cells 0 true false (zu m)] (.i .i64 (nuM m i).2) [.cells 0 true false (zu (nuM m i).1)]:=by
 refine Upd.mk hc (by simp[xu,bnd,qn]) (by simp) ?_;have hl:=v6 hm.len;have k0:=hi.k0;have a0:=hm.a.1;have a1:=hm.a.2;have x0:=hm.x.1;have h32:(32:Int)≠0:=by decide
 have g0:(zu m)[0]?=some (.i .u32 m.a):=rfl;have g1:(zu m)[1]?=some (.i .u32 m.x):=rfl;have s0:∀v:Int,AV.i .u32 v::List.drop 1 (zu m)=zu { m with a:=v }:=fun _=>rfl
 have so:=fun v=>qbz hm.len v
 have hw1:=h1 i.code;have hw2:=h2 i.code
 have hmem:c3L.contains i.code=true:=by
  unfold qg at hcls;cases hcm:qw i.code with
  | none=>rw[hcm] at hcls;cases hcls
  | some x =>
   rw[hcm] at hcls;obtain⟨q1,q2⟩:=xy hcm;rw[← q2];exact qet x q1 hcls
 simp only[c3L,List.contains_iff_mem,List.mem_cons,List.not_mem_nil,or_false] at hmem;simp only[xn,qn,vI,simprocAttr];simp (decide:=true) only [↓vS,vT,simprocAttr];refine hw1.sc ?_;rcases hmem with e|e|e|e|e|e|e|e|e|e|e|e|e|e|e|e|e|e|e
 ·have hE:zj (qw i.code)=[.i .u16 4,.s [97,100,100],.i .u8 3]:=by rw[e,(by decide:qw 4=some (4,[97,100,100],3))];rfl
  have hX:qT i.code=false:=by rw[e];decide
  have hB:qZ m i=i.k:=by unfold qZ;rw[hX];rfl
  have hb:ql i.code=4:=by unfold ql;rw[hX,e];rfl
  have hN:=hB;unfold nuM;rw[hX] at hw2;rw[hE,hb,hB,hX];rw[e] at hw2 ⊢;simp (decide:=true) only [↓vS,vT,simprocAttr];refine hw2.sc ?_;simp (decide:=true) only [↓vS,vT,simprocAttr,hl,g0,g1,s0];intro _;refine⟨[0],?_⟩;simp[vw,qa,qe,opM]
 ·have hE:zj (qw i.code)=[.i .u16 12,.s [97,100,100,120],.i .u8 3]:=by rw[e,(by decide:qw 12=some (12,[97,100,100,120],3))];rfl
  have hX:qT i.code=true:=by rw[e];decide
  have hB:qZ m i=m.x:=by unfold qZ;rw[hX];rfl
  have hb:ql i.code=4:=by unfold ql;rw[hX,e];rfl
  have hN:=hB;unfold nuM;rw[hX] at hw2;rw[hE,hb,hB,hX];rw[e] at hw2 ⊢;simp (decide:=true) only [↓vS,vT,simprocAttr];refine hw2.sc ?_;simp (decide:=true) only [↓vS,vT,simprocAttr,hl,g0,g1,s0];intro _;refine⟨[0],?_⟩;simp[vw,qa,qe,opM]
 ·have hE:zj (qw i.code)=[.i .u16 20,.s [115,117,98],.i .u8 3]:=by rw[e,(by decide:qw 20=some (20,[115,117,98],3))];rfl
  have hX:qT i.code=false:=by rw[e];decide
  have hB:qZ m i=i.k:=by unfold qZ;rw[hX];rfl
  have hb:ql i.code=20:=by unfold ql;rw[hX,e];rfl
  have hN:=hB;unfold nuM;rw[hX] at hw2;rw[hE,hb,hB,hX];rw[e] at hw2 ⊢;simp (decide:=true) only [↓vS,vT,simprocAttr];refine hw2.sc ?_;simp (decide:=true) only [↓vS,vT,simprocAttr,hl,g0,g1,s0];intro _;refine⟨[0],?_⟩;simp[vw,qa,qe,opM]
 ·have hE:zj (qw i.code)=[.i .u16 28,.s [115,117,98,120],.i .u8 3]:=by rw[e,(by decide:qw 28=some (28,[115,117,98,120],3))];rfl
  have hX:qT i.code=true:=by rw[e];decide
  have hB:qZ m i=m.x:=by unfold qZ;rw[hX];rfl
  have hb:ql i.code=20:=by unfold ql;rw[hX,e];rfl
  have hN:=hB;unfold nuM;rw[hX] at hw2;rw[hE,hb,hB,hX];rw[e] at hw2 ⊢;simp (decide:=true) only [↓vS,vT,simprocAttr];refine hw2.sc ?_;simp (decide:=true) only [↓vS,vT,simprocAttr,hl,g0,g1,s0];intro _;refine⟨[0],?_⟩;simp[vw,qa,qe,opM]
 ·have hE:zj (qw i.code)=[.i .u16 36,.s [109,117,108],.i .u8 3]:=by rw[e,(by decide:qw 36=some (36,[109,117,108],3))];rfl
  have hX:qT i.code=false:=by rw[e];decide
  have hB:qZ m i=i.k:=by unfold qZ;rw[hX];rfl
  have hb:ql i.code=36:=by unfold ql;rw[hX,e];rfl
  have hN:=hB;unfold nuM;rw[hX] at hw2;rw[hE,hb,hB,hX];rw[e] at hw2 ⊢;simp (decide:=true) only [↓vS,vT,simprocAttr];refine hw2.sc ?_;simp (decide:=true) only [↓vS,vT,simprocAttr,hl,g0,g1,s0];intro _;refine⟨[0],?_⟩;simp[vw,qa,qe,opM]
 ·have hE:zj (qw i.code)=[.i .u16 44,.s [109,117,108,120],.i .u8 3]:=by rw[e,(by decide:qw 44=some (44,[109,117,108,120],3))];rfl
  have hX:qT i.code=true:=by rw[e];decide
  have hB:qZ m i=m.x:=by unfold qZ;rw[hX];rfl
  have hb:ql i.code=36:=by unfold ql;rw[hX,e];rfl
  have hN:=hB;unfold nuM;rw[hX] at hw2;rw[hE,hb,hB,hX];rw[e] at hw2 ⊢;simp (decide:=true) only [↓vS,vT,simprocAttr];refine hw2.sc ?_;simp (decide:=true) only [↓vS,vT,simprocAttr,hl,g0,g1,s0];intro _;refine⟨[0],?_⟩;simp[vw,qa,qe,opM]
 ·have hE:zj (qw i.code)=[.i .u16 52,.s [100,105,118],.i .u8 3]:=by rw[e,(by decide:qw 52=some (52,[100,105,118],3))];rfl
  have hX:qT i.code=false:=by rw[e];decide
  have hB:qZ m i=i.k:=by unfold qZ;rw[hX];rfl
  have hb:ql i.code=52:=by unfold ql;rw[hX,e];rfl
  have hN:=hB;unfold nuM;rw[hX] at hw2;rw[hE,hb,hB,hX];rw[e] at hw2 ⊢;simp (decide:=true) only [↓vS,vT,simprocAttr];refine hw2.sc ?_
  by_cases hp:0<i.k
  ·have hq:m.a.tdiv (i.k)=m.a / (i.k):=Int.tdiv_eq_ediv_of_nonneg a0;have hne:i.k≠0:=by omega
   have hle:m.a / (i.k)<=m.a:=Int.ediv_le_self _ a0;have hge:0<=m.a / (i.k):=Int.ediv_nonneg a0 (by omega);have hwq:IntKind.wrap .u32 (m.a / (i.k))=m.a / (i.k):=by show (m.a / (i.k)) % 4294967296=_;omega
   simp (decide:=true) only [↓vS,vT,simprocAttr,hl,g0,g1,hp,↓zp hne,hq,hwq,s0];intro _;refine⟨[0],?_⟩;simp[vw,qa,qe,opM,hp]
  ·simp (decide:=true) only [↓vS,vT,simprocAttr,hl,g1,hp,so];intro _;refine⟨[0],?_⟩;simp[vw,qa,qe,opM,hp]
 ·have hE:zj (qw i.code)=[.i .u16 60,.s [100,105,118,120],.i .u8 3]:=by rw[e,(by decide:qw 60=some (60,[100,105,118,120],3))];rfl
  have hX:qT i.code=true:=by rw[e];decide
  have hB:qZ m i=m.x:=by unfold qZ;rw[hX];rfl
  have hb:ql i.code=52:=by unfold ql;rw[hX,e];rfl
  have hN:=hB;unfold nuM;rw[hX] at hw2;rw[hE,hb,hB,hX];rw[e] at hw2 ⊢;simp (decide:=true) only [↓vS,vT,simprocAttr];refine hw2.sc ?_
  by_cases hp:0<m.x
  ·have hq:m.a.tdiv (m.x)=m.a / (m.x):=Int.tdiv_eq_ediv_of_nonneg a0;have hne:m.x≠0:=by omega
   have hle:m.a / (m.x)<=m.a:=Int.ediv_le_self _ a0;have hge:0<=m.a / (m.x):=Int.ediv_nonneg a0 (by omega);have hwq:IntKind.wrap .u32 (m.a / (m.x))=m.a / (m.x):=by show (m.a / (m.x)) % 4294967296=_;omega
   simp (decide:=true) only [↓vS,vT,simprocAttr,hl,g0,g1,hp,↓zp hne,hq,hwq,s0];intro _;refine⟨[0],?_⟩;simp[vw,qa,qe,opM,hp]
  ·simp (decide:=true) only [↓vS,vT,simprocAttr,hl,g1,hp,so];intro _;refine⟨[0],?_⟩;simp[vw,qa,qe,opM,hp]
 ·have hE:zj (qw i.code)=[.i .u16 68,.s [111,114],.i .u8 3]:=by rw[e,(by decide:qw 68=some (68,[111,114],3))];rfl
  have hX:qT i.code=false:=by rw[e];decide
  have hB:qZ m i=i.k:=by unfold qZ;rw[hX];rfl
  have hb:ql i.code=68:=by unfold ql;rw[hX,e];rfl
  have hN:=hB;unfold nuM;rw[hX] at hw2;rw[hE,hb,hB,hX];rw[e] at hw2 ⊢;simp (decide:=true) only [↓vS,vT,simprocAttr];refine hw2.sc ?_;simp (decide:=true) only [↓vS,vT,simprocAttr,hl,g0,g1,s0];intro _;refine⟨[0],?_⟩;simp[vw,qa,qe,opM]
 ·have hE:zj (qw i.code)=[.i .u16 76,.s [111,114,120],.i .u8 3]:=by rw[e,(by decide:qw 76=some (76,[111,114,120],3))];rfl
  have hX:qT i.code=true:=by rw[e];decide
  have hB:qZ m i=m.x:=by unfold qZ;rw[hX];rfl
  have hb:ql i.code=68:=by unfold ql;rw[hX,e];rfl
  have hN:=hB;unfold nuM;rw[hX] at hw2;rw[hE,hb,hB,hX];rw[e] at hw2 ⊢;simp (decide:=true) only [↓vS,vT,simprocAttr];refine hw2.sc ?_;simp (decide:=true) only [↓vS,vT,simprocAttr,hl,g0,g1,s0];intro _;refine⟨[0],?_⟩;simp[vw,qa,qe,opM]
 ·have hE:zj (qw i.code)=[.i .u16 84,.s [97,110,100],.i .u8 3]:=by rw[e,(by decide:qw 84=some (84,[97,110,100],3))];rfl
  have hX:qT i.code=false:=by rw[e];decide
  have hB:qZ m i=i.k:=by unfold qZ;rw[hX];rfl
  have hb:ql i.code=84:=by unfold ql;rw[hX,e];rfl
  have hN:=hB;unfold nuM;rw[hX] at hw2;rw[hE,hb,hB,hX];rw[e] at hw2 ⊢;simp (decide:=true) only [↓vS,vT,simprocAttr];refine hw2.sc ?_;simp (decide:=true) only [↓vS,vT,simprocAttr,hl,g0,g1,s0];intro _;refine⟨[0],?_⟩;simp[vw,qa,qe,opM]
 ·have hE:zj (qw i.code)=[.i .u16 92,.s [97,110,100,120],.i .u8 3]:=by rw[e,(by decide:qw 92=some (92,[97,110,100,120],3))];rfl
  have hX:qT i.code=true:=by rw[e];decide
  have hB:qZ m i=m.x:=by unfold qZ;rw[hX];rfl
  have hb:ql i.code=84:=by unfold ql;rw[hX,e];rfl
  have hN:=hB;unfold nuM;rw[hX] at hw2;rw[hE,hb,hB,hX];rw[e] at hw2 ⊢;simp (decide:=true) only [↓vS,vT,simprocAttr];refine hw2.sc ?_;simp (decide:=true) only [↓vS,vT,simprocAttr,hl,g0,g1,s0];intro _;refine⟨[0],?_⟩;simp[vw,qa,qe,opM]
 ·have hE:zj (qw i.code)=[.i .u16 100,.s [108,115,104],.i .u8 3]:=by rw[e,(by decide:qw 100=some (100,[108,115,104],3))];rfl
  have hX:qT i.code=false:=by rw[e];decide
  have hB:qZ m i=i.k:=by unfold qZ;rw[hX];rfl
  have hb:ql i.code=100:=by unfold ql;rw[hX,e];rfl
  have hN:=hB;unfold nuM;rw[hX] at hw2;rw[hE,hb,hB,hX];rw[e] at hw2 ⊢;simp (decide:=true) only [↓vS,vT,simprocAttr];refine hw2.sc ?_
  by_cases hp:31<i.k
  ·simp (decide:=true) only [↓vS,vT,simprocAttr,hl,hp];intro _;refine⟨[0],?_⟩;simp[vw,qa,qe,opM,hp]
  ·have hr:(i.k).tmod 32=(((i.k) % 32).toNat:Int):=by rw[Int.tmod_eq_emod_of_nonneg k0];omega
   have hsh:=h3 m.a a0 a1 true ((i.k) % 32).toNat (by omega);simp (decide:=true) only [↓vS,vT,simprocAttr,hl,g0,g1,hp,↓zT h32,hr];refine hsh.sc ?_;simp (decide:=true) only [↓vS,vT,simprocAttr,hl,s0];intro _;refine⟨[0],?_⟩;simp[vw,qa,qe,opM,hp]
 ·have hE:zj (qw i.code)=[.i .u16 108,.s [108,115,104,120],.i .u8 3]:=by rw[e,(by decide:qw 108=some (108,[108,115,104,120],3))];rfl
  have hX:qT i.code=true:=by rw[e];decide
  have hB:qZ m i=m.x:=by unfold qZ;rw[hX];rfl
  have hb:ql i.code=100:=by unfold ql;rw[hX,e];rfl
  have hN:=hB;unfold nuM;rw[hX] at hw2;rw[hE,hb,hB,hX];rw[e] at hw2 ⊢;simp (decide:=true) only [↓vS,vT,simprocAttr];refine hw2.sc ?_;have hr:(m.x).tmod 32=(((m.x) % 32).toNat:Int):=by rw[Int.tmod_eq_emod_of_nonneg x0];omega
  have hsh:=h3 m.a a0 a1 true ((m.x) % 32).toNat (by omega);simp (decide:=true) only [↓vS,vT,simprocAttr,hl,g0,g1,↓zT h32,hr];refine hsh.sc ?_;simp (decide:=true) only [↓vS,vT,simprocAttr,hl,s0];intro _;refine⟨[0],?_⟩;simp[vw,qa,qe,opM]
 ·have hE:zj (qw i.code)=[.i .u16 116,.s [114,115,104],.i .u8 3]:=by rw[e,(by decide:qw 116=some (116,[114,115,104],3))];rfl
  have hX:qT i.code=false:=by rw[e];decide
  have hB:qZ m i=i.k:=by unfold qZ;rw[hX];rfl
  have hb:ql i.code=116:=by unfold ql;rw[hX,e];rfl
  have hN:=hB;unfold nuM;rw[hX] at hw2;rw[hE,hb,hB,hX];rw[e] at hw2 ⊢;simp (decide:=true) only [↓vS,vT,simprocAttr];refine hw2.sc ?_
  by_cases hp:31<i.k
  ·simp (decide:=true) only [↓vS,vT,simprocAttr,hl,hp];intro _;refine⟨[0],?_⟩;simp[vw,qa,qe,opM,hp]
  ·have hr:(i.k).tmod 32=(((i.k) % 32).toNat:Int):=by rw[Int.tmod_eq_emod_of_nonneg k0];omega
   have hsh:=h3 m.a a0 a1 false ((i.k) % 32).toNat (by omega);simp (decide:=true) only [↓vS,vT,simprocAttr,hl,g0,g1,hp,↓zT h32,hr];refine hsh.sc ?_;simp (decide:=true) only [↓vS,vT,simprocAttr,hl,s0];intro _;refine⟨[0],?_⟩;simp[vw,qa,qe,opM,hp]
 ·have hE:zj (qw i.code)=[.i .u16 124,.s [114,115,104,120],.i .u8 3]:=by rw[e,(by decide:qw 124=some (124,[114,115,104,120],3))];rfl
  have hX:qT i.code=true:=by rw[e];decide
  have hB:qZ m i=m.x:=by unfold qZ;rw[hX];rfl
  have hb:ql i.code=116:=by unfold ql;rw[hX,e];rfl
  have hN:=hB;unfold nuM;rw[hX] at hw2;rw[hE,hb,hB,hX];rw[e] at hw2 ⊢;simp (decide:=true) only [↓vS,vT,simprocAttr];refine hw2.sc ?_;have hr:(m.x).tmod 32=(((m.x) % 32).toNat:Int):=by rw[Int.tmod_eq_emod_of_nonneg x0];omega
  have hsh:=h3 m.a a0 a1 false ((m.x) % 32).toNat (by omega);simp (decide:=true) only [↓vS,vT,simprocAttr,hl,g0,g1,↓zT h32,hr];refine hsh.sc ?_;simp (decide:=true) only [↓vS,vT,simprocAttr,hl,s0];intro _;refine⟨[0],?_⟩;simp[vw,qa,qe,opM]
 ·have hE:zj (qw i.code)=[.i .u16 164,.s [120,111,114],.i .u8 3]:=by rw[e,(by decide:qw 164=some (164,[120,111,114],3))];rfl
  have hX:qT i.code=false:=by rw[e];decide
  have hB:qZ m i=i.k:=by unfold qZ;rw[hX];rfl
  have hb:ql i.code=164:=by unfold ql;rw[hX,e];rfl
  have hN:=hB;unfold nuM;rw[hX] at hw2;rw[hE,hb,hB,hX];rw[e] at hw2 ⊢;simp (decide:=true) only [↓vS,vT,simprocAttr];refine hw2.sc ?_;simp (decide:=true) only [↓vS,vT,simprocAttr,hl,g0,g1,s0];intro _;refine⟨[0],?_⟩;simp[vw,qa,qe,opM]
 ·have hE:zj (qw i.code)=[.i .u16 172,.s [120,111,114,120],.i .u8 3]:=by rw[e,(by decide:qw 172=some (172,[120,111,114,120],3))];rfl
  have hX:qT i.code=true:=by rw[e];decide
  have hB:qZ m i=m.x:=by unfold qZ;rw[hX];rfl
  have hb:ql i.code=164:=by unfold ql;rw[hX,e];rfl
  have hN:=hB;unfold nuM;rw[hX] at hw2;rw[hE,hb,hB,hX];rw[e] at hw2 ⊢;simp (decide:=true) only [↓vS,vT,simprocAttr];refine hw2.sc ?_;simp (decide:=true) only [↓vS,vT,simprocAttr,hl,g0,g1,s0];intro _;refine⟨[0],?_⟩;simp[vw,qa,qe,opM]
 ·have hE:zj (qw i.code)=[.i .u16 132,.s [110,101,103],.i .u8 3]:=by rw[e,(by decide:qw 132=some (132,[110,101,103],3))];rfl
  have hX:qT i.code=false:=by rw[e];decide
  have hB:qZ m i=i.k:=by unfold qZ;rw[hX];rfl
  have hb:ql i.code=132:=by unfold ql;rw[hX,e];rfl
  have hN:=hB;unfold nuM;rw[hX] at hw2;rw[hE,hb,hB,hX];rw[e] at hw2 ⊢;simp (decide:=true) only [↓vS,vT,simprocAttr];refine hw2.sc ?_;simp (decide:=true) only [↓vS,vT,simprocAttr,hl,g0,g1,s0];intro _;refine⟨[0],?_⟩;simp[vw,qa,qe,opM]
end Go.Kc
end
section
/- The document's machine: jumps; an instruction. Condition: the functions' texts are these. -/
namespace Go.Kc
variable {P:Program} {f:Nat}
def jL(c a b:Int):Bool:=if c=21 then decide (a=b) else if c=37 then decide (b<a) else if c=53 then decide (b<=a) else decide (0<y8 .u32 a b)
def QF(m:Mac)(i:Ins):Int:=if i.code=5 then i.k else if jL (ql i.code) m.a (qZ m i)=true then i.jt else i.jf
def c4L:List Int:=[21,29,37,45,53,61,69,77,5]
theorem qji:∀x ∈ xF,x.2.2=4->c4L.contains x.1=true:=by decide
def xA(a:Nat):IFn:=⟨[.tmp 4],.seq (.r [.q 3 (.box (.t 1)),.m 4 (.k 0)]) (.seq (.seq (.r [.f 7 0 3,.d 8 7,.q 9 (.bin .eql (.t 8) (.c (.i .u16 5)))]) (.cond (.t 9) (.seq (.r [.f 10 3 3,.d 11 10,.q 12 (.cvInt .i64 (.t 11)),.n 4 12]) (.ret)) (.skip))) (.seq (.r [.f 13 3 3,.d 14 13,.n 5 14]) (.seq (.seq (.r [.f 15 0 3,.d 16 15,.l 17 a [.t 16]]) (.cond (.t 17) (.r [.n 18 0,.q 19 (.nilChk (.t 18)),.f 20 1 19,.d 21 20,.n 5 21]) (.skip))) (.seq (.r [.m 6 .F]) (.seq (.seq (.r [.f 22 0 3,.d 23 22,.q 24 (.bin .quo (.t 23) (.c (.i .u16 16)))]) (.blk 0 (.seq (.r [.q 26 (.bin .eql (.t 24) (.c (.i .u16 1))),.n 25 26]) (.cond (.t 25) (.r [.n 27 0,.q 28 (.nilChk (.t 27)),.f 29 0 28,.d 30 29,.n 31 5,.b 32 .eql 30 31,.n 6 32]) (.seq (.r [.q 34 (.bin .eql (.t 24) (.c (.i .u16 2))),.n 33 34]) (.cond (.t 33) (.r [.n 35 0,.q 36 (.nilChk (.t 35)),.f 37 0 36,.d 38 37,.n 39 5,.b 40 .gtr 38 39,.n 6 40]) (.seq (.r [.q 42 (.bin .eql (.t 24) (.c (.i .u16 3))),.n 41 42]) (.cond (.t 41) (.r [.n 43 0,.q 44 (.nilChk (.t 43)),.f 45 0 44,.d 46 45,.n 47 5,.b 48 .geq 46 47,.n 6 48]) (.seq (.r [.q 50 (.bin .eql (.t 24) (.c (.i .u16 4))),.n 49 50]) (.cond (.t 49) (.r [.n 51 0,.q 52 (.nilChk (.t 51)),.f 53 0 52,.d 54 53,.n 55 5,.b 56 .and 54 55,.q 57 (.bin .gtr (.t 56) (.c (.i .u32 0))),.n 6 57]) (.skip))))))))))) (.seq (.seq (.r [.n 58 6]) (.cond (.t 58) (.seq (.r [.f 59 1 3,.d 60 59,.q 61 (.cvInt .i64 (.t 60)),.n 4 61]) (.ret)) (.skip))) (.seq (.r [.f 62 2 3,.d 63 62,.q 64 (.cvInt .i64 (.t 63)),.n 4 64]) (.ret))))))))⟩
set_option maxRecDepth 8000 in
set_option maxHeartbeats 8000000 in
theorem qs3{g2:Nat}(hc:qi P f (xA g2)=true)(h2:cWX P g2)(m:Mac)(hm:MacOk m)(i:Ins)(hi:InsOk i)(hcls:qg i.code=4) :
  Upd P f [.ptr 0 0,.agg (qn i)] [.cells 0 true false (zu m)] (.i .i64 (QF m i)) [.cells 0 true false (zu m)]:=by
 refine Upd.mk hc (by simp[xu,bnd,qn]) (by simp) ?_;have hl:=v6 hm.len;have h16:(16:Int)≠0:=by decide
 have g0:(zu m)[0]?=some (.i .u32 m.a):=rfl;have g1:(zu m)[1]?=some (.i .u32 m.x):=rfl;have wk:IntKind.wrap .i64 i.k=i.k:=by have:=hi.k0;have:=hi.k1;exact qp (by omega) (by omega)
 have wt:IntKind.wrap .i64 i.jt=i.jt:=by have:=hi.t0;have:=hi.t1;exact qp (by omega) (by omega)
 have wf:IntKind.wrap .i64 i.jf=i.jf:=by have:=hi.f0;have:=hi.f1;exact qp (by omega) (by omega)
 have hw2:=h2 i.code
 have hmem:c4L.contains i.code=true:=by
  unfold qg at hcls;cases hcm:qw i.code with
  | none=>rw[hcm] at hcls;cases hcls
  | some x =>
   rw[hcm] at hcls;obtain⟨q1,q2⟩:=xy hcm;rw[← q2];exact qji x q1 hcls
 simp only[c4L,List.contains_iff_mem,List.mem_cons,List.not_mem_nil,or_false] at hmem;unfold QF;simp only[xA,qn,vI,simprocAttr]
 by_cases c5:i.code=5
 ·simp (decide:=true) only [↓vS,vT,simprocAttr,c5,wk];intro _;refine⟨[0],?_⟩;simp[vw,qa,qe]
 rcases hmem with e|e|e|e|e|e|e|e|e
 ·have hX:qT i.code=false:=by rw[e];decide
  have hB:qZ m i=i.k:=by unfold qZ;rw[hX];rfl
  have hb:ql i.code=21:=by unfold ql;rw[hX,e];rfl
  have hq:Int.tdiv 21 16=1:=by decide
  have hwq:IntKind.wrap .u16 1=1:=by decide
  rw[hX] at hw2;rw[hb,hB];rw[e] at hw2 ⊢;simp (decide:=true) only [↓vS,vT,simprocAttr];refine hw2.sc ?_
  by_cases hp:m.a=i.k
  ·simp (decide:=true) only [↓vS,vT,simprocAttr,hl,g0,g1,↓zp h16,hq,hwq,hp,wt];intro _;refine⟨[0],?_⟩;simp[vw,qa,qe,jL,hp]
  ·simp (decide:=true) only [↓vS,vT,simprocAttr,hl,g0,g1,↓zp h16,hq,hwq,hp,wf];intro _;refine⟨[0],?_⟩;simp[vw,qa,qe,jL,hp]
 ·have hX:qT i.code=true:=by rw[e];decide
  have hB:qZ m i=m.x:=by unfold qZ;rw[hX];rfl
  have hb:ql i.code=21:=by unfold ql;rw[hX,e];rfl
  have hq:Int.tdiv 29 16=1:=by decide
  have hwq:IntKind.wrap .u16 1=1:=by decide
  rw[hX] at hw2;rw[hb,hB];rw[e] at hw2 ⊢;simp (decide:=true) only [↓vS,vT,simprocAttr];refine hw2.sc ?_
  by_cases hp:m.a=m.x
  ·simp (decide:=true) only [↓vS,vT,simprocAttr,hl,g0,g1,↓zp h16,hq,hwq,hp,wt];intro _;refine⟨[0],?_⟩;simp[vw,qa,qe,jL,hp]
  ·simp (decide:=true) only [↓vS,vT,simprocAttr,hl,g0,g1,↓zp h16,hq,hwq,hp,wf];intro _;refine⟨[0],?_⟩;simp[vw,qa,qe,jL,hp]
 ·have hX:qT i.code=false:=by rw[e];decide
  have hB:qZ m i=i.k:=by unfold qZ;rw[hX];rfl
  have hb:ql i.code=37:=by unfold ql;rw[hX,e];rfl
  have hq:Int.tdiv 37 16=2:=by decide
  have hwq:IntKind.wrap .u16 2=2:=by decide
  rw[hX] at hw2;rw[hb,hB];rw[e] at hw2 ⊢;simp (decide:=true) only [↓vS,vT,simprocAttr];refine hw2.sc ?_
  by_cases hp:i.k<m.a
  ·simp (decide:=true) only [↓vS,vT,simprocAttr,hl,g0,g1,↓zp h16,hq,hwq,hp,wt];intro _;refine⟨[0],?_⟩;simp[vw,qa,qe,jL,hp]
  ·simp (decide:=true) only [↓vS,vT,simprocAttr,hl,g0,g1,↓zp h16,hq,hwq,hp,wf];intro _;refine⟨[0],?_⟩;simp[vw,qa,qe,jL,hp]
 ·have hX:qT i.code=true:=by rw[e];decide
  have hB:qZ m i=m.x:=by unfold qZ;rw[hX];rfl
  have hb:ql i.code=37:=by unfold ql;rw[hX,e];rfl
  have hq:Int.tdiv 45 16=2:=by decide
  have hwq:IntKind.wrap .u16 2=2:=by decide
  rw[hX] at hw2;rw[hb,hB];rw[e] at hw2 ⊢;simp (decide:=true) only [↓vS,vT,simprocAttr];refine hw2.sc ?_
  by_cases hp:m.x<m.a
  ·simp (decide:=true) only [↓vS,vT,simprocAttr,hl,g0,g1,↓zp h16,hq,hwq,hp,wt];intro _;refine⟨[0],?_⟩;simp[vw,qa,qe,jL,hp]
  ·simp (decide:=true) only [↓vS,vT,simprocAttr,hl,g0,g1,↓zp h16,hq,hwq,hp,wf];intro _;refine⟨[0],?_⟩;simp[vw,qa,qe,jL,hp]
 ·have hX:qT i.code=false:=by rw[e];decide
  have hB:qZ m i=i.k:=by unfold qZ;rw[hX];rfl
  have hb:ql i.code=53:=by unfold ql;rw[hX,e];rfl
  have hq:Int.tdiv 53 16=3:=by decide
  have hwq:IntKind.wrap .u16 3=3:=by decide
  rw[hX] at hw2;rw[hb,hB];rw[e] at hw2 ⊢;simp (decide:=true) only [↓vS,vT,simprocAttr];refine hw2.sc ?_
  by_cases hp:i.k<=m.a
  ·simp (decide:=true) only [↓vS,vT,simprocAttr,hl,g0,g1,↓zp h16,hq,hwq,hp,wt];intro _;refine⟨[0],?_⟩;simp[vw,qa,qe,jL,hp]
  ·simp (decide:=true) only [↓vS,vT,simprocAttr,hl,g0,g1,↓zp h16,hq,hwq,hp,wf];intro _;refine⟨[0],?_⟩;simp[vw,qa,qe,jL,hp]
 ·have hX:qT i.code=true:=by rw[e];decide
  have hB:qZ m i=m.x:=by unfold qZ;rw[hX];rfl
  have hb:ql i.code=53:=by unfold ql;rw[hX,e];rfl
  have hq:Int.tdiv 61 16=3:=by decide
  have hwq:IntKind.wrap .u16 3=3:=by decide
  rw[hX] at hw2;rw[hb,hB];rw[e] at hw2 ⊢;simp (decide:=true) only [↓vS,vT,simprocAttr];refine hw2.sc ?_
  by_cases hp:m.x<=m.a
  ·simp (decide:=true) only [↓vS,vT,simprocAttr,hl,g0,g1,↓zp h16,hq,hwq,hp,wt];intro _;refine⟨[0],?_⟩;simp[vw,qa,qe,jL,hp]
  ·simp (decide:=true) only [↓vS,vT,simprocAttr,hl,g0,g1,↓zp h16,hq,hwq,hp,wf];intro _;refine⟨[0],?_⟩;simp[vw,qa,qe,jL,hp]
 ·have hX:qT i.code=false:=by rw[e];decide
  have hB:qZ m i=i.k:=by unfold qZ;rw[hX];rfl
  have hb:ql i.code=69:=by unfold ql;rw[hX,e];rfl
  have hq:Int.tdiv 69 16=4:=by decide
  have hwq:IntKind.wrap .u16 4=4:=by decide
  rw[hX] at hw2;rw[hb,hB];rw[e] at hw2 ⊢;simp (decide:=true) only [↓vS,vT,simprocAttr];refine hw2.sc ?_
  by_cases hp:0<y8 .u32 m.a (i.k)
  ·simp (decide:=true) only [↓vS,vT,simprocAttr,hl,g0,g1,↓zp h16,hq,hwq,hp,wt];intro _;refine⟨[0],?_⟩;simp[vw,qa,qe,jL,hp]
  ·simp (decide:=true) only [↓vS,vT,simprocAttr,hl,g0,g1,↓zp h16,hq,hwq,hp,wf];intro _;refine⟨[0],?_⟩;simp[vw,qa,qe,jL,hp]
 ·have hX:qT i.code=true:=by rw[e];decide
  have hB:qZ m i=m.x:=by unfold qZ;rw[hX];rfl
  have hb:ql i.code=69:=by unfold ql;rw[hX,e];rfl
  have hq:Int.tdiv 77 16=4:=by decide
  have hwq:IntKind.wrap .u16 4=4:=by decide
  rw[hX] at hw2;rw[hb,hB];rw[e] at hw2 ⊢;simp (decide:=true) only [↓vS,vT,simprocAttr];refine hw2.sc ?_
  by_cases hp:0<y8 .u32 m.a (m.x)
  ·simp (decide:=true) only [↓vS,vT,simprocAttr,hl,g0,g1,↓zp h16,hq,hwq,hp,wt];intro _;refine⟨[0],?_⟩;simp[vw,qa,qe,jL,hp]
  ·simp (decide:=true) only [↓vS,vT,simprocAttr,hl,g0,g1,↓zp h16,hq,hwq,hp,wf];intro _;refine⟨[0],?_⟩;simp[vw,qa,qe,jL,hp]
 ·exact absurd e c5
end Go.Kc
end
section
/- The document's machine: an instruction. Condition: the functions' texts are these. -/
namespace Go.Kc
variable {P:Program} {f:Nat}
def jP(a:Nat):IFn:=⟨[.tmp 2],.seq (.r [.m 2 .F]) (.seq (.r [.n 3 0,.l 4 a [.t 3],.q 5 (.fld 1 none (.t 4)),.q 6 (.bin .neq (.t 5) (.c (.s []))),.n 2 6]) (.ret))⟩
theorem qsp{g:Nat}(hc:qi P f (jP g)=true)(hg:Je P g)(c:Int):qc P f [.i .u16 c] (.b (zk c)):=by
 refine qc.mk hc rfl ?_;have hgc:=hg c;simp only[jP,vI,simprocAttr];simp (decide:=true) only [↓vS,vT,simprocAttr];refine hgc.sc ?_;cases hcm:qw c with
 | none =>
  have h0:zk c=false:=by unfold zk;rw[hcm];rfl
  rw[h0];simp (decide:=true) only [↓vS,vT,simprocAttr,zj,zE];simp[vZ]
 | some x =>
  obtain⟨hxm,_⟩:=xy hcm;have h0:zk c=true:=by unfold zk;rw[hcm];rfl
  have hne:=(qmz x hxm).1;rw[h0];simp (decide:=true) only [↓vS,vT,simprocAttr,zj,xt,hne];simp[vZ]
def qdK(m:Mac)(i:Ins):Mac:={ m with over:=true,told:=if i.code=22 then m.a else i.k }
def doR(m:Mac)(i:Ins)(d:GData):Mac×Int×Int :=
 if zk i.code=false then (m,0,40)
 else if qg i.code=1∨qg i.code=2∨qg i.code=6 then ((wH m i d).1,0,(wH m i d).2)
 else if qg i.code=3 then ((nuM m i).1,0,(nuM m i).2)
 else if qg i.code=4 then (m,QF m i,0)
 else (qdK m i,0,0)
def qnk(P:Program)(g:Nat):Prop:=∀(m:Mac),MacOk m->∀(i:Ins),InsOk i->∀d:GData,DatOk d->Upd P g [.ptr 0 0,.agg (qn i),.agg (qE d)] [.cells 0 true false (zu m)] (.i .i64 (wH m i d).2) [.cells 0 true false (zu (wH m i d).1)]
def qqU(P:Program)(g:Nat):Prop:=∀(m:Mac),MacOk m->∀(i:Ins),InsOk i->qg i.code=3->Upd P g [.ptr 0 0,.agg (qn i)] [.cells 0 true false (zu m)] (.i .i64 (nuM m i).2) [.cells 0 true false (zu (nuM m i).1)]
def qnh(P:Program)(g:Nat):Prop:=∀(m:Mac),MacOk m->∀(i:Ins),InsOk i->qg i.code=4->Upd P g [.ptr 0 0,.agg (qn i)] [.cells 0 true false (zu m)] (.i .i64 (QF m i)) [.cells 0 true false (zu m)]
def xN(a b c d e:Nat):IFn:=⟨[.tmp 6,.tmp 7],.seq (.r [.q 4 (.box (.t 1)),.q 5 (.box (.t 2)),.m 6 (.k 0),.m 7 (.k 0)]) (.seq (.seq (.r [.f 8 0 4,.d 9 8,.l 10 a [.t 9],.q 11 (.un .not (.t 10))]) (.cond (.t 11) (.seq (.r [.m 6 (.k 0),.m 7 (.k 40)]) (.ret)) (.skip))) (.seq (.seq (.r [.f 12 0 4,.d 13 12,.l 14 b [.t 13],.q 15 (.fld 2 none (.t 14))]) (.blk 0 (.seq (.seq (.r [.q 17 (.bin .eql (.t 15) (.c (.i .u8 1))),.n 16 17]) (.cond (.t 16) (.skip) (.seq (.r [.q 18 (.bin .eql (.t 15) (.c (.i .u8 2))),.n 16 18]) (.cond (.t 16) (.skip) (.r [.q 19 (.bin .eql (.t 15) (.c (.i .u8 6))),.n 16 19]))))) (.cond (.t 16) (.seq (.r [.n 20 0,.v 21 4 4,.v 22 9 5,.l 23 c [.t 20,.t 21,.t 22],.m 6 (.k 0),.n 7 23]) (.ret)) (.seq (.r [.q 25 (.bin .eql (.t 15) (.c (.i .u8 3))),.n 24 25]) (.cond (.t 24) (.seq (.r [.n 26 0,.v 27 4 4,.l 28 d [.t 26,.t 27],.m 6 (.k 0),.n 7 28]) (.ret)) (.seq (.r [.q 30 (.bin .eql (.t 15) (.c (.i .u8 4))),.n 29 30]) (.cond (.t 29) (.seq (.r [.n 31 0,.v 32 4 4,.l 33 e [.t 31,.t 32],.n 6 33,.m 7 (.k 0)]) (.ret)) (.skip))))))))) (.seq (.r [.n 34 0,.q 35 (.nilChk (.t 34)),.f 36 19 35,.u (.store 1 (.t 36) .T)]) (.seq (.r [.n 37 0,.f 38 3 4,.d 39 38,.q 40 (.nilChk (.t 37)),.f 41 2 40,.u (.store 1 (.t 41) (.t 39))]) (.seq (.seq (.r [.f 42 0 4,.d 43 42,.q 44 (.bin .eql (.t 43) (.c (.i .u16 22)))]) (.cond (.t 44) (.r [.n 45 0,.n 46 0,.q 47 (.nilChk (.t 46)),.f 48 0 47,.d 49 48,.q 50 (.nilChk (.t 45)),.f 51 2 50,.u (.store 1 (.t 51) (.t 49))]) (.skip))) (.seq (.r [.m 6 (.k 0),.m 7 (.k 0)]) (.ret)))))))⟩
set_option maxHeartbeats 2000000 in
theorem qud{g1 g2 g3 g4 g5:Nat}(hc:qi P f (xN g1 g2 g3 g4 g5)=true)(h1:∀c,qc P g1 [.i .u16 c] (.b (zk c)))(h2:Je P g2)(h3:qnk P g3)(h4:qqU P g4)(h5:qnh P g5)
  (m:Mac) (hm:MacOk m) (i:Ins) (hi:InsOk i) (d:GData) (hd:DatOk d) :
  Upd P f [.ptr 0 0,.agg (qn i),.agg (qE d)] [.cells 0 true false (zu m)] (.tup [.i .i64 (doR m i d).2.1,.i .i64 (doR m i d).2.2]) [.cells 0 true false (zu (doR m i d).1)]:=by
 refine Upd.mk hc (by simp[xu,bnd,qn,qE]) (by simp) ?_;have hl:=v6 hm.len;have g0:(zu m)[0]?=some (.i .u32 m.a):=rfl
 have hcl:(zj (qw i.code)).length=3∧(zj (qw i.code))[2]?=some (.i .u8 (qg i.code))∧qy (zj (qw i.code))=true:=by
  unfold qg;cases qw i.code<;>exact⟨rfl,rfl,rfl⟩
 have hgc:=h2 i.code;have hk:=h1 i.code;have hld:=h3 m hm i hi d hd;generalize zj (qw i.code)=E at hcl hgc;obtain⟨he1,he2,he3⟩:=hcl;unfold doR;simp only[xN,vI,simprocAttr]
 by_cases hkn:zk i.code=false
 ·rw[if_pos hkn];rw[hkn] at hk;simp only[qn,qE];simp (decide:=true) only [↓vS,vT,simprocAttr];refine hk.sc ?_;simp (decide:=true) only [↓vS,vT,simprocAttr];intro _;refine⟨[0],?_⟩;simp[vw,qa,qe]
 rw[if_neg hkn];have hkn:zk i.code=true:=by simpa using hkn
 rw[hkn] at hk;simp only[qn,qE] at hld ⊢;simp (decide:=true) only [↓vS,vT,simprocAttr];refine hk.sc ?_;simp (decide:=true) only [↓vS,vT,simprocAttr];refine hgc.sc ?_
 by_cases hA:qg i.code=1∨qg i.code=2∨qg i.code=6
 ·rw[if_pos hA]
  rcases hA with hA|hA|hA<;>(
   simp (decide:=true) only [↓vS,vT,simprocAttr,he2,hA];refine hld.sc (vs:=[.ptr 0 0,.agg [.i .u16 i.code,.i .u8 i.jt,.i .u8 i.jf,.i .u32 i.k],.agg [.i .u32 d.nr,.i .u32 d.arch,.i .u64 d.ip,.i .u64 d.a0,.i .u64 d.a1,.i .u64 d.a2,.i .u64 d.a3,.i .u64 d.a4,.i .u64 d.a5]]) [0] (Lent.of (by decide) ?_) ?_
   ·simp[vL,vw,za qe,qz qe]
   simp only[vK,simprocAttr,qz qe];simp (decide:=true) only [↓vS,vT,simprocAttr];intro _;refine⟨[0],?_⟩;simp[vw,qa,qe])
 rw[if_neg hA];have n1:¬qg i.code=1:=fun h=>hA (.inl h)
 have n2:¬qg i.code=2:=fun h=>hA (.inr (.inl h))
 have n6:¬qg i.code=6:=fun h=>hA (.inr (.inr h))
 by_cases c3:qg i.code=3
 ·rw[if_pos c3];have hnu:=h4 m hm i hi c3;simp only[qn] at hnu;simp (decide:=true) only [↓vS,vT,simprocAttr,he2,c3];refine hnu.sc (vs:=[.ptr 0 0,.agg [.i .u16 i.code,.i .u8 i.jt,.i .u8 i.jf,.i .u32 i.k]]) [0] (Lent.of (by decide) ?_) ?_
  ·simp[vL,vw,za qe,qz qe]
  simp only[vK,simprocAttr,qz qe];simp (decide:=true) only [↓vS,vT,simprocAttr];intro _;refine⟨[0],?_⟩;simp[vw,qa,qe]
 rw[if_neg c3]
 by_cases c4:qg i.code=4
 ·rw[if_pos c4];have hju:=h5 m hm i hi c4;simp only[qn] at hju;simp (decide:=true) only [↓vS,vT,simprocAttr,he2,c4];refine hju.sc (vs:=[.ptr 0 0,.agg [.i .u16 i.code,.i .u8 i.jt,.i .u8 i.jf,.i .u32 i.k]]) [0] (Lent.of (by decide) ?_) ?_
  ·simp[vL,vw,za qe,qz qe]
  simp only[vK,simprocAttr,qz qe];simp (decide:=true) only [↓vS,vT,simprocAttr];intro _;refine⟨[0],?_⟩;simp[vw,qa,qe]
 rw[if_neg c4];have so:List.take 19 (zu m)++(AV.b true::List.drop 20 (zu m))=zu { m with over:=true }:=qbz hm.len true;obtain⟨m2,hm2⟩:∃m2,m2={ m with over:=true }:=⟨_,rfl⟩;rw[← hm2] at so;have hl2:(zu m2).length=20:=v6 (by rw[hm2];exact hm.len);have s2:∀v:Int,List.take 2 (zu m2)++(AV.i .u32 v::List.drop 3 (zu m2))=zu { m2 with told:=v }:=fun _=>rfl
 obtain⟨m3,hm3⟩:∃m3,m3={ m2 with told:=i.k }:=⟨_,rfl⟩;have s2k:=s2 i.k;rw[← hm3] at s2k;have hl3:(zu m3).length=20:=v6 (by rw[hm3,hm2];exact hm.len);have g03:(zu m3)[0]?=some (.i .u32 m.a):=by rw[hm3,hm2];rfl
 have s3:∀v:Int,List.take 2 (zu m3)++(AV.i .u32 v::List.drop 3 (zu m3))=zu { m3 with told:=v }:=fun _=>rfl
 by_cases c22:i.code=22
 ·simp (decide:=true) only [↓vS,vT,simprocAttr,he2,n1,n2,n6,c3,c4,hl,so,hl2,s2k,c22,hl3,g03,s3];intro _;refine⟨[0],?_⟩;simp[vw,qa,qe,qdK,c22,hm3,hm2]
 ·simp (decide:=true) only [↓vS,vT,simprocAttr,he2,n1,n2,n6,c3,c4,hl,so,hl2,s2k,c22];intro _;refine⟨[0],?_⟩;simp[vw,qa,qe,qdK,c22,hm3,hm2]
end Go.Kc
end
section
/- The document's machine stays as it may be; a run. Condition: the functions' texts are these. -/
namespace Go.Kc
variable {P:Program} {f:Nat}
theorem vg(x:Int):u32 (IntKind.wrap .u32 x):=by show 0<=x % 4294967296∧x % 4294967296<=4294967295;omega
theorem qdp(left:Bool):∀(n:Nat) (a:Int),u32 a->u32 (jw left n a)
 | 0,_,h=>h
 | n+1,a,h=>by
  refine qdp left n _ ?_;unfold u32 at h ⊢;split<;>omega
theorem qex{d:GData}(hd:DatOk d){x:Int}(hm:x ∈ xH d):u32 x:=by
 unfold xH at hm;rcases List.mem_cons.1 hm with rfl|hm
 ·exact⟨hd.nr0,hd.nr1⟩
 rcases List.mem_cons.1 hm with rfl|hm
 ·exact⟨hd.ar0,hd.ar1⟩
 obtain⟨y,hy,hm⟩:=List.mem_flatMap.1 hm;have:=hd.wid y hy;simp only[List.mem_cons,List.not_mem_nil,or_false] at hm;unfold u32;rcases hm with rfl|rfl
 ·unfold loW;omega
 ·unfold hiW;omega
theorem qaP{l:List Int}(h:∀c ∈ l,u32 c)(j:Nat):u32 (l.getD j 0):=by
 rw[List.getD_eq_getElem?_getD];cases hx:l[j]? with
 | none=>exact⟨Int.le_refl _,by decide⟩
 | some x=>exact h x (List.mem_of_getElem? hx)
theorem qim{m:Mac}(hm:MacOk m){i:Ins}(hi:InsOk i){d:GData}(hd:DatOk d):MacOk (wH m i d).1:=by
 have hk:u32 i.k:=⟨hi.k0,hi.k1⟩;have h64:u32 64:=⟨by decide,by decide⟩
 unfold wH
 by_cases c1:QE i=true∧15<i.k
 ·rw[if_pos c1];exact hm
 rw[if_neg c1]
 by_cases c2:i.code=32
 ·rw[if_pos c2]
  by_cases c3:i.k % 4≠0∨64<=i.k
  ·rw[if_pos c3];exact hm
  ·rw[if_neg c3];exact⟨qaP (fun c hc=>qex hd hc) _,hm.x,hm.told,hm.len,hm.cl⟩
 rw[if_neg c2]
 by_cases d1:i.code=128
 ·rw[if_pos d1];exact⟨h64,hm.x,hm.told,hm.len,hm.cl⟩
 rw[if_neg d1]
 by_cases d2:i.code=129
 ·rw[if_pos d2];exact⟨hm.a,h64,hm.told,hm.len,hm.cl⟩
 rw[if_neg d2]
 by_cases d3:i.code=0
 ·rw[if_pos d3];exact⟨hk,hm.x,hm.told,hm.len,hm.cl⟩
 rw[if_neg d3]
 by_cases d4:i.code=1
 ·rw[if_pos d4];exact⟨hm.a,hk,hm.told,hm.len,hm.cl⟩
 rw[if_neg d4]
 by_cases d5:i.code=96
 ·rw[if_pos d5];exact⟨qaP hm.cl _,hm.x,hm.told,hm.len,hm.cl⟩
 rw[if_neg d5]
 by_cases d6:i.code=97
 ·rw[if_pos d6];exact⟨hm.a,qaP hm.cl _,hm.told,hm.len,hm.cl⟩
 rw[if_neg d6]
 by_cases d7:i.code=2
 ·rw[if_pos d7];exact⟨hm.a,hm.x,hm.told,by simpa using hm.len,fun c hc=>(List.mem_or_eq_of_mem_set hc).elim (hm.cl c) (fun e=>e ▸ hm.a)⟩
 rw[if_neg d7]
 by_cases d8:i.code=3
 ·rw[if_pos d8];exact⟨hm.a,hm.x,hm.told,by simpa using hm.len,fun c hc=>(List.mem_or_eq_of_mem_set hc).elim (hm.cl c) (fun e=>e ▸ hm.x)⟩
 rw[if_neg d8]
 by_cases d9:i.code=7
 ·rw[if_pos d9];exact⟨hm.a,hm.a,hm.told,hm.len,hm.cl⟩
 rw[if_neg d9]
 by_cases d10:i.code=135
 ·rw[if_pos d10];exact⟨hm.x,hm.x,hm.told,hm.len,hm.cl⟩
 rw[if_neg d10];exact hm
theorem qoF(c a b:Int):u32 (opM c a b):=by
 unfold opM;split
 ·exact vg _
 split
 ·exact vg _
 split
 ·exact vg _
 split
 ·exact vg _
 split
 ·exact vg _
 split
 ·exact vg _
 ·exact vg _
theorem qow{m:Mac}(hm:MacOk m)(i:Ins):MacOk (nuM m i).1:=by
 unfold nuM;split
 ·split
  ·rename_i hb;have h1:m.a / qZ m i<=m.a:=Int.ediv_le_self _ hm.a.1;have h2:0<=m.a / qZ m i:=Int.ediv_nonneg hm.a.1 (by omega);have h3:=hm.a.2;exact⟨⟨h2,by show m.a / qZ m i<=4294967295;omega⟩,hm.x,hm.told,hm.len,hm.cl⟩
  split
  ·exact⟨hm.a,hm.x,hm.told,hm.len,hm.cl⟩
  ·exact hm
 split
 ·split
  ·exact hm
  ·exact⟨qdp _ _ _ hm.a,hm.x,hm.told,hm.len,hm.cl⟩
 ·exact⟨qoF _ _ _,hm.x,hm.told,hm.len,hm.cl⟩
theorem qic{m:Mac}{i:Ins}(hi:InsOk i):u32 (QF m i):=by
 have:=hi.t0;have:=hi.t1;have:=hi.f0;have:=hi.f1;have:=hi.k0;have:=hi.k1
 unfold QF u32;split
 ·omega
 split<;>omega
theorem qd5{m:Mac}(hm:MacOk m){i:Ins}(hi:InsOk i){d:GData}(hd:DatOk d):MacOk (doR m i d).1∧u32 (doR m i d).2.1:=by
 have h0:u32 0:=⟨by decide,by decide⟩
 unfold doR;split
 ·exact⟨hm,h0⟩
 split
 ·exact⟨qim hm hi hd,h0⟩
 split
 ·exact⟨qow hm i,h0⟩
 split
 ·exact⟨hm,qic hi⟩
 ·refine⟨⟨hm.a,hm.x,?_,hm.len,hm.cl⟩,h0⟩;show u32 (if i.code=22 then m.a else i.k)
  split
  ·exact hm.a
  ·exact⟨hi.k0,hi.k1⟩
def ZX(p:List Ins)(d:GData):Nat->Mac->Nat->Int->List Nat->Int×Nat×List Nat×Int
 | 0,_,_,_,l=>(0,0,l,0)
 | n+1,m,at',bh,l=>match p[at']? with
  | none=>(0,l.length,l,bh)
  | some i=>if (doR m i d).2.2≠0 then (0,l.length,l++[at'],(doR m i d).2.2)
   else if (doR m i d).1.over=true then ((doR m i d).1.told,l.length+1,l++[at'],0)
   else ZX p d n (doR m i d).1 (at'+1+(doR m i d).2.1.toNat) (if qg i.code=4 then 42 else 46) (l++[at'])
def XT:Mac:=⟨0,0,0,List.replicate 16 0,false⟩
def qlJ(p:List Ins)(d:GData):AV:=.tup [.i .u32 (ZX p d (p.length+1) XT 0 46 []).1,.i .i64 ((ZX p d (p.length+1) XT 0 46 []).2.1:Nat),.fz (ZX p d (p.length+1) XT 0 46 []).2.2.1.length (rNt (ZX p d (p.length+1) XT 0 46 []).2.2.1),.i .i64 (ZX p d (p.length+1) XT 0 46 []).2.2.2]
def qsC(P:Program)(g:Nat):Prop:=∀m:Mac,MacOk m->∀i:Ins,InsOk i->∀d:GData,DatOk d->Upd P g [.ptr 0 0,.agg (qn i),.agg (qE d)] [.cells 0 true false (zu m)] (.tup [.i .i64 (doR m i d).2.1,.i .i64 (doR m i d).2.2]) [.cells 0 true false (zu (doR m i d).1)]
def wE(a b:Nat):IFn:=⟨[.tmp 4,.tmp 5,.tmp 6,.tmp 7],.seq (.r [.q 3 (.box (.t 1)),.m 4 (.c (.i .u32 0)),.m 5 (.k 0),.m 6 .N,.m 7 (.k 0)]) (.seq (.r [.q 8 (.alloc [.i .u32 0,.i .u32 0,.i .u32 0,.i .u32 0,.i .u32 0,.i .u32 0,.i .u32 0,.i .u32 0,.i .u32 0,.i .u32 0,.i .u32 0,.i .u32 0,.i .u32 0,.i .u32 0,.i .u32 0,.i .u32 0,.i .u32 0,.i .u32 0,.i .u32 0,.b false])]) (.seq (.r [.m 9 .N]) (.seq (.r [.m 10 (.k 0),.m 11 (.k 46)]) (.blk 0 (.loop (.blk 1 (.seq (.seq (.r [.n 14 10,.n 15 0,.e 16 15,.b 17 .geq 14 16]) (.cond (.t 17) (.seq (.r [.n 18 9,.e 19 18,.n 20 9,.n 21 11,.m 4 (.c (.i .u32 0)),.n 5 19,.n 6 20,.n 7 21]) (.ret)) (.skip))) (.seq (.reg true [.n 23 0,.n 24 10,.i 25 4 23 24,.v 26 4 25,.v 27 9 3,⟨(some 28),.callW a [.t 8,.t 26,.t 27],none⟩,.n 22 28,.x 29 22 0,.x 30 22 1,.n 12 29,.n 13 30]) (.seq (.r [.n 31 9,.n 32 10,.q 33 (.buildS 1 [.i .i64 0] [(0,1,(.t 32))]),.q 34 (.app 1 8 true (.t 31) (.t 33)),.n 9 34]) (.seq (.seq (.r [.n 35 13,.w 36 .neq 35 0]) (.cond (.t 36) (.seq (.r [.n 37 9,.e 38 37,.w 39 .sub 38 1,.n 40 9,.n 41 13,.m 4 (.c (.i .u32 0)),.n 5 39,.n 6 40,.n 7 41]) (.ret)) (.skip))) (.seq (.seq (.r [.f 42 19 8,.d 43 42]) (.cond (.t 43) (.seq (.r [.f 44 2 8,.d 45 44,.n 46 9,.e 47 46,.n 48 9,.n 4 45,.n 5 47,.n 6 48,.m 7 (.k 0)]) (.ret)) (.skip))) (.seq (.r [.m 11 (.k 46)]) (.seq (.seq (.r [.n 49 0,.n 50 10,.i 51 4 49 50,.f 52 0 51,.d 53 52,.l 54 b [.t 53],.q 55 (.fld 2 none (.t 54)),.q 56 (.bin .eql (.t 55) (.c (.i .u8 4)))]) (.cond (.t 56) (.r [.m 11 (.k 42)]) (.skip))) (.r [.n 57 10,.a 58 57 1,.n 59 12,.b 60 .add 58 59,.n 10 60]))))))))))))))⟩
end Go.Kc
end
section
/- The document's run. Condition: the functions' texts are these. -/
namespace Go.Kc
variable {P:Program} {f:Nat}
theorem Qb{d:GData}:List.take 9 (List.drop 0 (qE d))=qE d:=rfl
theorem Jg{d:GData}:9<=(qE d).length:=Nat.le_refl 9
theorem zK{d:GData}:qy (qE d)=true:=rfl
theorem qcm:MacOk XT:=⟨⟨by decide,by decide⟩,⟨by decide,by decide⟩,⟨by decide,by decide⟩,rfl,fun c hc=>by
 have:=List.eq_of_mem_replicate hc;subst this;exact⟨by decide,by decide⟩⟩
theorem X3{p:List Ins}{d:GData}{n:Nat}{m:Mac}{at':Nat}{bh:Int}{l:List Nat}:ZX p d (n+1) m at' bh l=match p[at']? with
  | none=>(0,l.length,l,bh)
  | some i=>if (doR m i d).2.2≠0 then (0,l.length,l++[at'],(doR m i d).2.2)
   else if (doR m i d).1.over=true then ((doR m i d).1.told,l.length+1,l++[at'],0)
   else ZX p d n (doR m i d).1 (at'+1+(doR m i d).2.1.toNat) (if qg i.code=4 then 42 else 46) (l++[at']):=rfl
set_option maxHeartbeats 4000000 in
theorem qua{g1 g2:Nat}(hc:qi P f (wE g1 g2)=true)(h1:qsC P g1)(h2:Je P g2)(p:List Ins)(hp:p.length<=4096)(hi:∀i ∈ p,InsOk i)(d:GData)(hd:DatOk d) :
  qc P f [.fz p.length (rP p),.agg (qE d)] (qlJ p d):=by
 refine qc.mk hc (by simp[qy,clo,qd,zK]) ?_;unfold qlJ;simp only[wE,vI,simprocAttr];simp (decide:=true) only [↓vS,vT,simprocAttr]
 refine SL.loop (α:=Nat×Mac×Nat×Int×List Nat) (fun s=>[(0,.fz p.length (rP p)),(3,.ptr 0 0),(8,.ptr 1 0),(9,.own 2 s.2.2.2.2.length),(10,.i .i64 (s.2.2.1:Int)),(11,.i .i64 s.2.2.2.1)]) (fun s=>[.cells 0 true false (qE d),.cells 0 true false (zu s.2.1),.cells 1 true true (rNt s.2.2.2.2)])
  (fun s=>1<=s.1∧p.length+1<=s.1+s.2.2.1∧MacOk s.2.1∧s.2.2.1<=5000000000∧s.2.2.2.2.length<=s.2.2.1∧s.2.2.2.2.length<=p.length∧ZX p d s.1 s.2.1 s.2.2.1 s.2.2.2.1 s.2.2.2.2=ZX p d (p.length+1) XT 0 46 []) (fun s=>s.1) (p.length+1,XT,0,46,[]) [0,1,99] ?_ ?_ ?_ rfl ?_ ?_
 ·simp[vw,qd]
 ·simp[vw,qa,zK];exact⟨NVs.refl zK,NVs.refl (vs:=zu XT) qe⟩
 ·simp
 ·exact⟨Nat.le_add_left 1 _,Nat.le_refl _,qcm,Nat.zero_le _,Nat.le_refl _,Nat.zero_le _,rfl⟩
 rintro⟨n,m,a,bh,l⟩ ⟨hn1,hn2,hm,ha,hla,hlp,hI⟩ G ih;simp only at hn1 hn2 hm ha hla hlp hI;obtain⟨n,rfl⟩:∃n',n=n'+1:=⟨n-1,by omega⟩
 rw[X3] at hI;simp only[vI,simprocAttr]
 by_cases hlt:a<p.length
 ·obtain⟨i,hpi⟩:∃i,p[a]?=some i:=⟨_,List.getElem?_eq_getElem hlt⟩;have hii:=hi i (List.mem_of_getElem? hpi);rw[hpi] at hI;simp only at hI;have hel:=qU (f:=qn) (m:=4) qW hpi;rw[show p.flatMap qn=rP p from rfl] at hel
  have h4:a*4+4<=(rP p).length:=by rw[vm];omega
  have g0:=zb (f:=qn) (m:=4) qW hpi (i:=0) (by omega);rw[show p.flatMap qn=rP p from rfl] at g0
  simp only[qn,Nat.add_zero,List.getElem?_cons_zero] at g0;have hge:¬(p.length:Int)<=(a:Int):=by omega
  have hok:=qd5 hm hii hd;have hdo:=h1 m hm i hii d hd
  have hcl:(zj (qw i.code)).length=3∧(zj (qw i.code))[2]?=some (.i .u8 (qg i.code))∧qy (zj (qw i.code))=true:=by
   unfold qg;cases qw i.code<;>exact⟨rfl,rfl,rfl⟩
  have hgc:=h2 i.code;generalize zj (qw i.code)=E at hcl hgc;obtain⟨he1,he2,he3⟩:=hcl;generalize doR m i d=r at hI hok hdo;obtain⟨m2,k,e⟩:=r;simp only at hI hok hdo;obtain⟨hm2,hk⟩:=hok;have hl20:=v6 hm2.len;have ho:=qfH hm2.len;have ht:(zu m2)[2]?=some (.i .u32 m2.told):=rfl;have hr1:l.length+1<=qf:=by simp only[qf];omega
  have hr2:(l.length+1)*8<=qf:=by simp only[qf];omega
  have hap:rNt l++[.i .i64 (a:Int)]=rNt (l++[a]):=by rw[← qam];rfl
  have hll:(rNt l).length=l.length:=Xt;simp (decide:=true) only [↓vS,vT,simprocAttr,hge,hlt];refine zm ?_;simp (decide:=true) only [↓vS,vT,simprocAttr,hlt,hel,h4,Qb,Jg];refine hdo.pc (vs:=[.ptr 0 0,.agg (qn i),.agg (qE d)]) [1] (Lent.of (by decide) ?_) ?_
  ·simp[vL,vw,za qe,qz qe,za zK,qz zK,qn]
  simp only[vK,simprocAttr,qz qe];have w1:IntKind.wrap .i64 (((l.length+1:Nat):Int)-1)=(l.length:Int):=by rw[qp (by omega) (by omega)];omega
  have w2:IntKind.wrap .i64 ((a:Int)+1)=((a+1:Nat):Int):=by rw[qp (by omega) (by omega)];omega
  have hk0:=hk.1;have hk1:=hk.2;have w3:IntKind.wrap .i64 (((a+1:Nat):Int)+k)=((a+1+k.toNat:Nat):Int):=by rw[qp (by omega) (by omega)];omega
  have hla1:(l++[a]).length=l.length+1:=by simp
  by_cases he:e=0
  ·rw[if_neg (by simpa using he)] at hI;cases hov:m2.over with
   | true =>
    rw[hov] at ho;rw[if_pos hov] at hI;rw[← hI];simp (decide:=true) only [↓vS,vT,simprocAttr,hr1,hr2,hll,hap,he,hl20,ho,ht,Nat.mul_one];simp[vZ,vP,Tr.get_set,qY qu,hla1]
   | false =>
    rw[hov] at ho;rw[if_neg (by rw[hov];simp)] at hI
    by_cases c4:qg i.code=4
    ·rw[if_pos c4] at hI;simp (decide:=true) only [↓vS,vT,simprocAttr,hr1,hr2,hll,hap,he,hl20,ho,ht,Nat.mul_one,hlt,g0];refine hgc.sc ?_;simp (decide:=true) only [↓vS,vT,simprocAttr,he2,c4,w2,w3];refine ih (n,m2,a+1+k.toNat,42,l++[a]) ⟨by simp only;omega,by simp only;omega,hm2,by simp only;omega,by simp only[hla1];omega,by simp only[hla1];omega,hI⟩ (by simp only;omega) _ _ (Wk.mk _ _ [0,1,4] ?_ ?_ ?_ rfl)
     ·simp[vw,qd]
     ·simp[vw,qa,qu,qe];exact NVs.refl zK
     ·simp
    ·rw[if_neg c4] at hI;simp (decide:=true) only [↓vS,vT,simprocAttr,hr1,hr2,hll,hap,he,hl20,ho,ht,Nat.mul_one,hlt,g0];refine hgc.sc ?_;simp (decide:=true) only [↓vS,vT,simprocAttr,he2,c4,w2,w3];refine ih (n,m2,a+1+k.toNat,46,l++[a]) ⟨by simp only;omega,by simp only;omega,hm2,by simp only;omega,by simp only[hla1];omega,by simp only[hla1];omega,hI⟩ (by simp only;omega) _ _ (Wk.mk _ _ [0,1,4] ?_ ?_ ?_ rfl)
     ·simp[vw,qd]
     ·simp[vw,qa,qu,qe];exact NVs.refl zK
     ·simp
  ·rw[if_pos he] at hI;rw[← hI];simp (decide:=true) only [↓vS,vT,simprocAttr,hr1,hr2,hll,hap,he,w1,Nat.mul_one];simp[vZ,vP,Tr.get_set,qY qu,hla1]
 ·have hge:p.length<=a:=by omega
  have hno:p[a]?=none:=List.getElem?_eq_none hge;rw[hno] at hI;simp only at hI;rw[← hI];have hge':(p.length:Int)<=(a:Int):=by omega
  simp (decide:=true) only [↓vS,vT,simprocAttr,hge'];simp[vZ,vP,Tr.get_set,qY qu];intro h0;rw[h0];rfl
end Go.Kc
end
section
/- What codes do of two numbers, in the program. Condition: the functions' texts are these. -/
namespace Go.Kc
variable {P:Program} {f:Nat}
def Zq:IFn:=⟨[.tmp 4],.seq (.r [.m 4 (.c (.i .u32 0))]) (.seq (.r [.n 5 0,.n 6 1,.b 7 .add 5 6,.n 4 7]) (.ret))⟩
theorem qt1(hc:qi P f Zq=true)(a b:Int):qc P f [.i .u32 a,.i .u32 b] (.i .u32 (opM 4 a b)):=by
 refine qc.mk hc rfl ?_;simp only[Zq,vI,simprocAttr];simp (decide:=true) only [↓vS,vT,simprocAttr];simp[vZ,opM]
def Zr:IFn:=⟨[.tmp 4],.seq (.r [.m 4 (.c (.i .u32 0))]) (.seq (.r [.n 5 0,.n 6 1,.b 7 .sub 5 6,.n 4 7]) (.ret))⟩
theorem qt2(hc:qi P f Zr=true)(a b:Int):qc P f [.i .u32 a,.i .u32 b] (.i .u32 (opM 20 a b)):=by
 refine qc.mk hc rfl ?_;simp only[Zr,vI,simprocAttr];simp (decide:=true) only [↓vS,vT,simprocAttr];simp[vZ,opM]
def Zs:IFn:=⟨[.tmp 4],.seq (.r [.m 4 (.c (.i .u32 0))]) (.seq (.r [.n 5 0,.n 6 1,.b 7 .mul 5 6,.n 4 7]) (.ret))⟩
theorem qt3(hc:qi P f Zs=true)(a b:Int):qc P f [.i .u32 a,.i .u32 b] (.i .u32 (opM 36 a b)):=by
 refine qc.mk hc rfl ?_;simp only[Zs,vI,simprocAttr];simp (decide:=true) only [↓vS,vT,simprocAttr];simp[vZ,opM]
def Zu:IFn:=⟨[.tmp 4],.seq (.r [.m 4 (.c (.i .u32 0))]) (.seq (.r [.n 5 0,.n 6 1,.b 7 .or 5 6,.n 4 7]) (.ret))⟩
theorem qt5(hc:qi P f Zu=true)(a b:Int):qc P f [.i .u32 a,.i .u32 b] (.i .u32 (opM 68 a b)):=by
 refine qc.mk hc rfl ?_;simp only[Zu,vI,simprocAttr];simp (decide:=true) only [↓vS,vT,simprocAttr];simp[vZ,opM]
def Zv:IFn:=⟨[.tmp 4],.seq (.r [.m 4 (.c (.i .u32 0))]) (.seq (.r [.n 5 0,.n 6 1,.b 7 .and 5 6,.n 4 7]) (.ret))⟩
theorem qt6(hc:qi P f Zv=true)(a b:Int):qc P f [.i .u32 a,.i .u32 b] (.i .u32 (opM 84 a b)):=by
 refine qc.mk hc rfl ?_;simp only[Zv,vI,simprocAttr];simp (decide:=true) only [↓vS,vT,simprocAttr];simp[vZ,opM]
def Zy:IFn:=⟨[.tmp 4],.seq (.r [.m 4 (.c (.i .u32 0))]) (.seq (.r [.n 5 0,.n 6 1,.b 7 .xor 5 6,.n 4 7]) (.ret))⟩
theorem qt9(hc:qi P f Zy=true)(a b:Int):qc P f [.i .u32 a,.i .u32 b] (.i .u32 (opM 164 a b)):=by
 refine qc.mk hc rfl ?_;simp only[Zy,vI,simprocAttr];simp (decide:=true) only [↓vS,vT,simprocAttr];simp[vZ,opM]
def Qx:IFn:=⟨[.tmp 4],.seq (.r [.m 4 (.c (.i .u32 0))]) (.seq (.r [.n 5 0,.q 6 (.un .neg (.t 5)),.n 4 6]) (.ret))⟩
theorem qte(hc:qi P f Qx=true)(a b:Int):qc P f [.i .u32 a,.i .u32 b] (.i .u32 (opM 132 a b)):=by
 refine qc.mk hc rfl ?_;simp only[Qx,vI,simprocAttr];simp (decide:=true) only [↓vS,vT,simprocAttr];simp[vZ,opM]
def Zt:IFn:=⟨[.tmp 4],.seq (.r [.m 4 (.c (.i .u32 0))]) (.seq (.r [.n 5 0,.n 6 1,.q 7 (.max (.t 6) (.c (.i .u32 1))),.b 8 .quo 5 7,.n 4 8]) (.ret))⟩
theorem qt4(hc:qi P f Zt=true)(a b:Int)(a0:0<=a)(a1:a<=4294967295)(b0:0<b):qc P f [.i .u32 a,.i .u32 b] (.i .u32 (a / b)):=by
 refine qc.mk hc rfl ?_;have h1:¬b<1:=by omega
 have hne:b≠0:=by omega
 have hq:a.tdiv b=a / b:=Int.tdiv_eq_ediv_of_nonneg a0;have hle:a / b<=a:=Int.ediv_le_self _ a0;have hge:0<=a / b:=Int.ediv_nonneg a0 (by omega);have hwq:IntKind.wrap .u32 (a / b)=a / b:=by show (a / b) % 4294967296=_;omega
 simp only[Zt,vI,simprocAttr];simp (decide:=true) only [↓vS,vT,simprocAttr,h1,↓zp hne,hq,hwq];simp[vZ]
def Zw:IFn:=⟨[.tmp 4],.seq (.r [.m 4 (.c (.i .u32 0))]) (.seq (.r [.n 5 0,.n 6 1,.q 7 (.bin .rem (.t 6) (.c (.i .u32 32))),.b 8 .shl 5 7,.n 4 8]) (.ret))⟩
theorem qt7(hc:qi P f Zw=true)(a b:Int)(a0:0<=a)(a1:a<=4294967295)(b0:0<=b):qc P f [.i .u32 a,.i .u32 b] (.i .u32 (jw true (b % 32).toNat a)):=by
 refine qc.mk hc rfl ?_;have h32:(32:Int)≠0:=by decide
 have hr:b.tmod 32=b % 32:=Int.tmod_eq_emod_of_nonneg b0;have hp:0<=b % 32:=by omega
 have hm:min (b % 32).toNat 32=(b % 32).toNat:=by omega
 have hsh:qgD .u32 a (b % 32)=jw true (b % 32).toNat a:=by
  rw[qaV (b % 32).toNat a a0 a1];unfold qgD;rw[show IntKind.bits .u32=32 from rfl,hm]
  rfl
 simp only[Zw,vI,simprocAttr];simp (decide:=true) only [↓vS,vT,simprocAttr,↓zT h32,hr,hp,hsh];simp[vZ]
def Zx:IFn:=⟨[.tmp 4],.seq (.r [.m 4 (.c (.i .u32 0))]) (.seq (.r [.n 5 0,.n 6 1,.q 7 (.bin .rem (.t 6) (.c (.i .u32 32))),.b 8 .shr 5 7,.n 4 8]) (.ret))⟩
theorem qt8(hc:qi P f Zx=true)(a b:Int)(a0:0<=a)(a1:a<=4294967295)(b0:0<=b):qc P f [.i .u32 a,.i .u32 b] (.i .u32 (jw false (b % 32).toNat a)):=by
 refine qc.mk hc rfl ?_;have h32:(32:Int)≠0:=by decide
 have hr:b.tmod 32=b % 32:=Int.tmod_eq_emod_of_nonneg b0;have hp:0<=b % 32:=by omega
 have hm:min (b % 32).toNat 32=(b % 32).toNat:=by omega
 have hsh:X6 .u32 a (b % 32)=jw false (b % 32).toNat a:=by
  rw[Jn (b % 32).toNat a a0];unfold X6;rw[show IntKind.bits .u32=32 from rfl,hm]
  exact Int.fdiv_eq_ediv_of_nonneg _ (Int.le_of_lt (Int.pow_pos (by decide)))
 simp only[Zx,vI,simprocAttr];simp (decide:=true) only [↓vS,vT,simprocAttr,↓zT h32,hr,hp,hsh];simp[vZ]
def Qy:IFn:=⟨[.tmp 4],.seq (.r [.m 4 .F]) (.seq (.r [.n 5 0,.n 6 1,.b 7 .eql 5 6,.n 4 7]) (.ret))⟩
theorem qtf(hc:qi P f Qy=true)(a b:Int):qc P f [.i .u32 a,.i .u32 b] (.b (jL 21 a b)):=by
 refine qc.mk hc rfl ?_;simp only[Qy,vI,simprocAttr];simp (decide:=true) only [↓vS,vT,simprocAttr];simp[vZ,jL]
def Qz:IFn:=⟨[.tmp 4],.seq (.r [.m 4 .F]) (.seq (.r [.n 5 0,.n 6 1,.b 7 .gtr 5 6,.n 4 7]) (.ret))⟩
theorem qtg(hc:qi P f Qz=true)(a b:Int):qc P f [.i .u32 a,.i .u32 b] (.b (jL 37 a b)):=by
 refine qc.mk hc rfl ?_;simp only[Qz,vI,simprocAttr];simp (decide:=true) only [↓vS,vT,simprocAttr];simp[vZ,jL]
def QA:IFn:=⟨[.tmp 4],.seq (.r [.m 4 .F]) (.seq (.r [.n 5 0,.n 6 1,.b 7 .geq 5 6,.n 4 7]) (.ret))⟩
theorem qth(hc:qi P f QA=true)(a b:Int):qc P f [.i .u32 a,.i .u32 b] (.b (jL 53 a b)):=by
 refine qc.mk hc rfl ?_;simp only[QA,vI,simprocAttr];simp (decide:=true) only [↓vS,vT,simprocAttr];simp[vZ,jL]
theorem qjz(a b:Int):0<=y8 .u32 a b:=(vg _).1
def QB:IFn:=⟨[.tmp 4],.seq (.r [.m 4 .F]) (.seq (.r [.n 5 0,.n 6 1,.b 7 .and 5 6,.q 8 (.bin .neq (.t 7) (.c (.i .u32 0))),.n 4 8]) (.ret))⟩
theorem qti(hc:qi P f QB=true)(a b:Int):qc P f [.i .u32 a,.i .u32 b] (.b (jL 69 a b)):=by
 refine qc.mk hc rfl ?_;have h:=qjz a b;simp only[QB,vI,simprocAttr];simp (decide:=true) only [↓vS,vT,simprocAttr];simp[vZ,jL]
 by_cases h0:0<y8 .u32 a b
 ·have h1:¬y8 .u32 a b=0:=by omega
  simp[h0,h1]
 ·have h1:y8 .u32 a b=0:=by omega
  simp[h1]
def fnO:Option Nat->AV
 | none=>.nilf
 | some g=>.fn g [] []
def jx(x:Int×Option Nat×Option Nat):List AV:=[.i .u16 x.1,fnO x.2.1,fnO x.2.2]
theorem qbV(x:Int×Option Nat×Option Nat):(jx x).length=3:=rfl
def qo2(g1 g2 g3 g4 g5 g6 g7 g8 g9 g10 g11 g12 g13 g14:Nat):List (Int×Option Nat×Option Nat):=[(4,some g1,none),(20,some g2,none),(36,some g3,none),(52,some g4,none),(68,some g5,none),(84,some g6,none),(100,some g7,none),(116,some g8,none),(164,some g9,none),(132,some g10,none),(21,none,some g11),(37,none,some g12),(53,none,some g13),(69,none,some g14)]
def Jl(a b c d e g h i j k l m n o:Nat):IFn:=⟨[.cell 0 42 true],.seq (.r [.q 0 (.alloc [.i .u16 0,.nilf,.nilf,.i .u16 0,.nilf,.nilf,.i .u16 0,.nilf,.nilf,.i .u16 0,.nilf,.nilf,.i .u16 0,.nilf,.nilf,.i .u16 0,.nilf,.nilf,.i .u16 0,.nilf,.nilf,.i .u16 0,.nilf,.nilf,.i .u16 0,.nilf,.nilf,.i .u16 0,.nilf,.nilf,.i .u16 0,.nilf,.nilf,.i .u16 0,.nilf,.nilf,.i .u16 0,.nilf,.nilf,.i .u16 0,.nilf,.nilf])]) (.seq (.r [.q 1 (.build [.i .u16 0,.nilf,.nilf] [(0,1,(.c (.i .u16 4))),(1,1,(.c (.fn a [] [])))]),.q 2 (.build [.i .u16 0,.nilf,.nilf] [(0,1,(.c (.i .u16 20))),(1,1,(.c (.fn b [] [])))]),.q 3 (.build [.i .u16 0,.nilf,.nilf] [(0,1,(.c (.i .u16 36))),(1,1,(.c (.fn c [] [])))]),.q 4 (.build [.i .u16 0,.nilf,.nilf] [(0,1,(.c (.i .u16 52))),(1,1,(.c (.fn d [] [])))]),.q 5 (.build [.i .u16 0,.nilf,.nilf] [(0,1,(.c (.i .u16 68))),(1,1,(.c (.fn e [] [])))]),.q 6 (.build [.i .u16 0,.nilf,.nilf] [(0,1,(.c (.i .u16 84))),(1,1,(.c (.fn g [] [])))]),.q 7 (.build [.i .u16 0,.nilf,.nilf] [(0,1,(.c (.i .u16 100))),(1,1,(.c (.fn h [] [])))]),.q 8 (.build [.i .u16 0,.nilf,.nilf] [(0,1,(.c (.i .u16 116))),(1,1,(.c (.fn i [] [])))]),.q 9 (.build [.i .u16 0,.nilf,.nilf] [(0,1,(.c (.i .u16 164))),(1,1,(.c (.fn j [] [])))]),.q 10 (.build [.i .u16 0,.nilf,.nilf] [(0,1,(.c (.i .u16 132))),(1,1,(.c (.fn k [] [])))]),.q 11 (.build [.i .u16 0,.nilf,.nilf] [(0,1,(.c (.i .u16 21))),(2,1,(.c (.fn l [] [])))]),.q 12 (.build [.i .u16 0,.nilf,.nilf] [(0,1,(.c (.i .u16 37))),(2,1,(.c (.fn m [] [])))]),.q 13 (.build [.i .u16 0,.nilf,.nilf] [(0,1,(.c (.i .u16 53))),(2,1,(.c (.fn n [] [])))]),.q 14 (.build [.i .u16 0,.nilf,.nilf] [(0,1,(.c (.i .u16 69))),(2,1,(.c (.fn o [] [])))]),.q 15 (.build [.i .u16 0,.nilf,.nilf,.i .u16 0,.nilf,.nilf,.i .u16 0,.nilf,.nilf,.i .u16 0,.nilf,.nilf,.i .u16 0,.nilf,.nilf,.i .u16 0,.nilf,.nilf,.i .u16 0,.nilf,.nilf,.i .u16 0,.nilf,.nilf,.i .u16 0,.nilf,.nilf,.i .u16 0,.nilf,.nilf,.i .u16 0,.nilf,.nilf,.i .u16 0,.nilf,.nilf,.i .u16 0,.nilf,.nilf,.i .u16 0,.nilf,.nilf] [(0,3,(.t 1)),(3,3,(.t 2)),(6,3,(.t 3)),(9,3,(.t 4)),(12,3,(.t 5)),(15,3,(.t 6)),(18,3,(.t 7)),(21,3,(.t 8)),(24,3,(.t 9)),(27,3,(.t 10)),(30,3,(.t 11)),(33,3,(.t 12)),(36,3,(.t 13)),(39,3,(.t 14))]),.u (.store 42 (.t 0) (.t 15))]) (.ret))⟩
set_option maxRecDepth 8000 in
theorem qo0{g1 g2 g3 g4 g5 g6 g7 g8 g9 g10 g11 g12 g13 g14:Nat}(hc:qi P f (Jl g1 g2 g3 g4 g5 g6 g7 g8 g9 g10 g11 g12 g13 g14)=true):qc P f [] (.agg ((qo2 g1 g2 g3 g4 g5 g6 g7 g8 g9 g10 g11 g12 g13 g14).flatMap jx)):=by
 refine qc.mk hc rfl ?_;simp only[Jl,vI,simprocAttr];simp (decide:=true) only [↓vS,vT,simprocAttr];simp[vZ,vP,Tr.get_set,qo2,jx,fnO]
def qau(c:Int):Int:=if qT c=true then qaC .u16 c 8 else c
theorem qah(o:Option Nat):clo (fnO o)=true:=by cases o<;>rfl
def Qw(a b:Nat):ICode:=.seq (.seq (.r [.l 9 b [],.m 10 (.k 0)]) (.blk 0 (.loop (.seq (.r [.w 11 .lss 10 14]) (.seq (.cond (.t 11) (.skip) (.exit 0)) (.seq (.blk 1 (.seq (.r [.q 12 (.idxA 14 3 true (.t 9) (.t 10)),.q 4 (.alloc [.i .u16 0,.nilf,.nilf]),.u (.store 3 (.t 4) (.t 12))]) (.seq (.r [.f 13 0 4,.d 14 13,.n 15 0,.b 16 .eql 14 15]) (.cond (.t 16) (.seq (.r [.v 17 3 4,.u (.store 3 (.t 2) (.t 17))]) (.ret)) (.skip))))) (.r [.a 18 10 1,.n 10 18]))))))) (.seq (.r [.q 19 (.build [.i .u16 0,.nilf,.nilf] []),.u (.store 3 (.t 2) (.t 19))]) (.ret))
def qdn(a b:Nat):IFn:=⟨[.cell 2 3 true],.seq (.r [.q 2 (.alloc [.i .u16 0,.nilf,.nilf])]) (.seq (.seq (.r [.n 5 0,.l 6 a [.t 5]]) (.cond (.t 6) (.r [.n 7 0,.q 8 (.bin .andNot (.t 7) (.c (.i .u16 8))),.n 0 8]) (.skip))) (.cut (Qw a b)))⟩
theorem ql6{g1 g2:Nat}(ws:List (Int×Option Nat×Option Nat))(hw:ws.length=14)(h2:qc P g2 [] (.agg (ws.flatMap jx)))(b:Int)(r:Int×Option Nat×Option Nat)(hr:(ws.find? fun x=>decide (x.1=b))=some r)
  {t':Tr AV} {h':Hp} (hwk:Wk 0 t' h' (mkT [(0,.i .u16 b),(2,.ptr 0 0)]) (mkH 0 [.cells 0 true false [.i .u16 0,.nilf,.nilf]])) :
  S P 0 (Qw g1 g2) (j0 [.cell 2 3 true] fun v' h'=>Frz h' v' (.agg (jx r))) t' h':=by
 refine S.weak hwk (qA ?_);have hlen:(ws.flatMap jx).length=42:=by rw[x9 qbV,hw]
 have hcl:qy (ws.flatMap jx)=true:=ye (fun x=>by simp[jx,qy,clo,qah])
 simp only[Qw,vI,simprocAttr];simp (decide:=true) only [↓vS,vT,simprocAttr];refine h2.sc ?_;simp (decide:=true) only [↓vS,vT,simprocAttr];refine SL.loop (α:=Nat) (fun j=>[(0,.i .u16 b),(2,.ptr 0 0),(9,.agg (ws.flatMap jx)),(10,.i .i64 (j:Int))]) (fun _=>[.cells 0 true false [.i .u16 0,.nilf,.nilf]]) (fun j=>j<=14∧((ws.drop j).find? fun x=>decide (x.1=b))=some r) (fun j=>14-j) 0 [0] ?_ ?_ ?_ rfl ?_ ?_
 ·simp[vw,qa,hcl]
 ·simp[vw]
 ·simp
 ·exact⟨Nat.zero_le _,hr⟩
 rintro j ⟨hj,hI⟩ G ih;simp only[vI,simprocAttr]
 by_cases hlt:j<14
 ·have hlt':(j:Int)<14:=by omega
  have hjl:j<ws.length:=by omega
  have hx:ws[j]?=some ws[j]:=List.getElem?_eq_getElem hjl;have hw1:IntKind.wrap .i64 ((j:Int)+1)=((j+1:Nat):Int):=by rw[qp (by omega) (by omega)];omega
  have hel:=qU (f:=jx) (m:=3) qbV hx;have hb:j*3+3<=(ws.flatMap jx).length:=by omega
  rw[List.drop_eq_getElem_cons hjl,List.find?_cons] at hI;generalize hc0:ws[j]=x at hel hI;simp only[jx] at hel;generalize hT:ws.flatMap jx=T at hel hb hlen hcl;have hf1:=qah x.2.1;have hf2:=qah x.2.2;have hok:qK [AV.i .u16 x.1,fnO x.2.1,fnO x.2.2]=true:=by obtain⟨_,o1,o2⟩:=x;cases o1<;>cases o2<;>rfl
  by_cases hxb:x.1=b
  ·have hd:decide (x.1=b)=true:=by simpa using hxb
   rw[hd] at hI;obtain rfl:x=r:=by simpa using hI
   have hok':zl (fnO x.2.1)=true∧zl (fnO x.2.2)=true:=by obtain⟨_,o1,o2⟩:=x;cases o1<;>cases o2<;>exact⟨rfl,rfl⟩
   simp (decide:=true) only [↓vS,vT,simprocAttr,hlt',hlt,hel,hb,hok,hok'.1,hok'.2,hxb];have fz:∀(h:Hp) (o:Option Nat),Frz h (fnO o) (fnO o):=fun h o=>Frz.self (qah o)
   simp[vZ,jx,hxb,fz]
  ·have hd:decide (x.1=b)=false:=by simpa using hxb
   rw[hd] at hI;simp (decide:=true) only [↓vS,vT,simprocAttr,hlt',hlt,hel,hb,hok,hxb,hw1];refine ih (j+1) ⟨hlt,hI⟩ (by omega) _ _ (Wk.mk _ _ [0] ?_ ?_ ?_ rfl)
   ·simp[vw,qa,hcl,hT]
   ·simp[vw]
   ·simp
 ·obtain rfl:j=14:=by omega
  have hd:ws.drop 14=[]:=List.drop_eq_nil_of_le (by omega);rw[hd] at hI;cases hI
theorem qsk{g1 g2:Nat}(hc:qi P f (qdn g1 g2)=true)(h1:cWX P g1)(ws:List (Int×Option Nat×Option Nat))(hw:ws.length=14)(h2:qc P g2 [] (.agg (ws.flatMap jx)))(c:Int)(r:Int×Option Nat×Option Nat)(hr:(ws.find? fun x=>decide (x.1=qau c))=some r) :
  qc P f [.i .u16 c] (.agg (jx r)):=by
 refine qc.mk hc rfl ?_;have hX:=h1 c;unfold qau at hr;simp only[qdn,vI,simprocAttr];cases hx:qT c with
 | true =>
  rw[hx] at hX hr;rw[if_pos rfl] at hr;simp (decide:=true) only [↓vS,vT,simprocAttr];refine hX.sc ?_;simp (decide:=true) only [↓vS,vT,simprocAttr];refine ql6 ws hw h2 (qaC .u16 c 8) r hr (Wk.mk _ _ [0] ?_ ?_ ?_ rfl)
  ·simp[vw]
  ·simp[vw]
  ·simp
 | false =>
  rw[hx] at hX hr;rw[if_neg (by simp)] at hr;simp (decide:=true) only [↓vS,vT,simprocAttr];refine hX.sc ?_;simp (decide:=true) only [↓vS,vT,simprocAttr];refine ql6 ws hw h2 c r hr (Wk.mk _ _ [0] ?_ ?_ ?_ rfl)
  ·simp[vw]
  ·simp[vw]
  ·simp
end Go.Kc
end
section
/- The program's machine: second numbers, jumps. Condition: the functions' texts are these. -/
namespace Go.Kc
variable {P:Program} {f:Nat}
def cVm(m:Mac)(d:GData):List AV:=.i .u32 m.a :: .i .u32 m.x::(rI .u32 m.cl++(qE d++[.i .u32 m.told,.b m.over]))
theorem QV{m:Mac}{d:GData}(h:m.cl.length=16):(cVm m d).length=29:=by
 show (rI .u32 m.cl++(qE d++[AV.i .u32 m.told,AV.b m.over])).length+2=29;rw[List.length_append,zB,h];rfl
theorem qj{m:Mac}{d:GData}:qy (cVm m d)=true:=by
 show qy (rI .u32 m.cl++(qE d++[AV.i .u32 m.told,AV.b m.over]))=true;rw[zG,zg];rfl
def vd(a:Nat):IFn:=⟨[.tmp 4],.seq (.r [.q 3 (.box (.t 1)),.m 4 (.c (.i .u32 0))]) (.seq (.seq (.r [.f 5 0 3,.d 6 5,.l 7 a [.t 6]]) (.cond (.t 7) (.seq (.r [.n 8 0,.q 9 (.nilChk (.t 8)),.f 10 1 9,.d 11 10,.n 4 11]) (.ret)) (.skip))) (.seq (.r [.f 12 3 3,.d 13 12,.n 4 13]) (.ret)))⟩
theorem qmy{g:Nat}(hc:qi P f (vd g)=true)(hg:cWX P g)(m:Mac)(d:GData)(hl:m.cl.length=16)(i:Ins):Rd P f [.ptr 0 0,.agg (qn i)] [.cells 0 true false (cVm m d)] (.i .u32 (qZ m i)):=by
 refine Rd.mk hc (by simp[xu,bnd,qn]) rfl ?_;have hX:=hg i.code;have g1:(cVm m d)[1]?=some (.i .u32 m.x):=rfl;unfold qZ;simp only[vd,qn,vI,simprocAttr];cases hx:qT i.code with
 | true =>
  rw[hx] at hX;simp (decide:=true) only [↓vS,vT,simprocAttr];refine hX.sc ?_;simp (decide:=true) only [↓vS,vT,simprocAttr,g1]
 | false =>
  rw[hx] at hX;simp (decide:=true) only [↓vS,vT,simprocAttr];refine hX.sc ?_;simp (decide:=true) only [↓vS,vT,simprocAttr]
def qqZ(P:Program)(g:Nat):Prop:=∀(m:Mac) (d:GData),m.cl.length=16->∀i:Ins,Rd P g [.ptr 0 0,.agg (qn i)] [.cells 0 true false (cVm m d)] (.i .u32 (qZ m i))
def qqP(P:Program)(g:Nat):Prop:=∀c:Int,c4L.contains c=true->c≠5->∃(b:Int) (o:Option Nat) (k:Nat),qc P g [.i .u16 c] (.agg (jx (b,o,some k)))∧∀x y:Int,qc P k [.i .u32 x,.i .u32 y] (.b (jL (ql c) x y))
def kh(a b:Nat):IFn:=⟨[.tmp 4],.seq (.r [.q 3 (.box (.t 1)),.m 4 (.k 0)]) (.seq (.blk 0 (.seq (.r [.f 6 0 3,.d 7 6,.q 8 (.bin .eql (.t 7) (.c (.i .u16 5))),.n 5 8]) (.cond (.t 5) (.seq (.r [.f 9 3 3,.d 10 9,.q 11 (.cvInt .i64 (.t 10)),.n 4 11]) (.ret)) (.seq (.reg true [.f 13 0 3,.d 14 13,.l 15 a [.t 14],.q 16 (.fld 2 none (.t 15)),.n 17 0,.q 18 (.nilChk (.t 17)),.f 19 0 18,.d 20 19,.n 21 0,.v 22 4 3,.l 23 b [.t 21,.t 22],⟨(some 24),.callV (.t 16) [.t 20,.t 23],none⟩,.n 12 24]) (.cond (.t 12) (.seq (.r [.f 25 1 3,.d 26 25,.q 27 (.cvInt .i64 (.t 26)),.n 4 27]) (.ret)) (.skip)))))) (.seq (.r [.f 28 2 3,.d 29 28,.q 30 (.cvInt .i64 (.t 29)),.n 4 30]) (.ret)))⟩
set_option maxHeartbeats 2000000 in
theorem qtL{g1 g2:Nat}(hc:qi P f (kh g1 g2)=true)(h1:qqP P g1)(h2:qqZ P g2)(m:Mac)(d:GData)(hl:m.cl.length=16)(i:Ins)(hi:InsOk i)(hcls:qg i.code=4) :
  Upd P f [.ptr 0 0,.agg (qn i)] [.cells 0 true false (cVm m d)] (.i .i64 (QF m i)) [.cells 0 true false (cVm m d)]:=by
 refine Upd.mk hc (by simp[xu,bnd,qn]) (by simp) ?_;have g0:(cVm m d)[0]?=some (.i .u32 m.a):=rfl;have wk:IntKind.wrap .i64 i.k=i.k:=by have:=hi.k0;have:=hi.k1;exact qp (by omega) (by omega)
 have wt:IntKind.wrap .i64 i.jt=i.jt:=by have:=hi.t0;have:=hi.t1;exact qp (by omega) (by omega)
 have wf:IntKind.wrap .i64 i.jf=i.jf:=by have:=hi.f0;have:=hi.f1;exact qp (by omega) (by omega)
 have hmem:c4L.contains i.code=true:=by
  unfold qg at hcls;cases hcm:qw i.code with
  | none=>rw[hcm] at hcls;cases hcls
  | some x =>
   rw[hcm] at hcls;obtain⟨q1,q2⟩:=xy hcm;rw[← q2];exact qji x q1 hcls
 have hsec:=h2 m d hl i;unfold QF;simp only[kh,qn,vI,simprocAttr] at hsec ⊢
 by_cases c5:i.code=5
 ·simp (decide:=true) only [↓vS,vT,simprocAttr,c5,wk];intro _;refine⟨[0],?_⟩;simp[vw,qa,qj]
 obtain⟨b,o,k,hby,hho⟩:=h1 i.code hmem c5;simp only[jx] at hby;rw[if_neg c5];simp (decide:=true) only [↓vS,vT,simprocAttr,c5];refine zm ?_;simp (decide:=true) only [↓vS,vT,simprocAttr];refine hby.pc ?_;simp (decide:=true) only [↓vS,vT,simprocAttr,fnO,g0];refine hsec.pc (vs:=[.ptr 0 0,.agg [.i .u16 i.code,.i .u8 i.jt,.i .u8 i.jf,.i .u32 i.k]]) [0] (Lent.of (by decide) ?_) ?_
 ·simp[vL,vw,za qj,qz qj]
 simp (decide:=true) only [↓vS,vT,simprocAttr];refine (hho m.a (qZ m i)).pc ?_;simp only[Hp.up,Hp.down];cases hh:jL (ql i.code) m.a (qZ m i) with
 | true =>
  simp (decide:=true) only [↓vS,vT,simprocAttr,wt];intro _;refine⟨[0],?_⟩;simp[vw,qa,qj]
 | false =>
  simp (decide:=true) only [↓vS,vT,simprocAttr,wf];intro _;refine⟨[0],?_⟩;simp[vw,qa,qj]
end Go.Kc
end
section
/- The program's machine: numbers. Condition: the functions' texts are these. -/
namespace Go.Kc
variable {P:Program} {f:Nat}
theorem qcW{m:Mac}{d:GData}(h:m.cl.length=16)(v:Bool):List.take 28 (cVm m d)++(AV.b v::List.drop 29 (cVm m d))=cVm { m with over:=v } d:=by
 have e:List.take 26 (rI .u32 m.cl++(qE d++[AV.i .u32 m.told,AV.b m.over]))++(AV.b v::List.drop 27 (rI .u32 m.cl++(qE d++[AV.i .u32 m.told,AV.b m.over])))=rI .u32 m.cl++(qE d++[AV.i .u32 m.told,AV.b v]):=by
  have hl:(rI .u32 m.cl).length=16:=by rw[zB,h]
  rw[List.take_append,hl,List.take_of_length_le (by rw[hl];decide),List.drop_eq_nil_of_le (by rw[List.length_append,hl];exact Nat.le_refl 27),List.append_assoc];rfl
 show AV.i .u32 m.a::AV.i .u32 m.x::(List.take 26 (rI .u32 m.cl++(qE d++[AV.i .u32 m.told,AV.b m.over]))++(AV.b v::List.drop 27 (rI .u32 m.cl++(qE d++[AV.i .u32 m.told,AV.b m.over]))))=_;rw[e];rfl
def qlF(c a b:Int):Int:=if c=52 then a / b else if c=100∨c=116 then jw (decide (c=100)) (b % 32).toNat a else opM c a b
def qqQ(P:Program)(g:Nat):Prop:=∀c:Int,c3L.contains c=true->∃(b:Int) (k:Nat) (o:Option Nat),qc P g [.i .u16 c] (.agg (jx (b,some k,o)))∧∀x y:Int,u32 x->u32 y->(ql c=52->0<y)->qc P k [.i .u32 x,.i .u32 y] (.i .u32 (qlF (ql c) x y))
theorem qeD:∀c:Int,c3L.contains c=true->(ql c=52↔c=52∨c=60)∧(ql c=100↔c=100∨c=108)∧(ql c=116↔c=116∨c=124)∧(qT c=true↔c≠132∧8<=c % 16):=by
 intro c h;have key:∀c ∈ c3L,(ql c=52↔c=52∨c=60)∧(ql c=100↔c=100∨c=108)∧(ql c=116↔c=116∨c=124)∧(qT c=true↔c≠132∧8<=c % 16):=by decide
 exact key c (by simpa using h)
def vc(a b c:Nat):IFn:=⟨[],.seq (.r [.q 3 (.box (.t 1))]) (.seq (.r [.n 5 0,.v 6 4 3,.l 7 a [.t 5,.t 6],.n 4 7]) (.blk 0 (.seq (.r [.f 22 0 3,.d 23 22,.q 24 (.bin .eql (.t 23) (.c (.i .u16 52))),.n 25 24,.y 26 4 25,.g 27 (.bin .eql (.t 26) (.c (.i .u32 0))) 25 true,.p 28 25 27,.n 21 28]) (.cond (.t 21) (.r [.l 29 b [.k 44]]) (.seq (.r [.f 31 0 3,.d 32 31,.q 33 (.bin .eql (.t 32) (.c (.i .u16 60))),.n 34 33,.y 35 4 34,.g 36 (.bin .eql (.t 35) (.c (.i .u32 0))) 34 true,.p 37 34 36,.n 30 37]) (.cond (.t 30) (.r [.n 38 0,.q 39 (.nilChk (.t 38)),.f 40 28 39,.u (.store 1 (.t 40) .T)]) (.seq (.r [.f 42 0 3,.d 43 42,.q 44 (.bin .eql (.t 43) (.c (.i .u16 100))),.n 45 44,.h 46 0 3 45 false,.j 47 46 45 false,.g 48 (.bin .eql (.t 47) (.c (.i .u16 116))) 45 false,.o 49 45 48,.n 50 49,.y 51 4 50,.g 52 (.bin .gtr (.t 51) (.c (.i .u32 31))) 50 true,.p 53 50 52,.n 41 53]) (.cond (.t 41) (.r [.l 54 b [.k 45]]) (.reg true [.n 8 0,.f 9 0 3,.d 10 9,.l 11 c [.t 10],.q 12 (.fld 1 none (.t 11)),.n 13 0,.q 14 (.nilChk (.t 13)),.f 15 0 14,.d 16 15,.n 17 4,⟨(some 18),.callV (.t 12) [.t 16,.t 17],none⟩,.q 19 (.nilChk (.t 8)),.f 20 0 19,.u (.store 1 (.t 20) (.t 18))])))))))))⟩
set_option maxHeartbeats 4000000 in
theorem qsd{g1 g2 g3:Nat}(hc:qi P f (vc g1 g2 g3)=true)(h1:qqZ P g1)(h3:qqQ P g3)(m:Mac)(hm:MacOk m)(d:GData)(i:Ins)(hi:InsOk i)(hcls:qg i.code=3)(hz:(nuM m i).2=0) :
  Upd P f [.ptr 0 0,.agg (qn i)] [.cells 0 true false (cVm m d)] (.tup []) [.cells 0 true false (cVm (nuM m i).1 d)]:=by
 refine Upd.mk hc (by simp[xu,bnd,qn]) (by simp) ?_;have hl:=QV (d:=d) hm.len;have g0:(cVm m d)[0]?=some (.i .u32 m.a):=rfl;have s0:∀v:Int,AV.i .u32 v::List.drop 1 (cVm m d)=cVm { m with a:=v } d:=fun _=>rfl
 have so:=qcW (d:=d) hm.len true
 have hmem:c3L.contains i.code=true:=by
  unfold qg at hcls;cases hcm:qw i.code with
  | none=>rw[hcm] at hcls;cases hcls
  | some x =>
   rw[hcm] at hcls;obtain⟨q1,q2⟩:=xy hcm;rw[← q2];exact qet x q1 hcls
 obtain⟨e52,e100,e116,eX⟩:=qeD i.code hmem
 have hB:u32 (qZ m i):=by
  unfold qZ;split
  ·exact hm.x
  ·exact⟨hi.k0,hi.k1⟩
 obtain⟨b,k,o,hby,hres⟩:=h3 i.code hmem;have hsec:=h1 m d hm.len i;have hr:=hres m.a (qZ m i) hm.a hB;have hb0:=hB.1;unfold nuM at hz ⊢;simp only[jx] at hby;simp only[vc,qn,vI,simprocAttr] at hsec ⊢;generalize qZ m i=y at hz hsec hr hb0 ⊢;simp (decide:=true) only [↓vS,vT,simprocAttr];refine hsec.sc (vs:=[.ptr 0 0,.agg [.i .u16 i.code,.i .u8 i.jt,.i .u8 i.jf,.i .u32 i.k]]) [0] (Lent.of (by decide) ?_) ?_
 ·simp[vL,vw,za qj,qz qj]
 by_cases c60:i.code=60∧y=0
 ·have b52:=e52.2 (.inr c60.1);have hX:qT i.code=true:=eX.2 (by rw[c60.1];decide);rw[if_pos b52,if_neg (by omega),if_pos hX];simp (decide:=true) only [↓vS,vT,simprocAttr,c60.1,c60.2,hl,so];intro _;refine⟨[0],?_⟩;simp[vw,qa,qj]
 have h52:i.code=52->y≠0:=fun hc52 h0=>by
  have b52:=e52.2 (.inl hc52);have hX:¬qT i.code=true:=fun h=>by have:=(eX.1 h).2;rw[hc52] at this;omega
  rw[if_pos b52,if_neg (by omega),if_neg hX] at hz;cases hz
 have h60:i.code=60->y≠0:=fun hc60 h0=>c60 ⟨hc60,h0⟩
 have hsh:(i.code=100∨i.code=116)->y<=31:=fun hs=>by
  have hX:qT i.code=false:=by
   cases h:qT i.code with
   | false=>rfl
   | true =>
    have:=(eX.1 h).2;rcases hs with hs|hs<;>(rw[hs] at this;omega)
  have hb:ql i.code=100∨ql i.code=116:=hs.elim (fun h=>.inl (e100.2 (.inl h))) (fun h=>.inr (e116.2 (.inl h)))
  have hn:¬ql i.code=52:=by rcases hb with hb|hb<;>(rw[hb];decide)
  rw[if_neg hn,if_pos hb] at hz
  by_cases h31:31<y
  ·rw[if_pos ⟨hX,h31⟩] at hz;cases hz
  ·omega
 have hnu:(if ql i.code=52 then (if 0<y then (({ m with a:=m.a / y }:Mac),(0:Int)) else if qT i.code=true then ({ m with over:=true },0) else (m,44)) else if ql i.code=100∨ql i.code=116 then (if qT i.code=false∧31<y then (m,45) else ({ m with a:=jw (decide (ql i.code=100)) (y % 32).toNat m.a },0)) else ({ m with a:=opM (ql i.code) m.a y },0)).1={ m with a:=qlF (ql i.code) m.a y }:=by
  unfold qlF
  by_cases b52:ql i.code=52
  ·have hy:0<y:=by
    rcases e52.1 b52 with h|h
    ·have:=h52 h;omega
    ·have:=h60 h;omega
   rw[if_pos b52,if_pos hy,if_pos b52]
  ·rw[if_neg b52,if_neg b52]
   by_cases bs:ql i.code=100∨ql i.code=116
   ·rw[if_pos bs,if_pos bs,if_neg];rintro⟨hX,h31⟩
    have hc:i.code=100∨i.code=116:=by
     rcases bs with bs|bs
     ·rcases e100.1 bs with h|h
      ·exact .inl h
      ·have:qT i.code=true:=eX.2 (by rw[h];decide);rw[hX] at this;cases this
     ·rcases e116.1 bs with h|h
      ·exact .inr h
      ·have:qT i.code=true:=eX.2 (by rw[h];decide);rw[hX] at this;cases this
    have:=hsh hc;omega
   ·rw[if_neg bs,if_neg bs]
 rw[hnu]
 have hr:=hr fun b52=>by
  rcases e52.1 b52 with h|h
  ·have:=h52 h;omega
  ·have:=h60 h;omega
 generalize qlF (ql i.code) m.a y=R at hr ⊢;clear hz hnu hres
 by_cases d52:i.code=52
 ·have hy0:=h52 d52;simp (decide:=true) only [↓vS,vT,simprocAttr,d52,hy0];refine zm ?_;simp (decide:=true) only [↓vS,vT,simprocAttr];refine hby.pc ?_;simp (decide:=true) only [↓vS,vT,simprocAttr,fnO,g0];refine hr.pc ?_;simp only[Hp.up,Hp.down];simp (decide:=true) only [↓vS,vT,simprocAttr,hl,s0];intro _;refine⟨[0],?_⟩;simp[vw,qa,qj]
 by_cases d60:i.code=60
 ·have hy0:=h60 d60;simp (decide:=true) only [↓vS,vT,simprocAttr,d60,hy0];refine zm ?_;simp (decide:=true) only [↓vS,vT,simprocAttr];refine hby.pc ?_;simp (decide:=true) only [↓vS,vT,simprocAttr,fnO,g0];refine hr.pc ?_;simp only[Hp.up,Hp.down];simp (decide:=true) only [↓vS,vT,simprocAttr,hl,s0];intro _;refine⟨[0],?_⟩;simp[vw,qa,qj]
 by_cases d100:i.code=100
 ·have hy1:=hsh (.inl d100);have hy0:¬31<y:=by omega
  simp (decide:=true) only [↓vS,vT,simprocAttr,d100,hy0];refine zm ?_;simp (decide:=true) only [↓vS,vT,simprocAttr];refine hby.pc ?_;simp (decide:=true) only [↓vS,vT,simprocAttr,fnO,g0];refine hr.pc ?_;simp only[Hp.up,Hp.down];simp (decide:=true) only [↓vS,vT,simprocAttr,hl,s0];intro _;refine⟨[0],?_⟩;simp[vw,qa,qj]
 by_cases d116:i.code=116
 ·have hy1:=hsh (.inr d116);have hy0:¬31<y:=by omega
  simp (decide:=true) only [↓vS,vT,simprocAttr,d116,hy0];refine zm ?_;simp (decide:=true) only [↓vS,vT,simprocAttr];refine hby.pc ?_;simp (decide:=true) only [↓vS,vT,simprocAttr,fnO,g0];refine hr.pc ?_;simp only[Hp.up,Hp.down];simp (decide:=true) only [↓vS,vT,simprocAttr,hl,s0];intro _;refine⟨[0],?_⟩;simp[vw,qa,qj]
 simp (decide:=true) only [↓vS,vT,simprocAttr,d52,d60,d100,d116];refine zm ?_;simp (decide:=true) only [↓vS,vT,simprocAttr];refine hby.pc ?_;simp (decide:=true) only [↓vS,vT,simprocAttr,fnO,g0];refine hr.pc ?_;simp only[Hp.up,Hp.down];simp (decide:=true) only [↓vS,vT,simprocAttr,hl,s0];intro _;refine⟨[0],?_⟩;simp[vw,qa,qj]
end Go.Kc
end
section
/- The program's machine: what a code does of two numbers. Condition: the functions' texts are these. -/
namespace Go.Kc
variable {P:Program} {f:Nat}
structure Prs (P:Program) (g:Nat->Nat):Prop where
 p1:∀a b:Int,qc P (g 1) [.i .u32 a,.i .u32 b] (.i .u32 (opM 4 a b))
 p2:∀a b:Int,qc P (g 2) [.i .u32 a,.i .u32 b] (.i .u32 (opM 20 a b))
 p3:∀a b:Int,qc P (g 3) [.i .u32 a,.i .u32 b] (.i .u32 (opM 36 a b))
 p4:∀a b:Int,0<=a->a<=4294967295->0<b->qc P (g 4) [.i .u32 a,.i .u32 b] (.i .u32 (a / b))
 p5:∀a b:Int,qc P (g 5) [.i .u32 a,.i .u32 b] (.i .u32 (opM 68 a b))
 p6:∀a b:Int,qc P (g 6) [.i .u32 a,.i .u32 b] (.i .u32 (opM 84 a b))
 p7:∀a b:Int,0<=a->a<=4294967295->0<=b->qc P (g 7) [.i .u32 a,.i .u32 b] (.i .u32 (jw true (b % 32).toNat a))
 p8:∀a b:Int,0<=a->a<=4294967295->0<=b->qc P (g 8) [.i .u32 a,.i .u32 b] (.i .u32 (jw false (b % 32).toNat a))
 p9:∀a b:Int,qc P (g 9) [.i .u32 a,.i .u32 b] (.i .u32 (opM 164 a b))
 p10:∀a b:Int,qc P (g 10) [.i .u32 a,.i .u32 b] (.i .u32 (opM 132 a b))
 p11:∀a b:Int,qc P (g 11) [.i .u32 a,.i .u32 b] (.b (jL 21 a b))
 p12:∀a b:Int,qc P (g 12) [.i .u32 a,.i .u32 b] (.b (jL 37 a b))
 p13:∀a b:Int,qc P (g 13) [.i .u32 a,.i .u32 b] (.b (jL 53 a b))
 p14:∀a b:Int,qc P (g 14) [.i .u32 a,.i .u32 b] (.b (jL 69 a b))
def qrU(g:Nat->Nat):List (Int×Option Nat×Option Nat):=qo2 (g 1) (g 2) (g 3) (g 4) (g 5) (g 6) (g 7) (g 8) (g 9) (g 10) (g 11) (g 12) (g 13) (g 14)
theorem qcO:∀c:Int,c3L.contains c=true∨(c4L.contains c=true∧c≠5)->qau c=ql c:=by
 have k3:∀c ∈ c3L,qau c=ql c:=by decide
 have k4:∀c ∈ c4L,c≠5->qau c=ql c:=by decide
 rintro c (h|h)
 ·exact k3 c (by simpa using h)
 ·exact k4 c (by simpa using h.1) h.2
theorem qm7:∀c:Int,c3L.contains c=true->ql c=4∨ql c=20∨ql c=36∨ql c=52∨ql c=68∨ql c=84∨ql c=100∨ql c=116∨ql c=164∨ql c=132:=by
 have k:∀c ∈ c3L,ql c=4∨ql c=20∨ql c=36∨ql c=52∨ql c=68∨ql c=84∨ql c=100∨ql c=116∨ql c=164∨ql c=132:=by decide
 exact fun c h=>k c (by simpa using h)
theorem qm8:∀c:Int,c4L.contains c=true->c≠5->ql c=21∨ql c=37∨ql c=53∨ql c=69:=by
 have k:∀c ∈ c4L,c≠5->ql c=21∨ql c=37∨ql c=53∨ql c=69:=by decide
 exact fun c h=>k c (by simpa using h)
theorem byN{g:Nat->Nat}(hp:Prs P g)(hb:∀(c:Int) (r:Int×Option Nat×Option Nat),((qrU g).find? fun x=>decide (x.1=qau c))=some r->qc P f [.i .u16 c] (.agg (jx r))):qqQ P f:=by
 intro c hc;have hbv:=qcO c (.inl hc);have hb:=hb c;rw[hbv] at hb;have n1:∀{x y:Int},u32 x->u32 y->0<=x∧x<=4294967295∧0<=y:=fun h h'=>⟨h.1,h.2,h'.1⟩
 rcases qm7 c hc with e|e|e|e|e|e|e|e|e|e<;>rw[e] at hb ⊢
 ·exact⟨4,g 1,none,hb _ rfl,fun x y _ _ _=>hp.p1 x y⟩
 ·exact⟨20,g 2,none,hb _ rfl,fun x y _ _ _=>hp.p2 x y⟩
 ·exact⟨36,g 3,none,hb _ rfl,fun x y _ _ _=>hp.p3 x y⟩
 ·exact⟨52,g 4,none,hb _ rfl,fun x y hx _ h0=>hp.p4 x y hx.1 hx.2 (h0 rfl)⟩
 ·exact⟨68,g 5,none,hb _ rfl,fun x y _ _ _=>hp.p5 x y⟩
 ·exact⟨84,g 6,none,hb _ rfl,fun x y _ _ _=>hp.p6 x y⟩
 ·exact⟨100,g 7,none,hb _ rfl,fun x y hx hy _=>hp.p7 x y hx.1 hx.2 hy.1⟩
 ·exact⟨116,g 8,none,hb _ rfl,fun x y hx hy _=>hp.p8 x y hx.1 hx.2 hy.1⟩
 ·exact⟨164,g 9,none,hb _ rfl,fun x y _ _ _=>hp.p9 x y⟩
 ·exact⟨132,g 10,none,hb _ rfl,fun x y _ _ _=>hp.p10 x y⟩
theorem byJ{g:Nat->Nat}(hp:Prs P g)(hb:∀(c:Int) (r:Int×Option Nat×Option Nat),((qrU g).find? fun x=>decide (x.1=qau c))=some r->qc P f [.i .u16 c] (.agg (jx r))):qqP P f:=by
 intro c hc c5;have hbv:=qcO c (.inr ⟨hc,c5⟩);have hb:=hb c;rw[hbv] at hb;rcases qm8 c hc c5 with e|e|e|e<;>rw[e] at hb ⊢
 ·exact⟨21,none,g 11,hb _ rfl,hp.p11⟩
 ·exact⟨37,none,g 12,hb _ rfl,hp.p12⟩
 ·exact⟨53,none,g 13,hb _ rfl,hp.p13⟩
 ·exact⟨69,none,g 14,hb _ rfl,hp.p14⟩
end Go.Kc
end
section
/- The program's machine: loads. Condition: the functions' texts are these. -/
namespace Go.Kc
variable {P:Program} {f:Nat}
theorem qcV{m:Mac}{d:GData}{k:Nat}{c:Int}(h:m.cl[k]?=some c):(cVm m d)[2+k]?=some (.i .u32 c):=by
 rw[show 2+k=k+2 from by omega]
 show (rI .u32 m.cl++(qE d++[AV.i .u32 m.told,AV.b m.over]))[k]?=_;rw[List.getElem?_append_left (by rw[zB];exact (List.getElem?_eq_some_iff.1 h).1),X0,h];rfl
theorem qhj{m:Mac}{d:GData}(h:m.cl.length=16):List.take 9 (List.drop 18 (cVm m d))=qE d:=by
 show List.take 9 (List.drop 16 (rI .u32 m.cl++(qE d++[AV.i .u32 m.told,AV.b m.over])))=_;have hl:(rI .u32 m.cl).length=16:=by rw[zB,h]
 rw[List.drop_append,hl,List.drop_eq_nil_of_le (by rw[hl];exact Nat.le_refl _)];rfl
def kg(a:Nat):IFn:=⟨[.tmp 4],.seq (.r [.m 4 (.c (.nilp))]) (.seq (.seq (.r [.n 5 1,.q 6 (.bin .geq (.t 5) (.c (.i .u32 16)))]) (.cond (.t 6) (.r [.l 7 a [.k 43]]) (.skip))) (.seq (.r [.n 8 0,.n 9 1,.q 10 (.nilChk (.t 8)),.f 11 2 10,.q 12 (.iAddrA 16 1 (.t 11) (.t 9)),.n 4 12]) (.ret)))⟩
theorem qtK{g:Nat}(hc:qi P f (kg g)=true)(m:Mac)(d:GData)(n:Nat)(hn:n<16):Upd P f [.ptr 0 0,.i .u32 (n:Int)] [.cells 0 true false (cVm m d)] (.ptr 0 (2+n)) [.cells 0 true false (cVm m d)]:=by
 refine Upd.mk hc (by simp[xu,bnd]) (by simp) ?_;have hn':¬(16:Int)<=(n:Int):=by omega
 simp only[kg,vI,simprocAttr];simp (decide:=true) only [↓vS,vT,simprocAttr,hn',hn,Nat.mul_one];intro _;refine⟨[0],?_⟩;simp[vw,qa,qj]
def qhf(P:Program)(g:Nat):Prop:=∀(m:Mac) (d:GData) (n:Nat),n<16->Upd P g [.ptr 0 0,.i .u32 (n:Int)] [.cells 0 true false (cVm m d)] (.ptr 0 (2+n)) [.cells 0 true false (cVm m d)]
def c1L:List Int:=[32,128,0,96,129,1,97]
theorem qpw:∀x ∈ xF,x.2.2=1->c1L.contains x.1=true:=by decide
def ki(a b c:Nat):IFn:=⟨[],.seq (.r [.q 3 (.box (.t 1))]) (.seq (.r [.f 6 0 3,.d 7 6]) (.blk 0 (.seq (.r [.q 9 (.bin .eql (.t 7) (.c (.i .u16 32))),.n 8 9]) (.cond (.t 8) (.seq (.reg true [.n 11 0,.q 12 (.nilChk (.t 11)),.f 13 18 12,.v 14 9 13,.f 15 3 3,.d 16 15,.l 17 a [.t 14,.t 16],.n 10 17,.x 18 10 0,.x 19 10 1,.n 4 18,.n 5 19]) (.seq (.seq (.r [.n 20 5,.w 21 .neq 20 0]) (.cond (.t 21) (.r [.n 22 5,.l 23 b [.t 22]]) (.skip))) (.r [.n 24 0,.n 25 4,.q 26 (.nilChk (.t 24)),.f 27 0 26,.u (.store 1 (.t 27) (.t 25))]))) (.seq (.r [.q 29 (.bin .eql (.t 7) (.c (.i .u16 128))),.n 28 29]) (.cond (.t 28) (.r [.n 30 0,.q 31 (.nilChk (.t 30)),.f 32 0 31,.u (.store 1 (.t 32) (.c (.i .u32 64)))]) (.seq (.r [.q 34 (.bin .eql (.t 7) (.c (.i .u16 129))),.n 33 34]) (.cond (.t 33) (.r [.n 35 0,.q 36 (.nilChk (.t 35)),.f 37 1 36,.u (.store 1 (.t 37) (.c (.i .u32 64)))]) (.seq (.r [.q 39 (.bin .eql (.t 7) (.c (.i .u16 0))),.n 38 39]) (.cond (.t 38) (.r [.n 40 0,.f 41 3 3,.d 42 41,.q 43 (.nilChk (.t 40)),.f 44 0 43,.u (.store 1 (.t 44) (.t 42))]) (.seq (.r [.q 46 (.bin .eql (.t 7) (.c (.i .u16 1))),.n 45 46]) (.cond (.t 45) (.r [.n 47 0,.f 48 3 3,.d 49 48,.q 50 (.nilChk (.t 47)),.f 51 1 50,.u (.store 1 (.t 51) (.t 49))]) (.seq (.r [.q 53 (.bin .eql (.t 7) (.c (.i .u16 96))),.n 52 53]) (.cond (.t 52) (.r [.n 54 0,.n 55 0,.f 56 3 3,.d 57 56,.l 58 c [.t 55,.t 57],.q 59 (.nilChk (.t 58)),.d 60 59,.q 61 (.nilChk (.t 54)),.f 62 0 61,.u (.store 1 (.t 62) (.t 60))]) (.seq (.r [.q 64 (.bin .eql (.t 7) (.c (.i .u16 97))),.n 63 64]) (.cond (.t 63) (.r [.n 65 0,.n 66 0,.f 67 3 3,.d 68 67,.l 69 c [.t 66,.t 68],.q 70 (.nilChk (.t 69)),.d 71 70,.q 72 (.nilChk (.t 65)),.f 73 1 72,.u (.store 1 (.t 73) (.t 71))]) (.skip)))))))))))))))))⟩
set_option maxHeartbeats 4000000 in
theorem qtM{g1 g2 g3:Nat}(hc:qi P f (ki g1 g2 g3)=true)(h1:qhn P g1)(h3:qhf P g3)(m:Mac)(hm:MacOk m)(d:GData)(hd:DatOk d)(i:Ins)(hi:InsOk i)(hcls:qg i.code=1)(hz:(wH m i d).2=0) :
  Upd P f [.ptr 0 0,.agg (qn i)] [.cells 0 true false (cVm m d)] (.tup []) [.cells 0 true false (cVm (wH m i d).1 d)]:=by
 refine Upd.mk hc (by simp[xu,bnd,qn]) (by simp) ?_;have hl:=QV (d:=d) hm.len;have g0:(cVm m d)[0]?=some (.i .u32 m.a):=rfl;have s0:∀v:Int,AV.i .u32 v::List.drop 1 (cVm m d)=cVm { m with a:=v } d:=fun _=>rfl
 have s1:∀v:Int,List.take 1 (cVm m d)++(AV.i .u32 v::List.drop 2 (cVm m d))=cVm { m with x:=v } d:=fun _=>rfl
 have hdt:=qhj (d:=d) hm.len
 have hmem:c1L.contains i.code=true:=by
  unfold qg at hcls;cases hcm:qw i.code with
  | none=>rw[hcm] at hcls;cases hcls
  | some x =>
   rw[hcm] at hcls;obtain⟨q1,q2⟩:=xy hcm;rw[← q2];exact qpw x q1 hcls
 simp only[c1L,List.contains_iff_mem,List.mem_cons,List.not_mem_nil,or_false] at hmem;have hw:=h1 d hd i.k hi.k0 hi.k1;unfold qbr at hw;unfold wH QE at hz ⊢;have k0:=hi.k0;simp only[ki,qn,vI,simprocAttr];rcases hmem with e|e|e|e|e|e|e
 ·by_cases hb:i.k % 4≠0∨64<=i.k
  ·simp[e,hb] at hz
  ·rw[if_neg hb] at hw;simp (decide:=true) only [↓vS,vT,simprocAttr,e];refine zm ?_;simp (decide:=true) only [↓vS,vT,simprocAttr,hl,hdt];refine hw.pc ?_;simp (decide:=true) only [↓vS,vT,simprocAttr,hl,s0];intro _;refine⟨[0],?_⟩;simp only[e,if_neg hb];simp[vw,qa,qj]
 ·simp (decide:=true) only [↓vS,vT,simprocAttr,e,hl,s0];intro _;refine⟨[0],?_⟩;simp[vw,qa,qj,e]
 ·simp (decide:=true) only [↓vS,vT,simprocAttr,e,hl,s0];intro _;refine⟨[0],?_⟩;simp[vw,qa,qj,e]
 rotate_left
 ·simp (decide:=true) only [↓vS,vT,simprocAttr,e,hl,s1];intro _;refine⟨[0],?_⟩;simp[vw,qa,qj,e]
 ·simp (decide:=true) only [↓vS,vT,simprocAttr,e,hl,s1];intro _;refine⟨[0],?_⟩;simp[vw,qa,qj,e]
 ·have hb:¬15<i.k:=by
   intro h;simp[e,h] at hz
  obtain⟨n,hn⟩:∃n:Nat,i.k=(n:Int):=⟨i.k.toNat,by omega⟩
  have hk16:n<16:=by omega
  obtain⟨c,hcx⟩:∃c,m.cl[n]?=some c:=⟨_,List.getElem?_eq_getElem (by rw[hm.len];exact hk16)⟩;have gc:=qcV (m:=m) (d:=d) hcx;have htn:i.k.toNat=n:=by omega
  simp (decide:=true) only [↓vS,vT,simprocAttr,e,hn];refine (h3 m d n hk16).sc (vs:=[.ptr 0 0,.i .u32 (n:Int)]) [0] (Lent.of (by decide) ?_) ?_
  ·simp[vL,vw,za qj,qz qj]
  simp only[vK,simprocAttr,qz qj];simp (decide:=true) only [↓vS,vT,simprocAttr,gc,hl,s1];intro _;refine⟨[0],?_⟩;have hb':¬(15:Int)<(n:Int):=by omega
  simp[vw,qa,qj,e,hn,hb',hcx]
 ·have hb:¬15<i.k:=by
   intro h;simp[e,h] at hz
  obtain⟨n,hn⟩:∃n:Nat,i.k=(n:Int):=⟨i.k.toNat,by omega⟩
  have hk16:n<16:=by omega
  obtain⟨c,hcx⟩:∃c,m.cl[n]?=some c:=⟨_,List.getElem?_eq_getElem (by rw[hm.len];exact hk16)⟩;have gc:=qcV (m:=m) (d:=d) hcx;have htn:i.k.toNat=n:=by omega
  simp (decide:=true) only [↓vS,vT,simprocAttr,e,hn];refine (h3 m d n hk16).sc (vs:=[.ptr 0 0,.i .u32 (n:Int)]) [0] (Lent.of (by decide) ?_) ?_
  ·simp[vL,vw,za qj,qz qj]
  simp only[vK,simprocAttr,qz qj];simp (decide:=true) only [↓vS,vT,simprocAttr,gc,hl,s0];intro _;refine⟨[0],?_⟩;have hb':¬(15:Int)<(n:Int):=by omega
  simp[vw,qa,qj,e,hn,hb',hcx]
end Go.Kc
end
section
/- The program's machine: an instruction. Condition: the functions' texts are these. -/
namespace Go.Kc
variable {P:Program} {f:Nat}
theorem qhl{m:Mac}{d:GData}{k:Nat}(h:k<m.cl.length)(v:Int):List.take (2+k) (cVm m d)++(AV.i .u32 v::List.drop (2+k+1) (cVm m d))=cVm { m with cl:=m.cl.set k v } d:=by
 obtain⟨R,hR⟩:∃R,R=qE d++[AV.i .u32 m.told,AV.b m.over]:=⟨_,rfl⟩
 have e:List.take k (rI .u32 m.cl++R)++(AV.i .u32 v::List.drop (k+1) (rI .u32 m.cl++R))=rI .u32 (m.cl.set k v)++R:=by
  rw[List.take_append_of_le_length (by rw[zB];omega),List.drop_append_of_le_length (by rw[zB];omega),← ZT h v,List.append_assoc];rfl
 rw[show 2+k=k+2 from by omega]
 subst hR;show AV.i .u32 m.a::AV.i .u32 m.x::(List.take k (rI .u32 m.cl++(qE d++[AV.i .u32 m.told,AV.b m.over]))++(AV.i .u32 v::List.drop (k+1) (rI .u32 m.cl++(qE d++[AV.i .u32 m.told,AV.b m.over]))))=_;rw[e];rfl
theorem qcX{m:Mac}{d:GData}(h:m.cl.length=16)(v:Int):List.take 27 (cVm m d)++(AV.i .u32 v::List.drop 28 (cVm m d))=cVm { m with told:=v } d:=by
 have e:List.take 25 (rI .u32 m.cl++(qE d++[AV.i .u32 m.told,AV.b m.over]))++(AV.i .u32 v::List.drop 26 (rI .u32 m.cl++(qE d++[AV.i .u32 m.told,AV.b m.over])))=rI .u32 m.cl++(qE d++[AV.i .u32 v,AV.b m.over]):=by
  have hl:(rI .u32 m.cl).length=16:=by rw[zB,h]
  rw[List.take_append,hl,List.take_of_length_le (by rw[hl];decide),List.drop_append,hl,List.drop_eq_nil_of_le (by rw[hl];decide),List.append_assoc];rfl
 show AV.i .u32 m.a::AV.i .u32 m.x::(List.take 25 (rI .u32 m.cl++(qE d++[AV.i .u32 m.told,AV.b m.over]))++(AV.i .u32 v::List.drop 26 (rI .u32 m.cl++(qE d++[AV.i .u32 m.told,AV.b m.over]))))=_;rw[e];rfl
theorem qlZ:∀x ∈ xF,(x.2.2=2->x.1=2∨x.1=3)∧(x.2.2=5->x.1=6∨x.1=22)∧(x.2.2=6->x.1=7∨x.1=135)∧1<=x.2.2∧x.2.2<=6:=by decide
def qnl(P:Program)(g:Nat):Prop:=∀(m:Mac),MacOk m->∀d:GData,DatOk d->∀i:Ins,InsOk i->qg i.code=1->(wH m i d).2=0->Upd P g [.ptr 0 0,.agg (qn i)] [.cells 0 true false (cVm m d)] (.tup []) [.cells 0 true false (cVm (wH m i d).1 d)]
def qqV(P:Program)(g:Nat):Prop:=∀(m:Mac),MacOk m->∀(d:GData) (i:Ins),InsOk i->qg i.code=3->(nuM m i).2=0->Upd P g [.ptr 0 0,.agg (qn i)] [.cells 0 true false (cVm m d)] (.tup []) [.cells 0 true false (cVm (nuM m i).1 d)]
def qni(P:Program)(g:Nat):Prop:=∀(m:Mac) (d:GData),m.cl.length=16->∀i:Ins,InsOk i->qg i.code=4->Upd P g [.ptr 0 0,.agg (qn i)] [.cells 0 true false (cVm m d)] (.i .i64 (QF m i)) [.cells 0 true false (cVm m d)]
def yi(a b c d e g:Nat):IFn:=⟨[.tmp 4],.seq (.r [.q 3 (.box (.t 1)),.m 4 (.k 0)]) (.seq (.seq (.r [.f 6 0 3,.d 7 6,.l 8 a [.t 7]]) (.blk 0 (.seq (.r [.q 11 (.bin .eql (.t 8) (.c (.i .u8 1))),.n 10 11]) (.cond (.t 10) (.r [.n 12 0,.v 13 4 3,.l 14 b [.t 12,.t 13]]) (.seq (.r [.q 16 (.bin .eql (.t 8) (.c (.i .u8 2))),.n 15 16]) (.cond (.t 15) (.seq (.r [.n 17 0,.q 18 (.nilChk (.t 17)),.f 19 0 18,.d 20 19,.n 5 20]) (.seq (.seq (.r [.f 21 0 3,.d 22 21,.q 23 (.bin .eql (.t 22) (.c (.i .u16 3)))]) (.cond (.t 23) (.r [.n 24 0,.q 25 (.nilChk (.t 24)),.f 26 1 25,.d 27 26,.n 5 27]) (.skip))) (.r [.n 28 0,.f 29 3 3,.d 30 29,.l 31 c [.t 28,.t 30],.n 32 5,.q 33 (.nilChk (.t 31)),.u (.store 1 (.t 33) (.t 32))]))) (.seq (.r [.q 35 (.bin .eql (.t 8) (.c (.i .u8 3))),.n 34 35]) (.cond (.t 34) (.r [.n 36 0,.v 37 4 3,.l 38 d [.t 36,.t 37]]) (.seq (.r [.q 40 (.bin .eql (.t 8) (.c (.i .u8 4))),.n 39 40]) (.cond (.t 39) (.seq (.r [.n 41 0,.v 42 4 3,.l 43 e [.t 41,.t 42],.n 4 43]) (.ret)) (.seq (.r [.q 45 (.bin .eql (.t 8) (.c (.i .u8 5))),.n 44 45]) (.cond (.t 44) (.seq (.r [.n 46 0,.n 47 0,.f 48 3 3,.d 49 48,.q 50 (.nilChk (.t 46)),.f 51 27 50,.u (.store 1 (.t 51) (.t 49)),.q 52 (.nilChk (.t 47)),.f 53 28 52,.u (.store 1 (.t 53) .T)]) (.seq (.r [.f 54 0 3,.d 55 54,.q 56 (.bin .eql (.t 55) (.c (.i .u16 22)))]) (.cond (.t 56) (.r [.n 57 0,.n 58 0,.q 59 (.nilChk (.t 58)),.f 60 0 59,.d 61 60,.q 62 (.nilChk (.t 57)),.f 63 27 62,.u (.store 1 (.t 63) (.t 61))]) (.skip)))) (.seq (.r [.q 65 (.bin .eql (.t 8) (.c (.i .u8 6))),.n 64 65]) (.cond (.t 64) (.seq (.r [.f 66 0 3,.d 67 66,.q 68 (.bin .eql (.t 67) (.c (.i .u16 7)))]) (.cond (.t 68) (.r [.n 69 0,.n 70 0,.q 71 (.nilChk (.t 70)),.f 72 0 71,.d 73 72,.q 74 (.nilChk (.t 69)),.f 75 1 74,.u (.store 1 (.t 75) (.t 73))]) (.r [.n 76 0,.n 77 0,.q 78 (.nilChk (.t 77)),.f 79 1 78,.d 80 79,.q 81 (.nilChk (.t 76)),.f 82 0 81,.u (.store 1 (.t 82) (.t 80))]))) (.r [.l 9 g [.k 40]]))))))))))))))) (.seq (.r [.m 4 (.k 0)]) (.ret)))⟩
set_option maxHeartbeats 4000000 in
theorem quf{g1 g2 g3 g4 g5 g6:Nat}(hc:qi P f (yi g1 g2 g3 g4 g5 g6)=true)(h1:cOf P g1)(h2:qnl P g2)(h3:qhf P g3)(h4:qqV P g4)(h5:qni P g5)(m:Mac)(hm:MacOk m)(d:GData)(hd:DatOk d)(i:Ins)(hi:InsOk i)(hz:(doR m i d).2.2=0) :
  Upd P f [.ptr 0 0,.agg (qn i)] [.cells 0 true false (cVm m d)] (.i .i64 (doR m i d).2.1) [.cells 0 true false (cVm (doR m i d).1 d)]:=by
 refine Upd.mk hc (by simp[xu,bnd,qn]) (by simp) ?_;have hl:=QV (d:=d) hm.len;have g0:(cVm m d)[0]?=some (.i .u32 m.a):=rfl;have g1':(cVm m d)[1]?=some (.i .u32 m.x):=rfl;have s0:∀v:Int,AV.i .u32 v::List.drop 1 (cVm m d)=cVm { m with a:=v } d:=fun _=>rfl
 have s1:∀v:Int,List.take 1 (cVm m d)++(AV.i .u32 v::List.drop 2 (cVm m d))=cVm { m with x:=v } d:=fun _=>rfl
 have hof:=h1 i.code;unfold doR at hz ⊢;have hkn:¬zk i.code=false:=fun h=>by rw[if_pos h] at hz;cases hz
 rw[if_neg hkn] at hz ⊢
 obtain⟨x,hcm⟩:∃x,qw i.code=some x:=by
  unfold zk at hkn;cases h:qw i.code with
  | none=>rw[h] at hkn;exact absurd rfl hkn
  | some x=>exact⟨x,rfl⟩
 obtain⟨hxm,hxc⟩:=xy hcm;have hcl:qg i.code=x.2.2:=by unfold qg;rw[hcm];rfl
 obtain⟨t2,t5,t6,t1a,t1b⟩:=qlZ x hxm;rw[← hcl,hxc] at t2 t5 t6;rw[← hcl] at t1a t1b;have hcase:qg i.code=1∨qg i.code=2∨qg i.code=3∨qg i.code=4∨qg i.code=5∨qg i.code=6:=by omega
 simp only[yi,qn,vI,simprocAttr];rcases hcase with c|c|c|c|c|c
 ·rw[if_pos (.inl c)] at hz ⊢;have hu:=h2 m hm d hd i hi c hz;simp only[qn] at hu;simp (decide:=true) only [↓vS,vT,simprocAttr];refine hof.sc ?_;simp (decide:=true) only [↓vS,vT,simprocAttr,c];refine hu.sc (vs:=[.ptr 0 0,.agg [.i .u16 i.code,.i .u8 i.jt,.i .u8 i.jf,.i .u32 i.k]]) [0] (Lent.of (by decide) ?_) ?_
  ·simp[vL,vw,za qj,qz qj]
  simp only[vK,simprocAttr,qz qj];simp (decide:=true) only [↓vS,vT,simprocAttr];intro _;refine⟨[0],?_⟩;simp[vw,qa,qj]
 ·rw[if_pos (.inr (.inl c))] at hz ⊢;unfold wH QE at hz ⊢
  have hb:¬15<i.k:=by
   intro h;rcases t2 c with e|e<;>simp[e,h] at hz
  have k0:=hi.k0;obtain⟨n,hn⟩:∃n:Nat,i.k=(n:Int):=⟨i.k.toNat,by omega⟩
  have hk16:n<16:=by omega
  have sc:=fun v=>qhl (m:=m) (d:=d) (k:=n) (by rw[hm.len];exact hk16) v
  have hle:2+n+1<=29:=by omega
  have hb':¬(15:Int)<(n:Int):=by omega
  rcases t2 c with e|e
  ·simp (decide:=true) only [↓vS,vT,simprocAttr];refine hof.sc ?_;simp (decide:=true) only [↓vS,vT,simprocAttr,c,e,hn,hl,g0,g1'];refine (h3 m d n hk16).sc (vs:=[.ptr 0 0,.i .u32 (n:Int)]) [0] (Lent.of (by decide) ?_) ?_
   ·simp[vL,vw,za qj,qz qj]
   simp only[vK,simprocAttr,qz qj];simp (decide:=true) only [↓vS,vT,simprocAttr,hl,sc,hle];intro _;refine⟨[0],?_⟩;simp[vw,qa,qj,e,hn,hb']
  ·simp (decide:=true) only [↓vS,vT,simprocAttr];refine hof.sc ?_;simp (decide:=true) only [↓vS,vT,simprocAttr,c,e,hn,hl,g0,g1'];refine (h3 m d n hk16).sc (vs:=[.ptr 0 0,.i .u32 (n:Int)]) [0] (Lent.of (by decide) ?_) ?_
   ·simp[vL,vw,za qj,qz qj]
   simp only[vK,simprocAttr,qz qj];simp (decide:=true) only [↓vS,vT,simprocAttr,hl,sc,hle];intro _;refine⟨[0],?_⟩;simp[vw,qa,qj,e,hn,hb']
 ·rw[if_neg (by omega),if_pos c] at hz ⊢;have hu:=h4 m hm d i hi c hz;simp only[qn] at hu;simp (decide:=true) only [↓vS,vT,simprocAttr];refine hof.sc ?_;simp (decide:=true) only [↓vS,vT,simprocAttr,c];refine hu.sc (vs:=[.ptr 0 0,.agg [.i .u16 i.code,.i .u8 i.jt,.i .u8 i.jf,.i .u32 i.k]]) [0] (Lent.of (by decide) ?_) ?_
  ·simp[vL,vw,za qj,qz qj]
  simp only[vK,simprocAttr,qz qj];simp (decide:=true) only [↓vS,vT,simprocAttr];intro _;refine⟨[0],?_⟩;simp[vw,qa,qj]
 ·rw[if_neg (by omega),if_neg (by omega),if_pos c];have hu:=h5 m d hm.len i hi c;simp only[qn] at hu;simp (decide:=true) only [↓vS,vT,simprocAttr];refine hof.sc ?_;simp (decide:=true) only [↓vS,vT,simprocAttr,c];refine hu.sc (vs:=[.ptr 0 0,.agg [.i .u16 i.code,.i .u8 i.jt,.i .u8 i.jf,.i .u32 i.k]]) [0] (Lent.of (by decide) ?_) ?_
  ·simp[vL,vw,za qj,qz qj]
  simp only[vK,simprocAttr,qz qj];simp (decide:=true) only [↓vS,vT,simprocAttr];intro _;refine⟨[0],?_⟩;simp[vw,qa,qj]
 ·rw[if_neg (by omega),if_neg (by omega),if_neg (by omega)];have tt:=fun v=>qcX (d:=d) hm.len v
  obtain⟨m1,hm1⟩:∃m1,m1={ m with told:=i.k }:=⟨_,rfl⟩;have tk:=tt i.k;rw[← hm1] at tk;have hl1:(cVm m1 d).length=29:=QV (by rw[hm1];exact hm.len);have to:List.take 28 (cVm m1 d)++(AV.b true::List.drop 29 (cVm m1 d))=cVm { m1 with over:=true } d:=qcW (by rw[hm1];exact hm.len) true;obtain⟨m2,hm2⟩:∃m2,m2={ m1 with over:=true }:=⟨_,rfl⟩;rw[← hm2] at to;have hl2:(cVm m2 d).length=29:=QV (by rw[hm2,hm1];exact hm.len);have g02:(cVm m2 d)[0]?=some (.i .u32 m.a):=by rw[hm2,hm1];rfl
  have t3:List.take 27 (cVm m2 d)++(AV.i .u32 m.a::List.drop 28 (cVm m2 d))=cVm { m2 with told:=m.a } d:=qcX (by rw[hm2,hm1];exact hm.len) m.a;rcases t5 c with e|e
  ·simp (decide:=true) only [↓vS,vT,simprocAttr];refine hof.sc ?_;simp (decide:=true) only [↓vS,vT,simprocAttr,c,e,hl,tk,hl1,to];intro _;refine⟨[0],?_⟩;simp[vw,qa,qj,qdK,e,hm2,hm1]
  ·simp (decide:=true) only [↓vS,vT,simprocAttr];refine hof.sc ?_;simp (decide:=true) only [↓vS,vT,simprocAttr,c,e,hl,tk,hl1,to,hl2,g02,t3];intro _;refine⟨[0],?_⟩;simp[vw,qa,qj,qdK,e,hm2,hm1]
 ·rw[if_pos (.inr (.inr c))] at hz ⊢;unfold wH QE at hz ⊢;rcases t6 c with e|e
  ·simp (decide:=true) only [↓vS,vT,simprocAttr];refine hof.sc ?_;simp (decide:=true) only [↓vS,vT,simprocAttr,c,e,hl,g0,s1];intro _;refine⟨[0],?_⟩;simp[vw,qa,qj,e]
  ·simp (decide:=true) only [↓vS,vT,simprocAttr];refine hof.sc ?_;simp (decide:=true) only [↓vS,vT,simprocAttr,c,e,hl,g1',s0];intro _;refine⟨[0],?_⟩;simp[vw,qa,qj,e]
end Go.Kc
end
section
/- The plain law: a program that the check takes has no error at an instruction. No condition. -/
namespace Go.Kc
theorem qas{n:Nat}:∀{L:List Ins} {j:Nat},k9 n j L=none->∀(k:Nat) (i:Ins),L[k]?=some i->kt i (n-1-(j+k))=0
 | [],_,_,_,_,h=>by cases h
 | a::L,j,hb,k,i,h=>by
  rw[yr] at hb
  by_cases h0:kt a (n-1-j)=0
  ·rw[if_pos h0] at hb;cases k with
   | zero=>cases h;exact h0
   | succ k =>
    have:=qas hb k i (by simpa using h);rw[show j+(k+1)=j+1+k from by omega];exact this
  ·rw[if_neg h0] at hb;cases hb
theorem qat{n:Nat}:∀{L:List Ins} {j:Nat} {x:Nat×Int},k9 n j L=some x->x.2≠0
 | [],_,_,h=>by cases h
 | a::L,j,x,h=>by
  rw[yr] at h
  by_cases h0:kt a (n-1-j)=0
  ·rw[if_pos h0] at h;exact qat h
  ·rw[if_neg h0] at h;cases h;exact h0
theorem qm4{p:List Ins}{u:List Nat}(h:(atU p u).2=0):p.length≠0∧p.length<=4096∧(∀(k:Nat) (i:Ins),p[k]?=some i->kt i (p.length-1-k)=0)∧qg (yX p)=5∧u=[]:=by
 unfold atU at h
 by_cases hb:p.length=0∨4096<p.length
 ·rw[if_pos hb] at h;cases h
 rw[if_neg hb] at h;cases hba:k9 p.length 0 p with
 | some x =>
  rw[hba] at h;exact absurd h (qat hba)
 | none =>
  rw[hba] at h;have h:(if qg (yX p)=5 then (match u with | []=>((0,0):Nat×Int)|a::_=>(a,61)) else (p.length-1,46)).2=0:=h
  by_cases h5:qg (yX p)=5
  ·rw[if_pos h5] at h;refine⟨by omega,by omega,fun k i hk=>?_,h5,?_⟩
   ·have:=qas hba k i hk;rwa [Nat.zero_add] at this
   ·cases u with
    | nil=>rfl
    | cons a u=>cases h
  ·rw[if_neg h5] at h;cases h
theorem qe7{i:Ins}{n:Nat}(h:kt i n=0):XI i=false∧jX i=false∧wL i=false∧wM i=false∧wN i=false∧wO i n=false:=by
 unfold kt at h;revert h;cases XI i<;>cases jX i<;>cases wL i<;>cases wM i<;>cases wN i<;>cases wO i n<;>simp
theorem qfV{m:Mac}{i:Ins}(hi:InsOk i){d:GData}{n:Nat}(h:kt i n=0):(doR m i d).2.2=0:=by
 obtain⟨b1,b2,b3,b4,b5,_⟩:=qe7 h;have hkn:¬zk i.code=false:=by unfold XI at b1;simpa using b1
 unfold doR;rw[if_neg hkn]
 by_cases hA:qg i.code=1∨qg i.code=2∨qg i.code=6
 ·rw[if_pos hA];show (wH m i d).2=0;unfold wH
  have hc:¬(QE i=true∧15<i.k):=by
   rintro⟨h1,h2⟩;unfold QE at h1;have h16:16<=i.k:=by omega
   unfold wL at b3;have h2c:=qd2 (c:=i.code);simp only[Bool.or_eq_true,decide_eq_true_eq] at h1
   have:(decide (i.code=96)||decide (i.code=97)||decide (qg i.code=2))=true:=by
    simp only[Bool.or_eq_true,decide_eq_true_eq];rw[h2c];rcases h1 with ((h1|h1)|h1)|h1
    ·exact .inl (.inl h1)
    ·exact .inl (.inr h1)
    ·exact .inr (.inl h1)
    ·exact .inr (.inr h1)
   rw[this,Bool.true_and] at b3;simp[h16] at b3
  rw[if_neg hc]
  by_cases c32:i.code=32
  ·rw[if_pos c32]
   have:¬(i.k % 4≠0∨64<=i.k):=by
    intro h';unfold jX at b2;rw[c32] at b2;rcases h' with h'|h'<;>simp[h'] at b2
   rw[if_neg this]
  rw[if_neg c32]
  repeat' (first|rfl|(split))
 rw[if_neg hA]
 by_cases c3:qg i.code=3
 ·rw[if_pos c3];show (nuM m i).2=0
  have hmem:c3L.contains i.code=true:=by
   have c3':=c3;unfold qg at c3';cases hcm:qw i.code with
   | none=>rw[hcm] at c3';cases c3'
   | some x =>
    rw[hcm] at c3';obtain⟨q1,q2⟩:=xy hcm;rw[← q2];exact qet x q1 c3'
  obtain⟨e52,e100,e116,eX⟩:=qeD i.code hmem;unfold nuM
  by_cases b52:ql i.code=52
  ·rw[if_pos b52]
   by_cases hy:0<qZ m i
   ·rw[if_pos hy]
   ·rw[if_neg hy]
    by_cases hX:qT i.code=true
    ·rw[if_pos hX]
    ·exfalso
     have hc:i.code=52:=by
      rcases e52.1 b52 with h'|h'
      ·exact h'
      ·exact absurd (eX.2 (by rw[h'];decide)) hX
     unfold wM at b4;unfold qZ at hy;rw[if_neg hX] at hy;have:i.k=0:=by have:=hi.k0;omega
     simp[hc,this] at b4
  ·rw[if_neg b52]
   by_cases bs:ql i.code=100∨ql i.code=116
   ·rw[if_pos bs]
    by_cases hq:qT i.code=false∧31<qZ m i
    ·exfalso
     obtain⟨hX,h31⟩:=hq
     have hc:i.code=100∨i.code=116:=by
      rcases bs with bs|bs
      ·rcases e100.1 bs with h'|h'
       ·exact .inl h'
       ·have:qT i.code=true:=eX.2 (by rw[h'];decide);rw[hX] at this;cases this
      ·rcases e116.1 bs with h'|h'
       ·exact .inr h'
       ·have:qT i.code=true:=eX.2 (by rw[h'];decide);rw[hX] at this;cases this
     unfold qZ at h31;rw[hX,if_neg (by simp)] at h31;unfold wN at b5;rcases hc with hc|hc<;>simp[hc] at b5<;>omega
    ·rw[if_neg hq]
   ·rw[if_neg bs]
 rw[if_neg c3]
 by_cases c4:qg i.code=4
 ·rw[if_pos c4]
 ·rw[if_neg c4]
end Go.Kc
end
section
/- The plain law: a program that the check takes stays within, and is told something. No condition. -/
namespace Go.Kc
theorem qnz{p:List Ins}(hok:∀i ∈ p,InsOk i)(hall:∀(k:Nat) (i:Ins),p[k]?=some i->kt i (p.length-1-k)=0)(hlast:qg (yX p)=5){k:Nat}{i:Ins}(h:p[k]?=some i)(m:Mac)(d:GData) :
  (doR m i d).1.over=true∨k+1+(doR m i d).2.1.toNat<p.length:=by
 have hk:k<p.length:=(List.getElem?_eq_some_iff.1 h).1;have hi:=hok i (List.mem_of_getElem? h);obtain⟨b1,_,_,_,_,b6⟩:=qe7 (hall k i h);have hkn:¬zk i.code=false:=by unfold XI at b1;simpa using b1
 have notlast:qg i.code≠5->k+1<p.length:=by
  intro hc
  by_cases e:k=p.length-1
  ·exfalso
   apply hc;have:yX p=i.code:=by unfold yX;rw[List.getD_eq_getElem?_getD,← e,h];rfl
   rw[← this];exact hlast
  ·omega
 unfold doR;rw[if_neg hkn]
 by_cases hA:qg i.code=1∨qg i.code=2∨qg i.code=6
 ·rw[if_pos hA];right;have:=notlast (by omega);show k+1+(0:Int).toNat<p.length;simpa using this
 rw[if_neg hA]
 by_cases c3:qg i.code=3
 ·rw[if_pos c3];right;have:=notlast (by omega);show k+1+(0:Int).toNat<p.length;simpa using this
 rw[if_neg c3]
 by_cases c4:qg i.code=4
 ·rw[if_pos c4];right;show k+1+(QF m i).toNat<p.length;unfold wO at b6;unfold QF
  by_cases c5:i.code=5
  ·rw[if_pos c5] at b6 ⊢;have hk0:=hi.k0;have:¬((p.length-1-k:Nat):Int)<=i.k:=by simpa using b6
   omega
  ·rw[if_neg c5] at b6 ⊢;rw[c4] at b6;have hh:¬((p.length-1-k:Nat):Int)<=hiM i:=by simpa using b6
   have h1:=hi.t0;have h2:=hi.f0;unfold hiM at hh;split at hh<;>split<;>omega
 rw[if_neg c4];left;rfl
end Go.Kc
end
section
/- The program's run. Condition: the functions' texts are these. -/
namespace Go.Kc
variable {P:Program} {f:Nat}
def qsD(P:Program)(g:Nat):Prop:=∀(m:Mac),MacOk m->∀d:GData,DatOk d->∀i:Ins,InsOk i->(doR m i d).2.2=0->Upd P g [.ptr 0 0,.agg (qn i)] [.cells 0 true false (cVm m d)] (.i .i64 (doR m i d).2.1) [.cells 0 true false (cVm (doR m i d).1 d)]
structure PrgGood (p:List Ins):Prop where
 len:p.length<=4096
 ne:p.length≠0
 ins:∀i ∈ p,InsOk i
 one:∀(k:Nat) (i:Ins),p[k]?=some i->kt i (p.length-1-k)=0
 last:qg (yX p)=5
def QQ(p:List Ins)(d:GData):Int×Nat×List Nat×Int:=ZX p d (p.length+1) XT 0 46 []
theorem qjm:u32 0:=⟨by decide,by decide⟩
theorem qbX{p:List Ins}(hok:∀i ∈ p,InsOk i){d:GData}(hd:DatOk d):∀(n:Nat) (m:Mac) (a:Nat) (bh:Int) (l:List Nat),MacOk m->u32 (ZX p d n m a bh l).1
 | 0,_,_,_,_,_=>qjm
 | n+1,m,a,bh,l,hm=>by
  rw[X3];cases hp:p[a]? with
  | none=>exact qjm
  | some i =>
   simp only;have h2:=(qd5 hm (hok i (List.mem_of_getElem? hp)) hd).1;split
   ·exact qjm
   ·split
    ·exact h2.told
    ·exact qbX hok hd n _ _ _ _ h2
theorem qbW{p:List Ins}(hok:∀i ∈ p,InsOk i){d:GData}(hd:DatOk d):u32 (QQ p d).1:=qbX hok hd _ _ _ _ _ qcm
theorem Own.mkD{f fd:Nat}{i:IFn}{vs:List AV}{v:AV}{bs:List Blk}(hc:qcc P f fd i=true)(hcl:qy vs=true)(hV:VDf P 0 fd i.body (j0 i.res (qgO v bs)) (jO vs 0 .leaf) H0):Own P f vs v bs:=Own.of_SC hcl (SC.mkD hc hV)
theorem qhk{m:Mac}{d:GData}(h:m.cl.length=16):(cVm m d)[28]?=some (.b m.over):=by
 show (rI .u32 m.cl++(qE d++[AV.i .u32 m.told,AV.b m.over]))[26]?=_;rw[List.getElem?_append_right (by rw[zB,h];decide),zB,h];rfl
theorem qhm{m:Mac}{d:GData}(h:m.cl.length=16):(cVm m d)[27]?=some (.i .u32 m.told):=by
 show (rI .u32 m.cl++(qE d++[AV.i .u32 m.told,AV.b m.over]))[25]?=_;rw[List.getElem?_append_right (by rw[zB,h];decide),zB,h];rfl
def qbI(a b c d:Nat):IFn:=⟨[.cell 4 1 false,.tmp 5,.tmp 6,.cell 7 1 false],.seq (.r [.q 3 (.box (.t 1)),.q 4 (.alloc [.i .u32 0]),.m 5 (.k 0),.m 6 .N,.q 7 (.alloc [.i .i64 0])]) (.seq (.r [.v 11 9 3,.q 12 (.build [.i .u32 0,.i .u32 0,.i .u32 0,.i .u32 0,.i .u32 0,.i .u32 0,.i .u32 0,.i .u32 0,.i .u32 0,.i .u32 0,.i .u32 0,.i .u32 0,.i .u32 0,.i .u32 0,.i .u32 0,.i .u32 0,.i .u32 0,.i .u32 0,.i .u32 0,.i .u32 0,.i .u64 0,.i .u64 0,.i .u64 0,.i .u64 0,.i .u64 0,.i .u64 0,.i .u64 0,.i .u32 0,.b false] [(18,9,(.t 11))]),.q 13 (.box (.t 12)),.n 8 13]) (.seq (.r [.q 14 (.mkF a [] [.t 4,.t 7]),.u (.no)]) (.seq (.r [.m 9 (.k 46)]) (.seq (.seq (.r [.m 10 (.k 0)]) (.blk 0 (.loop (.seq (.seq (.r [.n 15 8,.q 16 (.nilChk (.t 15)),.f 17 28 16,.d 18 17,.q 19 (.un .not (.t 18))]) (.cond (.t 19) (.skip) (.exit 0))) (.seq (.blk 1 (.seq (.seq (.r [.n 22 10,.n 23 0,.e 24 23,.b 25 .geq 22 24]) (.cond (.t 25) (.r [.n 26 9,.l 27 b [.t 26]]) (.skip))) (.seq (.r [.n 28 6,.n 29 10,.q 30 (.buildS 1 [.i .i64 0] [(0,1,(.t 29))]),.q 31 (.app 1 8 true (.t 28) (.t 30)),.n 6 31]) (.seq (.r [.m 9 (.k 46)]) (.seq (.seq (.r [.n 32 0,.n 33 10,.i 34 4 32 33,.f 35 0 34,.d 36 35,.l 37 c [.t 36],.q 38 (.bin .eql (.t 37) (.c (.i .u8 4)))]) (.cond (.t 38) (.r [.m 9 (.k 42)]) (.skip))) (.r [.n 39 10,.n 40 8,.n 41 0,.n 42 10,.i 43 4 41 42,.v 44 4 43,.l 45 d [.t 40,.t 44],.q 46 (.bin .add (.k 1) (.t 45)),.b 47 .add 39 46,.n 10 47])))))) (.r [.n 20 5,.a 21 20 1,.n 5 21])))))) (.seq (.r [.n 48 8,.q 49 (.nilChk (.t 48)),.f 50 27 49,.d 51 50,.n 52 5,.n 53 6,.u (.store 1 (.t 4) (.t 51)),.n 5 52,.n 6 53,.u (.store 1 (.t 7) (.k 0))]) (.ret))))))⟩
set_option maxHeartbeats 4000000 in
theorem qqq{fd g1 g2 g3:Nat}(hc:qcc P f fd (qbI fd g1 g2 g3)=true)(h2:cOf P g2)(h3:qsD P g3)(p:List Ins)(hp:PrgGood p)(d:GData)(hd:DatOk d) :
  ∃n:Int,Own P f [.fz p.length (rP p),.agg (qE d)] (.tup [.i .u32 (QQ p d).1,.i .i64 n,.own 0 (QQ p d).2.2.1.length,.i .i64 0]) [.cells 1 true true (rNt (QQ p d).2.2.1)]:=by
 obtain⟨R,hR⟩:∃R,R=QQ p d:=⟨_,rfl⟩;rw[← hR];refine⟨(R.2.2.1.length:Int),Own.mkD hc (by simp[qy,clo,qd,zK]) ?_⟩;have hpl:=hp.len;have hne:=hp.ne;have e0:List.take 18 ([.i .u32 0,.i .u32 0,.i .u32 0,.i .u32 0,.i .u32 0,.i .u32 0,.i .u32 0,.i .u32 0,.i .u32 0,.i .u32 0,.i .u32 0,.i .u32 0,.i .u32 0,.i .u32 0,.i .u32 0,.i .u32 0,.i .u32 0,.i .u32 0,.i .u32 0,.i .u32 0,.i .u64 0,.i .u64 0,.i .u64 0,.i .u64 0,.i .u64 0,.i .u64 0,.i .u64 0,.i .u32 0,.b false]:List AV)++(qE d++List.drop 27 [.i .u32 0,.i .u32 0,.i .u32 0,.i .u32 0,.i .u32 0,.i .u32 0,.i .u32 0,.i .u32 0,.i .u32 0,.i .u32 0,.i .u32 0,.i .u32 0,.i .u32 0,.i .u32 0,.i .u32 0,.i .u32 0,.i .u32 0,.i .u32 0,.i .u32 0,.i .u32 0,.i .u64 0,.i .u64 0,.i .u64 0,.i .u64 0,.i .u64 0,.i .u64 0,.i .u64 0,.i .u32 0,.b false])=cVm XT d:=rfl;have cd9:List.take 9 (qE d)=qE d:=rfl;have l9:(qE d).length=9:=rfl;simp only[qbI,VDf,vI,simprocAttr];simp (decide:=true) only [↓vS,vT,simprocAttr,Qb,Jg,l9,cd9,e0];refine⟨⟨14,[.ptr 1 0,.ptr 2 0],rfl,by simp[Tr.get_set]⟩,?_⟩
 simp (decide:=true) only [↓vS,vT,simprocAttr]
 refine SL.loop (α:=Nat×Mac×Nat×Int×List Nat) (fun s=>[(0,.fz p.length (rP p)),(4,.ptr 0 0),(5,.i .i64 (s.2.2.2.2.length:Int)),(6,.own 3 s.2.2.2.2.length),(7,.ptr 1 0),(8,.ptr 2 0),(9,.i .i64 s.2.2.2.1),(10,.i .i64 (s.2.2.1:Int))])
  (fun s=>[.cells 0 true false [.i .u32 0],.cells 0 true false [.i .i64 0],.cells 0 true false (cVm s.2.1 d),.cells 1 true true (rNt s.2.2.2.2)])
  (fun s=>MacOk s.2.1∧s.2.2.1<=5000000000∧((s.2.1.over=false∧s.2.2.1<p.length∧p.length+1<=s.1+s.2.2.1∧s.2.2.2.2.length<=s.2.2.1∧ZX p d s.1 s.2.1 s.2.2.1 s.2.2.2.1 s.2.2.2.2=R)∨(s.2.1.over=true∧s.2.2.2.2.length<=5000∧R=(s.2.1.told,s.2.2.2.2.length,s.2.2.2.2,0)))) (fun s=>s.1) (p.length+1,XT,0,46,[]) [1,2,3,99] ?_ ?_ ?_ rfl ?_ ?_
 ·simp[vw,qd]
 ·simp[vw,qa,qj];exact NVs.refl (vs:=cVm XT d) qj
 ·simp
 ·exact⟨qcm,Nat.zero_le _,.inl ⟨rfl,by show 0<p.length;omega,Nat.le_refl _,Nat.zero_le _,by rw[hR];rfl⟩⟩
 rintro⟨n,m,a,bh,l⟩ ⟨hm,ha,hI⟩ G ih;simp only at hm ha hI;have hl29:=QV (d:=d) hm.len;have go:(cVm m d)[28]?=some (.b m.over):=qhk hm.len;have gt:(cVm m d)[27]?=some (.i .u32 m.told):=qhm hm.len;simp only[vI,simprocAttr];rcases hI with⟨hov,hlt,hna,hla,hI⟩|⟨hov,hla,hI⟩
 ·obtain⟨n,rfl⟩:∃n',n=n'+1:=⟨n-1,by omega⟩
  rw[X3] at hI;obtain⟨i,hpi⟩:∃i,p[a]?=some i:=⟨_,List.getElem?_eq_getElem hlt⟩;have hii:=hp.ins i (List.mem_of_getElem? hpi);rw[hpi] at hI;simp only at hI;have hz:=qfV (m:=m) (d:=d) hii (hp.one a i hpi);rw[if_neg (by simpa using hz)] at hI;have hin:=qnz hp.ins hp.one hp.last hpi m d;have hel:=qU (f:=qn) (m:=4) qW hpi;rw[show p.flatMap qn=rP p from rfl] at hel
  have h4:a*4+4<=(rP p).length:=by rw[vm];omega
  have g0:=zb (f:=qn) (m:=4) qW hpi (i:=0) (by omega);rw[show p.flatMap qn=rP p from rfl] at g0
  simp only[qn,Nat.add_zero,List.getElem?_cons_zero] at g0;have hge:¬(p.length:Int)<=(a:Int):=by omega
  obtain⟨hm2,hk0,hk1⟩:=qd5 hm hii hd;have hdo:=h3 m hm d hd i hii hz;have hgc:=h2 i.code;generalize doR m i d=r at hI hin hm2 hk0 hk1 hdo;obtain⟨m2,k,e⟩:=r;simp only at hI hin hm2 hk0 hk1 hdo;have hr1:l.length+1<=qf:=by simp only[qf];omega
  have hr2:(l.length+1)*8<=qf:=by simp only[qf];omega
  have hap:rNt l++[.i .i64 (a:Int)]=rNt (l++[a]):=by rw[← qam];rfl
  have hll:(rNt l).length=l.length:=Xt;have hla1:(l++[a]).length=l.length+1:=by simp
  have w1:IntKind.wrap .i64 (1+k)=1+k:=qp (by omega) (by omega);have w2:IntKind.wrap .i64 ((a:Int)+(1+k))=((a+1+k.toNat:Nat):Int):=by rw[qp (by omega) (by omega)];omega
  have w3:IntKind.wrap .i64 ((l.length:Int)+1)=((l.length+1:Nat):Int):=by rw[qp (by omega) (by omega)];omega
  have fin:∀b2:Int,(m2.over=false->ZX p d n m2 (a+1+k.toNat) b2 (l++[a])=R)->MacOk m2∧a+1+k.toNat<=5000000000∧((m2.over=false∧a+1+k.toNat<p.length∧p.length+1<=n+(a+1+k.toNat)∧(l++[a]).length<=a+1+k.toNat∧ZX p d n m2 (a+1+k.toNat) b2 (l++[a])=R)∨(m2.over=true∧(l++[a]).length<=5000∧R=(m2.told,(l++[a]).length,l++[a],0))):=by
   intro b2 hb2;refine⟨hm2,by omega,?_⟩
   cases ho:m2.over with
   | false =>
    rw[ho] at hin;have hin:=hin.resolve_left (by simp);exact .inl ⟨rfl,hin,by omega,by rw[hla1];omega,hb2 ho⟩
   | true =>
    rw[ho,if_pos rfl] at hI;exact .inr ⟨rfl,by rw[hla1];omega,by rw[← hI,hla1]⟩
  rw[hov] at go;simp only[qn] at hdo hel;simp (decide:=true) only [↓vS,vT,simprocAttr,go,hge,hlt,hr1,hr2,hll,hap,Nat.mul_one,g0];refine hgc.sc ?_
  by_cases c4:qg i.code=4
  ·rw[if_pos c4] at hI;have fin2:=fin 42 (fun ho=>by rw[ho] at hI;simpa using hI)
   simp (decide:=true) only [↓vS,vT,simprocAttr,c4,hlt,hel,h4];refine hdo.sc (vs:=[.ptr 0 0,.agg [.i .u16 i.code,.i .u8 i.jt,.i .u8 i.jf,.i .u32 i.k]]) [2] (Lent.of (by decide) ?_) ?_
   ·simp[vL,vw,za qj,qz qj]
   simp only[vK,simprocAttr,qz qj];simp (decide:=true) only [↓vS,vT,simprocAttr,w1,w2,w3];refine ih (n,m2,a+1+k.toNat,42,l++[a]) fin2 (by simp only;omega) _ _ (Wk.mk _ _ [0,1,2,5] ?_ ?_ ?_ rfl)
   ·simp[vw,qd]
   ·simp[vw,qa,qu,qj]
   ·simp
  ·rw[if_neg c4] at hI;have fin2:=fin 46 (fun ho=>by rw[ho] at hI;simpa using hI)
   simp (decide:=true) only [↓vS,vT,simprocAttr,c4,hlt,hel,h4];refine hdo.sc (vs:=[.ptr 0 0,.agg [.i .u16 i.code,.i .u8 i.jt,.i .u8 i.jf,.i .u32 i.k]]) [2] (Lent.of (by decide) ?_) ?_
   ·simp[vL,vw,za qj,qz qj]
   simp only[vK,simprocAttr,qz qj];simp (decide:=true) only [↓vS,vT,simprocAttr,w1,w2,w3];refine ih (n,m2,a+1+k.toNat,46,l++[a]) fin2 (by simp only;omega) _ _ (Wk.mk _ _ [0,1,2,5] ?_ ?_ ?_ rfl)
   ·simp[vw,qd]
   ·simp[vw,qa,qu,qj]
   ·simp
 ·rw[hov] at go;rw[hI];simp (decide:=true) only [↓vS,vT,simprocAttr,go,gt];intro _;refine⟨[3],?_⟩;simp[vw,qa,qu]
def qbH(a:Nat):IFn:=⟨[.tmp 4,.tmp 5,.tmp 6],.seq (.r [.q 3 (.box (.t 1)),.m 4 (.c (.i .u32 0)),.m 5 (.k 0),.m 6 (.k 0)]) (.seq (.r [.n 8 0,.v 9 9 3,.l 10 a [.t 8,.t 9],.n 7 10,.x 11 7 0,.x 12 7 1,.x 13 7 2,.x 14 7 3,.n 4 11,.n 5 12,.n 6 14]) (.seq (.r [.n 15 4,.n 16 5,.n 17 6,.n 4 15,.n 5 16,.n 6 17]) (.ret)))⟩
theorem qub{g:Nat}(hc:qi P f (qbH g)=true)(hg:∀p,PrgGood p->∀d,DatOk d->∃n:Int,Own P g [.fz p.length (rP p),.agg (qE d)] (.tup [.i .u32 (QQ p d).1,.i .i64 n,.own 0 (QQ p d).2.2.1.length,.i .i64 0]) [.cells 1 true true (rNt (QQ p d).2.2.1)])(p:List Ins)(hp:PrgGood p)(d:GData)(hd:DatOk d) :
  ∃n:Int,qc P f [.fz p.length (rP p),.agg (qE d)] (.tup [.i .u32 (QQ p d).1,.i .i64 n,.i .i64 0]):=by
 obtain⟨n,hn⟩:=hg p hp d hd;refine⟨n,qc.mk hc (by simp[qy,clo,qd,zK]) ?_⟩;simp only[qbH,vI,simprocAttr];simp (decide:=true) only [↓vS,vT,simprocAttr,Qb,Jg];refine hn.sc ?_;simp only[vJ,simprocAttr,zx qu];simp (decide:=true) only [↓vS,vT,simprocAttr];simp[vZ]
end Go.Kc
end
section
/- What answers come to, on both sides. Condition: the functions' texts are these. -/
namespace Go.Kc
variable {P:Program} {f:Nat}
theorem qs0(x:BitVec 32):x &&& ~~~ 65535#32=(x >>> 16) <<< 16:=by
 apply BitVec.eq_of_getLsbD_eq;intro i hi;have h:∀i,i<32->(65535#32).getLsbD i=decide (i<16):=by decide
 rw[BitVec.getLsbD_and,BitVec.getLsbD_not,h i hi,BitVec.getLsbD_shiftLeft,BitVec.getLsbD_ushiftRight]
 by_cases h16:i<16
 ·simp[h16]
 ·have:16+(i-16)=i:=by omega
  simp[h16,hi,this]
theorem qe8{a:Int}(h0:0<=a)(h1:a<=4294967295):qaC .u32 a 65535=a / 65536*65536:=by
 obtain⟨n,rfl⟩:∃n:Nat,a=n:=⟨a.toNat,by omega⟩
 have e:(BitVec.ofInt 32 (n:Int))=BitVec.ofNat 32 n:=by simp
 unfold qaC;show IntKind.wrap .u32 (((BitVec.ofInt 32 (n:Int)) &&& ~~~ (65535#32)).toNat:Int)=_;rw[e,qs0];have hn:n<2 ^ 32:=by omega
 have:((BitVec.ofNat 32 n >>> 16) <<< 16).toNat=n / 65536*65536:=by
  rw[BitVec.toNat_shiftLeft,BitVec.toNat_ushiftRight,BitVec.toNat_ofNat,Nat.mod_eq_of_lt hn,Nat.shiftLeft_eq,Nat.shiftRight_eq_div_pow];omega
 rw[this];show ((n / 65536*65536:Nat):Int) % 4294967296=_;omega
def qbh(x:Int):Int:=if 32768<=x / 65536 then x / 65536-65536 else x / 65536
def ym(a b:Int):Bool:=decide (qbh a<qbh b)
def v9:List Int->Int
 | []=>2147418112
 | x::l=>if ym x (v9 l)=true then x else v9 l
theorem qbA{x:Int}{l:List Int}:v9 (x::l)=if ym x (v9 l)=true then x else v9 l:=rfl
theorem qaE:∀{l:List Int},(∀x ∈ l,u32 x)->u32 (v9 l)
 | [],_=>⟨by decide,by decide⟩
 | x::l,h=>by
  rw[qbA];split
  ·exact h x (by simp)
  ·exact qaE fun y hy=>h y (by simp[hy])
theorem qb2{a:Int}(h0:0<=a)(h1:a<=4294967295):IntKind.wrap .i32 (a / 65536*65536)=qbh a*65536:=by
 unfold qbh;simp only[IntKind.wrap,IntKind.bits,IntKind.signed,Bool.true_and,decide_eq_true_eq,show (2:Int) ^ 32=4294967296 from rfl,show (2:Int) ^ (32-1)=2147483648 from rfl]
 by_cases hh:32768<=a / 65536
 ·rw[if_pos hh,if_pos (by omega)];omega
 ·rw[if_neg hh,if_neg (by omega)];omega
def Qp(a:Nat):IFn:=⟨[.tmp 4],.seq (.r [.m 4 .F]) (.seq (.r [.n 5 0,.l 6 a [.t 5],.q 7 (.cvInt .i32 (.t 6)),.n 8 1,.l 9 a [.t 8],.q 10 (.cvInt .i32 (.t 9)),.s 11 7 10,.n 4 11]) (.ret))⟩
theorem qsi{g:Nat}(hc:qi P f (Qp g)=true)(hg:∀n,qc P g [.i .u32 n] (.i .u32 (qaC .u32 n 65535)))(a b:Int)(ha:u32 a)(hb:u32 b):qc P f [.i .u32 a,.i .u32 b] (.b (ym a b)):=by
 refine qc.mk hc rfl ?_;have w1:=qb2 ha.1 ha.2;have w2:=qb2 hb.1 hb.2;rw[← qe8 ha.1 ha.2] at w1;rw[← qe8 hb.1 hb.2] at w2;have hlt:(qbh a*65536<qbh b*65536)=(qbh a<qbh b):=propext ⟨fun h=>by omega,fun h=>by omega⟩
 unfold ym;simp only[Qp,vI,simprocAttr];simp (decide:=true) only [↓vS,vT,simprocAttr];refine (hg a).sc ?_;simp (decide:=true) only [↓vS,vT,simprocAttr];refine (hg b).sc ?_;simp (decide:=true) only [↓vS,vT,simprocAttr,w1,w2,hlt];simp[vZ]
def ql9(P:Program)(g:Nat):Prop:=∀a b:Int,u32 a->u32 b->qc P g [.i .u32 a,.i .u32 b] (.b (ym a b))
def yP(a:Nat):IFn:=⟨[.tmp 2],.seq (.r [.m 2 (.c (.i .u32 0))]) (.seq (.r [.n 6 0,.q 7 (.iAddrS 1 (.t 6) (.k 0)),.d 8 7,.n 3 8]) (.seq (.seq (.r [.n 9 0,.q 10 (.slcS 1 (.t 9) (some (.k 1)) none none),.e 11 10,.m 12 (.k 0)]) (.blk 0 (.loop (.seq (.r [.s 13 12 11]) (.seq (.cond (.t 13) (.skip) (.exit 0)) (.seq (.blk 1 (.seq (.r [.i 14 1 10 12,.d 15 14,.n 5 15]) (.seq (.r [.n 16 5,.n 17 3,.l 18 a [.t 16,.t 17]]) (.cond (.t 18) (.r [.n 19 5,.n 3 19]) (.skip))))) (.r [.a 20 12 1,.n 12 20]))))))) (.seq (.r [.n 21 3,.n 2 21]) (.ret))))⟩
theorem qqI{g:Nat}(hc:qi P f (yP g)=true)(hg:ql9 P g)(a b:Int)(ha:u32 a)(hb:u32 b):qc P f [.fz 2 (rI .u32 [a,b])] (.i .u32 (if ym b a=true then b else a)):=by
 refine qc.mk hc (by simp[qy,clo,zg]) ?_;have hl:=hg b a hb ha;have e0:(rI .u32 [a,b])[0]?=some (.i .u32 a):=rfl;have e1:(rI .u32 [b])[0]?=some (.i .u32 b):=rfl;simp only[yP,vI,simprocAttr];simp (decide:=true) only [↓vS,vT,simprocAttr,e0,qo7,qfe];refine SL.loop (α:=Nat) (fun j=>[(3,.i .u32 (if j=0 then a else if ym b a=true then b else a)),(10,.fz 1 [.i .u32 b]),(11,.i .i64 1),(12,.i .i64 (j:Int))]) (fun _=>[]) (fun j=>j<=1) (fun j=>1-j) 0 [] ?_ ?_ ?_ rfl ?_ ?_
 ·simp[vw]
 ·trivial
 ·simp
 ·exact Nat.zero_le _
 rintro j hj G ih;simp only[vI,simprocAttr]
 by_cases h0:j=0
 ·subst h0;have ih2:=ih 1 (by decide) (by decide);simp (decide:=true) only [↓vS,vT,simprocAttr];refine hl.sc ?_;cases hls:ym b a with
  | true =>
   rw[hls] at ih2;simp (decide:=true) only [↓vS,vT,simprocAttr];refine ih2 _ _ (Wk.mk _ _ [] ?_ ?_ ?_ rfl)
   ·simp[vw];rfl
   ·trivial
   ·simp
  | false =>
   rw[hls] at ih2;simp (decide:=true) only [↓vS,vT,simprocAttr];refine ih2 _ _ (Wk.mk _ _ [] ?_ ?_ ?_ rfl)
   ·simp[vw];rfl
   ·trivial
   ·simp
 ·obtain rfl:j=1:=by omega
  simp (decide:=true) only [↓vS,vT,simprocAttr];simp[vZ]
def jF:IFn:=⟨[.tmp 2],.seq (.r [.m 2 (.k 0)]) (.seq (.r [.n 4 0,.q 5 (.bin .quo (.t 4) (.c (.i .u32 65536))),.q 6 (.cvInt .i64 (.t 5)),.n 3 6]) (.seq (.seq (.r [.n 7 3,.w 8 .geq 7 32768]) (.cond (.t 8) (.r [.n 9 3,.w 10 .sub 9 65536,.n 3 10]) (.skip))) (.seq (.r [.n 11 3,.n 2 11]) (.ret))))⟩
theorem qrX(hc:qi P f jF=true)(a:Int)(ha:u32 a):qc P f [.i .u32 a] (.i .i64 (qbh a)):=by
 refine qc.mk hc rfl ?_;have h0:(65536:Int)≠0:=by decide
 have hq:a.tdiv 65536=a / 65536:=Int.tdiv_eq_ediv_of_nonneg ha.1;have a0:=ha.1;have a1:=ha.2;have w0:IntKind.wrap .u32 (a / 65536)=a / 65536:=by show (a / 65536) % 4294967296=_;omega
 have w1:IntKind.wrap .i64 (a / 65536)=a / 65536:=qp (by omega) (by omega);have w2:IntKind.wrap .i64 (a / 65536-65536)=a / 65536-65536:=qp (by omega) (by omega);unfold qbh;simp only[jF,vI,simprocAttr]
 by_cases h:32768<=a / 65536
 ·rw[if_pos h];simp (decide:=true) only [↓vS,vT,simprocAttr,↓zp h0,hq,w0,w1,h,w2];simp[vZ]
 ·rw[if_neg h];simp (decide:=true) only [↓vS,vT,simprocAttr,↓zp h0,hq,w0,w1,h];simp[vZ]
def wj(a:Nat):IFn:=⟨[.tmp 4],.seq (.r [.m 4 .F]) (.seq (.r [.n 5 0,.l 6 a [.t 5],.n 7 1,.l 8 a [.t 7],.s 9 6 8,.n 4 9]) (.ret))⟩
theorem qs6{g:Nat}(hc:qi P f (wj g)=true)(hg:∀a,u32 a->qc P g [.i .u32 a] (.i .i64 (qbh a)))(a b:Int)(ha:u32 a)(hb:u32 b):qc P f [.i .u32 a,.i .u32 b] (.b (ym a b)):=by
 refine qc.mk hc rfl ?_;unfold ym;simp only[wj,vI,simprocAttr];simp (decide:=true) only [↓vS,vT,simprocAttr];refine (hg a ha).sc ?_;simp (decide:=true) only [↓vS,vT,simprocAttr];refine (hg b hb).sc ?_;simp (decide:=true) only [↓vS,vT,simprocAttr];simp[vZ]
theorem qmx{k:IntKind}{l:List Int}{j:Nat}{x:Int}(h:l[j]?=some x):(rI k l)[j]?=some (.i k x):=by rw[X0,h];rfl
theorem qbB{l:List Int}{j:Nat}{x:Int}(h:l[j]?=some x):v9 (l.drop j)=if ym x (v9 (l.drop (j+1)))=true then x else v9 (l.drop (j+1)):=by
 obtain⟨hj,rfl⟩:=List.getElem?_eq_some_iff.1 h;rw[List.drop_eq_getElem_cons hj,qbA]
def jv(a:Nat):IFn:=⟨[.tmp 2],.seq (.r [.m 2 (.c (.i .u32 0))]) (.seq (.r [.m 3 (.c (.i .u32 2147418112))]) (.seq (.seq (.r [.n 5 0,.e 6 5,.w 7 .sub 6 1,.n 4 7]) (.blk 0 (.loop (.seq (.seq (.r [.n 8 4,.w 9 .geq 8 0]) (.cond (.t 9) (.skip) (.exit 0))) (.seq (.blk 1 (.seq (.r [.n 12 0,.n 13 4,.i 14 1 12 13,.d 15 14,.n 16 3,.l 17 a [.t 15,.t 16]]) (.cond (.t 17) (.r [.n 18 0,.n 19 4,.i 20 1 18 19,.d 21 20,.n 3 21]) (.skip)))) (.r [.n 10 4,.w 11 .sub 10 1,.n 4 11])))))) (.seq (.r [.n 22 3,.n 2 22]) (.ret))))⟩
theorem qpM{g:Nat}(hc:qi P f (jv g)=true)(hg:ql9 P g)(l:List Int)(hl:∀x ∈ l,u32 x)(hn:l.length<=100000):qc P f [.fz l.length (rI .u32 l)] (.i .u32 (v9 l)):=by
 refine qc.mk hc (by simp[qy,clo,zg]) ?_;simp only[jv,vI,simprocAttr];have w0:IntKind.wrap .i64 ((l.length:Int)-1)=(l.length:Int)-1:=qp (by omega) (by omega);simp (decide:=true) only [↓vS,vT,simprocAttr,w0];refine SL.loop (α:=Nat) (fun j=>[(0,.fz l.length (rI .u32 l)),(3,.i .u32 (v9 (l.drop j))),(4,.i .i64 ((j:Int)-1))]) (fun _=>[]) (fun j=>j<=l.length) (fun j=>j) l.length [] ?_ ?_ ?_ rfl ?_ ?_
 ·simp[vw,zg];rfl
 ·trivial
 ·simp
 ·exact Nat.le_refl _
 rintro j hj G ih;simp only[vI,simprocAttr];cases j with
 | zero =>
  have e:((0:Nat):Int)-1 = -1:=rfl;rw[e];simp (decide:=true) only [↓vS,vT,simprocAttr];simp[vZ,vP,Tr.get_set]
 | succ k =>
  have e:((k+1:Nat):Int)-1=(k:Int):=by omega
  have hk:k<l.length:=by omega
  obtain⟨x,hx⟩:∃x,l[k]?=some x:=⟨_,List.getElem?_eq_getElem hk⟩;have gx:=qmx (k:=.u32) hx;have hxu:=hl x (List.mem_of_getElem? hx);have hcu:u32 (v9 (l.drop (k+1))):=qaE fun y hy=>hl y (List.mem_of_mem_drop hy)
  have hcd:=qbB hx;have hle:=hg x (v9 (l.drop (k+1))) hxu hcu;have w2:IntKind.wrap .i64 ((k:Int)-1)=(k:Int)-1:=qp (by omega) (by omega);have ih2:=ih k (Nat.le_of_lt hk) (by omega);rw[hcd] at ih2;rw[e];generalize v9 (l.drop (k+1))=c at hle ih2 ⊢;have k0:(0:Int)<=(k:Int):=by omega
  simp (decide:=true) only [↓vS,vT,simprocAttr,k0,hk,gx,Nat.mul_one];refine hle.sc ?_;cases hls:ym x c with
  | true =>
   rw[hls,if_pos rfl] at ih2;simp (decide:=true) only [↓vS,vT,simprocAttr,hk,gx,w2,Nat.mul_one];refine ih2 _ _ (Wk.mk _ _ [] ?_ ?_ ?_ rfl)
   ·simp[vw,zg]
   ·trivial
   ·simp
  | false =>
   rw[hls,if_neg (by simp)] at ih2;simp (decide:=true) only [↓vS,vT,simprocAttr,w2];refine ih2 _ _ (Wk.mk _ _ [] ?_ ?_ ?_ rfl)
   ·simp[vw,zg]
   ·trivial
   ·simp
end Go.Kc
end
section
/- Programs and stacks, compared, on both sides. Condition: the functions' texts are these. -/
namespace Go.Kc
variable {P:Program} {f:Nat}
instance:DecidableEq Ins:=fun a b=>decidable_of_iff (a.code=b.code∧a.jt=b.jt∧a.jf=b.jf∧a.k=b.k) ⟨fun h=>by cases a;cases b;simp only at h;obtain⟨rfl,rfl,rfl,rfl⟩:=h;rfl,fun h=>by subst h;exact⟨rfl,rfl,rfl,rfl⟩⟩
instance:DecidableEq Prg:=fun a b=>decidable_of_iff (a.dir=b.dir∧a.arch=b.arch∧a.ins=b.ins) ⟨fun h=>by cases a;cases b;simp only at h;obtain⟨rfl,rfl,rfl⟩:=h;rfl,fun h=>by subst h;exact⟨rfl,rfl,rfl⟩⟩
structure PrgIn (x:Prg):Prop where
 len:x.ins.length<=9223372036854775807
 ins:∀i ∈ x.ins,InsOk i
def qj2(P:Program)(g:Nat):Prop:=∀l m:List Ins,l.length<=9223372036854775807->qc P g [.fz l.length (rP l),.fz m.length (rP m)] (.b (decide (l=m)))
def xb:IFn:=⟨[.tmp 4],.seq (.r [.m 4 .F]) (.seq (.seq (.r [.n 6 0,.e 7 6,.n 8 1,.e 9 8,.b 10 .neq 7 9]) (.cond (.t 10) (.seq (.r [.m 4 .F]) (.ret)) (.skip))) (.seq (.seq (.r [.n 11 0,.e 12 11,.m 13 (.k 0)]) (.blk 0 (.loop (.seq (.r [.s 14 13 12]) (.seq (.cond (.t 14) (.skip) (.exit 0)) (.seq (.blk 1 (.seq (.r [.n 15 13,.n 5 15]) (.seq (.reg true [.n 16 0,.n 17 5,.i 18 4 16 17,.v 19 4 18,.n 20 1,.n 21 5,.i 22 4 20 21,.v 23 4 22,.q 24 (.eqA true [.i,.i,.i,.i] (.t 19) (.t 23))]) (.cond (.t 24) (.seq (.r [.m 4 .F]) (.ret)) (.skip))))) (.r [.a 25 13 1,.n 13 25]))))))) (.seq (.r [.m 4 .T]) (.ret))))⟩
set_option maxHeartbeats 2000000 in
theorem qsS(hc:qi P f xb=true)(l m:List Ins)(hl:l.length<=9223372036854775807):qc P f [.fz l.length (rP l),.fz m.length (rP m)] (.b (decide (l=m))):=by
 refine qc.mk hc (by simp[qy,clo,qd]) ?_;simp only[xb,vI,simprocAttr]
 by_cases hlen:l.length=m.length
 ·have hli:(l.length:Int)=m.length:=by omega
  simp (decide:=true) only [↓vS,vT,simprocAttr,hli];refine SL.loop (α:=Nat) (fun j=>[(0,.fz l.length (rP l)),(1,.fz m.length (rP m)),(12,.i .i64 l.length),(13,.i .i64 (j:Int))]) (fun _=>[]) (fun j=>j<=l.length∧l.take j=m.take j) (fun j=>l.length-j) 0 [] ?_ ?_ ?_ rfl ?_ ?_
  ·simp[vw,qd,hli]
  ·trivial
  ·simp
  ·exact⟨Nat.zero_le _,by simp⟩
  rintro j ⟨hj,hI⟩ G ih;simp only[vI,simprocAttr]
  by_cases hlt:j<l.length
  ·have hlm:j<m.length:=by omega
   have hx:l[j]?=some l[j]:=List.getElem?_eq_getElem hlt;have hy:m[j]?=some m[j]:=List.getElem?_eq_getElem hlm;have hw:IntKind.wrap .i64 ((j:Int)+1)=((j+1:Nat):Int):=by rw[qp (by omega) (by omega)];omega
   have ex:=qU (f:=qn) (m:=4) qW hx;have ey:=qU (f:=qn) (m:=4) qW hy;rw[show l.flatMap qn=rP l from rfl] at ex
   rw[show m.flatMap qn=rP m from rfl] at ey
   have bx:j*4+4<=(rP l).length:=by rw[vm];omega
   have bY:j*4+4<=(rP m).length:=by rw[vm];omega
   have hst:=fun e=>yp hx hy hI e
   have hne:l[j]≠m[j]->l≠m:=by intro e h;subst h;exact e rfl
   generalize l[j]=a at ex hst hne;generalize m[j]=b at ey hst hne;obtain⟨a1,a2,a3,a4⟩:=a;obtain⟨b1,b2,b3,b4⟩:=b;simp only[qn] at ex ey
   by_cases e1:a1=b1
   rotate_left
   ·have hn:=hne (by rintro h;cases h;exact e1 rfl);simp (decide:=true) only [↓vS,vT,simprocAttr,hlt,hlm];refine zm ?_;simp (decide:=true) only [↓vS,vT,simprocAttr,hlt,hlm,ex,ey,bx,bY,e1,beq_self_eq_true];simp[vZ,hn]
   by_cases e2:a2=b2
   rotate_left
   ·have hn:=hne (by rintro h;cases h;exact e2 rfl);simp (decide:=true) only [↓vS,vT,simprocAttr,hlt,hlm];refine zm ?_;simp (decide:=true) only [↓vS,vT,simprocAttr,hlt,hlm,ex,ey,bx,bY,e1,e2,beq_self_eq_true];simp[vZ,hn]
   by_cases e3:a3=b3
   rotate_left
   ·have hn:=hne (by rintro h;cases h;exact e3 rfl);simp (decide:=true) only [↓vS,vT,simprocAttr,hlt,hlm];refine zm ?_;simp (decide:=true) only [↓vS,vT,simprocAttr,hlt,hlm,ex,ey,bx,bY,e1,e2,e3,beq_self_eq_true];simp[vZ,hn]
   by_cases e4:a4=b4
   rotate_left
   ·have hn:=hne (by rintro h;cases h;exact e4 rfl);simp (decide:=true) only [↓vS,vT,simprocAttr,hlt,hlm];refine zm ?_;simp (decide:=true) only [↓vS,vT,simprocAttr,hlt,hlm,ex,ey,bx,bY,e1,e2,e3,e4,beq_self_eq_true];simp[vZ,hn]
   simp (decide:=true) only [↓vS,vT,simprocAttr,hlt,hlm];refine zm ?_;simp (decide:=true) only [↓vS,vT,simprocAttr,hlt,hlm,ex,ey,bx,bY,e1,e2,e3,e4,beq_self_eq_true,hw];refine ih (j+1) ⟨by omega,hst (by rw[e1,e2,e3,e4])⟩ (by omega) _ _ (Wk.mk _ _ [] ?_ ?_ ?_ rfl)
   ·simp[vw,qd]
   ·trivial
   ·simp
  ·have he:l=m:=by
    rw[List.take_of_length_le (by omega),List.take_of_length_le (by omega)] at hI;exact hI
   simp (decide:=true) only [↓vS,vT,simprocAttr,hlt];simp[vZ,he]
 ·have hli:¬(l.length:Int)=m.length:=by omega
  have hne:l≠m:=fun h=>hlen (by rw[h])
  simp (decide:=true) only [↓vS,vT,simprocAttr,hli];simp[vZ,hne]
set_option maxHeartbeats 2000000 in
theorem qqa(hc:qi P f wc=true)(l m:List Ins)(hl:l.length<=9223372036854775807):qc P f [.fz l.length (rP l),.fz m.length (rP m)] (.b (decide (l=m))):=by
 refine qc.mk hc (by simp[qy,clo,qd]) ?_;simp only[wc,vI,simprocAttr]
 by_cases hlen:l.length=m.length
 ·have hli:(l.length:Int)=m.length:=by omega
  simp (decide:=true) only [↓vS,vT,simprocAttr,hli];refine SL.loop (α:=Nat) (fun j=>[(0,.fz l.length (rP l)),(1,.fz m.length (rP m)),(5,.i .i64 (j:Int))]) (fun _=>[]) (fun j=>j<=l.length∧l.take j=m.take j) (fun j=>l.length-j) 0 [] ?_ ?_ ?_ rfl ?_ ?_
  ·simp[vw,qd,hli]
  ·trivial
  ·simp
  ·exact⟨Nat.zero_le _,by simp⟩
  rintro j ⟨hj,hI⟩ G ih;simp only[vI,simprocAttr]
  by_cases hlt:j<l.length
  ·have hlm:j<m.length:=by omega
   have hx:l[j]?=some l[j]:=List.getElem?_eq_getElem hlt;have hy:m[j]?=some m[j]:=List.getElem?_eq_getElem hlm;have hw:IntKind.wrap .i64 ((j:Int)+1)=((j+1:Nat):Int):=by rw[qp (by omega) (by omega)];omega
   have ex:=qU (f:=qn) (m:=4) qW hx;have ey:=qU (f:=qn) (m:=4) qW hy;rw[show l.flatMap qn=rP l from rfl] at ex
   rw[show m.flatMap qn=rP m from rfl] at ey
   have bx:j*4+4<=(rP l).length:=by rw[vm];omega
   have bY:j*4+4<=(rP m).length:=by rw[vm];omega
   have hst:=fun e=>yp hx hy hI e
   have hne:l[j]≠m[j]->l≠m:=by intro e h;subst h;exact e rfl
   generalize l[j]=a at ex hst hne;generalize m[j]=b at ey hst hne;obtain⟨a1,a2,a3,a4⟩:=a;obtain⟨b1,b2,b3,b4⟩:=b;simp only[qn] at ex ey
   by_cases e1:a1=b1
   rotate_left
   ·have hn:=hne (by rintro h;cases h;exact e1 rfl);simp (decide:=true) only [↓vS,vT,simprocAttr,hlt,hlm];refine zm ?_;simp (decide:=true) only [↓vS,vT,simprocAttr,hlt,hlm,ex,ey,bx,bY,e1,beq_self_eq_true];simp[vZ,hn]
   by_cases e2:a2=b2
   rotate_left
   ·have hn:=hne (by rintro h;cases h;exact e2 rfl);simp (decide:=true) only [↓vS,vT,simprocAttr,hlt,hlm];refine zm ?_;simp (decide:=true) only [↓vS,vT,simprocAttr,hlt,hlm,ex,ey,bx,bY,e1,e2,beq_self_eq_true];simp[vZ,hn]
   by_cases e3:a3=b3
   rotate_left
   ·have hn:=hne (by rintro h;cases h;exact e3 rfl);simp (decide:=true) only [↓vS,vT,simprocAttr,hlt,hlm];refine zm ?_;simp (decide:=true) only [↓vS,vT,simprocAttr,hlt,hlm,ex,ey,bx,bY,e1,e2,e3,beq_self_eq_true];simp[vZ,hn]
   by_cases e4:a4=b4
   rotate_left
   ·have hn:=hne (by rintro h;cases h;exact e4 rfl);simp (decide:=true) only [↓vS,vT,simprocAttr,hlt,hlm];refine zm ?_;simp (decide:=true) only [↓vS,vT,simprocAttr,hlt,hlm,ex,ey,bx,bY,e1,e2,e3,e4,beq_self_eq_true];simp[vZ,hn]
   simp (decide:=true) only [↓vS,vT,simprocAttr,hlt,hlm];refine zm ?_;simp (decide:=true) only [↓vS,vT,simprocAttr,hlt,hlm,ex,ey,bx,bY,e1,e2,e3,e4,beq_self_eq_true,hw];refine ih (j+1) ⟨by omega,hst (by rw[e1,e2,e3,e4])⟩ (by omega) _ _ (Wk.mk _ _ [] ?_ ?_ ?_ rfl)
   ·simp[vw,qd]
   ·trivial
   ·simp
  ·have he:l=m:=by
    rw[List.take_of_length_le (by omega),List.take_of_length_le (by omega)] at hI;exact hI
   simp (decide:=true) only [↓vS,vT,simprocAttr,hlt];simp[vZ,he]
 ·have hli:¬(l.length:Int)=m.length:=by omega
  have hne:l≠m:=fun h=>hlen (by rw[h])
  simp (decide:=true) only [↓vS,vT,simprocAttr,hli];simp[vZ,hne]
def Xg(a:Nat):IFn:=⟨[.tmp 4],.seq (.r [.m 4 .F]) (.seq (.r [.n 5 0,.n 6 1,.l 7 a [.t 5,.t 6],.n 4 7]) (.ret))⟩
theorem qrl{g:Nat}(hc:qi P f (Xg g)=true)(hg:qj2 P g):qj2 P f:=by
 intro l m hl;refine qc.mk hc (by simp[qy,clo,qd]) ?_;simp only[Xg,vI,simprocAttr];simp (decide:=true) only [↓vS,vT,simprocAttr];refine (hg l m hl).sc ?_;simp (decide:=true) only [↓vS,vT,simprocAttr];simp[vZ]
def Zp(a:Nat):IFn:=⟨[.tmp 4],.seq (.r [.q 2 (.box (.t 0)),.q 3 (.box (.t 1)),.m 4 .F]) (.seq (.r [.f 5 0 2,.d 6 5,.f 7 0 3,.d 8 7,.b 9 .eql 6 8,.n 10 9,.h 11 1 2 10 true,.j 12 11 10 true,.h 13 1 3 10 true,.j 14 13 10 true,.g 15 (.bin .eql (.t 12) (.t 14)) 10 true,.p 16 10 15,.n 17 16,.h 18 2 2 17 true,.j 19 18 17 true,.h 20 2 3 17 true,.j 21 20 17 true,⟨(some 22),.callF a [.t 19,.t 21],(some (17,true))⟩,.p 23 17 22,.n 4 23]) (.ret))⟩
theorem qpt{g:Nat}(hc:qi P f (Zp g)=true)(hg:qj2 P g)(x y:Prg)(hx:PrgIn x):qc P f [.agg (cPr x),.agg (cPr y)] (.b (decide (x=y))):=by
 refine qc.mk hc (by simp[qy,clo,cPr,qd]) ?_;have hl:=hx.len;simp only[Zp,cPr,vI,simprocAttr];have hgg:=hg x.ins y.ins (by omega);obtain⟨a1,a2,a3⟩:=x;obtain⟨b1,b2,b3⟩:=y;simp only at hgg hl ⊢
 by_cases e1:a1=b1
 rotate_left
 ·have hn:Prg.mk a1 a2 a3≠Prg.mk b1 b2 b3:=by intro h;cases h;exact e1 rfl
  simp (decide:=true) only [↓vS,vT,simprocAttr,e1];simp[vZ,e1]
 by_cases e2:a2=b2
 rotate_left
 ·have hn:Prg.mk a1 a2 a3≠Prg.mk b1 b2 b3:=by intro h;cases h;exact e2 rfl
  simp (decide:=true) only [↓vS,vT,simprocAttr,e1,e2];simp[vZ,e2]
 have he:(Prg.mk a1 a2 a3=Prg.mk b1 b2 b3)=(a3=b3):=by subst e1 e2;simp
 simp (decide:=true) only [↓vS,vT,simprocAttr,e1,e2];refine hgg.sc ?_;simp (decide:=true) only [↓vS,vT,simprocAttr]
 by_cases e3:a3=b3
 ·simp[vZ,e1,e2,e3]
 ·have hn:Prg.mk a1 a2 a3≠Prg.mk b1 b2 b3:=by intro h;cases h;exact e3 rfl
  simp[vZ,e3]
def qV:IFn:=⟨[.tmp 6],.seq (.r [.m 6 .F]) (.seq (.seq (.r [.n 10 0,.e 11 10,.n 12 1,.e 13 12,.b 14 .neq 11 13]) (.cond (.t 14) (.seq (.r [.m 6 .F]) (.ret)) (.skip))) (.seq (.seq (.r [.n 15 0,.e 16 15,.m 17 (.k 0)]) (.blk 0 (.loop (.seq (.r [.s 18 17 16]) (.seq (.cond (.t 18) (.skip) (.exit 0)) (.seq (.blk 1 (.seq (.r [.n 19 17,.i 20 3 15 17,.v 21 3 20,.q 8 (.alloc [.i .i64 0,.i .i64 0,.nils]),.n 7 19,.u (.store 3 (.t 8) (.t 21))]) (.seq (.r [.n 22 1,.n 23 7,.i 24 3 22 23,.v 25 3 24,.q 9 (.alloc [.i .i64 0,.i .i64 0,.nils]),.u (.store 3 (.t 9) (.t 25))]) (.seq (.r [.n 26 2,.v 27 3 8,.v 28 3 9,⟨(some 29),.callV (.t 26) [.t 27,.t 28],none⟩,.q 30 (.un .not (.t 29))]) (.cond (.t 30) (.seq (.r [.m 6 .F]) (.ret)) (.skip)))))) (.r [.a 31 17 1,.n 17 31]))))))) (.seq (.r [.m 6 .T]) (.ret))))⟩
theorem qsm(hc:qi P f qV=true)(k:Nat)(hk:∀x y:Prg,PrgIn x->qc P k [.agg (cPr x),.agg (cPr y)] (.b (decide (x=y))))(l m:List Prg)(hl:l.length<=10000)(hx:∀x ∈ l,PrgIn x):qc P f [.fz l.length (rPr l),.fz m.length (rPr m),.fn k [] []] (.b (decide (l=m))):=by
 refine qc.mk hc (by simp[qy,clo,qO]) ?_;simp only[qV,vI,simprocAttr]
 by_cases hlen:l.length=m.length
 ·have hli:(l.length:Int)=m.length:=by omega
  simp (decide:=true) only [↓vS,vT,simprocAttr,hli];refine SL.loop (α:=Nat) (fun j=>[(1,.fz m.length (rPr m)),(2,.fn k [] []),(15,.fz l.length (rPr l)),(16,.i .i64 l.length),(17,.i .i64 (j:Int))]) (fun _=>[]) (fun j=>j<=l.length∧l.take j=m.take j) (fun j=>l.length-j) 0 [] ?_ ?_ ?_ rfl ?_ ?_
  ·simp[vw,qO,hli]
  ·trivial
  ·simp
  ·exact⟨Nat.zero_le _,by simp⟩
  rintro j ⟨hj,hI⟩ G ih;simp only[vI,simprocAttr]
  by_cases hlt:j<l.length
  ·have hlm:j<m.length:=by omega
   have hpx:l[j]?=some l[j]:=List.getElem?_eq_getElem hlt;have hpy:m[j]?=some m[j]:=List.getElem?_eq_getElem hlm;have hxl:=(hx _ (List.getElem_mem hlt)).len;have hw:IntKind.wrap .i64 ((j:Int)+1)=((j+1:Nat):Int):=by rw[qp (by omega) (by omega)];omega
   have ex:=qU (f:=cPr) (m:=3) z8 hpx;have ey:=qU (f:=cPr) (m:=3) z8 hpy;rw[show l.flatMap cPr=rPr l from rfl] at ex
   rw[show m.flatMap cPr=rPr m from rfl] at ey
   have bx:j*3+3<=(rPr l).length:=by rw[Xu];omega
   have bY:j*3+3<=(rPr m).length:=by rw[Xu];omega
   have hst:=fun e=>yp hpx hpy hI e
   have hne:l[j]≠m[j]->l≠m:=by intro e h;subst h;exact e rfl
   have hxo:=hx _ (List.getElem_mem hlt);generalize l[j]=x at ex hst hne hxl hxo;generalize m[j]=y at ey hst hne;have hkk:=hk x y hxo;simp only[cPr] at ex ey hkk;simp (decide:=true) only [↓vS,vT,simprocAttr,hlt,hlm,ex,ey,bx,bY];refine hkk.sc ?_
   by_cases e:x=y
   ·simp (decide:=true) only [↓vS,vT,simprocAttr,e,hw];refine ih (j+1) ⟨by omega,hst e⟩ (by omega) _ _ (Wk.mk _ _ [] ?_ ?_ ?_ rfl)
    ·simp[vw,qO]
    ·trivial
    ·simp
   ·have hn:=hne e;simp (decide:=true) only [↓vS,vT,simprocAttr,e];simp[vZ,hn]
  ·have he:l=m:=by
    rw[List.take_of_length_le (by omega),List.take_of_length_le (by omega)] at hI;exact hI
   simp (decide:=true) only [↓vS,vT,simprocAttr,hlt];simp[vZ,he]
 ·have hli:¬(l.length:Int)=m.length:=by omega
  have hne:l≠m:=fun h=>hlen (by rw[h])
  simp (decide:=true) only [↓vS,vT,simprocAttr,hli];simp[vZ,hne]
def qcU(P:Program)(g:Nat):Prop:=∀l m:List Prg,l.length<=10000->(∀x ∈ l,PrgIn x)->qc P g [.fz l.length (rPr l),.fz m.length (rPr m)] (.b (decide (l=m)))
def Zo(a b:Nat):IFn:=⟨[.tmp 4],.seq (.r [.m 4 .F]) (.seq (.r [.n 5 0,.n 6 1,.l 7 a [.t 5,.t 6,(.c (.fn b [] []))],.n 4 7]) (.ret))⟩
theorem qqh{g1 g2:Nat}(hc:qi P f (Zo g1 g2)=true)(h1:∀l m:List Prg,l.length<=10000->(∀x ∈ l,PrgIn x)->qc P g1 [.fz l.length (rPr l),.fz m.length (rPr m),.fn g2 [] []] (.b (decide (l=m)))):qcU P f:=by
 intro l m hl hx;refine qc.mk hc (by simp[qy,clo,qO]) ?_;simp only[Zo,vI,simprocAttr];simp (decide:=true) only [↓vS,vT,simprocAttr];refine (h1 l m hl hx).sc ?_;simp (decide:=true) only [↓vS,vT,simprocAttr];simp[vZ]
set_option maxHeartbeats 2000000 in
theorem qqb{g:Nat}(hc:qi P f (wm g)=true)(hg:qj2 P g)(l m:List Prg)(hl:l.length<=10000)(hx:∀x ∈ l,PrgIn x):qc P f [.fz l.length (rPr l),.fz m.length (rPr m)] (.b (decide (l=m))):=by
 refine qc.mk hc (by simp[qy,clo,qO]) ?_;simp only[wm,vI,simprocAttr]
 by_cases hlen:l.length=m.length
 ·have hli:(l.length:Int)=m.length:=by omega
  simp (decide:=true) only [↓vS,vT,simprocAttr,hli];refine SL.loop (α:=Nat) (fun j=>[(0,.fz l.length (rPr l)),(1,.fz m.length (rPr m)),(5,.i .i64 (j:Int))]) (fun _=>[]) (fun j=>j<=l.length∧l.take j=m.take j) (fun j=>l.length-j) 0 [] ?_ ?_ ?_ rfl ?_ ?_
  ·simp[vw,qO,hli]
  ·trivial
  ·simp
  ·exact⟨Nat.zero_le _,by simp⟩
  rintro j ⟨hj,hI⟩ G ih;simp only[vI,simprocAttr]
  by_cases hlt:j<l.length
  ·have hlm:j<m.length:=by omega
   have hpx:l[j]?=some l[j]:=List.getElem?_eq_getElem hlt;have hpy:m[j]?=some m[j]:=List.getElem?_eq_getElem hlm;have hxl:=(hx _ (List.getElem_mem hlt)).len;have hw:IntKind.wrap .i64 ((j:Int)+1)=((j+1:Nat):Int):=by rw[qp (by omega) (by omega)];omega
   have g0:=zb (f:=cPr) (m:=3) z8 hpx (i:=0) (by omega);have g1:=zb (f:=cPr) (m:=3) z8 hpx (i:=1) (by omega);have g2:=zb (f:=cPr) (m:=3) z8 hpx (i:=2) (by omega);have k0:=zb (f:=cPr) (m:=3) z8 hpy (i:=0) (by omega);have k1:=zb (f:=cPr) (m:=3) z8 hpy (i:=1) (by omega);have k2:=zb (f:=cPr) (m:=3) z8 hpy (i:=2) (by omega);rw[show l.flatMap cPr=rPr l from rfl] at g0 g1 g2
   rw[show m.flatMap cPr=rPr m from rfl] at k0 k1 k2
   have hst:=fun e=>yp hpx hpy hI e
   have hne:l[j]≠m[j]->l≠m:=by intro e h;subst h;exact e rfl
   generalize l[j]=x at g0 g1 g2 hst hne hxl;generalize m[j]=y at k0 k1 k2 hst hne;have hgg:=hg x.ins y.ins (by omega);obtain⟨a1,a2,a3⟩:=x;obtain⟨b1,b2,b3⟩:=y;simp only[cPr,Nat.add_zero,List.getElem?_cons_zero,List.getElem?_cons_succ] at g0 g1 g2 k0 k1 k2 hgg
   by_cases e1:a1=b1
   rotate_left
   ·have hn:=hne (by intro h;cases h;exact e1 rfl);simp (decide:=true) only [↓vS,vT,simprocAttr,hlt,hlm];refine zm ?_;simp (decide:=true) only [↓vS,vT,simprocAttr,hlt,hlm,g0,g1,g2,k0,k1,k2,e1];simp[vZ,hn]
   by_cases e2:a2=b2
   rotate_left
   ·have hn:=hne (by intro h;cases h;exact e2 rfl);simp (decide:=true) only [↓vS,vT,simprocAttr,hlt,hlm];refine zm ?_;simp (decide:=true) only [↓vS,vT,simprocAttr,hlt,hlm,g0,g1,g2,k0,k1,k2,e1,e2];simp[vZ,hn]
   simp (decide:=true) only [↓vS,vT,simprocAttr,hlt,hlm];refine zm ?_;simp (decide:=true) only [↓vS,vT,simprocAttr,hlt,hlm,g0,g1,g2,k0,k1,k2,e1,e2];refine hgg.pc ?_
   by_cases e3:a3=b3
   ·simp (decide:=true) only [↓vS,vT,simprocAttr,e3,hw];refine ih (j+1) ⟨by omega,hst (by rw[e1,e2,e3])⟩ (by omega) _ _ (Wk.mk _ _ [] ?_ ?_ ?_ rfl)
    ·simp[vw,qO]
    ·trivial
    ·simp
   ·have hn:=hne (by intro h;cases h;exact e3 rfl);simp (decide:=true) only [↓vS,vT,simprocAttr,e3];simp[vZ,hn]
  ·have he:l=m:=by
    rw[List.take_of_length_le (by omega),List.take_of_length_le (by omega)] at hI;exact hI
   simp (decide:=true) only [↓vS,vT,simprocAttr,hlt];simp[vZ,he]
 ·have hli:¬(l.length:Int)=m.length:=by omega
  have hne:l≠m:=fun h=>hlen (by rw[h])
  simp (decide:=true) only [↓vS,vT,simprocAttr,hli];simp[vZ,hne]
end Go.Kc
end
