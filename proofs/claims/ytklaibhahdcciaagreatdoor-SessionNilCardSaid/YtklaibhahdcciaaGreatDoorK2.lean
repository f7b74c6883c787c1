/- Part 2 of the abstract machine and of the functions' walks. Conditions: with each theorem. -/
import Derived.Test.YtklaibhahdcciaaGreatDoorK1
import Derived.Laws.Sem
import Derived.Laws.Strings2
import Derived.Calls
import Derived.Laws.StructEq
import Derived.Laws.BytesString
set_option maxHeartbeats 4000000
set_option linter.unusedSectionVars false
set_option linter.unusedSimpArgs false
set_option linter.unusedVariables false
set_option linter.unnecessarySimpa false
section
namespace Go.Kc
variable [Cur]
variable {σ:Nat->Value} {ρ ρ':Ren} {P:Program}

def Res(P:Program)(σ:Nat->Value)(ρ:Ren)(B:Nat->Prop)(h:Hp)(w:World)(s:Sem Next)(k:AV->Hp->Prop):Prop :=
 ∃v v' h' ρ' w',k v h'∧(s.run P w = .ok (.value v') w'∨(s.run P w = .ok .skip w'∧v'=undef))∧VR σ ρ' v v'∧Rel σ ρ' B h' w'∧Kept ρ B h w ρ' h' w'

theorem Res.pure{B:Nat->Prop}{h:Hp}{w:World}(r:Rel σ ρ B h w){s:Sem Next}{k:AV->Hp->Prop}{v:AV}{v':Value}(hk:k v h)(hs:s.run P w = .ok (.value v') w)(hv:VR σ ρ v v'):Res P σ ρ B h w s k :=
 ⟨v,v',h,ρ,w,hk,.inl hs,hv,r,Kept.refl _ _ _ _⟩

structure OrcOk (P:Program) (σ:Nat->Value) (orc:Orc):Prop where
 atoms:zq σ
 bin:∀op x y r,orc.bin op x y=some r->∀ρ x' y',VR σ ρ x x'->VR σ ρ y y'->∃r',VR σ ρ r r'∧∀(P:Program) t w,(binOp op t x' y').run P w = .ok r' w
 len:∀j r,orc.len j=some r->∃s,σ j = .string s∧∀ρ,VR σ ρ r (.int .i64 s.size)
 cv:∀q j r,orc.cv q j=some r->∃k n,σ j = .int k n∧∀ρ,VR σ ρ r (.int q (q.wrap n))
 prim:∀j,(∃k n,σ j = .int k n)∨(∃s,σ j = .string s)∨(∃b,σ j = .bool b)

omit [Cur] in
theorem jr{r r':Bool}(h:r=r'):VR σ ρ (.b r) (.bool r'):=by subst h;exact .b _
omit [Cur] in
theorem qeF{op:BinOp}{q:IntKind}{x y:Int}{k:AV->Prop}(h:qR op q x y k)(t:TypeId)(w:World) :
  ∃r r',k r∧VR σ ρ r r'∧(binOp op t (.int q x) (.int q y)).run P w = .ok r' w:=by
 have hne:∀{y:Int} {A:Prop},(Bool.rec (motive:=fun _=>Prop) A False (eqI y 0):Prop)->A∧y≠0:=by
  intro y A hh;rw[jE] at hh;cases hc:(y==0)<;>simp_all
 cases op<;>simp only[qR,qB,qj,jf] at h
 case add=>exact⟨_,_,h,.i _ _,by simp[binOp,Op.intArith]⟩
 case sub=>exact⟨_,_,h,.i _ _,by simp[binOp,Op.intArith];rfl⟩
 case mul=>exact⟨_,_,h,.i _ _,by simp[binOp,Op.intArith]⟩
 case quo=>obtain⟨h,hy⟩:=hne h;exact⟨_,_,h,.i _ _,by simp[binOp,Op.intDiv,hy]⟩
 case rem=>obtain⟨h,hy⟩:=hne h;exact⟨_,_,h,.i _ _,by simp[binOp,Op.intDiv,hy]⟩
 case and=>exact⟨_,_,h,.i _ _,by simp[binOp,Op.intBits]⟩
 case or=>exact⟨_,_,h,.i _ _,by simp[binOp,Op.intBits]⟩
 case xor=>exact⟨_,_,h,.i _ _,by simp[binOp,Op.intBits]⟩
 case andNot=>exact⟨_,_,h,.i _ _,by simp[binOp,Op.intBits]⟩
 case eql=>exact⟨_,_,h,jr (jE x y),by simp[binOp,Op.intCmp]⟩
 case neq=>exact⟨_,_,h,jr (r':=x != y) (by rw[jE];rfl),by simp[binOp,Op.intCmp]⟩
 case lss=>exact⟨_,_,h,jr (xn x y),by simp[binOp,Op.intCmp]⟩
 case leq=>exact⟨_,_,h,jr (r':=decide (x<=y)) (by rw[xn,← decide_not];simp),by simp[binOp,Op.intCmp]⟩
 case gtr=>exact⟨_,_,h,jr (xn y x),by simp[binOp,Op.intCmp]⟩
 case geq=>exact⟨_,_,h,jr (r':=decide (y<=x)) (by rw[xn,← decide_not];simp),by simp[binOp,Op.intCmp]⟩

omit [Cur] in
theorem qg6{op:BinOp}(ho:op = .shl∨op = .shr){q q':IntKind}{x y:Int}{k:AV->Prop}(h:qaN op q x y k)(t:TypeId)(w:World) :
  ∃r r',k r∧VR σ ρ r r'∧(binOp op t (.int q x) (.int q' y)).run P w = .ok r' w:=by
 cases y with
 | negSucc m=>exact h.elim
 | ofNat m =>
  have hn:¬((m:Int)<0):=by omega
  rcases ho with rfl|rfl
  ·have h':(qd (min m q.bits) (fun n=>qQ (q.wrap (x*p2 n)) (fun r=>k (.i q r)))):=h
   rw[qg,qB,qd1] at h';exact⟨_,_,h',.i _ _,by simp[binOp,Op.shift,hn]⟩
  ·have h':(qd (min m q.bits) (fun n=>qQ (x.fdiv (p2 n)) (fun r=>k (.i q r)))):=h
   rw[qg,qB,qd1] at h';exact⟨_,_,h',.i _ _,by simp[binOp,Op.shift,hn]⟩

omit [Cur] in
theorem qfb{op:BinOp}{x y:List UInt8}{k:AV->Prop}(h:zV op x y k)(t:TypeId)(w:World) :
  ∃r r',k r∧VR σ ρ r r'∧(binOp op t (.string ⟨x.toArray⟩) (.string ⟨y.toArray⟩)).run P w = .ok r' w:=by
 have tl:∀l:List UInt8,(⟨l.toArray⟩:ByteArray).toList=l:=by simp_all
 cases op<;>simp only[zV,qj] at h<;>try exact h.elim
 case add =>
  rw[xL] at h
  by_cases hl:x.length+y.length<=9223372036854775807
  ·simp only[hl,decide_true] at h;refine⟨_,_,h,.s _,?_⟩
   have h3:¬(IntKind.max .i64<(((⟨x.toArray⟩:ByteArray).size+(⟨y.toArray⟩:ByteArray).size:Nat):Int)):=by
    show ¬((9223372036854775807:Int)<((x.length+y.length:Nat):Int));omega
   simp only[binOp,Op.stringOp];rw[if_neg h3];simp only[Sem.run_pure]
   congr 2
  simp_all
 case eql=>exact⟨_,_,h,jr (zR x y),by simp[binOp,Op.stringOp,tl]⟩
 case neq=>exact⟨_,_,h,jr (r':=!(x==y)) (by rw[zR]),by simp[binOp,Op.stringOp,tl]⟩
 case lss=>exact⟨_,_,h,jr (qaG x y),by simp[binOp,Op.stringOp,tl]⟩
 case leq=>exact⟨_,_,h,jr (r':=(Op.bytesLess x y||x==y)) (by rw[qaG,zR]),by simp[binOp,Op.stringOp,tl]⟩
 case gtr=>exact⟨_,_,h,jr (r':=!(Op.bytesLess x y||x==y)) (by rw[qaG,zR]),by simp[binOp,Op.stringOp,tl]⟩
 case geq=>exact⟨_,_,h,jr (r':=!(Op.bytesLess x y)) (by rw[qaG]),by simp[binOp,Op.stringOp,tl]⟩

omit [Cur] in
theorem qc{t:TypeId}{d:TypeDesc}(h:P.underlying t=some d)(w:World):(underlying t).run P w = .ok d w:=run_underlying h w
omit [Cur] in
theorem xA{t:TypeId}(h:(P.underlying t).isSome=true)(w:World):(isAgg t).run P w = .ok (zy P t) w:=by
 obtain⟨d,hd⟩:=Option.isSome_iff_exists.1 h;unfold isAgg zy;simp only[Sem.run_bind,qc hd,Result.andThen_ok,hd];cases d<;>rfl
omit [Cur] in
theorem qaV{t:TypeId}(h:zy P t=true):(P.underlying t).isSome=true:=by
 unfold zy at h;split at h<;>simp_all
omit [Cur] in
theorem qaO{t:TypeId}{n:Nat}(h:qo P t n=true):∃i,P.info? t=some i∧i.size=n:=by
 unfold qo at h
 grind
omit [Cur] in
theorem wi{t:TypeId}{n:Nat}(h:zG P t n=true):∃i,P.info? t=some i∧i.bytes=n:=by
 unfold zG at h
 grind
omit [Cur] in
theorem qf6{t:TypeId}{i:TypeInfo}(h:P.info? t=some i)(w:World):(typeInfo t).run P w = .ok i w:=by
 simp[typeInfo,h]
omit [Cur] in
theorem qy{t:TypeId}{n:Nat}(h:qo P t n=true)(w:World):(sizeOf t).run P w = .ok n w:=by
 obtain⟨i,hi,rfl⟩:=qaO h;simp[sizeOf,typeInfo,hi]
omit [Cur] in
theorem xB{t:TypeId}{z:List AV}(h:zt P t z=true):∃i v,P.info? t=some i∧i.zero=some v∧qbJ z v.cells.toList=true∧v.cells.size=i.size:=by
 unfold zt at h
 grind
omit [Cur] in
theorem xk{t:TypeId}{i:TypeInfo}{v:Value}(h:P.info? t=some i)(hz:i.zero=some v)(w:World):(zeroValue t).run P w = .ok v w:=by
 simp[zeroValue,typeInfo,h,hz]

omit [Cur] in
theorem qr{t e:TypeId}(h:qx P t=some e):P.underlying t=some (.slice e):=by
 unfold qx at h;grind
omit [Cur] in
theorem xC{t:TypeId}{n:Nat}{e:TypeId}(h:wc P t=some (n,e)):P.underlying t=some (.array n e):=by
 unfold wc at h;grind
omit [Cur] in
theorem xU{t:TypeId}{fs:Array Field}(h:fieldsOf P t=some fs):P.underlying t=some (.struct fs):=by
 unfold fieldsOf at h;grind
omit [Cur] in
theorem qE{t:TypeId}(h:qV P t=true):P.underlying t=some .string:=by
 unfold qV at h;grind
omit [Cur] in
theorem jS{t:TypeId}{k:IntKind}(h:qcX P t k=true):P.underlying t=some (.int k):=by
 unfold qcX at h;grind

omit [Cur] in
theorem jc{t:TypeId}(cs:Array Value)(off:Nat)(w:World) :
  (∀{v},zy P t=false->(P.underlying t).isSome=true->cs[off]?=some v->(part t cs off).run P w = .ok v w) ∧
  (∀{n},zy P t=true->qo P t n=true->(part t cs off).run P w = .ok (.agg (cs.extract off (off+n))) w):=by
 constructor
 ·intro v h1 h2 h3;simp[part,xA h2,h1,h3]
 ·intro n h1 h2;simp[part,xA (qaV h1),h1,qy h2]

omit [Cur] in
theorem VR.un_b{x:Bool}{v:Value}(h:VR σ ρ (.b x) v):v = .bool x:=by cases h;rfl
omit [Cur] in
theorem VR.un_i{q:IntKind}{n:Int}{v:Value}(h:VR σ ρ (.i q n) v):v = .int q n:=by cases h;rfl
omit [Cur] in
theorem VR.un_s{x:List UInt8}{v:Value}(h:VR σ ρ (.s x) v):v = .string ⟨x.toArray⟩:=by cases h;rfl
omit [Cur] in
theorem VR.un_ptr{b o:Nat}{v:Value}(h:VR σ ρ (.ptr b o) v):∃L,ρ b=some L∧v = .pointer (some ⟨L.blk,L.off+o,none⟩):=by cases h<;>simp_all
omit [Cur] in
theorem VR.un_sl{b o len cap:Nat}{l:Bool}{v:Value}(h:VR σ ρ (.sl b o len cap l) v):∃L c off,ρ b=some L∧v = .slice (some ⟨L.blk,off,none⟩) len c ∧
  ((off=L.off+o∧(c=cap∨(l=true∧cap<=c∧L.off+o+c*L.esz<=L.size)))∨(len=0∧cap=0∧c=0)):=by
 cases h<;>grind
omit [Cur] in
theorem VR.un_agg{cs:List AV}{v:Value}(h:VR σ ρ (.agg cs) v):∃vs:Array Value,VRs σ ρ cs vs.toList∧v = .agg vs:=by cases h<;>simp_all
omit [Cur] in
theorem VR.un_tup{cs:List AV}{v:Value}(h:VR σ ρ (.tup cs) v):∃vs:Array Value,VRs σ ρ cs vs.toList∧v = .tuple vs:=by cases h<;>simp_all
omit [Cur] in
theorem VR.un_fn{f:Nat}{a c:List AV}{v:Value}(h:VR σ ρ (.fn f a c) v):∃a' c':Array Value,VRs σ ρ a a'.toList∧VRs σ ρ c c'.toList∧v = .func (.func f) a' c':=by cases h<;>simp_all
omit [Cur] in
theorem VR.un_yl{b:Nat}{v:Value}(h:VR σ ρ (.yl b) v):∃L,ρ b=some L∧v = .func (.yield L.blk) #[] #[]:=by cases h<;>simp_all
omit [Cur] in
theorem VR.un_map{b:Nat}{v:Value}(h:VR σ ρ (.map b) v):∃L,ρ b=some L∧L.off=0∧v = .map (some L.blk):=by cases h<;>simp_all
omit [Cur] in
theorem VR.un_nils{v:Value}(h:VR σ ρ .nils v):v = .slice none 0 0:=by cases h;rfl
omit [Cur] in
theorem VR.un_fz{n:Nat}{cs:List AV}{v:Value}(h:VR σ ρ (.fz n cs) v):(∃k off c arr,v = .slice (some ⟨k,off,none⟩) n c∧n<=c∧ρ.frz k=some arr∧CRs σ ρ.frz cs ((arr.toList.drop off).take cs.length))∨(n=0∧cs=[]∧∃a,v = .slice a 0 0):=by
 cases h<;>grind
omit [Cur] in
theorem VR.un_pf{off:Nat}{cs:List AV}{v:Value}(h:VR σ ρ (.pf cs off) v):∃k base arr,v = .pointer (some ⟨k,base+off,none⟩)∧ρ.frz k=some arr∧CRs σ ρ.frz cs ((arr.toList.drop base).take cs.length):=by
 cases h<;>grind
omit [Cur] in
theorem VR.un_nz{v:Value}(h:VR σ ρ .nz v):∃a c,v = .slice (some a) 0 c:=by cases h<;>simp_all
omit [Cur] in
theorem VR.un_e0{v:Value}(h:VR σ ρ .e0 v):∃a,v = .slice a 0 0:=by cases h<;>simp_all
omit [Cur] in
theorem VR.un_own{b n:Nat}{v:Value}(h:VR σ ρ (.own b n) v):(n=0∧(∃a,v = .slice a 0 0)∧b<ρ.n)∨∃L c,ρ b=some L∧n<=c∧L.off+c*L.esz<=L.size∧v = .slice (some ⟨L.blk,L.off,none⟩) n c:=by
 cases h<;>simp_all
omit [Cur] in
theorem qd0{p:AV}{p':Value}(hp:VR σ ρ p p'){n:Nat}{k:AV->Prop}(hk:qaK p n k):∃c o v,p' = .pointer (some ⟨c,o,none⟩)∧k v∧VR σ ρ v (.pointer (some ⟨c,o+n,none⟩)):=by
 cases p<;>try exact hk.elim
 ·obtain⟨L,h1,h2⟩:=hp.un_ptr;simp only[qaK,qg] at hk;exact⟨_,_,_,h2,hk,by rw[Nat.add_assoc];exact .ptr _ _ L h1⟩
 ·obtain⟨c,base,arr,h1,h2,h4⟩:=hp.un_pf;simp only[qaK,qg] at hk;exact⟨_,_,_,h1,hk,by rw[Nat.add_assoc];exact .pf _ base _ c arr h2 h4⟩
omit [Cur] in
theorem VR.un_sym{j:Nat}{v:Value}(h:VR σ ρ (.sym j) v):v=σ j:=by cases h;rfl
theorem qbH{v:AV}{v':Value}(h:VR σ ρ v v'){k:Bool->Prop}(hk:unB v k):∃x,v' = .bool x∧k x:=by
 cases v<;>first|exact hk.elim|exact⟨_,h.un_b,hk⟩
omit [Cur] in
theorem qct{v:AV}{v':Value}(h:VR σ ρ v v'){k:IntKind->Int->Prop}(hk:unI v k):∃q x,v' = .int q x∧k q x:=by
 cases v<;>first|exact hk.elim|exact⟨_,_,h.un_i,hk⟩
omit [Cur] in
theorem xK{v:AV}{v':Value}(h:VR σ ρ v v'){k:Nat->Prop}(hk:unN v k):∃q,∃x:Nat,v' = .int q (x:Int)∧k x:=by
 cases v<;>try exact hk.elim
 rename_i q n;cases n with
 | ofNat m=>exact⟨q,m,h.un_i,hk⟩
 | negSucc m=>exact hk.elim
omit [Cur] in
theorem qdI{v:AV}{v':Value}(h:VR σ ρ v v'){k:Nat->Nat->Prop}(hk:unP v k):∃b o L,ρ b=some L∧v' = .pointer (some ⟨L.blk,L.off+o,none⟩)∧k b o:=by
 cases v<;>first|exact hk.elim|(obtain⟨L,h1,h2⟩:=h.un_ptr;exact⟨_,_,L,h1,h2,hk⟩)
omit [Cur] in
theorem qa(x:Bool)(k:Prop):qb x k↔x=true∧k:=by
 cases x
 ·exact⟨fun h=>h.elim,fun h=>by grind⟩
 ·exact⟨fun h=>⟨rfl,h⟩,fun h=>h.2⟩
omit [Cur] in
theorem x6(x:Bool)(a b:Prop):(Bool.rec (motive:=fun _=>Prop) a b x)↔(x=false∧a)∨(x=true∧b):=by
 cases x<;>simp
theorem qiJ{t:Tr AV}{a:Act}(ht:TR σ ρ t a.tmps){x:Option O}{y:Option Operand}(hc:zj y x=true){k:Option AV->Prop}(h:zI t x k) :
  ∃v,k v∧((v=none∧y=none)∨∃u y',v=some u∧y=some y'∧VR σ ρ u (a.eval y')):=by
 cases x<;>cases y<;>simp[zj] at hc
 ·exact⟨none,h,.inl ⟨rfl,rfl⟩⟩
 ·obtain⟨v,h1,h2⟩:=ql ht hc h
  grind

section ops
variable {B:Nat->Prop} {h:Hp} {w:World} {a:Act} {t:Tr AV} {orc:Orc} {k:AV->Hp->Prop} {o:Oper}

theorem qgs(r:Rel σ ρ B h w)(ht:TR σ ρ t a.tmps){x:O}{y:Operand}(ho:o.op = .move y∨o.op = .assign y)(hc:qh y x=true)(hk:opK orc (.mov x) t h k):Res P σ ρ B h w (execOp a.eval o) k:=by
 obtain⟨v,h1,h2⟩:=ql ht hc hk;exact Res.pure r h1 (by rcases ho with ho|ho<;>simp[execOp,ho]) h2

theorem qiK(r:Rel σ ρ B h w)(ht:TR σ ρ t a.tmps){c x y:O}{c' x' y':Operand}(ho:o.op = .pick c' x' y')(hc1:qh c' c=true)(hc2:qh x' x=true)(hc3:qh y' y=true)(hk:opK orc (.pick c x y) t h k):Res P σ ρ B h w (execOp a.eval o) k:=by
 obtain⟨v,h1,h2⟩:=ql ht hc1 hk;obtain⟨b,h3,h4⟩:=qbH h2 h1;cases b with
 | true=>obtain⟨v,h5,h6⟩:=ql ht hc2 h4;exact Res.pure r h5 (by simp[execOp,ho,h3,asBool]) h6
 | false=>obtain⟨v,h5,h6⟩:=ql ht hc3 h4;exact Res.pure r h5 (by simp[execOp,ho,h3,asBool]) h6

theorem qgl(r:Rel σ ρ B h w)(ht:TR σ ρ t a.tmps){x:O}{ty:TypeId}{y:Operand}(ho:o.op = .load ty y)(hc:qh y x=true)(h1:zy P ty=false)(h2:(P.underlying ty).isSome=true)(hk:opK orc (.load1 x) t h k):Res P σ ρ B h w (execOp a.eval o) k:=by
 obtain⟨v,h3,h4⟩:=ql ht hc hk;obtain⟨c,off,v,v',h6,h8,h9,h10⟩:=qke r h4 h3;exact Res.pure r h8 (by simp[execOp,ho,h6,Instr.loadAt,Instr.sureAddr,loadVar,xA h2,h1,h10]) h9

theorem qgm(r:Rel σ ρ B h w)(ht:TR σ ρ t a.tmps){x:O}{n:Nat}{ty:TypeId}{y:Operand}(ho:o.op = .load ty y)(hc:qh y x=true)(h1:zy P ty=true)(h2:qo P ty n=true)(hk:opK orc (.loadN n x) t h k):Res P σ ρ B h w (execOp a.eval o) k:=by
 obtain⟨v,h3,h4⟩:=ql ht hc hk;obtain⟨c,off,vs,vs',h6,h8,h9,h10,h11⟩:=qim r h4 h3;exact Res.pure r h8 (by simp[execOp,ho,h6,Instr.loadAt,Instr.sureAddr,loadVar,xA (qaV h1),h1,qy h2,xe h10 h11]) (.agg _ _ h9)

omit [Cur] in
theorem VRs.cells(hσ:zq σ){v:AV}{v':Value}(hv:VR σ ρ v v')(hu:jD v=true):VRs σ ρ (cellsOf v) v'.cells.toList:=by
 have one:∀{v'},VR σ ρ v v'->v'.cells = #[v']->cellsOf v=[v]->VRs σ ρ (cellsOf v) v'.cells.toList:=by
  intro v' h1 h2 h3;rw[h2,h3];exact .cons _ _ _ _ h1 .nil
 cases hv with
 | undef=>cases hu
 | agg cs cs' h1=>exact h1
 | sym j =>
  refine one (.sym j) ?_ rfl;have:=hσ j;cases hs:σ j<;>simp[hs,Value.oneCell'] at this<;>rfl
 | b=>exact one (.b _) rfl rfl
 | i=>exact one (.i _ _) rfl rfl
 | s=>exact one (.s _) rfl rfl
 | nilp=>exact one .nilp rfl rfl
 | ptr b o L h=>exact one (.ptr b o L h) rfl rfl
 | nils=>exact one .nils rfl rfl
 | sl b o len cap c loose L h hc=>exact one (.sl b o len cap c loose L h hc) rfl rfl
 | slz b o x l L h=>exact one (.slz b o x l L h) rfl rfl
 | nilf=>exact one .nilf rfl rfl
 | fn f first cap a1 a2 h1 h2=>exact one (.fn f first cap a1 a2 h1 h2) rfl rfl
 | nili=>exact one .nili rfl rfl
 | ifc t v v' h=>exact one (.ifc t v v' h) rfl rfl
 | tup cs cs' h=>exact one (.tup cs cs' h) rfl rfl
 | nilm=>exact one .nilm rfl rfl
 | map b L h h0=>exact one (.map b L h h0) rfl rfl
 | fz n off c cs k arr hn h hs=>exact one (.fz n off c cs k arr hn h hs) rfl rfl
 | fz0 a=>exact one (.fz0 a) rfl rfl
 | pf off base cs k arr h hs=>exact one (.pf off base cs k arr h hs) rfl rfl
 | e0 a=>exact one (.e0 a) rfl rfl
 | nz a c=>exact one (.nz a c) rfl rfl
 | own0 b a hb=>exact one (.own0 b a hb) rfl rfl
 | own b n c L h hn hc=>exact one (.own b n c L h hn hc) rfl rfl
 | yl b L h=>exact one (.yl b L h) rfl rfl

theorem qfk(r:Rel σ ρ B h w){z:List AV}{ty:TypeId}(ho:o.op = .alloc ty)(hc:zt P ty z=true)(hk:opK orc (.alloc z) t h k):Res P σ ρ B h w (execOp a.eval o) k:=by
 obtain⟨i,v,h1,h2,h3,h4⟩:=xB hc;have hv:=zW (σ:=σ) (ρ:=ρ) _ _ h3;have hl:=hv.length;have hk':qN h (.cells 0 true false z) (fun b h'=>k (.ptr b 0) h'):=hk
 obtain⟨ρ',h',h5,h6,h7,h8⟩:=xH (w1:={ w with heap:=w.heap.push (.cells v.cells ty) }) r (c:=v.cells) (by grind) hk' rfl;refine⟨_,_,h',ρ',_,h5,.inl (?_:_=Result.ok (Next.value (.pointer (some ⟨w.heap.size,0,none⟩))) { w with heap:=w.heap.push (.cells v.cells ty) }),.ptr _ 0 _ h8,h6,h7⟩;simp[execOp,ho,Instr.alloc,xk h1 h2,newVar,newRow]

theorem qjB(hσ:zq σ)(r:Rel σ ρ B h w)(ht:TR σ ρ t a.tmps){x:O}{y:Operand}{ty:TypeId}(ho:o.op = .box ty y)(hc:qh y x=true)(hk:opK orc (.box x) t h k):Res P σ ρ B h w (execOp a.eval o) k:=by
 obtain⟨v,h1,h2⟩:=ql ht hc hk;obtain⟨hd,h1⟩:=(qa _ _).1 h1;have hv:=VRs.cells hσ h2 hd;have hl:=hv.length;obtain⟨ρ',h',h5,h6,h7,h8⟩:=xH (w1:={ w with heap:=w.heap.push (.cells (a.eval y).cells ty) }) r (c:=(a.eval y).cells) (by grind) h1 rfl;refine⟨_,_,h',ρ',_,h5,.inl (?_:_=Result.ok (Next.value (.pointer (some ⟨w.heap.size,0,none⟩))) { w with heap:=w.heap.push (.cells (a.eval y).cells ty) }),.ptr _ 0 _ h8,h6,h7⟩;simp[execOp,ho,Instr.box,newVar,newRow]

theorem qda(hσ:zq σ)(r:Rel σ ρ B h w)(ht:TR σ ρ t a.tmps){x v:O}{n:Nat}{y u:Operand}{ty:TypeId}(ho:o.op = .store ty y u)(hc:qh y x=true)(hc2:qh u v=true)(hs:qo P ty n=true)(hk:opK orc (.store n x v) t h k):Res P σ ρ B h w (execOp a.eval o) k:=by
 obtain⟨p,h1,h2⟩:=ql ht hc hk;obtain⟨b,off,L,h3,h4,h5⟩:=qdI h2 h1;obtain⟨q,h6,h7⟩:=ql ht hc2 h5;obtain⟨hd,h6⟩:=(qa _ _).1 h6;rw[zp] at h6;obtain⟨hn,h6⟩:=(qa _ _).1 h6;have hv:=VRs.cells hσ h7 hd;have hl:=hv.length;obtain⟨h',w',h8,h9,h10,h11⟩:=qd6 (P:=P) hσ r h3 hv h6;refine⟨_,_,h',ρ,w',h8,.inr ⟨?_,rfl⟩,.undef _,h9,h10⟩;have hn':(cellsOf q).length=n:=by simp_all
 have hsz:(a.eval u).cells.size=n:=by simp_all
 simp[execOp,ho,h4,Instr.storeAt,Instr.sureAddr,storeVar,qy hs,h11,hsz]

theorem qeP(r:Rel σ ρ B h w)(ht:TR σ ρ t a.tmps){x:O}{y:Operand}(ho:o.op = .nilCheck y)(hc:qh y x=true)(hk:opK orc (.nilChk x) t h k):Res P σ ρ B h w (execOp a.eval o) k:=by
 obtain⟨v,h1,h2⟩:=ql ht hc hk;cases v<;>try exact h1.elim
 ·obtain⟨L,h3,h4⟩:=h2.un_ptr;exact Res.pure r h1 (by simp[execOp,ho,h4]) (.ptr _ _ L h3)
 ·obtain⟨a',c',h3,h4,h5⟩:=h2.un_fn;exact Res.pure r h1 (by simp[execOp,ho,h5]) (.fn _ _ _ _ _ h3 h4)
 ·obtain⟨L,h3,h4,h5⟩:=h2.un_map;exact Res.pure r h1 (by simp[execOp,ho,h5]) (.map _ L h3 h4)
 ·obtain⟨c,base,arr,h3,h4,h6⟩:=h2.un_pf;exact Res.pure r h1 (by simp[execOp,ho,h3]) (.pf _ base _ c arr h4 h6)
 ·obtain⟨L,h3,h4⟩:=h2.un_yl;exact Res.pure r h1 (by simp[execOp,ho,h4]) (.yl _ L h3)
end ops

omit [Cur] in
theorem jk{op:BinOp}{t:TypeId}{x y:Operand}{u v:Value}(hu:∀cs,u≠.agg cs)(hu2:u≠.nilIface)(w:World):(eqGuard op t x y u v).run P w = .ok () w:=by
 cases u<;>first|exact absurd rfl hu2|exact absurd rfl (hu _)|(cases op<;>simp[eqGuard])

omit [Cur] in
theorem qcc(d:Nat){t:TypeId}(hu:P.underlying t=some .bool)(p q:Bool)(w:World):(Op.equalIn (d+1) t (.bool p) (.bool q)).run P w = .ok (p==q) w:=by
 rw[Op.equalIn];simp[qc hu]
omit [Cur] in
theorem qdp{t:TypeId}(hu:P.underlying t=some .bool)(p q:Bool)(w:World):(Op.equal t (.bool p) (.bool q)).run P w = .ok (p==q) w:=qcc 9999 hu p q w
section ops
variable {B:Nat->Prop} {h:Hp} {w:World} {a:Act} {t:Tr AV} {orc:Orc} {k:AV->Hp->Prop} {o:Oper}

omit [Cur] in
theorem qhn(ho:OrcOk P σ orc){op:BinOp}{x y:AV}{x' y':Value}(hx:VR σ ρ x x')(hy:VR σ ρ y y'){k:AV->Prop}(hk:qO orc op x y k){ty:TypeId}(w:World) :
  ∃r r',k r∧VR σ ρ r r'∧(binOp op ty x' y').run P w = .ok r' w∧(∀cs,x'≠.agg cs)∧x'≠.nilIface:=by
 have orcOk:∀{q:AV} {x y:AV},orc.bin op x y=some q->VR σ ρ x x'->VR σ ρ y y'->k q->∃r r',k r∧VR σ ρ r r'∧(binOp op ty x' y').run P w = .ok r' w:=by
  grind[OrcOk.bin]
 have orcK_ok:∀{m:Option AV},wq m k->∃q,m=some q∧k q:=by
  intro m hm;cases m with
  | none=>exact hm.elim
  | some q=>exact⟨q,rfl,hm⟩
 cases x<;>try exact hk.elim
 case i q n =>
  have ex:=hx.un_i;subst ex;cases y<;>try exact hk.elim
  case i q' m =>
   have ey:=hy.un_i;subst ey;have hnn:(∀cs,Value.int q n≠.agg cs)∧Value.int q n≠.nilIface:=⟨by simp_all,by simp_all⟩
   by_cases hs:op = .shl∨op = .shr
   ·have hk':qaN op q n m k:=by rcases hs with rfl|rfl<;>exact hk
    obtain⟨r,r',h1,h2,h3⟩:=qg6 (P:=P) (σ:=σ) (ρ:=ρ) hs (q':=q') hk' ty w
    grind
   ·have hk':qb (decide (q=q')) (qR op q n m k):=by cases op<;>first|exact hk|simp at hs
    obtain⟨h1,h2⟩:=(qa _ _).1 hk';have:q=q':=by simpa using h1
    subst this;obtain⟨r,r',h1,h2,h3⟩:=qeF (P:=P) (σ:=σ) (ρ:=ρ) h2 ty w
    grind
  case sym j =>
   obtain⟨q',h1,h2⟩:=orcK_ok hk
   grind
 case s l =>
  have ex:=hx.un_s;subst ex;cases y<;>try exact hk.elim
  case s l' =>
   have ey:=hy.un_s;subst ey;obtain⟨r,r',h1,h2,h3⟩:=qfb (P:=P) (σ:=σ) (ρ:=ρ) hk ty w
   grind
  case sym j =>
   obtain⟨q',h1,h2⟩:=orcK_ok hk
   grind
 case sym j =>
  obtain⟨q',h1,h2⟩:=orcK_ok hk;obtain⟨r,r',h3,h4,h5⟩:=orcOk h1 hx hy h2;cases hx with
  | sym =>
   refine⟨r,r',h3,h4,h5,?_,?_⟩
   ·intro cs hh;have:=ho.atoms j;rw[hh] at this;cases this
   ·intro hh;rcases ho.prim j with⟨_,_,e⟩|⟨_,e⟩|⟨_,e⟩<;>rw[e] at hh<;>cases hh

omit [Cur] in
theorem jQ{op:BinOp}{ty uy:TypeId}{x y:Operand}{r:Value}(ho:o.op = .binOp op ty x y uy)(hg:(eqGuard op ty x y (a.eval x) (a.eval y)).run P w = .ok () w)(hr:(binOp op ty (a.eval x) (a.eval y)).run P w = .ok r w) :
  (execOp a.eval o).run P w = .ok (.value r) w:=by
 simp[execOp,ho,hg,hr]

theorem qjz(horc:OrcOk P σ orc)(r:Rel σ ρ B h w)(ht:TR σ ρ t a.tmps){op:BinOp}{x y:O}{x' y':Operand}{ty uy:TypeId}(ho:o.op = .binOp op ty x' y' uy)(hc1:qh x' x=true)(hc2:qh y' y=true)(hk:opK orc (.bin op x y) t h k):Res P σ ρ B h w (execOp a.eval o) k:=by
 obtain⟨u,h1,h2⟩:=ql ht hc1 hk;obtain⟨v,h3,h4⟩:=ql ht hc2 h1;obtain⟨q,q',h5,h6,h7,h8,h9⟩:=qhn (P:=P) horc h2 h4 h3 (ty:=ty) w;exact Res.pure r h5 (by grind[jQ,jk]) h6

theorem qfO(r:Rel σ ρ B h w)(ht:TR σ ρ t a.tmps){neg:Bool}{op:BinOp}(hop:(op = .eql∧neg=false)∨(op = .neq∧neg=true)){x y:O}{x' y':Operand}{ty uy:TypeId}(ho:o.op = .binOp op ty x' y' uy)(hc1:qh x' x=true)(hc2:qh y' y=true)(hb:qbb P ty=true)(hk:opK orc (.eqB neg x y) t h k):Res P σ ρ B h w (execOp a.eval o) k:=by
 obtain⟨u,h1,h2⟩:=ql ht hc1 hk;obtain⟨v,h3,h4⟩:=ql ht hc2 h1;obtain⟨p,h5,h6⟩:=qbH h2 h3;obtain⟨q,h7,h8⟩:=qbH h4 h6
 have hu:P.underlying ty=some .bool:=by
  unfold qbb at hb;split at hb
  ·assumption
  ·cases hb
 rw[qj] at h8;refine Res.pure r h8 (jQ (r:=.bool (xor neg (p==q))) ho (jk (by rw[h5];intro _ hh;cases hh) (by rw[h5];intro hh;cases hh) w) ?_) (.b _);rw[h5,h7];rcases hop with⟨rfl,rfl⟩|⟨rfl,rfl⟩<;>simp[binOp,qdp hu]

theorem qmB(r:Rel σ ρ B h w)(ht:TR σ ρ t a.tmps){op:UnOp}{x:O}{y:Operand}{ty:TypeId}(ho:o.op = .unOp op ty y)(hc:qh y x=true)(hk:opK orc (.un op x) t h k):Res P σ ρ B h w (execOp a.eval o) k:=by
 obtain⟨v,h1,h2⟩:=ql ht hc hk;cases op
 ·cases v<;>try exact h1.elim
  have e:=h2.un_i;have h1':=h1;simp only[xS,qB] at h1';exact Res.pure r h1' (by simp[execOp,ho,e,Op.unary,Op.intArith]) (.i _ _)
 ·cases v<;>try exact h1.elim
  have e:=h2.un_i;have h1':=h1;simp only[xS,qB] at h1';exact Res.pure r h1' (by simp[execOp,ho,e,Op.unary,Op.intBits]) (.i _ _)
 ·cases v<;>try exact h1.elim
  have e:=h2.un_b;have h1':=h1;simp only[xS,qj] at h1';exact Res.pure r h1' (by simp[execOp,ho,e,Op.unary]) (.b _)
 ·exact h1.elim

theorem qfK(horc:OrcOk P σ orc)(r:Rel σ ρ B h w)(ht:TR σ ρ t a.tmps){q:IntKind}{x:O}{y:Operand}{s d:TypeId}(ho:o.op = .convert s d y)(hc:qh y x=true)(hs:(P.underlying s).isSome=true)(hd:qcX P d q=true)(hk:opK orc (.cvInt q x) t h k):Res P σ ρ B h w (execOp a.eval o) k:=by
 obtain⟨v,h1,h2⟩:=ql ht hc hk;obtain⟨ds,hs⟩:=Option.isSome_iff_exists.1 hs
 have key:∃r' p n,k r' h∧a.eval y = .int p n∧VR σ ρ r' (.int q (q.wrap n)):=by
  cases v<;>try exact h1.elim
  case i p n =>
   have e:=h2.un_i;have h4:qQ (qay q n) (fun r=>k (.i q r) h):=h1
   rw[qB,jf] at h4;exact⟨_,p,n,h4,e,.i _ _⟩
  case sym j =>
   have h4:wq (orc.cv q j) (fun v=>k v h):=h1
   have e:=h2.un_sym;cases hq:orc.cv q j with
   | none=>rw[hq] at h4;exact h4.elim
   | some r' =>
    rw[hq] at h4;obtain⟨p,n,h5,h6⟩:=horc.cv _ _ _ hq;exact⟨r',p,n,h4,e.trans h5,h6 ρ⟩
 obtain⟨r',p,n,h4,h3,h5⟩:=key;refine Res.pure r h4 (v':=.int q (q.wrap n)) ?_ h5;simp only[execOp,ho,convert,Sem.run_bind,qc hs,qc (jS hd),Result.andThen_ok,h3];cases ds<;>simp[Conv.intToInt]

theorem qfL(r:Rel σ ρ B h w)(ht:TR σ ρ t a.tmps){x:O}{y:Operand}{s d:TypeId}(ho:o.op = .convert s d y)(hc:qh y x=true)(hs:qV P s=true)(hd:qV P d=true)(hk:opK orc (.cvStr x) t h k):Res P σ ρ B h w (execOp a.eval o) k:=by
 obtain⟨v,h1,h2⟩:=ql ht hc hk;cases v<;>try exact h1.elim
 have e:=h2.un_s;exact Res.pure r h1 (by simp[execOp,ho,convert,qc (qE hs),qc (qE hd),e]) (.s _)

theorem qfW(r:Rel σ ρ B h w)(ht:TR σ ρ t a.tmps){off f:Nat}{x:O}{y:Operand}{ty:TypeId}(ho:o.op = .fieldAddr ty y f)(hc:qh y x=true){fs:Array Field}(h1:fieldsOf P ty=some fs){fd:Field}(h2:fs[f]?=some fd)(h3:fd.offset=off)(h4:qo P fd.type 0=false)(h5:(P.info? fd.type).isSome=true)(hk:opK orc (.fAddr off x) t h k):Res P σ ρ B h w (execOp a.eval o) k:=by
 obtain⟨v,h6,h7⟩:=ql ht hc hk;obtain⟨b,o',u,h9,h10,h8⟩:=qd0 h7 h6;obtain⟨i,hi⟩:=Option.isSome_iff_exists.1 h5;have hz:i.size≠0:=by unfold qo at h4;rw[hi] at h4;simp_all
 refine Res.pure r h10 (v':=.pointer (some ⟨b,o'+off,none⟩)) ?_ h8;simp[execOp,ho,Instr.fieldAt,qc (xU h1),h2,h9,Instr.sureAddr,fieldPlace,sizeOf,typeInfo,hi,hz,qT,h3]

theorem qjX(r:Rel σ ρ B h w)(ht:TR σ ρ t a.tmps){off f:Nat}{n:Option Nat}{x:O}{y:Operand}{ty:TypeId}(ho:o.op = .field ty y f)(hc:qh y x=true)(hf:qbj P ((fieldsOf P ty).bind (·[f]?)) off n=true)(hk:opK orc (.fld off n x) t h k):Res P σ ρ B h w (execOp a.eval o) k:=by
 obtain⟨v,h1,h2⟩:=ql ht hc hk;cases v<;>try exact h1.elim
 rename_i cs;obtain⟨vs,h3,h4⟩:=h2.un_agg;cases hfs:fieldsOf P ty with
 | none=>rw[hfs] at hf;cases n<;>cases hf
 | some fs =>
  rw[hfs] at hf;cases hfd:fs[f]? with
  | none=>simp[hfd,qbj] at hf
  | some fd =>
   simp only[Option.bind_some,hfd] at hf;cases n with
   | none =>
    simp[qbj] at hf;have h1':wo cs off (fun v=>k v h):=h1
    obtain⟨v,h5,h6⟩:=(qX _ _ _).1 h1';obtain⟨v',h7,h8⟩:=h3.get h5;refine Res.pure r h6 (v':=v') ?_ h8;have hp:=(jc (P:=P) (t:=fd.type) vs fd.offset w).1 (v:=v') hf.1.2 hf.2 (by rw[hf.1.1];simp_all);simp[execOp,ho,Instr.field,qc (xU hfs),hfd,h4,asAgg,hp]
   | some n =>
    simp[qbj] at hf;have h1':xg off cs (fun l=>zN n l (fun l=>k (.agg l) h)):=h1
    obtain⟨h5,h6⟩:=(qA _ _ _).1 h1';obtain⟨h7,h8⟩:=(qt _ _ _).1 h6;have hp:=(jc (P:=P) (t:=fd.type) vs fd.offset w).2 (n:=n) hf.1.2 hf.2;refine Res.pure r h8 (v':=.agg (vs.extract off (off+n))) ?_ (.agg _ _ ?_)
    ·rw[hf.1.1] at hp;simp[execOp,ho,Instr.field,qc (xU hfs),hfd,h4,asAgg,hp,hf.1.1]
    simp_all[VRs.take,VRs.drop]

theorem qeC(r:Rel σ ρ B h w)(ht:TR σ ρ t a.tmps){len esz:Nat}{x i:O}{x' i':Operand}{ty e:TypeId}(ho:o.op = .indexAddr ty x' i')(hc1:qh x' x=true)(hc2:qh i' i=true)(h1:wc P ty=some (len,e))(h2:qo P e esz=true)(hk:opK orc (.iAddrA len esz x i) t h k):Res P σ ρ B h w (execOp a.eval o) k:=by
 obtain⟨v,h3,h4⟩:=ql ht hc1 hk;obtain⟨u,h8,h9⟩:=ql ht hc2 h3;obtain⟨q,n,h10,h11⟩:=xK h9 h8;obtain⟨h12,h13⟩:=(qa _ _).1 h11;obtain⟨b,o',u2,h6,h14,h5⟩:=qd0 h4 h13;have hlt:n<len:=by rw[xL] at h12;grind
 refine Res.pure r h14 (v':=.pointer (some ⟨b,o'+n*esz,none⟩)) ?_ h5;simp[execOp,ho,Instr.indexAt,h6,h10,asIntOf,qc (xC h1),Instr.sureAddr,hlt,qy h2,qT]

theorem qeD(r:Rel σ ρ B h w)(ht:TR σ ρ t a.tmps){esz:Nat}{x i:O}{x' i':Operand}{ty e:TypeId}(ho:o.op = .indexAddr ty x' i')(hc1:qh x' x=true)(hc2:qh i' i=true)(h1:qx P ty=some e)(h2:qo P e esz=true)(hk:opK orc (.iAddrS esz x i) t h k):Res P σ ρ B h w (execOp a.eval o) k:=by
 obtain⟨v,h3,h4⟩:=ql ht hc1 hk;cases v<;>try exact h3.elim
 rotate_left
 ·rename_i len cs;obtain⟨u,h8,h9⟩:=ql ht hc2 h3;obtain⟨q,n,h10,h11⟩:=xK h9 h8;obtain⟨h12,h13⟩:=(qa _ _).1 h11;rw[qg] at h13;have hlt:n<len:=by rw[xL] at h12;grind
  rcases h4.un_fz with⟨k0,off,c,arr,h5,_,h6,h14⟩|⟨h5,_⟩
  ·refine Res.pure r h13 (v':=.pointer (some ⟨k0,off+n*esz,none⟩)) ?_ (.pf _ off _ k0 arr h6 h14);simp[execOp,ho,Instr.indexAt,h5,h10,asIntOf,qc (qr h1),hlt,qy h2,qT]
  ·omega
 ·rename_i b len;obtain⟨u,h8,h9⟩:=ql ht hc2 h3;obtain⟨q,n,h10,h11⟩:=xK h9 h8;obtain⟨h12,h13⟩:=(qa _ _).1 h11;rw[qg] at h13;have hlt:n<len:=by rw[xL] at h12;grind
  rcases h4.un_own with⟨h5,_,_⟩|⟨L,c,h5,h6,h7,h14⟩
  ·omega
  ·refine Res.pure r h13 (v':=.pointer (some ⟨L.blk,L.off+n*esz,none⟩)) ?_ (.ptr _ _ L h5);simp[execOp,ho,Instr.indexAt,h14,h10,asIntOf,qc (qr h1),hlt,qy h2,qT]
 rename_i b o' len cap loose;obtain⟨L,c,off,h5,h7,h6⟩:=h4.un_sl;obtain⟨u,h8,h9⟩:=ql ht hc2 h3;obtain⟨q,n,h10,h11⟩:=xK h9 h8;obtain⟨h12,h13⟩:=(qa _ _).1 h11;rw[qg] at h13;have hlt:n<len:=by rw[xL] at h12;grind
 have hoff:off=L.off+o':=by rcases h6 with⟨h6,_⟩|⟨h6,_,_⟩<;>omega
 subst hoff;refine Res.pure r h13 (v':=.pointer (some ⟨L.blk,L.off+(o'+n*esz),none⟩)) ?_ (.ptr _ _ L h5);simp[execOp,ho,Instr.indexAt,h7,h10,asIntOf,qc (qr h1),hlt,qy h2,qT,Nat.add_assoc]
end ops
omit [Cur] in
theorem jN(l:List UInt8):(ByteArray.mk l.toArray).size=l.length:=by simp[ByteArray.size]
omit [Cur] in
theorem qjx(l:List UInt8)(n:Nat):(ByteArray.mk l.toArray)[n]?=l[n]?:=by
 by_cases h:n<l.length
 ·have h2:n<(ByteArray.mk l.toArray).size:=by simpa[ByteArray.size] using h
  rw[getElem?_pos (ByteArray.mk l.toArray) n h2,zzE h];rfl
 ·have h2:¬n<(ByteArray.mk l.toArray).size:=by simpa[ByteArray.size] using h
  rw[getElem?_neg (ByteArray.mk l.toArray) n h2,List.getElem?_eq_none (by omega)]
section ops
variable {B:Nat->Prop} {h:Hp} {w:World} {a:Act} {t:Tr AV} {orc:Orc} {k:AV->Hp->Prop} {o:Oper}

theorem qid(r:Rel σ ρ B h w)(ht:TR σ ρ t a.tmps){len esz:Nat}{agg:Bool}{x i:O}{x' i':Operand}{ty e:TypeId}(ho:o.op = .index ty x' i')(hc1:qh x' x=true)(hc2:qh i' i=true)(h1:wc P ty=some (len,e))(h2:qo P e esz=true)(hag:zy P e=agg)(hu:(P.underlying e).isSome=true)(hk:opK orc (.idxA len esz agg x i) t h k):Res P σ ρ B h w (execOp a.eval o) k:=by
 obtain⟨v,h3,h4⟩:=ql ht hc1 hk;cases v<;>try exact h3.elim
 rename_i cs;obtain⟨vs,h5,h6⟩:=h4.un_agg;obtain⟨u,h8,h9⟩:=ql ht hc2 h3;obtain⟨q,n,h10,h11⟩:=xK h9 h8;obtain⟨h12,h13⟩:=(qa _ _).1 h11;rw[qg] at h13;have hlt:n<len:=by rw[xL] at h12;grind
 cases agg with
 | false =>
  have h14:wo cs (n*esz) (fun v=>k v h):=h13
  obtain⟨v,h15,h16⟩:=(qX _ _ _).1 h14;obtain⟨v',h17,h18⟩:=h5.get h15;have hp:=(jc (P:=P) (t:=e) vs (n*esz) w).1 (v:=v') hag hu (by simp_all);refine Res.pure r h16 (v':=v') ?_ h18;simp[execOp,ho,Instr.index,h6,h10,asIntOf,qc (xC h1),hlt,qy h2,hp]
 | true =>
  have h14:xg (n*esz) cs (fun l=>zN esz l (fun l=>k (.agg l) h)):=h13
  obtain⟨_,h15⟩:=(qA _ _ _).1 h14;obtain⟨_,h16⟩:=(qt _ _ _).1 h15;have hp:=(jc (P:=P) (t:=e) vs (n*esz) w).2 (n:=esz) hag h2;refine Res.pure r h16 (v':=.agg (vs.extract (n*esz) (n*esz+esz))) ?_ (.agg _ _ ?_)
  ·simp[execOp,ho,Instr.index,h6,h10,asIntOf,qc (xC h1),hlt,qy h2,hp]
  simp_all[VRs.take,VRs.drop]

theorem qie(r:Rel σ ρ B h w)(ht:TR σ ρ t a.tmps){x i:O}{x' i':Operand}{ty:TypeId}(ho:o.op = .index ty x' i')(hc1:qh x' x=true)(hc2:qh i' i=true)(h1:qV P ty=true)(hk:opK orc (.idxS x i) t h k):Res P σ ρ B h w (execOp a.eval o) k:=by
 obtain⟨v,h3,h4⟩:=ql ht hc1 hk;cases v<;>try exact h3.elim
 rename_i l;have h6:=h4.un_s;obtain⟨u,h8,h9⟩:=ql ht hc2 h3;obtain⟨q,n,h10,h11⟩:=xK h9 h8;cases hg:l[n]? with
 | none=>rw[hg] at h11;simp_all
 | some c =>
  rw[hg] at h11;refine Res.pure r h11 (v':=.int .u8 (c.toNat:Int)) ?_ (.i _ _);have hn:n<l.length:=by grind
  have hb:=(qjx l n).trans hg;simp[execOp,ho,Instr.index,h6,h10,asIntOf,qc (qE h1),hb]

theorem qjS(r:Rel σ ρ B h w)(ht:TR σ ρ t a.tmps){x:O}{i:Nat}{y:Operand}(ho:o.op = .extract y i)(hc:qh y x=true)(hk:opK orc (.ext x i) t h k):Res P σ ρ B h w (execOp a.eval o) k:=by
 obtain⟨v,h1,h2⟩:=ql ht hc hk;cases v<;>try exact h1.elim
 rename_i cs;obtain⟨vs,h3,h4⟩:=h2.un_tup;have h1':wo cs i (fun v=>k v h):=h1
 obtain⟨v,h5,h6⟩:=(qX _ _ _).1 h1';obtain⟨v',h7,h8⟩:=h3.get h5;exact Res.pure r h6 (by simp only[Array.getElem?_toList] at h7;simp[execOp,ho,h4,Instr.extract,h7]) h8

theorem qkr(r:Rel σ ρ B h w)(ht:TR σ ρ t a.tmps){f:Nat}{xs cs:List O}{ys ds:Array Operand}(ho:o.op = .makeFunc (.func f) ys ds)(hc1:x8 ys.toList xs=true)(hc2:x8 ds.toList cs=true)(hk:opK orc (.mkF f xs cs) t h k):Res P σ ρ B h w (execOp a.eval o) k:=by
 obtain⟨vs,h1,h2⟩:=wl ht hc1 hk;obtain⟨us,h3,h4⟩:=wl ht hc2 h1;exact Res.pure r h3 (v':=.func (.func f) (ys.map a.eval) (ds.map a.eval)) (by simp[execOp,ho,Instr.makeFunc]) (.fn _ _ _ _ _ (by simp_all) (by simp_all))

theorem qeK(r:Rel σ ρ B h w){ty:TypeId}{y:Operand}{n:Nat}{m:Int}{args:Array TypeId}{ops:Array Operand}(ho:o.op = .call ⟨.builtin .len,ops,args⟩)(hops:ops.toList=[y])(hr:args[0]?=some ty){e:TypeId}(h1:wc P ty=some (n,e))(hm:m=(n:Int))(hk:opK orc (.mov (.c (.i .i64 m))) t h k):Res P σ ρ B h w (execOp a.eval o) k:=by
 subst hm;have hk':k (.i .i64 (n:Int)) h:=hk;obtain rfl:ops = #[y]:=by grind
 exact Res.pure r hk' (v':=.int .i64 n) (by simp[execOp,ho,resolve,invoke,builtin,Builtin.len_,hr,qc (xC h1),goInt]) (.i _ _)

theorem qkj(horc:OrcOk P σ orc)(r:Rel σ ρ B h w)(ht:TR σ ρ t a.tmps){str:Bool}{ty:TypeId}{x:O}{y:Operand}{args:Array TypeId}{ops:Array Operand}(ho:o.op = .call ⟨.builtin .len,ops,args⟩)(hops:ops.toList=[y])(hr:args[0]?=some ty)(h1:(if str then qV P ty else (qx P ty).isSome)=true)(hc:qh y x=true)(hk:opK orc (.len str x) t h k):Res P σ ρ B h w (execOp a.eval o) k:=by
 obtain⟨v,h2,h3⟩:=ql ht hc hk;obtain rfl:ops = #[y]:=by grind
 cases str with
 | false =>
  obtain⟨e,he⟩:=Option.isSome_iff_exists.1 (by simpa using h1);have hu:=qr he;cases v<;>try exact h2.elim
  ·have e':=h3.un_nils;exact Res.pure r (v:=.i .i64 0) h2 (by simp[execOp,ho,resolve,invoke,builtin,Builtin.len_,hr,qc hu,e',goInt]) (.i _ _)
  ·obtain⟨L,c,_,_,e',_⟩:=h3.un_sl;exact Res.pure r (v:=.i .i64 (Int.ofNat _)) h2 (by simp[execOp,ho,resolve,invoke,builtin,Builtin.len_,hr,qc hu,e',goInt]) (.i _ _)
  ·rcases h3.un_fz with⟨k0,off,c,arr,e',_⟩|⟨rfl,_,a0,e'⟩
   ·exact Res.pure r (v:=.i .i64 (Int.ofNat _)) h2 (by simp[execOp,ho,resolve,invoke,builtin,Builtin.len_,hr,qc hu,e',goInt]) (.i _ _)
   ·exact Res.pure r (v:=.i .i64 (Int.ofNat _)) h2 (by simp[execOp,ho,resolve,invoke,builtin,Builtin.len_,hr,qc hu,e',goInt]) (.i _ _)
  ·obtain⟨a0,e'⟩:=h3.un_e0;exact Res.pure r (v:=.i .i64 0) h2 (by simp[execOp,ho,resolve,invoke,builtin,Builtin.len_,hr,qc hu,e',goInt]) (.i _ _)
  ·rcases h3.un_own with⟨rfl,⟨a0,e'⟩,_⟩|⟨L,c,_,_,_,e'⟩
   ·exact Res.pure r (v:=.i .i64 (Int.ofNat _)) h2 (by simp[execOp,ho,resolve,invoke,builtin,Builtin.len_,hr,qc hu,e',goInt]) (.i _ _)
   ·exact Res.pure r (v:=.i .i64 (Int.ofNat _)) h2 (by simp[execOp,ho,resolve,invoke,builtin,Builtin.len_,hr,qc hu,e',goInt]) (.i _ _)
  ·obtain⟨a0,c0,e'⟩:=h3.un_nz;exact Res.pure r (v:=.i .i64 0) h2 (by simp[execOp,ho,resolve,invoke,builtin,Builtin.len_,hr,qc hu,e',goInt]) (.i _ _)
 | true =>
  have hu:=qE (P:=P) (t:=ty) (by simp_all);cases v<;>try exact h2.elim
  ·have e':=h3.un_s;have h2':qd _ _:=h2;rw[qg] at h2';exact Res.pure r (v:=.i .i64 (Int.ofNat _)) h2' (by simp[execOp,ho,resolve,invoke,builtin,Builtin.len_,hr,qc hu,e',goInt,jN]) (.i _ _)
  ·rename_i j;have h2':wq (orc.len j) (fun v=>k v h):=h2
   cases hq:orc.len j with
   | none=>rw[hq] at h2';exact h2'.elim
   | some q =>
    rw[hq] at h2';obtain⟨s,hs,hv⟩:=horc.len _ _ hq;have e':a.eval y = .string s:=h3.un_sym.trans hs;exact Res.pure r h2' (by simp[execOp,ho,resolve,invoke,builtin,Builtin.len_,hr,qc hu,e',goInt]) (hv _)

theorem qjD(r:Rel σ ρ B h w)(ht:TR σ ρ t a.tmps){ty:TypeId}{x:O}{y:Operand}{args:Array TypeId}{ops:Array Operand}(ho:o.op = .call ⟨.builtin .cap,ops,args⟩)(hops:ops.toList=[y])(hr:args[0]?=some ty)(h1:(qx P ty).isSome=true)(hc:qh y x=true)(hk:opK orc (.cap x) t h k):Res P σ ρ B h w (execOp a.eval o) k:=by
 obtain⟨v,h2,h3⟩:=ql ht hc hk;obtain rfl:ops = #[y]:=by cases ops;simpa using hops
 obtain⟨e,he⟩:=Option.isSome_iff_exists.1 h1;have hu:=qr he;cases v<;>try exact h2.elim
 ·have e':=h3.un_nils;exact Res.pure r (v:=.i .i64 0) h2 (by simp[execOp,ho,resolve,invoke,builtin,Builtin.cap_,hr,qc hu,e',goInt]) (.i _ _)
 ·rename_i b o' len cap loose;cases loose with
  | true=>exact h2.elim
  | false =>
   obtain⟨L,c,off,h4,e',h5⟩:=h3.un_sl
   have hcc:c=cap:=by
    rcases h5 with⟨_,q1|⟨q1,_⟩⟩|⟨_,q1,q2⟩
    ·exact q1
    ·cases q1
    ·exact q2.trans q1.symm
   subst hcc;exact Res.pure r (v:=.i .i64 (Int.ofNat _)) h2 (by simp[execOp,ho,resolve,invoke,builtin,Builtin.cap_,hr,qc hu,e',goInt]) (.i _ _)
 ·obtain⟨a0,e'⟩:=h3.un_e0;exact Res.pure r (v:=.i .i64 0) h2 (by simp[execOp,ho,resolve,invoke,builtin,Builtin.cap_,hr,qc hu,e',goInt]) (.i _ _)

theorem qkp(r:Rel σ ρ B h w)(ht:TR σ ρ t a.tmps){x y:O}{x' y':Operand}{args:Array TypeId}{ops:Array Operand}(ho:o.op = .call ⟨.builtin .max,ops,args⟩)(hops:ops.toList=[x',y'])(hc:qh x' x=true)(hc2:qh y' y=true)(hk:opK orc (.max x y) t h k):Res P σ ρ B h w (execOp a.eval o) k:=by
 obtain⟨u,h1,h2⟩:=ql ht hc hk;obtain⟨v,h3,h4⟩:=ql ht hc2 h1;obtain rfl:ops = #[x',y']:=by grind
 obtain⟨q,n,h5,h6⟩:=qct h2 h3;obtain⟨q',m,h7,h8⟩:=qct h4 h6
 have hrun:(execOp a.eval o).run P w = .ok (.value (.int q (if m > n then m else n))) w:=by
  simp[execOp,ho,resolve,invoke,builtin,Builtin.max_,Builtin.max2,h5,h7]
 rw[xn] at h8
 by_cases hlt:n<m
 ·simp only[hlt,decide_true] at h8;exact Res.pure r h8 (by rw[hrun,if_pos hlt]) (.i _ _)
 ·simp only[hlt,decide_false] at h8;exact Res.pure r h8 (by rw[hrun,if_neg hlt]) (.i _ _)
end ops

def qfd(σ:Nat->Value)(ρ:Ren)(v:Option AV)(y:Option Value):Prop:=(v=none∧y=none)∨∃u y',v=some u∧y=some y'∧VR σ ρ u y'

omit [Cur] in
theorem qa6{v:Option AV}{y:Option Value}(hv:qfd σ ρ v y){d top topR:Nat}(ht:top<=topR){k:Nat->Prop}(hk:qai v d top k)(code:Instr.sliceBound=Instr.sliceBound->BoundsCode)(w:World) :
  ∃n,k n∧((v=none∧y=none∧n=d)∨∃u,y=some u∧v≠none∧n<=top∧(Instr.sliceBound u topR (code rfl)).run P w = .ok n w):=by
 rcases hv with⟨rfl,rfl⟩|⟨u,y',rfl,rfl,hv⟩
 ·exact⟨d,hk,by simp_all⟩
 ·have hk':unN u (fun n=>qb (Nat.ble n top) (qd n k)):=hk
  obtain⟨q,n,e,h1⟩:=xK hv hk';obtain⟨h2,h3⟩:=(qa _ _).1 h1;rw[qg] at h3;rw[xL] at h2;have h4:n<=top:=by simp_all
  refine⟨n,h3,.inr ⟨_,rfl,by simp,h4,?_⟩⟩
  have:(0:Int)<=n∧(n:Int)<=topR:=by omega
  simp[Instr.sliceBound,e,asIntOf,this]

omit [Cur] in
theorem zg{lo hi mx:Option AV}{lo' hi' mx':Option Value}(h1:qfd σ ρ lo lo')(h2:qfd σ ρ hi hi')(h3:qfd σ ρ mx mx'){len cap capR:Nat}(hc:cap<=capR){k:Nat->Nat->Nat->Prop}(hk:qF len cap lo hi mx k)(isSlice:Bool)(w:World) :
  ∃l h m mR,k l h m∧(Instr.sliceBounds isSlice len capR lo' hi' mx').run P w = .ok (l,h,mR) w∧l<=h∧h<=m∧m<=cap∧((mx=none∧m=cap∧mR=capR)∨(mx≠none∧mR=m)):=by
 have hk':qai mx cap cap (fun m=>Option.rec (motive:=fun _=>Prop) (Option.rec (motive:=fun _=>Prop) (qb (Nat.ble len m) (qai lo 0 len (fun l=>k l len m))) (fun _=>False) mx)
  (fun v=>unN v (fun h=>qb (Nat.ble h m) (qd h (fun h=>qai lo 0 h (fun l=>k l h m))))) hi):=hk
 obtain⟨m,hm,hm2⟩:=qa6 (P:=P) h3 hc hk' (fun _=>if isSlice then .slice3Acap else .slice3Alen) w
 rcases h2 with⟨rfl,rfl⟩|⟨u,y',rfl,rfl,hv⟩
 ·rcases hm2 with⟨rfl,rfl,rfl⟩|⟨u,rfl,hne,_⟩
  ·have hm':qb (Nat.ble len m) (qai lo 0 len (fun l=>k l len m)):=hm
   obtain⟨h4,h5⟩:=(qa _ _).1 hm';rw[xL] at h4;obtain⟨l,h6,h7⟩:=qa6 (P:=P) h1 (Nat.le_refl _) h5 (fun _=>.sliceB) w
   rcases h7 with⟨rfl,rfl,rfl⟩|⟨u,rfl,_,h8,h9⟩
   ·exact⟨0,len,m,capR,h6,by simp[Instr.sliceBounds],Nat.zero_le _,by simp_all,Nat.le_refl _,by simp_all⟩
   ·exact⟨l,len,m,capR,h6,by simp[Instr.sliceBounds,h9],h8,by simp_all,Nat.le_refl _,by simp_all⟩
  ·cases mx<;>simp_all
 ·have hm':unN u (fun h=>qb (Nat.ble h m) (qd h (fun h=>qai lo 0 h (fun l=>k l h m)))):=hm
  obtain⟨q,h,e,h4⟩:=xK hv hm';obtain⟨h5,h6⟩:=(qa _ _).1 h4;rw[qg] at h6;rw[xL] at h5;have h5':h<=m:=by simp_all
  rcases hm2 with⟨rfl,rfl,rfl⟩|⟨v,rfl,hne,hmt,hmr⟩
  ·obtain⟨l,h7,h8⟩:=qa6 (P:=P) h1 (Nat.le_refl _) h6 (fun _=>.sliceB) w
   have hh:∀code,(Instr.sliceBound y' capR code).run P w = .ok h w:=by
    intro code;have:(h:Int)<=capR:=by omega
    simp[Instr.sliceBound,e,asIntOf];omega
   rcases h8 with⟨rfl,rfl,rfl⟩|⟨v,rfl,_,h8,h9⟩
   ·exact⟨0,h,m,capR,h7,by simp[Instr.sliceBounds,hh],Nat.zero_le _,h5',Nat.le_refl _,.inl ⟨rfl,rfl,rfl⟩⟩
   ·exact⟨l,h,m,capR,h7,by simp[Instr.sliceBounds,hh,h9],h8,h5',Nat.le_refl _,.inl ⟨rfl,rfl,rfl⟩⟩
  ·obtain⟨l,h7,h8⟩:=qa6 (P:=P) h1 (Nat.le_refl _) h6 (fun _=>.slice3C) w
   have hh:∀code,(Instr.sliceBound y' m code).run P w = .ok h w:=by
    intro code;simp[Instr.sliceBound,e,asIntOf];omega
   have hmr':(Instr.sliceBound v capR (if isSlice=true then .slice3Acap else .slice3Alen)).run P w = .ok m w:=hmr
   rcases h8 with⟨rfl,rfl,rfl⟩|⟨z,rfl,_,h8,h9⟩
   ·exact⟨0,h,m,m,h7,by simp[Instr.sliceBounds,hmr',hh],Nat.zero_le _,h5',hmt,.inr ⟨hne,rfl⟩⟩
   ·exact⟨l,h,m,m,h7,by simp[Instr.sliceBounds,hmr',hh,h9],h8,h5',hmt,.inr ⟨hne,rfl⟩⟩

theorem xP{t:Tr AV}{a:Act}(ht:TR σ ρ t a.tmps){x:Option O}{y:Option Operand}(hc:zj y x=true){k:Option AV->Prop}(h:zI t x k):∃v,k v∧qfd σ ρ v (y.map a.eval):=by
 obtain⟨v,h1,h2⟩:=qiJ ht hc h;rcases h2 with⟨rfl,rfl⟩|⟨u,y',rfl,rfl,h3⟩
 ·exact⟨none,h1,.inl ⟨rfl,rfl⟩⟩
 ·exact⟨some u,h1,.inr (by simp_all)⟩

section ops
variable {B:Nat->Prop} {h:Hp} {w:World} {a:Act} {t:Tr AV} {orc:Orc} {k:AV->Hp->Prop} {o:Oper}

theorem qiW(r:Rel σ ρ B h w)(ht:TR σ ρ t a.tmps){esz:Nat}{x:O}{lo hi mx:Option O}{x':Operand}{lo' hi' mx':Option Operand}{ty e:TypeId}(ho:o.op = .slice ty x' lo' hi' mx')(hc:qh x' x=true)(hc1:zj lo' lo=true)(hc2:zj hi' hi=true)(hc3:zj mx' mx=true)(h1:qx P ty=some e)(h2:qo P e esz=true)(hk:opK orc (.slcS esz x lo hi mx) t h k):Res P σ ρ B h w (execOp a.eval o) k:=by
 obtain⟨v,h3,h4⟩:=ql ht hc hk;obtain⟨l,h5,hl⟩:=xP ht hc1 h3;obtain⟨hh,h6,hhi⟩:=xP ht hc2 h5;obtain⟨m,h7,hm⟩:=xP ht hc3 h6;have hu:=qr h1;cases v<;>try exact h7.elim
 ·obtain⟨l0,h0,m0,mR,h8,h9,h10,h11,h12,h13⟩:=zg (P:=P) hl hhi hm (Nat.le_refl 0) h7 true w;refine Res.pure r h8 (v':=.slice none 0 0) ?_ .nils;have:l0=0∧h0=0∧mR=0:=by rcases h13 with⟨_,_,_⟩|⟨_,_⟩<;>omega
  obtain⟨rfl,rfl,rfl⟩:=this;simp[execOp,ho,Instr.sliceAt,qc hu,Instr.slice,h4.un_nils,h9,qy h2]
 rotate_left 1
 ·rename_i n cs
  -- a row that stays
  have hgo:∀(l0 h0 m0:Nat),Bool.rec (motive:=fun _=>Prop) (xg (Nat.mul l0 esz) cs (fun l1=>qd (h0-l0) (fun len'=>zN (Nat.mul len' esz) l1 (fun l2=>k (.fz len' l2) h)))) (k .e0 h) (and m.isSome (Nat.beq m0 l0))->
    ((and m.isSome (Nat.beq m0 l0))=true∧k .e0 h)∨((and m.isSome (Nat.beq m0 l0))=false∧l0*esz<=cs.length∧(h0-l0)*esz<=cs.length-l0*esz∧k (.fz (h0-l0) ((cs.drop (l0*esz)).take ((h0-l0)*esz))) h):=by
   grind[x6,qA,qg,qt]
  rcases h4.un_fz with⟨k0,off,c,arr,e1,e0,e2,e4⟩|⟨rfl,rfl,a0,e1⟩
  ·obtain⟨l0,h0,m0,mR,g1,g2,g3,g4,g5,g6⟩:=zg (P:=P) hl hhi hm e0 h7 true w
   have hrun:(execOp a.eval o).run P w = .ok (.value (.slice (some (if mR=l0 then ⟨k0,off,none⟩ else ⟨k0,off+l0*esz,none⟩)) (h0-l0) (mR-l0))) w:=by
    simp only[execOp,ho,Instr.sliceAt,Sem.run_bind,qc hu,Result.andThen_ok,Instr.slice,e1,g2,qy h2,Option.map_some,Sem.run_pure,qT]
    grind
   rcases hgo l0 h0 m0 g1 with⟨q1,q2⟩|⟨q1,q2,q3,q4⟩
   ·simp only[Bool.and_eq_true] at q1;have q3:m0=l0:=by simp_all
    have q4:mR=l0:=by
     grind
    refine Res.pure r q2 hrun ?_;have q5:h0-l0=0:=by omega
    rw[if_pos q4,q4,Nat.sub_self,q5];exact .e0 _
   ·have hmR:h0<=mR:=by rcases g6 with⟨_,_,_⟩|⟨_,_⟩<;>omega
    refine Res.pure r q4 hrun ?_
    by_cases hz:mR=l0
    ·rw[if_pos hz];have q5:h0-l0=0:=by omega
     rw[q5];simp only[Nat.zero_mul,List.take_zero];exact .fz _ _ _ _ _ arr (Nat.zero_le _) e2 (by simp;exact .nil)
    ·rw[if_neg hz];refine .fz _ _ _ _ _ arr (by omega) e2 ?_;have hlen:((cs.drop (l0*esz)).take ((h0-l0)*esz)).length=(h0-l0)*esz:=by simp;omega
     rw[hlen];have:=(e4.drop (l0*esz)).take ((h0-l0)*esz);rw[List.drop_take,List.take_take,List.drop_drop] at this;rw[Nat.min_eq_left (by omega)] at this;omega
  ·obtain⟨l0,h0,m0,mR,g1,g2,g3,g4,g5,g6⟩:=zg (P:=P) hl hhi hm (Nat.le_refl 0) h7 true w;have hz:l0=0∧h0=0∧mR=0:=by rcases g6 with⟨_,_,_⟩|⟨_,_⟩<;>omega
   have hrun:(execOp a.eval o).run P w = .ok (.value (.slice a0 0 0)) w:=by
    obtain⟨rfl,rfl,rfl⟩:=hz;cases a0<;>simp[execOp,ho,Instr.sliceAt,qc hu,Instr.slice,e1,g2,qy h2]
   rcases hgo l0 h0 m0 g1 with⟨q1,q2⟩|⟨q1,q2,q3,q4⟩
   ·exact Res.pure r q2 hrun (.e0 _)
   grind[Res.pure]
 ·obtain⟨l0,h0,m0,mR,g1,g2,g3,g4,g5,g6⟩:=zg (P:=P) hl hhi hm (Nat.le_refl 0) h7 true w;have hz:l0=0∧h0=0∧mR=0:=by rcases g6 with⟨_,_,_⟩|⟨_,_⟩<;>omega
  obtain⟨rfl,rfl,rfl⟩:=hz;obtain⟨a0,e1⟩:=h4.un_e0;refine Res.pure r g1 (v':=.slice a0 0 0) ?_ (.e0 _);cases a0<;>simp[execOp,ho,Instr.sliceAt,qc hu,Instr.slice,e1,g2,qy h2]
 ·rename_i b n
  -- a row of one's own
  cases m with
  | some u =>
   have hcall:∀{l0 h0 mR len c:Nat} {a0:Option Addr},a.eval x' = .slice a0 len c->(Instr.sliceBounds true len c (lo'.map a.eval) (hi'.map a.eval) (mx'.map a.eval)).run P w = .ok (l0,h0,mR) w->
     (execOp a.eval o).run P w = .ok (.value (.slice (a0.map fun q=>if mR=l0 then q else q.add (l0*esz)) (h0-l0) (mR-l0))) w:=by
    intro l0 h0 mR len c a0 ev g2;simp only[execOp,ho,Instr.sliceAt,Sem.run_bind,qc hu,Result.andThen_ok,Instr.slice,ev,g2,qy h2,Sem.run_pure]
    congr 3
    cases a0<;>grind
   cases n with
   | zero =>
    have h7':qF 0 0 l hh (some u) (fun _ _ _=>k (.own b 0) h):=h7
    rcases h4.un_own with⟨-,⟨a0,e1⟩,hb⟩|⟨L,c,g1,g2,g3,e1⟩
    ·obtain⟨l0,h0,m0,mR,q1,q2,q3,q4,q5,q6⟩:=zg (P:=P) hl hhi hm (Nat.le_refl 0) h7' true w;have hz:l0=0∧h0=0∧mR=0:=by rcases q6 with⟨_,_,_⟩|⟨_,_⟩<;>omega
     obtain⟨rfl,rfl,rfl⟩:=hz;refine Res.pure r q1 (hcall e1 q2) ?_;exact .own0 _ _ hb
    ·obtain⟨l0,h0,m0,mR,q1,q2,q3,q4,q5,q6⟩:=zg (P:=P) hl hhi hm (Nat.zero_le c) h7' true w
     have hz:l0=0∧h0=0∧mR=0:=by
      grind
     obtain⟨rfl,rfl,rfl⟩:=hz;refine Res.pure r q1 (hcall e1 q2) ?_;simp only[Option.map_some,if_true,Nat.sub_zero];exact .own _ _ 0 L g1 (Nat.le_refl _) (by rw[Nat.zero_mul];omega)
   | succ n =>
    have h7':qF (n+1) (n+1) l hh (some u) (fun l h' m=>qd (if m=l then 0 else Nat.mul l esz) (fun o'=>qd (h'-l) (fun len'=>qd (m-l) (fun cap'=>k (.sl b o' len' cap' false) h)))):=h7
    rcases h4.un_own with⟨hn0,_⟩|⟨L,c,g1,g2,g3,e1⟩
    ·omega
    ·obtain⟨l0,h0,m0,mR,q1,q2,q3,q4,q5,q6⟩:=zg (P:=P) hl hhi hm g2 h7' true w;simp only[qg] at q1
     have q11:mR=m0:=by
      grind
     subst q11;refine Res.pure r q1 (hcall e1 q2) ?_
     by_cases hz:mR=l0
     ·simp only[Option.map_some,if_pos hz];exact .sl _ 0 _ _ _ _ L g1 (.inl rfl)
     ·simp only[Option.map_some,if_neg hz,qT];exact .sl _ (l0*esz) _ _ _ _ L g1 (.inl rfl)
  | none =>
   have hcall:∀{l0 h0 mR len c:Nat} {a0:Option Addr},a.eval x' = .slice a0 len c->(Instr.sliceBounds true len c (lo'.map a.eval) (hi'.map a.eval) (mx'.map a.eval)).run P w = .ok (l0,h0,mR) w->
     (execOp a.eval o).run P w = .ok (.value (.slice (a0.map fun q=>if mR=l0 then q else q.add (l0*esz)) (h0-l0) (mR-l0))) w:=by
    intro l0 h0 mR len c a0 ev g2;simp only[execOp,ho,Instr.sliceAt,Sem.run_bind,qc hu,Result.andThen_ok,Instr.slice,ev,g2,qy h2,Sem.run_pure]
    congr 3
    cases a0<;>grind
   cases n with
   | zero =>
    have h7':qF 0 0 l hh none (fun _ _ _=>k (.own b 0) h):=h7
    rcases h4.un_own with⟨-,⟨a0,e1⟩,hb⟩|⟨L,c,g1,g2,g3,e1⟩
    ·obtain⟨l0,h0,m0,mR,q1,q2,q3,q4,q5,q6⟩:=zg (P:=P) hl hhi hm (Nat.le_refl 0) h7' true w;have hz:l0=0∧h0=0∧mR=0:=by rcases q6 with⟨_,_,_⟩|⟨_,_⟩<;>omega
     obtain⟨rfl,rfl,rfl⟩:=hz;refine Res.pure r q1 (hcall e1 q2) ?_;exact .own0 _ _ hb
    ·obtain⟨l0,h0,m0,mR,q1,q2,q3,q4,q5,q6⟩:=zg (P:=P) hl hhi hm (Nat.zero_le c) h7' true w
     have hz:l0=0∧h0=0∧mR=c:=by
      rcases q6 with⟨_,_,q7⟩|⟨q7,_⟩
      ·exact by omega
      ·exact absurd rfl q7
     grind[Res.pure,qT]
   | succ n =>
    have h7':qF (n+1) (n+1) l hh none (fun l h' m=>qd (Nat.mul l esz) (fun o'=>qd (h'-l) (fun len'=>qd (m-l) (fun cap'=>qa2 h b esz true (k (.sl b o' len' cap' true) h))))):=h7
    rcases h4.un_own with⟨hn0,_⟩|⟨L,c,g1,g2,g3,e1⟩
    ·omega
    ·obtain⟨l0,h0,m0,mR,q1,q2,q3,q4,q5,q6⟩:=zg (P:=P) hl hhi hm g2 h7' true w;simp only[qg] at q1;obtain⟨e2,wf,af,cs,hg,q7⟩:=(qq _ _ _).1 q1;obtain⟨q8,q9⟩:=(qa _ _).1 q7;obtain⟨q10,_⟩:=r.cells b L e2 wf af cs g1 hg;have he:L.esz=esz:=q10.trans (by simpa using q8)
     obtain⟨q11,q12⟩:m0=n+1∧mR=c:=by
      grind
     subst q12;refine Res.pure r q9 (hcall e1 q2) ?_;simp only[Option.map_some,qT]
     by_cases hz:mR=l0
     ·rw[if_pos hz,hz,Nat.sub_self];have e3:h0-l0=0:=by omega
      have e4:m0-l0=0:=by omega
      rw[e3,e4];exact .slz _ _ _ _ L g1
     ·rw[if_neg hz];refine .sl _ _ _ _ _ _ L g1 (.inr ⟨rfl,by omega,?_⟩)
      have hmul:l0*esz+(mR-l0)*esz=mR*esz:=by rw[← Nat.add_mul];congr 1;omega
      rw[he] at g3 ⊢
      grind
 ·rename_i b o' len cap loose;obtain⟨L,c,off,h8,h9,h10⟩:=h4.un_sl;have hcc:cap<=c:=by rcases h10 with⟨_,h|h⟩|⟨_,h,h'⟩<;>omega
  obtain⟨l0,h0,m0,mR,h11,h12,h13,h14,h15,h16⟩:=zg (P:=P) hl hhi hm hcc h7 true w;simp only[qg] at h11
  have h11':k (.sl b (if (loose&&m.isNone)=false∧m0=l0 then o' else o'.add (l0.mul esz)) (h0-l0) (m0-l0) (loose&&m.isNone)) h∧((loose&&m.isNone)=true->L.esz=esz):=by
   revert h11;cases (loose&&m.isNone) with
   | false=>intro h11;exact⟨h11,by grind⟩
   | true =>
    intro h11;obtain⟨e2,wf,af,cs,hg,h17⟩:=(qq _ _ _).1 h11;obtain⟨h18,h19⟩:=(qa _ _).1 h17;obtain⟨h20,_⟩:=r.cells b L e2 wf af cs h8 hg;exact⟨h19,fun _=>h20.trans (by simpa using h18)⟩
  obtain⟨h11,hesz⟩:=h11'
  have hrun:(execOp a.eval o).run P w = .ok (.value (.slice (some (if mR=l0 then ⟨L.blk,off,none⟩ else ⟨L.blk,off+l0*esz,none⟩)) (h0-l0) (mR-l0))) w:=by
   simp only[execOp,ho,Instr.sliceAt,Sem.run_bind,qc hu,Result.andThen_ok,Instr.slice,h9,h12,qy h2,Option.map_some,Sem.run_pure,qT]
   grind
  refine Res.pure r h11 hrun ?_
  by_cases hz:mR=l0
  ·rw[if_pos hz,hz,Nat.sub_self];have e1:h0-l0=0:=by rcases h16 with⟨_,_,_⟩|⟨_,_⟩<;>omega
   have e2:m0-l0=0:=by rcases h16 with⟨_,_,_⟩|⟨_,_⟩<;>omega
   rw[e1,e2];exact .slz _ _ _ _ L h8
  ·rw[if_neg hz];rcases h10 with⟨rfl,h10⟩|⟨hl0,hc0,hcr⟩
   ·rcases h16 with⟨rfl,rfl,rfl⟩|⟨hmx,rfl⟩
    ·-- no max
     have e3:(if (loose&&(none:Option AV).isNone)=false∧m0=l0 then o' else o'.add (l0.mul esz))=o'+l0*esz:=by
      split
      ·rename_i hcond;rcases h10 with h10|⟨h10,_⟩
       ·omega
       ·simp[h10] at hcond
      ·rfl
     rw[e3];have e4:L.off+o'+l0*esz=L.off+(o'+l0*esz):=by omega
     rw[e4];refine .sl _ _ _ _ _ _ L h8 ?_;rcases h10 with h10|⟨h10,h17,h18⟩
     ·left;omega
     ·right;have he:=hesz (by simp[h10]);refine⟨by simp[h10],by omega,?_⟩
      have hmul:l0*esz+(mR-l0)*esz=mR*esz:=by rw[← Nat.add_mul];congr 1;omega
      rw[he] at h18 ⊢;omega
    ·have e3:(if (loose&&m.isNone)=false∧mR=l0 then o' else o'.add (l0.mul esz))=o'+l0*esz:=by
      rw[if_neg (by intro hh;exact hz hh.2)];rfl
     rw[e3];have e4:L.off+o'+l0*esz=L.off+(o'+l0*esz):=by omega
     rw[e4];exact .sl _ _ _ _ _ _ L h8 (.inl rfl)
   omega
end ops
section ops
variable {B:Nat->Prop} {h:Hp} {w:World} {a:Act} {t:Tr AV} {orc:Orc} {k:AV->Hp->Prop} {o:Oper}

theorem qe9(r:Rel σ ρ B h w)(ht:TR σ ρ t a.tmps){x:O}{lo hi:Option O}{x':Operand}{lo' hi':Option Operand}{ty:TypeId}(ho:o.op = .slice ty x' lo' hi' none)(hc:qh x' x=true)(hc1:zj lo' lo=true)(hc2:zj hi' hi=true)(h1:qV P ty=true)(hk:opK orc (.slcStr x lo hi) t h k):Res P σ ρ B h w (execOp a.eval o) k:=by
 obtain⟨v,h3,h4⟩:=ql ht hc hk;obtain⟨l,h5,hl⟩:=xP ht hc1 h3;obtain⟨hh,h6,hhi⟩:=xP ht hc2 h5;have hu:=qE h1;cases v<;>try exact h6.elim
 rename_i s;obtain⟨l0,h0,m0,mR,h8,h9,h10,h11,h12,h13⟩:=zg (P:=P) hl hhi (.inl ⟨rfl,rfl⟩) (Nat.le_refl s.length) h6 false w;refine Res.pure r h8 (v':=.string ⟨((s.take h0).drop l0).toArray⟩) ?_ (.s _)
 have e1:(ByteArray.mk s.toArray).extract l0 h0=⟨((s.take h0).drop l0).toArray⟩:=by
  apply ByteArray.ext;rw[ByteArray.data_extract];apply Array.ext';simp[List.extract_eq_take_drop,List.drop_take]
 have h9':(Instr.sliceBounds false (ByteArray.mk s.toArray).size (ByteArray.mk s.toArray).size (lo'.map a.eval) (hi'.map a.eval) none).run P w = .ok (l0,h0,mR) w:=by rw[jN];exact h9
 simp only[execOp,ho,Instr.sliceAt,Sem.run_bind,qc hu,Result.andThen_ok,Instr.slice,h4.un_s,Option.map_none,Option.isSome_none,Bool.false_eq_true,if_false,h9',Sem.run_pure,e1]

theorem qiV(r:Rel σ ρ B h w)(ht:TR σ ρ t a.tmps){len esz:Nat}{x:O}{lo hi mx:Option O}{x':Operand}{lo' hi' mx':Option Operand}{ty e:TypeId}(ho:o.op = .slice ty x' lo' hi' mx')(hc:qh x' x=true)(hc1:zj lo' lo=true)(hc2:zj hi' hi=true)(hc3:zj mx' mx=true)(h1:wc P ty=some (len,e))(h2:qo P e esz=true)(hk:opK orc (.slcA len esz x lo hi mx) t h k):Res P σ ρ B h w (execOp a.eval o) k:=by
 obtain⟨v,h3,h4⟩:=ql ht hc hk;obtain⟨b,o',L,h5,h6,h7⟩:=qdI h4 h3;obtain⟨l,h8,hl⟩:=xP ht hc1 h7;obtain⟨hh,h9,hhi⟩:=xP ht hc2 h8;obtain⟨m,h10,hm⟩:=xP ht hc3 h9;obtain⟨l0,h0,m0,mR,h11,h12,h13,h14,h15,h16⟩:=zg (P:=P) hl hhi hm (Nat.le_refl len) h10 false w;simp only[qg] at h11;have hmR:mR=m0:=by rcases h16 with⟨_,rfl,rfl⟩|⟨_,rfl⟩<;>rfl
 subst hmR
 have hrun:(execOp a.eval o).run P w = .ok (.value (.slice (some ⟨L.blk,L.off+(if mR=l0 then o' else o'.add (l0.mul esz)),none⟩) (h0-l0) (mR-l0))) w:=by
  simp only[execOp,ho,Instr.sliceAt,Sem.run_bind,qc (xC h1),Result.andThen_ok,h6,Instr.sureAddr,Sem.run_pure,h12,qy h2,qT]
  grind
 exact Res.pure r h11 hrun (.sl _ _ _ _ _ _ L h5 (.inl rfl))

omit [Cur] in
theorem qbr{q:NK}{x:AV}{x':Value}(hx:VR σ ρ x x'){k:Bool->Prop}(hk:qZ q x k){ty:TypeId}(hT:qeQ P q ty=true){y:Operand}(hy:xV q y=true)(w:World) :
  ∃c z,k c∧y = .const z∧(Op.equalIn (9999+1) ty x' z).run P w = .ok c w∧(Op.equalIn (9999+1) ty z x').run P w = .ok c w∧(∀cs,x'≠.agg cs)∧(∀cs,z≠.agg cs) ∧
   (∀op,op = .eql∨op = .neq->binOp op ty x' z=(do let r ← Op.equal ty x' z;pure (.bool (xor (op == .neq) r)))) ∧
   (∀op,op = .eql∨op = .neq->binOp op ty z x'=(do let r ← Op.equal ty z x';pure (.bool (xor (op == .neq) r)))):=by
 unfold qeQ at hT;split at hT<;>try (cases hT;done)
 all_goals
  rename_i hu;cases y<;>first|(simp[xV] at hy;done)|skip
  rename_i z;unfold xV at hy;split at hy<;>first|(simp at hy;done)|skip
  all_goals
   rename_i hz;cases hz;cases x<;>first|exact hk.elim|skip
   all_goals
    cases hx<;>first|exact (hk:False).elim|skip
   all_goals
    first|refine⟨_,_,hk,rfl,?_,?_,?_,?_,?_,?_⟩|refine⟨_,_,((qa _ _).1 hk).2,rfl,?_,?_,?_,?_,?_,?_⟩
   all_goals first|(intro op hop;rcases hop with rfl|rfl<;>simp[binOp,show (BinOp.eql==BinOp.neq)=false from rfl];done)|(intro cs hh;cases hh;done)|(rw[Op.equalIn];simp[qc hu];done)

theorem qfP(r:Rel σ ρ B h w)(ht:TR σ ρ t a.tmps){neg:Bool}{q:NK}{op:BinOp}(hop:(op = .eql∧neg=false)∨(op = .neq∧neg=true)){x:O}{x' y':Operand}{ty uy:TypeId}(ho:o.op = .binOp op ty x' y' uy)
  (hc:(qh x' x=true∧xV q y'=true)∨(qh y' x=true∧xV q x'=true)) (hT:qeQ P q ty=true) (hk:opK orc (.eqN neg q x) t h k):Res P σ ρ B h w (execOp a.eval o) k:=by
 have hop':op = .eql∨op = .neq:=by grind
 have hneg:neg=(op == .neq):=by rcases hop with⟨rfl,rfl⟩|⟨rfl,rfl⟩<;>rfl
 have hg:∀{X Y:Operand} {u v:Value},((∃z,X = .const z)∨∃z,Y = .const z)->(∀cs,u≠.agg cs)->(eqGuard op ty X Y u v).run P w = .ok () w:=by
  intro X Y u v hc hu
  by_cases hn:u = .nilIface
  ·subst hn;cases v<;>first|(cases op<;>simp[eqGuard];done)|(rcases hc with⟨z,rfl⟩|⟨z,rfl⟩<;>cases op<;>simp[eqGuard])
  simp_all[jk]
 rcases hc with⟨hc,hn⟩|⟨hc,hn⟩
 ·obtain⟨v,h1,h2⟩:=ql ht hc hk;obtain⟨c,z,h3,rfl,h4,h5,h6,h7,h8,h9⟩:=qbr (P:=P) h2 h1 hT hn w;rw[qj] at h3;refine Res.pure r h3 (jQ ho (by simp_all) ?_) (.b _);show (binOp op ty (a.eval x') z).run P w=_;have h4':(Op.equal ty (a.eval x') z).run P w = .ok c w:=h4;rw[h8 op hop',hneg];simp[h4']
 ·obtain⟨v,h1,h2⟩:=ql ht hc hk;obtain⟨c,z,h3,rfl,h4,h5,h6,h7,h8,h9⟩:=qbr (P:=P) h2 h1 hT hn w;rw[qj] at h3;refine Res.pure r h3 (jQ ho (hg (.inl ⟨z,rfl⟩) h7) ?_) (.b _);show (binOp op ty z (a.eval y')).run P w=_;have h5':(Op.equal ty z (a.eval y')).run P w = .ok c w:=h5;rw[h9 op hop',hneg];simp[h5']

theorem qbi(d:Nat)(xs ys:Array Value)(w:World):∀(fs:List Field) (qs:List PK) (i:Nat) (us vs:List AV),xy P i fs qs=true->
  VRs σ ρ us (xs.toList.drop i)->VRs σ ρ vs (ys.toList.drop i)->∀(k:Bool->Prop),zh qs us vs k->∃c,k c∧(Op.eqFields (d+1) xs ys fs).run P w = .ok c w
 | [],qs,i,us,vs,hf,_,_,k,hk=>by
  cases qs with
  | nil=>exact⟨true,hk,by simp[Op.eqFields]⟩
  | cons=>simp[xy] at hf
 | f::fs,qs,i,us,vs,hf,hu,hv,k,hk=>by
  cases qs with
  | nil=>simp[xy] at hf
  | cons q qs =>
  cases us with
  | nil=>exact hk.elim
  | cons u us =>
   cases vs with
   | nil=>exact hk.elim
   | cons v vs =>
    have hk':zD q u v (fun e=>Bool.rec (motive:=fun _=>Prop) (k false) (zh qs us vs k) e):=hk
    simp only[xy,Bool.and_eq_true,bne_iff_ne,beq_iff_eq] at hf;obtain⟨⟨⟨hn,hof⟩,hty⟩,hf⟩:=hf;obtain⟨u',hu1,hu2⟩:=hu.get (j:=0) rfl;obtain⟨v',hv1,hv2⟩:=hv.get (j:=0) rfl;have hu3:xs[f.offset]?=some u':=by rw[hof];simpa using hu1
    have hv3:ys[f.offset]?=some v':=by rw[hof];simpa using hv1
    have hsome:(P.underlying f.type).isSome=true:=by split at hty<;>simp_all
    have hna:zy P f.type=false:=by unfold zy;split at hty<;>simp_all
    have p1:=(jc (P:=P) (t:=f.type) xs f.offset w).1 hna hsome hu3;have p2:=(jc (P:=P) (t:=f.type) ys f.offset w).1 hna hsome hv3
    have heq:∃c:Bool,(Bool.rec (motive:=fun _=>Prop) (k false) (zh qs us vs k) c:Prop)∧(Op.equalIn (d+1) f.type u' v').run P w = .ok c w:=by
     split at hty<;>try (cases hty;done)
     ·rename_i hh;cases u<;>try exact hk'.elim
      cases v<;>try exact hk'.elim
      have e1:=hu2.un_b;have e2:=hv2.un_b;subst e1;subst e2
      simp only[zD,qj] at hk';exact⟨_,hk',run_equalIn_bool' w d f.type _ _ hh⟩
     ·rename_i hh;cases u<;>try exact hk'.elim
      cases v<;>try exact hk'.elim
      have e1:=hu2.un_i;have e2:=hv2.un_i;subst e1;subst e2
      simp only[zD,qj,qa,jE] at hk';obtain⟨hq,hk'⟩:=hk';have hqq:=of_decide_eq_true hq;subst hqq;exact⟨_,hk',run_equalIn_int w d f.type _ _ _ _ hh⟩
     ·rename_i hh;cases u<;>try exact hk'.elim
      cases v<;>try exact hk'.elim
      have e1:=hu2.un_s;have e2:=hv2.un_s;subst e1;subst e2
      simp only[zD,qj,zR] at hk';refine⟨_,hk',(run_equalIn_string w d f.type _ _ hh).trans ?_⟩;rw[ByteArray.toList_eq,ByteArray.toList_eq]
    obtain⟨c,hc1,hc2⟩:=heq;cases c with
    | false=>exact⟨false,hc1,by simp[Op.eqFields,hn,p1,p2,hc2]⟩
    | true =>
     obtain⟨c,hc3,hc4⟩:=qbi d xs ys w fs qs (i+1) us vs hf
      (by have:=hu.drop 1;simpa using this) (by have:=hv.drop 1;simpa using this) k hc1
     exact⟨c,hc3,by simp[Op.eqFields,hn,p1,p2,hc2,hc4]⟩

theorem qfN(r:Rel σ ρ B h w)(ht:TR σ ρ t a.tmps){neg:Bool}{qs:List PK}{op:BinOp}(hop:(op = .eql∧neg=false)∨(op = .neq∧neg=true)){x y:O}{x' y':Operand}{ty uy:TypeId}(ho:o.op = .binOp op ty x' y' uy)
  (hc1:qh x' x=true) (hc2:qh y' y=true) (hf:qa7 P ty qs=true) (hk:opK orc (.eqA neg qs x y) t h k):Res P σ ρ B h w (execOp a.eval o) k:=by
 obtain⟨u,h1,h2⟩:=ql ht hc1 hk;obtain⟨v,h3,h4⟩:=ql ht hc2 h1;cases u<;>try exact h3.elim
 cases v<;>try exact h3.elim
 obtain⟨xs,h5,h6⟩:=h2.un_agg;obtain⟨ys,h7,h8⟩:=h4.un_agg;unfold qa7 at hf;split at hf<;>try (cases hf;done)
 rename_i fs hu;simp only[Bool.and_eq_true,Bool.not_eq_true'] at hf;obtain⟨⟨hs,hg⟩,hf⟩:=hf;have hfo:P.fieldsOf ty=fs:=by simp[Program.fieldsOf,hu]
 obtain⟨c,h9,h10⟩:=qbi (P:=P) 9998 xs ys w fs.toList qs 0 _ _ hf (by simpa using h5) (by simpa using h7) _ h3;rw[qj] at h9
 have h11:(Op.equalIn 10000 ty (.agg xs) (.agg ys)).run P w = .ok c w:=by
  rw[run_equalIn_struct w 9999 ty xs ys (by rw[hfo];exact hu) hs,hfo];exact h10
 refine Res.pure r h9 (jQ ho ?_ ?_) (.b _)
 ·rw[h6,h8];exact run_eqGuard_agg w op ty _ _ _ _ hg
 ·rw[h6,h8];rcases hop with⟨rfl,rfl⟩|⟨rfl,rfl⟩
  ·rw[run_eql_struct,h11];simp
  ·rw[run_neq_struct,h11];simp
end ops

omit [Cur] in
theorem VRs.splice{l:List AV}{c c':Array Value}{off:Nat}{vs:List AV}{vs':List Value}(hl:VRs σ ρ l c.toList)(hv:VRs σ ρ vs vs')(h:off+vs.length<=l.length)(hs:Spl c off vs' c') :
  VRs σ ρ (l.take off++(vs++l.drop (off+vs.length))) c'.toList:=by
 have h1:=hl.length;have h2:=hv.length;have h3:=hs.size;refine VRs.of_get (by grind) ?_;intro j a ha;rw[Array.getElem?_toList]
 by_cases hj:j<off
 ·rw[List.getElem?_append_left (by simp;omega),List.getElem?_take_of_lt hj] at ha
  grind[VRs.get,Spl.out]
 ·rw[List.getElem?_append_right (by simp;omega)] at ha;have e1:(l.take off).length=off:=by simp;omega
  rw[e1] at ha
  by_cases hj2:j<off+vs.length
  ·rw[List.getElem?_append_left (by omega)] at ha;obtain⟨v,hv1,hv2⟩:=hv.get ha;refine⟨v,?_,hv2⟩;have:=hs.inn _ _ hv1;rwa [show off+(j-off)=j from by omega] at this
  grind[VRs.get,Spl.out]

omit [Cur] in
theorem qcN(off:Nat):∀(vs:List Value) (s:Nat) (c:Array Value),off+s+vs.length<=c.size->
  Spl c (off+s) vs ((vs.zipIdx s).foldl (fun cs p=>cs.setIfInBounds (off+p.2) p.1) c)
 | [],s,c,_=>⟨rfl,fun _ _=>rfl,fun j v hv=>by grind⟩
 | v::vs,s,c,h=>by
  simp only[List.length_cons] at h;rw[List.zipIdx_cons,List.foldl_cons];have ih:=qcN off vs (s+1) (c.setIfInBounds (off+s) v) (by grind);refine⟨by rw[ih.size];simp,?_,?_⟩
  ·intro j hj;simp only[List.length_cons] at hj;rw[ih.out j (by omega),Array.getElem?_setIfInBounds,if_neg (by omega)]
  ·intro j u hu;cases j with
   | zero =>
    simp at hu;subst hu;rw[ih.out _ (by omega),Array.getElem?_setIfInBounds];grind
   | succ j =>
    have:=ih.inn j u (by simp_all);rwa [show off+(s+1)+j=off+s+(j+1) from by omega] at this

theorem qba(hσ:zq σ){t:Tr AV}{a:Act}(ht:TR σ ρ t a.tmps)(place:Nat->Option (Nat×Nat)):∀(xs:List (Nat×Operand)) (ps:List (Nat×Nat×O)) (l:List AV) (c:Array Value),zx place xs ps=true->VRs σ ρ l c.toList->
  ∀(k:List AV->Prop),zu t ps l k->∃l' c',k l'∧VRs σ ρ l' c'.toList∧Instr.fill place c (xs.map fun p=>(p.1,a.eval p.2))=some c'
 | [],ps,l,c,hc,hv,k,hk=>by
  cases ps with
  | nil=>exact⟨l,c,hk,hv,rfl⟩
  | cons=>simp[zx] at hc
 | (i,x)::xs,ps,l,c,hc,hv,k,hk=>by
  cases ps with
  | nil=>simp[zx] at hc
  | cons p ps =>
   obtain⟨off,n,y⟩:=p;simp only[zx,Bool.and_eq_true,beq_iff_eq] at hc;obtain⟨⟨hp,hx⟩,hc⟩:=hc;have hk':evK t y (fun v=>qb (jD v) (qd off (fun off=>jZ (cellsOf v) (fun m=>qb (Nat.beq m n) (zd (cellsOf v) off l (fun l'=>zu t ps l' k)))))):=hk
   obtain⟨v,h1,h2⟩:=ql ht hx hk';obtain⟨hd,h3⟩:=(qa _ _).1 h1;rw[qg,zp] at h3;obtain⟨hn,h4⟩:=(qa _ _).1 h3;obtain⟨h5,h6⟩:=(zi _ _ _ _).1 h4;have hvs:=VRs.cells hσ h2 hd;have hl:=hvs.length;have hl2:=hv.length;have hn':(cellsOf v).length=n:=by simpa using hn
   have hspl:=qcN off (a.eval x).cells.toList 0 c (by simp at hl hl2 ⊢;omega);obtain⟨l',c',h7,h8,h9⟩:=qba hσ ht place xs ps _ _ hc (VRs.splice hv hvs (by omega) hspl) k h6;refine⟨l',c',h7,h8,?_⟩;have e1:¬((a.eval x).cells.size≠n):=by simp at hl;omega
   have e2:¬(off+(a.eval x).cells.size > c.size):=by simp at hl hl2;omega
   simp only[List.map_cons,Instr.fill,hp];rw[if_neg (by simp;simp at e1 e2;omega)];rw[← h9]
   grind[Array.toList_zipIdx]

omit [Cur] in
theorem qbB{z:List AV}{zero:Array Value}(hz:VRs σ ρ z zero.toList)(n:Nat)(zero':Array Value)(h0:n*z.length=0∨zero'=zero) :
  VRs σ ρ (List.replicate n z).flatten ((Array.range (n*z.length)).map (fun i=>zero'[i % zero'.size]!)).toList:=by
 have hl:=hz.length;refine VRs.of_get (by simp_all) ?_;intro j a ha
 have hj:j<n*z.length:=by
  have:=(zzS.1 ha).1
  simp_all
 have hz0:0<z.length:=Nat.pos_of_ne_zero (by grind);rcases h0 with h0|rfl
 ·omega
 ·have hm:j % z.length<z.length:=Nat.mod_lt _ hz0
  have ha':z[j % z.length]?=some a:=by
   have key:∀(n j:Nat),j<n*z.length->(List.replicate n z).flatten[j]?=z[j % z.length]?:=by
    intro n
    induction n with
    | zero=>intro j hj;simp at hj
    | succ n ih =>
     intro j hj;rw[List.replicate_succ,List.flatten_cons]
     by_cases hlt:j<z.length
     ·rw[List.getElem?_append_left hlt,Nat.mod_eq_of_lt hlt]
     ·rw[List.getElem?_append_right (by omega),ih _ (by rw[Nat.add_mul,Nat.one_mul] at hj;omega)];rw[Nat.mod_eq_sub_mod (by omega:j ≥ z.length)]
   rw[← key n j hj];exact ha
  grind[VRs.get]

omit [Cur] in
theorem qc3(fs:Array Field)(hf:∀f ∈ fs.toList,(P.info? f.type).isSome=true)(w:World) :
  (fs.mapM (fun f=>(do pure (f.offset,← sizeOf f.type):Sem (Nat×Nat)))).run P w = .ok (fs.map fun f=>(f.offset,P.cellsOf f.type)) w:=by
 have hpl:∀(l:List Field),(∀f ∈ l,(P.info? f.type).isSome=true)->(List.mapM (fun (f:Field)=>(do pure (f.offset,← sizeOf f.type):Sem (Nat×Nat))) l).run P w = .ok (l.map fun f=>(f.offset,P.cellsOf f.type)) w:=by
  intro l
  induction l with
  | nil=>intro _;simp
  | cons f l ih =>
   intro hl;obtain⟨j,hj⟩:=Option.isSome_iff_exists.1 (hl f (by simp));rw[List.mapM_cons];simp only[Sem.run_bind,Sem.run_pure,sizeOf,typeInfo,run_program,hj,Result.andThen_ok] at ih ⊢;rw[ih (by simp_all)];simp[Program.cellsOf,hj]
 obtain⟨l⟩:=fs;rw[List.mapM_toArray]
 simp_all

section ops
variable {B:Nat->Prop} {h:Hp} {w:World} {a:Act} {t:Tr AV} {orc:Orc} {k:AV->Hp->Prop} {o:Oper}

theorem qfz(hσ:zq σ)(r:Rel σ ρ B h w)(ht:TR σ ρ t a.tmps){z:List AV}{ps:List (Nat×Nat×O)}{ty:TypeId}{xs:Array (Nat×Operand)}(ho:o.op = .build ty xs)(hz:zt P ty z=true)
  (hc:(match P.underlying ty with
   | some (.struct fs)=>zx (fun i=>(fs[i]?).bind fun f=>(P.info? f.type).map fun j=>(f.offset,j.size)) xs.toList ps&&fs.toList.all fun f=>(P.info? f.type).isSome
   | some (.array _ e)=>(match P.info? e with|some j=>zx (fun i=>some (i*j.size,j.size)) xs.toList ps|none=>false)
   | _=>false)=true) (hk:opK orc (.build z ps) t h k):Res P σ ρ B h w (execOp a.eval o) k:=by
 obtain⟨i,v,h1,h2,h3,h4⟩:=xB hz;have hv:=zW (σ:=σ) (ρ:=ρ) _ _ h3;have hk':zu t ps z (fun cs=>k (.agg cs) h):=hk
 split at hc<;>try (cases hc;done)
 ·rename_i fs hu;simp only[Bool.and_eq_true] at hc;obtain⟨l',c',h5,h6,h7⟩:=qba hσ ht _ _ _ _ _ hc.1 hv _ hk';refine Res.pure r h5 (v':=.agg c') ?_ (.agg _ _ h6);have hmap:=qc3 (P:=P) fs (by grind) w
  have hplace:(fun (i:Nat)=>(fs.map fun (f:Field)=>(f.offset,P.cellsOf f.type))[i]?)=(fun (i:Nat)=>(fs[i]?).bind fun (f:Field)=>(P.info? f.type).map fun j=>(f.offset,j.size)):=by
   funext i;rw[Array.getElem?_map];cases hi:fs[i]? with
   | none=>rfl
   | some f =>
    have hm:f ∈ fs.toList:=by
     rw[Array.getElem?_eq_some_iff] at hi;obtain⟨hlt,rfl⟩:=hi;simp
    have hs:=(List.all_eq_true.1 hc.2) f hm;obtain⟨j,hj⟩:=Option.isSome_iff_exists.1 hs;simp[Program.cellsOf,hj]
  simp only[execOp,ho,Instr.build,Sem.run_bind,xk h1 h2,Result.andThen_ok,qc hu,hmap,hplace];have h7':Instr.fill (fun i=>(fs[i]?).bind fun (f:Field)=>(P.info? f.type).map fun j=>(f.offset,j.size)) v.cells (xs.map fun p=>(p.1,a.eval p.2)).toList=some c':=by rw[Array.toList_map];exact h7
  simp_all
 ·rename_i n e hu;cases he:P.info? e with
  | none=>simp_all
  | some j =>
   simp only[he] at hc;obtain⟨l',c',h5,h6,h7⟩:=qba hσ ht _ _ _ _ _ hc hv _ hk';refine Res.pure r h5 (v':=.agg c') ?_ (.agg _ _ h6);have h7':Instr.fill (fun i=>some (i*j.size,j.size)) v.cells (xs.map fun p=>(p.1,a.eval p.2)).toList=some c':=by rw[Array.toList_map];exact h7
   simp only[execOp,ho,Instr.build,Sem.run_bind,xk h1 h2,Result.andThen_ok,qc hu,sizeOf,typeInfo,run_program,he,Sem.run_pure,h7']

theorem qek(hσ:zq σ)(r:Rel σ ρ B h w)(ht:TR σ ρ t a.tmps){n:Nat}{z:List AV}{ps:List (Nat×Nat×O)}{ty e:TypeId}{xs:Array (Nat×Operand)}(ho:o.op = .buildSlice ty n xs)(he:qx P ty=some e)(hz:zt P e z=true)(hb:n*z.length<=16777216)
  {j:TypeInfo} (hj:P.info? e=some j) (hc:zx (fun i=>some (i*j.size,j.size)) xs.toList ps=true) (hk:opK orc (.buildS n z ps) t h k):Res P σ ρ B h w (execOp a.eval o) k:=by
 obtain⟨i,v,h1,h2,h3,h4⟩:=xB hz;rw[hj] at h1;cases h1;have hv:=zW (σ:=σ) (ρ:=ρ) _ _ h3;have hl:=hv.length;have hsz:z.length=j.size:=by simp_all
 have hk':qau z n (fun cs=>zu t ps cs (fun cs=>qN h (.cells 0 true false cs) (fun b h'=>k (.sl b 0 n n false) h'))):=hk
 rw[zC] at hk';have hrep:=qbB hv n (if n*z.length=0 then #[] else v.cells) (by split<;>simp_all)
 obtain⟨l',c',h5,h6,h7⟩:=qba hσ ht _ _ _ _ _ hc hrep _ hk';have hl6:=h6.length;obtain⟨ρ',h',h8,h9,h10,h11⟩:=xH (w1:={ w with heap:=w.heap.push (.cells c' e) }) r (c:=c') (by grind) h5 rfl;refine⟨_,_,h',ρ',_,h8,.inl (?_:_=Result.ok (Next.value (.slice (some ⟨w.heap.size,0+0,none⟩) n n)) { w with heap:=w.heap.push (.cells c' e) }),.sl _ 0 _ _ _ _ _ h11 (.inl rfl),h9,h10⟩;have hb':¬(n*j.size > 2 ^ 24):=by rw[← hsz];omega
 have h7':Instr.fill (fun i=>some (i*j.size,j.size)) ((Array.range (n*j.size)).map (fun i=>(if n*j.size=0 then #[] else v.cells)[i % (if n*j.size=0 then #[] else v.cells).size]!)) (xs.map fun p=>(p.1,a.eval p.2)).toList=some c':=by
  rw[Array.toList_map];rw[hsz] at h7;exact h7
 simp only[execOp,ho,Instr.buildSlice,Sem.run_bind,qc (qr he),Result.andThen_ok,sizeOf,typeInfo,run_program,hj,Sem.run_pure];rw[if_neg hb']
 by_cases hz0:n*j.size=0
 ·simp only[hz0,if_true] at h7' ⊢;simp only[Sem.run_bind,Sem.run_pure,Result.andThen_ok,h7',newRow,run_newObj,Nat.add_zero]
 ·simp only[hz0,if_false] at h7' ⊢;simp only[Sem.run_bind,xk hj h2,Sem.run_pure,Result.andThen_ok,h7',newRow,run_newObj,Nat.add_zero]

omit [Cur] in
theorem qad{n:Nat}(h:n<=70368744177664):IntKind.i64.wrap (n:Int)=n:=by
 simp[IntKind.wrap,IntKind.bits,IntKind.signed];omega

theorem qks(r:Rel σ ρ B h w)(ht:TR σ ρ t a.tmps){esz bytes:Nat}{z:List AV}{len cap:O}{l' c':Operand}{ty e:TypeId}(ho:o.op = .makeSlice ty l' c')(hc1:qh l' len=true)(hc2:qh c' cap=true)(he:qx P ty=some e)(hb:zG P e bytes=true)(hz:zt P e z=true)(hk:opK orc (.mkS esz bytes z len cap) t h k):Res P σ ρ B h w (execOp a.eval o) k:=by
 obtain⟨i,v,h1,h2,h3,h4⟩:=xB hz;obtain⟨i',hi',h5⟩:=wi hb;rw[h1] at hi';cases hi';have hv:=zW (σ:=σ) (ρ:=ρ) _ _ h3;have hl:=hv.length;have hsz:z.length=i.size:=by simp_all
 obtain⟨u,h6,h7⟩:=ql ht hc1 hk;obtain⟨x,h8,h9⟩:=ql ht hc2 h6;obtain⟨q,n,e1,h10⟩:=xK h7 h8;obtain⟨q',m,e2,h11⟩:=xK h9 h10;obtain⟨h12,h11⟩:=(qa _ _).1 h11;obtain⟨h13,h11⟩:=(qa _ _).1 h11;obtain⟨h14,h11⟩:=(qa _ _).1 h11;rw[zC] at h11;rw[xL] at h12 h13 h14;have g1:n<=m:=by simp_all
 have g2:m<=70368744177664:=of_decide_eq_true h13;have g3:bytes*m<=70368744177664:=of_decide_eq_true h14;have hrep:=qbB hv m (if m*z.length=0 then #[] else v.cells) (by split<;>simp_all)
 have hl6:=hrep.length;obtain⟨ρ',h',h18,h19,h20,h21⟩:=xH (w1:={ w with heap:=w.heap.push (.cells ((Array.range (m*z.length)).map (fun i=>(if m*z.length=0 then #[] else v.cells)[i % (if m*z.length=0 then #[] else v.cells).size]!)) e) }) r ⟨_,rfl,by rw[hl6,List.take_length];omega⟩ h11 rfl
 refine⟨_,_,h',ρ',_,h18,.inl (?_:_=Result.ok (Next.value (.slice (some ⟨w.heap.size,0+0,none⟩) n m)) { w with heap:=w.heap.push (.cells ((Array.range (m*z.length)).map (fun i=>(if m*z.length=0 then #[] else v.cells)[i % (if m*z.length=0 then #[] else v.cells).size]!)) e) }),.sl _ 0 _ _ _ _ _ h21 (.inl rfl),h19,h20⟩
 have w1:=qad (Nat.le_trans g1 g2);have w2:=qad g2;have t1:¬((m:Int)<0):=by omega
 have t2:¬((n:Int)<0):=by omega
 have t3:¬((n:Int) > (m:Int)):=by omega
 have t4:¬((i.bytes:Int)*(m:Int) > 2 ^ 48):=by
  rw[h5];have:((bytes*m:Nat):Int)<=70368744177664:=Int.ofNat_le.2 g3;rw[Int.natCast_mul] at this;omega
 have hs:(sizeOf e).run P w = .ok i.size w:=qy (by unfold qo;rw[h1];simp) w;simp only[execOp,ho,Instr.makeSlice,Sem.run_bind,qc (qr he),Result.andThen_ok,e1,e2,asInt,asIntOf,Sem.run_pure,qf6 h1,w1,w2];simp only[t1,t2,t3,t4,decide_false,Bool.or_false,Bool.false_eq_true,if_false,Sem.run_bind,run_askRoom,Result.andThen_ok,Int.toNat_natCast,hs];rw[hsz]
 by_cases hz0:m*i.size=0
 ·simp only[hz0,if_true];simp only[Sem.run_bind,Sem.run_pure,Result.andThen_ok,newRow,run_newObj,Nat.add_zero]
 ·simp only[hz0,if_false];simp only[Sem.run_bind,xk h1 h2,Sem.run_pure,Result.andThen_ok,newRow,run_newObj,Nat.add_zero]
end ops
section ops
variable {B:Nat->Prop} {h:Hp} {w:World} {a:Act} {t:Tr AV} {orc:Orc} {k:AV->Hp->Prop} {o:Oper}

omit [Cur] in
theorem qcC(l:List UInt8):VRs σ ρ (l.map fun c=>AV.i .u8 (Int.ofNat c.toNat)) (l.map fun c=>Value.int .u8 (c.toNat:Int)):=by
 induction l with
 | nil=>exact .nil
 | cons c l ih=>exact .cons _ _ _ _ (.i _ _) ih

omit [Cur] in
theorem qb4(w:World)(a:Addr):(loadCells a 0).run P w = .ok #[] w:=by
 have:=run_loadCells_list (P:=P) w a [] (by simp_all);omega
omit [Cur] in
theorem qaC(w:World)(esz:Nat)(a:Option Addr):(Builtin.firstCells esz 0 (.slice a 0 0)).run P w = .ok #[] w:=by
 cases a with
 | none=>simp[Builtin.firstCells]
 | some a=>simpa[Builtin.firstCells] using qb4 (P:=P) w a
theorem qdH(r:Rel σ ρ B h w){esz:Nat}{x:AV}{x':Value}(hx:VR σ ρ x x'){k:Nat->List AV->Prop}(hk:zU h esz x k) :
  ∃n cs vs,k n cs∧VRs σ ρ cs vs∧vs.length=n*esz∧(∀w',w'.heap=w.heap->(Builtin.lenOf x').run P w' = .ok n w')∧(∀m,m<=n->∀w',w'.heap=w.heap->(Builtin.firstCells esz m x').run P w' = .ok (vs.take (m*esz)).toArray w'):=by
 cases x<;>try exact hk.elim
 ·-- a string
  rename_i l;obtain⟨h1,h2⟩:=(qa _ _).1 hk;rw[qg] at h2;have he:esz=1:=by simpa using h1
  subst he;have e:=hx.un_s;refine⟨l.length,_,_,h2,qcC l,by simp,fun w' _=>by rw[e];simp[Builtin.lenOf,jN],fun m hm w' _=>?_⟩
  rw[e];simp only[Builtin.firstCells,Sem.run_pure,Nat.mul_one]
  simp_all
 ·exact⟨0,[],[],hk,.nil,by simp,fun w' _=>by rw[hx.un_nils];simp[Builtin.lenOf],fun m hm w' _=>by rw[hx.un_nils];simp[Builtin.firstCells]⟩
 ·rename_i b o n cap loose;obtain⟨L,c,off,h1,h2,h3⟩:=hx.un_sl;obtain⟨cs,vs,h4,h5,h6,h7⟩:=xX r h1 (show zX h b o (n*esz) (fun cs=>k n cs) from hk)
  refine⟨n,cs,vs,h4,h5,h6,fun w' _=>by rw[h2];simp[Builtin.lenOf],fun m hm w' hw=>?_⟩
  rw[h2];simp only[Builtin.firstCells];have hmn:m*esz<=n*esz:=Nat.mul_le_mul_right _ hm;refine xe (by simp;omega) (fun j v hj=>?_)
  rw[List.getElem?_take] at hj;split at hj
  ·have:=h7 j v hj;rcases h3 with⟨rfl,_⟩|⟨h3,_,_⟩
   ·have hc:∀a,w'.cell? a=w.cell? a:=fun a=>by simp[World.cell?,hw]
    rw[hc];exact this
   ·subst h3;simp at hmn;omega
  simp_all
 ·-- a row that stays
  rename_i n cs;obtain⟨h1,h2⟩:=(qt _ _ _).1 hk;have h1:n*esz<=cs.length:=h1;rcases hx.un_fz with⟨k0,off,c,arr,e1,e2,e3,e5⟩|⟨rfl,rfl,a0,e1⟩
  ·have hcl:=e5.length;refine⟨n,_,((arr.toList.drop off).take cs.length).take (n*esz),h2,(e5.take _).vr,by simp at hcl ⊢;omega,fun w' _=>by rw[e1];simp[Builtin.lenOf],fun m hm w' hw=>?_⟩
   rw[e1];simp only[Builtin.firstCells];have hmn:m*esz<=n*esz:=Nat.mul_le_mul_right _ hm
   grind[xe,Rel.frz,zP]
  ·exact⟨0,_,[],h2,by simp;exact .nil,by simp,fun w' _=>by rw[e1];simp[Builtin.lenOf],fun m hm w' _=>by
    simp_all[qaC]⟩
 ·obtain⟨a0,e1⟩:=hx.un_e0
  exact⟨0,[],[],hk,.nil,by simp,fun w' _=>by rw[e1];simp[Builtin.lenOf],fun m hm w' _=>by
   simp_all[qaC]⟩
 ·rename_i b n;have hk':zX h b 0 (n*esz) (fun cs=>k n cs):=hk
  rcases hx.un_own with⟨rfl,⟨a0,e1⟩,_⟩|⟨L,c,h1,h2,h3,e1⟩
  ·obtain⟨e,wf,af,cs,hg,hn⟩:=(qq _ _ _).1 hk';obtain⟨_,hn⟩:=(qA _ _ _).1 hn;obtain⟨_,hn⟩:=(qt _ _ _).1 hn;simp only[Nat.zero_mul,List.take_zero] at hn
   exact⟨0,[],[],hn,.nil,by simp,fun w' _=>by rw[e1];simp[Builtin.lenOf],fun m hm w' _=>by
    simp_all[qaC]⟩
  ·obtain⟨cs,vs,h4,h5,h6,h7⟩:=xX r h1 hk';refine⟨n,cs,vs,h4,h5,h6,fun w' _=>by rw[e1];simp[Builtin.lenOf],fun m hm w' hw=>?_⟩
   rw[e1];simp only[Builtin.firstCells];have hmn:m*esz<=n*esz:=Nat.mul_le_mul_right _ hm;refine xe (by simp;omega) (fun j v hj=>?_)
   rw[List.getElem?_take] at hj;split at hj
   ·have:=h7 j v hj;have hc:∀a,w'.cell? a=w.cell? a:=fun a=>by simp[World.cell?,hw]
    rw[hc];simpa using this
   simp_all
 ·obtain⟨a0,c0,e1⟩:=hx.un_nz
  exact⟨0,[],[],hk,.nil,by simp,fun w' _=>by rw[e1];simp[Builtin.lenOf],fun m hm w' _=>by
   obtain rfl:m=0:=by omega
   rw[e1];simpa[Builtin.firstCells] using qaC (P:=P) w' esz (some a0)⟩

omit [Cur] in
theorem za{ts tx rt elem:TypeId}{args:Array TypeId}(h0:args[0]?=some ts)(h1:args[1]?=some tx)(hu:P.underlying ts=some (.slice elem))(hx:P.underlying tx=some .string∨∃e,P.underlying tx=some (.slice e)){size:Nat}(hs:qo P elem size=true)
  {x':Value} {n sLen sCap:Nat} {a0:Option Addr} {new:Array Value} {w w':World} (hl:(Builtin.lenOf x').run P w = .ok n w) (hf:(Builtin.firstCells size n x').run P w = .ok new w) (hfit:sLen+n<=sCap)
  (hst:∀a,a0=some a->(storeCells (a.add (sLen*size)) new.toList).run P w = .ok () w') (hst0:a0=none->w'=w) :
  (Builtin.append_ args rt #[.slice a0 sLen sCap,x']).run P w = .ok (.slice a0 (sLen+n) sCap) w':=by
 rcases hx with hx|⟨e,hx⟩<;>cases a0 with
 | none=>obtain rfl:=hst0 rfl;simp[Builtin.append_,h0,h1,qc hu,qc hx,qy hs,hl,hfit,hf]
 | some a=>simp[Builtin.append_,h0,h1,qc hu,qc hx,qy hs,hl,hfit,hf,hst a rfl]

omit [Cur] in
theorem jL(z:Array Value)(n:Nat):(Builtin.zeroCells z n).size=n*z.size:=by simp[Builtin.zeroCells]

omit [Cur] in
theorem xt{ts tx rt elem:TypeId}{args:Array TypeId}(h0:args[0]?=some ts)(h1:args[1]?=some tx)(hu:P.underlying ts=some (.slice elem))(hx:P.underlying tx=some .string∨∃e,P.underlying tx=some (.slice e)){size:Nat}{i:TypeInfo}(hi:P.info? elem=some i)(hsz:i.size=size){z:Value}(hz:i.zero=some z)
  {x':Value} {n sLen sCap:Nat} {a0:Option Addr} {new old:Array Value} {w:World} (hl:(Builtin.lenOf x').run P w = .ok n w) (hf:(Builtin.firstCells size n x').run P w.drew = .ok new w.drew) (ho:(Builtin.firstCells size sLen (.slice a0 sLen sCap)).run P w.drew = .ok old w.drew)
  (hgrow:sCap<sLen+n) (hb1:sLen+n<=qk) (hb2:(sLen+n)*i.bytes<=qk) :
  ∃newCap rest w',sLen+n<=newCap∧rest.size=(newCap-(sLen+n))*z.cells.size∧w'.heap=w.heap.push (.cells (old++new++rest) elem)∧(w'.os=w.os∧w'.output=w.output) ∧
   (Builtin.append_ args rt #[.slice a0 sLen sCap,x']).run P w = .ok (.slice (some ⟨w.heap.size,0,none⟩) (sLen+n) newCap) w':=by
 have hn:¬(sLen+n<=sCap):=by omega
 have hb1':sLen+n<=70368744177664:=hb1;have hb2':(sLen+n)*i.bytes<=70368744177664:=hb2;have h63:¬(IntKind.max .i64<((sLen+n:Nat):Int)):=by show ¬((9223372036854775807:Int)<_);omega
 have h63':¬(9223372036854775807<((sLen:Int)+(n:Int))):=by omega
 have h48:¬(281474976710656<Builtin.nextslicecap (sLen+n) sCap*i.bytes):=by
  have:=growslice_fits (bytes:=i.bytes) hgrow (by omega);omega
 refine⟨grownCap w (sLen+n) sCap elem,Builtin.zeroCells z.cells (grownCap w (sLen+n) sCap elem-(sLen+n)),w.drew.alloc (.cells (old++new++Builtin.zeroCells z.cells (grownCap w (sLen+n) sCap elem-(sLen+n))) elem),?_,jL _ _,rfl,⟨rfl,rfl⟩,?_⟩
 ·exact Nat.le_add_right (sLen+n) _
 ·rcases hx with hx|⟨e,hx⟩ <;>
  simp[Builtin.append_,h0,h1,qc hu,qc hx,sizeOf,typeInfo,zeroValue,hi,hz,hsz,hl,hn,h63',h48,Question.forced,hf,ho,newRow,grownCap]

omit [Cur] in
theorem wb{ts tx rt elem:TypeId}{args:Array TypeId}(h0:args[0]?=some ts)(h1:args[1]?=some tx)(hu:P.underlying ts=some (.slice elem)){q:IntKind}(hx:P.underlying tx=some (.int q)){size:Nat}{i:TypeInfo}(hi:P.info? elem=some i)(hsz:i.size=size){z:Value}(hz:i.zero=some z)(hzs:z.cells.size=size)
  {q':IntKind} {n sLen sCap:Nat} {a0:Option Addr} {old:Array Value} {w:World} (ho:(Builtin.firstCells size sLen (.slice a0 sLen sCap)).run P w.drew = .ok old w.drew)
  (hgrow:sCap<sLen+n) (hb1:sLen+n<=qk) (hb2:(sLen+n)*i.bytes<=qk) :
  ∃newCap rest w',sLen+n<=newCap∧rest.size=(newCap-(sLen+n))*z.cells.size∧w'.heap=w.heap.push (.cells (old++(Array.range (n*size)).map (fun i=>z.cells[i % z.cells.size]!)++rest) elem)∧(w'.os=w.os∧w'.output=w.output) ∧
   (Builtin.append_ args rt #[.slice a0 sLen sCap,.int q' (n:Int)]).run P w = .ok (.slice (some ⟨w.heap.size,0,none⟩) (sLen+n) newCap) w':=by
 have hn:¬(sLen+n<=sCap):=by omega
 have hb1':sLen+n<=70368744177664:=hb1;have hb2':(sLen+n)*i.bytes<=70368744177664:=hb2;have h63':¬(9223372036854775807<((sLen:Int)+(n:Int))):=by omega
 have h48:¬(281474976710656<Builtin.nextslicecap (sLen+n) sCap*i.bytes):=by
  have:=growslice_fits (bytes:=i.bytes) hgrow (by omega);omega
 have hw:IntKind.wrap .i64 (n:Int)=(n:Int):=qad (by omega);have hneg:¬((n:Int)<0):=by omega
 have hnb:n*i.bytes<=70368744177664:=Nat.le_trans (Nat.mul_le_mul_right _ (Nat.le_add_left _ _)) hb2'
 have h48':¬(281474976710656<(n:Int)*(i.bytes:Int)):=by
  have:((n*i.bytes:Nat):Int)<=70368744177664:=Int.ofNat_le.2 hnb;rw[Int.natCast_mul] at this;omega
 refine⟨grownCap w (sLen+n) sCap elem,Builtin.zeroCells z.cells (grownCap w (sLen+n) sCap elem-(sLen+n)),w.drew.alloc (.cells (old++(Array.range (n*size)).map (fun i=>z.cells[i % z.cells.size]!)++Builtin.zeroCells z.cells (grownCap w (sLen+n) sCap elem-(sLen+n))) elem),?_,jL _ _,rfl,⟨rfl,rfl⟩,?_⟩
 ·exact Nat.le_add_right (sLen+n) _
 ·by_cases hz0:n*size=0
  ·simp[Builtin.append_,h0,h1,qc hu,qc hx,sizeOf,typeInfo,zeroValue,hi,hz,hsz,hn,h63',h48,h48',hw,hneg,asInt,asIntOf,Question.forced,ho,newRow,grownCap,hz0];rw[show Array.map (fun i=>z.cells[i % z.cells.size]!) (Array.range 0) = #[] from by simp,Array.empty_append]
  ·simp[Builtin.append_,h0,h1,qc hu,qc hx,sizeOf,typeInfo,zeroValue,hi,hz,hsz,hn,h63',h48,h48',hw,hneg,asInt,asIntOf,Question.forced,ho,newRow,grownCap,hz0,Builtin.zeroCells,hzs]

omit [Cur] in
theorem VRs.pre{as:List AV}{c:Array Value}{vs rest:List Value}(h:VRs σ ρ as vs)(hc:c.toList=vs++rest):∃z:List Value,c.toList=z∧VRs σ ρ as (z.take as.length) :=
 ⟨_,hc,by rw[h.length,List.take_left];exact h⟩

theorem qhj(r:Rel σ ρ B h w)(ht:TR σ ρ t a.tmps){esz bytes:Nat}{z:List AV}{s x:O}{s' x':Operand}{ts tx elem:TypeId}{args:Array TypeId}{ops:Array Operand}(ho:o.op = .call ⟨.builtin .append,ops,args⟩)(hops:ops.toList=[s',x'])
  (h0':args[0]?=some ts) (h1':args[1]?=some tx) (he:qx P ts=some elem) (hx:qdu P tx=true) (hs:qo P elem esz=true) (hb:zG P elem bytes=true) (hz:zt P elem z=true)
  (hc1:qh s' s=true) (hc2:qh x' x=true) (hk:opK orc (.appZ esz bytes z s x) t h k):Res P σ ρ B h w (execOp a.eval o) k:=by
 obtain rfl:ops = #[s',x']:=by cases ops;simpa using hops
 obtain⟨i,v,hi,hzv,hvr,hvs⟩:=xB hz;obtain⟨i',hi',hsz⟩:=qaO hs;rw[hi] at hi';cases hi';obtain⟨i',hi',hby⟩:=wi hb;rw[hi] at hi';cases hi'
 obtain⟨q,hq⟩:∃q,P.underlying tx=some (.int q):=by
  unfold qdu at hx;split at hx
  ·exact⟨_,by assumption⟩
  ·cases hx
 have hv:=zW (σ:=σ) (ρ:=ρ) _ _ hvr;have hl:=hv.length;have hzl:z.length=esz:=by simp at hl;omega
 obtain⟨u,h2,h3⟩:=ql ht hc1 hk;obtain⟨v2,h4,h5⟩:=ql ht hc2 h2;obtain⟨q',n,e1,h6⟩:=xK h5 h4;have hu:=qr he;cases u<;>try exact h6.elim
 ·have g2:=h3.un_nils;obtain⟨h7,h6⟩:=(qa (Nat.ble 1 n) _).1 h6;obtain⟨h8,h6⟩:=(qa (Nat.ble n qk) _).1 h6;obtain⟨h9,h6⟩:=(qa (Nat.ble (n*bytes) qk) _).1 h6;rw[xL] at h7 h8 h9;have b0:1<=n:=of_decide_eq_true h7;have b1:n<=qk:=by simpa using h8
  have b2:n*bytes<=qk:=by simpa using h9
  rw[zC] at h6;obtain⟨newCap,rest,w',e3,e5,e6,eio,e7⟩:=wb (rt:=o.type) (q':=q') (a0:=none) (sLen:=0) (sCap:=0) (n:=n) h0' h1' hu hq hi hsz hzv (by rw[hvs];exact hsz) (old:=#[]) (w:=w) (by simp[Builtin.firstCells]) (by omega) (by omega) (by rw[hby,Nat.zero_add];exact b2);have hrep:=qbB hv n v.cells (.inr rfl);rw[hzl] at hrep;have hsize:(#[]++(Array.range (n*esz)).map (fun i=>v.cells[i % v.cells.size]!)++rest:Array Value).toList=((Array.range (n*esz)).map (fun i=>v.cells[i % v.cells.size]!)).toList++rest.toList:=by simp
  obtain⟨ρ',h',f3,f4,f5,f6⟩:=xH (w1:=w') r (c:=#[]++(Array.range (n*esz)).map (fun i=>v.cells[i % v.cells.size]!)++rest) (VRs.pre hrep hsize) h6 e6 (hio:=eio)
  refine⟨_,.slice (some ⟨w.heap.size,0,none⟩) n newCap,h',ρ',w',f3,.inl ?_,?_,f4,f5⟩
  ·simp only[execOp,ho,resolve,invoke,builtin];simp[g2,e1];rw[e7];simp
  ·exact VR.own _ _ newCap _ f6 (by omega) (by
    have q1:(#[]++(Array.range (n*esz)).map (fun i=>v.cells[i % v.cells.size]!)++rest:Array Value).size=n*esz+(newCap-(0+n))*esz:=by
     rw[Array.size_append,e5,hvs,hsz];simp
    have q2:n+(newCap-(0+n))=newCap:=by omega
    rw[q1,← Nat.add_mul,q2];show 0+newCap*esz<=newCap*esz;omega)
 rename_i b o' len cap loose;obtain⟨L,c,off,g1,g2,g3⟩:=h3.un_sl;obtain⟨hlo,h6⟩:=(qa (!loose) _).1 h6;obtain rfl:loose=false:=by simpa using hlo
 have hcc:c=cap:=by
  rcases g3 with⟨_,q1|⟨q1,_⟩⟩|⟨_,q1,q2⟩
  ·exact q1
  ·cases q1
  ·exact q2.trans q1.symm
 obtain⟨h7,h6⟩:=(qa (Nat.ble (cap+1) (len+n)) _).1 h6;obtain⟨h8,h6⟩:=(qa (Nat.ble (len+n) qk) _).1 h6;obtain⟨h9,h6⟩:=(qa (Nat.ble ((len+n)*bytes) qk) _).1 h6;rw[xL] at h7 h8 h9;have b0:cap<len+n:=by have:=of_decide_eq_true h7;omega
 have b1:len+n<=qk:=by simpa using h8
 have b2:(len+n)*bytes<=qk:=by simpa using h9
 obtain⟨ds,us,f1,hds,hul,e4⟩:=xX r g1 h6;rw[zC,zl] at f1
 have hold:∀w',w'.heap=w.heap->(Builtin.firstCells esz len (.slice (some ⟨L.blk,off,none⟩) len c)).run P w' = .ok us.toArray w':=by
  intro w' hw;simp only[Builtin.firstCells];refine xe hul (fun j v hj=>?_)
  have hc:∀a,w'.cell? a=w.cell? a:=fun a=>by simp[World.cell?,hw]
  rcases g3 with⟨rfl,_⟩|⟨g3,_,_⟩
  ·rw[hc];exact e4 j v hj
  ·subst g3;simp at hul;subst hul;simp at hj
 obtain⟨newCap,rest,w',e3,e5,e6,eio,e7⟩:=wb (rt:=o.type) (q':=q') (a0:=some ⟨L.blk,off,none⟩) (sLen:=len) (sCap:=c) (n:=n) h0' h1' hu hq hi hsz hzv (by rw[hvs];exact hsz) (old:=us.toArray) (hold w.drew rfl) (by omega) b1 (by rw[hby];exact b2);have hrep:=qbB hv n v.cells (.inr rfl);rw[hzl] at hrep;have hnl:((Array.range (n*esz)).map (fun i=>v.cells[i % v.cells.size]!)).toList.length=n*esz:=by simp
 have hsize:(us.toArray++(Array.range (n*esz)).map (fun i=>v.cells[i % v.cells.size]!)++rest:Array Value).toList=(us++((Array.range (n*esz)).map (fun i=>v.cells[i % v.cells.size]!)).toList)++rest.toList:=by simp
 obtain⟨ρ',h',f3,f4,f5,f6⟩:=xH (w1:=w') r (c:=us.toArray++(Array.range (n*esz)).map (fun i=>v.cells[i % v.cells.size]!)++rest) (VRs.pre (hds.append hrep) hsize) f1 e6 (hio:=eio)
 refine⟨_,.slice (some ⟨w.heap.size,0,none⟩) (len+n) newCap,h',ρ',w',f3,.inl ?_,?_,f4,f5⟩
 ·simp only[execOp,ho,resolve,invoke,builtin];simp[g2,e1];rw[e7];rfl
 ·exact VR.own _ _ newCap _ f6 (by omega) (by
   have q1:(us.toArray++(Array.range (n*esz)).map (fun i=>v.cells[i % v.cells.size]!)++rest:Array Value).size=(len*esz+n*esz)+(newCap-(len+n))*esz:=by
    rw[Array.size_append,e5,hvs,hsz];simp[hul]
   have q2:len+n+(newCap-(len+n))=newCap:=by omega
   rw[q1,← Nat.add_mul,← Nat.add_mul,q2];show 0+newCap*esz<=newCap*esz;omega)

theorem qei(hσ:zq σ)(r:Rel σ ρ B h w){esz bytes:Nat}{consume:Bool}{s' x':Operand}{ts tx elem:TypeId}{args:Array TypeId}{b o' len cap:Nat}(h3:VR σ ρ (.sl b o' len cap true) (a.eval s'))
  (h0':args[0]?=some ts) (h1':args[1]?=some tx) (hu:P.underlying ts=some (.slice elem)) (hx:P.underlying tx=some .string∨∃e,P.underlying tx=some (.slice e)) (hs:qo P elem esz=true) {i:TypeInfo} (hi:P.info? elem=some i) {z:Value} (hz:i.zero=some z) (hzs:z.cells.size=i.size) (hsz:i.size=esz) (hby:i.bytes=bytes)
  {n:Nat} {cs:List AV} {vs:List Value} (h7:VRs σ ρ cs vs) (h8:vs.length=n*esz) (h9:∀w',w'.heap=w.heap->(Builtin.lenOf (a.eval x')).run P w' = .ok n w') (h10:∀m,m<=n->∀w',w'.heap=w.heap->(Builtin.firstCells esz m (a.eval x')).run P w' = .ok (vs.take (m*esz)).toArray w')
  (hexec:∀{r:Value} {w':World},(Builtin.append_ args o.type #[a.eval s',a.eval x']).run P w = .ok r w'->(execOp a.eval o).run P w = .ok (.value r) w')
  (h6:qd (len+n) (fun need=>qb (Nat.ble need qk) (qb (Nat.ble (Nat.mul need bytes) qk) (qb (and consume (Nat.beq cap len)) (zw h b (fun e w a ys=>qb (qu cs) (qb w (qb a (qb (Nat.beq e esz) (jZ ys (fun q=>qb (Nat.beq q (Nat.add o' (Nat.mul len esz))) (xg o' ys (fun zs=>qbg zs cs (fun cs' =>
    qY h b .dead (fun h1=>qN h1 (.cells esz true true cs') (fun b' h'=>k (.own b' need) h')))))))))))))))):Res P σ ρ B h w (execOp a.eval o) k:=by
 have hfull:∀w',w'.heap=w.heap->(Builtin.firstCells esz n (a.eval x')).run P w' = .ok vs.toArray w':=by
  grind
 have h6':=(Iff.of_eq (qg (len+n) _)).1 h6;clear h6;obtain⟨h11,h12⟩:=(qa _ _).1 h6';obtain⟨h13,h14⟩:=(qa _ _).1 h12;rw[xL] at h11 h13;have b1:len+n<=qk:=(by simp_all);have b2:(len+n)*bytes<=qk:=(by simp_all);obtain⟨hcap,h15⟩:=(qa _ _).1 h14;simp only[Bool.and_eq_true] at hcap;obtain rfl:cap=len:=Nat.eq_of_beq_eq_true hcap.2;obtain⟨e,wf,af,ys,hg,h16⟩:=(qq _ _ _).1 h15;obtain⟨hco,h17⟩:=(qa (qu cs) _).1 h16;obtain⟨hwf,h18⟩:=(qa wf _).1 h17;obtain⟨haf,h19⟩:=(qa af _).1 h18;obtain⟨hee,h20⟩:=(qa (Nat.beq e esz) _).1 h19;clear h14 h15 h16 h17 h18 h19;subst hwf haf;have hee:e=esz:=by simp_all
 subst hee;rw[zp] at h20;obtain⟨hm,h20⟩:=(qa _ _).1 h20;have hm:ys.length=o'+cap*e:=by simp_all
 obtain⟨hod,h20⟩:=(qA _ _ _).1 h20;rw[zl] at h20;obtain⟨hf,hnew⟩:=(qC _ _ _ _).1 h20;obtain⟨r1,k1⟩:=r.weak hg hf .dead (.inl rfl);obtain⟨L,c,off,g1,g2,g3⟩:=h3.un_sl;have hnew':=(qv _ _ _).1 hnew;obtain⟨hLe,cc,cty,cfz,f1,f2,f3,f4,f5⟩:=r.cells b L e true true ys g1 hg
 have hrow:∃us,VRs σ ρ (ys.drop o') us∧us.length=cap*e∧(∀j v,us[j]?=some v->w.cell? ⟨L.blk,L.off+o'+j,none⟩=some v):=by
  obtain⟨ds,us,e1,e2,e3,e4⟩:=xX r g1 (off:=o') (n:=cap*e) (k:=fun l=>l=ys.drop o') (by
   refine (qq _ _ _).2 ⟨_,_,_,_,hg,(qA _ _ _).2 ⟨hod,(qt _ _ _).2 ⟨by simp;omega,?_⟩⟩⟩
   rw[List.take_of_length_le (by simp;omega)])
  grind
 obtain⟨us,e2,e3,e4⟩:=hrow
 have anew:∀{a0:Option Addr} {c:Nat},a.eval s' = .slice a0 cap c->c<cap+n->
   (∀w',w'.heap=w.heap->(Builtin.firstCells e cap (.slice a0 cap c)).run P w' = .ok us.toArray w')->Res P σ ρ B h w (execOp a.eval o) k:=by
  intro a0 c ev hlt hold;obtain⟨newCap,rest,w',q3,q4,q5,eio,q6⟩:=xt (rt:=o.type) (a0:=a0) (sLen:=cap) (sCap:=c) h0' h1' hu hx hi hsz hz (h9 w rfl) (hfull w.drew rfl) (old:=us.toArray) (hold w.drew rfl) hlt b1 (by rw[hby];exact b2);have hsize:(us.toArray++vs.toArray++rest:Array Value).toList=(us++vs)++rest.toList:=by simp
  obtain⟨ρ',h',q7,q8,q9,q10⟩:=xH (w1:=w') r1 (c:=us.toArray++vs.toArray++rest) (VRs.pre (e2.append h7) hsize) hnew q5 (hio:=eio);refine⟨_,_,h',ρ',w',q7,.inl (hexec (by rw[ev];exact q6)),?_,q8,k1.trans q9⟩
  exact VR.own _ _ newCap _ q10 (by omega) (by
   have p1:(us.toArray++vs.toArray++rest:Array Value).size=(cap*e+n*e)+(newCap-(cap+n))*e:=by
    rw[Array.size_append,q4,hzs,hsz];simp[h8,e3]
   have p2:cap+n+(newCap-(cap+n))=newCap:=by omega
   rw[p1,← Nat.add_mul,← Nat.add_mul,p2];simp_all)
 have hold:(off=L.off+o'∨cap=0)->∀w',w'.heap=w.heap->(Builtin.firstCells e cap (.slice (some ⟨L.blk,off,none⟩) cap c)).run P w' = .ok us.toArray w':=by
  intro ho w' hw;simp only[Builtin.firstCells];refine xe e3 (fun j v hj=>?_)
  have hc:∀a,w'.cell? a=w.cell? a:=fun a=>by simp[World.cell?,hw]
  grind
 rcases g3 with⟨rfl,hc⟩|⟨hl0,hc0,hcr⟩
 ·by_cases hlt:c<cap+n
  ·simp_all
  ·have hroom:L.off+o'+c*e<=L.size∧cap<=c:=by
    grind
   have hmul:(cap+n)*e<=c*e:=Nat.mul_le_mul_right _ (by omega);rw[Nat.add_mul] at hmul;have hcl:=h7.length;obtain⟨cc',hspl,hw⟩:=xv vs (L.off+ys.length) w cc f1 (by rw[h8];omega);obtain⟨r2,k2⟩:=r.grow g1 hg hf o' hod cs vs h7 (by rw[hcl,h8];omega) .dead true (by simp_all) f1 hspl hw (xR _ _ _ _)
   have hst:=run_storeCells_cells (P:=P) L.blk (L.off+ys.length) vs 0 w (fun j hj=>by
     rw[zP f1];grind) (fun j hj=>by
     rw[wm f1];simp only[decide_eq_false_iff_not];exact f5 (by simp) _ (by omega)) (ji hσ h7 hco)
   refine⟨_,.slice (some ⟨L.blk,L.off+o',none⟩) (cap+n) c,_,_,w.setCells L.blk (L.off+ys.length) vs,hnew',.inl (hexec ?_),?_,r2,k2⟩
   ·rw[g2];refine za h0' h1' hu hx hs (h9 w rfl) (hfull w rfl) (by omega) (fun a0 ha0=>?_) (by grind)
    cases ha0;rw[qT];have:L.off+o'+cap*e=L.off+ys.length:=by omega
    rw[this];omega
   ·exact VR.own (σ:=σ) (ρ:=ρ.add h.sz ⟨L.blk,L.off+o',L.size,e⟩) h.sz (cap+n) c ⟨L.blk,L.off+o',L.size,e⟩ (Ren.add_self _ _ _) (by omega) hroom.1
 ·obtain rfl:cap=0:=by omega
  obtain rfl:c=0:=by omega
  cases n with
  | succ n=>grind
  | zero =>
   have hvs:vs=[]:=by simp_all
   obtain⟨r2,k2⟩:=r1.idle (.cells e true true (ys.drop o'++cs));refine⟨_,.slice (some ⟨L.blk,off,none⟩) 0 0,_,_,w,hnew',.inl (hexec ?_),.own0 _ _ (Nat.lt_of_lt_of_le (by omega) (Nat.le_max_right _ _)),r2,k1.trans k2⟩;rw[g2];exact za h0' h1' hu hx hs (h9 w rfl) (hfull w rfl) (Nat.le_refl _) (fun a1 ha1=>by subst hvs;rfl) (fun _=>rfl)

theorem qdi(hσ:zq σ)(r:Rel σ ρ B h w)(ht:TR σ ρ t a.tmps){esz bytes:Nat}{consume:Bool}{s x:O}{s' x':Operand}{ts tx elem:TypeId}{args:Array TypeId}{ops:Array Operand}(ho:o.op = .call ⟨.builtin .append,ops,args⟩)(hops:ops.toList=[s',x'])
  (h0':args[0]?=some ts) (h1':args[1]?=some tx) (he:qx P ts=some elem) (hx:P.underlying tx=some .string∨∃e,P.underlying tx=some (.slice e)) (hs:qo P elem esz=true) (hb:zG P elem bytes=true) {i:TypeInfo} (hi:P.info? elem=some i) {z:Value} (hz:i.zero=some z) (hzs:z.cells.size=i.size)
  (hc1:qh s' s=true) (hc2:qh x' x=true) (hk:opK orc (.app esz bytes consume s x) t h k):Res P σ ρ B h w (execOp a.eval o) k:=by
 obtain rfl:ops = #[s',x']:=by grind
 obtain⟨i',hi',hsz⟩:=qaO hs;rw[hi] at hi';cases hi';obtain⟨i',hi',hby⟩:=wi hb;rw[hi] at hi';cases hi';obtain⟨u,h2,h3⟩:=ql ht hc1 hk;obtain⟨v,h4,h5⟩:=ql ht hc2 h2;obtain⟨n,cs,vs,h6,h7,h8,h9,h10⟩:=qdH (P:=P) r h5 h4;have hu:=qr he
 have hexec:∀{r:Value} {w':World},(Builtin.append_ args o.type #[a.eval s',a.eval x']).run P w = .ok r w'->(execOp a.eval o).run P w = .ok (.value r) w':=by
  intro r w' hr;simp[execOp,ho,resolve,invoke,builtin,hr]
 have hfull:∀w',w'.heap=w.heap->(Builtin.firstCells esz n (a.eval x')).run P w' = .ok vs.toArray w':=by
  grind
 -- where there is no room at all
 have fromNone:∀{a0:Option Addr},a.eval s' = .slice a0 0 0->qb (Nat.ble n qk) (qb (Nat.ble (n*bytes) qk) (qN h (.cells esz true true cs) (fun b h'=>k (.own b n) h')))->Res P σ ρ B h w (execOp a.eval o) k:=by
  intro a0 es h6;obtain⟨h11,h12⟩:=(qa _ _).1 h6;obtain⟨h13,h14⟩:=(qa _ _).1 h12;rw[xL] at h11 h13;have g1:n<=qk:=of_decide_eq_true h11;have g2:n*bytes<=qk:=of_decide_eq_true h13;cases n with
  | zero =>
   have hvs:vs=[]:=by simp_all
   have hnew':=(qv _ _ _).1 h14;obtain⟨r2,k2⟩:=r.idle (.cells esz true true cs);refine⟨_,.slice a0 0 0,_,_,w,hnew',.inl (hexec ?_),.own0 _ _ (Nat.lt_of_lt_of_le (Nat.lt_succ_self _) (Nat.le_max_right _ _)),r2,k2⟩;rw[es];exact za h0' h1' hu hx hs (h9 w rfl) (hfull w rfl) (Nat.le_refl _) (fun a1 ha1=>by subst hvs;rfl) (fun _=>rfl)
  | succ n =>
   obtain⟨newCap,rest,w',g3,g4,g5,gio,g6⟩:=xt (rt:=o.type) h0' h1' hu hx hi hsz hz (h9 w rfl) (hfull w.drew rfl) (old:=#[]) (a0:=a0) (sLen:=0) (sCap:=0) (qaC _ _ _) (by omega) (by omega) (by rw[hby];simpa using g2);have hsize:(#[]++vs.toArray++rest:Array Value).toList=vs++rest.toList:=by simp
   obtain⟨ρ',h',g7,g8,g9,g10⟩:=xH (w1:=w') r (c:=#[]++vs.toArray++rest) (VRs.pre h7 hsize) h14 g5 (hio:=gio);refine⟨_,_,h',ρ',w',g7,.inl (hexec (by rw[es];exact g6)),?_,g8,g9⟩
   have:=VR.own (σ:=σ) h.sz (n+1) newCap _ g10 (by omega) (by
    have e1:(#[]++vs.toArray++rest:Array Value).size=(n+1)*esz+(newCap-(0+(n+1)))*esz:=by
     rw[Array.size_append,g4,hzs,hsz];simp[h8]
    rw[e1];show 0+newCap*esz<=_;rw[← Nat.add_mul,Nat.zero_add];apply Nat.le_of_eq;congr 1;omega)
   simp_all
 cases u<;>try exact h6.elim
 ·grind[VR.un_nils]
 ·rename_i b o' len cap loose;obtain⟨L,c,off,g1,g2,g3⟩:=h3.un_sl;cases loose with
  | true=>exact qei hσ r h3 h0' h1' hu hx hs hi hz hzs hsz hby h7 h8 h9 h10 hexec h6
  | false =>
  have hcc:c=cap:=by
   grind
  have h6':(Bool.rec (motive:=fun _=>Prop)
    (qb (Nat.ble (len+n) qk) (qb (Nat.ble ((len+n)*bytes) qk)
     (zX h b o' (len*esz) (fun old=>qbg old cs (fun cs=>qN h (.cells esz true true cs) (fun b' h'=>k (.own b' (len+n)) h'))))))
    (Nat.rec (motive:=fun _=>Prop) (k (.sl b o' (len+n) cap false) h) (fun _ _=>qd (o'+len*esz) (fun at_=>stK h b at_ cs (fun h'=>k (.sl b o' (len+n) cap false) h'))) n)
    (Nat.ble (len+n) cap):Prop):=by
   simp_all
  clear h6;rw[x6,xL] at h6';rcases h6' with⟨hble,h6⟩|⟨hble,h6⟩
  ·-- it does not fit
   have hgr:cap<len+n:=by simp_all
   obtain⟨h11,h12⟩:=(qa _ _).1 h6;obtain⟨h13,h14⟩:=(qa _ _).1 h12;rw[xL] at h11 h13;have b1:len+n<=qk:=of_decide_eq_true h11;have b2:(len+n)*bytes<=qk:=of_decide_eq_true h13;obtain⟨ds,us,e1,hds,hul,e4⟩:=xX r g1 h14;rw[zl] at e1
   have hold:∀w',w'.heap=w.heap->(Builtin.firstCells esz len (.slice (some ⟨L.blk,off,none⟩) len c)).run P w' = .ok us.toArray w':=by
    intro w' hw;simp only[Builtin.firstCells];refine xe hul (fun j v hj=>?_)
    have hc:∀a,w'.cell? a=w.cell? a:=fun a=>by simp[World.cell?,hw]
    grind
   obtain⟨newCap,rest,w',e3,e4,e5,eio,e6⟩:=xt (rt:=o.type) (a0:=some ⟨L.blk,off,none⟩) (sLen:=len) (sCap:=c) h0' h1' hu hx hi hsz hz (h9 w rfl) (hfull w.drew rfl) (old:=us.toArray) (hold w.drew rfl) (by omega) b1 (by rw[hby];exact b2);have hsize:(us.toArray++vs.toArray++rest:Array Value).toList=(us++vs)++rest.toList:=by simp
   obtain⟨ρ',h',e7,e8,e9,e10⟩:=xH (w1:=w') r (c:=us.toArray++vs.toArray++rest) (VRs.pre (hds.append h7) hsize) e1 e5 (hio:=eio);refine⟨_,_,h',ρ',w',e7,.inl (hexec (by rw[g2];exact e6)),?_,e8,e9⟩
   exact VR.own _ _ newCap _ e10 (by omega) (by
    have e1:(us.toArray++vs.toArray++rest:Array Value).size=(len*esz+n*esz)+(newCap-(len+n))*esz:=by
     rw[Array.size_append,e4,hzs,hsz];simp[h8,hul]
    have e2:len+n+(newCap-(len+n))=newCap:=by omega
    rw[e1,← Nat.add_mul,← Nat.add_mul,e2];simp_all)
  ·-- it fits
   have hfit:len+n<=cap:=by simp_all
   cases n with
   | zero =>
    have h6':k (.sl b o' len cap false) h:=h6;refine Res.pure r h6' (v':=a.eval s') (hexec ?_) h3;rw[g2];have hvs:vs=[]:=by simpa using h8
    have:=za (rt:=o.type) (a0:=some ⟨L.blk,off,none⟩) (sLen:=len) (sCap:=c) (w':=w) h0' h1' hu hx hs (h9 w rfl) (hfull w rfl) (by omega) (fun a0 ha0=>by subst hvs;rfl) (fun hh=>by cases hh)
    omega
   | succ n =>
    have hoff:off=L.off+o':=by rcases g3 with⟨g3,_⟩|⟨_,g3,_⟩<;>omega
    have h6':stK h b (o'+len*esz) cs (fun h'=>k (.sl b o' (len+(n+1)) cap false) h'):=by
     simp_all
    obtain⟨h',w',e1,e2,e3,e4⟩:=qd6 (P:=P) hσ r g1 h7 h6';refine⟨_,.slice (some ⟨L.blk,off,none⟩) (len+(n+1)) c,h',ρ,w',e1,.inl (hexec ?_),?_,e2,e3⟩
    ·rw[g2];refine za h0' h1' hu hx hs (h9 w rfl) (hfull w rfl) (by omega) (fun a0 ha0=>?_) (fun hh=>by cases hh)
     grind[qT]
    ·rw[hoff];exact .sl _ _ _ _ _ _ L g1 (.inl hcc)
 ·-- a row that stays
  cases n with
  | zero =>
   have h6':k (.fz _ _) h:=h6;refine Res.pure r h6' (v':=a.eval s') (hexec ?_) h3;have hvs:vs=[]:=by simp_all
   rcases h3.un_fz with⟨k0,off,c,arr,e1,e2,_⟩|⟨rfl,_,a0,e1⟩
   ·rw[e1];have:=za (rt:=o.type) (a0:=some ⟨k0,off,none⟩) (sCap:=c) (w':=w) h0' h1' hu hx hs (h9 w rfl) (hfull w rfl) (by simpa using e2) (fun a0 ha0=>by subst hvs;rfl) (fun hh=>by cases hh)
    omega
   ·rw[e1];exact za h0' h1' hu hx hs (h9 w rfl) (hfull w rfl) (Nat.le_refl _) (fun a1 ha1=>by subst hvs;rfl) (fun _=>rfl)
  | succ n=>simp_all
 ·grind[VR.un_e0]
 ·-- a row of one's own
  rename_i b m
  have h6':qb (Nat.ble (m+n) qk) (qb (Nat.ble ((m+n)*bytes) qk) (qb consume (zw h b (fun e w a ys=>qb (qu cs) (qb w (qb a (qb (Nat.beq e esz) (jZ ys (fun q=>qb (Nat.beq q (m*esz)) (qbg ys cs (fun cs' =>
    qY h b .dead (fun h1=>qN h1 (.cells esz true true cs') (fun b' h'=>k (.own b' (m+n)) h'))))))))))))):=by
   simp_all
  clear h6;obtain⟨h11,h12⟩:=(qa _ _).1 h6';obtain⟨h13,h14⟩:=(qa _ _).1 h12;rw[xL] at h11 h13;have b1:m+n<=qk:=of_decide_eq_true h11;have b2:(m+n)*bytes<=qk:=of_decide_eq_true h13;obtain⟨_,h15⟩:=(qa _ _).1 h14;obtain⟨e,wf,af,ys,hg,h16⟩:=(qq _ _ _).1 h15;obtain⟨hco,h17⟩:=(qa (qu cs) _).1 h16;obtain⟨hwf,h18⟩:=(qa wf _).1 h17;obtain⟨haf,h19⟩:=(qa af _).1 h18;obtain⟨hee,h20⟩:=(qa (Nat.beq e esz) _).1 h19;clear h14 h15 h16 h17 h18 h19;subst hwf haf;have hee:e=esz:=by simp_all
  subst hee;rw[zp] at h20;obtain⟨hm,h20⟩:=(qa _ _).1 h20;have hm:ys.length=m*e:=by simp_all
  rw[zl] at h20;obtain⟨hf,hnew⟩:=(qC _ _ _ _).1 h20;obtain⟨r1,k1⟩:=r.weak hg hf .dead (.inl rfl)
  -- where the row is made anew
  have anew:∀{us:List Value} {a0:Option Addr} {c:Nat},a.eval s' = .slice a0 m c->c<m+n->VRs σ ρ ys us->us.length=m*e->
    (∀w',w'.heap=w.heap->(Builtin.firstCells e m (.slice a0 m c)).run P w' = .ok us.toArray w')->Res P σ ρ B h w (execOp a.eval o) k:=by
   intro us a0 c ev hlt hds hul hold;obtain⟨newCap,rest,w',e3,e4,e5,eio,e6⟩:=xt (rt:=o.type) (a0:=a0) (sLen:=m) (sCap:=c) h0' h1' hu hx hi hsz hz (h9 w rfl) (hfull w.drew rfl) (old:=us.toArray) (hold w.drew rfl) hlt b1 (by rw[hby];exact b2);have hsize:(us.toArray++vs.toArray++rest:Array Value).toList=(us++vs)++rest.toList:=by simp
   obtain⟨ρ',h',e7,e8,e9,e10⟩:=xH (w1:=w') r1 (c:=us.toArray++vs.toArray++rest) (VRs.pre (hds.append h7) hsize) hnew e5 (hio:=eio);refine⟨_,_,h',ρ',w',e7,.inl (hexec (by rw[ev];exact e6)),?_,e8,k1.trans e9⟩
   exact VR.own _ _ newCap _ e10 (by omega) (by
    have e1:(us.toArray++vs.toArray++rest:Array Value).size=(m*e+n*e)+(newCap-(m+n))*e:=by
     rw[Array.size_append,e4,hzs,hsz];simp[h8,hul]
    have e2:m+n+(newCap-(m+n))=newCap:=by omega
    rw[e1,← Nat.add_mul,← Nat.add_mul,e2];simp_all)
  rcases h3.un_own with⟨rfl,⟨a0,ev⟩,hbn⟩|⟨L,c,g1,g2,g3,ev⟩
  ·-- nil
   have hys:ys=[]:=by grind
   subst hys;cases n with
   | zero =>
    have hvs:vs=[]:=by simp_all
    have hnew':=(qv _ _ _).1 hnew;obtain⟨r2,k2⟩:=r1.idle (.cells e true true ([]++cs));refine⟨_,.slice a0 0 0,_,_,w,hnew',.inl (hexec ?_),.own0 _ _ (Nat.lt_of_lt_of_le (Nat.lt_succ_self _) (Nat.le_max_right _ _)),r2,k1.trans k2⟩;rw[ev];exact za h0' h1' hu hx hs (h9 w rfl) (hfull w rfl) (Nat.le_refl _) (fun a1 ha1=>by subst hvs;rfl) (fun _=>rfl)
   | succ n=>exact anew (us:=[]) ev (by omega) .nil (by simp) (fun w' _=>by simp_all[qaC])
  ·obtain⟨hLe,cc,cty,cfz,f1,f2,f3,f4,f5⟩:=r.cells b L e true true ys g1 hg
   have hrow:∃us,VRs σ ρ ys us∧us.length=m*e∧(∀j v,us[j]?=some v->w.cell? ⟨L.blk,L.off+0+j,none⟩=some v):=by
    obtain⟨ds,us,e1,e2,e3,e4⟩:=xX r g1 (off:=0) (n:=m*e) (k:=fun l=>l=ys) (by
     refine (qq _ _ _).2 ⟨_,_,_,_,hg,(qA _ _ _).2 ⟨Nat.zero_le _,(qt _ _ _).2 ⟨by simp;omega,?_⟩⟩⟩
     rw[List.drop_zero,List.take_of_length_le (by omega)])
    grind
   obtain⟨us,e2,e3,e4⟩:=hrow
   by_cases hlt:c<m+n
   ·refine anew ev hlt e2 e3 (fun w' hw=>?_)
    simp only[Builtin.firstCells];refine xe e3 (fun j v hj=>?_)
    have hc:∀a,w'.cell? a=w.cell? a:=fun a=>by simp[World.cell?,hw]
    rw[hc];grind
   ·-- in place
    rw[hLe] at g3;have hmul:(m+n)*e<=c*e:=Nat.mul_le_mul_right _ (by omega);rw[Nat.add_mul] at hmul;have hcl:=h7.length;obtain⟨cc',hspl,hw⟩:=xv vs (L.off+ys.length) w cc f1 (by rw[h8];omega);obtain⟨r2,k2⟩:=r.grow g1 hg hf 0 (Nat.zero_le _) cs vs h7 (by rw[hcl,h8];omega) .dead true (.inl ⟨rfl,rfl⟩) f1 hspl hw (xR _ _ _ _)
    have hst:=run_storeCells_cells (P:=P) L.blk (L.off+ys.length) vs 0 w (fun j hj=>by
      rw[zP f1];grind) (fun j hj=>by
      rw[wm f1];simp only[decide_eq_false_iff_not];exact f5 (by simp) _ (by omega)) (ji hσ h7 hco)
    have hnew':=(qv _ _ _).1 hnew;refine⟨_,.slice (some ⟨L.blk,L.off,none⟩) (m+n) c,_,_,w.setCells L.blk (L.off+ys.length) vs,hnew',.inl (hexec ?_),?_,r2,k2⟩
    ·rw[ev]
     grind[za,qT]
    ·have:=VR.own (σ:=σ) (ρ:=ρ.add h.sz ⟨L.blk,L.off+0,L.size,e⟩) h.sz (m+n) c ⟨L.blk,L.off+0,L.size,e⟩ (Ren.add_self _ _ _) (by omega) (by omega);exact this

theorem qhP(hσ:zq σ)(r:Rel σ ρ B h w)(ht:TR σ ρ t a.tmps){esz:Nat}{d s:O}{d' s':Operand}{td elem:TypeId}{args:Array TypeId}{ops:Array Operand}(ho:o.op = .call ⟨.builtin .copy,ops,args⟩)(hops:ops.toList=[d',s'])
  (h0:args[0]?=some td) (_h1:(args[1]?).isSome=true) (he:qx P td=some elem) (hs:qo P elem esz=true) (hc1:qh d' d=true) (hc2:qh s' s=true) (hk:opK orc (.copy esz d s) t h k):Res P σ ρ B h w (execOp a.eval o) k:=by
 obtain rfl:ops = #[d',s']:=by cases ops;simpa using hops
 obtain⟨u,h2,h3⟩:=ql ht hc1 hk;obtain⟨v,h4,h5⟩:=ql ht hc2 h2;have hu:=qr he
 have hexec:∀{r:Value} {w':World},(Builtin.copy_ args o.type #[a.eval d',a.eval s']).run P w = .ok r w'->(execOp a.eval o).run P w = .ok (.value r) w':=by
  intro r w' hr;simp[execOp,ho,resolve,invoke,builtin,hr]
 cases u<;>try exact h4.elim
 ·obtain⟨n,cs,vs,h6,h7,h8,h9,h10⟩:=qdH (P:=P) r h5 (show zU h esz v (fun _ _=>k (.i .i64 0) h) from h4)
  have ed:=h3.un_nils;refine Res.pure r h6 (v':=.int .i64 0) (hexec ?_) (.i _ _);rw[ed];have hf:=h10 0 (Nat.zero_le _) w rfl;simp[Builtin.copy_,h0,qc hu,h9 w rfl,qy hs,goInt] at hf ⊢;simp[hf]
 ·rename_i b o' len cap loose;obtain⟨L,c,off,g1,g2,g3⟩:=h3.un_sl;obtain⟨n,cs,vs,h6,h7,h8,h9,h10⟩:=qdH (P:=P) r h5 (show zU h esz v (fun n new=>qd (min n len) (fun m=>zN (Nat.mul m esz) new (fun cs=>stK h b o' cs (fun h'=>k (.i .i64 (Int.ofNat m)) h')))) from h4)
  have h6':=(Iff.of_eq (qg (min n len) _)).1 h6;obtain⟨h11,h12⟩:=(qt _ _ _).1 h6';have hv:=h7.take (Nat.mul (min n len) esz);obtain⟨h',w',e1,e2,e3,e4⟩:=qd6 (P:=P) hσ r g1 hv h12;refine⟨_,.int .i64 ((min n len:Nat):Int),h',ρ,w',e1,.inl (hexec ?_),.i _ _,e2,e3⟩;have hf:=h10 (min n len) (Nat.min_le_left _ _) w rfl
  have hst:(storeCells ⟨L.blk,off,none⟩ (vs.take (min n len*esz))).run P w = .ok () w':=by
   rcases g3 with⟨rfl,_⟩|⟨g3,_,_⟩
   ·exact e4
   ·subst g3;have e5:vs.take (Nat.mul (min n 0) esz)=[]:=by simp
    rw[e5] at e4;have e6:vs.take (min n 0*esz)=[]:=by simp
    rw[e6];exact e4
  rw[g2];simp[Builtin.copy_,h0,qc hu,h9 w rfl,qy hs,goInt,Nat.min_def] at hf ⊢;simp only[Nat.min_def] at hst;simp[hf,hst]

theorem qfG(hσ:zq σ)(r:Rel σ ρ B h w)(ht:TR σ ρ t a.tmps){z:List AV}{x:O}{x':Operand}{td elem:TypeId}{args:Array TypeId}{ops:Array Operand}(ho:o.op = .call ⟨.builtin .clear,ops,args⟩)(hops:ops.toList=[x'])
  (h0:args[0]?=some td) (he:qx P td=some elem) (hz:zt P elem z=true) (hc1:qh x' x=true) (hk:opK orc (.clear z x) t h k):Res P σ ρ B h w (execOp a.eval o) k:=by
 obtain rfl:ops = #[x']:=by grind
 obtain⟨i,v,h1,h2,h3,h4⟩:=xB hz;have hv:=zW (σ:=σ) (ρ:=ρ) _ _ h3;obtain⟨u,h5,h6⟩:=ql ht hc1 hk;have hu:=qr he
 have hexec:∀{r:Value} {w':World},(Builtin.clear_ args o.type #[a.eval x']).run P w = .ok r w'->(execOp a.eval o).run P w = .ok (.value r) w':=by
  intro r w' hr;simp[execOp,ho,resolve,invoke,builtin,hr]
 cases u<;>try exact h5.elim
 ·refine Res.pure r (v:=.tup []) h5 (v':=.tuple #[]) (hexec ?_) (.tup _ _ .nil);rw[h6.un_nils];simp[Builtin.clear_,h0,qc hu]
 ·rename_i b o' len cap loose;obtain⟨L,c,off,g1,g2,g3⟩:=h6.un_sl;cases len with
  | zero =>
   have h5':k (.tup []) h:=h5;refine Res.pure r (v:=.tup []) h5' (v':=.tuple #[]) (hexec ?_) (.tup _ _ .nil);rw[g2];simp[Builtin.clear_,h0,qc hu]
  | succ n =>
   have hoff:off=L.off+o':=by rcases g3 with⟨g3,_⟩|⟨g3,_,_⟩<;>omega
   have h5':qau z (n+1) (fun cs=>stK h b o' cs (fun h'=>k (.tup []) h')):=h5
   rw[zC] at h5';have hrep:=qbB hv (n+1) v.cells (.inr rfl);obtain⟨h',w',e1,e2,e3,e4⟩:=qd6 (P:=P) hσ r g1 hrep h5';refine⟨.tup [],.tuple #[],h',ρ,w',e1,.inl (hexec ?_),.tup _ _ .nil,e2,e3⟩;have hl:=hv.length;rw[g2,hoff]
   have e5:(Builtin.zeroCells v.cells (n+1)).toList=((Array.range ((n+1)*z.length)).map (fun i=>v.cells[i % v.cells.size]!)).toList:=by
    simp only[Builtin.zeroCells];rw[show v.cells.size=z.length from by simp_all]
   rw[← e5] at e4;simp[Builtin.clear_,h0,qc hu,xk h1 h2,e4]

theorem qk2(r:Rel σ ρ B h w)(ht:TR σ ρ t a.tmps){x:O}{y:Operand}{s d e:TypeId}(ho:o.op = .convert s d y)(hc:qh y x=true)(hs:qV P s=true)(hd:qx P d=some e)(he:qcX P e .u8=true)(hk:opK orc (.s2b x) t h k):Res P σ ρ B h w (execOp a.eval o) k:=by
 obtain⟨v,h1,h2⟩:=ql ht hc hk;cases v<;>try exact h1.elim
 rename_i l;have ey:=h2.un_s;have h1':=(Iff.of_eq (qg l.length _)).1 h1
 let cap:=grownCap w l.length 0 e
 let row:Array Value:=(⟨l.toArray⟩:ByteArray).data.map (fun b=>Value.int .u8 b.toNat)++Array.replicate (cap-l.length) (.int .u8 0)
 have hrow:row.toList=(l.map fun c=>Value.int .u8 (c.toNat:Int))++List.replicate (cap-l.length) (.int .u8 0):=by simp[row]
 have hcap:l.length<=cap:=Nat.le_add_right l.length _;have hsz:row.size=cap:=by simp[row];omega
 let w1:World:=(w.drew.alloc (.cells row e)).freeze ⟨w.heap.size,row.size,none⟩ 1
 have hw1:w1.heap=w.heap.push (.cells row e (row.size,row.size+1)):=by
  simp only[w1,World.freeze];rw[if_neg (by decide)];apply Array.ext_getElem?;intro i;rw[Array.getElem?_modify];have e1:(w.drew.alloc (Obj.cells row e)).heap=w.heap.push (.cells row e):=rfl;rw[e1]
  by_cases hi:i=w.heap.size
  ·subst hi;simp
  ·rw[if_neg (fun h=>hi h.symm),Array.getElem?_push,Array.getElem?_push,if_neg hi,if_neg hi]
 have hrun:(execOp a.eval o).run P w = .ok (.value (.slice (some ⟨w.heap.size,0,none⟩) l.length cap)) w1:=by
  have hsh:(w.drew.alloc (Obj.cells row e)).shape? w.heap.size=some (e,row.size):=by
   have e1:(w.drew.alloc (Obj.cells row e)).heap=w.heap.push (.cells row e):=rfl;simp[World.shape?,e1]
  have hq:(choose (.appendCap l.length 0 e)).run P w = .ok cap w.drew:=by simp[Question.forced];rfl
  simp only[execOp,ho,convert,Sem.run_bind,qc (qE hs),qc (qr hd),qc (jS he),Result.andThen_ok,ey,Conv.stringToBytes,jN,hq,newRow,run_newObj,Sem.run_pure,markStringish,run_shape];have hsh':({ w.drew with heap:=w.drew.heap.push (Obj.cells row e) }:World).shape? w.drew.heap.size=some (e,row.size):=hsh;simp only[row,cap] at hsh' ⊢;simp only[hsh'];simp only[run_freeze,Result.andThen_ok];rfl
 obtain⟨ρ',h',g1,g2,g3,g4⟩:=xH (w1:=w1) r (c:=row) (VRs.pre (qcC l) hrow) h1' hw1 (fun j hj hh=>by omega) (by simp only[w1,World.freeze];rw[if_neg (by decide)];exact⟨rfl,rfl⟩)
 exact⟨_,_,h',ρ',w1,g1,.inl hrun,VR.own (σ:=σ) h.sz l.length cap _ g4 hcap (by simp[hsz]),g2,g3⟩

omit [Cur] in
theorem qcr{v:AV}{cs:List AV}{k:List UInt8->Prop}(h:qK (v::cs) k):∃m:Nat,v = .i .u8 (m:Int)∧qK cs (fun l=>k (UInt8.ofNat m::l)):=by
 cases v<;>try exact h.elim
 rename_i q n;cases q<;>try exact h.elim
 cases n with
 | ofNat m=>exact⟨m,rfl,h⟩
 | negSucc m=>exact h.elim
omit [Cur] in
theorem qbG:∀{cs:List AV} {vs:List Value} (_:VRs σ ρ cs vs) {k:List UInt8->Prop} (_:qK cs k),∃l:List UInt8,k l∧vs.length=l.length∧∃ns:List Int,vs=ns.map (Value.int .u8)∧ns.map (fun n=>UInt8.ofNat n.toNat)=l
 | [],_,.nil,k,hk=>⟨[],hk,rfl,[],rfl,rfl⟩
 | v::cs,_,.cons _ _ v' vs' h1 h2,k,hk=>by
  obtain⟨m,rfl,hk'⟩:=qcr hk;obtain⟨l,h3,h4,ns,h5,h6⟩:=qbG h2 hk';have e:=h1.un_i;subst e;exact⟨_,h3,by simp[h4],(m:Int)::ns,by simp[h5],by simp[h6]⟩

theorem qjw(r:Rel σ ρ B h w)(ht:TR σ ρ t a.tmps){x:O}{y:Operand}{s d e:TypeId}(ho:o.op = .convert s d y)(hc:qh y x=true)(hd:qV P d=true)(hs:qx P s=some e)(he:qcX P e .u8=true)(hk:opK orc (.b2s x) t h k):Res P σ ρ B h w (execOp a.eval o) k:=by
 obtain⟨v,h1,h2⟩:=ql ht hc hk
 have hexec:∀{u:Value},(convert s d (a.eval y)).run P w = .ok u w->(execOp a.eval o).run P w = .ok (.value u) w:=by
  intro u hu;simp[execOp,ho,hu]
 have gonil:∀{a0:Option Addr},a.eval y = .slice a0 0 0->k (.s []) h->Res P σ ρ B h w (execOp a.eval o) k:=by
  intro a0 e1 hk;refine Res.pure r hk (v':=.string ⟨([]:List UInt8).toArray⟩) (hexec ?_) (.s _);rw[e1,run_convert_bytes_string w s d e _ _ _ (qr hs) (jS he) (qE hd)];cases a0 with
  | none=>simp[Conv.bytesToString];rfl
  | some a0 =>
   have hl:(loadCells a0 0).run P w = .ok (([]:List Int).map (Value.int .u8)).toArray w:=by simpa using qb4 (P:=P) w a0
   rw[run_bytesToString w _ _ _ [] hl];rfl
 have go:∀{k0 off len c:Nat} {cs:List AV} {vs:List Value},a.eval y = .slice (some ⟨k0,off,none⟩) len c->VRs σ ρ cs vs->vs.length=len->(∀j v,vs[j]?=some v->w.cell? ⟨k0,off+j,none⟩=some v)->qK cs (fun l=>k (.s l) h)->Res P σ ρ B h w (execOp a.eval o) k:=by
  intro k0 off len c cs vs e1 h4 h5 h6 h3;obtain⟨l,h7,h8,ns,h9,h10⟩:=qbG h4 h3;refine Res.pure r h7 (hexec ?_) (.s _)
  have hl:(loadCells ⟨k0,off,none⟩ len).run P w = .ok (ns.map (Value.int .u8)).toArray w:=by
   rw[← h9];exact xe h5 h6
  rw[e1,run_convert_bytes_string w s d e _ _ _ (qr hs) (jS he) (qE hd),run_bytesToString w _ _ _ ns hl]
  have key:∀(ns:List Int) (s:ByteArray),(ns.foldl (fun r n=>r.push (UInt8.ofNat n.toNat)) s).data.toList=s.data.toList++ns.map (fun n=>UInt8.ofNat n.toNat):=by
   intro ns
   induction ns with
   | nil=>intro s;simp
   | cons n ns ih=>intro s;rw[List.foldl_cons,ih];simp[ByteArray.push]
  congr 2
  apply ByteArray.ext;apply Array.ext';rw[key,h10];have he0:ByteArray.empty.data = #[]:=rfl;rw[he0];simp
 cases v<;>try exact h1.elim
 ·exact gonil h2.un_nils h1
 ·rename_i b o' len cap loose;obtain⟨L,c,off,g1,g2,g3⟩:=h2.un_sl;obtain⟨cs,vs,h3,h4,h5,h6⟩:=xX r g1 (show zX h b o' len (fun cs=>qK cs (fun l=>k (.s l) h)) from h1)
  refine go g2 h4 h5 (fun j v hj=>?_) h3
  rcases g3 with⟨rfl,_⟩|⟨g3,_,_⟩
  ·exact h6 j v hj
  ·subst g3;simp at h5;subst h5;simp at hj
 ·rename_i n cs;obtain⟨q1,q2⟩:=(qt n cs _).1 h1;rcases h2.un_fz with⟨k0,off,c,arr,e1,e2,e3,e5⟩|⟨rfl,rfl,a0,e1⟩
  ·have hcl:=e5.length;refine go e1 (e5.take n).vr (by simp at hcl ⊢;omega) (fun j v hj=>?_) q2
   have hj':j<n:=by
    have:=(zzS.1 hj).1;simp at this;omega
   rw[List.getElem?_take_of_lt hj',List.getElem?_take_of_lt (by omega),List.getElem?_drop,Array.getElem?_toList] at hj;obtain⟨⟨ty,fz,h3⟩,_⟩:=r.frz k0 arr e3;rw[zP h3];exact hj
  ·exact gonil e1 q2
 ·obtain⟨a0,e1⟩:=h2.un_e0;exact gonil e1 h1
 ·rename_i b n;rcases h2.un_own with⟨rfl,⟨a0,e1⟩,_⟩|⟨L,c,g1,g2,g3,e1⟩
  ·obtain⟨e,wf,af,cs,hg,hn⟩:=(qq h b (fun _ _ _ cs=>xg 0 cs (fun l=>zN 0 l (fun cs=>qK cs (fun l=>k (.s l) h))))).1 h1
   obtain⟨_,hn⟩:=(qA _ _ _).1 hn;obtain⟨_,hn⟩:=(qt _ _ _).1 hn;exact gonil e1 hn
  ·obtain⟨cs,vs,h3,h4,h5,h6⟩:=xX r g1 (show zX h b 0 n (fun cs=>qK cs (fun l=>k (.s l) h)) from h1)
   exact go e1 h4 h5 (fun j v hj=>by simpa using h6 j v hj) h3
end ops
end Go.Kc
end
