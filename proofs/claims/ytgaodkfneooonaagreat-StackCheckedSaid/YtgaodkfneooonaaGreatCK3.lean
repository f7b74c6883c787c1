/- Walks, part 3. Conditions: with each theorem. -/
import Derived.Test.YtgaodkfneooonaaGreatCK2
import Derived.LoopNIn
import Derived.OrdersIn
import Derived.RangeFuncRecord
set_option maxHeartbeats 4000000
set_option linter.defProp false
set_option linter.unusedSectionVars false
set_option linter.unusedSimpArgs false
set_option linter.unusedVariables false
set_option linter.unnecessarySimpa false
section
namespace Go.Kc
variable {σ:Nat->Value} {Z Z':Ren} {P:Program} {orc:Orc}

def qo2(nt:Nat):Option Tmp->Option Nat->Bool
 | none,none=>true
 | some a,some b=>a==b&&Nat.blt a nt
 | _,_=>false
def quZ(ops:Array Oper):Option (Nat×Bool)->Option (Nat×Bool)->Bool
 | none,none=>true
 | some (j,b),some (d,c)=>b==c&&((ops[j]?).bind (·.dst))==some d
 | _,_=>false
def qqB(P:Program)(ops:Array Oper)(nt:Nat)(o:Oper)(r:ROp):Bool:=qo2 nt o.dst r.dst&&quZ ops o.guard r.guard&&qgu P o.op r.k
def qdF(P:Program)(ops:Array Oper)(nt:Nat):List Oper->List ROp->Bool
 | [],[]=>true
 | o::os,r::rs=>qqB P ops nt o r&&qdF P ops nt os rs
 | _,_=>false
def mask(o:Oper)(acc:List Nat):Nat:=o.after.toList.foldl (λs e=>if Region.binds .any e then s ||| 2 ^ e.on ||| acc.getD e.on 0 else s) 0
def qgk:List Oper->List Nat->List Nat
 | [],acc=>acc
 | o::os,acc=>qgk os (acc++[mask o acc])
def xm:O->List Nat
 | .t n=>[n]
 | .c _=>[]
def qcr(xs:List O):List Nat:=xs.flatMap xm
def qhc:Option O->List Nat
 | none=>[]
 | some x=>xm x
def ql1(ps:List (Nat×Nat×O)):List Nat:=ps.flatMap λp=>xm p.2.2
def qz:IOp->List Nat
 | .mov x | .box x | .load1 x | .loadN _ x | .nilChk x | .eqN _ _ x | .un _ x | .cvInt _ x | .fAddr _ x | .fld _ _ x | .ext x _ | .len _ x | .clear _ x | .cap x=>xm x
 | .pick c x y=>xm c++xm x++xm y
 | .alloc _ | .mkM | .no=>[]
 | .updM _ x i v=>xm x++xm i++xm v
 | .build _ ps | .buildS _ _ ps=>ql1 ps
 | .store _ x v=>xm x++xm v
 | .storeD _ x v ps=>xm x++xm v++ps
 | .appD _ _ s x ps=>xm s++xm x++ps
 | .bin _ x y | .eqA _ _ x y | .iAddrA _ _ x y | .iAddrS _ x y | .idxA _ _ _ x y | .idxS x y | .mkS _ _ _ x y | .app _ _ _ x y | .appZ _ _ _ x y | .max x y | .min x y | .lookM _ _ _ x y=>xm x++xm y
 | .slcS _ x lo hi mx | .slcA _ _ x lo hi mx=>xm x++qhc lo++qhc hi++qhc mx
 | .mkF _ a c=>qcr a++qcr c
def qfO:RK->List Nat
 | .op o=>qz o
 | .callF _ args=>qcr args
 | .callV x args=>xm x++qcr args
 | .callW _ args=>qcr args
 | .callVW x args=>xm x++qcr args
def qey:RK->RK
 | .op (.storeD n x v _)=>.op (.store n x v)
 | .op (.appD e y s x _)=>.op (.app e y true s x)
 | k=>k
def x9(r:ROp):List Nat:=r.dst.toList++(match r.guard with|some g=>[g.1]|none=>[])++qfO (qey r.k)
def qbR:RK->Bool
 | .op o=>match o with
  | .mov _ | .pick .. | .bin .. | .un .. | .cvInt .. | .fAddr .. | .ext .. | .iAddrA .. | .iAddrS .. | .nilChk _ | .eqN .. | .fld .. | .min .. | .max .. | .build .. | .len _ _=>true
  | _=>false
 | _=>false
def dn(a b:ROp):Bool:=match a.dst with|some d=>(x9 b).contains d|none=>false
def qbD(a b:ROp):Bool :=
 match b.k with
 | .op (.storeD _ _ _ ps)=>(match a.k with
  | .op (.load1 (.t p))=>ps.contains p&&a.dst.isSome
  | .op (.loadN _ (.t p))=>ps.contains p&&a.dst.isSome
  | _=>false)
 | .op (.appD _ _ _ _ ps)=>(match a.k with
  | .op (.load1 (.t p))=>ps.contains p&&a.dst.isSome
  | .op (.loadN _ (.t p))=>ps.contains p&&a.dst.isSome
  | _=>false)
 | _=>false
def qgs:RK->Bool
 | .op (.alloc _) | .op (.buildS _ _ _) | .op (.mkS _ _ _ _ _)=>true
 | _=>false
def qe1:RK->Option Nat
 | .op (.storeD _ (.t p) _ _)=>some p
 | _=>none
def qlz(a b:ROp):Bool:=(qgs a.k&&(qe1 b.k).isSome)&&a.dst != qe1 b.k
def qlA{a b:ROp}(h:qlz a b=true):qgs a.k=true/\(qe1 b.k).isSome=true:=by
 unfold qlz at h
 simp_all
def exc(a b:ROp):Bool:=qbD a b||qlz a b
def qew(a b:ROp):Bool:=dn a b||dn b a ||
 (wr a.k && !qbR b.k)||(!qbR a.k&&wr b.k && !exc a b)
def qiZ(rs:List ROp)(ms:List Nat):Nat->List ROp->Bool
 | _,[]=>true
 | j,r::rest=>(rs.take j).zipIdx.all (λq=>!qew q.1 r||(ms.getD j 0).testBit q.2)&&qiZ rs ms (j+1) rest
def qw0:RK->Option Nat
 | .op (.load1 (.t p)) | .op (.loadN _ (.t p))=>some p
 | _=>none
def qC9(p:Option Nat)(u:ROp):Bool:=match u.k with
 | .op (.alloc _)=>u.dst==p&&u.guard.isNone
 | _=>false
def fresh(p:Option Nat):List ROp->Bool
 | []=>false
 | u::l=>fresh p l||(qC9 p u&&l.all λw=>w.dst.isNone||w.dst != p)
def qmZ{p:Nat}:∀{l:List ROp},fresh (some p) l=true->∃(n:Nat) (z:List AV),l[n]?=some (ROp.mk (some p) (.op (.alloc z)) none)/\∀(k:Nat) (w:ROp),n<k->l[k]?=some w->w.dst≠some p
 | [],h=>by cases h
 | u::l,h=>by
  unfold fresh at h;rcases zzO _ _ ▸ h with h|h
  .obtain⟨n,z,h1,h2⟩:=qmZ h;refine⟨n+1,z,by simpa using h1,λk w hk hw=>?_⟩
   cases k with
   | zero=>omega
   | succ k=>exact h2 k w (by omega) (by simpa using hw)
  .obtain⟨h1,h2⟩:=(by simp_all:qC9 (some p) u=true/\(l.all λw=>w.dst.isNone||w.dst != some p)=true)
   unfold qC9 at h1;split at h1
   .rename_i z hz;obtain⟨d,k,g⟩:=u;simp only[zzB]at h1;obtain⟨h3,h4⟩:=h1;have h3:=eq_of_beq h3;cases g with
    | some _=>cases h4
    | none =>
     simp only at h3 hz;subst h3 hz;refine⟨0,z,rfl,λk w hk hw=>?_⟩
     cases k with
     | zero=>omega
     | succ k =>
      have:=List.all_eq_true.1 h2 w (by grind);intro e;simp[e]at this
   simp_all
def qGP(rs:List ROp):Bool :=
 rs.zipIdx.all λq=>(rs.take q.2).zipIdx.all λr=>(!qbD r.1 q.1||((rs.take q.2).drop r.2).all λu=>u.dst.isNone||u.dst != qw0 r.1.k)&&(!qlz r.1 q.1||((((rs.take q.2).drop r.2).all λu=>u.dst.isNone||u.dst != qe1 q.1.k)||fresh (qe1 q.1.k) ((rs.take q.2).drop (r.2+1))))
def qnQ(ops:Array Oper)(rs:List ROp):Bool :=
 qGP rs &&
 (ops.toList.zipIdx.all λp=>p.1.after.all λe=>!Region.binds .any e||Nat.blt e.on p.2)&&qiZ rs (qgk ops.toList []) 0 rs
def qHs:Code->Bool
 | .goto _=>false
 | _=>true
def zn(P:Program)(nt:Nat):Code->ICode->Bool
 | _,.no=>true
 | c,.cut x=>zn P nt c x
 | .skip,.skip=>true
 | .region _ ops draw,.reg d rs=>draw==d&&qdF P ops nt ops.toList rs&&(!d||(P.follows .mixedOrders&&qnQ ops rs))
 | .seq x y,.seq x' y'=>zn P nt x x'&&zn P nt y y'
 | .cond c x y,.cond c' x' y'=>qE c c'&&zn P nt x x'&&zn P nt y y'
 | .block id x,.blk id' x'=>id==id'&&zn P nt x x'
 | .loop x,.loop x'=>zn P nt x x'
 | .exit id,.exit id'=>id==id'
 | .ret,.ret=>true
 | .rangeFunc g ps x y,.rangeF _ g' ps' x' y'=>qE g g'&&ps.toList==ps'&&ps.toList.all (λp=>Nat.blt p nt)&&zn P nt x x'&&zn P nt y y'&&qHs x
 | _,_=>false
def qb6(P:Program):List ResultVar->List RV->Bool
 | [],[]=>true
 | .tmp n::xs,.tmp m::ys=>n==m&&qb6 P xs ys
 | .cell n t::xs,.cell m size agg::ys=>n==m&&qay P t==agg&&(P.underlying t).isSome&&(!agg||zb P t size)&&qb6 P xs ys
 | _,_=>false
def qc(P:Program)(f:Nat)(i:IFn):Bool :=
 match P.funcs[f]? with
 | some fn=>fn.name != "runtime.NumGoroutine" && (match fn.body with|some c=>zn P fn.ntmps c i.body|none=>false)&&qb6 P fn.results.toList i.res
 | none=>false
inductive XR:X->Exit->Prop where
 | normal:XR .normal .normal
 | exit (id:Nat):XR (.exit id) (.exit id)
 | ret:XR .ret .ret
structure Kep (n:Nat) (Z:Ren) (B:Nat->Prop) (h:Hp) (w:World) (Z':Ren) (h':Hp) (w':World):Prop where
 ext:∀b,b<n->Z' b=Z b
 szle:n<=h'.sz
 fl:h'.fl=h.fl
 akeep:∀b,b<h.fl->b<n->h'.tr.get b=h.tr.get b
 pres:∀k,B k->w'.heap[k]?=w.heap[k]?
 wle:w.heap.size<=w'.heap.size
 io:w'.os=w.os/\w'.output=w.output
 frz:∀k a,Z.frz k=some a->Z'.frz k=some a
 fnew:∀k a,Z'.frz k=some a->Z.frz k=some a\/¬B k
 nle:∀b,b<n->b<Z.n->b<Z'.n
theorem Kep.refl{n:Nat}(Z:Ren)(B:Nat->Prop){h:Hp}(hn:n<=h.sz)(w:World):Kep n Z B h w Z h w :=
 ⟨λ_ _=>rfl,hn,rfl,λ_ _ _=>rfl,λ_ _=>rfl,zzL _,⟨rfl,rfl⟩,λ_ _ h=>h,λ_ _ h=>.inl h,λ_ _ h=>h⟩
def Kept.kep{n:Nat}{B:Nat->Prop}{h h':Hp}{w w':World}(k:Kept Z B h w Z' h' w')(hn:n<=h.sz):Kep n Z B h w Z' h' w' :=
 ⟨by grind[Kept.ext],Nat.le_trans hn k.szle,k.fl,by grind[Kept.akeep],k.pres,k.wle,k.io,k.frz,k.fnew,λ_ _ h=>Nat.lt_of_lt_of_le h k.nle⟩
def Kep.kept{B:Nat->Prop}{h h':Hp}{w w':World}(k:Kep h.sz Z B h w Z' h' w')(hn:Z.n<=h.sz):Kept Z B h w Z' h' w' :=
 ⟨k.ext,k.szle,k.fl,k.akeep,k.pres,k.wle,k.io,k.frz,k.fnew,Nat.le_of_not_lt λhh=>absurd (k.nle Z'.n (by omega) hh) (Nat.lt_irrefl _)⟩
theorem Kep.trans{n:Nat}{Z Z1 Z2:Ren}{B:Nat->Prop}{h h1 h2:Hp}{w w1 w2:World}(k1:Kep n Z B h w Z1 h1 w1)(k2:Kep n Z1 B h1 w1 Z2 h2 w2):Kep n Z B h w Z2 h2 w2 :=
 ⟨λb hb=>(k2.ext b hb).trans (k1.ext b hb),k2.szle,k2.fl.trans k1.fl,λb hb hb'=>(k2.akeep b (k1.fl ▸ hb) hb').trans (k1.akeep b hb hb'),λk hk=>(k2.pres k hk).trans (k1.pres k hk),Nat.le_trans k1.wle k2.wle,
  ⟨k2.io.1.trans k1.io.1,k2.io.2.trans k1.io.2⟩,by grind[Kep.frz],by grind[Kep.fnew],λb hb h=>k2.nle b hb (k1.nle b hb h)⟩
def qkD(rs:List Nat):List Deferred:=rs.map λr=>{ target:=.collected r,args:=#[] }
def BM(B:Nat->Prop)(rs:List Nat):Nat->Prop:=λk=>B k\/k ∈ rs
def qBM(B:Nat->Prop):BM B []=B:=by funext k;simp[BM]
def qBL(B:Nat->Prop)(rs rs':List Nat):BM (BM B rs) rs'=BM B (rs'++rs):=by
 funext k;simp only[BM,List.mem_append];grind
structure MarksOk (w w':World) (rs:List Nat):Prop where
 nodup:rs.Nodup
 new:∀r ∈ rs,w.heap.size<=r
 at':∀r ∈ rs,w'.heap[r]?=some (.deferred (some []))
theorem MarksOk.nil(w w':World):MarksOk w w' []:=⟨.nil,by simp_all,by simp_all⟩
def Kep.bm{n:Nat}{B:Nat->Prop}{rs:List Nat}{h h':Hp}{w w':World}(k:Kep n Z (BM B rs) h w Z' h' w'):Kep n Z B h w Z' h' w' :=
 ⟨k.ext,k.szle,k.fl,k.akeep,λn hn=>k.pres n (.inl hn),k.wle,k.io,k.frz,λn a h=>(k.fnew n a h).imp id λhh hb=>hh (.inl hb),k.nle⟩
def qeG(σ:Nat->Value)(Q:X->Tr AV->Hp->Prop)(nt n:Nat)(Z:Ren)(B:Nat->Prop)(h:Hp)(w:World)(ds:List Deferred)(e:Exit)(a:Act)(w':World):Prop :=
 ∃x t' h' Z' rs,XR x e/\Q x t' h'/\TR σ Z' t' a.tmps/\nt<=a.tmps.size/\a.defers=qkD rs++ds/\MarksOk w w' rs/\Rel σ Z' (BM B rs) h' w'/\Kep n Z B h w Z' h' w'
def qeG.of{Q:X->Tr AV->Hp->Prop}{nt n:Nat}{B:Nat->Prop}{h:Hp}{w:World}{ds:List Deferred}{e:Exit}{a:Act}{w':World}{x:X}{t':Tr AV}{h':Hp}(g1:XR x e)(g2:Q x t' h')(g3:TR σ Z' t' a.tmps)(g4:nt<=a.tmps.size)(g5:a.defers=ds)(g6:Rel σ Z' B h' w')(g7:Kep n Z B h w Z' h' w'):qeG σ Q nt n Z B h w ds e a w' :=
 ⟨x,t',h',Z',[],g1,g2,g3,g4,g5,MarksOk.nil _ _,by rw[qBM];exact g6,g7⟩
def qmP(P:Program)(f:Nat):Prop:=∃fn,P.funcs[f]?=some fn/\fn.name≠"runtime.NumGoroutine"/\fn.body.isSome=true
def qb4(P:Program)(f:FuncId)(args:Array Value)(w:World)(R:Ending->World->Prop):Prop :=
 (qmP P f/\Calls P f args w R)\/∃v w',(callFunc f args).run P w = .ok (.value v) w'/\R (.returned v) w'
theorem qb4.mono{P:Program}{f:FuncId}{args:Array Value}{w:World}{R R':Ending->World->Prop}(h:qb4 P f args w R)(hr:∀e w,R e w->R' e w):qb4 P f args w R':=by
 rcases h with⟨h1,h2⟩|⟨v,w',h1,h2⟩
 .exact .inl ⟨h1,Calls.mono h2 hr⟩
 .exact .inr (by grind)
def qnD(P:Program)(σ:Nat->Value)(f:Nat)(args:Array Value)(Z:Ren)(B:Nat->Prop)(h:Hp)(w:World)(k:AV->Hp->Prop):Prop :=
 qb4 P f args w λe w'=>∃v v' h' Z',e = .returned v'/\k v h'/\VR σ Z' v v'/\Rel σ Z' B h' w'/\Kept Z B h w Z' h' w'
def qoZ(_:Program)(_:Nat):Prop:=True

def Fr(ro:Option Nat):Fence:={ Fence.wide with round:=ro }
def qoA(P:Program)(σ:Nat->Value)(l:Nat)(args:Array Value)(Z:Ren)(B:Nat->Prop)(h:Hp)(w:World)(k:AV->Hp->Prop):Prop :=
 ∃fn tmps assign body,(Instr.yield l args).run P w = .ok (.round l fn tmps assign body) w /\
  ∀ro,RoundIn (Fr ro) 0 P l fn tmps assign body w λe w'=>∃v v' h' Z',e = .returned v'/\k v h'/\VR σ Z' v v'/\Rel σ Z' B h' w'/\Kept Z B h w Z' h' w'
def qdC(P:Program)(σ:Nat->Value)(C:zI):Prop :=
 (∀f vs h k,C (Nat.succ f) vs h k->qoZ P f/\∀Z B w (args:Array Value),Rel σ Z B h w->VRs σ Z vs args.toList->qnD P σ f args Z B h w k) /\
 ∀b vs h k,C 0 (.yl b::vs) h k->∀Z B w (args:Array Value) L,Z b=some L->Rel σ Z B h w->VRs σ Z vs args.toList->qoA P σ L.blk args Z B h w k
def qpg{ro:Option Nat}{n:Nat}{f:FuncId}{args:Array Value}{w:World}{R:Ending->World->Prop}(h:Calls P f args w R):CallsIn (Fr ro) n P f args w R:=(callsIn_wide (n:=n)).2 h

theorem qaE(a:Act)(d:Option Tmp)(v:Value):(a.put d v).tmps.size=a.tmps.size:=by
 cases d<;>simp[Act.put]
def qaD(a:Act)(d:Option Tmp)(v:Value):(a.put d v).defers=a.defers:=by
 cases d<;>rfl
def TR.put{t:Tr AV}{a:Act}(ht:TR σ Z t a.tmps){nt:Nat}(hn:nt<=a.tmps.size){d:Option Tmp}{d':Option Nat}(hd:qo2 nt d d'=true){v:AV}{v':Value}(hv:VR σ Z v v'){k:Tr AV->Prop}(hk:qap t d' v k) :
  ∃t',k t'/\TR σ Z t' (a.put d v').tmps:=by
 cases d<;>cases d'<;>simp[qo2]at hd
 .exact⟨t,hk,ht⟩
 .rename_i x y;obtain⟨rfl,hlt⟩:=hd;have hk':=(Tr.setK_iff _ _ _ _).1 hk;refine⟨_,hk',λn u hu=>?_⟩
  rw[Tr.get_set]at hu;have hlt':x<a.tmps.size:=by grind
  simp only[Act.put,Array.size_setIfInBounds];split at hu
  .simp_all
  .rename_i hne;obtain⟨h1,h2⟩:=ht n u hu;refine⟨h1,?_⟩
   have:(a.tmps.setIfInBounds x v').getD n undef=a.tmps.getD n undef:=by
    rw[Array.getD_eq_getD_getElem?,Array.getD_eq_getD_getElem?,Array.getElem?_setIfInBounds,if_neg (by omega)]
   rw[this];exact h2

def qpm{t:Tr AV}{a:Act}(ht:TR σ Z t a.tmps){ops:Array Oper}{o:Oper}{g:Option (Nat×Bool)}(hg:quZ ops o.guard g=true){k:Bool->Prop}(hk:qaV t g k) :
  k (Region.wanted o (yielded ops a.tmps)):=by
 cases hog:o.guard with
 | none =>
  rw[hog]at hg;cases g with
  | none=>simp only[Region.wanted,hog];exact hk
  | some _=>simp[quZ]at hg
 | some jb =>
  obtain⟨j,b⟩:=jb;rw[hog]at hg;cases g with
  | none=>simp[quZ]at hg
  | some dc =>
   obtain⟨d,c⟩:=dc;simp only[quZ,zzB]at hg;obtain⟨h1,h2⟩:=hg;obtain rfl:=eq_of_beq h1;have h2':=eq_of_beq h2
   have hk':t.getK d (λv=>match v with
    | .b x=>qT (x==b) k
    | .tup _=>k false
    | _=>False):=hk
   obtain⟨v,hv,hk2⟩:=(Tr.getK_iff _ _ _).1 hk';obtain⟨hlt,hvr⟩:=ht d v hv
   have hy:yielded ops a.tmps j=match a.tmps.getD d undef with | .bool b=>some b|_=>none:=by
    have e1:a.tmps[d]?=some (a.tmps.getD d undef):=by
     rw[Array.getD_eq_getD_getElem?,Array.getElem?_eq_getElem hlt];rfl
    simp only[yielded,h2',Option.bind_some,e1];cases a.tmps.getD d undef<;>rfl
   simp only[Region.wanted,hog,hy];cases v<;>try exact hk2.elim
   .rename_i x;rw[hvr.un_b];rw[show((some x==some b))=(x==b)from rfl]
    exact by simp_all
   grind[VR.un_tup]

def qqW(tm:Array Value):ResultVar->Sem Value
 | .tmp t=>pure (tm.getD t undef)
 | .cell a t=>do loadVar t (<- asAddr (tm.getD a undef))
def qmf(fn:Func)(tm:Array Value):results fn tm=(do let vs <- fn.results.mapM (qqW tm);pure (if h:vs.size=1 then vs[0]else .tuple vs)):=by
 have:qqW tm=(fun
  | .tmp t=>pure (tm.getD t undef)
  | .cell a t=>do loadVar t (<- asAddr (tm.getD a undef))):=by
  funext x;cases x<;>rfl
 rw[this];rfl
def qqX{B:Nat->Prop}{h:Hp}{w:World}(r:Rel σ Z B h w){t:Tr AV}{tm:Array Value}(ht:TR σ Z t tm):∀(rs:List ResultVar) (is:List RV),qb6 P rs is=true->∀(k:List AV->Prop),qe0 t h is k->
  ∃vs vs',k vs/\VRs σ Z vs vs'/\(rs.mapM (qqW tm)).run P w = .ok vs' w
 | [],is,hc,k,hk=>by
  cases is with
  | nil=>exact⟨[],[],hk,.nil,by simp⟩
  | cons=>simp[qb6]at hc
 | x::rs,is,hc,k,hk=>by
  cases is with
  | nil=>cases x<;>simp[qb6]at hc
  | cons y is =>
   cases x with
   | tmp n =>
    cases y with
    | tmp m =>
     simp only[qb6,zzB]at hc;obtain⟨h1,hc⟩:=hc;obtain rfl:=eq_of_beq h1;have hk':t.getK n (λv=>qe0 t h is (λvs=>k (v::vs))):=hk
     obtain⟨v,hv,hk2⟩:=(Tr.getK_iff _ _ _).1 hk';obtain⟨vs,vs',h2,h3,h4⟩:=qqX r ht rs is hc _ hk2;refine⟨v::vs,_::vs',h2,.cons _ _ _ _ (ht n v hv).2 h3,?_⟩;rw[List.mapM_cons];simp only[Sem.run_bind,qqW,Sem.run_pure,Result.andThen_ok];have h4':=h4
     simp_all
    | cell=>simp[qb6]at hc
   | cell n ty =>
    cases y with
    | tmp=>simp[qb6]at hc
    | cell m size agg =>
     simp only[qb6,zzB]at hc;obtain⟨⟨⟨⟨h1,h2⟩,h3⟩,h4⟩,hc⟩:=hc;obtain rfl:=eq_of_beq h1;have h2:=eq_of_beq h2;have hk':t.getK n (λp=>unP p (λb o=>Bool.rec (motive:=λ_=>Prop) (ldK h b o (λv=>qe0 t h is (λvs=>k (v::vs)))) (qeV h b o size (λcs=>qe0 t h is (λvs=>k (.agg cs::vs)))) agg)):=hk
     obtain⟨p,hp,hk2⟩:=(Tr.getK_iff _ _ _).1 hk';obtain⟨b,o,L,g1,g2,g3⟩:=qq6 (ht n p hp).2 hk2
     have hload:∃v v',VR σ Z v v'/\qe0 t h is (λvs=>k (v::vs))/\(loadVar ty ⟨L.blk,L.off+o,none⟩).run P w = .ok v' w:=by
      cases agg with
      | false =>
       obtain⟨v,v',g4,g5,g6⟩:=qBl r g1 g3;exact⟨v,v',g5,g4,by simp[loadVar,qdw h3,h2,g6]⟩
      | true =>
       obtain⟨cs,vs,g4,g5,g6,g7⟩:=qha r g1 g3;refine⟨.agg cs,.agg vs.toArray,.agg _ _ (by omega),g4,?_⟩;have hsz:zb P ty size=true:=by simp_all
       simp[loadVar,qdw h3,h2,zQ hsz,qdp g6 g7]
     obtain⟨v,v',g4,g5,g6⟩:=hload;obtain⟨vs,vs',h5,h6,h7⟩:=qqX r ht rs is hc _ g5;refine⟨v::vs,v'::vs',h5,.cons _ _ _ _ g4 h6,?_⟩;rw[List.mapM_cons];have hx:(qqW tm (.cell n ty)).run P w = .ok v' w:=by simp[qqW,g2,asAddr,g6]
     rw[Sem.run_bind,hx,Result.andThen_ok,Sem.run_bind,h7];rfl

def qmg{B:Nat->Prop}{h:Hp}{w:World}(r:Rel σ Z B h w){t:Tr AV}{tm:Array Value}(ht:TR σ Z t tm){fn:Func}{is:List RV}(hc:qb6 P fn.results.toList is=true){k:AV->Hp->Prop}(hk:qe0 t h is (λvs=>k (qfs vs) h)) :
  ∃v v',k v h/\VR σ Z v v'/\(results fn tm).run P w = .ok v' w:=by
 obtain⟨vs,vs',h1,h2,h3⟩:=qqX r ht fn.results.toList is hc _ hk
 have hm:(fn.results.mapM (qqW tm)).run P w = .ok vs'.toArray w:=by
  rcases hfr:fn.results with⟨l⟩;rw[List.mapM_toArray];rw[hfr]at h3;simp only[Sem.run_map,h3,Result.andThen_ok]
 have hl:=h2.length;refine⟨_,if h:vs'.toArray.size=1 then vs'.toArray[0]else .tuple vs'.toArray,h1,?_,?_⟩
 .cases h2 with
  | nil=>simpa[qfs]using VR.tup (σ:=σ) (Z:=Z) [] #[] .nil
  | cons v vs v' vs' h4 h5 =>
   cases h5 with
   | nil=>simpa[qfs]using h4
   | cons u us u' us' h6 h7 =>
    have:qfs (v::u::us) = .tup (v::u::us):=rfl;rw[this,dif_neg (by simp)];exact .tup _ _ (by simpa using VRs.cons _ _ _ _ h4 (.cons _ _ _ _ h6 h7))
 simp_all[qmf]

theorem qdk{f:Nat}{fn:Func}(hf:P.funcs[f]?=some fn)(hn:fn.name≠"runtime.NumGoroutine")(hb:fn.body.isSome=true)(args:Array Value)(w:World):(callFunc f args).run P w = .ok (.enter f args) w:=by
 obtain⟨c,hc⟩:=Option.isSome_iff_exists.1 hb;simp[callFunc,hf,hn,hc]

def qo3{c:Call}{io:IOp}(h:qiY P (.defer c) io=true):io = .no:=by
 cases io<;>first|rfl|exact absurd h Bool.false_ne_true
theorem qhH(horc:OrcOk P σ orc){C:zI}(hs:qdC P σ C){ro:Option Nat}{B:Nat->Prop}{h:Hp}{w:World}(r:Rel σ Z B h w){t:Tr AV}{a:Act}(ht:TR σ Z t a.tmps){o:Oper}{rk:RK}(hc:qgu P o.op rk=true)
  {k:AV->Hp->Prop} (hk:qcJ orc C rk t h k) (next:Act->World->Prop) (Q:Exit->Act->World->Prop)
  (hn:∀v v' h' Z' w',k v h'->VR σ Z' v v'->Rel σ Z' B h' w'->Kept Z B h w Z' h' w'->next (a.put o.dst v') w'):o.wpIn (Fr ro) 0 P a w next Q:=by
 refine⟨λ_ _=>trivial,?_⟩
 generalize hoo:o.op=oo at hc;unfold qgu at hc
 have callCase:∀{f:Nat} {vs:List AV} {args:Array Value},(∀c,o.op≠.defer c)->C (Nat.succ f) vs h k->VRs σ Z vs args.toList->((execOp a.eval o).run P w=(callFunc f args).run P w)->o.uponIn (Fr ro) 0 P a next Q ((o.semAt (Fr ro).round a.eval).run P w):=by
  intro f vs args hd h1 h2 h3;obtain⟨-,h5⟩:=hs.1 f vs h k h1;rw[Oper.semAt_eq _ _ _ hd,h3];rcases h5 Z B w args r h2 with⟨⟨fn,g1,g2,g3⟩,h6⟩|⟨v0,w',h6,v,v',h',Z',he,g1,g2,g3,g4⟩
  .rw[qdk g1 g2 g3,Oper.uponIn_enter];refine⟨λhh=>(by cases hh),qpg (Calls.mono h6 ?_)⟩
   rintro e w' ⟨v,v',h',Z',rfl,g1,g2,g3,g4⟩;exact by grind
  .cases he;rw[h6,Oper.uponIn_value];exact by grind
 split at hc
 .rename_i f args argTypes g bs;simp only[zzB]at hc;obtain⟨h1,h2⟩:=hc;obtain rfl:=eq_of_beq h1;obtain⟨vs,h3,h4⟩:=qiv ht h2 hk;refine callCase (by simp_all) h3 (args:=args.map a.eval) (by simpa using h4) ?_;simp[execOp,hoo,resolve,Act.eval,Deferred.ofValue,invoke]
 .rename_i x args argTypes y bs;simp only[zzB]at hc;obtain⟨h1,h2⟩:=hc;obtain⟨v,h3,h4⟩:=zd ht h1 hk;obtain⟨vs,h5,h6⟩:=qiv ht h2 h3;cases v<;>try exact h5.elim
  rotate_left
  .rename_i b;obtain⟨L,h7,h8⟩:=h4.un_yl;obtain⟨fn,tmps,as',bd,q1,q2⟩:=hs.2 b vs h k h5 Z B w (args.map a.eval) L h7 r (by simpa using h6);rw[Oper.semAt_eq _ _ _ (by simp_all)]
   have e1:(execOp a.eval o).run P w = .ok (.round L.blk fn tmps as' bd) w:=by
    simp[execOp,hoo,resolve,h8,Deferred.ofValue,invoke,q1]
   rw[e1,Oper.uponIn_round];refine⟨λhh=>(by cases hh),(q2 ro).mono ?_⟩
   rintro e w' ⟨v,v',h',Z',rfl,g1,g2,g3,g4⟩;exact by grind
  rename_i f first cap
  obtain⟨a',c',h7,h8,h9⟩:=h4.un_fn;refine callCase (by simp_all) h5 (args:=a'++args.map a.eval++c') (by simpa using h7.append ((by simpa using h6:VRs σ Z vs (args.map a.eval).toList).append h8)) ?_
  simp[execOp,hoo,resolve,h9,Deferred.ofValue,invoke]
 .rename_i f args argTypes g bs;simp only[zzB]at hc;obtain⟨h1,h2⟩:=hc;obtain rfl:=eq_of_beq h1;obtain⟨vs,h3,h4⟩:=qiv ht h2 hk;refine callCase (by simp_all) h3 (args:=args.map a.eval) (by simpa using h4) ?_;simp[execOp,hoo,resolve,Act.eval,Deferred.ofValue,invoke]
 .rename_i x args argTypes y bs;simp only[zzB]at hc;obtain⟨h1,h2⟩:=hc;obtain⟨v,h3,h4⟩:=zd ht h1 hk;obtain⟨vs,h5,h6⟩:=qiv ht h2 h3;cases v<;>try exact h5.elim
  rotate_left
  .rename_i b;obtain⟨L,h7,h8⟩:=h4.un_yl;obtain⟨fn,tmps,as',bd,q1,q2⟩:=hs.2 b vs h k h5 Z B w (args.map a.eval) L h7 r (by simpa using h6);rw[Oper.semAt_eq _ _ _ (by simp_all)]
   have e1:(execOp a.eval o).run P w = .ok (.round L.blk fn tmps as' bd) w:=by
    simp[execOp,hoo,resolve,h8,Deferred.ofValue,invoke,q1]
   rw[e1,Oper.uponIn_round];refine⟨λhh=>(by cases hh),(q2 ro).mono ?_⟩
   rintro e w' ⟨v,v',h',Z',rfl,g1,g2,g3,g4⟩;exact by grind
  rename_i f first cap
  obtain⟨a',c',h7,h8,h9⟩:=h4.un_fn;refine callCase (by simp_all) h5 (args:=a'++args.map a.eval++c') (by simpa using h7.append ((by simpa using h6:VRs σ Z vs (args.map a.eval).toList).append h8)) ?_
  simp[execOp,hoo,resolve,h9,Deferred.ofValue,invoke]
 .by_cases hd:∃c,o.op = .defer c
  .obtain⟨c,hd⟩:=hd;rw[hoo]at hd;subst hd;have:=qo3 hc;subst this;exact hk.elim
  obtain⟨v,v',h',Z',w',g1,g2,g3,g4,g5⟩:=qHF (o:=o) horc r ht (by rw[hoo];exact hc) hk;rw[Oper.semAt_eq _ _ _ (by simp_all)];rcases g2 with g2|⟨g2,rfl⟩
  .rw[g2,Oper.uponIn_value];exact by grind
  .rw[g2,Oper.uponIn_skip];exact by grind
 simp_all

theorem qjC(horc:OrcOk P σ orc){C:zI}(hs:qdC P σ C){ro:Option Nat}{B:Nat->Prop}{h:Hp}{w:World}(r:Rel σ Z B h w){t:Tr AV}{a:Act}(ht:TR σ Z t a.tmps){o:Oper}{rk:RK}(hc:qgu P o.op rk=true)
  {k:AV->Hp->Prop} (hk:qhh (qcJ orc C rk t) h k) (next:Act->World->Prop) (Q:Exit->Act->World->Prop)
  (hn:∀v v' h' Z' w',k v h'->VR σ Z' v v'->Rel σ Z' B h' w'->Kept Z B h w Z' h' w'->(∀b,b<h.sz->h'.tr.get b=h.tr.get b)->(∀n,n<w.heap.size->w'.heap[n]?=w.heap[n]?)->(∀b L,Z' b=some L->h.sz<=b->w.heap.size<=L.blk)->(∀k a,Z'.frz k=some a->Z.frz k=some a\/w.heap.size<=k)->next (a.put o.dst v') w'):o.wpIn (Fr ro) 0 P a w next Q:=by
 cases h with
 | mk sz fl tr =>
  have hk':qcJ orc C rk t ⟨sz,sz,tr⟩ (λv h'=>Hp.rec (motive:=λ_=>Prop) (λsz' _ tr'=>k v ⟨sz',fl,tr'⟩) h'):=hk
  have r1:Rel σ Z (low w.heap.size) ⟨sz,sz,tr⟩ w:=⟨r.dom,r.cells,r.maps,r.excl,r.exclm,r.app,λb L hb hf=>absurd (r.dom b L hb) (by grind),λ_ h=>h,r.frz,r.dn⟩
  refine qhH horc hs r1 ht hc hk' next Q ?_
  intro v v' h' Z' w' g1 g2 g3 g4;cases h' with
  | mk sz' fl' tr' =>
   have e1:fl'=sz:=g4.fl;have hnew:∀b L,Z' b=some L->sz<=b->w.heap.size<=L.blk:=λb L hb hf=>by grind[Rel.flr]
   refine hn v v' ⟨sz',fl,tr'⟩ Z' w' g1 g2 ⟨g3.dom,g3.cells,g3.maps,g3.excl,g3.exclm,g3.app,?_,qfB r.base g4.wle,g3.frz,g3.dn⟩ ⟨g4.ext,g4.szle,rfl,λb _ hb=>g4.akeep b hb hb,by grind[Kept.pres,Rel.base],g4.wle,g4.io,g4.frz,λk a h=>(g4.fnew k a h).imp id (λhh=>qaA r.base (Nat.not_lt.1 hh)),g4.nle⟩ (λb hb=>g4.akeep b hb hb) g4.pres hnew (by grind[Kept.fnew])
   intro b L hb hf
   by_cases hlt:b<sz
   .exact r.flr b L (by grind[Kept.ext]) hf
   .exact qaA r.base (by grind)

def qxq(horc:OrcOk P σ orc){C:zI}(hs:qdC P σ C){ro:Option Nat}{draw:Bool}{B:Nat->Prop}{h:Hp}{w:World}(r:Rel σ Z B h w){t:Tr AV}{a:Act}(ht:TR σ Z t a.tmps){o:Oper}{rk:RK}(hc:qgu P o.op rk=true)
  {k:AV->Hp->Prop} (hk:qiK orc draw C rk t h k) (next:Act->World->Prop) (Q:Exit->Act->World->Prop)
  (hn:∀v v' h' Z' w',k v h'->VR σ Z' v v'->Rel σ Z' B h' w'->Kept Z B h w Z' h' w'->next (a.put o.dst v') w'):o.wpIn (Fr ro) 0 P a w next Q:=by
 rcases(qe8 _ _ _).1 hk with⟨_,hk⟩|⟨_,hk⟩
 .exact by grind[qhH]
 grind[qjC]

def qmd(horc:OrcOk P σ orc){C:zI}(hs:qdC P σ C){ro:Option Nat}{nt:Nat}{ops:Array Oper}{Q:Tr AV->Hp->Prop}{K:Exit->Act->World->Prop}{Z0:Ren}{B:Nat->Prop}{h0:Hp}{w0:World}{ds:List Deferred}
  (hK:∀a w t h Z',Q t h->TR σ Z' t a.tmps->nt<=a.tmps.size->a.defers=ds->Rel σ Z' B h w->Kept Z0 B h0 w0 Z' h w->K .normal a w) :
  ∀(os:List Oper) (rs:List ROp) (i:Nat),qdF P ops nt os rs=true->ops.toList.drop i=os->∀t h Z w (a:Act),qmc orc false C rs Q t h->TR σ Z t a.tmps->nt<=a.tmps.size->a.defers=ds->Rel σ Z B h w->Kept Z0 B h0 w0 Z h w->
   wpOpsIn (Fr ro) 0 P ops K (List.range' i os.length) a w
 | [],rs,i,hc,hd,t,h,Z,w,a,hk,ht,hsz,hds,r,hkept=>by
  cases rs with
  | nil=>exact hK a w t h Z hk ht hsz hds r hkept
  | cons=>simp[qdF]at hc
 | o::os,rs,i,hc,hd,t,h,Z,w,a,hk,ht,hsz,hds,r,hkept=>by
  cases rs with
  | nil=>simp[qdF]at hc
  | cons rr rs =>
   obtain⟨dst,rk,g⟩:=rr;simp only[qdF,qqB,zzB]at hc;obtain⟨⟨⟨hc1,hc2⟩,hc3⟩,hc⟩:=hc
   have ho:ops[i]?=some o:=by
    have:=congrArg (λl=>l[0]?) hd
    grind
   have hd':ops.toList.drop (i+1)=os:=by
    rw[<- List.drop_drop,hd];rfl
   have hk':qaV t g (λgo=>Bool.rec (motive:=λ_=>Prop)
    (qap t dst (.tup []) (λt'=>qmc orc false C rs Q t' h)) (qiK orc false C rk t h (λv h'=>qap t dst v (λt'=>qmc orc false C rs Q t' h'))) go):=hk
   have hgo:=qpm (ops:=ops) (o:=o) ht hc2 hk';simp only[List.length_cons,List.range'_succ,wpOpsIn,ho];cases hw:Region.wanted o (yielded ops a.tmps)with
   | false =>
    rw[hw]at hgo;obtain⟨t',h1,h2⟩:=ht.put hsz hc1 (.tup [] #[] .nil) hgo;simp only[Bool.false_eq_true,if_false];exact⟨λ_ _=>trivial,qmd horc hs hK os rs (i+1) hc hd' t' h Z w _ h1 h2 (by rw[qaE];omega) (by rw[qaD];omega) r hkept⟩
   | true =>
    rw[hw]at hgo;simp only[if_true];refine qxq horc hs r ht hc3 hgo _ _ ?_;intro v v' h' Z' w' g1 g2 g3 g4;obtain⟨t',h1,h2⟩:=(ht.mono (g4.mono r.dom)).put hsz hc1 g2 g1;exact qmd horc hs hK os rs (i+1) hc hd' t' h' Z' w' _ h1 h2 (by rw[qaE];omega) (by rw[qaD];omega) g3 (hkept.trans g4)

theorem qeG.weaken{Q:X->Tr AV->Hp->Prop}{nt n:Nat}{Z0:Ren}{B:Nat->Prop}{h0:Hp}{w0:World}{ds:List Deferred}{h:Hp}{w:World}(hkept:Kep n Z0 B h0 w0 Z h w){e:Exit}{a:Act}{w':World}(hp:qeG σ Q nt n Z B h w ds e a w'):qeG σ Q nt n Z0 B h0 w0 ds e a w':=by
 obtain⟨x,t',h',Z',rs,h1,h2,h3,h4,h5,h6,h7,h8⟩:=hp;exact⟨x,t',h',Z',rs,h1,h2,h3,h4,h5,⟨h6.nodup,λr hr=>Nat.le_trans hkept.wle (h6.new r hr),h6.at'⟩,h7,hkept.trans h8⟩
theorem qeG.trans{Q:X->Tr AV->Hp->Prop}{nt n:Nat}{Z0:Ren}{B:Nat->Prop}{h0:Hp}{w0:World}{ds ds1:List Deferred}{h:Hp}{w:World}{rs:List Nat}(hkept:Kep n Z0 B h0 w0 Z h w)(hm:MarksOk w0 w rs)(hd:ds1=qkD rs++ds)(hr:∀r ∈ rs,r<w.heap.size)
  {e:Exit} {a:Act} {w':World} (hp:qeG σ Q nt n Z (BM B rs) h w ds1 e a w'):qeG σ Q nt n Z0 B h0 w0 ds e a w':=by
 obtain⟨x,t',h',Z',rs',h1,h2,h3,h4,h5,h6,h7,h8⟩:=hp;refine⟨x,t',h',Z',rs'++rs,h1,h2,h3,h4,by rw[h5,hd,qkD,qkD,qkD,List.map_append,List.append_assoc],⟨?_,?_,?_⟩,by rw[qBL]at h7;exact h7,hkept.trans h8.bm⟩
 .refine List.nodup_append.2 ⟨h6.nodup,hm.nodup,?_⟩;rintro r h9 r' h10 rfl;have:=h6.new r h9;have:=hr r h10;omega
 .intro r hr';rcases List.mem_append.1 hr' with h9|h9
  .exact Nat.le_trans hkept.wle (h6.new r h9)
  .exact hm.new r h9
 .intro r hr';rcases List.mem_append.1 hr' with h9|h9
  .exact h6.at' r h9
  .rw[h8.pres r (.inr h9)];exact hm.at' r h9
theorem MarksOk.lt{w w':World}{rs:List Nat}(h:MarksOk w w' rs):∀r ∈ rs,r<w'.heap.size:=λr hr=>(Array.getElem?_eq_some_iff.1 (h.at' r hr)).1

def qiP(t t':Tr AV)(ns:List Nat):Prop:=∀n ∈ ns,t'.get n=t.get n
theorem qiP.sub{t t':Tr AV}{ns ms:List Nat}(h:qiP t t' ns)(hs:∀n ∈ ms,n ∈ ns):qiP t t' ms:=λn hn=>h n (hs n hn)
def qcz{t t':Tr AV}{x:O}(h:qiP t t' (xm x)):evK t' x=evK t x:=by
 cases x with
 | c v=>rfl
 | t n =>
  funext k;apply propext;show t'.getK n k↔t.getK n k;rw[Tr.getK_iff,Tr.getK_iff,h n (by simp[xm])]
def qdv{t t':Tr AV}:∀{xs:List O} (_:qiP t t' (qcr xs)),qaq t' xs=qaq t xs
 | [],_=>rfl
 | x::xs,h=>by
  have e1:=qcz (x:=x) (h.sub λn hn=>by simp[qcr,hn])
  have e2:=qdv (xs:=xs) (h.sub λn hn=>by simp only[qcr,List.flatMap_cons,List.mem_append]at hn ⊢;simp_all)
  funext k;show evK t' x (λv=>qaq t' xs (λvs=>k (v::vs)))=evK t x (λv=>qaq t xs (λvs=>k (v::vs)))
  rw[e1,e2]
def qtQ{t t':Tr AV}{x:Option O}(h:qiP t t' (qhc x)):qcG t' x=qcG t x:=by
 cases x with
 | none=>rfl
 | some x =>
  funext k;show evK t' x (λv=>k (some v))=evK t x (λv=>k (some v))
  rw[qcz h]
def qlC{t t':Tr AV}:∀{ps:List (Nat×Nat×O)} (_:qiP t t' (ql1 ps)),qah t' ps=qah t ps
 | [],_=>rfl
 | p::ps,h=>by
  have e1:=qcz (x:=p.2.2) (h.sub λn hn=>by simp[ql1,hn])
  have e2:=qlC (ps:=ps) (h.sub λn hn=>by simp only[ql1,List.flatMap_cons,List.mem_append]at hn ⊢;simp_all)
  funext l k;show evK t' p.2.2 (λv=>qo (qcR v) (qw p.1 (λoff=>qhO (cellsOf v) (λn=>qo (Nat.beq n p.2.1) (ju (cellsOf v) off l (λl'=>qah t' ps l' k))))))=evK t p.2.2 (λv=>qo (qcR v) (qw p.1 (λoff=>qhO (cellsOf v) (λn=>qo (Nat.beq n p.2.1) (ju (cellsOf v) off l (λl'=>qah t ps l' k))))))
  rw[e1,e2]
def qgq{t t':Tr AV}(b:Nat):∀{ps:List Nat} (_:qiP t t' ps),xW t' b ps=xW t b ps
 | [],_=>rfl
 | q::ps,h=>by
  have e1:t'.getK q=t.getK q:=qcz (x:=.t q) (t:=t) (t':=t') (λn hn=>h n (by simp[xm]at hn;grind))
  have e2:=qgq b (ps:=ps) (h.sub λn hn=>by grind)
  funext p;show t'.getK q (λy=>match y with | .ptr b' _=>qo (not (Nat.beq b' b)) (xW t' b ps p) | .pf _ _=>xW t' b ps p|_=>False)=t.getK q (λy=>match y with | .ptr b' _=>qo (not (Nat.beq b' b)) (xW t b ps p) | .pf _ _=>xW t b ps p|_=>False)
  rw[e1,e2]
def qwK{t t':Tr AV}{o:IOp}(h:qiP t t' (qz o)):opK orc o t'=opK orc o t:=by
 have hv:∀x,(∀n ∈ xm x,n ∈ qz o)->evK t' x=evK t x:=λx hx=>qcz (h.sub hx)
 have ho:∀x,(∀n ∈ qhc x,n ∈ qz o)->qcG t' x=qcG t x:=λx hx=>qtQ (h.sub hx)
 have hp:∀x,(∀n ∈ ql1 x,n ∈ qz o)->qah t' x=qah t x:=λx hx=>qlC (h.sub hx)
 have hs:∀x,(∀n ∈ qcr x,n ∈ qz o)->qaq t' x=qaq t x:=λx hx=>qdv (h.sub hx)
 funext hh k;cases o<;>simp only[opK]
 case mov x=>rw[hv x (by simp[qz])]
 case pick c x y=>rw[hv c (by simp +contextual [qz]),hv x (by simp +contextual [qz]),hv y (by simp +contextual [qz])]
 case box x=>rw[hv x (by simp[qz])]
 case build z ps=>rw[hp ps (by simp[qz])]
 case buildS n z ps=>rw[hp ps (by simp[qz])]
 case load1 x=>rw[hv x (by simp[qz])]
 case loadN n x=>rw[hv x (by simp[qz])]
 case store n x v=>rw[hv x (by simp +contextual [qz]),hv v (by simp +contextual [qz])]
 case nilChk x=>rw[hv x (by simp[qz])]
 case bin op x y=>rw[hv x (by simp +contextual [qz]),hv y (by simp +contextual [qz])]
 case eqN neg q x=>rw[hv x (by simp[qz])]
 case eqA neg ks x y=>rw[hv x (by simp +contextual [qz]),hv y (by simp +contextual [qz])]
 case un op x=>rw[hv x (by simp[qz])]
 case cvInt k x=>rw[hv x (by simp[qz])]
 case fAddr off x=>rw[hv x (by simp[qz])]
 case fld off n x=>rw[hv x (by simp[qz])]
 case iAddrA len esz x i=>rw[hv x (by simp +contextual [qz]),hv i (by simp +contextual [qz])]
 case iAddrS esz x i=>rw[hv x (by simp +contextual [qz]),hv i (by simp +contextual [qz])]
 case idxA len esz agg x i=>rw[hv x (by simp +contextual [qz]),hv i (by simp +contextual [qz])]
 case idxS x i=>rw[hv x (by simp +contextual [qz]),hv i (by simp +contextual [qz])]
 case slcS esz x lo hi mx=>rw[hv x (by simp +contextual [qz]),ho lo (by simp +contextual [qz]),ho hi (by simp +contextual [qz]),ho mx (by simp +contextual [qz])]
 case slcA len esz x lo hi mx=>rw[hv x (by simp +contextual [qz]),ho lo (by simp +contextual [qz]),ho hi (by simp +contextual [qz]),ho mx (by simp +contextual [qz])]
 case ext x i=>rw[hv x (by simp[qz])]
 case mkF f a c=>rw[hs a (by simp +contextual [qz]),hs c (by simp +contextual [qz])]
 case mkS esz bytes z len cap=>rw[hv len (by simp +contextual [qz]),hv cap (by simp +contextual [qz])]
 case len str x=>rw[hv x (by simp[qz])]
 case app esz bytes c s x=>rw[hv s (by simp +contextual [qz]),hv x (by simp +contextual [qz])]
 case max x y=>rw[hv x (by simp +contextual [qz]),hv y (by simp +contextual [qz])]
 case clear z x=>rw[hv x (by simp[qz])]
 case lookM kd ok z x i=>rw[hv x (by simp +contextual [qz]),hv i (by simp +contextual [qz])]
 case updM kd x i v=>rw[hv x (by simp +contextual [qz]),hv i (by simp +contextual [qz]),hv v (by simp +contextual [qz])]
 case cap x=>rw[hv x (by simp[qz])]
 case min x y=>rw[hv x (by simp +contextual [qz]),hv y (by simp +contextual [qz])]
 case storeD n x v ps =>
  have e:=λb=>qgq (t:=t) (t':=t') b (ps:=ps) (h.sub λn hn=>by simp[qz,hn])
  rw[hv x (by simp +contextual [qz]),hv v (by simp +contextual [qz])]
  simp_all
 case appD esz bytes s x ps =>
  have e:=λb=>qgq (t:=t) (t':=t') b (ps:=ps) (h.sub λn hn=>by simp[qz,hn])
  rw[hv s (by simp +contextual [qz]),hv x (by simp +contextual [qz])];have e2:∀s p,qbi t' ps s p=qbi t ps s p:=λs p=>by cases s<;>first|rfl|simp only[qbi,e]
  simp_all
 case appZ esz bytes z s x=>rw[hv s (by simp +contextual [qz]),hv x (by simp +contextual [qz])]
def qqZ{C:zI}{t t':Tr AV}{r:RK}(h:qiP t t' (qfO r)):qcJ orc C r t'=qcJ orc C r t:=by
 cases r with
 | op o=>exact qwK h
 | callF f args =>
  have e:=qdv (xs:=args) h;funext hh k;show qaq t' args (λvs=>C (Nat.succ f) vs hh k)=qaq t args (λvs=>C (Nat.succ f) vs hh k)
  rw[e]
 | callV x args =>
  have e1:=qcz (x:=x) (h.sub λn hn=>by simp[qfO,hn])
  have e2:=qdv (xs:=args) (h.sub λn hn=>by simp[qfO,hn])
  funext hh k;simp only[qcJ,e1,e2]
 | callW f args =>
  have e:=qdv (xs:=args) h;funext hh k;show qaq t' args (λvs=>C (Nat.succ f) vs hh k)=qaq t args (λvs=>C (Nat.succ f) vs hh k)
  rw[e]
 | callVW x args =>
  have e1:=qcz (x:=x) (h.sub λn hn=>by simp[qfO,hn])
  have e2:=qdv (xs:=args) (h.sub λn hn=>by simp[qfO,hn])
  funext hh k;simp only[qcJ,e1,e2]
def qt0{C:zI}{t t':Tr AV}{draw:Bool}{r:RK}(h:qiP t t' (qfO r)):qiK orc draw C r t'=qiK orc draw C r t:=by
 funext hh k;simp only[qiK,qqZ h]
def qpk{t t':Tr AV}{g:Option (Nat×Bool)}(h:qiP t t' (match g with|some g=>[g.1]|none=>[])):qaV t' g=qaV t g:=by
 cases g with
 | none=>rfl
 | some g =>
  funext k;have e:=qcz (x:=.t g.1) (t:=t) (t':=t') (λn hn=>h n (by simpa[xm]using hn))
  have e':t'.getK g.1=t.getK g.1:=e;simp only[qaV,e']
noncomputable def only(t:Tr AV):List Nat->Tr AV
 | []=>.leaf
 | n::ns=>match t.get n with|some v=>(only t ns).set n v|none=>only t ns
def qhd(t:Tr AV):∀(ns:List Nat) (n:Nat),(only t ns).get n=if n ∈ ns then t.get n else none
 | [],n=>by simp[only]
 | m::ns,n=>by
  simp only[only];cases h:t.get m with
  | none =>
   simp only;rw[qhd t ns n]
   grind
  | some v =>
   simp only;rw[Tr.get_set,qhd t ns n]
   grind

def L3.b1'{α β γ δ:Type}{G:(α->β->γ->Prop)->Prop}{F:α->β->γ->(δ->Prop)->Prop}(hG:L3 G)(hF:∀x y z,L1 (F x y z)):L1 (λk=>G (λx y z=>F x y z k)):=λ_ h=>by
 obtain⟨x,y,z,h1,h2⟩:=hG _ h;obtain⟨u,h3,h4⟩:=hF x y z _ h1;grind
def qAd{o:IOp}(hp:qbR (.op o)=true){t:Tr AV}{h:Hp}{k:AV->Hp->Prop}(hk:opK orc o t h k):∃v,k v h/\∀h2 (k2:AV->Hp->Prop),k2 v h2->opK orc o t h2 k2:=by
 have mk:∀{G:(AV->Prop)->Prop},L1 G->G (λv=>k v h)->∃v,k v h/\∀h2 (k2:AV->Hp->Prop),k2 v h2->G (λv=>k2 v h2):=by
  intro G hG h1;obtain⟨v,h2,h3⟩:=hG _ h1
  grind
 cases o<;>first|(simp[qbR]at hp;done)|skip
 case mov x=>exact mk (qA t x) hk
 case pick c x y=>exact mk (G:=λk=>evK t c (λc=>unB c (λc=>Bool.rec (motive:=λ_=>Prop) (evK t y k) (evK t x k) c))) (L1.b1 (qA t c) λc=>L1.b1 (qxP c) λc=>L1.br _ (qA t y) (qA t x)) hk
 case bin op x y=>exact mk (G:=λk=>evK t x (λx=>evK t y (λy=>xq orc op x y k))) (L1.b1 (qA t x) λx=>L1.b1 (qA t y) (by grind[quv])) hk
 case un op x=>exact mk (G:=λk=>evK t x (λx=>qeD op x k)) (L1.b1 (qA t x) λx=>qsq op x) hk
 case cvInt q x=>exact mk (G:=λk=>evK t x (λx=>cvK orc q x k)) (L1.b1 (qA t x) (by grind[qBb])) hk
 case fAddr off x=>exact mk (G:=λk=>evK t x (λp=>qiC p off k)) (L1.b1 (qA t x) λp=>qn6 _ _) hk
 case iAddrA len esz x i=>exact mk (G:=λk=>evK t x (λp=>evK t i (λi=>unN i (λi=>qo (Nat.ble (Nat.succ i) len) (qiC p (Nat.mul i esz) k))))) (L1.b1 (qA t x) λp=>L1.b1 (qA t i) λi=>L1.b1 (qfy i) λi=>L1.wh _ (qn6 _ _)) hk
 case iAddrS esz x i =>
  refine mk (G:=λk=>evK t x (λx=>match x with
   | .sl b o len _ _=>evK t i (λi=>unN i (λi=>qo (Nat.ble (Nat.succ i) len) (qw (Nat.add o (Nat.mul i esz)) (λo'=>k (.ptr b o')))))
   | .fz len cs=>evK t i (λi=>unN i (λi=>qo (Nat.ble (Nat.succ i) len) (qw (Nat.mul i esz) (λo'=>k (.pf cs o')))))
   | .own b len=>evK t i (λi=>unN i (λi=>qo (Nat.ble (Nat.succ i) len) (qw (Nat.mul i esz) (λo'=>k (.ptr b o')))))
   | _=>False)) (L1.b1 (qA t x) λx=>?_) hk
  cases x<;>dsimp only<;>first|exact L1.no|exact L1.b1 (qA t i) λi=>L1.b1 (qfy i) λi=>L1.wh _ (L1.b1 (zl _) λo'=>L1.ret _)
 case nilChk x =>
  refine mk (G:=λk=>evK t x (λv=>match v with | .ptr b o=>k (.ptr b o) | .fn f a c=>k (.fn f a c) | .map r=>k (.map r) | .pf cs o=>k (.pf cs o) | .yl b=>k (.yl b)|_=>False)) (L1.b1 (qA t x) λx=>?_) (show evK t x (λv=>match v with | .ptr b o=>k (.ptr b o) h | .fn f a c=>k (.fn f a c) h | .map r=>k (.map r) h | .pf cs o=>k (.pf cs o) h | .yl b=>k (.yl b) h|_=>False)from hk)
  cases x<;>dsimp only<;>first|exact L1.no|exact L1.ret _
 case eqN neg q x=>exact mk (G:=λk=>evK t x (λx=>jm q x (λr=>qT (xor neg r) (λr=>k (.b r))))) (L1.b1 (qA t x) λx=>L1.b1 (qpv q x) λr=>L1.b1 (xt _) λr=>L1.ret _) hk
 case fld off n x =>
  refine mk (G:=λk=>evK t x (λx=>match x with
   | .agg cs=>Option.rec (motive:=λ_=>Prop) (qiE cs off k) (λn=>qc9 off cs (λl=>qcK n l (λl=>k (.agg l)))) n
   | _=>False)) (L1.b1 (qA t x) λx=>?_) hk
  cases x<;>dsimp only<;>try exact L1.no
  cases n
  all_goals simp_all[qiF,L1.b1,qfF,qeC,L1.ret]
 case min x y=>exact mk (G:=λk=>evK t x (λx=>evK t y (λy=>unI x (λq n=>unI y (λ_ m=>Bool.rec (motive:=λ_=>Prop) (k (.i q n)) (k (.i q m)) (ltI m n)))))) (L1.b1 (qA t x) λx=>L1.b1 (qA t y) λy=>L2.b1 (qkJ x) λq n=>L2.b1 (qkJ y) λ_ m=>L1.br _ (L1.ret _) (L1.ret _)) hk
 case max x y=>exact mk (G:=λk=>evK t x (λx=>evK t y (λy=>unI x (λq n=>unI y (λ_ m=>Bool.rec (motive:=λ_=>Prop) (k (.i q n)) (k (.i q m)) (ltI n m)))))) (L1.b1 (qA t x) λx=>L1.b1 (qA t y) λy=>L2.b1 (qkJ x) λq n=>L2.b1 (qkJ y) λ_ m=>L1.br _ (L1.ret _) (L1.ret _)) hk
 case build z ps=>exact mk (G:=λk=>qah t ps z (λcs=>k (.agg cs))) (L1.b1 (qi5 t ps z) λcs=>L1.ret _) hk
 case len b x =>
  cases b with
  | false =>
   have e:∀(h:Hp) (k:AV->Hp->Prop),opK orc (.len false x) t h k=evK t x (λy=>match y with
    | .nils=>k (.i .i64 0) h
    | .e0=>k (.i .i64 0) h
    | .nz=>k (.i .i64 0) h
    | .fz n _=>k (.i .i64 (Int.ofNat n)) h
    | .own _ n=>k (.i .i64 (Int.ofNat n)) h
    | .sl _ _ n _ _=>k (.i .i64 (Int.ofNat n)) h
    | _=>False):=by
    intro h k;show evK t x _=evK t x _
    grind
   rw[e]at hk
   obtain⟨v,h1,h2⟩:=mk (G:=λk=>evK t x (λy=>match y with
    | .nils=>k (.i .i64 0)
    | .e0=>k (.i .i64 0)
    | .nz=>k (.i .i64 0)
    | .fz n _=>k (.i .i64 (Int.ofNat n))
    | .own _ n=>k (.i .i64 (Int.ofNat n))
    | .sl _ _ n _ _=>k (.i .i64 (Int.ofNat n))
    | _=>False)) (L1.b1 (qA t x) λx=>by cases x<;>dsimp only<;>first|exact L1.no|exact L1.ret _) hk
   exact⟨v,h1,λh3 k2 hk2=>by rw[e];simp_all⟩
  | true =>
   have e:∀(h:Hp) (k:AV->Hp->Prop),opK orc (.len true x) t h k=evK t x (λy=>match y with
    | .s a=>qw a.length (λn=>k (.i .i64 (Int.ofNat n)) h)
    | .sym j=>qiH (orc.len j) (λv=>k v h)
    | _=>False):=by
    intro h k;show evK t x _=evK t x _
    grind
   rw[e]at hk
   obtain⟨v,h1,h2⟩:=mk (G:=λk=>evK t x (λy=>match y with
    | .s a=>qw a.length (λn=>k (.i .i64 (Int.ofNat n)))
    | .sym j=>qiH (orc.len j) k
    | _=>False)) (L1.b1 (qA t x) λx=>by cases x<;>dsimp only<;>first|exact L1.no|exact L1.b1 (zl _) λn=>L1.ret _|exact qhe _) hk
   exact⟨v,h1,λh3 k2 hk2=>by rw[e];simp_all⟩
 case ext x i =>
  refine mk (G:=λk=>evK t x (λx=>match x with | .tup cs=>qiE cs i k|_=>False)) (L1.b1 (qA t x) λx=>?_) hk
  cases x<;>dsimp only<;>first|exact L1.no|grind[qiF]

def Rel.join{Z1 Z2:Ren}{B:Nat->Prop}{h h2:Hp}{w w':World}(r1:Rel σ Z1 B h w)(r2:Rel σ Z2 B h2 w')(hw:∀n,n<w.heap.size->w'.heap[n]?=w.heap[n]?)(hsz:w.heap.size<=w'.heap.size)
  (hs:h2.sz<=h.sz) (hf:h.fl=h2.fl) (hg:∀b,b<h2.sz->h.tr.get b=h2.tr.get b) (h1Z:∀b L,Z1 b=some L->Z' b=some L) (h2Z:∀b L,Z2 b=some L->Z' b=some L)
  (hz1:∀k a,Z1.frz k=some a->Z2.frz k=some a) (hzf:Z'.frz=Z2.frz) (hn1:Z1.n<=Z'.n) (hn2:Z2.n<=Z'.n) (hn3:Z'.n<=h.sz) (hzn:∀k a,Z2.frz k=some a->Z1.frz k=some a\/w.heap.size<=k)
  (hor:∀b L,Z' b=some L->Z1 b=some L\/(Z2 b=some L/\w.heap.size<=L.blk)):Rel σ Z' B h w':=by
 have r1':=r1.world hw hsz;have r2':=r2.longer hs hf hg;have old:∀b L x,Z1 b=some L->h.tr.get b=some x->x≠.dead->L.blk<w.heap.size:=λb L x hb hx hd=>r1.blk_lt b L hb x hx hd
 have l1:Z1.le Z':=⟨h1Z,λk a hk=>by rw[hzf];exact hz1 k a hk,hn1⟩
 have l2:Z2.le Z':=⟨h2Z,λk a hk=>by rw[hzf];exact hk,hn2⟩
 refine⟨?_,?_,?_,?_,?_,?_,?_,r1'.base,?_,⟨hn3,λb L hb=>(hor b L hb).elim (λh=>r1'.dn.2 b L h) λh=>r2.dn.2 b L h.1⟩⟩
 rotate_right
 .intro k arr hk;rw[hzf]at hk;obtain⟨g1,g2⟩:=r2'.frz k arr hk;refine⟨g1,λb L x hb hx hd=>?_⟩
  rcases hor b L hb with hb|⟨hb,hn⟩
  .rcases hzn k arr hk with hk|hk
   .exact by grind[Rel.frz]
   .have:=old b L x hb hx hd;omega
  .exact g2 b L x hb hx hd
 .intro b L hb;rcases hor b L hb with hb|⟨hb,_⟩
  .exact r1'.dom b L hb
  .exact r2'.dom b L hb
 .intro b L e wf af cs hb hx;rcases hor b L hb with hb|⟨hb,_⟩
  .obtain⟨g1,c,ty,fz,g2,g3,g4,g5,g6⟩:=r1'.cells b L e wf af cs hb hx;exact by grind[VR.mono]
  .obtain⟨g1,c,ty,fz,g2,g3,g4,g5,g6⟩:=r2'.cells b L e wf af cs hb hx;exact by grind[VR.mono]
 .intro b L es hb hx;rcases hor b L hb with hb|⟨hb,_⟩
  .obtain⟨g1,ob,g2,g3⟩:=r1'.maps b L es hb hx;exact by grind[qcu.mono]
  .obtain⟨g1,ob,g2,g3⟩:=r2'.maps b L es hb hx;exact by grind[qcu.mono]
 .intro b L e af cs hb hx b' L' x hb' hx' hd he;rcases hor b L hb with hb|⟨hb,hn⟩<;>rcases hor b' L' hb' with hb'|⟨hb',hn'⟩
  .exact by grind[Rel.excl]
  .have:=old b L _ hb hx (by simp);omega
  .have:=old b' L' _ hb' hx' hd;omega
  .exact by grind[Rel.excl]
 .intro b L es hb hx b' L' x hb' hx' hd he;rcases hor b L hb with hb|⟨hb,hn⟩<;>rcases hor b' L' hb' with hb'|⟨hb',hn'⟩
  .exact by grind[Rel.exclm]
  .have:=old b L _ hb hx (by simp);omega
  .have:=old b' L' _ hb' hx' hd;omega
  .exact by grind[Rel.exclm]
 .intro b L e wf cs hb hx b' L' e' wf' af' cs' hb' hx' he;rcases hor b L hb with hb|⟨hb,hn⟩<;>rcases hor b' L' hb' with hb'|⟨hb',hn'⟩
  .exact r1'.app b L e wf cs hb hx b' L' e' wf' af' cs' hb' hx' he
  .have:=old b L _ hb hx (by simp);omega
  .have:=old b' L' _ hb' hx' (by simp);omega
  .exact r2'.app b L e wf cs hb hx b' L' e' wf' af' cs' hb' hx' he
 grind[Rel.flr]
def Rel.join2{Z1 Z2:Ren}{B B2:Nat->Prop}{h h2:Hp}{w w':World}{nb:Nat}(r1:Rel σ Z1 B h w)(r2:Rel σ Z2 B2 h2 w')(hw:∀n,n<w.heap.size->w'.heap[n]?=w.heap[n]?)(hsz:w.heap.size<=w'.heap.size)
  (hnb:nb<h.sz) (hg:h.tr.get nb=h2.tr.get nb) (h1Z:∀b L,Z1 b=some L->Z' b=some L) (h2Z:∀b L,Z2 b=some L->Z' b=some L)
  (hz1:∀k a,Z1.frz k=some a->Z2.frz k=some a) (hzf:Z'.frz=Z2.frz) (hn1:Z1.n<=Z'.n) (hn2:Z2.n<=Z'.n) (hn3:Z'.n<=h.sz) (hzn:∀k a,Z2.frz k=some a->Z1.frz k=some a\/w.heap.size<=k)
  (hor:∀b L,Z' b=some L->Z1 b=some L\/(b=nb/\Z2 b=some L/\w.heap.size<=L.blk)):Rel σ Z' B h w':=by
 have r1':=r1.world hw hsz;have old:∀b L x,Z1 b=some L->h.tr.get b=some x->x≠.dead->L.blk<w.heap.size:=λb L x hb hx hd=>r1.blk_lt b L hb x hx hd
 have l1:Z1.le Z':=⟨h1Z,λk a hk=>by rw[hzf];simp_all,hn1⟩
 have l2:Z2.le Z':=⟨h2Z,λk a hk=>by rw[hzf];exact hk,hn2⟩
 have tr:∀{b x},b=nb->h.tr.get b=some x->h2.tr.get b=some x:=by
  simp_all
 refine⟨?_,?_,?_,?_,?_,?_,?_,r1'.base,?_,⟨hn3,λb L hb=>(hor b L hb).elim (λh=>r1'.dn.2 b L h) λh=>r2.dn.2 b L h.2.1⟩⟩
 rotate_right
 .grind[Rel.frz]
 .intro b L hb;rcases hor b L hb with hb|⟨he,hb,_⟩
  .exact r1'.dom b L hb
  omega
 .intro b L e wf af cs hb hx;rcases hor b L hb with hb|⟨he,hb,_⟩
  .obtain⟨g1,c,ty,fz,g2,g3,g4,g5,g6⟩:=r1'.cells b L e wf af cs hb hx;exact by grind[VR.mono]
  grind[Rel.cells,VR.mono]
 .grind[Rel.maps,qcu.mono]
 .intro b L e af cs hb hx b' L' x hb' hx' hd he;rcases hor b L hb with hb|⟨hq,hb,hn⟩<;>rcases hor b' L' hb' with hb'|⟨hq',hb',hn'⟩
  .exact by grind[Rel.excl]
  all_goals grind
 .intro b L es hb hx b' L' x hb' hx' hd he;rcases hor b L hb with hb|⟨hq,hb,hn⟩<;>rcases hor b' L' hb' with hb'|⟨hq',hb',hn'⟩
  .exact by grind[Rel.exclm]
  all_goals grind
 .intro b L e wf cs hb hx b' L' e' wf' af' cs' hb' hx' he;rcases hor b L hb with hb|⟨hq,hb,hn⟩<;>rcases hor b' L' hb' with hb'|⟨hq',hb',hn'⟩
  .exact r1'.app b L e wf cs hb hx b' L' e' wf' af' cs' hb' hx' he
  all_goals grind
 .intro b L hb hh;rcases hor b L hb with hb|⟨_,_,hn⟩
  .grind[Rel.flr]
  .exact λhB=>absurd (r1.base _ hB) (Nat.not_lt.2 hn)

def qhv{ops:Array Oper}{nt:Nat}:∀{os:List Oper} {rs:List ROp},qdF P ops nt os rs=true->os.length=rs.length/\∀(i:Nat) o r,os[i]?=some o->rs[i]?=some r->qqB P ops nt o r=true
 | [],[],_=>⟨rfl,by simp⟩
 | o::os,r::rs,h=>by
  simp only[qdF,zzB]at h;obtain⟨h1,h2⟩:=h;obtain⟨h3,h4⟩:=qhv h2
  grind
 | [],_::_,h=>by simp[qdF]at h
 | _::_,[],h=>by simp[qdF]at h

structure Canon (orc:Orc) (C:zI) (rs:List ROp) (T:Nat->Tr AV) (H:Nat->Hp) (G:Nat->Bool) (V:Nat->AV):Prop where
 step:∀(i:Nat) r,rs[i]?=some r->qaV (T i) r.guard (λg=>g=G i)/\qap (T i) r.dst (V i) (λt=>t=T (i+1)) /\
  ((G i=true/\qiK orc true C r.k (T i) (H i) (λv h=>v=V i/\h=H (i+1)))\/(G i=false/\V i = .tup []/\H (i+1)=H i))

def qo0{C:zI}(hi:LC C){Q:Tr AV->Hp->Prop}:∀(rs:List ROp) (t:Tr AV) (h:Hp),qmc orc true C rs Q t h->
  ∃T H G V,T 0=t/\H 0=h/\Canon orc C rs T H G V/\Q (T rs.length) (H rs.length)
 | [],t,h,hk=>⟨λ_=>t,λ_=>h,λ_=>false,λ_=>.undef,rfl,rfl,⟨by simp⟩,hk⟩
 | ⟨dst,k,g⟩::rs,t,h,hk=>by
  have hk':qaV t g (λgo=>Bool.rec (motive:=λ_=>Prop)
   (qap t dst (.tup []) (λt'=>qmc orc true C rs Q t' h)) (qiK orc true C k t h (λv h'=>qap t dst v (λt'=>qmc orc true C rs Q t' h'))) go):=hk
  obtain⟨go,h1,h2⟩:=qvL t g _ hk'
  have shift:∀(v:AV) (t1:Tr AV) (h1:Hp),qap t dst v (λt'=>t'=t1)->((go=true/\qiK orc true C k t h (λv' h'=>v'=v/\h'=h1))\/(go=false/\v = .tup []/\h1=h))->qmc orc true C rs Q t1 h1->
    ∃T H G V,T 0=t/\H 0=h/\Canon orc C (⟨dst,k,g⟩::rs) T H G V/\Q (T (rs.length+1)) (H (rs.length+1)):=by
   intro v t1 hh1 hd hg hr;obtain⟨T,H,G,V,e1,e2,e3,e4⟩:=qo0 hi rs t1 hh1 hr;refine⟨λi=>match i with|0=>t|i+1=>T i,λi=>match i with|0=>h|i+1=>H i,λi=>match i with|0=>go|i+1=>G i,λi=>match i with|0=>v|i+1=>V i,rfl,rfl,⟨?_⟩,e4⟩
   intro i r hri;cases i<;>grind[Canon.step]
  cases go with
  | false =>
   obtain⟨t1,h3,h4⟩:=qvd t dst _ _ h1
   grind
  | true =>
   obtain⟨v,hh,h3,h4⟩:=qEK orc true hi k t h _ h1;obtain⟨t1,h5,h6⟩:=qvd t dst v _ h3
   grind

def qnF{C:zI}{rs:List ROp}{T:Nat->Tr AV}{H:Nat->Hp}{G:Nat->Bool}{V:Nat->AV}(hc:Canon orc C rs T H G V){i:Nat}{r:ROp}(hr:rs[i]?=some r)(x:Nat) :
  (T (i+1)).get x=if r.dst=some x then some (V i)else(T i).get x:=by
 obtain⟨_,h2,_⟩:=hc.step i r hr;cases hd:r.dst with
 | none =>
  rw[hd]at h2;have h2':T i=T (i+1):=h2
  simp_all
 | some d =>
  rw[hd]at h2;have h2':(T i).setK d (V i) (λt=>t=T (i+1)):=h2
  rw[Tr.setK_iff]at h2';rw[<- h2',Tr.get_set]
  grind

def qmx{o:Oper}{a:Act}{w:World}{F:Prop}(h:o.wpIn (Fr none) 0 P a w (λ_ _=>F) (λ_ _ _=>False)):F:=by
 obtain⟨_,h⟩:=h;generalize(o.semAt (Fr none).round a.eval).run P w=r at h;cases r with
 | ok n w' =>
  cases n<;>simp only[Oper.uponIn]at h
  case enter f args =>
   obtain⟨e,w'',fr,hR,_⟩:=h.2.2 [] (room_wide _);cases e with
   | returned v=>exact hR
   | panicked=>exact hR.elim
   | outgrown=>obtain⟨_,_,hh⟩:=hR;exact hh.elim
  case row row args =>
   obtain⟨v,w'',hR,_⟩:=h.2 default [] (room_wide _);exact hR
  case round l f tmps assign body =>
   obtain⟨e,w'',hR,_⟩:=h.2.2 default [] (room_wide _);cases e with
   | returned v=>exact hR
   | panicked=>exact hR.elim
   | outgrown=>obtain⟨_,_,hh⟩:=hR;exact hh.elim
  all_goals omega
 | halt x w'=>cases x<;>simp only[Oper.uponIn]at h

structure Fact (rs:List ROp) (H:Nat->Hp) (i:Nat):Prop where
 sz:(H i).sz<=(H (i+1)).sz
 fl:(H (i+1)).fl=(H i).fl
 keep:(∀r,rs[i]?=some r->wr r.k=false)->∀b,b<(H i).sz->(H (i+1)).tr.get b=(H i).tr.get b
 floor:∀b,b<(H i).fl->b<(H i).sz->(H (i+1)).tr.get b=(H i).tr.get b

def qed(horc:OrcOk P σ orc){C:zI}(hs:qdC P σ C){nt:Nat}{ops:Array Oper}{rs:List ROp}(hrs:qdF P ops nt ops.toList rs=true){T:Nat->Tr AV}{H:Nat->Hp}{G:Nat->Bool}{V:Nat->AV}(hc:Canon orc C rs T H G V)
  {B:Nat->Prop} {w:World} {a:Act} (ht:TR σ Z (T 0) a.tmps) (hsz:nt<=a.tmps.size) (r:Rel σ Z B (H 0) w):∀i,i<=rs.length->
  (∃(Z':Ren) (a':Act) (w':World),TR σ Z' (T i) a'.tmps/\nt<=a'.tmps.size/\Rel σ Z' B (H i) w')/\∀j,j<i->Fact rs H j
 | 0,_=>by grind
 | i+1,hi=>by
  obtain⟨⟨Z1,a1,w1,ht1,hs1,r1⟩,hf⟩:=qed horc hs hrs hc ht hsz r i (by omega);obtain⟨hlen,hget⟩:=qhv hrs;have hri:rs[i]?=some rs[i]:=by simp_all
  have hoi:ops.toList[i]?=some (ops.toList[i]'(by omega)):=by simp_all
  have hchk:=hget i _ _ hoi hri;generalize rs[i]=rr at hri hchk;generalize ops.toList[i]'(by omega)=o at hoi hchk;simp only[qqB,zzB]at hchk;obtain⟨⟨hc1,hc2⟩,hc3⟩:=hchk;obtain⟨g1,g2,g3⟩:=hc.step i rr hri
  have key:(∃(Z':Ren) (a':Act) (w':World),TR σ Z' (T (i+1)) a'.tmps/\nt<=a'.tmps.size/\Rel σ Z' B (H (i+1)) w')/\Fact rs H i:=by
   rcases g3 with⟨_,g3⟩|⟨_,g3,g4⟩
   .rcases (qe8 _ _ _).1 g3 with⟨hb,g3⟩|⟨hb,g3⟩
    .refine qmx (P:=P) (o:=o) (a:=a1) (w:=w1) (qhH horc hs r1 ht1 hc3 g3 _ _ ?_);rintro v v' h' Z' w' ⟨rfl,rfl⟩ q1 q2 q3;obtain⟨t',q4,q5⟩:=(ht1.mono (q3.mono r1.dom)).put hs1 hc1 q1 g2;subst q4;refine⟨by grind[qaE],q3.szle,q3.fl,λhw=>?_,q3.akeep⟩
     have:=hw rr hri;simp[this]at hb
    .refine qmx (P:=P) (o:=o) (a:=a1) (w:=w1) (qjC horc hs r1 ht1 hc3 g3 _ _ ?_);rintro v v' h' Z' w' ⟨rfl,rfl⟩ q1 q2 q3 q6 _ _ _;obtain⟨t',q4,q5⟩:=(ht1.mono (q3.mono r1.dom)).put hs1 hc1 q1 g2;subst q4;exact⟨by grind[qaE],q3.szle,q3.fl,λ_=>q6,q3.akeep⟩
   .obtain⟨t',q4,q5⟩:=ht1.put hs1 hc1 (.tup [] #[] .nil) (by rw[g3]at g2;exact g2);subst q4;exact⟨by grind[qaE],by rw[g4];exact zzL _,by rw[g4],by simp_all,by simp_all⟩
  grind

section facts
variable {rs:List ROp} {H:Nat->Hp}
def zD(hf:∀j,j<rs.length->Fact rs H j){i j:Nat}(hij:i<=j)(hj:j<=rs.length):(H i).sz<=(H j).sz:=by
 induction j<;>grind[Fact.sz]
def qpc(hf:∀j,j<rs.length->Fact rs H j){i j:Nat}(hij:i<=j)(hj:j<=rs.length):(H j).fl=(H i).fl:=by
 induction j<;>grind[Fact.fl]
def qn0(hf:∀j,j<rs.length->Fact rs H j){i j:Nat}(hij:i<=j)(hj:j<=rs.length)(hw:∀k,i<=k->k<j->∀r,rs[k]?=some r->wr r.k=false)(b:Nat)(hb:b<(H i).sz):(H j).tr.get b=(H i).tr.get b:=by
 induction j with
 | zero=>simp_all
 | succ j ih =>
  rcases Nat.lt_or_eq_of_le hij with h|rfl
  .rw[<- ih (by omega) (by omega) (by grind)];exact(hf j (by omega)).keep (by grind) b (Nat.lt_of_lt_of_le hb (zD hf (by omega) (by omega)))
  .rfl
def qvA(hf:∀j,j<rs.length->Fact rs H j){j:Nat}(hj:j<=rs.length)(b:Nat)(hb:b<(H 0).fl)(hb2:b<(H 0).sz):(H j).tr.get b=(H 0).tr.get b:=by
 induction j with
 | zero=>rfl
 | succ j ih =>
  rw[<- ih (by omega)];exact(hf j (by omega)).floor b (by rw[qpc hf (Nat.zero_le _) (by omega)];exact hb) (Nat.lt_of_lt_of_le hb2 (zD hf (Nat.zero_le _) (by omega)))
end facts

theorem qkc:∀(os:List Oper) (acc:List Nat) (j:Nat),j<acc.length->(qgk os acc)[j]?=acc[j]?
 | [],acc,j,h=>rfl
 | o::os,acc,j,h=>by rw[qgk,qkc os _ j (by grind),List.getElem?_append_left h]
def qnb:∀(os:List Oper) (acc:List Nat) (i:Nat) (o:Oper),os[i]?=some o->(qgk os acc)[acc.length+i]?=some (mask o ((qgk os acc).take (acc.length+i)))
 | [],_,_,_,h=>by grind
 | p::os,acc,i,o,h=>by
  cases i with
  | zero =>
   simp at h;subst h;rw[qgk,Nat.add_zero]
   have e1:(qgk os (acc++[mask p acc])).take acc.length=acc:=by
    apply List.ext_getElem?
    grind[qkc]
   rw[qkc _ _ _ (by simp),e1];simp
  | succ i =>
   have:=qnb os (acc++[mask p acc]) i o (by simpa using h);rw[qgk]
   grind
def qws{o:Oper}{acc:List Nat}{j:Nat}(h:(mask o acc).testBit j=true):∃e ∈ o.after,Region.binds .any e=true/\(e.on=j\/(acc.getD e.on 0).testBit j=true):=by
 have key:∀(es:List Edge) (s:Nat),(es.foldl (λs e=>if Region.binds .any e then s ||| 2 ^ e.on ||| acc.getD e.on 0 else s) s).testBit j=true->s.testBit j=true\/∃e ∈ es,Region.binds .any e=true/\(e.on=j\/(acc.getD e.on 0).testBit j=true):=by
  intro es
  induction es with
  | nil=>intro s h;exact .inl h
  | cons e es ih =>
   intro s h;rw[List.foldl_cons]at h;rcases ih _ h with h1|⟨e',h1,h2⟩
   .by_cases hb:Region.binds .any e=true
    .rw[if_pos hb]at h1;simp only[Nat.testBit_or,zzO,Nat.testBit_two_pow,decide_eq_true_eq]at h1;rcases h1 with(h1|h1)|h1
     .exact .inl h1
     .exact by simp_all
     .exact by simp_all
    .rw[if_neg hb]at h1;exact .inl h1
   .exact by grind
 rcases key _ 0 h with h1|⟨e,h1,h2⟩
 all_goals grind
def qkb{ops:Array Oper}{S:Nat->Prop}(hlt:∀(i:Nat) o,ops[i]?=some o->∀e ∈ o.after,Region.binds .any e=true->e.on<i)(hcl:∀(i:Nat) o,S i->ops[i]?=some o->∀e ∈ o.after,Region.binds .any e=true->S e.on) :
  ∀(i:Nat) o,ops[i]?=some o->(∀e ∈ o.after,Region.binds .any e=true->S e.on)->∀j,((qgk ops.toList []).getD i 0).testBit j=true->S j:=by
 intro i
 induction i using Nat.strongRecOn with
 | _ i ih =>
  intro o ho hr j hj;have hm:=qnb ops.toList [] i o (by simp_all);simp only[List.length_nil,Nat.zero_add]at hm;rw[List.getD_eq_getElem?_getD,hm]at hj;obtain⟨e,he,hb,h1⟩:=qws hj;have hle:=hlt i o ho e he hb;have hS:=hr e he hb;rcases h1 with rfl|h1
  .exact hS
  .have hi:i<ops.size:=by grind
   have e1:((qgk ops.toList []).take i).getD e.on 0=(qgk ops.toList []).getD e.on 0:=by
    rw[List.getD_eq_getElem?_getD,List.getD_eq_getElem?_getD,List.getElem?_take_of_lt hle]
   rw[e1]at h1;have ho':ops[e.on]?=some ops[e.on]:=by simp_all
   grind

def qhD{rs:List ROp}{ms:List Nat}:∀(rest:List ROp) (j:Nat),qiZ rs ms j rest=true->rs.drop j=rest->∀i k a b,i<k->j<=k->rs[i]?=some a->rs[k]?=some b->qew a b=true->(ms.getD k 0).testBit i=true
 | [],j,_,hd,i,k,a,b,_,hjk,_,hb,_=>by
  have:rs.length<=j:=by simp_all
  have:=(zzS.1 hb).1;omega
 | r::rest,j,hc,hd,i,k,a,b,hik,hjk,ha,hb,hm=>by
  simp only[qiZ,zzB]at hc
  have hrj:rs[j]?=some r:=by
   have:=congrArg (λl=>l[0]?) hd
   grind
  rcases Nat.lt_or_eq_of_le hjk with h|rfl
  .exact qhD rest (j+1) hc.2 (by rw[<- List.drop_drop,hd];rfl) i k a b hik h ha hb hm
  .rw[hrj]at hb;cases hb
   have:=(List.all_eq_true.1 hc.1) (a,i) (by
    rw[List.mem_zipIdx_iff_getElem?];simp only;rw[List.getElem?_take_of_lt hik];exact ha)
   simp_all

def cut(Z:Ren)(n:Nat):Ren:=⟨λb=>if b<n then Z b else none,Z.frz,min Z.n n⟩
def xY{Z:Ren}{n b:Nat}{L:Loc}(h:cut Z n b=some L):b<n/\Z b=some L:=by
 simp only[cut]at h;simp_all
def xP{Z:Ren}{n b:Nat}(h:b<n):cut Z n b=Z b:=by simp only[cut];rw[if_pos h]

section
variable {rs:List ROp} {T:Nat->Tr AV} {H:Nat->Hp} {G:Nat->Bool} {V:Nat->AV}

def IsW(rs:List ROp)(i:Nat):Prop:=∃r,rs[i]?=some r/\wr r.k=true
def IsD(rs:List ROp)(i x:Nat):Prop:=∃r,rs[i]?=some r/\r.dst=some x

structure Inv (σ:Nat->Value) (rs:List ROp) (T:Nat->Tr AV) (H:Nat->Hp) (nt:Nat) (Z0:Ren) (B:Nat->Prop) (w0:World) (ds:List Deferred) (S:Nat->Prop) (a:Act) (w:World) (Z:Ren):Prop where
 lt:∀i,S i->i<rs.length
 dom:∀b L,Z b=some L->b<(H 0).sz\/∃j,S j/\(∀r,rs[j]?=some r->qbR r.k=false)/\(H j).sz<=b/\b<(H (j+1)).sz
 rels:∀c,c<=rs.length->(∀j,IsW rs j->(S j↔j<c))->Rel σ (cut Z (H c).sz) B (H c) w
 tmps:∀x j v,j<=rs.length->(∀k,IsD rs k x->(S k↔k<j))->(T j).get x=some v->x<a.tmps.size/\VR σ (cut Z (H j).sz) v (a.tmps.getD x undef)
 ext:∀b,b<(H 0).sz->Z b=Z0 b
 pres:∀k,B k->w.heap[k]?=w0.heap[k]?
 wle:w0.heap.size<=w.heap.size
 io:w.os=w0.os/\w.output=w0.output
 base:∀k,B k->k<w.heap.size
 size:nt<=a.tmps.size
 defers:a.defers=ds
 big:(H rs.length).sz<=Z.n
 frz:∀k a,Z0.frz k=some a->Z.frz k=some a
 fnew:∀k a,Z.frz k=some a->Z0.frz k=some a\/¬B k
 wlt:∀b L,Z b=some L->L.blk<w.heap.size

def qiQ{C:zI}(hc:Canon orc C rs T H G V){x i j:Nat}(hij:i<=j)(hj:j<=rs.length)(hn:∀k,i<=k->k<j->¬IsD rs k x):(T j).get x=(T i).get x:=by
 induction j with
 | zero=>simp_all
 | succ j ih' =>
  rcases Nat.lt_or_eq_of_le hij with h|rfl
  .rw[<- ih' (by omega) (by omega) (by grind)];have hr:rs[j]?=some rs[j]:=by simp_all
   rw[qnF hc hr,if_neg (λhd=>hn j (by omega) (by omega) ⟨_,hr,hd⟩)]
  .rfl

def Inv.next{C:zI}(hc:Canon orc C rs T H G V)(hf:∀j,j<rs.length->Fact rs H j){nt:Nat}{Z0:Ren}{B:Nat->Prop}{w0:World}{ds:List Deferred}{S:Nat->Prop}{a:Act}{w:World}
  (I:Inv σ rs T H nt Z0 B w0 ds S a w Z) {i:Nat} {r:ROp} (hr:rs[i]?=some r) (hS:¬S i) {d:Option Tmp} (hd:qo2 nt d r.dst=true)
  (hD:∀x,r.dst=some x->∀k,IsD rs k x->k≠i->(S k↔k<i)) {v':Value} {w':World} (hv:VR σ (cut Z' (H (i+1)).sz) (V i) v')
  (hZ:∀b L,Z b=some L->Z' b=some L) (hZ0:∀b,b<(H 0).sz->Z' b=Z b) (hz:∀k a,Z.frz k=some a->Z'.frz k=some a) (hzn:∀k a,Z'.frz k=some a->Z.frz k=some a\/¬B k) (hbig:(H rs.length).sz<=Z'.n) (hdom:∀b L,Z' b=some L->Z b=some L\/((∀r,rs[i]?=some r->qbR r.k=false)/\(H i).sz<=b/\b<(H (i+1)).sz/\L.blk<w'.heap.size))
  (hrels:∀c,c<=rs.length->(∀j,IsW rs j->(S j\/j=i↔j<c))->Rel σ (cut Z' (H c).sz) B (H c) w') (hpres:∀k,B k->w'.heap[k]?=w.heap[k]?) (hwle:w.heap.size<=w'.heap.size) (hio:w'.os=w.os/\w'.output=w.output) :
  Inv σ rs T H nt Z0 B w0 ds (λj=>S j\/j=i) (a.put d v') w' Z':=by
 have hi:i<rs.length:=by grind
 refine⟨?_,?_,hrels,?_,?_,?_,Nat.le_trans I.wle hwle,by grind[Inv.io],qfB I.base hwle,by rw[qaE];exact I.size,by rw[qaD];exact I.defers,hbig,by grind[Inv.frz],by grind[Inv.fnew],λb L h=>(hdom b L h).elim (λh=>Nat.lt_of_lt_of_le (I.wlt b L h) hwle) λh=>h.2.2.2⟩
 .rintro j (h|rfl)
  .exact I.lt j h
  .exact hi
 .intro b L hb;rcases hdom b L hb with h|⟨h1,h2,h3,_⟩
  .rcases I.dom b L h with h|⟨j,h1,h2⟩
   .exact .inl h
   .exact by grind
  .exact by simp_all
 .intro x j v hj hk hg;have hsj:=zD hf hj (zzL _)
  have hmono:(cut Z (H j).sz).le (cut Z' (H j).sz):=by
   refine⟨λb L hb=>?_,hz,?_⟩
   .obtain⟨h1,h2⟩:=xY hb;rw[xP (by omega)];exact hZ b L h2
   .show min Z.n (H j).sz<=min Z'.n (H j).sz;omega
  by_cases hx:r.dst=some x
  .have hij:i<j:=(hk i ⟨r,hr,hx⟩).1 (.inr rfl);have hcon:(T j).get x=(T (i+1)).get x:=qiQ hc hij hj (by grind);rw[hcon,qnF hc hr,if_pos hx]at hg;cases hg;cases d with
   | none=>rw[hx]at hd;simp[qo2]at hd
   | some y =>
    rw[hx]at hd;simp only[qo2,zzB]at hd;obtain⟨h1,h2⟩:=hd;obtain rfl:=eq_of_beq h1;have hlt:y<a.tmps.size:=Nat.lt_of_lt_of_le (by simp_all) I.size;refine⟨by simp[Act.put];exact hlt,?_⟩
    have e:(a.put (some y) v').tmps.getD y undef=v':=by simp[Act.put,Array.getD,hlt]
    rw[e]
    have hle:(cut Z' (H (i+1)).sz).le (cut Z' (H j).sz):=by
     have hs:(H (i+1)).sz<=(H j).sz:=zD hf hij hj;refine⟨λb L hb=>?_,λ_ _ h=>h,?_⟩
     .obtain⟨h3,h4⟩:=xY hb;rw[xP (by omega)];exact h4
     .show min Z'.n (H (i+1)).sz<=min Z'.n (H j).sz;omega
    exact hv.mono hle
  .have hk':∀k,IsD rs k x->(S k↔k<j):=by
    intro k hdk;have hne:k≠i:=by rintro rfl;obtain⟨r',h1,h2⟩:=hdk;rw[hr]at h1;cases h1;exact hx h2
    have:=hk k hdk;constructor
    .intro h;exact this.1 (.inl h)
    .intro h;rcases this.2 h with h|h
     .exact h
     .exact absurd h hne
   obtain⟨h1,h2⟩:=I.tmps x j v hj hk' hg;refine⟨by rw[qaE];exact h1,?_⟩
   have e:(a.put d v').tmps.getD x undef=a.tmps.getD x undef:=by
    cases d with
    | none=>rfl
    | some y =>
     have hne:y≠x:=by
      rintro rfl;cases hrd:r.dst with
      | none=>rw[hrd]at hd;simp[qo2]at hd
      | some z =>
       rw[hrd]at hd;simp only[qo2,zzB]at hd;exact by simp_all
     simp only[Act.put];rw[Array.getD_eq_getD_getElem?,Array.getD_eq_getD_getElem?,Array.getElem?_setIfInBounds,if_neg hne]
   rw[e];exact h2.mono hmono
 all_goals grind[Inv.ext,Inv.pres]

def qGj(σ:Nat->Value)(v:AV)(n:Nat):Prop:=∃(Z:Ren) (v':Value),VR σ Z v v'/\(∀b L,Z b=some L->b<n)/\Z.n<=n
mutual
def VR.small{Z1 Z2:Ren}{n:Nat}(hn:∀b L,Z1 b=some L->b<n)(hn2:Z1.n<=n):∀{x:AV} {v1 v2:Value},VR σ Z1 x v1->VR σ Z2 x v2->VR σ (cut Z2 n) x v2
 | _,_,_,.undef _,_=>.undef _
 | _,_,_,.b _,h2=>by cases h2;exact .b _
 | _,_,_,.i _ _,h2=>by cases h2;exact .i _ _
 | _,_,_,.s _,h2=>by cases h2;exact .s _
 | _,_,_,.nilp,h2=>by cases h2;exact .nilp
 | _,_,_,.ptr b o L h,h2=>by
  cases h2 with
  | ptr _ _ L2 h'=>exact .ptr _ _ _ (by rw[xP (hn b L h)];exact h')
 | _,_,_,.nils,h2=>by cases h2;exact .nils
 | _,_,_,.sl b _ _ _ _ _ L h _,h2=>by
  cases h2 with
  | sl _ _ _ _ _ _ L2 h' hc=>exact .sl _ _ _ _ _ _ _ (by rw[xP (hn b L h)];exact h') hc
  | slz _ _ _ _ L2 h'=>exact .slz _ _ _ _ _ (by rw[xP (hn b L h)];exact h')
 | _,_,_,.slz b _ _ _ L h,h2=>by
  cases h2 with
  | sl _ _ _ _ _ _ L2 h' hc=>exact .sl _ _ _ _ _ _ _ (by rw[xP (hn b L h)];exact h') hc
  | slz _ _ _ _ L2 h'=>exact .slz _ _ _ _ _ (by rw[xP (hn b L h)];exact h')
 | _,_,_,.nilf,h2=>by cases h2;exact .nilf
 | _,_,_,.fn _ _ _ _ _ a1 a2,h2=>by
  cases h2 with
  | fn _ _ _ _ _ c1 c2=>exact .fn _ _ _ _ _ (VRs.small hn hn2 a1 c1) (VRs.small hn hn2 a2 c2)
 | _,_,_,.nili,h2=>by cases h2;exact .nili
 | _,_,_,.ifc _ _ _ a1,h2=>by
  cases h2 with
  | ifc _ _ _ c1=>exact .ifc _ _ _ (VR.small hn hn2 a1 c1)
 | _,_,_,.agg _ _ a1,h2=>by
  cases h2 with
  | agg _ _ c1=>exact .agg _ _ (VRs.small hn hn2 a1 c1)
 | _,_,_,.tup _ _ a1,h2=>by
  cases h2 with
  | tup _ _ c1=>exact .tup _ _ (VRs.small hn hn2 a1 c1)
 | _,_,_,.nilm,h2=>by cases h2;exact .nilm
 | _,_,_,.map b L h _,h2=>by
  cases h2 with
  | map _ L2 h' h0=>exact .map _ _ (by rw[xP (hn b L h)];exact h') h0
 | _,_,_,.sym _,h2=>by cases h2;exact .sym _
 | _,_,_,.fz _ _ _ _ _ _ _ _ _,h2=>by
  cases h2 with
  | fz _ _ _ _ _ _ q1 q2 q4=>exact .fz _ _ _ _ _ _ q1 q2 q4
  | fz0=>exact .fz0 _
 | _,_,_,.fz0 _,h2=>by
  cases h2 with
  | fz _ _ _ _ _ _ q1 q2 q4=>exact .fz _ _ _ _ _ _ q1 q2 q4
  | fz0=>exact .fz0 _
 | _,_,_,.pf _ _ _ _ _ _ _,h2=>by
  cases h2 with
  | pf _ _ _ _ _ q2 q4=>exact .pf _ _ _ _ _ q2 q4
 | _,_,_,.e0 _,h2=>by
  cases h2 with
  | e0=>exact .e0 _
 | _,_,_,.nz _ _,h2=>by
  cases h2 with
  | nz=>exact .nz _ _
 | _,_,_,.own0 b _ hb,h2=>by
  have hbn:b<n:=by omega
  cases h2 with
  | own0 _ _ q=>exact .own0 _ _ (Nat.lt_min.2 ⟨q,hbn⟩)
  | own _ _ _ L2 h' q1 q2=>exact .own _ _ _ _ (by rw[xP hbn];exact h') q1 q2
 | _,_,_,.own b _ _ L h _ _,h2=>by
  have hbn:b<n:=hn b L h;cases h2 with
  | own0 _ _ q=>exact .own0 _ _ (Nat.lt_min.2 ⟨q,hbn⟩)
  | own _ _ _ L2 h' q1 q2=>exact .own _ _ _ _ (by rw[xP hbn];exact h') q1 q2
 | _,_,_,.yl b L h,h2=>by
  cases h2 with
  | yl _ L2 h'=>exact .yl _ _ (by rw[xP (hn b L h)];exact h')
def VRs.small{Z1 Z2:Ren}{n:Nat}(hn:∀b L,Z1 b=some L->b<n)(hn2:Z1.n<=n):∀{x:List AV} {v1 v2:List Value},VRs σ Z1 x v1->VRs σ Z2 x v2->VRs σ (cut Z2 n) x v2
 | _,_,_,.nil,h2=>by cases h2;exact .nil
 | _,_,_,.cons _ _ _ _ a1 a2,h2=>by
  cases h2 with
  | cons _ _ _ _ c1 c2=>exact .cons _ _ _ _ (VR.small hn hn2 a1 c1) (VRs.small hn hn2 a2 c2)
end
def qBI{k:RK}(h:wr k=true):qbR k=false:=by
 cases k<;>first|rfl|(rename_i o1;cases o1<;>first|rfl|(simp[wr]at h))
def qqk(k:RK):wr (qey k)=wr k:=by
 cases k<;>try rfl
 rename_i o1;cases o1<;>rfl
def ql6(k:RK):qbR (qey k)=qbR k:=by
 cases k<;>try rfl
 rename_i o1;cases o1<;>rfl
def qsW{o:Op}{k:RK}(h:qgu P o k=true):qgu P o (qey k)=true:=by
 cases k with
 | callF=>exact h
 | callV=>exact h
 | callW=>exact h
 | callVW=>exact h
 | op o1 =>
  cases o1<;>try exact h
  .rename_i n x v ps
   have h2:qiY P o (.storeD n x v ps)=true:=by
    unfold qgu at h;split at h<;>simp_all
   have h3:∃t y u,o = .store t y u/\(qE y x&&qE u v&&zb P t n)=true:=by
    unfold qiY at h2;split at h2<;>try (cases h2;done)
    all_goals first
     | (rename_i heq;cases heq;exact by grind)
     | (rename_i heq;cases heq;done)
     | (unfold qdE at h2;split at h2<;>simp_all)
   obtain⟨t,y,u,rfl,h4⟩:=h3;exact h4
  .rename_i e y x v ps
   have h2:qiY P o (.appD e y x v ps)=true:=by
    unfold qgu at h;split at h<;>simp_all
   have h3:qiY P o (.app e y true x v)=true:=by
    unfold qiY at h2 ⊢;split at h2<;>try (cases h2;done)
    all_goals first
     | (rename_i heq;cases heq;done)
     | skip
    unfold qdE at h2 ⊢;split at h2<;>first|(rename_i heq;cases heq;done)|(cases h2;done)|skip
    simp_all
   show qgu P o (.op (.app e y true x v))=true;unfold qgu at h ⊢;split at h<;>simp_all
def qki{C:zI}{k:RK}{t:Tr AV}{h:Hp}{K:AV->Hp->Prop}(hk:qiK orc true C k t h K):qiK orc true C (qey k) t h K:=by
 cases k with
 | callF=>exact hk
 | callV=>exact hk
 | callW=>exact hk
 | callVW=>exact hk
 | op o1 =>
  cases o1<;>try exact hk
  .exact qjL (orc:=orc) hk
  .exact qoJ (orc:=orc) hk
theorem qee{a b:ROp}(h:qbD a b=true):wr a.k=false/\wr b.k=true/\∃p d io,a.k = .op io/\a.dst=some d/\(io = .load1 (.t p)\/∃n,io = .loadN n (.t p))/\∃ps,((∃n x v,b.k = .op (.storeD n x v ps))\/∃e y x v,b.k = .op (.appD e y x v ps))/\p ∈ ps:=by
 unfold qbD at h;split at h
 .rename_i n x v ps hb;split at h
  .rename_i p ha;simp only[zzB,List.contains_iff_mem,Option.isSome_iff_exists]at h;obtain⟨h1,d,h2⟩:=h;exact⟨by rw[ha];rfl,by rw[hb];rfl,p,d,_,ha,h2,.inl rfl,ps,.inl ⟨n,x,v,hb⟩,h1⟩
  .rename_i m p ha;simp only[zzB,List.contains_iff_mem,Option.isSome_iff_exists]at h;obtain⟨h1,d,h2⟩:=h;exact⟨by rw[ha];rfl,by rw[hb];rfl,p,d,_,ha,h2,.inr ⟨m,rfl⟩,ps,.inl ⟨n,x,v,hb⟩,h1⟩
  .cases h
 .rename_i e y x v ps hb;split at h
  .rename_i p ha;simp only[zzB,List.contains_iff_mem,Option.isSome_iff_exists]at h;obtain⟨h1,d,h2⟩:=h;exact⟨by rw[ha];rfl,by rw[hb];rfl,p,d,_,ha,h2,.inl rfl,ps,.inr ⟨e,y,x,v,hb⟩,h1⟩
  .rename_i m p ha;simp only[zzB,List.contains_iff_mem,Option.isSome_iff_exists]at h;obtain⟨h1,d,h2⟩:=h;exact⟨by rw[ha];rfl,by rw[hb];rfl,p,d,_,ha,h2,.inr ⟨m,rfl⟩,ps,.inr ⟨e,y,x,v,hb⟩,h1⟩
  .cases h
 grind
def qqN{io:IOp}{p:Nat}(hio:io = .load1 (.t p)\/∃n,io = .loadN n (.t p)){t:Tr AV}{h:Hp}{K:AV->Hp->Prop}(hk:opK orc io t h K) :
  (∃b o x v,t.get p=some (.ptr b o)/\h.tr.get b=some x/\K v h/\∀h2 (K2:AV->Hp->Prop),h2.tr.get b=some x->K2 v h2->opK orc io t h2 K2) \/
  (∃v,K v h/\∀h2 (K2:AV->Hp->Prop),K2 v h2->opK orc io t h2 K2):=by
 rcases hio with rfl|⟨n,rfl⟩
 .have hk':t.getK p (λq=>ldV h q (λv=>K v h)):=hk
  obtain⟨y,h1,h2⟩:=(Tr.getK_iff _ _ _).1 hk';cases y<;>try exact h2.elim
  .rename_i b o;obtain⟨e,w,a,cs,h3,h4⟩:=(zk h b _).1 h2;obtain⟨v,h5,h6⟩:=(jd _ _ _).1 h4;refine .inl ⟨b,o,_,v,h1,h3,h6,λh2 K2 g1 g2=>?_⟩
   show t.getK p (λq=>ldV h2 q (λv=>K2 v h2))
   exact(Tr.getK_iff _ _ _).2 ⟨_,h1,(zk h2 b _).2 (by grind[jd])⟩
  .rename_i cs o;obtain⟨v,h5,h6⟩:=(jd cs o _).1 h2;refine .inr ⟨v,h6,λh2 K2 g2=>?_⟩
   show t.getK p (λq=>ldV h2 q (λv=>K2 v h2))
   exact(Tr.getK_iff _ _ _).2 ⟨_,h1,(jd cs o _).2 ⟨v,h5,g2⟩⟩
 .have hk':t.getK p (λq=>qkO h q n (λl=>K (.agg l) h)):=hk
  obtain⟨y,h1,h2⟩:=(Tr.getK_iff _ _ _).1 hk';cases y<;>try exact h2.elim
  .rename_i b o;obtain⟨e,w,a,cs,h3,h4⟩:=(zk h b _).1 h2;obtain⟨h5,h6⟩:=(zL _ _ _).1 h4;obtain⟨h7,h8⟩:=(zH _ _ _).1 h6;refine .inl ⟨b,o,_,.agg ((cs.drop o).take n),h1,h3,h8,λh2 K2 g1 g2=>?_⟩
   show t.getK p (λq=>qkO h2 q n (λl=>K2 (.agg l) h2))
   exact(Tr.getK_iff _ _ _).2 ⟨_,h1,(zk h2 b _).2 (by grind[zL,zH])⟩
  .rename_i cs o;obtain⟨h5,h6⟩:=(zL o cs _).1 h2;obtain⟨h7,h8⟩:=(zH _ _ _).1 h6;refine .inr ⟨.agg ((cs.drop o).take n),h8,λh2 K2 g2=>?_⟩
   show t.getK p (λq=>qkO h2 q n (λl=>K2 (.agg l) h2))
   exact(Tr.getK_iff _ _ _).2 ⟨_,h1,(zL o cs _).2 (by grind[zH])⟩
def qoq{n:Nat}{x v:O}{ps:List Nat}{t:Tr AV}{h:Hp}{K:AV->Hp->Prop}(hk:opK orc (.storeD n x v ps) t h K) :
  ∃b y u,(∀q ∈ ps,(∃b' o',t.get q=some (.ptr b' o')/\b'≠b)\/∃cs o',t.get q=some (.pf cs o'))/\K u (h.put b y):=by
 obtain⟨p,h1,hh⟩:=qA t x _ hk;clear hh;cases p<;>try exact h1.elim
 rename_i b o;obtain⟨h2,h3⟩:=qa8 h1;obtain⟨u,h4,_⟩:=qA t v _ h2;obtain⟨_,h5⟩:=(qd _ _).1 h4;have h6:=(wj _ _).1 h5;obtain⟨_,h7⟩:=(qd _ _).1 h6;obtain⟨e,w,a,cs,h8,h9⟩:=(zk h b (λe w a cs=>Bool.rec (motive:=λ_=>Prop) False (Bool.rec (motive:=λ_=>Prop) False (ju (cellsOf u) o cs (λcs'=>qdo h b (.cells e w a cs') (λh'=>K .undef h'))) (qF (cellsOf u))) w)).1 h7
 cases w
 .simp_all
 .have h10:(Bool.rec (motive:=λ_=>Prop) False (ju (cellsOf u) o cs (λcs'=>qdo h b (.cells e true a cs') (λh'=>K .undef h'))) (qF (cellsOf u)):Prop):=h9
  cases hco:qF (cellsOf u)with
  | false=>rw[hco]at h10;simp_all
  | true =>
   rw[hco]at h10
   grind[jL,qaC]
def qqq{esz bytes:Nat}{s x:O}{ps:List Nat}{t:Tr AV}{h:Hp}{K:AV->Hp->Prop}(hk:opK orc (.appD esz bytes s x ps) t h K) :
  ∃u h',(∀q ∈ ps,∀b' o',t.get q=some (.ptr b' o')->b'<h.sz->h'.tr.get b'=h.tr.get b')/\K u h':=by
 obtain⟨v,h1,_⟩:=qA t s _ hk;obtain⟨u,h2,_⟩:=qA t x _ h1
 have push:∀(h:Hp) (y:Blk) (b':Nat),b'<h.sz->(h.push y).tr.get b'=h.tr.get b':=by
  intro h y b' hb;simp only[Hp.push,Tr.get_set];rw[if_neg (by omega)]
 cases v<;>try exact h2.elim
 rotate_left
 .rename_i b o len cap loose _;obtain⟨g1,g2⟩:=qa8 h2
  have ap:∀q ∈ ps,∀b' o',t.get q=some (.ptr b' o')->b'≠b:=by
   grind
  obtain⟨n,new,h3,_⟩:=qhj h esz u _ g1;cases loose with
  | true =>
   have h3':=(Iff.of_eq (qD _ _)).1 h3;obtain⟨_,h4⟩:=(qd _ _).1 h3';obtain⟨_,h5⟩:=(qd _ _).1 h4;obtain⟨_,h6⟩:=(qd _ _).1 h5;obtain⟨e,w,a,cs,_,h7⟩:=(zk h b _).1 h6;obtain⟨_,h8⟩:=(qd _ _).1 h7;obtain⟨_,h9⟩:=(qd _ _).1 h8;obtain⟨_,h10⟩:=(qd _ _).1 h9;obtain⟨_,h11⟩:=(qd _ _).1 h10;have h12:=(wj _ _).1 h11;obtain⟨_,h13⟩:=(qd _ _).1 h12;obtain⟨_,h13⟩:=(zL _ _ _).1 h13;have h14:=(jX _ _ _).1 h13;obtain⟨_,h15⟩:=(qaC _ _ _ _).1 h14;have h16:=(z7 _ _ _).1 h15;refine⟨_,_,λq hq b' o' hg hb=>?_,h16⟩
   have hne:=ap q hq b' o' hg;rw[push (h.put b .dead) _ b' hb];simp only[Hp.put,Tr.get_set];rw[if_neg hne]
  | false =>
  have h3:=(Iff.of_eq (qD _ _)).1 h3;cases hb:Nat.ble (Nat.add len n) cap with
  | false =>
   rw[hb]at h3;obtain⟨_,h4⟩:=(qd _ _).1 h3;obtain⟨_,h5⟩:=(qd _ _).1 h4;obtain⟨old,h6,_⟩:=qlT _ _ _ _ _ h5;have h7:=(jX _ _ _).1 h6;have h8:=(z7 _ _ _).1 h7
   grind
  | true =>
   rw[hb]at h3;cases n with
   | zero=>exact⟨_,_,by simp_all,h3⟩
   | succ n =>
    have h4:=(Iff.of_eq (qD _ _)).1 h3;obtain⟨e,w,a,cs,h8,h9⟩:=(zk h b (λe w a cs=>Bool.rec (motive:=λ_=>Prop) False (Bool.rec (motive:=λ_=>Prop) False (ju new (Nat.add o (Nat.mul len esz)) cs (λcs'=>qdo h b (.cells e w a cs') (λh'=>K (.sl b o (Nat.add len (n+1)) cap false) h'))) (qF new)) w)).1 h4
    cases w
    .simp_all
    .have h10:(Bool.rec (motive:=λ_=>Prop) False (ju new (Nat.add o (Nat.mul len esz)) cs (λcs'=>qdo h b (.cells e true a cs') (λh'=>K (.sl b o (Nat.add len (n+1)) cap false) h'))) (qF new):Prop):=h9
     cases hco:qF new with
     | false=>rw[hco]at h10;simp_all
     | true =>
      rw[hco]at h10;obtain⟨_,h11⟩:=(jL _ _ _ _).1 h10;obtain⟨_,h12⟩:=(qaC _ _ _ _).1 h11;refine⟨_,_,λq hq b' o' hg hb=>?_,h12⟩
      simp only[Hp.put,Tr.get_set];rw[if_neg (ap q hq b' o' hg)]
 .obtain⟨n,new,h3,_⟩:=qhj h esz u (λn _=>Nat.rec (motive:=λ_=>Prop) (K (.fz _ _) h) (λ_ _=>False) n) h2
  cases n with
  | zero=>exact⟨_,_,by simp_all,h3⟩
  | succ n=>simp_all
 rotate_right
 .obtain⟨n,new,h3,_⟩:=qhj h esz u (λn new=>qo (Nat.ble n qf) (qo (Nat.ble (Nat.mul n bytes) qf) (jz h (.cells esz true true new) (λb h'=>K (.own b n) h')))) h2
  grind[qd,z7]
 .obtain⟨n,new,h3,_⟩:=qhj h esz u (λn new=>qo (Nat.ble n qf) (qo (Nat.ble (Nat.mul n bytes) qf) (jz h (.cells esz true true new) (λb h'=>K (.own b n) h')))) h2
  grind[qd,z7]
 .rename_i b m _;obtain⟨g1,g2⟩:=qa8 h2;obtain⟨n,new,h3,_⟩:=qhj h esz u _ g1;have h3':=(Iff.of_eq (qD _ _)).1 h3;obtain⟨_,h4⟩:=(qd _ _).1 h3';obtain⟨_,h5⟩:=(qd _ _).1 h4;obtain⟨_,h6⟩:=(qd _ _).1 h5;obtain⟨e,w,a,cs,_,h7⟩:=(zk h b _).1 h6;obtain⟨_,h8⟩:=(qd _ _).1 h7;obtain⟨_,h9⟩:=(qd _ _).1 h8;obtain⟨_,h10⟩:=(qd _ _).1 h9;obtain⟨_,h11⟩:=(qd _ _).1 h10;have h12:=(wj _ _).1 h11;obtain⟨_,h13⟩:=(qd _ _).1 h12;have h14:=(jX _ _ _).1 h13;obtain⟨_,h15⟩:=(qaC _ _ _ _).1 h14;have h16:=(z7 _ _ _).1 h15;refine⟨_,_,λq hq b' o' hg hb=>?_,h16⟩
  obtain⟨b2,o2,f4,f5⟩:=(g2 q hq).resolve_right (by grind);rw[hg]at f4;cases f4;rw[push (h.put b .dead) _ b' hb];simp only[Hp.put,Tr.get_set];rw[if_neg f5]
def qmD{n:Nat}{x v:O}{ps:List Nat}{t:Tr AV}{h:Hp}{K:AV->Hp->Prop}(hk:opK orc (.storeD n x v ps) t h K) :
  ∃u h',(∀q ∈ ps,∀b' o',t.get q=some (.ptr b' o')->b'<h.sz->h'.tr.get b'=h.tr.get b')/\K u h':=by
 obtain⟨b,y,u,f1,f2⟩:=qoq hk;refine⟨_,_,λq hq b' o' hg hb=>?_,f2⟩
 obtain⟨b2,o2,f4,f5⟩:=(f1 q hq).resolve_right (by simp_all);rw[hg]at f4;cases f4;simp only[Hp.put,Tr.get_set];rw[if_neg f5]
def qkZ{a b:ROp}(h:exc a b=true):wr a.k=false/\wr b.k=true:=by
 unfold exc at h;rcases zzO _ _ ▸ h with h|h
 .grind[qee]
 .obtain⟨h1,h2⟩:=qlA h;refine⟨?_,?_⟩
  .unfold qgs at h1;split at h1
   .rename_i e;rw[e];rfl
   .rename_i e;rw[e];rfl
   .rename_i e;rw[e];rfl
   simp_all
  .unfold qe1 at h2;split at h2
   .rename_i e;rw[e];rfl
   simp_all
def qoQ{k:RK}(hb:qgs k=true):∃io,k = .op io/\∀{t:Tr AV} {sz fl:Nat} {tr:Tr Blk} {K:AV->Hp->Prop},opK orc io t ⟨sz,fl,tr⟩ K->
  ∃v x,K v ⟨sz+1,fl,tr.set sz x⟩/\∀fl2 tr2 (K2:AV->Hp->Prop),K2 v ⟨sz+1,fl2,tr2.set sz x⟩->opK orc io t ⟨sz,fl2,tr2⟩ K2:=by
 unfold qgs at hb;split at hb
 .rename_i z;refine⟨_,rfl,λ{t sz fl tr K} hk=>?_⟩
  have h1:=(z7 ⟨sz,fl,tr⟩ (.cells 0 true false z) (λb h'=>K (.ptr b 0) h')).1 hk
  exact⟨.ptr sz 0,_,h1,λfl2 tr2 K2 h2=>(z7 ⟨sz,fl2,tr2⟩ (.cells 0 true false z) (λb h'=>K2 (.ptr b 0) h')).2 h2⟩
 .rename_i n z ps;refine⟨_,rfl,λ{t sz fl tr K} hk=>?_⟩
  obtain⟨cs,h1,h2⟩:=qiJ z n _ hk;obtain⟨cs',h3,h4⟩:=qi5 t ps cs _ h1;have h5:=(z7 ⟨sz,fl,tr⟩ (.cells 0 true false cs') (λb h'=>K (.sl b 0 n n false) h')).1 h3
  refine⟨.sl sz 0 n n false,_,h5,λfl2 tr2 K2 h6=>?_⟩
  show qjD z n (λcs=>qah t ps cs (λcs=>jz ⟨sz,fl2,tr2⟩ (.cells 0 true false cs) (λb h'=>K2 (.sl b 0 n n false) h')))
  exact h2 _ (h4 _ ((z7 ⟨sz,fl2,tr2⟩ (.cells 0 true false cs') (λb h'=>K2 (.sl b 0 n n false) h')).2 h6))
 .rename_i e bytes z len cap;refine⟨_,rfl,λ{t sz fl tr K} hk=>?_⟩
  obtain⟨v1,a1,a2⟩:=qA t len _ hk;obtain⟨v2,a3,a4⟩:=qA t cap _ a1;obtain⟨l,a5,a6⟩:=qfy v1 _ a3;obtain⟨c,a7,a8⟩:=qfy v2 _ a5;obtain⟨b1,a9⟩:=(qd _ _).1 a7;obtain⟨b2,a10⟩:=(qd _ _).1 a9;obtain⟨b3,a11⟩:=(qd _ _).1 a10;obtain⟨cs,h1,h2⟩:=qiJ z c _ a11;have h5:=(z7 ⟨sz,fl,tr⟩ (.cells 0 true false cs) (λb h'=>K (.sl b 0 l c false) h')).1 h1
  refine⟨.sl sz 0 l c false,_,h5,λfl2 tr2 K2 h6=>?_⟩
  show evK t len (λlen=>evK t cap (λcap=>unN len (λl=>unN cap (λc=>qo (Nat.ble l c) (qo (Nat.ble c qf) (qo (Nat.ble (Nat.mul bytes c) qf) (qjD z c (λcs=>jz ⟨sz,fl2,tr2⟩ (.cells 0 true false cs) (λb h'=>K2 (.sl b 0 l c false) h')))))))))
  exact a2 _ (a4 _ (a6 _ (a8 _ ((qd _ _).2 ⟨b1,(qd _ _).2 ⟨b2,(qd _ _).2 ⟨b3,h2 _ ((z7 ⟨sz,fl2,tr2⟩ (.cells 0 true false cs) (λb h'=>K2 (.sl b 0 l c false) h')).2 h6)⟩⟩⟩))))
 simp_all
def qor{k:RK}{p:Nat}(hp:qe1 k=some p){C:zI}{t:Tr AV}{h:Hp}{K:AV->Hp->Prop}(hk:qiK orc true C k t h K):∃b o y u,t.get p=some (.ptr b o)/\K u (h.put b y):=by
 have st:∀{n:Nat} {v:O} {K:AV->Hp->Prop},opK orc (.store n (.t p) v) t h K->∃b o y u,t.get p=some (.ptr b o)/\K u (h.put b y):=by
  intro n v K hk;have hk':t.getK p (λq=>unP q (λb o=>evK t v (λv=>qo (qcR v) (qhO (cellsOf v) (λm=>qo (Nat.beq m n) (stK h b o (cellsOf v) (λh'=>K .undef h'))))))):=hk
  obtain⟨q,h0,h1⟩:=(Tr.getK_iff _ _ _).1 hk';cases q<;>try exact h1.elim
  rename_i b o;obtain⟨u,h4,_⟩:=qA t v _ h1;obtain⟨_,h5⟩:=(qd _ _).1 h4;have h6:=(wj _ _).1 h5;obtain⟨_,h7⟩:=(qd _ _).1 h6;obtain⟨e,w,a,cs,h8,h9⟩:=(zk h b (λe w a cs=>Bool.rec (motive:=λ_=>Prop) False (Bool.rec (motive:=λ_=>Prop) False (ju (cellsOf u) o cs (λcs'=>qdo h b (.cells e w a cs') (λh'=>K .undef h'))) (qF (cellsOf u))) w)).1 h7
  cases w
  .exact h9.elim
  .have h10:(Bool.rec (motive:=λ_=>Prop) False (ju (cellsOf u) o cs (λcs'=>qdo h b (.cells e true a cs') (λh'=>K .undef h'))) (qF (cellsOf u)):Prop):=h9
   cases hco:qF (cellsOf u)with
   | false=>rw[hco]at h10;exact h10.elim
   | true =>
    rw[hco]at h10;obtain⟨_,h11⟩:=(jL _ _ _ _).1 h10;obtain⟨_,h12⟩:=(qaC _ _ _ _).1 h11;exact by grind
 have hk2:=qki hk;unfold qe1 at hp;split at hp
 .cases hp;exact st hk2
 simp_all
def quj{C:zI}(hc:Canon orc C rs T H G V){m:Nat}{p:Nat}{z:List AV}(h:rs[m]?=some ⟨some p,.op (.alloc z),none⟩):V m = .ptr (H m).sz 0:=by
 obtain⟨g1,_,g3⟩:=hc.step m _ h;have g1:true=G m:=g1;rcases g3 with⟨_,g3⟩|⟨g3,_⟩
 .have hk2:=qki g3;cases hH:H m with
  | mk sz fl tr =>
   rw[hH]at hk2;have h1:=(z7 ⟨sz,fl,tr⟩ (.cells 0 true false z) (λb h'=>(λv h=>v=V m/\h=H (m+1)) (.ptr b 0) h')).1 hk2
   exact h1.1.symm
 simp_all
def qoa{S:Nat->Prop}(hWW:∀j1 j2,IsW rs j1->IsW rs j2->j1<j2->S j2->S j1):∀c,(∀j,IsW rs j->S j->j<c)->∃c',c'<=c/\∀j,IsW rs j->(S j↔j<c')
 | 0,h=>by simp_all
 | c+1,h=>by
  by_cases hc:IsW rs c/\S c
  .refine⟨c+1,zzL _,λj hj=>⟨λhs=>h j hj hs,λhs=>?_⟩⟩
   rcases Nat.lt_or_eq_of_le (Nat.lt_succ_iff.1 hs)with hlt|rfl
   .exact hWW j c hj hc.1 hlt hc.2
   .exact hc.2
  .obtain⟨c',h1,h2⟩:=qoa hWW c (λj hj hs=>by
    have:=h j hj hs
    grind)
   exact⟨c',Nat.le_succ_of_le h1,h2⟩

theorem Inv.step(horc:OrcOk P σ orc){C:zI}(hs:qdC P σ C){nt:Nat}{ops:Array Oper}(hrs:qdF P ops nt ops.toList rs=true)(hc:Canon orc C rs T H G V)(hf:∀j,j<rs.length->Fact rs H j)
  {Z0:Ren} {B:Nat->Prop} {w0:World} {ds:List Deferred} {S:Nat->Prop} {a:Act} {w:World} (I:Inv σ rs T H nt Z0 B w0 ds S a w Z) {i:Nat} {r:ROp} (hr:rs[i]?=some r) (hS:¬S i)
  (hD:∀x,x ∈ x9 r->∀k,IsD rs k x->k≠i->(S k↔k<i)) (hW:qbR r.k=false->∀k q,rs[k]?=some q->wr q.k=true->k≠i->¬(i<k/\exc r q=true)->(S k↔k<i)) (hWx:wr r.k=true->∀k q,rs[k]?=some q->qbR q.k=false->k≠i->¬(k<i/\exc q r=true)->(S k↔k<i))
  (hWW:∀j1 j2,IsW rs j1->IsW rs j2->j1<j2->S j2->S j1) (hSt:∀j q p,rs[j]?=some q->i<j->qbD r q=true->qw0 r.k=some p->∀k,i<=k->k<j->¬IsD rs k p) (hSb:∀j q p,rs[j]?=some q->i<j->qlz r q=true->qe1 q.k=some p->(∀k,i<=k->k<j->¬IsD rs k p)\/∃m z,i<m/\m<j/\rs[m]?=some ⟨some p,.op (.alloc z),none⟩/\∀k,m<k->k<j->¬IsD rs k p) (hPt:∀p b o,(T i).get p=some (.ptr b o)->b<(H i).sz) (hV:∀j q d,rs[j]?=some q->q.dst=some d->qGj σ (V j) (H (j+1)).sz)
  (K:Act->World->Prop) (Q:Exit->Act->World->Prop) {ro:Option Nat} (hK:∀a' w' Z',Inv σ rs T H nt Z0 B w0 ds (λj=>S j\/j=i) a' w' Z'->K a' w'):wpOpIn (Fr ro) 0 P ops Q i K a w:=by
 obtain⟨hlen,hget⟩:=qhv hrs;have hi:i<rs.length:=(zzS.1 hr).1;have ho:ops[i]?=some (ops[i]'(by simp at hlen;omega)):=Array.getElem?_eq_getElem (by simp at hlen;omega);generalize ops[i]'(by simp at hlen;omega)=o at ho;have hchk:=hget i o r (by simpa using ho) hr;simp only[qqB,zzB]at hchk;obtain⟨⟨hc1,hc2⟩,hc3⟩:=hchk;obtain⟨g1,g2,g3⟩:=hc.step i r hr
 -- the temporaries that it names
 have hself:∀x ∈ x9 r,∀k,IsD rs k x->(S k↔k<i):=by
  intro x hx k hk
  by_cases hki:k=i
  .subst hki;exact⟨λh=>absurd h hS,λh=>absurd h (Nat.lt_irrefl _)⟩
  .exact hD x hx k hk hki
 have ht:TR σ (cut Z (H i).sz) (only (T i) (x9 r)) a.tmps:=by
  intro n v hv;rw[qhd]at hv;split at hv
  .exact I.tmps n i v (by omega) (hself n (by assumption)) hv
  .cases hv
 have hsame:qiP (T i) (only (T i) (x9 r)) (x9 r):=λn hn=>by rw[qhd,if_pos hn]
 have hsk:qiP (T i) (only (T i) (x9 r)) (qfO (qey r.k)):=hsame.sub λn hn=>by simp[x9,hn]
 have hgo:G i=Region.wanted o (yielded ops a.tmps):=by
  have e:=qpk (g:=r.guard) (hsame.sub (λn hn=>by simp only[x9,List.mem_append];exact .inl (.inr hn)))
  rw[<- e]at g1;exact(qpm (ops:=ops) (o:=o) ht hc2 g1).symm
 have hDd:∀x,r.dst=some x->∀k,IsD rs k x->k≠i->(S k↔k<i):=λx hx=>hD x (by simp[x9,hx])
 have hmonoc:∀{m n:Nat},m<=n->n<=rs.length->(cut Z (H m).sz).le (cut Z (H n).sz):=by
  intro m n hmn hn;have hs:=zD hf hmn hn;refine⟨λb L hb=>?_,λ_ _ h=>h,?_⟩
  .obtain⟨h1,h2⟩:=xY hb;rw[xP (Nat.lt_of_lt_of_le h1 hs)];exact h2
  .show min Z.n (H m).sz<=min Z.n (H n).sz;omega
 -- which phases there are behind it,where it is no writer
 have phase:∀c,c<=rs.length->wr r.k=false->(∀j,IsW rs j->(S j\/j=i↔j<c))->∀j,IsW rs j->(S j↔j<c):=by
  intro c _ hwr h j hj;have hne:j≠i:=by rintro rfl;obtain⟨q,h1,h2⟩:=hj;rw[hr]at h1;cases h1;rw[hwr]at h2;cases h2
  have:=h j hj;constructor
  .intro h';exact this.1 (.inl h')
  .intro h';rcases this.2 h' with h'|h'
   .exact h'
   .exact absurd h' hne
 -- a writer: every phase behind it holds what it left
 have writer:wr r.k=true->∀{Z2:Ren} {w2:World},Rel σ Z2 B (H (i+1)) w2->(∀b L,Z2 b=some L->b<(H (i+1)).sz)->∀c,c<=rs.length->(∀j,IsW rs j->(S j\/j=i↔j<c))->Rel σ Z2 B (H c) w2:=by
  intro hwr Z2 w2 r2 _ c hcl hph;have hic:i+1<=c:=(hph i ⟨r,hr,hwr⟩).1 (.inr rfl);refine r2.longer (zD hf hic hcl) (qpc hf hic hcl) (λb hb=>qn0 hf hic hcl (λk h1 h2 q hq=>?_) b hb)
  cases hwk:wr q.k with
  | false=>rfl
  | true =>
   have hW':=hWx hwr k q hq (qBI hwk) (by omega) (λh=>by have:=(qkZ h.2).1;rw[hwk]at this;cases this)
   rcases(hph k ⟨q,hq,hwk⟩).2 h2 with h3|h3
   .have:=hW'.1 h3;omega
   .omega
 unfold wpOpIn;simp only[ho];rw[<- hgo];rcases g3 with⟨hG,g3⟩|⟨hG,g3,g4⟩
 .rw[hG];simp only[if_true];have g3:=qki g3;rw[<- qt0 hsk]at g3;have hc3:=qsW hc3;cases hwr:wr r.k with
  | true =>
   -- a writer
   have hnp:qbR r.k=false:=by
    cases hk:r.k<;>rw[hk]at hwr<;>first|rfl|skip
    rename_i o1;cases o1<;>first|rfl|(simp[wr]at hwr)
   have g3':qcJ orc C (qey r.k) (only (T i) (x9 r)) (H i) (λv h=>v=V i/\h=H (i+1)):=by
    rcases(qe8 _ _ _).1 g3 with⟨_,h⟩|⟨h,_⟩
    .exact h
    .simp[qqk,hwr]at h
   have hph:∀j,IsW rs j->(S j↔j<i):=by
    intro j hj
    by_cases hji:j=i
    .subst hji;exact⟨λh=>absurd h hS,λh=>absurd h (Nat.lt_irrefl _)⟩
    .obtain⟨q,hq,hwq⟩:=hj;exact hW hnp j q hq hwq hji (λh=>by have:=(qkZ h.2).1;rw[hwr]at this;cases this)
   have ri:=I.rels i (by omega) hph;refine qhH horc hs ri ht hc3 g3' _ _ ?_;rintro v v' h' Z1 w' ⟨rfl,rfl⟩ q1 q2 q3
   -- nothing behind it was done: so nothing else is mapped
   have hnone:∀b L,Z b=some L->b<(H i).sz:=by
    intro b L hb;rcases I.dom b L hb with h|⟨j,h1,h2,h3,h4⟩
    .exact Nat.lt_of_lt_of_le h (zD hf (Nat.zero_le _) (by omega))
    .have hjl:=I.lt j h1;have hq:rs[j]?=some rs[j]:=zzE hjl;have hji:j≠i:=by rintro rfl;exact hS h1
     have:j<i:=by
      by_cases hx:j<i/\exc rs[j] r=true
      .exact hx.1
      .exact (hWx hwr j _ hq (h2 _ hq) hji hx).1 h1
     exact Nat.lt_of_lt_of_le h4 (zD hf this (by omega))
   have hZ1:∀b L,Z b=some L->Z1 b=some L:=by
    intro b L hb;have hlt:=hnone b L hb;rw[q3.ext b hlt,xP hlt];exact hb
   have hbig:=I.big
   have hcut:∀c,i+1<=c->c<=rs.length->cut (Z1.bump Z.n) (H c).sz=Z1.bump (H c).sz:=by
    intro c h1 h2;have hs1:=zD hf h1 h2;have hs2:=zD hf h2 (zzL _);have hdn:=q2.dn.1;simp only[cut,Ren.bump]
    congr 1
    .funext b;cases hb:Z1 b with
     | none=>simp
     | some L=>rw[if_pos (Nat.lt_of_lt_of_le (q2.dom b L hb) hs1)]
    .omega
   refine hK _ w' (Z1.bump Z.n) (Inv.next hc hf I hr hS hc1 hDd ?_ hZ1 ?_ q3.frz q3.fnew (Nat.le_trans hbig (Nat.le_max_right _ _)) ?_ ?_ q3.pres q3.wle q3.io)
   .rw[hcut (i+1) (zzL _) hi];exact q1.mono (Z1.bump_le _)
   .intro b hb;have hlt:=Nat.lt_of_lt_of_le hb (zD hf (Nat.zero_le i) (by omega));show Z1 b=Z b;rw[q3.ext b hlt,xP hlt]
   .intro b L hb;have hb:Z1 b=some L:=hb
    by_cases hlt:b<(H i).sz
    .left;rw[q3.ext b hlt,xP hlt]at hb;exact hb
    .right;exact⟨λq hq=>by rw[hr]at hq;cases hq;exact hnp,Nat.le_of_not_lt hlt,q2.dom b L hb,q2.dn.2 b L hb⟩
   .intro c hcl hph';have hic:i+1<=c:=(hph' i ⟨r,hr,hwr⟩).1 (.inr rfl);rw[hcut c hic hcl];exact(writer hwr q2 q2.dom c hcl hph').bump (zzL _)
  | false =>
   have g3':qhh (qcJ orc C (qey r.k) (only (T i) (x9 r))) (H i) (λv h=>v=V i/\h=H (i+1)):=by
    rcases(qe8 _ _ _).1 g3 with⟨h,_⟩|⟨_,h⟩
    .simp[qqk,hwr]at h
    .exact h
   cases hpure:qbR r.k with
   | true =>
    -- nothing to do with memory
    obtain⟨io,hio⟩:∃io,qey r.k = .op io:=by
     rw[<- ql6]at hpure;cases hk:qey r.k with
     | op io=>exact⟨io,rfl⟩
     | callF=>rw[hk]at hpure;simp[qbR]at hpure
     | callV=>rw[hk]at hpure;simp[qbR]at hpure
     | callW=>rw[hk]at hpure;simp[qbR]at hpure
     | callVW=>rw[hk]at hpure;simp[qbR]at hpure
    have hpure:qbR (qey r.k)=true:=by rw[ql6];exact hpure
    rw[hio]at g3' hpure hc3
    obtain⟨v,hv1,hv2,hv3⟩:∃v,v=V i/\H i=H (i+1)/\∀h2 (k2:AV->Hp->Prop),k2 v h2->opK orc io (only (T i) (x9 r)) h2 k2:=by
     cases hHi:H i with
     | mk sz fl tr =>
      rw[hHi]at g3';have g4:opK orc io (only (T i) (x9 r)) ⟨sz,sz,tr⟩ (λv h'=>Hp.rec (motive:=λ_=>Prop) (λsz' _ tr'=>v=V i/\(⟨sz',fl,tr'⟩:Hp)=H (i+1)) h'):=g3'
      obtain⟨v,h1,h2⟩:=qAd hpure g4;exact⟨v,h1.1,h1.2,h2⟩
    subst hv1
    have rr0:Rel σ (cut Z (H i).sz) (low w.heap.size) ⟨(H i).sz,(H i).sz,.leaf⟩ w:=by
     obtain⟨c,hcl,hcph⟩:=qoa hWW rs.length (λj _ hs=>I.lt j hs)
     have rc:=I.rels c hcl hcph;refine⟨λb L hb=>(xY hb).1,?_,?_,?_,?_,?_,λb L hb hh=>absurd (xY hb).1 (Nat.not_lt_of_le hh),λ_ h=>h,λk arr hk=>⟨(rc.frz k arr hk).1,λb L x _ hx=>by simp at hx⟩,⟨Nat.min_le_right _ _,λb L h=>I.wlt b L (xY h).2⟩⟩
     .intro b L e wf af cs _ hx;simp at hx
     .intro b L es _ hx;simp at hx
     .intro b L e af cs _ hx;simp at hx
     .intro b L es _ hx;simp at hx
     .intro b L e wf cs _ hx;simp at hx
    refine qhH (rk:=.op io) (k:=λv' h'=>v'=V i/\h'=⟨(H i).sz,(H i).sz,.leaf⟩) horc hs rr0 ht hc3 (by unfold qcJ;exact hv3 _ _ ⟨rfl,rfl⟩) _ _ ?_
    rintro v v' h' Z1 w' ⟨rfl,rfl⟩ q1 q2 q3;have hbig:=I.big;have hsi:=zD hf (i:=i) (j:=rs.length) (by omega) (zzL _)
    have e1:Z1.le (cut ⟨Z.loc,Z1.frz,Z.n⟩ (H i).sz):=by
     refine⟨λb L hb=>?_,λ_ _ h=>h,?_⟩
     .have hlt:b<(H i).sz:=q2.dom b L hb;rw[q3.ext b hlt]at hb;exact hb
     .have hdn:Z1.n<=(H i).sz:=q2.dn.1;show Z1.n<=min Z.n (H i).sz;omega
    refine hK _ w' ⟨Z.loc,Z1.frz,Z.n⟩ (Inv.next hc hf I hr hS hc1 hDd ?_ (λ_ _ h=>h) (λ_ _=>rfl) q3.frz (λk a h=>(q3.fnew k a h).imp id (λhh=>qaA I.base (Nat.not_lt.1 hh))) hbig (λ_ _ h=>.inl h) ?_ (λk hk=>q3.pres k (I.base _ hk)) q3.wle q3.io)
    .rw[<- hv2];exact q1.mono e1
    .intro c hcl hph;exact(I.rels c hcl (phase c hcl hwr hph)).frz' q3.pres q3.wle q3.frz (λk a h=>(q3.fnew k a h).imp id Nat.not_lt.1) (λk a h=>(q2.frz k a h).1)
   | false =>
    -- reads,calls,new memory
    by_cases hx:∃k q,rs[k]?=some q/\S k/\i<k/\qbD r q=true
    .-- a place is read that was not written by what is done already
     obtain⟨k0,q0,hq0,hS0,hik0,hex0⟩:=hx;obtain⟨_,hw0,p,d,io,hio,hdst,hload,_⟩:=qee hex0;obtain⟨c,hcl,hcph⟩:=qoa hWW rs.length (λj _ hs=>I.lt j hs)
     have hic:i<c:=by
      have:=(hcph k0 ⟨q0,hq0,hw0⟩).1 hS0;omega
     have hpn:p ∈ x9 r:=by
      simp only[x9,List.mem_append];right;rw[hio];rcases hload with rfl|⟨n,rfl⟩<;>simp[qey,qfO,qz,xm]
     have hpl:qey r.k = .op io:=by rw[hio];rcases hload with rfl|⟨n,rfl⟩<;>rfl
     have hpt:qw0 r.k=some p:=by rw[hio];rcases hload with rfl|⟨n,rfl⟩<;>rfl
     rw[hpl]at g3' hc3;have ri:=I.rels c hcl hcph
     have hraise:qhh (qcJ orc C (.op io) (only (T i) (x9 r))) (H c) (λv h=>v=V i/\h=H c):=by
      have hcase:(∃b' o' x,(only (T i) (x9 r)).get p=some (.ptr b' o')/\(H i).tr.get b'=some x/\∀h2 (K2:AV->Hp->Prop),h2.tr.get b'=some x->K2 (V i) h2->opK orc io (only (T i) (x9 r)) h2 K2)\/(∀h2 (K2:AV->Hp->Prop),K2 (V i) h2->opK orc io (only (T i) (x9 r)) h2 K2):=by
       cases hHi:H i with
       | mk sz fl tr =>
        rw[hHi]at g3';have g4:opK orc io (only (T i) (x9 r)) ⟨sz,sz,tr⟩ (λv h'=>Hp.rec (motive:=λ_=>Prop) (λsz' _ tr'=>v=V i/\(⟨sz',fl,tr'⟩:Hp)=H (i+1)) h'):=g3'
        rcases qqN hload g4 with⟨b,o,x,v,h1,h2,h3,h4⟩|⟨v,h3,h4⟩
        .obtain⟨rfl,h6⟩:=h3;exact .inl ⟨b,o,x,h1,h2,h4⟩
        .obtain⟨rfl,h6⟩:=h3;exact .inr h4
      rcases hcase with⟨b',o',x,hp,hb',hrun⟩|hrun
      .have hTp:(T i).get p=some (.ptr b' o'):=by rw[qhd,if_pos hpn]at hp;exact hp
       have hbl:b'<(H i).sz:=by
        obtain⟨_,hvr⟩:=ht p _ hp;obtain⟨L,h1,_⟩:=hvr.un_ptr;exact(xY h1).1
       have hkeepD:∀j,i<=j->j<=c->(H j).tr.get b'=(H i).tr.get b':=by
        intro j
        induction j with
        | zero => intro h1 _;obtain rfl:i=0:=by omega
                  rfl
        | succ j ihj =>
         intro h1 h2;rcases Nat.lt_or_eq_of_le h1 with h1|h1
         .have hij:i<=j:=by omega
          rw[<- ihj hij (by omega)];have hjl:j<rs.length:=by omega
          have hq:rs[j]?=some rs[j]:=zzE hjl;generalize rs[j]=q at hq;have hbj:b'<(H j).sz:=Nat.lt_of_lt_of_le hbl (zD hf hij (by omega));cases hwq:wr q.k with
          | false=>exact(hf j hjl).keep (λq' hq'=>by rw[hq]at hq';cases hq';exact hwq) b' hbj
          | true =>
           have hSj:S j:=(hcph j ⟨q,hq,hwq⟩).2 (by omega);have hne:j≠i:=by rintro rfl;exact hS hSj
           have hnb:qlz r q=false:=by
            unfold qlz;rw[hio];rcases hload with rfl|⟨n,rfl⟩<;>rfl
           have hex:qbD r q=true:=by
            cases he:qbD r q with
            | true=>rfl
            | false =>
             have:=(hW hpure j q hq hwq hne (λh=>by have:=h.2;unfold exc at this;rw[he,hnb]at this;cases this)).1 hSj
             omega
           obtain⟨_,_,p2,d2,io2,hio2,_,hload2,ps,hqk,hps⟩:=qee hex
           have hpp:p2=p:=by
            rw[hio]at hio2;cases hio2;rcases hload with rfl|⟨m,rfl⟩<;>rcases hload2 with h|⟨m2,h⟩<;>cases h<;>rfl
           subst hpp
           have hTj:(T j).get p2=some (.ptr b' o'):=by
            rw[<- hTp];exact qiQ hc hij (by omega) (λk hk1 hk2=>hSt j q p2 hq (by omega) hex hpt k hk1 hk2)
           obtain⟨_,_,gj⟩:=hc.step j q hq;rcases gj with⟨_,gj⟩|⟨_,_,gj⟩
           .have gj':∃u h',(∀q ∈ ps,∀b' o',(T j).get q=some (.ptr b' o')->b'<(H j).sz->h'.tr.get b'=(H j).tr.get b')/\u=V j/\h'=H (j+1):=by
             rcases hqk with⟨n,xx,vv,hqk⟩|⟨e,y,xx,vv,hqk⟩
             .rw[hqk]at gj;exact qmD (orc:=orc) gj
             .rw[hqk]at gj;exact qqq (orc:=orc) gj
            obtain⟨u,h',f1,_,f3⟩:=gj';rw[<- f3];exact f1 p2 hps b' o' hTj hbj
           .rw[gj]
         .rw[<- h1]
       have hHc:(H c).tr.get b'=some x:=(hkeepD c (by omega) (zzL _)).trans hb';cases hHcc:H c with
       | mk sz fl tr =>
        rw[hHcc]at hHc;exact hrun ⟨sz,sz,tr⟩ (λv h'=>Hp.rec (motive:=λ_=>Prop) (λsz' _ tr'=>v=V i/\(⟨sz',fl,tr'⟩:Hp)=⟨sz,fl,tr⟩) h') hHc ⟨rfl,rfl⟩
      .cases hHcc:H c with
       | mk sz fl tr =>
        exact hrun ⟨sz,sz,tr⟩ (λv h'=>Hp.rec (motive:=λ_=>Prop) (λsz' _ tr'=>v=V i/\(⟨sz',fl,tr'⟩:Hp)=⟨sz,fl,tr⟩) h') ⟨rfl,rfl⟩
     refine qjC horc hs ri (ht.mono (hmonoc (Nat.le_of_lt hic) hcl)) hc3 hraise _ _ ?_;rintro v v' h' Z1 w' ⟨rfl,rfl⟩ q1 q2 q3 q4 q5 q6 q7;have hbig:=I.big
     have e1:Z1.le ⟨Z.loc,Z1.frz,Z.n⟩:=by
      refine⟨λb L hb=>?_,λ_ _ h=>h,?_⟩
      .have hlt:b<(H c).sz:=q2.dom b L hb;rw[q3.ext b hlt]at hb;exact(xY hb).2
      .have hdn:=q2.dn.1;have:=zD hf hcl (zzL _);show Z1.n<=Z.n;omega
     obtain⟨Zs,vs,hsm1,hsm2,hsm3⟩:=hV i r d hr hdst;refine hK _ w' ⟨Z.loc,Z1.frz,Z.n⟩ (Inv.next hc hf I hr hS hc1 hDd (VR.small hsm2 hsm3 hsm1 (q1.mono e1)) (λ_ _ h=>h) (λ_ _=>rfl) q3.frz q3.fnew hbig (λ_ _ h=>.inl h) ?_ (λk hk=>q5 k (I.base _ hk)) q3.wle q3.io)
     intro c' hcl' hph';exact(I.rels c' hcl' (phase c' hcl' hwr hph')).frz' q5 q3.wle q3.frz q7 (λk a h=>(q2.frz k a h).1)
    by_cases hx2:∃k q,rs[k]?=some q/\S k/\i<k/\qlz r q=true
    .-- new memory,and a store behind it is done
     obtain⟨k0,q0,hq0,hS0,hik0,hex0⟩:=hx2
     have hbl:qgs r.k=true:=by
      exact(qlA hex0).1
     have hw0:wr q0.k=true:=(qkZ (show exc r q0=true by unfold exc;rw[hex0,Bool.or_true])).2
     obtain⟨io,hio,hblind⟩:=qoQ (orc:=orc) hbl
     have hpl:qey r.k = .op io:=by
      unfold qgs at hbl;split at hbl
      .rename_i e;rw[hio]at e;cases e;rw[hio];rfl
      .rename_i e;rw[hio]at e;cases e;rw[hio];rfl
      .rename_i e;rw[hio]at e;cases e;rw[hio];rfl
      .cases hbl
     rw[hpl]at g3' hc3
     obtain⟨v,x,hv1,hv2,hrun⟩:∃v x,v=V i/\H (i+1)=⟨(H i).sz+1,(H i).fl,(H i).tr.set (H i).sz x⟩/\∀fl2 tr2 (K2:AV->Hp->Prop),K2 v ⟨(H i).sz+1,fl2,tr2.set (H i).sz x⟩->opK orc io (only (T i) (x9 r)) ⟨(H i).sz,fl2,tr2⟩ K2:=by
      cases hHi:H i with
      | mk sz fl tr =>
       rw[hHi]at g3';have g4:opK orc io (only (T i) (x9 r)) ⟨sz,sz,tr⟩ (λv h'=>Hp.rec (motive:=λ_=>Prop) (λsz' _ tr'=>v=V i/\(⟨sz',fl,tr'⟩:Hp)=H (i+1)) h'):=g3'
       obtain⟨v,x,h1,h2⟩:=hblind g4;exact⟨v,x,h1.1,h1.2.symm,h2⟩
     subst hv1
     have rr0:Rel σ (cut Z (H i).sz) (low w.heap.size) ⟨(H i).sz,(H i).sz,.leaf⟩ w:=by
      obtain⟨c,hcl,hcph⟩:=qoa hWW rs.length (λj _ hs=>I.lt j hs)
      have rc:=I.rels c hcl hcph;refine⟨λb L hb=>(xY hb).1,?_,?_,?_,?_,?_,λb L hb hh=>absurd (xY hb).1 (Nat.not_lt_of_le hh),λ_ h=>h,λk arr hk=>⟨(rc.frz k arr hk).1,λb L x _ hx=>by simp at hx⟩,⟨Nat.min_le_right _ _,λb L h=>I.wlt b L (xY h).2⟩⟩
      .intro b L e wf af cs _ hx;simp at hx
      .intro b L es _ hx;simp at hx
      .intro b L e af cs _ hx;simp at hx
      .intro b L es _ hx;simp at hx
      .intro b L e wf cs _ hx;simp at hx
     refine qhH (rk:=.op io) (k:=λv' h'=>v'=V i/\h'=⟨(H i).sz+1,(H i).sz,Tr.leaf.set (H i).sz x⟩) horc hs rr0 ht hc3 (by unfold qcJ;exact hrun _ _ _ ⟨rfl,rfl⟩) _ _ ?_
     rintro v v' h' Z1 w' ⟨rfl,rfl⟩ q1 q2 q3;have hbig:=I.big;have hsi:=zD hf (i:=i+1) (j:=rs.length) hi (zzL _);have hs1:(H (i+1)).sz=(H i).sz+1:=by rw[hv2]
     have hfree:∀b L,Z b=some L->b≠(H i).sz:=by
      rintro b L hb rfl;rcases I.dom _ L hb with h|⟨j,h3,_,h4,h5⟩
      .have:=zD hf (Nat.zero_le i) (by omega);omega
      .have hjl:=I.lt j h3;rcases Nat.lt_trichotomy j i with h|h|h
       .have:=zD hf (i:=j+1) (j:=i) h (by omega);omega
       .subst h;exact hS h3
       .have:=zD hf (i:=i+1) (j:=j) h (by omega);omega
     let Zn:Ren:=⟨λb=>if b=(H i).sz then Z1 b else Z b,Z1.frz,Z.n⟩
     have hZn:∀b L,Z b=some L->Zn b=some L:=by
      intro b L hb;simp only[Zn];rw[if_neg (hfree b L hb)];exact hb
     have hZ1n:∀c,i+1<=c->c<=rs.length->∀b L,Z1 b=some L->cut Zn (H c).sz b=some L:=by
      intro c h1 h2 b L hb;have hlt:b<(H i).sz+1:=q2.dom b L hb;have:=zD hf h1 h2;rw[xP (by omega)];simp only[Zn]
      by_cases h3:b=(H i).sz
      .rw[if_pos h3];exact hb
      .have hlt2:b<(H i).sz:=by omega
       rw[if_neg h3];rw[q3.ext b hlt2,xP hlt2]at hb;exact hb
     have hZ1l:∀c,i+1<=c->c<=rs.length->Z1.le (cut Zn (H c).sz):=by
      intro c h1 h2;refine⟨hZ1n c h1 h2,λ_ _ h=>h,?_⟩
      have hdn:Z1.n<=(H i).sz+1:=q2.dn.1;have:=zD hf h1 h2;have:=zD hf h2 (zzL _);show Z1.n<=min Z.n (H c).sz;omega
     refine hK _ w' Zn (Inv.next hc hf I hr hS hc1 hDd (q1.mono (hZ1l (i+1) (zzL _) hi)) hZn ?_ q3.frz (λk a h=>(q3.fnew k a h).imp id (λhh=>qaA I.base (Nat.not_lt.1 hh))) hbig ?_ ?_ (λk hk=>q3.pres k (I.base _ hk)) q3.wle q3.io)
     .intro b hb;have:=zD hf (Nat.zero_le i) (by omega);simp only[Zn];rw[if_neg (by omega)]
     .intro b L hb;simp only[Zn]at hb;split at hb
      .rename_i h;exact .inr ⟨λq hq=>by rw[hr]at hq;cases hq;exact hpure,by omega,by omega,q2.dn.2 b L hb⟩
      .exact .inl hb
     .intro c hcl hph';have hph0:=phase c hcl hwr hph';have rc:=I.rels c hcl hph0
      have hic:i<c:=by
       have:=(hph0 k0 ⟨q0,hq0,hw0⟩).1 hS0;omega
      have hcont:∀j,i+1<=j->j<=c->(H j).tr.get (H i).sz=some x:=by
       intro j
       induction j with
       | zero=>intro h1;omega
       | succ j ihj =>
        intro h1 h2;rcases Nat.lt_or_eq_of_le h1 with h1|h1
        .have hij:i+1<=j:=by omega
         have hprev:=ihj hij (by omega);have hjl:j<rs.length:=by omega
         have hq:rs[j]?=some rs[j]:=zzE hjl;generalize rs[j]=q at hq;have hbj:(H i).sz<(H j).sz:=by have:=zD hf hij (by omega);omega
         cases hwq:wr q.k with
         | false=>rw[(hf j hjl).keep (λq' hq'=>by rw[hq]at hq';cases hq';exact hwq) _ hbj];exact hprev
         | true =>
          have hSj:S j:=(hph0 j ⟨q,hq,hwq⟩).2 (by omega);have hne:j≠i:=by omega
          have hnx:qbD r q=false:=by
           cases he:qbD r q with
           | false=>rfl
           | true =>
            obtain⟨_,_,p,d,io2,hio2,_,hload,_⟩:=qee he;rw[hio]at hio2;cases hio2;unfold qgs at hbl;rw[hio]at hbl;rcases hload with rfl|⟨n,rfl⟩<;>cases hbl
          have hex:qlz r q=true:=by
           cases he:qlz r q with
           | true=>rfl
           | false =>
            have:=(hW hpure j q hq hwq hne (λh=>by have:=h.2;unfold exc at this;rw[he,hnx]at this;cases this)).1 hSj
            omega
          obtain⟨p,hp⟩:∃p,qe1 q.k=some p:=by
           exact Option.isSome_iff_exists.1 (qlA hex).2
          obtain⟨_,_,gj⟩:=hc.step j q hq;rcases gj with⟨_,gj⟩|⟨_,_,gj⟩
          .obtain⟨b',o',y,u,f1,f2,f3⟩:=qor (orc:=orc) hp gj
           have hne2:b'≠(H i).sz:=by
            rcases hSb j q p hq (by omega) hex hp with hSb|⟨m,z,m1,m2,m3,m4⟩
            .have hTi:(T i).get p=some (.ptr b' o'):=by
              rw[<- f1];exact(qiQ hc (by omega) (by omega) (λk hk1 hk2=>hSb k hk1 hk2)).symm
             have hlt:=hPt p b' o' hTi;omega
            .have hTm:(T (m+1)).get p=some (.ptr b' o'):=by
              rw[<- f1];exact(qiQ hc (by omega) (by omega) (λk hk1 hk2=>m4 k (by omega) hk2)).symm
             rw[qnF hc m3,if_pos rfl]at hTm;have hVm:=quj hc m3;rw[hVm]at hTm;have hb':(H m).sz=b':=by injection hTm with e;injection e
             have:=zD hf (i:=i+1) (j:=m) (by omega) (by omega);rw[hv2]at this;have:(H i).sz+1<=(H m).sz:=this;omega
           rw[<- f3];simp only[Hp.put,Tr.get_set];rw[if_neg (by omega)];exact hprev
          .rw[gj];exact hprev
        .rw[<- h1,hv2];simp[Tr.get_set]
      have hnb:=hcont c hic (zzL _);have hsc:=zD hf hcl (zzL _);have hs2:=zD hf (i:=i+1) (j:=c) hic hcl;have hfn:∀k a,Z1.frz k=some a->Z.frz k=some a\/w.heap.size<=k:=λk a h=>(q3.fnew k a h).imp id Nat.not_lt.1
      refine Rel.join2 (nb:=(H i).sz) rc q2 (λn hn=>q3.pres n hn) q3.wle (by omega) (by rw[hnb];simp[Tr.get_set]) ?_ (hZ1n c hic hcl) q3.frz rfl (zzL _) (hZ1l c hic hcl).2.2 (Nat.min_le_right _ _) hfn ?_
      .intro b L hb;obtain⟨h1,h2⟩:=xY hb;rw[xP h1];exact hZn b L h2
      .intro b L hb;obtain⟨h1,h2⟩:=xY hb;simp only[Zn]at h2;split at h2
       .rename_i h;exact .inr ⟨h,h2,Nat.not_lt.1 (q2.flr b L h2 (by show(H i).sz<=b;omega))⟩
       .left;rw[xP h1];exact h2
    have hph:∀j,IsW rs j->(S j↔j<i):=by
     intro j hj
     by_cases hji:j=i
     .subst hji;obtain⟨q,h1,h2⟩:=hj;rw[hr]at h1;cases h1;rw[hwr]at h2;cases h2
     .obtain⟨q,hq,hwq⟩:=hj
      by_cases he:i<j/\exc r q=true
      .refine⟨λh=>?_,λh=>by omega⟩
       have he2:=he.2;unfold exc at he2;rcases(zzO _ _ ▸ he2:qbD r q=true\/qlz r q=true)with he2|he2
       .exact absurd ⟨j,q,hq,h,he.1,he2⟩ hx
       .exact absurd ⟨j,q,hq,h,he.1,he2⟩ hx2
      .exact hW hpure j q hq hwq hji he
    have ri:=I.rels i (by omega) hph;refine qjC horc hs ri ht hc3 g3' _ _ ?_;rintro v v' h' Z1 w' ⟨rfl,rfl⟩ q1 q2 q3 q4 q5 q6 q7;have hbig:=I.big
    -- the new map
    let Zn:Ren:=⟨λb=>if(H i).sz<=b/\b<(H (i+1)).sz then Z1 b else Z b,Z1.frz,Z.n⟩
    have hfree:∀b L,Z b=some L->¬((H i).sz<=b/\b<(H (i+1)).sz):=by
     rintro b L hb ⟨h1,h2⟩;rcases I.dom b L hb with h|⟨j,h3,_,h4,h5⟩
     .have:=zD hf (Nat.zero_le i) (by omega);omega
     .have hjl:=I.lt j h3;rcases Nat.lt_trichotomy j i with h|h|h
      .have:=zD hf (i:=j+1) (j:=i) h (by omega);omega
      .subst h;exact hS h3
      .have:=zD hf (i:=i+1) (j:=j) h (by omega);omega
    have hZn:∀b L,Z b=some L->Zn b=some L:=by
     intro b L hb;simp only[Zn];rw[if_neg (hfree b L hb)];exact hb
    have hZ1n:∀c,i+1<=c->c<=rs.length->∀b L,Z1 b=some L->cut Zn (H c).sz b=some L:=by
     intro c h1 h2 b L hb;have hlt:=q2.dom b L hb;rw[xP (Nat.lt_of_lt_of_le hlt (zD hf h1 h2))];simp only[Zn]
     by_cases h3:(H i).sz<=b
     .rw[if_pos ⟨h3,hlt⟩];exact hb
     .rw[if_neg (λh=>h3 h.1)]
      rw[q3.ext b (Nat.lt_of_not_le h3),xP (Nat.lt_of_not_le h3)]at hb;exact hb
    have hZ1l:∀c,i+1<=c->c<=rs.length->Z1.le (cut Zn (H c).sz):=by
     intro c h1 h2;refine⟨hZ1n c h1 h2,λ_ _ h=>h,?_⟩
     have hdn:=q2.dn.1;have:=zD hf h1 h2;have:=zD hf h2 (zzL _);show Z1.n<=min Z.n (H c).sz;omega
    refine hK _ w' Zn (Inv.next hc hf I hr hS hc1 hDd ?_ hZn ?_ q3.frz q3.fnew hbig ?_ ?_ q3.pres q3.wle q3.io)
    .exact q1.mono (hZ1l (i+1) (zzL _) hi)
    .intro b hb;have:=zD hf (Nat.zero_le i) (by omega);simp only[Zn];rw[if_neg (λh=>by omega)]
    .intro b L hb;simp only[Zn]at hb;split at hb
     .rename_i h;exact .inr ⟨λq hq=>by rw[hr]at hq;cases hq;exact hpure,h.1,h.2,q2.dn.2 b L hb⟩
     .exact .inl hb
    .intro c hcl hph';have hph0:=phase c hcl hwr hph';have rc:=I.rels c hcl hph0
     by_cases hci:c<=i
     .have e:cut Zn (H c).sz=⟨(cut Z (H c).sz).loc,Z1.frz,(cut Z (H c).sz).n⟩:=by
       simp only[cut,Zn]
       congr 1
       funext b;split
       .have:=zD hf hci (by omega);rw[if_neg (λh=>by omega)]
       .rfl
      rw[e];exact rc.frz' q5 q3.wle q3.frz q7 (λk a h=>(q2.frz k a h).1)
     .have hic:i+1<=c:=by omega
      have hkeep:∀b,b<(H (i+1)).sz->(H c).tr.get b=(H (i+1)).tr.get b:=λb hb=>qn0 hf hic hcl (λk h1 h2 q hq=>by
       cases hwk:wr q.k with
       | false=>rfl
       | true =>
        have h3:=(hph0 k ⟨q,hq,hwk⟩).2 h2;have:=(hph k ⟨q,hq,hwk⟩).1 h3;omega) b hb
      have hsc:=zD hf hcl (zzL _);refine Rel.join rc q2 q5 q3.wle (zD hf hic hcl) (qpc hf hic hcl) hkeep ?_ (hZ1n c hic hcl) q3.frz rfl (zzL _) (hZ1l c hic hcl).2.2 (Nat.min_le_right _ _) q7 ?_
      .intro b L hb;obtain⟨h1,h2⟩:=xY hb;rw[xP h1];exact hZn b L h2
      .intro b L hb;obtain⟨h1,h2⟩:=xY hb;simp only[Zn]at h2;split at h2
       .rename_i h;exact .inr ⟨h2,q6 b L h2 h.1⟩
       .left;rw[xP h1];exact h2
 .-- it isn't wanted
  rw[hG];simp only[Bool.false_eq_true,if_false];refine⟨λ_ _=>trivial,hK _ w Z (Inv.next hc hf I hr hS hc1 hDd ?_ (λ_ _ h=>h) (λ_ _=>rfl) (λ_ _ h=>h) (λ_ _ h=>.inl h) I.big (λ_ _ h=>.inl h) ?_ (λ_ _=>rfl) (zzL _) ⟨rfl,rfl⟩)⟩
  .rw[g3];exact .tup [] #[] .nil
  .intro c hcl hph;cases hwr:wr r.k with
   | false=>exact I.rels c hcl (phase c hcl hwr hph)
   | true =>
    have hnp:qbR r.k=false:=by
     cases hk:r.k<;>rw[hk]at hwr<;>first|rfl|skip
     rename_i o1;cases o1<;>first|rfl|(simp[wr]at hwr)
    have hph0:∀j,IsW rs j->(S j↔j<i):=by
     intro j hj
     by_cases hji:j=i
     .subst hji;exact⟨λh=>absurd h hS,λh=>absurd h (Nat.lt_irrefl _)⟩
     .obtain⟨q,hq,hwq⟩:=hj;exact hW hnp j q hq hwq hji (λh=>by have:=(qkZ h.2).1;rw[hwr]at this;cases this)
    have ri:=I.rels i (by omega) hph0;have hic:i+1<=c:=(hph i ⟨r,hr,hwr⟩).1 (.inr rfl);have hbig:=I.big;have hs1:=zD hf hic hcl;have hs2:=zD hf hcl (zzL _);have hs3:(H i).sz<=(H (i+1)).sz:=zD hf (Nat.le_succ i) hi
    have e:cut Z (H c).sz=(cut Z (H i).sz).bump (H c).sz:=by
     simp only[cut,Ren.bump]
     congr 1
     rotate_left
     .omega
     funext b;cases hb:Z b with
     | none=>simp
     | some L =>
      have hlt:b<(H i).sz:=by
       rcases I.dom b L hb with h|⟨j,h1,h2,h3,h4⟩
       .exact Nat.lt_of_lt_of_le h (zD hf (Nat.zero_le _) (by omega))
       .have hjl:=I.lt j h1;have hq:rs[j]?=some rs[j]:=zzE hjl;have hji:j≠i:=by rintro rfl;exact hS h1
        have:j<i:=by
         by_cases hx:j<i/\exc rs[j] r=true
         .exact hx.1
         .exact (hWx hwr j _ hq (h2 _ hq) hji hx).1 h1
        exact Nat.lt_of_lt_of_le h4 (zD hf this (by omega))
      rw[if_pos hlt,if_pos (Nat.lt_of_lt_of_le hlt (Nat.le_trans hs3 hs1))]
    rw[e];have ri':Rel σ (cut Z (H i).sz) B (H (i+1)) w:=by rw[g4];exact ri
    exact(writer hwr ri' ri'.dom c hcl hph).bump (zzL _)
end

def qyU(horc:OrcOk P σ orc){C:zI}(hi:LC C)(hs:qdC P σ C){ro:Option Nat}{nt:Nat}{ops:Array Oper}{id:Nat}{rs:List ROp}{Q:Tr AV->Hp->Prop}{K:Exit->Act->World->Prop}{B:Nat->Prop}{t:Tr AV}{h:Hp}{w:World}{a:Act}{Z:Ren}
  (hrs:qdF P ops nt ops.toList rs=true) (hmix:P.follows .mixedOrders=true) (hdr:qnQ ops rs=true) (hk:qmc orc true C rs Q t h) (ht:TR σ Z t a.tmps) (hsz:nt<=a.tmps.size) (r:Rel σ Z B h w)
  (hK:∀a' w' t' h' Z',Q t' h'->TR σ Z' t' a'.tmps->nt<=a'.tmps.size->a'.defers=a.defers->Rel σ Z' B h' w'->Kept Z B h w Z' h' w'->K .normal a' w'):(Code.region id ops true).wpIn (Fr ro) 0 P K a w:=by
 obtain⟨T,H,G,V,rfl,rfl,hc,hQ⟩:=qo0 hi rs t h hk;obtain⟨_,hf⟩:=qed horc hs hrs hc ht hsz r rs.length (zzL _);obtain⟨hlen,hget⟩:=qhv hrs;have hlen':ops.size=rs.length:=by simpa using hlen
 simp only[qnQ,zzB]at hdr;obtain⟨⟨hd0,hd1⟩,hd2⟩:=hdr
 have hlt:∀(i:Nat) o,ops[i]?=some o->∀e ∈ o.after,Region.binds .any e=true->e.on<i:=by
  intro i o ho e he hb;have:=(List.all_eq_true.1 hd1) (o,i) (by rw[List.mem_zipIdx_iff_getElem?];simpa using ho);rw[Array.all_eq_true']at this;have h2:=this e he;simp[hb]at h2;simpa[Nat.blt]using h2
 let S:Array Bool->Nat->Prop:=λl i=>l[i]?=some true
 have main:∀(fuel:Nat) (listed:Array Bool) (a':Act) (w':World) (Z':Ren),listed.size=ops.size->listed.toList.count false=fuel->(∀(i:Nat) o,S listed i->ops[i]?=some o->∀e ∈ o.after,Region.binds .any e=true->S listed e.on)->
   Inv σ rs T H nt Z B w a.defers (S listed) a' w' Z'->wpAnyIn (Fr ro) 0 P .any ops K fuel listed a' w':=by
  intro fuel
  have fin:∀(listed:Array Bool) (a':Act) (w':World) (Z':Ren),listed.size=ops.size->(∀i,i<ops.size->S listed i)->Inv σ rs T H nt Z B w a.defers (S listed) a' w' Z'->K .normal a' w':=by
   intro listed a' w' Z' hls hall I;have hall':∀i,i<rs.length->S listed i:=λi hi=>hall i (by omega)
   have rn:=I.rels rs.length (zzL _) (λj hj=>by
    obtain⟨q,h1,_⟩:=hj;have:=(zzS.1 h1).1;exact⟨λ_=>this,λ_=>hall' j this⟩)
   refine hK a' w' _ _ (cut Z' (H rs.length).sz) hQ (λx v hv=>I.tmps x rs.length v (zzL _) (λk hk=>by
    obtain⟨q,h1,_⟩:=hk;have:=(zzS.1 h1).1;exact⟨λ_=>this,λ_=>hall' k this⟩) hv) I.size I.defers rn ?_
   exact⟨λb hb=>by rw[xP (Nat.lt_of_lt_of_le hb (zD hf (Nat.zero_le _) (zzL _)))];exact I.ext b hb,zD hf (Nat.zero_le _) (zzL _),qpc hf (Nat.zero_le _) (zzL _),
    λb h1 h2=>qvA hf (zzL _) b h1 h2,I.pres,I.wle,I.io,I.frz,I.fnew,by
     have h1:=r.dn.1;have h2:=zD hf (Nat.zero_le rs.length) (zzL _);have h3:=I.big;show Z.n<=min Z'.n (H rs.length).sz;omega⟩
  -- where nothing is ready all is done
  have done:∀(listed:Array Bool),listed.size=ops.size->Region.ready .any ops listed=[]->∀i,i<ops.size->S listed i:=by
   intro listed hls hre i
   induction i using Nat.strongRecOn with
   | _ i ihi =>
    intro hi;apply Classical.byContradiction;intro hns
    have hmem:i ∈ Region.ready .any ops listed:=by
     simp only[Region.ready,List.mem_filter,List.mem_range];have ho:ops[i]?=some ops[i]:=Array.getElem?_eq_getElem hi
     have hli:listed[i]?=some false:=by
      have h1:listed[i]?=some (listed[i]'(by omega)):=Array.getElem?_eq_getElem (by omega);cases hb:listed[i]'(by omega)with
      | false=>rw[h1,hb]
      | true=>exact absurd (show S listed i from by show listed[i]?=some true;rw[h1,hb]) hns
     refine⟨hi,?_⟩;rw[Array.getD_eq_getD_getElem?,hli,ho];simp only[Option.getD_some,Bool.not_false,Bool.true_and,Option.map_some,Array.all_eq_true'];intro e he
     by_cases hb:Region.binds .any e=true
     .have hl:=hlt i _ ho e he hb;have:S listed e.on:=ihi e.on hl (by omega);have h2:listed[e.on]?=some true:=this;simp[Array.getD_eq_getD_getElem?,h2]
     .simp[hb]
    rw[hre]at hmem;cases hmem
  induction fuel with
  | zero =>
   intro listed a' w' Z' hls hcnt hcl I
   have hall:∀i,i<ops.size->S listed i:=by
    intro i hi;have h1:listed[i]?=some (listed[i]'(by omega)):=Array.getElem?_eq_getElem (by omega);cases hb:listed[i]'(by omega)with
    | true=>show listed[i]?=some true;rw[h1,hb]
    | false =>
     exfalso
     have:false ∈ listed.toList:=by
      rw[<- hb];simp
     have:=List.count_pos_iff.2 this;omega
   refine⟨?_,fin listed a' w' Z' hls hall I⟩;apply List.eq_nil_iff_forall_not_mem.2;intro i hi;simp only[Region.ready,List.mem_filter,List.mem_range]at hi;have h2:listed[i]?=some true:=hall i hi.1;have h3:=hi.2;rw[Array.getD_eq_getD_getElem?,h2]at h3;simp at h3
  | succ fuel ihf =>
   intro listed a' w' Z' hls hcnt hcl I;refine⟨λhre=>fin listed a' w' Z' hls (done listed hls hre) I,?_⟩
   intro i hi;simp only[Region.ready,List.mem_filter,List.mem_range,zzB,Bool.not_eq_true']at hi;obtain⟨hin,hnl,hafter⟩:=hi;have ho:ops[i]?=some ops[i]:=Array.getElem?_eq_getElem hin
   have hli:listed[i]?=some false:=by
    have h1:listed[i]?=some (listed[i]'(by omega)):=Array.getElem?_eq_getElem (by omega);rw[Array.getD_eq_getD_getElem?,h1]at hnl;rw[h1];simpa using hnl
   have hS:¬S listed i:=by intro h;have h':listed[i]?=some true:=h;rw[hli]at h';cases h'
   rw[ho]at hafter;simp only[Option.map_some,Option.getD_some,Array.all_eq_true']at hafter
   have hready:∀e ∈ ops[i].after,Region.binds .any e=true->S listed e.on:=by
    intro e he hb;have:=hafter e he;simp[hb]at this;show listed[e.on]?=some true;cases h:listed[e.on]? with
    | none=>rw[h]at this;simp at this
    | some b=>rw[h]at this;simp at this;rw[this]
   have hri:rs[i]?=some (rs[i]'(by omega)):=zzE (by omega);generalize rs[i]'(by omega)=rr at hri
   -- what must be before,is;what must be behind,isn't
   have hlow:∀k q,rs[k]?=some q->k<i->qew q rr=true->S listed k:=by
    intro k q hq hki hm;have hbit:=qhD rs 0 hd2 rfl k i q rr hki (Nat.zero_le _) hq hri hm;exact qkb hlt hcl i _ ho hready k hbit
   have hhigh:∀k q,rs[k]?=some q->i<k->qew rr q=true->¬S listed k:=by
    intro k q hq hik hm hSk;have hkl:=(zzS.1 hq).1;have hbit:=qhD rs 0 hd2 rfl i k rr q hik (Nat.zero_le _) hri hq hm;have hok:ops[k]?=some (ops[k]'(by omega)):=Array.getElem?_eq_getElem (by omega);exact hS (qkb hlt hcl k _ hok (hcl k _ hSk hok) i hbit)
   have hcmp:∀k q,rs[k]?=some q->k≠i->(k<i->qew q rr=true)->(i<k->qew rr q=true)->(S listed k↔k<i):=by
    intro k q hq hki h1 h2;rcases Nat.lt_or_gt_of_ne hki with h|h
    .exact⟨λ_=>h,λ_=>hlow k q hq h (h1 h)⟩
    .exact⟨λhs=>absurd hs (hhigh k q hq h (h2 h)),λhs=>by omega⟩
   have hback:∀j k q q',rs[j]?=some q->rs[k]?=some q'->k<j->qew q' q=true->S listed j->S listed k:=by
    intro j k q q' hq hq' hkj hm hSj;have hjl:=(zzS.1 hq).1;have hbit:=qhD rs 0 hd2 rfl k j q' q hkj (Nat.zero_le _) hq' hq hm;have hok:ops[j]?=some (ops[j]'(by omega)):=Array.getElem?_eq_getElem (by omega);exact qkb hlt hcl j _ hok (hcl j _ hSj hok) k hbit
   refine Inv.step horc hs hrs hc hf I hri hS ?_ ?_ ?_ ?_ ?_ ?_ ?_ ?_ _ _ ?_
   .rintro x hx k ⟨q,hq,hqd⟩ hki
    have hdn:dn q rr=true:=by
     simp only[dn,hqd];simpa using hx
    exact hcmp k q hq hki (λ_=>by simp[qew,hdn]) (λ_=>by simp[qew,hdn])
   .intro hp k q hq hqw hki hne;refine hcmp k q hq hki (λ_=>by simp[qew,hp,hqw]) (λh=>?_)
    have:exc rr q=false:=by
     cases he:exc rr q with
     | true=>exact absurd ⟨h,he⟩ hne
     | false=>rfl
    simp[qew,hp,hqw,this]
   .intro hw k q hq hp hki hne;refine hcmp k q hq hki (λh=>?_) (λ_=>by simp[qew,hp,hw])
    have:exc q rr=false:=by
     cases he:exc q rr with
     | true=>exact absurd ⟨h,he⟩ hne
     | false=>rfl
    simp[qew,hp,hw,this]
   .rintro j1 j2 ⟨q1,hq1,hw1⟩ ⟨q2,hq2,hw2⟩ hj hs2;exact hback j2 j1 q2 q1 hq2 hq1 hj (by simp[qew,hw1,qBI hw2]) hs2
   .rintro j q p hq hij hex hpt k hik hkj ⟨u,hu,hud⟩;have h1:=(List.all_eq_true.1 hd0) (q,j) (by rw[List.mem_zipIdx_iff_getElem?];exact hq);have h2:=(List.all_eq_true.1 h1) (rr,i) (by rw[List.mem_zipIdx_iff_getElem?,List.getElem?_take_of_lt hij];exact hri);simp only[hex,Bool.not_true,Bool.false_or,zzB]at h2
    have h3:=(List.all_eq_true.1 h2.1) u (zzM (i:=k-i) (by
     rw[List.getElem?_drop,show i+(k-i)=k from by omega,List.getElem?_take_of_lt hkj];exact hu))
    simp[hud,hpt]at h3
   .intro j q p hq hij hex hpt;have h1:=(List.all_eq_true.1 hd0) (q,j) (by rw[List.mem_zipIdx_iff_getElem?];exact hq);have h2:=(List.all_eq_true.1 h1) (rr,i) (by rw[List.mem_zipIdx_iff_getElem?,List.getElem?_take_of_lt hij];exact hri);simp only[hex,Bool.not_true,Bool.false_or,zzB]at h2;rcases zzO _ _ ▸ h2.2 with h2|h2
    .left;rintro k hik hkj ⟨u,hu,hud⟩
     have h3:=(List.all_eq_true.1 h2) u (zzM (i:=k-i) (by
      rw[List.getElem?_drop,show i+(k-i)=k from by omega,List.getElem?_take_of_lt hkj];exact hu))
     simp[hud,hpt]at h3
    .right;rw[hpt]at h2;obtain⟨n,z,n1,n2⟩:=qmZ h2;have hnl:n<((rs.take j).drop (i+1)).length:=(zzS.1 n1).1;rw[List.length_drop,List.length_take]at hnl;rw[List.getElem?_drop,List.getElem?_take_of_lt (by omega)]at n1;refine⟨i+1+n,z,by omega,by omega,n1,?_⟩
     rintro k hk1 hk2 ⟨u,hu,hud⟩;exact n2 (k-(i+1)) u (by omega) (by rw[List.getElem?_drop,show i+1+(k-(i+1))=k from by omega,List.getElem?_take_of_lt hk2];exact hu) hud
   .intro p b o hp;obtain⟨⟨Z3,a3,w3,ht3,_,r3⟩,_⟩:=qed horc hs hrs hc ht hsz r i (by omega);obtain⟨L,h1,_⟩:=(ht3 p _ hp).2.un_ptr;exact r3.dom b L h1
   .intro j q d hq hd;have hjl:=(zzS.1 hq).1;obtain⟨⟨Z3,a3,w3,ht3,_,r3⟩,_⟩:=qed horc hs hrs hc ht hsz r (j+1) (by omega);have hg:(T (j+1)).get d=some (V j):=by rw[qnF hc hq,if_pos hd]
    exact⟨Z3,_,(ht3 d _ hg).2,λb L hb=>r3.dom b L hb,r3.dn.1⟩
   .intro a2 w2 Z2 I2
    have hS2:S (listed.setIfInBounds i true)=λj=>S listed j\/j=i:=by
     funext j;apply propext;show(listed.setIfInBounds i true)[j]?=some true↔(listed[j]?=some true\/j=i);rw[Array.getElem?_setIfInBounds]
     by_cases hji:i=j
     .subst hji;simp;omega
     .rw[if_neg hji];constructor
      .exact .inl
      .rintro (h|h)
       .exact h
       .exact absurd h.symm hji
    refine ihf (listed.setIfInBounds i true) a2 w2 Z2 (by simp;exact hls) ?_ ?_ (by rw[hS2];exact I2)
    .rw[Array.toList_setIfInBounds];have hil:i<listed.toList.length:=by simp;omega
     have hget0:listed.toList[i]=false:=by
      have:listed.toList[i]?=some false:=by simpa using hli
      rw[zzE hil]at this;simpa using this
     rw[List.count_set hil,hget0,hcnt];rfl
    .intro j o' hSj ho' e he hb;rw[hS2]at hSj ⊢;rcases hSj with hSj|rfl
     .exact .inl (hcl j o' hSj ho' e he hb)
     .rw[ho]at ho';cases ho';exact .inl (hready e he hb)
 -- the beginning
 refine wpIn_region_any hmix (main ops.size (Array.replicate ops.size false) a _ (Z.bump (H rs.length).sz) (by simp) (by simp) ?_ ?_)
 .intro i o hS;have h':(Array.replicate ops.size false)[i]?=some true:=hS;simp[Array.getElem?_replicate]at h'
 .have hno:∀i,¬S (Array.replicate ops.size false) i:=by
   intro i hS;have h':(Array.replicate ops.size false)[i]?=some true:=hS;simp[Array.getElem?_replicate]at h'
  have r':Rel σ Z B (H 0) { w with drawn:=w.drawn+1 }:=r.heap rfl
  have hdom0:∀c,c<=rs.length->cut (Z.bump (H rs.length).sz) (H c).sz=Z.bump (H c).sz:=by
   intro c hcl;have h1:=zD hf hcl (zzL _);have h2:=zD hf (Nat.zero_le c) hcl;have h3:=r.dn.1;simp only[cut,Ren.bump]
   congr 1
   .funext b;cases hb:Z b with
    | none=>simp[hb]
    | some L=>rw[if_pos (Nat.lt_of_lt_of_le (r.dom b L hb) h2)]
   .omega
  refine⟨λi h=>absurd h (hno i),λb L hb=>.inl (r.dom b L hb),?_,?_,λ_ _=>rfl,λ_ _=>rfl,zzL _,⟨rfl,rfl⟩,r.base,hsz,rfl,Nat.le_max_right _ _,λ_ _ h=>h,λ_ _ h=>.inl h,r.dn.2⟩
  .intro c hcl hph;rw[hdom0 c hcl];refine(r'.longer (zD hf (Nat.zero_le _) hcl) (qpc hf (Nat.zero_le _) hcl) (λb hb=>qn0 hf (Nat.zero_le _) hcl (λk _ h2 q hq=>?_) b hb)).bump (zzL _)
   cases hwk:wr q.k with
   | false=>rfl
   | true=>exact absurd ((hph k ⟨q,hq,hwk⟩).2 h2) (hno k)
  .intro x j v hj hph hg;have e:(T j).get x=(T 0).get x:=qiQ hc (Nat.zero_le _) hj (λk _ h2 hdk=>absurd ((hph k hdk).2 h2) (hno k))
   rw[e]at hg;rw[hdom0 j hj];exact⟨(ht x v hg).1,(ht x v hg).2.mono (Z.bump_le _)⟩
end Go.Kc
end
section
namespace Go.Kc

def σ0:Nat->Value:=λ_=>.bool false
def qL:Orc:=⟨λ_ _ _=>none,λ_=>none,λ_ _=>none⟩
def qju(P:Program):OrcOk P σ0 qL :=
 ⟨λ_=>rfl,(λ_ _ _ _ h=>by cases h),(λ_ _ h=>by cases h),(λ_ _ _ h=>by cases h),λ_=>.inr (.inr ⟨false,rfl⟩)⟩

def qfz(F:Fence)(n:Nat)(P:Program)(c:Code)(Q:Exit->Act->World->Prop)(a:Act)(w:World):Prop :=
 ∀(b:Frame) (k:List Item) (cs:List Frame),b.roundOf=F.round->F.fn b.fn->F.room (cs.length+1+n)->
  ∃e a' w',Q e a' w'/\ArrivesIn (Machine.fenced P F) P (lone (b.atR a (.code c :: .inLoop c::k)) cs w) b k cs e a' w'
def qpF{F:Fence}{n:Nat}{P:Program}{c:Code}{Q:Exit->Act->World->Prop}{a:Act}{w:World}(h:c.wpIn F n P (Exit.then (qfz F n P c Q) Q) a w):qfz F n P c Q a w:=by
 intro b k cs hro hb hr;obtain⟨e,a₁,w₁,hq,harr⟩:=h b (.inLoop c::k) cs hro hb hr;cases e with
 | normal =>
  obtain⟨e₂,a₂,w₂,hq₂,harr₂⟩:=hq b k cs hro hb hr;exact⟨e₂,a₂,w₂,hq₂,.of_steps (StepsIn.trans harr (.one (fenced_calm hb hr rfl) stepR_inLoop)) harr₂⟩
 | exit id=>exact⟨_,a₁,w₁,hq,.pass (x:=.inLoop c) rfl (by simp_all) harr⟩
 | goto l=>exact⟨_,a₁,w₁,hq,.pass (x:=.inLoop c) rfl (by simp_all) harr⟩
 | ret=>exact⟨_,a₁,w₁,hq,.pass (x:=.inLoop c) rfl (by simp_all) harr⟩
 | panic ch=>exact⟨_,a₁,w₁,hq,.pass (x:=.inLoop c) rfl (by simp_all) harr⟩
 | outgrown=>exact⟨_,a₁,w₁,hq,.pass (x:=.inLoop c) rfl (by simp_all) harr⟩
def qtA{F:Fence}{n:Nat}{P:Program}{c:Code}{Q:Exit->Act->World->Prop}{a:Act}{w:World}(h:qfz F n P c Q a w):(Code.loop c).wpIn F n P Q a w:=by
 intro b k cs hro hb hr;obtain⟨e,a',w',hq,harr⟩:=h b k cs hro hb hr;exact⟨e,a',w',hq,.of_steps (.one (fenced_calm hb hr rfl) stepR_loop) harr⟩
theorem qfz.mono{F:Fence}{n:Nat}{P:Program}{c:Code}{Q Q':Exit->Act->World->Prop}{a:Act}{w:World}(h:qfz F n P c Q a w)(hq:∀e a w,Q e a w->Q' e a w):qfz F n P c Q' a w :=
 λb k cs h1 h2 h3=>let ⟨e,a',w',q,r⟩:=h b k cs h1 h2 h3;(by grind)

variable {P:Program} {n:Nat}
def qiD:ICode->Bool
 | .seq x y=>qiD x&&qiD y
 | .cond _ x y=>qiD x&&qiD y
 | .blk _ x=>qiD x
 | .loop x=>qiD x
 | .cut x=>qiD x
 | .rangeF _ _ _ _ _=>false
 | _=>true
def nr1{ro:Option Nat}{x y:Bool}(h:ro=none\/(x&&y)=true):ro=none\/x=true:=by grind
def nr2{ro:Option Nat}{x y:Bool}(h:ro=none\/(x&&y)=true):ro=none\/y=true:=by grind
def S(P:Program)(n:Nat)(c:ICode)(Q:X->Tr AV->Hp->Prop)(t:Tr AV)(h:Hp):Prop :=
 ∀nt code,zn P nt code c=true->n<=h.sz->∀ro,(ro=none\/qiD c=true)->∀Z B w (a:Act),TR σ0 Z t a.tmps->nt<=a.tmps.size->Rel σ0 Z B h w->code.wpIn (Fr ro) 0 P (qeG σ0 Q nt n Z B h w a.defers) a w
def SL(P:Program)(n:Nat)(c:ICode)(Q:X->Tr AV->Hp->Prop)(t:Tr AV)(h:Hp):Prop :=
 ∀nt code,zn P nt code c=true->n<=h.sz->∀ro,(ro=none\/qiD c=true)->∀Z B w (a:Act),TR σ0 Z t a.tmps->nt<=a.tmps.size->Rel σ0 Z B h w->qfz (Fr ro) 0 P code (qeG σ0 Q nt n Z B h w a.defers) a w
def SC(P:Program)(f:Nat)(vs:List AV)(h:Hp)(k:AV->Hp->Prop):Prop :=
 qoZ P f/\∀Z B w (args:Array Value),Rel σ0 Z B h w->VRs σ0 Z vs args.toList->qnD P σ0 f args Z B h w k
def SY(P:Program)(b:Nat)(vs:List AV)(h:Hp)(k:AV->Hp->Prop):Prop :=
 ∀Z B w (args:Array Value) L,Z b=some L->Rel σ0 Z B h w->VRs σ0 Z vs args.toList->qoA P σ0 L.blk args Z B h w k
def CC(P:Program):zI:=λf vs h k=>match f with
 | 0=>(match vs with | .yl b::us=>SY P b us h k|_=>False)
 | f+1=>SC P f vs h k
def qe5(P:Program):qdC P σ0 (CC P):=⟨λ_ _ _ _ hk=>hk,λ_ _ _ _ hk=>hk⟩

def onX(e:X)(n:Prop)(x:Nat->Prop)(r:Prop):Prop:=X.rec (motive:=λ_=>Prop) n x r e
def qiG(n:Prop)(x:Nat->Prop)(r:Prop):onX .normal n x r=n:=rfl
def qwJ(i:Nat)(n:Prop)(x:Nat->Prop)(r:Prop):onX (.exit i) n x r=x i:=rfl
def qzW(n:Prop)(x:Nat->Prop)(r:Prop):onX .ret n x r=r:=rfl
def VG(P:Program)(ops:List ROp)(Q:Tr AV->Hp->Prop)(t:Tr AV)(h:Hp):Prop:=qmc qL false (CC P) ops Q t h
def VD(P:Program)(ops:List ROp)(Q:Tr AV->Hp->Prop)(t:Tr AV)(h:Hp):Prop:=∃C,LC C/\qdC P σ0 C/\qmc qL true C ops Q t h
def V(P:Program)(n:Nat):ICode->(X->Tr AV->Hp->Prop)->Tr AV->Hp->Prop
 | .skip,Q,t,h=>Q .normal t h
 | .reg d ops,Q,t,h=>if d=true then VD P ops (λt h=>Q .normal t h) t h else VG P ops (λt h=>Q .normal t h) t h
 | .seq x y,Q,t,h=>V P n x (λe t h=>onX e (V P n y Q t h) (λid=>Q (.exit id) t h) (Q .ret t h)) t h
 | .cond c x y,Q,t,h=>evK t c (λv=>unB v (λb=>if b=true then V P n x Q t h else V P n y Q t h))
 | .blk id x,Q,t,h=>V P n x (λe t h=>onX e (Q .normal t h) (λi=>if i=id then Q .normal t h else Q (.exit i) t h) (Q .ret t h)) t h
 | .loop x,Q,t,h=>SL P n x Q t h
 | .exit id,Q,t,h=>Q (.exit id) t h
 | .ret,Q,t,h=>Q .ret t h
 | .no,_,_,_=>False
 | .cut x,Q,t,h=>S P n x Q t h
 | .rangeF j g ps x y,Q,t,h=>S P n (.rangeF j g ps x y) Q t h

def qk:∀{c:ICode} {Q:X->Tr AV->Hp->Prop} {t:Tr AV} {h:Hp},V P n c Q t h->S P n c Q t h
 | .no,_,_,_,hv=>hv.elim
 | .rangeF _ _ _ _ _,_,_,_,hv=>hv
 | .cut x,Q,t,h,hv=>λnt code hc hn ro hro=>hv nt code (by cases code<;>simpa only[zn]using hc) hn ro hro
 | .skip,Q,t,h,hv=>by
  intro nt code hc hn ro hro Z B w a ht hsz r;cases code<;>first|(simp[zn]at hc;done)|skip
  exact wpIn_skip (qeG.of .normal hv ht hsz rfl r (Kep.refl _ _ hn _))
 | .ret,Q,t,h,hv=>by
  intro nt code hc hn ro hro Z B w a ht hsz r;cases code<;>first|(simp[zn]at hc;done)|skip
  exact wpIn_ret (qeG.of .ret hv ht hsz rfl r (Kep.refl _ _ hn _))
 | .exit id,Q,t,h,hv=>by
  intro nt code hc hn ro hro Z B w a ht hsz r;cases code<;>first|(simp[zn]at hc;done)|skip
  obtain rfl:=eq_of_beq (show(_==id)=true from by simpa[zn]using hc)
  exact wpIn_exit (qeG.of (.exit _) hv ht hsz rfl r (Kep.refl _ _ hn _))
 | .reg d rs,Q,t,h,hv=>by
  intro nt code hc hn ro hro Z B w a ht hsz r;cases code<;>first|(simp[zn]at hc;done)|skip
  rename_i id ops d';simp only[zn,zzB]at hc;obtain⟨⟨h1,h2⟩,h3⟩:=hc;obtain rfl:=eq_of_beq h1;cases d' with
  | false =>
   have hv':VG P rs (λt h=>Q .normal t h) t h:=hv
   refine wpIn_region ?_
   have:=qmd (ops:=ops) (nt:=nt) (ro:=ro) (K:=qeG σ0 Q nt n Z B h w a.defers) (Z0:=Z) (h0:=h) (w0:=w) (ds:=a.defers) (qju P) (qe5 P) (λa' w' t' h' Z' g1 g2 g3 g4 g5 g6=>qeG.of .normal g1 g2 g3 g4 g5 (g6.kep hn))
    ops.toList rs 0 h2 rfl t h Z w a hv' ht hsz rfl r (Kept.refl _ _ _ _)
   rw[List.range_eq_range'];omega
  | true =>
   obtain⟨C,c1,c2,c3⟩:VD P rs (λt h=>Q .normal t h) t h:=hv
   simp only[Bool.not_true,Bool.false_or,zzB]at h3;exact qyU (qju P) c1 c2 h2 h3.1 h3.2 c3 ht hsz r (λa' w' t' h' Z' g1 g2 g3 g4 g5 g6=>qeG.of .normal g1 g2 g3 g4 g5 (g6.kep hn))
 | .seq x y,Q,t,h,hv=>by
  intro nt code hc hn ro hro Z B w a ht hsz r;cases code<;>first|(simp[zn]at hc;done)|skip
  rename_i cx cy;simp only[zn,zzB]at hc;refine wpIn_seq (wpIn_mono (qk (c:=x) hv nt cx hc.1 hn ro (nr1 hro) Z B w a ht hsz r) ?_);rintro e a1 w1 ⟨x1,t1,h1,Z1,rs,hx,hq,ht1,hs1,hd1,hm,r1,k1⟩;cases hx with
  | normal=>exact wpIn_mono (qk (c:=y) hq nt cy hc.2 k1.szle ro (nr2 hro) Z1 _ w1 a1 ht1 hs1 r1) (by grind[qeG.trans,MarksOk.lt])
  | exit id=>exact⟨_,t1,h1,Z1,rs,.exit id,hq,ht1,hs1,hd1,hm,r1,k1⟩
  | ret=>exact⟨_,t1,h1,Z1,rs,.ret,hq,ht1,hs1,hd1,hm,r1,k1⟩
 | .cond c x y,Q,t,h,hv=>by
  intro nt code hc hn ro hro Z B w a ht hsz r;cases code<;>first|(simp[zn]at hc;done)|skip
  rename_i cc cx cy;simp only[zn,zzB]at hc;obtain⟨⟨h1,h2⟩,h3⟩:=hc;obtain⟨v,h4,h5⟩:=zd ht h1 hv;obtain⟨b,h6,h7⟩:=qxQ h5 h4;cases b with
  | true=>exact wpIn_cond_true h6 (qk (c:=x) h7 nt cx h2 hn ro (nr1 hro) Z B w a ht hsz r)
  | false=>exact wpIn_cond_false h6 (qk (c:=y) h7 nt cy h3 hn ro (nr2 hro) Z B w a ht hsz r)
 | .blk id x,Q,t,h,hv=>by
  intro nt code hc hn ro hro Z B w a ht hsz r;cases code<;>first|(simp[zn]at hc;done)|skip
  rename_i id' cx;simp only[zn,zzB]at hc;obtain rfl:=eq_of_beq hc.1;refine wpIn_block (wpIn_mono (qk (c:=x) hv nt cx hc.2 hn ro hro Z B w a ht hsz r) ?_);rintro e a1 w1 ⟨x1,t1,h1,Z1,rs,hx,hq,ht1,hs1,hd1,hm,r1,k1⟩;cases hx with
  | normal=>exact⟨_,t1,h1,Z1,rs,.normal,hq,ht1,hs1,hd1,hm,r1,k1⟩
  | ret=>exact⟨_,t1,h1,Z1,rs,.ret,hq,ht1,hs1,hd1,hm,r1,k1⟩
  | exit id2 =>
   show(if id2=id' then _ else _)
   have hq':(if id2=id' then Q .normal t1 h1 else Q (.exit id2) t1 h1):=hq
   by_cases he:id2=id'
   .rw[if_pos he]at hq' ⊢;exact⟨_,t1,h1,Z1,rs,.normal,hq',ht1,hs1,hd1,hm,r1,k1⟩
   .rw[if_neg he]at hq' ⊢;exact⟨_,t1,h1,Z1,rs,.exit id2,hq',ht1,hs1,hd1,hm,r1,k1⟩
 | .loop x,Q,t,h,hv=>by
  intro nt code hc hn ro hro Z B w a ht hsz r;cases code<;>first|(simp[zn]at hc;done)|skip
  rename_i cx;exact qtA (hv nt cx (by simpa[zn]using hc) hn ro hro Z B w a ht hsz r)

def qcp{x:ICode}{Q:X->Tr AV->Hp->Prop}{t:Tr AV}{h:Hp}(hv:V P n x (λe t h=>onX e (SL P n x Q t h) (λid=>Q (.exit id) t h) (Q .ret t h)) t h):SL P n x Q t h:=by
 intro nt cx hc hn ro hro Z B w a ht hsz r;refine qpF (wpIn_mono (qk hv nt cx hc hn ro hro Z B w a ht hsz r) ?_);rintro e a1 w1 ⟨x1,t1,h1,Z1,rs,hx,hq,ht1,hs1,hd1,hm,r1,k1⟩;cases hx with
 | normal=>exact qfz.mono (hq nt cx hc k1.szle ro hro Z1 _ w1 a1 ht1 hs1 r1) (by grind[qeG.trans,MarksOk.lt])
 | exit id=>exact⟨_,t1,h1,Z1,rs,.exit id,hq,ht1,hs1,hd1,hm,r1,k1⟩
 | ret=>exact⟨_,t1,h1,Z1,rs,.ret,hq,ht1,hs1,hd1,hm,r1,k1⟩

def Wk(n:Nat)(t:Tr AV)(h:Hp)(t':Tr AV)(h':Hp):Prop :=
 ∀Z B w tm,TR σ0 Z t tm->Rel σ0 Z B h w->∃Z',TR σ0 Z' t' tm/\Rel σ0 Z' B h' w/\Kep n Z B h w Z' h' w
def SL.weak{x:ICode}{Q:X->Tr AV->Hp->Prop}{t t':Tr AV}{h h':Hp}(hw:Wk n t h t' h')(hs:SL P n x Q t' h'):SL P n x Q t h:=by
 intro nt cx hc hn ro hro Z B w a ht hsz r;obtain⟨Z',h1,h2,h3⟩:=hw Z B w a.tmps ht r;exact qfz.mono (hs nt cx hc h3.szle ro hro Z' B w a h1 hsz h2) (by grind[qeG.weaken])
def S.weak{x:ICode}{Q:X->Tr AV->Hp->Prop}{t t':Tr AV}{h h':Hp}(hw:Wk n t h t' h')(hs:S P n x Q t' h'):S P n x Q t h:=by
 intro nt cx hc hn ro hro Z B w a ht hsz r;obtain⟨Z',h1,h2,h3⟩:=hw Z B w a.tmps ht r;exact wpIn_mono (hs nt cx hc h3.szle ro hro Z' B w a h1 hsz h2) (by grind[qeG.weaken])
end Go.Kc
end
