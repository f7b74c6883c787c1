/- Part 2 of the proof. No condition. -/
import Derived.Test.YtgaodkfneooonaaGreatMK1
import Derived.LoopNIn
import Derived.OrdersIn
import Derived.RangeFuncRecord
set_option maxHeartbeats 4000000
set_option maxRecDepth 1000000
set_option linter.unusedSectionVars false
set_option linter.unusedSimpArgs false
set_option linter.unusedVariables false
set_option linter.unnecessarySimpa false
set_option linter.defProp false
namespace Go.Kc
noncomputable section
section
variable {σ:Nat->Value}{Z Z':Ren}{P:Program}{orc:Orc}
def qqA(nt:Nat):Option Tmp->Option Nat->Bool
 | none,none=>true
 | some a,some b=>a==b&&Nat.blt a nt
 | _,_=>false
def qxf(ops:Array Oper):Option (Nat×Bool)->Option (Nat×Bool)->Bool
 | none,none=>true
 | some (j,b),some (d,c)=>b==c&&((ops[j]?).bind (·.dst))==some d
 | _,_=>false
def qsb(P:Program)(ops:Array Oper)(nt:Nat)(o:Oper)(r:ROp):Bool:=qqA nt o.dst r.dst&&qxf ops o.guard r.guard&&qhx P o.op r.k
def qer(P:Program)(ops:Array Oper)(nt:Nat):List Oper->List ROp->Bool
 | [],[]=>true
 | o::os,r::rs=>qsb P ops nt o r&&qer P ops nt os rs
 | _,_=>false
def mask(o:Oper)(acc:List Nat):Nat:=o.after.toList.foldl (λs e=>if Region.binds .any e then s ||| 2 ^ e.on ||| acc.getD e.on 0 else s) 0
def qgd:List Oper->List Nat->List Nat
 | [],acc=>acc
 | o::os,acc=>qgd os (acc++[mask o acc])
def xR:O->List Nat
 | .t n=>[n]
 | .c _=>[]
def qc8(xs:List O):List Nat:=xs.flatMap xR
def qeL:Option O->List Nat
 | none=>[]
 | some x=>xR x
def qni(ps:List (Nat×Nat×O)):List Nat:=ps.flatMap λp=>xR p.2.2
def qJ:IOp->List Nat
 | .mov x | .box x | .load1 x | .loadN _ x | .nilChk x | .eqN _ _ x | .un _ x | .cvInt _ x | .fAddr _ x | .fld _ _ x | .ext x _ | .len _ x | .clear _ x=>xR x
 | .pick c x y=>xR c++xR x++xR y
 | .alloc _ | .mkM | .no=>[]
 | .updM _ x i v=>xR x++xR i++xR v
 | .build _ ps | .buildS _ _ ps=>qni ps
 | .store _ x v=>xR x++xR v
 | .storeD _ x v ps=>xR x++xR v++ps
 | .appD _ _ s x ps=>xR s++xR x++ps
 | .bin _ x y | .eqB _ x y | .iAddrA _ _ x y | .iAddrS _ x y | .idxA _ _ _ x y | .idxS x y | .mkS _ _ _ x y | .app _ _ _ x y | .max x y | .min x y | .lookM _ _ _ x y=>xR x++xR y
 | .slcS _ x lo hi mx | .slcA _ _ x lo hi mx=>xR x++qeL lo++qeL hi++qeL mx
 | .slcStr x lo hi=>xR x++qeL lo++qeL hi
 | .mkF _ a c=>qc8 a++qc8 c
def qgG:RK->List Nat
 | .op o=>qJ o
 | .callF _ args=>qc8 args
 | .callV x args=>xR x++qc8 args
 | .callW _ args=>qc8 args
 | .callVW x args=>xR x++qc8 args
def qfk:RK->RK
 | .op (.storeD n x v _)=>.op (.store n x v)
 | .op (.appD e y s x _)=>.op (.app e y true s x)
 | k=>k
def wi(r:ROp):List Nat:=r.dst.toList++(match r.guard with|some g=>[g.1]|none=>[])++qgG (qfk r.k)
def qcq:RK->Bool
 | .op o=>match o with
  | .mov _ | .pick .. | .bin .. | .eqB .. | .un .. | .cvInt .. | .fAddr .. | .ext .. | .iAddrA .. | .iAddrS .. | .nilChk _ | .eqN .. | .fld .. | .min .. | .max .. | .slcStr .. | .build .. | .len _ _=>true
  | _=>false
 | _=>false
def dn(a b:ROp):Bool:=match a.dst with|some d=>(wi b).contains d|none=>false
def qb6(a b:ROp):Bool :=
 match b.k with
 | .op (.storeD _ _ _ ps)=>(match a.k with
  | .op (.load1 (.t p))=>ps.contains p&&a.dst.isSome
  | .op (.loadN _ (.t p))=>ps.contains p&&a.dst.isSome
  | _=>false)
 | .op (.appD _ _ _ _ ps)=>(match a.k with
  | .op (.load1 (.t p))=>ps.contains p&&a.dst.isSome
  | .op (.loadN _ (.t p))=>ps.contains p&&a.dst.isSome
  | _=>false)
 | _=>false
def qhu:RK->Bool
 | .op (.alloc _) | .op (.buildS _ _ _) | .op (.mkS _ _ _ _ _)=>true
 | _=>false
def qfP:RK->Option Nat
 | .op (.storeD _ (.t p) _ _)=>some p
 | _=>none
def qmO(a b:ROp):Bool:=(qhu a.k&&(qfP b.k).isSome)&&a.dst != qfP b.k
def qmP{a b:ROp}(h:qmO a b=true):qhu a.k=true/\(qfP b.k).isSome=true:=by
 unfold qmO at h
 exact Ae
def exc(a b:ROp):Bool:=qb6 a b||qmO a b
def qfh(a b:ROp):Bool:=dn a b||dn b a ||
 (wr a.k && !qcq b.k)||(!qcq a.k&&wr b.k && !exc a b)
def qjO(rs:List ROp)(ms:List Nat):Nat->List ROp->Bool
 | _,[]=>true
 | j,r::rest=>(rs.take j).zipIdx.all (λq=>!qfh q.1 r||(ms.getD j 0).testBit q.2)&&qjO rs ms (j+1) rest
def qzp:RK->Option Nat
 | .op (.load1 (.t p)) | .op (.loadN _ (.t p))=>some p
 | _=>none
def qFT(p:Option Nat)(u:ROp):Bool:=match u.k with
 | .op (.alloc _)=>u.dst==p&&u.guard.isNone
 | _=>false
def fresh(p:Option Nat):List ROp->Bool
 | []=>false
 | u::l=>fresh p l||(qFT p u&&l.all λw=>w.dst.isNone||w.dst != p)
def qor{p:Nat}:∀{l:List ROp},fresh (some p) l=true->∃(n:Nat) (z:List AV),l[n]?=some (ROp.mk (some p) (.op (.alloc z)) none)/\∀(k:Nat) (w:ROp),n<k->l[k]?=some w->w.dst≠some p
 | [],h=>by cases h
 | u::l,h=>by
  unfold fresh at h;rcases zzO _ _ ▸ h with h|h
  .obtain⟨n,z,h1,h2⟩:=qor h;refine⟨n+1,z,Ex,λk w hk hw=>?_⟩
   cases k with
   | zero=>exact Ab
   | succ k=>exact h2 k w Ab (by simpa using hw)
  .obtain⟨h1,h2⟩:=(Ae:qFT (some p) u=true/\(l.all λw=>w.dst.isNone||w.dst != some p)=true)
   unfold qFT at h1;split at h1
   .rename_i z hz;obtain⟨d,k,g⟩:=u;simp only[zzB]at h1;obtain⟨h3,h4⟩:=h1;have h3:=eq_of_beq h3;cases g with
    | some _=>cases h4
    | none =>
     simp only at h3 hz;subst h3 hz;refine⟨0,z,rfl,λk w hk hw=>?_⟩
     cases k with
     | zero=>exact Ab
     | succ k =>
      have:=zzy.1 h2 w Ag;intro e;simp[e]at this
   exact Ae
def qJB(rs:List ROp):Bool :=
 rs.zipIdx.all λq=>(rs.take q.2).zipIdx.all λr=>(!qb6 r.1 q.1||((rs.take q.2).drop r.2).all λu=>u.dst.isNone||u.dst != qzp r.1.k)&&(!qmO r.1 q.1||((((rs.take q.2).drop r.2).all λu=>u.dst.isNone||u.dst != qfP q.1.k)||fresh (qfP q.1.k) ((rs.take q.2).drop (r.2+1))))
def qpn(ops:Array Oper)(rs:List ROp):Bool :=
 qJB rs &&
 (ops.toList.zipIdx.all λp=>p.1.after.all λe=>!Region.binds .any e||Nat.blt e.on p.2)&&qjO rs (qgd ops.toList []) 0 rs
def qKk:Code->Bool
 | .goto _=>false
 | _=>true
def zc(P:Program)(nt:Nat):Code->ICode->Bool
 | _,.no=>true
 | c,.cut x=>zc P nt c x
 | .skip,.skip=>true
 | .region _ ops draw,.reg d rs=>draw==d&&qer P ops nt ops.toList rs&&(!d||(P.follows .mixedOrders&&qpn ops rs))
 | .seq x y,.seq x' y'=>zc P nt x x'&&zc P nt y y'
 | .cond c x y,.cond c' x' y'=>qR c c'&&zc P nt x x'&&zc P nt y y'
 | .block id x,.blk id' x'=>id==id'&&zc P nt x x'
 | .loop x,.loop x'=>zc P nt x x'
 | .exit id,.exit id'=>id==id'
 | .ret,.ret=>true
 | .rangeFunc g ps x y,.rangeF _ g' ps' x' y'=>qR g g'&&ps.toList==ps'&&ps.toList.all (λp=>Nat.blt p nt)&&zc P nt x x'&&zc P nt y y'&&qKk x
 | _,_=>false
def qcO(P:Program):List ResultVar->List RV->Bool
 | [],[]=>true
 | .tmp n::xs,.tmp m::ys=>n==m&&qcO P xs ys
 | .cell n t::xs,.cell m size agg::ys=>n==m&&vo P t==agg&&(P.underlying t).isSome&&(!agg||zA P t size)&&qcO P xs ys
 | _,_=>false
def qdW(P:Program)(f:Nat)(i:IFn):Bool :=
 match P.funcs[f]? with
 | some fn=>fn.name != "runtime.NumGoroutine" && (match fn.body with|some c=>zc P fn.ntmps c i.body|none=>false)&&qcO P fn.results.toList i.res
 | none=>false
abbrev Ck (P:Program) (f:Nat) (i:IFn):Prop:=qdW P f i=true
inductive XR:X->Exit->Prop where
 | normal:XR .normal .normal
 | exit (id:Nat):XR (.exit id) (.exit id)
 | ret:XR .ret .ret
structure Kep (n:Nat) (Z:Ren) (B:Nat->Prop) (h:Hp) (w:World) (Z':Ren) (h':Hp) (w':World):Prop where
 ext:∀b,b<n->Z' b=Z b
 szle:n<=h'.sz
 fl:h'.fl=h.fl
 akeep:∀b,b<h.fl->b<n->h'.tr.get b=h.tr.get b
 pres:∀k,B k->w'.heap[k]?=w.heap[k]?
 wle:w.heap.size<=w'.heap.size
 io:w'.os=w.os/\w'.output=w.output
 frz:∀k a,Z.frz k=some a->Z'.frz k=some a
 fnew:∀k a,Z'.frz k=some a->Z.frz k=some a\/¬B k
 nle:∀b,b<n->b<Z.n->b<Z'.n
theorem Kep.refl{n:Nat}(Z:Ren)(B:Nat->Prop){h:Hp}(hn:n<=h.sz)(w:World):Kep n Z B h w Z h w :=
 ⟨λ_ _=>rfl,hn,rfl,λ_ _ _=>rfl,λ_ _=>rfl,zzL _,⟨rfl,rfl⟩,λ_ _ h=>h,λ_ _ h=>.inl h,λ_ _ h=>h⟩
def Kept.kep{n:Nat}{B:Nat->Prop}{h h':Hp}{w w':World}(k:Kept Z B h w Z' h' w')(hn:n<=h.sz):Kep n Z B h w Z' h' w' :=
 ⟨by grind[Kept.ext],zzg hn k.szle,k.fl,by grind[Kept.akeep],k.pres,k.wle,k.io,k.frz,k.fnew,λ_ _ h=>zzh h k.nle⟩
def Kep.kept{B:Nat->Prop}{h h':Hp}{w w':World}(k:Kep h.sz Z B h w Z' h' w')(hn:Z.n<=h.sz):Kept Z B h w Z' h' w' :=
 ⟨k.ext,k.szle,k.fl,k.akeep,k.pres,k.wle,k.io,k.frz,k.fnew,Nat.le_of_not_lt λhh=>absurd (k.nle Z'.n Ab hh) (Nat.lt_irrefl _)⟩
theorem Kep.trans{n:Nat}{Z Z1 Z2:Ren}{B:Nat->Prop}{h h1 h2:Hp}{w w1 w2:World}(k1:Kep n Z B h w Z1 h1 w1)(k2:Kep n Z1 B h1 w1 Z2 h2 w2):Kep n Z B h w Z2 h2 w2 :=
 ⟨λb hb=>(k2.ext b hb).trans (k1.ext b hb),k2.szle,k2.fl.trans k1.fl,λb hb hb'=>(k2.akeep b (k1.fl ▸ hb) hb').trans (k1.akeep b hb hb'),λk hk=>(k2.pres k hk).trans (k1.pres k hk),zzg k1.wle k2.wle,
  ⟨k2.io.1.trans k1.io.1,k2.io.2.trans k1.io.2⟩,by grind[Kep.frz],by grind[Kep.fnew],λb hb h=>k2.nle b hb (k1.nle b hb h)⟩
def qlO(rs:List Nat):List Deferred:=rs.map λr=>{ target:=.collected r,args:=#[] }
def BM(B:Nat->Prop)(rs:List Nat):Nat->Prop:=λk=>B k\/k ∈ rs
def qEs(B:Nat->Prop):BM B []=B:=by funext k;simp[BM]
def qEr(B:Nat->Prop)(rs rs':List Nat):BM (BM B rs) rs'=BM B (rs'++rs):=by
 funext k;simp only[BM,zzd];exact Ag
structure MarksOk (w w':World) (rs:List Nat):Prop where
 nodup:rs.Nodup
 new:∀r ∈ rs,w.heap.size<=r
 at':∀r ∈ rs,w'.heap[r]?=some (.deferred (some []))
theorem MarksOk.nil(w w':World):MarksOk w w' []:=⟨.nil,Ae,Ae⟩
def Kep.bm{n:Nat}{B:Nat->Prop}{rs:List Nat}{h h':Hp}{w w':World}(k:Kep n Z (BM B rs) h w Z' h' w'):Kep n Z B h w Z' h' w' :=
 ⟨k.ext,k.szle,k.fl,k.akeep,λn hn=>k.pres n (.inl hn),k.wle,k.io,k.frz,λn a h=>(k.fnew n a h).imp id λhh hb=>hh (.inl hb),k.nle⟩
def qdb(σ:Nat->Value)(Q:X->Tr AV->Hp->Prop)(nt n:Nat)(Z:Ren)(B:Nat->Prop)(h:Hp)(w:World)(ds:List Deferred)(e:Exit)(a:Act)(w':World):Prop :=
 ∃x t' h' Z' rs,XR x e/\Q x t' h'/\TR σ Z' t' a.tmps/\nt<=a.tmps.size/\a.defers=qlO rs++ds/\MarksOk w w' rs/\Rel σ Z' (BM B rs) h' w'/\Kep n Z B h w Z' h' w'
def qdb.of{Q:X->Tr AV->Hp->Prop}{nt n:Nat}{B:Nat->Prop}{h:Hp}{w:World}{ds:List Deferred}{e:Exit}{a:Act}{w':World}{x:X}{t':Tr AV}{h':Hp}(g1:XR x e)(g2:Q x t' h')(g3:TR σ Z' t' a.tmps)(g4:nt<=a.tmps.size)(g5:a.defers=ds)(g6:Rel σ Z' B h' w')(g7:Kep n Z B h w Z' h' w'):qdb σ Q nt n Z B h w ds e a w' :=
 ⟨x,t',h',Z',[],g1,g2,g3,g4,g5,MarksOk.nil _ _,by rw[qEs];exact g6,g7⟩
def qoh(P:Program)(f:Nat):Prop:=∃fn,P.funcs[f]?=some fn/\fn.name≠"runtime.NumGoroutine"/\fn.body.isSome=true
def qcL(P:Program)(f:FuncId)(args:Array Value)(w:World)(R:Ending->World->Prop):Prop :=
 (qoh P f/\Calls P f args w R)\/∃v w',(callFunc f args).run P w = .ok (.value v) w'/\R (.returned v) w'
theorem qcL.mono{P:Program}{f:FuncId}{args:Array Value}{w:World}{R R':Ending->World->Prop}(h:qcL P f args w R)(hr:∀e w,R e w->R' e w):qcL P f args w R':=by
 rcases h with⟨h1,h2⟩|⟨v,w',h1,h2⟩
 .exact .inl ⟨h1,Calls.mono h2 hr⟩
 .exact .inr Ag
def qo7(P:Program)(σ:Nat->Value)(f:Nat)(args:Array Value)(Z:Ren)(B:Nat->Prop)(h:Hp)(w:World)(k:AV->Hp->Prop):Prop :=
 qcL P f args w λe w'=>∃v v' h' Z',e = .returned v'/\k v h'/\VR σ Z' v v'/\Rel σ Z' B h' w'/\Kept Z B h w Z' h' w'
def qqy(_:Program)(_:Nat):Prop:=True
def Fr(ro:Option Nat):Fence:={ Fence.wide with round:=ro }
def qqb(P:Program)(σ:Nat->Value)(l:Nat)(args:Array Value)(Z:Ren)(B:Nat->Prop)(h:Hp)(w:World)(k:AV->Hp->Prop):Prop :=
 ∃fn tmps assign body,(Instr.yield l args).run P w = .ok (.round l fn tmps assign body) w /\
  ∀ro,RoundIn (Fr ro) 0 P l fn tmps assign body w λe w'=>∃v v' h' Z',e = .returned v'/\k v h'/\VR σ Z' v v'/\Rel σ Z' B h' w'/\Kept Z B h w Z' h' w'
def qdG(P:Program)(σ:Nat->Value)(C:zZ):Prop :=
 (∀f vs h k,C (Nat.succ f) vs h k->qqy P f/\∀Z B w (args:Array Value),Rel σ Z B h w->VRs σ Z vs args.toList->qo7 P σ f args Z B h w k) /\
 ∀b vs h k,C 0 (.yl b::vs) h k->∀Z B w (args:Array Value) L,Z b=some L->Rel σ Z B h w->VRs σ Z vs args.toList->qqb P σ L.blk args Z B h w k
def qqR{ro:Option Nat}{n:Nat}{f:FuncId}{args:Array Value}{w:World}{R:Ending->World->Prop}(h:Calls P f args w R):CallsIn (Fr ro) n P f args w R:=(callsIn_wide (n:=n)).2 h
theorem qaG(a:Act)(d:Option Tmp)(v:Value):(a.put d v).tmps.size=a.tmps.size:=by
 cases d<;>simp[Act.put]
def qaF(a:Act)(d:Option Tmp)(v:Value):(a.put d v).defers=a.defers:=by
 cases d<;>rfl
def TR.put{t:Tr AV}{a:Act}(ht:TR σ Z t a.tmps){nt:Nat}(hn:nt<=a.tmps.size){d:Option Tmp}{d':Option Nat}(hd:qqA nt d d'=true){v:AV}{v':Value}(hv:VR σ Z v v'){k:Tr AV->Prop}(hk:qap t d' v k) :
  ∃t',k t'/\TR σ Z t' (a.put d v').tmps:=by
 cases d<;>cases d'<;>simp[qqA]at hd
 .exact⟨t,hk,ht⟩
 .rename_i x y;obtain⟨rfl,hlt⟩:=hd;have hk':=(Tr.setK_iff _ _ _ _).1 hk;refine⟨_,hk',λn u hu=>?_⟩
  rw[zz4]at hu;have hlt':x<a.tmps.size:=Ag
  simp only[Act.put,Array.size_setIfInBounds];split at hu
  .exact Ae
  .rename_i hne;obtain⟨h1,h2⟩:=ht n u hu;refine⟨h1,?_⟩
   have:(a.tmps.setIfInBounds x v').getD n undef=a.tmps.getD n undef:=by
    rw[Array.getD_eq_getD_getElem?,Array.getD_eq_getD_getElem?,zzw,if_neg Ab]
   rw[this];exact h2
def qq0{t:Tr AV}{a:Act}(ht:TR σ Z t a.tmps){ops:Array Oper}{o:Oper}{g:Option (Nat×Bool)}(hg:qxf ops o.guard g=true){k:Bool->Prop}(hk:qa1 t g k) :
  k (Region.wanted o (yielded ops a.tmps)):=by
 cases hog:o.guard with
 | none =>
  rw[hog]at hg;cases g with
  | none=>simp only[Region.wanted,hog];exact hk
  | some _=>simp[qxf]at hg
 | some jb =>
  obtain⟨j,b⟩:=jb;rw[hog]at hg;cases g with
  | none=>simp[qxf]at hg
  | some dc =>
   obtain⟨d,c⟩:=dc;simp only[qxf,zzB]at hg;obtain⟨h1,h2⟩:=hg;obtain rfl:=eq_of_beq h1;have h2':=eq_of_beq h2
   have hk':t.getK d (λv=>match v with
    | .b x=>zl (x==b) k
    | .tup _=>k false
    | _=>False):=hk
   obtain⟨v,hv,hk2⟩:=(Tr.getK_iff _ _ _).1 hk';obtain⟨hlt,hvr⟩:=ht d v hv
   have hy:yielded ops a.tmps j=match a.tmps.getD d undef with | .bool b=>some b|_=>none:=by
    have e1:a.tmps[d]?=some (a.tmps.getD d undef):=by
     rw[Array.getD_eq_getD_getElem?,Array.getElem?_eq_getElem hlt];rfl
    simp only[yielded,h2',Option.bind_some,e1];cases a.tmps.getD d undef<;>rfl
   simp only[Region.wanted,hog,hy];cases v<;>try exact hk2.elim
   .rename_i x;rw[hvr.un_b];rw[show((some x==some b))=(x==b)from rfl]
    exact Ae
   grind[VR.un_tup]
def qsB(tm:Array Value):ResultVar->Sem Value
 | .tmp t=>pure (tm.getD t undef)
 | .cell a t=>do loadVar t (<- asAddr (tm.getD a undef))
def qnw(fn:Func)(tm:Array Value):results fn tm=(do let vs <- fn.results.mapM (qsB tm);pure (if h:vs.size=1 then vs[0]else .tuple vs)):=by
 have:qsB tm=(fun
  | .tmp t=>pure (tm.getD t undef)
  | .cell a t=>do loadVar t (<- asAddr (tm.getD a undef))):=by
  funext x;cases x<;>rfl
 rw[this];rfl
def qsC{B:Nat->Prop}{h:Hp}{w:World}(r:Rel σ Z B h w){t:Tr AV}{tm:Array Value}(ht:TR σ Z t tm):∀(rs:List ResultVar) (is:List RV),qcO P rs is=true->∀(k:List AV->Prop),qa6 t h is k->
  ∃vs vs',k vs/\VRs σ Z vs vs'/\(rs.mapM (qsB tm)).run P w = .ok vs' w
 | [],is,hc,k,hk=>by
  cases is with
  | nil=>exact⟨[],[],hk,.nil,by simp⟩
  | cons=>simp[qcO]at hc
 | x::rs,is,hc,k,hk=>by
  cases is with
  | nil=>cases x<;>simp[qcO]at hc
  | cons y is =>
   cases x with
   | tmp n =>
    cases y with
    | tmp m =>
     simp only[qcO,zzB]at hc;obtain⟨h1,hc⟩:=hc;obtain rfl:=eq_of_beq h1;have hk':t.getK n (λv=>qa6 t h is (λvs=>k (v::vs))):=hk
     obtain⟨v,hv,hk2⟩:=(Tr.getK_iff _ _ _).1 hk';obtain⟨vs,vs',h2,h3,h4⟩:=qsC r ht rs is hc _ hk2;refine⟨v::vs,_::vs',h2,.cons _ _ _ _ (ht n v hv).2 h3,?_⟩;rw[List.mapM_cons];simp only[Sem.run_bind,qsB,Sem.run_pure,Result.andThen_ok];have h4':=h4
     exact Ae
    | cell=>simp[qcO]at hc
   | cell n ty =>
    cases y with
    | tmp=>simp[qcO]at hc
    | cell m size agg =>
     simp only[qcO,zzB]at hc;obtain⟨⟨⟨⟨h1,h2⟩,h3⟩,h4⟩,hc⟩:=hc;obtain rfl:=eq_of_beq h1;have h2:=eq_of_beq h2;have hk':t.getK n (λp=>unP p (λb o=>Bool.rec (motive:=λ_=>Prop) (ldK h b o (λv=>qa6 t h is (λvs=>k (v::vs)))) (qfG h b o size (λcs=>qa6 t h is (λvs=>k (.agg cs::vs)))) agg)):=hk
     obtain⟨p,hp,hk2⟩:=(Tr.getK_iff _ _ _).1 hk';obtain⟨b,o,L,g1,g2,g3⟩:=qsL (ht n p hp).2 hk2
     have hload:∃v v',VR σ Z v v'/\qa6 t h is (λvs=>k (v::vs))/\(loadVar ty ⟨L.blk,L.off+o,none⟩).run P w = .ok v' w:=by
      cases agg with
      | false =>
       obtain⟨v,v',g4,g5,g6⟩:=qDU r g1 g3;exact⟨v,v',g5,g4,by simp[loadVar,qef h3,h2,g6]⟩
      | true =>
       obtain⟨cs,vs,g4,g5,g6,g7⟩:=qjo r g1 g3;refine⟨.agg cs,.agg vs.toArray,.agg _ _ Ab,g4,?_⟩;have hsz:zA P ty size=true:=Ae
       simp[loadVar,qef h3,h2,xy hsz,qfl g6 g7]
     obtain⟨v,v',g4,g5,g6⟩:=hload;obtain⟨vs,vs',h5,h6,h7⟩:=qsC r ht rs is hc _ g5;refine⟨v::vs,v'::vs',h5,.cons _ _ _ _ g4 h6,?_⟩;rw[List.mapM_cons];have hx:(qsB tm (.cell n ty)).run P w = .ok v' w:=by simp[qsB,g2,asAddr,g6]
     rw[Sem.run_bind,hx,Result.andThen_ok,Sem.run_bind,h7];rfl
def qnx{B:Nat->Prop}{h:Hp}{w:World}(r:Rel σ Z B h w){t:Tr AV}{tm:Array Value}(ht:TR σ Z t tm){fn:Func}{is:List RV}(hc:qcO P fn.results.toList is=true){k:AV->Hp->Prop}(hk:qa6 t h is (λvs=>k (qaD vs) h)) :
  ∃v v',k v h/\VR σ Z v v'/\(results fn tm).run P w = .ok v' w:=by
 obtain⟨vs,vs',h1,h2,h3⟩:=qsC r ht fn.results.toList is hc _ hk
 have hm:(fn.results.mapM (qsB tm)).run P w = .ok vs'.toArray w:=by
  rcases hfr:fn.results with⟨l⟩;rw[List.mapM_toArray];rw[hfr]at h3;simp only[Sem.run_map,h3,Result.andThen_ok]
 have hl:=h2.length;refine⟨_,if h:vs'.toArray.size=1 then vs'.toArray[0]else .tuple vs'.toArray,h1,?_,?_⟩
 .cases h2 with
  | nil=>simpa[qaD]using VR.tup (σ:=σ) (Z:=Z) [] #[] .nil
  | cons v vs v' vs' h4 h5 =>
   cases h5 with
   | nil=>simpa[qaD]using h4
   | cons u us u' us' h6 h7 =>
    have:qaD (v::u::us) = .tup (v::u::us):=rfl;rw[this,dif_neg (by simp)];exact .tup _ _ (by simpa using VRs.cons _ _ _ _ h4 (.cons _ _ _ _ h6 h7))
 simp_all[qnw]
theorem qd7{f:Nat}{fn:Func}(hf:P.funcs[f]?=some fn)(hn:fn.name≠"runtime.NumGoroutine")(hb:fn.body.isSome=true)(args:Array Value)(w:World):(callFunc f args).run P w = .ok (.enter f args) w:=by
 obtain⟨c,hc⟩:=zzx.1 hb;simp[callFunc,hf,hn,hc]
def qqB{c:Call}{io:IOp}(h:qjN P (.defer c) io=true):io = .no:=by
 cases io<;>first|rfl|exact absurd h Bool.false_ne_true
theorem qiD(horc:OrcOk P σ orc){C:zZ}(hs:qdG P σ C){ro:Option Nat}{B:Nat->Prop}{h:Hp}{w:World}(r:Rel σ Z B h w){t:Tr AV}{a:Act}(ht:TR σ Z t a.tmps){o:Oper}{rk:RK}(hc:qhx P o.op rk=true)
  {k:AV->Hp->Prop}(hk:qdB orc C rk t h k) (next:Act->World->Prop) (Q:Exit->Act->World->Prop)
  (hn:∀v v' h' Z' w',k v h'->VR σ Z' v v'->Rel σ Z' B h' w'->Kept Z B h w Z' h' w'->next (a.put o.dst v') w'):o.wpIn (Fr ro) 0 P a w next Q:=by
 refine⟨λ_ _=>trivial,?_⟩
 generalize hoo:o.op=oo at hc;unfold qhx at hc
 have callCase:∀{f:Nat}{vs:List AV}{args:Array Value},(∀c,o.op≠.defer c)->C (Nat.succ f) vs h k->VRs σ Z vs args.toList->((execOp a.eval o).run P w=(callFunc f args).run P w)->o.uponIn (Fr ro) 0 P a next Q ((o.semAt (Fr ro).round a.eval).run P w):=by
  intro f vs args hd h1 h2 h3;obtain⟨-,h5⟩:=hs.1 f vs h k h1;rw[Oper.semAt_eq _ _ _ hd,h3];rcases h5 Z B w args r h2 with⟨⟨fn,g1,g2,g3⟩,h6⟩|⟨v0,w',h6,v,v',h',Z',he,g1,g2,g3,g4⟩
  .rw[qd7 g1 g2 g3,Oper.uponIn_enter];refine⟨λhh=>(by cases hh),qqR (Calls.mono h6 ?_)⟩
   rintro e w' ⟨v,v',h',Z',rfl,g1,g2,g3,g4⟩;exact Ag
  .cases he;rw[h6,Oper.uponIn_value];exact Ag
 split at hc
 .rename_i f args argTypes g bs;simp only[zzB]at hc;obtain⟨h1,h2⟩:=hc;obtain rfl:=eq_of_beq h1;obtain⟨vs,h3,h4⟩:=qji ht h2 hk;refine callCase Ae h3 (args:=args.map a.eval) (by simpa using h4) ?_;exact I1
 .rename_i x args argTypes y bs;simp only[zzB]at hc;obtain⟨h1,h2⟩:=hc;obtain⟨v,h3,h4⟩:=zx ht h1 hk;obtain⟨vs,h5,h6⟩:=qji ht h2 h3;cases v<;>try exact h5.elim
  rotate_left
  .rename_i b;obtain⟨L,h7,h8⟩:=h4.un_yl;obtain⟨fn,tmps,as',bd,q1,q2⟩:=hs.2 b vs h k h5 Z B w (args.map a.eval) L h7 r (by simpa using h6);rw[Oper.semAt_eq _ _ _ Ae]
   have e1:(execOp a.eval o).run P w = .ok (.round L.blk fn tmps as' bd) w:=Gb
   rw[e1,Oper.uponIn_round];refine⟨λhh=>(by cases hh),(q2 ro).mono ?_⟩
   rintro e w' ⟨v,v',h',Z',rfl,g1,g2,g3,g4⟩;exact Ag
  rename_i f first cap
  obtain⟨a',c',h7,h8,h9⟩:=h4.un_fn;refine callCase Ae h5 (args:=a'++args.map a.eval++c') Eg ?_
  simp[execOp,hoo,resolve,h9,Deferred.ofValue,invoke]
 .rename_i f args argTypes g bs;simp only[zzB]at hc;obtain⟨h1,h2⟩:=hc;obtain rfl:=eq_of_beq h1;obtain⟨vs,h3,h4⟩:=qji ht h2 hk;refine callCase Ae h3 (args:=args.map a.eval) (by simpa using h4) ?_;exact I1
 .rename_i x args argTypes y bs;simp only[zzB]at hc;obtain⟨h1,h2⟩:=hc;obtain⟨v,h3,h4⟩:=zx ht h1 hk;obtain⟨vs,h5,h6⟩:=qji ht h2 h3;cases v<;>try exact h5.elim
  rotate_left
  .rename_i b;obtain⟨L,h7,h8⟩:=h4.un_yl;obtain⟨fn,tmps,as',bd,q1,q2⟩:=hs.2 b vs h k h5 Z B w (args.map a.eval) L h7 r (by simpa using h6);rw[Oper.semAt_eq _ _ _ Ae]
   have e1:(execOp a.eval o).run P w = .ok (.round L.blk fn tmps as' bd) w:=Gb
   rw[e1,Oper.uponIn_round];refine⟨λhh=>(by cases hh),(q2 ro).mono ?_⟩
   rintro e w' ⟨v,v',h',Z',rfl,g1,g2,g3,g4⟩;exact Ag
  rename_i f first cap
  obtain⟨a',c',h7,h8,h9⟩:=h4.un_fn;refine callCase Ae h5 (args:=a'++args.map a.eval++c') Eg ?_
  simp[execOp,hoo,resolve,h9,Deferred.ofValue,invoke]
 .by_cases hd:∃c,o.op = .defer c
  .obtain⟨c,hd⟩:=hd;rw[hoo]at hd;subst hd;have:=qqB hc;subst this;exact hk.elim
  obtain⟨v,v',h',Z',w',g1,g2,g3,g4,g5⟩:=qKy (o:=o) horc r ht (by rw[hoo];exact hc) hk;rw[Oper.semAt_eq _ _ _ Ae];rcases g2 with g2|⟨g2,rfl⟩
  .rw[g2,Oper.uponIn_value];exact Ag
  .rw[g2,Oper.uponIn_skip];exact Ag
 exact Ae
theorem qkx(horc:OrcOk P σ orc){C:zZ}(hs:qdG P σ C){ro:Option Nat}{B:Nat->Prop}{h:Hp}{w:World}(r:Rel σ Z B h w){t:Tr AV}{a:Act}(ht:TR σ Z t a.tmps){o:Oper}{rk:RK}(hc:qhx P o.op rk=true)
  {k:AV->Hp->Prop}(hk:qie (qdB orc C rk t) h k) (next:Act->World->Prop) (Q:Exit->Act->World->Prop)
  (hn:∀v v' h' Z' w',k v h'->VR σ Z' v v'->Rel σ Z' B h' w'->Kept Z B h w Z' h' w'->(∀b,b<h.sz->h'.tr.get b=h.tr.get b)->(∀n,n<w.heap.size->w'.heap[n]?=w.heap[n]?)->(∀b L,Z' b=some L->h.sz<=b->w.heap.size<=L.blk)->(∀k a,Z'.frz k=some a->Z.frz k=some a\/w.heap.size<=k)->next (a.put o.dst v') w'):o.wpIn (Fr ro) 0 P a w next Q:=by
 cases h with
 | mk sz fl tr =>
  have hk':qdB orc C rk t ⟨sz,sz,tr⟩ (λv h'=>Hp.rec (motive:=λ_=>Prop) (λsz' _ tr'=>k v ⟨sz',fl,tr'⟩) h'):=hk
  have r1:Rel σ Z (low w.heap.size) ⟨sz,sz,tr⟩ w:=⟨r.dom,r.cells,r.maps,r.excl,r.exclm,r.app,λb L hb hf=>absurd (r.dom b L hb) Ag,λ_ h=>h,r.frz,r.dn⟩
  refine qiD horc hs r1 ht hc hk' next Q ?_
  intro v v' h' Z' w' g1 g2 g3 g4;cases h' with
  | mk sz' fl' tr' =>
   have e1:fl'=sz:=g4.fl;have hnew:∀b L,Z' b=some L->sz<=b->w.heap.size<=L.blk:=λb L hb hf=>I6
   refine hn v v' ⟨sz',fl,tr'⟩ Z' w' g1 g2 ⟨g3.dom,g3.cells,g3.maps,g3.excl,g3.exclm,g3.app,?_,qgs r.base g4.wle,g3.frz,g3.dn⟩ ⟨g4.ext,g4.szle,rfl,λb _ hb=>g4.akeep b hb hb,Cn,g4.wle,g4.io,g4.frz,λk a h=>(g4.fnew k a h).imp id (λhh=>qaB r.base (Nat.not_lt.1 hh)),g4.nle⟩ (λb hb=>g4.akeep b hb hb) g4.pres hnew (by grind[Kept.fnew])
   intro b L hb hf
   by_cases hlt:b<sz
   .exact r.flr b L (by grind[Kept.ext]) hf
   .exact qaB r.base Ag
def qzN(horc:OrcOk P σ orc){C:zZ}(hs:qdG P σ C){ro:Option Nat}{draw:Bool}{B:Nat->Prop}{h:Hp}{w:World}(r:Rel σ Z B h w){t:Tr AV}{a:Act}(ht:TR σ Z t a.tmps){o:Oper}{rk:RK}(hc:qhx P o.op rk=true)
  {k:AV->Hp->Prop}(hk:qjB orc draw C rk t h k) (next:Act->World->Prop) (Q:Exit->Act->World->Prop)
  (hn:∀v v' h' Z' w',k v h'->VR σ Z' v v'->Rel σ Z' B h' w'->Kept Z B h w Z' h' w'->next (a.put o.dst v') w'):o.wpIn (Fr ro) 0 P a w next Q:=by
 rcases(qfV _ _ _).1 hk with⟨_,hk⟩|⟨_,hk⟩
 .exact by grind[qiD]
 grind[qkx]
def qli(horc:OrcOk P σ orc){C:zZ}(hs:qdG P σ C){ro:Option Nat}{nt:Nat}{ops:Array Oper}{Q:Tr AV->Hp->Prop}{K:Exit->Act->World->Prop}{Z0:Ren}{B:Nat->Prop}{h0:Hp}{w0:World}{ds:List Deferred}
  (hK:∀a w t h Z',Q t h->TR σ Z' t a.tmps->nt<=a.tmps.size->a.defers=ds->Rel σ Z' B h w->Kept Z0 B h0 w0 Z' h w->K .normal a w) :
  ∀(os:List Oper) (rs:List ROp) (i:Nat),qer P ops nt os rs=true->ops.toList.drop i=os->∀t h Z w (a:Act),qkz orc false C rs Q t h->TR σ Z t a.tmps->nt<=a.tmps.size->a.defers=ds->Rel σ Z B h w->Kept Z0 B h0 w0 Z h w->
   wpOpsIn (Fr ro) 0 P ops K (List.range' i os.length) a w
 | [],rs,i,hc,hd,t,h,Z,w,a,hk,ht,hsz,hds,r,hkept=>by
  cases rs with
  | nil=>exact hK a w t h Z hk ht hsz hds r hkept
  | cons=>simp[qer]at hc
 | o::os,rs,i,hc,hd,t,h,Z,w,a,hk,ht,hsz,hds,r,hkept=>by
  cases rs with
  | nil=>simp[qer]at hc
  | cons rr rs =>
   obtain⟨dst,rk,g⟩:=rr;simp only[qer,qsb,zzB]at hc;obtain⟨⟨⟨hc1,hc2⟩,hc3⟩,hc⟩:=hc
   have ho:ops[i]?=some o:=by
    have:=congrArg (λl=>l[0]?) hd
    exact Ag
   have hd':ops.toList.drop (i+1)=os:=Jt
   have hk':qa1 t g (λgo=>Bool.rec (motive:=λ_=>Prop)
    (qap t dst (.tup []) (λt'=>qkz orc false C rs Q t' h)) (qjB orc false C rk t h (λv h'=>qap t dst v (λt'=>qkz orc false C rs Q t' h'))) go):=hk
   have hgo:=qq0 (ops:=ops) (o:=o) ht hc2 hk';simp only[zze,List.range'_succ,wpOpsIn,ho];cases hw:Region.wanted o (yielded ops a.tmps)with
   | false =>
    rw[hw]at hgo;obtain⟨t',h1,h2⟩:=ht.put hsz hc1 (.tup [] #[] .nil) hgo;simp only[Bool.false_eq_true,if_false];exact⟨λ_ _=>trivial,qli horc hs hK os rs (i+1) hc hd' t' h Z w _ h1 h2 (by rw[qaG];exact Ab) (by rw[qaF];exact Ab) r hkept⟩
   | true =>
    rw[hw]at hgo;simp only[if_true];refine qzN horc hs r ht hc3 hgo _ _ ?_;intro v v' h' Z' w' g1 g2 g3 g4;obtain⟨t',h1,h2⟩:=(ht.mono (g4.mono r.dom)).put hsz hc1 g2 g1;exact qli horc hs hK os rs (i+1) hc hd' t' h' Z' w' _ h1 h2 (by rw[qaG];exact Ab) (by rw[qaF];exact Ab) g3 (hkept.trans g4)
theorem qdb.weaken{Q:X->Tr AV->Hp->Prop}{nt n:Nat}{Z0:Ren}{B:Nat->Prop}{h0:Hp}{w0:World}{ds:List Deferred}{h:Hp}{w:World}(hkept:Kep n Z0 B h0 w0 Z h w){e:Exit}{a:Act}{w':World}(hp:qdb σ Q nt n Z B h w ds e a w'):qdb σ Q nt n Z0 B h0 w0 ds e a w':=by
 obtain⟨x,t',h',Z',rs,h1,h2,h3,h4,h5,h6,h7,h8⟩:=hp;exact⟨x,t',h',Z',rs,h1,h2,h3,h4,h5,⟨h6.nodup,λr hr=>zzg hkept.wle (h6.new r hr),h6.at'⟩,h7,hkept.trans h8⟩
theorem qdb.trans{Q:X->Tr AV->Hp->Prop}{nt n:Nat}{Z0:Ren}{B:Nat->Prop}{h0:Hp}{w0:World}{ds ds1:List Deferred}{h:Hp}{w:World}{rs:List Nat}(hkept:Kep n Z0 B h0 w0 Z h w)(hm:MarksOk w0 w rs)(hd:ds1=qlO rs++ds)(hr:∀r ∈ rs,r<w.heap.size)
  {e:Exit}{a:Act}{w':World}(hp:qdb σ Q nt n Z (BM B rs) h w ds1 e a w'):qdb σ Q nt n Z0 B h0 w0 ds e a w':=by
 obtain⟨x,t',h',Z',rs',h1,h2,h3,h4,h5,h6,h7,h8⟩:=hp;refine⟨x,t',h',Z',rs'++rs,h1,h2,h3,h4,by rw[h5,hd,qlO,qlO,qlO,List.map_append,zzi],⟨?_,?_,?_⟩,by rw[qEr]at h7;exact h7,hkept.trans h8.bm⟩
 .refine List.nodup_append.2 ⟨h6.nodup,hm.nodup,?_⟩;rintro r h9 r' h10 rfl;have:=h6.new r h9;have:=hr r h10;exact Ab
 .intro r hr';rcases zzd.1 hr' with h9|h9
  .exact zzg hkept.wle (h6.new r h9)
  .exact hm.new r h9
 .intro r hr';rcases zzd.1 hr' with h9|h9
  .exact h6.at' r h9
  .rw[h8.pres r (.inr h9)];exact hm.at' r h9
theorem MarksOk.lt{w w':World}{rs:List Nat}(h:MarksOk w w' rs):∀r ∈ rs,r<w'.heap.size:=λr hr=>(Array.getElem?_eq_some_iff.1 (h.at' r hr)).1
def qjG(t t':Tr AV)(ns:List Nat):Prop:=∀n ∈ ns,t'.get n=t.get n
theorem qjG.sub{t t':Tr AV}{ns ms:List Nat}(h:qjG t t' ns)(hs:∀n ∈ ms,n ∈ ns):qjG t t' ms:=λn hn=>h n (hs n hn)
def qdk{t t':Tr AV}{x:O}(h:qjG t t' (xR x)):evK t' x=evK t x:=by
 cases x with
 | c v=>rfl
 | t n =>
  funext k;apply propext;show t'.getK n k↔t.getK n k;rw[Tr.getK_iff,Tr.getK_iff,h n (by simp[xR])]
def qee{t t':Tr AV}:∀{xs:List O}(_:qjG t t' (qc8 xs)),qaq t' xs=qaq t xs
 | [],_=>rfl
 | x::xs,h=>by
  have e1:=qdk (x:=x) (h.sub λn hn=>by simp[qc8,hn])
  have e2:=qee (xs:=xs) (h.sub λn hn=>by simp only[qc8,zzv,zzd]at hn ⊢;exact Ae)
  funext k;show evK t' x (λv=>qaq t' xs (λvs=>k (v::vs)))=evK t x (λv=>qaq t xs (λvs=>k (v::vs)))
  rw[e1,e2]
def qvN{t t':Tr AV}{x:Option O}(h:qjG t t' (qeL x)):qbg t' x=qbg t x:=by
 cases x with
 | none=>rfl
 | some x =>
  funext k;show evK t' x (λv=>k (some v))=evK t x (λv=>k (some v))
  rw[qdk h]
def qmQ{t t':Tr AV}:∀{ps:List (Nat×Nat×O)}(_:qjG t t' (qni ps)),qai t' ps=qai t ps
 | [],_=>rfl
 | p::ps,h=>by
  have e1:=qdk (x:=p.2.2) (h.sub λn hn=>by simp[qni,hn])
  have e2:=qmQ (ps:=ps) (h.sub λn hn=>by simp only[qni,zzv,zzd]at hn ⊢;exact Ae)
  funext l k;show evK t' p.2.2 (λv=>qv (qdJ v) (qE p.1 (λoff=>qiJ (cellsOf v) (λn=>qv (Nat.beq n p.2.1) (wH (cellsOf v) off l (λl'=>qai t' ps l' k))))))=evK t p.2.2 (λv=>qv (qdJ v) (qE p.1 (λoff=>qiJ (cellsOf v) (λn=>qv (Nat.beq n p.2.1) (wH (cellsOf v) off l (λl'=>qai t ps l' k))))))
  rw[e1,e2]
def qhs{t t':Tr AV}(b:Nat):∀{ps:List Nat}(_:qjG t t' ps),jN t' b ps=jN t b ps
 | [],_=>rfl
 | q::ps,h=>by
  have e1:t'.getK q=t.getK q:=qdk (x:=.t q) (t:=t) (t':=t') (λn hn=>h n (by simp[xR]at hn;exact Ag))
  have e2:=qhs b (ps:=ps) (h.sub λn hn=>Ag)
  funext p;show t'.getK q (λy=>match y with | .ptr b' _=>qv (not (Nat.beq b' b)) (jN t' b ps p) | .pf _ _=>jN t' b ps p|_=>False)=t.getK q (λy=>match y with | .ptr b' _=>qv (not (Nat.beq b' b)) (jN t b ps p) | .pf _ _=>jN t b ps p|_=>False)
  rw[e1,e2]
def qy7{t t':Tr AV}{o:IOp}(h:qjG t t' (qJ o)):opK orc o t'=opK orc o t:=by
 have hv:∀x,(∀n ∈ xR x,n ∈ qJ o)->evK t' x=evK t x:=λx hx=>qdk (h.sub hx)
 have ho:∀x,(∀n ∈ qeL x,n ∈ qJ o)->qbg t' x=qbg t x:=λx hx=>qvN (h.sub hx)
 have hp:∀x,(∀n ∈ qni x,n ∈ qJ o)->qai t' x=qai t x:=λx hx=>qmQ (h.sub hx)
 have hs:∀x,(∀n ∈ qc8 x,n ∈ qJ o)->qaq t' x=qaq t x:=λx hx=>qee (h.sub hx)
 funext hh k;cases o<;>simp only[opK]
 case mov x=>exact Co
 case pick c x y=>rw[hv c Ai,hv x Ai,hv y Ai]
 case box x=>exact Co
 case build z ps=>rw[hp ps (by simp[qJ])]
 case buildS n z ps=>rw[hp ps (by simp[qJ])]
 case load1 x=>exact Co
 case loadN n x=>exact Co
 case store n x v=>rw[hv x Ai,hv v Ai]
 case nilChk x=>exact Co
 case bin op x y=>rw[hv x Ai,hv y Ai]
 case eqB neg x y=>rw[hv x Ai,hv y Ai]
 case eqN neg q x=>exact Co
 case un op x=>exact Co
 case cvInt k x=>exact Co
 case fAddr off x=>exact Co
 case fld off n x=>exact Co
 case iAddrA len esz x i=>rw[hv x Ai,hv i Ai]
 case iAddrS esz x i=>rw[hv x Ai,hv i Ai]
 case idxA len esz agg x i=>rw[hv x Ai,hv i Ai]
 case idxS x i=>rw[hv x Ai,hv i Ai]
 case slcS esz x lo hi mx=>rw[hv x Ai,ho lo Ai,ho hi Ai,ho mx Ai]
 case slcStr x lo hi=>rw[hv x Ai,ho lo Ai,ho hi Ai]
 case slcA len esz x lo hi mx=>rw[hv x Ai,ho lo Ai,ho hi Ai,ho mx Ai]
 case ext x i=>exact Co
 case mkF f a c=>rw[hs a Ai,hs c Ai]
 case mkS esz bytes z len cap=>rw[hv len Ai,hv cap Ai]
 case len str x=>exact Co
 case app esz bytes c s x=>rw[hv s Ai,hv x Ai]
 case max x y=>rw[hv x Ai,hv y Ai]
 case clear z x=>exact Co
 case lookM kd ok z x i=>rw[hv x Ai,hv i Ai]
 case updM kd x i v=>rw[hv x Ai,hv i Ai,hv v Ai]
 case min x y=>rw[hv x Ai,hv y Ai]
 case storeD n x v ps =>
  have e:=λb=>qhs (t:=t) (t':=t') b (ps:=ps) (h.sub λn hn=>by simp[qJ,hn])
  rw[hv x Ai,hv v Ai]
  exact Ae
 case appD esz bytes s x ps =>
  have e:=λb=>qhs (t:=t) (t':=t') b (ps:=ps) (h.sub λn hn=>by simp[qJ,hn])
  rw[hv s Ai,hv x Ai];have e2:∀s p,qbF t' ps s p=qbF t ps s p:=λs p=>by cases s<;>first|rfl|simp only[qbF,e]
  exact Ae
def qsE{C:zZ}{t t':Tr AV}{r:RK}(h:qjG t t' (qgG r)):qdB orc C r t'=qdB orc C r t:=by
 cases r with
 | op o=>exact qy7 h
 | callF f args =>
  exact Do
 | callV x args =>
  exact Da
 | callW f args =>
  exact Do
 | callVW x args =>
  exact Da
def qvZ{C:zZ}{t t':Tr AV}{draw:Bool}{r:RK}(h:qjG t t' (qgG r)):qjB orc draw C r t'=qjB orc draw C r t:=by
 funext hh k;simp only[qjB,qsE h]
def qqY{t t':Tr AV}{g:Option (Nat×Bool)}(h:qjG t t' (match g with|some g=>[g.1]|none=>[])):qa1 t' g=qa1 t g:=by
 cases g with
 | none=>rfl
 | some g =>
  funext k;have e:=qdk (x:=.t g.1) (t:=t) (t':=t') (λn hn=>h n (by simpa[xR]using hn))
  have e':t'.getK g.1=t.getK g.1:=e;simp only[qa1,e']
def only(t:Tr AV):List Nat->Tr AV
 | []=>.leaf
 | n::ns=>match t.get n with|some v=>(only t ns).set n v|none=>only t ns
def qh8(t:Tr AV):∀(ns:List Nat) (n:Nat),(only t ns).get n=if n ∈ ns then t.get n else none
 | [],n=>by simp[only]
 | m::ns,n=>by
  simp only[only];cases h:t.get m with
  | none =>
   simp only;rw[qh8 t ns n]
   exact Ag
  | some v =>
   simp only;rw[zz4,qh8 t ns n]
   exact Ag
def L3.b1'{α β γ δ:Type}{G:(α->β->γ->Prop)->Prop}{F:α->β->γ->(δ->Prop)->Prop}(hG:L3 G)(hF:∀x y z,L1 (F x y z)):L1 (λk=>G (λx y z=>F x y z k)):=λ_ h=>by
 obtain⟨x,y,z,h1,h2⟩:=hG _ h;obtain⟨u,h3,h4⟩:=hF x y z _ h1;exact Ag
def qCD{o:IOp}(hp:qcq (.op o)=true){t:Tr AV}{h:Hp}{k:AV->Hp->Prop}(hk:opK orc o t h k):∃v,k v h/\∀h2 (k2:AV->Hp->Prop),k2 v h2->opK orc o t h2 k2:=by
 have mk:∀{G:(AV->Prop)->Prop},L1 G->G (λv=>k v h)->∃v,k v h/\∀h2 (k2:AV->Hp->Prop),k2 v h2->G (λv=>k2 v h2):=by
  intro G hG h1;obtain⟨v,h2,h3⟩:=hG _ h1
  exact Ag
 cases o<;>first|(simp[qcq]at hp;done)|skip
 case mov x=>exact mk (qH t x) hk
 case pick c x y=>exact mk (G:=λk=>evK t c (λc=>unB c (λc=>Bool.rec (motive:=λ_=>Prop) (evK t y k) (evK t x k) c))) (L1.b1 (qH t c) λc=>L1.b1 (qkL c) λc=>L1.br _ (qH t y) (qH t x)) hk
 case bin op x y=>exact mk (G:=λk=>evK t x (λx=>evK t y (λy=>x9 orc op x y k))) (L1.b1 (qH t x) λx=>L1.b1 (qH t y) (by grind[qwD])) hk
 case eqB neg x y=>exact mk (G:=λk=>evK t x (λx=>evK t y (λy=>unB x (λx=>unB y (λy=>zl (xor neg (x==y)) (λr=>k (.b r))))))) (L1.b1 (qH t x) λx=>L1.b1 (qH t y) λy=>L1.b1 (qkL x) λx=>L1.b1 (qkL y) λy=>L1.b1 (xT _) λr=>L1.ret _) hk
 case un op x=>exact mk (G:=λk=>evK t x (λx=>qfq op x k)) (L1.b1 (qH t x) λx=>qub op x) hk
 case cvInt q x=>exact mk (G:=λk=>evK t x (λx=>cvK orc q x k)) (L1.b1 (qH t x) (by grind[qDI])) hk
 case fAddr off x=>exact mk (G:=λk=>evK t x (λp=>qjr p off k)) (L1.b1 (qH t x) λp=>qpG _ _) hk
 case iAddrA len esz x i=>exact mk (G:=λk=>evK t x (λp=>evK t i (λi=>unN i (λi=>qv (Nat.ble (Nat.succ i) len) (qjr p (Nat.mul i esz) k))))) (L1.b1 (qH t x) λp=>L1.b1 (qH t i) λi=>L1.b1 (qhi i) λi=>L1.wh _ (qpG _ _)) hk
 case iAddrS esz x i =>
  refine mk (G:=λk=>evK t x (λx=>match x with
   | .sl b o len _ _=>evK t i (λi=>unN i (λi=>qv (Nat.ble (Nat.succ i) len) (qE (Nat.add o (Nat.mul i esz)) (λo'=>k (.ptr b o')))))
   | .fz len cs=>evK t i (λi=>unN i (λi=>qv (Nat.ble (Nat.succ i) len) (qE (Nat.mul i esz) (λo'=>k (.pf cs o')))))
   | .own b len=>evK t i (λi=>unN i (λi=>qv (Nat.ble (Nat.succ i) len) (qE (Nat.mul i esz) (λo'=>k (.ptr b o')))))
   | _=>False)) (L1.b1 (qH t x) λx=>?_) hk
  cases x<;>dsimp only<;>first|exact L1.no|exact L1.b1 (qH t i) λi=>L1.b1 (qhi i) λi=>L1.wh _ (L1.b1 (zy _) λo'=>L1.ret _)
 case nilChk x =>
  refine mk (G:=λk=>evK t x (λv=>match v with | .ptr b o=>k (.ptr b o) | .fn f a c=>k (.fn f a c) | .map r=>k (.map r) | .pf cs o=>k (.pf cs o) | .yl b=>k (.yl b)|_=>False)) (L1.b1 (qH t x) λx=>?_) (show evK t x (λv=>match v with | .ptr b o=>k (.ptr b o) h | .fn f a c=>k (.fn f a c) h | .map r=>k (.map r) h | .pf cs o=>k (.pf cs o) h | .yl b=>k (.yl b) h|_=>False)from hk)
  cases x<;>dsimp only<;>first|exact L1.no|exact L1.ret _
 case eqN neg q x=>exact mk (G:=λk=>evK t x (λx=>wA q x (λr=>zl (xor neg r) (λr=>k (.b r))))) (L1.b1 (qH t x) λx=>L1.b1 (qq8 q x) λr=>L1.b1 (xT _) λr=>L1.ret _) hk
 case fld off n x =>
  refine mk (G:=λk=>evK t x (λx=>match x with
   | .agg cs=>Option.rec (motive:=λ_=>Prop) (qjt cs off k) (λn=>qdX off cs (λl=>qdD n l (λl=>k (.agg l)))) n
   | _=>False)) (L1.b1 (qH t x) λx=>?_) hk
  cases x<;>dsimp only<;>try exact L1.no
  cases n
  all_goals simp_all[qju,L1.b1,qgw,qfp,L1.ret]
 case min x y=>exact mk (G:=λk=>evK t x (λx=>evK t y (λy=>unI x (λq n=>unI y (λ_ m=>Bool.rec (motive:=λ_=>Prop) (k (.i q n)) (k (.i q m)) (ltI m n)))))) (L1.b1 (qH t x) λx=>L1.b1 (qH t y) λy=>L2.b1 (qlT x) λq n=>L2.b1 (qlT y) λ_ m=>L1.br _ (L1.ret _) (L1.ret _)) hk
 case max x y=>exact mk (G:=λk=>evK t x (λx=>evK t y (λy=>unI x (λq n=>unI y (λ_ m=>Bool.rec (motive:=λ_=>Prop) (k (.i q n)) (k (.i q m)) (ltI n m)))))) (L1.b1 (qH t x) λx=>L1.b1 (qH t y) λy=>L2.b1 (qlT x) λq n=>L2.b1 (qlT y) λ_ m=>L1.br _ (L1.ret _) (L1.ret _)) hk
 case build z ps=>exact mk (G:=λk=>qai t ps z (λcs=>k (.agg cs))) (L1.b1 (qjU t ps z) λcs=>L1.ret _) hk
 case len b x =>
  cases b with
  | false =>
   have e:∀(h:Hp) (k:AV->Hp->Prop),opK orc (.len false x) t h k=evK t x (λy=>match y with
    | .nils=>k (.i .i64 0) h
    | .e0=>k (.i .i64 0) h
    | .nz=>k (.i .i64 0) h
    | .fz n _=>k (.i .i64 (Int.ofNat n)) h
    | .own _ n=>k (.i .i64 (Int.ofNat n)) h
    | .sl _ _ n _ _=>k (.i .i64 (Int.ofNat n)) h
    | _=>False):=by
    intro h k;show evK t x _=evK t x _
    exact Ag
   rw[e]at hk
   obtain⟨v,h1,h2⟩:=mk (G:=λk=>evK t x (λy=>match y with
    | .nils=>k (.i .i64 0)
    | .e0=>k (.i .i64 0)
    | .nz=>k (.i .i64 0)
    | .fz n _=>k (.i .i64 (Int.ofNat n))
    | .own _ n=>k (.i .i64 (Int.ofNat n))
    | .sl _ _ n _ _=>k (.i .i64 (Int.ofNat n))
    | _=>False)) (L1.b1 (qH t x) λx=>by cases x<;>dsimp only<;>first|exact L1.no|exact L1.ret _) hk
   exact⟨v,h1,λh3 k2 hk2=>by rw[e];exact Ae⟩
  | true =>
   have e:∀(h:Hp) (k:AV->Hp->Prop),opK orc (.len true x) t h k=evK t x (λy=>match y with
    | .s a=>qE a.length (λn=>k (.i .i64 (Int.ofNat n)) h)
    | .sym j=>qjw (orc.len j) (λv=>k v h)
    | _=>False):=by
    intro h k;show evK t x _=evK t x _
    exact Ag
   rw[e]at hk
   obtain⟨v,h1,h2⟩:=mk (G:=λk=>evK t x (λy=>match y with
    | .s a=>qE a.length (λn=>k (.i .i64 (Int.ofNat n)))
    | .sym j=>qjw (orc.len j) k
    | _=>False)) (L1.b1 (qH t x) λx=>by cases x<;>dsimp only<;>first|exact L1.no|exact L1.b1 (zy _) λn=>L1.ret _|exact qh9 _) hk
   exact⟨v,h1,λh3 k2 hk2=>by rw[e];exact Ae⟩
 case slcStr x lo hi =>
  refine mk (G:=λk=>evK t x (λx=>qbg t lo (λlo=>qbg t hi (λhi=>match x with
   | .s a=>xG a.length a.length lo hi none (λl h' _=>k (.s ((a.take h').drop l)))
   | _=>False)))) (L1.b1 (qH t x) λx=>L1.b1 (qfJ t lo) λlo=>L1.b1 (qfJ t hi) λhi=>?_) hk
  cases x<;>dsimp only<;>first|exact L1.no|simp_all[L3.b1',qb1,L1.ret]
 case ext x i =>
  refine mk (G:=λk=>evK t x (λx=>match x with | .tup cs=>qjt cs i k|_=>False)) (L1.b1 (qH t x) λx=>?_) hk
  cases x<;>dsimp only<;>first|exact L1.no|grind[qju]
def Rel.join{Z1 Z2:Ren}{B:Nat->Prop}{h h2:Hp}{w w':World}(r1:Rel σ Z1 B h w)(r2:Rel σ Z2 B h2 w')(hw:∀n,n<w.heap.size->w'.heap[n]?=w.heap[n]?)(hsz:w.heap.size<=w'.heap.size)
  (hs:h2.sz<=h.sz) (hf:h.fl=h2.fl) (hg:∀b,b<h2.sz->h.tr.get b=h2.tr.get b) (h1Z:∀b L,Z1 b=some L->Z' b=some L) (h2Z:∀b L,Z2 b=some L->Z' b=some L)
  (hz1:∀k a,Z1.frz k=some a->Z2.frz k=some a) (hzf:Z'.frz=Z2.frz) (hn1:Z1.n<=Z'.n) (hn2:Z2.n<=Z'.n) (hn3:Z'.n<=h.sz) (hzn:∀k a,Z2.frz k=some a->Z1.frz k=some a\/w.heap.size<=k)
  (hor:∀b L,Z' b=some L->Z1 b=some L\/(Z2 b=some L/\w.heap.size<=L.blk)):Rel σ Z' B h w':=by
 have r1':=r1.world hw hsz;have r2':=r2.longer hs hf hg;have old:∀b L x,Z1 b=some L->h.tr.get b=some x->x≠.dead->L.blk<w.heap.size:=λb L x hb hx hd=>r1.blk_lt b L hb x hx hd
 have l1:Z1.le Z':=⟨h1Z,λk a hk=>by rw[hzf];exact hz1 k a hk,hn1⟩
 have l2:Z2.le Z':=⟨h2Z,λk a hk=>by rw[hzf];exact hk,hn2⟩
 refine⟨?_,?_,?_,?_,?_,?_,?_,r1'.base,?_,⟨hn3,λb L hb=>(hor b L hb).elim (λh=>r1'.dn.2 b L h) λh=>r2.dn.2 b L h.1⟩⟩
 rotate_right
 .intro k arr hk;rw[hzf]at hk;obtain⟨g1,g2⟩:=r2'.frz k arr hk;refine⟨g1,λb L x hb hx hd=>?_⟩
  rcases hor b L hb with hb|⟨hb,hn⟩
  .rcases hzn k arr hk with hk|hk
   .exact D8
   .have:=old b L x hb hx hd;exact Ab
  .exact g2 b L x hb hx hd
 .intro b L hb;rcases hor b L hb with hb|⟨hb,_⟩
  .exact r1'.dom b L hb
  .exact r2'.dom b L hb
 .intro b L e wf af cs hb hx;rcases hor b L hb with hb|⟨hb,_⟩
  .obtain⟨g1,c,ty,fz,g2,g3,g4,g5,g6⟩:=r1'.cells b L e wf af cs hb hx;exact Cs
  .obtain⟨g1,c,ty,fz,g2,g3,g4,g5,g6⟩:=r2'.cells b L e wf af cs hb hx;exact Cs
 .intro b L es hb hx;rcases hor b L hb with hb|⟨hb,_⟩
  .obtain⟨g1,ob,g2,g3⟩:=r1'.maps b L es hb hx;exact En
  .obtain⟨g1,ob,g2,g3⟩:=r2'.maps b L es hb hx;exact En
 .intro b L e af cs hb hx b' L' x hb' hx' hd he;rcases hor b L hb with hb|⟨hb,hn⟩<;>rcases hor b' L' hb' with hb'|⟨hb',hn'⟩
  .exact Dn
  .have:=old b L _ hb hx (by simp);exact Ab
  .have:=old b' L' _ hb' hx' hd;exact Ab
  .exact Dn
 .intro b L es hb hx b' L' x hb' hx' hd he;rcases hor b L hb with hb|⟨hb,hn⟩<;>rcases hor b' L' hb' with hb'|⟨hb',hn'⟩
  .exact De
  .have:=old b L _ hb hx (by simp);exact Ab
  .have:=old b' L' _ hb' hx' hd;exact Ab
  .exact De
 .intro b L e wf cs hb hx b' L' e' wf' af' cs' hb' hx' he;rcases hor b L hb with hb|⟨hb,hn⟩<;>rcases hor b' L' hb' with hb'|⟨hb',hn'⟩
  .exact H9
  .have:=old b L _ hb hx (by simp);exact Ab
  .have:=old b' L' _ hb' hx' (by simp);exact Ab
  .exact r2'.app b L e wf cs hb hx b' L' e' wf' af' cs' hb' hx' he
 exact I6
def Rel.join2{Z1 Z2:Ren}{B B2:Nat->Prop}{h h2:Hp}{w w':World}{nb:Nat}(r1:Rel σ Z1 B h w)(r2:Rel σ Z2 B2 h2 w')(hw:∀n,n<w.heap.size->w'.heap[n]?=w.heap[n]?)(hsz:w.heap.size<=w'.heap.size)
  (hnb:nb<h.sz) (hg:h.tr.get nb=h2.tr.get nb) (h1Z:∀b L,Z1 b=some L->Z' b=some L) (h2Z:∀b L,Z2 b=some L->Z' b=some L)
  (hz1:∀k a,Z1.frz k=some a->Z2.frz k=some a) (hzf:Z'.frz=Z2.frz) (hn1:Z1.n<=Z'.n) (hn2:Z2.n<=Z'.n) (hn3:Z'.n<=h.sz) (hzn:∀k a,Z2.frz k=some a->Z1.frz k=some a\/w.heap.size<=k)
  (hor:∀b L,Z' b=some L->Z1 b=some L\/(b=nb/\Z2 b=some L/\w.heap.size<=L.blk)):Rel σ Z' B h w':=by
 have r1':=r1.world hw hsz;have old:∀b L x,Z1 b=some L->h.tr.get b=some x->x≠.dead->L.blk<w.heap.size:=λb L x hb hx hd=>r1.blk_lt b L hb x hx hd
 have l1:Z1.le Z':=⟨h1Z,λk a hk=>by rw[hzf];exact Ae,hn1⟩
 have l2:Z2.le Z':=⟨h2Z,λk a hk=>by rw[hzf];exact hk,hn2⟩
 have tr:∀{b x},b=nb->h.tr.get b=some x->h2.tr.get b=some x:=Ae
 refine⟨?_,?_,?_,?_,?_,?_,?_,r1'.base,?_,⟨hn3,λb L hb=>(hor b L hb).elim (λh=>r1'.dn.2 b L h) λh=>r2.dn.2 b L h.2.1⟩⟩
 rotate_right
 .exact D8
 .intro b L hb;rcases hor b L hb with hb|⟨he,hb,_⟩
  .exact r1'.dom b L hb
  exact Ab
 .intro b L e wf af cs hb hx;rcases hor b L hb with hb|⟨he,hb,_⟩
  .obtain⟨g1,c,ty,fz,g2,g3,g4,g5,g6⟩:=r1'.cells b L e wf af cs hb hx;exact Cs
  grind[Rel.cells,VR.mono]
 .grind[Rel.maps,qbY.mono]
 .intro b L e af cs hb hx b' L' x hb' hx' hd he;rcases hor b L hb with hb|⟨hq,hb,hn⟩<;>rcases hor b' L' hb' with hb'|⟨hq',hb',hn'⟩
  .exact Dn
  all_goals grind
 .intro b L es hb hx b' L' x hb' hx' hd he;rcases hor b L hb with hb|⟨hq,hb,hn⟩<;>rcases hor b' L' hb' with hb'|⟨hq',hb',hn'⟩
  .exact De
  all_goals grind
 .intro b L e wf cs hb hx b' L' e' wf' af' cs' hb' hx' he;rcases hor b L hb with hb|⟨hq,hb,hn⟩<;>rcases hor b' L' hb' with hb'|⟨hq',hb',hn'⟩
  .exact H9
  all_goals grind
 .intro b L hb hh;rcases hor b L hb with hb|⟨_,_,hn⟩
  .exact I6
  .exact λhB=>absurd (r1.base _ hB) (Nat.not_lt.2 hn)
def qiq{ops:Array Oper}{nt:Nat}:∀{os:List Oper}{rs:List ROp},qer P ops nt os rs=true->os.length=rs.length/\∀(i:Nat) o r,os[i]?=some o->rs[i]?=some r->qsb P ops nt o r=true
 | [],[],_=>⟨rfl,by simp⟩
 | o::os,r::rs,h=>by
  simp only[qer,zzB]at h;obtain⟨h1,h2⟩:=h;obtain⟨h3,h4⟩:=qiq h2
  exact Ag
 | [],_::_,h=>by simp[qer]at h
 | _::_,[],h=>by simp[qer]at h
structure Canon (orc:Orc) (C:zZ) (rs:List ROp) (T:Nat->Tr AV) (H:Nat->Hp) (G:Nat->Bool) (V:Nat->AV):Prop where
 step:∀(i:Nat) r,rs[i]?=some r->qa1 (T i) r.guard (λg=>g=G i)/\qap (T i) r.dst (V i) (λt=>t=T (i+1)) /\
  ((G i=true/\qjB orc true C r.k (T i) (H i) (λv h=>v=V i/\h=H (i+1)))\/(G i=false/\V i = .tup []/\H (i+1)=H i))
def qqz{C:zZ}(hi:LC C){Q:Tr AV->Hp->Prop}:∀(rs:List ROp) (t:Tr AV) (h:Hp),qkz orc true C rs Q t h->
  ∃T H G V,T 0=t/\H 0=h/\Canon orc C rs T H G V/\Q (T rs.length) (H rs.length)
 | [],t,h,hk=>⟨λ_=>t,λ_=>h,λ_=>false,λ_=>.undef,rfl,rfl,⟨by simp⟩,hk⟩
 | ⟨dst,k,g⟩::rs,t,h,hk=>by
  have hk':qa1 t g (λgo=>Bool.rec (motive:=λ_=>Prop)
   (qap t dst (.tup []) (λt'=>qkz orc true C rs Q t' h)) (qjB orc true C k t h (λv h'=>qap t dst v (λt'=>qkz orc true C rs Q t' h'))) go):=hk
  obtain⟨go,h1,h2⟩:=qqX t g _ hk'
  have shift:∀(v:AV) (t1:Tr AV) (h1:Hp),qap t dst v (λt'=>t'=t1)->((go=true/\qjB orc true C k t h (λv' h'=>v'=v/\h'=h1))\/(go=false/\v = .tup []/\h1=h))->qkz orc true C rs Q t1 h1->
    ∃T H G V,T 0=t/\H 0=h/\Canon orc C (⟨dst,k,g⟩::rs) T H G V/\Q (T (rs.length+1)) (H (rs.length+1)):=by
   intro v t1 hh1 hd hg hr;obtain⟨T,H,G,V,e1,e2,e3,e4⟩:=qqz hi rs t1 hh1 hr;refine⟨λi=>match i with|0=>t|i+1=>T i,λi=>match i with|0=>h|i+1=>H i,λi=>match i with|0=>go|i+1=>G i,λi=>match i with|0=>v|i+1=>V i,rfl,rfl,⟨?_⟩,e4⟩
   intro i r hri;cases i<;>grind[Canon.step]
  cases go with
  | false =>
   obtain⟨t1,h3,h4⟩:=qpt t dst _ _ h1
   exact Ag
  | true =>
   obtain⟨v,hh,h3,h4⟩:=qzM orc true hi k t h _ h1;obtain⟨t1,h5,h6⟩:=qpt t dst v _ h3
   exact Ag
def qo9{C:zZ}{rs:List ROp}{T:Nat->Tr AV}{H:Nat->Hp}{G:Nat->Bool}{V:Nat->AV}(hc:Canon orc C rs T H G V){i:Nat}{r:ROp}(hr:rs[i]?=some r)(x:Nat) :
  (T (i+1)).get x=if r.dst=some x then some (V i)else(T i).get x:=by
 obtain⟨_,h2,_⟩:=hc.step i r hr;cases hd:r.dst with
 | none =>
  rw[hd]at h2;have h2':T i=T (i+1):=h2
  exact Ae
 | some d =>
  rw[hd]at h2;have h2':(T i).setK d (V i) (λt=>t=T (i+1)):=h2
  rw[Tr.setK_iff]at h2';rw[<- h2',zz4]
  exact Ag
def qnS{o:Oper}{a:Act}{w:World}{F:Prop}(h:o.wpIn (Fr none) 0 P a w (λ_ _=>F) (λ_ _ _=>False)):F:=by
 obtain⟨_,h⟩:=h;generalize(o.semAt (Fr none).round a.eval).run P w=r at h;cases r with
 | ok n w' =>
  cases n<;>simp only[Oper.uponIn]at h
  case enter f args =>
   obtain⟨e,w'',fr,hR,_⟩:=h.2.2 [] (room_wide _);cases e with
   | returned v=>exact hR
   | panicked=>exact hR.elim
   | outgrown=>obtain⟨_,_,hh⟩:=hR;exact hh.elim
  case row row args =>
   obtain⟨v,w'',hR,_⟩:=h.2 default [] (room_wide _);exact hR
  case round l f tmps assign body =>
   obtain⟨e,w'',hR,_⟩:=h.2.2 default [] (room_wide _);cases e with
   | returned v=>exact hR
   | panicked=>exact hR.elim
   | outgrown=>obtain⟨_,_,hh⟩:=hR;exact hh.elim
  all_goals omega
 | halt x w'=>cases x<;>simp only[Oper.uponIn]at h
structure Fact (rs:List ROp) (H:Nat->Hp) (i:Nat):Prop where
 sz:(H i).sz<=(H (i+1)).sz
 fl:(H (i+1)).fl=(H i).fl
 keep:(∀r,rs[i]?=some r->wr r.k=false)->∀b,b<(H i).sz->(H (i+1)).tr.get b=(H i).tr.get b
 floor:∀b,b<(H i).fl->b<(H i).sz->(H (i+1)).tr.get b=(H i).tr.get b
def qe0(horc:OrcOk P σ orc){C:zZ}(hs:qdG P σ C){nt:Nat}{ops:Array Oper}{rs:List ROp}(hrs:qer P ops nt ops.toList rs=true){T:Nat->Tr AV}{H:Nat->Hp}{G:Nat->Bool}{V:Nat->AV}(hc:Canon orc C rs T H G V)
  {B:Nat->Prop}{w:World}{a:Act}(ht:TR σ Z (T 0) a.tmps) (hsz:nt<=a.tmps.size) (r:Rel σ Z B (H 0) w):∀i,i<=rs.length->
  (∃(Z':Ren) (a':Act) (w':World),TR σ Z' (T i) a'.tmps/\nt<=a'.tmps.size/\Rel σ Z' B (H i) w')/\∀j,j<i->Fact rs H j
 | 0,_=>Ag
 | i+1,hi=>by
  obtain⟨⟨Z1,a1,w1,ht1,hs1,r1⟩,hf⟩:=qe0 horc hs hrs hc ht hsz r i Ab;obtain⟨hlen,hget⟩:=qiq hrs;have hri:rs[i]?=some rs[i]:=Ae
  have hoi:ops.toList[i]?=some (ops.toList[i]' Ab):=Ae
  have hchk:=hget i _ _ hoi hri;generalize rs[i]=rr at hri hchk;generalize ops.toList[i]' Ab=o at hoi hchk;simp only[qsb,zzB]at hchk;obtain⟨⟨hc1,hc2⟩,hc3⟩:=hchk;obtain⟨g1,g2,g3⟩:=hc.step i rr hri
  have key:(∃(Z':Ren) (a':Act) (w':World),TR σ Z' (T (i+1)) a'.tmps/\nt<=a'.tmps.size/\Rel σ Z' B (H (i+1)) w')/\Fact rs H i:=by
   rcases g3 with⟨_,g3⟩|⟨_,g3,g4⟩
   .rcases (qfV _ _ _).1 g3 with⟨hb,g3⟩|⟨hb,g3⟩
    .refine qnS (P:=P) (o:=o) (a:=a1) (w:=w1) (qiD horc hs r1 ht1 hc3 g3 _ _ ?_);rintro v v' h' Z' w' ⟨rfl,rfl⟩ q1 q2 q3;obtain⟨t',q4,q5⟩:=(ht1.mono (q3.mono r1.dom)).put hs1 hc1 q1 g2;subst q4;refine⟨by grind[qaG],q3.szle,q3.fl,λhw=>?_,q3.akeep⟩
     have:=hw rr hri;simp[this]at hb
    .refine qnS (P:=P) (o:=o) (a:=a1) (w:=w1) (qkx horc hs r1 ht1 hc3 g3 _ _ ?_);rintro v v' h' Z' w' ⟨rfl,rfl⟩ q1 q2 q3 q6 _ _ _;obtain⟨t',q4,q5⟩:=(ht1.mono (q3.mono r1.dom)).put hs1 hc1 q1 g2;subst q4;exact⟨by grind[qaG],q3.szle,q3.fl,λ_=>q6,q3.akeep⟩
   .obtain⟨t',q4,q5⟩:=ht1.put hs1 hc1 (.tup [] #[] .nil) (by rw[g3]at g2;exact g2);subst q4;exact⟨by grind[qaG],by rw[g4];exact zzL _,by rw[g4],Ae,Ae⟩
  exact Ag
section facts
variable {rs:List ROp}{H:Nat->Hp}
def xa(hf:∀j,j<rs.length->Fact rs H j){i j:Nat}(hij:i<=j)(hj:j<=rs.length):(H i).sz<=(H j).sz:=by
 induction j<;>grind[Fact.sz]
def qqL(hf:∀j,j<rs.length->Fact rs H j){i j:Nat}(hij:i<=j)(hj:j<=rs.length):(H j).fl=(H i).fl:=by
 induction j<;>grind[Fact.fl]
def qpz(hf:∀j,j<rs.length->Fact rs H j){i j:Nat}(hij:i<=j)(hj:j<=rs.length)(hw:∀k,i<=k->k<j->∀r,rs[k]?=some r->wr r.k=false)(b:Nat)(hb:b<(H i).sz):(H j).tr.get b=(H i).tr.get b:=by
 induction j with
 | zero=>exact Ae
 | succ j ih =>
  rcases Nat.lt_or_eq_of_le hij with h|rfl
  .rw[<- ih Ab Ab Ag];exact(hf j Ab).keep Ag b (zzh hb (xa hf Ab Ab))
  .rfl
def qxO(hf:∀j,j<rs.length->Fact rs H j){j:Nat}(hj:j<=rs.length)(b:Nat)(hb:b<(H 0).fl)(hb2:b<(H 0).sz):(H j).tr.get b=(H 0).tr.get b:=by
 induction j with
 | zero=>rfl
 | succ j ih =>
  rw[<- ih Ab];exact(hf j Ab).floor b (by rw[qqL hf (zzu _) Ab];exact hb) (zzh hb2 (xa hf (zzu _) Ab))
end facts
theorem qla:∀(os:List Oper) (acc:List Nat) (j:Nat),j<acc.length->(qgd os acc)[j]?=acc[j]?
 | [],acc,j,h=>rfl
 | o::os,acc,j,h=>by rw[qgd,qla os _ j Ag,zzj h]
def qoC:∀(os:List Oper) (acc:List Nat) (i:Nat) (o:Oper),os[i]?=some o->(qgd os acc)[acc.length+i]?=some (mask o ((qgd os acc).take (acc.length+i)))
 | [],_,_,_,h=>Ag
 | p::os,acc,i,o,h=>by
  cases i with
  | zero =>
   simp at h;subst h;rw[qgd,Nat.add_zero]
   have e1:(qgd os (acc++[mask p acc])).take acc.length=acc:=by
    apply List.ext_getElem?
    grind[qla]
   rw[qla _ _ _ (by simp),e1];simp
  | succ i =>
   have:=qoC os (acc++[mask p acc]) i o Gw;rw[qgd]
   exact Ag
def qyI{o:Oper}{acc:List Nat}{j:Nat}(h:(mask o acc).testBit j=true):∃e ∈ o.after,Region.binds .any e=true/\(e.on=j\/(acc.getD e.on 0).testBit j=true):=by
 have key:∀(es:List Edge) (s:Nat),(es.foldl (λs e=>if Region.binds .any e then s ||| 2 ^ e.on ||| acc.getD e.on 0 else s) s).testBit j=true->s.testBit j=true\/∃e ∈ es,Region.binds .any e=true/\(e.on=j\/(acc.getD e.on 0).testBit j=true):=by
  intro es
  induction es with
  | nil=>intro s h;exact .inl h
  | cons e es ih =>
   intro s h;rw[List.foldl_cons]at h;rcases ih _ h with h1|⟨e',h1,h2⟩
   .by_cases hb:Region.binds .any e=true
    .rw[if_pos hb]at h1;simp only[Nat.testBit_or,zzO,Nat.testBit_two_pow,zzb]at h1;rcases h1 with(h1|h1)|h1
     .exact .inl h1
     .exact Ae
     .exact Ae
    .rw[if_neg hb]at h1;exact .inl h1
   .exact Ag
 rcases key _ 0 h with h1|⟨e,h1,h2⟩
 all_goals grind
def qk9{ops:Array Oper}{S:Nat->Prop}(hlt:∀(i:Nat) o,ops[i]?=some o->∀e ∈ o.after,Region.binds .any e=true->e.on<i)(hcl:∀(i:Nat) o,S i->ops[i]?=some o->∀e ∈ o.after,Region.binds .any e=true->S e.on) :
  ∀(i:Nat) o,ops[i]?=some o->(∀e ∈ o.after,Region.binds .any e=true->S e.on)->∀j,((qgd ops.toList []).getD i 0).testBit j=true->S j:=by
 intro i
 induction i using Nat.strongRecOn with
 | _ i ih =>
  intro o ho hr j hj;have hm:=qoC ops.toList [] i o Ae;simp only[List.length_nil,Nat.zero_add]at hm;rw[zzs,hm]at hj;obtain⟨e,he,hb,h1⟩:=qyI hj;have hle:=hlt i o ho e he hb;have hS:=hr e he hb;rcases h1 with rfl|h1
  .exact hS
  .have hi:i<ops.size:=Ag
   have e1:((qgd ops.toList []).take i).getD e.on 0=(qgd ops.toList []).getD e.on 0:=by
    rw[zzs,zzs,zzq hle]
   rw[e1]at h1;have ho':ops[e.on]?=some ops[e.on]:=Ae
   exact Ag
def qiz{rs:List ROp}{ms:List Nat}:∀(rest:List ROp) (j:Nat),qjO rs ms j rest=true->rs.drop j=rest->∀i k a b,i<k->j<=k->rs[i]?=some a->rs[k]?=some b->qfh a b=true->(ms.getD k 0).testBit i=true
 | [],j,_,hd,i,k,a,b,_,hjk,_,hb,_=>by
  have:rs.length<=j:=Ae
  have:=(zzS.1 hb).1;exact Ab
 | r::rest,j,hc,hd,i,k,a,b,hik,hjk,ha,hb,hm=>by
  simp only[qjO,zzB]at hc
  have hrj:rs[j]?=some r:=by
   have:=congrArg (λl=>l[0]?) hd
   exact Ag
  rcases Nat.lt_or_eq_of_le hjk with h|rfl
  .exact qiz rest (j+1) hc.2 Jt i k a b hik h ha hb hm
  .rw[hrj]at hb;cases hb
   have:=(zzy.1 hc.1) (a,i) (by
    rw[List.mem_zipIdx_iff_getElem?];simp only;rw[zzq hik];exact ha)
   exact Ae
def cut(Z:Ren)(n:Nat):Ren:=⟨λb=>if b<n then Z b else none,Z.frz,min Z.n n⟩
def jO{Z:Ren}{n b:Nat}{L:Loc}(h:cut Z n b=some L):b<n/\Z b=some L:=by
 simp only[cut]at h;exact Ae
def jG{Z:Ren}{n b:Nat}(h:b<n):cut Z n b=Z b:=by simp only[cut];rw[if_pos h]
section
variable {rs:List ROp}{T:Nat->Tr AV}{H:Nat->Hp}{G:Nat->Bool}{V:Nat->AV}
def IsW(rs:List ROp)(i:Nat):Prop:=∃r,rs[i]?=some r/\wr r.k=true
def IsD(rs:List ROp)(i x:Nat):Prop:=∃r,rs[i]?=some r/\r.dst=some x
structure Inv (σ:Nat->Value) (rs:List ROp) (T:Nat->Tr AV) (H:Nat->Hp) (nt:Nat) (Z0:Ren) (B:Nat->Prop) (w0:World) (ds:List Deferred) (S:Nat->Prop) (a:Act) (w:World) (Z:Ren):Prop where
 lt:∀i,S i->i<rs.length
 dom:∀b L,Z b=some L->b<(H 0).sz\/∃j,S j/\(∀r,rs[j]?=some r->qcq r.k=false)/\(H j).sz<=b/\b<(H (j+1)).sz
 rels:∀c,c<=rs.length->(∀j,IsW rs j->(S j↔j<c))->Rel σ (cut Z (H c).sz) B (H c) w
 tmps:∀x j v,j<=rs.length->(∀k,IsD rs k x->(S k↔k<j))->(T j).get x=some v->x<a.tmps.size/\VR σ (cut Z (H j).sz) v (a.tmps.getD x undef)
 ext:∀b,b<(H 0).sz->Z b=Z0 b
 pres:∀k,B k->w.heap[k]?=w0.heap[k]?
 wle:w0.heap.size<=w.heap.size
 io:w.os=w0.os/\w.output=w0.output
 base:∀k,B k->k<w.heap.size
 size:nt<=a.tmps.size
 defers:a.defers=ds
 big:(H rs.length).sz<=Z.n
 frz:∀k a,Z0.frz k=some a->Z.frz k=some a
 fnew:∀k a,Z.frz k=some a->Z0.frz k=some a\/¬B k
 wlt:∀b L,Z b=some L->L.blk<w.heap.size
def qjH{C:zZ}(hc:Canon orc C rs T H G V){x i j:Nat}(hij:i<=j)(hj:j<=rs.length)(hn:∀k,i<=k->k<j->¬IsD rs k x):(T j).get x=(T i).get x:=by
 induction j with
 | zero=>exact Ae
 | succ j ih' =>
  rcases Nat.lt_or_eq_of_le hij with h|rfl
  .rw[<- ih' Ab Ab Ag];have hr:rs[j]?=some rs[j]:=Ae
   rw[qo9 hc hr,if_neg (λhd=>hn j Ab Ab ⟨_,hr,hd⟩)]
  .rfl
def Inv.next{C:zZ}(hc:Canon orc C rs T H G V)(hf:∀j,j<rs.length->Fact rs H j){nt:Nat}{Z0:Ren}{B:Nat->Prop}{w0:World}{ds:List Deferred}{S:Nat->Prop}{a:Act}{w:World}
  (I:Inv σ rs T H nt Z0 B w0 ds S a w Z) {i:Nat}{r:ROp}(hr:rs[i]?=some r) (hS:¬S i) {d:Option Tmp}(hd:qqA nt d r.dst=true)
  (hD:∀x,r.dst=some x->∀k,IsD rs k x->k≠i->(S k↔k<i)) {v':Value}{w':World}(hv:VR σ (cut Z' (H (i+1)).sz) (V i) v')
  (hZ:∀b L,Z b=some L->Z' b=some L) (hZ0:∀b,b<(H 0).sz->Z' b=Z b) (hz:∀k a,Z.frz k=some a->Z'.frz k=some a) (hzn:∀k a,Z'.frz k=some a->Z.frz k=some a\/¬B k) (hbig:(H rs.length).sz<=Z'.n) (hdom:∀b L,Z' b=some L->Z b=some L\/((∀r,rs[i]?=some r->qcq r.k=false)/\(H i).sz<=b/\b<(H (i+1)).sz/\L.blk<w'.heap.size))
  (hrels:∀c,c<=rs.length->(∀j,IsW rs j->(S j\/j=i↔j<c))->Rel σ (cut Z' (H c).sz) B (H c) w') (hpres:∀k,B k->w'.heap[k]?=w.heap[k]?) (hwle:w.heap.size<=w'.heap.size) (hio:w'.os=w.os/\w'.output=w.output) :
  Inv σ rs T H nt Z0 B w0 ds (λj=>S j\/j=i) (a.put d v') w' Z':=by
 have hi:i<rs.length:=Ag
 refine⟨?_,?_,hrels,?_,?_,?_,zzg I.wle hwle,by grind[Inv.io],qgs I.base hwle,by rw[qaG];exact I.size,by rw[qaF];exact I.defers,hbig,by grind[Inv.frz],by grind[Inv.fnew],λb L h=>(hdom b L h).elim (λh=>zzh (I.wlt b L h) hwle) λh=>h.2.2.2⟩
 .rintro j (h|rfl)
  .exact I.lt j h
  .exact hi
 .intro b L hb;rcases hdom b L hb with h|⟨h1,h2,h3,_⟩
  .rcases I.dom b L h with h|⟨j,h1,h2⟩
   .exact .inl h
   .exact Ag
  .exact Ae
 .intro x j v hj hk hg;have hsj:=xa hf hj (zzL _)
  have hmono:(cut Z (H j).sz).le (cut Z' (H j).sz):=by
   refine⟨λb L hb=>?_,hz,?_⟩
   .obtain⟨h1,h2⟩:=jO hb;rw[jG Ab];exact hZ b L h2
   .show min Z.n (H j).sz<=min Z'.n (H j).sz;exact Ab
  by_cases hx:r.dst=some x
  .have hij:i<j:=(hk i ⟨r,hr,hx⟩).1 (.inr rfl);have hcon:(T j).get x=(T (i+1)).get x:=qjH hc hij hj Ag;rw[hcon,qo9 hc hr,if_pos hx]at hg;cases hg;cases d with
   | none=>rw[hx]at hd;simp[qqA]at hd
   | some y =>
    rw[hx]at hd;simp only[qqA,zzB]at hd;obtain⟨h1,h2⟩:=hd;obtain rfl:=eq_of_beq h1;have hlt:y<a.tmps.size:=zzh Ae I.size;refine⟨by simp[Act.put];exact hlt,?_⟩
    have e:(a.put (some y) v').tmps.getD y undef=v':=by simp[Act.put,Array.getD,hlt]
    rw[e]
    have hle:(cut Z' (H (i+1)).sz).le (cut Z' (H j).sz):=by
     have hs:(H (i+1)).sz<=(H j).sz:=xa hf hij hj;refine⟨λb L hb=>?_,λ_ _ h=>h,?_⟩
     .obtain⟨h3,h4⟩:=jO hb;rw[jG Ab];exact h4
     .show min Z'.n (H (i+1)).sz<=min Z'.n (H j).sz;exact Ab
    exact hv.mono hle
  .have hk':∀k,IsD rs k x->(S k↔k<j):=by
    intro k hdk;have hne:k≠i:=by rintro rfl;obtain⟨r',h1,h2⟩:=hdk;rw[hr]at h1;cases h1;exact hx h2
    have:=hk k hdk;constructor
    .intro h;exact this.1 (.inl h)
    .intro h;rcases this.2 h with h|h
     .exact h
     .exact absurd h hne
   obtain⟨h1,h2⟩:=I.tmps x j v hj hk' hg;refine⟨by rw[qaG];exact h1,?_⟩
   have e:(a.put d v').tmps.getD x undef=a.tmps.getD x undef:=by
    cases d with
    | none=>rfl
    | some y =>
     have hne:y≠x:=by
      rintro rfl;cases hrd:r.dst with
      | none=>rw[hrd]at hd;simp[qqA]at hd
      | some z =>
       rw[hrd]at hd;simp only[qqA,zzB]at hd;exact Ae
     simp only[Act.put];rw[Array.getD_eq_getD_getElem?,Array.getD_eq_getD_getElem?,zzw,if_neg hne]
   rw[e];exact h2.mono hmono
 all_goals grind[Inv.ext,Inv.pres]
def qIY(σ:Nat->Value)(v:AV)(n:Nat):Prop:=∃(Z:Ren) (v':Value),VR σ Z v v'/\(∀b L,Z b=some L->b<n)/\Z.n<=n
mutual
def VR.small{Z1 Z2:Ren}{n:Nat}(hn:∀b L,Z1 b=some L->b<n)(hn2:Z1.n<=n):∀{x:AV}{v1 v2:Value},VR σ Z1 x v1->VR σ Z2 x v2->VR σ (cut Z2 n) x v2
 | _,_,_,.undef _,_=>.undef _
 | _,_,_,.b _,h2=>by cases h2;exact .b _
 | _,_,_,.i _ _,h2=>by cases h2;exact .i _ _
 | _,_,_,.s _,h2=>by cases h2;exact .s _
 | _,_,_,.nilp,h2=>by cases h2;exact .nilp
 | _,_,_,.ptr b o L h,h2=>by
  cases h2 with
  | ptr _ _ L2 h'=>exact .ptr _ _ _ Ca
 | _,_,_,.nils,h2=>by cases h2;exact .nils
 | _,_,_,.sl b _ _ _ _ _ L h _,h2=>by
  cases h2 with
  | sl _ _ _ _ _ _ L2 h' hc=>exact .sl _ _ _ _ _ _ _ Ca hc
  | slz _ _ _ _ L2 h'=>exact .slz _ _ _ _ _ Ca
 | _,_,_,.slz b _ _ _ L h,h2=>by
  cases h2 with
  | sl _ _ _ _ _ _ L2 h' hc=>exact .sl _ _ _ _ _ _ _ Ca hc
  | slz _ _ _ _ L2 h'=>exact .slz _ _ _ _ _ Ca
 | _,_,_,.nilf,h2=>by cases h2;exact .nilf
 | _,_,_,.fn _ _ _ _ _ a1 a2,h2=>by
  cases h2 with
  | fn _ _ _ _ _ c1 c2=>exact .fn _ _ _ _ _ (VRs.small hn hn2 a1 c1) (VRs.small hn hn2 a2 c2)
 | _,_,_,.nili,h2=>by cases h2;exact .nili
 | _,_,_,.ifc _ _ _ a1,h2=>by
  cases h2 with
  | ifc _ _ _ c1=>exact .ifc _ _ _ (VR.small hn hn2 a1 c1)
 | _,_,_,.agg _ _ a1,h2=>by
  cases h2 with
  | agg _ _ c1=>exact .agg _ _ (VRs.small hn hn2 a1 c1)
 | _,_,_,.tup _ _ a1,h2=>by
  cases h2 with
  | tup _ _ c1=>exact .tup _ _ (VRs.small hn hn2 a1 c1)
 | _,_,_,.nilm,h2=>by cases h2;exact .nilm
 | _,_,_,.map b L h _,h2=>by
  cases h2 with
  | map _ L2 h' h0=>exact .map _ _ Ca h0
 | _,_,_,.sym _,h2=>by cases h2;exact .sym _
 | _,_,_,.fz _ _ _ _ _ _ _ _ _,h2=>by
  cases h2 with
  | fz _ _ _ _ _ _ q1 q2 q4=>exact .fz _ _ _ _ _ _ q1 q2 q4
  | fz0=>exact .fz0 _
 | _,_,_,.fz0 _,h2=>by
  cases h2 with
  | fz _ _ _ _ _ _ q1 q2 q4=>exact .fz _ _ _ _ _ _ q1 q2 q4
  | fz0=>exact .fz0 _
 | _,_,_,.pf _ _ _ _ _ _ _,h2=>by
  cases h2 with
  | pf _ _ _ _ _ q2 q4=>exact .pf _ _ _ _ _ q2 q4
 | _,_,_,.e0 _,h2=>by
  cases h2 with
  | e0=>exact .e0 _
 | _,_,_,.nz _ _,h2=>by
  cases h2 with
  | nz=>exact .nz _ _
 | _,_,_,.own0 b _ hb,h2=>by
  have hbn:b<n:=Ab
  cases h2 with
  | own0 _ _ q=>exact .own0 _ _ (Nat.lt_min.2 ⟨q,hbn⟩)
  | own _ _ _ L2 h' q1 q2=>exact .own _ _ _ _ (by rw[jG hbn];exact h') q1 q2
 | _,_,_,.own b _ _ L h _ _,h2=>by
  have hbn:b<n:=hn b L h;cases h2 with
  | own0 _ _ q=>exact .own0 _ _ (Nat.lt_min.2 ⟨q,hbn⟩)
  | own _ _ _ L2 h' q1 q2=>exact .own _ _ _ _ (by rw[jG hbn];exact h') q1 q2
 | _,_,_,.yl b L h,h2=>by
  cases h2 with
  | yl _ L2 h'=>exact .yl _ _ Ca
def VRs.small{Z1 Z2:Ren}{n:Nat}(hn:∀b L,Z1 b=some L->b<n)(hn2:Z1.n<=n):∀{x:List AV}{v1 v2:List Value},VRs σ Z1 x v1->VRs σ Z2 x v2->VRs σ (cut Z2 n) x v2
 | _,_,_,.nil,h2=>by cases h2;exact .nil
 | _,_,_,.cons _ _ _ _ a1 a2,h2=>by
  cases h2 with
  | cons _ _ _ _ c1 c2=>exact .cons _ _ _ _ (VR.small hn hn2 a1 c1) (VRs.small hn hn2 a2 c2)
end
def qEo{k:RK}(h:wr k=true):qcq k=false:=by
 cases k<;>first|rfl|(rename_i o1;cases o1<;>first|rfl|(simp[wr]at h))
def qrU(k:RK):wr (qfk k)=wr k:=by
 cases k<;>try rfl
 rename_i o1;cases o1<;>rfl
def qno(k:RK):qcq (qfk k)=qcq k:=by
 cases k<;>try rfl
 rename_i o1;cases o1<;>rfl
def quK{o:Op}{k:RK}(h:qhx P o k=true):qhx P o (qfk k)=true:=by
 cases k with
 | callF=>exact h
 | callV=>exact h
 | callW=>exact h
 | callVW=>exact h
 | op o1 =>
  cases o1<;>try exact h
  .rename_i n x v ps
   have h2:qjN P o (.storeD n x v ps)=true:=Ia
   have h3:∃t y u,o = .store t y u/\(qR y x&&qR u v&&zA P t n)=true:=by
    unfold qjN at h2;split at h2<;>try (cases h2;done)
    all_goals first
     | (rename_i heq;cases heq;exact Ag)
     | (rename_i heq;cases heq;done)
     | (unfold qep at h2;split at h2<;>simp_all)
   obtain⟨t,y,u,rfl,h4⟩:=h3;exact h4
  .rename_i e y x v ps
   have h2:qjN P o (.appD e y x v ps)=true:=Ia
   have h3:qjN P o (.app e y true x v)=true:=by
    unfold qjN at h2 ⊢;split at h2<;>try (cases h2;done)
    all_goals first
     | (rename_i heq;cases heq;done)
     | skip
    unfold qep at h2 ⊢;split at h2<;>first|(rename_i heq;cases heq;done)|(cases h2;done)|skip
    exact Ae
   show qhx P o (.op (.app e y true x v))=true;unfold qhx at h ⊢;split at h<;>simp_all
def qlj{C:zZ}{k:RK}{t:Tr AV}{h:Hp}{K:AV->Hp->Prop}(hk:qjB orc true C k t h K):qjB orc true C (qfk k) t h K:=by
 cases k with
 | callF=>exact hk
 | callV=>exact hk
 | callW=>exact hk
 | callVW=>exact hk
 | op o1 =>
  cases o1<;>try exact hk
  .exact qkH (orc:=orc) hk
  .exact qqg (orc:=orc) hk
theorem qe1{a b:ROp}(h:qb6 a b=true):wr a.k=false/\wr b.k=true/\∃p d io,a.k = .op io/\a.dst=some d/\(io = .load1 (.t p)\/∃n,io = .loadN n (.t p))/\∃ps,((∃n x v,b.k = .op (.storeD n x v ps))\/∃e y x v,b.k = .op (.appD e y x v ps))/\p ∈ ps:=by
 unfold qb6 at h;split at h
 .rename_i n x v ps hb;split at h
  .rename_i p ha;simp only[zzB,List.contains_iff_mem,zzx]at h;obtain⟨h1,d,h2⟩:=h;exact⟨by rw[ha];rfl,by rw[hb];rfl,p,d,_,ha,h2,.inl rfl,ps,.inl ⟨n,x,v,hb⟩,h1⟩
  .rename_i m p ha;simp only[zzB,List.contains_iff_mem,zzx]at h;obtain⟨h1,d,h2⟩:=h;exact⟨by rw[ha];rfl,by rw[hb];rfl,p,d,_,ha,h2,.inr ⟨m,rfl⟩,ps,.inl ⟨n,x,v,hb⟩,h1⟩
  .cases h
 .rename_i e y x v ps hb;split at h
  .rename_i p ha;simp only[zzB,List.contains_iff_mem,zzx]at h;obtain⟨h1,d,h2⟩:=h;exact⟨by rw[ha];rfl,by rw[hb];rfl,p,d,_,ha,h2,.inl rfl,ps,.inr ⟨e,y,x,v,hb⟩,h1⟩
  .rename_i m p ha;simp only[zzB,List.contains_iff_mem,zzx]at h;obtain⟨h1,d,h2⟩:=h;exact⟨by rw[ha];rfl,by rw[hb];rfl,p,d,_,ha,h2,.inr ⟨m,rfl⟩,ps,.inr ⟨e,y,x,v,hb⟩,h1⟩
  .cases h
 exact Ag
def qsp{io:IOp}{p:Nat}(hio:io = .load1 (.t p)\/∃n,io = .loadN n (.t p)){t:Tr AV}{h:Hp}{K:AV->Hp->Prop}(hk:opK orc io t h K) :
  (∃b o x v,t.get p=some (.ptr b o)/\h.tr.get b=some x/\K v h/\∀h2 (K2:AV->Hp->Prop),h2.tr.get b=some x->K2 v h2->opK orc io t h2 K2) \/
  (∃v,K v h/\∀h2 (K2:AV->Hp->Prop),K2 v h2->opK orc io t h2 K2):=by
 rcases hio with rfl|⟨n,rfl⟩
 .have hk':t.getK p (λq=>ldV h q (λv=>K v h)):=hk
  obtain⟨y,h1,h2⟩:=(Tr.getK_iff _ _ _).1 hk';cases y<;>try exact h2.elim
  .rename_i b o;obtain⟨e,w,a,cs,h3,h4⟩:=(zC h b _).1 h2;obtain⟨v,h5,h6⟩:=(wn _ _ _).1 h4;refine .inl ⟨b,o,_,v,h1,h3,h6,λh2 K2 g1 g2=>?_⟩
   show t.getK p (λq=>ldV h2 q (λv=>K2 v h2))
   exact(Tr.getK_iff _ _ _).2 ⟨_,h1,(zC h2 b _).2 (by grind[wn])⟩
  .rename_i cs o;obtain⟨v,h5,h6⟩:=(wn cs o _).1 h2;refine .inr ⟨v,h6,λh2 K2 g2=>?_⟩
   show t.getK p (λq=>ldV h2 q (λv=>K2 v h2))
   exact(Tr.getK_iff _ _ _).2 ⟨_,h1,(wn cs o _).2 ⟨v,h5,g2⟩⟩
 .have hk':t.getK p (λq=>qlZ h q n (λl=>K (.agg l) h)):=hk
  obtain⟨y,h1,h2⟩:=(Tr.getK_iff _ _ _).1 hk';cases y<;>try exact h2.elim
  .rename_i b o;obtain⟨e,w,a,cs,h3,h4⟩:=(zC h b _).1 h2;obtain⟨h5,h6⟩:=(xo _ _ _).1 h4;obtain⟨h7,h8⟩:=(xe _ _ _).1 h6;refine .inl ⟨b,o,_,.agg ((cs.drop o).take n),h1,h3,h8,λh2 K2 g1 g2=>?_⟩
   show t.getK p (λq=>qlZ h2 q n (λl=>K2 (.agg l) h2))
   exact(Tr.getK_iff _ _ _).2 ⟨_,h1,(zC h2 b _).2 (by grind[xo,xe])⟩
  .rename_i cs o;obtain⟨h5,h6⟩:=(xo o cs _).1 h2;obtain⟨h7,h8⟩:=(xe _ _ _).1 h6;refine .inr ⟨.agg ((cs.drop o).take n),h8,λh2 K2 g2=>?_⟩
   show t.getK p (λq=>qlZ h2 q n (λl=>K2 (.agg l) h2))
   exact(Tr.getK_iff _ _ _).2 ⟨_,h1,(xo o cs _).2 (by grind[xe])⟩
def qpZ{n:Nat}{x v:O}{ps:List Nat}{t:Tr AV}{h:Hp}{K:AV->Hp->Prop}(hk:opK orc (.storeD n x v ps) t h K) :
  ∃b y u,(∀q ∈ ps,(∃b' o',t.get q=some (.ptr b' o')/\b'≠b)\/∃cs o',t.get q=some (.pf cs o'))/\K u (h.put b y):=by
 obtain⟨p,h1,hh⟩:=qH t x _ hk;clear hh;cases p<;>try exact h1.elim
 rename_i b o;obtain⟨h2,h3⟩:=qbm h1;obtain⟨u,h4,_⟩:=qH t v _ h2;obtain⟨_,h5⟩:=(qf _ _).1 h4;have h6:=(ka _ _).1 h5;obtain⟨_,h7⟩:=(qf _ _).1 h6;obtain⟨e,w,a,cs,h8,h9⟩:=(zC h b (λe w a cs=>Bool.rec (motive:=λ_=>Prop) False (Bool.rec (motive:=λ_=>Prop) False (wH (cellsOf u) o cs (λcs'=>qd9 h b (.cells e w a cs') (λh'=>K .undef h'))) (qQ (cellsOf u))) w)).1 h7
 cases w
 .exact Ae
 .have h10:(Bool.rec (motive:=λ_=>Prop) False (wH (cellsOf u) o cs (λcs'=>qd9 h b (.cells e true a cs') (λh'=>K .undef h'))) (qQ (cellsOf u)):Prop):=h9
  cases hco:qQ (cellsOf u)with
  | false=>rw[hco]at h10;exact Ae
  | true =>
   rw[hco]at h10
   grind[vj,qaE]
def qr2{esz bytes:Nat}{s x:O}{ps:List Nat}{t:Tr AV}{h:Hp}{K:AV->Hp->Prop}(hk:opK orc (.appD esz bytes s x ps) t h K) :
  ∃u h',(∀q ∈ ps,∀b' o',t.get q=some (.ptr b' o')->b'<h.sz->h'.tr.get b'=h.tr.get b')/\K u h':=by
 obtain⟨v,h1,_⟩:=qH t s _ hk;obtain⟨u,h2,_⟩:=qH t x _ h1
 have push:∀(h:Hp) (y:Blk) (b':Nat),b'<h.sz->(h.push y).tr.get b'=h.tr.get b':=by
  intro h y b' hb;simp only[Hp.push,zz4];rw[if_neg Ab]
 cases v<;>try exact h2.elim
 rotate_left
 .rename_i b o len cap loose _;obtain⟨g1,g2⟩:=qbm h2
  have ap:∀q ∈ ps,∀b' o',t.get q=some (.ptr b' o')->b'≠b:=Ag
  obtain⟨n,new,h3,_⟩:=qih h esz u _ g1;cases loose with
  | true =>
   have h3':=(Iff.of_eq (qO _ _)).1 h3;obtain⟨_,h4⟩:=(qf _ _).1 h3';obtain⟨_,h5⟩:=(qf _ _).1 h4;obtain⟨_,h6⟩:=(qf _ _).1 h5;obtain⟨e,w,a,cs,_,h7⟩:=(zC h b _).1 h6;obtain⟨_,h8⟩:=(qf _ _).1 h7;obtain⟨_,h9⟩:=(qf _ _).1 h8;obtain⟨_,h10⟩:=(qf _ _).1 h9;obtain⟨_,h11⟩:=(qf _ _).1 h10;have h12:=(ka _ _).1 h11;obtain⟨_,h13⟩:=(qf _ _).1 h12;obtain⟨_,h13⟩:=(xo _ _ _).1 h13;have h14:=(qa7 _ _ _).1 h13;obtain⟨_,h15⟩:=(qaE _ _ _ _).1 h14;have h16:=(xJ _ _ _).1 h15;refine⟨_,_,λq hq b' o' hg hb=>?_,h16⟩
   have hne:=ap q hq b' o' hg;rw[push (h.put b .dead) _ b' hb];simp only[Hp.put,zz4];rw[if_neg hne]
  | false =>
  have h3:=(Iff.of_eq (qO _ _)).1 h3;cases hb:Nat.ble (Nat.add len n) cap with
  | false =>
   rw[hb]at h3;obtain⟨_,h4⟩:=(qf _ _).1 h3;obtain⟨_,h5⟩:=(qf _ _).1 h4;obtain⟨old,h6,_⟩:=qna _ _ _ _ _ h5;have h7:=(qa7 _ _ _).1 h6;have h8:=(xJ _ _ _).1 h7
   exact Ag
  | true =>
   rw[hb]at h3;cases n with
   | zero=>exact⟨_,_,Ae,h3⟩
   | succ n =>
    have h4:=(Iff.of_eq (qO _ _)).1 h3;obtain⟨e,w,a,cs,h8,h9⟩:=(zC h b (λe w a cs=>Bool.rec (motive:=λ_=>Prop) False (Bool.rec (motive:=λ_=>Prop) False (wH new (Nat.add o (Nat.mul len esz)) cs (λcs'=>qd9 h b (.cells e w a cs') (λh'=>K (.sl b o (Nat.add len (n+1)) cap false) h'))) (qQ new)) w)).1 h4
    cases w
    .exact Ae
    .have h10:(Bool.rec (motive:=λ_=>Prop) False (wH new (Nat.add o (Nat.mul len esz)) cs (λcs'=>qd9 h b (.cells e true a cs') (λh'=>K (.sl b o (Nat.add len (n+1)) cap false) h'))) (qQ new):Prop):=h9
     cases hco:qQ new with
     | false=>rw[hco]at h10;exact Ae
     | true =>
      rw[hco]at h10;obtain⟨_,h11⟩:=(vj _ _ _ _).1 h10;obtain⟨_,h12⟩:=(qaE _ _ _ _).1 h11;refine⟨_,_,λq hq b' o' hg hb=>?_,h12⟩
      simp only[Hp.put,zz4];rw[if_neg (ap q hq b' o' hg)]
 .obtain⟨n,new,h3,_⟩:=qih h esz u (λn _=>Nat.rec (motive:=λ_=>Prop) (K (.fz _ _) h) (λ_ _=>False) n) h2
  cases n with
  | zero=>exact⟨_,_,Ae,h3⟩
  | succ n=>exact Ae
 rotate_right
 .exact Cg
 .exact Cg
 .rename_i b m _;obtain⟨g1,g2⟩:=qbm h2;obtain⟨n,new,h3,_⟩:=qih h esz u _ g1;have h3':=(Iff.of_eq (qO _ _)).1 h3;obtain⟨_,h4⟩:=(qf _ _).1 h3';obtain⟨_,h5⟩:=(qf _ _).1 h4;obtain⟨_,h6⟩:=(qf _ _).1 h5;obtain⟨e,w,a,cs,_,h7⟩:=(zC h b _).1 h6;obtain⟨_,h8⟩:=(qf _ _).1 h7;obtain⟨_,h9⟩:=(qf _ _).1 h8;obtain⟨_,h10⟩:=(qf _ _).1 h9;obtain⟨_,h11⟩:=(qf _ _).1 h10;have h12:=(ka _ _).1 h11;obtain⟨_,h13⟩:=(qf _ _).1 h12;have h14:=(qa7 _ _ _).1 h13;obtain⟨_,h15⟩:=(qaE _ _ _ _).1 h14;have h16:=(xJ _ _ _).1 h15;refine⟨_,_,λq hq b' o' hg hb=>?_,h16⟩
  obtain⟨b2,o2,f4,f5⟩:=(g2 q hq).resolve_right Ag;rw[hg]at f4;cases f4;rw[push (h.put b .dead) _ b' hb];simp only[Hp.put,zz4];rw[if_neg f5]
def qn1{n:Nat}{x v:O}{ps:List Nat}{t:Tr AV}{h:Hp}{K:AV->Hp->Prop}(hk:opK orc (.storeD n x v ps) t h K) :
  ∃u h',(∀q ∈ ps,∀b' o',t.get q=some (.ptr b' o')->b'<h.sz->h'.tr.get b'=h.tr.get b')/\K u h':=by
 obtain⟨b,y,u,f1,f2⟩:=qpZ hk;refine⟨_,_,λq hq b' o' hg hb=>?_,f2⟩
 obtain⟨b2,o2,f4,f5⟩:=(f1 q hq).resolve_right Ae;rw[hg]at f4;cases f4;simp only[Hp.put,zz4];rw[if_neg f5]
def qmc{a b:ROp}(h:exc a b=true):wr a.k=false/\wr b.k=true:=by
 unfold exc at h;rcases zzO _ _ ▸ h with h|h
 .grind[qe1]
 .obtain⟨h1,h2⟩:=qmP h;refine⟨?_,?_⟩
  .unfold qhu at h1;split at h1
   .rename_i e;exact Fb
   .rename_i e;exact Fb
   .rename_i e;exact Fb
   exact Ae
  .unfold qfP at h2;split at h2
   .rename_i e;exact Fb
   exact Ae
def qqo{k:RK}(hb:qhu k=true):∃io,k = .op io/\∀{t:Tr AV}{sz fl:Nat}{tr:Tr Blk}{K:AV->Hp->Prop},opK orc io t ⟨sz,fl,tr⟩ K->
  ∃v x,K v ⟨sz+1,fl,tr.set sz x⟩/\∀fl2 tr2 (K2:AV->Hp->Prop),K2 v ⟨sz+1,fl2,tr2.set sz x⟩->opK orc io t ⟨sz,fl2,tr2⟩ K2:=by
 unfold qhu at hb;split at hb
 .rename_i z;refine⟨_,rfl,λ{t sz fl tr K} hk=>?_⟩
  have h1:=(xJ ⟨sz,fl,tr⟩ (.cells 0 true false z) (λb h'=>K (.ptr b 0) h')).1 hk
  exact⟨.ptr sz 0,_,h1,λfl2 tr2 K2 h2=>(xJ ⟨sz,fl2,tr2⟩ (.cells 0 true false z) (λb h'=>K2 (.ptr b 0) h')).2 h2⟩
 .rename_i n z ps;refine⟨_,rfl,λ{t sz fl tr K} hk=>?_⟩
  obtain⟨cs,h1,h2⟩:=qnu z n _ hk;obtain⟨cs',h3,h4⟩:=qjU t ps cs _ h1;have h5:=(xJ ⟨sz,fl,tr⟩ (.cells 0 true false cs') (λb h'=>K (.sl b 0 n n false) h')).1 h3
  refine⟨.sl sz 0 n n false,_,h5,λfl2 tr2 K2 h6=>?_⟩
  show ql2 z n (λcs=>qai t ps cs (λcs=>vg ⟨sz,fl2,tr2⟩ (.cells 0 true false cs) (λb h'=>K2 (.sl b 0 n n false) h')))
  exact h2 _ (h4 _ ((xJ ⟨sz,fl2,tr2⟩ (.cells 0 true false cs') (λb h'=>K2 (.sl b 0 n n false) h')).2 h6))
 .rename_i e bytes z len cap;refine⟨_,rfl,λ{t sz fl tr K} hk=>?_⟩
  obtain⟨v1,a1,a2⟩:=qH t len _ hk;obtain⟨v2,a3,a4⟩:=qH t cap _ a1;obtain⟨l,a5,a6⟩:=qhi v1 _ a3;obtain⟨c,a7,a8⟩:=qhi v2 _ a5;obtain⟨b1,a9⟩:=(qf _ _).1 a7;obtain⟨b2,a10⟩:=(qf _ _).1 a9;obtain⟨b3,a11⟩:=(qf _ _).1 a10;obtain⟨cs,h1,h2⟩:=qnu z c _ a11;have h5:=(xJ ⟨sz,fl,tr⟩ (.cells 0 true false cs) (λb h'=>K (.sl b 0 l c false) h')).1 h1
  refine⟨.sl sz 0 l c false,_,h5,λfl2 tr2 K2 h6=>?_⟩
  show evK t len (λlen=>evK t cap (λcap=>unN len (λl=>unN cap (λc=>qv (Nat.ble l c) (qv (Nat.ble c qe) (qv (Nat.ble (Nat.mul bytes c) qe) (ql2 z c (λcs=>vg ⟨sz,fl2,tr2⟩ (.cells 0 true false cs) (λb h'=>K2 (.sl b 0 l c false) h')))))))))
  exact a2 _ (a4 _ (a6 _ (a8 _ ((qf _ _).2 ⟨b1,(qf _ _).2 ⟨b2,(qf _ _).2 ⟨b3,h2 _ ((xJ ⟨sz,fl2,tr2⟩ (.cells 0 true false cs) (λb h'=>K2 (.sl b 0 l c false) h')).2 h6)⟩⟩⟩))))
 exact Ae
def qp0{k:RK}{p:Nat}(hp:qfP k=some p){C:zZ}{t:Tr AV}{h:Hp}{K:AV->Hp->Prop}(hk:qjB orc true C k t h K):∃b o y u,t.get p=some (.ptr b o)/\K u (h.put b y):=by
 have st:∀{n:Nat}{v:O}{K:AV->Hp->Prop},opK orc (.store n (.t p) v) t h K->∃b o y u,t.get p=some (.ptr b o)/\K u (h.put b y):=by
  intro n v K hk;have hk':t.getK p (λq=>unP q (λb o=>evK t v (λv=>qv (qdJ v) (qiJ (cellsOf v) (λm=>qv (Nat.beq m n) (stK h b o (cellsOf v) (λh'=>K .undef h'))))))):=hk
  obtain⟨q,h0,h1⟩:=(Tr.getK_iff _ _ _).1 hk';cases q<;>try exact h1.elim
  rename_i b o;obtain⟨u,h4,_⟩:=qH t v _ h1;obtain⟨_,h5⟩:=(qf _ _).1 h4;have h6:=(ka _ _).1 h5;obtain⟨_,h7⟩:=(qf _ _).1 h6;obtain⟨e,w,a,cs,h8,h9⟩:=(zC h b (λe w a cs=>Bool.rec (motive:=λ_=>Prop) False (Bool.rec (motive:=λ_=>Prop) False (wH (cellsOf u) o cs (λcs'=>qd9 h b (.cells e w a cs') (λh'=>K .undef h'))) (qQ (cellsOf u))) w)).1 h7
  cases w
  .exact h9.elim
  .have h10:(Bool.rec (motive:=λ_=>Prop) False (wH (cellsOf u) o cs (λcs'=>qd9 h b (.cells e true a cs') (λh'=>K .undef h'))) (qQ (cellsOf u)):Prop):=h9
   cases hco:qQ (cellsOf u)with
   | false=>rw[hco]at h10;exact h10.elim
   | true =>
    rw[hco]at h10;obtain⟨_,h11⟩:=(vj _ _ _ _).1 h10;obtain⟨_,h12⟩:=(qaE _ _ _ _).1 h11;exact Ag
 have hk2:=qlj hk;unfold qfP at hp;split at hp
 .cases hp;exact st hk2
 exact Ae
def qwp{C:zZ}(hc:Canon orc C rs T H G V){m:Nat}{p:Nat}{z:List AV}(h:rs[m]?=some ⟨some p,.op (.alloc z),none⟩):V m = .ptr (H m).sz 0:=by
 obtain⟨g1,_,g3⟩:=hc.step m _ h;have g1:true=G m:=g1;rcases g3 with⟨_,g3⟩|⟨g3,_⟩
 .have hk2:=qlj g3;cases hH:H m with
  | mk sz fl tr =>
   rw[hH]at hk2;have h1:=(xJ ⟨sz,fl,tr⟩ (.cells 0 true false z) (λb h'=>(λv h=>v=V m/\h=H (m+1)) (.ptr b 0) h')).1 hk2
   exact h1.1.symm
 exact Ae
def qpI{S:Nat->Prop}(hWW:∀j1 j2,IsW rs j1->IsW rs j2->j1<j2->S j2->S j1):∀c,(∀j,IsW rs j->S j->j<c)->∃c',c'<=c/\∀j,IsW rs j->(S j↔j<c')
 | 0,h=>Ae
 | c+1,h=>by
  by_cases hc:IsW rs c/\S c
  .refine⟨c+1,zzL _,λj hj=>⟨λhs=>h j hj hs,λhs=>?_⟩⟩
   rcases Nat.lt_or_eq_of_le (Nat.lt_succ_iff.1 hs)with hlt|rfl
   .exact hWW j c hj hc.1 hlt hc.2
   .exact hc.2
  .obtain⟨c',h1,h2⟩:=qpI hWW c (λj hj hs=>by
    have:=h j hj hs
    exact Ag)
   exact⟨c',Nat.le_succ_of_le h1,h2⟩
theorem Inv.step(horc:OrcOk P σ orc){C:zZ}(hs:qdG P σ C){nt:Nat}{ops:Array Oper}(hrs:qer P ops nt ops.toList rs=true)(hc:Canon orc C rs T H G V)(hf:∀j,j<rs.length->Fact rs H j)
  {Z0:Ren}{B:Nat->Prop}{w0:World}{ds:List Deferred}{S:Nat->Prop}{a:Act}{w:World}(I:Inv σ rs T H nt Z0 B w0 ds S a w Z) {i:Nat}{r:ROp}(hr:rs[i]?=some r) (hS:¬S i)
  (hD:∀x,x ∈ wi r->∀k,IsD rs k x->k≠i->(S k↔k<i)) (hW:qcq r.k=false->∀k q,rs[k]?=some q->wr q.k=true->k≠i->¬(i<k/\exc r q=true)->(S k↔k<i)) (hWx:wr r.k=true->∀k q,rs[k]?=some q->qcq q.k=false->k≠i->¬(k<i/\exc q r=true)->(S k↔k<i))
  (hWW:∀j1 j2,IsW rs j1->IsW rs j2->j1<j2->S j2->S j1) (hSt:∀j q p,rs[j]?=some q->i<j->qb6 r q=true->qzp r.k=some p->∀k,i<=k->k<j->¬IsD rs k p) (hSb:∀j q p,rs[j]?=some q->i<j->qmO r q=true->qfP q.k=some p->(∀k,i<=k->k<j->¬IsD rs k p)\/∃m z,i<m/\m<j/\rs[m]?=some ⟨some p,.op (.alloc z),none⟩/\∀k,m<k->k<j->¬IsD rs k p) (hPt:∀p b o,(T i).get p=some (.ptr b o)->b<(H i).sz) (hV:∀j q d,rs[j]?=some q->q.dst=some d->qIY σ (V j) (H (j+1)).sz)
  (K:Act->World->Prop) (Q:Exit->Act->World->Prop) {ro:Option Nat}(hK:∀a' w' Z',Inv σ rs T H nt Z0 B w0 ds (λj=>S j\/j=i) a' w' Z'->K a' w'):wpOpIn (Fr ro) 0 P ops Q i K a w:=by
 obtain⟨hlen,hget⟩:=qiq hrs;have hi:i<rs.length:=(zzS.1 hr).1;have ho:ops[i]?=some (ops[i]'(by simp at hlen;exact Ab)):=Array.getElem?_eq_getElem (by simp at hlen;exact Ab);generalize ops[i]'(by simp at hlen;exact Ab)=o at ho;have hchk:=hget i o r (by simpa using ho) hr;simp only[qsb,zzB]at hchk;obtain⟨⟨hc1,hc2⟩,hc3⟩:=hchk;obtain⟨g1,g2,g3⟩:=hc.step i r hr
 -- the temporaries that it names
 have hself:∀x ∈ wi r,∀k,IsD rs k x->(S k↔k<i):=by
  intro x hx k hk
  by_cases hki:k=i
  .subst hki;exact⟨λh=>absurd h hS,λh=>absurd h (Nat.lt_irrefl _)⟩
  .exact hD x hx k hk hki
 have ht:TR σ (cut Z (H i).sz) (only (T i) (wi r)) a.tmps:=by
  intro n v hv;rw[qh8]at hv;split at hv
  .exact I.tmps n i v Ab (hself n (by assumption)) hv
  .cases hv
 have hsame:qjG (T i) (only (T i) (wi r)) (wi r):=λn hn=>by rw[qh8,if_pos hn]
 have hsk:qjG (T i) (only (T i) (wi r)) (qgG (qfk r.k)):=hsame.sub λn hn=>by simp[wi,hn]
 have hgo:G i=Region.wanted o (yielded ops a.tmps):=by
  have e:=qqY (g:=r.guard) (hsame.sub (λn hn=>by simp only[wi,zzd];exact .inl (.inr hn)))
  rw[<- e]at g1;exact(qq0 (ops:=ops) (o:=o) ht hc2 g1).symm
 have hDd:∀x,r.dst=some x->∀k,IsD rs k x->k≠i->(S k↔k<i):=λx hx=>hD x (by simp[wi,hx])
 have hmonoc:∀{m n:Nat},m<=n->n<=rs.length->(cut Z (H m).sz).le (cut Z (H n).sz):=by
  intro m n hmn hn;have hs:=xa hf hmn hn;refine⟨λb L hb=>?_,λ_ _ h=>h,?_⟩
  .obtain⟨h1,h2⟩:=jO hb;rw[jG (zzh h1 hs)];exact h2
  .show min Z.n (H m).sz<=min Z.n (H n).sz;exact Ab
 -- which phases there are behind it,where it is no writer
 have phase:∀c,c<=rs.length->wr r.k=false->(∀j,IsW rs j->(S j\/j=i↔j<c))->∀j,IsW rs j->(S j↔j<c):=by
  intro c _ hwr h j hj;have hne:j≠i:=by rintro rfl;exact H3
  have:=h j hj;constructor
  .intro h';exact this.1 (.inl h')
  .intro h';rcases this.2 h' with h'|h'
   .exact h'
   .exact absurd h' hne
 -- a writer: every phase behind it holds what it left
 have writer:wr r.k=true->∀{Z2:Ren}{w2:World},Rel σ Z2 B (H (i+1)) w2->(∀b L,Z2 b=some L->b<(H (i+1)).sz)->∀c,c<=rs.length->(∀j,IsW rs j->(S j\/j=i↔j<c))->Rel σ Z2 B (H c) w2:=by
  intro hwr Z2 w2 r2 _ c hcl hph;have hic:i+1<=c:=(hph i ⟨r,hr,hwr⟩).1 (.inr rfl);refine r2.longer (xa hf hic hcl) (qqL hf hic hcl) (λb hb=>qpz hf hic hcl (λk h1 h2 q hq=>?_) b hb)
  cases hwk:wr q.k with
  | false=>rfl
  | true =>
   have hW':=hWx hwr k q hq (qEo hwk) Ab (λh=>by have:=(qmc h.2).1;rw[hwk]at this;cases this)
   rcases(hph k ⟨q,hq,hwk⟩).2 h2 with h3|h3
   .have:=hW'.1 h3;exact Ab
   .exact Ab
 unfold wpOpIn;simp only[ho];rw[<- hgo];rcases g3 with⟨hG,g3⟩|⟨hG,g3,g4⟩
 .rw[hG];simp only[if_true];have g3:=qlj g3;rw[<- qvZ hsk]at g3;have hc3:=quK hc3;cases hwr:wr r.k with
  | true =>
   -- a writer
   have hnp:qcq r.k=false:=by
    cases hk:r.k<;>rw[hk]at hwr<;>first|rfl|skip
    rename_i o1;cases o1<;>first|rfl|(simp[wr]at hwr)
   have g3':qdB orc C (qfk r.k) (only (T i) (wi r)) (H i) (λv h=>v=V i/\h=H (i+1)):=by
    rcases(qfV _ _ _).1 g3 with⟨_,h⟩|⟨h,_⟩
    .exact h
    .simp[qrU,hwr]at h
   have hph:∀j,IsW rs j->(S j↔j<i):=by
    intro j hj
    exact Bv
   have ri:=I.rels i Ab hph;refine qiD horc hs ri ht hc3 g3' _ _ ?_;rintro v v' h' Z1 w' ⟨rfl,rfl⟩ q1 q2 q3
   -- nothing behind it was done: so nothing else is mapped
   have hnone:∀b L,Z b=some L->b<(H i).sz:=by
    intro b L hb;rcases I.dom b L hb with h|⟨j,h1,h2,h3,h4⟩
    .exact zzh h (xa hf (zzu _) Ab)
    .have hjl:=I.lt j h1;have hq:rs[j]?=some rs[j]:=zzE hjl;have hji:j≠i:=by rintro rfl;exact hS h1
     have:j<i:=C1
     exact zzh h4 (xa hf this Ab)
   have hZ1:∀b L,Z b=some L->Z1 b=some L:=by
    intro b L hb;have hlt:=hnone b L hb;rw[q3.ext b hlt,jG hlt];exact hb
   have hbig:=I.big
   have hcut:∀c,i+1<=c->c<=rs.length->cut (Z1.bump Z.n) (H c).sz=Z1.bump (H c).sz:=by
    intro c h1 h2;have hs1:=xa hf h1 h2;have hs2:=xa hf h2 (zzL _);have hdn:=q2.dn.1;simp only[cut,Ren.bump]
    congr 1
    .funext b;cases hb:Z1 b with
     | none=>simp
     | some L=>rw[if_pos (zzh (q2.dom b L hb) hs1)]
    .exact Ab
   refine hK _ w' (Z1.bump Z.n) (Inv.next hc hf I hr hS hc1 hDd ?_ hZ1 ?_ q3.frz q3.fnew (zzg hbig (Nat.le_max_right _ _)) ?_ ?_ q3.pres q3.wle q3.io)
   .rw[hcut (i+1) (zzL _) hi];exact q1.mono (Z1.bump_le _)
   .intro b hb;have hlt:=zzh hb (xa hf (zzu i) Ab);show Z1 b=Z b;rw[q3.ext b hlt,jG hlt]
   .intro b L hb;have hb:Z1 b=some L:=hb
    by_cases hlt:b<(H i).sz
    .left;rw[q3.ext b hlt,jG hlt]at hb;exact hb
    .right;exact⟨λq hq=>by rw[hr]at hq;cases hq;exact hnp,Nat.le_of_not_lt hlt,q2.dom b L hb,q2.dn.2 b L hb⟩
   .intro c hcl hph';have hic:i+1<=c:=(hph' i ⟨r,hr,hwr⟩).1 (.inr rfl);rw[hcut c hic hcl];exact(writer hwr q2 q2.dom c hcl hph').bump (zzL _)
  | false =>
   have g3':qie (qdB orc C (qfk r.k) (only (T i) (wi r))) (H i) (λv h=>v=V i/\h=H (i+1)):=by
    rcases(qfV _ _ _).1 g3 with⟨h,_⟩|⟨_,h⟩
    .simp[qrU,hwr]at h
    .exact h
   cases hpure:qcq r.k with
   | true =>
    -- nothing to do with memory
    obtain⟨io,hio⟩:∃io,qfk r.k = .op io:=by
     rw[<- qno]at hpure;cases hk:qfk r.k with
     | op io=>exact⟨io,rfl⟩
     | callF=>exact Ge
     | callV=>exact Ge
     | callW=>exact Ge
     | callVW=>exact Ge
    have hpure:qcq (qfk r.k)=true:=by rw[qno];exact hpure
    rw[hio]at g3' hpure hc3
    obtain⟨v,hv1,hv2,hv3⟩:∃v,v=V i/\H i=H (i+1)/\∀h2 (k2:AV->Hp->Prop),k2 v h2->opK orc io (only (T i) (wi r)) h2 k2:=by
     cases hHi:H i with
     | mk sz fl tr =>
      rw[hHi]at g3';have g4:opK orc io (only (T i) (wi r)) ⟨sz,sz,tr⟩ (λv h'=>Hp.rec (motive:=λ_=>Prop) (λsz' _ tr'=>v=V i/\(⟨sz',fl,tr'⟩:Hp)=H (i+1)) h'):=g3'
      obtain⟨v,h1,h2⟩:=qCD hpure g4;exact⟨v,h1.1,h1.2,h2⟩
    subst hv1
    have rr0:Rel σ (cut Z (H i).sz) (low w.heap.size) ⟨(H i).sz,(H i).sz,.leaf⟩ w:=At
    refine qiD (rk:=.op io) (k:=λv' h'=>v'=V i/\h'=⟨(H i).sz,(H i).sz,.leaf⟩) horc hs rr0 ht hc3 (by unfold qdB;exact hv3 _ _ ⟨rfl,rfl⟩) _ _ ?_
    rintro v v' h' Z1 w' ⟨rfl,rfl⟩ q1 q2 q3;have hbig:=I.big;have hsi:=xa hf (i:=i) (j:=rs.length) Ab (zzL _)
    have e1:Z1.le (cut ⟨Z.loc,Z1.frz,Z.n⟩ (H i).sz):=by
     refine⟨λb L hb=>?_,λ_ _ h=>h,?_⟩
     .have hlt:b<(H i).sz:=q2.dom b L hb;rw[q3.ext b hlt]at hb;exact hb
     .have hdn:Z1.n<=(H i).sz:=q2.dn.1;show Z1.n<=min Z.n (H i).sz;exact Ab
    refine hK _ w' ⟨Z.loc,Z1.frz,Z.n⟩ (Inv.next hc hf I hr hS hc1 hDd ?_ (λ_ _ h=>h) (λ_ _=>rfl) q3.frz (λk a h=>(q3.fnew k a h).imp id (λhh=>qaB I.base (Nat.not_lt.1 hh))) hbig (λ_ _ h=>.inl h) ?_ (λk hk=>q3.pres k (I.base _ hk)) q3.wle q3.io)
    .rw[<- hv2];exact q1.mono e1
    .intro c hcl hph;exact(I.rels c hcl (phase c hcl hwr hph)).frz' q3.pres q3.wle q3.frz (λk a h=>(q3.fnew k a h).imp id Nat.not_lt.1) (λk a h=>(q2.frz k a h).1)
   | false =>
    -- reads,calls,new memory
    by_cases hx:∃k q,rs[k]?=some q/\S k/\i<k/\qb6 r q=true
    .-- a place is read that was not written by what is done already
     obtain⟨k0,q0,hq0,hS0,hik0,hex0⟩:=hx;obtain⟨_,hw0,p,d,io,hio,hdst,hload,_⟩:=qe1 hex0;obtain⟨c,hcl,hcph⟩:=qpI hWW rs.length (λj _ hs=>I.lt j hs)
     have hic:i<c:=by
      have:=(hcph k0 ⟨q0,hq0,hw0⟩).1 hS0;exact Ab
     have hpn:p ∈ wi r:=by
      simp only[wi,zzd];right;rw[hio];rcases hload with rfl|⟨n,rfl⟩<;>simp[qfk,qgG,qJ,xR]
     have hpl:qfk r.k = .op io:=E0
     have hpt:qzp r.k=some p:=E0
     rw[hpl]at g3' hc3;have ri:=I.rels c hcl hcph
     have hraise:qie (qdB orc C (.op io) (only (T i) (wi r))) (H c) (λv h=>v=V i/\h=H c):=by
      have hcase:(∃b' o' x,(only (T i) (wi r)).get p=some (.ptr b' o')/\(H i).tr.get b'=some x/\∀h2 (K2:AV->Hp->Prop),h2.tr.get b'=some x->K2 (V i) h2->opK orc io (only (T i) (wi r)) h2 K2)\/(∀h2 (K2:AV->Hp->Prop),K2 (V i) h2->opK orc io (only (T i) (wi r)) h2 K2):=by
       cases hHi:H i with
       | mk sz fl tr =>
        rw[hHi]at g3';have g4:opK orc io (only (T i) (wi r)) ⟨sz,sz,tr⟩ (λv h'=>Hp.rec (motive:=λ_=>Prop) (λsz' _ tr'=>v=V i/\(⟨sz',fl,tr'⟩:Hp)=H (i+1)) h'):=g3'
        rcases qsp hload g4 with⟨b,o,x,v,h1,h2,h3,h4⟩|⟨v,h3,h4⟩
        .obtain⟨rfl,h6⟩:=h3;exact .inl ⟨b,o,x,h1,h2,h4⟩
        .obtain⟨rfl,h6⟩:=h3;exact .inr h4
      rcases hcase with⟨b',o',x,hp,hb',hrun⟩|hrun
      .have hTp:(T i).get p=some (.ptr b' o'):=by rw[qh8,if_pos hpn]at hp;exact hp
       have hbl:b'<(H i).sz:=by
        obtain⟨_,hvr⟩:=ht p _ hp;obtain⟨L,h1,_⟩:=hvr.un_ptr;exact(jO h1).1
       have hkeepD:∀j,i<=j->j<=c->(H j).tr.get b'=(H i).tr.get b':=by
        intro j
        induction j with
        | zero => intro h1 _;obtain rfl:i=0:=Ab
                  rfl
        | succ j ihj =>
         intro h1 h2;rcases Nat.lt_or_eq_of_le h1 with h1|h1
         .have hij:i<=j:=Ab
          rw[<- ihj hij Ab];have hjl:j<rs.length:=Ab
          have hq:rs[j]?=some rs[j]:=zzE hjl;generalize rs[j]=q at hq;have hbj:b'<(H j).sz:=zzh hbl (xa hf hij Ab);cases hwq:wr q.k with
          | false=>exact(hf j hjl).keep (λq' hq'=>by rw[hq]at hq';cases hq';exact hwq) b' hbj
          | true =>
           have hSj:S j:=(hcph j ⟨q,hq,hwq⟩).2 Ab;have hne:j≠i:=by rintro rfl;exact hS hSj
           have hnb:qmO r q=false:=by
            unfold qmO;exact E0
           have hex:qb6 r q=true:=by
            cases he:qb6 r q with
            | true=>rfl
            | false =>
             have:=(hW hpure j q hq hwq hne (λh=>by have:=h.2;unfold exc at this;rw[he,hnb]at this;cases this)).1 hSj
             exact Ab
           obtain⟨_,_,p2,d2,io2,hio2,_,hload2,ps,hqk,hps⟩:=qe1 hex
           have hpp:p2=p:=by
            rw[hio]at hio2;cases hio2;rcases hload with rfl|⟨m,rfl⟩<;>rcases hload2 with h|⟨m2,h⟩<;>cases h<;>rfl
           subst hpp
           have hTj:(T j).get p2=some (.ptr b' o'):=by
            rw[<- hTp];exact qjH hc hij Ab (λk hk1 hk2=>hSt j q p2 hq Ab hex hpt k hk1 hk2)
           obtain⟨_,_,gj⟩:=hc.step j q hq;rcases gj with⟨_,gj⟩|⟨_,_,gj⟩
           .have gj':∃u h',(∀q ∈ ps,∀b' o',(T j).get q=some (.ptr b' o')->b'<(H j).sz->h'.tr.get b'=(H j).tr.get b')/\u=V j/\h'=H (j+1):=by
             rcases hqk with⟨n,xx,vv,hqk⟩|⟨e,y,xx,vv,hqk⟩
             .rw[hqk]at gj;exact qn1 (orc:=orc) gj
             .rw[hqk]at gj;exact qr2 (orc:=orc) gj
            obtain⟨u,h',f1,_,f3⟩:=gj';rw[<- f3];exact f1 p2 hps b' o' hTj hbj
           .rw[gj]
         .rw[<- h1]
       have hHc:(H c).tr.get b'=some x:=(hkeepD c Ab (zzL _)).trans hb';cases hHcc:H c with
       | mk sz fl tr =>
        rw[hHcc]at hHc;exact hrun ⟨sz,sz,tr⟩ (λv h'=>Hp.rec (motive:=λ_=>Prop) (λsz' _ tr'=>v=V i/\(⟨sz',fl,tr'⟩:Hp)=⟨sz,fl,tr⟩) h') hHc ⟨rfl,rfl⟩
      .cases hHcc:H c with
       | mk sz fl tr =>
        exact hrun ⟨sz,sz,tr⟩ (λv h'=>Hp.rec (motive:=λ_=>Prop) (λsz' _ tr'=>v=V i/\(⟨sz',fl,tr'⟩:Hp)=⟨sz,fl,tr⟩) h') ⟨rfl,rfl⟩
     refine qkx horc hs ri (ht.mono (hmonoc (Nat.le_of_lt hic) hcl)) hc3 hraise _ _ ?_;rintro v v' h' Z1 w' ⟨rfl,rfl⟩ q1 q2 q3 q4 q5 q6 q7;have hbig:=I.big
     have e1:Z1.le ⟨Z.loc,Z1.frz,Z.n⟩:=by
      refine⟨λb L hb=>?_,λ_ _ h=>h,?_⟩
      .have hlt:b<(H c).sz:=q2.dom b L hb;rw[q3.ext b hlt]at hb;exact(jO hb).2
      .have hdn:=q2.dn.1;have:=xa hf hcl (zzL _);show Z1.n<=Z.n;exact Ab
     obtain⟨Zs,vs,hsm1,hsm2,hsm3⟩:=hV i r d hr hdst;refine hK _ w' ⟨Z.loc,Z1.frz,Z.n⟩ (Inv.next hc hf I hr hS hc1 hDd (VR.small hsm2 hsm3 hsm1 (q1.mono e1)) (λ_ _ h=>h) (λ_ _=>rfl) q3.frz q3.fnew hbig (λ_ _ h=>.inl h) ?_ (λk hk=>q5 k (I.base _ hk)) q3.wle q3.io)
     intro c' hcl' hph';exact(I.rels c' hcl' (phase c' hcl' hwr hph')).frz' q5 q3.wle q3.frz q7 (λk a h=>(q2.frz k a h).1)
    by_cases hx2:∃k q,rs[k]?=some q/\S k/\i<k/\qmO r q=true
    .-- new memory,and a store behind it is done
     obtain⟨k0,q0,hq0,hS0,hik0,hex0⟩:=hx2
     have hbl:qhu r.k=true:=by
      exact(qmP hex0).1
     have hw0:wr q0.k=true:=(qmc (show exc r q0=true by unfold exc;rw[hex0,Bool.or_true])).2
     obtain⟨io,hio,hblind⟩:=qqo (orc:=orc) hbl
     have hpl:qfk r.k = .op io:=by
      unfold qhu at hbl;split at hbl
      .exact Gm
      .exact Gm
      .exact Gm
      .cases hbl
     rw[hpl]at g3' hc3
     obtain⟨v,x,hv1,hv2,hrun⟩:∃v x,v=V i/\H (i+1)=⟨(H i).sz+1,(H i).fl,(H i).tr.set (H i).sz x⟩/\∀fl2 tr2 (K2:AV->Hp->Prop),K2 v ⟨(H i).sz+1,fl2,tr2.set (H i).sz x⟩->opK orc io (only (T i) (wi r)) ⟨(H i).sz,fl2,tr2⟩ K2:=by
      cases hHi:H i with
      | mk sz fl tr =>
       rw[hHi]at g3';have g4:opK orc io (only (T i) (wi r)) ⟨sz,sz,tr⟩ (λv h'=>Hp.rec (motive:=λ_=>Prop) (λsz' _ tr'=>v=V i/\(⟨sz',fl,tr'⟩:Hp)=H (i+1)) h'):=g3'
       obtain⟨v,x,h1,h2⟩:=hblind g4;exact⟨v,x,h1.1,h1.2.symm,h2⟩
     subst hv1
     have rr0:Rel σ (cut Z (H i).sz) (low w.heap.size) ⟨(H i).sz,(H i).sz,.leaf⟩ w:=At
     refine qiD (rk:=.op io) (k:=λv' h'=>v'=V i/\h'=⟨(H i).sz+1,(H i).sz,Tr.leaf.set (H i).sz x⟩) horc hs rr0 ht hc3 (by unfold qdB;exact hrun _ _ _ ⟨rfl,rfl⟩) _ _ ?_
     rintro v v' h' Z1 w' ⟨rfl,rfl⟩ q1 q2 q3;have hbig:=I.big;have hsi:=xa hf (i:=i+1) (j:=rs.length) hi (zzL _);have hs1:(H (i+1)).sz=(H i).sz+1:=by rw[hv2]
     have hfree:∀b L,Z b=some L->b≠(H i).sz:=by
      rintro b L hb rfl;rcases I.dom _ L hb with h|⟨j,h3,_,h4,h5⟩
      .have:=xa hf (zzu i) Ab;exact Ab
      .have hjl:=I.lt j h3;rcases Nat.lt_trichotomy j i with h|h|h
       .have:=xa hf (i:=j+1) (j:=i) h Ab;exact Ab
       .subst h;exact hS h3
       .have:=xa hf (i:=i+1) (j:=j) h Ab;exact Ab
     let Zn:Ren:=⟨λb=>if b=(H i).sz then Z1 b else Z b,Z1.frz,Z.n⟩
     have hZn:∀b L,Z b=some L->Zn b=some L:=by
      intro b L hb;simp only[Zn];rw[if_neg (hfree b L hb)];exact hb
     have hZ1n:∀c,i+1<=c->c<=rs.length->∀b L,Z1 b=some L->cut Zn (H c).sz b=some L:=by
      intro c h1 h2 b L hb;have hlt:b<(H i).sz+1:=q2.dom b L hb;have:=xa hf h1 h2;rw[jG Ab];simp only[Zn]
      by_cases h3:b=(H i).sz
      .rw[if_pos h3];exact hb
      .have hlt2:b<(H i).sz:=Ab
       rw[if_neg h3];rw[q3.ext b hlt2,jG hlt2]at hb;exact hb
     have hZ1l:∀c,i+1<=c->c<=rs.length->Z1.le (cut Zn (H c).sz):=by
      intro c h1 h2;refine⟨hZ1n c h1 h2,λ_ _ h=>h,?_⟩
      have hdn:Z1.n<=(H i).sz+1:=q2.dn.1;have:=xa hf h1 h2;have:=xa hf h2 (zzL _);show Z1.n<=min Z.n (H c).sz;exact Ab
     refine hK _ w' Zn (Inv.next hc hf I hr hS hc1 hDd (q1.mono (hZ1l (i+1) (zzL _) hi)) hZn ?_ q3.frz (λk a h=>(q3.fnew k a h).imp id (λhh=>qaB I.base (Nat.not_lt.1 hh))) hbig ?_ ?_ (λk hk=>q3.pres k (I.base _ hk)) q3.wle q3.io)
     .intro b hb;have:=xa hf (zzu i) Ab;simp only[Zn];rw[if_neg Ab]
     .intro b L hb;simp only[Zn]at hb;split at hb
      .rename_i h;exact .inr ⟨λq hq=>by rw[hr]at hq;cases hq;exact hpure,Ab,Ab,q2.dn.2 b L hb⟩
      .exact .inl hb
     .intro c hcl hph';have hph0:=phase c hcl hwr hph';have rc:=I.rels c hcl hph0
      have hic:i<c:=by
       have:=(hph0 k0 ⟨q0,hq0,hw0⟩).1 hS0;exact Ab
      have hcont:∀j,i+1<=j->j<=c->(H j).tr.get (H i).sz=some x:=by
       intro j
       induction j with
       | zero=>intro h1;exact Ab
       | succ j ihj =>
        intro h1 h2;rcases Nat.lt_or_eq_of_le h1 with h1|h1
        .have hij:i+1<=j:=Ab
         have hprev:=ihj hij Ab;have hjl:j<rs.length:=Ab
         have hq:rs[j]?=some rs[j]:=zzE hjl;generalize rs[j]=q at hq;have hbj:(H i).sz<(H j).sz:=by have:=xa hf hij Ab;exact Ab
         cases hwq:wr q.k with
         | false=>rw[(hf j hjl).keep (λq' hq'=>by rw[hq]at hq';cases hq';exact hwq) _ hbj];exact hprev
         | true =>
          have hSj:S j:=(hph0 j ⟨q,hq,hwq⟩).2 Ab;have hne:j≠i:=Ab
          have hnx:qb6 r q=false:=by
           cases he:qb6 r q with
           | false=>rfl
           | true =>
            obtain⟨_,_,p,d,io2,hio2,_,hload,_⟩:=qe1 he;rw[hio]at hio2;cases hio2;unfold qhu at hbl;rw[hio]at hbl;rcases hload with rfl|⟨n,rfl⟩<;>cases hbl
          have hex:qmO r q=true:=by
           cases he:qmO r q with
           | true=>rfl
           | false =>
            have:=(hW hpure j q hq hwq hne (λh=>by have:=h.2;unfold exc at this;rw[he,hnx]at this;cases this)).1 hSj
            exact Ab
          obtain⟨p,hp⟩:∃p,qfP q.k=some p:=by
           exact zzx.1 (qmP hex).2
          obtain⟨_,_,gj⟩:=hc.step j q hq;rcases gj with⟨_,gj⟩|⟨_,_,gj⟩
          .obtain⟨b',o',y,u,f1,f2,f3⟩:=qp0 (orc:=orc) hp gj
           have hne2:b'≠(H i).sz:=by
            rcases hSb j q p hq Ab hex hp with hSb|⟨m,z,m1,m2,m3,m4⟩
            .have hTi:(T i).get p=some (.ptr b' o'):=by
              rw[<- f1];exact(qjH hc Ab Ab (λk hk1 hk2=>hSb k hk1 hk2)).symm
             have hlt:=hPt p b' o' hTi;exact Ab
            .have hTm:(T (m+1)).get p=some (.ptr b' o'):=by
              rw[<- f1];exact(qjH hc Ab Ab (λk hk1 hk2=>m4 k Ab hk2)).symm
             rw[qo9 hc m3,if_pos rfl]at hTm;have hVm:=qwp hc m3;rw[hVm]at hTm;have hb':(H m).sz=b':=by injection hTm with e;injection e
             have:=xa hf (i:=i+1) (j:=m) Ab Ab;rw[hv2]at this;have:(H i).sz+1<=(H m).sz:=this;exact Ab
           rw[<- f3];simp only[Hp.put,zz4];rw[if_neg Ab];exact hprev
          .rw[gj];exact hprev
        .rw[<- h1,hv2];exact Be
      have hnb:=hcont c hic (zzL _);have hsc:=xa hf hcl (zzL _);have hs2:=xa hf (i:=i+1) (j:=c) hic hcl;have hfn:∀k a,Z1.frz k=some a->Z.frz k=some a\/w.heap.size<=k:=λk a h=>(q3.fnew k a h).imp id Nat.not_lt.1
      refine Rel.join2 (nb:=(H i).sz) rc q2 (λn hn=>q3.pres n hn) q3.wle Ab (by rw[hnb];exact Be) ?_ (hZ1n c hic hcl) q3.frz rfl (zzL _) (hZ1l c hic hcl).2.2 (Nat.min_le_right _ _) hfn ?_
      .intro b L hb;obtain⟨h1,h2⟩:=jO hb;rw[jG h1];exact hZn b L h2
      .intro b L hb;obtain⟨h1,h2⟩:=jO hb;simp only[Zn]at h2;split at h2
       .rename_i h;exact .inr ⟨h,h2,Nat.not_lt.1 (q2.flr b L h2 (by show(H i).sz<=b;exact Ab))⟩
       .left;rw[jG h1];exact h2
    have hph:∀j,IsW rs j->(S j↔j<i):=by
     intro j hj
     by_cases hji:j=i
     .subst hji;exact H3
     .obtain⟨q,hq,hwq⟩:=hj
      by_cases he:i<j/\exc r q=true
      .refine⟨λh=>?_,λh=>Ab⟩
       have he2:=he.2;unfold exc at he2;rcases(zzO _ _ ▸ he2:qb6 r q=true\/qmO r q=true)with he2|he2
       .exact absurd ⟨j,q,hq,h,he.1,he2⟩ hx
       .exact absurd ⟨j,q,hq,h,he.1,he2⟩ hx2
      .exact hW hpure j q hq hwq hji he
    have ri:=I.rels i Ab hph;refine qkx horc hs ri ht hc3 g3' _ _ ?_;rintro v v' h' Z1 w' ⟨rfl,rfl⟩ q1 q2 q3 q4 q5 q6 q7;have hbig:=I.big
    -- the new map
    let Zn:Ren:=⟨λb=>if(H i).sz<=b/\b<(H (i+1)).sz then Z1 b else Z b,Z1.frz,Z.n⟩
    have hfree:∀b L,Z b=some L->¬((H i).sz<=b/\b<(H (i+1)).sz):=by
     rintro b L hb ⟨h1,h2⟩;rcases I.dom b L hb with h|⟨j,h3,_,h4,h5⟩
     .have:=xa hf (zzu i) Ab;exact Ab
     .have hjl:=I.lt j h3;rcases Nat.lt_trichotomy j i with h|h|h
      .have:=xa hf (i:=j+1) (j:=i) h Ab;exact Ab
      .subst h;exact hS h3
      .have:=xa hf (i:=i+1) (j:=j) h Ab;exact Ab
    have hZn:∀b L,Z b=some L->Zn b=some L:=by
     intro b L hb;simp only[Zn];rw[if_neg (hfree b L hb)];exact hb
    have hZ1n:∀c,i+1<=c->c<=rs.length->∀b L,Z1 b=some L->cut Zn (H c).sz b=some L:=by
     intro c h1 h2 b L hb;have hlt:=q2.dom b L hb;rw[jG (zzh hlt (xa hf h1 h2))];simp only[Zn]
     by_cases h3:(H i).sz<=b
     .rw[if_pos ⟨h3,hlt⟩];exact hb
     .rw[if_neg (λh=>h3 h.1)]
      rw[q3.ext b (Nat.lt_of_not_le h3),jG (Nat.lt_of_not_le h3)]at hb;exact hb
    have hZ1l:∀c,i+1<=c->c<=rs.length->Z1.le (cut Zn (H c).sz):=by
     intro c h1 h2;refine⟨hZ1n c h1 h2,λ_ _ h=>h,?_⟩
     have hdn:=q2.dn.1;have:=xa hf h1 h2;have:=xa hf h2 (zzL _);show Z1.n<=min Z.n (H c).sz;exact Ab
    refine hK _ w' Zn (Inv.next hc hf I hr hS hc1 hDd ?_ hZn ?_ q3.frz q3.fnew hbig ?_ ?_ q3.pres q3.wle q3.io)
    .exact q1.mono (hZ1l (i+1) (zzL _) hi)
    .intro b hb;have:=xa hf (zzu i) Ab;simp only[Zn];rw[if_neg (λh=>Ab)]
    .intro b L hb;simp only[Zn]at hb;split at hb
     .rename_i h;exact .inr ⟨λq hq=>by rw[hr]at hq;cases hq;exact hpure,h.1,h.2,q2.dn.2 b L hb⟩
     .exact .inl hb
    .intro c hcl hph';have hph0:=phase c hcl hwr hph';have rc:=I.rels c hcl hph0
     by_cases hci:c<=i
     .have e:cut Zn (H c).sz=⟨(cut Z (H c).sz).loc,Z1.frz,(cut Z (H c).sz).n⟩:=by
       simp only[cut,Zn]
       congr 1
       funext b;split
       .have:=xa hf hci Ab;rw[if_neg (λh=>Ab)]
       .rfl
      rw[e];exact rc.frz' q5 q3.wle q3.frz q7 (λk a h=>(q2.frz k a h).1)
     .have hic:i+1<=c:=Ab
      have hkeep:∀b,b<(H (i+1)).sz->(H c).tr.get b=(H (i+1)).tr.get b:=λb hb=>qpz hf hic hcl (λk h1 h2 q hq=>by
       cases hwk:wr q.k with
       | false=>rfl
       | true =>
        have h3:=(hph0 k ⟨q,hq,hwk⟩).2 h2;have:=(hph k ⟨q,hq,hwk⟩).1 h3;exact Ab) b hb
      have hsc:=xa hf hcl (zzL _);refine Rel.join rc q2 q5 q3.wle (xa hf hic hcl) (qqL hf hic hcl) hkeep ?_ (hZ1n c hic hcl) q3.frz rfl (zzL _) (hZ1l c hic hcl).2.2 (Nat.min_le_right _ _) q7 ?_
      .intro b L hb;obtain⟨h1,h2⟩:=jO hb;rw[jG h1];exact hZn b L h2
      .intro b L hb;obtain⟨h1,h2⟩:=jO hb;simp only[Zn]at h2;split at h2
       .rename_i h;exact .inr ⟨h2,q6 b L h2 h.1⟩
       .left;rw[jG h1];exact h2
 .-- it isn't wanted
  rw[hG];simp only[Bool.false_eq_true,if_false];refine⟨λ_ _=>trivial,hK _ w Z (Inv.next hc hf I hr hS hc1 hDd ?_ (λ_ _ h=>h) (λ_ _=>rfl) (λ_ _ h=>h) (λ_ _ h=>.inl h) I.big (λ_ _ h=>.inl h) ?_ (λ_ _=>rfl) (zzL _) ⟨rfl,rfl⟩)⟩
  .rw[g3];exact .tup [] #[] .nil
  .intro c hcl hph;cases hwr:wr r.k with
   | false=>exact I.rels c hcl (phase c hcl hwr hph)
   | true =>
    have hnp:qcq r.k=false:=by
     cases hk:r.k<;>rw[hk]at hwr<;>first|rfl|skip
     rename_i o1;cases o1<;>first|rfl|(simp[wr]at hwr)
    have hph0:∀j,IsW rs j->(S j↔j<i):=by
     intro j hj
     exact Bv
    have ri:=I.rels i Ab hph0;have hic:i+1<=c:=(hph i ⟨r,hr,hwr⟩).1 (.inr rfl);have hbig:=I.big;have hs1:=xa hf hic hcl;have hs2:=xa hf hcl (zzL _);have hs3:(H i).sz<=(H (i+1)).sz:=xa hf (Nat.le_succ i) hi
    have e:cut Z (H c).sz=(cut Z (H i).sz).bump (H c).sz:=by
     simp only[cut,Ren.bump]
     congr 1
     rotate_left
     .exact Ab
     funext b;cases hb:Z b with
     | none=>simp
     | some L =>
      have hlt:b<(H i).sz:=by
       rcases I.dom b L hb with h|⟨j,h1,h2,h3,h4⟩
       .exact zzh h (xa hf (zzu _) Ab)
       .have hjl:=I.lt j h1;have hq:rs[j]?=some rs[j]:=zzE hjl;have hji:j≠i:=by rintro rfl;exact hS h1
        have:j<i:=C1
        exact zzh h4 (xa hf this Ab)
      rw[if_pos hlt,if_pos (zzh hlt (zzg hs3 hs1))]
    rw[e];have ri':Rel σ (cut Z (H i).sz) B (H (i+1)) w:=by rw[g4];exact ri
    exact(writer hwr ri' ri'.dom c hcl hph).bump (zzL _)
end
def qs6(horc:OrcOk P σ orc){C:zZ}(hi:LC C)(hs:qdG P σ C){ro:Option Nat}{nt:Nat}{ops:Array Oper}{id:Nat}{rs:List ROp}{Q:Tr AV->Hp->Prop}{K:Exit->Act->World->Prop}{B:Nat->Prop}{t:Tr AV}{h:Hp}{w:World}{a:Act}{Z:Ren}
  (hrs:qer P ops nt ops.toList rs=true) (hmix:P.follows .mixedOrders=true) (hdr:qpn ops rs=true) (hk:qkz orc true C rs Q t h) (ht:TR σ Z t a.tmps) (hsz:nt<=a.tmps.size) (r:Rel σ Z B h w)
  (hK:∀a' w' t' h' Z',Q t' h'->TR σ Z' t' a'.tmps->nt<=a'.tmps.size->a'.defers=a.defers->Rel σ Z' B h' w'->Kept Z B h w Z' h' w'->K .normal a' w'):(Code.region id ops true).wpIn (Fr ro) 0 P K a w:=by
 obtain⟨T,H,G,V,rfl,rfl,hc,hQ⟩:=qqz hi rs t h hk;obtain⟨_,hf⟩:=qe0 horc hs hrs hc ht hsz r rs.length (zzL _);obtain⟨hlen,hget⟩:=qiq hrs;have hlen':ops.size=rs.length:=by simpa using hlen
 simp only[qpn,zzB]at hdr;obtain⟨⟨hd0,hd1⟩,hd2⟩:=hdr
 have hlt:∀(i:Nat) o,ops[i]?=some o->∀e ∈ o.after,Region.binds .any e=true->e.on<i:=by
  intro i o ho e he hb;have:=(zzy.1 hd1) (o,i) (by rw[List.mem_zipIdx_iff_getElem?];simpa using ho);rw[Array.all_eq_true']at this;have h2:=this e he;simp[hb]at h2;simpa[Nat.blt]using h2
 let S:Array Bool->Nat->Prop:=λl i=>l[i]?=some true
 have main:∀(fuel:Nat) (listed:Array Bool) (a':Act) (w':World) (Z':Ren),listed.size=ops.size->listed.toList.count false=fuel->(∀(i:Nat) o,S listed i->ops[i]?=some o->∀e ∈ o.after,Region.binds .any e=true->S listed e.on)->
   Inv σ rs T H nt Z B w a.defers (S listed) a' w' Z'->wpAnyIn (Fr ro) 0 P .any ops K fuel listed a' w':=by
  intro fuel
  have fin:∀(listed:Array Bool) (a':Act) (w':World) (Z':Ren),listed.size=ops.size->(∀i,i<ops.size->S listed i)->Inv σ rs T H nt Z B w a.defers (S listed) a' w' Z'->K .normal a' w':=by
   intro listed a' w' Z' hls hall I;have hall':∀i,i<rs.length->S listed i:=λi hi=>hall i Ab
   have rn:=I.rels rs.length (zzL _) (λj hj=>by
    obtain⟨q,h1,_⟩:=hj;have:=(zzS.1 h1).1;exact⟨λ_=>this,λ_=>hall' j this⟩)
   refine hK a' w' _ _ (cut Z' (H rs.length).sz) hQ (λx v hv=>I.tmps x rs.length v (zzL _) (λk hk=>by
    obtain⟨q,h1,_⟩:=hk;have:=(zzS.1 h1).1;exact⟨λ_=>this,λ_=>hall' k this⟩) hv) I.size I.defers rn ?_
   exact⟨λb hb=>by rw[jG (zzh hb (xa hf (zzu _) (zzL _)))];exact I.ext b hb,xa hf (zzu _) (zzL _),qqL hf (zzu _) (zzL _),
    λb h1 h2=>qxO hf (zzL _) b h1 h2,I.pres,I.wle,I.io,I.frz,I.fnew,by
     have h1:=r.dn.1;have h2:=xa hf (zzu rs.length) (zzL _);have h3:=I.big;show Z.n<=min Z'.n (H rs.length).sz;exact Ab⟩
  -- where nothing is ready all is done
  have done:∀(listed:Array Bool),listed.size=ops.size->Region.ready .any ops listed=[]->∀i,i<ops.size->S listed i:=by
   intro listed hls hre i
   induction i using Nat.strongRecOn with
   | _ i ihi =>
    intro hi;apply Classical.byContradiction;intro hns
    have hmem:i ∈ Region.ready .any ops listed:=by
     simp only[Region.ready,List.mem_filter,List.mem_range];have ho:ops[i]?=some ops[i]:=Array.getElem?_eq_getElem hi
     have hli:listed[i]?=some false:=by
      have h1:listed[i]?=some (listed[i]' Ab):=Array.getElem?_eq_getElem Ab;cases hb:listed[i]' Ab with
      | false=>rw[h1,hb]
      | true=>exact absurd (show S listed i from by show listed[i]?=some true;rw[h1,hb]) hns
     refine⟨hi,?_⟩;rw[Array.getD_eq_getD_getElem?,hli,ho];simp only[Option.getD_some,Bool.not_false,Bool.true_and,zza,Array.all_eq_true'];intro e he
     by_cases hb:Region.binds .any e=true
     .have hl:=hlt i _ ho e he hb;have:S listed e.on:=ihi e.on hl Ab;have h2:listed[e.on]?=some true:=this;simp[Array.getD_eq_getD_getElem?,h2]
     .simp[hb]
    rw[hre]at hmem;cases hmem
  induction fuel with
  | zero =>
   intro listed a' w' Z' hls hcnt hcl I
   have hall:∀i,i<ops.size->S listed i:=by
    intro i hi;have h1:listed[i]?=some (listed[i]' Ab):=Array.getElem?_eq_getElem Ab;cases hb:listed[i]' Ab with
    | true=>show listed[i]?=some true;rw[h1,hb]
    | false =>
     exfalso
     have:false ∈ listed.toList:=by
      rw[<- hb];simp
     have:=List.count_pos_iff.2 this;exact Ab
   refine⟨?_,fin listed a' w' Z' hls hall I⟩;apply List.eq_nil_iff_forall_not_mem.2;intro i hi;simp only[Region.ready,List.mem_filter,List.mem_range]at hi;have h2:listed[i]?=some true:=hall i hi.1;have h3:=hi.2;rw[Array.getD_eq_getD_getElem?,h2]at h3;simp at h3
  | succ fuel ihf =>
   intro listed a' w' Z' hls hcnt hcl I;refine⟨λhre=>fin listed a' w' Z' hls (done listed hls hre) I,?_⟩
   intro i hi;simp only[Region.ready,List.mem_filter,List.mem_range,zzB,Bool.not_eq_true']at hi;obtain⟨hin,hnl,hafter⟩:=hi;have ho:ops[i]?=some ops[i]:=Array.getElem?_eq_getElem hin
   have hli:listed[i]?=some false:=by
    have h1:listed[i]?=some (listed[i]' Ab):=Array.getElem?_eq_getElem Ab;rw[Array.getD_eq_getD_getElem?,h1]at hnl;rw[h1];simpa using hnl
   have hS:¬S listed i:=by intro h;have h':listed[i]?=some true:=h;rw[hli]at h';cases h'
   rw[ho]at hafter;simp only[zza,Option.getD_some,Array.all_eq_true']at hafter
   have hready:∀e ∈ ops[i].after,Region.binds .any e=true->S listed e.on:=by
    intro e he hb;have:=hafter e he;simp[hb]at this;show listed[e.on]?=some true;cases h:listed[e.on]? with
    | none=>rw[h]at this;simp at this
    | some b=>rw[h]at this;simp at this;rw[this]
   have hri:rs[i]?=some (rs[i]' Ab):=zzE Ab;generalize rs[i]' Ab=rr at hri
   -- what must be before,is;what must be behind,isn't
   have hlow:∀k q,rs[k]?=some q->k<i->qfh q rr=true->S listed k:=by
    intro k q hq hki hm;have hbit:=qiz rs 0 hd2 rfl k i q rr hki (zzu _) hq hri hm;exact qk9 hlt hcl i _ ho hready k hbit
   have hhigh:∀k q,rs[k]?=some q->i<k->qfh rr q=true->¬S listed k:=by
    intro k q hq hik hm hSk;have hkl:=(zzS.1 hq).1;have hbit:=qiz rs 0 hd2 rfl i k rr q hik (zzu _) hri hq hm;have hok:ops[k]?=some (ops[k]' Ab):=Array.getElem?_eq_getElem Ab;exact hS (qk9 hlt hcl k _ hok (hcl k _ hSk hok) i hbit)
   have hcmp:∀k q,rs[k]?=some q->k≠i->(k<i->qfh q rr=true)->(i<k->qfh rr q=true)->(S listed k↔k<i):=by
    intro k q hq hki h1 h2;rcases Nat.lt_or_gt_of_ne hki with h|h
    .exact⟨λ_=>h,λ_=>hlow k q hq h (h1 h)⟩
    .exact⟨λhs=>absurd hs (hhigh k q hq h (h2 h)),λhs=>Ab⟩
   have hback:∀j k q q',rs[j]?=some q->rs[k]?=some q'->k<j->qfh q' q=true->S listed j->S listed k:=by
    intro j k q q' hq hq' hkj hm hSj;have hjl:=(zzS.1 hq).1;have hbit:=qiz rs 0 hd2 rfl k j q' q hkj (zzu _) hq' hq hm;have hok:ops[j]?=some (ops[j]' Ab):=Array.getElem?_eq_getElem Ab;exact qk9 hlt hcl j _ hok (hcl j _ hSj hok) k hbit
   refine Inv.step horc hs hrs hc hf I hri hS ?_ ?_ ?_ ?_ ?_ ?_ ?_ ?_ _ _ ?_
   .rintro x hx k ⟨q,hq,hqd⟩ hki
    have hdn:dn q rr=true:=by
     simp only[dn,hqd];exact Dm
    exact hcmp k q hq hki (λ_=>by simp[qfh,hdn]) (λ_=>by simp[qfh,hdn])
   .intro hp k q hq hqw hki hne;refine hcmp k q hq hki (λ_=>by simp[qfh,hp,hqw]) (λh=>?_)
    have:exc rr q=false:=by
     cases he:exc rr q with
     | true=>exact absurd ⟨h,he⟩ hne
     | false=>rfl
    simp[qfh,hp,hqw,this]
   .intro hw k q hq hp hki hne;refine hcmp k q hq hki (λh=>?_) (λ_=>by simp[qfh,hp,hw])
    have:exc q rr=false:=by
     cases he:exc q rr with
     | true=>exact absurd ⟨h,he⟩ hne
     | false=>rfl
    simp[qfh,hp,hw,this]
   .rintro j1 j2 ⟨q1,hq1,hw1⟩ ⟨q2,hq2,hw2⟩ hj hs2;exact hback j2 j1 q2 q1 hq2 hq1 hj (by simp[qfh,hw1,qEo hw2]) hs2
   .rintro j q p hq hij hex hpt k hik hkj ⟨u,hu,hud⟩;have h1:=(zzy.1 hd0) (q,j) Ib;have h2:=(zzy.1 h1) (rr,i) Gz;simp only[hex,Bool.not_true,Bool.false_or,zzB]at h2
    have h3:=(zzy.1 h2.1) u (zzM (i:=k-i) (by
     rw[zzp,show i+(k-i)=k from Ab,zzq hkj];exact hu))
    simp[hud,hpt]at h3
   .intro j q p hq hij hex hpt;have h1:=(zzy.1 hd0) (q,j) Ib;have h2:=(zzy.1 h1) (rr,i) Gz;simp only[hex,Bool.not_true,Bool.false_or,zzB]at h2;rcases zzO _ _ ▸ h2.2 with h2|h2
    .left;rintro k hik hkj ⟨u,hu,hud⟩
     have h3:=(zzy.1 h2) u (zzM (i:=k-i) (by
      rw[zzp,show i+(k-i)=k from Ab,zzq hkj];exact hu))
     simp[hud,hpt]at h3
    .right;rw[hpt]at h2;obtain⟨n,z,n1,n2⟩:=qor h2;have hnl:n<((rs.take j).drop (i+1)).length:=(zzS.1 n1).1;rw[List.length_drop,zzm]at hnl;rw[zzp,zzq Ab]at n1;refine⟨i+1+n,z,Ab,Ab,n1,?_⟩
     rintro k hk1 hk2 ⟨u,hu,hud⟩;exact n2 (k-(i+1)) u Ab (by rw[zzp,show i+1+(k-(i+1))=k from Ab,zzq hk2];exact hu) hud
   .intro p b o hp;obtain⟨⟨Z3,a3,w3,ht3,_,r3⟩,_⟩:=qe0 horc hs hrs hc ht hsz r i Ab;obtain⟨L,h1,_⟩:=(ht3 p _ hp).2.un_ptr;exact r3.dom b L h1
   .intro j q d hq hd;have hjl:=(zzS.1 hq).1;obtain⟨⟨Z3,a3,w3,ht3,_,r3⟩,_⟩:=qe0 horc hs hrs hc ht hsz r (j+1) Ab;have hg:(T (j+1)).get d=some (V j):=by rw[qo9 hc hq,if_pos hd]
    exact⟨Z3,_,(ht3 d _ hg).2,λb L hb=>r3.dom b L hb,r3.dn.1⟩
   .intro a2 w2 Z2 I2
    have hS2:S (listed.setIfInBounds i true)=λj=>S listed j\/j=i:=by
     funext j;apply propext;show(listed.setIfInBounds i true)[j]?=some true↔(listed[j]?=some true\/j=i);rw[zzw]
     by_cases hji:i=j
     .subst hji;simp;exact Ab
     .rw[if_neg hji];constructor
      .exact .inl
      .rintro (h|h)
       .exact h
       .exact absurd h.symm hji
    refine ihf (listed.setIfInBounds i true) a2 w2 Z2 (by simp;exact hls) ?_ ?_ (by rw[hS2];exact I2)
    .rw[Array.toList_setIfInBounds];have hil:i<listed.toList.length:=by simp;exact Ab
     have hget0:listed.toList[i]=false:=by
      have:listed.toList[i]?=some false:=by simpa using hli
      rw[zzE hil]at this;exact H5
     rw[List.count_set hil,hget0,hcnt];rfl
    .intro j o' hSj ho' e he hb;rw[hS2]at hSj ⊢;rcases hSj with hSj|rfl
     .exact .inl (hcl j o' hSj ho' e he hb)
     .rw[ho]at ho';cases ho';exact .inl (hready e he hb)
 -- the beginning
 refine wpIn_region_any hmix (main ops.size (Array.replicate ops.size false) a _ (Z.bump (H rs.length).sz) (by simp) (by simp) ?_ ?_)
 .intro i o hS;have h':(Array.replicate ops.size false)[i]?=some true:=hS;simp[Array.getElem?_replicate]at h'
 .have hno:∀i,¬S (Array.replicate ops.size false) i:=by
   intro i hS;have h':(Array.replicate ops.size false)[i]?=some true:=hS;simp[Array.getElem?_replicate]at h'
  have r':Rel σ Z B (H 0) { w with drawn:=w.drawn+1 }:=r.heap rfl
  have hdom0:∀c,c<=rs.length->cut (Z.bump (H rs.length).sz) (H c).sz=Z.bump (H c).sz:=by
   intro c hcl;have h1:=xa hf hcl (zzL _);have h2:=xa hf (zzu c) hcl;have h3:=r.dn.1;simp only[cut,Ren.bump]
   congr 1
   .funext b;cases hb:Z b with
    | none=>simp[hb]
    | some L=>rw[if_pos (zzh (r.dom b L hb) h2)]
   .exact Ab
  refine⟨λi h=>absurd h (hno i),λb L hb=>.inl (r.dom b L hb),?_,?_,λ_ _=>rfl,λ_ _=>rfl,zzL _,⟨rfl,rfl⟩,r.base,hsz,rfl,Nat.le_max_right _ _,λ_ _ h=>h,λ_ _ h=>.inl h,r.dn.2⟩
  .intro c hcl hph;rw[hdom0 c hcl];refine(r'.longer (xa hf (zzu _) hcl) (qqL hf (zzu _) hcl) (λb hb=>qpz hf (zzu _) hcl (λk _ h2 q hq=>?_) b hb)).bump (zzL _)
   cases hwk:wr q.k with
   | false=>rfl
   | true=>exact absurd ((hph k ⟨q,hq,hwk⟩).2 h2) (hno k)
  .intro x j v hj hph hg;have e:(T j).get x=(T 0).get x:=qjH hc (zzu _) hj (λk _ h2 hdk=>absurd ((hph k hdk).2 h2) (hno k))
   rw[e]at hg;rw[hdom0 j hj];exact⟨(ht x v hg).1,(ht x v hg).2.mono (Z.bump_le _)⟩
end
section
def σ0:Nat->Value:=λ_=>.bool false
def qV:Orc:=⟨λ_ _ _=>none,λ_=>none,λ_ _=>none⟩
def qgJ(P:Program):OrcOk P σ0 qV :=
 ⟨λ_=>rfl,(λ_ _ _ _ h=>by cases h),(λ_ _ h=>by cases h),(λ_ _ _ h=>by cases h),λ_=>.inr (.inr ⟨false,rfl⟩)⟩
def qfr(F:Fence)(n:Nat)(P:Program)(c:Code)(Q:Exit->Act->World->Prop)(a:Act)(w:World):Prop :=
 ∀(b:Frame) (k:List Item) (cs:List Frame),b.roundOf=F.round->F.fn b.fn->F.room (cs.length+1+n)->
  ∃e a' w',Q e a' w'/\ArrivesIn (Machine.fenced P F) P (lone (b.atR a (.code c :: .inLoop c::k)) cs w) b k cs e a' w'
def qlM{F:Fence}{n:Nat}{P:Program}{c:Code}{Q:Exit->Act->World->Prop}{a:Act}{w:World}(h:c.wpIn F n P (Exit.then (qfr F n P c Q) Q) a w):qfr F n P c Q a w:=by
 intro b k cs hro hb hr;obtain⟨e,a₁,w₁,hq,harr⟩:=h b (.inLoop c::k) cs hro hb hr;cases e with
 | normal =>
  obtain⟨e₂,a₂,w₂,hq₂,harr₂⟩:=hq b k cs hro hb hr;exact⟨e₂,a₂,w₂,hq₂,.of_steps (StepsIn.trans harr (.one (fenced_calm hb hr rfl) stepR_inLoop)) harr₂⟩
 | exit id=>exact⟨_,a₁,w₁,hq,.pass (x:=.inLoop c) rfl Ae harr⟩
 | goto l=>exact⟨_,a₁,w₁,hq,.pass (x:=.inLoop c) rfl Ae harr⟩
 | ret=>exact⟨_,a₁,w₁,hq,.pass (x:=.inLoop c) rfl Ae harr⟩
 | panic ch=>exact⟨_,a₁,w₁,hq,.pass (x:=.inLoop c) rfl Ae harr⟩
 | outgrown=>exact⟨_,a₁,w₁,hq,.pass (x:=.inLoop c) rfl Ae harr⟩
def qoz{F:Fence}{n:Nat}{P:Program}{c:Code}{Q:Exit->Act->World->Prop}{a:Act}{w:World}(h:qfr F n P c Q a w):(Code.loop c).wpIn F n P Q a w:=by
 intro b k cs hro hb hr;obtain⟨e,a',w',hq,harr⟩:=h b k cs hro hb hr;exact⟨e,a',w',hq,.of_steps (.one (fenced_calm hb hr rfl) stepR_loop) harr⟩
theorem qfr.mono{F:Fence}{n:Nat}{P:Program}{c:Code}{Q Q':Exit->Act->World->Prop}{a:Act}{w:World}(h:qfr F n P c Q a w)(hq:∀e a w,Q e a w->Q' e a w):qfr F n P c Q' a w :=
 λb k cs h1 h2 h3=>let ⟨e,a',w',q,r⟩:=h b k cs h1 h2 h3;Ag
variable {P:Program}{n:Nat}
def qjs:ICode->Bool
 | .seq x y=>qjs x&&qjs y
 | .cond _ x y=>qjs x&&qjs y
 | .blk _ x=>qjs x
 | .loop x=>qjs x
 | .cut x=>qjs x
 | .rangeF _ _ _ _ _=>false
 | _=>true
theorem nr1{ro:Option Nat}{x y:Bool}(h:ro=none\/(x&&y)=true):ro=none\/x=true:=Ag
def nr2{ro:Option Nat}{x y:Bool}(h:ro=none\/(x&&y)=true):ro=none\/y=true:=Ag
def S(P:Program)(n:Nat)(c:ICode)(Q:X->Tr AV->Hp->Prop)(t:Tr AV)(h:Hp):Prop :=
 ∀nt code,zc P nt code c=true->n<=h.sz->∀ro,(ro=none\/qjs c=true)->∀Z B w (a:Act),TR σ0 Z t a.tmps->nt<=a.tmps.size->Rel σ0 Z B h w->code.wpIn (Fr ro) 0 P (qdb σ0 Q nt n Z B h w a.defers) a w
def SL(P:Program)(n:Nat)(c:ICode)(Q:X->Tr AV->Hp->Prop)(t:Tr AV)(h:Hp):Prop :=
 ∀nt code,zc P nt code c=true->n<=h.sz->∀ro,(ro=none\/qjs c=true)->∀Z B w (a:Act),TR σ0 Z t a.tmps->nt<=a.tmps.size->Rel σ0 Z B h w->qfr (Fr ro) 0 P code (qdb σ0 Q nt n Z B h w a.defers) a w
def SC(P:Program)(f:Nat)(vs:List AV)(h:Hp)(k:AV->Hp->Prop):Prop :=
 qqy P f/\∀Z B w (args:Array Value),Rel σ0 Z B h w->VRs σ0 Z vs args.toList->qo7 P σ0 f args Z B h w k
def SY(P:Program)(b:Nat)(vs:List AV)(h:Hp)(k:AV->Hp->Prop):Prop :=
 ∀Z B w (args:Array Value) L,Z b=some L->Rel σ0 Z B h w->VRs σ0 Z vs args.toList->qqb P σ0 L.blk args Z B h w k
def CC(P:Program):zZ:=λf vs h k=>match f with
 | 0=>(match vs with | .yl b::us=>SY P b us h k|_=>False)
 | f+1=>SC P f vs h k
def qfT(P:Program):qdG P σ0 (CC P):=⟨λ_ _ _ _ hk=>hk,λ_ _ _ _ hk=>hk⟩
def onX(e:X)(n:Prop)(x:Nat->Prop)(r:Prop):Prop:=X.rec (motive:=λ_=>Prop) n x r e
def qjv(n:Prop)(x:Nat->Prop)(r:Prop):onX .normal n x r=n:=rfl
def qy6(i:Nat)(n:Prop)(x:Nat->Prop)(r:Prop):onX (.exit i) n x r=x i:=rfl
def qCm(n:Prop)(x:Nat->Prop)(r:Prop):onX .ret n x r=r:=rfl
def VG(P:Program)(ops:List ROp)(Q:Tr AV->Hp->Prop)(t:Tr AV)(h:Hp):Prop:=qkz qV false (CC P) ops Q t h
def VD(P:Program)(ops:List ROp)(Q:Tr AV->Hp->Prop)(t:Tr AV)(h:Hp):Prop:=∃C,LC C/\qdG P σ0 C/\qkz qV true C ops Q t h
def V(P:Program)(n:Nat):ICode->(X->Tr AV->Hp->Prop)->Tr AV->Hp->Prop
 | .skip,Q,t,h=>Q .normal t h
 | .reg d ops,Q,t,h=>if d=true then VD P ops (λt h=>Q .normal t h) t h else VG P ops (λt h=>Q .normal t h) t h
 | .seq x y,Q,t,h=>V P n x (λe t h=>onX e (V P n y Q t h) (λid=>Q (.exit id) t h) (Q .ret t h)) t h
 | .cond c x y,Q,t,h=>evK t c (λv=>unB v (λb=>if b=true then V P n x Q t h else V P n y Q t h))
 | .blk id x,Q,t,h=>V P n x (λe t h=>onX e (Q .normal t h) (λi=>if i=id then Q .normal t h else Q (.exit i) t h) (Q .ret t h)) t h
 | .loop x,Q,t,h=>SL P n x Q t h
 | .exit id,Q,t,h=>Q (.exit id) t h
 | .ret,Q,t,h=>Q .ret t h
 | .no,_,_,_=>False
 | .cut x,Q,t,h=>S P n x Q t h
 | .rangeF j g ps x y,Q,t,h=>S P n (.rangeF j g ps x y) Q t h
def qh:∀{c:ICode}{Q:X->Tr AV->Hp->Prop}{t:Tr AV}{h:Hp},V P n c Q t h->S P n c Q t h
 | .no,_,_,_,hv=>hv.elim
 | .rangeF _ _ _ _ _,_,_,_,hv=>hv
 | .cut x,Q,t,h,hv=>λnt code hc hn ro hro=>hv nt code (by cases code<;>simpa only[zc]using hc) hn ro hro
 | .skip,Q,t,h,hv=>by
  intro nt code hc hn ro hro Z B w a ht hsz r;cases code<;>first|(simp[zc]at hc;done)|skip
  exact wpIn_skip (qdb.of .normal hv ht hsz rfl r (Kep.refl _ _ hn _))
 | .ret,Q,t,h,hv=>by
  intro nt code hc hn ro hro Z B w a ht hsz r;cases code<;>first|(simp[zc]at hc;done)|skip
  exact wpIn_ret (qdb.of .ret hv ht hsz rfl r (Kep.refl _ _ hn _))
 | .exit id,Q,t,h,hv=>by
  intro nt code hc hn ro hro Z B w a ht hsz r;cases code<;>first|(simp[zc]at hc;done)|skip
  obtain rfl:=eq_of_beq (show(_==id)=true from by simpa[zc]using hc)
  exact wpIn_exit (qdb.of (.exit _) hv ht hsz rfl r (Kep.refl _ _ hn _))
 | .reg d rs,Q,t,h,hv=>by
  intro nt code hc hn ro hro Z B w a ht hsz r;cases code<;>first|(simp[zc]at hc;done)|skip
  rename_i id ops d';simp only[zc,zzB]at hc;obtain⟨⟨h1,h2⟩,h3⟩:=hc;obtain rfl:=eq_of_beq h1;cases d' with
  | false =>
   have hv':VG P rs (λt h=>Q .normal t h) t h:=hv
   refine wpIn_region ?_
   have:=qli (ops:=ops) (nt:=nt) (ro:=ro) (K:=qdb σ0 Q nt n Z B h w a.defers) (Z0:=Z) (h0:=h) (w0:=w) (ds:=a.defers) (qgJ P) (qfT P) (λa' w' t' h' Z' g1 g2 g3 g4 g5 g6=>qdb.of .normal g1 g2 g3 g4 g5 (g6.kep hn))
    ops.toList rs 0 h2 rfl t h Z w a hv' ht hsz rfl r (Kept.refl _ _ _ _)
   rw[List.range_eq_range'];exact Ab
  | true =>
   obtain⟨C,c1,c2,c3⟩:VD P rs (λt h=>Q .normal t h) t h:=hv
   simp only[Bool.not_true,Bool.false_or,zzB]at h3;exact qs6 (qgJ P) c1 c2 h2 h3.1 h3.2 c3 ht hsz r (λa' w' t' h' Z' g1 g2 g3 g4 g5 g6=>qdb.of .normal g1 g2 g3 g4 g5 (g6.kep hn))
 | .seq x y,Q,t,h,hv=>by
  intro nt code hc hn ro hro Z B w a ht hsz r;cases code<;>first|(simp[zc]at hc;done)|skip
  rename_i cx cy;simp only[zc,zzB]at hc;refine wpIn_seq (wpIn_mono (qh (c:=x) hv nt cx hc.1 hn ro (nr1 hro) Z B w a ht hsz r) ?_);rintro e a1 w1 ⟨x1,t1,h1,Z1,rs,hx,hq,ht1,hs1,hd1,hm,r1,k1⟩;cases hx with
  | normal=>exact wpIn_mono (qh (c:=y) hq nt cy hc.2 k1.szle ro (nr2 hro) Z1 _ w1 a1 ht1 hs1 r1) (by grind[qdb.trans,MarksOk.lt])
  | exit id=>exact Cz
  | ret=>exact Bq
 | .cond c x y,Q,t,h,hv=>by
  intro nt code hc hn ro hro Z B w a ht hsz r;cases code<;>first|(simp[zc]at hc;done)|skip
  rename_i cc cx cy;simp only[zc,zzB]at hc;obtain⟨⟨h1,h2⟩,h3⟩:=hc;obtain⟨v,h4,h5⟩:=zx ht h1 hv;obtain⟨b,h6,h7⟩:=qnJ h5 h4;cases b with
  | true=>exact wpIn_cond_true h6 (qh (c:=x) h7 nt cx h2 hn ro (nr1 hro) Z B w a ht hsz r)
  | false=>exact wpIn_cond_false h6 (qh (c:=y) h7 nt cy h3 hn ro (nr2 hro) Z B w a ht hsz r)
 | .blk id x,Q,t,h,hv=>by
  intro nt code hc hn ro hro Z B w a ht hsz r;cases code<;>first|(simp[zc]at hc;done)|skip
  rename_i id' cx;simp only[zc,zzB]at hc;obtain rfl:=eq_of_beq hc.1;refine wpIn_block (wpIn_mono (qh (c:=x) hv nt cx hc.2 hn ro hro Z B w a ht hsz r) ?_);rintro e a1 w1 ⟨x1,t1,h1,Z1,rs,hx,hq,ht1,hs1,hd1,hm,r1,k1⟩;cases hx with
  | normal=>exact I8
  | ret=>exact Bq
  | exit id2 =>
   exact Bc
 | .loop x,Q,t,h,hv=>by
  intro nt code hc hn ro hro Z B w a ht hsz r;cases code<;>first|(simp[zc]at hc;done)|skip
  exact F3
def qbj{x:ICode}{Q:X->Tr AV->Hp->Prop}{t:Tr AV}{h:Hp}(hv:V P n x (λe t h=>onX e (SL P n x Q t h) (λid=>Q (.exit id) t h) (Q .ret t h)) t h):SL P n x Q t h:=by
 intro nt cx hc hn ro hro Z B w a ht hsz r;refine qlM (wpIn_mono (qh hv nt cx hc hn ro hro Z B w a ht hsz r) ?_);rintro e a1 w1 ⟨x1,t1,h1,Z1,rs,hx,hq,ht1,hs1,hd1,hm,r1,k1⟩;cases hx with
 | normal=>exact qfr.mono (hq nt cx hc k1.szle ro hro Z1 _ w1 a1 ht1 hs1 r1) (by grind[qdb.trans,MarksOk.lt])
 | exit id=>exact Cz
 | ret=>exact Bq
def Wk(n:Nat)(t:Tr AV)(h:Hp)(t':Tr AV)(h':Hp):Prop :=
 ∀Z B w tm,TR σ0 Z t tm->Rel σ0 Z B h w->∃Z',TR σ0 Z' t' tm/\Rel σ0 Z' B h' w/\Kep n Z B h w Z' h' w
def SL.weak{x:ICode}{Q:X->Tr AV->Hp->Prop}{t t':Tr AV}{h h':Hp}(hw:Wk n t h t' h')(hs:SL P n x Q t' h'):SL P n x Q t h:=by
 intro nt cx hc hn ro hro Z B w a ht hsz r;obtain⟨Z',h1,h2,h3⟩:=hw Z B w a.tmps ht r;exact qfr.mono (hs nt cx hc h3.szle ro hro Z' B w a h1 hsz h2) (by grind[qdb.weaken])
def S.weak{x:ICode}{Q:X->Tr AV->Hp->Prop}{t t':Tr AV}{h h':Hp}(hw:Wk n t h t' h')(hs:S P n x Q t' h'):S P n x Q t h:=by
 intro nt cx hc hn ro hro Z B w a ht hsz r;obtain⟨Z',h1,h2,h3⟩:=hw Z B w a.tmps ht r;exact wpIn_mono (hs nt cx hc h3.szle ro hro Z' B w a h1 hsz h2) (by grind[qdb.weaken])
end
section
variable {P:Program}{n:Nat}
mutual
def clo:AV->Bool
 | .ptr _ _=>false
 | .sl _ _ _ _ _=>false
 | .map _=>false
 | .own _ _=>false
 | .fn _ a c=>qt a&&qt c
 | .ifc _ v=>clo v
 | .agg cs=>qt cs
 | .tup cs=>qt cs
 | .undef=>true | .b _=>true | .i _ _=>true | .s _=>true | .nilp=>true | .nils=>true | .nilf=>true | .nili=>true | .nilm=>true | .sym _=>false | .fz _ _=>true | .pf _ _=>true | .e0=>true | .nz=>true | .yl _=>false | .lp _=>false
def qt:List AV->Bool
 | []=>true
 | v::vs=>clo v&&qt vs
end
mutual
def VR.cr{Z:Ren}:∀{a:AV}{v:Value},VR σ0 Z a v->clo a=true->CR σ0 Z.frz a v
 | _,_,.undef v,_=>.undef v
 | _,_,.b x,_=>.b x
 | _,_,.i k n,_=>.i k n
 | _,_,.s x,_=>.s x
 | _,_,.nilp,_=>.nilp
 | _,_,.ptr b o L h,hc=>Cb
 | _,_,.nils,_=>.nils
 | _,_,.sl b o len cap c loose L h hc,hh=>by simp[clo]at hh
 | _,_,.slz b o x l L h,hh=>by simp[clo]at hh
 | _,_,.nilf,_=>.nilf
 | _,_,.fn f first cap first' cap' h1 h2,hc=>by
  simp only[clo,zzB]at hc;exact .fn _ _ _ _ _ (h1.crs hc.1) (h2.crs hc.2)
 | _,_,.nili,_=>.nili
 | _,_,.ifc t v v' h,hc=>by simp only[clo]at hc;exact .ifc _ _ _ (h.cr hc)
 | _,_,.agg cs cs' h,hc=>by simp only[clo]at hc;exact .agg _ _ (h.crs hc)
 | _,_,.tup cs cs' h,hc=>by simp only[clo]at hc;exact .tup _ _ (h.crs hc)
 | _,_,.nilm,_=>.nilm
 | _,_,.map b L h h0,hc=>Cb
 | _,_,.sym j,hc=>Cb
 | _,_,.fz n off c cs k arr hn h hs,_=>.fz n off c cs k arr hn h hs
 | _,_,.fz0 a,_=>.fz0 a
 | _,_,.pf off base cs k arr h hs,_=>.pf off base cs k arr h hs
 | _,_,.e0 a,_=>.e0 a
 | _,_,.nz a c,_=>.nz a c
 | _,_,.own0 b a hb,hc=>Cb
 | _,_,.own b n c L h hn hc',hc=>Cb
 | _,_,.yl b L h,hc=>Cb
def VRs.crs{Z:Ren}:∀{a:List AV}{v:List Value},VRs σ0 Z a v->qt a=true->CRs σ0 Z.frz a v
 | _,_,.nil,_=>.nil
 | _,_,.cons v vs v' vs' h hs,hc=>by
  simp only[qt,zzB]at hc;exact .cons _ _ _ _ (h.cr hc.1) (hs.crs hc.2)
end
mutual
inductive Frz (h:Hp):AV->AV->Prop where
 | undef (v:AV):Frz h v .undef
 | b (x:Bool):Frz h (.b x) (.b x)
 | i (k:IntKind) (n:Int):Frz h (.i k n) (.i k n)
 | s (x:List UInt8):Frz h (.s x) (.s x)
 | nilp:Frz h .nilp .nilp
 | nils:Frz h .nils .nils
 | nilz:Frz h .nils (.fz 0 [])
 | nilf:Frz h .nilf .nilf
 | nili:Frz h .nili .nili
 | nilm:Frz h .nilm .nilm
 | e0:Frz h .e0 .e0
 | nz:Frz h .nz .nz
 | e0z:Frz h .e0 (.fz 0 [])
 | fz (n:Nat) (cs:List AV):Frz h (.fz n cs) (.fz n cs)
 | pf (cs:List AV) (o:Nat):Frz h (.pf cs o) (.pf cs o)
 | fn (f:Nat) (a c a' c':List AV) (h1:Frzs h a a') (h2:Frzs h c c'):Frz h (.fn f a c) (.fn f a' c')
 | ifc (t:Nat) (v v':AV) (h1:Frz h v v'):Frz h (.ifc t v) (.ifc t v')
 | agg (cs cs':List AV) (h1:Frzs h cs cs'):Frz h (.agg cs) (.agg cs')
 | tup (cs cs':List AV) (h1:Frzs h cs cs'):Frz h (.tup cs) (.tup cs')
 | sl (b o n c:Nat) (l:Bool) (e:Nat) (af:Bool) (cs:List AV) (m:Nat) (cs':List AV) (hb:h.tr.get b=some (.cells e true af cs)) (hn:n<=c) (hm:o+m<=cs.length) (h0:c=0->m=0) (h1:Frzs h ((cs.drop o).take m) cs'):Frz h (.sl b o n c l) (.fz n cs')
 | own (b n:Nat) (e:Nat) (af:Bool) (ys cs':List AV) (hb:h.tr.get b=some (.cells e true af ys)) (h0:n=0->ys=[]) (h1:Frzs h ys cs'):Frz h (.own b n) (.fz n cs')
 | ptr (b o:Nat) (e:Nat) (af:Bool) (ys cs':List AV) (hb:h.tr.get b=some (.cells e true af ys)) (h1:Frzs h ys cs'):Frz h (.ptr b o) (.pf cs' o)
inductive Frzs (h:Hp):List AV->List AV->Prop where
 | nil:Frzs h [] []
 | cons (v v':AV) (vs vs':List AV) (h1:Frz h v v') (h2:Frzs h vs vs'):Frzs h (v::vs) (v'::vs')
end
def Frzs.length{h:Hp}{zy vs:List AV}(hf:Frzs h zy vs):zy.length=vs.length:=Eo
open Classical in
def qsl(Z:Ren)(h:Hp)(w:World):Nat->Option (Array Value):=λk =>
 match Z.frz k with
 | some a=>some a
 | none=>match w.heap[k]? with
  | some (.cells arr _ _)=>if ∃b L e af cs,Z b=some L/\h.tr.get b=some (.cells e true af cs)/\L.blk=k then some arr else none
  | _=>none
def vD(Z:Ren)(h:Hp)(w:World):Fz:=⟨qsl Z h w,λk a hk=>by simp[qsl,Z.frz.ok k a hk]⟩
theorem ki{Z:Ren}{h:Hp}{w:World}{k:Nat}{a:Array Value}(hk:Z.frz k=some a):vD Z h w k=some a:=by simp[vD,qsl,hk]
def qew{Z:Ren}{h:Hp}{w:World}{k:Nat}{a:Array Value}(hk:vD Z h w k=some a):Z.frz k=some a\/((∃ty fz,w.heap[k]?=some (.cells a ty fz))/\∃b L e af cs,Z b=some L/\h.tr.get b=some (.cells e true af cs)/\L.blk=k):=by
 change qsl Z h w k=some a at hk;unfold qsl at hk;split at hk
 .exact Ae
 .split at hk
  .rename_i arr ty fz hh;split at hk
   .rename_i hx;cases hk;exact Ae
   .cases hk
  exact Ae
def qk2{Z:Ren}{B:Nat->Prop}{h:Hp}{w:World}(r:Rel σ0 Z B h w){b:Nat}{L:Loc}{e:Nat}{af:Bool}{cs:List AV}(hb:Z b=some L)(hg:h.tr.get b=some (.cells e true af cs)){c:Array Value}{ty:TypeId}{fz:Nat×Nat}(hc:w.heap[L.blk]?=some (.cells c ty fz)):vD Z h w L.blk=some c:=by
 have h0:Z.frz L.blk=none:=by
  cases hf:Z.frz L.blk<;>grind[Rel.frz]
 have hx:∃b' L' e' af' cs',Z b'=some L'/\h.tr.get b'=some (.cells e' true af' cs')/\L'.blk=L.blk:=⟨b,L,e,af,cs,hb,hg,rfl⟩;show qsl Z h w L.blk=some c;simp only[qsl,h0,hc,if_pos hx]
mutual
theorem Frz.ok{Z:Ren}{B:Nat->Prop}{h:Hp}{w:World}(r:Rel σ0 Z B h w):∀{v v':AV}{x:Value},Frz h v v'->VR σ0 Z v x->CR σ0 (vD Z h w) v' x
 | _,_,_,.undef _,_=>.undef _
 | _,_,_,.b _,hv=>by cases hv;exact .b _
 | _,_,_,.i _ _,hv=>by cases hv;exact .i _ _
 | _,_,_,.s _,hv=>by cases hv;exact .s _
 | _,_,_,.nilp,hv=>by cases hv;exact .nilp
 | _,_,_,.nils,hv=>by cases hv;exact .nils
 | _,_,_,.nilz,hv=>by cases hv;exact .fz0 _
 | _,_,_,.nilf,hv=>by cases hv;exact .nilf
 | _,_,_,.nili,hv=>by cases hv;exact .nili
 | _,_,_,.nilm,hv=>by cases hv;exact .nilm
 | _,_,_,.e0,hv=>by
  cases hv with
  | e0=>exact .e0 _
 | _,_,_,.nz,hv=>by
  cases hv with
  | nz=>exact .nz _ _
 | _,_,_,.e0z,hv=>by
  cases hv with
  | e0=>exact .fz0 _
 | _,_,_,.fz _ _,hv=>by
  cases hv with
  | fz _ _ _ _ _ _ q1 q2 q4=>exact .fz _ _ _ _ _ _ q1 (ki q2) (by grind[CRs.mono,ki])
  | fz0=>exact .fz0 _
 | _,_,_,.pf _ _,hv=>by
  cases hv with
  | pf _ _ _ _ _ q2 q4=>exact .pf _ _ _ _ _ (ki q2) (by grind[CRs.mono,ki])
 | _,_,_,.fn _ _ _ _ _ h1 h2,hv=>by
  cases hv with
  | fn _ _ _ _ _ g1 g2=>exact .fn _ _ _ _ _ (h1.ok r g1) (h2.ok r g2)
 | _,_,_,.ifc _ _ _ h1,hv=>by
  cases hv with
  | ifc _ _ _ g1=>exact .ifc _ _ _ (h1.ok r g1)
 | _,_,_,.agg _ _ h1,hv=>by
  cases hv with
  | agg _ _ g1=>exact .agg _ _ (h1.ok r g1)
 | _,_,_,.tup _ _ h1,hv=>by
  cases hv with
  | tup _ _ g1=>exact .tup _ _ (h1.ok r g1)
 | _,_,_,.sl b o n c l e af cs m cs' hb hn hm h0 h1,hv=>by
  have hlen:=h1.length;rw[zzm,List.length_drop,Nat.min_eq_left Ab]at hlen;obtain⟨L,c',off,g1,rfl,g3⟩:=hv.un_sl;obtain⟨e1,arr,ty,fz,e2,e3,e4,e5,e6⟩:=r.cells b L e true af cs g1 hb;have hf:=qk2 r g1 hb e2;rcases g3 with⟨rfl,g3⟩|⟨rfl,rfl,rfl⟩
  .have hnc:n<=c':=by rcases g3 with g3|⟨_,g3,_⟩<;>omega
   refine .fz n _ c' cs' L.blk arr hnc hf (h1.ok r ?_)
   grind[VRs.of_get]
  .have hm0:m=0:=h0 rfl;subst hm0;have hcs:cs'=[]:=Ag
   subst hcs;exact .fz 0 _ 0 [] L.blk arr (zzL _) hf Dt
 | _,_,_,.own b n e af ys cs' hb h0 h1,hv=>by
  have hlen:=h1.length;rcases hv.un_own with⟨rfl,⟨a0,rfl⟩,_⟩|⟨L,c,g1,g2,g3,rfl⟩
  .have:=h0 rfl;subst this;have hcs:cs'=[]:=Ag
   subst hcs;exact .fz0 _
  .obtain⟨e1,arr,ty,fz,e2,e3,e4,e5,e6⟩:=r.cells b L e true af ys g1 hb;have hf:=qk2 r g1 hb e2;refine .fz n _ c cs' L.blk arr g2 hf (h1.ok r ?_)
   grind[VRs.of_get]
 | _,_,_,.ptr b o e af ys cs' hb h1,hv=>by
  have hlen:=h1.length;obtain⟨L,g1,rfl⟩:=hv.un_ptr;obtain⟨e1,arr,ty,fz,e2,e3,e4,e5,e6⟩:=r.cells b L e true af ys g1 hb;have hf:=qk2 r g1 hb e2;refine .pf o L.off cs' L.blk arr hf (h1.ok r ?_)
  grind[VRs.of_get]
theorem Frzs.ok{Z:Ren}{B:Nat->Prop}{h:Hp}{w:World}(r:Rel σ0 Z B h w):∀{v v':List AV}{x:List Value},Frzs h v v'->VRs σ0 Z v x->CRs σ0 (vD Z h w) v' x
 | _,_,_,.nil,hv=>by cases hv;exact .nil
 | _,_,_,.cons _ _ _ _ h1 h2,hv=>by
  cases hv with
  | cons _ _ _ _ g1 g2=>exact .cons _ _ _ _ (h1.ok r g1) (h2.ok r g2)
end
def qb0:List AV->Nat->Tr AV->Tr AV
 | [],_,t=>t
 | v::l,n,t=>qb0 l (n+1) (t.set n v)
def qkS:∀(l:List AV) (n:Nat) (t:Tr AV) (j:Nat) (v:AV),(qb0 l n t).get j=some v->(n<=j/\l[j-n]?=some v)\/t.get j=some v
 | [],_,_,_,_,h=>.inr h
 | x::l,n,t,j,v,h=>by
  rcases qkS l (n+1) _ j v h with⟨h3,h4⟩|h3
  all_goals grind[Tr.get_set]
def zQ(res:List RV)(k:AV->Hp->Prop)(e:X)(t:Tr AV)(h:Hp):Prop:=onX e (qa6 t h res (λvs=>k (qaD vs) h)) (λ_=>False) (qa6 t h res (λvs=>k (qaD vs) h))
def Rel.lessB{Z:Ren}{B B':Nat->Prop}{h:Hp}{w:World}(r:Rel σ0 Z B' h w)(hb:∀k,B k->B' k):Rel σ0 Z B h w :=
 ⟨r.dom,r.cells,r.maps,r.excl,r.exclm,r.app,I6,λk hk=>r.base k (hb k hk),r.frz,r.dn⟩
def Rel.shut{Z:Ren}{B:Nat->Prop}{h:Hp}{w:World}(r:Rel σ0 Z B h w){q:Nat}{ds:Option (List Deferred)}(hq:w.heap[q]?=some (.deferred ds))(o:Obj):Rel σ0 Z B h (w.putObj q o):=by
 have other:∀k,k≠q->(w.putObj q o).heap[k]?=w.heap[k]?:=λk hk=>World.putObj_heap_other hk
 refine⟨r.dom,λb L e wf af cs hb hg=>?_,λb L es hb hg=>?_,r.excl,r.exclm,r.app,r.flr,λk hk=>by simpa using r.base k hk,λk arr hk=>?_,⟨r.dn.1,λb L h=>by simpa using r.dn.2 b L h⟩⟩
 .obtain⟨g1,c,ty,fz,g2,g3⟩:=r.cells b L e wf af cs hb hg;exact Ag
 .obtain⟨g1,ob,g2,g3⟩:=r.maps b L es hb hg;refine⟨g1,ob,?_,g3⟩;rw[other _ ?_]
  .exact g2
  .rintro rfl;rw[hq]at g2;cases g2;rcases g3 with⟨_,_,_,h,_⟩|⟨_,_,_,h⟩|⟨_,_,_,_,h,_⟩<;>cases h
 exact D8
def qlI{fn:Func}{f:Nat}{i:IFn}(hfn:P.funcs[f]?=some fn)(hres:qcO P fn.results.toList i.res=true){Z Z':Ren}{B:Nat->Prop}{h h':Hp}{w:World}{t':Tr AV}{tm:Array Value}(ht':TR σ0 Z' t' tm){k:AV->Hp->Prop} :
  ∀(rs:List Nat) {w':World},(∀r ∈ rs,w'.heap[r]?=some (.deferred (some [])))->rs.Nodup->(∀r ∈ rs,¬B r)->Rel σ0 Z' B h' w'->Kept Z B h w Z' h' w'->qa6 t' h' i.res (λvs=>k (qaD vs) h')->
   LeavesInM (Fr none) 0 P fn tm (λe w'=>∃v v' h' Z',e = .returned v'/\k v h'/\VR σ0 Z' v v'/\Rel σ0 Z' B h' w'/\Kept Z B h w Z' h' w') (qlO rs) .returning w'
 | [],w',_,_,_,hr',hk,hq=>by
  obtain⟨v,v',g1,g2,g3⟩:=qnx hr' ht' hres hq;exact⟨v',g3,v,v',h',Z',rfl,g1,g2,hr',hk⟩
 | r::rs,w',hm,hn,hB,hr',hk,hq=>by
  have h1:=hm r (by simp);refine J1 ?_
  have hn2:=List.nodup_cons.1 hn;refine qlI hfn hres ht' rs (λr' hr2=>?_) hn2.2 (λr' hr2=>hB r' Ag) (hr'.shut h1 _) ?_ hq
  .rw[World.putObj_heap_other (by rintro rfl;exact hn2.1 hr2)];exact Ae
  .exact⟨hk.ext,hk.szle,hk.fl,hk.akeep,λk hb=>by rw[World.putObj_heap_other Ag];exact hk.pres k hb,by simpa using hk.wle,hk.io,hk.frz,hk.fnew,hk.nle⟩
theorem SC.mk{f:Nat}{i:IFn}{vs:List AV}{h:Hp}{k:AV->Hp->Prop}(hc:qdW P f i=true)(hS:S P h.sz i.body (zQ i.res k) (qb0 vs 0 .leaf) h):SC P f vs h k:=by
 unfold qdW at hc;split at hc<;>try (cases hc;done)
 rename_i fn hfn;simp only[zzB,bne_iff_ne]at hc;obtain⟨⟨hname,hbody⟩,hres⟩:=hc;split at hbody<;>try (cases hbody;done)
 rename_i c hcb;refine⟨trivial,λZ B w args r ha=>.inl ⟨⟨fn,hfn,hname,by rw[hcb];rfl⟩,?_⟩⟩
 have r0:=r
 have ht:TR σ0 Z (qb0 vs 0 .leaf) (args++Array.replicate (fn.ntmps-args.size) undef):=by
  intro j v hv;rcases qkS _ _ _ _ _ hv with⟨_,h3⟩|h3
  .simp only[Nat.sub_zero]at h3;obtain⟨v',h4,h5⟩:=ha.get h3
   have hn:j<args.size:=by
    have:=(zzS.1 h4).1;exact H5
   refine⟨by simp;exact Ab,?_⟩
   exact B1
  exact Ae
 have hsize:fn.ntmps<=(args++Array.replicate (fn.ntmps-args.size) undef).size:=Ag
 have hw:=hS fn.ntmps c hbody (zzL _) none (.inl rfl) Z B w { tmps:=args++Array.replicate (fn.ntmps-args.size) undef,defers:=[] } ht hsize r;refine(callsIn_wide (n:=0)).1 (callsIn_of_wp_marks hfn hcb trivial (wpIn_mono hw ?_) rfl);rintro e a w' ⟨x,t',h',Z',rs,hx,hq,ht',_,hd,hm,hr',hkept⟩
 have key:∀(k':AV->Hp->Prop),qa6 t' h' i.res (λvs=>k' (qaD vs) h')->LeavesInM (Fr none) 0 P fn a.tmps (λe w'=>∃v v' h' Z',e = .returned v'/\k' v h'/\VR σ0 Z' v v'/\Rel σ0 Z' B h' w'/\Kept Z B h w Z' h' w') a.defers .returning w':=by
  intro k' hq';rw[hd,List.append_nil];have hB:Rel σ0 Z' B h' w':=hr'.lessB λk hk=>.inl hk
  exact qlI hfn hres ht' rs (λr hr=>hm.at' r hr) hm.nodup (λr hr hb=>absurd (r0.base r hb) (Nat.not_lt.2 (hm.new r hr))) hB (hkept.kept r0.dn.1) hq'
 cases hx with
 | exit id=>exact hq.elim
 | normal=>exact key k hq
 | ret=>exact key k hq
theorem SC.mono{f:Nat}{vs:List AV}{h:Hp}{k k':AV->Hp->Prop}(hc:SC P f vs h k)(hk:∀v h,k v h->k' v h):SC P f vs h k' :=
 ⟨hc.1,λZ B w args r ha=>qcL.mono (hc.2 Z B w args r ha) Ag⟩
def H0:Hp:=⟨0,0,.leaf⟩
def Rel.empty{Z:Ren}{B:Nat->Prop}{h:Hp}{w:World}(r:Rel σ0 Z B h w):Rel σ0 ⟨λ_=>none,Z.frz,0⟩ (low w.heap.size) H0 w :=
 ⟨Ae,Ag,Ae,Ae,Ae,Ae,Ae,(λ_ h=>h),
  D8,Ae⟩
def qc(P:Program)(f:Nat)(vs:List AV)(v:AV):Prop:=∀(h:Hp) (k:AV->Hp->Prop),k v h->SC P f vs h k
def qc.of_SC{f:Nat}{vs:List AV}{v:AV}(hcl:qt vs=true)(hs:SC P f vs H0 (λv' h'=>Frz h' v' v)):qc P f vs v:=by
 intro h k hk;refine⟨hs.1,λZ B w args r ha=>?_⟩
 have hcr:=ha.crs hcl;refine qcL.mono (hs.2 ⟨λ_=>none,Z.frz,0⟩ (low w.heap.size) w args r.empty Gc) ?_
 rintro e w' ⟨v0,v',h',Z',rfl,g1,g2,g3,g4⟩;have hcv:=g1.ok g3 g2;have f1:∀k a,Z.frz k=some a->vD Z' h' w' k=some a:=by grind[ki,Kept.frz]
 have f2:∀k a,vD Z' h' w' k=some a->Z.frz k=some a\/w.heap.size<=k:=by
  intro k a hk;rcases qew hk with hk|⟨_,b,L,e,af,cs,h1,_,rfl⟩
  .exact (g4.fnew k a hk).imp id Nat.not_lt.1
  .exact .inr (Nat.not_lt.1 (g3.flr b L h1 (by rw[g4.fl];exact zzu _)))
 have f3:∀k a,vD Z' h' w' k=some a->∃ty fz,w'.heap[k]?=some (.cells a ty fz):=by
  intro k a hk;exact Gn
 exact⟨v,v',h,⟨Z.loc,vD Z' h' w',Z.n⟩,rfl,hk,(by grind[CR.vr]),r.frz' g4.pres g4.wle f1 f2 f3,
  ⟨λ_ _=>rfl,zzL _,rfl,λ_ _ _=>rfl,Cn,g4.wle,g4.io,f1,λk a hk=>(f2 k a hk).imp id (qaB r.base),zzL _⟩⟩
theorem qc.mk{f:Nat}{i:IFn}{vs:List AV}{v:AV}(hc:qdW P f i=true)(hcl:qt vs=true)(hV:V P 0 i.body (zQ i.res (λv' h'=>Frz h' v' v)) (qb0 vs 0 .leaf) H0):qc P f vs v :=
 qc.of_SC hcl (SC.mk hc (qh hV))
mutual
inductive NV (r:Nat->Nat) (m:Nat):AV->AV->Prop where
 | undef (v:AV):NV r m v .undef
 | clo (v:AV) (hc:clo v=true):NV r m v v
 | nilz:NV r m .nils (.fz 0 [])
 | e0z:NV r m .e0 (.fz 0 [])
 | slz (b o b':Nat) (hm:b'<m):NV r m (.sl b o 0 0 false) (.own b' 0)
 | e0own (b':Nat) (hm:b'<m):NV r m .e0 (.own b' 0)
 | ptr (b b' o:Nat) (hr:r b'=b) (hm:b'<m):NV r m (.ptr b o) (.ptr b' o)
 | sl (b b' o n c:Nat) (l:Bool) (hr:r b'=b) (hm:b'<m):NV r m (.sl b o n c l) (.sl b' o n c l)
 | own (b b' n:Nat) (hr:r b'=b) (hm:b'<m):NV r m (.own b n) (.own b' n)
 | nilown (b':Nat) (hm:b'<m):NV r m .nils (.own b' 0)
 | map (b b':Nat) (hr:r b'=b) (hm:b'<m):NV r m (.map b) (.map b')
 | yl (b b':Nat) (hr:r b'=b) (hm:b'<m):NV r m (.yl b) (.yl b')
 | fn (f:Nat) (a c a' c':List AV) (h1:NVs r m a a') (h2:NVs r m c c'):NV r m (.fn f a c) (.fn f a' c')
 | ifc (t:Nat) (v v':AV) (h1:NV r m v v'):NV r m (.ifc t v) (.ifc t v')
 | agg (cs cs':List AV) (h1:NVs r m cs cs'):NV r m (.agg cs) (.agg cs')
 | tup (cs cs':List AV) (h1:NVs r m cs cs'):NV r m (.tup cs) (.tup cs')
inductive NVs (r:Nat->Nat) (m:Nat):List AV->List AV->Prop where
 | nil:NVs r m [] []
 | cons (v v':AV) (vs vs':List AV) (h1:NV r m v v') (h2:NVs r m vs vs'):NVs r m (v::vs) (v'::vs')
end
def NVs.length{r:Nat->Nat}{m:Nat}{zy vs:List AV}(hf:NVs r m zy vs):zy.length=vs.length:=Eo
theorem NVs.get{r:Nat->Nat}{m:Nat}{zy vs:List AV}(hf:NVs r m zy vs){j:Nat}{v':AV}(h:vs[j]?=some v'):∃v,zy[j]?=some v/\NV r m v v':=by
 induction zy generalizing vs j with
 | nil=>cases hf<;>grind
 | cons a zy ih =>
  cases hf<;>grind
theorem NVs.refl{r:Nat->Nat}{m:Nat}:∀{vs:List AV},qt vs=true->NVs r m vs vs
 | [],_=>.nil
 | v::vs,h=>by
  simp only[qt,zzB]at h;exact .cons _ _ _ _ (.clo _ h.1) (NVs.refl h.2)
def Ren.via(Z:Ren)(r:Nat->Nat)(m:Nat):Ren:=⟨λb'=>if b'<m then Z (r b')else none,Z.frz,m⟩
def qkM{Z:Ren}{r:Nat->Nat}{m b':Nat}{L:Loc}(h:Z.via r m b'=some L):b'<m/\Z (r b')=some L:=by
 simp only[Ren.via]at h;exact Ae
def qjD{Z:Ren}{r:Nat->Nat}{m b':Nat}(h:b'<m):Z.via r m b'=Z (r b'):=by simp only[Ren.via];rw[if_pos h]
mutual
theorem NV.ok{Z:Ren}{r:Nat->Nat}{m:Nat}:∀{v v':AV}{x:Value},NV r m v v'->VR σ0 Z v x->VR σ0 (Z.via r m) v' x
 | _,_,_,.undef _,_=>.undef _
 | _,_,_,.clo _ hc,hv=>CR.vr (Z:=Z.via r m) (hv.cr hc)
 | _,_,_,.nilz,hv=>by cases hv;exact .fz0 _
 | _,_,_,.e0z,hv=>by cases hv;exact .fz0 _
 | _,_,_,.e0own b' hm,hv=>by cases hv;exact .own0 _ _ hm
 | _,_,_,.slz b o b' hm,hv=>by
  cases hv with
  | sl _ _ _ _ c _ L h hc =>
   rcases hc with rfl|⟨hc,_⟩
   .exact .own0 _ _ hm
   exact Ae
  | slz=>exact .own0 _ _ hm
 | _,_,_,.ptr b b' o hr hm,hv=>by
  subst hr;obtain⟨L,h1,rfl⟩:=hv.un_ptr;exact .ptr _ _ _ (by rw[qjD hm];exact h1)
 | _,_,_,.sl b b' o n c l hr hm,hv=>by
  subst hr;cases hv with
  | sl _ _ _ _ _ _ L h hc=>exact .sl _ _ _ _ _ _ L E6 hc
  | slz _ _ _ _ L h=>exact .slz _ _ _ _ L E6
 | _,_,_,.own b b' n hr hm,hv=>by
  subst hr;cases hv with
  | own0 _ _ _=>exact .own0 _ _ hm
  | own _ _ _ L h hn hc=>exact .own _ _ _ L E6 hn hc
 | _,_,_,.nilown b' hm,hv=>by cases hv;exact .own0 _ _ hm
 | _,_,_,.map b b' hr hm,hv=>by
  subst hr;cases hv with
  | map _ L h h0=>exact .map _ L E6 h0
 | _,_,_,.yl b b' hr hm,hv=>by
  subst hr;cases hv with
  | yl _ L h=>exact .yl _ L E6
 | _,_,_,.fn _ _ _ _ _ h1 h2,hv=>by
  cases hv with
  | fn _ _ _ _ _ g1 g2=>exact .fn _ _ _ _ _ (h1.ok g1) (h2.ok g2)
 | _,_,_,.ifc _ _ _ h1,hv=>by
  cases hv with
  | ifc _ _ _ g1=>exact .ifc _ _ _ (h1.ok g1)
 | _,_,_,.agg _ _ h1,hv=>by
  cases hv with
  | agg _ _ g1=>exact .agg _ _ (h1.ok g1)
 | _,_,_,.tup _ _ h1,hv=>by
  cases hv with
  | tup _ _ g1=>exact .tup _ _ (h1.ok g1)
theorem NVs.ok{Z:Ren}{r:Nat->Nat}{m:Nat}:∀{v v':List AV}{x:List Value},NVs r m v v'->VRs σ0 Z v x->VRs σ0 (Z.via r m) v' x
 | _,_,_,.nil,hv=>by cases hv;exact .nil
 | _,_,_,.cons _ _ _ _ h1 h2,hv=>by
  cases hv with
  | cons _ _ _ _ g1 g2=>exact .cons _ _ _ _ (h1.ok g1) (h2.ok g2)
end
def qlJ:List (Nat×AV)->Nat->Option AV
 | [],_=>none
 | p::l,j=>if p.1=j then some p.2 else qlJ l j
def qoy:∀{l:List (Nat×AV)}{j:Nat}{v:AV},qlJ l j=some v->(j,v) ∈ l
 | [],_,_,h=>by simp[qlJ]at h
 | p::l,j,v,h=>by
  unfold qlJ at h;split at h
  .exact Ag
  .exact List.mem_cons_of_mem _ (qoy h)
def TsW(r:Nat->Nat)(m:Nat)(ts ts':List (Nat×AV)):Prop:=∀p ∈ ts',∃v,qlJ ts p.1=some v/\NV r m v p.2
def EsW(r:Nat->Nat)(m:Nat)(es es':List (AV×AV)):Prop :=
 (es'=es/\∀e ∈ es,clo e.1=true/\clo e.2=true)\/∃lr ts ts',es=zV lr ts/\es'=zV lr ts'/\TsW r m ts ts'
def BW(h:Hp)(r:Nat->Nat)(m b:Nat)(x':Blk):Prop :=
 h.sz<=b\/x' = .dead\/(∃e w a cs w' a' cs',h.tr.get b=some (.cells e w a cs)/\x' = .cells e w' a' cs'/\(w'=true->w=true)/\(a'=true->a=true)/\NVs r m cs cs') \/
 (∃es es',h.tr.get b=some (.map es)/\x' = .map es'/\EsW r m es es')
structure WkOk (n:Nat) (t:Tr AV) (h:Hp) (t':Tr AV) (h':Hp) (r:Nat->Nat):Prop where
 fl:h'.fl=h.fl
 blk:∀b' x',b'<h'.sz->h'.tr.get b'=some x'->BW h r h'.sz (r b') x'
 inj:∀b1 b2,b1<h'.sz->b2<h'.sz->(∃x,h'.tr.get b1=some x/\x≠.dead)->(∃x,h'.tr.get b2=some x/\x≠.dead)->r b1=r b2->r b1<h.sz->b1=b2
 flo:∀b',b'<h'.sz->h.fl<=b'->r b'<h.sz->h.fl<=r b'
 low:∀b,b<n->r b=b
 nle:n<=h'.sz
 ake:∀b,b<n->b<h.fl->h'.tr.get b=h.tr.get b
 tmp:∀j v',t'.get j=some v'->∃v,t.get j=some v/\NV r h'.sz v v'
def Wk.of{t t':Tr AV}{h h':Hp}{r:Nat->Nat}(k:WkOk n t h t' h' r):Wk n t h t' h':=by
 intro Z B w tm ht rl
 have get:∀b' L x',Z.via r h'.sz b'=some L->h'.tr.get b'=some x'->x'≠.dead->b'<h'.sz/\r b'<h.sz/\Z (r b')=some L/\((∃e w a cs w' a' cs',h.tr.get (r b')=some (.cells e w a cs)/\x' = .cells e w' a' cs'/\(w'=true->w=true)/\(a'=true->a=true)/\NVs r h'.sz cs cs') \/
   (∃es es',h.tr.get (r b')=some (.map es)/\x' = .map es'/\EsW r h'.sz es es')):=by
  intro b' L x' hb hg hd;obtain⟨h1,h2⟩:=qkM hb;have h3:=rl.dom _ _ h2;refine⟨h1,h3,h2,?_⟩;rcases k.blk b' x' h1 hg with q|q|q|q
  all_goals grind
 refine⟨Z.via r h'.sz,λj v' hj=>?_,⟨λb L hb=>(qkM hb).1,?_,?_,?_,?_,?_,?_,rl.base,?_,⟨zzL _,λb L hb=>rl.dn.2 _ L (qkM hb).2⟩⟩,⟨λb hb=>?_,k.nle,k.fl,by grind[WkOk.ake],λ_ _=>rfl,zzL _,⟨rfl,rfl⟩,λ_ _ h=>h,λ_ _ h=>.inl h,λb hb _=>zzh hb k.nle⟩⟩
 .obtain⟨v,h1,h2⟩:=k.tmp j v' hj;obtain⟨h3,h4⟩:=ht j v h1
  grind[NV.ok]
 .intro b' L e wf af cs' hb hg;obtain⟨h1,h2,h3,h4⟩:=get b' L _ hb hg (by simp);rcases h4 with⟨e',w1,a1,cs,w',a',cs'',g1,g2,g3,g4,g5⟩|⟨es,es',_,g2,_⟩
  .cases g2;obtain⟨q1,c,ty,fz,q2,q3,q4,q5,q6⟩:=rl.cells _ L e w1 a1 cs h3 g1;refine⟨q1,c,ty,fz,q2,q3,by rw[<- g5.length];exact q4,λj v' hv=>?_,λhh=>q6 ?_⟩
   .obtain⟨v,p1,p2⟩:=g5.get hv;obtain⟨x,p3,p4⟩:=q5 j v p1;exact⟨x,p3,p2.ok p4⟩
   .simp only[zzO]at hh ⊢;exact hh.imp g3 g4
  exact Ag
 .intro b' L es hb hg;obtain⟨h1,h2,h3,h4⟩:=get b' L _ hb hg (by simp);rcases h4 with⟨e',w1,a1,cs,w',a',cs'',g1,g2,g3,g4,g5⟩|⟨es,es',g1,g2,g3⟩
  .cases g2
  .cases g2;obtain⟨q1,o,q2,q3⟩:=rl.maps _ L es h3 g1;refine⟨q1,o,q2,?_⟩;rcases g3 with⟨rfl,g3⟩|⟨lr,ts,ts',rfl,rfl,g3⟩
   .rcases q3 with⟨p1,vs,clk,p2,p3,p4⟩|q3|⟨lr,lq,ts,rfl,p2,pk,p3⟩
    .exact .inl ⟨p1,vs,clk,p2,p3,λj e he=>let ⟨v,a1,a2,a3⟩:=p4 j e he
      ⟨v,a1,CR.vr (Z:=Z.via r h'.sz) (a2.cr Ag),CR.vr (Z:=Z.via r h'.sz) (a3.cr Ag)⟩⟩
    .exact .inr (.inl q3)
    .refine .inr (.inr ⟨lr,lq,ts,rfl,p2,pk,λp hp=>⟨(p3 p hp).1,CR.vr (Z:=Z.via r h'.sz) ((p3 p hp).2.cr ?_)⟩⟩)
     exact(g3 (.i .i64 (Int.ofNat p.1),p.2) (List.mem_cons_of_mem _ Ag)).2
   .obtain⟨lq,p2,pk,p3⟩:=q3.rec';refine .inr (.inr ⟨lr,lq,ts',rfl,p2,pk,λp hp=>?_⟩)
    obtain⟨v,a1,a2⟩:=g3 p hp;have a1:=qoy a1
    grind[NV.ok]
 .intro b1 L1 e1 af1 cs1 hb1 hg1 b2 L2 x hb2 hx hd he;obtain⟨h1,h2,h3,h4⟩:=get b1 L1 _ hb1 hg1 (by simp);obtain⟨i1,i2,i3,i4⟩:=get b2 L2 _ hb2 hx hd;rcases h4 with⟨e',w1,a1,cs,w',a',cs'',g1,g2,g3,g4,g5⟩|⟨es,es',_,g2,_⟩
  .cases g2;obtain rfl:=g3 rfl
   have:∃x0,h.tr.get (r b2)=some x0/\x0≠.dead:=E2
   obtain⟨x0,q1,q2⟩:=this;have:=rl.excl _ L1 e1 a1 cs h3 g1 _ L2 x0 i3 q1 q2 he;exact k.inj b2 b1 i1 h1 ⟨_,hx,hd⟩ Ag this i2
  exact Ag
 .intro b1 L1 es1 hb1 hg1 b2 L2 x hb2 hx hd he;obtain⟨h1,h2,h3,h4⟩:=get b1 L1 _ hb1 hg1 (by simp);obtain⟨i1,i2,i3,i4⟩:=get b2 L2 _ hb2 hx hd;rcases h4 with⟨e',w1,a1,cs,w',a',cs'',g1,g2,_⟩|⟨es,es',g1,g2,g3⟩
  .cases g2
  .cases g2
   have:∃x0,h.tr.get (r b2)=some x0/\x0≠.dead:=E2
   obtain⟨x0,q1,q2⟩:=this;have:=rl.exclm _ L1 es h3 g1 _ L2 x0 i3 q1 q2 he;exact k.inj b2 b1 i1 h1 ⟨_,hx,hd⟩ Ag this i2
 .intro b1 L1 e1 wf1 cs1 hb1 hg1 b2 L2 e2 wf2 af2 cs2 hb2 hg2 he;obtain⟨h1,h2,h3,h4⟩:=get b1 L1 _ hb1 hg1 (by simp);obtain⟨i1,i2,i3,i4⟩:=get b2 L2 _ hb2 hg2 (by simp);rcases h4 with⟨e',w1,a1,cs,w',a',cs'',g1,g2,g3,g4,g5⟩|⟨es,es',_,g2,_⟩
  .cases g2;obtain rfl:=g4 rfl;rcases i4 with⟨e'2,w12,a12,csx,w'2,a'2,cs''2,j1,j2,j3,j4,j5⟩|⟨es,es',_,j2,_⟩
   .cases j2;have q:=rl.app _ L1 e1 w1 cs h3 g1 _ L2 e2 w12 a12 csx i3 j1 he;rw[<- g5.length,<- j5.length];exact⟨q.1,λhh=>k.inj b2 b1 i1 h1 Ag Ag (q.2 (j4 hh)) i2⟩
   .cases j2
  exact Ag
 .intro b' L hb hf;obtain⟨h1,h2⟩:=qkM hb
  grind[Rel.flr,WkOk.flo,WkOk.fl,Rel.dom]
 .intro kk arr hk;refine⟨(rl.frz kk arr hk).1,λb L x hb hx hd=>?_⟩
  obtain⟨h1,h2,h3,h4⟩:=get b L x hb hx hd
  have:∃x0,h.tr.get (r b)=some x0/\x0≠.dead:=by
   rcases h4 with⟨_,_,_,_,_,_,_,q,_⟩|⟨_,_,q,_⟩<;>exact⟨_,q,by simp⟩
  obtain⟨x0,q1,q2⟩:=this;exact(rl.frz kk arr hk).2 _ L x0 h3 q1 q2
 .show Z.via r h'.sz b=Z b;rw[qjD (zzh hb k.nle),k.low b hb]
def mkT:List (Nat×AV)->Tr AV
 | []=>.leaf
 | p::l=>(mkT l).set p.1 p.2
def qfi{l:List (Nat×AV)}{j:Nat}{v:AV}(h:(mkT l).get j=some v):(j,v) ∈ l:=by
 induction l with
 | nil=>simp[mkT]at h
 | cons p l ih =>
  simp only[mkT,zz4]at h
  exact Ag
def trL:List Blk->Nat->Tr Blk->Tr Blk
 | [],_,t=>t
 | x::l,i,t=>trL l (i+1) (t.set i x)
def qt9:∀(l:List Blk) (i:Nat) (t:Tr Blk) (b:Nat),(trL l i t).get b=if i<=b/\b<i+l.length then l[b-i]? else t.get b
 | [],i,t,b=>by simp[trL];exact Ab
 | x::l,i,t,b=>by
  simp only[trL];rw[qt9 l (i+1)]
  exact A5
def mkH(fl:Nat)(l:List Blk):Hp:=⟨l.length,fl,trL l 0 .leaf⟩
theorem qyQ{fl:Nat}{l:List Blk}:(mkH fl l).sz=l.length:=rfl
def qyP{fl:Nat}{l:List Blk}:(mkH fl l).fl=fl:=rfl
theorem jq{fl:Nat}{l:List Blk}{b:Nat}:(mkH fl l).tr.get b=l[b]?:=by
 show(trL l 0 .leaf).get b=_;rw[qt9]
 exact Ae
def rl(l:List Nat)(d:Nat):Nat->Nat:=λb=>l.getD b d
def BWs(h:Hp)(r:Nat->Nat)(m:Nat):List Nat->List Blk->Prop
 | [],[]=>True
 | b::bs,x::xs=>BW h r m b x/\BWs h r m bs xs
 | _,_=>False
theorem BWs.get{h:Hp}{r:Nat->Nat}{m:Nat}:∀{bs:List Nat}{xs:List Blk},BWs h r m bs xs->bs.length=xs.length/\∀(i:Nat) x,xs[i]?=some x->∃b,bs[i]?=some b/\BW h r m b x
 | [],[],_=>⟨rfl,by simp⟩
 | b::bs,x::xs,hh=>by
  obtain⟨h1,h2⟩:=hh;obtain⟨h3,h4⟩:=h2.get
  exact Ag
 | [],_::_,hh=>hh.elim
 | _::_,[],hh=>hh.elim
def TWs(t:Tr AV)(r:Nat->Nat)(m:Nat):List (Nat×AV)->Prop
 | []=>True
 | p::l=>(∃v,t.get p.1=some v/\NV r m v p.2)/\TWs t r m l
theorem TWs.get{t:Tr AV}{r:Nat->Nat}{m:Nat}:∀{l:List (Nat×AV)},TWs t r m l->∀p ∈ l,∃v,t.get p.1=some v/\NV r m v p.2
 | [],_,p,hp=>by cases hp
 | q::l,h,p,hp=>by
  rcases zzc.1 hp with rfl|hp
  .exact h.1
  .exact TWs.get h.2 p hp
theorem Wk.mk{t:Tr AV}{h:Hp}(ts:List (Nat×AV))(bl:List Blk)(src:List Nat)(hT:TWs t (rl src h.sz) bl.length ts)(hB:BWs h (rl src h.sz) bl.length src bl)
  (hI:((src.filter λb=>decide (b<h.sz)).Nodup)) (hfl:h.fl=0):Wk 0 t h (mkT ts) (mkH 0 bl):=by
 obtain⟨hlen,hget⟩:=hB.get;refine Wk.of (r:=rl src h.sz) ⟨hfl.symm,λb' x' hb hg=>?_,λb1 b2 h1 h2 _ _ he hl=>?_,λb' _ _ _=>by rw[hfl];exact Ab,Ab,zzu _,Ab,λj v' hj=>?_⟩
 .exact B3
 .have h1:b1<src.length:=by rw[hlen];exact h1
  have h2:b2<src.length:=by rw[hlen];exact h2
  simp only[rl,zzs,zzE h1,zzE h2,Option.getD_some]at he hl;exact nodup_filter_inj hI h1 h2 he Ae
 .exact hT.get _ (qfi hj)
where
 nodup_filter_inj {l:List Nat}{p:Nat->Bool}(hn:(l.filter p).Nodup) {i j:Nat}(hi:i<l.length) (hj:j<l.length) (he:l[i]=l[j]) (hp:p l[i]=true):i=j:=by
  induction l generalizing i j<;>grind
end
section
variable {P:Program}{n:Nat}{C:zZ}{d:Bool}{Q:Tr AV->Hp->Prop}{t:Tr AV}{h:Hp}
def zD:Prop:=True
def qvx:zD↔True:=⟨λ_=>trivial,λ_=>trivial⟩
@[congr] theorem qK2 {c:ICode}{Q:X->Tr AV->Hp->Prop}{mk:Prop}(_:zD=mk):V P n c Q t h=V P n c Q t h:=rfl
@[congr] theorem qIW {c:ICode}{Q:X->Tr AV->Hp->Prop}{mk:Prop}(_:zD=mk):SL P n c Q t h=SL P n c Q t h:=rfl
@[congr] theorem qIV {f:Nat}{vs vs':List AV}{k:AV->Hp->Prop}{mk:Prop}(_:zD=mk) (h':vs=vs'):SC P f vs h k=SC P f vs' h k:=by rw[h']
@[congr] theorem qI1 {ops:List ROp}{mk:Prop}(_:zD=mk):VG P ops Q t h=VG P ops Q t h:=rfl
@[congr] theorem qIZ {ops:List ROp}{mk:Prop}(_:zD=mk):VD P ops Q t h=VD P ops Q t h:=rfl
@[congr] theorem qIw {o:IOp}{k:AV->Hp->Prop}{mk:Prop}(_:zD=mk):opK qV o t h k=opK qV o t h k:=rfl
@[congr] theorem qEF {e b:Nat}{c:Bool}{s x:AV}{k:AV->Hp->Prop}{mk:Prop}(_:zD=mk):qiH h e b c s x k=qiH h e b c s x k:=rfl
@[congr] theorem qDH {e:Nat}{s x:AV}{k:AV->Hp->Prop}{mk:Prop}(_:zD=mk):qok h e s x k=qok h e s x k:=rfl
@[congr] theorem qHB {e:Nat}{x:AV}{k:Nat->List AV->Prop}{mk:Prop}(_:zD=mk):qc5 h e x k=qc5 h e x k:=rfl
@[congr] theorem qEP {op:BinOp}{x y:AV}{k:AV->Prop}{mk:Prop}(_:zD=mk):x9 qV op x y k=x9 qV op x y k:=rfl
@[congr] theorem qIE {b o:Nat}{vs:List AV}{k:Hp->Prop}{mk:Prop}(_:zD=mk):stK h b o vs k=stK h b o vs k:=rfl
@[congr] theorem qIn {p:AV}{k:AV->Prop}{mk:Prop}(_:zD=mk):ldV h p k=ldV h p k:=rfl
@[congr] theorem qF2 {p:AV}{n:Nat}{k:List AV->Prop}{mk:Prop}(_:zD=mk):qlZ h p n k=qlZ h p n k:=rfl
@[congr] theorem qIm {b o:Nat}{k:AV->Prop}{mk:Prop}(_:zD=mk):ldK h b o k=ldK h b o k:=rfl
@[congr] theorem qF1 {b o n:Nat}{k:List AV->Prop}{mk:Prop}(_:zD=mk):qfG h b o n k=qfG h b o n k:=rfl
@[congr] theorem qEh {op:UnOp}{x:AV}{k:AV->Prop}{mk:Prop}(_:zD=mk):qfq op x k=qfq op x k:=rfl
@[congr] theorem qDu {a b:Nat}{x y z:Option AV}{k:Nat->Nat->Nat->Prop}{mk:Prop}(_:zD=mk):xG a b x y z k=xG a b x y z k:=rfl
@[congr] theorem qDO {i:AV}{es:List (AV×AV)}{k:Option AV->Prop}{mk:Prop}(_:zD=mk):qdl qV i es k=qdl qV i es k:=rfl
@[congr] theorem qHR {i v:AV}{es:List (AV×AV)}{k:List (AV×AV)->Prop}{mk:Prop}(_:zD=mk):qik qV i v es k=qik qV i v es k:=rfl
@[congr] theorem qz5 {cs:List AV}{k:List UInt8->Prop}{mk:Prop}(_:zD=mk):qkI cs k=qkI cs k:=rfl
@[congr] theorem qFu {rs:List RV}{k:AV->Hp->Prop}{e:X}{mk:Prop}(_:zD=mk):zQ rs k e t h=zQ rs k e t h:=rfl
@[congr] theorem qGr {x:Blk}{k:Nat->Hp->Prop}{mk:Prop}(_:zD=mk):vg h x k=vg h x k:=rfl
@[congr] theorem qHd {b:Nat}{x:Blk}{k:Hp->Prop}{mk:Prop}(_:zD=mk):qd9 h b x k=qd9 h b x k:=rfl
@[congr] theorem qDM {ps:List (Nat×Nat×O)}{l:List AV}{k:List AV->Prop}{mk:Prop}(_:zD=mk):qai t ps l k=qai t ps l k:=rfl
@[congr] theorem qxe {qs:List PK}{x y:List AV}{k:Bool->Prop}{mk:Prop}(_:zD=mk):qdf qs x y k=qdf qs x y k:=rfl
@[congr] theorem qBQ {q:NK}{x:AV}{k:Bool->Prop}{mk:Prop}(_:zD=mk):wA q x k=wA q x k:=rfl
def qEA{Q:X->Tr AV->Hp->Prop}:V P n .skip Q t h↔Q .normal t h:=Iff.rfl
def qI7{Q:X->Tr AV->Hp->Prop}:V P n .ret Q t h↔Q .ret t h:=Iff.rfl
def qEx{id:Nat}{Q:X->Tr AV->Hp->Prop}:V P n (.exit id) Q t h↔Q (.exit id) t h:=Iff.rfl
def qI8{x y:ICode}{Q:X->Tr AV->Hp->Prop}:V P n (.seq x y) Q t h↔V P n x (λe t h=>onX e (V P n y Q t h) (λid=>Q (.exit id) t h) (Q .ret t h)) t h:=Iff.rfl
def qEw{c:O}{x y:ICode}{Q:X->Tr AV->Hp->Prop}:V P n (.cond c x y) Q t h↔evK t c (λv=>unB v (λb=>if b=true then V P n x Q t h else V P n y Q t h)):=Iff.rfl
def qI4{id:Nat}{x:ICode}{Q:X->Tr AV->Hp->Prop}:V P n (.blk id x) Q t h↔V P n x (λe t h=>onX e (Q .normal t h) (λi=>if i=id then Q .normal t h else Q (.exit i) t h) (Q .ret t h)) t h:=Iff.rfl
def qEy{x:ICode}{Q:X->Tr AV->Hp->Prop}:V P n (.loop x) Q t h↔SL P n x Q t h:=Iff.rfl
def qwm{j:Nat}{g:O}{ps:List Nat}{x y:ICode}{Q:X->Tr AV->Hp->Prop}:V P n (.rangeF j g ps x y) Q t h↔S P n (.rangeF j g ps x y) Q t h:=Iff.rfl
def qI5{x:ICode}{Q:X->Tr AV->Hp->Prop}:V P n (.cut x) Q t h↔S P n x Q t h:=Iff.rfl
@[congr] theorem qK1 {c:ICode}{Q:X->Tr AV->Hp->Prop}{mk:Prop}(_:zD=mk):S P n c Q t h=S P n c Q t h:=rfl
theorem qI6{ops:List ROp}{Q:X->Tr AV->Hp->Prop}:V P n (.reg false ops) Q t h↔VG P ops (λt h=>Q .normal t h) t h:=by simp[V]
def qEz{ops:List ROp}{Q:X->Tr AV->Hp->Prop}:V P n (.reg true ops) Q t h↔VD P ops (λt h=>Q .normal t h) t h:=by simp[V]
def evO(o:Option AV)(k:AV->Prop):Prop:=∃v,o=some v/\k v
@[congr] theorem qIg {o o':Option AV}{k:AV->Prop}{mk:Prop}(_:zD=mk) (h:o=o'):evO o k=evO o' k:=Ii
theorem qxC{v:AV}{k:AV->Prop}:evO (some v) k↔k v:=by simp[evO]
def qjR{t:Tr AV}{n:Nat}{k:AV->Prop}:evK t (.t n) k↔evO (t.get n) k:=Tr.getK_iff _ _ _
def qJO{v:AV}{k:AV->Prop}:evK t (.c v) k↔k v:=Iff.rfl
def qxD{k:List AV->Prop}:qaq t [] k↔k []:=Iff.rfl
def quZ{x:O}{xs:List O}{k:List AV->Prop}:qaq t (x::xs) k↔evK t x (λv=>qaq t xs (λvs=>k (v::vs))):=Iff.rfl
def qvM{k:Option AV->Prop}:qbg t none k↔k none:=Iff.rfl
def qvO{x:O}{k:Option AV->Prop}:qbg t (some x) k↔evK t x (λv=>k (some v)):=Iff.rfl
def qxZ{n:Nat}{b:Bool}{k:Bool->Prop}:qa1 t (some (n,b)) k↔evO (t.get n) (λv=>match v with | .b x=>zl (x==b) k | .tup _=>k false|_=>False):=Tr.getK_iff _ _ _
def quU{v:AV}{k:Tr AV->Prop}:qap t none v k↔k t:=Iff.rfl
def quV{n:Nat}{v:AV}{k:Tr AV->Prop}:qap t (some n) v k↔k (t.set n v):=Tr.setK_iff _ _ _ _
@[congr] theorem qId {x:O}{k:AV->Prop}{mk:Prop}(_:zD=mk):evK t x k=evK t x k:=rfl
@[congr] theorem qFx {x:List O}{k:List AV->Prop}{mk:Prop}(_:zD=mk):qaq t x k=qaq t x k:=rfl
@[congr] theorem qG4 {x:Option O}{k:Option AV->Prop}{mk:Prop}(_:zD=mk):qbg t x k=qbg t x k:=rfl
@[congr] theorem qFs {x:Option Nat}{v:AV}{k:Tr AV->Prop}{mk:Prop}(_:zD=mk):qap t x v k=qap t x v k:=rfl
@[congr] theorem qBE {g:Option (Nat×Bool)}{k:Bool->Prop}{mk:Prop}(_:zD=mk):qa1 t g k=qa1 t g k:=rfl
theorem qEt:VG P [] Q t h↔Q t h:=Iff.rfl
def qI3{dst:Option Nat}{o:IOp}{ops:List ROp}:VG P (⟨dst,.op o,none⟩::ops) Q t h↔opK qV o t h (λv h'=>qap t dst v (λt'=>VG P ops Q t' h')):=Iff.rfl
def qwj{dst:Option Nat}{f:Nat}{args:List O}{ops:List ROp}:VG P (⟨dst,.callF f args,none⟩::ops) Q t h↔qaq t args (λvs=>SC P f vs h (λv h'=>qap t dst v (λt'=>VG P ops Q t' h'))):=Iff.rfl
def qwl{dst:Option Nat}{f:Nat}{args:List O}{ops:List ROp}:VG P (⟨dst,.callW f args,none⟩::ops) Q t h↔qaq t args (λvs=>SC P f vs h (λv h'=>qap t dst v (λt'=>VG P ops Q t' h'))):=Iff.rfl
def cvF(C:zZ)(g:AV)(vs:List AV)(h:Hp)(k:AV->Hp->Prop):Prop:=match g with | .fn f a c=>C (Nat.succ f) (a++(vs++c)) h k | .yl b=>C 0 (.yl b::vs) h k|_=>False
@[congr] theorem qH7 {g:AV}{vs:List AV}{k:AV->Hp->Prop}{mk:Prop}(_:zD=mk):cvF C g vs h k=cvF C g vs h k:=rfl
@[congr] theorem qIX {b:Nat}{vs vs':List AV}{k:AV->Hp->Prop}{mk:Prop}(_:zD=mk) (h':vs=vs'):SY P b vs h k=SY P b vs' h k:=by rw[h']
theorem qFn{b:Nat}{vs:List AV}{k:AV->Hp->Prop}:cvF (CC P) (.yl b) vs h k↔SY P b vs h k:=Iff.rfl
def qFk{f:Nat}{a c vs:List AV}{k:AV->Hp->Prop}:cvF (CC P) (.fn f a c) vs h k↔SC P f (a++(vs++c)) h k:=Iff.rfl
def qwk{dst:Option Nat}{x:O}{args:List O}{ops:List ROp}:VG P (⟨dst,.callV x args,none⟩::ops) Q t h↔evK t x (λg=>qaq t args (λvs=>cvF (CC P) g vs h (λv h'=>qap t dst v (λt'=>VG P ops Q t' h')))):=Iff.rfl
def quf{dst:Option Nat}{x:O}{args:List O}{ops:List ROp}:VG P (⟨dst,.callVW x args,none⟩::ops) Q t h↔evK t x (λg=>qaq t args (λvs=>cvF (CC P) g vs h (λv h'=>qap t dst v (λt'=>VG P ops Q t' h')))):=Iff.rfl
def qI2{dst:Option Nat}{r:RK}{n:Nat}{b:Bool}{ops:List ROp} :
  VG P (⟨dst,r,some (n,b)⟩::ops) Q t h↔qa1 t (some (n,b)) (λgo=>if go=true then VG P (⟨dst,r,none⟩::ops) Q t h else qap t dst (.tup []) (λt'=>VG P ops Q t' h)):=by
 have e:∀(g:Bool) (p q:Prop),(Bool.rec (motive:=λ_=>Prop) q p g:Prop)=if g=true then p else q:=Ae
 show qa1 t (some (n,b)) (λgo=>Bool.rec (motive:=λ_=>Prop) (qap t dst (.tup []) (λt'=>VG P ops Q t' h)) (VG P (⟨dst,r,none⟩::ops) Q t h) go)↔_
 simp only[e]
def qc.sc{f:Nat}{vs:List AV}{v:AV}{k:AV->Hp->Prop}(hp:qc P f vs v)(hk:k v h):SC P f vs h k:=hp h k hk
def VR'(C:zZ)(ops:List ROp)(Q:Tr AV->Hp->Prop)(t:Tr AV)(h:Hp):Prop:=qkz qV true C ops Q t h
@[congr] theorem qHY {ops:List ROp}{mk:Prop}(_:zD=mk):VR' C ops Q t h=VR' C ops Q t h:=rfl
theorem qI0{ops:List ROp}(hl:LC C)(hs:qdG P σ0 C)(hr:VR' C ops Q t h):VD P ops Q t h:=⟨_,hl,hs,hr⟩
def Hp.up(h:Hp):Hp:=⟨h.sz,h.sz,h.tr⟩
def Hp.down(h:Hp)(fl:Nat):Hp:=⟨h.sz,fl,h.tr⟩
def qjz{F:Hp->(AV->Hp->Prop)->Prop}{k:AV->Hp->Prop}:qie F h k↔F h.up (λv h'=>k v (h'.down h.fl)):=by
 cases h with
 | mk sz fl tr =>
  show F ⟨sz,sz,tr⟩ (λv h'=>Hp.rec (motive:=λ_=>Prop) (λsz' _ tr'=>k v ⟨sz',fl,tr'⟩) h')↔_
  have:(λ(v:AV) (h':Hp)=>(Hp.rec (motive:=λ_=>Prop) (λsz' _ tr'=>k v ⟨sz',fl,tr'⟩) h':Prop))=λv h'=>k v (h'.down fl):=by
   funext v h';cases h';rfl
  rw[this];exact Bt
def qEv{dst:Option Nat}{o:IOp}{ops:List ROp}:VR' C (⟨dst,.op o,none⟩::ops) Q t h ↔
  if wr (.op o)=true then opK qV o t h (λv h'=>qap t dst v (λt'=>VR' C ops Q t' h'))else opK qV o t h.up (λv h'=>qap t dst v (λt'=>VR' C ops Q t' (h'.down h.fl))):=by
 have e:VR' C (⟨dst,.op o,none⟩::ops) Q t h↔qjB qV true C (.op o) t h (λv h'=>qap t dst v (λt'=>VR' C ops Q t' h')):=Iff.rfl
 rw[e];unfold qjB;cases hw:wr (.op o)with
 | true=>exact Bt
 | false =>
  rw[if_neg (by simp)];exact qjz
def qug{dst:Option Nat}{f:Nat}{args:List O}{ops:List ROp}:VR' C (⟨dst,.callF f args,none⟩::ops) Q t h↔qaq t args (λvs=>C (Nat.succ f) vs h.up (λv h'=>qap t dst v (λt'=>VR' C ops Q t' (h'.down h.fl)))):=by
 have e:VR' C (⟨dst,.callF f args,none⟩::ops) Q t h↔qie (qdB qV C (.callF f args) t) h (λv h'=>qap t dst v (λt'=>VR' C ops Q t' h')):=Iff.rfl
 rw[e,qjz];exact Bt
def quh{dst:Option Nat}{x:O}{args:List O}{ops:List ROp}:VR' C (⟨dst,.callV x args,none⟩::ops) Q t h↔evK t x (λg=>qaq t args (λvs=>cvF C g vs h.up (λv h'=>qap t dst v (λt'=>VR' C ops Q t' (h'.down h.fl))))):=by
 have e:VR' C (⟨dst,.callV x args,none⟩::ops) Q t h↔qie (qdB qV C (.callV x args) t) h (λv h'=>qap t dst v (λt'=>VR' C ops Q t' h')):=Iff.rfl
 rw[e,qjz];exact Bt
def qui{dst:Option Nat}{f:Nat}{args:List O}{ops:List ROp}:VR' C (⟨dst,.callW f args,none⟩::ops) Q t h↔qaq t args (λvs=>C (Nat.succ f) vs h (λv h'=>qap t dst v (λt'=>VR' C ops Q t' h'))):=Iff.rfl
def qrX{dst:Option Nat}{x:O}{args:List O}{ops:List ROp}:VR' C (⟨dst,.callVW x args,none⟩::ops) Q t h↔evK t x (λg=>qaq t args (λvs=>cvF C g vs h (λv h'=>qap t dst v (λt'=>VR' C ops Q t' h')))):=Iff.rfl
def qEu{dst:Option Nat}{r:RK}{n:Nat}{b:Bool}{ops:List ROp} :
  VR' C (⟨dst,r,some (n,b)⟩::ops) Q t h↔qa1 t (some (n,b)) (λgo=>if go=true then VR' C (⟨dst,r,none⟩::ops) Q t h else qap t dst (.tup []) (λt'=>VR' C ops Q t' h)):=by
 have e:∀(g:Bool) (p q:Prop),(Bool.rec (motive:=λ_=>Prop) q p g:Prop)=if g=true then p else q:=Ae
 show qa1 t (some (n,b)) (λgo=>Bool.rec (motive:=λ_=>Prop) (qap t dst (.tup []) (λt'=>VR' C ops Q t' h)) (VR' C (⟨dst,r,none⟩::ops) Q t h) go)↔_
 simp only[e]
end
section
variable {P:Program}{n:Nat}{C:zZ}{d:Bool}{Q:Tr AV->Hp->Prop}{t:Tr AV}{h:Hp}{k:AV->Hp->Prop}
def evA(v:AV)(k:AV->Prop):Prop:=k v
@[congr] theorem qIa {v v':AV}{k:AV->Prop}{mk:Prop}(_:zD=mk) (h:v=v'):evA v k=evA v' k:=Ii
theorem qBk{v:AV}{k:AV->Prop}:evA v k↔k v:=Iff.rfl
def evL(v:List AV)(k:List AV->Prop):Prop:=k v
@[congr] theorem qIe {v v':List AV}{k:List AV->Prop}{mk:Prop}(_:zD=mk) (h:v=v'):evL v k=evL v' k:=Ii
theorem qBl{v:List AV}{k:List AV->Prop}:evL v k↔k v:=Iff.rfl
def evN(v:Nat)(k:Nat->Prop):Prop:=k v
@[congr] theorem qIf {v v':Nat}{k:Nat->Prop}{mk:Prop}(_:zD=mk) (h:v=v'):evN v k=evN v' k:=Ii
theorem qBm{v:Nat}{k:Nat->Prop}:evN v k↔k v:=Iff.rfl
def evT(v:Bool)(k:Bool->Prop):Prop:=k v
@[congr] theorem qIh {v v':Bool}{k:Bool->Prop}{mk:Prop}(_:zD=mk) (h:v=v'):evT v k=evT v' k:=Ii
theorem qBn{v:Bool}{k:Bool->Prop}:evT v k↔k v:=Iff.rfl
def evB(o:Option Blk)(k:Blk->Prop):Prop:=∃v,o=some v/\k v
@[congr] theorem qIb {o o':Option Blk}{k:Blk->Prop}{mk:Prop}(_:zD=mk) (h:o=o'):evB o k=evB o' k:=Ii
theorem qxB{v:Blk}{k:Blk->Prop}:evB (some v) k↔k v:=by simp[evB]
def ifK(c:Prop)(p:Prop):Prop:=c/\p
@[congr] theorem qIi {c c' p:Prop}{mk:Prop}(_:zD=mk) (h:c=c'):ifK c p=ifK c' p:=Ii
theorem qq4{p:Prop}:ifK True p↔p:=by simp[ifK]
def qBN{c c' p:Prop}:ifK (c/\c') p↔ifK c (ifK c' p):=by simp[ifK,and_assoc]
def que{x:Bool}{p:Prop}:qv x p↔ifK (x=true) p:=qf _ _
def jK{n:Nat}{k:Nat->Prop}:qE n k↔evN n k:=by rw[qO];exact Bt
theorem qk1{n:Bool}{k:Bool->Prop}:zl n k↔evT n k:=by rw[zi];exact Bt
@[congr] theorem qBs {n:Nat}{k:Nat->Prop}{mk:Prop}(_:zD=mk):qE n k=qE n k:=rfl
@[congr] theorem qBr {n:Bool}{k:Bool->Prop}{mk:Prop}(_:zD=mk):zl n k=zl n k:=rfl
@[congr] theorem qEm {n:Bool}{k:Prop}{mk:Prop}(_:zD=mk):qv n k=qv n k:=rfl
theorem qKT{x:Bool}{k:Bool->Prop}:unB (.b x) k↔k x:=Iff.rfl
def qDp{b o:Nat}{k:Nat->Nat->Prop}:unP (.ptr b o) k↔k b o:=Iff.rfl
def qKU{q:IntKind}{z:Int}{k:IntKind->Int->Prop}:unI (.i q z) k↔k q z:=Iff.rfl
def qKV{q:IntKind}{z:Int}{k:Nat->Prop}:unN (.i q z) k↔ifK (0<=z) (evN z.toNat k):=by
 cases z with
 | ofNat m=>exact⟨λh=>⟨Ae,h⟩,λh=>h.2⟩
 | negSucc m=>exact⟨λh=>h.elim,λh=>absurd h.1 Ab⟩
@[congr] theorem qIK {x:AV}{k:Bool->Prop}{mk:Prop}(_:zD=mk):unB x k=unB x k:=rfl
@[congr] theorem qIN {x:AV}{k:Nat->Nat->Prop}{mk:Prop}(_:zD=mk):unP x k=unP x k:=rfl
@[congr] theorem qIL {x:AV}{k:IntKind->Int->Prop}{mk:Prop}(_:zD=mk):unI x k=unI x k:=rfl
@[congr] theorem qIM {x:AV}{k:Nat->Prop}{mk:Prop}(_:zD=mk):unN x k=unN x k:=rfl
section
variable {q q':IntKind}{n m:Int}{a c:List UInt8}{k:AV->Prop}
def qqQ{z:Int}:jH (qkO q z) (λr=>k (.i q r))↔evA (.i q (q.wrap z)) k:=by
 rw[z6,qeT];exact Bt
def qAJ:x9 qV .lss (.i q n) (.i q m) k↔evA (.b (decide (n<m))) k:=by simp[x9,x4,qf,qdQ,evA]
def qAH:x9 qV .gtr (.i q n) (.i q m) k↔evA (.b (decide (m<n))) k:=by simp[x9,x4,qf,qdQ,evA]
def qAG:x9 qV .geq (.i q n) (.i q m) k↔evA (.b (decide (m<=n))) k:=Fi
def qAI:x9 qV .leq (.i q n) (.i q m) k↔evA (.b (decide (n<=m))) k:=Fi
def qAF:x9 qV .eql (.i q n) (.i q m) k↔evA (.b (decide (n=m))) k:=Ds
def qAL:x9 qV .neq (.i q n) (.i q m) k↔evA (.b (!decide (n=m))) k:=Ds
def qAC:x9 qV .add (.i q n) (.i q m) k↔evA (.i q (q.wrap (n+m))) k:=by
 simp only[x9,x4,qf,qeT,z6,decide_true,true_and];exact Bt
def qAO:x9 qV .sub (.i q n) (.i q m) k↔evA (.i q (q.wrap (n-m))) k:=by
 simp only[x9,x4,qf,qeT,z6,decide_true,true_and];exact Bt
def qAK:x9 qV .mul (.i q n) (.i q m) k↔evA (.i q (q.wrap (n*m))) k:=by
 simp only[x9,x4,qf,qeT,z6,decide_true,true_and];exact Bt
def orI(q:IntKind)(x y:Int):Int:=q.wrap (BitVec.ofInt q.bits x ||| BitVec.ofInt q.bits y).toNat
def xA(q:IntKind)(x y:Int):Int:=q.wrap (BitVec.ofInt q.bits x &&& BitVec.ofInt q.bits y).toNat
def qHX(q:IntKind)(x y:Int):Int:=q.wrap (BitVec.ofInt q.bits x ^^^ BitVec.ofInt q.bits y).toNat
def qdh(q:IntKind)(x y:Int):Int:=q.wrap (BitVec.ofInt q.bits x &&& ~~~ (BitVec.ofInt q.bits y)).toNat
def qER:x9 qV .or (.i q n) (.i q m) k↔evA (.i q (orI q n m)) k:=by
 simp only[x9,x4,qf,z6,decide_true,true_and,orI,evA]
def qAD:x9 qV .and (.i q n) (.i q m) k↔evA (.i q (xA q n m)) k:=by
 simp only[x9,x4,qf,z6,decide_true,true_and,xA,evA]
def qAP:x9 qV .xor (.i q n) (.i q m) k↔evA (.i q (qHX q n m)) k:=by
 simp only[x9,x4,qf,z6,decide_true,true_and,qHX,evA]
def qAE:x9 qV .andNot (.i q n) (.i q m) k↔evA (.i q (qdh q n m)) k:=by
 simp only[x9,x4,qf,z6,decide_true,true_and,qdh,evA]
def qsF(q:IntKind)(x m:Int):Int:=x.fdiv (2 ^ min m.toNat q.bits)
def qpY(q:IntKind)(x m:Int):Int:=q.wrap (x*2 ^ min m.toNat q.bits)
def qAN{q2:IntKind}:x9 qV .shr (.i q n) (.i q2 m) k↔ifK (0<=m) (evA (.i q (qsF q n m)) k):=by
 cases m with
 | ofNat m =>
  show qE (min m q.bits) (λa=>jH (n.fdiv (p2 a)) (λr=>k (.i q r)))↔_
  rw[qO,z6,qtJ];exact⟨λh=>⟨Ae,h⟩,λh=>h.2⟩
 | negSucc m=>exact⟨λh=>h.elim,λh=>absurd h.1 Ab⟩
def qAM{q2:IntKind}:x9 qV .shl (.i q n) (.i q2 m) k↔ifK (0<=m) (evA (.i q (qpY q n m)) k):=by
 cases m with
 | ofNat m =>
  show qE (min m q.bits) (λa=>jH (q.wrap (n*p2 a)) (λr=>k (.i q r)))↔_
  rw[qO,z6,qtJ];exact⟨λh=>⟨Ae,h⟩,λh=>h.2⟩
 | negSucc m=>exact⟨λh=>h.elim,λh=>absurd h.1 Ab⟩
def qmN(x y:Int):eqI x y=decide (x=y):=by rw[qjg,Bool.eq_iff_iff];simp
def zk(h:m≠0):x9 qV .quo (.i q n) (.i q m) k↔evA (.i q (q.wrap (n.tdiv m))) k:=by
 simp only[x9,x4,qf,qeT,z6,decide_true,true_and,qmN,decide_eq_false h];exact Bt
def zW(h:m≠0):x9 qV .rem (.i q n) (.i q m) k↔evA (.i q (n.tmod m)) k:=by
 simp only[x9,x4,qf,z6,decide_true,true_and,qmN,decide_eq_false h];exact Bt
def qwF:x9 qV .eql (.s a) (.s c) k↔evA (.b (decide (a=c))) k:=Bf
def qwK:x9 qV .neq (.s a) (.s c) k↔evA (.b (!decide (a=c))) k:=Bf
def qwE:x9 qV .add (.s a) (.s c) k↔ifK (a.length+c.length<=9223372036854775807) (evA (.s (a++c)) k):=by
 show(Bool.rec (motive:=λ_=>Prop) False (k (.s (a++c))) (Nat.ble (a.length+c.length) 9223372036854775807):Prop)↔_
 rw[show(a.length+c.length<=9223372036854775807)=(Nat.ble (a.length+c.length) 9223372036854775807=true)from Ae]
 cases Nat.ble (a.length+c.length) 9223372036854775807
 .exact⟨False.elim,λh=>by cases h.1⟩
 .exact⟨λh=>⟨rfl,h⟩,λh=>h.2⟩
def qwJ:x9 qV .lss (.s a) (.s c) k↔evA (.b (ltS a c)) k:=by simp only[x9,qct,zi,evA]
def qwG:x9 qV .geq (.s a) (.s c) k↔evA (.b (!ltS a c)) k:=by simp only[x9,qct,zi,evA]
def qwI:x9 qV .leq (.s a) (.s c) k↔evA (.b (ltS a c||decide (a=c))) k:=Bf
def qwH:x9 qV .gtr (.s a) (.s c) k↔evA (.b (!(ltS a c||decide (a=c)))) k:=Bf
def qHP{x:Bool}:qfq .not (.b x) k↔evA (.b (!x)) k:=by simp only[qfq,zi,evA]
def qHO:qfq .neg (.i q n) k↔evA (.i q (q.wrap (0-n))) k:=by simp only[qfq,z6,evA]
theorem qC{x:Int}(h1:-9223372036854775808<=x)(h2:x<=9223372036854775807):IntKind.wrap .i64 x=x:=by
 refine Ej ?_;exact Ab
def wS(n:Nat)(h:n<9223372036854775807:=by omega):IntKind.wrap .i64 ((n:Int)+1)=((n+1:Nat):Int):=by rw[qC (by omega) (by omega)];omega
theorem jJ{x:Int}(h1:0<=x)(h2:x<=18446744073709551615):IntKind.wrap .u64 x=x:=by
 refine Ej ?_;exact Ab
theorem qao{x:Int}(h1:0<=x)(h2:x<=4294967295):IntKind.wrap .u32 x=x:=by
 refine Ej ?_;exact Ab
theorem qAj{x:Int}(h1:0<=x)(h2:x<=255):IntKind.wrap .u8 x=x:=by
 refine Ej ?_;exact Ab
def qLE:cvK qV q (.i q' n) k↔evA (.i q (q.wrap n)) k:=by
 show jH (qkO q n) (λr=>k (.i q r))↔_
 exact qqQ
end
def qGs{s f:Nat}{tr:Tr Blk}{x:Blk}{k:Nat->Hp->Prop}:vg ⟨s,f,tr⟩ x k↔evN (s+1) (λs'=>k s ⟨s',f,tr.set s x⟩):=by
 rw[xJ];exact Bt
def qHe{s f b:Nat}{tr:Tr Blk}{x:Blk}{k:Hp->Prop}:qd9 ⟨s,f,tr⟩ b x k↔ifK (f<=b) (k ⟨s,f,tr.set b x⟩):=qaE _ _ _ _
def qEj{s f:Nat}{tr:Tr Blk}:Hp.up ⟨s,f,tr⟩=⟨s,s,tr⟩:=rfl
def qs5{s f f':Nat}{tr:Tr Blk}:Hp.down ⟨s,f,tr⟩ f'=⟨s,f',tr⟩:=rfl
def qbp(x:Blk)(k:Nat->Bool->Bool->List AV->Prop):Prop:=match x with | .cells e w a cs=>k e w a cs|_=>False
@[congr] theorem qAZ {x x':Blk}{k:Nat->Bool->Bool->List AV->Prop}{mk:Prop}(_:zD=mk) (h:x=x'):qbp x k=qbp x' k:=Ii
theorem qpl{e:Nat}{w a:Bool}{cs:List AV}{k:Nat->Bool->Bool->List AV->Prop}:qbp (.cells e w a cs) k↔k e w a cs:=Iff.rfl
def qip{b:Nat}{k:Nat->Bool->Bool->List AV->Prop}:qas h b k↔evB (h.tr.get b) (λx=>qbp x k):=by
 rw[zC];constructor
 .rintro⟨e,w,a,cs,h1,h2⟩;exact⟨_,h1,h2⟩
 .rintro⟨x,h1,h2⟩;cases x with
  | cells e w a cs=>exact⟨e,w,a,cs,h1,h2⟩
  | dead=>exact Jn
  | map es=>exact Jn
def qhk(cs:List AV)(o n:Nat)(k:List AV->Prop):Prop:=o<=cs.length/\n<=(cs.drop o).length/\k ((cs.drop o).take n)
@[congr] theorem qFj {cs:List AV}{o n:Nat}{k:List AV->Prop}{mk:Prop}(_:zD=mk):qhk cs o n k=qhk cs o n k:=rfl
theorem qBd{cs:List AV}{o n:Nat}{k:List AV->Prop}:qhk cs o n k↔ifK (o+n<=cs.length) (evL ((cs.drop o).take n) k):=by
 unfold qhk ifK;rw[List.length_drop];exact⟨fun⟨h1,h2,h3⟩=>⟨Ab,h3⟩,fun⟨h1,h2⟩=>⟨Ab,Ab,h2⟩⟩
theorem drop_take{cs:List AV}{o n:Nat}{k:List AV->Prop}:qdX o cs (λl=>qdD n l k)↔qhk cs o n k:=by
 rw[xo,xe];exact Bt
def qyp{b o:Nat}{k:AV->Prop}:ldV h (.ptr b o) k↔evB (h.tr.get b) (λx=>qbp x (λ_ _ _ cs=>evO cs[o]? k)):=by
 show qas h b (λ_ _ _ cs=>qjt cs o k)↔_
 rw[qip]
 have:(λ(_:Nat) (_ _:Bool) (cs:List AV)=>qjt cs o k)=λ_ _ _ cs=>evO cs[o]? k:=by
  funext _ _ _ cs;exact propext (wn _ _ _)
 rw[this]
def qJ9{cs:List AV}{o:Nat}{k:AV->Prop}:ldV h (.pf cs o) k↔evO cs[o]? k:=wn _ _ _
def qJ7{b o:Nat}{k:AV->Prop}:ldK h b o k↔evB (h.tr.get b) (λx=>qbp x (λ_ _ _ cs=>evO cs[o]? k)):=qyp
def qyq{b o n:Nat}{k:List AV->Prop}:qfG h b o n k↔evB (h.tr.get b) (λx=>qbp x (λ_ _ _ cs=>qhk cs o n k)):=by
 show qas h b (λ_ _ _ cs=>qdX o cs (λl=>qdD n l k))↔_
 rw[qip]
 grind[drop_take]
def qBW{b o n:Nat}{k:List AV->Prop}:qlZ h (.ptr b o) n k↔evB (h.tr.get b) (λx=>qbp x (λ_ _ _ cs=>qhk cs o n k)):=qyq
def qF4{cs:List AV}{o n:Nat}{k:List AV->Prop}:qlZ h (.pf cs o) n k↔qhk cs o n k:=drop_take
def qB6{b o n:Nat}{k:AV->Prop}:qjr (.ptr b o) n k↔evN (o+n) (λo'=>k (.ptr b o')):=jK (n:=o+n) (k:=λo'=>k (.ptr b o'))
def qGo{cs:List AV}{o n:Nat}{k:AV->Prop}:qjr (.pf cs o) n k↔evN (o+n) (λo'=>k (.pf cs o')):=jK (n:=o+n) (k:=λo'=>k (.pf cs o'))
@[congr] theorem qGn {p:AV}{n:Nat}{k:AV->Prop}{mk:Prop}(_:zD=mk):qjr p n k=qjr p n k:=rfl
theorem qMm{b o:Nat}{vs:List AV}{k:Hp->Prop}:stK h b o vs k↔evB (h.tr.get b) (λx=>qbp x (λe w a cs=>ifK (w=true/\qQ vs=true/\o+vs.length<=cs.length) (evL (cs.take o++(vs++cs.drop (o+vs.length))) (λcs'=>qd9 h b (.cells e true a cs') k)))):=by
 show qas h b _↔_;rw[qip]
 have:(λ(e:Nat) (w a:Bool) (cs:List AV)=>(Bool.rec (motive:=λ_=>Prop) False (Bool.rec (motive:=λ_=>Prop) False (wH vs o cs (λcs'=>qd9 h b (.cells e w a cs') k)) (qQ vs)) w:Prop)) =
   λe w a cs=>ifK (w=true/\qQ vs=true/\o+vs.length<=cs.length) (evL (cs.take o++(vs++cs.drop (o+vs.length))) (λcs'=>qd9 h b (.cells e true a cs') k)):=by
  funext e w a cs;refine propext ?_;cases w with
  | false=>exact⟨False.elim,λhh=>by have:=hh.1.1;exact Ag⟩
  | true =>
   cases hc:qQ vs with
   | false=>exact⟨False.elim,λhh=>by have:=hh.1.2.1;exact Ag⟩
   | true=>exact(vj _ _ _ _).trans ⟨fun⟨h1,h2⟩=>⟨⟨rfl,rfl,h1⟩,h2⟩,fun⟨⟨_,_,h1⟩,h2⟩=>⟨h1,h2⟩⟩
 rw[this]
def stV(h:Hp)(b o:Nat)(v:AV)(n:Nat)(k:Hp->Prop):Prop:=qv (qdJ v) (qiJ (cellsOf v) (λm=>qv (Nat.beq m n) (stK h b o (cellsOf v) k)))
@[congr] theorem qIF {b o:Nat}{v:AV}{n:Nat}{k:Hp->Prop}{mk:Prop}(_:zD=mk):stV h b o v n k=stV h b o v n k:=rfl
theorem qim{x y:Nat}:Nat.beq x y=true↔x=y:=Ae
def qDc{b o:Nat}{v:AV}{n:Nat}{k:Hp->Prop}:stV h b o v n k↔ifK (qdJ v=true) (evL (cellsOf v) (λcs=>ifK (cs.length=n) (stK h b o cs k))):=by
 unfold stV;rw[qf,ka,qf,qim];exact Bt
def vk{x y:Nat}:Nat.ble x y=true↔x<=y:=Ae
def qG1{x:O}:opK qV (.mov x) t h k↔evK t x (λv=>k v h):=Iff.rfl
def qfN{b:Bool}{p q:Prop}:(Bool.rec (motive:=λ_=>Prop) q p b:Prop)↔if b=true then p else q:=by cases b<;>simp
def qCq{c x y:O}:opK qV (.pick c x y) t h k↔evK t c (λc=>unB c (λc=>if c=true then evK t x (λv=>k v h)else evK t y (λv=>k v h))):=by
 show evK t c (λc=>unB c (λc=>Bool.rec (motive:=λ_=>Prop) (evK t y (λv=>k v h)) (evK t x (λv=>k v h)) c))↔_
 simp only[qfN]
def qy8{z:List AV}:opK qV (.alloc z) t h k↔vg h (.cells 0 true false z) (λb h'=>k (.ptr b 0) h'):=Iff.rfl
def qGQ{x:O}:opK qV (.box x) t h k↔evK t x (λv=>qv (qdJ v) (evL (cellsOf v) (λcs=>vg h (.cells 0 true false cs) (λb h'=>k (.ptr b 0) h')))):=Iff.rfl
def qy9{z:List AV}{ps:List (Nat×Nat×O)}:opK qV (.build z ps) t h k↔qai t ps z (λcs=>k (.agg cs) h):=Iff.rfl
def qvG{n:Nat}{z:List AV}{ps:List (Nat×Nat×O)}:opK qV (.buildS n z ps) t h k↔evL (List.replicate n z).flatten (λcs=>qai t ps cs (λcs=>vg h (.cells 0 true false cs) (λb h'=>k (.sl b 0 n n false) h'))):=by
 show ql2 z n _↔_;rw[qeN];exact Bt
def qzd{x:O}:opK qV (.load1 x) t h k↔evK t x (λp=>ldV h p (λv=>k v h)):=Iff.rfl
def qze{n:Nat}{x:O}:opK qV (.loadN n x) t h k↔evK t x (λp=>qlZ h p n (λcs=>k (.agg cs) h)):=Iff.rfl
def qzg{n:Nat}{x v:O}:opK qV (.store n x v) t h k↔evK t x (λp=>unP p (λb o=>evK t v (λv=>stV h b o v n (λh'=>k .undef h')))):=Iff.rfl
def qlQ(v:AV)(k:AV->Prop):Prop:=match v with | .ptr b o=>k (.ptr b o) | .fn f a c=>k (.fn f a c) | .map r=>k (.map r) | .pf cs o=>k (.pf cs o) | .yl b=>k (.yl b)|_=>False
@[congr] theorem qD1 {v:AV}{k:AV->Prop}{mk:Prop}(_:zD=mk):qlQ v k=qlQ v k:=rfl
theorem qvJ{x:O}:opK qV (.nilChk x) t h k↔evK t x (λv=>qlQ v (λv=>k v h)):=by
 show evK t x (λv=>_)↔_
 refine iff_of_eq (congrArg _ (funext λv=>?_))
 cases v<;>rfl
def qGP{op:BinOp}{x y:O}:opK qV (.bin op x y) t h k↔evK t x (λx=>evK t y (λy=>x9 qV op x y (λv=>k v h))):=Iff.rfl
def qGR{neg:Bool}{x y:O}:opK qV (.eqB neg x y) t h k↔evK t x (λx=>evK t y (λy=>unB x (λx=>unB y (λy=>evT (xor neg (x==y)) (λr=>k (.b r) h))))):=by
 show evK t x (λx=>evK t y (λy=>unB x (λx=>unB y (λy=>zl _ _))))↔_
 simp only[qk1]
def qGS{neg:Bool}{q:NK}{x:O}:opK qV (.eqN neg q x) t h k↔evK t x (λx=>wA q x (λr=>evT (xor neg r) (λr=>k (.b r) h))):=by
 show evK t x (λx=>wA q x (λr=>zl _ _))↔_
 grind[qk1]
def qKz{op:UnOp}{x:O}:opK qV (.un op x) t h k↔evK t x (λx=>qfq op x (λv=>k v h)):=Iff.rfl
def qzb{q:IntKind}{x:O}:opK qV (.cvInt q x) t h k↔evK t x (λx=>cvK qV q x (λv=>k v h)):=Iff.rfl
@[congr] theorem qH8 {q:IntKind}{x:AV}{k:AV->Prop}{mk:Prop}(_:zD=mk):cvK qV q x k=cvK qV q x k:=rfl
theorem qzc{off:Nat}{x:O}:opK qV (.fAddr off x) t h k↔evK t x (λp=>qjr p off (λv=>k v h)):=Iff.rfl
def qxL(off:Nat)(n:Option Nat)(x:AV)(k:AV->Prop):Prop:=match x with
 | .agg cs=>(match n with|none=>evO cs[off]? k|some n=>qhk cs off n (λl=>k (.agg l)))
 | _=>False
@[congr] theorem qFG {off:Nat}{n:Option Nat}{x:AV}{k:AV->Prop}{mk:Prop}(_:zD=mk):qxL off n x k=qxL off n x k:=rfl
theorem qxM{off:Nat}{cs:List AV}{k:AV->Prop}:qxL off none (.agg cs) k↔evO cs[off]? k:=Iff.rfl
def qxN{off n:Nat}{cs:List AV}{k:AV->Prop}:qxL off (some n) (.agg cs) k↔qhk cs off n (λl=>k (.agg l)):=Iff.rfl
def qGU{off:Nat}{n:Option Nat}{x:O}:opK qV (.fld off n x) t h k↔evK t x (λx=>qxL off n x (λv=>k v h)):=by
 refine Ik ?_
 refine iff_of_eq (congrArg _ (funext λv=>?_))
 cases v<;>first|rfl|skip
 cases n with
 | none=>exact propext (wn _ _ _)
 | some n=>exact propext drop_take
def qvH{len esz:Nat}{x i:O}:opK qV (.iAddrA len esz x i) t h k↔evK t x (λp=>evK t i (λi=>unN i (λi=>ifK (i<len) (evN (i*esz) (λo=>qjr p o (λv=>k v h)))))):=by
 show evK t x (λp=>evK t i (λi=>unN i (λi=>qv (Nat.ble (Nat.succ i) len) _)))↔_
 simp only[qf,vk];exact Bt
def ixK(esz:Nat)(x:AV)(i:Nat)(k:AV->Prop):Prop:=match x with
 | .sl b o len _ _=>ifK (i<len) (evN (o+i*esz) (λo'=>k (.ptr b o')))
 | .fz len cs=>ifK (i<len) (evN (i*esz) (λo'=>k (.pf cs o')))
 | .own b len=>ifK (i<len) (evN (i*esz) (λo'=>k (.ptr b o')))
 | _=>False
@[congr] theorem qIl {esz i:Nat}{x:AV}{k:AV->Prop}{mk:Prop}(_:zD=mk):ixK esz x i k=ixK esz x i k:=rfl
theorem qJ3{esz i b o len cap:Nat}{l:Bool}{k:AV->Prop}:ixK esz (.sl b o len cap l) i k↔ifK (i<len) (evN (o+i*esz) (λo'=>k (.ptr b o'))):=Iff.rfl
def qJ2{esz i len:Nat}{cs:List AV}{k:AV->Prop}:ixK esz (.fz len cs) i k↔ifK (i<len) (evN (i*esz) (λo'=>k (.pf cs o'))):=Iff.rfl
def qFX{esz i b len:Nat}{k:AV->Prop}:ixK esz (.own b len) i k↔ifK (i<len) (evN (i*esz) (λo'=>k (.ptr b o'))):=Iff.rfl
def qox(x:AV)(p:Prop):Prop:=match x with | .sl _ _ _ _ _=>p | .fz _ _=>p | .own _ _=>p|_=>False
@[congr] theorem qDR {x:AV}{p:Prop}{mk:Prop}(_:zD=mk):qox x p=qox x p:=rfl
theorem qyg{b o len cap:Nat}{l:Bool}{p:Prop}:qox (.sl b o len cap l) p↔p:=Iff.rfl
def qyf{len:Nat}{cs:List AV}{p:Prop}:qox (.fz len cs) p↔p:=Iff.rfl
def qvh{b len:Nat}{p:Prop}:qox (.own b len) p↔p:=Iff.rfl
def qvI{esz:Nat}{x i:O}:opK qV (.iAddrS esz x i) t h k↔evK t x (λx=>qox x (evK t i (λi=>unN i (λi=>ixK esz x i (λv=>k v h))))):=by
 refine Ik ?_
 refine iff_of_eq (congrArg _ (funext λv=>?_))
 cases v<;>first|rfl|(simp only[qf,vk,jK];rfl)
def qCo{len esz:Nat}{agg:Bool}{x i:O}:opK qV (.idxA len esz agg x i) t h k↔evK t x (λx=>match x with
  | .agg cs=>evK t i (λi=>unN i (λi=>ifK (i<len) (evN (i*esz) (λo=>if agg=true then qhk cs o esz (λl=>k (.agg l) h)else evO cs[o]? (λv=>k v h)))))
  | _=>False):=by
 refine Ik ?_
 refine iff_of_eq (congrArg _ (funext λv=>?_))
 cases v<;>first|rfl|skip
 simp only[qf,vk,jK,qfN,drop_take];have:∀(cs:List AV) (o:Nat),qjt cs o (λv=>k v h)=evO cs[o]? (λv=>k v h):=λcs o=>propext (wn _ _ _)
 simp only[this];rfl
def evC(o:Option UInt8)(k:UInt8->Prop):Prop:=∃v,o=some v/\k v
@[congr] theorem qIc {o o':Option UInt8}{k:UInt8->Prop}{mk:Prop}(_:zD=mk) (h:o=o'):evC o k=evC o' k:=Ii
theorem qqH{v:UInt8}{k:UInt8->Prop}:evC (some v) k↔k v:=by simp[evC]
def qCp{x i:O}:opK qV (.idxS x i) t h k↔evK t x (λx=>match x with
  | .s a=>evK t i (λi=>unN i (λi=>evC a[i]? (λc=>k (.i .u8 (c.toNat:Int)) h)))
  | _=>False):=by
 refine Ik ?_
 refine iff_of_eq (congrArg _ (funext λv=>?_))
 cases v<;>first|rfl|skip
 rename_i a
 have e:∀(j:Nat),(Option.rec (motive:=λ_=>Prop) False (λc=>k (.i .u8 (Int.ofNat c.toNat)) h) (a[j]?):Prop)=evC a[j]? (λc=>k (.i .u8 (c.toNat:Int)) h):=by
  intro j;cases ha:a[j]? with
  | none=>exact propext ⟨False.elim,fun⟨_,h1,_⟩=>by cases h1⟩
  | some c=>exact(propext (qqH (k:=λc=>k (.i .u8 (c.toNat:Int)) h) (v:=c))).symm
 exact Ae
def bdK(x:Option AV)(dflt top:Nat)(k:Nat->Prop):Prop:=qjM x dflt top k
@[congr] theorem qH1 {x:Option AV}{a b:Nat}{k:Nat->Prop}{mk:Prop}(_:zD=mk):bdK x a b k=bdK x a b k:=rfl
theorem ql6{a b:Nat}{k:Nat->Prop}:bdK none a b k↔k a:=Iff.rfl
def qsW{v:AV}{a b:Nat}{k:Nat->Prop}:bdK (some v) a b k↔unN v (λn=>ifK (n<=b) (k n)):=by
 show unN v (λn=>qv (Nat.ble n b) (qE n k))↔_
 simp only[qf,vk,qO];exact Bt
def qAR{len cap:Nat}{lo:Option AV}{k:Nat->Nat->Nat->Prop}:xG len cap lo none none k↔ifK (len<=cap) (bdK lo 0 len (λl=>k l len cap)):=by
 show qv (Nat.ble len cap) (qjM lo 0 len (λl=>k l len cap))↔_
 rw[qf,vk];exact Bt
def qsY{len cap:Nat}{lo:Option AV}{hi:AV}{k:Nat->Nat->Nat->Prop}:xG len cap lo (some hi) none k↔unN hi (λu=>ifK (u<=cap) (bdK lo 0 u (λl=>k l u cap))):=by
 show unN hi (λu=>qv (Nat.ble u cap) (qE u (λu=>qjM lo 0 u (λl=>k l u cap))))↔_
 simp only[qf,vk,qO];exact Bt
def ql8{len cap:Nat}{lo:Option AV}{hi mx:AV}{k:Nat->Nat->Nat->Prop}:xG len cap lo (some hi) (some mx) k↔unN mx (λm=>ifK (m<=cap) (unN hi (λu=>ifK (u<=m) (bdK lo 0 u (λl=>k l u m))))):=by
 show unN mx (λm=>qv (Nat.ble m cap) (qE m (λm=>unN hi (λu=>qv (Nat.ble u m) (qE u (λu=>qjM lo 0 u (λl=>k l u m)))))))↔_
 simp only[qf,vk,qO];exact Bt
def slK(esz:Nat)(lo hi mx:Option AV)(x:AV)(h:Hp)(k:AV->Prop):Prop:=match x with
 | .nils=>xG 0 0 lo hi mx (λ_ _ _=>k .nils)
 | .e0=>xG 0 0 lo hi mx (λ_ _ _=>k .e0)
 | .fz n cs=>xG n n lo hi mx (λl h' m=>if(mx.isSome&&Nat.beq m l)=true then k .e0 else evN (l*esz) (λo=>evN (h'-l) (λlen'=>evN (len'*esz) (λz=>qhk cs o z (λl2=>k (.fz len' l2))))))
 | .sl b o len cap loose=>xG len cap lo hi mx (λl h' m=>evN (if(loose&&mx.isNone)=false/\m=l then o else o+l*esz) (λo'=>evN (h'-l) (λlen'=>evN (m-l) (λcap'=>qlV h b esz (loose&&mx.isNone) (k (.sl b o' len' cap' (loose&&mx.isNone)))))))
 | .own b n=>match mx with
  | none=>if n=0 then xG 0 0 lo hi none (λ_ _ _=>k (.own b 0))else xG n n lo hi none (λl h' m=>evN (l*esz) (λo'=>evN (h'-l) (λlen'=>evN (m-l) (λcap'=>qlV h b esz true (k (.sl b o' len' cap' true))))))
  | some u=>if n=0 then xG 0 0 lo hi (some u) (λ_ _ _=>k (.own b 0))else xG n n lo hi (some u) (λl h' m=>evN (if m=l then 0 else l*esz) (λo'=>evN (h'-l) (λlen'=>evN (m-l) (λcap'=>k (.sl b o' len' cap' false)))))
 | _=>False
@[congr] theorem qID {esz:Nat}{lo hi mx:Option AV}{x:AV}{k:AV->Prop}{mk:Prop}(_:zD=mk):slK esz lo hi mx x h k=slK esz lo hi mx x h k:=rfl
@[congr] theorem qFw {b esz:Nat}{c:Bool}{p:Prop}{mk:Prop}(_:zD=mk):qlV h b esz c p=qlV h b esz c p:=rfl
theorem quX{b esz:Nat}{p:Prop}:qlV h b esz false p↔p:=Iff.rfl
def qxA{b esz:Nat}{p:Prop}:qlV h b esz true p↔evB (h.tr.get b) (λx=>qbp x (λe _ _ _=>ifK (e=esz) p)):=by
 show qas h b (λe _ _ _=>qv (Nat.beq e esz) p)↔_
 rw[qip];simp only[qf,qim];exact Bt
def qC7{esz:Nat}{lo hi mx:Option AV}{k:AV->Prop}:slK esz lo hi mx .nils h k↔xG 0 0 lo hi mx (λ_ _ _=>k .nils):=Iff.rfl
def qKL{esz:Nat}{lo hi mx:Option AV}{k:AV->Prop}:slK esz lo hi mx .e0 h k↔xG 0 0 lo hi mx (λ_ _ _=>k .e0):=Iff.rfl
def qKM{esz n:Nat}{cs:List AV}{lo hi:Option AV}{k:AV->Prop}:slK esz lo hi none (.fz n cs) h k↔xG n n lo hi none (λl h' _=>evN (l*esz) (λo=>evN (h'-l) (λlen'=>evN (len'*esz) (λz=>qhk cs o z (λl2=>k (.fz len' l2)))))):=by
 simp only[slK,Option.isSome_none,Bool.false_and,Bool.false_eq_true,if_false]
def qHx{esz b o len cap:Nat}{lo hi mx:Option AV}{k:AV->Prop}:slK esz lo hi mx (.sl b o len cap false) h k↔xG len cap lo hi mx (λl1 h' m=>evN (if m=l1 then o else o+l1*esz) (λo'=>evN (h'-l1) (λlen'=>evN (m-l1) (λcap'=>k (.sl b o' len' cap' false))))):=by
 simp only[slK,Bool.false_and,true_and];exact Bt
def qHy{esz b o len cap:Nat}{lo hi:Option AV}{k:AV->Prop}:slK esz lo hi none (.sl b o len cap true) h k↔xG len cap lo hi none (λl1 h' m=>evN (o+l1*esz) (λo'=>evN (h'-l1) (λlen'=>evN (m-l1) (λcap'=>qlV h b esz true (k (.sl b o' len' cap' true)))))):=by
 simp only[slK,Option.isNone_none,Bool.and_self,Bool.true_eq_false,false_and,if_false]
def qHw{esz b n:Nat}{lo hi:Option AV}{k:AV->Prop}:slK esz lo hi none (.own b n) h k↔if n=0 then xG 0 0 lo hi none (λ_ _ _=>k (.own b 0))else xG n n lo hi none (λl h' m=>evN (l*esz) (λo'=>evN (h'-l) (λlen'=>evN (m-l) (λcap'=>qlV h b esz true (k (.sl b o' len' cap' true)))))):=Bt
def qCs{esz:Nat}{x:O}{lo hi mx:Option O}:opK qV (.slcS esz x lo hi mx) t h k↔evK t x (λx=>qbg t lo (λlo=>qbg t hi (λhi=>qbg t mx (λmx=>slK esz lo hi mx x h (λv=>k v h))))):=by
 refine Ik ?_
 refine iff_of_eq (congrArg _ (funext λv=>congrArg _ (funext λlo=>congrArg _ (funext λhi=>congrArg _ (funext λmx=>?_)))))
 cases v<;>first|rfl|skip
 .simp only[slK,jK];rfl
 .have e:∀(cs:List AV) (o m:Nat),qdX o cs (λl1=>evN m (λlen'=>qdD (Nat.mul len' esz) l1 (λl2=>k (.fz len' l2) h)))=evN m (λlen'=>evN (len'*esz) (λz=>qhk cs o z (λl2=>k (.fz len' l2) h))):=by
   intro cs o m;refine propext ⟨λhh=>?_,λhh=>?_⟩
   .obtain⟨h1,h2⟩:=(xo _ _ _).1 hh;obtain⟨h3,h4⟩:=(xe _ _ _).1 h2;exact⟨h1,h3,h4⟩
   .obtain⟨h1,h3,h4⟩:=hh;exact(xo _ _ _).2 ⟨h1,(xe _ _ _).2 ⟨h3,h4⟩⟩
  simp only[slK,jK,qfN,e];rfl
 .rename_i b n;cases mx with
  | some m =>
   cases n with
   | zero=>simp only[slK,if_true];rfl
   | succ n=>simp only[slK,Nat.succ_ne_zero,if_false,jK];rfl
  | none =>
   cases n with
   | zero=>simp only[slK,if_true];rfl
   | succ n=>simp only[slK,Nat.succ_ne_zero,if_false,jK];rfl
def qvK{x:O}{lo hi:Option O}:opK qV (.slcStr x lo hi) t h k↔evK t x (λx=>qbg t lo (λlo=>qbg t hi (λhi=>match x with
  | .s a=>xG a.length a.length lo hi none (λl h' _=>evA (.s ((a.take h').drop l)) (λv=>k v h))
  | _=>False))):=Iff.rfl
def qCr{len esz:Nat}{x:O}{lo hi mx:Option O}:opK qV (.slcA len esz x lo hi mx) t h k↔evK t x (λp=>unP p (λb o=>qbg t lo (λlo=>qbg t hi (λhi=>qbg t mx (λmx =>
   xG len len lo hi mx (λl h' m=>evN (if m=l then o else o+l*esz) (λo'=>evN (h'-l) (λlen'=>evN (m-l) (λcap'=>k (.sl b o' len' cap' false) h))))))))):=by
 show evK t x (λp=>unP p (λb o=>qbg t lo (λlo=>qbg t hi (λhi=>qbg t mx (λmx=>xG len len lo hi mx (λl h' m=>qE (if m=l then o else Nat.add o (Nat.mul l esz)) _))))))↔_
 simp only[jK];exact Ae
def qGT{x:O}{i:Nat}:opK qV (.ext x i) t h k↔evK t x (λx=>match x with | .tup cs=>evO cs[i]? (λv=>k v h)|_=>False):=by
 refine Ik ?_
 refine iff_of_eq (congrArg _ (funext λv=>?_))
 cases v<;>first|rfl|exact propext (wn _ _ _)
def qGY{f:Nat}{a c:List O}:opK qV (.mkF f a c) t h k↔qaq t a (λa=>qaq t c (λc=>k (.fn f a c) h)):=Iff.rfl
def qG0{e bytes:Nat}{z:List AV}{len cap:O}:opK qV (.mkS e bytes z len cap) t h k↔evK t len (λlen=>evK t cap (λcap=>unN len (λl=>unN cap (λc=>ifK (l<=c) (ifK (c<=qe) (ifK (bytes*c<=qe) (evL (List.replicate c z).flatten (λcs=>vg h (.cells 0 true false cs) (λb h'=>k (.sl b 0 l c false) h'))))))))):=by
 show evK t len (λlen=>evK t cap (λcap=>unN len (λl=>unN cap (λc=>qv (Nat.ble l c) (qv (Nat.ble c qe) (qv (Nat.ble (Nat.mul bytes c) qe) (ql2 z c _)))))))↔_
 simp only[qf,vk,qeN];exact Bt
def lnK(str:Bool)(x:AV)(k:AV->Prop):Prop:=match x,str with
 | .nils,false=>k (.i .i64 0)
 | .e0,false=>k (.i .i64 0)
 | .nz,false=>k (.i .i64 0)
 | .fz n _,false=>evA (.i .i64 (n:Int)) k
 | .own _ n,false=>evA (.i .i64 (n:Int)) k
 | .sl _ _ n _ _,false=>evA (.i .i64 (n:Int)) k
 | .s a,true=>evA (.i .i64 (a.length:Int)) k
 | _,_=>False
@[congr] theorem qIp {b:Bool}{x:AV}{k:AV->Prop}{mk:Prop}(_:zD=mk):lnK b x k=lnK b x k:=rfl
theorem qGV{str:Bool}{x:O}:opK qV (.len str x) t h k↔evK t x (λx=>lnK str x (λv=>k v h)):=by
 refine Ik ?_
 refine iff_of_eq (congrArg _ (funext λv=>?_))
 cases v<;>cases str<;>first|rfl|exact qO _ _
def qBZ{k:AV->Prop}:lnK false .nils k↔k (.i .i64 0):=Iff.rfl
def qKc{k:AV->Prop}:lnK false .nz k↔k (.i .i64 0):=Iff.rfl
def qKa{k:AV->Prop}:lnK false .e0 k↔k (.i .i64 0):=Iff.rfl
def qKb{n:Nat}{cs:List AV}{k:AV->Prop}:lnK false (.fz n cs) k↔evA (.i .i64 (n:Int)) k:=Iff.rfl
def qGa{b n:Nat}{k:AV->Prop}:lnK false (.own b n) k↔evA (.i .i64 (n:Int)) k:=Iff.rfl
def qKd{b o n c:Nat}{l:Bool}{k:AV->Prop}:lnK false (.sl b o n c l) k↔evA (.i .i64 (n:Int)) k:=Iff.rfl
def qLY{a:List UInt8}{k:AV->Prop}:lnK true (.s a) k↔evA (.i .i64 (a.length:Int)) k:=Iff.rfl
def qGO{esz bytes:Nat}{c:Bool}{s x:O}:opK qV (.app esz bytes c s x) t h k↔evK t s (λs=>evK t x (λx=>qiH h esz bytes c s x k)):=Iff.rfl
def qAz(esz bytes:Nat)(z:List AV)(h:Hp)(s:AV)(n:Nat)(k:AV->Hp->Prop):Prop:=match s with
  | .sl b o len cap false=>evN (len+n) (λneed=>ifK (cap<need) (ifK (need<=qe) (ifK (need*bytes<=qe) (evN (len*esz) (λm=>qfG h b o m (λold=>evL (old++(List.replicate n z).flatten) (λcs=>vg h (.cells esz true true cs) (λb' h'=>k (.own b' need) h'))))))))
  | .nils=>ifK (1<=n) (ifK (n<=qe) (ifK (n*bytes<=qe) (evL ((List.replicate n z).flatten) (λcs=>vg h (.cells esz true true cs) (λb' h'=>k (.own b' n) h')))))
  | _=>False
@[congr] theorem qEJ {esz bytes n:Nat}{z:List AV}{s:AV}{mk:Prop}(_:zD=mk):qAz esz bytes z h s n k=qAz esz bytes z h s n k:=rfl
theorem qEK{esz bytes b o len cap n:Nat}{z:List AV}:qAz esz bytes z h (.sl b o len cap false) n k↔evN (len+n) (λneed=>ifK (cap<need) (ifK (need<=qe) (ifK (need*bytes<=qe) (evN (len*esz) (λm=>qfG h b o m (λold=>evL (old++(List.replicate n z).flatten) (λcs=>vg h (.cells esz true true cs) (λb' h'=>k (.own b' need) h')))))))):=Iff.rfl
def qwz{esz bytes n:Nat}{z:List AV}:qAz esz bytes z h .nils n k↔ifK (1<=n) (ifK (n<=qe) (ifK (n*bytes<=qe) (evL ((List.replicate n z).flatten) (λcs=>vg h (.cells esz true true cs) (λb' h'=>k (.own b' n) h'))))):=Iff.rfl
def quM{esz:Nat}{s:AV}:qok h esz .nils s k↔qc5 h esz s (λ_ _=>k (.i .i64 0) h):=Iff.rfl
def qBb{esz b o len c:Nat}{l:Bool}{s:AV}:qok h esz (.sl b o len c l) s k↔qc5 h esz s (λn new=>evN (min n len) (λm=>evN (m*esz) (λz=>qhk new 0 z (λcs=>stK h b o cs (λh'=>evA (.i .i64 (m:Int)) (λv=>k v h')))))):=by
 show qc5 h esz s (λn new=>qE (min n len) (λm=>qdD (Nat.mul m esz) new (λcs=>stK h b o cs (λh'=>k (.i .i64 (Int.ofNat m)) h'))))↔_
 simp only[jK];refine iff_of_eq (congrArg _ (funext λn=>funext λnew=>congrArg _ (funext λm=>propext ?_)))
 exact(xe _ _ _).trans ⟨λhh=>⟨zzu _,by simpa[evA]using hh⟩,λhh=>by simpa[evN,qhk,evA]using hh⟩
def qGX{x y:O}:opK qV (.min x y) t h k↔evK t x (λx=>evK t y (λy=>unI x (λq n=>unI y (λ_ m=>evA (.i q (if m<n then m else n)) (λv=>k v h))))):=by
 have e:∀(q:IntKind) (n m:Int),(Bool.rec (motive:=λ_=>Prop) (k (.i q n) h) (k (.i q m) h) (ltI m n):Prop)=evA (.i q (if m<n then m else n)) (λv=>k v h):=by
  intro q n m;rw[qdQ]
  by_cases hlt:m<n
  .rw[decide_eq_true hlt,if_pos hlt];rfl
  .rw[decide_eq_false hlt,if_neg hlt];rfl
 show evK t x (λx=>evK t y (λy=>unI x (λq n=>unI y (λ_ m=>Bool.rec (motive:=λ_=>Prop) (k (.i q n) h) (k (.i q m) h) (ltI m n)))))↔_
 exact Ae
def qGW{x y:O}:opK qV (.max x y) t h k↔evK t x (λx=>evK t y (λy=>unI x (λq n=>unI y (λ_ m=>evA (.i q (if n<m then m else n)) (λv=>k v h))))):=by
 have e:∀(q:IntKind) (n m:Int),(Bool.rec (motive:=λ_=>Prop) (k (.i q n) h) (k (.i q m) h) (ltI n m):Prop)=evA (.i q (if n<m then m else n)) (λv=>k v h):=by
  intro q n m;rw[qdQ]
  by_cases hlt:n<m
  .rw[decide_eq_true hlt,if_pos hlt];rfl
  .rw[decide_eq_false hlt,if_neg hlt];rfl
 show evK t x (λx=>evK t y (λy=>unI x (λq n=>unI y (λ_ m=>Bool.rec (motive:=λ_=>Prop) (k (.i q n) h) (k (.i q m) h) (ltI n m)))))↔_
 exact Ae
def qsd(z:List AV)(x:AV)(h:Hp)(k:AV->Hp->Prop):Prop:=match x with
  | .nils=>k (.tup []) h
  | .sl b o n _ _=>if n=0 then k (.tup []) h else evL (List.replicate n z).flatten (λcs=>stK h b o cs (λh'=>k (.tup []) h'))
  | _=>False
@[congr] theorem qFe {z:List AV}{x:AV}{mk:Prop}(_:zD=mk):qsd z x h k=qsd z x h k:=rfl
theorem qxi{z:List AV}:qsd z .nils h k↔k (.tup []) h:=Iff.rfl
def qFf{z:List AV}{b o n c:Nat}{l:Bool}:qsd z (.sl b o n c l) h k↔if n=0 then k (.tup []) h else evL (List.replicate n z).flatten (λcs=>stK h b o cs (λh'=>k (.tup []) h')):=Iff.rfl
def qza{z:List AV}{x:O}:opK qV (.clear z x) t h k↔evK t x (λx=>qsd z x h k):=by
 refine Ik ?_
 refine iff_of_eq (congrArg _ (funext λv=>?_))
 cases v<;>first|rfl|skip
 rename_i b o n c l;cases n with
 | zero=>simp only[qsd,if_true];rfl
 | succ n=>simp only[qsd,qeN];rfl
def qGZ:opK qV .mkM t h k↔vg h (.map []) (λb h'=>k (.map b) h'):=Iff.rfl
def qvL{n:Nat}{x v:O}{ps:List Nat}:opK qV (.storeD n x v ps) t h k↔evK t x (λp=>unP p (λb o=>jN t b ps (evK t v (λv=>stV h b o v n (λh'=>k .undef h'))))):=Iff.rfl
def qCn{esz bytes:Nat}{s x:O}{ps:List Nat}:opK qV (.appD esz bytes s x ps) t h k↔evK t s (λs=>evK t x (λx=>qbF t ps s (qiH h esz bytes true s x k))):=Iff.rfl
@[congr] theorem qC1 {ps:List Nat}{s s':AV}{p:Prop}{mk:Prop}(_:zD=mk) (h':s=s'):qbF t ps s p=qbF t ps s' p:=by rw[h']
theorem qC2{ps:List Nat}{b m:Nat}{p:Prop}:qbF t ps (.own b m) p↔jN t b ps p:=Iff.rfl
def qHr{ps:List Nat}{b o m c:Nat}{l:Bool}{p:Prop}:qbF t ps (.sl b o m c l) p↔jN t b ps p:=Iff.rfl
def qHq{ps:List Nat}{m:Nat}{cs:List AV}{p:Prop}:qbF t ps (.fz m cs) p↔p:=Iff.rfl
def qzS{ps:List Nat}{p:Prop}:qbF t ps .nils p↔p:=Iff.rfl
def qHp{ps:List Nat}{p:Prop}:qbF t ps .e0 p↔p:=Iff.rfl
@[congr] theorem qAx {b:Nat}{ps:List Nat}{p:Prop}{mk:Prop}(_:zD=mk):jN t b ps p=jN t b ps p:=rfl
theorem quq{b:Nat}{p:Prop}:jN t b [] p↔p:=Iff.rfl
def neK(b:Nat)(y:AV)(p:Prop):Prop:=match y with | .ptr b' _=>ifK (¬b'=b) p | .pf _ _=>p|_=>False
@[congr] theorem qIu {b:Nat}{y:AV}{p:Prop}{mk:Prop}(_:zD=mk):neK b y p=neK b y p:=rfl
theorem qGp{b b' o:Nat}{p:Prop}:neK b (.ptr b' o) p↔ifK (¬b'=b) p:=Iff.rfl
def qKj{b o:Nat}{cs:List AV}{p:Prop}:neK b (.pf cs o) p↔p:=Iff.rfl
def qr1{b q:Nat}{ps:List Nat}{p:Prop}:jN t b (q::ps) p↔evO (t.get q) (λy=>neK b y (jN t b ps p)):=by
 refine(Tr.getK_iff _ _ _).trans (iff_of_eq (congrArg _ (funext λv=>?_)))
 refine congrArg _ ?_;cases v<;>first|rfl|skip
 rename_i b' o;refine propext ((qf _ _).trans ?_);show _/\_↔_/\_
 have:(!Nat.beq b' b)=true↔¬b'=b:=by
  rw[Bool.not_eq_true',<- Bool.not_eq_true,qim]
 rw[this];exact Bt
def cpK(x:AV)(k:AV->Prop):Prop:=match x with
  | .nils=>k (.i .i64 0)
  | .e0=>k (.i .i64 0)
  | .sl _ _ _ c false=>evA (.i .i64 (c:Int)) k
  | _=>False
@[congr] theorem qH6 {x:AV}{k:AV->Prop}{mk:Prop}(_:zD=mk):cpK x k=cpK x k:=rfl
theorem qBc{k:AV->Prop}:cpK .nils k↔k (.i .i64 0):=Iff.rfl
def qJE{k:AV->Prop}:cpK .e0 k↔k (.i .i64 0):=Iff.rfl
def qJF{b o n c:Nat}{k:AV->Prop}:cpK (.sl b o n c false) k↔evA (.i .i64 (c:Int)) k:=Iff.rfl
def qxF{l:List AV}{k:List AV->Prop}:qai t [] l k↔k l:=Iff.rfl
def qu3{off m:Nat}{x:O}{ps:List (Nat×Nat×O)}{l:List AV}{k:List AV->Prop}:qai t ((off,m,x)::ps) l k↔evK t x (λv=>ifK (qdJ v=true) (evL (cellsOf v) (λcs=>ifK (cs.length=m/\off+cs.length<=l.length) (evL (l.take off++(cs++l.drop (off+cs.length))) (λl=>qai t ps l k))))):=by
 show evK t x (λv=>qv (qdJ v) (qE off (λoff=>qiJ (cellsOf v) (λn=>qv (Nat.beq n m) (wH (cellsOf v) off l (λl'=>qai t ps l' k))))))↔_
 simp only[qf,qO,ka,vj,qim,ifK,evL,and_assoc]
def qzX{esz:Nat}{k:Nat->List AV->Prop}:qc5 h esz .nils k↔k 0 []:=Iff.rfl
def qHE{esz:Nat}{k:Nat->List AV->Prop}:qc5 h esz .nz k↔k 0 []:=Iff.rfl
def qHC{esz:Nat}{k:Nat->List AV->Prop}:qc5 h esz .e0 k↔k 0 []:=Iff.rfl
def qHG{esz b o n c:Nat}{l:Bool}{k:Nat->List AV->Prop}:qc5 h esz (.sl b o n c l) k↔evN (n*esz) (λm=>qfG h b o m (λcs=>k n cs)):=Iff.rfl
def qDa{esz b n:Nat}{k:Nat->List AV->Prop}:qc5 h esz (.own b n) k↔evN (n*esz) (λm=>qfG h b 0 m (λcs=>k n cs)):=Iff.rfl
def qHD{esz n:Nat}{cs:List AV}{k:Nat->List AV->Prop}:qc5 h esz (.fz n cs) k↔evN (n*esz) (λm=>qhk cs 0 m (λcs=>k n cs)):=by
 refine(xe _ _ _).trans ⟨λhh=>⟨zzu _,Ae⟩,λhh=>by simpa[evN,qhk]using hh⟩
def qKP{esz:Nat}{a:List UInt8}{k:Nat->List AV->Prop}:qc5 h esz (.s a) k↔ifK (esz=1) (k a.length (a.map λc=>.i .u8 (Int.ofNat c.toNat))):=by
 show qv (Nat.beq esz 1) (qE a.length _)↔_;rw[qf,qim,qO];exact Bt
def qwx{esz bytes:Nat}{c:Bool}{x:AV}:qiH h esz bytes c .nils x k↔qc5 h esz x (λn new=>ifK (n<=qe) (ifK (n*bytes<=qe) (vg h (.cells esz true true new) (λb h'=>k (.own b n) h')))):=by
 refine Ho ?_;exact Bt
def qEG{esz bytes:Nat}{c:Bool}{x:AV}:qiH h esz bytes c .e0 x k↔qc5 h esz x (λn new=>ifK (n<=qe) (ifK (n*bytes<=qe) (vg h (.cells esz true true new) (λb h'=>k (.own b n) h')))):=by
 refine Ho ?_;exact Bt
def qAy{esz bytes b m:Nat}{x:AV}:qiH h esz bytes true (.own b m) x k↔qc5 h esz x (λn new=>evN (m+n) (λneed=>ifK (need<=qe) (ifK (need*bytes<=qe) (evB (h.tr.get b) (λy=>qbp y (λe w a ys =>
  ifK (qQ new=true/\w=true/\a=true/\e=esz/\ys.length=m*esz) (evL (ys++new) (λcs'=>qd9 h b .dead (λh1=>vg h1 (.cells esz true true cs') (λb' h'=>k (.own b' need) h')))))))))):=by
 show qc5 h esz x (λn new=>qE (Nat.add m n) (λneed=>qv (Nat.ble need qe) (qv (Nat.ble (Nat.mul need bytes) qe) (qas h b (λe w a ys=>_)))))↔_
 simp only[jK,qf,vk,qim,qip,ka,qa7];refine iff_of_eq (congrArg _ (funext λn=>funext λnew=>?_))
 simp only[ifK,evN,evL,and_assoc];rfl
def qEI{esz bytes b o len cap:Nat}{c:Bool}{x:AV}:qiH h esz bytes c (.sl b o len cap false) x k↔qc5 h esz x (λn new=>evN (len+n) (λneed=>if need<=cap then
  (if n=0 then k (.sl b o need cap false) h else evN (o+len*esz) (λat_=>stK h b at_ new (λh'=>k (.sl b o need cap false) h')))
  else ifK (need<=qe) (ifK (need*bytes<=qe) (evN (len*esz) (λm=>qfG h b o m (λold=>evL (old++new) (λcs=>vg h (.cells esz true true cs) (λb' h'=>k (.own b' need) h')))))))):=by
 have e:∀(n:Nat) (p q:Prop),(Nat.rec (motive:=λ_=>Prop) p (λ_ _=>q) n:Prop)↔if n=0 then p else q:=by
  intro n p q;cases n with
  | zero=>rw[if_pos rfl];exact Bt
  | succ n=>rw[if_neg Ab]
 unfold qiH;dsimp only;simp only[Bool.not_false,jK,que,vk,qfN,qa7,e,qq4];exact Bt
def qEH{esz bytes m:Nat}{c:Bool}{cs:List AV}{x:AV}:qiH h esz bytes c (.fz m cs) x k↔qc5 h esz x (λn _=>ifK (n=0) (k (.fz m cs) h)):=by
 show qc5 h esz x (λn _=>Nat.rec (motive:=λ_=>Prop) (k (.fz m cs) h) (λ_ _=>False) n)↔_
 refine iff_of_eq (congrArg _ (funext λn=>funext λnew=>?_))
 cases n<;>simp[ifK];rfl
def qyY{k:Bool->Prop}:wA .ptr .nilp k↔k true:=Iff.rfl
def qCa{b o:Nat}{k:Bool->Prop}:wA .ptr (.ptr b o) k↔k false:=Iff.rfl
def qGw{cs:List AV}{o:Nat}{k:Bool->Prop}:wA .ptr (.pf cs o) k↔k false:=Iff.rfl
def qGv{k:Bool->Prop}:wA .slice .nz k↔k false:=Iff.rfl
def qyZ{k:Bool->Prop}:wA .slice .nils k↔k true:=Iff.rfl
def qGx{b o n c:Nat}{l:Bool}{k:Bool->Prop}:wA .slice (.sl b o n c l) k↔k false:=Iff.rfl
def qGu{n:Nat}{cs:List AV}{k:Bool->Prop}:wA .slice (.fz n cs) k↔ifK (1<=n) (k false):=by
 show qv (Nat.ble 1 n) (k false)↔_;rw[qf,vk];exact Bt
def qB9{b n:Nat}{k:Bool->Prop}:wA .slice (.own b n) k↔ifK (1<=n) (k false):=by
 show qv (Nat.ble 1 n) (k false)↔_;rw[qf,vk];exact Bt
def qyW{k:Bool->Prop}:wA .func .nilf k↔k true:=Iff.rfl
def qGt{f:Nat}{a c:List AV}{k:Bool->Prop}:wA .func (.fn f a c) k↔k false:=Iff.rfl
def qyX{k:Bool->Prop}:wA .iface .nili k↔k true:=Iff.rfl
def qB8{t:Nat}{v:AV}{k:Bool->Prop}:wA .iface (.ifc t v) k↔k false:=Iff.rfl
def qBi{x y:List AV}{k:Bool->Prop}:qdf [] x y k↔k true:=Iff.rfl
def qxy{q:PK}{qs:List PK}{u v:AV}{us vs:List AV}{k:Bool->Prop}:qdf (q::qs) (u::us) (v::vs) k↔qb3 q u v (λe=>if e=true then qdf qs us vs k else k false):=by
 show qb3 q u v (λe=>Bool.rec (motive:=λ_=>Prop) (k false) (qdf qs us vs k) e)↔_
 simp only[qfN]
@[congr] theorem qAk {q:PK}{x y:AV}{k:Bool->Prop}{mk:Prop}(_:zD=mk):qb3 q x y k=qb3 q x y k:=rfl
theorem qLK{q:IntKind}{n m:Int}{k:Bool->Prop}:qb3 .i (.i q n) (.i q m) k↔evT (decide (n=m)) k:=by
 show qv (decide (q=q)) (zl (eqI n m) k)↔_;rw[qf,qmN,zi];simp[evT]
def qLL{a c:List UInt8}{k:Bool->Prop}:qb3 .s (.s a) (.s c) k↔evT (decide (a=c)) k:=by
 show zl (eqS a c) k↔_;rw[zi,qcP,show(a==c)=decide (a=c)from by rw[Bool.eq_iff_iff];simp];exact Bt
def qLJ{a c:Bool}{k:Bool->Prop}:qb3 .b (.b a) (.b c) k↔evT (a==c) k:=by
 show zl (a==c) k↔_;rw[zi];exact Bt
def qxv{rs:List RV}{k:AV->Hp->Prop}:zQ rs k .ret t h↔qa6 t h rs (λvs=>k (qaD vs) h):=Iff.rfl
def qqG{rs:List RV}{k:AV->Hp->Prop}:zQ rs k .normal t h↔qa6 t h rs (λvs=>k (qaD vs) h):=Iff.rfl
@[congr] theorem qHm {rs:List RV}{k:List AV->Prop}{mk:Prop}(_:zD=mk):qa6 t h rs k=qa6 t h rs k:=rfl
theorem qCP{k:List AV->Prop}:qa6 t h [] k↔k []:=Iff.rfl
def qCQ{n:Nat}{rs:List RV}{k:List AV->Prop}:qa6 t h (.tmp n::rs) k↔evO (t.get n) (λv=>qa6 t h rs (λvs=>k (v::vs))):=Tr.getK_iff _ _ _
def qzJ{n size:Nat}{agg:Bool}{rs:List RV}{k:List AV->Prop}:qa6 t h (.cell n size agg::rs) k↔evO (t.get n) (λv=>unP v (λb o=>if agg=true then qfG h b o size (λcs=>qa6 t h rs (λvs=>k (.agg cs::vs)))else ldK h b o (λv=>qa6 t h rs (λvs=>k (v::vs))))):=by
 refine(Tr.getK_iff _ _ _).trans (iff_of_eq (congrArg _ (funext λv=>congrArg _ ?_)))
 cases v<;>first|rfl|skip
 cases agg<;>rfl
end
section
variable {P:Program}{n:Nat}{t:Tr AV}{h:Hp}{k:AV->Hp->Prop}
section
variable {r:Nat->Nat}{m:Nat}{v v':AV}{vs vs':List AV}
def qy4:NV r m v .undef↔True:=iff_true_intro (.undef _)
def qL4{x y:Bool}:NV r m (.b x) (.b y)↔x=y:=⟨λh=>by cases h;rfl,λh=>by subst h;exact .clo _ rfl⟩
def qL5{q q':IntKind}{x y:Int}:NV r m (.i q x) (.i q' y)↔q=q'/\x=y:=⟨λh=>by cases h<;>simp_all,fun⟨h,h'⟩=>G0⟩
def qL6{x y:List UInt8}:NV r m (.s x) (.s y)↔x=y:=⟨λh=>by cases h;rfl,λh=>by subst h;exact .clo _ rfl⟩
def qCh:NV r m .nilp .nilp↔True:=iff_true_intro (.clo _ rfl)
def qCi:NV r m .nils .nils↔True:=iff_true_intro (.clo _ rfl)
def qCe:NV r m .nilf .nilf↔True:=iff_true_intro (.clo _ rfl)
def qCf:NV r m .nili .nili↔True:=iff_true_intro (.clo _ rfl)
def qCg:NV r m .nilm .nilm↔True:=iff_true_intro (.clo _ rfl)
def qKp:NV r m .e0 .e0↔True:=iff_true_intro (.clo _ rfl)
def qKs:NV r m .nz .nz↔True:=iff_true_intro (.clo _ rfl)
def qGC{x:Nat}{cs:List AV}:NV r m .e0 (.fz x cs)↔x=0/\cs=[]:=⟨λh=>by cases h<;>simp_all,fun⟨h,h'⟩=>by subst h h';exact .e0z⟩
def qy3{b' x':Nat}:NV r m .e0 (.own b' x')↔b'<m/\x'=0:=⟨λh=>by
  cases h<;>simp_all,fun⟨h1,h2⟩=>by subst h2;exact .e0own _ h1⟩
def qGH{b b' o x c x':Nat}{l:Bool}:NV r m (.sl b o x c l) (.own b' x')↔b'<m/\x=0/\c=0/\l=false/\x'=0:=⟨λh=>by
  cases h<;>simp_all,fun⟨h1,h2,h3,h4,h5⟩=>by subst h2 h3 h4 h5;exact .slz _ _ _ h1⟩
def qKr{x y:Nat}{cs ds:List AV}:NV r m (.fz x cs) (.fz y ds)↔x=y/\cs=ds:=⟨λh=>by cases h<;>simp_all,fun⟨h,h'⟩=>G0⟩
def qKt{x y:Nat}{cs ds:List AV}:NV r m (.pf cs x) (.pf ds y)↔cs=ds/\x=y:=⟨λh=>by cases h<;>simp_all,fun⟨h,h'⟩=>G0⟩
def qCj{x:Nat}{cs:List AV}:NV r m .nils (.fz x cs)↔x=0/\cs=[]:=⟨λh=>by cases h<;>simp_all,fun⟨h,h'⟩=>by subst h h';exact .nilz⟩
def qGG{b b' o o':Nat}:NV r m (.ptr b o) (.ptr b' o')↔r b'=b/\b'<m/\o=o':=⟨λh=>by
  cases h with
  | clo _ hc=>cases hc
  | ptr _ _ _ h1 h2=>exact Ab,fun⟨h1,h2,h3⟩=>by subst h3;exact .ptr _ _ _ h1 h2⟩
def qKu{b b' o o' x x' c c':Nat}{l l':Bool}:NV r m (.sl b o x c l) (.sl b' o' x' c' l')↔r b'=b/\b'<m/\o=o'/\x=x'/\c=c'/\l=l':=⟨λh=>by
  cases h with
  | clo _ hc=>cases hc
  | sl _ _ _ _ _ _ h1 h2=>exact Ae,fun⟨h1,h2,h3,h4,h5,h6⟩=>by subst h3 h4 h5 h6;exact .sl _ _ _ _ _ _ h1 h2⟩
def qGF{b b' x x':Nat}:NV r m (.own b x) (.own b' x')↔r b'=b/\b'<m/\x=x':=⟨λh=>by
  cases h with
  | clo _ hc=>cases hc
  | own _ _ _ h1 h2=>exact Ab,fun⟨h1,h2,h3⟩=>by subst h3;exact .own _ _ _ h1 h2⟩
def qvF{b' x':Nat}:NV r m .nils (.own b' x')↔b'<m/\x'=0:=⟨λh=>by
  cases h<;>simp_all,fun⟨h1,h2⟩=>by subst h2;exact .nilown _ h1⟩
def qGE{b b':Nat}:NV r m (.map b) (.map b')↔r b'=b/\b'<m:=⟨λh=>by
  cases h with
  | clo _ hc=>cases hc
  | map _ _ h1 h2=>exact Ab,fun⟨h1,h2⟩=>.map _ _ h1 h2⟩
def qKv{b b':Nat}:NV r m (.yl b) (.yl b')↔r b'=b/\b'<m:=⟨λh=>by
  cases h with
  | clo _ hc=>cases hc
  | yl _ _ h1 h2=>exact Ab,fun⟨h1,h2⟩=>.yl _ _ h1 h2⟩
def qCk:NVs r m [] []↔True:=iff_true_intro .nil
def qy5:NVs r m (v::vs) (v'::vs')↔NV r m v v'/\NVs r m vs vs':=⟨λh=>by
  cases h<;>simp_all,λh=>.cons _ _ _ _ h.1 h.2⟩
def qGB{cs cs':List AV}:NV r m (.agg cs) (.agg cs')↔NVs r m cs cs':=⟨λh=>by
  cases h with
  | clo _ hc=>exact NVs.refl D5
  | agg _ _ h1=>exact h1,λh=>.agg _ _ h⟩
def qGI{cs cs':List AV}:NV r m (.tup cs) (.tup cs')↔NVs r m cs cs':=⟨λh=>by
  cases h with
  | clo _ hc=>exact NVs.refl D5
  | tup _ _ h1=>exact h1,λh=>.tup _ _ h⟩
def qKq{f f':Nat}{a a' c c':List AV}:NV r m (.fn f a c) (.fn f' a' c')↔f=f'/\NVs r m a a'/\NVs r m c c':=⟨λh=>by
  cases h with
  | clo _ hc =>
   simp only[clo,zzB]at hc
   simp_all[NVs.refl]
  | fn _ _ _ _ _ h1 h2=>exact Ae,fun⟨h1,h2,h3⟩=>Ju⟩
def qGD{f f':Nat}:NV r m (.ifc f v) (.ifc f' v')↔f=f'/\NV r m v v':=⟨λh=>by
  cases h with
  | clo _ hc=>exact⟨rfl,.clo _ D5⟩
  | ifc _ _ _ h1=>exact Ae,fun⟨h1,h2⟩=>by subst h1;exact .ifc _ _ _ h2⟩
def qDo:TWs t r m []↔True:=Iff.rfl
def qz9{p:Nat×AV}{l:List (Nat×AV)}:TWs t r m (p::l)↔evO (t.get p.1) (λv=>NV r m v p.2)/\TWs t r m l:=Iff.rfl
def qAU:BWs h r m [] []↔True:=Iff.rfl
def qwS{b:Nat}{x:Blk}{bs:List Nat}{xs:List Blk}:BWs h r m (b::bs) (x::xs)↔BW h r m b x/\BWs h r m bs xs:=Iff.rfl
def qEW{b:Nat}{x:Blk}(hb:h.sz<=b):BW h r m b x↔True:=iff_true_intro (.inl hb)
def qAT{b:Nat}:BW h r m b .dead↔True:=iff_true_intro (.inr (.inl rfl))
def qEX{b e:Nat}{w a:Bool}{cs':List AV}(hb:b<h.sz):BW h r m b (.cells e w a cs')↔evB (h.tr.get b) (λx=>qbp x (λe0 w0 a0 cs=>e0=e/\(w=true->w0=true)/\(a=true->a0=true)/\NVs r m cs cs')):=by
 constructor
 .rintro (h1|h1|⟨e',w0,a0,cs,w',a',cs'',h1,h2,h3,h4,h5⟩|⟨es,es',h1,h2,h3⟩)
  .exact Ab
  .cases h1
  .cases h2;exact⟨_,h1,rfl,h3,h4,h5⟩
  exact Ae
 .rintro⟨x,h1,h2⟩;cases x with
  | cells e0 w0 a0 cs =>
   obtain⟨rfl,h3,h4,h5⟩:=h2;exact .inr Ag
  | dead=>exact Jn
  | map es=>exact Jn
end
def qif{b d:Nat}{l:List Nat}:rl (b::l) d 0=b:=rfl
def qMh{b d i:Nat}{l:List Nat}:rl (b::l) d (i+1)=rl l d i:=rfl
section
variable {v v':AV}{vs vs':List AV}
def qxR:Frz h v .undef↔True:=iff_true_intro (.undef _)
def qLO{x y:Bool}:Frz h (.b x) (.b y)↔x=y:=⟨λh=>by cases h;rfl,λh=>by subst h;exact .b _⟩
theorem qJR{q q':IntKind}{x y:Int}:Frz h (.i q x) (.i q' y)↔q=q'/\x=y:=⟨λh=>by cases h<;>simp_all,fun⟨h,h'⟩=>by subst h h';exact .i _ _⟩
def qLP{x y:List UInt8}:Frz h (.s x) (.s y)↔x=y:=⟨λh=>by cases h;rfl,λh=>by subst h;exact .s _⟩
def qBw:Frz h .nilp .nilp↔True:=iff_true_intro .nilp
def qBx:Frz h .nils .nils↔True:=iff_true_intro .nils
def qBt:Frz h .nilf .nilf↔True:=iff_true_intro .nilf
def qBu:Frz h .nili .nili↔True:=iff_true_intro .nili
def qBv:Frz h .nilm .nilm↔True:=iff_true_intro .nilm
def qJP:Frz h .e0 .e0↔True:=iff_true_intro .e0
def qJS:Frz h .nz .nz↔True:=iff_true_intro .nz
def qFJ{x:Nat}{cs:List AV}:Frz h .e0 (.fz x cs)↔x=0/\cs=[]:=⟨λh=>by cases h<;>simp_all,fun⟨h,h'⟩=>by subst h h';exact .e0z⟩
def qJQ{x y:Nat}{cs ds:List AV}:Frz h (.fz x cs) (.fz y ds)↔x=y/\cs=ds:=⟨λh=>by cases h<;>simp_all,fun⟨h,h'⟩=>by subst h h';exact .fz _ _⟩
def qJT{x y:Nat}{cs ds:List AV}:Frz h (.pf cs x) (.pf ds y)↔cs=ds/\x=y:=⟨λh=>by cases h<;>simp_all,fun⟨h,h'⟩=>by subst h h';exact .pf _ _⟩
def qBy{x:Nat}{cs:List AV}:Frz h .nils (.fz x cs)↔x=0/\cs=[]:=⟨λh=>by cases h<;>simp_all,fun⟨h,h'⟩=>by subst h h';exact .nilz⟩
theorem qgy:Frzs h [] []↔True:=iff_true_intro .nil
theorem qa8:Frzs h (v::vs) (v'::vs')↔Frz h v v'/\Frzs h vs vs':=⟨λh=>by
  cases h<;>simp_all,λh=>.cons _ _ _ _ h.1 h.2⟩
def qFI{cs cs':List AV}:Frz h (.agg cs) (.agg cs')↔Frzs h cs cs':=⟨λh=>by cases h<;>grind,λh=>.agg _ _ h⟩
def qFL{cs cs':List AV}:Frz h (.tup cs) (.tup cs')↔Frzs h cs cs':=⟨λh=>by cases h<;>grind,λh=>.tup _ _ h⟩
def qxS{f f':Nat}{a a' c c':List AV}:Frz h (.fn f a c) (.fn f' a' c')↔f=f'/\Frzs h a a'/\Frzs h c c':=⟨λh=>by
  cases h<;>simp_all,fun⟨h1,h2,h3⟩=>Ju⟩
def qFK{f f':Nat}:Frz h (.ifc f v) (.ifc f' v')↔f=f'/\Frz h v v':=⟨λh=>by
  cases h<;>simp_all,fun⟨h1,h2⟩=>by subst h1;exact .ifc _ _ _ h2⟩
def qxP{b x y:Nat}{cs':List AV}:Frz h (.own b x) (.fz y cs')↔x=y/\evB (h.tr.get b) (λz=>qbp z (λ_ w _ ys=>w=true/\(x=0->ys=[])/\Frzs h ys cs')):=by
 constructor
 .intro hh;cases hh with
  | own _ _ e af ys _ hb h0 h1=>exact⟨rfl,_,hb,rfl,h0,h1⟩
 .rintro⟨rfl,z,h1,h2⟩;cases z with
  | cells e w af ys =>
   obtain⟨rfl,h3,h4⟩:=h2;exact .own _ _ e af ys _ h1 h3 h4
  | dead=>exact Jn
  | map es=>exact Jn
def qxQ{b x y:Nat}{cs':List AV}:Frz h (.ptr b x) (.pf cs' y)↔x=y/\evB (h.tr.get b) (λz=>qbp z (λ_ w _ ys=>w=true/\Frzs h ys cs')):=by
 constructor
 .intro hh;cases hh with
  | ptr _ _ e af ys _ hb h1=>exact⟨rfl,_,hb,rfl,h1⟩
 .rintro⟨rfl,z,h1,h2⟩;cases z with
  | cells e w af ys =>
   obtain⟨rfl,h4⟩:=h2;exact .ptr _ _ e af ys _ h1 h4
  | dead=>exact Jn
  | map es=>exact Jn
def Frz.cut{b o x c:Nat}{l:Bool}{y:Nat}{cs':List AV}(esz:Nat)(hx:x=y)(hc:x<=c)(hg:evB (h.tr.get b) (λz=>qbp z (λ_ w _ cs=>w=true/\o+x*esz<=cs.length/\Frzs h ((cs.drop o).take (x*esz)) cs'))):Frz h (.sl b o x c l) (.fz y cs'):=by
 subst hx;obtain⟨z,h1,h2⟩:=hg;cases z with
 | cells e w af cs =>
  obtain⟨rfl,h3,h4⟩:=h2;exact .sl _ _ _ _ _ e af cs (x*esz) _ h1 hc h3 (λhh=>by rw[hh]at hc;exact Ae) h4
 | dead=>exact Jn
 | map es=>exact Jn
end
mutual
theorem Frz.self:∀{v:AV},clo v=true->Frz h v v
 | .undef,_=>.undef _
 | .b _,_=>.b _
 | .i _ _,_=>.i _ _
 | .s _,_=>.s _
 | .nilp,_=>.nilp
 | .ptr _ _,hc=>Cb
 | .nils,_=>.nils
 | .sl _ _ _ _ _,hc=>Cb
 | .nilf,_=>.nilf
 | .fn _ _ _,hc=>by
  simp only[clo,zzB]at hc;exact .fn _ _ _ _ _ (Frzs.self hc.1) (Frzs.self hc.2)
 | .nili,_=>.nili
 | .ifc _ _,hc=>.ifc _ _ _ (Frz.self D5)
 | .agg _,hc=>.agg _ _ (Frzs.self D5)
 | .tup _,hc=>.tup _ _ (Frzs.self D5)
 | .nilm,_=>.nilm
 | .map _,hc=>Cb
 | .fz _ _,_=>.fz _ _
 | .pf _ _,_=>.pf _ _
 | .e0,_=>.e0
 | .nz,_=>.nz
 | .own _ _,hc=>Cb
 | .sym _,hc=>Cb
 | .yl _,hc=>Cb
 | .lp _,hc=>Cb
theorem Frzs.self:∀{vs:List AV},qt vs=true->Frzs h vs vs
 | [],_=>.nil
 | v::vs,hc=>by
  simp only[qt,zzB]at hc;exact .cons _ _ _ _ (Frz.self hc.1) (Frzs.self hc.2)
end
@[congr] theorem qFY {kd:Option IntKind}{i:AV}{p:Prop}{mk:Prop}(_:zD=mk):qlY qV kd i p=qlY qV kd i p:=rfl
@[congr] theorem qGe {b:Nat}{k:List (AV×AV)->Prop}{mk:Prop}(_:zD=mk):qk8 h b k=qk8 h b k:=rfl
@[congr] theorem qBP {es:List (AV×AV)}{p:Prop}{mk:Prop}(_:zD=mk):qfA es p=qfA es p:=rfl
theorem qJ5{a:List UInt8}{p:Prop}:qlY qV none (.s a) p↔p:=Iff.rfl
def qJ4{q:IntKind}{z:Int}{p:Prop}:qlY qV (some q) (.i q z) p↔p:=by
 show qv (decide (q=q)) p↔p;rw[qf];simp
def qvi{p:Prop}:qfA [] p↔p:=Iff.rfl
def qBS{a:List UInt8}{v:AV}{es:List (AV×AV)}{p:Prop}:qfA ((.s a,v)::es) p↔p:=Iff.rfl
def qBR{q:IntKind}{z:Int}{v:AV}{es:List (AV×AV)}{p:Prop}:qfA ((.i q z,v)::es) p↔p:=Iff.rfl
def qrj(x:Blk)(k:List (AV×AV)->Prop):Prop:=match x with | .map es=>k es|_=>False
@[congr] theorem qDY {x x':Blk}{k:List (AV×AV)->Prop}{mk:Prop}(_:zD=mk) (h:x=x'):qrj x k=qrj x' k:=Ii
theorem qoB{es:List (AV×AV)}{k:List (AV×AV)->Prop}:qrj (.map es) k↔k es:=Iff.rfl
def qKf{b:Nat}{k:List (AV×AV)->Prop}:qk8 h b k↔evB (h.tr.get b) (λx=>qrj x (λes=>qfA es (k es))):=by
 unfold qk8;refine(Tr.getK_iff _ _ _).trans (iff_of_eq (congrArg _ (funext λx=>congrArg _ ?_)))
 cases x<;>rfl
def qqK{i:AV}{k:Option AV->Prop}:qdl qV i [] k↔k none:=Iff.rfl
def qFC{i a:List UInt8}{v:AV}{es:List (AV×AV)}{k:Option AV->Prop}:qdl qV (.s i) ((.s a,v)::es) k↔if i=a then k (some v)else qdl qV (.s i) es k:=by
 show zl (eqS i a) (λr=>Bool.rec (motive:=λ_=>Prop) (qdl qV (.s i) es k) (k (some v)) r)↔_
 rw[zi,qfN,qcP];simp
def qxH{q:IntKind}{i a:Int}{v:AV}{es:List (AV×AV)}{k:Option AV->Prop}:qdl qV (.i q i) ((.i q a,v)::es) k↔if i=a then k (some v)else qdl qV (.i q i) es k:=by
 show qv (decide (q=q)) (zl (eqI i a) (λr=>Bool.rec (motive:=λ_=>Prop) (qdl qV (.i q i) es k) (k (some v)) r))↔_
 rw[qf,zi,qfN,qmN];simp
def qud{i v:AV}{k:List (AV×AV)->Prop}:qik qV i v [] k↔k [(i,v)]:=Iff.rfl
def qKX{i a:List UInt8}{u v:AV}{es:List (AV×AV)}{k:List (AV×AV)->Prop}:qik qV (.s i) u ((.s a,v)::es) k↔if i=a then k ((.s i,u)::es)else qik qV (.s i) u es (λl=>k ((.s a,v)::l)):=by
 show zl (eqS i a) (λr=>Bool.rec (motive:=λ_=>Prop) (qik qV (.s i) u es (λl=>k ((.s a,v)::l))) (k ((.s i,u)::es)) r)↔_
 rw[zi,qfN,qcP];simp
def qEl{q:IntKind}{i a:Int}{u v:AV}{es:List (AV×AV)}{k:List (AV×AV)->Prop}:qik qV (.i q i) u ((.i q a,v)::es) k↔if i=a then k ((.i q i,u)::es)else qik qV (.i q i) u es (λl=>k ((.i q a,v)::l)):=by
 show qv (decide (q=q)) (zl (eqI i a) (λr=>Bool.rec (motive:=λ_=>Prop) (qik qV (.i q i) u es (λl=>k ((.i q a,v)::l))) (k ((.i q i,u)::es)) r))↔_
 rw[qf,zi,qfN,qmN];simp
@[congr] theorem qED {ok:Bool}{z:AV}{v v':Option AV}{k:AV->Prop}{mk:Prop}(_:zD=mk) (h:v=v'):qiG ok z v k=qiG ok z v' k:=Ii
theorem qww{z:AV}{k:AV->Prop}:qiG false z none k↔k z:=Iff.rfl
def qun{z:AV}{k:AV->Prop}:qiG true z none k↔k (.tup [z,.b false]):=Iff.rfl
def qqe{z v:AV}{k:AV->Prop}:qiG false z (some v) k↔k v:=Iff.rfl
def qup{z v:AV}{k:AV->Prop}:qiG true z (some v) k↔k (.tup [v,.b true]):=Iff.rfl
def lkK(h:Hp)(ok:Bool)(zero x i:AV)(k:AV->Prop):Prop:=match x with
  | .nilm=>qiG ok zero none k
  | .map r=>qk8 h r (λes=>qdl qV i es (λv=>qiG ok zero v k))
  | _=>False
@[congr] theorem qIo {ok:Bool}{z x i:AV}{k:AV->Prop}{mk:Prop}(_:zD=mk):lkK h ok z x i k=lkK h ok z x i k:=rfl
theorem qF9{ok:Bool}{z i:AV}{k:AV->Prop}:lkK h ok z .nilm i k↔qiG ok z none k:=Iff.rfl
def qF8{ok:Bool}{z i:AV}{r:Nat}{k:AV->Prop}:lkK h ok z (.map r) i k↔qk8 h r (λes=>qdl qV i es (λv=>qiG ok z v k)):=Iff.rfl
def qzf{kd:Option IntKind}{ok:Bool}{z:AV}{x i:O}:opK qV (.lookM kd ok z x i) t h k↔evK t x (λx=>evK t i (λi=>qlY qV kd i (lkK h ok z x i (λv=>k v h)))):=Iff.rfl
def upK(h:Hp)(x i v:AV)(k:Hp->Prop):Prop:=match x with
  | .map r=>qk8 h r (λes=>qik qV i v es (λes'=>qd9 h r (.map es') k))
  | _=>False
@[congr] theorem qIP {x i v:AV}{k:Hp->Prop}{mk:Prop}(_:zD=mk):upK h x i v k=upK h x i v k:=rfl
theorem qHQ{i v:AV}{r:Nat}{k:Hp->Prop}:upK h (.map r) i v k↔qk8 h r (λes=>qik qV i v es (λes'=>qd9 h r (.map es') k)):=Iff.rfl
def qCt{kd:Option IntKind}{x i v:O}:opK qV (.updM kd x i v) t h k↔evK t x (λx=>evK t i (λi=>evK t v (λv=>qlY qV kd i (upK h x i v (λh'=>k .undef h'))))):=Iff.rfl
def qoe:qQ []=true:=rfl
theorem qje{v:AV}{vs:List AV}:qQ (v::vs)=(zM v&&qQ vs):=by
 show(Bool.rec (motive:=λ_=>Bool) false (qQ vs) (zM v):Bool)=_
 cases zM v<;>rfl
def qE7{x:Bool}:zM (.b x)=true:=rfl
def qE8{q:IntKind}{x:Int}:zM (.i q x)=true:=rfl
def qE9{x:List UInt8}:zM (.s x)=true:=rfl
def quG:zM .nilp=true:=rfl
def qxd{b o:Nat}:zM (.ptr b o)=true:=rfl
def quH:zM .nils=true:=rfl
def qA6{b o x c:Nat}{l:Bool}:zM (.sl b o x c l)=true:=rfl
def quD:zM .nilf=true:=rfl
def qA1{f:Nat}{a c:List AV}:zM (.fn f a c)=true:=rfl
def quE:zM .nili=true:=rfl
def qxa{f:Nat}{v:AV}:zM (.ifc f v)=true:=rfl
def quF:zM .nilm=true:=rfl
def qxb{b:Nat}:zM (.map b)=true:=rfl
def qA2{n:Nat}{cs:List AV}:zM (.fz n cs)=true:=rfl
def qA5{n:Nat}{cs:List AV}:zM (.pf cs n)=true:=rfl
def qA0:zM .e0=true:=rfl
def qA4:zM .nz=true:=rfl
def qxc{b n:Nat}:zM (.own b n)=true:=rfl
theorem qpm{a b:List AV}:qQ (a++b)=(qQ a&&qQ b):=by
 induction a with
 | nil=>simp[qoe]
 | cons v a ih=>grind[qje]
def quI{α:Type}{f:α->AV}{xs:List α}(h:∀x,zM (f x)=true):qQ (xs.map f)=true:=by
 induction xs with
 | nil=>rfl
 | cons v a ih=>simp_all[qje]
def qmI{α:Type}{f:α->List AV}{xs:List α}(h:∀x,qQ (f x)=true):qQ (xs.flatMap f)=true:=by
 induction xs with
 | nil=>rfl
 | cons v a ih=>grind[qpm]
theorem xO{a b:List AV}:qt (a++b)=(qt a&&qt b):=by
 induction a with
 | nil=>simp[qt]
 | cons v a ih=>simp[qt,ih,Bool.and_assoc]
def qdg{α:Type}{f:α->AV}{xs:List α}(h:∀x,clo (f x)=true):qt (xs.map f)=true:=by
 induction xs with
 | nil=>rfl
 | cons v a ih=>simp[qt,ih,h]
def jk{α:Type}{f:α->List AV}{xs:List α}(h:∀x,qt (f x)=true):qt (xs.flatMap f)=true:=by
 induction xs with
 | nil=>rfl
 | cons v a ih=>grind[xO]
def qY{α:Type}{f:α->List AV}{m:Nat}(h:∀x,(f x).length=m)(xs:List α):(xs.flatMap f).length=xs.length*m:=by
 induction xs<;>grind
def qf3{α:Type}{f:α->List AV}{m:Nat}(h:∀x,(f x).length=m):∀(xs:List α) (j:Nat),(xs.flatMap f).drop (j*m)=(xs.drop j).flatMap f
 | [],j=>by simp
 | x::xs,0=>by simp
 | x::xs,j+1=>by
  simp only[zzv,List.drop_succ_cons];rw[Nat.add_mul,Nat.one_mul,Nat.add_comm,<- List.drop_drop,List.drop_left' (h x)];exact qf3 h xs j
def qir{α:Type}{f:α->List AV}{m:Nat}(h:∀x,(f x).length=m):∀(xs:List α) (j:Nat),(xs.flatMap f).take (j*m)=(xs.take j).flatMap f
 | [],j=>by simp
 | x::xs,0=>by simp
 | x::xs,j+1=>by
  simp only[zzv,List.take_succ_cons];rw[Nat.add_mul,Nat.one_mul,Nat.add_comm (j*m),<- h x,List.take_length_add_append,h x,qir h xs j]
def zq{α:Type}{f:α->List AV}{m:Nat}(h:∀x,(f x).length=m){xs:List α}{j:Nat}{x:α}(hx:xs[j]?=some x){i:Nat}(hi:i<m):(xs.flatMap f)[j*m+i]?=(f x)[i]?:=by
 rw[<- zzp,qf3 h]
 exact A6
def qS{α:Type}{f:α->List AV}{m:Nat}(h:∀x,(f x).length=m){xs:List α}{j:Nat}{x:α}(hx:xs[j]?=some x):((xs.flatMap f).drop (j*m)).take m=f x:=by
 rw[qf3 h]
 exact A6
def SL.loop{α:Type}{x:ICode}{Q:X->Tr AV->Hp->Prop}(T:α->List (Nat×AV))(B:α->List Blk)(I:α->Prop)(μ:α->Nat)(a0:α)(src:List Nat)
  (hT:TWs t (rl src h.sz) (B a0).length (T a0)) (hB:BWs h (rl src h.sz) (B a0).length src (B a0)) (hI:(src.filter λb=>decide (b<h.sz)).Nodup) (hfl:h.fl=0) (h0:I a0)
  (step:∀a,I a->∀G:Tr AV->Hp->Prop,(∀b,I b->μ b<μ a->∀t' h',Wk 0 t' h' (mkT (T b)) (mkH 0 (B b))->G t' h')->
   V P 0 x (λe t h=>onX e (G t h) (λid=>Q (.exit id) t h) (Q .ret t h)) (mkT (T a)) (mkH 0 (B a))):SL P 0 x Q t h:=by
 have main:∀m a,μ a=m->I a->SL P 0 x Q (mkT (T a)) (mkH 0 (B a)):=by
  intro m
  induction m using Nat.strongRecOn with
  | ind m ih =>
   intro a ha hi;exact qbj (step a hi (λt h=>SL P 0 x Q t h) λb hb hlt t' h' hw=>SL.weak hw (ih (μ b) (ha ▸ hlt) b rfl hb))
 exact SL.weak (by grind[Wk.mk]) (main _ a0 rfl h0)
def qLx{b:Bool}:(b==true)=b:=by cases b<;>rfl
def qLw{b:Bool}:(b==false) = !b:=by cases b<;>rfl
def vA:=zzA @qwm (zzA @qI5 (zzA @qI8 (zzA @qEA (zzA @qI7 (zzA @qEx (zzA @qEw (zzA @qI4 (zzA @qEy (zzA @qI6 (zzA @qEz (zzA @qEt (zzA @qI3 (zzA @qwj (zzA @qwk (zzA @qwl (zzA @quf (zzA @qI2
 (zzA @qFn (zzA @qFk (zzA @qjv (zzA @qy6 (zzA @qCm (zzA @qxv (zzA @qqG (zzA @qCP (zzA @qCQ @qzJ))))))))))))))))))))))))))
def vR:=zzA @quh (zzA @qrX @qEu)
def vE:=zzA @qjR (zzA @qJO (zzA @qxD (zzA @quZ (zzA @qvM (zzA @qvO (zzA @qxZ (zzA @quU (zzA @quV (zzA @qKT (zzA @qDp (zzA @qKU (zzA @qKV (zzA @que (zzA @jK (zzA @qk1
 (zzA @qGs (zzA @qHe (zzA @qyp (zzA @qJ9 (zzA @qBW (zzA @qF4 (zzA @qJ7 (zzA @qyq (zzA @qB6 (zzA @qGo (zzA @qMm (zzA @qDc (zzA @qBd (zzA @qip (zzA @qBN @vk))))))))))))))))))))))))))))))
def vO:=zzA @qG1 (zzA @qCq (zzA @qy8 (zzA @qGQ (zzA @qy9 (zzA @qvG (zzA @qzd (zzA @qze (zzA @qzg (zzA @qvJ (zzA @qGP (zzA @qGR (zzA @qGS (zzA @qKz (zzA @qzb (zzA @qzc (zzA @qGU (zzA @qvH (zzA @qvI (zzA @qCo (zzA @qCp (zzA @qCs (zzA @qvK (zzA @qCr (zzA @qGT (zzA @qGY (zzA @qG0 (zzA @qGV (zzA @qGO (zzA @qGX (zzA @qGW (zzA @qza (zzA @qGZ
 (zzA @qvL (zzA @qCn (zzA @qC2 (zzA @qHr (zzA @qHq (zzA @qzS (zzA @qHp (zzA @qwz (zzA @qzf @qCt)))))))))))))))))))))))))))))))))))))))))
def vB:=zzA @qAN (zzA @qAM (zzA @qAJ (zzA @qAH (zzA @qAG (zzA @qAI (zzA @qAF (zzA @qAL (zzA @qAC (zzA @qAO (zzA @qAK (zzA @qER (zzA @qAD (zzA @qAP (zzA @qAE (zzA @qwF (zzA @qwK (zzA @qwE (zzA @qwJ (zzA @qwG (zzA @qwI (zzA @qwH (zzA @qHP (zzA @qHO @qLE)))))))))))))))))))))))
def vF:=zzA @qxM (zzA @qxN (zzA @qJ3 (zzA @qJ2 (zzA @qFX (zzA @qyg (zzA @qyf (zzA @qvh (zzA @ql6 (zzA @qsW (zzA @qAR (zzA @qsY (zzA @ql8 (zzA @qC7 (zzA @qKL (zzA @qKM (zzA @qHx (zzA @qHy (zzA @qHw (zzA @qEK (zzA @quX (zzA @qxA (zzA @qBZ (zzA @qKa (zzA @qKc (zzA @qKb (zzA @qGa (zzA @qKd (zzA @qLY
 (zzA @qxi (zzA @qFf (zzA @quq (zzA @qr1 (zzA @qGp (zzA @qKj (zzA @qBc (zzA @qJE (zzA @qJF (zzA @qxF (zzA @qu3 (zzA @quM (zzA @qBb (zzA @qzX (zzA @qHC (zzA @qHE (zzA @qHG (zzA @qDa (zzA @qHD (zzA @qKP (zzA @qwx (zzA @qEG (zzA @qAy (zzA @qEI (zzA @qEH
 (zzA @qyY (zzA @qCa (zzA @qGw (zzA @qyZ (zzA @qGv (zzA @qGx (zzA @qGu (zzA @qB9 (zzA @qyW (zzA @qGt (zzA @qyX (zzA @qB8 (zzA @qBi (zzA @qxy (zzA @qLK (zzA @qLL @qLJ)))))))))))))))))))))))))))))))))))))))))))))))))))))))))))))))))))))
def vM:=zzA @qJ5 (zzA @qJ4 (zzA @qvi (zzA @qBS (zzA @qBR (zzA @qoB (zzA @qKf (zzA @qqK (zzA @qFC (zzA @qxH (zzA @qud (zzA @qKX (zzA @qEl (zzA @qww (zzA @qun (zzA @qqe (zzA @qup (zzA @qF9 (zzA @qF8 @qHQ))))))))))))))))))
def vC:=zzA @qoe (zzA @qje (zzA @qE7 (zzA @qE8 (zzA @qE9 (zzA @quG (zzA @qxd (zzA @quH (zzA @qA6 (zzA @quD (zzA @qA1 (zzA @quE (zzA @qxa (zzA @quF (zzA @qxb (zzA @qA2 (zzA @qA5 (zzA @qA0 (zzA @qA4 @qxc))))))))))))))))))
def vP:=zzA @qvx (zzA @qxC (zzA @qBk (zzA @qBl (zzA @qBm (zzA @qBn (zzA @qxB (zzA @qqH (zzA @qq4 (zzA @qpl (zzA @qEj (zzA @qs5 (zzA @qLx (zzA @qLw @qfN)))))))))))))
def vW:=zzA @qKv (zzA @qy4 (zzA @qL4 (zzA @qL5 (zzA @qL6 (zzA @qCh (zzA @qCi (zzA @qCe (zzA @qCf (zzA @qCg (zzA @qKp (zzA @qKs (zzA @qGC (zzA @qy3 (zzA @qGH (zzA @qKr (zzA @qKt (zzA @qCj (zzA @qGG (zzA @qKu (zzA @qGF (zzA @qvF (zzA @qGE (zzA @qCk (zzA @qy5 (zzA @qGB (zzA @qGI (zzA @qKq (zzA @qGD
 (zzA @qDo (zzA @qz9 (zzA @qAU (zzA @qwS (zzA @qEW (zzA @qAT (zzA @qEX (zzA @qif @qMh))))))))))))))))))))))))))))))))))))
def vZ:=zzA @qxR (zzA @qLO (zzA @qJR (zzA @qLP (zzA @qBw (zzA @qBx (zzA @qBt (zzA @qBu (zzA @qBv (zzA @qJP (zzA @qJS (zzA @qFJ (zzA @qJQ (zzA @qJT (zzA @qBy (zzA @qgy (zzA @qa8 (zzA @qFI (zzA @qFL (zzA @qxS (zzA @qxQ (zzA @qFK @qxP)))))))))))))))))))))
end
section
variable {P:Program}
mutual
def flat:AV->Bool
 | .ptr _ _=>false
 | .sl _ _ _ _ _=>false
 | .map _=>false
 | .own _ _=>false
 | .fz _ _=>false
 | .pf _ _=>false
 | .sym _=>false
 | .fn _ a c=>qmT a&&qmT c
 | .ifc _ v=>flat v
 | .agg cs=>qmT cs
 | .tup cs=>qmT cs
 | .undef=>true | .b _=>true | .i _ _=>true | .s _=>true | .nilp=>true | .nils=>true | .nilf=>true | .nili=>true | .nilm=>true | .e0=>true | .nz=>true | .yl _=>false | .lp _=>true
def qmT:List AV->Bool
 | []=>true
 | v::vs=>flat v&&qmT vs
end
mutual
def VR.flat{Z Z':Ren}:∀{a:AV}{v:Value},VR σ0 Z a v->Kc.flat a=true->VR σ0 Z' a v
 | _,_,.undef v,_=>.undef v
 | _,_,.b x,_=>.b x
 | _,_,.i k n,_=>.i k n
 | _,_,.s x,_=>.s x
 | _,_,.nilp,_=>.nilp
 | _,_,.ptr b o L h,hc=>Cp
 | _,_,.nils,_=>.nils
 | _,_,.sl b o len cap c loose L h hc,hh=>by simp[Kc.flat]at hh
 | _,_,.slz b o x l L h,hh=>by simp[Kc.flat]at hh
 | _,_,.nilf,_=>.nilf
 | _,_,.fn f first cap first' cap' h1 h2,hc=>by
  simp only[Kc.flat,zzB]at hc;exact .fn _ _ _ _ _ (h1.flat hc.1) (h2.flat hc.2)
 | _,_,.nili,_=>.nili
 | _,_,.ifc t v v' h,hc=>by simp only[Kc.flat]at hc;exact .ifc _ _ _ (h.flat hc)
 | _,_,.agg cs cs' h,hc=>by simp only[Kc.flat]at hc;exact .agg _ _ (h.flat hc)
 | _,_,.tup cs cs' h,hc=>by simp only[Kc.flat]at hc;exact .tup _ _ (h.flat hc)
 | _,_,.nilm,_=>.nilm
 | _,_,.map b L h h0,hc=>Cp
 | _,_,.sym j,hc=>Cp
 | _,_,.fz n off c cs k arr hn h hs,hc=>Cp
 | _,_,.fz0 a,hc=>Cp
 | _,_,.pf off base cs k arr h hs,hc=>Cp
 | _,_,.e0 a,_=>.e0 a
 | _,_,.nz a c,_=>.nz a c
 | _,_,.own0 b a hb,hc=>Cp
 | _,_,.own b n c L h hn hc',hc=>Cp
 | _,_,.yl b L h,hc=>Cp
def VRs.flat{Z Z':Ren}:∀{a:List AV}{v:List Value},VRs σ0 Z a v->qmT a=true->VRs σ0 Z' a v
 | _,_,.nil,_=>.nil
 | _,_,.cons v vs v' vs' h hs,hc=>by
  simp only[qmT,zzB]at hc;exact .cons _ _ _ _ (h.flat hc.1) (hs.flat hc.2)
end
def Rel.bare{Z:Ren}{B:Nat->Prop}{h:Hp}{w:World}(r:Rel σ0 Z B h w):Rel σ0 ⟨λ_=>none,vD Z h w,0⟩ (low w.heap.size) H0 w :=
 ⟨Ae,Ag,Ae,Ae,Ae,Ae,Ae,(λ_ h=>h),
  (λk arr hk=>⟨Gn,Ae⟩),Ae⟩
def qc.lend{f:Nat}{vs vs':List AV}{v:AV}{h:Hp}{k:AV->Hp->Prop}(hp:qc P f vs' v)(hf:Frzs h vs vs')(hv:flat v=true)(hk:k v h):SC P f vs h k:=by
 have hp0:=hp H0 (λv' h'=>v'=v/\h'=H0) ⟨rfl,rfl⟩
 refine⟨hp0.1,λZ B w args r ha=>?_⟩
 have hcr:=hf.ok r ha;refine qcL.mono (hp0.2 ⟨λ_=>none,vD Z h w,0⟩ (low w.heap.size) w args r.bare Gc) ?_
 rintro e w' ⟨v0,v',h',Z',rfl,⟨rfl,rfl⟩,g2,g3,g4⟩;refine⟨v0,v',h,Z,rfl,hk,g2.flat hv,?_,⟨λ_ _=>rfl,zzL _,rfl,λ_ _ _=>rfl,Cn,g4.wle,g4.io,λ_ _ h=>h,λ_ _ h=>.inl h,zzL _⟩⟩
 have:=r.frz' (φ:=Z.frz) g4.pres g4.wle (λ_ _ h=>h) Ae (λk a hk=>by
  obtain⟨ty,fz,h1⟩:=(r.frz k a hk).1;refine⟨ty,fz,?_⟩;rw[g4.pres k Ag];exact h1)
 exact Ab
mutual
def shv(m:Nat):AV->AV
 | .ptr b o=>.ptr (b+m) o
 | .sl b o n c l=>.sl (b+m) o n c l
 | .map b=>.map (b+m)
 | .own b n=>.own (b+m) n
 | .yl b=>.yl (b+m)
 | .fn f a c=>.fn f (qhn m a) (qhn m c)
 | .ifc t v=>.ifc t (shv m v)
 | .agg cs=>.agg (qhn m cs)
 | .tup cs=>.tup (qhn m cs)
 | v=>v
def qhn(m:Nat):List AV->List AV
 | []=>[]
 | v::vs=>shv m v::qhn m vs
end
theorem qrJ{m:Nat}:∀{vs:List AV}{j:Nat},(qhn m vs)[j]?=(vs[j]?).map (shv m)
 | [],j=>by simp[qhn]
 | v::vs,0=>by simp[qhn]
 | v::vs,j+1=>by simpa[qhn]using qrJ (vs:=vs) (j:=j)
theorem qfo{m:Nat}:∀{vs:List AV},(qhn m vs).length=vs.length
 | []=>rfl
 | v::vs=>by simp[qhn,qfo (vs:=vs)]
mutual
theorem qt5{m:Nat}:∀{v:AV},clo v=true->shv m v=v
 | .ptr _ _,h=>F1
 | .sl _ _ _ _ _,h=>F1
 | .map _,h=>F1
 | .own _ _,h=>F1
 | .fn f a c,h=>by
  simp only[clo,zzB]at h;simp only[shv,xw h.1,xw h.2]
 | .ifc t v,h=>by
  simp only[clo]at h;simp only[shv,qt5 h]
 | .agg cs,h=>Im
 | .tup cs,h=>Im
 | .undef,_=>rfl
 | .b _,_=>rfl
 | .i _ _,_=>rfl
 | .s _,_=>rfl
 | .nilp,_=>rfl
 | .nils,_=>rfl
 | .nilf,_=>rfl
 | .nili,_=>rfl
 | .nilm,_=>rfl
 | .sym _,h=>F1
 | .fz _ _,_=>rfl
 | .pf _ _,_=>rfl
 | .e0,_=>rfl
 | .nz,_=>rfl
 | .yl _,h=>F1
 | .lp _,_=>rfl
theorem xw{m:Nat}:∀{vs:List AV},qt vs=true->qhn m vs=vs
 | [],_=>rfl
 | v::vs,h=>by
  simp only[qt,zzB]at h;simp only[qhn,qt5 h.1,xw h.2]
end
def she(m:Nat)(es:List (AV×AV)):List (AV×AV):=es.map λe=>(shv m e.1,shv m e.2)
def qt1{m:Nat}:she m []=[]:=rfl
def qrI{m:Nat}{a b:AV}{es:List (AV×AV)}:she m ((a,b)::es)=(shv m a,shv m b)::she m es:=rfl
def shb(m:Nat):Blk->Blk
 | .cells e w a cs=>.cells e w a (qhn m cs)
 | .dead=>.dead
 | .map es=>.map (she m es)
def qam(h:Hp):List Blk->Hp
 | []=>h
 | x::xs=>qam (h.push x) xs
def qgj:∀{bs:List Blk}{h:Hp},(qam h bs).sz=h.sz+bs.length
 | [],_=>rfl
 | x::xs,h=>by
  show(qam (h.push x) xs).sz=_;rw[qgj];simp[Hp.push];exact Ab
def qid:∀{bs:List Blk}{h:Hp},(qam h bs).fl=h.fl
 | [],_=>rfl
 | x::xs,h=>by
  show(qam (h.push x) xs).fl=_;rw[qid];rfl
theorem qbV:∀{bs:List Blk}{h:Hp}{b:Nat},(qam h bs).tr.get b=if b<h.sz then h.tr.get b else if b<h.sz+bs.length then bs[b-h.sz]? else h.tr.get b
 | [],h,b=>by simp[qam];exact Ab
 | x::xs,h,b=>by
  show(qam (h.push x) xs).tr.get b=_;rw[qbV];simp only[Hp.push,zz4,zze]
  exact Ag
def Ren.join(Z Z2:Ren)(m l:Nat):Ren:=⟨λb=>if b<m then Z b else Z2 (b-m),Z2.frz,m+l⟩
theorem qmg{Z Z2:Ren}{m l b:Nat}(h:b<m):Z.join Z2 m l b=Z b:=by simp only[Ren.join];rw[if_pos h]
def qgF{Z Z2:Ren}{m l b:Nat}:Z.join Z2 m l (b+m)=Z2 b:=by simp only[Ren.join];rw[if_neg Ab,Nat.add_sub_cancel]
mutual
theorem VR.sh{Z Z2:Ren}{m l:Nat}(hl:Z2.n<=l):∀{v:AV}{x:Value},VR σ0 Z2 v x->VR σ0 (Z.join Z2 m l) (shv m v) x
 | _,_,.undef v=>.undef v
 | _,_,.b x=>.b x
 | _,_,.i k n=>.i k n
 | _,_,.s x=>.s x
 | _,_,.nilp=>.nilp
 | _,_,.ptr b o L h=>.ptr _ _ L Es
 | _,_,.nils=>.nils
 | _,_,.sl b o len cap c loose L h hc=>.sl _ _ _ _ _ _ L Es hc
 | _,_,.slz b o x l' L h=>.slz _ _ _ _ L Es
 | _,_,.nilf=>.nilf
 | _,_,.fn f first cap first' cap' h1 h2=>.fn _ _ _ _ _ (VRs.sh hl h1) (VRs.sh hl h2)
 | _,_,.nili=>.nili
 | _,_,.ifc t v v' h=>.ifc _ _ _ (VR.sh hl h)
 | _,_,.agg cs cs' h=>.agg _ _ (VRs.sh hl h)
 | _,_,.tup cs cs' h=>.tup _ _ (VRs.sh hl h)
 | _,_,.nilm=>.nilm
 | _,_,.map b L h h0=>.map _ L Es h0
 | _,_,.sym j=>.sym j
 | _,_,.fz n off c cs k arr hn h hs=>.fz n off c cs k arr hn h hs
 | _,_,.fz0 a=>.fz0 a
 | _,_,.pf off base cs k arr h hs=>.pf off base cs k arr h hs
 | _,_,.e0 a=>.e0 a
 | _,_,.nz a c=>.nz a c
 | _,_,.own0 b a hb=>.own0 _ _ (by show b+m<m+l;exact Ab)
 | _,_,.own b n c L h hn hc'=>.own _ _ _ L Es hn hc'
 | _,_,.yl b L h=>.yl _ L Es
theorem VRs.sh{Z Z2:Ren}{m l:Nat}(hl:Z2.n<=l):∀{v:List AV}{x:List Value},VRs σ0 Z2 v x->VRs σ0 (Z.join Z2 m l) (qhn m v) x
 | _,_,.nil=>.nil
 | _,_,.cons v vs v' vs' h hs=>.cons _ _ _ _ (VR.sh hl h) (VRs.sh hl hs)
end
def qC4{m:Nat}{r:Loop}{ts:List (Nat×AV)}:she m (zV r ts)=zV r (ts.map λp=>(p.1,shv m p.2)):=by simp[she,zV,shv]
theorem qbY.sh{Z Z2:Ren}{m l:Nat}(hl:Z2.n<=l){es:List (AV×AV)}{o:Obj}(h:qbY σ0 Z2 es o):qbY σ0 (Z.join Z2 m l) (she m es) o:=by
 rcases h with⟨h0,vs,clk,h1,h2,h3⟩|⟨a,n,rfl,h2⟩|⟨r,rq,ts,rfl,h2,hk2,h3⟩
 .refine .inl ⟨λe he=>?_,vs,clk,h1,by simp[she,h2],λj e he=>?_⟩
  .cases es with
   | nil=>simp[she]at he
   | cons e0 es =>
    simp[she]at he;subst he;have:=h0 e0 rfl;cases e0 with
    | mk k v=>cases k<;>first|(simp[shv];done)|exact absurd rfl this.1|simp_all
  .simp only[she,zzo]at he
   grind[VR.sh]
 .exact .inr (.inl ⟨a,n,rfl,h2⟩)
 .refine .inr (.inr ⟨r,rq,_,qC4,h2,hk2,λp hp=>?_⟩)
  grind[VR.sh]
def Rel.joinH{Z Z2:Ren}{B:Nat->Prop}{h:Hp}{w w1:World}{bs:List Blk}(r:Rel σ0 Z B h w)(r2:Rel σ0 Z2 (low w.heap.size) (mkH 0 bs) w1)(hp:∀k,k<w.heap.size->w1.heap[k]?=w.heap[k]?)(hw:w.heap.size<=w1.heap.size)
  (f1:∀k a,Z.frz k=some a->Z2.frz k=some a) (f2:∀k a,Z2.frz k=some a->Z.frz k=some a\/w.heap.size<=k) :
  Rel σ0 (Z.join Z2 h.sz bs.length) B (qam h (bs.map (shb h.sz))) w1:=by
 have r1:Rel σ0 ⟨Z.loc,Z2.frz,Z.n⟩ B h w1:=(by grind[Rel.frz',Rel.frz]);have n2:Z2.n<=bs.length:=r2.dn.1
 have le1:Ren.le ⟨Z.loc,Z2.frz,Z.n⟩ (Z.join Z2 h.sz bs.length) :=
  ⟨by grind[qmg,Rel.dom],λ_ _ h=>h,zzg r.dn.1 (Nat.le_add_right _ _)⟩
 -- a block: old,or new
 have split:∀b L,Z.join Z2 h.sz bs.length b=some L->(b<h.sz/\Z b=some L/\(qam h (bs.map (shb h.sz))).tr.get b=h.tr.get b) \/
   ∃c,b=c+h.sz/\Z2 c=some L/\(qam h (bs.map (shb h.sz))).tr.get b=((mkH 0 bs).tr.get c).map (shb h.sz)/\w.heap.size<=L.blk:=by
  intro b L hb
  by_cases hlt:b<h.sz
  .rw[qmg hlt]at hb
   simp_all[qbV]
  .obtain⟨c,rfl⟩:∃c,b=c+h.sz:=⟨b-h.sz,Ab⟩
   rw[qgF]at hb;have hc:c<bs.length:=r2.dom c L hb;refine .inr ⟨c,rfl,hb,?_,Nat.not_lt.1 (r2.flr c L hb (zzu _))⟩;rw[qbV,if_neg hlt,if_pos Ag,jq,Nat.add_sub_cancel,zzo]
 have oldlt:∀b L x,Z b=some L->h.tr.get b=some x->x≠.dead->L.blk<w.heap.size:=λb L x h1 h2 h3=>r.blk_lt b L h1 x h2 h3
 have shd:∀{x y:Blk},(some x).map (shb h.sz)=some y->y≠.dead->x≠.dead:=by
  intro x y h1 h2 h3;subst h3;simp[shb]at h1;exact Ae
 have shc:∀{o:Option Blk}{e:Nat}{w a:Bool}{cs:List AV},o.map (shb h.sz)=some (.cells e w a cs)->∃cs0,o=some (.cells e w a cs0)/\cs=qhn h.sz cs0:=by
  intro o e w a cs ho;cases o with
  | none=>exact Ag
  | some x =>
   cases x with
   | cells e' w' a' cs'=>simp[shb]at ho;exact Ae
   | dead=>exact Ag
   | map es=>simp[shb]at ho
 have shm:∀{o:Option Blk}{es:List (AV×AV)},o.map (shb h.sz)=some (.map es)->∃es0,o=some (.map es0)/\es=she h.sz es0:=by
  intro o es ho;cases o with
  | none=>exact Ag
  | some x =>
   cases x with
   | cells e' w' a' cs'=>simp[shb]at ho
   | dead=>exact Ag
   | map es'=>simp[shb]at ho;exact Ag
 have shn:∀{o:Option Blk}{y:Blk},o.map (shb h.sz)=some y->y≠.dead->∃x,o=some x/\x≠.dead:=by
  intro o y ho hy;cases o<;>grind
 refine⟨λb L hb=>?_,?_,?_,?_,?_,?_,?_,qgs r.base hw,?_,?_⟩
 .rw[qgj,zzz];rcases split b L hb with⟨h1,_⟩|⟨c,rfl,h1,_⟩
  .omega
  .have:c<bs.length:=r2.dom c L h1;omega
 .intro b L e wf af cs hb hg;rcases split b L hb with⟨h1,h2,h3⟩|⟨c,rfl,h2,h3,_⟩
  .rw[h3]at hg;obtain⟨q1,c,ty,fz,q2,q3,q4,q5,q6⟩:=r1.cells b L e wf af cs h2 hg
   grind[VR.mono]
  .rw[h3]at hg;obtain⟨cs0,g1,rfl⟩:=shc hg;obtain⟨q1,c',ty,fz,q2,q3,q4,q5,q6⟩:=r2.cells c L e wf af cs0 h2 g1
   grind[qfo,qrJ,VR.sh]
 .intro b L es hb hg;rcases split b L hb with⟨h1,h2,h3⟩|⟨c,rfl,h2,h3,_⟩
  .rw[h3]at hg;obtain⟨q1,o,q2,q3⟩:=r1.maps b L es h2 hg;exact En
  grind[Rel.maps,qbY.sh]
 .intro b L e af cs hb hg b' L' x hb' hx hd he;rcases split b L hb with⟨h1,h2,h3⟩|⟨c,rfl,h2,h3,h4⟩<;>rcases split b' L' hb' with⟨i1,i2,i3⟩|⟨c',rfl,i2,i3,i4⟩
  .rw[h3]at hg;rw[i3]at hx
   grind[Rel.excl]
  .rw[h3]at hg;have:=oldlt b L _ h2 hg (by simp);omega
  .rw[i3]at hx;have:=oldlt b' L' _ i2 hx hd;omega
  .rw[h3]at hg;rw[i3]at hx;obtain⟨cs0,g1,rfl⟩:=shc hg;obtain⟨x0,g2,g3⟩:=shn hx hd;rw[r2.excl c L e af cs0 h2 g1 c' L' x0 i2 g2 g3 he]
 .intro b L es hb hg b' L' x hb' hx hd he;rcases split b L hb with⟨h1,h2,h3⟩|⟨c,rfl,h2,h3,h4⟩
  .rw[h3]at hg
   grind[Rel.exclm]
  .rw[h3]at hg;obtain⟨es0,g1,rfl⟩:=shm hg;rcases split b' L' hb' with⟨i1,i2,i3⟩|⟨c',rfl,i2,i3,i4⟩
   .rw[i3]at hx;have:=oldlt b' L' _ i2 hx hd;omega
   .rw[i3]at hx;obtain⟨x0,g2,g3⟩:=shn hx hd;rw[r2.exclm c L es0 h2 g1 c' L' x0 i2 g2 g3 he]
 .intro b L e wf cs hb hg b' L' e' wf' af' cs' hb' hx he;rcases split b L hb with⟨h1,h2,h3⟩|⟨c,rfl,h2,h3,h4⟩<;>rcases split b' L' hb' with⟨i1,i2,i3⟩|⟨c',rfl,i2,i3,i4⟩
  .rw[h3]at hg;rw[i3]at hx;exact r.app b L e wf cs h2 hg b' L' e' wf' af' cs' i2 hx he
  .rw[h3]at hg;have:=oldlt b L _ h2 hg (by simp);omega
  .rw[i3]at hx;have:=oldlt b' L' _ i2 hx (by simp);omega
  .rw[h3]at hg;rw[i3]at hx;obtain⟨cs0,g1,rfl⟩:=shc hg;obtain⟨cs1,g2,rfl⟩:=shc hx;have q:=r2.app c L e wf cs0 h2 g1 c' L' e' wf' af' cs1 i2 g2 he;rw[qfo,qfo]
   grind
 .intro b L hb hf;rw[qid]at hf;rcases split b L hb with⟨h1,h2,h3⟩|⟨c,rfl,h2,h3,h4⟩
  .grind[Rel.flr]
  .exact qaB r.base h4
 .intro k arr hk;refine⟨(r2.frz k arr hk).1,λb L x hb hx hd=>?_⟩
  rcases split b L hb with⟨h1,h2,h3⟩|⟨c,rfl,h2,h3,h4⟩
  .rw[h3]at hx;exact(r1.frz k arr hk).2 b L x h2 hx hd
  .rw[h3]at hx;obtain⟨x0,g2,g3⟩:=shn hx hd;exact(r2.frz k arr hk).2 c L x0 h2 g2 g3
 .refine⟨?_,λb L hb=>?_⟩
  .show h.sz+bs.length<=_;rw[qgj,zzz];omega
  .rcases split b L hb with⟨_,h2,_⟩|⟨c,rfl,h2,_,_⟩
   .exact zzh (r.dn.2 b L h2) hw
   .exact r2.dn.2 c L h2
def Own(P:Program)(f:Nat)(vs:List AV)(v:AV)(bs:List Blk):Prop :=
 ∀(h:Hp) (k:AV->Hp->Prop),k (shv h.sz v) (qam h (bs.map (shb h.sz)))->SC P f vs h k
def qwh(v:AV)(bs:List Blk)(v':AV)(h':Hp):Prop:=h'.fl=0->∃src:List Nat,NV (rl src h'.sz) bs.length v' v/\BWs h' (rl src h'.sz) bs.length src bs/\(src.filter λb=>decide (b<h'.sz)).Nodup
def Own.of_SC{f:Nat}{vs:List AV}{v:AV}{bs:List Blk}(hcl:qt vs=true)(hs:SC P f vs H0 (qwh v bs)):Own P f vs v bs:=by
 intro h k hk;refine⟨hs.1,λZ B w args r ha=>?_⟩
 have hcr:=ha.crs hcl;refine qcL.mono (hs.2 ⟨λ_=>none,Z.frz,0⟩ (low w.heap.size) w args r.empty Gc) ?_
 rintro e w1 ⟨v0,v',h1,Z1,rfl,g1,g2,g3,g4⟩;obtain⟨src,s1,s2,s3⟩:=g1 g4.fl;have hw:Wk 0 (mkT [(0,v0)]) h1 (mkT [(0,v)]) (mkH 0 bs):=Wk.mk [(0,v)] bs src ⟨⟨v0,E3,s1⟩,trivial⟩ s2 s3 g4.fl
 obtain⟨Z2,t2,r2,k2⟩:=hw Z1 (low w.heap.size) w1 #[v'] (λj x hj=>by
  have:=qfi hj
  exact Ae) g3
 have hv2:VR σ0 Z2 v v':=by
  have:=(t2 0 v E3).2
  exact Ae
 have f1:∀k a,Z.frz k=some a->Z2.frz k=some a:=by grind[Kep.frz,Kept.frz]
 have f2:∀k a,Z2.frz k=some a->Z.frz k=some a\/w.heap.size<=k:=λk a hk=>(k2.fnew k a hk).elim (λhk=>(g4.fnew k a hk).imp id Nat.not_lt.1) Ab
 refine⟨_,v',_,Z.join Z2 h.sz bs.length,rfl,hk,hv2.sh r2.dn.1,Rel.joinH r r2 g4.pres g4.wle f1 f2,?_⟩;refine⟨by grind[qmg],by rw[qgj];exact Ab,qid,by grind[qbV],Cn,g4.wle,g4.io,f1,λk a hk=>(f2 k a hk).imp id (qaB r.base),?_⟩
 exact zzg r.dn.1 (Nat.le_add_right _ _)
theorem Own.mk{f:Nat}{i:IFn}{vs:List AV}{v:AV}{bs:List Blk}(hc:qdW P f i=true)(hcl:qt vs=true)(hV:V P 0 i.body (zQ i.res (qwh v bs)) (qb0 vs 0 .leaf) H0):Own P f vs v bs :=
 Own.of_SC hcl (SC.mk hc (qh hV))
def qjE(P:Program)(f:Nat)(vs':List AV)(v:AV)(bs:List Blk):Prop :=
 ∀(h:Hp) (vs:List AV) (k:AV->Hp->Prop),Frzs h vs vs'->k (shv h.sz v) (qam h (bs.map (shb h.sz)))->SC P f vs h k
def PC(P:Program)(f:Nat)(vs:List AV)(h:Hp)(k:AV->Hp->Prop):Prop:=∃v h',(∀k':AV->Hp->Prop,k' v h'->SC P f vs h k')/\k v h'
def PY(P:Program)(b:Nat)(vs:List AV)(h:Hp)(k:AV->Hp->Prop):Prop:=∃v h',(∀k':AV->Hp->Prop,k' v h'->CC P 0 (.yl b::vs) h k')/\k v h'
@[congr] theorem qIS {f:Nat}{vs vs':List AV}{h:Hp}{k:AV->Hp->Prop}{mk:Prop}(_:zD=mk) (h':vs=vs'):PC P f vs h k=PC P f vs' h k:=by rw[h']
@[congr] theorem qIT {b:Nat}{vs vs':List AV}{h:Hp}{k:AV->Hp->Prop}{mk:Prop}(_:zD=mk) (h':vs=vs'):PY P b vs h k=PY P b vs' h k:=by rw[h']
def PCC(P:Program):zZ:=λf vs h k=>∃v h',(∀k':AV->Hp->Prop,k' v h'->CC P f vs h k')/\k v h'
def qLt:LC (PCC P):=λ_ _ _ _ ⟨v,h',h1,h2⟩=>⟨v,h',h2,λ_ h3=>⟨v,h',h1,h3⟩⟩
def qwi:qdG P σ0 (PCC P):=⟨λf vs h _ ⟨_,_,h1,h2⟩=>(qfT P).1 f vs h _ (h1 _ h2),λb vs h _ ⟨_,_,h1,h2⟩=>(qfT P).2 b vs h _ (h1 _ h2)⟩
def qFm{b:Nat}{vs:List AV}{h:Hp}{k:AV->Hp->Prop}:cvF (PCC P) (.yl b) vs h k↔PY P b vs h k:=Iff.rfl
def qFl{f:Nat}{a c vs:List AV}{h:Hp}{k:AV->Hp->Prop}:cvF (PCC P) (.fn f a c) vs h k↔PC P f (a++(vs++c)) h k:=Iff.rfl
def qzk{dst:Option Nat}{f:Nat}{args:List O}{ops:List ROp}{Q:Tr AV->Hp->Prop}{t:Tr AV}{s fl:Nat}{tr:Tr Blk}:VR' (PCC P) (⟨dst,.callF f args,none⟩::ops) Q t ⟨s,fl,tr⟩↔qaq t args (λvs=>PC P f vs ⟨s,s,tr⟩ (λv h'=>qap t dst v (λt'=>VR' (PCC P) ops Q t' (h'.down fl)))):=qug
def qzl{dst:Option Nat}{f:Nat}{args:List O}{ops:List ROp}{Q:Tr AV->Hp->Prop}{t:Tr AV}{h:Hp}:VR' (PCC P) (⟨dst,.callW f args,none⟩::ops) Q t h↔qaq t args (λvs=>PC P f vs h (λv h'=>qap t dst v (λt'=>VR' (PCC P) ops Q t' h'))):=qui
def qX{ops:List ROp}{Q:Tr AV->Hp->Prop}{t:Tr AV}{h:Hp}(hr:VR' (PCC P) ops Q t h):VD P ops Q t h:=qI0 qLt qwi hr
def qc.pc{f:Nat}{vs:List AV}{v:AV}{h:Hp}{k:AV->Hp->Prop}(hp:qc P f vs v)(hk:k v h):PC P f vs h k:=⟨v,h,λk' h'=>hp h k' h',hk⟩
def qc.lendp{f:Nat}{vs vs':List AV}{v:AV}{h:Hp}{k:AV->Hp->Prop}(hp:qc P f vs' v)(hf:Frzs h vs vs')(hv:flat v=true)(hk:k v h):PC P f vs h k:=⟨v,h,λ_ h'=>qc.lend hp hf hv h',hk⟩
def qjE.pc{f:Nat}{vs vs':List AV}{v:AV}{bs:List Blk}{h:Hp}{k:AV->Hp->Prop}(hp:qjE P f vs' v bs)(hf:Frzs h vs vs')(hk:k (shv h.sz v) (qam h (bs.map (shb h.sz)))):PC P f vs h k:=⟨_,_,λk' h'=>hp h vs k' hf h',hk⟩
def Own.sc{f:Nat}{vs:List AV}{v:AV}{bs:List Blk}{h:Hp}{k:AV->Hp->Prop}(hp:Own P f vs v bs)(hk:k (shv h.sz v) (qam h (bs.map (shb h.sz)))):SC P f vs h k:=hp h k hk
def qmj{s f:Nat}{tr:Tr Blk}{x:Blk}:Hp.push ⟨s,f,tr⟩ x=⟨s+1,f,tr.set s x⟩:=rfl
def qiA{h:Hp}:qam h []=h:=rfl
def qgK{h:Hp}{x:Blk}{xs:List Blk}:qam h (x::xs)=qam (h.push x) xs:=rfl
end
end
end Go.Kc
